import PyProof.Rows.All
import Wide.All
import OpenK.AllK
import Wide.FinOn
import HandS.ForMost
import HandS.Walk
import HandS.Zip
import HandS.Exc
import HandS.ExcInit
import KE.KDictKeyed
import KE.KDictCopyH
import HandS.TupAny
import HandS.TupMul
import HandS.Wide
import HandS.IsInst
import HandS.Style
import HandS.SortInts
import HandS.Conv
import KE.GoesNew
import HandS.Defaults
import HandS.ExcOwn
import HandS.ExcIs
import HandS.ExcField
import HandS.WordsExc
import KE.KExcInit
import KE.KExcIs
import KE.KTryMore
import HandS.ExcValue
import HandS.CallSlots
import HandS.RaiseMore
import KE.KDictZip
import KE.KRevSl
import PyProof.StrLawsRepr
import HandS.SetFor
import HandS.Strs
import HandS.TryOnly
import HandS.Dict
import KE.KDictDisplayH
import KE.KDictList
import KE.SortData
import KE.KDictSum
import HandS.SortOrd
import HandS.Iter
import KE.DataMinMax
import KE.DataCmp
import KE.KDictWalk
import KE.KTupSum
import HandS.TupSets
import HandS.Deep
import PySem.Challenge.RW_middlecall_k11_spheres
set_option Elab.async false
set_option linter.all false
set_option maxRecDepth 100000
set_option maxHeartbeats 4000000
namespace DL
open PySem L2
abbrev D := PyData
/-- at a: an exception of the class at C with its dict at d -/
def exk (a C d : Addr) : HO := .ext fun h => ∃ (oe : Obj) (vs : Array Value), h.get? a = some oe ∧ Zc (.ref C) (some d) oe ∧ oe.data = .fields vs
/-- the class that a module's name holds -/
def Cls (K : PySem.W.Frag) (c : Str) (C : Addr) : Prop := PySem.W.nsIn K mainGlobals c = some (some (.ref C))
/-- the one field of each error class -/
def fldT : List (Str × Str) := [("NoPerson", "person"), ("NoPlace", "place"), ("NoNumber", "number"), ("NoDeed", "many"), ("OtherPeople", "many"), ("NotWay", "calls"), ("BadDeed", "at"), ("BadText", "text"), ("BadLine", "at"), ("Barred", "reason"), ("TooMany", "many"), ("Full", "many")]
def fld (c : Str) : Str := (fldT.lookup c).getD ""
/-- an exception as data: its class, its field -/
abbrev excD (c : Str) (d : D) : D := .dict [(.none, .str c), (.none, d)]
inductive KK where
  | lf (l : Leaf)
  | tp (ls : List Leaf)
  deriving DecidableEq
def lfD : D → Option Leaf
  | .none => some .none
  | .int i => some (.num i)
  | .bool b => some (.num (if b then 1 else 0))
  | _ => none
def lfDs : List D → Option (List Leaf)
  | [] => some []
  | d :: ds => match lfD d, lfDs ds with
    | some l, some ls => some (l :: ls)
    | _, _ => none
/-- the key that data is -/
def kkD : D → Option KK
  | .tuple ds => (lfDs ds).map .tp
  | .none => some (.lf .none)
  | .int i => some (.lf (.num i))
  | _ => none
def hL : Leaf → Int
  | .none => reduceHash 0xFCA86420
  | .num i => hashInt i
  | .text _ => 0
def hK : KK → Int
  | .lf l => hL l
  | .tp ls => reduceHash (Builtin.Tuple.tupleHashOf (ls.map hL))
def ER (x : KK × V × V) (e : DictEntry) : Prop := e.hash = hK x.1 ∧ RelV x.2.1 e.key ∧ RelV x.2.2 e.val
/-- all keys of one sort, no key twice -/
def KGood (ks : List KK) : Prop := ks.Nodup ∧ ((∀ k ∈ ks, ∃ l, k = .lf l) ∨ ∀ k ∈ ks, ∃ ls, k = .tp ls)
/-- at a: a dict with these keys (as keys, as values) and values -/
def dcO (a : Addr) (kvs : List (KK × V × V)) (dt : Array DictEntry × Nat) : HO := .ext fun h => (∃ o, h.get? a = some o ∧ o.ExactDict ∧ o.data = .dict dt.1 dt.2 ∧ Paired ER kvs dt.1.toList) ∧ (a == sysModules) = false ∧ kvs.length ≤ sizeLine ∧ KGood (kvs.map (·.1))
/-- .. whatever its entries are -/
abbrev IsDc (H : Hp) (a : Addr) (kvs : List (KK × V × V)) : Prop := ∃ dt, H a = some (dcO a kvs dt)
/-- a dict as data -/
abbrev dcD (kds : List (D × D)) : D := .dict ((.dict [], .none) :: kds)
mutual
/-- v stands for the data, by what the (frozen) heap Z tells -/
inductive Rp (K : PySem.W.Frag) (Z : Hp) : V → D → Prop
  | non : Rp K Z .non .none
  | bl (b : Bool) : Rp K Z (.bl b) (.bool b)
  | int (i : Int) : Rp K Z (.int i) (.int i)
  | str (x : Str) : Rp K Z (.str x) (.str x)
  | lst {a : Addr} {xs : List V} {ds : List D} : Z a = some (.lst xs) → RpA K Z xs ds → Rp K Z (.ref a) (.list ds)
  | scr {a : Addr} {xs : List V} {ds : List D} : SqL K Z a xs → RpA K Z xs ds → Rp K Z (.ref a) (.dict [(.list ds, .none)])
  | tup {a : Addr} {xs : List V} {ds : List D} : SqT K Z a xs → RpA K Z xs ds → Rp K Z (.ref a) (.tuple ds)
  | exc {a C dx : Addr} {c : Str} {v : V} {d : D} : Z a = some (exk a C dx) → Z dx = some (.xd [(fld c, v)]) → Cls K c C → Rp K Z v d → Rp K Z (.ref a) (.dict [(.none, .str c), (.none, d)])
  | dct {a : Addr} {kvs : List (KK × V × V)} {dt : Array DictEntry × Nat} {kds : List (D × D)} : Z a = some (dcO a kvs dt) → RpK K Z kvs kds → Rp K Z (.ref a) (.dict ((.dict [], .none) :: kds))
inductive RpA (K : PySem.W.Frag) (Z : Hp) : List V → List D → Prop
  | nil : RpA K Z [] []
  | cons {v : V} {vs : List V} {d : D} {ds : List D} : Rp K Z v d → RpA K Z vs ds → RpA K Z (v :: vs) (d :: ds)
inductive RpK (K : PySem.W.Frag) (Z : Hp) : List (KK × V × V) → List (D × D) → Prop
  | nil : RpK K Z [] []
  | cons {k : KK} {x v : V} {c d : D} {kvs : List (KK × V × V)} {kds : List (D × D)} : kkD c = some k → Rp K Z x c → Rp K Z v d → RpK K Z kvs kds → RpK K Z ((k, x, v) :: kvs) ((c, d) :: kds)
end
section
variable {K : PySem.W.Frag} {Z Z' H H' : Hp}
theorem same_rd {a : Addr} {u : HO} (e : Same Z Z') (h : Rd Z a u) : Rd Z' a u := by
  rcases h with h | ⟨o, h⟩
  · exact .inl (e _ _ h)
  · exact .inr ⟨o, e _ _ h⟩
theorem same_t {a : Addr} {xs : List V} (e : Same Z Z') (h : SqT K Z a xs) : SqT K Z' a xs := by
  rcases h with h | h
  · exact .inl (same_rd e h)
  · exact .inr h
theorem same_l {a : Addr} {xs : List V} (e : Same Z Z') (h : SqL K Z a xs) : SqL K Z' a xs := e.seq h
mutual
theorem Rp.mono (e : Same Z Z') : ∀ {v : V} {d : D}, Rp K Z v d → Rp K Z' v d
  | _, _, .non => .non
  | _, _, .bl b => .bl b
  | _, _, .int i => .int i
  | _, _, .str x => .str x
  | _, _, .lst h r => .lst (e _ _ h) (RpA.mono e r)
  | _, _, .scr h r => .scr (same_l e h) (RpA.mono e r)
  | _, _, .tup h r => .tup (same_t e h) (RpA.mono e r)
  | _, _, .exc h1 h2 h3 r => .exc (e _ _ h1) (e _ _ h2) h3 (Rp.mono e r)
  | _, _, .dct h r => .dct (e _ _ h) (RpK.mono e r)
theorem RpA.mono (e : Same Z Z') : ∀ {vs : List V} {ds : List D}, RpA K Z vs ds → RpA K Z' vs ds
  | _, _, .nil => .nil
  | _, _, .cons h r => .cons (Rp.mono e h) (RpA.mono e r)
theorem RpK.mono (e : Same Z Z') : ∀ {vs : List (KK × V × V)} {ds : List (D × D)}, RpK K Z vs ds → RpK K Z' vs ds
  | _, _, .nil => .nil
  | _, _, .cons hk h h2 r => .cons hk (Rp.mono e h) (Rp.mono e h2) (RpK.mono e r)
end
mutual
def noD : D → Bool
  | .none => true
  | .bool _ => true
  | .int _ => true
  | .str _ => true
  | .list xs => noDs xs
  | .tuple xs => noDs xs
  | .dict _ => false
def noDs : List D → Bool
  | [] => true
  | x :: xs => noD x && noDs xs
end
mutual
theorem Rp.dp : ∀ {v : V} {d : D}, Rp K Z v d → noD d = true → Dp K Z v d
  | _, _, .non, _ => .non
  | _, _, .bl b, _ => .bl b
  | _, _, .int i, _ => .int i
  | _, _, .str x, _ => .str x
  | _, _, .lst h r, n => .lst (.inl (.inl h)) (RpA.dp r (by unfold noD at n; exact n))
  | _, _, .tup h r, n => .tup h (RpA.dp r (by unfold noD at n; exact n))
  | _, _, .scr h r, n => by unfold noD at n; cases n
  | _, _, .exc h1 h2 h3 r, n => by unfold noD at n; cases n
  | _, _, .dct h r, n => by unfold noD at n; cases n
theorem RpA.dp : ∀ {vs : List V} {ds : List D}, RpA K Z vs ds → noDs ds = true → DpAll K Z vs ds
  | _, _, .nil, _ => .nil
  | _, _, .cons h r, n => by
    unfold noDs at n
    rw [Bool.and_eq_true] at n
    exact .cons (Rp.dp h n.1) (RpA.dp r n.2)
end
theorem RpA.length : ∀ {vs : List V} {ds : List D}, RpA K Z vs ds → vs.length = ds.length
  | _, _, .nil => rfl
  | _, _, .cons _ r => by rw [List.length_cons, List.length_cons, RpA.length r]
theorem RpA.get : ∀ {vs : List V} {ds : List D} {i : Nat} {d : D}, RpA K Z vs ds → ds[i]? = some d → ∃ v, vs[i]? = some v ∧ Rp K Z v d
  | _, _, _, _, .nil, h => by simp at h
  | _, _, 0, _, .cons (v := v) q _, h => ⟨v, rfl, by simp at h; subst h; exact q⟩
  | _, _, i + 1, _, .cons _ r, h => by
    obtain ⟨v, e, q⟩ := RpA.get (i := i) r (by simpa using h)
    exact ⟨v, by simpa using e, q⟩
theorem RpA.getV : ∀ {vs : List V} {ds : List D} {i : Nat} {v : V}, RpA K Z vs ds → vs[i]? = some v → ∃ d, ds[i]? = some d ∧ Rp K Z v d
  | _, _, _, _, .nil, h => by simp at h
  | _, _, 0, _, .cons (d := d) q _, h => ⟨d, rfl, by simp at h; subst h; exact q⟩
  | _, _, i + 1, _, .cons _ r, h => by
    obtain ⟨v, e, q⟩ := RpA.getV (i := i) r (by simpa using h)
    exact ⟨v, by simpa using e, q⟩
theorem RpA.append : ∀ {vs us : List V} {ds es : List D}, RpA K Z vs ds → RpA K Z us es → RpA K Z (vs ++ us) (ds ++ es)
  | _, _, _, _, .nil, s => s
  | _, _, _, _, .cons h r, s => .cons h (RpA.append r s)
theorem RpA.one {v : V} {d : D} (h : Rp K Z v d) : RpA K Z [v] [d] := .cons h .nil
theorem RpA.take : ∀ {vs : List V} {ds : List D} (n : Nat), RpA K Z vs ds → RpA K Z (vs.take n) (ds.take n)
  | _, _, 0, _ => .nil
  | _, _, _ + 1, .nil => .nil
  | _, _, n + 1, .cons h r => .cons h (RpA.take n r)
theorem RpA.drop : ∀ {vs : List V} {ds : List D} (n : Nat), RpA K Z vs ds → RpA K Z (vs.drop n) (ds.drop n)
  | _, _, 0, r => r
  | _, _, _ + 1, .nil => .nil
  | _, _, n + 1, .cons _ r => RpA.drop n r
theorem RpA.set {v : V} {d : D} (q : Rp K Z v d) : ∀ {vs : List V} {ds : List D} (n : Nat), RpA K Z vs ds → RpA K Z (vs.set n v) (ds.set n d)
  | _, _, _, .nil => .nil
  | _, _, 0, .cons _ r => .cons q r
  | _, _, n + 1, .cons h r => .cons h (RpA.set q n r)
theorem RpA.ints : ∀ (ns : List Int), RpA K Z (ns.map V.int) (ns.map PyData.int)
  | [] => .nil
  | n :: r => .cons (.int n) (RpA.ints r)
theorem RpA.of_ints : ∀ {vs : List V} {ns : List Int}, RpA K Z vs (ns.map PyData.int) → vs = ns.map V.int
  | _, [], .nil => rfl
  | _, n :: r, .cons h t => by
    cases h
    rw [List.map_cons, RpA.of_ints t]
theorem RpA.of_bools : ∀ {vs : List V} {ns : List Bool}, RpA K Z vs (ns.map PyData.bool) → vs = ns.map V.bl
  | _, [], .nil => rfl
  | _, n :: r, .cons h t => by
    cases h
    rw [List.map_cons, RpA.of_bools t]
end
/-- a slot: nothing known, shared data, a list of one's own, a dict of one's own -/
inductive Sl where
  | no
  | sh (d : D)
  | ow (ds : List D)
  | od (kds : List (D × D))
def Sl.isO : Sl → Bool
  | .ow _ => true
  | .od _ => true
  | _ => false
abbrev Rho := List Sl
/-- what an owned slot says of its object -/
def OwR (K : PySem.W.Frag) (Z : Hp) (p : Addr) (o : HO) : Sl → Prop
  | .ow ds => ∃ vs, o = .lst vs ∧ RpA K Z vs ds
  | .od kds => ∃ kvs dt, o = dcO p kvs dt ∧ RpK K Z kvs kds
  | _ => False
theorem OwR.mono {K : PySem.W.Frag} {Z Z' : Hp} {p : Addr} {o : HO} {s : Sl} (e : Same Z Z') (h : OwR K Z p o s) : OwR K Z' p o s := by
  cases s with
  | no => exact h
  | sh d => exact h
  | ow ds => obtain ⟨vs, h1, h2⟩ := h; exact ⟨vs, h1, h2.mono e⟩
  | od kds => obtain ⟨vs, dt, h1, h2⟩ := h; exact ⟨vs, dt, h1, h2.mono e⟩
/-- B: what stood at the entry (and stays); Z0: what was frozen there; Z: what is frozen now -/
structure Ok (K : PySem.W.Frag) (b0 : Option Addr) (B Z0 Z H : Hp) (σ : L2.St) (ρ : Rho) : Prop where
  len : σ.length = ρ.length
  bh : Same B H
  zh : Same Z H
  zz : Same Z0 Z
  nb : ∀ p o, Z p = some o → Z0 p = some o ∨ B p = none
  sh : ∀ (i : Nat) (d : D), ρ[i]? = some (.sh d) → ∃ v, σ[i]? = some (some v) ∧ Rp K Z v d
  own : ∀ (i : Nat) (s : Sl), ρ[i]? = some s → s.isO = true → ∃ p o, σ[i]? = some (some (.ref p)) ∧ Z p = none ∧ B p = none ∧ H p = some o ∧ OwR K Z p o s
  fix : ∀ a, b0 = some a → ∀ ds, ρ[0]? = some (.ow ds) → σ[0]? = some (some (.ref a))
  sepS : ∀ (i j : Nat) (p : Addr) (s t : Sl), ρ[i]? = some s → ρ[j]? = some t → s.isO = true → t.isO = true → σ[i]? = some (some (.ref p)) → σ[j]? = some (some (.ref p)) → i = j
/-- p is none of the owned things -/
def Apart (σ : L2.St) (ρ : Rho) (p : Addr) : Prop := ∀ (i : Nat) (s : Sl), ρ[i]? = some s → s.isO = true → σ[i]? ≠ some (some (.ref p))
section
variable {K : PySem.W.Frag} {b0 : Option Addr} {B Z0 Z H : Hp} {σ : L2.St} {ρ : Rho} {p : Addr} {o : HO}
theorem Ok.ow (h : Ok K b0 B Z0 Z H σ ρ) : ∀ (i : Nat) (ds : List D), ρ[i]? = some (.ow ds) → ∃ p vs, σ[i]? = some (some (.ref p)) ∧ Z p = none ∧ B p = none ∧ H p = some (.lst vs) ∧ RpA K Z vs ds := fun i ds e => by
  obtain ⟨p, o, h1, h2, h3, h4, vs, rfl, h5⟩ := h.own i _ e rfl
  exact ⟨p, vs, h1, h2, h3, h4, h5⟩
theorem Ok.od (h : Ok K b0 B Z0 Z H σ ρ) : ∀ (i : Nat) (ds : List (D × D)), ρ[i]? = some (.od ds) → ∃ p vs, σ[i]? = some (some (.ref p)) ∧ Z p = none ∧ B p = none ∧ IsDc H p vs ∧ RpK K Z vs ds := fun i ds e => by
  obtain ⟨p, o, h1, h2, h3, h4, vs, dt, rfl, h5⟩ := h.own i _ e rfl
  exact ⟨p, vs, h1, h2, h3, ⟨dt, h4⟩, h5⟩
/-- a new object, frozen at once -/
theorem Ok.new (h : Ok K b0 B Z0 Z H σ ρ) (hp : H p = none) : Ok K b0 B Z0 (upd Z p o) (upd H p o) σ ρ ∧ Same Z (upd Z p o) := by
  have zp : Z p = none := h.zh.free hp
  have bp : B p = none := h.bh.free hp
  have sz : Same Z (upd Z p o) := fun b x e => by rw [upd_ne (ne_of_none e zp)]; exact e
  refine ⟨⟨h.len, fun b x e => ?_, fun b x e => ?_, h.zz.trans sz, fun b x e => ?_, fun i d e => ?_, fun i s e eo => ?_, h.fix, h.sepS⟩, sz⟩
  · rw [upd_ne (ne_of_none e bp)]; exact h.bh b x e
  · by_cases hb : b = p
    · subst hb; rw [upd_same] at e ⊢; exact e
    · rw [upd_ne hb] at e ⊢; exact h.zh b x e
  · by_cases hb : b = p
    · subst hb; exact .inr bp
    · rw [upd_ne hb] at e; exact h.nb b x e
  · obtain ⟨v, e1, e2⟩ := h.sh i d e
    exact ⟨v, e1, e2.mono sz⟩
  · obtain ⟨q, x, e1, e2, e3, e4, e5⟩ := h.own i s e eo
    have nq : q ≠ p := ne_of_none e4 hp
    exact ⟨q, x, e1, by rw [upd_ne nq]; exact e2, e3, by rw [upd_ne nq]; exact e4, e5.mono sz⟩
/-- a new object, not frozen -/
theorem Ok.fresh (h : Ok K b0 B Z0 Z H σ ρ) (hp : H p = none) : Ok K b0 B Z0 Z (upd H p o) σ ρ ∧ Z p = none ∧ B p = none ∧ Apart σ ρ p := by
  have zp : Z p = none := h.zh.free hp
  have bp : B p = none := h.bh.free hp
  refine ⟨⟨h.len, fun b x e => ?_, fun b x e => ?_, h.zz, h.nb, h.sh, fun i s e eo => ?_, h.fix, h.sepS⟩, zp, bp, fun i s e eo q => ?_⟩
  · rw [upd_ne (ne_of_none e bp)]; exact h.bh b x e
  · rw [upd_ne (ne_of_none e zp)]; exact h.zh b x e
  · obtain ⟨q, x, e1, e2, e3, e4, e5⟩ := h.own i s e eo
    have nq : q ≠ p := ne_of_none e4 hp
    exact ⟨q, x, e1, e2, e3, by rw [upd_ne nq]; exact e4, e5⟩
  · obtain ⟨q', x, e1, e2, e3, e4, e5⟩ := h.own i s e eo
    rw [e1] at q
    cases q
    rw [hp] at e4
    cases e4
/-- an object that nobody else knows is frozen -/
theorem Ok.freeze (h : Ok K b0 B Z0 Z H σ ρ) (zp : Z p = none) (bp : B p = none) (ap : Apart σ ρ p) (hp : H p = some o) : Ok K b0 B Z0 (upd Z p o) H σ ρ ∧ Same Z (upd Z p o) := by
  have sz : Same Z (upd Z p o) := fun b x e => by rw [upd_ne (ne_of_none e zp)]; exact e
  refine ⟨⟨h.len, h.bh, fun b x e => ?_, h.zz.trans sz, fun b x e => ?_, fun i d e => ?_, fun i s e eo => ?_, h.fix, h.sepS⟩, sz⟩
  · by_cases hb : b = p
    · subst hb; rw [upd_same] at e; rw [← e]; exact hp
    · rw [upd_ne hb] at e; exact h.zh b x e
  · by_cases hb : b = p
    · subst hb; exact .inr bp
    · rw [upd_ne hb] at e; exact h.nb b x e
  · obtain ⟨v, e1, e2⟩ := h.sh i d e
    exact ⟨v, e1, e2.mono sz⟩
  · obtain ⟨q, x, e1, e2, e3, e4, e5⟩ := h.own i s e eo
    have nq : q ≠ p := fun z => ap i s e eo (by rw [e1, z])
    exact ⟨q, x, e1, by rw [upd_ne nq]; exact e2, e3, e4, e5.mono sz⟩
/-- an object that nobody else knows changes -/
theorem Ok.write (h : Ok K b0 B Z0 Z H σ ρ) (zp : Z p = none) (bp : B p = none) (ap : Apart σ ρ p) : Ok K b0 B Z0 Z (upd H p o) σ ρ := by
  refine ⟨h.len, fun b x e => ?_, fun b x e => ?_, h.zz, h.nb, h.sh, fun i s e eo => ?_, h.fix, h.sepS⟩
  · rw [upd_ne (ne_of_none e bp)]; exact h.bh b x e
  · rw [upd_ne (ne_of_none e zp)]; exact h.zh b x e
  · obtain ⟨q, x, e1, e2, e3, e4, e5⟩ := h.own i s e eo
    have nq : q ≠ p := fun z => ap i s e eo (by rw [e1, z])
    exact ⟨q, x, e1, e2, e3, by rw [upd_ne nq]; exact e4, e5⟩
theorem set_get {α : Type} {l : List α} {i j : Nat} {x y : α} (h : (l.set i x)[j]? = some y) : (i = j ∧ x = y) ∨ (i ≠ j ∧ l[j]? = some y) := by
  by_cases hij : i = j
  · subst hij
    by_cases hl : i < l.length
    · rw [List.getElem?_set_self hl] at h
      exact .inl ⟨rfl, Option.some.inj h⟩
    · rw [List.getElem?_eq_none (by simpa using hl)] at h
      cases h
  · rw [List.getElem?_set_ne hij] at h
    exact .inr ⟨hij, h⟩
/-- shared data goes into a slot -/
theorem Ok.put {i : Nat} {v : V} {d : D} (h : Ok K b0 B Z0 Z H σ ρ) (r : Rp K Z v d) : Ok K b0 B Z0 Z H (σ.set i (some v)) (ρ.set i (.sh d)) := by
  have hl := h.len
  refine ⟨by rw [List.length_set, List.length_set]; exact hl, h.bh, h.zh, h.zz, h.nb, fun j d' e => ?_, fun j s e eo => ?_, fun a ha ds e => ?_, fun j k q s t e1 e2 o1 o2 e3 e4 => ?_⟩
  · by_cases hij : i = j
    · subst hij
      have hi : i < ρ.length := by
        by_cases q : i < ρ.length
        · exact q
        · rw [List.getElem?_eq_none (by simpa using q)] at e; cases e
      rw [List.getElem?_set_self hi] at e
      cases e
      exact ⟨v, by rw [List.getElem?_set_self (by omega)], r⟩
    · rw [List.getElem?_set_ne hij] at e
      rw [List.getElem?_set_ne hij]
      exact h.sh j d' e
  · rcases set_get e with ⟨_, z⟩ | ⟨n, e⟩
    · subst z; cases eo
    · rw [List.getElem?_set_ne n]
      exact h.own j s e eo
  · rcases set_get e with ⟨_, z⟩ | ⟨n, e⟩
    · cases z
    · rw [List.getElem?_set_ne n]
      exact h.fix a ha ds e
  · rcases set_get e1 with ⟨_, z⟩ | ⟨n1, e1⟩
    · subst z; cases o1
    · rcases set_get e2 with ⟨_, z⟩ | ⟨n2, e2⟩
      · subst z; cases o2
      · rw [List.getElem?_set_ne n1] at e3
        rw [List.getElem?_set_ne n2] at e4
        exact h.sepS j k q s t e1 e2 o1 o2 e3 e4
/-- an own thing goes into a slot -/
theorem Ok.putS {i : Nat} {s0 : Sl} (h : Ok K b0 B Z0 Z H σ ρ) (zp : Z p = none) (bp : B p = none) (ap : Apart σ ρ p) (hp : H p = some o) (ho : s0.isO = true) (r : OwR K Z p o s0) (hf : ∀ a, b0 = some a → i = 0 → p = a) :
    Ok K b0 B Z0 Z H (σ.set i (some (.ref p))) (ρ.set i s0) := by
  have hl := h.len
  refine ⟨by rw [List.length_set, List.length_set]; exact hl, h.bh, h.zh, h.zz, h.nb, fun j d' e => ?_, fun j s e eo => ?_, fun a ha ds e => ?_, fun j k q s t e1 e2 o1 o2 e3 e4 => ?_⟩
  · rcases set_get e with ⟨_, z⟩ | ⟨n, e⟩
    · subst z; cases ho
    · rw [List.getElem?_set_ne n]
      exact h.sh j d' e
  · by_cases hij : i = j
    · subst hij
      have hi : i < ρ.length := by
        by_cases q : i < ρ.length
        · exact q
        · rw [List.getElem?_eq_none (by simpa using q)] at e; cases e
      rw [List.getElem?_set_self hi] at e
      cases e
      exact ⟨p, o, by rw [List.getElem?_set_self (by omega)], zp, bp, hp, r⟩
    · rw [List.getElem?_set_ne hij] at e
      rw [List.getElem?_set_ne hij]
      exact h.own j s e eo
  · by_cases hi0 : i = 0
    · subst hi0
      have hl0 : 0 < ρ.length := by
        by_cases q : 0 < ρ.length
        · exact q
        · rw [List.getElem?_eq_none (by rw [List.length_set]; omega)] at e; cases e
      rw [hf a ha rfl, List.getElem?_set_self (by omega)]
    · rw [List.getElem?_set_ne hi0] at e
      rw [List.getElem?_set_ne hi0]
      exact h.fix a ha ds e
  · rcases set_get e1 with ⟨i1, _⟩ | ⟨n1, e1⟩
    · rcases set_get e2 with ⟨i2, _⟩ | ⟨n2, e2⟩
      · rw [← i1, ← i2]
      · rw [List.getElem?_set_ne n2] at e4
        rcases set_get e3 with ⟨_, z⟩ | ⟨n, _⟩
        · cases z; exact absurd e4 (ap k t e2 o2)
        · exact absurd i1 n
    · rw [List.getElem?_set_ne n1] at e3
      rcases set_get e2 with ⟨i2, _⟩ | ⟨n2, e2⟩
      · rcases set_get e4 with ⟨_, z⟩ | ⟨n, _⟩
        · cases z; exact absurd e3 (ap j s e1 o1)
        · exact absurd i2 n
      · rw [List.getElem?_set_ne n2] at e4
        exact h.sepS j k q s t e1 e2 o1 o2 e3 e4
theorem Ok.putO {i : Nat} {vs : List V} {ds : List D} (h : Ok K b0 B Z0 Z H σ ρ) (zp : Z p = none) (bp : B p = none) (ap : Apart σ ρ p) (hp : H p = some (.lst vs)) (r : RpA K Z vs ds) (hf : ∀ a, b0 = some a → i = 0 → p = a) :
    Ok K b0 B Z0 Z H (σ.set i (some (.ref p))) (ρ.set i (.ow ds)) := h.putS zp bp ap hp rfl ⟨vs, rfl, r⟩ hf
theorem Ok.putD {i : Nat} {vs : List (KK × V × V)} {ds : List (D × D)} (h : Ok K b0 B Z0 Z H σ ρ) (zp : Z p = none) (bp : B p = none) (ap : Apart σ ρ p) (hp : IsDc H p vs) (r : RpK K Z vs ds) (hf : ∀ a, b0 = some a → i = 0 → p = a) :
    Ok K b0 B Z0 Z H (σ.set i (some (.ref p))) (ρ.set i (.od ds)) := by
  obtain ⟨dt, hp⟩ := hp
  exact h.putS zp bp ap hp rfl ⟨vs, dt, rfl, r⟩ hf
/-- forgetting slots -/
theorem Ok.weak {σ' : L2.St} {ρ' : Rho} (h : Ok K b0 B Z0 Z H σ ρ) (hl : σ'.length = ρ'.length) (hs : ∀ (i : Nat) (s : Sl), ρ'[i]? = some s → s = .no ∨ (ρ[i]? = some s ∧ σ'[i]? = σ[i]?)) : Ok K b0 B Z0 Z H σ' ρ' := by
  refine ⟨hl, h.bh, h.zh, h.zz, h.nb, fun j d e => ?_, fun j s e eo => ?_, fun a ha ds e => ?_, fun j k q s t e1 e2 o1 o2 e3 e4 => ?_⟩
  · rcases hs j _ e with z | ⟨z, y⟩
    · cases z
    · rw [y]; exact h.sh j d z
  · rcases hs j _ e with z | ⟨z, y⟩
    · subst z; cases eo
    · rw [y]; exact h.own j s z eo
  · rcases hs 0 _ e with z | ⟨z, y⟩
    · cases z
    · rw [y]; exact h.fix a ha ds z
  · rcases hs j _ e1 with z | ⟨z1, y1⟩
    · subst z; cases o1
    · rcases hs k _ e2 with z | ⟨z2, y2⟩
      · subst z; cases o2
      · rw [y1] at e3
        rw [y2] at e4
        exact h.sepS j k q s t z1 z2 o1 o2 e3 e4
end
end DL
namespace DL
open PySem L2
/-- a result: a value and the environment behind it; an exception of a class by its name, with its one field; nothing that is told -/
inductive R (α : Type) where
  | ok (a : α) (ρ : Rho)
  | ex (c : Str) (d : D) (ρ : Rho)
  | bad
def R.bind {α β : Type} (r : R α) (f : α → Rho → R β) : R β := match r with
  | .ok a ρ => f a ρ
  | .ex c d ρ => .ex c d ρ
  | .bad => .bad
def R.map {α β : Type} (f : α → β) (r : R α) : R β := match r with
  | .ok a ρ => .ok (f a) ρ
  | .ex c d ρ => .ex c d ρ
  | .bad => .bad
def R.lift {α : Type} (x : Option α) (ρ : Rho) : R α := match x with
  | some a => .ok a ρ
  | none => .bad
theorem R.bind_ok {α β : Type} {r : R α} {f : α → Rho → R β} {b : β} {ρ' : Rho} (h : r.bind f = .ok b ρ') : ∃ a ρ1, r = .ok a ρ1 ∧ f a ρ1 = .ok b ρ' := by
  cases r with
  | ok a ρ1 => exact ⟨a, ρ1, rfl, h⟩
  | ex c d ρ1 => cases h
  | bad => cases h
theorem R.map_ok {α β : Type} {r : R α} {f : α → β} {b : β} {ρ' : Rho} (h : r.map f = .ok b ρ') : ∃ a, r = .ok a ρ' ∧ f a = b := by
  cases r with
  | ok a ρ1 => cases h; exact ⟨a, rfl, rfl⟩
  | ex c d ρ1 => cases h
  | bad => cases h
theorem R.lift_ok {α : Type} {x : Option α} {ρ ρ' : Rho} {a : α} (h : R.lift x ρ = .ok a ρ') : x = some a ∧ ρ = ρ' := by
  cases x with
  | some b => cases h; exact ⟨rfl, rfl⟩
  | none => cases h
@[simp] theorem R.ok_bind {α β : Type} (a : α) (ρ : Rho) (f : α → Rho → R β) : (R.ok a ρ).bind f = f a ρ := rfl
@[simp] theorem R.ok_map {α β : Type} (a : α) (ρ : Rho) (f : α → β) : (R.ok a ρ).map f = .ok (f a) ρ := rfl
@[simp] theorem R.lift_some {α : Type} (a : α) (ρ : Rho) : R.lift (some a) ρ = .ok a ρ := rfl
/-- an operand: data, or the list of one's own in a slot -/
inductive Op where
  | val (d : D)
  | own (i : Nat)
def Op.res (o : Op) (ρ : Rho) : Option D := match o with
  | .val d => some d
  | .own i => match ρ[i]? with
    | some (.ow ds) => some (.list ds)
    | some (.od kds) => some (.dict ((.dict [], .none) :: kds))
    | _ => none
abbrev GE := Rho → R D
abbrev GO := Rho → R Op
abbrev GT := Rho → R Bool
abbrev GF := Rho → R (List D)
abbrev GA := Rho → R (List Op)
/-- v stands for data by H, its items by Z -/
inductive Bd (K : PySem.W.Frag) (Z H : Hp) : V → D → Prop
  | non : Bd K Z H .non .none
  | bl (b : Bool) : Bd K Z H (.bl b) (.bool b)
  | int (i : Int) : Bd K Z H (.int i) (.int i)
  | str (x : Str) : Bd K Z H (.str x) (.str x)
  | lst {a : Addr} {xs : List V} {ds : List D} : H a = some (.lst xs) → RpA K Z xs ds → Bd K Z H (.ref a) (.list ds)
  | scr {a : Addr} {xs : List V} {ds : List D} : SqL K H a xs → RpA K Z xs ds → Bd K Z H (.ref a) (.dict [(.list ds, .none)])
  | tup {a : Addr} {xs : List V} {ds : List D} : SqT K Z a xs → RpA K Z xs ds → Bd K Z H (.ref a) (.tuple ds)
  | exc {a C dx : Addr} {c : Str} {v : V} {d : D} : Z a = some (exk a C dx) → Z dx = some (.xd [(fld c, v)]) → Cls K c C → Rp K Z v d → Bd K Z H (.ref a) (.dict [(.none, .str c), (.none, d)])
  | dct {a : Addr} {kvs : List (KK × V × V)} {dt : Array DictEntry × Nat} {kds : List (D × D)} : H a = some (dcO a kvs dt) → RpK K Z kvs kds → Bd K Z H (.ref a) (.dict ((.dict [], .none) :: kds))
inductive BdA (K : PySem.W.Frag) (Z H : Hp) : List V → List D → Prop
  | nil : BdA K Z H [] []
  | cons {v : V} {vs : List V} {d : D} {ds : List D} : Bd K Z H v d → BdA K Z H vs ds → BdA K Z H (v :: vs) (d :: ds)
def OpR' (K : PySem.W.Frag) (Z : Hp) (σ : L2.St) (v : V) : Op → Prop
  | .val d => Rp K Z v d
  | .own i => σ[i]? = some (some v)
section
variable {K : PySem.W.Frag} {b0 : Option Addr} {B Z0 Z Z' H : Hp} {σ : L2.St} {ρ : Rho} {v : V} {d : D}
theorem Rp.bd (r : Rp K Z v d) (e : Same Z H) : Bd K Z H v d := by
  cases r with
  | non => exact .non
  | bl b => exact .bl b
  | int i => exact .int i
  | str x => exact .str x
  | lst h r => exact .lst (e _ _ h) r
  | scr h r => exact .scr (same_l e h) r
  | tup h r => exact .tup h r
  | exc h1 h2 h3 r => exact .exc h1 h2 h3 r
  | dct h r => exact .dct (e _ _ h) r
theorem OpR'.mono (e : Same Z Z') {o : Op} (h : OpR' K Z σ v o) : OpR' K Z' σ v o := by
  cases o with
  | val d => exact Rp.mono e h
  | own i => exact h
theorem Ok.bd (h : Ok K b0 B Z0 Z H σ ρ) {o : Op} (ho : OpR' K Z σ v o) (e : o.res ρ = some d) : Bd K Z H v d := by
  cases o with
  | val d' => cases e; exact Rp.bd ho h.zh
  | own i =>
    unfold Op.res at e
    dsimp only at e
    split at e
    · rename_i ds hi
      cases e
      obtain ⟨p, vs, e1, e2, e3, e4, e5⟩ := h.ow i ds hi
      have e6 : σ[i]? = some (some v) := ho
      rw [e1] at e6
      cases e6
      exact .lst e4 e5
    · rename_i ds hi
      cases e
      obtain ⟨p, vs, e1, e2, e3, ⟨dt, e4⟩, e5⟩ := h.od i ds hi
      have e6 : σ[i]? = some (some v) := ho
      rw [e1] at e6
      cases e6
      exact .dct e4 e5
    · cases e
end
/-- an expression that gives data -/
def DE (K : PySem.W.Frag) (t : TE) (g : GE) : Prop := ∀ b0 B Z0 Z H σ ρ d ρ' (Q : VK), Ok K b0 B Z0 Z H σ ρ → g ρ = .ok d ρ' → (∀ v H' Z', Ok K b0 B Z0 Z' H' σ ρ' → Same Z Z' → Rp K Z' v d → Q v H') → t σ H Q
/-- .. an operand -/
def DO (K : PySem.W.Frag) (t : TE) (g : GO) : Prop := ∀ b0 B Z0 Z H σ ρ o ρ' (Q : VK), Ok K b0 B Z0 Z H σ ρ → g ρ = .ok o ρ' → (∀ v H' Z', Ok K b0 B Z0 Z' H' σ ρ' → Same Z Z' → OpR' K Z' σ v o → Q v H') → t σ H Q
/-- .. a new list -/
def DF (K : PySem.W.Frag) (t : TE) (g : GF) : Prop := ∀ b0 B Z0 Z H σ ρ ds ρ' (Q : VK), Ok K b0 B Z0 Z H σ ρ → g ρ = .ok ds ρ' →
  (∀ p vs H' Z', Ok K b0 B Z0 Z' H' σ ρ' → Same Z Z' → Z' p = none → B p = none → Apart σ ρ' p → H' p = some (.lst vs) → RpA K Z' vs ds → Q (.ref p) H') → t σ H Q
/-- a test -/
def DT (K : PySem.W.Frag) (t : TT) (g : GT) : Prop := ∀ b0 B Z0 Z H σ ρ b ρ' (Q : Bool → Hp → Prop), Ok K b0 B Z0 Z H σ ρ → g ρ = .ok b ρ' → (∀ H' Z', Ok K b0 B Z0 Z' H' σ ρ' → Same Z Z' → Q b H') → t σ H Q
inductive OpA (K : PySem.W.Frag) (Z : Hp) (σ : L2.St) : List V → List Op → Prop
  | nil : OpA K Z σ [] []
  | cons {v : V} {vs : List V} {o : Op} {os : List Op} : OpR' K Z σ v o → OpA K Z σ vs os → OpA K Z σ (v :: vs) (o :: os)
/-- arguments -/
def DA (K : PySem.W.Frag) (t : TA) (g : GA) : Prop := ∀ b0 B Z0 Z H σ ρ os ρ' (Q : List V → Hp → Prop), Ok K b0 B Z0 Z H σ ρ → g ρ = .ok os ρ' → (∀ vs H' Z', Ok K b0 B Z0 Z' H' σ ρ' → Same Z Z' → OpA K Z' σ vs os → Q vs H') → t σ H Q
def resA : List Op → Rho → Option (List D)
  | [], _ => some []
  | o :: os, ρ => match o.res ρ, resA os ρ with
    | some d, some ds => some (d :: ds)
    | _, _ => none
def eC (d : D) (ρ : Rho) : R D := .ok d ρ
def eV (i : Nat) (ρ : Rho) : R D := match ρ[i]? with
  | some (.sh d) => .ok d ρ
  | _ => .bad
def oE (g : GE) (ρ : Rho) : R Op := (g ρ).map .val
def oV (i : Nat) (ρ : Rho) : R Op := match ρ[i]? with
  | some (.ow _) => .ok (.own i) ρ
  | some (.od _) => .ok (.own i) ρ
  | _ => .bad
def eL (g : GF) (ρ : Rho) : R D := (g ρ).map .list
def aNil (ρ : Rho) : R (List Op) := .ok [] ρ
def aCons (g : GO) (r : GA) (ρ : Rho) : R (List Op) := (g ρ).bind fun o ρ1 => (r ρ1).map (o :: ·)
def eOp2 {α : Type} (f : D → D → Option α) (a b : GO) (ρ : Rho) : R α := (a ρ).bind fun x ρ1 => (b ρ1).bind fun y ρ2 => match x.res ρ2, y.res ρ2 with
  | some d, some e => R.lift (f d e) ρ2
  | _, _ => .bad
def eOp1 {α : Type} (f : D → Option α) (a : GO) (ρ : Rho) : R α := (a ρ).bind fun x ρ1 => match x.res ρ1 with
  | some d => R.lift (f d) ρ1
  | _ => .bad
def eApp {α : Type} (f : List D → Option α) (as : GA) (ρ : Rho) : R α := (as ρ).bind fun os ρ1 => match resA os ρ1 with
  | some ds => R.lift (f ds) ρ1
  | none => .bad
def tstE (g : GE) (ρ : Rho) : R Bool := (g ρ).bind fun d ρ1 => match d with
  | .bool b => .ok b ρ1
  | _ => .bad
def eB (g : GT) (ρ : Rho) : R D := (g ρ).map .bool
def tNotG (g : GT) (ρ : Rho) : R Bool := (g ρ).map (!·)
def tAndG (a b : GT) (ρ : Rho) : R Bool := (a ρ).bind fun c ρ1 => if c then b ρ1 else .ok false ρ1
def tOrG (a b : GT) (ρ : Rho) : R Bool := (a ρ).bind fun c ρ1 => if c then .ok true ρ1 else b ρ1
def eAndG (a b : GE) (ρ : Rho) : R D := (a ρ).bind fun c ρ1 => match c with
  | .bool true => b ρ1
  | .bool false => .ok (.bool false) ρ1
  | _ => .bad
def eOrG (a b : GE) (ρ : Rho) : R D := (a ρ).bind fun c ρ1 => match c with
  | .bool true => .ok (.bool true) ρ1
  | .bool false => b ρ1
  | _ => .bad
def eNotG (a : GE) (ρ : Rho) : R D := (a ρ).bind fun c ρ1 => match c with
  | .bool c => .ok (.bool (!c)) ρ1
  | _ => .bad
def eIf {α : Type} (c : GT) (a b : Rho → R α) (ρ : Rho) : R α := (c ρ).bind fun k ρ1 => if k then a ρ1 else b ρ1
def Sn2 (K : PySem.W.Frag) (r : R2) (f : D → D → Option D) : Prop := ∀ b0 B Z0 Z H σ ρ x y a b c (Q : VK), Ok K b0 B Z0 Z H σ ρ → Bd K Z H x a → Bd K Z H y b → f a b = some c → (∀ v H' Z', Ok K b0 B Z0 Z' H' σ ρ → Same Z Z' → Rp K Z' v c → Q v H') → r x y H Q
def Sn2F (K : PySem.W.Frag) (r : R2) (f : D → D → Option (List D)) : Prop := ∀ b0 B Z0 Z H σ ρ x y a b c (Q : VK), Ok K b0 B Z0 Z H σ ρ → Bd K Z H x a → Bd K Z H y b → f a b = some c →
  (∀ p vs H', Ok K b0 B Z0 Z H' σ ρ → Z p = none → B p = none → Apart σ ρ p → H' p = some (.lst vs) → RpA K Z vs c → Q (.ref p) H') → r x y H Q
def Sn1 (K : PySem.W.Frag) (r : V → Hp → VK → Prop) (f : D → Option D) : Prop := ∀ b0 B Z0 Z H σ ρ x a c (Q : VK), Ok K b0 B Z0 Z H σ ρ → Bd K Z H x a → f a = some c → (∀ v H' Z', Ok K b0 B Z0 Z' H' σ ρ → Same Z Z' → Rp K Z' v c → Q v H') → r x H Q
def SnA (K : PySem.W.Frag) (r : List V → Hp → VK → Prop) (f : List D → Option D) : Prop := ∀ b0 B Z0 Z H σ ρ xs as c (Q : VK), Ok K b0 B Z0 Z H σ ρ → BdA K Z H xs as → f as = some c → (∀ v H' Z', Ok K b0 B Z0 Z' H' σ ρ → Same Z Z' → Rp K Z' v c → Q v H') → r xs H Q
def SnAF (K : PySem.W.Frag) (r : List V → Hp → VK → Prop) (f : List D → Option (List D)) : Prop := ∀ b0 B Z0 Z H σ ρ xs as c (Q : VK), Ok K b0 B Z0 Z H σ ρ → BdA K Z H xs as → f as = some c →
  (∀ p vs H', Ok K b0 B Z0 Z H' σ ρ → Z p = none → B p = none → Apart σ ρ p → H' p = some (.lst vs) → RpA K Z vs c → Q (.ref p) H') → r xs H Q
section
variable {K : PySem.W.Frag} {ta tb te : TE} {tt tu : TT} {tas : TA}
theorem de_c {v : V} {d : D} (h : ∀ Z, Rp K Z v d) : DE K (tC v) (eC d) := fun b0 B Z0 Z H σ ρ d' ρ' Q ok e q => by
  cases e
  exact q v H Z ok (Same.refl Z) (h Z)
theorem de_int {i : Int} : DE K (tC (.int i)) (eC (.int i)) := de_c fun _ => .int i
theorem de_bl {b : Bool} : DE K (tC (.bl b)) (eC (.bool b)) := de_c fun _ => .bl b
theorem de_non : DE K (tC .non) (eC .none) := de_c fun _ => .non
theorem de_v {i : Nat} : DE K (tVar i) (eV i) := fun b0 B Z0 Z H σ ρ d ρ' Q ok e q => by
  unfold eV at e
  split at e
  · rename_i d' hi
    cases e
    obtain ⟨v, e1, e2⟩ := ok.sh i _ hi
    exact ⟨v, e1, q v H Z ok (Same.refl Z) e2⟩
  · cases e
theorem do_e {g : GE} (h : DE K te g) : DO K te (oE g) := fun b0 B Z0 Z H σ ρ o ρ' Q ok e q => by
  obtain ⟨d, e1, rfl⟩ := R.map_ok e
  exact h b0 B Z0 Z H σ ρ d ρ' Q ok e1 fun v H' Z' ok' s r => q v H' Z' ok' s r
theorem do_v {i : Nat} : DO K (tVar i) (oV i) := fun b0 B Z0 Z H σ ρ o ρ' Q ok e q => by
  unfold oV at e
  split at e
  · rename_i ds hi
    cases e
    obtain ⟨p, vs, e1, _⟩ := ok.ow i ds hi
    exact ⟨.ref p, e1, q (.ref p) H Z ok (Same.refl Z) e1⟩
  · rename_i ds hi
    cases e
    obtain ⟨p, vs, e1, _⟩ := ok.od i ds hi
    exact ⟨.ref p, e1, q (.ref p) H Z ok (Same.refl Z) e1⟩
  · cases e
theorem de_l {g : GF} (h : DF K te g) : DE K te (eL g) := fun b0 B Z0 Z H σ ρ d ρ' Q ok e q => by
  obtain ⟨ds, e1, rfl⟩ := R.map_ok e
  refine h b0 B Z0 Z H σ ρ ds ρ' Q ok e1 fun p vs H' Z' ok' s zp bp ap hp r => ?_
  obtain ⟨ok2, s2⟩ := ok'.freeze zp bp ap hp
  exact q (.ref p) H' _ ok2 (s.trans s2) (.lst upd_same (r.mono s2))
theorem da_nil : DA K tNil aNil := fun b0 B Z0 Z H σ ρ os ρ' Q ok e q => by
  cases e
  exact q [] H Z ok (Same.refl Z) .nil
theorem OpA.mono {Z Z' : Hp} {σ : L2.St} (e : Same Z Z') : ∀ {vs : List V} {os : List Op}, OpA K Z σ vs os → OpA K Z' σ vs os
  | _, _, .nil => .nil
  | _, _, .cons h r => .cons (h.mono e) (OpA.mono e r)
theorem da_cons {g : GO} {r : GA} (h : DO K te g) (hr : DA K tas r) : DA K (tCons te tas) (aCons g r) := fun b0 B Z0 Z H σ ρ os ρ' Q ok e q => by
  obtain ⟨o, ρ1, e1, e2⟩ := R.bind_ok e
  obtain ⟨os', e3, rfl⟩ := R.map_ok e2
  refine h b0 B Z0 Z H σ ρ o ρ1 _ ok e1 fun v H1 Z1 ok1 s1 r1 => ?_
  exact hr b0 B Z0 Z1 H1 σ ρ1 os' ρ' _ ok1 e3 fun vs H2 Z2 ok2 s2 r2 => q (v :: vs) H2 Z2 ok2 (s1.trans s2) (.cons (r1.mono s2) r2)
theorem Ok.bdA {b0 : Option Addr} {B Z0 Z H : Hp} {σ : L2.St} {ρ : Rho} (ok : Ok K b0 B Z0 Z H σ ρ) : ∀ {vs : List V} {os : List Op} {ds : List D}, OpA K Z σ vs os → resA os ρ = some ds → BdA K Z H vs ds
  | _, _, _, .nil, e => by cases e; exact .nil
  | _, _, _, .cons h r, e => by
    unfold resA at e
    split at e
    · rename_i d ds' e1 e2
      cases e
      exact .cons (ok.bd h e1) (Ok.bdA ok r e2)
    · cases e
theorem op2_ok {α : Type} {f : D → D → Option α} {ga gb : GO} {ρ ρ' : Rho} {z : α} (e : eOp2 f ga gb ρ = .ok z ρ') : ∃ x ρ1 y a b, ga ρ = .ok x ρ1 ∧ gb ρ1 = .ok y ρ' ∧ x.res ρ' = some a ∧ y.res ρ' = some b ∧ f a b = some z := by
  obtain ⟨x, ρ1, e1, e2⟩ := R.bind_ok e
  obtain ⟨y, ρ2, e3, e4⟩ := R.bind_ok e2
  split at e4
  · rename_i d d' h1 h2
    obtain ⟨e5, rfl⟩ := R.lift_ok e4
    exact ⟨x, ρ1, y, d, d', e1, e3, h1, h2, e5⟩
  · cases e4
theorem de_op {r : R2} {f : D → D → Option D} {ga gb : GO} (sn : Sn2 K r f) (ha : DO K ta ga) (hb : DO K tb gb) : DE K (tOp r ta tb) (eOp2 f ga gb) := fun b0 B Z0 Z H σ ρ d ρ' Q ok e q => by
  obtain ⟨x, ρ1, y, a, b, e1, e2, e3, e4, e5⟩ := op2_ok e
  refine ha b0 B Z0 Z H σ ρ x ρ1 _ ok e1 fun v H1 Z1 ok1 s1 r1 => ?_
  refine hb b0 B Z0 Z1 H1 σ ρ1 y ρ' _ ok1 e2 fun u H2 Z2 ok2 s2 r2 => ?_
  exact sn b0 B Z0 Z2 H2 σ ρ' v u a b d Q ok2 (ok2.bd (r1.mono s2) e3) (ok2.bd r2 e4) e5 fun w H3 Z3 ok3 s3 r3 => q w H3 Z3 ok3 ((s1.trans s2).trans s3) r3
theorem df_op {r : R2} {f : D → D → Option (List D)} {ga gb : GO} (sn : Sn2F K r f) (ha : DO K ta ga) (hb : DO K tb gb) : DF K (tOp r ta tb) (eOp2 f ga gb) := fun b0 B Z0 Z H σ ρ d ρ' Q ok e q => by
  obtain ⟨x, ρ1, y, a, b, e1, e2, e3, e4, e5⟩ := op2_ok e
  refine ha b0 B Z0 Z H σ ρ x ρ1 _ ok e1 fun v H1 Z1 ok1 s1 r1 => ?_
  refine hb b0 B Z0 Z1 H1 σ ρ1 y ρ' _ ok1 e2 fun u H2 Z2 ok2 s2 r2 => ?_
  exact sn b0 B Z0 Z2 H2 σ ρ' v u a b d Q ok2 (ok2.bd (r1.mono s2) e3) (ok2.bd r2 e4) e5 fun p vs H3 ok3 zp bp ap hp r3 => q p vs H3 Z2 ok3 (s1.trans s2) zp bp ap hp r3
theorem op1_ok {α : Type} {f : D → Option α} {ga : GO} {ρ ρ' : Rho} {z : α} (e : eOp1 f ga ρ = .ok z ρ') : ∃ x a, ga ρ = .ok x ρ' ∧ x.res ρ' = some a ∧ f a = some z := by
  obtain ⟨x, ρ1, e1, e2⟩ := R.bind_ok e
  split at e2
  · rename_i d h1
    obtain ⟨e5, rfl⟩ := R.lift_ok e2
    exact ⟨x, d, e1, h1, e5⟩
  · cases e2
theorem de_un {r : V → Hp → VK → Prop} {f : D → Option D} {ga : GO} (sn : Sn1 K r f) (ha : DO K ta ga) : DE K (tUn r ta) (eOp1 f ga) := fun b0 B Z0 Z H σ ρ d ρ' Q ok e q => by
  obtain ⟨x, a, e1, e3, e5⟩ := op1_ok e
  refine ha b0 B Z0 Z H σ ρ x ρ' _ ok e1 fun v H1 Z1 ok1 s1 r1 => ?_
  exact sn b0 B Z0 Z1 H1 σ ρ' v a d Q ok1 (ok1.bd r1 e3) e5 fun w H3 Z3 ok3 s3 r3 => q w H3 Z3 ok3 (s1.trans s3) r3
theorem app_ok {α : Type} {f : List D → Option α} {ga : GA} {ρ ρ' : Rho} {z : α} (e : eApp f ga ρ = .ok z ρ') : ∃ os ds, ga ρ = .ok os ρ' ∧ resA os ρ' = some ds ∧ f ds = some z := by
  obtain ⟨x, ρ1, e1, e2⟩ := R.bind_ok e
  split at e2
  · rename_i d h1
    obtain ⟨e5, rfl⟩ := R.lift_ok e2
    exact ⟨x, d, e1, h1, e5⟩
  · cases e2
theorem de_cb {r : List V → Hp → VK → Prop} {f : List D → Option D} {ga : GA} (sn : SnA K r f) (ha : DA K tas ga) : DE K (tCB r tas) (eApp f ga) := fun b0 B Z0 Z H σ ρ d ρ' Q ok e q => by
  obtain ⟨x, a, e1, e3, e5⟩ := app_ok e
  refine ha b0 B Z0 Z H σ ρ x ρ' _ ok e1 fun v H1 Z1 ok1 s1 r1 => ?_
  exact sn b0 B Z0 Z1 H1 σ ρ' v a d Q ok1 (ok1.bdA r1 e3) e5 fun w H3 Z3 ok3 s3 r3 => q w H3 Z3 ok3 (s1.trans s3) r3
theorem df_cb {r : List V → Hp → VK → Prop} {f : List D → Option (List D)} {ga : GA} (sn : SnAF K r f) (ha : DA K tas ga) : DF K (tCB r tas) (eApp f ga) := fun b0 B Z0 Z H σ ρ d ρ' Q ok e q => by
  obtain ⟨x, a, e1, e3, e5⟩ := app_ok e
  refine ha b0 B Z0 Z H σ ρ x ρ' _ ok e1 fun v H1 Z1 ok1 s1 r1 => ?_
  exact sn b0 B Z0 Z1 H1 σ ρ' v a d Q ok1 (ok1.bdA r1 e3) e5 fun p vs H3 ok3 zp bp ap hp r3 => q p vs H3 Z1 ok3 s1 zp bp ap hp r3
theorem dt_B {g : GE} (h : DE K te g) : DT K (tB te) (tstE g) := fun b0 B Z0 Z H σ ρ b ρ' Q ok e q => by
  obtain ⟨d, ρ1, e1, e2⟩ := R.bind_ok e
  split at e2
  · cases e2
    refine h b0 B Z0 Z H σ ρ _ _ _ ok e1 fun v H' Z' ok' s r => ?_
    cases r
    exact ⟨_, rfl, q H' Z' ok' s⟩
  · cases e2
theorem dt_test {g : GE} (h : DE K te g) : DT K (tTest te) (tstE g) := fun b0 B Z0 Z H σ ρ b ρ' Q ok e q => by
  obtain ⟨d, ρ1, e1, e2⟩ := R.bind_ok e
  split at e2
  · cases e2
    refine h b0 B Z0 Z H σ ρ _ _ _ ok e1 fun v H' Z' ok' s r => ?_
    cases r
    exact ⟨_, rfl, q H' Z' ok' s⟩
  · cases e2
theorem dt_not {g : GT} (h : DT K tt g) : DT K (tNot tt) (tNotG g) := fun b0 B Z0 Z H σ ρ b ρ' Q ok e q => by
  obtain ⟨d, e1, rfl⟩ := R.map_ok e
  exact h b0 B Z0 Z H σ ρ d ρ' _ ok e1 fun H' Z' ok' s => q H' Z' ok' s
theorem dt_and {g k : GT} (h : DT K tt g) (h2 : DT K tu k) : DT K (tAnd tt tu) (tAndG g k) := fun b0 B Z0 Z H σ ρ b ρ' Q ok e q => by
  obtain ⟨c, ρ1, e1, e2⟩ := R.bind_ok e
  refine h b0 B Z0 Z H σ ρ c ρ1 _ ok e1 fun H1 Z1 ok1 s1 => ?_
  cases c with
  | true => exact h2 b0 B Z0 Z1 H1 σ ρ1 b ρ' Q ok1 e2 fun H2 Z2 ok2 s2 => q H2 Z2 ok2 (s1.trans s2)
  | false => cases e2; exact q H1 Z1 ok1 s1
theorem dt_or {g k : GT} (h : DT K tt g) (h2 : DT K tu k) : DT K (tOr tt tu) (tOrG g k) := fun b0 B Z0 Z H σ ρ b ρ' Q ok e q => by
  obtain ⟨c, ρ1, e1, e2⟩ := R.bind_ok e
  refine h b0 B Z0 Z H σ ρ c ρ1 _ ok e1 fun H1 Z1 ok1 s1 => ?_
  cases c with
  | true => cases e2; exact q H1 Z1 ok1 s1
  | false => exact h2 b0 B Z0 Z1 H1 σ ρ1 b ρ' Q ok1 e2 fun H2 Z2 ok2 s2 => q H2 Z2 ok2 (s1.trans s2)
theorem de_and {g k : GE} (h : DE K ta g) (h2 : DE K tb k) : DE K (tAndV ta tb) (eAndG g k) := fun b0 B Z0 Z H σ ρ d ρ' Q ok e q => by
  obtain ⟨c, ρ1, e1, e2⟩ := R.bind_ok e
  refine h b0 B Z0 Z H σ ρ c ρ1 _ ok e1 fun v H1 Z1 ok1 s1 r1 => ?_
  split at e2
  · cases r1
    exact ⟨true, rfl, h2 b0 B Z0 Z1 H1 σ ρ1 d ρ' Q ok1 e2 fun v H2 Z2 ok2 s2 r2 => q v H2 Z2 ok2 (s1.trans s2) r2⟩
  · cases r1; cases e2
    exact ⟨false, rfl, q _ H1 Z1 ok1 s1 (.bl false)⟩
  · cases e2
theorem de_or {g k : GE} (h : DE K ta g) (h2 : DE K tb k) : DE K (tOrV ta tb) (eOrG g k) := fun b0 B Z0 Z H σ ρ d ρ' Q ok e q => by
  obtain ⟨c, ρ1, e1, e2⟩ := R.bind_ok e
  refine h b0 B Z0 Z H σ ρ c ρ1 _ ok e1 fun v H1 Z1 ok1 s1 r1 => ?_
  split at e2
  · cases r1; cases e2
    exact ⟨true, rfl, q _ H1 Z1 ok1 s1 (.bl true)⟩
  · cases r1
    exact ⟨false, rfl, h2 b0 B Z0 Z1 H1 σ ρ1 d ρ' Q ok1 e2 fun v H2 Z2 ok2 s2 r2 => q v H2 Z2 ok2 (s1.trans s2) r2⟩
  · cases e2
theorem de_not {g : GE} (h : DE K ta g) : DE K (tNotV ta) (eNotG g) := fun b0 B Z0 Z H σ ρ d ρ' Q ok e q => by
  obtain ⟨c, ρ1, e1, e2⟩ := R.bind_ok e
  refine h b0 B Z0 Z H σ ρ c ρ1 _ ok e1 fun v H1 Z1 ok1 s1 r1 => ?_
  split at e2
  · cases r1; cases e2
    exact ⟨_, rfl, q _ H1 Z1 ok1 s1 (.bl _)⟩
  · cases e2
theorem de_if {c : GT} {g k : GE} (hc : DT K tt c) (h : DE K ta g) (h2 : DE K tb k) : DE K (tIf tt ta tb) (eIf c g k) := fun b0 B Z0 Z H σ ρ d ρ' Q ok e q => by
  obtain ⟨b, ρ1, e1, e2⟩ := R.bind_ok e
  refine hc b0 B Z0 Z H σ ρ b ρ1 _ ok e1 fun H1 Z1 ok1 s1 => ?_
  cases b with
  | true => exact h b0 B Z0 Z1 H1 σ ρ1 d ρ' Q ok1 e2 fun v H2 Z2 ok2 s2 r2 => q v H2 Z2 ok2 (s1.trans s2) r2
  | false => exact h2 b0 B Z0 Z1 H1 σ ρ1 d ρ' Q ok1 e2 fun v H2 Z2 ok2 s2 r2 => q v H2 Z2 ok2 (s1.trans s2) r2
def valA : List Op → Option (List D)
  | [] => some []
  | .val d :: os => (valA os).map (d :: ·)
  | _ :: _ => none
theorem valA_ok {Z : Hp} {σ : L2.St} : ∀ {vs : List V} {os : List Op} {ds : List D}, OpA K Z σ vs os → valA os = some ds → RpA K Z vs ds
  | _, _, _, .nil, e => by cases e; exact .nil
  | _, _, _, .cons (o := .val d) h r, e => by
    unfold valA at e
    obtain ⟨ds', e1, rfl⟩ := Option.map_eq_some_iff.mp e
    exact .cons h (valA_ok r e1)
  | _, _, _, .cons (o := .own i) h r, e => by cases e
def eSeq (ga : GA) (ρ : Rho) : R (List D) := (ga ρ).bind fun os ρ1 => match valA os with
  | some ds => if ds.length ≤ sizeLine then .ok ds ρ1 else .bad
  | none => .bad
def eT (g : GF) (ρ : Rho) : R D := (g ρ).map .tuple
theorem seq_ok {ga : GA} {ρ ρ' : Rho} {ds : List D} (e : eSeq ga ρ = .ok ds ρ') : ∃ os, ga ρ = .ok os ρ' ∧ valA os = some ds ∧ ds.length ≤ sizeLine := by
  obtain ⟨os, ρ1, e1, e2⟩ := R.bind_ok e
  split at e2
  · split at e2
    · cases e2
      exact ⟨os, e1, by assumption, by assumption⟩
    · cases e2
  · cases e2
theorem df_lst {ga : GA} (ha : DA K tas ga) : DF K (tLst tas) (eSeq ga) := fun b0 B Z0 Z H σ ρ d ρ' Q ok e q => by
  obtain ⟨os, e1, e2, e3⟩ := seq_ok e
  refine ha b0 B Z0 Z H σ ρ os ρ' _ ok e1 fun vs H1 Z1 ok1 s1 r1 => ?_
  have ra := valA_ok r1 e2
  refine ⟨by rw [ra.length]; exact e3, fun p hp => ?_⟩
  obtain ⟨ok2, zp, bp, ap⟩ := ok1.fresh (o := .lst vs) hp
  exact q p vs _ Z1 ok2 s1 zp bp ap upd_same ra
theorem de_tup {ga : GA} (ha : DA K tas ga) : DE K (tTup tas) (eT (eSeq ga)) := fun b0 B Z0 Z H σ ρ d ρ' Q ok e q => by
  obtain ⟨ds, e0, rfl⟩ := R.map_ok e
  obtain ⟨os, e1, e2, e3⟩ := seq_ok e0
  refine ha b0 B Z0 Z H σ ρ os ρ' _ ok e1 fun vs H1 Z1 ok1 s1 r1 => ?_
  have ra := valA_ok r1 e2
  refine ⟨by rw [ra.length]; exact e3, fun p hp => ?_⟩
  obtain ⟨ok2, s2⟩ := ok1.new (o := .tup vs) hp
  exact q (.ref p) _ _ ok2 (s1.trans s2) (.tup (.inl (.inl upd_same)) (ra.mono s2))
end
end DL
namespace DL
open PySem L2
/-- how a block ends: next, return of data, return of a new list, break, continue, an exception, nothing that is told -/
inductive O where
  | nx (ρ : Rho)
  | rt (d : D) (ρ : Rho)
  | rf (ds : List D) (ρ : Rho)
  | bk (ρ : Rho)
  | ct (ρ : Rho)
  | ex (c : Str) (d : D) (ρ : Rho)
  | bad
abbrev GS := Rho → O
/-- what the end o promises, seen from the entry (B, Z0) -/
def Sat (K : PySem.W.Frag) (Wx : WX) (b0 : Option Addr) (B Z0 : Hp) (E : Ends) : O → Prop
  | .nx ρ => ∀ σ H Z, Ok K b0 B Z0 Z H σ ρ → E.nx σ H
  | .rt d ρ => ∀ v σ H Z, Ok K b0 B Z0 Z H σ ρ → Rp K Z v d → E.rt v H
  | .rf ds ρ => ∀ p vs σ H Z, Ok K b0 B Z0 Z H σ ρ → Z p = none → B p = none → Apart σ ρ p → H p = some (.lst vs) → RpA K Z vs ds → E.rt (.ref p) H
  | .bk ρ => ∀ σ H Z, Ok K b0 B Z0 Z H σ ρ → E.bk σ H
  | .ct ρ => ∀ σ H Z, Ok K b0 B Z0 Z H σ ρ → E.ct σ H
  | .ex c d ρ => ∀ σ H Z C dx v, Ok K b0 B Z0 Z H σ ρ → Cls K c C → Z dx = some (.xd [(fld c, v)]) → Rp K Z v d → Wx (.ref C) (some dx) σ H
  | .bad => False
def DS (K : PySem.W.Frag) (Wx : WX) (t : TS) (g : GS) : Prop := ∀ b0 B Z0 Z H σ ρ (E : Ends), Ok K b0 B Z0 Z H σ ρ → Sat K Wx b0 B Z0 E (g ρ) → t E σ H
def O.bind (o : O) (f : Rho → O) : O := match o with
  | .nx ρ => f ρ
  | o => o
def R.to {α : Type} (r : R α) (f : α → Rho → O) : O := match r with
  | .ok a ρ => f a ρ
  | .ex c d ρ => .bad
  | .bad => .bad
def sSeq (a b : GS) (ρ : Rho) : O := (a ρ).bind b
def sNext (ρ : Rho) : O := .nx ρ
def sRet (g : GE) (ρ : Rho) : O := (g ρ).to .rt
def sRetF (g : GF) (ρ : Rho) : O := (g ρ).to .rf
/-- return of the list of one's own in slot i -/
def sRetO (i : Nat) (ρ : Rho) : O := match ρ[i]? with
  | some (.ow ds) => .rf ds (ρ.set i .no)
  | _ => .bad
def sRetN (ρ : Rho) : O := .rt .none ρ
def sDrop (g : GE) (ρ : Rho) : O := (g ρ).to fun _ ρ => .nx ρ
def sIf (c : GT) (a b : GS) (ρ : Rho) : O := (c ρ).to fun k ρ1 => if k then a ρ1 else b ρ1
def sSet (i : Nat) (g : GE) (ρ : Rho) : O := (g ρ).to fun d ρ1 => .nx (ρ1.set i (.sh d))
def sSetO (i : Nat) (g : GF) (ρ : Rho) : O := (g ρ).to fun ds ρ1 => .nx (ρ1.set i (.ow ds))
def sBreak (ρ : Rho) : O := .bk ρ
def sCont (ρ : Rho) : O := .ct ρ
def sBad (ρ : Rho) : O := .bad
/-- the own list in slot i is frozen -/
def fz (i : Nat) (ρ : Rho) : Rho := match ρ[i]? with
  | some (.ow ds) => ρ.set i (.sh (.list ds))
  | some (.od kds) => ρ.set i (.sh (.dict ((.dict [], .none) :: kds)))
  | _ => ρ
def sFz (i : Nat) (g : GS) (ρ : Rho) : O := g (fz i ρ)
section
variable {K : PySem.W.Frag} {Wx : WX} {ta tb te : TE} {tt tu : TT} {tas : TA} {t u : TS} {b0 : Option Addr} {B Z0 Z H : Hp} {σ : L2.St} {ρ : Rho} {E : Ends}
theorem Sat.to {α : Type} {r : R α} {f : α → Rho → O} (h : Sat K Wx b0 B Z0 E (r.to f)) : ∃ a ρ', r = .ok a ρ' ∧ Sat K Wx b0 B Z0 E (f a ρ') := by
  cases r with
  | ok a ρ' => exact ⟨a, ρ', rfl, h⟩
  | ex c d ρ' => exact h.elim
  | bad => exact h.elim
theorem Sat.bind {o : O} {f : Rho → O} {nx' : L2.St → Hp → Prop} (h : Sat K Wx b0 B Z0 E (o.bind f)) (hn : ∀ ρ' σ' H' Z', Ok K b0 B Z0 Z' H' σ' ρ' → Sat K Wx b0 B Z0 E (f ρ') → nx' σ' H') : Sat K Wx b0 B Z0 { E with nx := nx' } o := by
  cases o with
  | nx ρ' => exact fun σ' H' Z' ok => hn ρ' σ' H' Z' ok h
  | rt d ρ' => exact h
  | rf ds ρ' => exact h
  | bk ρ' => exact h
  | ct ρ' => exact h
  | ex c d ρ' => exact h
  | bad => exact h.elim
theorem ds_seq {g k : GS} (h : DS K Wx t g) (h2 : DS K Wx u k) : DS K Wx (tSeq t u) (sSeq g k) := fun b0 B Z0 Z H σ ρ E ok s =>
  h b0 B Z0 Z H σ ρ _ ok (Sat.bind s fun ρ' σ' H' Z' ok' s' => h2 b0 B Z0 Z' H' σ' ρ' E ok' s')
theorem ds_next : DS K Wx tNext sNext := fun b0 B Z0 Z H σ ρ E ok s => s σ H Z ok
theorem ds_ret {g : GE} (h : DE K te g) : DS K Wx (tRet te) (sRet g) := fun b0 B Z0 Z H σ ρ E ok s => by
  obtain ⟨d, ρ', e, s⟩ := Sat.to s
  exact h b0 B Z0 Z H σ ρ d ρ' _ ok e fun v H' Z' ok' _ r => s v σ H' Z' ok' r
theorem ds_retF {g : GF} (h : DF K te g) : DS K Wx (tRet te) (sRetF g) := fun b0 B Z0 Z H σ ρ E ok s => by
  obtain ⟨d, ρ', e, s⟩ := Sat.to s
  exact h b0 B Z0 Z H σ ρ d ρ' _ ok e fun p vs H' Z' ok' _ zp bp ap hp r => s p vs σ H' Z' ok' zp bp ap hp r
theorem no_get {i j : Nat} {s : Sl} (h : (ρ.set i .no)[j]? = some s) : s = .no ∨ (i ≠ j ∧ ρ[j]? = some s) := by
  rcases set_get h with ⟨_, e⟩ | ⟨n, e⟩
  · exact .inl e.symm
  · exact .inr ⟨n, e⟩
theorem Ok.forget {i : Nat} (ok : Ok K b0 B Z0 Z H σ ρ) : Ok K b0 B Z0 Z H σ (ρ.set i .no) :=
  ok.weak (by rw [List.length_set]; exact ok.len) fun j s h => (no_get h).imp id fun z => ⟨z.2, rfl⟩
theorem Ok.release {i : Nat} {ds : List D} (ok : Ok K b0 B Z0 Z H σ ρ) (h : ρ[i]? = some (.ow ds)) : ∃ p vs, σ[i]? = some (some (.ref p)) ∧ Ok K b0 B Z0 Z H σ (ρ.set i .no) ∧ Z p = none ∧ B p = none ∧ Apart σ (ρ.set i .no) p ∧ H p = some (.lst vs) ∧ RpA K Z vs ds := by
  obtain ⟨p, vs, e1, e2, e3, e4, e5⟩ := ok.ow i ds h
  refine ⟨p, vs, e1, ok.forget, e2, e3, fun j s hj ho q => ?_, e4, e5⟩
  rcases no_get hj with z | ⟨n, z⟩
  · subst z; cases ho
  · exact n (ok.sepS i j p _ s h z rfl ho e1 q)
theorem Ok.releaseD {i : Nat} {ds : List (D × D)} (ok : Ok K b0 B Z0 Z H σ ρ) (h : ρ[i]? = some (.od ds)) : ∃ p vs, σ[i]? = some (some (.ref p)) ∧ Ok K b0 B Z0 Z H σ (ρ.set i .no) ∧ Z p = none ∧ B p = none ∧ Apart σ (ρ.set i .no) p ∧ IsDc H p vs ∧ RpK K Z vs ds := by
  obtain ⟨p, vs, e1, e2, e3, e4, e5⟩ := ok.od i ds h
  refine ⟨p, vs, e1, ok.forget, e2, e3, fun j s hj ho q => ?_, e4, e5⟩
  rcases no_get hj with z | ⟨n, z⟩
  · subst z; cases ho
  · exact n (ok.sepS i j p _ s h z rfl ho e1 q)
theorem set_own {i : Nat} {v : V} (e1 : σ[i]? = some (some v)) : σ.set i (some v) = σ := by
  apply List.ext_getElem?
  intro j
  by_cases hj : i = j
  · subst hj
    rw [List.getElem?_set_self (by
      by_cases z : i < σ.length
      · exact z
      · rw [List.getElem?_eq_none (by simpa using z)] at e1; cases e1), e1]
  · rw [List.getElem?_set_ne hj]
theorem ds_retO {i : Nat} : DS K Wx (tRet (tVar i)) (sRetO i) := fun b0 B Z0 Z H σ ρ E ok s => by
  unfold sRetO at s
  split at s
  · rename_i ds h
    obtain ⟨p, vs, e1, ok', zp, bp, ap, hp, r⟩ := ok.release h
    exact ⟨.ref p, e1, s p vs σ H Z ok' zp bp ap hp r⟩
  · exact s.elim
theorem ds_if {c : GT} {g k : GS} (hc : DT K tt c) (h : DS K Wx t g) (h2 : DS K Wx u k) : DS K Wx (tIfS tt t u) (sIf c g k) := fun b0 B Z0 Z H σ ρ E ok s => by
  obtain ⟨b, ρ', e, s⟩ := Sat.to s
  refine hc b0 B Z0 Z H σ ρ b ρ' _ ok e fun H' Z' ok' _ => ?_
  cases b with
  | true => exact h b0 B Z0 Z' H' σ ρ' E ok' s
  | false => exact h2 b0 B Z0 Z' H' σ ρ' E ok' s
theorem ds_set {i : Nat} {g : GE} (h : DE K te g) : DS K Wx (tAsg te (gName i)) (sSet i g) := fun b0 B Z0 Z H σ ρ E ok s => by
  obtain ⟨d, ρ', e, s⟩ := Sat.to s
  exact h b0 B Z0 Z H σ ρ d ρ' _ ok e fun v H' Z' ok' _ r => s _ H' Z' (ok'.put r)
theorem ds_setO {i : Nat} {g : GF} (h : DF K te g) (hi : i ≠ 0 := by decide) : DS K Wx (tAsg te (gName i)) (sSetO i g) := fun b0 B Z0 Z H σ ρ E ok s => by
  obtain ⟨d, ρ', e, s⟩ := Sat.to s
  exact h b0 B Z0 Z H σ ρ d ρ' _ ok e fun p vs H' Z' ok' _ zp bp ap hp r => s _ H' Z' (ok'.putO zp bp ap hp r fun _ _ z => absurd z hi)
theorem Ok.fz {i : Nat} (ok : Ok K b0 B Z0 Z H σ ρ) : ∃ Z', Ok K b0 B Z0 Z' H σ (fz i ρ) ∧ Same Z Z' := by
  unfold DL.fz
  split
  · rename_i ds h
    obtain ⟨p, vs, e1, ok', zp, bp, ap, hp, r⟩ := ok.release h
    obtain ⟨ok2, s2⟩ := ok'.freeze zp bp ap hp
    refine ⟨_, ?_, s2⟩
    have q := ok2.put (i := i) (v := .ref p) (d := .list ds) (.lst upd_same (r.mono s2))
    rw [List.set_set] at q
    have e : σ.set i (some (.ref p)) = σ := by
      apply List.ext_getElem?
      intro j
      by_cases hj : i = j
      · subst hj
        rw [List.getElem?_set_self (by
          by_cases z : i < σ.length
          · exact z
          · rw [List.getElem?_eq_none (by simpa using z)] at e1; cases e1), e1]
      · rw [List.getElem?_set_ne hj]
    rw [e] at q
    exact q
  · rename_i ds h
    obtain ⟨p, vs, e1, ok', zp, bp, ap, ⟨dt, hp⟩, r⟩ := ok.releaseD h
    obtain ⟨ok2, s2⟩ := ok'.freeze zp bp ap hp
    refine ⟨_, ?_, s2⟩
    have q := ok2.put (i := i) (v := .ref p) (d := dcD ds) (.dct upd_same (r.mono s2))
    rw [List.set_set, set_own e1] at q
    exact q
  · exact ⟨Z, ok, Same.refl Z⟩
theorem ds_fz {i : Nat} {g : GS} (h : DS K Wx t g) : DS K Wx t (sFz i g) := fun b0 B Z0 Z H σ ρ E ok s => by
  obtain ⟨Z', ok', _⟩ := ok.fz (i := i)
  exact h b0 B Z0 Z' H σ _ E ok' s
/-- data goes to a target -/
abbrev GG := D → Rho → Option Rho
def DG (K : PySem.W.Frag) (ws : List Nat) (t : TG) (g : GG) : Prop := ∀ b0 B Z0 Z H σ ρ v d ρ' (Q : L2.St → Hp → Prop), Ok K b0 B Z0 Z H σ ρ → Rp K Z v d → g d ρ = some ρ' → (∀ σ', Ok K b0 B Z0 Z H σ' ρ' → wipe σ' ws = wipe σ ws → Q σ' H) → t v σ H Q
def DGs (K : PySem.W.Frag) (ws : List Nat) (t : TGs) (g : List D → Rho → Option Rho) : Prop := ∀ b0 B Z0 Z H σ ρ vs ds ρ' (Q : L2.St → Hp → Prop), Ok K b0 B Z0 Z H σ ρ → RpA K Z vs ds → g ds ρ = some ρ' → (∀ σ', Ok K b0 B Z0 Z H σ' ρ' → wipe σ' ws = wipe σ ws → Q σ' H) → t vs σ H Q
def gN (i : Nat) (d : D) (ρ : Rho) : Option Rho := some (ρ.set i (.sh d))
def gsNil (ds : List D) (ρ : Rho) : Option Rho := match ds with
  | [] => some ρ
  | _ => none
def gsCons (g : GG) (r : List D → Rho → Option Rho) (ds : List D) (ρ : Rho) : Option Rho := match ds with
  | [] => none
  | d :: ds => (g d ρ).bind (r ds)
def gT (n : Nat) (g : List D → Rho → Option Rho) (d : D) (ρ : Rho) : Option Rho := match d with
  | .tuple ds => if ds.length = n then g ds ρ else none
  | _ => none
theorem wipe_comm (σ : L2.St) (x : Option V) : ∀ (ws : List Nat) (i : Nat), i ∉ ws → wipe (σ.set i x) ws = (wipe σ ws).set i x
  | [], i, _ => rfl
  | w :: ws, i, h => by
    unfold wipe
    have n1 : i ≠ w := fun z => h (by rw [z]; exact List.mem_cons_self)
    rw [wipe_comm σ x ws i fun z => h (List.mem_cons_of_mem _ z), List.set_comm _ _ n1]
theorem wipe_set {σ : L2.St} {x : Option V} : ∀ {ws : List Nat} {i : Nat}, i ∈ ws → wipe (σ.set i x) ws = wipe σ ws
  | [], i, h => nomatch h
  | w :: ws, i, h => by
    unfold wipe
    by_cases hi : i ∈ ws
    · rw [wipe_set hi]
    · have e : i = w := by
        rcases List.mem_cons.mp h with z | z
        · exact z
        · exact absurd z hi
      subst e
      rw [wipe_comm σ x ws i hi, List.set_set]
variable {ws : List Nat}
theorem dg_name {i : Nat} (hi : i ∈ ws) : DG K ws (gName i) (gN i) := fun b0 B Z0 Z H σ ρ v d ρ' Q ok r e q => by
  cases e
  exact q _ (ok.put r) (wipe_set hi)
theorem dgs_nil : DGs K ws gNil gsNil := fun b0 B Z0 Z H σ ρ vs ds ρ' Q ok r e q => by
  cases r with
  | nil => cases e; exact ⟨rfl, q σ ok rfl⟩
  | cons h r => cases e
theorem dgs_cons {t : TG} {u : TGs} {g : GG} {k : List D → Rho → Option Rho} (h : DG K ws t g) (h2 : DGs K ws u k) : DGs K ws (gCons t u) (gsCons g k) := fun b0 B Z0 Z H σ ρ vs ds ρ' Q ok r e q => by
  cases r with
  | nil => cases e
  | cons h1 r =>
    obtain ⟨ρ1, e1, e2⟩ := Option.bind_eq_some_iff.mp e
    exact ⟨_, _, rfl, h b0 B Z0 Z H σ ρ _ _ ρ1 _ ok h1 e1 fun σ1 ok1 w1 => h2 b0 B Z0 Z H σ1 ρ1 _ _ ρ' Q ok1 r e2 fun σ2 ok2 w2 => q σ2 ok2 (w2.trans w1)⟩
theorem dg_tup {n : Nat} {u : TGs} {g : List D → Rho → Option Rho} (h : DGs K ws u g) : DG K ws (gTup K n u) (gT n g) := fun b0 B Z0 Z H σ ρ v d ρ' Q ok r e q => by
  unfold gT at e
  split at e
  · split at e
    · cases r with
      | tup hs ra => exact ⟨_, _, rfl, same_t ok.zh hs, by rw [ra.length]; assumption, h b0 B Z0 Z H σ ρ _ _ ρ' Q ok ra e q⟩
    · cases e
  · cases e
def sTo (g : GE) (k : GG) (ρ : Rho) : O := (g ρ).to fun d ρ1 => match k d ρ1 with
  | some ρ2 => .nx ρ2
  | none => .bad
theorem ds_to {tg : TG} {g : GE} {k : GG} (h : DE K te g) (h2 : DG K ws tg k) : DS K Wx (tAsg te tg) (sTo g k) := fun b0 B Z0 Z H σ ρ E ok s => by
  obtain ⟨d, ρ', e, s⟩ := Sat.to s
  refine h b0 B Z0 Z H σ ρ d ρ' _ ok e fun v H' Z' ok' _ r => ?_
  split at s
  · exact h2 b0 B Z0 Z' H' σ ρ' v d _ _ ok' r (by assumption) fun σ' ok2 _ => s σ' H' Z' ok2
  · exact s.elim
end
end DL
namespace DL
open PySem L2
section
variable {K : PySem.W.Frag} {Wx : WX} {ta tb te : TE} {tt tu : TT} {tas : TA} {t u : TS} {b0 : Option Addr} {B Z0 Z H : Hp} {σ : L2.St} {ρ : Rho} {E : Ends} {p : Addr} {o o' : HO}
theorem Ok.frame (ok : Ok K b0 B Z0 Z H σ ρ) (zp : Z p = none) (ap : Apart σ ρ p) (hp : H p = some o) : Ok K b0 (upd B p o) Z0 Z H σ ρ := by
  refine ⟨ok.len, fun b x e => ?_, ok.zh, ok.zz, fun b x e => ?_, ok.sh, fun i s e eo => ?_, ok.fix, ok.sepS⟩
  · by_cases hb : b = p
    · subst hb; rw [upd_same] at e; rw [← e]; exact hp
    · rw [upd_ne hb] at e; exact ok.bh b x e
  · rcases ok.nb b x e with z | z
    · exact .inl z
    · exact .inr (by rw [upd_ne (ne_of_none e zp)]; exact z)
  · obtain ⟨q, vs, e1, e2, e3, e4, e5⟩ := ok.own i s e eo
    have nq : q ≠ p := fun z => ap i s e eo (by rw [e1, z])
    exact ⟨q, vs, e1, e2, by rw [upd_ne nq]; exact e3, e4, e5⟩
theorem Ok.unframe (ok : Ok K b0 (upd B p o) Z0 Z H σ ρ) (zp : Z0 p = none) (bp : B p = none) : Ok K b0 B Z0 Z H σ ρ ∧ Z p = none ∧ Apart σ ρ p ∧ H p = some o := by
  have hz : Z p = none := by
    cases q : Z p with
    | none => rfl
    | some x =>
      rcases ok.nb p x q with z | z
      · rw [zp] at z; cases z
      · rw [upd_same] at z; cases z
  refine ⟨⟨ok.len, fun b x e => ok.bh b x (by rw [upd_ne (ne_of_none e bp)]; exact e), ok.zh, ok.zz, fun b x e => ?_, ok.sh, fun i s e eo => ?_, ok.fix, ok.sepS⟩, hz, fun i s e eo q => ?_, ok.bh p o upd_same⟩
  · rcases ok.nb b x e with z | z
    · exact .inl z
    · rw [upd_ne (ne_of_none e hz)] at z; exact .inr z
  · obtain ⟨q, vs, e1, e2, e3, e4, e5⟩ := ok.own i s e eo
    have nq : q ≠ p := fun z => by rw [z, upd_same] at e3; cases e3
    rw [upd_ne nq] at e3
    exact ⟨q, vs, e1, e2, e3, e4, e5⟩
  · obtain ⟨q', vs, e1, e2, e3, e4, e5⟩ := ok.own i s e eo
    rw [e1] at q
    cases q
    rw [upd_same] at e3
    cases e3
theorem Ok.reframe (ok : Ok K b0 (upd B p o) Z0 Z H σ ρ) (zp : Z0 p = none) (bp : B p = none) : Ok K b0 (upd B p o') Z0 Z (upd H p o') σ ρ := by
  obtain ⟨ok1, hz, ap, hp⟩ := ok.unframe zp bp
  exact (ok1.write (o := o') hz bp ap).frame hz ap upd_same
/-- all that is frozen joins what stays -/
def joinH (B Z : Hp) : Hp := fun p => match B p with
  | some o => some o
  | none => Z p
theorem Ok.enter (ok : Ok K b0 B Z0 Z H σ ρ) : Ok K b0 (joinH B Z) Z Z H σ ρ := by
  refine ⟨ok.len, fun b x e => ?_, ok.zh, Same.refl Z, fun b x e => .inl e, ok.sh, fun i s e eo => ?_, ok.fix, ok.sepS⟩
  · unfold joinH at e
    split at e
    · cases e; exact ok.bh b _ (by assumption)
    · exact ok.zh b x e
  · obtain ⟨q, vs, e1, e2, e3, e4, e5⟩ := ok.own i s e eo
    exact ⟨q, vs, e1, e2, by unfold joinH; rw [e3]; exact e2, e4, e5⟩
theorem Ok.leave {Z' H' : Hp} {σ' : L2.St} {ρ' : Rho} (ok : Ok K b0 B Z0 Z H σ ρ) (ok' : Ok K b0 (joinH B Z) Z Z' H' σ' ρ') : Ok K b0 B Z0 Z' H' σ' ρ' := by
  have jb : ∀ q, joinH B Z q = none → B q = none := fun q e => by
    unfold joinH at e
    split at e
    · cases e
    · assumption
  refine ⟨ok'.len, fun b x e => ok'.bh b x (by unfold joinH; rw [e]), ok'.zh, ok.zz.trans ok'.zz, fun b x e => ?_, ok'.sh, fun i s e eo => ?_, ok'.fix, ok'.sepS⟩
  · rcases ok'.nb b x e with z | z
    · exact ok.nb b x z
    · exact .inr (jb b z)
  · obtain ⟨q, vs, e1, e2, e3, e4, e5⟩ := ok'.own i s e eo
    exact ⟨q, vs, e1, e2, jb q e3, e4, e5⟩
theorem Sat.leave {o : O} (ok : Ok K b0 B Z0 Z H σ ρ) (s : Sat K Wx b0 B Z0 E o) : Sat K Wx b0 (joinH B Z) Z E o := by
  have jb : ∀ q, joinH B Z q = none → B q = none := fun q e => by
    unfold joinH at e
    split at e
    · cases e
    · assumption
  cases o with
  | nx ρ' => exact fun σ' H' Z' ok' => s σ' H' Z' (ok.leave ok')
  | rt d ρ' => exact fun v σ' H' Z' ok' r => s v σ' H' Z' (ok.leave ok') r
  | rf ds ρ' => exact fun p vs σ' H' Z' ok' zp bp ap hp r => s p vs σ' H' Z' (ok.leave ok') zp (jb p bp) ap hp r
  | bk ρ' => exact fun σ' H' Z' ok' => s σ' H' Z' (ok.leave ok')
  | ct ρ' => exact fun σ' H' Z' ok' => s σ' H' Z' (ok.leave ok')
  | ex c d ρ' => exact fun σ' H' Z' C dx v ok' => s σ' H' Z' C dx v (ok.leave ok')
  | bad => exact s.elim
/-- a value on the way into a slot: shared data, or a new list -/
inductive Nw where
  | s (d : D)
  | f (ds : List D)
def Nw.sl : Nw → Sl
  | .s d => .sh d
  | .f ds => .ow ds
def nS (g : GE) (ρ : Rho) : R Nw := (g ρ).map .s
def nF (g : GF) (ρ : Rho) : R Nw := (g ρ).map .f
def NwR (K : PySem.W.Frag) (B Z H : Hp) (σ : L2.St) (ρ : Rho) (v : V) : Nw → Prop
  | .s d => Rp K Z v d
  | .f ds => ∃ p vs, v = .ref p ∧ Z p = none ∧ B p = none ∧ Apart σ ρ p ∧ H p = some (.lst vs) ∧ RpA K Z vs ds
def DN (K : PySem.W.Frag) (t : TE) (g : Rho → R Nw) : Prop := ∀ b0 B Z0 Z H σ ρ n ρ' (Q : VK), Ok K b0 B Z0 Z H σ ρ → g ρ = .ok n ρ' → (∀ v H' Z', Ok K b0 B Z0 Z' H' σ ρ' → Same Z Z' → NwR K B Z' H' σ ρ' v n → Q v H') → t σ H Q
theorem dn_s {g : GE} (h : DE K te g) : DN K te (nS g) := fun b0 B Z0 Z H σ ρ n ρ' Q ok e q => by
  obtain ⟨d, e1, rfl⟩ := R.map_ok e
  exact h b0 B Z0 Z H σ ρ d ρ' Q ok e1 q
theorem dn_f {g : GF} (h : DF K te g) : DN K te (nF g) := fun b0 B Z0 Z H σ ρ n ρ' Q ok e q => by
  obtain ⟨d, e1, rfl⟩ := R.map_ok e
  exact h b0 B Z0 Z H σ ρ d ρ' Q ok e1 fun p vs H' Z' ok' s zp bp ap hp r => q _ H' Z' ok' s ⟨p, vs, rfl, zp, bp, ap, hp, r⟩
def sPar (i j : Nat) (a b : Rho → R Nw) (ρ : Rho) : O := (a ρ).to fun x ρ1 => (b ρ1).to fun y ρ2 => .nx ((ρ2.set i x.sl).set j y.sl)
theorem ds_par {i j : Nat} {a b : Rho → R Nw} (ha : DN K ta a) (hb : DN K tb b) (hi : i ≠ 0 := by decide) (hj0 : j ≠ 0 := by decide) : DS K Wx (tPar i j (tCons ta (tCons tb tNil))) (sPar i j a b) := fun b0 B Z0 Z H σ ρ E ok s => by
  obtain ⟨x, ρ1, e1, s⟩ := Sat.to s
  obtain ⟨y, ρ2, e2, s⟩ := Sat.to s
  refine ha b0 B Z0 Z H σ ρ x ρ1 _ ok e1 fun v H1 Z1 ok1 s1 r1 => ?_
  have pa : ∀ {q : Addr} {ds : List D} {H2 Z2 : Hp}, Ok K b0 B Z0 Z2 H2 σ ρ2 → B q = none → Z2 q = none → Apart σ ρ2 q → ∀ {k : Nat} {w : V} {m : Nw}, NwR K B Z2 H2 σ ρ2 w m → w ≠ .ref q → Apart (σ.set k (some w)) (ρ2.set k m.sl) q := by
    intro q ds H2 Z2 ok2 bq zq aq k w m rm hw j' es hj ho hq
    rcases set_get hj with ⟨ek, e⟩ | ⟨nk, e⟩
    · subst ek
      rcases set_get hq with ⟨_, e2⟩ | ⟨n2, _⟩
      · exact hw (Option.some.inj e2)
      · exact n2 rfl
    · rw [List.getElem?_set_ne nk] at hq
      exact aq j' es e ho hq
  cases x with
  | s d =>
    refine hb b0 B Z0 Z1 H1 σ ρ1 y ρ2 _ ok1 e2 fun w H2 Z2 ok2 s2 r2 => ⟨v, w, rfl, ?_⟩
    have okv := ok2.put (i := i) (Rp.mono s2 r1)
    refine s _ H2 Z2 ?_
    cases y with
    | s d2 => exact okv.put r2
    | f ds =>
      obtain ⟨q, vs, rfl, zq, bq, aq, hq, ra⟩ := r2
      refine okv.putO zq bq (fun j' es hj ho hqq => ?_) hq ra fun _ _ z => absurd z hj0
      rcases set_get hj with ⟨_, z⟩ | ⟨nk, e⟩
      · subst z; cases ho
      · rw [List.getElem?_set_ne nk] at hqq
        exact aq j' es e ho hqq
  | f ds =>
    obtain ⟨q, vs, rfl, zq, bq, aq, hq, ra⟩ := r1
    have okf := ok1.frame zq aq hq
    refine hb b0 (upd B q (.lst vs)) Z0 Z1 H1 σ ρ1 y ρ2 _ okf e2 fun w H2 Z2 ok2 s2 r2 => ⟨.ref q, w, rfl, ?_⟩
    obtain ⟨ok3, zq2, aq2, hq2⟩ := ok2.unframe (ok1.zz.free zq) bq
    have okv := ok3.putO (i := i) zq2 bq aq2 hq2 (ra.mono s2) fun _ _ z => absurd z hi
    refine s _ H2 Z2 ?_
    cases y with
    | s d2 => exact okv.put r2
    | f ds2 =>
      obtain ⟨q', vs', rfl, zq', bq', aq', hq', ra'⟩ := r2
      have nq : q' ≠ q := fun z => by rw [z, upd_same] at bq'; cases bq'
      rw [upd_ne nq] at bq'
      refine okv.putO zq' bq' (fun j' es hj ho hqq => ?_) hq' ra' fun _ _ z => absurd z hj0
      rcases set_get hj with ⟨ek, _⟩ | ⟨nk, e⟩
      · subst ek
        rcases set_get hqq with ⟨_, e2⟩ | ⟨n2, _⟩
        · have z := Option.some.inj e2
          injection z with z
          exact nq z.symm
        · exact n2 rfl
      · rw [List.getElem?_set_ne nk] at hqq
        exact aq' j' es e ho hqq
def isOw : Option Sl → Bool
  | some (.ow _) => true
  | _ => false
def sApp (i : Nat) (g : GE) (ρ : Rho) : O := if isOw ρ[i]? then (g ρ).to fun d ρ1 => match ρ1[i]? with
    | some (.ow ds) => if ds.length < sizeLine then .nx (ρ1.set i (.ow (ds ++ [d]))) else .bad
    | _ => .bad
  else .bad
theorem Ok.isOw {i : Nat} (ok : Ok K b0 B Z0 Z H σ ρ) (h : isOw ρ[i]? = true) : ∃ p vs, σ[i]? = some (some (.ref p)) ∧ H p = some (.lst vs) := by
  unfold DL.isOw at h
  split at h
  · rename_i ds e
    obtain ⟨p, vs, e1, _, _, e4, _⟩ := ok.ow i ds e
    exact ⟨p, vs, e1, e4⟩
  · cases h
theorem Ok.rewrite {i : Nat} {ds es : List D} {vs' : List V} (ok : Ok K b0 B Z0 Z H σ ρ) (h : ρ[i]? = some (.ow ds)) (hp : σ[i]? = some (some (.ref p))) (r : RpA K Z vs' es) : Ok K b0 B Z0 Z (upd H p (.lst vs')) σ (ρ.set i (.ow es)) := by
  obtain ⟨q, vs, e1, ok', zp, bp, ap, _, _⟩ := ok.release h
  rw [hp] at e1
  cases e1
  have ok2 := ok'.write (o := .lst vs') zp bp ap
  have ok3 := ok2.putO (i := i) zp bp ap upd_same r fun a ha hi0 => by
    subst hi0
    have z := ok.fix a ha ds h
    rw [hp] at z
    injection z with z
    injection z with z
    injection z
  rw [List.set_set] at ok3
  have e : σ.set i (some (.ref p)) = σ := by
    apply List.ext_getElem?
    intro j
    by_cases hj : i = j
    · subst hj
      rw [List.getElem?_set_self (by
        by_cases z : i < σ.length
        · exact z
        · rw [List.getElem?_eq_none (by simpa using z)] at hp; cases hp), hp]
    · rw [List.getElem?_set_ne hj]
  rw [e] at ok3
  exact ok3
theorem ds_app {i : Nat} {g : GE} (h : DE K te g) : DS K Wx (tDrop (tBM K "list" rAppend (tVar i) (tCons te tNil))) (sApp i g) := fun b0 B Z0 Z H σ ρ E ok s => by
  unfold sApp at s
  split at s
  · rename_i h0
    obtain ⟨p, vs0, e0, hp0⟩ := ok.isOw h0
    obtain ⟨d, ρ1, e1, s⟩ := Sat.to s
    split at s
    · rename_i ds hi
      split at s
      · rename_i hs
        refine ⟨.ref p, e0, .inl ⟨rfl, vs0, .inl (.inl hp0)⟩, ?_⟩
        refine h b0 B Z0 Z H σ ρ d ρ1 _ ok e1 fun v H1 Z1 ok1 s1 r1 => ?_
        obtain ⟨q, vs, f1, f2, f3, f4, f5⟩ := ok1.ow i ds hi
        rw [e0] at f1
        cases f1
        exact ⟨p, vs, v, rfl, rfl, f4, by rw [f5.length]; exact hs, s σ _ Z1 (ok1.rewrite hi e0 (f5.append (.one r1)))⟩
      · exact s.elim
    · exact s.elim
  · exact s.elim
def sExt (i : Nat) (g : GF) (ρ : Rho) : O := if isOw ρ[i]? then (g ρ).to fun es ρ1 => match ρ1[i]? with
    | some (.ow ds) => if ds.length + es.length ≤ sizeLine then .nx (ρ1.set i (.ow (ds ++ es))) else .bad
    | _ => .bad
  else .bad
theorem ds_ext {i : Nat} {g : GF} (h : DF K te g) : DS K Wx (tDrop (tBM K "list" rExtend (tVar i) (tCons te tNil))) (sExt i g) := fun b0 B Z0 Z H σ ρ E ok s => by
  unfold sExt at s
  split at s
  · rename_i h0
    obtain ⟨p, vs0, e0, hp0⟩ := ok.isOw h0
    obtain ⟨d, ρ1, e1, s⟩ := Sat.to s
    split at s
    · rename_i ds hi
      split at s
      · rename_i hs
        refine ⟨.ref p, e0, .inl ⟨rfl, vs0, .inl (.inl hp0)⟩, ?_⟩
        refine h b0 B Z0 Z H σ ρ d ρ1 _ ok e1 fun p2 vs2 H1 Z1 ok1 s1 zp bp ap hp r1 => ?_
        obtain ⟨q, vs, f1, f2, f3, f4, f5⟩ := ok1.ow i ds hi
        rw [e0] at f1
        cases f1
        exact ⟨p, p2, vs, vs2, rfl, rfl, f4, hp, by rw [f5.length, r1.length]; exact hs, s σ _ Z1 (ok1.rewrite hi e0 (f5.append r1))⟩
      · exact s.elim
    · exact s.elim
  · exact s.elim
/-- x[k] = e -/
def sPutIx (i : Nat) (gk : GE) (g : GE) (ρ : Rho) : O := (g ρ).to fun d ρ1 => if isOw ρ1[i]? then (gk ρ1).to fun k ρ2 => match k, ρ2[i]? with
    | .int k, some (.ow ds) => (match ixN ds.length k with
      | some j => .nx (ρ2.set i (.ow (ds.set j d)))
      | none => .bad)
    | _, _ => .bad
  else .bad
theorem ds_putIx {i : Nat} {gk g : GE} (h : DE K te g) (hk : DE K tb gk) : DS K Wx (tAsg te (gSub (tVar i) tb rSetL)) (sPutIx i gk g) := fun b0 B Z0 Z H σ ρ E ok s => by
  unfold sPutIx at s
  obtain ⟨d, ρ1, e1, s⟩ := Sat.to s
  refine h b0 B Z0 Z H σ ρ d ρ1 _ ok e1 fun v H1 Z1 ok1 s1 r1 => ?_
  split at s
  · rename_i h0
    obtain ⟨p, vs0, e0, hp0⟩ := ok1.isOw h0
    obtain ⟨k, ρ2, e2, s⟩ := Sat.to s
    split at s
    · rename_i k' ds hi
      split at s
      · rename_i j hj
        refine ⟨.ref p, e0, ?_⟩
        refine hk b0 B Z0 Z1 H1 σ ρ1 _ ρ2 _ ok1 e2 fun w H2 Z2 ok2 s2 r2 => ?_
        cases r2
        obtain ⟨q, vs, f1, f2, f3, f4, f5⟩ := ok2.ow i ds hi
        rw [e0] at f1
        cases f1
        exact ⟨p, vs, k', j, rfl, rfl, f4, by rw [f5.length]; exact hj, s σ _ Z2 (ok2.rewrite hi e0 (f5.set (r1.mono s2) j))⟩
      · exact s.elim
    · exact s.elim
  · exact s.elim
def sAug (i : Nat) (f : D → D → Option D) (g : GE) (ρ : Rho) : O := match ρ[i]? with
  | some (.sh a) => (g ρ).to fun b ρ1 => match f a b with
    | some c => .nx (ρ1.set i (.sh c))
    | none => .bad
  | _ => .bad
structure Wk (K : PySem.W.Frag) (J : It) (Z : Hp) (ds : List D) : Prop where
  goes : ∀ i H, i < ds.length → Same Z H → J.go i H
  stops : ∀ H, Same Z H → J.stop ds.length H
  yields : ∀ i H x H', i < ds.length → J.yld i H x H' → ∀ b0 B Z0 Z' σ ρ, Ok K b0 B Z0 Z' H σ ρ → Same Z Z' → ∃ Z'' d, Ok K b0 B Z0 Z'' H' σ ρ ∧ Same Z' Z'' ∧ ds[i]? = some d ∧ Rp K Z'' x d
def DI (K : PySem.W.Frag) (t : TI) (g : GF) : Prop := ∀ b0 B Z0 Z H σ ρ ds ρ' (R : It → Hp → Prop), Ok K b0 B Z0 Z H σ ρ → g ρ = .ok ds ρ' → (∀ J H' Z', Ok K b0 B Z0 Z' H' σ ρ' → Same Z Z' → Wk K J Z' ds → R J H') → t σ H R
def forL (k : GG) (b : GS) : List D → Rho → O
  | [], ρ => .nx ρ
  | d :: ds, ρ => match k d ρ with
    | none => .bad
    | some ρ1 => match b ρ1 with
      | .nx ρ2 => forL k b ds ρ2
      | .ct ρ2 => forL k b ds ρ2
      | .bk ρ2 => .nx ρ2
      | o => o
def sFor (gi : GF) (k : GG) (b : GS) (ρ : Rho) : O := (gi ρ).to fun ds ρ1 => forL k b ds ρ1
theorem ds_for {ti : TI} {tg : TG} {tb : TS} {ws : List Nat} {gi : GF} {k : GG} {b : GS} (hi : DI K ti gi) (hk : DG K ws tg k) (hb : DS K Wx tb b) : DS K Wx (tFor ti tg tb) (sFor gi k b) := fun b0 B Z0 Z H σ ρ E ok s => by
  obtain ⟨ds, ρ1, e1, s⟩ := Sat.to s
  refine hi b0 B Z0 Z H σ ρ ds ρ1 _ ok e1 fun J H1 Z1 ok1 s1 wk => ?_
  have W : Walk J ds.length (fun H => Same Z1 H) (fun i H x H' => J.yld i H x H') := ⟨wk.goes, wk.stops, fun _ _ _ _ _ _ y => y⟩
  refine for_it W (fun i σ H => ∃ Z ρ, Ok K b0 (joinH B Z1) Z1 Z H σ ρ ∧ Sat K Wx b0 (joinH B Z1) Z1 E (forL k b (ds.drop i) ρ)) ⟨Z1, ρ1, ok1.enter, ?_⟩ (fun i σ H _ h => ?_) (fun i x σ H H' hlt h y => ?_) (fun σ H h => ?_)
  · rw [List.drop_zero]
    exact Sat.leave ok1 s
  · obtain ⟨Z, ρ, ok, _⟩ := h
    exact ok.zz.trans ok.zh
  · obtain ⟨Z2, ρ2, ok2, sat⟩ := h
    obtain ⟨Z3, d, ok3, s3, hd, rd⟩ := wk.yields i H x H' hlt y _ _ _ _ _ _ ok2 ok2.zz
    have ed : ds.drop i = d :: ds.drop (i + 1) := by
      obtain ⟨hl, e⟩ := List.getElem?_eq_some_iff.mp hd
      rw [← e]
      exact List.drop_eq_getElem_cons hl
    rw [ed] at sat
    unfold forL at sat
    split at sat
    · exact sat.elim
    · rename_i ρ3 hk3
      refine hk _ _ _ Z3 H' σ ρ2 x d ρ3 _ ok3 rd hk3 fun σ3 ok4 _ => ?_
      refine hb _ _ _ Z3 H' σ3 ρ3 _ ok4 ?_
      split at sat
      · rename_i ρ4 e4; rw [e4]; exact fun σ4 H4 Z4 ok5 => ⟨Z4, ρ4, ok5, sat⟩
      · rename_i ρ4 e4; rw [e4]; exact fun σ4 H4 Z4 ok5 => ⟨Z4, ρ4, ok5, sat⟩
      · rename_i ρ4 e4; rw [e4]; exact sat
      · rename_i o h1 h2 h3
        generalize b ρ3 = o' at *
        cases o' with
        | nx ρ' => exact absurd rfl (h1 ρ')
        | ct ρ' => exact absurd rfl (h2 ρ')
        | bk ρ' => exact absurd rfl (h3 ρ')
        | rt d ρ' => exact sat
        | rf ds ρ' => exact sat
        | ex c d ρ' => exact sat
        | bad => exact sat.elim
  · obtain ⟨Z2, ρ2, ok2, sat⟩ := h
    rw [List.drop_length] at sat
    exact sat σ H Z2 ok2
def whileL (c : GT) (b : GS) : Nat → Rho → O
  | 0, _ => .bad
  | n + 1, ρ => (c ρ).to fun k ρ1 => if k then (match b ρ1 with
      | .nx ρ2 => whileL c b n ρ2
      | .ct ρ2 => whileL c b n ρ2
      | .bk ρ2 => .nx ρ2
      | o => o) else .nx ρ1
theorem ds_while {n : Nat} {tb : TS} {c : GT} {b : GS} (hc : DT K tt c) (hb : DS K Wx tb b) : DS K Wx (tWhile tt tb) (whileL c b n) := fun b0 B Z0 Z H σ ρ E ok s => by
  refine ⟨fun m σ H => ∃ Z ρ, Ok K b0 B Z0 Z H σ ρ ∧ Sat K Wx b0 B Z0 E (whileL c b m ρ), ⟨n, Z, ρ, ok, s⟩, fun m σ H h => ?_⟩
  obtain ⟨Z1, ρ1, ok1, sat⟩ := h
  cases m with
  | zero => exact sat.elim
  | succ m =>
    unfold whileL at sat
    obtain ⟨k, ρ2, e2, sat⟩ := Sat.to sat
    refine hc b0 B Z0 Z1 H σ ρ1 k ρ2 _ ok1 e2 fun H2 Z2 ok2 _ => ?_
    cases k with
    | false => exact sat σ H2 Z2 ok2
    | true =>
      refine ⟨fun σ H => ∃ Z ρ, Ok K b0 B Z0 Z H σ ρ ∧ Sat K Wx b0 B Z0 E (whileL c b m ρ), fun σ' H' h => ⟨m, Nat.lt_succ_self m, h⟩, ?_⟩
      refine hb _ _ _ Z2 H2 σ ρ2 _ ok2 ?_
      simp only [if_true] at sat
      split at sat
      · rename_i ρ4 e4; rw [e4]; exact fun σ4 H4 Z4 ok5 => ⟨Z4, ρ4, ok5, sat⟩
      · rename_i ρ4 e4; rw [e4]; exact fun σ4 H4 Z4 ok5 => ⟨Z4, ρ4, ok5, sat⟩
      · rename_i ρ4 e4; rw [e4]; exact sat
      · rename_i o h1 h2 h3
        generalize b ρ2 = o' at *
        cases o' with
        | nx ρ' => exact absurd rfl (h1 ρ')
        | ct ρ' => exact absurd rfl (h2 ρ')
        | bk ρ' => exact absurd rfl (h3 ρ')
        | rt d ρ' => exact sat
        | rf ds ρ' => exact sat
        | ex c d ρ' => exact sat
        | bad => exact sat.elim
end
end DL
namespace DL
open PySem L2
section
variable {K : PySem.W.Frag} {Wx : WX} {ta tb te : TE} {tt tu : TT} {tas : TA} {t u : TS} {b0 : Option Addr} {B Z0 Z H : Hp} {σ : L2.St} {ρ : Rho} {E : Ends} {p : Addr} {o o' : HO}
def wipeR (ρ : Rho) : List Nat → Rho
  | [] => ρ
  | v :: vs => (wipeR ρ vs).set v .no
theorem wipeR_len : ∀ (vs : List Nat), (wipeR ρ vs).length = ρ.length
  | [] => rfl
  | v :: vs => by unfold wipeR; rw [List.length_set, wipeR_len vs]
theorem wipeR_get {i : Nat} {s : Sl} : ∀ {vs : List Nat}, (wipeR ρ vs)[i]? = some s → s = .no ∨ (i ∉ vs ∧ ρ[i]? = some s)
  | [], h => .inr ⟨by simp, h⟩
  | v :: vs, h => by
    unfold wipeR at h
    rcases set_get h with ⟨_, e⟩ | ⟨n, e⟩
    · exact .inl e.symm
    · rcases wipeR_get e with z | ⟨z1, z2⟩
      · exact .inl z
      · exact .inr ⟨fun z => (List.mem_cons.mp z).elim (fun y => n y.symm) z1, z2⟩
theorem wipe_get {i : Nat} : ∀ {vs : List Nat}, i ∉ vs → (wipe σ vs)[i]? = σ[i]?
  | [], _ => rfl
  | v :: vs, h => by
    unfold wipe
    rw [List.getElem?_set_ne (fun z => h (by rw [z]; exact List.mem_cons_self)), wipe_get fun z => h (List.mem_cons_of_mem _ z)]
theorem Ok.wipe (vs : List Nat) (ok : Ok K b0 B Z0 Z H σ ρ) : Ok K b0 B Z0 Z H (wipe σ vs) (wipeR ρ vs) :=
  ok.weak (by rw [wipe_length, wipeR_len]; exact ok.len) fun i s h => (wipeR_get h).imp id fun z => ⟨z.2, wipe_get z.1⟩
theorem Ok.unwipe (vs : List Nat) (ok : Ok K b0 B Z0 Z H (L2.wipe σ vs) ρ) : Ok K b0 B Z0 Z H σ (wipeR ρ vs) :=
  ok.weak (by rw [wipeR_len, ← ok.len, wipe_length]) fun i s h => (wipeR_get h).imp id fun z => ⟨z.2, (wipe_get z.1).symm⟩
theorem wipe_wipe (σ : L2.St) (vs : List Nat) : L2.wipe (L2.wipe σ vs) vs = L2.wipe σ vs := by
  apply List.ext_getElem?
  intro i
  by_cases h : i ∈ vs
  · have e : ∀ (τ : L2.St) (ws : List Nat), i ∈ ws → (L2.wipe τ ws)[i]? = if i < τ.length then some none else none := by
      intro τ ws
      induction ws with
      | nil => intro h; cases h
      | cons w ws ih =>
        intro h
        unfold L2.wipe
        by_cases hw : w = i
        · subst hw
          by_cases hl : w < τ.length
          · rw [List.getElem?_set_self (by rw [wipe_length]; exact hl), if_pos hl]
          · rw [if_neg hl, List.getElem?_eq_none (by rw [List.length_set, wipe_length]; omega)]
        · rw [List.getElem?_set_ne hw]
          exact ih ((List.mem_cons.mp h).resolve_left fun z => hw z.symm)
    rw [e _ _ h, e _ _ h, wipe_length]
  · rw [wipe_get h]
def gYes (ρ : Rho) : R Bool := .ok true ρ
theorem dt_yes : DT K tYes gYes := fun b0 B Z0 Z H σ ρ b ρ' Q ok e q => by
  cases e
  exact q H Z ok (Same.refl Z)
def lcL (vs : List Nat) (k : GG) (t : GT) (e : GE) : List D → Rho → R (List D)
  | [], ρ => .ok [] ρ
  | d :: ds, ρ => match k d ρ with
    | none => .bad
    | some ρ1 => (t ρ1).bind fun b ρ2 => if b then (e ρ2).bind fun y ρ3 => (lcL vs k t e ds (wipeR ρ3 vs)).map (y :: ·) else lcL vs k t e ds (wipeR ρ2 vs)
def eLc (vs : List Nat) (gi : GF) (k : GG) (t : GT) (e : GE) (ρ : Rho) : R (List D) := (gi ρ).bind fun ds ρ1 => if ds.length ≤ sizeLine then (lcL vs k t e ds (wipeR ρ1 vs)).bind fun ys ρ2 => .ok ys (wipeR ρ2 vs) else .bad
theorem df_lc {ti : TI} {tg : TG} {vs : List Nat} {gi : GF} {k : GG} {gt : GT} {ge : GE} (hi : DI K ti gi) (hk : DG K vs tg k) (ht : DT K tt gt) (he : DE K te ge) : DF K (tLc ti tg tt te vs) (eLc vs gi k gt ge) := fun b0 B Z0 Z H σ ρ ys ρ' Q ok e q => by
  obtain ⟨ds, ρ1, e1, e2⟩ := R.bind_ok e
  split at e2
  · rename_i hsz
    obtain ⟨ys', ρ2, e3, e4⟩ := R.bind_ok e2
    cases e4
    refine hi b0 B Z0 Z H σ ρ ds ρ1 _ ok e1 fun J H1 Z1 ok1 s1 wk => fun D hD => ?_
    have W : Walk J ds.length (fun H => Same Z1 H) (fun i H x H' => J.yld i H x H') := ⟨wk.goes, wk.stops, fun _ _ _ _ _ _ y => y⟩
    have bD : B D = none := ok1.bh.free hD
    have zD : Z0 D = none := ok1.zz.free (ok1.zh.free hD)
    refine lc_it W (fun i H => ∃ Z ρ acc da rest, Ok K b0 (upd B D (.lst acc)) Z0 Z H (wipe σ vs) ρ ∧ Same Z1 Z ∧ RpA K Z acc da ∧ acc.length ≤ i ∧ lcL vs k gt ge (ds.drop i) ρ = .ok rest ρ2 ∧ ys = da ++ rest) ?_ (fun i H _ h => ?_) (fun i x H H' hlt h y => ?_) (fun H h => ?_)
    · obtain ⟨okf, zf, bf, af⟩ := ok1.fresh (o := .lst []) hD
      have okw := okf.frame zf af upd_same
      refine ⟨Z1, wipeR ρ1 vs, [], [], ys, okw.wipe vs, Same.refl Z1, .nil, Nat.le_refl 0, ?_, rfl⟩
      rw [List.drop_zero]
      exact e3
    · obtain ⟨Z2, ρ2, acc, da, rest, ok2, s2, _⟩ := h
      exact s2.trans ok2.zh
    · obtain ⟨Z2, ρ2', acc, da, rest, ok2, s2, ra, hl, el, ey⟩ := h
      obtain ⟨Z3, d, ok3, s3, hd, rd⟩ := wk.yields i H x H' hlt y _ _ _ _ _ _ ok2 s2
      have ed : ds.drop i = d :: ds.drop (i + 1) := by
        obtain ⟨hl, e⟩ := List.getElem?_eq_some_iff.mp hd
        rw [← e]
        exact List.drop_eq_getElem_cons hl
      rw [ed] at el
      unfold lcL at el
      split at el
      · cases el
      · rename_i ρ3 hk3
        refine hk _ _ _ Z3 H' (wipe σ vs) ρ2' x d ρ3 _ ok3 rd hk3 fun σ3 ok4 w4 => ⟨w4.trans (wipe_wipe σ vs), ?_⟩
        obtain ⟨b, ρ4, e4, el⟩ := R.bind_ok el
        refine ht _ _ _ Z3 H' σ3 ρ3 b ρ4 _ ok4 e4 fun H5 Z5 ok5 s5 => ?_
        cases b with
        | false =>
          refine ⟨Z5, wipeR ρ4 vs, acc, da, rest, ?_, (s2.trans s3).trans s5, (ra.mono s3).mono s5, Nat.le_succ_of_le hl, el, ey⟩
          have := ok5.wipe vs
          rw [w4, wipe_wipe] at this
          exact this
        | true =>
          obtain ⟨yv, ρ5, e5, el⟩ := R.bind_ok el
          obtain ⟨rest', e6, rfl⟩ := R.map_ok el
          refine he _ _ _ Z5 H5 σ3 ρ4 yv ρ5 _ ok5 e5 fun v H6 Z6 ok6 s6 r6 => ?_
          obtain ⟨_, hz6, ap6, hp6⟩ := ok6.unframe zD bD
          refine ⟨acc, hp6, by omega, Z6, wipeR ρ5 vs, acc ++ [v], da ++ [yv], rest', ?_, ((s2.trans s3).trans s5).trans s6, (((ra.mono s3).mono s5).mono s6).append (.one r6), ?_, e6, ?_⟩
          · have := (ok6.reframe (o' := .lst (acc ++ [v])) zD bD).wipe vs
            rw [w4, wipe_wipe] at this
            exact this
          · rw [List.length_append, List.length_singleton]; omega
          · rw [ey, List.append_assoc]; rfl
    · obtain ⟨Z2, ρ2', acc, da, rest, ok2, s2, ra, hl, el, ey⟩ := h
      rw [List.drop_length] at el
      cases el
      obtain ⟨ok3, hz, ap, hp⟩ := ok2.unframe zD bD
      have ok4 := ok3.unwipe vs
      rw [List.append_nil] at ey
      subst ey
      refine q D acc H Z2 ok4 (s1.trans s2) hz bD (fun i es hi ho hq => ?_) hp ra
      rcases wipeR_get hi with z | ⟨z1, z2⟩
      · subst z; cases ho
      · exact ap i es z2 ho (by rw [wipe_get z1]; exact hq)
  · cases e2
end
end DL
namespace DL
open PySem L2
section
variable {K : PySem.W.Frag} {Wx : WX} {ta tb te : TE} {tt tu : TT} {tas : TA} {t u : TS} {b0 : Option Addr} {B Z0 Z H : Hp} {σ : L2.St} {ρ : Rho} {p : Addr} {o o' : HO}
/-- what a caller hears of the frozen heap behind a call -/
def Grow (H Z Z' H' : Hp) : Prop := Same Z Z' ∧ Same Z' H' ∧ ∀ p o, Z' p = some o → Z p = some o ∨ H p = none
/-- a def that hands back data and changes nothing -/
def spP (K : PySem.W.Frag) (np : Nat) (F : List D → Option D) : Sp := fun vs H Q _ => vs.length = np ∧ ∃ Z ds d, Same Z H ∧ RpA K Z vs ds ∧ F ds = some d ∧ ∀ v H' Z', Same H H' → Grow H Z Z' H' → Rp K Z' v d → Q v H'
/-- .. a new list -/
def spF (K : PySem.W.Frag) (np : Nat) (F : List D → Option (List D)) : Sp := fun vs H Q _ => vs.length = np ∧ ∃ Z ds es, Same Z H ∧ RpA K Z vs ds ∧ F ds = some es ∧ ∀ p ws H' Z', Same H H' → Grow H Z Z' H' → H p = none → Z' p = none → H' p = some (.lst ws) → RpA K Z' ws es → Q (.ref p) H'
/-- a def whose first parameter is a list that it may change -/
def spB (K : PySem.W.Frag) (np : Nat) (F : List D → List D → Option (D × List D)) : Sp := fun vs H Q _ => vs.length = np ∧ ∃ Z b vb box rest ds d box', vs = .ref b :: rest ∧ Same Z H ∧ Z b = none ∧ H b = some (.lst vb) ∧ RpA K Z vb box ∧ RpA K Z rest ds ∧ F box ds = some (d, box') ∧
  ∀ v H' Z' vb', (∀ p o, p ≠ b → H p = some o → H' p = some o) → Grow H Z Z' H' → Z' b = none → H' b = some (.lst vb') → RpA K Z' vb' box' → Rp K Z' v d → Q v H'
def env0 (n : Nat) (args : List D) : Rho := args.map .sh ++ List.replicate (n - args.length) .no
def envB (n : Nat) (box : List D) (args : List D) : Rho := .ow box :: (args.map .sh ++ List.replicate (n - (args.length + 1)) .no)
def callP (np n : Nat) (g : GS) : List D → Option D := fun args => if args.length ≠ np then none else match g (env0 n args) with
  | .rt d _ => some d
  | .nx _ => some .none
  | .rf ds _ => some (.list ds)
  | _ => none
def callF (np n : Nat) (g : GS) : List D → Option (List D) := fun args => if args.length ≠ np then none else match g (env0 n args) with
  | .rf ds _ => some ds
  | _ => none
def box0 (ρ : Rho) : Option (List D) := match (ρ[0]? : Option Sl) with
  | some (.ow b) => some b
  | _ => none
def callB (np n : Nat) (g : GS) : List D → List D → Option (D × List D) := fun box args => if args.length + 1 ≠ np then none else match g (envB n box args) with
  | .rt d ρ => (box0 ρ).map (d, ·)
  | .nx ρ => (box0 ρ).map (.none, ·)
  | .rf ds ρ => (box0 ρ).map (.list ds, ·)
  | _ => none
theorem args_get {vs : List V} {ds : List D} {n m i : Nat} {s : Sl} (r : RpA K Z vs ds) (h : (ds.map Sl.sh ++ List.replicate m .no)[i]? = some s) : s = .no ∨ ∃ d v, s = .sh d ∧ (vs.map some ++ List.replicate n none)[i]? = some (some v) ∧ Rp K Z v d := by
  by_cases hi : i < ds.length
  · rw [List.getElem?_append_left (by rw [List.length_map]; exact hi), List.getElem?_map] at h
    obtain ⟨d, hd, rfl⟩ := Option.map_eq_some_iff.mp h
    obtain ⟨v, hv, rv⟩ := r.get hd
    refine .inr ⟨d, v, rfl, ?_, rv⟩
    rw [List.getElem?_append_left (by rw [List.length_map, r.length]; exact hi), List.getElem?_map, hv]
    rfl
  · rw [List.getElem?_append_right (by rw [List.length_map]; omega), List.getElem?_replicate] at h
    split at h
    · exact .inl (Option.some.inj h).symm
    · cases h
theorem ok_start {N : List Str} {vs : List V} {ds : List D} (s : Same Z H) (r : RpA K Z vs ds) (hn : vs.length ≤ N.length) : Ok K none H Z Z H (L2.start N vs) (env0 N.length ds) := by
  unfold L2.start env0
  refine ⟨?_, Same.refl H, s, Same.refl Z, fun _ _ e => .inl e, fun i d h => ?_, fun i s h ho => ?_, (fun _ z => nomatch z), fun i j p s t h _ ho _ _ _ => ?_⟩
  · rw [List.length_append, List.length_append, List.length_map, List.length_map, List.length_replicate, List.length_replicate, r.length]
  · rcases args_get (n := N.length - vs.length) r h with z | ⟨d', v, e, e2, rv⟩
    · cases z
    · cases e; exact ⟨v, e2, rv⟩
  · rcases args_get (n := N.length - vs.length) r h with z | ⟨d', v, e, e2, rv⟩
    · subst z; cases ho
    · subst e; cases ho
  · rcases args_get (n := N.length - vs.length) r h with z | ⟨d', v, e, e2, rv⟩
    · subst z; cases ho
    · subst e; cases ho
/-- a body that reads as g keeps the promise -/
theorem run_P {N : List Str} {np : Nat} {g : GS} {vs : List V} {Q : VK} {E : XK} (h : DS K (fun _ _ _ _ => False) t g) (hk : np ≤ N.length) (hs : spP K np (callP np N.length g) vs H Q E) : t { nx := fun _ H' => Q .non H', rt := Q } (L2.start N vs) H := by
  obtain ⟨hl, Z, ds, d, sZ, ra, e, q⟩ := hs
  have ok := ok_start (N := N) sZ ra (by omega)
  refine h _ _ _ _ _ _ _ _ ok ?_
  unfold callP at e
  split at e
  · cases e
  split at e
  · rename_i d' ρ' e'
    cases e
    rw [e']
    exact fun v σ' H' Z' ok' r => q v H' Z' ok'.bh ⟨ok'.zz, ok'.zh, ok'.nb⟩ r
  · rename_i ρ' e'
    cases e
    rw [e']
    exact fun σ' H' Z' ok' => q .non H' Z' ok'.bh ⟨ok'.zz, ok'.zh, ok'.nb⟩ .non
  · rename_i ds' ρ' e'
    cases e
    rw [e']
    intro p ws σ' H' Z' ok' zp bp ap hp r
    obtain ⟨ok2, s2⟩ := ok'.freeze zp bp ap hp
    exact q (.ref p) H' _ ok2.bh ⟨ok2.zz, ok2.zh, ok2.nb⟩ (.lst upd_same (r.mono s2))
  · cases e
theorem run_F {N : List Str} {np : Nat} {g : GS} {vs : List V} {Q : VK} {E : XK} (h : DS K (fun _ _ _ _ => False) t g) (hk : np ≤ N.length) (hs : spF K np (callF np N.length g) vs H Q E) : t { nx := fun _ H' => Q .non H', rt := Q } (L2.start N vs) H := by
  obtain ⟨hl, Z, ds, d, sZ, ra, e, q⟩ := hs
  have ok := ok_start (N := N) sZ ra (by omega)
  refine h _ _ _ _ _ _ _ _ ok ?_
  unfold callF at e
  split at e
  · cases e
  split at e
  · rename_i ds' ρ' e'
    cases e
    rw [e']
    intro p ws σ' H' Z' ok' zp bp ap hp r
    exact q p ws H' Z' ok'.bh ⟨ok'.zz, ok'.zh, ok'.nb⟩ bp zp hp r
  · cases e
/-- H without b -/
def but (H : Hp) (b : Addr) : Hp := fun p => if p = b then none else H p
theorem but_same {b : Addr} : but H b b = none := if_pos rfl
theorem but_ne {b q : Addr} (h : q ≠ b) : but H b q = H q := if_neg h
theorem but_le {b : Addr} : Same (but H b) H := fun q o e => by
  by_cases hq : q = b
  · rw [hq, but_same] at e; cases e
  · rw [but_ne hq] at e; exact e
theorem ok_startB {N : List Str} {b : Addr} {vb rest : List V} {box ds : List D} (s : Same Z H) (zb : Z b = none) (hb : H b = some (.lst vb)) (rb : RpA K Z vb box) (r : RpA K Z rest ds) (hn : rest.length + 1 ≤ N.length) : Ok K (some b) (but H b) Z Z H (L2.start N (.ref b :: rest)) (envB N.length box ds) := by
  have len : (L2.start N (.ref b :: rest)) = some (.ref b) :: (rest.map some ++ List.replicate (N.length - (rest.length + 1)) none) := rfl
  rw [len]
  unfold envB
  have zb' : ∀ q o, Z q = some o → (Z q = some o ∨ but H b q = none) := fun q o e => .inl e
  have G : ∀ {i : Nat} {s : Sl}, (Sl.ow box :: (ds.map Sl.sh ++ List.replicate (N.length - (ds.length + 1)) .no))[i]? = some s → (i = 0 ∧ s = .ow box) ∨ s = .no ∨ ∃ j d v, i = j + 1 ∧ s = .sh d ∧ (rest.map some ++ List.replicate (N.length - (rest.length + 1)) none)[j]? = some (some v) ∧ Rp K Z v d := by
    intro i s h
    cases i with
    | zero => exact .inl ⟨rfl, (Option.some.inj h).symm⟩
    | succ j =>
      rw [List.getElem?_cons_succ] at h
      rcases args_get (n := N.length - (rest.length + 1)) r h with z | ⟨d', v, e, e2, rv⟩
      · exact .inr (.inl z)
      · exact .inr (.inr ⟨j, d', v, rfl, e, e2, rv⟩)
  refine ⟨?_, but_le, s, Same.refl Z, zb', fun i d h => ?_, fun i s h ho => ?_, fun a ha ds' h => by cases ha; rfl, fun i j p s t h h' ho ho' _ _ => ?_⟩
  · simp only [List.length_cons, List.length_append, List.length_map, List.length_replicate, r.length]
  · rcases G h with ⟨_, z⟩ | z | ⟨j, d', v, rfl, e, e2, rv⟩
    · cases z
    · cases z
    · cases e; exact ⟨v, by rw [List.getElem?_cons_succ]; exact e2, rv⟩
  · rcases G h with ⟨rfl, z⟩ | z | ⟨j, d', v, rfl, e, e2, rv⟩
    · subst z; exact ⟨b, _, rfl, zb, but_same, hb, vb, rfl, rb⟩
    · subst z; cases ho
    · subst e; cases ho
  · rcases G h with ⟨rfl, z⟩ | z | ⟨j, d', v, rfl, e, e2, rv⟩
    · rcases G h' with ⟨rfl, z⟩ | z | ⟨j, d', v, rfl, e, e2, rv⟩
      · rfl
      · subst z; cases ho'
      · subst e; cases ho'
    · subst z; cases ho
    · subst e; cases ho
theorem box0_ok {b : Addr} {Z' H' : Hp} {σ' : L2.St} {ρ' : Rho} {box' : List D} (ok : Ok K (some b) (but H b) Z0 Z' H' σ' ρ') (h : box0 ρ' = some box') : ∃ vb', Z' b = none ∧ H' b = some (.lst vb') ∧ RpA K Z' vb' box' := by
  unfold box0 at h
  split at h
  · rename_i b' e
    cases h
    obtain ⟨q, vs, e1, e2, e3, e4, e5⟩ := ok.ow 0 _ e
    have z := ok.fix b rfl _ e
    rw [e1] at z
    cases z
    exact ⟨vs, e2, e4, e5⟩
  · cases h
theorem but_nb {b : Addr} {Z' : Hp} (zb : Z' b = none) (h : ∀ p o, Z' p = some o → Z p = some o ∨ but H b p = none) : ∀ p o, Z' p = some o → Z p = some o ∨ H p = none := fun p o e => by
  rcases h p o e with z | z
  · exact .inl z
  · have n : p ≠ b := ne_of_none e zb
    rw [but_ne n] at z
    exact .inr z
theorem but_bh {b : Addr} {H' : Hp} (h : Same (but H b) H') : ∀ p o, p ≠ b → H p = some o → H' p = some o := fun p o n e => h p o (by rw [but_ne n]; exact e)
theorem run_B {N : List Str} {np : Nat} {g : GS} {vs : List V} {Q : VK} {E : XK} (h : DS K (fun _ _ _ _ => False) t g) (hk : np ≤ N.length) (hs : spB K np (callB np N.length g) vs H Q E) : t { nx := fun _ H' => Q .non H', rt := Q } (L2.start N vs) H := by
  obtain ⟨hl, Z, b, vb, box, rest, ds, d, box', rfl, sZ, zb, hb, rb, ra, e, q⟩ := hs
  have ok := ok_startB (N := N) sZ zb hb rb ra (by rw [List.length_cons] at hl; omega)
  refine h _ _ _ _ _ _ _ _ ok ?_
  unfold callB at e
  split at e
  · cases e
  split at e
  · rename_i d' ρ' e'
    obtain ⟨bx, e1, e2⟩ := Option.map_eq_some_iff.mp e
    cases e2
    rw [e']
    intro v σ' H' Z' ok' r
    obtain ⟨vb', z1, z2, z3⟩ := box0_ok ok' e1
    exact q v H' Z' vb' (but_bh ok'.bh) ⟨ok'.zz, ok'.zh, but_nb z1 ok'.nb⟩ z1 z2 z3 r
  · rename_i ρ' e'
    obtain ⟨bx, e1, e2⟩ := Option.map_eq_some_iff.mp e
    cases e2
    rw [e']
    intro σ' H' Z' ok'
    obtain ⟨vb', z1, z2, z3⟩ := box0_ok ok' e1
    exact q .non H' Z' vb' (but_bh ok'.bh) ⟨ok'.zz, ok'.zh, but_nb z1 ok'.nb⟩ z1 z2 z3 .non
  · rename_i ds' ρ' e'
    obtain ⟨bx, e1, e2⟩ := Option.map_eq_some_iff.mp e
    cases e2
    rw [e']
    intro p ws σ' H' Z' ok' zp bp ap hp r
    obtain ⟨ok2, s2⟩ := ok'.freeze zp bp ap hp
    obtain ⟨vb', z1, z2, z3⟩ := box0_ok ok2 e1
    exact q (.ref p) H' _ vb' (but_bh ok2.bh) ⟨ok2.zz, ok2.zh, but_nb z1 ok2.nb⟩ z1 z2 z3 (.lst upd_same (r.mono s2))
  · cases e
def flatD : D → Bool
  | .none => true
  | .bool _ => true
  | .int _ => true
  | .str _ => true
  | _ => false
/-- a call, its arguments data -/
def eCall {α : Type} (F : List D → Option α) (ga : GA) (ρ : Rho) : R α := (ga ρ).bind fun os ρ1 => match valA os with
  | some ds => R.lift (F ds) ρ1
  | none => .bad
theorem call_ok {α : Type} {F : List D → Option α} {ga : GA} {ρ ρ' : Rho} {z : α} (e : eCall F ga ρ = .ok z ρ') : ∃ os ds, ga ρ = .ok os ρ' ∧ valA os = some ds ∧ F ds = some z := by
  obtain ⟨x, ρ1, e1, e2⟩ := R.bind_ok e
  split at e2
  · rename_i d h1
    obtain ⟨e5, rfl⟩ := R.lift_ok e2
    exact ⟨x, d, e1, h1, e5⟩
  · cases e2
/-- behind a call that keeps all -/
theorem Ok.grow {Z' H' : Hp} (ok : Ok K b0 B Z0 Z H σ ρ) (hh : Same H H') (g : Grow H Z Z' H') : Ok K b0 B Z0 Z' H' σ ρ := by
  refine ⟨ok.len, ok.bh.trans hh, g.2.1, ok.zz.trans g.1, fun p o e => ?_, fun i d e => ?_, fun i s e eo => ?_, ok.fix, ok.sepS⟩
  · rcases g.2.2 p o e with z | z
    · exact ok.nb p o z
    · exact .inr (ok.bh.free z)
  · obtain ⟨v, e1, e2⟩ := ok.sh i d e
    exact ⟨v, e1, e2.mono g.1⟩
  · obtain ⟨q, vs, e1, e2, e3, e4, e5⟩ := ok.own i s e eo
    refine ⟨q, vs, e1, ?_, e3, hh _ _ e4, e5.mono g.1⟩
    cases z : Z' q with
    | none => rfl
    | some o =>
      rcases g.2.2 q o z with y | y
      · rw [e2] at y; cases y
      · rw [e4] at y; cases y
theorem OpA.length {Z : Hp} {σ : L2.St} : ∀ {vs : List V} {os : List Op}, OpA K Z σ vs os → vs.length = os.length
  | _, _, .nil => rfl
  | _, _, .cons _ r => by rw [List.length_cons, List.length_cons, OpA.length r]
theorem callP_len {np n : Nat} {g : GS} : ∀ ds d, callP np n g ds = some d → ds.length = np := fun ds d h => by
  unfold callP at h
  split at h
  · cases h
  · omega
theorem callF_len {np n : Nat} {g : GS} : ∀ ds d, callF np n g ds = some d → ds.length = np := fun ds d h => by
  unfold callF at h
  split at h
  · cases h
  · omega
theorem callB_len {np n : Nat} {g : GS} : ∀ b ds d, callB np n g b ds = some d → ds.length + 1 = np := fun b ds d h => by
  unfold callB at h
  split at h
  · cases h
  · omega
theorem de_call {np : Nat} {F : List D → Option D} {ga : GA} {E : XK} (hF : ∀ ds d, F ds = some d → ds.length = np) (ha : DA K tas ga) : DE K (tCall (spP K np F) [] E tas) (eCall F ga) := fun b0 B Z0 Z H σ ρ d ρ' Q ok e q => by
  obtain ⟨os, ds, e1, e2, e3⟩ := call_ok e
  refine ha b0 B Z0 Z H σ ρ os ρ' _ ok e1 fun vs H1 Z1 ok1 s1 r1 => ?_
  have rA := valA_ok r1 e2
  refine ⟨by rw [List.append_nil, rA.length]; exact hF _ _ e3, Z1, ds, d, ok1.zh, by rw [List.append_nil]; exact rA, e3, fun v H' Z' hh g r => ?_⟩
  exact q v H' Z' (ok1.grow hh g) (s1.trans g.1) r
theorem df_call {np : Nat} {F : List D → Option (List D)} {ga : GA} {E : XK} (hF : ∀ ds d, F ds = some d → ds.length = np) (ha : DA K tas ga) : DF K (tCall (spF K np F) [] E tas) (eCall F ga) := fun b0 B Z0 Z H σ ρ d ρ' Q ok e q => by
  obtain ⟨os, ds, e1, e2, e3⟩ := call_ok e
  refine ha b0 B Z0 Z H σ ρ os ρ' _ ok e1 fun vs H1 Z1 ok1 s1 r1 => ?_
  have rA := valA_ok r1 e2
  refine ⟨by rw [List.append_nil, rA.length]; exact hF _ _ e3, Z1, ds, d, ok1.zh, by rw [List.append_nil]; exact rA, e3, fun p ws H' Z' hh g hp zp hp' r => ?_⟩
  refine q p ws H' Z' (ok1.grow hh g) (s1.trans g.1) zp (ok1.bh.free hp) (fun i es hi ho hq => ?_) hp' r
  obtain ⟨q', vs', f1, _, _, f4, _⟩ := ok1.own i es hi ho
  rw [f1] at hq
  cases hq
  rw [hp] at f4
  cases f4
/-- a call whose answer is flat; its arguments may be lists of one's own -/
def eCallO (F : List D → Option D) (ga : GA) (ρ : Rho) : R D := (ga ρ).bind fun os ρ1 => match resA os ρ1 with
  | some ds => (match F ds with
    | some d => if flatD d then .ok d ρ1 else .bad
    | none => .bad)
  | none => .bad
theorem Ok.later {H' : Hp} (ok : Ok K b0 B Z0 Z H σ ρ) (hh : Same H H') : Ok K b0 B Z0 Z H' σ ρ :=
  ok.grow hh ⟨Same.refl Z, ok.zh.trans hh, fun _ _ e => .inl e⟩
theorem BdA.length {Z H : Hp} : ∀ {vs : List V} {ds : List D}, BdA K Z H vs ds → vs.length = ds.length
  | _, _, .nil => rfl
  | _, _, .cons _ r => by rw [List.length_cons, List.length_cons, BdA.length r]
/-- a call of a def that may change the list in slot i -/
def eCallB (F : List D → List D → Option (D × List D)) (i : Nat) (ga : GA) (ρ : Rho) : R D := if isOw ρ[i]? then (ga ρ).bind fun os ρ1 => match ρ1[i]?, valA os with
    | some (.ow box), some ds => (match F box ds with
      | some (d, box') => .ok d (ρ1.set i (.ow box'))
      | none => .bad)
    | _, _ => .bad
  else .bad
theorem Ok.growB {Z' H' : Hp} {b : Addr} {vb' : List V} {i : Nat} {box box' : List D} (ok : Ok K b0 B Z0 Z H σ ρ) (hi : ρ[i]? = some (.ow box)) (hb : σ[i]? = some (some (.ref b))) (hh : ∀ p o, p ≠ b → H p = some o → H' p = some o) (g : Grow H Z Z' H')
    (zb : Z' b = none) (hb' : H' b = some (.lst vb')) (r : RpA K Z' vb' box') : Ok K b0 B Z0 Z' H' σ (ρ.set i (.ow box')) := by
  obtain ⟨b1, vb, f1, f2, f3, f4, f5⟩ := ok.ow i box hi
  rw [hb] at f1
  cases f1
  have hl : i < ρ.length := by
    by_cases z : i < ρ.length
    · exact z
    · rw [List.getElem?_eq_none (by simpa using z)] at hi; cases hi
  refine ⟨by rw [List.length_set]; exact ok.len, fun p o e => hh p o (ne_of_none e f3) (ok.bh p o e), g.2.1, ok.zz.trans g.1, fun p o e => ?_, fun j d e => ?_, fun j s e eo => ?_, fun a ha ds e => ?_, fun j k q s t e1 e2 o1 o2 e3 e4 => ?_⟩
  · rcases g.2.2 p o e with z | z
    · exact ok.nb p o z
    · exact .inr (ok.bh.free z)
  · rcases set_get e with ⟨_, z⟩ | ⟨n, e⟩
    · cases z
    · obtain ⟨v, e1, e2⟩ := ok.sh j d e
      exact ⟨v, e1, e2.mono g.1⟩
  · rcases set_get e with ⟨rfl, z⟩ | ⟨n, e⟩
    · subst z
      exact ⟨b, _, hb, zb, f3, hb', vb', rfl, r⟩
    · obtain ⟨q, vs, e1, e2, e3, e4, e5⟩ := ok.own j s e eo
      have nq : q ≠ b := fun z => n (ok.sepS i j b _ s hi e rfl eo hb (by rw [e1, z]))
      refine ⟨q, vs, e1, ?_, e3, hh _ _ nq e4, e5.mono g.1⟩
      cases z : Z' q with
      | none => rfl
      | some o =>
        rcases g.2.2 q o z with y | y
        · rw [e2] at y; cases y
        · rw [e4] at y; cases y
  · rcases set_get e with ⟨rfl, z⟩ | ⟨n, e⟩
    · exact ok.fix a ha box hi
    · exact ok.fix a ha ds e
  · have G : ∀ {j : Nat} {as : Sl}, (ρ.set i (.ow box'))[j]? = some as → as.isO = true → ∃ as', ρ[j]? = some as' ∧ as'.isO = true := fun {j as} e ho => by
      rcases set_get e with ⟨rfl, z⟩ | ⟨n, e⟩
      · exact ⟨.ow box, hi, rfl⟩
      · exact ⟨as, e, ho⟩
    obtain ⟨_, y1, z1⟩ := G e1 o1
    obtain ⟨_, y2, z2⟩ := G e2 o2
    exact ok.sepS j k q _ _ y1 y2 z1 z2 e3 e4
theorem de_callB {np : Nat} {F : List D → List D → Option (D × List D)} {i : Nat} {ga : GA} {E : XK} (hF0 : ∀ b ds d, F b ds = some d → ds.length + 1 = np) (ha : DA K tas ga) : DE K (tCall (spB K np F) [] E (tCons (tVar i) tas)) (eCallB F i ga) := fun b0 B Z0 Z H σ ρ d ρ' Q ok e q => by
  unfold eCallB at e
  split at e
  · rename_i h0
    obtain ⟨b, vb0, e0, hb0⟩ := ok.isOw h0
    obtain ⟨os, ρ1, e1, e⟩ := R.bind_ok e
    split at e
    · rename_i box ds hi hv
      split at e
      · rename_i d' box' hF
        cases e
        refine ⟨.ref b, e0, ?_⟩
        refine ha b0 B Z0 Z H σ ρ os ρ1 _ ok e1 fun vs H1 Z1 ok1 s1 r1 => ?_
        obtain ⟨b1, vb, f1, f2, f3, f4, f5⟩ := ok1.ow i box hi
        rw [e0] at f1
        cases f1
        have rA := valA_ok r1 hv
        refine ⟨by rw [List.append_nil, List.length_cons, rA.length]; exact hF0 _ _ _ hF, Z1, b, vb, box, vs, ds, d, box', by rw [List.append_nil], ok1.zh, f2, f4, f5, rA, hF, fun v H' Z' vb' hh g zb hb' rb r => ?_⟩
        exact q v H' Z' (ok1.growB hi e0 hh g zb hb' rb) (s1.trans g.1) r
      · cases e
    · cases e
  · cases e
end
end DL
namespace DL
open PySem L2
def sz (n : Nat) : Bool := decide (n ≤ sizeLine)
def addD : D → D → Option D
  | .int i, .int j => some (.int (i + j))
  | .str x, .str y => if x.length + y.length ≤ sizeLine then some (.str (x ++ y)) else none
  | .tuple xs, .tuple ys => if xs.length + ys.length ≤ sizeLine then some (.tuple (xs ++ ys)) else none
  | _, _ => none
def addL : D → D → Option (List D)
  | .list xs, .list ys => if xs.length + ys.length ≤ sizeLine then some (xs ++ ys) else none
  | _, _ => none
def subD : D → D → Option D
  | .int i, .int j => some (.int (i - j))
  | _, _ => none
instance (i j : Int) : Decidable (CMul i j) := inferInstanceAs (Decidable (_ ∨ _))
instance (i j : Int) : Decidable (CMulW i j) := inferInstanceAs (Decidable (_ < _))
/-- a small factor, or together less than a million bits -/
def CMulU (i j : Int) : Prop := CMul i j ∨ CMulW i j
instance (i j : Int) : Decidable (CMulU i j) := inferInstanceAs (Decidable (_ ∨ _))
theorem CMulU.ok {i j : Int} (h : CMulU i j) : _root_.PySem.IntMulOk i j := h.elim CMul.ok CMulW.ok
def mulD : D → D → Option D
  | .int i, .int j => if CMulU i j then some (.int (i * j)) else none
  | _, _ => none
def repL : D → D → Option (List D)
  | .list xs, .int k => if -(2 ^ 63) ≤ k ∧ k < 2 ^ 63 ∧ xs.length * k.toNat ≤ sizeLine then some (List.replicate k.toNat xs).flatten else none
  | _, _ => none
def fdivD : D → D → Option D
  | .int i, .int j => if 0 < j ∧ j.natAbs.log2 < 9000 then some (.int (i / j)) else none
  | _, _ => none
def modD : D → D → Option D
  | .int i, .int j => if 0 < j then some (.int (i % j)) else none
  | _, _ => none
def powD : D → D → Option D
  | .int i, .int j => if 0 ≤ j ∧ j ≤ 1000000 ∧ i.natAbs < 2 ^ 64 then some (.int (i ^ j.toNat)) else none
  | _, _ => none
def eqD (d e : D) : Option D := if SeqAt.shaped d = true ∧ SeqAt.shaped e = true then some (.bool (PyData.eqv d e)) else none
def neD (d e : D) : Option D := if SeqAt.shaped d = true ∧ SeqAt.shaped e = true then some (.bool (!PyData.eqv d e)) else none
def ltD : D → D → Option D
  | .int i, .int j => some (.bool (decide (i < j)))
  | _, _ => none
def leD : D → D → Option D
  | .int i, .int j => some (.bool (decide (i ≤ j)))
  | _, _ => none
def gtD : D → D → Option D
  | .int i, .int j => some (.bool (decide (j < i)))
  | _, _ => none
def geD : D → D → Option D
  | .int i, .int j => some (.bool (decide (j ≤ i)))
  | _, _ => none
def isNoneD : D → Bool
  | .none => true
  | _ => false
def isD : D → D → Option D
  | d, .none => some (.bool (isNoneD d))
  | _, _ => none
def isNotD : D → D → Option D
  | d, .none => some (.bool (!isNoneD d))
  | _, _ => none
def negD : D → Option D
  | .int i => some (.int (-i))
  | _ => none
section
variable {X : Cx} {K : PySem.W.Frag}
theorem opr_or {f : Value → Value → Sem Value} {r r' : R2} (h : OpR X f r) (h' : OpR X f r') : OpR X f (fun x y H Q => r x y H Q ∨ r' x y H Q) := fun pins s σ H x y v u Q I rx ry q => by
  rcases q with q | q
  · exact h pins s σ H x y v u Q I rx ry q
  · exact h' pins s σ H x y v u Q I rx ry q
theorem sn2_mono {r r' : R2} {f : D → D → Option D} (h : Sn2 K r f) (m : ∀ x y H Q, r x y H Q → r' x y H Q) : Sn2 K r' f := fun b0 B Z0 Z H σ ρ x y a b c Q ok ha hb e q => m _ _ _ _ (h b0 B Z0 Z H σ ρ x y a b c Q ok ha hb e q)
/-- a rule on two ints -/
theorem sn_i0 {g : Int → Int → V} {f : D → D → Option D} (hf : ∀ a b c, f a b = some c → ∃ i j, a = .int i ∧ b = .int j ∧ ∀ Z, Rp K Z (g i j) c) : Sn2 K (rI0 g) f := fun b0 B Z0 Z H σ ρ x y a b c Q ok ha hb e q => by
  obtain ⟨i, j, rfl, rfl, r⟩ := hf a b c e
  cases ha
  cases hb
  exact ⟨i, j, rfl, rfl, q _ H Z ok (Same.refl Z) (r Z)⟩
theorem sn_iC {C : Int → Int → Prop} {g : Int → Int → V} {f : D → D → Option D} (hf : ∀ a b c, f a b = some c → ∃ i j, a = .int i ∧ b = .int j ∧ C i j ∧ ∀ Z, Rp K Z (g i j) c) : Sn2 K (rI C g) f := fun b0 B Z0 Z H σ ρ x y a b c Q ok ha hb e q => by
  obtain ⟨i, j, rfl, rfl, hc, r⟩ := hf a b c e
  cases ha
  cases hb
  exact ⟨i, j, rfl, rfl, hc, q _ H Z ok (Same.refl Z) (r Z)⟩
theorem sn_sub : Sn2 K (rI0 fun i j => .int (i - j)) subD := sn_i0 fun a b c e => by
  unfold subD at e; split at e <;> cases e; exact ⟨_, _, rfl, rfl, fun _ => .int _⟩
theorem sn_mulI : Sn2 K (rI CMulU fun i j => .int (i * j)) mulD := sn_iC fun a b c e => by
  unfold mulD at e
  split at e
  · split at e
    · cases e; exact ⟨_, _, rfl, rfl, by assumption, fun _ => .int _⟩
    · cases e
  · cases e
theorem sn_fdiv : Sn2 K (rI CDivW fun i j => .int (i / j)) fdivD := sn_iC fun a b c e => by
  unfold fdivD at e
  split at e
  · split at e
    · cases e; exact ⟨_, _, rfl, rfl, by assumption, fun _ => .int _⟩
    · cases e
  · cases e
theorem sn_mod : Sn2 K (rI (fun _ j => 0 < j) fun i j => .int (i % j)) modD := sn_iC fun a b c e => by
  unfold modD at e
  split at e
  · split at e
    · cases e; exact ⟨_, _, rfl, rfl, by assumption, fun _ => .int _⟩
    · cases e
  · cases e
theorem sn_pow : Sn2 K (rI CPow fun i j => .int (i ^ j.toNat)) powD := sn_iC fun a b c e => by
  unfold powD at e
  split at e
  · split at e
    · cases e; exact ⟨_, _, rfl, rfl, by assumption, fun _ => .int _⟩
    · cases e
  · cases e
theorem sn_lt : Sn2 K (rI0 fun i j => .bl (decide (i < j))) ltD := sn_i0 fun a b c e => by
  unfold ltD at e; split at e <;> cases e; exact ⟨_, _, rfl, rfl, fun _ => .bl _⟩
theorem sn_gt : Sn2 K (rI0 fun i j => .bl (decide (j < i))) gtD := sn_i0 fun a b c e => by
  unfold gtD at e; split at e <;> cases e; exact ⟨_, _, rfl, rfl, fun _ => .bl _⟩
theorem sn_ge : Sn2 K (rI0 fun i j => .bl (decide (j ≤ i))) geD := sn_i0 fun a b c e => by
  unfold geD at e; split at e <;> cases e; exact ⟨_, _, rfl, rfl, fun _ => .bl _⟩
def rAddI : R2 := rI0 fun i j => .int (i + j)
def rAddS : R2 := fun x y H Q => ∃ i j, x = .str i ∧ y = .str j ∧ i.length + j.length ≤ sizeLine ∧ Q (.str (i ++ j)) H
def rAddU (K : PySem.W.Frag) : R2 := fun x y H Q => rAddI x y H Q ∨ rAddS x y H Q ∨ rCatA K x y H Q ∨ rCat x y H Q
theorem op_addU : OpR X (binaryOp .Add) (rAddU X.K) := opr_or op_add (opr_or op_add_str (opr_or op_catA op_cat))
theorem sn_add : Sn2 K (rAddU K) addD := fun b0 B Z0 Z H σ ρ x y a b c Q ok ha hb e q => by
  unfold addD at e
  split at e
  · cases e; cases ha; cases hb
    exact .inl ⟨_, _, rfl, rfl, q _ H Z ok (Same.refl Z) (.int _)⟩
  · split at e
    · cases e; cases ha; cases hb
      exact .inr (.inl ⟨_, _, rfl, rfl, by assumption, q _ H Z ok (Same.refl Z) (.str _)⟩)
    · cases e
  · split at e
    · rename_i hl
      cases e
      cases ha with
      | tup h1 r1 =>
      cases hb with
      | tup h2 r2 =>
      refine .inr (.inr (.inl ⟨_, _, _, _, rfl, rfl, same_t ok.zh h1, same_t ok.zh h2, by rw [r1.length, r2.length]; exact hl, fun z => ?_, fun _ z => ?_, fun _ _ p hp => ?_⟩))
      · subst z
        cases r1
        exact q _ H Z ok (Same.refl Z) (.tup h2 r2)
      · subst z
        cases r2
        rw [List.append_nil] at q
        exact q _ H Z ok (Same.refl Z) (.tup h1 r1)
      · obtain ⟨ok2, s2⟩ := ok.new (o := .tup _) hp
        exact q _ _ _ ok2 s2 (.tup (.inl (.inl upd_same)) ((r1.append r2).mono s2))
    · cases e
  · cases e
theorem sn_addL : Sn2F K (rAddU K) addL := fun b0 B Z0 Z H σ ρ x y a b c Q ok ha hb e q => by
  unfold addL at e
  split at e
  · split at e
    · rename_i hl
      cases e
      cases ha with
      | lst h1 r1 =>
      cases hb with
      | lst h2 r2 =>
      refine .inr (.inr (.inr ⟨_, _, _, _, rfl, rfl, h1, h2, by rw [r1.length, r2.length]; exact hl, fun p hp => ?_⟩))
      obtain ⟨ok2, zp, bp, ap⟩ := ok.fresh (o := .lst _) hp
      exact q p _ _ ok2 zp bp ap upd_same (r1.append r2)
    · cases e
  · cases e
theorem op_mulC : OpR X (binaryOp .Mult) (rI CMulU fun i j => .int (i * j)) := opI fun _ _ _ _ _ _ _ hc q => PyProof.Rows.mul_int q hc.ok
def rMulU : R2 := fun x y H Q => rI CMulU (fun i j => .int (i * j)) x y H Q ∨ rRep x y H Q
theorem op_mulU : OpR X (binaryOp .Mult) rMulU := opr_or op_mulC op_rep
theorem sn_mul : Sn2 K rMulU mulD := sn2_mono sn_mulI fun _ _ _ _ h => .inl h
theorem flat_rep {vs : List V} {ds : List D} {Z : Hp} (r : RpA K Z vs ds) : ∀ n : Nat, RpA K Z (List.replicate n vs).flatten (List.replicate n ds).flatten
  | 0 => .nil
  | n + 1 => by
    rw [List.replicate_succ, List.replicate_succ, List.flatten_cons, List.flatten_cons]
    exact r.append (flat_rep r n)
theorem sn_repL : Sn2F K rMulU repL := fun b0 B Z0 Z H σ ρ x y a b c Q ok ha hb e q => by
  unfold repL at e
  split at e
  · split at e
    · rename_i hl
      cases e
      cases hb
      cases ha with
      | lst h1 r1 =>
      refine .inr ⟨_, _, _, rfl, rfl, h1, hl.1, hl.2.1, by rw [r1.length]; exact hl.2.2, fun p hp => ?_⟩
      obtain ⟨ok2, zp, bp, ap⟩ := ok.fresh (o := .lst _) hp
      exact q p _ _ ok2 zp bp ap upd_same (flat_rep r1 _)
    · cases e
  · cases e
mutual
theorem noD_of : ∀ d : D, d.canLay0 = true → noD d = true
  | .none, _ => by simp [noD]
  | .bool _, _ => by simp [noD]
  | .int _, _ => by simp [noD]
  | .str _, _ => by simp [noD]
  | .list xs, h => by
    simp only [noD]
    exact noDs_of xs (by simpa [PyData.canLay0] using h)
  | .tuple xs, h => by
    simp only [noD]
    exact noDs_of xs (by simpa [PyData.canLay0] using h)
  | .dict _, h => by simp [PyData.canLay0] at h
theorem noDs_of : ∀ xs : List D, PyData.canLayAll0 xs = true → noDs xs = true
  | [], _ => by simp [noDs]
  | x :: xs, h => by
    have h' : x.canLay0 = true ∧ PyData.canLayAll0 xs = true := by simpa [PyData.canLayAll0] using h
    simp only [noDs, noD_of x h'.1, noDs_of xs h'.2, Bool.and_self]
end
theorem shaped_noD {d : D} (h : SeqAt.shaped d = true) : noD d = true := by
  unfold SeqAt.shaped at h
  rw [Bool.and_eq_true] at h
  exact noD_of d h.1
theorem bd_rp {Z H : Hp} {v : V} {d : D} (s : Same Z H) (h : Bd K Z H v d) : Rp K H v d := by
  cases h with
  | non => exact .non
  | bl b => exact .bl b
  | int i => exact .int i
  | str x => exact .str x
  | lst h r => exact .lst h (r.mono s)
  | scr h r => exact .scr h (r.mono s)
  | tup h r => exact .tup (same_t s h) (r.mono s)
  | exc h1 h2 h3 r => exact .exc (s _ _ h1) (s _ _ h2) h3 (r.mono s)
  | dct h r => exact .dct h (r.mono s)
theorem sn_eq : Sn2 K (rEqD K) eqD := fun b0 B Z0 Z H σ ρ x y a b c Q ok ha hb e q => by
  unfold eqD at e
  split at e
  · rename_i h
    cases e
    exact ⟨a, b, (bd_rp ok.zh ha).dp (shaped_noD h.1), (bd_rp ok.zh hb).dp (shaped_noD h.2), h.1, h.2, q _ H Z ok (Same.refl Z) (.bl _)⟩
  · cases e
theorem sn_ne : Sn2 K (rNeD K) neD := fun b0 B Z0 Z H σ ρ x y a b c Q ok ha hb e q => by
  unfold neD at e
  split at e
  · rename_i h
    cases e
    exact ⟨a, b, (bd_rp ok.zh ha).dp (shaped_noD h.1), (bd_rp ok.zh hb).dp (shaped_noD h.2), h.1, h.2, q _ H Z ok (Same.refl Z) (.bl _)⟩
  · cases e
theorem non_iff {Z H : Hp} {v : V} {d : D} (h : Bd K Z H v d) : decide (v = V.non) = isNoneD d := by
  cases h <;> rfl
def rIsU : R2 := fun x y H Q => (y = .non ∧ Q (.bl (decide (x = .non))) H)
def rIsNotU : R2 := fun x y H Q => (y = .non ∧ Q (.bl (!decide (x = .non))) H)
theorem op_isU : OpR X (compareOp .Is) rIsU := op_isN
theorem op_isNotU : OpR X (compareOp .IsNot) rIsNotU := op_notN
theorem sn_is : Sn2 K rIsU isD := fun b0 B Z0 Z H σ ρ x y a b c Q ok ha hb e q => by
  unfold isD at e
  split at e
  · cases e; cases hb
    exact ⟨rfl, q _ H Z ok (Same.refl Z) (by rw [non_iff ha]; exact .bl _)⟩
  · cases e
theorem sn_isNot : Sn2 K rIsNotU isNotD := fun b0 B Z0 Z H σ ρ x y a b c Q ok ha hb e q => by
  unfold isNotD at e
  split at e
  · cases e; cases hb
    exact ⟨rfl, q _ H Z ok (Same.refl Z) (by rw [non_iff ha]; exact .bl _)⟩
  · cases e
theorem sn_neg : Sn1 K (rU fun i => .int (-i)) negD := fun b0 B Z0 Z H σ ρ x a c Q ok ha e q => by
  unfold negD at e
  split at e
  · cases e; cases ha
    exact ⟨_, rfl, q _ H Z ok (Same.refl Z) (.int _)⟩
  · cases e
def ixD : D → D → Option D
  | .list xs, .int i => atI xs i
  | .dict [(.list xs, .none)], .int i => atI xs i
  | .tuple xs, .int i => atI xs i
  | .str z, .int i => if z.length ≤ sizeLine then (atI z.cps.toList i).map fun c => .str ⟨#[c]⟩ else none
  | _, _ => none
theorem atI_rp {Z : Hp} {vs : List V} {ds : List D} {i : Int} {d : D} (r : RpA K Z vs ds) (h : atI ds i = some d) : ∃ v, atI vs i = some v ∧ Rp K Z v d := by
  unfold atI at h ⊢
  rw [r.length]
  obtain ⟨j, e1, e2⟩ := Option.bind_eq_some_iff.mp h
  obtain ⟨v, e3, rv⟩ := r.get e2
  exact ⟨v, by rw [e1]; exact e3, rv⟩
theorem sn_ix : Sn2 K (rIx K) ixD := fun b0 B Z0 Z H σ ρ x y a b c Q ok ha hb e q => by
  unfold ixD at e
  split at e
  · cases hb
    cases ha with
    | lst h r =>
    obtain ⟨v, e1, rv⟩ := atI_rp r e
    exact .inl ⟨_, _, _, v, rfl, rfl, .inl (.inl h), e1, q v H Z ok (Same.refl Z) rv⟩
  · cases hb
    cases ha with
    | scr h r =>
    obtain ⟨v, e1, rv⟩ := atI_rp r e
    exact .inl ⟨_, _, _, v, rfl, rfl, h, e1, q v H Z ok (Same.refl Z) rv⟩
  · cases hb
    cases ha with
    | tup h r =>
    obtain ⟨v, e1, rv⟩ := atI_rp r e
    exact .inr (.inl ⟨_, _, _, v, rfl, rfl, same_t ok.zh h, e1, q v H Z ok (Same.refl Z) rv⟩)
  · split at e
    · rename_i hz
      cases hb
      cases ha
      obtain ⟨c', e1, rfl⟩ := Option.map_eq_some_iff.mp e
      exact .inr (.inr ⟨_, _, c', rfl, rfl, hz, e1, q _ H Z ok (Same.refl Z) (.str _)⟩)
    · cases e
  · cases e
end
end DL
namespace DL
open PySem L2
section
variable {X : Cx} {K : PySem.W.Frag} {ta tb te tc : TE} {tas : TA}
def eChain (f f' : D → D → Option D) (a b c : GO) (ρ : Rho) : R D := (a ρ).bind fun x ρ1 => (b ρ1).bind fun y ρ2 => match x.res ρ2, y.res ρ2 with
  | some d, some e => (match f d e with
    | some (.bool true) => (c ρ2).bind fun z ρ3 => (match y.res ρ3, z.res ρ3 with
      | some e', some k => R.lift (f' e' k) ρ3
      | _, _ => .bad)
    | some (.bool false) => .ok (.bool false) ρ2
    | _ => .bad)
  | _, _ => .bad
theorem de_chain {r r' : R2} {f f' : D → D → Option D} {ga gb gc : GO} (sn : Sn2 K r f) (sn' : Sn2 K r' f') (ha : DO K ta ga) (hb : DO K tb gb) (hc : DO K tc gc) : DE K (tChain r r' ta tb tc) (eChain f f' ga gb gc) := fun b0 B Z0 Z H σ ρ d ρ' Q ok e q => by
  obtain ⟨x, ρ1, e1, e⟩ := R.bind_ok e
  obtain ⟨y, ρ2, e2, e⟩ := R.bind_ok e
  refine ha b0 B Z0 Z H σ ρ x ρ1 _ ok e1 fun v H1 Z1 ok1 s1 r1 => ?_
  refine hb b0 B Z0 Z1 H1 σ ρ1 y ρ2 _ ok1 e2 fun u H2 Z2 ok2 s2 r2 => ?_
  split at e
  · rename_i d1 d2 h1 h2
    split at e
    · rename_i hf
      refine sn b0 B Z0 Z2 H2 σ ρ2 v u d1 d2 _ _ ok2 (ok2.bd (r1.mono s2) h1) (ok2.bd r2 h2) hf fun w H3 Z3 ok3 s3 r3 => ?_
      cases r3
      refine ⟨true, rfl, ?_⟩
      obtain ⟨z, ρ3, e3, e⟩ := R.bind_ok e
      refine hc b0 B Z0 Z3 H3 σ ρ2 z ρ3 _ ok3 e3 fun w4 H4 Z4 ok4 s4 r4 => ?_
      split at e
      · rename_i e' k h3 h4
        obtain ⟨e5, rfl⟩ := R.lift_ok e
        exact sn' b0 B Z0 Z4 H4 σ ρ3 u w4 e' k d Q ok4 (ok4.bd ((r2.mono s3).mono s4) h3) (ok4.bd r4 h4) e5 fun w5 H5 Z5 ok5 s5 r5 => q w5 H5 Z5 ok5 ((((s1.trans s2).trans s3).trans s4).trans s5) r5
      · cases e
    · rename_i hf
      cases e
      refine sn b0 B Z0 Z2 H2 σ _ v u d1 d2 _ _ ok2 (ok2.bd (r1.mono s2) h1) (ok2.bd r2 h2) hf fun w H3 Z3 ok3 s3 r3 => ?_
      cases r3
      exact ⟨false, rfl, q _ H3 Z3 ok3 ((s1.trans s2).trans s3) (.bl false)⟩
    · cases e
  · cases e
abbrev GP := Rho → R (Option Int)
def DP (K : PySem.W.Frag) (t : TO) (g : GP) : Prop := ∀ b0 B Z0 Z H σ ρ o ρ' (Q : Option Int → Hp → Prop), Ok K b0 B Z0 Z H σ ρ → g ρ = .ok o ρ' → (∀ H' Z', Ok K b0 B Z0 Z' H' σ ρ' → Same Z Z' → Q o H') → t σ H Q
def pNo (ρ : Rho) : R (Option Int) := .ok none ρ
def pSo (g : GE) (ρ : Rho) : R (Option Int) := (g ρ).bind fun d ρ1 => match d with
  | .int i => .ok (some i) ρ1
  | _ => .bad
theorem dp_no : DP K tNoPart pNo := fun b0 B Z0 Z H σ ρ o ρ' Q ok e q => by
  cases e
  exact q H Z ok (Same.refl Z)
theorem dp_so {g : GE} (h : DE K te g) : DP K (tPart te) (pSo g) := fun b0 B Z0 Z H σ ρ o ρ' Q ok e q => by
  obtain ⟨d, ρ1, e1, e⟩ := R.bind_ok e
  split at e
  · cases e
    refine h b0 B Z0 Z H σ ρ _ _ _ ok e1 fun v H1 Z1 ok1 s1 r1 => ?_
    cases r1
    exact ⟨_, rfl, q H1 Z1 ok1 s1⟩
  · cases e
def cutD {α : Type} (xs : List α) (lo hi : Option Int) : List α := (xs.drop (HT.sIx xs.length 0 lo)).take (HT.sIx xs.length xs.length hi - HT.sIx xs.length 0 lo)
theorem cut_rp {Z : Hp} {vs : List V} {ds : List D} {lo hi : Option Int} (r : RpA K Z vs ds) : RpA K Z (cutV vs lo hi) (cutD ds lo hi) := by
  unfold cutV cutD
  rw [r.length]
  exact (r.drop _).take _
def SnSl (K : PySem.W.Frag) (r : V → Option Int → Option Int → Hp → VK → Prop) (f : D → Option Int → Option Int → Option D) : Prop := ∀ b0 B Z0 Z H σ ρ x a lo hi c (Q : VK), Ok K b0 B Z0 Z H σ ρ → Bd K Z H x a → f a lo hi = some c → (∀ v H' Z', Ok K b0 B Z0 Z' H' σ ρ → Same Z Z' → Rp K Z' v c → Q v H') → r x lo hi H Q
def SnSlF (K : PySem.W.Frag) (r : V → Option Int → Option Int → Hp → VK → Prop) (f : D → Option Int → Option Int → Option (List D)) : Prop := ∀ b0 B Z0 Z H σ ρ x a lo hi c (Q : VK), Ok K b0 B Z0 Z H σ ρ → Bd K Z H x a → f a lo hi = some c →
  (∀ p vs H', Ok K b0 B Z0 Z H' σ ρ → Z p = none → B p = none → Apart σ ρ p → H' p = some (.lst vs) → RpA K Z vs c → Q (.ref p) H') → r x lo hi H Q
def rSlU (K : PySem.W.Frag) : V → Option Int → Option Int → Hp → VK → Prop := fun x lo hi H Q => rSlL K x lo hi H Q ∨ rSlA K x lo hi H Q
theorem sl_U : SlR X (rSlU X.K) := fun pins s σ H x v vl vu lo hi sl Q I rx hs pl pu h => by
  rcases h with h | h
  · exact sl_list pins s σ H x v vl vu lo hi sl Q I rx hs pl pu h
  · exact sl_tupA pins s σ H x v vl vu lo hi sl Q I rx hs pl pu h
def sliceL (d : D) (lo hi : Option Int) : Option (List D) := match d with
  | .list xs => some (cutD xs lo hi)
  | .dict [(.list xs, .none)] => some (cutD xs lo hi)
  | _ => none
def sliceT (d : D) (lo hi : Option Int) : Option D := match d with
  | .tuple xs => some (.tuple (cutD xs lo hi))
  | _ => none
theorem sn_sliceL : SnSlF K (rSlU K) sliceL := fun b0 B Z0 Z H σ ρ x a lo hi c Q ok ha e q => by
  unfold sliceL at e
  split at e
  · cases e
    cases ha with
    | lst h r =>
    refine .inl ⟨_, _, rfl, .inl (.inl h), fun p hp => ?_⟩
    obtain ⟨ok2, zp, bp, ap⟩ := ok.fresh (o := .lst _) hp
    exact q p _ _ ok2 zp bp ap upd_same (cut_rp r)
  · cases e
    cases ha with
    | scr h r =>
    refine .inl ⟨_, _, rfl, h, fun p hp => ?_⟩
    obtain ⟨ok2, zp, bp, ap⟩ := ok.fresh (o := .lst _) hp
    exact q p _ _ ok2 zp bp ap upd_same (cut_rp r)
  · cases e
theorem cut_all {α : Type} (xs : List α) {lo hi : Option Int} (h1 : HT.sIx xs.length 0 lo = 0) (h2 : HT.sIx xs.length xs.length hi = xs.length) : cutD xs lo hi = xs := by
  unfold cutD
  rw [h1, h2, List.drop_zero, Nat.sub_zero, List.take_length]
theorem sn_sliceT : SnSl K (rSlU K) sliceT := fun b0 B Z0 Z H σ ρ x a lo hi c Q ok ha e q => by
  unfold sliceT at e
  split at e
  · cases e
    cases ha with
    | tup h r =>
    refine .inr ⟨_, _, rfl, same_t ok.zh h, fun z => ?_, fun _ p hp => ?_⟩
    · have := r.length
      rw [this] at z
      rw [cut_all _ z.1 z.2] at q
      exact q _ H Z ok (Same.refl Z) (.tup h r)
    · obtain ⟨ok2, s2⟩ := ok.new (o := .tup _) hp
      exact q _ _ _ ok2 s2 (.tup (.inl (.inl upd_same)) ((cut_rp r).mono s2))
  · cases e
def eSl {α : Type} (f : D → Option Int → Option Int → Option α) (g : GO) (lo hi : GP) (ρ : Rho) : R α := (g ρ).bind fun x ρ1 => (lo ρ1).bind fun l ρ2 => (hi ρ2).bind fun u ρ3 => match x.res ρ3 with
  | some d => R.lift (f d l u) ρ3
  | none => .bad
theorem sl_ok {α : Type} {f : D → Option Int → Option Int → Option α} {g : GO} {lo hi : GP} {ρ ρ' : Rho} {z : α} (e : eSl f g lo hi ρ = .ok z ρ') : ∃ x ρ1 l ρ2 u d, g ρ = .ok x ρ1 ∧ lo ρ1 = .ok l ρ2 ∧ hi ρ2 = .ok u ρ' ∧ x.res ρ' = some d ∧ f d l u = some z := by
  obtain ⟨x, ρ1, e1, e⟩ := R.bind_ok e
  obtain ⟨l, ρ2, e2, e⟩ := R.bind_ok e
  obtain ⟨u, ρ3, e3, e⟩ := R.bind_ok e
  split at e
  · rename_i d h
    obtain ⟨e5, rfl⟩ := R.lift_ok e
    exact ⟨x, ρ1, l, ρ2, u, d, e1, e2, e3, h, e5⟩
  · cases e
theorem de_sl {r : V → Option Int → Option Int → Hp → VK → Prop} {f : D → Option Int → Option Int → Option D} {g : GO} {lo hi : GP} {tl th : TO} (sn : SnSl K r f) (hg : DO K te g) (hl : DP K tl lo) (hh : DP K th hi) : DE K (tSl r te tl th) (eSl f g lo hi) := fun b0 B Z0 Z H σ ρ d ρ' Q ok e q => by
  obtain ⟨x, ρ1, l, ρ2, u, d', e1, e2, e3, e4, e5⟩ := sl_ok e
  refine hg b0 B Z0 Z H σ ρ x ρ1 _ ok e1 fun v H1 Z1 ok1 s1 r1 => ?_
  refine hl b0 B Z0 Z1 H1 σ ρ1 l ρ2 _ ok1 e2 fun H2 Z2 ok2 s2 => ?_
  refine hh b0 B Z0 Z2 H2 σ ρ2 u ρ' _ ok2 e3 fun H3 Z3 ok3 s3 => ?_
  exact sn b0 B Z0 Z3 H3 σ ρ' v d' l u d Q ok3 (ok3.bd ((r1.mono s2).mono s3) e4) e5 fun w H4 Z4 ok4 s4 r4 => q w H4 Z4 ok4 (((s1.trans s2).trans s3).trans s4) r4
def lenD : List D → Option D
  | [.list xs] => some (.int xs.length)
  | [.dict [(.list xs, .none)]] => some (.int xs.length)
  | [.tuple xs] => some (.int xs.length)
  | [.str z] => if z.length ≤ sizeLine then some (.int z.length) else none
  | _ => none
def rLen (K : PySem.W.Frag) : List V → Hp → VK → Prop := fun xs H Q => ∃ x n, xs = [x] ∧ LenV K x H n ∧ Q (.int n) H
theorem call_lenU : CallR X (.builtin "len") (rLen X.K) := call_len
theorem sn_len : SnA K (rLen K) lenD := fun b0 B Z0 Z H σ ρ xs as c Q ok ha e q => by
  unfold lenD at e
  split at e
  · cases e
    cases ha with
    | cons h h' =>
    cases h'
    cases h with
    | lst h r => exact ⟨_, _, rfl, .inl ⟨_, .inl (.inl h), rfl⟩, by rw [r.length]; exact q _ H Z ok (Same.refl Z) (.int _)⟩
  · cases e
    cases ha with
    | cons h h' =>
    cases h'
    cases h with
    | scr h r => exact ⟨_, _, rfl, .inl ⟨_, h, rfl⟩, by rw [r.length]; exact q _ H Z ok (Same.refl Z) (.int _)⟩
  · cases e
    cases ha with
    | cons h h' =>
    cases h'
    cases h with
    | tup h r => exact ⟨_, _, rfl, .inr ⟨_, same_t ok.zh h, rfl⟩, by rw [r.length]; exact q _ H Z ok (Same.refl Z) (.int _)⟩
  · split at e
    · rename_i hz
      cases e
      cases ha with
      | cons h h' =>
      cases h'
      cases h
      exact ⟨_, _, rfl, ⟨hz, rfl⟩, q _ H Z ok (Same.refl Z) (.int _)⟩
    · cases e
  · cases e
def absD : List D → Option D
  | [.int i] => some (.int (if i < 0 then -i else i))
  | _ => none
def rAbs : List V → Hp → VK → Prop := fun xs H Q => ∃ i, xs = [.int i] ∧ Q (.int (if i < 0 then -i else i)) H
theorem call_absU : CallR X (.builtin "abs") rAbs := call_abs
theorem sn_abs : SnA K rAbs absD := fun b0 B Z0 Z H σ ρ xs as c Q ok ha e q => by
  unfold absD at e
  split at e
  · cases e
    cases ha with
    | cons h h' =>
    cases h'; cases h
    exact ⟨_, rfl, q _ H Z ok (Same.refl Z) (.int _)⟩
  · cases e
def intD : List D → Option D
  | [.int i] => some (.int i)
  | [.bool k] => some (.int (if k then 1 else 0))
  | _ => none
def rInt1 : List V → Hp → VK → Prop := fun xs H Q => (∃ i, xs = [.int i] ∧ Q (.int i) H) ∨ ∃ k, xs = [.bl k] ∧ Q (.int (if k then 1 else 0)) H
theorem call_intU : CallR X (.type "int") rInt1 := call_int1
theorem sn_int : SnA K rInt1 intD := fun b0 B Z0 Z H σ ρ xs as c Q ok ha e q => by
  unfold intD at e
  split at e
  · cases e
    cases ha with
    | cons h h' =>
    cases h'; cases h
    exact .inl ⟨_, rfl, q _ H Z ok (Same.refl Z) (.int _)⟩
  · cases e
    cases ha with
    | cons h h' =>
    cases h'; cases h
    exact .inr ⟨_, rfl, q _ H Z ok (Same.refl Z) (.int _)⟩
  · cases e
def intsOf : List D → Option (List Int)
  | [] => some []
  | .int i :: ds => (intsOf ds).map (i :: ·)
  | _ :: _ => none
theorem intsOf_eq : ∀ {ds : List D} {ns : List Int}, intsOf ds = some ns → ds = ns.map PyData.int
  | [], ns, h => by cases h; rfl
  | .int i :: ds, ns, h => by
    unfold intsOf at h
    obtain ⟨ms, e, rfl⟩ := Option.map_eq_some_iff.mp h
    rw [intsOf_eq e]; rfl
theorem intsOf_map : ∀ (ns : List Int), intsOf (ns.map PyData.int) = some ns
  | [] => rfl
  | n :: r => by
    show (intsOf (r.map PyData.int)).map (n :: ·) = _
    rw [intsOf_map r]; rfl
def boolsOf : List D → Option (List Bool)
  | [] => some []
  | .bool i :: ds => (boolsOf ds).map (i :: ·)
  | _ :: _ => none
theorem boolsOf_eq : ∀ {ds : List D} {ns : List Bool}, boolsOf ds = some ns → ds = ns.map PyData.bool
  | [], ns, h => by cases h; rfl
  | .bool i :: ds, ns, h => by
    unfold boolsOf at h
    obtain ⟨ms, e, rfl⟩ := Option.map_eq_some_iff.mp h
    rw [boolsOf_eq e]; rfl
theorem boolsOf_map : ∀ (ns : List Bool), boolsOf (ns.map PyData.bool) = some ns
  | [] => rfl
  | n :: r => by
    show (boolsOf (r.map PyData.bool)).map (n :: ·) = _
    rw [boolsOf_map r]; rfl
def allD : List D → Option D
  | [.list ds] => (boolsOf ds).map fun bs => .bool (bs.all id)
  | _ => none
def sumD : List D → Option D
  | [.list ds] => (intsOf ds).map fun ns => .int ns.sum
  | _ => none
theorem sn_all : SnA K (rAll K) allD := fun b0 B Z0 Z H σ ρ xs as c Q ok ha e q => by
  unfold allD at e
  split at e
  · obtain ⟨bs, e1, rfl⟩ := Option.map_eq_some_iff.mp e
    cases boolsOf_eq e1
    cases ha with
    | cons h h' =>
    cases h'
    cases h with
    | lst h r =>
    cases r.of_bools
    exact ⟨_, bs, rfl, .inl (.inl h), q _ H Z ok (Same.refl Z) (.bl _)⟩
  · cases e
theorem sn_sum : SnA K (rSum K) sumD := fun b0 B Z0 Z H σ ρ xs as c Q ok ha e q => by
  unfold sumD at e
  split at e
  · obtain ⟨bs, e1, rfl⟩ := Option.map_eq_some_iff.mp e
    cases intsOf_eq e1
    cases ha with
    | cons h h' =>
    cases h'
    cases h with
    | lst h r =>
    cases r.of_ints
    exact ⟨_, bs, rfl, .inl (.inl h), q _ H Z ok (Same.refl Z) (.int _)⟩
  · cases e
def max2D : List D → Option D
  | [.int i, .int j] => some (.int (if j > i then j else i))
  | _ => none
def rMax2 : List V → Hp → VK → Prop := fun xs H Q => ∃ i j, xs = [.int i, .int j] ∧ Q (.int (if j > i then j else i)) H
theorem call_max2U (hc : X.calm = true) : CallR X (.builtin "max") rMax2 := call_max2 hc
theorem sn_max2 : SnA K rMax2 max2D := fun b0 B Z0 Z H σ ρ xs as c Q ok ha e q => by
  unfold max2D at e
  split at e
  · cases e
    cases ha with
    | cons h h' =>
    cases h' with
    | cons h2 h' =>
    cases h'; cases h; cases h2
    exact ⟨_, _, rfl, q _ H Z ok (Same.refl Z) (.int _)⟩
  · cases e
def listD : List D → Option (List D)
  | [.list xs] => some xs
  | [.tuple xs] => some xs
  | [.dict [(.list xs, .none)]] => some xs
  | _ => none
def rList (K : PySem.W.Frag) : List V → Hp → VK → Prop := fun xs H Q => ∃ p ys, xs = [.ref p] ∧ (SqL K H p ys ∨ SqT K H p ys) ∧ ∀ l, H l = none → Q (.ref l) (upd H l (.lst ys))
theorem call_listU : CallR X (.type "list") (rList X.K) := call_list_of
theorem sn_list : SnAF K (rList K) listD := fun b0 B Z0 Z H σ ρ xs as c Q ok ha e q => by
  have fin : ∀ {a : Addr} {vs : List V} (p : Addr), (SqL K H a vs ∨ SqT K H a vs) → RpA K Z vs c → rList K [.ref a] H Q := fun {a vs} _ h r => by
    refine ⟨_, _, rfl, h, fun p hp => ?_⟩
    obtain ⟨ok2, zp, bp, ap⟩ := ok.fresh (o := .lst _) hp
    exact q p _ _ ok2 zp bp ap upd_same r
  unfold listD at e
  split at e
  · cases e
    cases ha with
    | cons h h' =>
    cases h'
    cases h with
    | lst h r => exact fin 0 (.inl (.inl (.inl h))) r
  · cases e
    cases ha with
    | cons h h' =>
    cases h'
    cases h with
    | tup h r => exact fin 0 (.inr (same_t ok.zh h)) r
  · cases e
    cases ha with
    | cons h h' =>
    cases h'
    cases h with
    | scr h r => exact fin 0 (.inl h) r
  · cases e
def tupleD : List D → Option D
  | [.list xs] => some (.tuple xs)
  | [.tuple xs] => some (.tuple xs)
  | [.dict [(.list xs, .none)]] => some (.tuple xs)
  | _ => none
def rTuple (K : PySem.W.Frag) : List V → Hp → VK → Prop := fun xs H Q => ∃ p ys, xs = [.ref p] ∧ ((SqL K H p ys ∧ ∀ l, H l = none → Q (.ref l) (upd H l (.tup ys))) ∨ (SqT K H p ys ∧ Q (.ref p) H))
theorem call_tupleU : CallR X (.type "tuple") (rTuple X.K) := call_tuple_of
theorem sn_tuple : SnA K (rTuple K) tupleD := fun b0 B Z0 Z H σ ρ xs as c Q ok ha e q => by
  have fin : ∀ {a : Addr} {vs : List V} {ds : List D} (p : Addr), c = .tuple ds → SqL K H a vs → RpA K Z vs ds → rTuple K [.ref a] H Q := fun {a vs ds} _ ec h r => by
    refine ⟨_, _, rfl, .inl ⟨h, fun p hp => ?_⟩⟩
    obtain ⟨ok2, s2⟩ := ok.new (o := .tup _) hp
    subst ec
    exact q _ _ _ ok2 s2 (.tup (.inl (.inl upd_same)) (r.mono s2))
  unfold tupleD at e
  split at e
  · cases e
    cases ha with
    | cons h h' =>
    cases h'
    cases h with
    | lst h r => exact fin 0 rfl (.inl (.inl h)) r
  · cases e
    cases ha with
    | cons h h' =>
    cases h'
    cases h with
    | tup h r => exact ⟨_, _, rfl, .inr ⟨same_t ok.zh h, q _ H Z ok (Same.refl Z) (.tup h r)⟩⟩
  · cases e
    cases ha with
    | cons h h' =>
    cases h'
    cases h with
    | scr h r => exact fin 0 rfl h r
  · cases e
end
end DL
namespace DL
open PySem L2
section
variable {X : Cx} {K : PySem.W.Frag} {ta tb te tc : TE} {tas : TA} {tg : Expr}
theorem pi_or {e : Expr} {w1 w2 : TI} (h1 : PI X tg e w1) (h2 : PI X tg e w2) : PI X tg e (fun σ H R => w1 σ H R ∨ w2 σ H R) := ⟨fun pins s σ H R I h => by
  rcases h with h | h
  · exact h1.run pins s σ H R I h
  · exact h2.run pins s σ H R I h⟩
def iSeqU (K : PySem.W.Frag) (te : TE) : TI := fun σ H R => iList K te σ H R ∨ iTup K te σ H R
theorem pi_seqU {e : Expr} (he : PE X e te) : PI X tg e (iSeqU X.K te) := pi_or (pi_list he) (pi_tup he)
def itemsD : D → Option (List D)
  | .list xs => some xs
  | .tuple xs => some xs
  | .dict [(.list xs, .none)] => some xs
  | _ => none
def gSeq (g : GE) (ρ : Rho) : R (List D) := (g ρ).bind fun d ρ1 => R.lift (itemsD d) ρ1
theorem wk_list {Z : Hp} {a : Addr} {xs : List V} {ds : List D} (h : SqL K Z a xs) (r : RpA K Z xs ds) : Wk K (Itl K a) Z ds where
  goes := fun i H hi s => ⟨xs, xs[i]'(by rw [r.length]; exact hi), same_l s h, List.getElem?_eq_getElem _⟩
  stops := fun H s => ⟨xs, same_l s h, by rw [r.length]; exact Nat.le_refl _⟩
  yields := fun i H x H' hi y b0 B Z0 Z' σ ρ ok s => by
    obtain ⟨rfl, y⟩ := y
    obtain ⟨d, e1, r1⟩ := r.getV (y xs (same_l (s.trans ok.zh) h))
    exact ⟨Z', d, ok, Same.refl Z', e1, r1.mono s⟩
theorem wk_tup {Z : Hp} {a : Addr} {xs : List V} {ds : List D} (h : SqT K Z a xs) (r : RpA K Z xs ds) : Wk K (Itt K a) Z ds where
  goes := fun i H hi s => ⟨xs, xs[i]'(by rw [r.length]; exact hi), same_t s h, List.getElem?_eq_getElem _⟩
  stops := fun H s => ⟨xs, same_t s h, by rw [r.length]; exact Nat.le_refl _⟩
  yields := fun i H x H' hi y b0 B Z0 Z' σ ρ ok s => by
    obtain ⟨rfl, y⟩ := y
    obtain ⟨d, e1, r1⟩ := r.getV (y xs (same_t (s.trans ok.zh) h))
    exact ⟨Z', d, ok, Same.refl Z', e1, r1.mono s⟩
theorem di_seq {g : GE} (h : DE K te g) : DI K (iSeqU K te) (gSeq g) := fun b0 B Z0 Z H σ ρ ds ρ' W ok e q => by
  obtain ⟨d, ρ1, e1, e⟩ := R.bind_ok e
  obtain ⟨e2, rfl⟩ := R.lift_ok e
  unfold itemsD at e2
  split at e2
  · cases e2
    refine .inl (h b0 B Z0 Z H σ ρ _ _ _ ok e1 fun v H1 Z1 ok1 s1 r1 => ?_)
    cases r1 with
    | lst hs ra => exact ⟨_, rfl, ⟨_, .inl (.inl (ok1.zh _ _ hs))⟩, q _ H1 Z1 ok1 s1 (wk_list (.inl (.inl hs)) ra)⟩
  · cases e2
    refine .inr (h b0 B Z0 Z H σ ρ _ _ _ ok e1 fun v H1 Z1 ok1 s1 r1 => ?_)
    cases r1 with
    | tup hs ra => exact ⟨_, rfl, ⟨_, same_t ok1.zh hs⟩, q _ H1 Z1 ok1 s1 (wk_tup hs ra)⟩
  · cases e2
    refine .inl (h b0 B Z0 Z H σ ρ _ _ _ ok e1 fun v H1 Z1 ok1 s1 r1 => ?_)
    cases r1 with
    | scr hs ra => exact ⟨_, rfl, ⟨_, same_l ok1.zh hs⟩, q _ H1 Z1 ok1 s1 (wk_list hs ra)⟩
  · cases e2
def rangeD (lo : Int) (n : Nat) : List D := (List.range n).map fun (i : Nat) => PyData.int (lo + (i : Int))
theorem rangeD_len (lo : Int) (n : Nat) : (rangeD lo n).length = n := by unfold rangeD; rw [List.length_map, List.length_range]
theorem rangeD_get {lo : Int} {n i : Nat} (h : i < n) : (rangeD lo n)[i]? = some (.int (lo + (i : Int))) := by
  unfold rangeD
  rw [List.getElem?_map, List.getElem?_range h]; rfl
theorem wk_rng {Z : Hp} {lo : Int} {n : Nat} : Wk K (Itr lo n) Z (rangeD lo n) where
  goes := fun i H hi s => by rw [rangeD_len] at hi; exact hi
  stops := fun H s => by rw [rangeD_len]; exact Nat.le_refl _
  yields := fun i H x H' hi y b0 B Z0 Z' σ ρ ok s => by
    obtain ⟨rfl, rfl⟩ := y
    rw [rangeD_len] at hi
    exact ⟨Z', _, ok, Same.refl Z', rangeD_get hi, .int _⟩
def rng1 : List D → Option (List D)
  | [.int j] => if -(2 ^ 62) ≤ j ∧ j < 2 ^ 62 then some (rangeD 0 j.toNat) else none
  | _ => none
def rng2 : List D → Option (List D)
  | [.int i, .int j] => if -(2 ^ 62) ≤ i ∧ i < 2 ^ 62 ∧ -(2 ^ 62) ≤ j ∧ j < 2 ^ 62 then some (rangeD i (j - i).toNat) else none
  | _ => none
theorem di_rng1 {ga : GA} (h : DA K tas ga) : DI K (iRng1 tas) (eCall rng1 ga) := fun b0 B Z0 Z H σ ρ ds ρ' W ok e q => by
  obtain ⟨os, as, e1, e2, e3⟩ := call_ok e
  refine h b0 B Z0 Z H σ ρ os ρ' _ ok e1 fun vs H1 Z1 ok1 s1 r1 => ?_
  have ra := valA_ok r1 e2
  unfold rng1 at e3
  split at e3
  · split at e3
    · rename_i hb
      cases e3
      cases ra with
      | cons r ra =>
      cases r; cases ra
      exact ⟨_, rfl, hb.1, hb.2, q _ H1 Z1 ok1 s1 wk_rng⟩
    · cases e3
  · cases e3
theorem di_rng2 {ga : GA} (h : DA K tas ga) : DI K (iRng2 tas) (eCall rng2 ga) := fun b0 B Z0 Z H σ ρ ds ρ' W ok e q => by
  obtain ⟨os, as, e1, e2, e3⟩ := call_ok e
  refine h b0 B Z0 Z H σ ρ os ρ' _ ok e1 fun vs H1 Z1 ok1 s1 r1 => ?_
  have ra := valA_ok r1 e2
  unfold rng2 at e3
  split at e3
  · split at e3
    · rename_i hb
      cases e3
      cases ra with
      | cons r ra =>
      cases ra with
      | cons r' ra =>
      cases r; cases r'; cases ra
      exact ⟨_, _, rfl, hb, q _ H1 Z1 ok1 s1 wk_rng⟩
    · cases e3
  · cases e3
/-- what may be walked: a list, a tuple -/
inductive Sk where
  | L
  | T
def Sk.sq (K : PySem.W.Frag) (H : Hp) (a : Addr) (xs : List V) : Sk → Prop
  | .L => SqL K H a xs
  | .T => SqT K H a xs
def Sk.src (h : Heap) (a : Addr) (its : Array Value) : Sk → Prop
  | .L => h.IsList a its
  | .T => h.IsTuple a its
def Sk.itr (h : Heap) (it a : Addr) (i : Nat) : Sk → Prop
  | .L => h.IsListIter it a i
  | .T => h.IsTupleIter it a i
def Sk.obj (a : Addr) : Sk → Obj
  | .L => { cls := .type "list_iterator", data := .fields #[.ref a, .int 0 0] }
  | .T => { cls := .type "tuple_iterator", data := .fields #[.ref a, .int 0 0] }
theorem Sk.draws {prog : Program} {w : World} {A : Around} (k : Sk) (hh : A.handled = none) (it a : Addr) (hne : a ≠ it) (its : Array Value) : Draws prog w A it [it, a] its.size (fun i v => its[i]? = some v) (fun i h => k.itr h it a i ∧ k.src h a its) := by
  cases k with
  | L => exact Draws.list hh it a hne its
  | T => exact Draws.tuple hh it a hne its
theorem Sk.begins (k : Sk) (a : Addr) (its : Array Value) : Begins (.ref a) (k.obj a) (fun h => k.src h a its) := by
  cases k with
  | L => exact begins_list a its
  | T => exact begins_tuple a its
theorem Sk.first (k : Sk) {h : Heap} {it a : Addr} (e : h.get? it = some (k.obj a)) : k.itr h it a 0 := by
  cases k with
  | L => exact ⟨_, e, rfl, rfl⟩
  | T => exact ⟨_, e, rfl, rfl⟩
theorem Sk.there (k : Sk) {pins : List (Addr × Obj)} {σ : L2.St} {H : Hp} {s : Shared} {a : Addr} {xs : List V} (I : L2.Inv X pins σ H s) (h : k.sq X.K H a xs) : ∃ its, Vals xs its ∧ k.src s.heap a its.toArray := by
  cases k with
  | L =>
    obtain ⟨its, r, p, _⟩ := I.list h
    exact ⟨its, r, p.isList⟩
  | T =>
    obtain ⟨its, r, p, _⟩ := I.tuple h
    exact ⟨its, r, p⟩
theorem Sk.lt (k : Sk) {h : Heap} {a : Addr} {its : Array Value} (e : k.src h a its) : a < h.objs.size := by
  cases k with
  | L => obtain ⟨o, q, _⟩ := e; exact Heap.lt_size q
  | T => obtain ⟨o, q, _⟩ := e; exact Heap.lt_size q
theorem Sk.obj_of (k : Sk) {h : Heap} {it a : Addr} {i : Nat} (e : k.itr h it a i) : ∃ o, h.get? it = some o ∧ ∀ v, o.data ≠ .cell v := by
  cases k with
  | L => obtain ⟨o, q, _, d⟩ := e; exact ⟨o, q, fun v z => by rw [d] at z; cases z⟩
  | T => obtain ⟨o, q, _, d⟩ := e; exact ⟨o, q, fun v z => by rw [d] at z; cases z⟩
theorem Sk.keep (k : Sk) {h h' : Heap} {it a : Addr} {i : Nat} (e : k.itr h it a i) (kp : ∀ o, h.get? it = some o → h'.get? it = some o) : k.itr h' it a i := by
  cases k with
  | L => obtain ⟨o, q, r⟩ := e; exact ⟨o, kp o q, r⟩
  | T => obtain ⟨o, q, r⟩ := e; exact ⟨o, kp o q, r⟩
theorem Sk.mono (k : Sk) {Z H : Hp} {a : Addr} {xs : List V} (s : Same Z H) (h : k.sq K Z a xs) : k.sq K H a xs := by
  cases k with
  | L => exact same_l s h
  | T => exact same_t s h
/-- pairs, n of them, while S holds -/
def ItP (S : Hp → Prop) (n : Nat) (f g : Nat → Option V) : It :=
  ⟨fun i H => S H ∧ i < n, fun i H v H' => ∃ T x y, v = .ref T ∧ H T = none ∧ H' = upd H T (.tup [x, y]) ∧ f i = some x ∧ g i = some y, fun i H => S H ∧ i = n⟩
/-- a new pair goes into the heap, the iterators' own objects turn -/
theorem pair_inv {pins : List (Addr × Obj)} {σ : L2.St} {H : Hp} {s : Shared} {h' : Heap} {tk : Nat} {T : Addr} {x y : V} {u v : Value} {wr fp : List Addr} (I : L2.Inv X pins σ H s) (hf : ∀ b ∈ fp, FpOk X pins H b) (sub : ∀ b ∈ wr, b ∈ fp)
    (kp : ∀ b o, b ∉ wr → s.heap.get? b = some o → h'.get? b = some o) (hT : s.heap.objs.size ≤ T) (tup : h'.IsTuple T #[u, v]) (rx : RelV x u) (ry : RelV y v) (live : ∀ b ∈ fp, ∃ o, s.heap.get? b = some o) :
    L2.Inv X pins σ (upd H T (.tup [x, y])) { s with heap := h', toks := tk } ∧ H T = none ∧ ∀ b ∈ fp, upd H T (.tup [x, y]) b = none := by
  refine ⟨I.turnedNew (t' := tk) (ch := wr) kp (fun b hb => hf b (sub b hb)) hT ⟨by show 2 ≤ sizeLine; decide, [u, v], .cons rx (.cons ry .nil), tup⟩, I.hok.fresh hT, fun b hb => ?_⟩
  obtain ⟨o, e⟩ := live b hb
  rw [upd_ne (Nat.ne_of_lt (Nat.lt_of_lt_of_le (Heap.lt_size e) hT))]
  exact (hf b hb).1
def zipTn (k1 k2 : Sk) (a b N : Addr) : Nat → Heap → Prop := fun i h => IsZip h (N + 4) (N + 2) (N + 3) .none ∧ IsTupOf2 h (N + 2) (.ref N) (.ref (N + 1)) ∧ (∃ a1 a2, IsTupOf2 h (N + 3) a1 a2) ∧ k1.itr h N a i ∧ k2.itr h (N + 1) b i
def fp5 (N : Addr) : List Addr := [N + 4, N + 2, N + 3, N, N + 1]
theorem zip_live {k1 k2 : Sk} {a b N : Addr} {i : Nat} {h : Heap} (st : zipTn k1 k2 a b N i h) : ∀ c ∈ fp5 N, ∃ o, h.get? c = some o ∧ ∀ v, o.data ≠ .cell v := fun c hc => by
  obtain ⟨h1, h2, ⟨a1, a2, h3⟩, h4, h5⟩ := st
  have e : c = N + 4 ∨ c = N + 2 ∨ c = N + 3 ∨ c = N ∨ c = N + 1 := by simpa [fp5] using hc
  rcases e with e | e | e | e | e
  · rw [e]; exact ⟨_, h1, fun v z => nomatch z⟩
  · rw [e]; exact ⟨_, h2, fun v z => nomatch z⟩
  · rw [e]; exact ⟨_, h3, fun v z => nomatch z⟩
  · rw [e]; exact k1.obj_of h4
  · rw [e]; exact k2.obj_of h5
theorem turn_zipU {P : Program} {w : World} {elts : List Expr} {kk : Nat} {tpos : Pos} (k1 k2 : Sk) {a b N : Addr} (ha : a < N) (hb : b < N) (xs ys : List V) :
    Turn P w K (.Tuple elts kk tpos) (ItP (fun H => k1.sq K H a xs ∧ k2.sq K H b ys) (min xs.length ys.length) (fun i => xs[i]?) (fun i => ys[i]?)) (fp5 N) (N + 4) (zipTn k1 k2 a b N) where
  mem := by simp [fp5]
  obj := fun i h st => zip_live st
  keep := fun i h h' st kp => by
    obtain ⟨h1, h2, ⟨a1, a2, h3⟩, h4, h5⟩ := st
    exact ⟨kp _ (by simp [fp5]) _ h1, kp _ (by simp [fp5]) _ h2, ⟨a1, a2, kp _ (by simp [fp5]) _ h3⟩, k1.keep h4 fun o q => kp _ (by simp [fp5]) o q, k2.keep h5 fun o q => kp _ (by simp [fp5]) o q⟩
  item := by
    intro X hP hw hK hc i pins s σ H E I hf st hg
    subst hP hw hK
    obtain ⟨⟨q1, q2⟩, hi⟩ := hg
    obtain ⟨i1, r1, s1⟩ := k1.there I q1
    obtain ⟨i2, r2, s2⟩ := k2.there I q2
    have W := GoesN.zip2 (prog := X.prog) (w := X.w) (A := X.A) (elts := elts) (x1 := kk) (pos := tpos) (zip_sep2 (N := N) (fp1 := [a]) (fp2 := [b]) (by simpa using ha) (by simpa using hb))
      (k1.draws (A := X.A.in1) (I.ok.hd hc) N a (Nat.ne_of_lt ha) i1.toArray) (k2.draws (A := X.A.in1) (I.ok.hd hc) (N + 1) b (Nat.ne_of_lt (Nat.lt_succ_of_lt hb)) i2.toArray)
    have st0 := st
    obtain ⟨h1, h2, h3, h4, h5⟩ := st
    refine W.goes i s _ E (by rw [List.size_toArray, List.size_toArray, ← r1.length, ← r2.length]; exact hi) ⟨h1, h2, h3, ⟨h4, s1⟩, h5, s2⟩ fun v h' tk hY st' kp htk => ?_
    obtain ⟨T, x, y, rfl, hT, ex, ey, tup⟩ := hY
    have gx : xs[i]? = some (xs[i]'(by omega)) := List.getElem?_eq_getElem _
    have gy : ys[i]? = some (ys[i]'(by omega)) := List.getElem?_eq_getElem _
    obtain ⟨u, eu, ru⟩ := r1.get gx
    obtain ⟨v, ev, rv⟩ := r2.get gy
    have e1 : u = x := Option.some.inj (eu.symm.trans (by simpa using ex))
    have e2 : v = y := Option.some.inj (ev.symm.trans (by simpa using ey))
    subst e1 e2
    obtain ⟨I2, hn, fr⟩ := pair_inv (tk := tk) I hf (by simp [fp5]) kp hT tup ru rv fun b hb => let ⟨o, e, _⟩ := zip_live st0 b hb; ⟨o, e⟩
    obtain ⟨g1, g2, g3, ⟨g4, _⟩, g5, _⟩ := st'
    exact ⟨.ref T, _, I2, rfl, ⟨T, _, _, rfl, hn, rfl, gx, gy⟩, ⟨g1, g2, g3, g4, g5⟩, fr⟩
  done := by
    intro X hP hw hK hc i pins s σ H E I hf st hg
    subst hP hw hK
    obtain ⟨⟨q1, q2⟩, hi⟩ := hg
    obtain ⟨i1, r1, s1⟩ := k1.there I q1
    obtain ⟨i2, r2, s2⟩ := k2.there I q2
    have W := GoesN.zip2 (prog := X.prog) (w := X.w) (A := X.A) (elts := elts) (x1 := kk) (pos := tpos) (zip_sep2 (N := N) (fp1 := [a]) (fp2 := [b]) (by simpa using ha) (by simpa using hb))
      (k1.draws (A := X.A.in1) (I.ok.hd hc) N a (Nat.ne_of_lt ha) i1.toArray) (k2.draws (A := X.A.in1) (I.ok.hd hc) (N + 1) b (Nat.ne_of_lt (Nat.lt_succ_of_lt hb)) i2.toArray)
    obtain ⟨h1, h2, h3, h4, h5⟩ := st
    have hn : min i1.toArray.size i2.toArray.size = i := by rw [List.size_toArray, List.size_toArray, ← r1.length, ← r2.length]; exact hi.symm
    rw [hn] at W
    refine W.stops s _ E ⟨h1, h2, h3, ⟨h4, s1⟩, h5, s2⟩ fun h' tk kp htk => ?_
    exact I.turnedL (t' := tk) (ch := [N + 4, N + 3, N, N + 1]) kp fun b hb => hf b (by
      have : b = N + 4 ∨ b = N + 3 ∨ b = N ∨ b = N + 1 := by simpa using hb
      rcases this with e | e | e | e <;> simp [fp5, e])
  self := fun A i s Q E st h => wpAny_pyIter_zip st.1 h
def iZipU (K : PySem.W.Frag) (ta : TA) : TI := fun σ H R => ta σ H fun vs H1 => ∃ a b k1 k2 xs ys, vs = [.ref a, .ref b] ∧ Sk.sq K H1 a xs k1 ∧ Sk.sq K H1 b ys k2 ∧ R (ItP (fun H => k1.sq K H a xs ∧ k2.sq K H b ys) (min xs.length ys.length) (fun i => xs[i]?) (fun i => ys[i]?)) H1
theorem pi_zipU {e e2 : Expr} {ta : TA} {p pos tpos : Pos} {elts : List Expr} {kk : Nat} (hg : Gl X "zip") (hm : X.mg "zip" = none) (ha : PA X [e, e2] ta)
    (h1 : starEach [e, e2] X.env = (false, eval e X.env) :: starEach [e2] X.env := by rfl) (h2 : (backTo pos (starEach [e2] X.env)).any (·.1) = false := by rfl) :
    PI X (.Tuple elts kk tpos) (.Call (.Name "zip" p) [e, e2] [] pos) (iZipU X.K ta) := by
  refine ⟨fun pins s σ H R I h => PyProof.Rows.Call_ (ld_blt I hg hm PyProof.Rows.boot_zip (PyProof.Rows.callWith_type1 (thn (ha.run pos pins s σ H _ I h) fun us s1 ⟨vs, H1, I1, r1, q1⟩ => ?_) h1 h2))⟩
  obtain ⟨a, b, k1, k2, xs, ys, rfl, q1, q2, q⟩ := q1
  cases r1 with
  | cons r rr =>
  cases rr with
  | cons r' rr =>
  cases rr; cases r; cases r'
  obtain ⟨i1, r1, s1'⟩ := k1.there I1 q1
  obtain ⟨i2, r2, s2'⟩ := k2.there I1 q2
  refine zip_begins2 (k1.begins a i1.toArray) (k2.begins b i2.toArray) s1' s2' fun h' hz hTI hTO g1 g2 hsz hk => wpAny_pyIter_zip hz ?_
  refine ⟨s1.heap.objs.size + 4, fp5 s1.heap.objs.size, _, _, H1, rfl, I1.kept (t' := s1.toks) hk, turn_zipU k1 k2 (k1.lt s1') (k2.lt s2') xs ys, ⟨hz, hTI, ⟨_, _, hTO⟩, k1.first g1, k2.first g2⟩, fun c hc => ?_, q⟩
  have hle : s1.heap.objs.size ≤ c := by
    have : c = s1.heap.objs.size + 4 ∨ c = s1.heap.objs.size + 2 ∨ c = s1.heap.objs.size + 3 ∨ c = s1.heap.objs.size ∨ c = s1.heap.objs.size + 1 := by simpa [fp5] using hc
    rcases this with z | z | z | z | z <;> rw [z] <;> first | exact Nat.le_add_right _ _ | exact Nat.le_refl _
  exact I1.fpOk hle (I1.hok.fresh hle)
theorem wk_pair {Z : Hp} {S : Hp → Prop} {n : Nat} {f g : Nat → Option V} {ds : List D} (hS : ∀ H, Same Z H → S H) (hn : ds.length = n) (hd : ∀ i x y, i < n → f i = some x → g i = some y → ∃ a b, ds[i]? = some (.tuple [a, b]) ∧ Rp K Z x a ∧ Rp K Z y b) : Wk K (ItP S n f g) Z ds where
  goes := fun i H hi s => ⟨hS H s, by rw [← hn]; exact hi⟩
  stops := fun H s => ⟨hS H s, hn⟩
  yields := fun i H x H' hi y b0 B Z0 Z' σ ρ ok s => by
    obtain ⟨T, x, y, rfl, hT, rfl, e1, e2⟩ := y
    obtain ⟨a, b, ed, ra, rb⟩ := hd i x y (by omega) e1 e2
    obtain ⟨ok2, s2⟩ := ok.new (o := .tup [x, y]) hT
    exact ⟨_, _, ok2, s2, ed, .tup (.inl (.inl upd_same)) (.cons ((ra.mono s).mono s2) (.cons ((rb.mono s).mono s2) .nil))⟩
def skOf : D → Option (Sk × List D)
  | .list xs => some (.L, xs)
  | .tuple xs => some (.T, xs)
  | .dict [(.list xs, .none)] => some (.L, xs)
  | _ => none
theorem sk_rp {Z : Hp} {v : V} {d : D} {k : Sk} {ds : List D} (h : skOf d = some (k, ds)) (r : Rp K Z v d) : ∃ a xs, v = .ref a ∧ k.sq K Z a xs ∧ RpA K Z xs ds := by
  unfold skOf at h
  split at h
  · cases h
    cases r with
    | lst hs ra => exact ⟨_, _, rfl, .inl (.inl hs), ra⟩
  · cases h
    cases r with
    | tup hs ra => exact ⟨_, _, rfl, hs, ra⟩
  · cases h
    cases r with
    | scr hs ra => exact ⟨_, _, rfl, hs, ra⟩
  · cases h
def zipD (as bs : List D) : List D := List.zipWith (fun a b => .tuple [a, b]) as bs
def zip2D : List D → Option (List D)
  | [a, b] => match skOf a, skOf b with
    | some (_, xs), some (_, ys) => some (zipD xs ys)
    | _, _ => none
  | _ => none
theorem di_zip {ga : GA} (h : DA K tas ga) : DI K (iZipU K tas) (eCall zip2D ga) := fun b0 B Z0 Z H σ ρ ds ρ' W ok e q => by
  obtain ⟨os, as, e1, e2, e3⟩ := call_ok e
  refine h b0 B Z0 Z H σ ρ os ρ' _ ok e1 fun vs H1 Z1 ok1 s1 r1 => ?_
  have ra := valA_ok r1 e2
  unfold zip2D at e3
  split at e3
  · split at e3
    · rename_i k1 xs k2 ys f1 f2
      cases e3
      cases ra with
      | cons r ra =>
      cases ra with
      | cons r' ra =>
      cases ra
      obtain ⟨a, va, rfl, qa, rva⟩ := sk_rp f1 r
      obtain ⟨b, vb, rfl, qb, rvb⟩ := sk_rp f2 r'
      refine ⟨a, b, k1, k2, va, vb, rfl, k1.mono ok1.zh qa, k2.mono ok1.zh qb, q _ H1 Z1 ok1 s1 (wk_pair (fun H s => ⟨k1.mono s qa, k2.mono s qb⟩) ?_ fun i x y hi ex ey => ?_)⟩
      · unfold zipD; rw [List.length_zipWith, rva.length, rvb.length]
      · obtain ⟨d1, g1, rd1⟩ := rva.getV ex
        obtain ⟨d2, g2, rd2⟩ := rvb.getV ey
        refine ⟨d1, d2, ?_, rd1, rd2⟩
        unfold zipD
        rw [List.getElem?_zipWith, g1, g2]
    · cases e3
  · cases e3
end
end DL
namespace DL
open PySem L2
theorem enum_new1 {v : Value} {o : Obj} {HH : Heap → Prop} (B : Begins v o HH) :
    Meets (Builtin.«enumerate.__new__» ⟨[.type "enumerate", v], []⟩) (fun _ R s => HH s.heap ∧
      R (.ok (.ret (.ref (s.heap.push o).objs.size))) { s with heap := (s.heap.push o).push { cls := .type "enumerate", data := .fields #[.none, .bool false, .ref s.heap.objs.size, rawInt 0, .none, .none] } }) :=
  .of_wp fun prog w A R s h => by
    obtain ⟨hp, gn, dr, tk, os⟩ := s
    obtain ⟨h1, h⟩ := h
    have hsub := sub_enumerate
    have q1 : ∀ {A' : Around} {E : Value → Shared → Prop} {Q : Value → Shared → Prop}, Q (.ref hp.objs.size) ⟨hp.push o, gn, dr, tk, os⟩ → wpAny (model prog w) A' (pyIter v) Q E ⟨hp, gn, dr, tk, os⟩ :=
      fun q => B.iter prog w _ _ ⟨hp, gn, dr, tk, os⟩ _ h1 q
    wp_walk using q1
    refine wpAny_stack_any fun st => wpAny_pure ?_
    split
    · rename_i c _ _ _ _ _
      cases (c == Value.type "enumerate") <;> (wp_walk using q1; exact ⟨_, rfl, h⟩)
    · wp_walk using q1
      exact ⟨_, rfl, h⟩
theorem enum_begins1 {prog : Program} {w : World} {A : Around} {E : Value → Shared → Prop} {s : Shared} {v : Value} {o : Obj} {HH : Heap → Prop} {Q : Value → Shared → Prop} (B : Begins v o HH) (h1 : HH s.heap)
    (h : ∀ h', IsEnum h' (s.heap.objs.size + 1) s.heap.objs.size 0 .none → h'.get? s.heap.objs.size = some o → (∀ b o, s.heap.get? b = some o → h'.get? b = some o) → Q (.ref (s.heap.objs.size + 1)) { s with heap := h' }) :
    wpAny (model prog w) A (call (.type "enumerate") [v]) Q E s := by
  refine callType_new F.called_enumerate (by decide) (F.typeCall_enumerate_1 _) (F.newCall_enumerate_1 _) (fun obj => F.args_object_init_2 obj _) F.entry_enumerate_new (enum_new1 B) ⟨h1, ?_⟩
  have hz : (s.heap.push o).objs.size = s.heap.objs.size + 1 := Heap.size_push ..
  show _ ∧ _
  rw [hz]
  have he : IsEnum ((s.heap.push o).push { cls := .type "enumerate", data := .fields #[.none, .bool false, .ref s.heap.objs.size, rawInt 0, .none, .none] }) (s.heap.objs.size + 1) s.heap.objs.size 0 .none := by
    have q := Heap.get?_push_size (s.heap.push o) (o := { cls := .type "enumerate", data := .fields #[.none, .bool false, .ref s.heap.objs.size, rawInt 0, .none, .none] }) rfl
    rw [hz] at q
    exact q
  exact ⟨⟨_, he, rfl⟩, h _ he (Heap.get?_push_of_some _ (Heap.get?_push_size _ B.free)) fun b o x => Heap.get?_push_of_some _ (Heap.get?_push_of_some _ x)⟩
section
variable {X : Cx} {K : PySem.W.Frag} {ta tb te tc : TE} {tas : TA} {tg : Expr}
def enumTn (k : Sk) (a N : Addr) : Nat → Heap → Prop := fun i h => (∃ old, IsEnum h (N + 1) N (0 + (i : Int)) old) ∧ k.itr h N a i
theorem enum_live {k : Sk} {a N : Addr} {i : Nat} {h : Heap} (st : enumTn k a N i h) : ∀ c ∈ [N + 1, N], ∃ o, h.get? c = some o ∧ ∀ v, o.data ≠ .cell v := fun c hc => by
  obtain ⟨⟨old, h1⟩, h2⟩ := st
  have e : c = N + 1 ∨ c = N := by simpa using hc
  rcases e with e | e
  · rw [e]; exact ⟨_, h1, fun v z => nomatch z⟩
  · rw [e]; exact k.obj_of h2
theorem turn_enumU {P : Program} {w : World} {elts : List Expr} {kk : Nat} {tpos : Pos} (k : Sk) {a N : Addr} (ha : a < N) (xs : List V) :
    Turn P w K (.Tuple elts kk tpos) (ItP (fun H => k.sq K H a xs) xs.length (fun i => some (.int (0 + (i : Int)))) (fun i => xs[i]?)) [N + 1, N] (N + 1) (enumTn k a N) where
  mem := by simp
  obj := fun i h st => enum_live st
  keep := fun i h h' st kp => by
    obtain ⟨⟨old, h1⟩, h2⟩ := st
    exact ⟨⟨old, kp _ (by simp) _ h1⟩, k.keep h2 fun o q => kp _ (by simp) o q⟩
  item := by
    intro X hP hw hK hc i pins s σ H E I hf st hg
    subst hP hw hK
    obtain ⟨q1, hi⟩ := hg
    obtain ⟨i1, r1, s1⟩ := k.there I q1
    have W := GoesN.enumFrom (prog := X.prog) (w := X.w) (A := X.A) (elts := elts) (x1 := kk) (pos := tpos) 0 (k.draws (A := X.A.in1) (I.ok.hd hc) N a (Nat.ne_of_lt ha) i1.toArray) (N + 1) (Nat.succ_ne_self _) (by
      intro z
      rcases List.mem_cons.mp z with z | z
      · exact Nat.succ_ne_self _ z
      · rcases List.mem_cons.mp z with z | z
        · exact Nat.lt_irrefl _ (Nat.lt_of_lt_of_le ha (by rw [← z]; exact Nat.le_succ N))
        · cases z) (by simp)
    have st0 := st
    obtain ⟨h1, h2⟩ := st
    refine W.goes i s _ E (by rw [List.size_toArray, ← r1.length]; exact hi) ⟨h1, h2, s1⟩ fun v h' tk hY st' kp htk => ?_
    obtain ⟨T, t, x, rfl, hT, ex, tup⟩ := hY
    have gx : xs[i]? = some xs[i] := List.getElem?_eq_getElem _
    obtain ⟨u, eu, ru⟩ := r1.get gx
    have e1 : u = x := Option.some.inj (eu.symm.trans (by simpa using ex))
    subst e1
    obtain ⟨I2, hn, fr⟩ := pair_inv (tk := tk) (x := .int (0 + (i : Int))) I hf (by simp) kp hT tup ⟨_, rfl⟩ ru fun b hb => let ⟨o, e, _⟩ := enum_live st0 b hb; ⟨o, e⟩
    obtain ⟨g1, g2, _⟩ := st'
    exact ⟨.ref T, _, I2, rfl, ⟨T, _, _, rfl, hn, rfl, rfl, gx⟩, ⟨g1, g2⟩, fr⟩
  done := by
    intro X hP hw hK hc i pins s σ H E I hf st hg
    subst hP hw hK
    obtain ⟨q1, hi⟩ := hg
    obtain ⟨i1, r1, s1⟩ := k.there I q1
    have W := GoesN.enumFrom (prog := X.prog) (w := X.w) (A := X.A) (elts := elts) (x1 := kk) (pos := tpos) 0 (k.draws (A := X.A.in1) (I.ok.hd hc) N a (Nat.ne_of_lt ha) i1.toArray) (N + 1) (Nat.succ_ne_self _) (by
      intro z
      rcases List.mem_cons.mp z with z | z
      · exact Nat.succ_ne_self _ z
      · rcases List.mem_cons.mp z with z | z
        · exact Nat.lt_irrefl _ (Nat.lt_of_lt_of_le ha (by rw [← z]; exact Nat.le_succ N))
        · cases z) (by simp)
    obtain ⟨h1, h2⟩ := st
    have hn : i1.toArray.size = i := by rw [List.size_toArray, ← r1.length]; exact hi.symm
    rw [hn] at W
    refine W.stops s _ E ⟨h1, h2, s1⟩ fun h' tk kp htk => ?_
    exact I.turnedL (t' := tk) (ch := [N + 1, N]) kp fun b hb => hf b hb
  self := fun A i s Q E st h => let ⟨⟨_, he⟩, _⟩ := st; wpAny_pyIter_enum he h
def iEnumU (K : PySem.W.Frag) (ta : TA) : TI := fun σ H R => ta σ H fun vs H1 => ∃ a k xs, vs = [.ref a] ∧ Sk.sq K H1 a xs k ∧ R (ItP (fun H => k.sq K H a xs) xs.length (fun i => some (.int (0 + (i : Int)))) (fun i => xs[i]?)) H1
theorem pi_enumU {e : Expr} {ta : TA} {p pos tpos : Pos} {elts : List Expr} {kk : Nat} (hg : Gl X "enumerate") (hm : X.mg "enumerate" = none) (ha : PA X [e] ta) (h1 : starEach [e] X.env = [(false, eval e X.env)] := by rfl) :
    PI X (.Tuple elts kk tpos) (.Call (.Name "enumerate" p) [e] [] pos) (iEnumU X.K ta) := by
  refine ⟨fun pins s σ H R I h => PyProof.Rows.Call_ (ld_blt I hg hm PyProof.Rows.boot_enumerate (PyProof.Rows.callWith_type1 (thn (ha.run pos pins s σ H _ I h) fun us s1 ⟨vs, H1, I1, r1, q1⟩ => ?_) h1 rfl))⟩
  obtain ⟨a, k, xs, rfl, q1, q⟩ := q1
  cases r1 with
  | cons r rr =>
  cases rr; cases r
  obtain ⟨i1, r1, s1'⟩ := k.there I1 q1
  refine enum_begins1 (k.begins a i1.toArray) s1' fun h' he g1 hk => wpAny_pyIter_enum he ?_
  refine ⟨s1.heap.objs.size + 1, [s1.heap.objs.size + 1, s1.heap.objs.size], _, _, H1, rfl, I1.kept (t' := s1.toks) hk, turn_enumU k (k.lt s1') xs, ⟨⟨_, he⟩, k.first g1⟩, fun c hc => ?_, q⟩
  have hle : s1.heap.objs.size ≤ c := by
    have : c = s1.heap.objs.size + 1 ∨ c = s1.heap.objs.size := by simpa using hc
    rcases this with z | z <;> rw [z] <;> first | exact Nat.le_add_right _ _ | exact Nat.le_refl _
  exact I1.fpOk hle (I1.hok.fresh hle)
def enumFrom (i : Nat) : List D → List D
  | [] => []
  | d :: ds => .tuple [.int (i : Int), d] :: enumFrom (i + 1) ds
theorem enumFrom_len : ∀ (ds : List D) (i : Nat), (enumFrom i ds).length = ds.length
  | [], _ => rfl
  | d :: ds, i => by
    show (enumFrom (i + 1) ds).length + 1 = ds.length + 1
    rw [enumFrom_len ds (i + 1)]
theorem enumFrom_get : ∀ (ds : List D) (i j : Nat) (d : D), ds[j]? = some d → (enumFrom i ds)[j]? = some (.tuple [.int ((i + j : Nat) : Int), d])
  | d :: ds, i, 0, e, h => by cases h; rfl
  | d :: ds, i, j + 1, e, h => by
    show (enumFrom (i + 1) ds)[j]? = _
    rw [enumFrom_get ds (i + 1) j e h, show i + 1 + j = i + (j + 1) by omega]
def enum1D : List D → Option (List D)
  | [a] => (skOf a).map fun q => enumFrom 0 q.2
  | _ => none
theorem di_enum {ga : GA} (h : DA K tas ga) : DI K (iEnumU K tas) (eCall enum1D ga) := fun b0 B Z0 Z H σ ρ ds ρ' W ok e q => by
  obtain ⟨os, as, e1, e2, e3⟩ := call_ok e
  refine h b0 B Z0 Z H σ ρ os ρ' _ ok e1 fun vs H1 Z1 ok1 s1 r1 => ?_
  have ra := valA_ok r1 e2
  unfold enum1D at e3
  split at e3
  · obtain ⟨⟨k, xs⟩, f1, rfl⟩ := Option.map_eq_some_iff.mp e3
    cases ra with
    | cons r ra =>
    cases ra
    obtain ⟨a, va, rfl, qa, rva⟩ := sk_rp f1 r
    refine ⟨a, k, va, rfl, k.mono ok1.zh qa, q _ H1 Z1 ok1 s1 (wk_pair (fun H s => k.mono s qa) (by rw [enumFrom_len, rva.length]) fun i x y hi ex ey => ?_)⟩
    cases ex
    obtain ⟨d1, g1, rd1⟩ := rva.getV ey
    exact ⟨_, d1, enumFrom_get xs 0 i d1 g1, by rw [show ((0 + i : Nat) : Int) = 0 + (i : Int) by omega]; exact .int _, rd1⟩
  · cases e3
def tyName : D → String
  | .none => "NoneType"
  | .bool _ => "bool"
  | .int _ => "int"
  | .str _ => "str"
  | .list _ => "list"
  | .tuple _ => "tuple"
  | .dict [(.list _, .none)] => "list"
  | .dict _ => "?"
def plainT (d : D) : Bool := tyName d != "?"
def isiD (T : String) (d : D) : Option D := if plainT d then (kitB (tyName d) T).map .bool else none
def isiAny (a : String) : List String → Option Bool
  | [] => some false
  | T :: r => match kitB a T with
    | some true => some true
    | some false => isiAny a r
    | none => none
def isiTD (Ts : List String) (d : D) : Option D := if plainT d then (isiAny (tyName d) Ts).map .bool else none
theorem tyx_of {Z H : Hp} {v : V} {d : D} (s : Same Z H) (h : Bd K Z H v d) (hp : plainT d = true) : TyX K H v (.type (tyName d)) := by
  cases h with
  | non => exact .base .non
  | bl b => exact .base (.bl b)
  | int i => exact .base (.int i)
  | str x => exact .base (.str x)
  | lst h r => exact .base (.lst h)
  | scr h r =>
    rcases h with (h | ⟨o, h⟩) | ⟨o, its, n, h, c, _⟩
    · exact .base (.lst h)
    · exact .base (.frz h)
    · exact .kList h c
  | tup h r =>
    rcases same_t s h with (h | ⟨o, h⟩) | ⟨o, its, n, h, c, _⟩
    · exact .base (.tup h)
    · exact .fTuple h
    · exact .kTuple h c
  | exc h1 h2 h3 r => exact absurd (show false = true from hp) (by decide)
  | dct h r => exact absurd (show false = true from hp) (by decide)
theorem de_isi {T : String} {g : GO} (h : DO K te g) : DE K (tCB (rIsi K) (tCons te (tCons (tC (.ty T)) tNil))) (eOp1 (isiD T) g) := fun b0 B Z0 Z H σ ρ d ρ' Q ok e q => by
  obtain ⟨x, a, e1, e3, e5⟩ := op1_ok e
  unfold isiD at e5
  split at e5
  case isFalse => cases e5
  rename_i hp
  obtain ⟨b, e6, rfl⟩ := Option.map_eq_some_iff.mp e5
  refine h b0 B Z0 Z H σ ρ x ρ' _ ok e1 fun v H1 Z1 ok1 s1 r1 => ?_
  exact ⟨v, .ty T, _, _, b, rfl, .ty T, tyx_of ok1.zh (ok1.bd r1 e3) hp, kit_ty e6, q _ H1 Z1 ok1 s1 (.bl b)⟩
theorem kitAny_of {a : String} : ∀ {Ts : List String} {b : Bool}, isiAny a Ts = some b → PySem.W.kitAny K (.type a) (Ts.map Value.type) = some b
  | [], b, h => by cases h; rfl
  | T :: r, b, h => by
    unfold isiAny at h
    split at h
    · rename_i hk
      cases h
      exact kitAny_cons (kit_ty hk) (fun z => nomatch z) fun _ => rfl
    · rename_i hk
      exact kitAny_cons (kit_ty hk) (fun _ => kitAny_of h) fun z => nomatch z
    · cases h
def tTys : List String → TA
  | [] => tNil
  | T :: r => tCons (tC (.ty T)) (tTys r)
theorem tTys_run {σ : L2.St} {H : Hp} {Q : List V → Hp → Prop} : ∀ (Ts : List String), Q (Ts.map V.ty) H → tTys Ts σ H Q
  | [], h => h
  | T :: r, h => tTys_run (Q := fun xs H2 => Q (.ty T :: xs) H2) r h
theorem paired_ty : ∀ Ts : List String, Paired ClsV (Ts.map V.ty) (Ts.map Value.type)
  | [] => .nil
  | T :: r => .cons (.ty T) (paired_ty r)
theorem de_isiT {Ts : List String} {g : GO} (hl : Ts.length ≤ sizeLine) (h : DO K te g) : DE K (tCB (rIsiT K) (tCons te (tCons (tTup (tTys Ts)) tNil))) (eOp1 (isiTD Ts) g) := fun b0 B Z0 Z H σ ρ d ρ' Q ok e q => by
  obtain ⟨x, a, e1, e3, e5⟩ := op1_ok e
  unfold isiTD at e5
  split at e5
  case isFalse => cases e5
  rename_i hpl
  obtain ⟨b, e6, rfl⟩ := Option.map_eq_some_iff.mp e5
  refine h b0 B Z0 Z H σ ρ x ρ' _ ok e1 fun v H1 Z1 ok1 s1 r1 => ?_
  refine tTys_run (Q := fun xs H2 => xs.length ≤ sizeLine ∧ ∀ p, H2 p = none → _) Ts ⟨by rw [List.length_map]; exact hl, fun p hp => ?_⟩
  obtain ⟨ok2, zp, bp, ap⟩ := ok1.fresh (o := .tup (Ts.map V.ty)) hp
  exact ⟨v, p, Ts.map V.ty, _, _, b, rfl, upd_same, paired_ty Ts, tyx_of ok2.zh (ok2.bd r1 e3) hpl, kitAny_of e6, q _ _ Z1 ok2 s1 (.bl b)⟩
def flV : D → Option V
  | .none => some .non
  | .bool b => some (.bl b)
  | .int i => some (.int i)
  | .str x => some (.str x)
  | _ => none
def flVs : List D → Option (List V)
  | [] => some []
  | d :: ds => match flV d, flVs ds with
    | some v, some vs => some (v :: vs)
    | _, _ => none
theorem flV_rp {Z : Hp} {v w : V} {d : D} (h : flV d = some w) (r : Rp K Z v d) : v = w ∧ flatV v = true := by
  cases r <;> cases h <;> exact ⟨rfl, rfl⟩
theorem flVs_rp {Z : Hp} : ∀ {vs ws : List V} {ds : List D}, flVs ds = some ws → RpA K Z vs ds → vs = ws ∧ vs.all flatV = true
  | _, _, _, h, .nil => by cases h; exact ⟨rfl, rfl⟩
  | _, _, _, h, .cons r ra => by
    unfold flVs at h
    split at h
    · rename_i v' vs' e1 e2
      cases h
      obtain ⟨rfl, f1⟩ := flV_rp e1 r
      obtain ⟨rfl, f2⟩ := flVs_rp e2 ra
      exact ⟨rfl, by rw [List.all_cons, f1, f2]; rfl⟩
    · cases h
def inDb (x d : D) : Option Bool := match d with
  | .list ds => (match flV x, flVs ds with
    | some v, some vs => some (inV v vs)
    | _, _ => none)
  | .tuple ds => (match flV x, flVs ds with
    | some v, some vs => some (inV v vs)
    | _, _ => none)
  | _ => none
def inD (x d : D) : Option D := (inDb x d).map .bool
def notInD (x d : D) : Option D := (inDb x d).map fun b => .bool (!b)
theorem in_rp {Z H : Hp} {x y : V} {a b : D} {k : Bool} (s : Same Z H) (ha : Bd K Z H x a) (hb : Bd K Z H y b) (h : inDb a b = some k) : ∃ p xs, y = .ref p ∧ (SqL K H p xs ∨ SqT K H p xs) ∧ flatV x = true ∧ xs.all flatV = true ∧ k = inV x xs := by
  have fx : ∀ v, flV a = some v → x = v ∧ flatV x = true := fun v e => flV_rp e (bd_rp s ha)
  unfold inDb at h
  split at h
  · split at h
    · rename_i v vs e1 e2
      cases h
      cases hb with
      | lst h r =>
      obtain ⟨rfl, f1⟩ := fx v e1
      obtain ⟨rfl, f2⟩ := flVs_rp e2 r
      exact ⟨_, _, rfl, .inl (.inl (.inl h)), f1, f2, rfl⟩
    · cases h
  · split at h
    · rename_i v vs e1 e2
      cases h
      cases hb with
      | tup h r =>
      obtain ⟨rfl, f1⟩ := fx v e1
      obtain ⟨rfl, f2⟩ := flVs_rp e2 r
      exact ⟨_, _, rfl, .inr (same_t s h), f1, f2, rfl⟩
    · cases h
  · cases h
theorem sn_in : Sn2 K (rIn K false) inD := fun b0 B Z0 Z H σ ρ x y a b c Q ok ha hb e q => by
  obtain ⟨k, e1, rfl⟩ := Option.map_eq_some_iff.mp e
  obtain ⟨p, xs, rfl, h1, h2, h3, rfl⟩ := in_rp ok.zh ha hb e1
  exact ⟨p, xs, rfl, h1, h2, h3, q _ H Z ok (Same.refl Z) (.bl _)⟩
theorem sn_notIn : Sn2 K (rIn K true) notInD := fun b0 B Z0 Z H σ ρ x y a b c Q ok ha hb e q => by
  obtain ⟨k, e1, rfl⟩ := Option.map_eq_some_iff.mp e
  obtain ⟨p, xs, rfl, h1, h2, h3, rfl⟩ := in_rp ok.zh ha hb e1
  exact ⟨p, xs, rfl, h1, h2, h3, q _ H Z ok (Same.refl Z) (.bl _)⟩
end
end DL
namespace DL
open PySem L2
section
variable {X : Cx} {K : PySem.W.Frag} {ta tb te tc : TE} {tas tks : TA} {tg : Expr}
theorem sn2_of_f {r : R2} {f : D → D → Option (List D)} (h : Sn2F K r f) : Sn2 K r (fun a b => (f a b).map .list) := fun b0 B Z0 Z H σ ρ x y a b c Q ok ha hb e q => by
  obtain ⟨ds, e1, rfl⟩ := Option.map_eq_some_iff.mp e
  refine h b0 B Z0 Z H σ ρ x y a b ds Q ok ha hb e1 fun p vs H' ok' zp bp ap hp r => ?_
  obtain ⟨ok2, s2⟩ := ok'.freeze zp bp ap hp
  exact q (.ref p) H' _ ok2 s2 (.lst upd_same (r.mono s2))
theorem sn2_or {r : R2} {f g : D → D → Option D} (h : Sn2 K r f) (h' : Sn2 K r g) : Sn2 K r (fun a b => (f a b).orElse fun _ => g a b) := fun b0 B Z0 Z H σ ρ x y a b c Q ok ha hb e q => by
  dsimp only at e
  cases hf : f a b with
  | some d =>
    rw [hf] at e
    cases e
    exact h b0 B Z0 Z H σ ρ x y a b _ Q ok ha hb hf q
  | none =>
    rw [hf] at e
    exact h' b0 B Z0 Z H σ ρ x y a b c Q ok ha hb e q
def addU (a b : D) : Option D := (addD a b).orElse fun _ => (addL a b).map .list
def mulU (a b : D) : Option D := (mulD a b).orElse fun _ => (repL a b).map .list
theorem sn_addU : Sn2 K (rAddU K) addU := sn2_or sn_add (sn2_of_f sn_addL)
theorem sn_mulU : Sn2 K rMulU mulU := sn2_or sn_mul (sn2_of_f sn_repL)
def sliceU (d : D) (lo hi : Option Int) : Option D := (sliceT d lo hi).orElse fun _ => (sliceL d lo hi).map .list
theorem sn_sliceU : SnSl K (rSlU K) sliceU := fun b0 B Z0 Z H σ ρ x a lo hi c Q ok ha e q => by
  unfold sliceU at e
  cases hf : sliceT a lo hi with
  | some d =>
    rw [hf] at e
    cases e
    exact sn_sliceT b0 B Z0 Z H σ ρ x a lo hi _ Q ok ha hf q
  | none =>
    rw [hf] at e
    obtain ⟨ds, e1, rfl⟩ := Option.map_eq_some_iff.mp e
    refine sn_sliceL b0 B Z0 Z H σ ρ x a lo hi ds Q ok ha e1 fun p vs H' ok' zp bp ap hp r => ?_
    obtain ⟨ok2, s2⟩ := ok'.freeze zp bp ap hp
    exact q (.ref p) H' _ ok2 s2 (.lst upd_same (r.mono s2))
def eCallBF (F : List D → List D → Option (List D × List D)) (i : Nat) (ga : GA) (ρ : Rho) : R (List D) := if isOw ρ[i]? then (ga ρ).bind fun os ρ1 => match ρ1[i]?, valA os with
    | some (.ow box), some ds => (match F box ds with
      | some (d, box') => .ok d (ρ1.set i (.ow box'))
      | none => .bad)
    | _, _ => .bad
  else .bad
structure KwB (K : PySem.W.Frag) (fd : FuncData) (ps ks : List Str) (g : {α : Type} → List α → List α) : Prop where
  to : ∀ (s : Shared) (ws : List Value), K.In s.heap → ws.length = ks.length → BindsTo s fd ⟨[], ks.zip ws⟩ (ps.zip (g ws))
  rel : ∀ {A C : Type} {rel : A → C → Prop} {zs : List A} {ws : List C}, Paired rel zs ws → Paired rel (g zs) (g ws)
def tCallW (sp : Sp) (m : Nat) (g : {α : Type} → List α → List α) (E : XK) (tk : TA) : TE := fun σ H Q => tk σ H fun zs H2 => zs.length = m ∧ sp (g zs) H2 Q E
theorem pe_callW {CX : CXT} {k : Nat} {f : Addr} {fd : FuncData} {ps ks : List Str} {sp : Sp} {E : XK} {x : Str} {p pos : Pos} {kws : List Keyword} {g : {α : Type} → List α → List α} (F : FnOk X.prog X.w X.K X.mg X.base CX k f fd ps sp) (hr : Room k X.A) (hg : Gl X x) (hm : X.mg x = some (.ref f)) (hk : PySem.W.keepIn X.K (.ref f) = true) (hb : KwB X.K fd ps ks g) (hx : Passes CX X E) (hkw : PK X kws tks)
    (c1 : (backToKw pos (keywordEach kws X.env)).all (·.1.isSome) = true := by rfl) (c2 : (backToKw pos (keywordEach kws X.env)).filterMap (·.1) = ks := by rfl) (c3 : (x == ("__debug__" : Str)) = false := by decide)
    (c4 : ((backTo pos (starEach [] X.env)).any (·.1) || (backToKw pos (keywordEach kws X.env)).any (·.1.isNone)) = false := by rfl) : PE X (.Call (.Name x p) [] kws pos) (tCallW sp ks.length g E tks) := by
  refine ⟨fun pins s σ H Q I h => wpAny_Call_Name_kw (ld_glob I hg hm (PySem.W.callWith_KW0 (h₀ := X.base) I.ok.mod.kin hk c1 ?_ c4) c3)⟩
  refine thn (hkw.run pos pins s σ H _ I h) fun ws s2 ⟨zs, H2, I2, rz, l2, q2⟩ => ⟨I2.kIn, ?_⟩
  rw [c2]
  have r2 : Vals (g zs) (g ws) := hb.rel rz
  refine wpAny_call (codeAny_mono (F.run X.A X.stack s2 H2 ⟨[], ks.zip ws⟩ (g ws) (g zs) Q E hr I2.env0 (hb.to s2 ws I2.kIn (rz.length.symm.trans l2)) r2 q2) fun r s' hq => ?_)
  cases r with
  | error e => exact hx pins σ H2 s2 e s' I2 hq
  | ok fl => cases fl <;> first | exact I2.after hq | exact hq.elim
def eCallW {α : Type} (F : List D → Option α) (m : Nat) (g : {α : Type} → List α → List α) (ga : GA) (ρ : Rho) : R α := (ga ρ).bind fun os ρ1 => match valA os with
  | some ds => if ds.length = m then R.lift (F (g ds)) ρ1 else .bad
  | none => .bad
theorem RpA.paired {Z : Hp} : ∀ {vs : List V} {ds : List D}, RpA K Z vs ds → Paired (Rp K Z) vs ds
  | _, _, .nil => .nil
  | _, _, .cons h r => .cons h (RpA.paired r)
theorem RpA.of_paired {Z : Hp} : ∀ {vs : List V} {ds : List D}, Paired (Rp K Z) vs ds → RpA K Z vs ds
  | _, _, .nil => .nil
  | _, _, .cons h r => .cons h (RpA.of_paired r)
theorem callW_ok {α : Type} {F : List D → Option α} {m : Nat} {g : {α : Type} → List α → List α} {ga : GA} {ρ ρ' : Rho} {z : α} (e : eCallW F m g ga ρ = .ok z ρ') : ∃ os ds, ga ρ = .ok os ρ' ∧ valA os = some ds ∧ ds.length = m ∧ F (g ds) = some z := by
  obtain ⟨x, ρ1, e1, e2⟩ := R.bind_ok e
  split at e2
  · rename_i d h1
    split at e2
    · obtain ⟨e5, rfl⟩ := R.lift_ok e2
      exact ⟨x, d, e1, h1, by assumption, e5⟩
    · cases e2
  · cases e2
theorem de_callW {m np : Nat} {F : List D → Option D} {g : {α : Type} → List α → List α} {ga : GA} {E : XK} (hg : ∀ {A C : Type} {rel : A → C → Prop} {zs : List A} {ws : List C}, Paired rel zs ws → Paired rel (g zs) (g ws)) (hF : ∀ ds d, F ds = some d → ds.length = np) (ha : DA K tks ga) : DE K (tCallW (spP K np F) m g E tks) (eCallW F m g ga) := fun b0 B Z0 Z H σ ρ d ρ' Q ok e q => by
  obtain ⟨os, ds, e1, e2, hm, e3⟩ := callW_ok e
  refine ha b0 B Z0 Z H σ ρ os ρ' _ ok e1 fun vs H1 Z1 ok1 s1 r1 => ?_
  have ra := valA_ok r1 e2
  have rg : RpA K Z1 (g vs) (g ds) := RpA.of_paired (hg ra.paired)
  refine ⟨by rw [ra.length]; exact hm, by rw [rg.length]; exact hF _ _ e3, Z1, g ds, d, ok1.zh, rg, e3, fun v H' Z' hh g r => ?_⟩
  exact q v H' Z' (ok1.grow hh g) (s1.trans g.1) r
theorem df_callW {m np : Nat} {F : List D → Option (List D)} {g : {α : Type} → List α → List α} {ga : GA} {E : XK} (hg : ∀ {A C : Type} {rel : A → C → Prop} {zs : List A} {ws : List C}, Paired rel zs ws → Paired rel (g zs) (g ws)) (hF : ∀ ds d, F ds = some d → ds.length = np) (ha : DA K tks ga) : DF K (tCallW (spF K np F) m g E tks) (eCallW F m g ga) := fun b0 B Z0 Z H σ ρ d ρ' Q ok e q => by
  obtain ⟨os, ds, e1, e2, hm, e3⟩ := callW_ok e
  refine ha b0 B Z0 Z H σ ρ os ρ' _ ok e1 fun vs H1 Z1 ok1 s1 r1 => ?_
  have ra := valA_ok r1 e2
  have rg : RpA K Z1 (g vs) (g ds) := RpA.of_paired (hg ra.paired)
  refine ⟨by rw [ra.length]; exact hm, by rw [rg.length]; exact hF _ _ e3, Z1, g ds, d, ok1.zh, rg, e3, fun p ws H' Z' hh g hp zp hp' r => ?_⟩
  refine q p ws H' Z' (ok1.grow hh g) (s1.trans g.1) zp (ok1.bh.free hp) (fun i es hi ho hq => ?_) hp' r
  obtain ⟨q', vs', f1, _, _, f4, _⟩ := ok1.own i es hi ho
  rw [f1] at hq
  cases hq
  rw [hp] at f4
  cases f4
theorem fn_noneP {P : Program} {w : World} {mg : Str → Option Value} {base : Heap} {k np : Nat} {f : Addr} {fd : FuncData} {ps : List Str} (h : ps.length = np) : FnOk P w K mg base CX0 k f fd ps (spP K np fun _ => none) :=
  ⟨fun vs H Q E q => q.1.trans h.symm, fun A outer s H args us vs Q E hr he hb hv hs => by
    obtain ⟨_, Z, ds, d, _, _, e, _⟩ := hs
    cases e⟩
theorem fn_noneB {P : Program} {w : World} {mg : Str → Option Value} {base : Heap} {k np : Nat} {f : Addr} {fd : FuncData} {ps : List Str} (h : ps.length = np) : FnOk P w K mg base CX0 k f fd ps (spB K np fun _ _ => none) :=
  ⟨fun vs H Q E q => q.1.trans h.symm, fun A outer s H args us vs Q E hr he hb hv hs => by
    obtain ⟨_, Z, b, vb, box, rest, ds, d, box', _, _, _, _, _, _, e, _⟩ := hs
    cases e⟩
end
end DL
namespace DL
open PySem PySem.Spec PyProof.Rows L2
structure FnG (P : Program) (w : World) (K : PySem.W.Frag) (mg : Str → Option Value) (base : Heap) (k : Nat) (f : Addr) (fd : FuncData) (ps : List Str) (sp : Sp) : Prop where
  len : ∀ vs H Q E, sp vs H Q E → vs.length = ps.length
  run : ∀ (A : Around) (out : List PySem.Env) (t : Shared) (H : Hp) (ar : Args) (us : List Value) (vs : List V) (Q : VK) (E : XK), Room k A → A.guards = some [] → Env0 P w K mg base A out t H → BindsTo t fd ar (ps.zip us) → Vals vs us → sp vs H Q E →
    codeAny (model P w) A (.call (.ref f) ar) (CR CX0 out P w H t Q E) t
section
variable {P : Program} {w : World} {K : PySem.W.Frag} {mg : Str → Option Value} {base : Heap} {X : Cx}
theorem FnG.mono {j k : Nat} {f : Addr} {fd : FuncData} {ps : List Str} {sp : Sp} (F : FnG P w K mg base j f fd ps sp) (h : j ≤ k) : FnG P w K mg base k f fd ps sp :=
  ⟨F.len, fun A out t H ar us vs Q E hr => F.run A out t H ar us vs Q E (hr.mono h)⟩
end
section
variable {X : Cx} {K : PySem.W.Frag}
def rg2 (a b : D) : Option (List D) := match a, b with
  | .int i, .int j => if -(2 ^ 62) ≤ i ∧ i < 2 ^ 62 ∧ -(2 ^ 62) ≤ j ∧ j < 2 ^ 62 ∧ (j - i).toNat ≤ 2 ^ 24 then some (rangeD i (j - i).toNat) else none
  | _, _ => none
def eRg2 (a b : GE) (ρ : Rho) : R (List D) := (a ρ).bind fun x ρ1 => (b ρ1).bind fun y ρ2 => R.lift (rg2 x y) ρ2
def eRg1 (a : GE) (ρ : Rho) : R (List D) := (a ρ).bind fun x ρ1 => R.lift (rg2 (.int 0) x) ρ1
theorem rgV_rp {Z : Hp} (i j : Int) : RpA K Z (rgV i j) (rangeD i (j - i).toNat) := by
  unfold rgV rangeD
  generalize List.range (j - i).toNat = l
  induction l with
  | nil => exact .nil
  | cons n r ih => exact .cons (.int _) ih
theorem rg2_ok {x y : D} {ds : List D} (h : rg2 x y = some ds) : ∃ i j, x = .int i ∧ y = .int j ∧ RgOk i j ∧ ds = rangeD i (j - i).toNat := by
  unfold rg2 at h
  split at h
  · split at h
    · cases h; exact ⟨_, _, rfl, rfl, by assumption, rfl⟩
    · cases h
  · cases h
variable {ta tb : TE}
theorem df_listRg2 {a b : GE} (ha : DE K ta a) (hb : DE K tb b) : DF K (tLstRg (tRg2 ta tb)) (eRg2 a b) := fun b0 B Z0 Z H σ ρ d ρ' Q ok e q => by
  obtain ⟨x, ρ1, e1, e⟩ := R.bind_ok e
  obtain ⟨y, ρ2, e2, e⟩ := R.bind_ok e
  obtain ⟨e3, rfl⟩ := R.lift_ok e
  obtain ⟨i, j, rfl, rfl, ro, rfl⟩ := rg2_ok e3
  refine ha b0 B Z0 Z H σ ρ _ ρ1 _ ok e1 fun v H1 Z1 ok1 s1 r1 => ?_
  refine hb b0 B Z0 Z1 H1 σ ρ1 _ ρ2 _ ok1 e2 fun u H2 Z2 ok2 s2 r2 => ?_
  cases r1; cases r2
  refine ⟨i, j, rfl, rfl, ro, fun p hp => ?_⟩
  obtain ⟨ok3, zp, bp, ap⟩ := ok2.fresh (o := .lst (rgV i j)) hp
  exact q p _ _ Z2 ok3 (s1.trans s2) zp bp ap upd_same (rgV_rp i j)
end
end DL
namespace DL
open PySem PySem.Spec PyProof.Rows L2
open AutoSeq1 (wpAny_loadPart')
theorem tup_mul1 (l : Addr) (its : Array Value) (n : Nat) (dd : Option Addr) (sl : Array (Option Value)) (u : Tok) :
    Meets (Builtin.«tuple.__mul__» ⟨[.ref l, .int 1 u], []⟩) (fun _ R s => s.heap.get? l = some { cls := .type "tuple", dict := dd, data := .seq its n, slots := sl } ∧ R (.ok (.ret (Value.ref l))) s) :=
  .of_wp fun prog w A R s h => by
    obtain ⟨hp, g, d, tk, os⟩ := s
    obtain ⟨hl, h⟩ := h
    have f1 := AutoSeq1.idx_int
    have c : (its.isEmpty || (1 : Int) == 1) = true := by cases its.isEmpty <;> rfl
    wp_walk using wpAny_loadPart' hl
    exact ⟨_, rfl, h⟩
theorem tup_mul0 (l : Addr) (its : Array Value) (n : Nat) (dd : Option Addr) (sl : Array (Option Value)) (u : Tok) (c : its.isEmpty = false) :
    Meets (Builtin.«tuple.__mul__» ⟨[.ref l, .int 0 u], []⟩) (fun _ R s => s.heap.get? l = some { cls := .type "tuple", dict := dd, data := .seq its n, slots := sl } ∧ R (.ok (.ret (Value.ref s.heap.objs.size))) { s with heap := s.heap.push { cls := Value.type "tuple", data := Data.seq #[] } }) :=
  .of_wp fun prog w A R s h => by
    obtain ⟨hp, g, d, tk, os⟩ := s
    obtain ⟨hl, h⟩ := h
    have f1 := AutoSeq1.idx_int
    have c1 : (its.isEmpty || (0 : Int) == 1) = false := by rw [c]; rfl
    have c2 : (decide ((0 : Int) ≤ 0) || its.isEmpty) = true := rfl
    wp_walk using wpAny_loadPart' hl
    exact ⟨_, rfl, h⟩
section
variable {X : Cx} {K : PySem.W.Frag}
def rRepT01 (K : PySem.W.Frag) : R2 := fun x y H Q => ∃ l k xs, x = .ref l ∧ y = .int k ∧ SqT K H l xs ∧ xs ≠ [] ∧ ((k = 0 ∧ ∀ p, H p = none → Q (.ref p) (upd H p (.tup []))) ∨ (k = 1 ∧ Q (.ref l) H))
theorem op_repT01 : OpR X (binaryOp .Mult) (rRepT01 X.K) := by
  intro pins s σ H x y v u Q I rx ry h
  obtain ⟨l, k, xs, rfl, rfl, hT, hne, h⟩ := h
  cases rx
  obtain ⟨t, rfl⟩ := ry
  obtain ⟨its, r, ⟨⟨cls, dd, data, sl⟩, ho, hc, n, hd⟩, hs⟩ := I.tuple hT
  simp only at hc hd
  subst hc hd
  have hi : its.toArray.isEmpty = false := by
    cases its with
    | nil => exact absurd (List.eq_nil_of_length_eq_zero (by rw [r.length]; rfl)) hne
    | cons a b => rfl
  refine wpAny_binaryOp_repeat_ref (T := "tuple") (U := "int") (by decide) ⟨_, ho, rfl⟩ (fun s' => typeIs_int s' k t) noFill_tuple_mul F.fills_int_mul F.slot_int_rmul repeat_tuple F.slot_int_index.lookup ?_
  refine call_meets F.slot_int_rmul (typeIs_int s k t) F.entry_int_rmul (F.args_int_rmul_2 _ _) (int_rmul_tuple k t l its.toArray n dd sl) ⟨ho, rfl, ⟨_, ho, rfl⟩, ?_⟩
  rcases h with ⟨rfl, q⟩ | ⟨rfl, q⟩
  · refine call_meets F.slot_tuple_mul ⟨_, ho, rfl⟩ F.entry_tuple_mul (F.args_tuple_mul_2 _ _) (tup_mul0 l its.toArray n dd sl t hi) ⟨ho, ?_⟩
    exact ⟨.ref s.heap.objs.size, _, I.laid (t' := s.toks) (o := .tup []) (fun b ob q => Heap.get?_push_of_some _ q) (Nat.le_refl _) ⟨Nat.zero_le _, [], .nil, IsTup.new _ _⟩, rfl, q _ (I.hok.fresh (Nat.le_refl _))⟩
  · refine call_meets F.slot_tuple_mul ⟨_, ho, rfl⟩ F.entry_tuple_mul (F.args_tuple_mul_2 _ _) (tup_mul1 l its.toArray n dd sl t) ⟨ho, ?_⟩
    exact ⟨.ref l, H, I, rfl, q⟩
/-- * : ints, a list or a tuple times an int -/
def rMulT (K : PySem.W.Frag) : R2 := fun x y H Q => rMulU x y H Q ∨ rRepT K x y H Q ∨ rRepT01 K x y H Q
theorem op_mulT : OpR X (binaryOp .Mult) (rMulT X.K) := opr_or op_mulU (opr_or op_repT op_repT01)
def repT : D → D → Option D
  | .tuple xs, .int k => if 0 ≤ k ∧ k ≤ 1000 ∧ xs.length ≤ 1000 ∧ xs ≠ [] then some (.tuple (List.replicate k.toNat xs).flatten) else none
  | _, _ => none
theorem sn_repT : Sn2 K (rMulT K) repT := fun b0 B Z0 Z H σ ρ x y a b c Q ok ha hb e q => by
  unfold repT at e
  split at e
  · split at e
    · rename_i hl
      obtain ⟨h0, h1, h2, h3⟩ := hl
      cases e
      cases hb
      cases ha with
      | tup hs ra =>
      have hne : ∀ {vs : List V} {ds : List D}, RpA K Z vs ds → ds ≠ [] → vs ≠ [] := fun r n z => by
        subst z
        cases r
        exact n rfl
      rename_i k _ _
      by_cases k0 : k = 0
      · subst k0
        refine .inr (.inr ⟨_, _, _, rfl, rfl, same_t ok.zh hs, hne ra h3, .inl ⟨rfl, fun p hp => ?_⟩⟩)
        obtain ⟨ok2, s2⟩ := ok.new (o := .tup []) hp
        exact q _ _ _ ok2 s2 (.tup (.inl (.inl upd_same)) .nil)
      · by_cases k1 : k = 1
        · subst k1
          refine .inr (.inr ⟨_, _, _, rfl, rfl, same_t ok.zh hs, hne ra h3, .inr ⟨rfl, q _ H Z ok (Same.refl Z) ?_⟩⟩)
          have := flat_rep ra 1
          rw [show (List.replicate 1 _).flatten = _ from List.append_nil _] at this
          exact .tup hs this
        · refine .inr (.inl ⟨_, _, _, rfl, rfl, same_t ok.zh hs, hne ra h3, by omega, h1, by rw [ra.length]; exact h2, fun p hp => ?_⟩)
          obtain ⟨ok2, s2⟩ := ok.new (o := .tup _) hp
          exact q _ _ _ ok2 s2 (.tup (.inl (.inl upd_same)) ((flat_rep ra _).mono s2))
    · cases e
  · cases e
def mulV (a b : D) : Option D := (mulU a b).orElse fun _ => repT a b
theorem sn_mulV : Sn2 K (rMulT K) mulV := sn2_or (sn2_mono sn_mulU fun _ _ _ _ h => .inl h) sn_repT
theorem sn_repLT : Sn2F K (rMulT K) repL := fun b0 B Z0 Z H σ ρ x y a b c Q ok ha hb e q => .inl (sn_repL b0 B Z0 Z H σ ρ x y a b c Q ok ha hb e q)
variable {te : TE} {tas : TA}
def eCallBX (F : List D → List D → Option (D × List D)) (g0 : GF) (ga : GA) (ρ : Rho) : R D := (g0 ρ).bind fun box ρ1 => (ga ρ1).bind fun os ρ2 => match valA os with
  | some ds => (match F box ds with
    | some (d, _) => .ok d ρ2
    | none => .bad)
  | none => .bad
end
end DL
namespace DL
open PySem L2
theorem addU_int (i j : Int) : addU (.int i) (.int j) = some (.int (i + j)) := rfl
theorem subD_int (i j : Int) : subD (.int i) (.int j) = some (.int (i - j)) := rfl
theorem mulD_of {i j : Int} (h : CMulU i j) : mulV (.int i) (.int j) = some (.int (i * j)) := by
  have e : mulD (.int i) (.int j) = some (.int (i * j)) := if_pos h
  unfold mulV mulU
  rw [e]; rfl
theorem cmul_l {i j : Int} (h : -(2 ^ 64) < i ∧ i < 2 ^ 64) : mulV (.int i) (.int j) = some (.int (i * j)) := mulD_of (.inl (.inl h))
theorem cmul_r {i j : Int} (h : -(2 ^ 64) < j ∧ j < 2 ^ 64) : mulV (.int i) (.int j) = some (.int (i * j)) := mulD_of (.inl (.inr h))
theorem modD_int {i j : Int} (h : 0 < j) : modD (.int i) (.int j) = some (.int (i % j)) := if_pos h
theorem fdivD_int {i j : Int} (h : 0 < j) (h2 : j < 2 ^ 300) : fdivD (.int i) (.int j) = some (.int (i / j)) := by
  have q : j.natAbs.log2 < 9000 := by
    have : j.natAbs < 2 ^ 300 := by omega
    have h0 : j.natAbs ≠ 0 := by omega
    exact Nat.lt_of_lt_of_le ((Nat.log2_lt h0).mpr this) (by decide)
  exact if_pos ⟨h, q⟩
theorem powD_int {i j : Int} (h0 : 0 ≤ j) (h1 : j ≤ 1000000) (h : i.natAbs < 2 ^ 64) : powD (.int i) (.int j) = some (.int (i ^ j.toNat)) := if_pos ⟨h0, h1, h⟩
theorem ltD_int (i j : Int) : ltD (.int i) (.int j) = some (.bool (decide (i < j))) := rfl
theorem leD_int (i j : Int) : leD (.int i) (.int j) = some (.bool (decide (i ≤ j))) := rfl
theorem gtD_int (i j : Int) : gtD (.int i) (.int j) = some (.bool (decide (j < i))) := rfl
theorem geD_int (i j : Int) : geD (.int i) (.int j) = some (.bool (decide (j ≤ i))) := rfl
theorem negD_int (i : Int) : negD (.int i) = some (.int (-i)) := rfl
theorem absD_int (i : Int) : absD [.int i] = some (.int (if i < 0 then -i else i)) := rfl
theorem intD_bool (k : Bool) : intD [.bool k] = some (.int (if k then 1 else 0)) := rfl
theorem intD_int (i : Int) : intD [.int i] = some (.int i) := rfl
theorem lenD_list (xs : List D) : lenD [.list xs] = some (.int xs.length) := rfl
theorem lenD_tuple (xs : List D) : lenD [.tuple xs] = some (.int xs.length) := rfl
theorem lenD_scr (xs : List D) : lenD [.dict [(.list xs, .none)]] = some (.int xs.length) := rfl
theorem pow10_7 : powD (.int 10) (.int 7) = some (.int 10000000) := rfl
theorem pow10_18 : powD (.int 10) (.int 18) = some (.int 1000000000000000000) := rfl
theorem pow10_40 : powD (.int 10) (.int 40) = some (.int 10000000000000000000000000000000000000000) := rfl
theorem isD_none (d : D) : isD d .none = some (.bool (isNoneD d)) := by cases d <;> rfl
theorem isNotD_none (d : D) : isNotD d .none = some (.bool (!isNoneD d)) := by cases d <;> rfl
theorem shaped_int (i : Int) : SeqAt.shaped (.int i) = true := rfl
theorem shaped_bool (b : Bool) : SeqAt.shaped (.bool b) = true := rfl
theorem eqv_int (i j : Int) : PyData.eqv (.int i) (.int j) = decide (i = j) := by
  unfold PyData.eqv
  by_cases h : i = j
  · rw [decide_eq_true h, h]; exact beq_self_eq_true j
  · rw [decide_eq_false h]; exact beq_eq_false_iff_ne.mpr h
theorem eqv_bool (i j : Bool) : PyData.eqv (.bool i) (.bool j) = decide (i = j) := by
  unfold PyData.eqv
  cases i <;> cases j <;> rfl
theorem eqv_none : PyData.eqv .none .none = true := by unfold PyData.eqv; rfl
theorem eqD_ints (i j : Int) : eqD (.int i) (.int j) = some (.bool (decide (i = j))) := by
  rw [← eqv_int]; exact if_pos ⟨shaped_int i, shaped_int j⟩
theorem neD_ints (i j : Int) : neD (.int i) (.int j) = some (.bool (!decide (i = j))) := by
  rw [← eqv_int]; exact if_pos ⟨shaped_int i, shaped_int j⟩
theorem eqD_bools (i j : Bool) : eqD (.bool i) (.bool j) = some (.bool (decide (i = j))) := by
  rw [← eqv_bool]; exact if_pos ⟨shaped_bool i, shaped_bool j⟩
theorem neD_bools (i j : Bool) : neD (.bool i) (.bool j) = some (.bool (!decide (i = j))) := by
  rw [← eqv_bool]; exact if_pos ⟨shaped_bool i, shaped_bool j⟩
theorem eqD_of {a b : D} (ha : SeqAt.shaped a = true) (hb : SeqAt.shaped b = true) : eqD a b = some (.bool (PyData.eqv a b)) := if_pos ⟨ha, hb⟩
theorem neD_of {a b : D} (ha : SeqAt.shaped a = true) (hb : SeqAt.shaped b = true) : neD a b = some (.bool (!PyData.eqv a b)) := if_pos ⟨ha, hb⟩
theorem ixD_list (xs : List D) (i : Int) : ixD (.list xs) (.int i) = atI xs i := by unfold ixD; rfl
theorem ixD_tuple (xs : List D) (i : Int) : ixD (.tuple xs) (.int i) = atI xs i := by unfold ixD; rfl
theorem ixD_scr (xs : List D) (i : Int) : ixD (.dict [(.list xs, .none)]) (.int i) = atI xs i := by unfold ixD; rfl
theorem atI_3_0 {α : Type} (a b c : α) : atI [a, b, c] 0 = some a := rfl
theorem atI_3_1 {α : Type} (a b c : α) : atI [a, b, c] 1 = some b := rfl
theorem atI_3_2 {α : Type} (a b c : α) : atI [a, b, c] 2 = some c := rfl
theorem ixN_3_0 : ixN 3 0 = some 0 := rfl
theorem ixN_3_1 : ixN 3 1 = some 1 := rfl
theorem ixN_3_2 : ixN 3 2 = some 2 := rfl
theorem atI_of {α : Type} {xs : List α} {i : Int} {n : Nat} {x : α} (hi : i = (n : Int)) (h : xs[n]? = some x) : atI xs i = some x := by
  subst hi
  exact atI_nat h
/-- the box: three ints -/
def GoodBox (n : Int) (box : List D) : Prop := ∃ a b c : Int, box = [.int a, .int b, .int c] ∧ 0 ≤ a ∧ 0 ≤ b ∧ b < 2 ^ 62 ∧ 0 ≤ c ∧ c ≤ n
theorem GoodBox.mono {n m : Int} {box : List D} (h : GoodBox n box) (hm : n ≤ m) : GoodBox m box := by
  obtain ⟨a, b, c, e, h1, h2, h3, h4, h5⟩ := h
  exact ⟨a, b, c, e, h1, h2, h3, h4, by omega⟩
theorem for_inv {k : GG} {b : GS} {ds : List D} (I : Nat → Rho → Prop) (step : ∀ i d ρ, ds[i]? = some d → I i ρ → ∃ ρ1, k d ρ = some ρ1 ∧ ∃ ρ2, (b ρ1 = .nx ρ2 ∨ b ρ1 = .ct ρ2) ∧ I (i + 1) ρ2) :
    ∀ {ρ : Rho}, I 0 ρ → ∃ ρ', forL k b ds ρ = .nx ρ' ∧ I ds.length ρ' := by
  have main : ∀ (es : List D) (j : Nat) (ρ : Rho), ds.drop j = es → I j ρ → ∃ ρ', forL k b es ρ = .nx ρ' ∧ I (j + es.length) ρ' := by
    intro es
    induction es with
    | nil => intro j ρ _ h; exact ⟨ρ, rfl, h⟩
    | cons d es ih =>
      intro j ρ hd h
      have hj : ds[j]? = some d := by
        have := congrArg List.head? hd
        rw [List.head?_drop] at this
        exact this
      have hd2 : ds.drop (j + 1) = es := by
        rw [← List.tail_drop, hd]; rfl
      obtain ⟨ρ1, e1, ρ2, e2, h2⟩ := step j d ρ hj h
      obtain ⟨ρ', e3, h3⟩ := ih (j + 1) ρ2 hd2 h2
      refine ⟨ρ', ?_, by rw [List.length_cons, show j + (es.length + 1) = j + 1 + es.length by omega]; exact h3⟩
      unfold forL
      rw [e1]
      rcases e2 with e2 | e2 <;> (dsimp only; rw [e2]; exact e3)
  intro ρ h
  obtain ⟨ρ', e, h'⟩ := main ds 0 ρ rfl h
  rw [Nat.zero_add] at h'
  exact ⟨ρ', e, h'⟩
theorem lc_inv {vs : List Nat} {k : GG} {t : GT} {e : GE} {ds : List D} (I : Nat → Rho → Prop) (Pd : D → D → Prop) (step : ∀ i d ρ, ds[i]? = some d → I i ρ → ∃ ρ1, k d ρ = some ρ1 ∧ ∃ ρ2, t ρ1 = .ok true ρ2 ∧ ∃ y ρ3, e ρ2 = .ok y ρ3 ∧ Pd d y ∧ I (i + 1) (wipeR ρ3 vs)) :
    ∀ {ρ : Rho}, I 0 ρ → ∃ ys ρ', lcL vs k t e ds ρ = .ok ys ρ' ∧ I ds.length ρ' ∧ Paired Pd ds ys := by
  have main : ∀ (es : List D) (j : Nat) (ρ : Rho), ds.drop j = es → I j ρ → ∃ ys ρ', lcL vs k t e es ρ = .ok ys ρ' ∧ I (j + es.length) ρ' ∧ Paired Pd es ys := by
    intro es
    induction es with
    | nil => intro j ρ _ h; exact ⟨[], ρ, rfl, h, .nil⟩
    | cons d es ih =>
      intro j ρ hd h
      have hj : ds[j]? = some d := by
        have := congrArg List.head? hd
        rw [List.head?_drop] at this
        exact this
      have hd2 : ds.drop (j + 1) = es := by
        rw [← List.tail_drop, hd]; rfl
      obtain ⟨ρ1, e1, ρ2, e2, y, ρ3, e3, py, h3⟩ := step j d ρ hj h
      obtain ⟨ys, ρ', e4, h4, pp⟩ := ih (j + 1) _ hd2 h3
      refine ⟨y :: ys, ρ', ?_, by rw [List.length_cons, show j + (es.length + 1) = j + 1 + es.length by omega]; exact h4, .cons py pp⟩
      unfold lcL
      rw [e1]
      dsimp only
      rw [e2, R.ok_bind, if_pos rfl, e3, R.ok_bind, e4]
      rfl
  intro ρ h
  obtain ⟨ys, ρ', e, h', pp⟩ := main ds 0 ρ rfl h
  rw [Nat.zero_add] at h'
  exact ⟨ys, ρ', e, h', pp⟩
/-- a comprehension whose turns leave the environment as it is -/
theorem lc_fm {vs : List Nat} {k : GG} {t : GT} {e : GE} {ρ : Rho} (f : D → Option D) : ∀ {ds : List D}, (∀ d ∈ ds, ∃ ρ1, k d ρ = some ρ1 ∧ wipeR ρ1 vs = ρ ∧ ((∃ y, f d = some y ∧ t ρ1 = .ok true ρ1 ∧ e ρ1 = .ok y ρ1) ∨ (f d = none ∧ t ρ1 = .ok false ρ1))) → lcL vs k t e ds ρ = .ok (ds.filterMap f) ρ
  | [], _ => rfl
  | d :: ds, h => by
    obtain ⟨ρ1, e1, ew, h1⟩ := h d List.mem_cons_self
    have ih := lc_fm (ds := ds) f fun x hx => h x (List.mem_cons_of_mem _ hx)
    unfold lcL
    rw [e1]
    dsimp only
    rcases h1 with ⟨y, fy, et, ee⟩ | ⟨fn, et⟩
    · rw [et, R.ok_bind, if_pos rfl, ee, R.ok_bind, ew, ih, List.filterMap_cons, fy]
      rfl
    · rw [et, R.ok_bind, if_neg Bool.false_ne_true, ew, ih, List.filterMap_cons, fn]
theorem lc_map {vs : List Nat} {k : GG} {t : GT} {e : GE} {ρ : Rho} (f : D → D) {ds : List D} (h : ∀ d ∈ ds, ∃ ρ1, k d ρ = some ρ1 ∧ wipeR ρ1 vs = ρ ∧ t ρ1 = .ok true ρ1 ∧ e ρ1 = .ok (f d) ρ1) : lcL vs k t e ds ρ = .ok (ds.map f) ρ := by
  rw [lc_fm (fun d => some (f d)) fun d hd => ?_]
  · show R.ok (ds.filterMap (some ∘ f)) ρ = _
    rw [List.filterMap_eq_map]
  · obtain ⟨ρ1, e1, e2, e3, e4⟩ := h d hd
    exact ⟨ρ1, e1, e2, .inl ⟨f d, rfl, e3, e4⟩⟩
theorem kt_ll : kitB "list" "list" = some true := by decide +kernel
theorem kt_lt : kitB "list" "tuple" = some false := by decide +kernel
theorem kt_ls : kitB "list" "str" = some false := by decide +kernel
theorem kt_li : kitB "list" "int" = some false := by decide +kernel
theorem kt_lb : kitB "list" "bool" = some false := by decide +kernel
theorem kt_tl : kitB "tuple" "list" = some false := by decide +kernel
theorem kt_tt : kitB "tuple" "tuple" = some true := by decide +kernel
theorem kt_ts : kitB "tuple" "str" = some false := by decide +kernel
theorem kt_ti : kitB "tuple" "int" = some false := by decide +kernel
theorem kt_tb : kitB "tuple" "bool" = some false := by decide +kernel
theorem kt_sl : kitB "str" "list" = some false := by decide +kernel
theorem kt_st : kitB "str" "tuple" = some false := by decide +kernel
theorem kt_ss : kitB "str" "str" = some true := by decide +kernel
theorem kt_si : kitB "str" "int" = some false := by decide +kernel
theorem kt_sb : kitB "str" "bool" = some false := by decide +kernel
theorem kt_il : kitB "int" "list" = some false := by decide +kernel
theorem kt_it : kitB "int" "tuple" = some false := by decide +kernel
theorem kt_is : kitB "int" "str" = some false := by decide +kernel
theorem kt_ii : kitB "int" "int" = some true := by decide +kernel
theorem kt_ib : kitB "int" "bool" = some false := by decide +kernel
theorem kt_bl : kitB "bool" "list" = some false := by decide +kernel
theorem kt_bt : kitB "bool" "tuple" = some false := by decide +kernel
theorem kt_bs : kitB "bool" "str" = some false := by decide +kernel
theorem kt_bi : kitB "bool" "int" = some true := by decide +kernel
theorem kt_bb : kitB "bool" "bool" = some true := by decide +kernel
theorem kt_nl : kitB "NoneType" "list" = some false := by decide +kernel
theorem kt_nt : kitB "NoneType" "tuple" = some false := by decide +kernel
theorem kt_ns : kitB "NoneType" "str" = some false := by decide +kernel
theorem kt_ni : kitB "NoneType" "int" = some false := by decide +kernel
theorem kt_nb : kitB "NoneType" "bool" = some false := by decide +kernel
theorem zipD_self : ∀ xs : List D, zipD xs xs = xs.map fun x => .tuple [x, x]
  | [] => rfl
  | x :: xs => by
    show _ :: zipD xs xs = _
    rw [zipD_self xs]; rfl
end DL
namespace DL
open PySem L2
section
variable {X : Cx} {K : PySem.W.Frag}
def rEqU (K : PySem.W.Frag) : R2 := fun x y H Q => rEqD K x y H Q ∨ rEq x y H Q
def rNeU (K : PySem.W.Frag) : R2 := fun x y H Q => rNeD K x y H Q ∨ rNe x y H Q
theorem op_eqU {k : Nat} (hr : Room k X.A) : OpR X (compareOp .Eq) (rEqU X.K) := opr_or (op_eqD hr.units) op_eq
theorem op_neU {k : Nat} (hr : Room k X.A) : OpR X (compareOp .NotEq) (rNeU X.K) := opr_or (op_neD hr.units) op_ne
def eqS : D → D → Option D
  | .str x, .str y => some (.bool (decide (x = y)))
  | _, _ => none
def neS : D → D → Option D
  | .str x, .str y => some (.bool (!decide (x = y)))
  | _, _ => none
def eqW (a b : D) : Option D := (eqS a b).orElse fun _ => eqD a b
def neW (a b : D) : Option D := (neS a b).orElse fun _ => neD a b
theorem str_inj (x y : Str) : decide (V.str x = V.str y) = decide (x = y) := by
  by_cases h : x = y
  · rw [decide_eq_true h, h]; exact decide_eq_true rfl
  · rw [decide_eq_false h]; exact decide_eq_false fun z => h (V.str.inj z)
theorem sn_eqS : Sn2 K (rEqU K) eqS := fun b0 B Z0 Z H σ ρ x y a b c Q ok ha hb e q => by
  unfold eqS at e
  split at e
  · cases e; cases ha; cases hb
    exact .inr ⟨rfl, by rw [str_inj]; exact q _ H Z ok (Same.refl Z) (.bl _)⟩
  · cases e
theorem sn_neS : Sn2 K (rNeU K) neS := fun b0 B Z0 Z H σ ρ x y a b c Q ok ha hb e q => by
  unfold neS at e
  split at e
  · cases e; cases ha; cases hb
    exact .inr ⟨rfl, by rw [str_inj]; exact q _ H Z ok (Same.refl Z) (.bl _)⟩
  · cases e
theorem sn_eqW : Sn2 K (rEqU K) eqW := sn2_or sn_eqS (sn2_mono sn_eq fun _ _ _ _ h => .inl h)
theorem sn_neW : Sn2 K (rNeU K) neW := sn2_or sn_neS (sn2_mono sn_ne fun _ _ _ _ h => .inl h)
theorem eqW_ints (i j : Int) : eqW (.int i) (.int j) = some (.bool (decide (i = j))) := eqD_ints i j
theorem neW_ints (i j : Int) : neW (.int i) (.int j) = some (.bool (!decide (i = j))) := neD_ints i j
theorem eqW_bools (i j : Bool) : eqW (.bool i) (.bool j) = some (.bool (decide (i = j))) := eqD_bools i j
theorem neW_bools (i j : Bool) : neW (.bool i) (.bool j) = some (.bool (!decide (i = j))) := neD_bools i j
theorem eqW_strs (x y : Str) : eqW (.str x) (.str y) = some (.bool (decide (x = y))) := rfl
theorem neW_strs (x y : Str) : neW (.str x) (.str y) = some (.bool (!decide (x = y))) := rfl
theorem eqW_none : eqW .none .none = some (.bool true) := by
  show eqD .none .none = _
  rw [eqD_of rfl rfl, eqv_none]
theorem eqW_in (i : Int) : eqW .none (.int i) = some (.bool false) := by
  show eqD .none (.int i) = _
  rw [eqD_of rfl rfl]; unfold PyData.eqv; rfl
theorem eqW_ni (i : Int) : eqW (.int i) .none = some (.bool false) := by
  show eqD (.int i) .none = _
  rw [eqD_of rfl rfl]; unfold PyData.eqv; rfl
theorem eqW_tt {xs ys : List D} (h1 : SeqAt.shaped (.tuple xs) = true) (h2 : SeqAt.shaped (.tuple ys) = true) : eqW (.tuple xs) (.tuple ys) = some (.bool (PyData.eqv (.tuple xs) (.tuple ys))) := eqD_of h1 h2
theorem neW_ll {xs ys : List D} (h1 : SeqAt.shaped (.list xs) = true) (h2 : SeqAt.shaped (.list ys) = true) : neW (.list xs) (.list ys) = some (.bool (!PyData.eqv (.list xs) (.list ys))) := neD_of h1 h2
end
theorem canLay_ints : ∀ ns : List Int, PyData.canLayAll0 (ns.map PyData.int) = true
  | [] => by simp [PyData.canLayAll0]
  | n :: r => by simp [PyData.canLayAll0, PyData.canLay0, canLay_ints r]
theorem depth_ints : ∀ ns : List Int, PyData.depthAll (ns.map PyData.int) = 0
  | [] => by simp [PyData.depthAll]
  | n :: r => by simp [PyData.depthAll, PyData.depth, depth_ints r]
theorem shaped_li (ns : List Int) : SeqAt.shaped (.list (ns.map PyData.int)) = true := by
  unfold SeqAt.shaped
  simp [PyData.canLay0, canLay_ints, PyData.depth, depth_ints]
theorem shaped_ti (ns : List Int) : SeqAt.shaped (.tuple (ns.map PyData.int)) = true := by
  unfold SeqAt.shaped
  simp [PyData.canLay0, canLay_ints, PyData.depth, depth_ints]
theorem eqvAll_ints : ∀ ns ms : List Int, PyData.eqvAll (ns.map PyData.int) (ms.map PyData.int) = decide (ns = ms)
  | [], [] => by simp [PyData.eqvAll]
  | [], m :: ms => by simp [PyData.eqvAll]
  | n :: ns, [] => by simp [PyData.eqvAll]
  | n :: ns, m :: ms => by
    simp only [List.map_cons, PyData.eqvAll, eqv_int, eqvAll_ints ns ms, List.cons.injEq, Bool.decide_and]
theorem eqv_li (ns ms : List Int) : PyData.eqv (.list (ns.map PyData.int)) (.list (ms.map PyData.int)) = decide (ns = ms) := by
  rw [← eqvAll_ints]; simp [PyData.eqv]
theorem eqv_ti (ns ms : List Int) : PyData.eqv (.tuple (ns.map PyData.int)) (.tuple (ms.map PyData.int)) = decide (ns = ms) := by
  rw [← eqvAll_ints]; simp [PyData.eqv]
theorem eqW_ti (ns ms : List Int) : eqW (.tuple (ns.map PyData.int)) (.tuple (ms.map PyData.int)) = some (.bool (decide (ns = ms))) := by rw [eqW_tt (shaped_ti _) (shaped_ti _), eqv_ti]
theorem neW_li (ns ms : List Int) : neW (.list (ns.map PyData.int)) (.list (ms.map PyData.int)) = some (.bool (!decide (ns = ms))) := by rw [neW_ll (shaped_li _) (shaped_li _), eqv_li]
structure Shw (h L : Nat) (d : D) : Prop where
  sh : d.showable = true
  nd : d.hasDict = false
  dp : d.depth ≤ h
  ln : d.shown.length ≤ L
theorem Shw.mono {h h' L L' : Nat} {d : D} (s : Shw h L d) (a : h ≤ h') (b : L ≤ L') : Shw h' L' d := ⟨s.sh, s.nd, Nat.le_trans s.dp a, Nat.le_trans s.ln b⟩
theorem nc0 : ((0 : Nat) : Int) = 0 := rfl
theorem nc1 : ((1 : Nat) : Int) = 1 := rfl
theorem nc2 : ((2 : Nat) : Int) = 2 := rfl
theorem nc3 : ((3 : Nat) : Int) = 3 := rfl
theorem nc4 : ((4 : Nat) : Int) = 4 := rfl
theorem nc5 : ((5 : Nat) : Int) = 5 := rfl
theorem nc6 : ((6 : Nat) : Int) = 6 := rfl
theorem nc7 : ((7 : Nat) : Int) = 7 := rfl
theorem nc8 : ((8 : Nat) : Int) = 8 := rfl
theorem nc9 : ((9 : Nat) : Int) = 9 := rfl
theorem nc10 : ((10 : Nat) : Int) = 10 := rfl
theorem nc11 : ((11 : Nat) : Int) = 11 := rfl
theorem nc12 : ((12 : Nat) : Int) = 12 := rfl
theorem nc13 : ((13 : Nat) : Int) = 13 := rfl
theorem nc14 : ((14 : Nat) : Int) = 14 := rfl
theorem nc15 : ((15 : Nat) : Int) = 15 := rfl
theorem nc16 : ((16 : Nat) : Int) = 16 := rfl
theorem nc17 : ((17 : Nat) : Int) = 17 := rfl
theorem nc18 : ((18 : Nat) : Int) = 18 := rfl
theorem nc19 : ((19 : Nat) : Int) = 19 := rfl
theorem nc20 : ((20 : Nat) : Int) = 20 := rfl
end DL
namespace DL
open PySem L2
section
variable {K : PySem.W.Frag} {Wx : WX} {ta tb te td : TE} {tt tu : TT} {tas : TA} {t u rest : TS} {b0 : Option Addr} {B Bf Z0 Z H : Hp} {σ : L2.St} {ρ : Rho} {p : Addr} {o o' : HO}
theorem Ok.shrink (ok : Ok K b0 Bf Z0 Z H σ ρ) (s : Same B Bf) : Ok K b0 B Z0 Z H σ ρ := by
  refine ⟨ok.len, s.trans ok.bh, ok.zh, ok.zz, fun q x e => ?_, ok.sh, fun i ds e eo => ?_, ok.fix, ok.sepS⟩
  · rcases ok.nb q x e with z | z
    · exact .inl z
    · exact .inr (s.free z)
  · obtain ⟨q, vs, e1, e2, e3, e4, e5⟩ := ok.own i ds e eo
    exact ⟨q, vs, e1, e2, s.free e3, e4, e5⟩
theorem Ok.reB (ok : Ok K b0 Bf Z0 Z H σ ρ) (hp : Bf p = some o) (zp : Z0 p = none) : Ok K b0 (upd Bf p o') Z0 Z (upd H p o') σ ρ := by
  have hz : Z p = none := by
    cases q : Z p with
    | none => rfl
    | some x =>
      rcases ok.nb p x q with z | z
      · rw [zp] at z; cases z
      · rw [hp] at z; cases z
  have ap : ∀ (q : Addr), Bf q = none → q ≠ p := fun q e z => by rw [z, hp] at e; cases e
  refine ⟨ok.len, fun q x e => ?_, fun q x e => ?_, ok.zz, fun q x e => ?_, ok.sh, fun i ds e eo => ?_, ok.fix, ok.sepS⟩
  · by_cases hq : q = p
    · subst hq; rw [upd_same] at e ⊢; exact e
    · rw [upd_ne hq] at e ⊢; exact ok.bh q x e
  · rw [upd_ne (ne_of_none e hz)]; exact ok.zh q x e
  · rcases ok.nb q x e with z | z
    · exact .inl z
    · exact .inr (by rw [upd_ne (ne_of_none e hz)]; exact z)
  · obtain ⟨q, vs, e1, e2, e3, e4, e5⟩ := ok.own i ds e eo
    have nq := ap q e3
    exact ⟨q, vs, e1, e2, by rw [upd_ne nq]; exact e3, by rw [upd_ne nq]; exact e4, e5⟩
theorem Ok.putAny {i : Nat} {x : Option V} (ok : Ok K b0 B Z0 Z H σ ρ) : Ok K b0 B Z0 Z H (σ.set i x) (ρ.set i .no) :=
  ok.weak (by rw [List.length_set, List.length_set]; exact ok.len) fun j s h => (no_get h).imp id fun z => ⟨z.2, by rw [List.getElem?_set_ne z.1]⟩
/-- the frames: new lists and what they hold -/
inductive NwA (K : PySem.W.Frag) (B Z0 Bf Z : Hp) : List V → List Nw → Prop
  | nil : NwA K B Z0 Bf Z [] []
  | s {v : V} {vs : List V} {d : D} {ns : List Nw} : Rp K Z v d → NwA K B Z0 Bf Z vs ns → NwA K B Z0 Bf Z (v :: vs) (.s d :: ns)
  | f {q : Addr} {ws vs : List V} {ds : List D} {ns : List Nw} : Bf q = some (.lst ws) → B q = none → Z0 q = none → RpA K Z ws ds → NwA K B Z0 Bf Z vs ns → NwA K B Z0 Bf Z (.ref q :: vs) (.f ds :: ns)
def Nw.dat : Nw → D
  | .s d => d
  | .f ds => .list ds
def DNL (K : PySem.W.Frag) (t : TA) (g : Rho → R (List Nw)) : Prop := ∀ b0 B Bf Z0 Z H σ ρ ns ρ' (Q : List V → Hp → Prop), Same B Bf → Ok K b0 Bf Z0 Z H σ ρ → g ρ = .ok ns ρ' →
  (∀ vs H' Z' Bf', Same Bf Bf' → Ok K b0 Bf' Z0 Z' H' σ ρ' → Same Z Z' → NwA K B Z0 Bf' Z' vs ns → Q vs H') → t σ H Q
def nlNil (ρ : Rho) : R (List Nw) := .ok [] ρ
def nlCons (g : Rho → R Nw) (r : Rho → R (List Nw)) (ρ : Rho) : R (List Nw) := (g ρ).bind fun n ρ1 => (r ρ1).map (n :: ·)
theorem dnl_nil : DNL K tNil nlNil := fun b0 B Bf Z0 Z H σ ρ ns ρ' Q sb ok e q => by
  cases e
  exact q [] H Z Bf (Same.refl Bf) ok (Same.refl Z) .nil
theorem dnl_f {g : GF} {r : Rho → R (List Nw)} (h : DF K te g) (hr : DNL K tas r) : DNL K (tCons te tas) (nlCons (nF g) r) := fun b0 B Bf Z0 Z H σ ρ ns ρ' Q sb ok e q => by
  obtain ⟨n, ρ1, e1, e2⟩ := R.bind_ok e
  obtain ⟨ds, e3, rfl⟩ := R.map_ok e1
  obtain ⟨ms, e4, rfl⟩ := R.map_ok e2
  refine h b0 Bf Z0 Z H σ ρ ds ρ1 _ ok e3 fun q1 ws H1 Z1 ok1 s1 zq bq aq hq r1 => ?_
  have sn : Same Bf (upd Bf q1 (.lst ws)) := fun c x ec => by rw [upd_ne (ne_of_none ec bq)]; exact ec
  refine hr b0 B (upd Bf q1 (.lst ws)) Z0 Z1 H1 σ ρ1 ms ρ' _ (sb.trans sn) (ok1.frame zq aq hq) e4 fun vs H2 Z2 Bf2 sb2 ok2 s2 r2 => ?_
  exact q (.ref q1 :: vs) H2 Z2 Bf2 (sn.trans sb2) ok2 (s1.trans s2) (.f (sb2 _ _ upd_same) (sb.free bq) (ok1.zz.free zq) (r1.mono s2) r2)
theorem NwA.mono {Z' Bf' : Hp} (s : Same Z Z') (b : Same Bf Bf') : ∀ {vs : List V} {ns : List Nw}, NwA K B Z0 Bf Z vs ns → NwA K B Z0 Bf' Z' vs ns
  | _, _, .nil => .nil
  | _, _, .s h r => .s (h.mono s) (NwA.mono s b r)
  | _, _, .f h1 h2 h3 h4 r => .f (b _ _ h1) h2 h3 (h4.mono s) (NwA.mono s b r)
theorem NwA.rp (sz : Same Z H) (sb : Same Bf H) : ∀ {vs : List V} {ns : List Nw}, NwA K B Z0 Bf Z vs ns → RpA K H vs (ns.map Nw.dat)
  | _, _, .nil => .nil
  | _, _, .s h r => .cons (h.mono sz) (NwA.rp sz sb r)
  | _, _, .f h1 _ _ h4 r => .cons (.lst (sb _ _ h1) (h4.mono sz)) (NwA.rp sz sb r)
theorem NwA.len : ∀ {vs : List V} {ns : List Nw}, NwA K B Z0 Bf Z vs ns → vs.length = ns.length
  | _, _, .nil => rfl
  | _, _, .s _ r => by rw [List.length_cons, List.length_cons, NwA.len r]
  | _, _, .f _ _ _ _ r => by rw [List.length_cons, List.length_cons, NwA.len r]
theorem NwA.get : ∀ {vs : List V} {ns : List Nw} {j : Nat} {ds : List D}, NwA K B Z0 Bf Z vs ns → ns[j]? = some (.f ds) → ∃ q ws, vs[j]? = some (.ref q) ∧ Bf q = some (.lst ws) ∧ B q = none ∧ Z0 q = none ∧ ws.length = ds.length
  | _, _, j, _, .nil, h => by simp at h
  | _, _, 0, _, .s _ _, h => by simp at h
  | _, _, 0, _, .f (q := q) (ws := ws) h1 h2 h3 h4 _, h => by
    simp at h
    subst h
    exact ⟨q, ws, rfl, h1, h2, h3, h4.length⟩
  | _, _, j + 1, ds, .s _ r, h => by
    obtain ⟨q, ws, e, z⟩ := NwA.get (j := j) (ds := ds) r (by simpa using h)
    exact ⟨q, ws, by simpa using e, z⟩
  | _, _, j + 1, ds, .f _ _ _ _ r, h => by
    obtain ⟨q, ws, e, z⟩ := NwA.get (j := j) (ds := ds) r (by simpa using h)
    exact ⟨q, ws, by simpa using e, z⟩
/-- heard[j].append(x) -/
abbrev tApp1 (K : PySem.W.Frag) (h : Nat) (j : Int) (x : Str) : TS := tDrop (tBM K "list" rAppend (tOp (rIx K) (tVar h) (tC (.int j))) (tCons (tC (.str x)) tNil))
def tApps (K : PySem.W.Frag) (h : Nat) (x : Str) (rest : TS) : List Nat → TS
  | [] => rest
  | j :: js => tSeq (tApp1 K h (j : Int) x) (tApps K h x rest js)
/-- each place holds a list that is framed, smaller than half the line -/
theorem apps_run {h : Nat} {x : Str} {E : Ends} {a : Addr} {vs : List V} (hσ : σ[h]? = some (some (.ref a))) (hrest : ∀ Bf H, Same B Bf → Ok K b0 Bf Z0 Z H σ ρ → rest E σ H) :
    ∀ (js : List Nat) {Bf H : Hp}, Same B Bf → Ok K b0 Bf Z0 Z H σ ρ → Bf a = some (.lst vs) → (∀ j ∈ js, ∃ q ws, vs[j]? = some (.ref q) ∧ q ≠ a ∧ Bf q = some (.lst ws) ∧ B q = none ∧ Z0 q = none ∧ ws.length + js.length ≤ sizeLine) → tApps K h x rest js E σ H
  | [], Bf, H, sb, ok, _, _ => hrest Bf H sb ok
  | j :: js, Bf, H, sb, ok, ha, hj => by
    obtain ⟨q, ws, e1, nq, e2, e3, e4, e5⟩ := hj j List.mem_cons_self
    have hH : H a = some (.lst vs) := ok.bh _ _ ha
    have hq : H q = some (.lst ws) := ok.bh _ _ e2
    rw [List.length_cons] at e5
    refine ⟨.ref a, hσ, .inl ⟨a, vs, (j : Int), .ref q, rfl, rfl, .inl (.inl hH), atI_nat e1, .inl ⟨rfl, ws, .inl (.inl hq)⟩, q, ws, .str x, rfl, rfl, hq, by omega, ?_⟩⟩
    have sn : Same B (upd Bf q (.lst (ws ++ [.str x]))) := fun c y ec => by rw [upd_ne (ne_of_none ec e3)]; exact sb c y ec
    refine apps_run hσ hrest js sn (ok.reB e2 e4) (by rw [upd_ne (Ne.symm nq)]; exact ha) fun j' hj' => ?_
    obtain ⟨q', ws', f1, nq', f2, f3, f4, f5⟩ := hj j' (List.mem_cons_of_mem _ hj')
    rw [List.length_cons] at f5
    by_cases hqq : q' = q
    · subst hqq
      refine ⟨q', ws ++ [.str x], f1, nq, upd_same, e3, e4, ?_⟩
      rw [List.length_append, List.length_singleton]
      omega
    · exact ⟨q', ws', f1, nq', by rw [upd_ne hqq]; exact f2, f3, f4, by omega⟩
def isF (k : Nat) : Option Nw → Bool
  | some (.f ds) => decide (ds.length + k ≤ sizeLine)
  | _ => false
end
end DL
namespace DL
open PySem L2
section
variable {K : PySem.W.Frag} {Wx : WX} {ta tb te td : TE} {tt tu : TT} {tas : TA} {t u rest tail : TS} {b0 : Option Addr} {B Bf Z0 Z H : Hp} {σ : L2.St} {ρ : Rho} {p : Addr} {o o' : HO}
/-- what follows the comparison: it changes the framed lists at js, then the rest runs -/
def HTail (K : PySem.W.Frag) (h : Nat) (js : List Nat) (m : Rho → Option Rho) (tail rest : TS) : Prop := ∀ (b0 : Option Addr) (B Bf Z0 Z H : Hp) (σ : L2.St) (ρ ρ' : Rho) (E : Ends) (a : Addr) (vs : List V), σ[h]? = some (some (.ref a)) → m ρ = some ρ' →
  (∀ Bf H σ', Same B Bf → Ok K b0 Bf Z0 Z H σ' ρ' → rest E σ' H) → Same B Bf → Ok K b0 Bf Z0 Z H σ ρ → Bf a = some (.lst vs) → js.length ≤ sizeLine →
  (∀ j ∈ js, ∃ q ws, vs[j]? = some (.ref q) ∧ q ≠ a ∧ Bf q = some (.lst ws) ∧ B q = none ∧ Z0 q = none ∧ ws.length + js.length ≤ sizeLine) → tail E σ H
theorem ht_apps {h : Nat} {x : Str} {js : List Nat} : HTail K h js some (tApps K h x rest js) rest := fun b0 B Bf Z0 Z H σ ρ ρ' E a vs hσ em hr sb ok ha hl hj => by
  cases em
  exact apps_run hσ (fun Bf H s o => hr Bf H σ s o) js sb ok ha hj
def mSet (i : Nat) (ρ : Rho) : Option Rho := if i < ρ.length then some (ρ.set i .no) else none
/-- h = [..]; if not same(h, due): return False; the tail -/
def sHeardT (h : Nat) (gn : Rho → R (List Nw)) (Fs : List D → Option D) (gd : GE) (js : List Nat) (m : Rho → Option Rho) (rest : GS) (ρ : Rho) : O := (gn ρ).to fun ns ρ1 => if ns.length ≤ sizeLine ∧ h < ρ1.length ∧ js.length ≤ sizeLine then (gd (ρ1.set h .no)).to fun due ρ2 => match Fs [.list (ns.map Nw.dat), due] with
    | some (.bool true) => if js.all (fun j => isF js.length ns[j]?) then (match m (ρ2.set h .no) with | some ρ3 => rest ρ3 | none => .bad) else .bad
    | some (.bool false) => .rt (.bool false) (ρ2.set h .no)
    | _ => .bad
  else .bad
theorem ds_heardT {h : Nat} {gn : Rho → R (List Nw)} {Fs : List D → Option D} {gd : GE} {js : List Nat} {m : Rho → Option Rho} {k : GS} {E0 : XK} (hn : DNL K tas gn) (hd : DE K td gd) (ht : HTail K h js m tail rest) (hr : DS K Wx rest k) :
    DS K Wx (tSeq (tAsg (tLst tas) (gName h)) (tSeq (tIfS (tNot (tB (tCall (spP K 2 Fs) [] E0 (tCons (tVar h) (tCons td tNil))))) (tRet (tC (.bl false))) tNext) tail)) (sHeardT h gn Fs gd js m k) := fun b0 B Z0 Z H σ ρ E ok s => by
  unfold sHeardT at s
  obtain ⟨ns, ρ1, e1, s⟩ := Sat.to s
  refine hn b0 B B Z0 Z H σ ρ ns ρ1 _ (Same.refl B) ok e1 fun vs H1 Z1 Bf1 sb1 ok1 s1 nw => ?_
  split at s
  · rename_i hsz
    obtain ⟨hsz, hh, hlj⟩ := hsz
    refine ⟨by rw [nw.len]; exact hsz, fun a hp => ?_⟩
    obtain ⟨okf, zf, bf, af⟩ := ok1.fresh (o := .lst vs) hp
    have sn : Same Bf1 (upd Bf1 a (.lst vs)) := fun c y ec => by rw [upd_ne (ne_of_none ec bf)]; exact ec
    have ok2 := (okf.frame zf af upd_same).putAny (i := h) (x := some (.ref a))
    have hσ : (σ.set h (some (.ref a)))[h]? = some (some (.ref a)) := List.getElem?_set_self (by rw [ok1.len]; exact hh)
    obtain ⟨due, ρ2, e2, s⟩ := Sat.to s
    refine ⟨.ref a, hσ, ?_⟩
    refine hd b0 _ Z0 Z1 _ _ _ due ρ2 _ ok2 e2 fun vd H3 Z3 ok3 s3 r3 => ?_
    have nw3 := nw.mono s3 sn
    have ha3 : H3 a = some (.lst vs) := ok3.bh _ _ upd_same
    have rpA : RpA K H3 [.ref a, vd] [.list (ns.map Nw.dat), due] := .cons (.lst ha3 (nw3.rp ok3.zh ok3.bh)) (.cons (r3.mono ok3.zh) .nil)
    have fin : ∀ (b : Bool), Fs [.list (ns.map Nw.dat), due] = some (.bool b) → (∀ H4, Same H3 H4 → (tIfS (fun _ H Q => Q (!b) H) (tRet (tC (.bl false))) tNext) { E with nx := tail E } (σ.set h (some (.ref a))) H4) →
        spP K 2 Fs [.ref a, vd] H3 (fun y H1 => ∃ c, y = V.bl c ∧ (if (!c) = true then tRet (tC (.bl false)) { E with nx := tail E } (σ.set h (some (.ref a))) H1 else tNext { E with nx := tail E } (σ.set h (some (.ref a))) H1)) E0 := by
      intro b eb hc
      refine ⟨rfl, H3, _, _, Same.refl H3, rpA, eb, fun v H' Z' hs g r => ?_⟩
      cases r
      exact ⟨b, rfl, hc H' hs⟩
    split at s
    · rename_i eF
      split at s
      · rename_i hjs
        split at s
        · rename_i ρ3 em
          refine fin true eF fun H4 hs => ?_
          have ok5 := (ok3.later hs).forget (i := h)
          refine ht b0 B _ Z0 Z3 H4 _ _ ρ3 E a vs hσ em (fun Bf' H' σ' sb' ok' => hr b0 B Z0 Z3 H' _ _ E (ok'.shrink sb') s) (sb1.trans sn) ok5 upd_same hlj fun j hj => ?_
          have hf := List.all_eq_true.mp hjs j hj
          unfold isF at hf
          split at hf
          · rename_i ds ej
            obtain ⟨q, ws, f1, f2, f3, f4, f5⟩ := nw.get ej
            have nq : q ≠ a := ne_of_none f2 bf
            exact ⟨q, ws, f1, nq, by rw [upd_ne nq]; exact f2, f3, f4, by rw [f5]; exact of_decide_eq_true hf⟩
          · cases hf
        · exact s.elim
      · exact s.elim
    · rename_i eF
      refine fin false eF fun H4 hs => ?_
      exact s (.bl false) _ H4 Z3 ((ok3.later hs).forget.shrink (sb1.trans sn)) (.bl false)
    · exact s.elim
  · exact s.elim
end
end DL
namespace DL
open PySem L2
section
variable {K : PySem.W.Frag} {Wx : WX} {ta tb tc te td : TE} {tas : TA}
def idL {α : Type} (x : List α) : List α := x
theorem kw_idL {A C : Type} {rel : A → C → Prop} {zs : List A} {ws : List C} (h : Paired rel zs ws) : Paired rel (idL zs) (idL ws) := h
def sPar3 (i j l : Nat) (a b c : Rho → R Nw) (ρ : Rho) : O := (a ρ).to fun x ρ1 => (b ρ1).to fun y ρ2 => (c ρ2).to fun z ρ3 => .nx (((ρ3.set i x.sl).set j y.sl).set l z.sl)
end
end DL
namespace DL
open PySem L2
section
variable {K : PySem.W.Frag} {Wx : WX} {te : TE}
theorem RpA.snoc {Z : Hp} {v : V} {d : D} (r : Rp K Z v d) : ∀ {vs : List V} {ds : List D}, RpA K Z vs ds → RpA K Z (vs ++ [v]) (ds ++ [d])
  | _, _, .nil => .cons r .nil
  | _, _, .cons h t => .cons h (RpA.snoc r t)
end
end DL
namespace DLX
open PySem PySem.W PySem.Calls PyProof.Rows PySem.HandSPX
open Builtin Builtin.ObjectAttr
end DLX
namespace DL
open PySem PySem.Spec PyProof.Rows L2 DLX
end DL
namespace DL
open PySem PySem.Spec PyProof.Rows L2 DLX
end DL
namespace DLX
open PySem PySem.W PySem.Spec PySem.Calls PyProof.Rows
end DLX
namespace DL
open PySem PySem.Spec PyProof.Rows L2 DLX
/-- names of classes, and what they hold -/
inductive NmL (X : Cx) : List Expr → List Value → Prop
  | nil : NmL X [] []
  | cons {x : Str} {c : Value} {p : Pos} {es : List Expr} {cs : List Value} (h : Names X x c) (r : NmL X es cs) : NmL X (.Name x p :: es) (c :: cs)
section
variable {X : Cx} {pins : List (Addr × Obj)} {σ : L2.St} {H : Hp} {s : Shared} {a : Addr} {o : HO}
theorem NmL.len {es : List Expr} {cs : List Value} (h : NmL X es cs) : es.length = cs.length := by
  induction h with
  | nil => rfl
  | cons _ _ ih => rw [List.length_cons, List.length_cons, ih]
/-- the names of the clause, read while an exception is handled -/
theorem NmL.run {b : Addr} {pn : List (Addr × Obj)} {E : Value → Shared → Prop} {M : Model} {pos : Pos} (I : Inv (X.suite b pn) pins σ H s) : ∀ {es : List Expr} {cs : List Value}, NmL X es cs → ∀ {Q : List Value → Shared → Prop}, Q cs s → wpAny (model X.prog X.w) (X.A.mark (some (.ref b))) (spliced (backTo pos (starEach es X.env))) Q E s
  | _, _, .nil, Q, q => wpAny_items_nil q
  | _, _, .cons (x := x) (c := c) h r, Q, q => by
    refine wpAny_items_cons ?_
    obtain ⟨hg, hdbg, hm | ⟨hm, hv, hnn⟩⟩ := h
    · exact ld_glob (X := X.suite b pn) I hg hm (NmL.run (M := M) I r q) hdbg
    · exact ld_blt (X := X.suite b pn) I hg hm hv (NmL.run (M := M) I r q) hnn hdbg
end
end DL
namespace DL
open PySem L2
/-- what a def that may raise computes -/
inductive RX (α : Type) where
  | ok (a : α)
  | ex (c : Str) (d : D)
  | bad
section
variable {X : Cx} {K : PySem.W.Frag} {Wx : WX} {ta tb te : TE} {tt : TT} {tas tks : TA} {t u : TS} {b0 : Option Addr} {B Z0 Z H : Hp} {σ : L2.St} {ρ : Rho}
def RX.at {α : Type} (r : RX α) (ρ : Rho) : R α := match r with
  | .ok a => .ok a ρ
  | .ex c d => .ex c d ρ
  | .bad => .bad
def eCallX {α : Type} (F : List D → RX α) (ga : GA) (ρ : Rho) : R α := match ga ρ with
  | .ok os ρ1 => (match valA os with
    | some ds => (F ds).at ρ1
    | none => .bad)
  | _ => .bad
def eCallWX {α : Type} (F : List D → RX α) (m : Nat) (g : {α : Type} → List α → List α) (ga : GA) (ρ : Rho) : R α := match ga ρ with
  | .ok os ρ1 => (match valA os with
    | some ds => if ds.length = m then (F (g ds)).at ρ1 else .bad
    | none => .bad)
  | _ => .bad
def SatE (K : PySem.W.Frag) (Wx : WX) (b0 : Option Addr) (B Z0 Z : Hp) (σ : L2.St) (Q : VK) : R D → Prop
  | .ok d ρ => ∀ v H' Z', Ok K b0 B Z0 Z' H' σ ρ → Same Z Z' → Rp K Z' v d → Q v H'
  | .ex c d ρ => ∀ H' Z' C dx v, Ok K b0 B Z0 Z' H' σ ρ → Same Z Z' → Cls K c C → Z' dx = some (.xd [(fld c, v)]) → Rp K Z' v d → Wx (.ref C) (some dx) σ H'
  | .bad => False
/-- an expression that raises nothing -/
def xE (g : GE) (ρ : Rho) : R D := match g ρ with
  | .ok d ρ' => .ok d ρ'
  | _ => .bad
def xL (g : GF) (ρ : Rho) : R D := (g ρ).map .list
theorem R.map_id {α : Type} (r : R α) : r.map (fun x => x) = r := by cases r <;> rfl
def xIf (c : GT) (a b : GE) (ρ : Rho) : R D := match c ρ with
  | .ok k ρ1 => if k then a ρ1 else b ρ1
  | _ => .bad
theorem SatE.mono {Z1 : Hp} {Q : VK} {r : R D} (s1 : Same Z Z1) (s : SatE K Wx b0 B Z0 Z σ Q r) : SatE K Wx b0 B Z0 Z1 σ Q r := by
  cases r with
  | ok d ρ => exact fun v H' Z' ok' s' r => s v H' Z' ok' (s1.trans s') r
  | ex c d ρ => exact fun H' Z' C dx v ok' s' => s H' Z' C dx v ok' (s1.trans s')
  | bad => exact s
/-- f(x), x raising, f a built-in of data -/
def xCb1 (f : List D → Option D) (g : GE) (ρ : Rho) : R D := (g ρ).bind fun d ρ1 => R.lift (f [d]) ρ1
def R.toX {α : Type} (r : R α) (f : α → Rho → O) : O := match r with
  | .ok a ρ => f a ρ
  | .ex c d ρ => .ex c d ρ
  | .bad => .bad
theorem Sat.toX {r : R D} {f : D → Rho → O} {E : Ends} {Q : VK} (s : Sat K Wx b0 B Z0 E (r.toX f)) (ok : Ok K b0 B Z0 Z H σ ρ) (h : ∀ d ρ', r = .ok d ρ' → Sat K Wx b0 B Z0 E (f d ρ') → ∀ v H' Z', Ok K b0 B Z0 Z' H' σ ρ' → Rp K Z' v d → Q v H') : SatE K Wx b0 B Z0 Z σ Q r := by
  cases r with
  | ok d ρ' => exact fun v H' Z' ok' _ r => h d ρ' rfl s v H' Z' ok' r
  | ex c d ρ' => exact fun H' Z' C dx v ok' _ hc hx r => s σ H' Z' C dx v ok' hc hx r
  | bad => exact s
def sSetX (i : Nat) (g : GE) (ρ : Rho) : O := (g ρ).toX fun d ρ1 => .nx (ρ1.set i (.sh d))
def sRetX (g : GE) (ρ : Rho) : O := (g ρ).toX .rt
def sDropX (g : GE) (ρ : Rho) : O := (g ρ).toX fun _ ρ => .nx ρ
def sRaise (c : Str) (g : GE) (ρ : Rho) : O := (g ρ).to fun d ρ1 => .ex c d ρ1
end
end DL
namespace DL
open PySem PySem.Spec PyProof.Rows L2
def baseT : List (Str × List Str) := [("NoPerson", ["LookupError"]), ("NoPlace", ["LookupError"]), ("NoNumber", ["LookupError"]), ("NoDeed", ["LookupError"]), ("OtherPeople", ["ValueError"]), ("NotWay", ["ValueError"]), ("BadDeed", ["ValueError"]), ("BadText", ["ValueError"]), ("BadLine", ["ValueError"]), ("Barred", ["RuntimeError"]), ("TooMany", ["OverflowError", "ArithmeticError"]), ("Full", ["OverflowError", "ArithmeticError"])]
def subC (c t : Str) : Bool := t == c || ((baseT.lookup c).getD []).contains t || t == "Exception" || t == "BaseException"
def valOf (K : PySem.W.Frag) (T : Str) : Option Value := match PySem.W.nsIn K mainGlobals T with
  | some (some u) => some u
  | some none => bootBuiltins T
  | none => none
def exB (K : PySem.W.Frag) (c : Str) : Bool := match PySem.W.nsIn K mainGlobals c with
  | some (some (.ref C)) => (PySem.W.clsIn K C).isSome && (decide (PySem.W.findIn K (.ref C) "__getattribute__" = some (some (.builtin "BaseException.__getattribute__"))) && (decide (PySem.W.findIn K (.ref C) "__getattr__" = some none) && (decide (PySem.W.subIn K (.ref C) (.type "BaseException") = some true) &&
    (decide (PySem.W.findIn K (.ref C) "__class__" = some (some (.builtin "object.__class__"))) && (decide (PySem.W.specialIn K (.builtin "object.__class__") "__get__" = some (some (.builtin "getset_descriptor.__get__"))) && (decide (PySem.W.takesIn K (.builtin "object.__class__") = some true) &&
    (decide (PySem.W.mroIn K C (.type "object") = some true) && (PySem.W.hasDictIn K C && decide (PySem.W.findIn K (.ref C) (fld c) = some none)))))))))
  | _ => false
def etB (K : PySem.W.Frag) (Cs Ts : List Str) : Bool := Cs.all (exB K) && Ts.all fun T => match valOf K T with
  | some u => decide (PySem.W.kitOne K (.type "NoneType") u = some false) && Cs.all fun c => match PySem.W.nsIn K mainGlobals c with
    | some (some (.ref C)) => decide (PySem.W.kitOne K (.ref C) u = some (subC c T)) && decide (PySem.W.exmOne K (.ref C) u = some (subC c T))
    | _ => false
  | none => false
section
variable {K : PySem.W.Frag} {Cs Ts : List Str}
theorem et_non {T : Str} {u : Value} (h : etB K Cs Ts = true) (hT : T ∈ Ts) (hu : valOf K T = some u) : PySem.W.kitOne K (.type "NoneType") u = some false := by
  unfold etB at h
  rw [Bool.and_eq_true] at h
  have := List.all_eq_true.mp h.2 T hT
  rw [hu] at this
  simp only [Bool.and_eq_true, decide_eq_true_eq] at this
  exact this.1
theorem et_sub {T c : Str} {u : Value} {C : Addr} (h : etB K Cs Ts = true) (hT : T ∈ Ts) (hu : valOf K T = some u) (hc : c ∈ Cs) (hC : Cls K c C) : PySem.W.kitOne K (.ref C) u = some (subC c T) ∧ PySem.W.exmOne K (.ref C) u = some (subC c T) := by
  unfold etB at h
  rw [Bool.and_eq_true] at h
  have := List.all_eq_true.mp h.2 T hT
  rw [hu] at this
  simp only [Bool.and_eq_true] at this
  have := List.all_eq_true.mp this.2 c hc
  rw [show PySem.W.nsIn K mainGlobals c = some (some (.ref C)) from hC] at this
  simp only [Bool.and_eq_true, decide_eq_true_eq] at this
  exact this
end
/-- the values of classes by their names -/
inductive VTs (K : PySem.W.Frag) : List Str → List V → List Value → Prop
  | nil : VTs K [] [] []
  | cons {T : Str} {cv : V} {u : Value} {Ts : List Str} {cvs : List V} {us : List Value} (h : ClsV cv u) (e : valOf K T = some u) (r : VTs K Ts cvs us) : VTs K (T :: Ts) (cv :: cvs) (u :: us)
section
variable {X : Cx} {K : PySem.W.Frag} {Wx : WX} {ta tb te : TE} {tt : TT} {tas tks : TA} {t u : TS} {b0 : Option Addr} {B Z0 Z H : Hp} {σ : L2.St} {ρ : Rho} {Cs Ts Us : List Str}
theorem VTs.paired : ∀ {Ts : List Str} {cvs : List V} {us : List Value}, VTs K Ts cvs us → Paired ClsV cvs us
  | _, _, _, .nil => .nil
  | _, _, _, .cons h _ r => .cons h (VTs.paired r)
theorem VTs.len : ∀ {Ts : List Str} {cvs : List V} {us : List Value}, VTs K Ts cvs us → cvs.length = Ts.length
  | _, _, _, .nil => rfl
  | _, _, _, .cons h _ r => by rw [List.length_cons, List.length_cons, VTs.len r]
theorem VTs.non (et : etB K Cs Us = true) : ∀ {Ts : List Str} {cvs : List V} {us : List Value}, VTs K Ts cvs us → (∀ T ∈ Ts, T ∈ Us) → PySem.W.kitAny K (.type "NoneType") us = some false
  | _, _, _, .nil, _ => rfl
  | _, _, _, .cons h e r, s => kitAny_cons (et_non et (s _ List.mem_cons_self) e) (fun _ => VTs.non et r fun T hT => s T (List.mem_cons_of_mem _ hT)) fun z => nomatch z
theorem VTs.any (et : etB K Cs Us = true) {c : Str} {C : Addr} (hc : c ∈ Cs) (hC : Cls K c C) : ∀ {Ts : List Str} {cvs : List V} {us : List Value}, VTs K Ts cvs us → (∀ T ∈ Ts, T ∈ Us) → PySem.W.kitAny K (.ref C) us = some (Ts.any (subC c)) ∧ PySem.W.exmAny K (.ref C) us = some (Ts.any (subC c))
  | _, _, _, .nil, _ => ⟨rfl, rfl⟩
  | _, _, _, .cons (T := T) (Ts := Ts) h e r, s => by
    obtain ⟨e1, e2⟩ := et_sub et (s _ List.mem_cons_self) e hc hC
    obtain ⟨i1, i2⟩ := VTs.any et hc hC r fun T hT => s T (List.mem_cons_of_mem _ hT)
    rw [List.any_cons]
    refine ⟨?_, ?_⟩
    · cases q : subC c T with
      | true => rw [q] at e1; exact kitAny_cons e1 (fun z => nomatch z) fun _ => rfl
      | false => rw [q] at e1; exact kitAny_cons e1 (fun _ => by rw [Bool.false_or]; exact i1) fun z => nomatch z
    · unfold PySem.W.exmAny
      rw [e2, i2]
/-- isinstance(x, one of Ts), x None or an exception of a class in Cs -/
def isX (Cs Ts : List Str) : D → Option D
  | .none => some (.bool false)
  | .dict [(.none, .str c), (.none, _)] => if Cs.contains c then some (.bool (Ts.any (subC c))) else none
  | _ => none
def eMk (c : Str) (g : GE) (ρ : Rho) : R D := (g ρ).map fun d => excD c d
def sKeep (Cs Ts : List Str) (i j : Nat) (g : GS) (ρ : Rho) : O := match g ρ with
  | .ex c d ρ1 => if Cs.contains c then (if Ts.any (subC c) then .nx ((ρ1.set j (.sh (excD c d))).set i .no) else .ex c d ρ1) else .bad
  | o => o
end
end DL
namespace DLX
open PySem PyProof.Rows Srt SrtO
section
variable {prog : Program} {w : World} {A : Around} {E : Value → Shared → Prop} {s : Shared}
theorem collect_tup {l : Addr} {vs : List Value} {Q : List Value → Shared → Prop} (hl : s.heap.IsTuple l vs.toArray)
    (h : Q vs { s with heap := (s.heap.push (seqObj "list" #[] 0)).update s.heap.objs.size (Obj.mapSeq (· ++ vs.toArray)) }) (hsz : vs.length ≤ sizeLine) : wpAny (model prog w) A (collect (.ref l)) Q E s := by
  obtain ⟨o, ho, hc, n, hd⟩ := id hl
  unfold collect
  refine wpAny_bind (wpAny_runValue (codeAny_builtin entry_proto_collect' ?_))
  show wpAny _ _ (do again (.builtin "list.__iadd__" ⟨[← newList [], .ref l], []⟩)) _ _ s
  refine wpAny_bind (wpAny_newList (wpAny_pure ⟨Code.quiet_builtin _ (by decide +kernel), codeAny_builtin entry_list_iadd' ?_⟩))
  show wpAny _ _ (Builtin.List.listExtendWith (.ref s.heap.objs.size) (.ref l) (.ref s.heap.objs.size)) _ _ { s with heap := s.heap.push (seqObj "list" #[] 0) }
  unfold Builtin.List.listExtendWith
  have ho' : (s.heap.push (seqObj "list" #[] 0)).get? l = some o := Heap.get?_push_of_some _ ho
  refine wpAny_bind (wpAny_typeOf (T := "tuple") ⟨o, ho', hc⟩ ?_)
  rw [if_pos (by rw [show (Value.type "tuple" == Value.type "tuple") = true from rfl]; simp)]
  refine wpAny_bind (listItems_at ho' hd (wpAny_bind (listItems_at (xs := #[]) (n := 0) (Heap.get?_push_size _ rfl) rfl ?_)))
  rw [if_neg (by simp)]
  refine wpAny_bind (listUpdate_at (xs := #[]) (n := 0) (Heap.get?_push_size _ rfl) rfl (wpAny_pure ?_) (Nat.zero_le _) (by show (#[] ++ vs.toArray).size ≤ sizeLine + 1; simp only [Array.size_append, List.size_toArray, List.length_nil]; omega))
  show wpAny (model prog w) A (do
      let o ← load s.heap.objs.size
      match o.data with
      | .seq xs _ => pure xs.toList
      | _ => unsupported "internal:collect") Q E { s with heap := (s.heap.push (seqObj "list" #[] 0)).update s.heap.objs.size (Obj.mapSeq (· ++ vs.toArray)) }
  refine wpAny_bind (wpAny_load (get?_update_seq (Heap.get?_push_size _ rfl) _) ?_)
  show wpAny _ _ (pure ((#[] : Array Value) ++ vs.toArray).toList) Q E _
  rw [show ((#[] : Array Value) ++ vs.toArray).toList = vs by simp]
  exact wpAny_pure h
/-- sorted(t), t a tuple -/
theorem sorted_tup {l : Addr} {vs : List Value} {ltv : Value → Value → Bool} {Q : Value → Shared → Prop} (O : Swo ltv) (hl : s.heap.IsTuple l vs.toArray) (hz : vs.length ≤ sizeLine)
    (hS : 2 ≤ vs.length → ∀ (h₁ : Heap) (a : Addr), h₁.get? a = some (seqObj "list" vs.toArray 0) → (∀ b o, s.heap.get? b = some o → b ≠ a ∧ h₁.get? b = some o) → SortableO prog w A.in1.in1 { s with heap := h₁ } a vs ltv)
    (h : ∀ out : List Value, Srtd ltv out → Stb ltv out vs → Q (.ref (s.heap.objs.size + 1)) { s with heap := sortedAll s.heap vs out.toArray }) : wpAny (model prog w) A (call (.builtin "sorted") [.ref l]) Q E s := by
  refine Calls.call_function_entry kind_sorted plain_sorted entry_sorted (args_sorted1 _) ?_
  unfold Builtin.«sorted»
  refine wpAny_bind (m := checkCount "sorted" 1 1 _) (wpAny_pure (wpAny_bind (collect_tup hl (wpAny_bind (wpAny_newList ?_ hz)) hz)))
  have hsz : ((s.heap.push (seqObj "list" #[] 0)).update s.heap.objs.size (Obj.mapSeq (· ++ vs.toArray))).objs.size = s.heap.objs.size + 1 := by rw [Heap.size_update, size_push']
  have hoL : (((s.heap.push (seqObj "list" #[] 0)).update s.heap.objs.size (Obj.mapSeq (· ++ vs.toArray))).push (seqObj "list" vs.toArray 0)).get? (s.heap.objs.size + 1) = some (seqObj "list" vs.toArray 0) := by rw [← hsz]; exact Heap.get?_push_size _ rfl
  have keep : ∀ b o, s.heap.get? b = some o → b ≠ s.heap.objs.size + 1 ∧ (((s.heap.push (seqObj "list" #[] 0)).update s.heap.objs.size (Obj.mapSeq (· ++ vs.toArray))).push (seqObj "list" vs.toArray 0)).get? b = some o := fun b o q => by
    have hlt : b < s.heap.objs.size := Heap.lt_size q
    exact ⟨Nat.ne_of_lt (Nat.lt_succ_of_lt hlt), Heap.get?_push_of_some _ (by rw [Heap.get?_update_ne _ _ _ _ (Nat.ne_of_lt hlt)]; exact Heap.get?_push_of_some _ q)⟩
  show wpAny _ _ _ _ _ { s with heap := ((s.heap.push (seqObj "list" #[] 0)).update s.heap.objs.size (Obj.mapSeq (· ++ vs.toArray))).push (seqObj "list" vs.toArray 0) }
  rw [hsz]
  refine wpAny_bind (wpAny_holding (wpAny_call_entry slot_list_sort ⟨_, hoL, rfl⟩ entry_list_sort (list_sort_ord O hoL hz (fun h2 => hS h2 _ _ hoL keep) fun out hs hb => ⟨_, rfl, ?_⟩) (args_list_sort _)))
  exact wpAny_pure ⟨_, rfl, h out hs hb⟩
end
end DLX
namespace DL
open PySem PySem.Spec PyProof.Rows L2
def rSortQ (K : PySem.W.Frag) : List V → Hp → VK → Prop := fun vs H Q => ∃ (a : Addr) (ns : List Int), vs = [V.ref a] ∧ (SqL K H a (ns.map V.int) ∨ SqT K H a (ns.map V.int)) ∧
  ∀ (ns' : List Int) (p : Addr), ns'.Perm ns → ns'.Pairwise (· ≤ ·) → H p = none → Q (.ref p) (upd H p (.lst (ns'.map V.int)))
section
variable {X : Cx} {K : PySem.W.Frag}
theorem cr_sortedU : CallR X (.builtin "sorted") (rSortQ X.K) := by
  intro pins s σ H vs us Q I r h
  obtain ⟨a, ns, rfl, hs | hs, q⟩ := h
  · exact cr_sortedI pins s σ H [.ref a] us Q I r ⟨a, ns, rfl, hs, q⟩
  · obtain ⟨its, rv, hl, hz⟩ := I.tuple hs
    rw [Vals.ref1 r]
    have hi := rv.ints
    have hT : s.heap.IsTuple a its.toArray := hl
    refine DLX.sorted_tup SrtO.swo_int hT (by rw [← rv.length]; exact hz) (fun h2 h₁ a' _ _ => SrtO.ints_sortable hi h2) fun out h1 h2 => ?_
    obtain ⟨k1, k2, k3⟩ := SrtO.ints_out hi h1 h2
    obtain ⟨ep, he'⟩ := PyProof.Rows.sortedAll_at s.heap its out.toArray
    have hlen : ((out.map SrtO.iv).map V.int).length ≤ sizeLine := by
      rw [List.length_map, k2.length_eq]
      rw [List.length_map] at hz; exact hz
    exact ⟨.ref _, upd H (s.heap.objs.size + 1) (.lst ((out.map SrtO.iv).map V.int)), I.laid (t' := s.toks) (fun _ _ => PyProof.Rows.sortedAll_old) (Nat.le_succ _) ⟨hlen, out, ep, vals_of_ints k1, he'⟩, rfl, q _ _ k2 k3 (I.hok.fresh (Nat.le_succ _))⟩
def insI (x : Int) : List Int → List Int
  | [] => [x]
  | y :: r => if x ≤ y then x :: y :: r else y :: insI x r
def srtI : List Int → List Int
  | [] => []
  | x :: r => insI x (srtI r)
theorem insI_perm (x : Int) : ∀ l : List Int, (insI x l).Perm (x :: l)
  | [] => .refl _
  | y :: r => by
    unfold insI
    split
    · exact .refl _
    · exact ((insI_perm x r).cons y).trans (.swap x y r)
theorem srtI_perm : ∀ l : List Int, (srtI l).Perm l
  | [] => .refl _
  | x :: r => (insI_perm x _).trans ((srtI_perm r).cons x)
theorem insI_pw (x : Int) : ∀ {l : List Int}, l.Pairwise (· ≤ ·) → (insI x l).Pairwise (· ≤ ·)
  | [], _ => by simp [insI]
  | y :: r, h => by
    unfold insI
    have h' := List.pairwise_cons.mp h
    split
    · rename_i hx
      refine List.pairwise_cons.mpr ⟨fun z hz => ?_, h⟩
      rcases List.mem_cons.mp hz with rfl | hz
      · exact hx
      · exact Int.le_trans hx (h'.1 z hz)
    · rename_i hx
      refine List.pairwise_cons.mpr ⟨fun z hz => ?_, insI_pw x h'.2⟩
      rcases List.mem_cons.mp ((insI_perm x r).mem_iff.mp hz) with rfl | hz
      · omega
      · exact h'.1 z hz
theorem srtI_pw : ∀ l : List Int, (srtI l).Pairwise (· ≤ ·)
  | [] => .nil
  | x :: r => insI_pw x (srtI_pw r)
theorem pw_eq : ∀ {l m : List Int}, l.Perm m → l.Pairwise (· ≤ ·) → m.Pairwise (· ≤ ·) → l = m
  | [], m, p, _, _ => (List.nil_perm.mp p).symm
  | x :: l, [], p, _, _ => by simp at p
  | x :: l, y :: m, p, h1, h2 => by
    have a := List.pairwise_cons.mp h1
    have b := List.pairwise_cons.mp h2
    have e : x = y := by
      have hx : x ∈ y :: m := p.mem_iff.mp List.mem_cons_self
      have hy : y ∈ x :: l := p.mem_iff.mpr List.mem_cons_self
      rcases List.mem_cons.mp hx with e | hx
      · exact e
      · rcases List.mem_cons.mp hy with e | hy
        · exact e.symm
        · exact Int.le_antisymm (a.1 y hy) (b.1 x hx)
    subst e
    rw [pw_eq (List.Perm.cons_inv p) a.2 b.2]
theorem srt_unique {l m : List Int} (p : m.Perm l) (h : m.Pairwise (· ≤ ·)) : m = srtI l := pw_eq (p.trans (srtI_perm l).symm) h (srtI_pw l)
def sortedD : List D → Option (List D)
  | [.list ds] => (intsOf ds).map fun ns => (srtI ns).map .int
  | [.tuple ds] => (intsOf ds).map fun ns => (srtI ns).map .int
  | _ => none
theorem sn_sorted : SnAF K (rSortQ K) sortedD := fun b0 B Z0 Z H σ ρ xs as c Q ok ra e q => by
  have fin : ∀ {a : Addr} {vs : List V} {ds : List D}, (SqL K H a vs ∨ SqT K H a vs) → RpA K Z vs ds → (intsOf ds).map (fun ns => (srtI ns).map PyData.int) = some c → rSortQ K [.ref a] H Q := fun {a vs ds} hs r e => by
    obtain ⟨ns, e1, rfl⟩ := Option.map_eq_some_iff.mp e
    rw [intsOf_eq e1] at r
    rw [RpA.of_ints r] at hs
    refine ⟨a, ns, rfl, hs, fun ns' p hp hw hn => ?_⟩
    rw [srt_unique hp hw]
    obtain ⟨ok2, zp, bp, ap⟩ := ok.fresh (o := .lst ((srtI ns).map V.int)) hn
    exact q p _ _ ok2 zp bp ap upd_same (RpA.ints _)
  unfold sortedD at e
  split at e
  · cases ra with
    | cons h r =>
      cases r
      cases h with
      | lst h1 r1 => exact fin (.inl (.inl (.inl h1))) r1 e
  · cases ra with
    | cons h r =>
      cases r
      cases h with
      | tup h1 r1 => exact fin (.inr (same_t ok.zh h1)) r1 e
  · cases e
end
end DL
namespace DL
open PySem L2
section
variable {α β : Type} {a : α} {ρ ρ1 : Rho} {c : Str} {d e : D} {x : Str} {i : Int} {b : Bool} {xs : List D} {T : String} {Ts : List String}
theorem to_ok (f : α → Rho → O) : (R.ok a ρ).to f = f a ρ := rfl
theorem toX_ok (f : α → Rho → O) : (R.ok a ρ).toX f = f a ρ := rfl
theorem toX_ex (f : α → Rho → O) : (R.ex c d ρ : R α).toX f = .ex c d ρ := rfl
theorem bind_nx (f : Rho → O) : (O.nx ρ).bind f = f ρ := rfl
theorem bind_rt (f : Rho → O) : (O.rt d ρ).bind f = .rt d ρ := rfl
theorem bind_rf (f : Rho → O) : (O.rf xs ρ).bind f = .rf xs ρ := rfl
theorem bind_ex (f : Rho → O) : (O.ex c d ρ).bind f = .ex c d ρ := rfl
theorem bind_bk (f : Rho → O) : (O.bk ρ).bind f = .bk ρ := rfl
theorem bind_ct (f : Rho → O) : (O.ct ρ).bind f = .ct ρ := rfl
theorem at_ok : (RX.ok a).at ρ = .ok a ρ := rfl
theorem at_ex : (RX.ex c d : RX α).at ρ = .ex c d ρ := rfl
theorem res_val : (Op.val d).res ρ = some d := rfl
theorem map_ex (f : α → β) : (R.ex c d ρ : R α).map f = .ex c d ρ := rfl
theorem rbind_ex (f : α → Rho → R β) : (R.ex c d ρ : R α).bind f = .ex c d ρ := rfl
theorem isiD_n : isiD T .none = (kitB "NoneType" T).map .bool := rfl
theorem isiD_b : isiD T (.bool b) = (kitB "bool" T).map .bool := rfl
theorem isiD_i : isiD T (.int i) = (kitB "int" T).map .bool := rfl
theorem isiD_s : isiD T (.str x) = (kitB "str" T).map .bool := rfl
theorem isiD_l : isiD T (.list xs) = (kitB "list" T).map .bool := rfl
theorem isiD_t : isiD T (.tuple xs) = (kitB "tuple" T).map .bool := rfl
theorem isiTD_n : isiTD Ts .none = (isiAny "NoneType" Ts).map .bool := rfl
theorem isiTD_b : isiTD Ts (.bool b) = (isiAny "bool" Ts).map .bool := rfl
theorem isiTD_i : isiTD Ts (.int i) = (isiAny "int" Ts).map .bool := rfl
theorem isiTD_s : isiTD Ts (.str x) = (isiAny "str" Ts).map .bool := rfl
theorem isiTD_l : isiTD Ts (.list xs) = (isiAny "list" Ts).map .bool := rfl
theorem isiTD_t : isiTD Ts (.tuple xs) = (isiAny "tuple" Ts).map .bool := rfl
theorem isNone_e : isNoneD (excD c d) = false := rfl
theorem isX_n {Cs Us : List Str} : isX Cs Us .none = some (.bool false) := rfl
theorem callP_rt {np n : Nat} {g : GS} {as : List D} (hl : as.length = np) (h : g (env0 n as) = .rt d ρ) : callP np n g as = some d := by unfold callP; rw [if_neg (fun z => z hl), h]
theorem callF_rf {np n : Nat} {g : GS} {as : List D} (hl : as.length = np) (h : g (env0 n as) = .rf xs ρ) : callF np n g as = some xs := by unfold callF; rw [if_neg (fun z => z hl), h]
end
inductive Pl : Nat → D → Prop
  | none (n : Nat) : Pl n .none
  | bool (n : Nat) (b : Bool) : Pl n (.bool b)
  | int (n : Nat) (i : Int) : Pl n (.int i)
  | str (n : Nat) (x : Str) : Pl n (.str x)
  | list {n : Nat} {xs : List D} (hl : xs.length ≤ sizeLine) (h : ∀ x ∈ xs, Pl n x) : Pl (n + 1) (.list xs)
  | tuple {n : Nat} {xs : List D} (hl : xs.length ≤ sizeLine) (h : ∀ x ∈ xs, Pl n x) : Pl (n + 1) (.tuple xs)
theorem Pl.up {n : Nat} {d : D} (h : Pl n d) : Pl (n + 1) d := by
  induction h with
  | none n => exact .none _
  | bool n b => exact .bool _ b
  | int n i => exact .int _ i
  | str n x => exact .str _ x
  | list hl h ih => exact .list hl ih
  | tuple hl h ih => exact .tuple hl ih
end DL
namespace DL
open PySem L2
theorem eLc_ok {vs : List Nat} {gi : GF} {k : GG} {t : GT} {e : GE} {ρ ρ1 ρ2 : Rho} {ds ys : List D} (h1 : gi ρ = .ok ds ρ1) (h2 : ds.length ≤ sizeLine) (h3 : lcL vs k t e ds (wipeR ρ1 vs) = .ok ys ρ2) : eLc vs gi k t e ρ = .ok ys (wipeR ρ2 vs) := by
  unfold eLc
  rw [h1]
  show (if ds.length ≤ sizeLine then (lcL vs k t e ds (wipeR ρ1 vs)).bind fun ys ρ2 => R.ok ys (wipeR ρ2 vs) else .bad) = _
  rw [if_pos h2, h3]; rfl
theorem eL_ok {g : GF} {ρ ρ1 : Rho} {ds : List D} (h : g ρ = .ok ds ρ1) : eL g ρ = .ok (.list ds) ρ1 := by unfold eL; rw [h]; rfl
theorem sRet_ok {g : GE} {ρ ρ1 : Rho} {d : D} (h : g ρ = .ok d ρ1) : sRet g ρ = .rt d ρ1 := by unfold sRet; rw [h]; rfl
theorem sRetF_ok {g : GF} {ρ ρ1 : Rho} {ds : List D} (h : g ρ = .ok ds ρ1) : sRetF g ρ = .rf ds ρ1 := by unfold sRetF; rw [h]; rfl
theorem seq_nx {a b : GS} {ρ ρ1 : Rho} {o : O} (h : a ρ = .nx ρ1) (h2 : b ρ1 = o) : sSeq a b ρ = o := by unfold sSeq; rw [h]; exact h2
theorem seq_rt {a b : GS} {ρ ρ1 : Rho} {d : D} (h : a ρ = .rt d ρ1) : sSeq a b ρ = .rt d ρ1 := by unfold sSeq; rw [h]; rfl
theorem sFor_nx {gi : GF} {k : GG} {b : GS} {ρ ρ1 ρ2 : Rho} {ds : List D} (h : gi ρ = .ok ds ρ1) (h2 : forL k b ds ρ1 = .nx ρ2) : sFor gi k b ρ = .nx ρ2 := by unfold sFor; rw [h]; exact h2
theorem sIf_t {c : GT} {a b : GS} {ρ ρ1 : Rho} {o : O} (h : c ρ = .ok true ρ1) (h2 : a ρ1 = o) : sIf c a b ρ = o := by unfold sIf; rw [h]; exact h2
theorem sIf_f {c : GT} {a b : GS} {ρ ρ1 : Rho} {o : O} (h : c ρ = .ok false ρ1) (h2 : b ρ1 = o) : sIf c a b ρ = o := by unfold sIf; rw [h]; exact h2
theorem lc_filter {vs : List Nat} {k : GG} {t : GT} {e : GE} {ρ : Rho} (p : Int → Bool) {is : List Int} (h : ∀ i ∈ is, ∃ ρ1, k (.int i) ρ = some ρ1 ∧ wipeR ρ1 vs = ρ ∧ t ρ1 = .ok (p i) ρ1 ∧ e ρ1 = .ok (.int i) ρ1) : lcL vs k t e (is.map .int) ρ = .ok ((is.filter p).map .int) ρ := by
  have := lc_fm (vs := vs) (k := k) (t := t) (e := e) (ρ := ρ) (fun d => match d with | .int i => if p i then some (.int i) else none | _ => none) (ds := is.map PyData.int) (fun d hd => by
    obtain ⟨i, hi, rfl⟩ := List.mem_map.mp hd
    obtain ⟨ρ1, a, b, c, d⟩ := h i hi
    refine ⟨ρ1, a, b, ?_⟩
    cases hp : p i with
    | true => exact .inl ⟨.int i, by simp [hp], by rw [c, hp], d⟩
    | false => exact .inr ⟨by simp [hp], by rw [c, hp]⟩)
  rw [this]
  congr 1
  rw [List.filterMap_map]
  clear this h
  induction is with
  | nil => rfl
  | cons i r ih =>
    simp only [List.filterMap_cons, List.filter_cons, Function.comp]
    cases p i with
    | true => simp only [if_true, List.map_cons]; rw [← ih]
    | false => simp only [Bool.false_eq_true, if_false]; rw [← ih]
/-- the number at a place -/
def nat (ns : List Int) (i : Int) : Int := ns[i.toNat]?.getD 0
theorem atI_of' {α : Type} {xs : List α} {i : Int} {x : α} (h0 : 0 ≤ i) (h : xs[i.toNat]? = some x) : atI xs i = some x := atI_of (n := i.toNat) (by omega) h
theorem atI_at {ns : List Int} {i : Int} (h0 : 0 ≤ i) (h1 : i < ns.length) : atI (ns.map PyData.int) i = some (.int (nat ns i)) := by
  have hk : i.toNat < ns.length := by omega
  refine atI_of (n := i.toNat) (by omega) ?_
  rw [List.getElem?_map]
  unfold nat
  rw [List.getElem?_eq_getElem hk]; rfl
def rngI (lo : Int) (n : Nat) : List Int := (List.range n).map fun i : Nat => lo + (i : Int)
theorem rngI_d (lo : Int) (n : Nat) : rangeD lo n = (rngI lo n).map .int := by unfold rangeD rngI; rw [List.map_map]; rfl
theorem mem_rngI {lo i : Int} {n : Nat} (h : i ∈ rngI lo n) : lo ≤ i ∧ i < lo + n := by
  obtain ⟨k, hk, rfl⟩ := List.mem_map.mp h
  have := List.mem_range.mp hk
  omega
theorem in_rngI {lo i : Int} {n : Nat} (h0 : lo ≤ i) (h1 : i < lo + n) : i ∈ rngI lo n := List.mem_map.mpr ⟨(i - lo).toNat, List.mem_range.mpr (by omega), by omega⟩
theorem rngI_len (lo : Int) (n : Nat) : (rngI lo n).length = n := by unfold rngI; rw [List.length_map, List.length_range]
theorem rngI_succ (lo : Int) (n : Nat) : rngI lo (n + 1) = rngI lo n ++ [lo + (n : Int)] := by unfold rngI; rw [List.range_succ, List.map_append]; rfl
theorem rng1_eq {m : Int} (h0 : 0 ≤ m) (h1 : m < 2 ^ 62) : rng1 [.int m] = some (rangeD 0 m.toNat) := if_pos ⟨by omega, h1⟩
theorem rangeD_at {m i : Nat} {d : D} (h : (rangeD 0 m)[i]? = some d) : d = .int (i : Int) ∧ i < m := by
  have hl : i < m := by
    have := (List.getElem?_eq_some_iff.mp h).1
    rw [rangeD_len] at this
    exact this
  rw [rangeD_get hl] at h
  exact ⟨by rw [← Option.some.inj h, Int.zero_add], hl⟩
def Sq (d : D) (xs : List D) : Prop := d = .list xs ∨ d = .tuple xs
theorem Sq.l (xs : List D) : Sq (.list xs) xs := .inl rfl
theorem Sq.t (xs : List D) : Sq (.tuple xs) xs := .inr rfl
theorem Sq.len {r : D} {xs : List D} (h : Sq r xs) : ∃ j : Int, lenD [r] = some (.int j) ∧ j = (xs.length : Int) := by rcases h with rfl | rfl <;> exact ⟨_, rfl, rfl⟩
theorem Sq.leni {r : D} {ns : List Int} (h : Sq r (ns.map .int)) : lenD [r] = some (.int (ns.length : Int)) := by
  obtain ⟨j, e, ej⟩ := h.len
  rw [e, ej, List.length_map]
theorem Sq.ix {r : D} {ns : List Int} {i : Int} (hr : Sq r (ns.map .int)) (h0 : 0 ≤ i) (h1 : i < ns.length) : ixD r (.int i) = some (.int (nat ns i)) := by
  rcases hr with rfl | rfl
  · rw [ixD_list]; exact atI_at h0 h1
  · rw [ixD_tuple]; exact atI_at h0 h1
theorem atI_last {α : Type} (l : List α) (x : α) : atI (l ++ [x]) (-1) = some x := by
  unfold atI ixN
  rw [if_neg (by omega), if_pos (by rw [List.length_append]; simp; omega)]
  show (l ++ [x])[_]? = _
  rw [List.length_append, show ((-1 : Int) + ((l.length + [x].length : Nat) : Int)).toNat = l.length by simp; omega]
  simp
theorem size_of {n : Nat} (h : n ≤ 100000) : n ≤ sizeLine := Nat.le_trans h (by decide)
theorem size_lt {n : Nat} (h : n < 100000) : n < sizeLine := Nat.lt_of_lt_of_le h (by decide)
theorem flVs_ints : ∀ ns : List Int, flVs (ns.map PyData.int) = some (ns.map V.int)
  | [] => rfl
  | n :: r => by
    show (match flV (PyData.int n), flVs (r.map PyData.int) with | some v, some vs => some (v :: vs) | _, _ => none) = _
    rw [flVs_ints r]; rfl
theorem inV_ints (i : Int) (ns : List Int) : inV (.int i) (ns.map V.int) = decide (i ∈ ns) := by
  induction ns with
  | nil => rfl
  | cons n r ih =>
    unfold inV at ih ⊢
    rw [List.map_cons, List.any_cons, ih]
    show ((n == i) || _) = _
    by_cases h : n = i
    · rw [decide_eq_true (List.mem_cons.mpr (.inl h.symm)), beq_iff_eq.mpr h]; rfl
    · have e : (n == i) = false := by simpa using h
      rw [e, Bool.false_or]
      exact decide_eq_decide.mpr ⟨fun z => List.mem_cons_of_mem _ z, fun z => (List.mem_cons.mp z).resolve_left fun y => h y.symm⟩
theorem inD_t (i : Int) (ns : List Int) : inD (.int i) (.tuple (ns.map .int)) = some (.bool (decide (i ∈ ns))) := by
  unfold inD inDb
  show Option.map _ (match flV (PyData.int i), flVs (ns.map PyData.int) with | some v, some vs => some (inV v vs) | _, _ => none) = _
  rw [flVs_ints]
  show some (PyData.bool (inV (.int i) (ns.map V.int))) = _
  rw [inV_ints]
theorem inD_l (i : Int) (ns : List Int) : inD (.int i) (.list (ns.map .int)) = some (.bool (decide (i ∈ ns))) := inD_t i ns
theorem notInD_l (i : Int) (ns : List Int) : notInD (.int i) (.list (ns.map .int)) = some (.bool (!decide (i ∈ ns))) := by
  unfold notInD inDb
  show Option.map _ (match flV (PyData.int i), flVs (ns.map PyData.int) with | some v, some vs => some (inV v vs) | _, _ => none) = _
  rw [flVs_ints]
  show some (PyData.bool (!inV (.int i) (ns.map V.int))) = _
  rw [inV_ints]
theorem cut_map {α β : Type} (f : α → β) (xs : List α) (lo hi : Option Int) : cutD (xs.map f) lo hi = (cutD xs lo hi).map f := by
  unfold cutD
  rw [List.length_map, List.map_take, List.map_drop]
theorem cut_to {α : Type} (xs : List α) (m : Nat) : cutD xs none (some (m : Int)) = xs.take m := by
  unfold cutD
  rw [HT.sIx_nat]
  show (xs.drop 0).take (min m xs.length - 0) = _
  rw [List.drop_zero, Nat.sub_zero, List.take_eq_take_iff]
  omega
theorem cut_from {α : Type} (xs : List α) (m : Nat) : cutD xs (some (m : Int)) none = xs.drop m := by
  unfold cutD
  rw [HT.sIx_nat]
  show (xs.drop (min m xs.length)).take (xs.length - min m xs.length) = _
  rw [List.take_of_length_le (by rw [List.length_drop]; omega)]
  by_cases h : m ≤ xs.length
  · rw [Nat.min_eq_left h]
  · rw [Nat.min_eq_right (by omega), List.drop_length, List.drop_of_length_le (by omega)]
theorem cut_ft_len {α : Type} (xs : List α) (m u : Nat) : (cutD xs (some (m : Int)) (some (u : Int))).length ≤ xs.length - m := by
  unfold cutD
  rw [HT.sIx_nat, HT.sIx_nat, List.length_take, List.length_drop]
  omega
theorem nat_set {ns : List Int} {i : Nat} {m k : Int} (h0 : 0 ≤ k) : nat (ns.set i m) k = if k = (i : Int) ∧ i < ns.length then m else nat ns k := by
  unfold nat
  rw [List.getElem?_set]
  by_cases e : i = k.toNat
  · rw [if_pos e]
    by_cases h : i < ns.length
    · rw [if_pos h, if_pos ⟨by omega, h⟩]; rfl
    · rw [if_neg h, if_neg fun z => h z.2, List.getElem?_eq_none (by omega)]
  · rw [if_neg e, if_neg fun z => e (by omega)]
theorem set_cut (ns : List Int) (i : Nat) (m : Int) (h : i < ns.length) : ns.take i ++ [m] ++ ns.drop (i + 1) = ns.set i m := by
  rw [List.set_eq_take_append_cons_drop, if_pos h, List.append_assoc]; rfl
theorem cut3 (ns : List Int) (i : Int) (h1 : 1 ≤ i) (h2 : i + 1 < ns.length) : cutD ns (some (i - 1)) (some (i + 2)) = [nat ns (i - 1), nat ns i, nat ns (i + 1)] := by
  obtain ⟨k, rfl⟩ : ∃ k : Nat, i = (k : Int) + 1 := ⟨(i - 1).toNat, by omega⟩
  rw [show (k : Int) + 1 - 1 = ((k : Nat) : Int) by omega, show (k : Int) + 1 + 2 = ((k + 3 : Nat) : Int) by omega, show (k : Int) + 1 + 1 = ((k + 2 : Nat) : Int) by omega, show (k : Int) + 1 = ((k + 1 : Nat) : Int) by omega]
  unfold cutD
  rw [HT.sIx_nat, HT.sIx_nat, Nat.min_eq_left (by omega), Nat.min_eq_left (by omega), show k + 3 - k = 3 by omega]
  apply List.ext_getElem?
  intro j
  rw [List.getElem?_take]
  unfold nat
  rcases j with _ | _ | _ | j
  · rw [if_pos (by omega), List.getElem?_drop, Int.toNat_natCast, List.getElem?_eq_getElem (by omega : k + 0 < ns.length)]
    simp [List.getElem?_eq_getElem (by omega : k < ns.length)]
  · rw [if_pos (by omega), List.getElem?_drop, List.getElem?_eq_getElem (by omega : k + (0 + 1) < ns.length)]
    simp [List.getElem?_eq_getElem (by omega : k + 1 < ns.length)]
  · rw [if_pos (by omega), List.getElem?_drop, List.getElem?_eq_getElem (by omega : k + (0 + 1 + 1) < ns.length)]
    rw [show (((k + 2 : Nat) : Int)).toNat = k + 2 by omega]
    simp [List.getElem?_eq_getElem (by omega : k + 2 < ns.length)]
  · rw [if_neg (by omega)]; rfl
def mid3 (a b c : Int) : Int := (srtI [a, b, c])[1]?.getD 0
theorem srt3 (a b c : Int) : ∃ x z, srtI [a, b, c] = [x, mid3 a b c, z] := by
  have h := (srtI_perm [a, b, c]).length_eq
  unfold mid3
  match e : srtI [a, b, c], h with
  | [x, y, z], _ => exact ⟨x, z, rfl⟩
/-- the number after a call -/
def midN (ns : List Int) (i : Int) : Int := if i = 0 ∨ i = (ns.length : Int) - 1 then nat ns i else mid3 (nat ns (i - 1)) (nat ns i) (nat ns (i + 1))
def callN (ns : List Int) (i : Int) : List Int := ns.set i.toNat (midN ns i)
theorem callN_len (ns : List Int) (i : Int) : (callN ns i).length = ns.length := List.length_set
theorem addT {xs ys : List D} (h : xs.length + ys.length ≤ 100000) : addU (.tuple xs) (.tuple ys) = some (.tuple (xs ++ ys)) := by
  have e : addD (.tuple xs) (.tuple ys) = some (.tuple (xs ++ ys)) := if_pos (size_of h)
  unfold addU
  rw [e]; rfl
theorem sliceU_t {xs : List D} {lo hi : Option Int} : sliceU (.tuple xs) lo hi = some (.tuple (cutD xs lo hi)) := rfl
end DL
namespace DL
open PySem L2
theorem for_cons {k : GG} {b : GS} {ρ ρ1 ρ2 : Rho} {d : D} {ds : List D} {o : O} (h1 : k d ρ = some ρ1) (h2 : b ρ1 = .nx ρ2) (h3 : forL k b ds ρ2 = o) : forL k b (d :: ds) ρ = o := by
  show (match k d ρ with | none => O.bad | some ρ1 => match b ρ1 with | .nx ρ2 => forL k b ds ρ2 | .ct ρ2 => forL k b ds ρ2 | .bk ρ2 => .nx ρ2 | o => o) = _
  rw [h1]
  show (match b ρ1 with | .nx ρ2 => forL k b ds ρ2 | .ct ρ2 => forL k b ds ρ2 | .bk ρ2 => .nx ρ2 | o => o) = _
  rw [h2]; exact h3
end DL
namespace DL
open PySem L2
inductive NwP (K : PySem.W.Frag) (B Z H : Hp) (σ : L2.St) (ρ : Rho) : List V → List Nw → List Addr → Prop
  | nil : NwP K B Z H σ ρ [] [] []
  | s {v : V} {vs : List V} {d : D} {ns : List Nw} {qs : List Addr} : Rp K Z v d → NwP K B Z H σ ρ vs ns qs → NwP K B Z H σ ρ (v :: vs) (.s d :: ns) qs
  | f {q : Addr} {ws vs : List V} {ds : List D} {ns : List Nw} {qs : List Addr} : Z q = none → B q = none → Apart σ ρ q → H q = some (.lst ws) → RpA K Z ws ds → q ∉ qs → NwP K B Z H σ ρ vs ns qs → NwP K B Z H σ ρ (.ref q :: vs) (.f ds :: ns) (q :: qs)
section
variable {K : PySem.W.Frag} {Wx : WX} {te : TE} {tas : TA} {b0 : Option Addr} {B Z0 Z H : Hp} {σ : L2.St} {ρ : Rho}
theorem NwP.len {vs : List V} {ns : List Nw} {qs : List Addr} (h : NwP K B Z H σ ρ vs ns qs) : vs.length = ns.length := by
  induction h with
  | nil => rfl
  | s _ _ ih => rw [List.length_cons, List.length_cons, ih]
  | f _ _ _ _ _ _ _ ih => rw [List.length_cons, List.length_cons, ih]
theorem NwP.none {vs : List V} {ns : List Nw} {qs : List Addr} (h : NwP K B Z H σ ρ vs ns qs) : ∀ q ∈ qs, B q = Option.none := by
  induction h with
  | nil => exact fun q hq => nomatch hq
  | s _ _ ih => exact ih
  | f _ hb _ _ _ _ _ ih =>
    intro q hq
    rcases List.mem_cons.mp hq with rfl | hq
    · exact hb
    · exact ih q hq
theorem NwP.back {p : Addr} {o : HO} (bp : B p = Option.none) {vs : List V} {ns : List Nw} {qs : List Addr} (h : NwP K (upd B p o) Z H σ ρ vs ns qs) : NwP K B Z H σ ρ vs ns qs ∧ p ∉ qs := by
  induction h with
  | nil => exact ⟨.nil, fun z => nomatch z⟩
  | s r _ ih => exact ⟨.s r ih.1, ih.2⟩
  | @f q ws vs ds ns qs hz hb ha hh hr hn _ ih =>
    have ne : q ≠ p := fun z => by rw [z, upd_same] at hb; cases hb
    rw [upd_ne ne] at hb
    exact ⟨.f hz hb ha hh hr hn ih.1, fun z => (List.mem_cons.mp z).elim (fun y => ne y.symm) ih.2⟩
def setV : List Nat → List V → L2.St → L2.St
  | i :: is, v :: vs, σ => setV is vs (σ.set i (some v))
  | _, _, σ => σ
theorem apart_set {i : Nat} {v : V} {n : Nw} {q : Addr} (h : Apart σ ρ q) (hv : ∀ ds, n = .f ds → v ≠ .ref q) : Apart (σ.set i (some v)) (ρ.set i n.sl) q := fun j es hj ho hq => by
  rcases set_get hj with ⟨ek, e⟩ | ⟨nk, e⟩
  · subst ek
    cases n with
    | s d => subst e; cases ho
    | f ds =>
      rcases set_get hq with ⟨_, e2⟩ | ⟨n2, _⟩
      · exact hv ds rfl (Option.some.inj e2)
      · exact n2 rfl
  · rw [List.getElem?_set_ne nk] at hq
    exact h j es e ho hq
theorem NwP.set {i : Nat} {v : V} {n : Nw} {vs : List V} {ns : List Nw} {qs : List Addr} (hv : ∀ q ∈ qs, ∀ ds, n = .f ds → v ≠ .ref q) (h : NwP K B Z H σ ρ vs ns qs) : NwP K B Z H (σ.set i (some v)) (ρ.set i n.sl) vs ns qs := by
  induction h with
  | nil => exact .nil
  | s r _ ih => exact .s r (ih hv)
  | f hz hb ha hh hr hn _ ih => exact .f hz hb (apart_set ha (hv _ List.mem_cons_self)) hh hr hn (ih fun q hq => hv q (List.mem_cons_of_mem _ hq))
def tgN : List Nat → TGs
  | [] => gNil
  | i :: is => gCons (gName i) (tgN is)
theorem tgN_run {H : Hp} {Q : L2.St → Hp → Prop} : ∀ {is : List Nat} {vs : List V} {σ : L2.St}, is.length = vs.length → Q (setV is vs σ) H → tgN is vs σ H Q
  | [], [], _, _, q => ⟨rfl, q⟩
  | [], _ :: _, _, h, _ => nomatch h
  | _ :: _, [], _, h, _ => nomatch h
  | i :: is, v :: vs, σ, h, q => ⟨v, vs, rfl, tgN_run (is := is) (vs := vs) (by simpa using h) q⟩
end
theorem Sq.tup {r : D} {xs : List D} (h : Sq r xs) : tupleD [r] = some (.tuple xs) := by rcases h with rfl | rfl <;> rfl
theorem Sq.lst {r : D} {xs : List D} (h : Sq r xs) : listD [r] = some xs := by rcases h with rfl | rfl <;> rfl
theorem Sq.items {r : D} {xs : List D} (h : Sq r xs) : itemsD r = some xs := by rcases h with rfl | rfl <;> rfl
/-- the row after calls -/
def runN (ns : List Int) (tape : List Int) : List Int := tape.foldl callN ns
theorem callN_iff {ns : List Int} {i : Int} (h0 : 0 ≤ i) (h1 : i < ns.length) : callN ns i = ns ↔ midN ns i = nat ns i := by
  unfold callN
  have hk : i.toNat < ns.length := by omega
  constructor
  · intro h
    have : (ns.set i.toNat (midN ns i))[i.toNat]? = ns[i.toNat]? := by rw [h]
    rw [List.getElem?_set_self hk] at this
    unfold nat
    rw [← this]; rfl
  · intro h
    rw [h]
    unfold nat
    rw [List.getElem?_eq_getElem hk]
    exact List.set_getElem_self hk
theorem heardT_ok {h : Nat} {gn : Rho → R (List Nw)} {Fs : List D → Option D} {gd : GE} {js : List Nat} {m : Rho → Option Rho} {rest : GS} {ρ ρ1 ρ2 ρ3 : Rho} {ns : List Nw} {due : D} {o : O} (h1 : gn ρ = .ok ns ρ1) (h2 : ns.length ≤ sizeLine) (h3 : h < ρ1.length) (h4 : js.length ≤ sizeLine) (h5 : gd (ρ1.set h .no) = .ok due ρ2)
    (h6 : Fs [.list (ns.map Nw.dat), due] = some (.bool true)) (h7 : ∀ j ∈ js, ∃ T, ns[j]? = some (.f T) ∧ T.length + js.length ≤ sizeLine) (h8 : m (ρ2.set h .no) = some ρ3) (h9 : rest ρ3 = o) : sHeardT h gn Fs gd js m rest ρ = o := by
  have h7 : js.all (fun j => isF js.length ns[j]?) = true := List.all_eq_true.mpr fun j hj => by
    obtain ⟨T, e, z⟩ := h7 j hj
    rw [e]
    exact decide_eq_true z
  unfold sHeardT
  rw [h1]
  show (if ns.length ≤ sizeLine ∧ h < ρ1.length ∧ js.length ≤ sizeLine then (gd (ρ1.set h .no)).to _ else .bad) = _
  rw [if_pos ⟨h2, h3, h4⟩, h5]
  show (match Fs [.list (ns.map Nw.dat), due] with
    | some (.bool true) => if js.all (fun j => isF js.length ns[j]?) then (match m (ρ2.set h .no) with | some ρ3 => rest ρ3 | none => .bad) else .bad
    | some (.bool false) => .rt (.bool false) (ρ2.set h .no)
    | _ => .bad) = _
  rw [h6]
  show (if js.all (fun j => isF js.length ns[j]?) = true then (match m (ρ2.set h .no) with | some ρ3 => rest ρ3 | none => .bad) else .bad) = _
  rw [if_pos h7, h8]
  exact h9
end DL
namespace DL
open PySem PySem.Spec PyProof.Rows L2
end DL
namespace DLX
open PySem PySem.W PySem.Calls PyProof.Rows PySem.HandSPX
open Builtin Builtin.ObjectAttr
end DLX
namespace DL
open PySem PySem.Spec PyProof.Rows L2 DLX
end DL
namespace DL
open PySem PySem.Spec PyProof.Rows L2
end DL
namespace DLZ
open PySem
end DLZ
namespace DLZ
open PySem
end DLZ
namespace DL
open PySem PySem.Spec PyProof.Rows L2 DLZ
end DL
namespace DLV
open PySem PySem.Spec PyProof.Rows HT
end DLV
namespace DL
open PySem PySem.Spec PyProof.Rows L2 DLV
section
variable {X : Cx} {K : PySem.W.Frag} {te : TE} {Wx : WX}
theorem RpA.erase {Z : Hp} : ∀ {vs : List V} {ds : List D} (j : Nat), RpA K Z vs ds → RpA K Z (vs.eraseIdx j) (ds.eraseIdx j)
  | _, _, _, .nil => .nil
  | _, _, 0, .cons h t => t
  | _, _, j + 1, .cons h t => .cons h (RpA.erase j t)
theorem RpA.getD {Z : Hp} : ∀ {vs : List V} {ds : List D} {j : Nat} {d : D}, RpA K Z vs ds → ds[j]? = some d → ∃ v, vs[j]? = some v ∧ Rp K Z v d
  | _, _, 0, _, .cons h t, e => by cases e; exact ⟨_, rfl, h⟩
  | _, _, j + 1, _, .cons h t, e => RpA.getD (j := j) t e
end
end DL
namespace DL
open PySem L2
section
variable {K : PySem.W.Frag} {Wx : WX} {ta tb tc : TE} {b0 : Option Addr} {B Z0 Z H : Hp} {σ : L2.St} {ρ : Rho}
theorem apart_put {i : Nat} {v : V} {d : D} {q : Addr} (aq : Apart σ ρ q) : Apart (σ.set i (some v)) (ρ.set i (.sh d)) q := fun j' es hj ho hqq => by
  rcases set_get hj with ⟨_, z⟩ | ⟨nk, e⟩
  · subst z; cases ho
  · rw [List.getElem?_set_ne nk] at hqq
    exact aq j' es e ho hqq
theorem ds_par3f {i j l : Nat} {a b : GE} {c : GF} (ha : DE K ta a) (hb : DE K tb b) (hc : DF K tc c) (hl : l ≠ 0 := by decide) : DS K Wx (tPar3 i j l (tCons ta (tCons tb (tCons tc tNil)))) (sPar3 i j l (nS a) (nS b) (nF c)) := fun b0 B Z0 Z H σ ρ E ok s => by
  obtain ⟨x, ρ1, e1, s⟩ := Sat.to s
  obtain ⟨y, ρ2, e2, s⟩ := Sat.to s
  obtain ⟨z, ρ3, e3, s⟩ := Sat.to s
  obtain ⟨dx, f1, rfl⟩ := R.map_ok e1
  obtain ⟨dy, f2, rfl⟩ := R.map_ok e2
  obtain ⟨dz, f3, rfl⟩ := R.map_ok e3
  refine ha b0 B Z0 Z H σ ρ dx ρ1 _ ok f1 fun v H1 Z1 ok1 s1 r1 => ?_
  refine hb b0 B Z0 Z1 H1 σ ρ1 dy ρ2 _ ok1 f2 fun w H2 Z2 ok2 s2 r2 => ?_
  refine hc b0 B Z0 Z2 H2 σ ρ2 dz ρ3 _ ok2 f3 fun p vs H3 Z3 ok3 s3 zp bp ap hp ra => ?_
  exact ⟨v, w, .ref p, rfl, s _ H3 Z3 (((ok3.put (r1.mono (s2.trans s3))).put (r2.mono s3)).putO zp bp (apart_put (apart_put ap)) hp ra fun _ _ z => absurd z hl)⟩
end
end DL
namespace DL
open PySem L2
mutual
def szZ : D → Nat
  | .list xs => 3 + szZs xs
  | .tuple xs => 3 + szZs xs
  | .none => 5
  | .bool _ => 5
  | .int i => (PyData.int i).shown.length
  | .str x => (PyData.str x).shown.length
  | .dict _ => 0
def szZs : List D → Nat
  | [] => 0
  | x :: xs => szZ x + 2 + szZs xs
end
mutual
def okB (B : Nat) : D → Bool
  | .list xs => okBs B xs
  | .tuple xs => okBs B xs
  | .none => true
  | .bool _ => true
  | .int i => decide (i.natAbs ≤ B)
  | .str _ => true
  | .dict _ => false
def okBs (B : Nat) : List D → Bool
  | [] => true
  | x :: xs => okB B x && okBs B xs
end
/-- a plain value: whole numbers up to B, depth up to n, size up to L -/
structure Vv (B n L : Nat) (d : D) : Prop where
  ok : okB B d = true
  dp : d.depth ≤ n
  sz : szZ d ≤ L
theorem Vv.mono {B n L B' n' L' : Nat} {d : D} (v : Vv B n L d) (b : ∀ d, okB B d = true → okB B' d = true) (hn : n ≤ n') (hL : L ≤ L') : Vv B' n' L' d := ⟨b d v.ok, Nat.le_trans v.dp hn, Nat.le_trans v.sz hL⟩
end DL
namespace DLS
open PySem PySem.Spec PyProof.Rows L2
section
variable {P : Program} {w : World} {A : Around} {E : Value → Shared → Prop} {s : Shared}
theorem set_listI {l : Addr} {items : Array Value} (ns : List Int) {Q : Value → Shared → Prop} (hh : A.handled = none) (hl : s.heap.IsList l items) (hit : IntsAre items.toList ns) (hb : ns.length + 1 < scanBound)
    (h : ∀ (h' : Heap) (tk c : Nat), SetR w h' s.heap.objs.size (fun j => decide (j ∈ ns)) c → c ≤ ns.length → (∀ b o, s.heap.get? b = some o → h'.get? b = some o) → Q (.ref s.heap.objs.size) { s with heap := h', toks := tk }) :
    wpAny (model P w) A (call (.type "set") [.ref l]) Q E s := by
  have hisz : items.size = ns.length := by
    have q := IntsAre.length hit
    rw [Array.length_toList] at q
    exact q
  obtain ⟨c, tl, hmro⟩ := F.called_set.mro
  have hmade := F.called_set.made
  have hsub := F.called_set.sub
  refine wpAny_call (codeAny_of_tree ?_)
  show wpAny _ _ (callAny (.type "set") _) _ _ _
  refine wpAny_pure ⟨Code.quiet_builtin _ (by decide +kernel), codeAny_builtin F.entry_type_call ?_⟩
  rw [Around.under_plain (weight_type_call_type "set" [.ref l] []) rfl]
  have h1 := F.called_set.notType
  have h2 := F.called_set.canCreate
  have hct := F.typeCall_set_1 (.ref l)
  repeat (any_goals (first | assumption | wp_step))

  refine codeAny_mono (code_set_led1 (.ref l) (E := E) (Q₁ := fun obj s₁ => obj = .ref s.heap.objs.size ∧ s₁ = { s with heap := s.heap.push { cls := .type "set", dict := none, data := .set #[] 0 (.fresh 0 0 (!w.params.followText "set-order")) } }) ⟨rfl, rfl⟩) fun r s₁ hr => ?_
  cases r with
  | error e => exact hr
  | ok fl =>
    cases fl with
    | ret obj =>
      obtain ⟨rfl, rfl⟩ := hr
      have hS : (s.heap.push { cls := .type "set", dict := none, data := .set #[] 0 (.fresh 0 0 (!w.params.followText "set-order")) }).get? s.heap.objs.size = some { cls := .type "set", dict := none, data := .set #[] 0 (.fresh 0 0 (!w.params.followText "set-order")) } := Heap.get?_push_size _ rfl
      have hT : Shared.TypeIs { s with heap := s.heap.push { cls := .type "set", dict := none, data := .set #[] 0 (.fresh 0 0 (!w.params.followText "set-order")) } } (.ref s.heap.objs.size) "set" := ⟨_, hS, rfl⟩
      have hli := F.called_set.init.lookup
      have hbi := F.called_set.init.bind (.ref s.heap.objs.size)
      repeat (any_goals (first | assumption | wp_step))

      refine codeAny_mono (codeAny_call_builtin (R := wants (fun r s₂ => r = .none ∧ ∃ h' tk c, s₂ = { s with heap := h', toks := tk } ∧ SetR w h' s.heap.objs.size (fun j => decide (j ∈ ns)) c ∧ c ≤ ns.length ∧
          (∀ b o, s.heap.get? b = some o → h'.get? b = some o)) E) F.called_set.init.plain F.entry_set_init (check_set_init_1 hT ?_)) fun r₂ s₂ hr₂ => ?_
      · obtain ⟨ol, hol, hcl, nl, hdl⟩ := hl
        obtain ⟨ocls, odict, odata, oslots⟩ := ol
        simp only at hcl hdl
        subst hcl; subst hdl
        have hol' : (s.heap.push { cls := .type "set", dict := none, data := .set #[] 0 (.fresh 0 0 (!w.params.followText "set-order")) }).get? l = some { cls := .type "list", dict := odict, data := .seq items nl, slots := oslots } := Heap.get?_push_of_some _ hol
        have hsls := F.sub_list_set
        have hslf := F.sub_list_frozenset
        have hne : (Value.type "list" == Value.type "dict") = false := by decide
        have hl1 : (s.heap.push { cls := .type "set", dict := none, data := .set #[] 0 (.fresh 0 0 (!w.params.followText "set-order")) }).IsList l items := ⟨_, hol', rfl, nl, rfl⟩
        unfold Builtin.«set.__init__» noKeywords Builtin.Frozenset.updateFrom
        generalize hPI : pyIter = PI
        wp_walk
        subst hPI

        refine wpAny_pyIter_list hl1 ?_
        refine wpAny_bind (wpAny_runValue ?_)
        have hlS : l < s.heap.objs.size := Heap.lt_size hol
        have hh3 : A.in1.in1.in1.handled = none := by simp [hh]
        have hz1 : (s.heap.push { cls := .type "set", dict := none, data := .set #[] 0 (.fresh 0 0 (!w.params.followText "set-order")) }).objs.size = s.heap.objs.size + 1 := Heap.size_push ..
        have hneI : l ≠ (s.heap.push { cls := .type "set", dict := none, data := .set #[] 0 (.fresh 0 0 (!w.params.followText "set-order")) }).objs.size := by
          rw [Heap.size_push]; exact Nat.ne_of_lt (Nat.lt_succ_of_lt hlS)
        have hSf : s.heap.objs.size ∉ [(s.heap.push { cls := .type "set", dict := none, data := .set #[] 0 (.fresh 0 0 (!w.params.followText "set-order")) }).objs.size, l] := by
          rw [Heap.size_push]; simp only [List.mem_cons, List.mem_singleton, List.not_mem_nil, or_false, not_or]
          exact ⟨Nat.ne_of_lt (Nat.lt_succ_self _), Nat.ne_of_gt hlS⟩
        have hval : ∀ (i : Nat) (v : Value), items[i]? = some v → ∃ k t, ns[i]? = some k ∧ v = .int k t := fun i v hv => by
          have hi : i < ns.length := by rw [← hisz]; exact (Array.getElem?_eq_some_iff.mp hv).1
          obtain ⟨t, e⟩ := PyProof.Rows.IntsAre.int_at hit i v (by rw [Array.getElem?_toList]; exact hv)
          refine ⟨ns[i], t, List.getElem?_eq_getElem hi, ?_⟩
          rw [e, List.getD_eq_getElem?_getD, List.getElem?_eq_getElem hi] <;> rfl
        refine set_update_ints ((Walks.list hh3 _ l hneI items).toS) s.heap.objs.size
          hSf ns hisz hb hval (items.size - 0) 0 _ (by omega) (Nat.zero_le _)
          ⟨⟨_, Heap.get?_push_size _ rfl, rfl, rfl⟩, (hl1.push _)⟩ ?hS0 ?hR
        case hS0 =>
          have hget : ((s.heap.push { cls := .type "set", dict := none, data := .set #[] 0 (.fresh 0 0 (!w.params.followText "set-order")) }).push { cls := .type "list_iterator", data := .fields #[.ref l, .int 0 0] }).get? s.heap.objs.size
              = some { cls := .type "set", dict := none, data := .set #[] 0 (.fresh 0 0 (!w.params.followText "set-order")) } := Heap.get?_push_of_some _ hS
          exact ⟨0, Nat.le_refl 0, setR_new_at hget⟩
        case hR =>
          intro s' c' hm hc' hS'
          obtain ⟨h', g2, d', tk', os'⟩ := s'
          have eg : g2 = s.gens := hm.gens
          have ed : d' = s.drawn := hm.drawn
          have eo : os' = s.os := hm.os
          subst eg; subst ed; subst eo
          show wpAny _ _ _ _ _ _
          refine wpAny_pure ?_
          show wpAny _ _ (ret Value.none) _ _ _
          rw [hisz] at hc'
          refine wpAny_pure ⟨rfl, h', tk', c', rfl, hS', hc', fun b o e => ?_⟩
          have hb0 : b < s.heap.objs.size := Heap.lt_size e
          have hb1 : b ≠ s.heap.objs.size := Nat.ne_of_lt hb0
          have hb2 : b ≠ (s.heap.push { cls := .type "set", dict := none, data := .set #[] 0 (.fresh 0 0 (!w.params.followText "set-order")) }).objs.size := by
            rw [Heap.size_push]; exact Nat.ne_of_lt (Nat.lt_succ_of_lt hb0)
          exact hm.heap b o (by simp only [List.mem_cons, List.mem_singleton, List.not_mem_nil, or_false, not_or]; exact ⟨hb1, hb2⟩) (Heap.get?_push_of_some _ (Heap.get?_push_of_some _ e))

      · cases r₂ with
        | error e => exact hr₂
        | ok fl₂ =>
          cases fl₂ with
          | ret r =>
            obtain ⟨rfl, h', tk, c', rfl, hS', hc', hk'⟩ := hr₂
            repeat (any_goals (first | assumption | wp_step))
            exact h _ _ _ hS' hc' hk'
          | _ => exact hr₂.elim
    | _ => exact hr.elim
end
end DLS
namespace DL
open PySem PySem.Spec PyProof.Rows L2
def insU (k : Int) : List Int → List Int
  | [] => [k]
  | x :: xs => if k < x then k :: x :: xs else if k = x then x :: xs else x :: insU k xs
def srtU (ns : List Int) : List Int := ns.foldr insU []
theorem mem_insU {k j : Int} : ∀ {xs : List Int}, j ∈ insU k xs ↔ j = k ∨ j ∈ xs
  | [] => by simp [insU]
  | x :: xs => by
    have ih := mem_insU (k := k) (j := j) (xs := xs)
    unfold insU
    split
    · simp
    · split
      · rename_i h; subst h; simp
      · simp only [List.mem_cons, ih]
        constructor
        · rintro (h | h | h)
          · exact .inr (.inl h)
          · exact .inl h
          · exact .inr (.inr h)
        · rintro (h | h | h)
          · exact .inr (.inl h)
          · exact .inl h
          · exact .inr (.inr h)
theorem asc_insU {k : Int} : ∀ {xs : List Int}, xs.Pairwise (· < ·) → (insU k xs).Pairwise (· < ·)
  | [], _ => by simp [insU]
  | x :: xs, h => by
    obtain ⟨h1, h2⟩ := List.pairwise_cons.mp h
    unfold insU
    split
    · rename_i hk
      refine List.pairwise_cons.mpr ⟨fun y hy => ?_, h⟩
      rcases List.mem_cons.mp hy with e | hy
      · rw [e]; exact hk
      · exact Int.lt_trans hk (h1 y hy)
    · split
      · exact h
      · rename_i h3 h4
        refine List.pairwise_cons.mpr ⟨fun y hy => ?_, asc_insU h2⟩
        rcases mem_insU.mp hy with e | hy
        · rw [e]; omega
        · exact h1 y hy
theorem mem_srtU {j : Int} : ∀ {ns : List Int}, j ∈ srtU ns ↔ j ∈ ns
  | [] => by simp [srtU]
  | n :: ns => by
    show j ∈ insU n (srtU ns) ↔ _
    rw [mem_insU, mem_srtU, List.mem_cons]
theorem asc_srtU : ∀ {ns : List Int}, (srtU ns).Pairwise (· < ·)
  | [] => by simp [srtU]
  | n :: ns => asc_insU (asc_srtU (ns := ns))
/-- there is just one ascending list with these members -/
theorem asc_unique : ∀ {xs ys : List Int}, xs.Pairwise (· < ·) → ys.Pairwise (· < ·) → (∀ k, k ∈ xs ↔ k ∈ ys) → xs = ys
  | [], [], _, _, _ => rfl
  | [], y :: ys, _, _, h => absurd ((h y).mpr List.mem_cons_self) (by simp)
  | x :: xs, [], _, _, h => absurd ((h x).mp List.mem_cons_self) (by simp)
  | x :: xs, y :: ys, hx, hy, h => by
    obtain ⟨x1, x2⟩ := List.pairwise_cons.mp hx
    obtain ⟨y1, y2⟩ := List.pairwise_cons.mp hy
    have e : x = y := by
      rcases List.mem_cons.mp ((h x).mp List.mem_cons_self) with e | e
      · exact e
      · rcases List.mem_cons.mp ((h y).mpr List.mem_cons_self) with e' | e'
        · exact e'.symm
        · have := y1 x e
          have := x1 y e'
          omega
    subst e
    rw [asc_unique x2 y2 fun k => ?_]
    constructor
    · intro hk
      rcases List.mem_cons.mp ((h k).mp (List.mem_cons_of_mem _ hk)) with e | e
      · have := x1 k hk
        omega
      · exact e
    · intro hk
      rcases List.mem_cons.mp ((h k).mpr (List.mem_cons_of_mem _ hk)) with e | e
      · have := y1 k hk
        omega
      · exact e
section
variable {X : Cx} {K : PySem.W.Frag} {te : TE} {a : Expr}
def tSrtSet (K : PySem.W.Frag) (te : TE) : TE := fun σ H Q => te σ H fun x H1 => ∃ l ns, x = .ref l ∧ (SqL K H1 l (ns.map V.int) ∨ SqT K H1 l (ns.map V.int)) ∧ ns.length < 64 ∧ ∀ p, H1 p = none → Q (.ref p) (upd H1 p (.lst ((srtU ns).map V.int)))
theorem pe_srtSet {p p2 q pos : Pos} (hg : Gl X "sorted") (hm : X.mg "sorted" = none) (hg2 : Gl X "set") (hm2 : X.mg "set" = none) (ha : PE X a te) (hc : X.calm = true := by rfl)
    (hbt : bootBuiltins "sorted" = some (.builtin "sorted") := by decide +kernel) (na : starEach [a] X.env = (false, eval a X.env) :: starEach [] X.env := by rfl) : PE X (.Call (.Name "sorted" p) [.Call (.Name "set" p2) [a] [] q] [] pos) (tSrtSet X.K te) := by
  refine ⟨fun pins s σ H Q I h => ?_⟩
  refine Call_ (ld_blt I hg hm hbt ?_)
  refine PyProof.Rows.callWith_builtin1 (PyProof.Rows.args_cons ?_ rfl) rfl rfl
  refine Call_ (ld_blt I hg2 hm2 boot_set ?_)
  refine PyProof.Rows.callWith_type1 (PyProof.Rows.args_cons (thn (ha.run pins s σ H _ I h) fun v s1 ⟨x, H1, I1, r1, q1⟩ => PyProof.Rows.args_nil ?_) na) na rfl
  obtain ⟨l, ns, rfl, hq, hl, q1⟩ := q1
  cases r1
  have st : ∀ {Q' : Value → Shared → Prop}, (∀ (h' : Heap) (tk c : Nat), SetR X.w h' s1.heap.objs.size (fun j => decide (j ∈ ns)) c → c ≤ ns.length → (∀ b o, s1.heap.get? b = some o → h'.get? b = some o) → Q' (.ref s1.heap.objs.size) { s1 with heap := h', toks := tk }) → wpAny (model X.prog X.w) X.A (call (.type "set") [.ref l]) Q' X.xe s1 := fun {Q'} hq' => by
    rcases hq with hq | hq
    · obtain ⟨its, r, pl, hz⟩ := I1.list hq
      exact DLS.set_listI ns (I1.ok.hd hc) pl.isList (by simpa using RZ.intsAre_vals r) (by unfold scanBound; omega) hq'
    · obtain ⟨its, r, pl, hz⟩ := I1.tuple hq
      exact call_set_tupI ns (I1.ok.hd hc) pl (by simpa using RZ.intsAre_vals r) (by unfold scanBound; omega) hq'
  refine st fun h' tk c hS hcn hk => ?_
  refine PyProof.Rows.args_nil ?_
  have I2 : L2.Inv X pins σ H1 { s1 with heap := h', toks := tk } := I1.kept hk
  refine sorted_set hS (I1.ok.hd hc) (by omega) fun s' p out c' ms k g o hp hg' hi hs hm' hl' => ?_
  have em : ms = srtU ns := asc_unique hs asc_srtU fun j => by rw [hm' j, mem_srtU]; simp
  subst em
  have hlen : ((srtU ns).map V.int).length ≤ sizeLine := by rw [List.length_map, hl', sizeLine_eq]; omega
  have hn : H1 p = none := I2.hok.fresh hp
  generalize hs2 : ({ s1 with heap := h', toks := tk } : Shared) = s2 at *
  have J : L2.Inv X pins σ (upd H1 p (.lst ((srtU ns).map V.int))) { s2 with heap := s'.heap, gens := s'.gens, drawn := s'.drawn, toks := s'.toks } :=
    I2.call (ch := []) (Un.laid k hp hn) (I2.hok.laid k hp ⟨hlen, out.toList, c', vals_of_ints hi, hg'⟩) (by rw [g]; exact I2.bare) (fun _ z => nomatch z)
  have e : s' = { s2 with heap := s'.heap, gens := s'.gens, drawn := s'.drawn, toks := s'.toks } := by
    cases s'
    cases s2
    cases o
    rfl
  rw [e]
  exact ⟨.ref p, _, J, rfl, q1 p hn⟩
/-- sorted(set(xs)) -/
def eSrtSet (g : GE) (ρ : Rho) : R (List D) := (g ρ).bind fun d ρ1 => match d with
  | .list ds => (match intsOf ds with
    | some ns => if ns.length < 64 then .ok ((srtU ns).map .int) ρ1 else .bad
    | none => .bad)
  | .tuple ds => (match intsOf ds with
    | some ns => if ns.length < 64 then .ok ((srtU ns).map .int) ρ1 else .bad
    | none => .bad)
  | _ => .bad
theorem df_srtSet {g : GE} (h : DE K te g) : DF K (tSrtSet K te) (eSrtSet g) := fun b0 B Z0 Z H σ ρ ds ρ' Q ok e q => by
  obtain ⟨d, ρ1, e1, e⟩ := R.bind_ok e
  split at e
  · split at e
    · rename_i ds' ns hn
      split at e
      · rename_i hl
        cases e
        refine h b0 B Z0 Z H σ ρ _ _ _ ok e1 fun v H1 Z1 ok1 s1 r1 => ?_
        rw [intsOf_eq hn] at r1
        cases r1 with
        | lst hs ra =>
          rw [RpA.of_ints ra] at hs
          refine ⟨_, ns, rfl, .inl (.inl (.inl (ok1.zh _ _ hs))), hl, fun p hp => ?_⟩
          obtain ⟨okf, zf, bf, af⟩ := ok1.fresh (o := .lst _) hp
          exact q p _ _ Z1 okf s1 zf bf af upd_same (RpA.ints _)
      · cases e
    · cases e
  · split at e
    · rename_i ds' ns hn
      split at e
      · rename_i hl
        cases e
        refine h b0 B Z0 Z H σ ρ _ _ _ ok e1 fun v H1 Z1 ok1 s1 r1 => ?_
        rw [intsOf_eq hn] at r1
        cases r1 with
        | tup hs ra =>
          rw [RpA.of_ints ra] at hs
          refine ⟨_, ns, rfl, .inr (same_t ok1.zh hs), hl, fun p hp => ?_⟩
          obtain ⟨okf, zf, bf, af⟩ := ok1.fresh (o := .lst _) hp
          exact q p _ _ Z1 okf s1 zf bf af upd_same (RpA.ints _)
      · cases e
    · cases e
  · cases e
end
end DL
namespace DL
open PySem L2
end DL
namespace DL
open PySem L2
end DL
namespace DL
open PySem PySem.Spec PyProof.Rows L2
end DL
namespace DL
open PySem L2
end DL
namespace DL
open PySem PySem.Spec PyProof.Rows L2
def xIs : Leaf → Value → Bool
  | .none, .none => true
  | .num i, .int j _ => decide (j = i)
  | _, _ => false
theorem xIs_leaf {k : Leaf} {v : Value} (h : xIs k v = true) : Leaf.isOf k v = true := by
  cases k <;> cases v <;> first | exact h | rfl | cases h
def xKind (prog : Program) (w : World) : KeyKind prog w Leaf where
  is := xIs
  hash := fun k => k.key.hash w
  inj := fun v a b ha hb => (leafKind prog w).inj v a b (xIs_leaf ha) (xIs_leaf hb)
  byValue := fun k v h => (leafKind prog w).byValue k v (xIs_leaf h)
  pyHash := fun hv h => (leafKind prog w).pyHash (xIs_leaf hv) h
  eqBool := fun hu hv h => (leafKind prog w).eqBool (xIs_leaf hu) (xIs_leaf hv) h
  «strs» := fun k x t v h => by cases k <;> cases h
def lfT : V → Option Leaf
  | .non => some .none
  | .int i => some (.num i)
  | _ => none
def lfV : V → Option Leaf
  | .non => some .none
  | .int i => some (.num i)
  | .bl b => some (.num (if b then 1 else 0))
  | _ => none
def lfVs : List V → Option (List Leaf)
  | [] => some []
  | v :: vs => match lfV v, lfVs vs with
    | some l, some ls => some (l :: ls)
    | _, _ => none
theorem lfT_is {x : V} {u : Value} {l : Leaf} (r : RelV x u) (h : lfT x = some l) : xIs l u = true := by
  cases x <;> cases h
  · cases r; rfl
  · obtain ⟨t, rfl⟩ := r; exact decide_eq_true rfl
theorem is_rel {x : V} {u : Value} {l : Leaf} (h : lfT x = some l) (hi : xIs l u = true) : RelV x u := by
  cases x <;> cases h
  · cases u <;> cases hi; rfl
  · rename_i i
    cases u with
    | int j t =>
      have e : j = i := of_decide_eq_true hi
      subst e
      exact ⟨t, rfl⟩
    | _ => cases hi
theorem lfV_is {x : V} {u : Value} {l : Leaf} (r : RelV x u) (h : lfV x = some l) : Leaf.isOf l u = true := by
  cases x <;> cases h
  · cases r; rfl
  · cases r; exact decide_eq_true rfl
  · obtain ⟨t, rfl⟩ := r; exact decide_eq_true rfl
theorem lfT_hash {x : V} {l : Leaf} {w : World} (h : lfT x = some l) : l.key.hash w = hL l := by
  cases x <;> cases h <;> rfl
theorem lfV_hash {x : V} {l : Leaf} {w : World} (h : lfV x = some l) : l.key.hash w = hL l := by
  cases x <;> cases h <;> rfl
section
variable {P : Program} {w : World}
theorem lfVs_are : ∀ {xs : List V} {us : List Value} {ls : List Leaf}, Vals xs us → lfVs xs = some ls → ItemsAre (leafKind P w) ls us
  | [], _, _, .nil, e => by cases e; exact .nil
  | x :: xs, _, ls, .cons h t, e => by
    unfold lfVs at e
    split at e
    · rename_i l ls' e1 e2
      cases e
      exact .cons (lfV_is h e1) (lfVs_are t e2)
    · cases e
theorem lfVs_hash : ∀ {xs : List V} {ls : List Leaf}, lfVs xs = some ls → ls.map (fun l => l.key.hash w) = ls.map hL
  | [], _, e => by cases e; rfl
  | x :: xs, ls, e => by
    unfold lfVs at e
    split at e
    · rename_i l ls' e1 e2
      cases e
      rw [List.map_cons, List.map_cons, lfV_hash e1, lfVs_hash e2]
    · cases e
end
/-- x is the key k -/
def KeyV (K : PySem.W.Frag) (H : Hp) (x : V) (k : KK) : Prop := (∃ l, k = .lf l ∧ lfT x = some l) ∨ ∃ b xs ls, k = .tp ls ∧ x = .ref b ∧ SqT K H b xs ∧ lfVs xs = some ls
def KeysV (K : PySem.W.Frag) (H : Hp) (kvs : List (KK × V × V)) : Prop := ∀ y ∈ kvs, KeyV K H y.2.1 y.1
theorem KeyV.mono {K : PySem.W.Frag} {H H' : Hp} {x : V} {k : KK} (s : ∀ b xs, SqT K H b xs → SqT K H' b xs) (h : KeyV K H x k) : KeyV K H' x k := by
  rcases h with h | ⟨b, xs, ls, h1, h2, h3, h4⟩
  · exact .inl h
  · exact .inr ⟨b, xs, ls, h1, h2, s _ _ h3, h4⟩
def getK (kvs : List (KK × V × V)) (k : KK) : Option V := (kvs.find? fun z => decide (z.1 = k)).map (·.2.2)
def put3 (kvs : List (KK × V × V)) (k : KK) (y v : V) : List (KK × V × V) := if (getK kvs k).isSome = true then kvs.map (fun z => if z.1 = k then (z.1, z.2.1, v) else z) else kvs ++ [(k, y, v)]
theorem getK_cons_eq {p : KK × V × V} {r : List (KK × V × V)} {k : KK} (e : p.1 = k) : getK (p :: r) k = some p.2.2 := by simp [getK, List.find?_cons, e]
theorem getK_cons_ne {p : KK × V × V} {r : List (KK × V × V)} {k : KK} (e : ¬ p.1 = k) : getK (p :: r) k = getK r k := by simp [getK, List.find?_cons, e]
theorem put3_len (kvs : List (KK × V × V)) (k : KK) (y v : V) : (put3 kvs k y v).length ≤ kvs.length + 1 := by
  unfold put3
  split
  · rw [List.length_map]; omega
  · rw [List.length_append, List.length_singleton]; omega
theorem map_keys (kvs : List (KK × V × V)) (k : KK) (v : V) : (kvs.map (fun z => if z.1 = k then (z.1, z.2.1, v) else z)).map (·.1) = kvs.map (·.1) := by
  rw [List.map_map]
  refine List.map_congr_left fun z _ => ?_
  show (if z.1 = k then (z.1, z.2.1, v) else z).1 = z.1
  split <;> rfl
theorem getK_none {kvs : List (KK × V × V)} {k : KK} : getK kvs k = none ↔ k ∉ kvs.map (·.1) := by
  induction kvs with
  | nil => exact ⟨fun _ h => (nomatch h), fun _ => rfl⟩
  | cons p r ih =>
    by_cases e : p.1 = k
    · rw [getK_cons_eq e]
      have hm : k ∈ (p :: r).map (·.1) := by rw [List.map_cons, e]; exact List.mem_cons_self
      exact ⟨fun h => (nomatch h), fun h => absurd hm h⟩
    · rw [getK_cons_ne e, ih, List.map_cons, List.mem_cons]
      exact ⟨fun h z => z.elim (fun z => e z.symm) h, fun h z => h (.inr z)⟩
/-- the sort of a key fits the sort of the table -/
def SortOk (k : KK) (kvs : List (KK × V × V)) : Prop := ((∃ l, k = .lf l) ∧ ∀ y ∈ kvs, ∃ l, y.1 = .lf l) ∨ ((∃ ls, k = .tp ls) ∧ ∀ y ∈ kvs, ∃ ls, y.1 = .tp ls)
theorem good_put {kvs : List (KK × V × V)} {k : KK} {y v : V} (g : KGood (kvs.map (·.1))) (s : SortOk k kvs) : KGood ((put3 kvs k y v).map (·.1)) := by
  unfold put3
  split
  · rw [map_keys]; exact g
  · rename_i hn
    have hn : k ∉ kvs.map (·.1) := getK_none.mp (by
      cases e : getK kvs k with
      | none => rfl
      | some x => rw [e] at hn; exact absurd rfl hn)
    rw [List.map_append, List.map_singleton]
    refine ⟨List.nodup_append.mpr ⟨g.1, List.pairwise_singleton _ _, fun a ha b hb e => ?_⟩, ?_⟩
    · rw [List.mem_singleton.mp hb] at e
      exact hn (by rw [show k = a from e.symm]; exact ha)
    · rcases s with ⟨s1, s2⟩ | ⟨s1, s2⟩
      · refine .inl fun j hj => ?_
        rcases List.mem_append.mp hj with hj | hj
        · obtain ⟨y, hy, rfl⟩ := List.mem_map.mp hj
          exact s2 y hy
        · rw [List.mem_singleton.mp hj]; exact s1
      · refine .inr fun j hj => ?_
        rcases List.mem_append.mp hj with hj | hj
        · obtain ⟨y, hy, rfl⟩ := List.mem_map.mp hj
          exact s2 y hy
        · rw [List.mem_singleton.mp hj]; exact s1
section
variable {P : Program} {w : World} {K : PySem.W.Frag} {H : Hp} {h : Heap}
def RL (y : KK × V × V) (v : Leaf × Value) : Prop := y.1 = .lf v.1 ∧ lfT y.2.1 = some v.1 ∧ RelV y.2.2 v.2
def RT (y : KK × V × V) (x : List Leaf × Addr × Value) : Prop := y.1 = .tp x.1 ∧ y.2.1 = .ref x.2.1 ∧ RelV y.2.2 x.2.2
theorem to_lf : ∀ {kvs : List (KK × V × V)} {es : List DictEntry}, Paired ER kvs es → (∀ y ∈ kvs, ∃ l, y.1 = .lf l ∧ lfT y.2.1 = some l) → ∃ vs, Paired RL kvs vs ∧ Pairs (xKind P w) es vs ∧ ∀ e ∈ es, ∃ k, xIs k e.key = true ∧ e.hash = (xKind P w).hash k
  | _, _, .nil, _ => ⟨[], .nil, .nil, fun e he => nomatch he⟩
  | _, _, .cons (a := y) (b := e) r t, h => by
    obtain ⟨l, h1, h2⟩ := h y List.mem_cons_self
    obtain ⟨vs, p1, p2, p3⟩ := to_lf t fun z hz => h z (List.mem_cons_of_mem _ hz)
    obtain ⟨r1, r2, r3⟩ := r
    have hi := lfT_is r2 h2
    refine ⟨(l, e.val) :: vs, .cons ⟨h1, h2, r3⟩ p1, .cons hi rfl p2, fun e' he => ?_⟩
    rcases List.mem_cons.mp he with rfl | he
    · refine ⟨l, hi, ?_⟩
      rw [r1, h1]
      exact (lfT_hash h2).symm
    · exact p3 e' he
theorem of_lf : ∀ {kvs : List (KK × V × V)} {vs : List (Leaf × Value)} {es : List DictEntry}, Paired RL kvs vs → Pairs (xKind P w) es vs → (∀ e ∈ es, ∃ k, xIs k e.key = true ∧ e.hash = (xKind P w).hash k) → Paired ER kvs es
  | _, _, _, .nil, .nil, _ => .nil
  | _, _, _, .cons r t, .cons (e := e) h1 h2 q, hk => by
    refine .cons ?_ (of_lf t q fun z hz => hk z (List.mem_cons_of_mem _ hz))
    obtain ⟨r1, r2, r3⟩ := r
    obtain ⟨k, k1, k2⟩ := hk e List.mem_cons_self
    have ek := (xKind P w).inj e.key _ _ k1 h1
    refine ⟨?_, is_rel r2 h1, by rw [h2]; exact r3⟩
    rw [k2, ek, r1]
    exact lfT_hash r2
theorem to_tp : ∀ {kvs : List (KK × V × V)} {es : List DictEntry}, Paired ER kvs es → (∀ y ∈ kvs, ∃ ls b, y.1 = .tp ls ∧ y.2.1 = .ref b ∧ (tupleKind (leafKind P w)).is h ls b ∧ (tupleKind (leafKind P w)).hash ls = hK (.tp ls)) →
    ∃ xs, Paired RT kvs xs ∧ es = xs.map (entryOfKey (tupleKind (leafKind P w))) ∧ ∀ x ∈ xs, (tupleKind (leafKind P w)).is h x.1 x.2.1
  | _, _, .nil, _ => ⟨[], .nil, rfl, fun e he => nomatch he⟩
  | _, _, .cons (a := y) (b := e) r t, hh => by
    obtain ⟨ls, b, h1, h2, h3, h4⟩ := hh y List.mem_cons_self
    obtain ⟨xs, p1, p2, p3⟩ := to_tp t fun z hz => hh z (List.mem_cons_of_mem _ hz)
    obtain ⟨r1, r2, r3⟩ := r
    rw [h2] at r2
    refine ⟨(ls, b, e.val) :: xs, .cons ⟨h1, h2, r3⟩ p1, ?_, fun x hx => ?_⟩
    · rw [List.map_cons, ← p2]
      congr 1
      obtain ⟨eh, ek, ev⟩ := e
      show DictEntry.mk eh ek ev = ⟨_, .ref b, ev⟩
      have a1 : eh = hK y.1 := r1
      have a2 : ek = Value.ref b := r2
      rw [a1, a2, h1, h4]
    · rcases List.mem_cons.mp hx with rfl | hx
      · exact h3
      · exact p3 x hx
theorem of_tp : ∀ {kvs : List (KK × V × V)} {xs : List (List Leaf × Addr × Value)}, Paired RT kvs xs → (∀ y ∈ kvs, ∀ ls, y.1 = .tp ls → (tupleKind (leafKind P w)).hash ls = hK (.tp ls)) → Paired ER kvs (xs.map (entryOfKey (tupleKind (leafKind P w))))
  | _, _, .nil, _ => .nil
  | _, _, .cons (a := y) (b := x) r t, hh => by
    rw [List.map_cons]
    obtain ⟨r1, r2, r3⟩ := r
    refine .cons ⟨?_, by rw [r2]; rfl, r3⟩ (of_tp t fun z hz => hh z (List.mem_cons_of_mem _ hz))
    show (tupleKind (leafKind P w)).hash x.1 = hK y.1
    rw [r1]
    exact hh y List.mem_cons_self x.1 r1
theorem get_lf : ∀ {kvs : List (KK × V × V)} {vs : List (Leaf × Value)} (l : Leaf), Paired RL kvs vs → RelO (getK kvs (.lf l)) (valueAt vs l)
  | _, _, l, .nil => True.intro
  | _, _, l, .cons (a := y) (b := v) r t => by
    by_cases e : v.1 = l
    · rw [getK_cons_eq (r.1.trans (by rw [e]))]
      have b : ∀ qs, valueAt (v :: qs) l = some v.2 := fun qs => by simp [valueAt, List.find?_cons, e]
      rw [b]
      exact r.2.2
    · rw [getK_cons_ne (fun z => e (by rw [r.1] at z; injection z))]
      have b : ∀ qs, valueAt (v :: qs) l = valueAt qs l := fun qs => by simp [valueAt, List.find?_cons, e]
      rw [b]
      exact get_lf l t
theorem get_tp : ∀ {kvs : List (KK × V × V)} {xs : List (List Leaf × Addr × Value)} (ls : List Leaf), Paired RT kvs xs → RelO (getK kvs (.tp ls)) ((atKey xs ls).map (·.2))
  | _, _, l, .nil => True.intro
  | _, _, l, .cons (a := y) (b := v) r t => by
    by_cases e : v.1 = l
    · rw [getK_cons_eq (r.1.trans (by rw [e]))]
      have b : ∀ qs, atKey (v :: qs) l = some v.2 := fun qs => by simp [atKey, List.find?_cons, e]
      rw [b]
      exact r.2.2
    · rw [getK_cons_ne (fun z => e (by rw [r.1] at z; injection z))]
      have b : ∀ qs, atKey (v :: qs) l = atKey qs l := fun qs => by simp [atKey, List.find?_cons, e]
      rw [b]
      exact get_tp l t
theorem any_val : ∀ (vs : List (Leaf × Value)) (l : Leaf), (vs.any fun kv => decide (kv.1 = l)) = (valueAt vs l).isSome
  | [], _ => rfl
  | p :: r, l => by
    rw [List.any_cons]
    by_cases e : p.1 = l
    · simp [valueAt, List.find?_cons, e]
    · rw [decide_eq_false e, Bool.false_or, any_val r l]
      simp [valueAt, List.find?_cons, e]
theorem put_lf {kvs : List (KK × V × V)} {vs : List (Leaf × Value)} {l : Leaf} {y v : V} {u : Value} (p : Paired RL kvs vs) (hy : lfT y = some l) (hv : RelV v u) : Paired RL (put3 kvs (.lf l) y v) (stored vs l u) := by
  unfold put3 stored
  rw [any_val, (get_lf l p).isSome_eq]
  split
  · rename_i hs
    clear hs
    induction p with
    | nil => exact .nil
    | @cons a b as bs r t ih =>
      rw [List.map_cons, List.map_cons]
      refine .cons ?_ ih
      by_cases e : b.1 = l
      · rw [if_pos (r.1.trans (by rw [e])), if_pos e]
        exact ⟨r.1, r.2.1, hv⟩
      · rw [if_neg (fun z => e (by rw [r.1] at z; injection z)), if_neg e]
        exact r
  · exact Paired.snoc p ⟨rfl, hy, hv⟩
theorem put_tp {kvs : List (KK × V × V)} {xs : List (List Leaf × Addr × Value)} {ls : List Leaf} {b : Addr} {v : V} {u : Value} (p : Paired RT kvs xs) (hv : RelV v u) : Paired RT (put3 kvs (.tp ls) (.ref b) v) (storedH xs ls b u) := by
  unfold put3 storedH
  have q := (get_tp ls p).isSome_eq
  rw [Option.isSome_map] at q
  rw [q]
  split
  · rename_i hs
    clear hs q
    induction p with
    | nil => exact .nil
    | @cons a c as bs r t ih =>
      rw [List.map_cons, List.map_cons]
      refine .cons ?_ ih
      unfold putAt
      by_cases e : c.1 = ls
      · rw [if_pos (r.1.trans (by rw [e])), if_pos e]
        exact ⟨r.1, r.2.1, hv⟩
      · rw [if_neg (fun z => e (by rw [r.1] at z; injection z)), if_neg e]
        exact r
  · exact Paired.snoc p ⟨rfl, rfl, hv⟩
theorem rl_keys : ∀ {kvs : List (KK × V × V)} {vs : List (Leaf × Value)}, Paired RL kvs vs → kvs.map (·.1) = (vs.map (·.1)).map KK.lf
  | _, _, .nil => rfl
  | _, _, .cons r t => by rw [List.map_cons, List.map_cons, List.map_cons, rl_keys t, r.1]
theorem rt_keys : ∀ {kvs : List (KK × V × V)} {vs : List (List Leaf × Addr × Value)}, Paired RT kvs vs → kvs.map (·.1) = (vs.map (·.1)).map KK.tp
  | _, _, .nil => rfl
  | _, _, .cons r t => by rw [List.map_cons, List.map_cons, List.map_cons, rt_keys t, r.1]
theorem nodup_of {α β : Type} {f : α → β} {l : List α} (h : (l.map f).Nodup) : l.Nodup := by
  unfold List.Nodup at *
  rw [List.pairwise_map] at h
  exact h.imp fun hn e => hn (by rw [e])
end
end DL
namespace DL
open PySem PySem.Spec PyProof.Rows L2
/-- what the dict at a holds at the key y -/
def NGet (K : PySem.W.Frag) (H : Hp) (a : Addr) (y : V) (r : Option V) : Prop := ∃ kvs k, IsDc H a kvs ∧ KeysV K H kvs ∧ KeyV K H y k ∧ SortOk k kvs ∧ r = getK kvs k
/-- a[y] = v, and the table then -/
def NPut (K : PySem.W.Frag) (H : Hp) (a : Addr) (y v : V) (new : List (KK × V × V)) : Prop := ∃ kvs k, IsDc H a kvs ∧ KeysV K H kvs ∧ KeyV K H y k ∧ SortOk k kvs ∧ kvs.length < sizeLine ∧ new = put3 kvs k y v
section
variable {X : Cx} {pins : List (Addr × Obj)} {σ : L2.St} {H : Hp} {s : Shared} {a : Addr} {kvs : List (KK × V × V)} {y v : V} {k : KK} {u r : Value} {A : Around} {E : Value → Shared → Prop} {o : Option V}
abbrev tKind (P : Program) (w : World) := tupleKind (leafKind P w)
theorem dc_at {P : Program} {w : World} {h : Heap} (ok : HOk P w H h) (e : IsDc H a kvs) : (∃ ob es ep, h.get? a = some ob ∧ ob.ExactDict ∧ ob.data = .dict es ep ∧ Paired ER kvs es.toList) ∧ (a == sysModules) = false ∧ kvs.length ≤ sizeLine ∧ KGood (kvs.map (·.1)) :=
  let ⟨dt, e⟩ := e
  let ⟨⟨ob, c1, c2, c3, c4⟩, c5⟩ := (show ObjOk P w H h a (dcO a kvs dt) from ok a _ e).1
  ⟨⟨ob, dt.1, dt.2, c1, c2, c3, c4⟩, c5⟩
theorem dc_atT {P : Program} {w : World} {h : Heap} {dt : Array DictEntry × Nat} (ok : HOk P w H h) (e : H a = some (dcO a kvs dt)) : (∃ ob, h.get? a = some ob ∧ ob.ExactDict ∧ ob.data = .dict dt.1 dt.2 ∧ Paired ER kvs dt.1.toList) ∧ (a == sysModules) = false ∧ kvs.length ≤ sizeLine ∧ KGood (kvs.map (·.1)) := (show ObjOk P w H h a (dcO a kvs dt) from ok a _ e).1
theorem dc_obj {P : Program} {w : World} {h : Heap} {dt : Array DictEntry × Nat} (c : (∃ ob, h.get? a = some ob ∧ ob.ExactDict ∧ ob.data = .dict dt.1 dt.2 ∧ Paired ER kvs dt.1.toList) ∧ (a == sysModules) = false ∧ kvs.length ≤ sizeLine ∧ KGood (kvs.map (·.1))) : ObjOk P w H h a (dcO a kvs dt) := by
  refine ⟨c, ?_, fun h1 h2 c1 st => ?_⟩
  · obtain ⟨⟨ob, e, _⟩, _⟩ := c
    exact ⟨ob, e⟩
  · obtain ⟨⟨ob, e, q⟩, c2⟩ := c1
    exact ⟨⟨ob, st _ e, q⟩, c2⟩
theorem tk_is {b : Addr} {xs : List V} {ls : List Leaf} (I : Inv X pins σ H s) (hk : SqT X.K H b xs) (hl : lfVs xs = some ls) : (tKind X.prog X.w).is s.heap ls b := by
  obtain ⟨its, r, ⟨ob, h1, h2, n, h3⟩, _⟩ := I.tuple hk
  exact ⟨ob, its.toArray, n, h1, h2, h3, by simpa using lfVs_are r hl⟩
theorem tk_hash {xs : List V} {ls : List Leaf} {P : Program} {w : World} (hl : lfVs xs = some ls) : (tKind P w).hash ls = hK (.tp ls) := by
  show reduceHash (Builtin.Tuple.tupleHashOf (ls.map fun l => l.key.hash w)) = reduceHash (Builtin.Tuple.tupleHashOf (ls.map hL))
  rw [lfVs_hash hl]
theorem KeyV.lf {K : PySem.W.Frag} {l : Leaf} (h : KeyV K H y (.lf l)) : lfT y = some l := by
  rcases h with ⟨l', e, h⟩ | ⟨b, xs, ls, e, _⟩
  · cases e; exact h
  · cases e
theorem KeyV.tp {K : PySem.W.Frag} {ls : List Leaf} (h : KeyV K H y (.tp ls)) : ∃ b xs, y = .ref b ∧ SqT K H b xs ∧ lfVs xs = some ls := by
  rcases h with ⟨l', e, h⟩ | ⟨b, xs, ls', e, h1, h2, h3⟩
  · cases e
  · cases e; exact ⟨b, xs, h1, h2, h3⟩
theorem dict_lf (I : Inv X pins σ H s) (e : IsDc H a kvs) (kv : KeysV X.K H kvs) (hs : ∀ z ∈ kvs, ∃ l, z.1 = .lf l) : ∃ vs, Paired RL kvs vs ∧ s.heap.DictOf (xKind X.prog X.w) a vs := by
  obtain ⟨⟨ob, es, ep, h1, h2, h3, h4⟩, _, _, hg⟩ := dc_at I.hok e
  obtain ⟨vs, p1, p2, p3⟩ := to_lf (P := X.prog) (w := X.w) h4 fun z hz => by
    obtain ⟨l, el⟩ := hs z hz
    have := kv z hz
    rw [el] at this
    exact ⟨l, el, this.lf⟩
  refine ⟨vs, p1, ob, es, ep, h1, h2, h3, fun x hx => p3 x (by simpa using hx), p2, ?_⟩
  have n := hg.1
  rw [rl_keys p1] at n
  exact nodup_of n
theorem dict_tp (I : Inv X pins σ H s) (e : IsDc H a kvs) (kv : KeysV X.K H kvs) (hs : ∀ z ∈ kvs, ∃ ls, z.1 = .tp ls) : ∃ xs, Paired RT kvs xs ∧ s.heap.DictOfH (tKind X.prog X.w) a xs := by
  obtain ⟨⟨ob, es, ep, h1, h2, h3, h4⟩, _, _, hg⟩ := dc_at I.hok e
  obtain ⟨xs, p1, p2, p3⟩ := to_tp (P := X.prog) (w := X.w) (h := s.heap) h4 fun z hz => by
    obtain ⟨ls, el⟩ := hs z hz
    have := kv z hz
    rw [el] at this
    obtain ⟨b, ys, k1, k2, k3⟩ := this.tp
    exact ⟨ls, b, el, k1, tk_is I k2 k3, tk_hash k3⟩
  refine ⟨xs, p1, ob, es, ep, h1, h2, h3, p2, p3, ?_⟩
  have n := hg.1
  rw [rt_keys p1] at n
  exact nodup_of n
theorem dc_type (I : Inv X pins σ H s) (e : IsDc H a kvs) : s.TypeIs (.ref a) "dict" := by
  obtain ⟨⟨ob, es, ep, h1, h2, _⟩, _⟩ := dc_at I.hok e
  exact ⟨ob, h1, h2.1⟩
theorem n_get {Q : Value → Shared → Prop} (hu : A.units + 1 < cLine) (I : Inv X pins σ H s) (g : NGet X.K H a y (some v)) (ry : RelV y u) (h : ∀ w' s', Inv X pins σ H s' → RelV v w' → Q w' s') : wpAny (model X.prog X.w) A (getItem (.ref a) u) Q E s := by
  obtain ⟨kvs, k, e, kv, ky, so, l⟩ := g
  rcases so with ⟨⟨lf, rfl⟩, so⟩ | ⟨⟨ls, rfl⟩, so⟩
  · obtain ⟨vs, p, dd⟩ := dict_lf I e kv so
    obtain ⟨w', hw, rw'⟩ := RelO.some_of (v := v) (o := valueAt vs lf) (by rw [l]; exact get_lf lf p)
    exact wpAny_getItem_of (lfT_is ry ky.lf) dd.mapOf hw (h w' _ (I.tok _) rw')
  · obtain ⟨xs, p, dd⟩ := dict_tp I e kv so
    obtain ⟨b, ys, rfl, k2, k3⟩ := ky.tp
    cases (show u = Value.ref b from ry)
    obtain ⟨w', hw, rw'⟩ := RelO.some_of (v := v) (o := (atKey xs ls).map (·.2)) (by rw [l]; exact get_tp ls p)
    obtain ⟨q, hq, hq2⟩ := Option.map_eq_some_iff.mp hw
    refine wpAny_getItem_heap (tupleKind_room_in1 hu) (tk_is I k2 k3) dd hq ?_
    rw [hq2]
    exact h w' _ (I.tok _) rw'
theorem n_notIn {Q : Value → Shared → Prop} (hu : A.units + 1 < cLine) (I : Inv X pins σ H s) (g : NGet X.K H a y o) (ry : RelV y u) (h : ∀ s', Inv X pins σ H s' → Q (.bool (!o.isSome)) s') : wpAny (model X.prog X.w) A (compareOp .NotIn u (.ref a)) Q E s := by
  obtain ⟨kvs, k, e, kv, ky, so, l⟩ := g
  have hd := (dc_at I.hok e).2.1
  rcases so with ⟨⟨lf, rfl⟩, so⟩ | ⟨⟨ls, rfl⟩, so⟩
  · obtain ⟨vs, p, dd⟩ := dict_lf I e kv so
    refine wpAny_notIn_of (lfT_is ry ky.lf) hd dd.mapOf ?_
    rw [← (get_lf lf p).isSome_eq, ← l]
    exact h _ (I.tok _)
  · obtain ⟨xs, p, dd⟩ := dict_tp I e kv so
    obtain ⟨b, ys, rfl, k2, k3⟩ := ky.tp
    cases (show u = Value.ref b from ry)
    refine wpAny_notIn_heap (tupleKind_room_in1 hu) (tk_is I k2 k3) hd dd ?_
    have q := (get_tp ls p).isSome_eq
    rw [Option.isSome_map] at q
    rw [← q, ← l]
    exact h _ (I.tok _)
theorem put3_hash {K : PySem.W.Frag} (kv : KeysV K H kvs) (ky : KeyV K H y k) {P : Program} {w : World} : ∀ z ∈ put3 kvs k y v, ∀ ls, z.1 = .tp ls → (tKind P w).hash ls = hK (.tp ls) := by
  intro z hz ls el
  have go : ∀ {x : V} {j : KK}, KeyV K H x j → j = .tp ls → (tKind P w).hash ls = hK (.tp ls) := fun hx ej => by
    rw [ej] at hx
    obtain ⟨b, xs, _, _, h3⟩ := hx.tp
    exact tk_hash h3
  unfold put3 at hz
  split at hz
  · obtain ⟨z0, h0, rfl⟩ := List.mem_map.mp hz
    refine go (kv z0 h0) ?_
    rw [← el]
    split <;> rfl
  · rcases List.mem_append.mp hz with hz | hz
    · exact go (kv z hz) el
    · rw [List.mem_singleton.mp hz] at el
      exact go ky el
theorem n_set {Q : Unit → Shared → Prop} {new : List (KK × V × V)} (hu : A.units + 1 < cLine) (I : Inv X pins σ H s) (g : NPut X.K H a y v new) (ry : RelV y u) (rv : RelV v r) (h : ∀ s' dt, Inv X pins σ (upd H a (dcO a new dt)) s' → Q () s') : wpAny (model X.prog X.w) A (setItem (.ref a) u r) Q E s := by
  obtain ⟨kvs, k, e, kv, ky, so, hl, rfl⟩ := g
  obtain ⟨_, hd, hz, hg⟩ := dc_at I.hok e
  have hg2 := good_put (y := y) (v := v) hg so
  have hl2 : (put3 kvs k y v).length ≤ sizeLine := by have := put3_len kvs k y v; omega
  rcases so with ⟨⟨lf, rfl⟩, so⟩ | ⟨⟨ls, rfl⟩, so⟩
  · obtain ⟨vs, p, dd⟩ := dict_lf I e kv so
    refine wpAny_setItem_pairs (hsz := by rw [← Paired.length p]; exact hz) (lfT_is ry ky.lf) dd fun h' dd' hs => ?_
    obtain ⟨ob, es, ep, q1, q2, q3, q4, q5, _⟩ := dd'
    obtain ⟨dt0, e0⟩ := e
    exact h _ (es, ep) (d_write I (by rw [e0]; exact True.intro) hs ⟨ob, q1⟩ (dc_obj (dt := (es, ep)) ⟨⟨ob, q1, q2, q3, of_lf (put_lf p ky.lf rv) q5 fun x hx => q4 x (by simpa using hx)⟩, hd, hl2, hg2⟩))
  · obtain ⟨xs, p, dd⟩ := dict_tp I e kv so
    obtain ⟨b, ys, rfl, k2, k3⟩ := id ky.tp
    cases (show u = Value.ref b from ry)
    refine wpAny_setItem_heap (hsz := by rw [← Paired.length p]; exact hz) (tupleKind_room_in1 hu) (tk_is I k2 k3) dd fun h' dd' hs => ?_
    obtain ⟨ob, es, ep, q1, q2, q3, q4, _⟩ := dd'
    obtain ⟨dt0, e0⟩ := e
    refine h _ (es, ep) (d_write I (by rw [e0]; exact True.intro) hs ⟨ob, q1⟩ (dc_obj (dt := (es, ep)) ⟨⟨ob, q1, q2, q3, ?_⟩, hd, hl2, hg2⟩))
    dsimp only
    rw [q4]
    exact of_tp (put_tp p rv) (put3_hash kv ky)
theorem n_empty {P : Program} {w : World} (h : Heap) (hb : sysModules < h.objs.size) : ObjOk P w H (h.push { cls := .type "dict", data := .dict #[] }) h.objs.size (dcO h.objs.size [] (#[], 0)) :=
  dc_obj ⟨⟨_, Heap.get?_push_size _ rfl, ⟨rfl, rfl, rfl⟩, rfl, .nil⟩, beq_eq_false_iff_ne.mpr (Ne.symm (Nat.ne_of_lt hb)), Nat.zero_le _, List.nodup_nil, .inl fun _ hz => nomatch hz⟩
def rNGet (K : PySem.W.Frag) : R2 := fun x y H Q => ∃ a v, x = .ref a ∧ NGet K H a y (some v) ∧ Q v H
theorem ix_dict {n : Nat} (hr : Room n X.A) : IxR X (rNGet X.K) := by
  intro value slice pins s σ H x y v u Q I rx ry h hs
  obtain ⟨a, z, rfl, g, q⟩ := h
  cases rx
  have hu := hr.un
  obtain ⟨kvs, k, e, g2⟩ := id g
  exact tail_any (dc_type I e) PySem.F.slot_dict_getitem.lookup (n_get (by omega) I g ry fun w' s' I' rw' => ⟨z, H, I', rw', q⟩) hs
def rNNotIn (K : PySem.W.Frag) : R2 := fun y x H Q => ∃ a o, x = .ref a ∧ NGet K H a y o ∧ Q (.bl (!o.isSome)) H
theorem op_nNotIn {n : Nat} (hr : Room n X.A) : OpR X (compareOp .NotIn) (rNNotIn X.K) := by
  intro pins s σ H y x u v Q I ry rx h
  obtain ⟨a, o, rfl, g, q⟩ := h
  cases rx
  have hu := hr.un
  exact n_notIn (by omega) I g ry fun s' I' => ⟨.bl (!o.isSome), H, I', rfl, q⟩
def sNPut (K : PySem.W.Frag) (td ty tv : TE) : TS := fun D σ H => tv σ H fun v H1 => td σ H1 fun x H2 => ty σ H2 fun y H3 => ∃ a new, x = .ref a ∧ NPut K H3 a y v new ∧ ∀ dt, D.nx σ (upd H3 a (dcO a new dt))
theorem ps_nput {n : Nat} {ob i value : Expr} {pos pos' : Pos} {td ty tv : TE} (hr : Room n X.A) (ho : PE X ob td) (hi : PE X i ty) (hv : PE X value tv) (hs : swapsWith value (some (.Subscript ob i pos')) pos.line X.env = pure false := by rfl) : PS X (.Assign [.Subscript ob i pos'] value pos) (sNPut X.K td ty tv) := by
  have hu := hr.un
  refine ⟨fun pins s σ H D I h => ?_⟩
  refine wpAny_Assign_Subscript ?_ hs
  refine thn (hv.run pins s σ H _ I h) fun r s1 ⟨v, H1, I1, rv, q1⟩ => ?_
  refine thn (ho.run pins s1 σ H1 _ I1 q1) fun u s2 ⟨x, H2, I2, rx, q2⟩ => ?_
  refine thn (hi.run pins s2 σ H2 _ I2 q2) fun iv s3 ⟨y, H3, I3, ry, a, new, ex, g, q3⟩ => ?_
  subst ex
  obtain rfl : u = Value.ref a := rx
  exact n_set (by omega) I3 g ry rv fun s4 dt I4 => ⟨σ, _, I4, q3 dt⟩
def tNNew : TE := fun _ H Q => ∀ p, H p = none → Q (.ref p) (upd H p (dcO p [] (#[], 0)))
theorem pe_nnew {pos : Pos} : PE X (.Dict [] [] pos) tNNew := ⟨fun pins s σ H Q I h => by
  have I1 := I.laid (a := s.heap.objs.size) (o := dcO s.heap.objs.size [] (#[], 0)) (t' := s.toks) (h' := s.heap.push { cls := .type "dict", data := .dict #[] }) (fun _ _ q => Heap.get?_push_of_some _ q) (Nat.le_refl _) (n_empty s.heap I.big)
  exact wpAny_Dict_empty ⟨.ref s.heap.objs.size, _, I1, rfl, h _ (I.hok.fresh (Nat.le_refl _))⟩⟩
end
end DL
namespace DL
open PySem L2
def isLf : D → Bool
  | .none => true
  | .int _ => true
  | _ => false
def isTp : D → Bool
  | .tuple ds => (lfDs ds).isSome
  | _ => false
/-- c may be looked up: it is a key, and all keys are of its sort -/
def sortB (c : D) (kds : List (D × D)) : Bool := (isLf c && kds.all fun p => isLf p.1) || (isTp c && kds.all fun p => isTp p.1)
def dFind (kds : List (D × D)) (c : D) : Option D := (kds.find? fun p => decide (kkD p.1 = kkD c)).map (·.2)
def dPut (kds : List (D × D)) (c d : D) : List (D × D) := if (dFind kds c).isSome = true then kds.map (fun p => if kkD p.1 = kkD c then (p.1, d) else p) else kds ++ [(c, d)]
def dGetD : D → D → Option D
  | .dict ((.dict [], .none) :: kds), c => if sortB c kds = true then dFind kds c else none
  | _, _ => none
def dNotInD : D → D → Option D
  | c, .dict ((.dict [], .none) :: kds) => if sortB c kds = true then some (.bool (!(dFind kds c).isSome)) else none
  | _, _ => none
section
variable {K : PySem.W.Frag} {Wx : WX} {ta tb te : TE} {b0 : Option Addr} {B Z0 Z H : Hp} {σ : L2.St} {ρ : Rho} {p : Addr}
theorem rp_lf {v : V} {d : D} (r : Rp K Z v d) (h : isLf d = true) : ∃ l, kkD d = some (.lf l) ∧ lfT v = some l := by
  cases r with
  | non => exact ⟨_, rfl, rfl⟩
  | int i => exact ⟨_, rfl, rfl⟩
  | _ => cases h
theorem rpA_lf : ∀ {vs : List V} {ds : List D} {ls : List Leaf}, RpA K Z vs ds → lfDs ds = some ls → lfVs vs = some ls
  | _, _, _, .nil, e => by cases e; rfl
  | _, _, _, .cons (v := v) h r, e => by
    unfold lfDs at e
    split at e
    · rename_i l ls' e1 e2
      cases e
      have hv : lfV v = some l := by
        cases h <;> cases e1 <;> rfl
      unfold lfVs
      rw [hv, rpA_lf r e2]
    · cases e
theorem rp_tp {v : V} {d : D} (r : Rp K Z v d) (h : isTp d = true) : ∃ ls b xs, kkD d = some (.tp ls) ∧ v = .ref b ∧ SqT K Z b xs ∧ lfVs xs = some ls := by
  cases r with
  | tup hs ra =>
    rename_i a xs ds
    obtain ⟨ls, e⟩ := Option.isSome_iff_exists.mp (show (lfDs ds).isSome = true from h)
    refine ⟨ls, a, xs, ?_, rfl, hs, rpA_lf ra e⟩
    show (lfDs ds).map KK.tp = _
    rw [e]; rfl
  | _ => cases h
theorem rp_key {v : V} {d : D} {k : KK} (r : Rp K Z v d) (e : kkD d = some k) : KeyV K Z v k := by
  cases r with
  | non => cases e; exact .inl ⟨_, rfl, rfl⟩
  | int i => cases e; exact .inl ⟨_, rfl, rfl⟩
  | tup hs ra =>
    rename_i a xs ds
    obtain ⟨ls, e1, rfl⟩ := Option.map_eq_some_iff.mp (show (lfDs ds).map KK.tp = some k from e)
    exact .inr ⟨a, xs, ls, rfl, rfl, hs, rpA_lf ra e1⟩
  | _ => cases e
theorem rpK_keys : ∀ {kvs : List (KK × V × V)} {kds : List (D × D)}, RpK K Z kvs kds → KeysV K Z kvs
  | _, _, .nil => fun y hy => nomatch hy
  | _, _, .cons h1 h2 h3 r => fun y hy => by
    rcases List.mem_cons.mp hy with rfl | hy
    · exact rp_key h2 h1
    · exact rpK_keys r y hy
theorem rpK_sort {c : D} {k : KK} : ∀ {kvs : List (KK × V × V)} {kds : List (D × D)}, RpK K Z kvs kds → (isLf c = true → (kds.all fun p => isLf p.1) = true → ∀ y ∈ kvs, ∃ l, y.1 = .lf l) ∧ (isTp c = true → (kds.all fun p => isTp p.1) = true → ∀ y ∈ kvs, ∃ ls, y.1 = .tp ls)
  | _, _, .nil => ⟨fun _ _ y hy => (nomatch hy), fun _ _ y hy => nomatch hy⟩
  | _, _, .cons h1 h2 h3 r => by
    obtain ⟨i1, i2⟩ := rpK_sort (c := c) (k := k) r
    refine ⟨fun hc ha y hy => ?_, fun hc ha y hy => ?_⟩
    · rw [List.all_cons, Bool.and_eq_true] at ha
      rcases List.mem_cons.mp hy with rfl | hy
      · obtain ⟨l, e, _⟩ := rp_lf h2 ha.1
        rw [h1] at e
        exact ⟨l, Option.some.inj e⟩
      · exact i1 hc ha.2 y hy
    · rw [List.all_cons, Bool.and_eq_true] at ha
      rcases List.mem_cons.mp hy with rfl | hy
      · obtain ⟨ls, _, _, e, _⟩ := rp_tp h2 ha.1
        rw [h1] at e
        exact ⟨ls, Option.some.inj e⟩
      · exact i2 hc ha.2 y hy
theorem sortB_ok {c : D} {x : V} {kvs : List (KK × V × V)} {kds : List (D × D)} (r : RpK K Z kvs kds) (rc : Rp K Z x c) (h : sortB c kds = true) : ∃ k, kkD c = some k ∧ KeyV K Z x k ∧ SortOk k kvs := by
  unfold sortB at h
  rw [Bool.or_eq_true, Bool.and_eq_true, Bool.and_eq_true] at h
  rcases h with ⟨h1, h2⟩ | ⟨h1, h2⟩
  · obtain ⟨l, e1, e2⟩ := rp_lf rc h1
    exact ⟨_, e1, .inl ⟨l, rfl, e2⟩, .inl ⟨⟨l, rfl⟩, (rpK_sort (k := .lf l) r).1 h1 h2⟩⟩
  · obtain ⟨ls, b, xs, e1, e2, e3, e4⟩ := rp_tp rc h1
    exact ⟨_, e1, .inr ⟨b, xs, ls, rfl, e2, e3, e4⟩, .inr ⟨⟨ls, rfl⟩, (rpK_sort (k := .tp ls) r).2 h1 h2⟩⟩
def OrR (K : PySem.W.Frag) (Z : Hp) : Option V → Option D → Prop
  | some v, some d => Rp K Z v d
  | none, none => True
  | _, _ => False
theorem OrR.isSome {v : Option V} {d : Option D} (h : OrR K Z v d) : v.isSome = d.isSome := by
  cases v <;> cases d <;> first | rfl | exact h.elim
theorem rpK_find {c : D} {k : KK} (ec : kkD c = some k) : ∀ {kvs : List (KK × V × V)} {kds : List (D × D)}, RpK K Z kvs kds → OrR K Z (getK kvs k) (dFind kds c)
  | _, _, .nil => True.intro
  | _, _, .cons (k := j) (x := x) (v := v) (c := a) (d := d) h1 h2 h3 r => by
    by_cases e : j = k
    · rw [getK_cons_eq e]
      have b : ∀ qs, dFind ((a, d) :: qs) c = some d := fun qs => by simp [dFind, List.find?_cons, h1, ec, e]
      rw [b]
      exact h3
    · rw [getK_cons_ne e]
      have b : ∀ qs, dFind ((a, d) :: qs) c = dFind qs c := fun qs => by simp [dFind, List.find?_cons, h1, ec, e]
      rw [b]
      exact rpK_find ec r
theorem rpK_put {c d : D} {k : KK} {x v : V} (ec : kkD c = some k) (rx : Rp K Z x c) (rv : Rp K Z v d) {kvs : List (KK × V × V)} {kds : List (D × D)} (r : RpK K Z kvs kds) : RpK K Z (put3 kvs k x v) (dPut kds c d) := by
  unfold put3 dPut
  rw [(rpK_find ec r).isSome]
  split
  · rename_i hs
    clear hs
    have go : ∀ {kvs : List (KK × V × V)} {kds : List (D × D)}, RpK K Z kvs kds → RpK K Z (kvs.map (fun z => if z.1 = k then (z.1, z.2.1, v) else z)) (kds.map (fun p => if kkD p.1 = kkD c then (p.1, d) else p)) := by
      intro kvs
      induction kvs with
      | nil => intro kds r; cases r; exact .nil
      | cons z zs ih =>
        intro kds r
        cases r with
        | cons h1 h2 h3 r =>
          rename_i j x' v' a d' kds'
          rw [List.map_cons, List.map_cons]
          by_cases e : j = k
          · rw [if_pos e, if_pos (by rw [h1, ec, e])]
            exact .cons h1 h2 rv (ih r)
          · rw [if_neg e, if_neg (by rw [h1, ec]; exact fun z => e (Option.some.inj z))]
            exact .cons h1 h2 h3 (ih r)
    exact go r
  · have go : ∀ {kvs : List (KK × V × V)} {kds : List (D × D)}, RpK K Z kvs kds → RpK K Z (kvs ++ [(k, x, v)]) (kds ++ [(c, d)]) := by
      intro kvs
      induction kvs with
      | nil => intro kds r; cases r; exact .cons ec rx rv .nil
      | cons z zs ih =>
        intro kds r
        cases r with
        | cons h1 h2 h3 r => exact .cons h1 h2 h3 (ih r)
    exact go r
theorem KeyV.same {x : V} {k : KK} (s : Same Z H) (h : KeyV K Z x k) : KeyV K H x k := h.mono fun _ _ q => same_t s q
/-- a table that is known, and a key -/
theorem ngot {v x : V} {c : D} {kds : List (D × D)} (s : Same Z H) (hd : Bd K Z H v (dcD kds)) (rx : Rp K Z x c) (h : sortB c kds = true) : ∃ a r, v = .ref a ∧ NGet K H a x r ∧ OrR K Z r (dFind kds c) := by
  cases hd with
  | dct e r =>
    obtain ⟨k, e1, e2, e3⟩ := sortB_ok r rx h
    exact ⟨_, _, rfl, ⟨_, k, ⟨_, e⟩, fun y hy => (rpK_keys r y hy).same s, e2.same s, e3, rfl⟩, rpK_find e1 r⟩
theorem bd_key {v : V} {d : D} (h : Bd K Z H v d) (hl : isLf d = true ∨ isTp d = true) : Rp K Z v d := by
  cases h with
  | non => exact .non
  | int i => exact .int i
  | tup h r => exact .tup h r
  | _ => rcases hl with h | h <;> cases h
theorem sort_key {c : D} {kds : List (D × D)} (h : sortB c kds = true) : isLf c = true ∨ isTp c = true := by
  unfold sortB at h
  rw [Bool.or_eq_true, Bool.and_eq_true, Bool.and_eq_true] at h
  exact h.imp (·.1) (·.1)
theorem sn_nget : Sn2 K (rNGet K) dGetD := fun b0 B Z0 Z H σ ρ x y a b c Q ok ha hb e q => by
  unfold dGetD at e
  split at e
  · split at e
    · rename_i hs
      obtain ⟨p, r, rfl, g, o⟩ := ngot ok.zh ha (bd_key hb (sort_key hs)) hs
      rw [e] at o
      cases r with
      | none => exact o.elim
      | some v => exact ⟨p, v, rfl, g, q v H Z ok (Same.refl Z) o⟩
    · cases e
  · cases e
theorem sn_nnotin : Sn2 K (rNNotIn K) dNotInD := fun b0 B Z0 Z H σ ρ x y a b c Q ok ha hb e q => by
  unfold dNotInD at e
  split at e
  · split at e
    · rename_i hs
      cases e
      obtain ⟨p, r, rfl, g, o⟩ := ngot ok.zh hb (bd_key ha (sort_key hs)) hs
      refine ⟨p, r, rfl, g, q _ H Z ok (Same.refl Z) ?_⟩
      rw [o.isSome]
      exact .bl _
    · cases e
  · cases e
def isOd : Option Sl → Bool
  | some (.od _) => true
  | _ => false
theorem Ok.isOd {i : Nat} (ok : Ok K b0 B Z0 Z H σ ρ) (h : isOd ρ[i]? = true) : ∃ p, σ[i]? = some (some (.ref p)) := by
  unfold DL.isOd at h
  split at h
  · rename_i ds e
    obtain ⟨p, vs, e1, _⟩ := ok.od i ds e
    exact ⟨p, e1⟩
  · cases h
theorem Ok.rewriteD {i : Nat} {ds es : List (D × D)} {vs' : List (KK × V × V)} (ok : Ok K b0 B Z0 Z H σ ρ) (h : ρ[i]? = some (.od ds)) (hp : σ[i]? = some (some (.ref p))) (r : RpK K Z vs' es) (hi : i ≠ 0) (dt : Array DictEntry × Nat) : Ok K b0 B Z0 Z (upd H p (dcO p vs' dt)) σ (ρ.set i (.od es)) := by
  obtain ⟨q, vs, e1, ok', zp, bp, ap, _, _⟩ := ok.releaseD h
  rw [hp] at e1
  cases e1
  have ok3 := (ok'.write (o := dcO p vs' dt) zp bp ap).putD (i := i) zp bp ap ⟨_, upd_same⟩ r fun _ _ z => absurd z hi
  rw [List.set_set, set_own hp] at ok3
  exact ok3
/-- x[k] = e, x a dict of one's own -/
def sPutD (i : Nat) (gk g : GE) (ρ : Rho) : O := (g ρ).to fun d ρ1 => if isOd ρ1[i]? then (gk ρ1).to fun c ρ2 => match ρ2[i]? with
    | some (.od kds) => if sortB c kds = true ∧ kds.length < sizeLine then .nx (ρ2.set i (.od (dPut kds c d))) else .bad
    | _ => .bad
  else .bad
theorem RpK.length : ∀ {kvs : List (KK × V × V)} {kds : List (D × D)}, RpK K Z kvs kds → kvs.length = kds.length
  | _, _, .nil => rfl
  | _, _, .cons _ _ _ r => by rw [List.length_cons, List.length_cons, RpK.length r]
theorem ds_putD {i : Nat} {gk g : GE} (h : DE K te g) (hk : DE K tb gk) (hi : i ≠ 0 := by decide) : DS K Wx (sNPut K (tVar i) tb te) (sPutD i gk g) := fun b0 B Z0 Z H σ ρ E ok s => by
  unfold sPutD at s
  obtain ⟨d, ρ1, e1, s⟩ := Sat.to s
  refine h b0 B Z0 Z H σ ρ d ρ1 _ ok e1 fun v H1 Z1 ok1 s1 r1 => ?_
  split at s
  · rename_i h0
    obtain ⟨p, e0⟩ := ok1.isOd h0
    obtain ⟨c, ρ2, e2, s⟩ := Sat.to s
    refine ⟨.ref p, e0, ?_⟩
    refine hk b0 B Z0 Z1 H1 σ ρ1 _ ρ2 _ ok1 e2 fun x H2 Z2 ok2 s2 r2 => ?_
    split at s
    · rename_i kds hd
      split at s
      · rename_i hs
        obtain ⟨q, vs, f1, f2, f3, f4, f5⟩ := ok2.od i kds hd
        rw [e0] at f1
        cases f1
        obtain ⟨k, k1, k2, k3⟩ := sortB_ok f5 r2 hs.1
        refine ⟨p, _, rfl, ⟨vs, k, f4, fun y hy => (rpK_keys f5 y hy).same ok2.zh, k2.same ok2.zh, k3, by rw [f5.length]; exact hs.2, rfl⟩, ?_⟩
        exact fun dt => s σ _ Z2 (ok2.rewriteD hd e0 (rpK_put k1 r2 (r1.mono s2) f5) hi dt)
      · exact s.elim
    · exact s.elim
  · exact s.elim
end
end DL
namespace DL
open PySem PySem.Spec PyProof.Rows L2
section
variable {X : Cx} {K : PySem.W.Frag}
theorem er_keys : ∀ {kvs : List (KK × V × V)} {es : List DictEntry} {vs : List Value}, Paired ER kvs es → vs.length = es.length → (∀ (j : Nat) v, vs[j]? = some v → ∃ e, es[j]? = some e ∧ v = e.key) → Vals (kvs.map fun z => z.2.1) vs
  | _, _, [], .nil, _, _ => .nil
  | _, _, _ :: _, .nil, h, _ => by cases h
  | _, _, [], .cons _ _, h, _ => by cases h
  | _, _, v :: vs, .cons (b := e) r t, h, hk => by
    rw [List.map_cons]
    refine .cons ?_ (er_keys t (by simpa using h) fun j u hj => ?_)
    · obtain ⟨e', h1, h2⟩ := hk 0 v rfl
      cases h1
      rw [h2]
      exact r.2.1
    · obtain ⟨e', h1, h2⟩ := hk (j + 1) u (by simpa using hj)
      exact ⟨e', by simpa using h1, h2⟩
theorem rpK_k {Z : Hp} : ∀ {kvs : List (KK × V × V)} {kds : List (D × D)}, RpK K Z kvs kds → RpA K Z (kvs.map fun z => z.2.1) (kds.map (·.1))
  | _, _, .nil => .nil
  | _, _, .cons _ h2 _ r => .cons h2 (rpK_k r)
theorem lf_some {d : D} (h : isLf d = true) : (kkD d).isSome = true := by cases d <;> first | rfl | cases h
theorem tp_some {d : D} (h : isTp d = true) : (kkD d).isSome = true := by
  cases d with
  | tuple ds => show ((lfDs ds).map KK.tp).isSome = true; rw [Option.isSome_map]; exact h
  | _ => cases h
end
end DL
namespace DL
open PySem PySem.Spec PyProof.Rows L2
section
variable {prog : Program} {w : World} {A : Around} {E : Value → Shared → Prop} {s : Shared}
/-- a display of one pair -/
theorem disp1 {ek ev : Expr} {pos : Pos} {env : Env} {Q : Value → Shared → Prop}
    (h : wpAny (model prog w) A (evalPairs (pairTrees [some ek] [ev] env pos)) (fun vs s₁ => ∃ key val, vs = [(key, val)] ∧ wpAny (model prog w) A (dictSet s.heap.objs.size key val) (fun _ s₂ => Q (.ref s.heap.objs.size) s₂) E s₁) E
      { s with heap := s.heap.push { cls := .type "dict", data := .dict #[] } }) : wpAny (model prog w) A (eval (.Dict [some ek] [ev] pos) env) Q E s := by
  have z := zip_pairTrees [some ek] [ev] env pos rfl rfl
  rw [arm_eval_Dict, z, dictDisplay_pairs _ (by intro q; cases q) (by show 1 < 17; decide)]
  refine wpAny_bind (wpAny_standAt (wpAny_bind ?_))
  unfold subDict
  refine wpAny_bind (wpAny_alloc (wpAny_bind (wpAny_holding ?_)))
  rw [if_pos (by show 1 ≤ 15; decide)]
  refine wpAny_bind (wpAny_mono h (fun vs s₁ h₁ => ?_) fun _ _ e => e)
  obtain ⟨key, val, rfl, h₁⟩ := h₁
  refine wpAny_holding (wpAny_bind ?_)
  rw [List.forIn_cons]
  refine wpAny_bind (wpAny_bind (wpAny_mono h₁ (fun _ s₂ h₂ => wpAny_pure ?_) fun _ _ e => e))
  dsimp only
  rw [List.forIn_nil]
  exact wpAny_pure (wpAny_pure (wpAny_pure (wpAny_pure h₂)))
end
section
variable {X : Cx} {K : PySem.W.Frag} {Wx : WX} {ta tb te tk tv : TE}
def tNDisp (K : PySem.W.Frag) (tk tv : TE) : TE := fun σ H Q => ∀ p, H p = none → tk σ (upd H p (dcO p [] (#[], 0))) fun x H1 => tv σ H1 fun y H2 => H2 p = some (dcO p [] (#[], 0)) ∧ ∃ k, KeyV K H2 x k ∧ ∀ dt, Q (.ref p) (upd H2 p (dcO p [(k, x, y)] dt))
theorem n_set0 {pins : List (Addr × Obj)} {σ : L2.St} {H : Hp} {s : Shared} {a : Addr} {y v : V} {k : KK} {u r : Value} {A : Around} {E : Value → Shared → Prop} {Q : Unit → Shared → Prop} (hu : A.units + 1 < cLine) (I : L2.Inv X pins σ H s) (e0 : H a = some (dcO a [] (#[], 0))) (ky : KeyV X.K H y k) (ry : RelV y u) (rv : RelV v r)
    (h : ∀ s' dt, L2.Inv X pins σ (upd H a (dcO a [(k, y, v)] dt)) s' → Q () s') : wpAny (model X.prog X.w) A (dictSet a u r) Q E s := by
  have e : IsDc H a [] := ⟨_, e0⟩
  obtain ⟨_, hd, hz, hg⟩ := dc_at I.hok e
  have kv : KeysV X.K H [] := fun z hz => nomatch hz
  have pe : put3 [] k y v = [(k, y, v)] := rfl
  cases k with
  | lf l =>
    obtain ⟨vs, p, dd⟩ := dict_lf I e kv fun z hz => nomatch hz
    cases p
    refine wpAny_dictSet_pairs (hsz := Nat.zero_le _) (lfT_is ry ky.lf) dd fun h' dd' hs => ?_
    obtain ⟨ob, es, ep, q1, q2, q3, q4, q5, _⟩ := dd'
    exact h _ (es, ep) (d_write I (by rw [e0]; exact True.intro) hs ⟨ob, q1⟩ (dc_obj (dt := (es, ep)) ⟨⟨ob, q1, q2, q3, of_lf (put_lf .nil ky.lf rv) q5 fun x hx => q4 x (by simpa using hx)⟩, hd, by show 1 ≤ sizeLine; decide, List.pairwise_singleton _ _, .inl fun z hz => ⟨l, List.mem_singleton.mp hz⟩⟩))
  | tp ls =>
    obtain ⟨xs, p, dd⟩ := dict_tp I e kv fun z hz => nomatch hz
    cases p
    obtain ⟨b, ys, rfl, k2, k3⟩ := id ky.tp
    cases (show u = Value.ref b from ry)
    refine wpAny_dictSet_heap (hsz := Nat.zero_le _) (show A.units < cLine by omega) (tk_is I k2 k3) dd fun h' dd' hs => ?_
    obtain ⟨ob, es, ep, q1, q2, q3, q4, _⟩ := dd'
    refine h _ (es, ep) (d_write I (by rw [e0]; exact True.intro) hs ⟨ob, q1⟩ (dc_obj (dt := (es, ep)) ⟨⟨ob, q1, q2, q3, ?_⟩, hd, by show 1 ≤ sizeLine; decide, List.pairwise_singleton _ _, .inr fun z hz => ⟨ls, List.mem_singleton.mp hz⟩⟩))
    dsimp only
    rw [q4]
    exact of_tp (put_tp .nil rv) (put3_hash kv ky)
theorem pe_ndisp {n : Nat} {ek ev : Expr} {pos : Pos} (hr : Room n X.A) (hk : PE X ek tk) (hv : PE X ev tv) : PE X (.Dict [some ek] [ev] pos) (tNDisp X.K tk tv) := by
  have hu := hr.un
  refine ⟨fun pins s σ H Q I q => ?_⟩
  have I1 := I.laid (a := s.heap.objs.size) (o := dcO s.heap.objs.size [] (#[], 0)) (t' := s.toks) (h' := s.heap.push { cls := .type "dict", data := .dict #[] }) (fun _ _ q => Heap.get?_push_of_some _ q) (Nat.le_refl _) (n_empty s.heap I.big)
  refine disp1 (pairTrees_cons_walk ?_)
  refine thn (hk.run pins _ σ _ _ I1 (q _ (I.hok.fresh (Nat.le_refl _)))) fun u s1 ⟨x, H1, I2, rx, q1⟩ => ?_
  refine thn (hv.run pins s1 σ H1 _ I2 q1) fun r s2 ⟨y, H2, I3, ry, e, k, ky, q2⟩ => ?_
  exact pairTrees_nil_walk ⟨u, r, rfl, n_set0 (by omega) I3 e ky rx ry fun s' dt I4 => ⟨.ref s.heap.objs.size, _, I4, rfl, q2 dt⟩⟩
/-- {k: v}: a new dict -/
def DD (K : PySem.W.Frag) (t : TE) (g : Rho → R (List (D × D))) : Prop := ∀ b0 B Z0 Z H σ ρ ds ρ' (Q : VK), Ok K b0 B Z0 Z H σ ρ → g ρ = .ok ds ρ' →
  (∀ p vs H' Z', Ok K b0 B Z0 Z' H' σ ρ' → Same Z Z' → Z' p = none → B p = none → Apart σ ρ' p → IsDc H' p vs → RpK K Z' vs ds → Q (.ref p) H') → t σ H Q
def eDisp (gk gv : GE) (ρ : Rho) : R (List (D × D)) := (gk ρ).bind fun c ρ1 => (gv ρ1).bind fun d ρ2 => if (isLf c || isTp c) = true then .ok [(c, d)] ρ2 else .bad
theorem key_any {Z : Hp} {v : V} {d : D} (r : Rp K Z v d) (h : (isLf d || isTp d) = true) : ∃ k, kkD d = some k := by
  rw [Bool.or_eq_true] at h
  exact Option.isSome_iff_exists.mp (h.elim lf_some tp_some)
theorem dd_disp {gk gv : GE} (hk : DE K tk gk) (hv : DE K tv gv) : DD K (tNDisp K tk tv) (eDisp gk gv) := fun b0 B Z0 Z H σ ρ ds ρ' Q ok e q => fun p hp => by
  obtain ⟨c, ρ1, e1, e⟩ := R.bind_ok e
  obtain ⟨d, ρ2, e2, e⟩ := R.bind_ok e
  split at e
  · rename_i hs
    cases e
    obtain ⟨okf, zp, bp, ap⟩ := ok.fresh (o := dcO p [] (#[], 0)) hp
    have okw := okf.frame zp ap upd_same
    refine hk b0 _ Z0 Z _ σ ρ c ρ1 _ okw e1 fun x H1 Z1 ok1 s1 r1 => ?_
    refine hv b0 _ Z0 Z1 H1 σ ρ1 d ρ' _ ok1 e2 fun v H2 Z2 ok2 s2 r2 => ?_
    obtain ⟨ok3, zp3, ap3, hp3⟩ := ok2.unframe (ok.zz.free zp) bp
    obtain ⟨k, ek⟩ := key_any (r1.mono s2) hs
    refine ⟨hp3, k, (rp_key (r1.mono s2) ek).same ok2.zh, ?_⟩
    exact fun dt => q p _ _ Z2 (ok3.write zp3 bp ap3) (s1.trans s2) zp3 bp ap3 ⟨dt, upd_same⟩ (.cons ek (r1.mono s2) r2 .nil)
  · cases e
theorem dd_new : DD K tNNew (fun ρ => .ok [] ρ) := fun b0 B Z0 Z H σ ρ ds ρ' Q ok e q => fun p hp => by
  cases e
  obtain ⟨ok2, zp, bp, ap⟩ := ok.fresh (o := dcO p [] (#[], 0)) hp
  exact q p [] _ Z ok2 (Same.refl Z) zp bp ap ⟨_, upd_same⟩ .nil
/-- a new dict as data -/
def eD (g : Rho → R (List (D × D))) (ρ : Rho) : R D := (g ρ).map fun kds => dcD kds
theorem de_d {g : Rho → R (List (D × D))} (h : DD K te g) : DE K te (eD g) := fun b0 B Z0 Z H σ ρ d ρ' Q ok e q => by
  obtain ⟨ds, e1, rfl⟩ := R.map_ok e
  refine h b0 B Z0 Z H σ ρ ds ρ' Q ok e1 fun p vs H' Z' ok' s zp bp ap ⟨dt, hp⟩ r => ?_
  obtain ⟨ok2, s2⟩ := ok'.freeze zp bp ap hp
  exact q (.ref p) H' _ ok2 (s.trans s2) (.dct upd_same (r.mono s2))
def sSetD (i : Nat) (g : Rho → R (List (D × D))) (ρ : Rho) : O := (g ρ).to fun kds ρ1 => .nx (ρ1.set i (.od kds))
theorem ds_setD {i : Nat} {g : Rho → R (List (D × D))} (h : DD K te g) (hi : i ≠ 0 := by decide) : DS K Wx (tAsg te (gName i)) (sSetD i g) := fun b0 B Z0 Z H σ ρ E ok s => by
  obtain ⟨d, ρ', e, s⟩ := Sat.to s
  exact h b0 B Z0 Z H σ ρ d ρ' _ ok e fun p vs H' Z' ok' _ zp bp ap hp r => s _ H' Z' (ok'.putD zp bp ap hp r fun _ _ z => absurd z hi)
def sParD (i j : Nat) (g : Rho → R (List (D × D))) (b : Rho → R Nw) (ρ : Rho) : O := (g ρ).to fun kds ρ1 => (b ρ1).to fun y ρ2 => .nx ((ρ2.set i (.od kds)).set j y.sl)
theorem ds_parD {i j : Nat} {g : Rho → R (List (D × D))} {b : Rho → R Nw} (ha : DD K ta g) (hb : DN K tb b) (hi : i ≠ 0 := by decide) (hj0 : j ≠ 0 := by decide) : DS K Wx (tPar i j (tCons ta (tCons tb tNil))) (sParD i j g b) := fun b0 B Z0 Z H σ ρ E ok s => by
  obtain ⟨kds, ρ1, e1, s⟩ := Sat.to s
  obtain ⟨y, ρ2, e2, s⟩ := Sat.to s
  refine ha b0 B Z0 Z H σ ρ kds ρ1 _ ok e1 fun q vs H1 Z1 ok1 s1 zq bq aq ⟨dt, hq⟩ ra => ?_
  have okf := ok1.frame zq aq hq
  refine hb b0 _ Z0 Z1 H1 σ ρ1 y ρ2 _ okf e2 fun w H2 Z2 ok2 s2 r2 => ⟨.ref q, w, rfl, ?_⟩
  obtain ⟨ok3, zq2, aq2, hq2⟩ := ok2.unframe (ok1.zz.free zq) bq
  have okv := ok3.putD (i := i) zq2 bq aq2 ⟨_, hq2⟩ (ra.mono s2) fun _ _ z => absurd z hi
  refine s _ H2 Z2 ?_
  cases y with
  | s d2 => exact okv.put r2
  | f ds2 =>
    obtain ⟨q', vs', rfl, zq', bq', aq', hq', ra'⟩ := r2
    have nq : q' ≠ q := fun z => by rw [z, upd_same] at bq'; cases bq'
    rw [upd_ne nq] at bq'
    refine okv.putO zq' bq' (fun j' es hj ho hqq => ?_) hq' ra' fun _ _ z => absurd z hj0
    rcases set_get hj with ⟨ek, _⟩ | ⟨nk, e⟩
    · subst ek
      rcases set_get hqq with ⟨_, e2⟩ | ⟨n2, _⟩
      · have z := Option.some.inj e2
        injection z with z
        exact nq z.symm
      · exact n2 rfl
    · rw [List.getElem?_set_ne nk] at hqq
      exact aq' j' es e ho hqq
def rNGet2 (K : PySem.W.Frag) : V → List V → Hp → VK → Prop := fun x xs H Q => ∃ a y z o, x = .ref a ∧ xs = [y, z] ∧ NGet K H a y o ∧ Q (o.getD z) H
theorem mt_nget {n : Nat} (hr : Room n X.A) : MtR X "dict.get" (rNGet2 X.K) := by
  intro pins s σ H x xs v us Q I rx rxs h
  obtain ⟨a, y, z, o, rfl, rfl, g, q⟩ := h
  cases rx
  have hu := hr.un
  obtain ⟨u1, u2, rfl, r1, r2⟩ := vals2 rxs
  obtain ⟨kvs, k, e, kv, ky, so, l⟩ := g
  have hd := (dc_at I.hok e).2.1
  rcases so with ⟨⟨lf, rfl⟩, so⟩ | ⟨⟨ls, rfl⟩, so⟩
  · obtain ⟨vs, p, dd⟩ := dict_lf I e kv so
    refine call_meetsIn PySem.F.slot_dict_get dd.typeIs PySem.F.entry_dict_get (PySem.F.args_dict_get_3 _ _ _) (meets_dict_get_default (xKind X.prog X.w) a (lfT_is r1 ky.lf) hd u2) ⟨_, dd.mapOf, ?_⟩
    refine ⟨o.getD z, H, I.tok _, ?_, q⟩
    rw [l]
    exact (get_lf lf p).getD r2
  · obtain ⟨xs, p, dd⟩ := dict_tp I e kv so
    obtain ⟨b, ys, rfl, k2, k3⟩ := ky.tp
    cases (show u1 = Value.ref b from r1)
    refine call_meetsIn PySem.F.slot_dict_get dd.typeIs PySem.F.entry_dict_get (PySem.F.args_dict_get_3 _ _ _) (meetsH_dict_get_default (tKind X.prog X.w) a b hd u2) ⟨tupleKind_room_in1 (by omega), ls, xs, tk_is I k2 k3, dd, ?_⟩
    refine ⟨o.getD z, H, I.tok _, ?_, q⟩
    rw [l]
    exact (get_tp ls p).getD r2
end
end DL
namespace DLX
open PySem PyProof.Rows PySem.W
mutual
theorem reads_there {h : Heap} : ∀ {v : Value} {d : PyData} {as : List Addr}, Reads h v d as → ∀ a ∈ as, ∃ o, h.get? a = some o
  | _, _, _, .none, a, ha => nomatch ha
  | _, _, _, .bool _, a, ha => nomatch ha
  | _, _, _, .int _ _, a, ha => nomatch ha
  | _, _, _, .str _ _, a, ha => nomatch ha
  | _, _, _, .list h1 _ _ r, a, ha => by
    rcases List.mem_cons.mp ha with e | ha
    · subst e; exact ⟨_, h1⟩
    · exact readsAll_there r a ha
  | _, _, _, .tuple _ _ _ r, a, ha => readsAll_there r a ha
  | _, _, _, .dict h1 _ _ r r2, a, ha => by
    rcases List.mem_append.mp ha with ha | ha
    · rcases List.mem_cons.mp ha with e | ha
      · subst e; exact ⟨_, h1⟩
      · exact readsAll_there r a ha
    · exact readsAll_there r2 a ha
theorem readsAll_there {h : Heap} : ∀ {vs : List Value} {ds : List PyData} {as : List Addr}, ReadsAll h vs ds as → ∀ a ∈ as, ∃ o, h.get? a = some o
  | _, _, _, .nil, a, ha => nomatch ha
  | _, _, _, .cons r t, a, ha => by
    rcases List.mem_append.mp ha with ha | ha
    · exact reads_there r a ha
    · exact readsAll_there t a ha
end
section
variable {prog : Program} {w : World} {A : Around} {E : Value → Shared → Prop} {s : Shared} {β : Type} {R : Value → β → Prop} {enc : β → PyData}
theorem each_one {vs : List Value} {bs : List β} (e : EachIs R vs bs) (h : bs.length ≤ 1) : bs.mergeSort (dataLe false enc) = bs := by
  match bs, h with
  | [], _ => exact List.mergeSort_nil
  | [x], _ => exact List.mergeSort_singleton x
theorem swo_no : SrtO.Swo (fun (_ _ : Value) => false) := ⟨fun _ _ h => (nomatch h), fun _ _ _ _ _ => rfl⟩
theorem sort_step {h1 : Heap} {tk : Nat} {vs : List Value} {bs : List β} {Q : Value → Shared → Prop} (e : EachIs R vs bs) (er : EachIs (fun v b => ∃ as, Reads h1 v (enc b) as) vs bs) (hc : bs.length ≤ 1 ∨ (AllAlike (bs.map enc) ∧ Sortable (bs.map enc))) (hL : bs.length ≤ sizeLine) (hu : ∀ b, b ∈ bs → A.units + 1 + (enc b).depth < cLine)
    (h : ∀ (h' : Heap) (out : List Value), (∀ b o, h1.get? b = some o → h'.get? b = some o) → (∃ n, h'.get? h1.objs.size = some (seqObj "list" out.toArray n)) → EachIs R out (bs.mergeSort (dataLe false enc)) → Q .none { s with heap := h', toks := tk }) :
    wpAny (model prog w) A (call (.builtin "list.sort") [.ref h1.objs.size]) Q E { s with heap := h1.push (seqObj "list" vs.toArray 0), toks := tk } := by
  have ho : (h1.push (seqObj "list" vs.toArray 0)).get? h1.objs.size = some (seqObj "list" vs.toArray 0) := Heap.get?_push_size _ rfl
  have old : ∀ (out : List Value) b o, h1.get? b = some o → (sortedHeap (h1.push (seqObj "list" vs.toArray 0)) h1.objs.size vs out.toArray).get? b = some o := fun out b o q => by
    have hlt := Heap.lt_size q
    rw [sortedHeap_old (Nat.ne_of_lt hlt) (by rw [size_push']; exact Nat.lt_succ_of_lt hlt)]
    exact Heap.get?_push_of_some _ q
  have lv : vs.length = bs.length := e.length
  rcases hc with hc | ⟨hal, hk⟩
  · refine wpAny_call_entry slot_list_sort ⟨_, ho, rfl⟩ entry_list_sort (SrtO.list_sort_ord swo_no ho (by omega) (fun h2 => absurd h2 (by omega)) fun out h1' h2' => ⟨_, rfl, ?_⟩) (args_list_sort _)
    have eo : out = vs := by
      have p := SrtO.Stb.perm h2'
      match vs, (show vs.length ≤ 1 by omega), p with
      | [], _, p => exact List.perm_nil.mp p
      | [x], _, p => exact List.perm_singleton.mp p
    subst eo
    exact h _ out (old out) (sortedHeap_at ho) (by rw [each_one e hc]; exact e)
  · refine list_sort_data (n := 0) ho e (er.mono fun v b ⟨as, r⟩ => ⟨as, PyProof.Rows.Reads.keeps (fun _ _ q => Heap.get?_push_of_some _ q) r, fun hm => ?_⟩) hal hk hL hu fun out _ eo => h _ out (old out) (sortedHeap_at ho) eo
    obtain ⟨o, q⟩ := reads_there r _ hm
    exact absurd (Heap.lt_size q) (Nat.lt_irrefl _)
/-- sorted(r), by what collect gives -/
theorem sorted_gen {r : Addr} {vs : List Value} {bs : List β} {Q : Value → Shared → Prop} (e : EachIs R vs bs) (er : EachIs (fun v b => ∃ as, Reads s.heap v (enc b) as) vs bs) (hc : bs.length ≤ 1 ∨ (AllAlike (bs.map enc) ∧ Sortable (bs.map enc))) (hL : bs.length ≤ sizeLine) (hu : ∀ b, b ∈ bs → A.units + 3 + (enc b).depth < cLine)
    (hcol : ∀ (Q' : List Value → Shared → Prop) (E' : Value → Shared → Prop), (∀ h' tk, (∀ b o, s.heap.get? b = some o → h'.get? b = some o) → Q' vs { s with heap := h', toks := tk }) → wpAny (model prog w) A.in1 (collect (.ref r)) Q' E' s)
    (h : ∀ (h' : Heap) (tk : Nat) (p : Addr) (out : List Value), s.heap.get? p = none → (∀ b o, s.heap.get? b = some o → h'.get? b = some o) → (∃ n, h'.get? p = some (seqObj "list" out.toArray n)) → EachIs R out (bs.mergeSort (dataLe false enc)) → Q (.ref p) { s with heap := h', toks := tk }) :
    wpAny (model prog w) A (call (.builtin "sorted") [.ref r]) Q E s := by
  have lv : vs.length = bs.length := e.length
  refine Calls.call_function_entry kind_sorted plain_sorted entry_sorted (args_sorted1 _) ?_
  unfold Builtin.«sorted»
  refine wpAny_bind (m := checkCount "sorted" 1 1 _) (wpAny_pure (wpAny_bind (hcol _ _ fun h1 tk kp => wpAny_bind (wpAny_newList ?_ (by omega)))))
  have le : s.heap.get? h1.objs.size = none := by
    cases q : s.heap.get? h1.objs.size with
    | none => rfl
    | some o => exact absurd (Heap.lt_size (kp _ _ q)) (Nat.lt_irrefl _)
  have er1 : EachIs (fun v b => ∃ as, Reads h1 v (enc b) as) vs bs := er.mono fun v b ⟨as, r⟩ => ⟨as, PyProof.Rows.Reads.keeps kp r⟩
  have st := sort_step (prog := prog) (w := w) (A := A.in1) (s := s) (tk := tk) (E := E) (Q := fun _ s' => Q (.ref h1.objs.size) s') e er1 hc hL (fun b hb => by have := hu b hb; show A.units + 1 + 1 + (enc b).depth < cLine; omega) fun h' out k1 k2 k3 => h h' tk h1.objs.size out le (fun b o q => k1 b o (kp b o q)) k2 k3
  refine wpAny_bind (wpAny_holding (wpAny_mono st (fun _ s' x => ?_) fun _ _ e => e))
  exact wpAny_pure ⟨_, rfl, x⟩
end
end DLX
namespace DL
open PySem PySem.Spec PyProof.Rows L2
open PySem.W (dataLe AllAlike Sortable EachIs)
def rNSort (K : PySem.W.Frag) : List V → Hp → VK → Prop := fun xs H Q => ∃ (a : Addr) (bs : List (D × V)), xs = [.ref a] ∧ (SqL K H a (bs.map (·.2)) ∨ ∃ kvs, IsDc H a kvs ∧ (kvs.map fun z => z.2.1) = bs.map (·.2)) ∧ (∀ b ∈ bs, Dp K H b.2 b.1 ∧ b.1.depth ≤ 50) ∧
  (bs.length ≤ 1 ∨ (AllAlike (bs.map (·.1)) ∧ Sortable (bs.map (·.1)))) ∧ ∀ p, H p = none → Q (.ref p) (upd H p (.lst ((bs.mergeSort (dataLe false (·.1))).map (·.2))))
section
variable {X : Cx} {K : PySem.W.Frag} {te : TE}
theorem each_of {H : Hp} {pins : List (Addr × Obj)} {σ : L2.St} {s : Shared} (I : L2.Inv X pins σ H s) : ∀ {bs : List (D × V)} {us : List Value}, Vals (bs.map (·.2)) us → (∀ b ∈ bs, Dp X.K H b.2 b.1 ∧ b.1.depth ≤ 50) → EachIs (fun u (b : D × V) => RelV b.2 u) us bs ∧ EachIs (fun u (b : D × V) => ∃ as, Reads s.heap u b.1 as) us bs
  | [], _, r, _ => by cases r; exact ⟨.nil, .nil⟩
  | b :: bs, _, r, h => by
    rw [List.map_cons] at r
    cases r with
    | cons r1 t =>
      obtain ⟨e1, e2⟩ := each_of I t fun x hx => h x (List.mem_cons_of_mem _ hx)
      exact ⟨.cons r1 e1, .cons (Dp.reads I b.1 b.2 _ (h b List.mem_cons_self).1 r1) e2⟩
theorem vals_of : ∀ {us : List Value} {bs : List (D × V)}, EachIs (fun u (b : D × V) => RelV b.2 u) us bs → Vals (bs.map (·.2)) us
  | _, _, .nil => .nil
  | _, _, .cons h t => by rw [List.map_cons]; exact .cons h (vals_of t)
theorem obj_there {P : Program} {w : World} {H : Hp} {h : Heap} {a : Addr} {o : HO} (x : ObjOk P w H h a o) : ∃ ob, h.get? a = some ob := by
  cases o with
  | lst xs => obtain ⟨_, _, _, _, e⟩ := x; exact ⟨_, e⟩
  | tup xs => obtain ⟨_, _, _, ob, e, _⟩ := x; exact ⟨_, e⟩
  | dK kvs => obtain ⟨_, _, _, _, ob, _, _, e, _⟩ := x; exact ⟨_, e⟩
  | dT kvs => obtain ⟨_, _, _, _, ob, _, _, e, _⟩ := x; exact ⟨_, e⟩
  | set S n => obtain ⟨ob, _, _, _, e, _⟩ := x; exact ⟨_, e⟩
  | ins C dx fs => obtain ⟨_, _, _, e, _⟩ := x; exact ⟨_, e⟩
  | own y => exact x
  | xd fs => obtain ⟨_, ⟨_, _, _, e, _⟩, _⟩ := x; exact ⟨_, e⟩
  | rng lo hi => obtain ⟨_, _, _, e⟩ := x; exact ⟨_, e⟩
  | frz ob u => obtain ⟨e, _⟩ := x; exact ⟨_, e⟩
  | tbl ps => exact ⟨_, (show h.get? a = some _ from x)⟩
  | met f y => exact ⟨_, (show h.get? a = some _ from x)⟩
  | ext φ => obtain ⟨_, e, _⟩ := x; exact e
theorem hok_none {P : Program} {w : World} {H : Hp} {h : Heap} {a : Addr} (x : HOk P w H h) (e : h.get? a = none) : H a = none := by
  cases q : H a with
  | none => rfl
  | some o =>
    obtain ⟨ob, e2⟩ := obj_there (x a o q)
    rw [e] at e2
    cases e2
theorem cr_sortN {n : Nat} (hr : Room n X.A) (hc : X.calm = true) : CallR X (.builtin "sorted") (rNSort X.K) := by
  intro pins s σ H xs us Q I r h
  obtain ⟨a, bs, rfl, hsrc, hb, cond, q⟩ := h
  obtain ⟨u, rfl, rx⟩ := vals1 r
  cases rx
  have hu := hr.un
  have fin : ∀ (vs : List Value), Vals (bs.map (·.2)) vs → (bs.map (·.2)).length ≤ sizeLine → (∀ (Q' : List Value → Shared → Prop) (E' : Value → Shared → Prop), (∀ h' tk, (∀ b o, s.heap.get? b = some o → h'.get? b = some o) → Q' vs { s with heap := h', toks := tk }) → wpAny (model X.prog X.w) X.A.in1 (collect (.ref a)) Q' E' s) →
      wpAny (model X.prog X.w) X.A (call (.builtin "sorted") [.ref a]) (EP X pins σ Q) X.xe s := fun vs rv hz hcol => by
    rw [List.length_map] at hz
    obtain ⟨e1, e2⟩ := each_of I rv hb
    refine DLX.sorted_gen (enc := fun b : D × V => b.1) e1 e2 cond hz (fun b hm => by have := (hb b hm).2; show X.A.units + 3 + b.1.depth < cLine; omega) hcol fun h' tk p out hp kp ⟨m, hm⟩ eo => ?_
    have hl : ((bs.mergeSort (dataLe false (·.1))).map (·.2)).length ≤ sizeLine := by rw [List.length_map, (List.mergeSort_perm _ _).length_eq]; exact hz
    exact ⟨.ref p, _, I.laidN (t' := tk) kp hp (hok_none I.hok hp) (show ObjOk X.prog X.w _ h' _ (.lst ((bs.mergeSort (dataLe false (·.1))).map (·.2))) from ⟨hl, out, m, vals_of eo, hm⟩), rfl, q _ (hok_none I.hok hp)⟩
  rcases hsrc with hs | ⟨kvs, hd, ek⟩
  · obtain ⟨its, rv, pl, hz⟩ := I.list hs
    refine fin its rv hz fun Q' E' hq => PyProof.Rows.collect_list pl.isList (hq _ s.toks fun b o e => ?_) (by rw [← rv.length]; exact hz)
    rw [Heap.get?_update_ne _ _ _ _ (Nat.ne_of_lt (Heap.lt_size e))]
    exact Heap.get?_push_of_some _ e
  · obtain ⟨⟨ob, es, ep, h1, h2, h3, h4⟩, hm, hz, _⟩ := dc_at I.hok hd
    have hl : kvs.length = es.size := by rw [Paired.length h4, Array.length_toList]
    have ent : Vals (kvs.map fun z => z.2.1) (es.toList.map (·.key)) := er_keys h4 (by rw [List.length_map]) fun j v hj => by
      rw [List.getElem?_map] at hj
      obtain ⟨e, he, rfl⟩ := Option.map_eq_some_iff.mp hj
      exact ⟨e, he, rfl⟩
    refine fin (es.toList.map (·.key)) (by rw [← ek]; exact ent) (by rw [← ek, List.length_map]; exact hz) fun Q' E' hq => PySem.W.kdu_collect (A := X.A.in1) (PySem.KdlSrc.rawDict (es := es) (ep := ep) hm) (I.ok.hd hc) ⟨ob, h1, h2, h3⟩ (by omega) fun h' tk acc kp hacc => ?_
    have ea : acc.toList = es.toList.map (·.key) := by
      apply List.ext_getElem?
      intro j
      rw [List.getElem?_map]
      by_cases hj : j < es.size
      · have hj2 : j < acc.size := by rw [hacc.1]; exact hj
        obtain ⟨hi, ev⟩ := hacc.2 j acc[j] (by simp [hj2])
        simp [hj, hj2, ev]
      · have hj2 : ¬ j < acc.size := by rw [hacc.1]; exact hj
        simp [hj, hj2]
    rw [ea]
    exact hq h' tk kp
/-- may be sorted -/
def sortableB (ds : List D) : Bool := decide (ds.length ≤ 1) || ((ds.all fun d => ds.all fun e => PySem.W.alike d e) && ds.all fun d => match d with | .tuple (_ :: _) => true | _ => false)
def itemsSD : D → Option (List D)
  | .list ds => some ds
  | .dict ((.dict [], .none) :: kds) => some (kds.map (·.1))
  | _ => none
def sortDD : List D → Option (List D)
  | [x] => match itemsSD x with
    | some ds => if sortableB ds = true ∧ (ds.all fun d => noD d && decide (d.depth ≤ 50)) = true then some (ds.mergeSort (dataLe false id)) else none
    | none => none
  | _ => none
theorem sortable_ok {ds : List D} (h : sortableB ds = true) : ds.length ≤ 1 ∨ (AllAlike ds ∧ Sortable ds) := by
  unfold sortableB at h
  rw [Bool.or_eq_true, Bool.and_eq_true] at h
  rcases h with h | ⟨h1, h2⟩
  · exact .inl (of_decide_eq_true h)
  · refine .inr ⟨fun d hd e he => List.all_eq_true.mp (List.all_eq_true.mp h1 d hd) e he, .inl fun d hd => ?_⟩
    have := List.all_eq_true.mp h2 d hd
    split at this
    · exact ⟨_, _, rfl⟩
    · cases this
theorem rpA_zip {Z : Hp} : ∀ {vs : List V} {ds : List D}, RpA K Z vs ds → ∃ bs : List (D × V), bs.map (·.1) = ds ∧ bs.map (·.2) = vs ∧ ∀ b ∈ bs, Rp K Z b.2 b.1
  | _, _, .nil => ⟨[], rfl, rfl, fun b hb => nomatch hb⟩
  | _, _, .cons (v := v) (d := d) h r => by
    obtain ⟨bs, h1, h2, h3⟩ := rpA_zip r
    refine ⟨(d, v) :: bs, by rw [List.map_cons, h1], by rw [List.map_cons, h2], fun b hb => ?_⟩
    rcases List.mem_cons.mp hb with e | hb
    · subst e; exact h
    · exact h3 b hb
theorem zip_rpA {Z : Hp} : ∀ {bs : List (D × V)}, (∀ b ∈ bs, Rp K Z b.2 b.1) → RpA K Z (bs.map (·.2)) (bs.map (·.1))
  | [], _ => .nil
  | b :: bs, h => .cons (h b List.mem_cons_self) (zip_rpA fun x hx => h x (List.mem_cons_of_mem _ hx))
theorem Dp.same {Z H : Hp} {v : V} {d : D} (s : Same Z H) (r : Rp K Z v d) (h : noD d = true) : Dp K H v d := (r.mono s).dp h
theorem sn_sortN : SnAF K (rNSort K) sortDD := fun b0 B Z0 Z H σ ρ xs as c Q ok ha e q => by
  unfold sortDD at e
  split at e
  · rename_i x
    split at e
    · rename_i ds ei
      split at e
      · rename_i hc
        cases e
        have go : ∀ {a : Addr} {vs : List V}, RpA K Z vs ds → (∀ bs : List (D × V), bs.map (·.2) = vs → (SqL K H a (bs.map (·.2)) ∨ ∃ kvs, IsDc H a kvs ∧ (kvs.map fun z => z.2.1) = bs.map (·.2))) → rNSort K [.ref a] H Q := fun {a vs} r hsrc => by
          obtain ⟨bs, h1, h2, h3⟩ := rpA_zip r
          refine ⟨a, bs, rfl, hsrc bs h2, fun b hb => ?_, ?_, fun p hp => ?_⟩
          · have hd : b.1 ∈ ds := by rw [← h1]; exact List.mem_map.mpr ⟨b, hb, rfl⟩
            have := List.all_eq_true.mp hc.2 b.1 hd
            rw [Bool.and_eq_true] at this
            exact ⟨Dp.same ok.zh (h3 b hb) this.1, of_decide_eq_true this.2⟩
          · have := sortable_ok hc.1
            rw [← h1, List.length_map] at this
            exact this
          · obtain ⟨ok2, zp, bp, ap⟩ := ok.fresh (o := .lst ((bs.mergeSort (dataLe false (·.1))).map (·.2))) hp
            refine q p _ _ ok2 zp bp ap upd_same ?_
            have es : ds.mergeSort (dataLe false id) = (bs.mergeSort (dataLe false (·.1))).map (·.1) := by
              have sm := PySem.W.sort_maps (r := dataLe false fun x : D × V => x.1) (s := dataLe false id) (fun x : D × V => x.1) (l := bs) (fun _ _ _ _ => rfl)
              rw [sm, h1]
            rw [es]
            exact zip_rpA fun b hb => h3 b ((List.mergeSort_perm _ _).mem_iff.mp hb)
        cases ha with
        | cons h r =>
          cases r
          cases h with
          | lst hl ra =>
            cases ei
            exact go ra fun bs hb => .inl (by rw [hb]; exact .inl (.inl hl))
          | dct hd rk =>
            cases ei
            exact go (rpK_k rk) fun bs hb => .inr ⟨_, ⟨_, hd⟩, hb.symm⟩
          | _ => cases ei
      · cases e
    · cases e
  · cases e
end
end DL
namespace DL
open PySem L2
end DL
namespace DL
open PySem L2
theorem mid3_top {l m r : Int} (h1 : l < m) (h2 : r < m) : (mid3 l m r = l ∨ mid3 l m r = r) ∧ l ≤ mid3 l m r ∧ r ≤ mid3 l m r := by
  simp only [mid3, srtI, insI]
  split <;> simp only [insI] <;> (repeat' split) <;> simp only [List.getElem?_cons_succ, List.getElem?_cons_zero, Option.getD_some, true_or, or_true, true_and] <;> omega
theorem mid3_dip {l m r : Int} (h1 : m < l) (h2 : m < r) : (mid3 l m r = l ∨ mid3 l m r = r) ∧ mid3 l m r ≤ l ∧ mid3 l m r ≤ r := by
  simp only [mid3, srtI, insI]
  split <;> simp only [insI] <;> (repeat' split) <;> simp only [List.getElem?_cons_succ, List.getElem?_cons_zero, Option.getD_some, true_or, or_true, true_and] <;> omega
theorem mid3_idle {l m r : Int} (h1 : ¬ (l < m ∧ r < m)) (h2 : ¬ (m < l ∧ m < r)) : mid3 l m r = m := by
  simp only [mid3, srtI, insI]
  split <;> simp only [insI] <;> (repeat' split) <;> simp only [List.getElem?_cons_succ, List.getElem?_cons_zero, Option.getD_some, true_or, or_true, true_and] <;> omega
def IsT (a : List Int) (p : Int) : Prop := 0 < p ∧ p + 1 < a.length ∧ nat a (p - 1) < nat a p ∧ nat a (p + 1) < nat a p
def IsD (a : List Int) (p : Int) : Prop := 0 < p ∧ p + 1 < a.length ∧ nat a p < nat a (p - 1) ∧ nat a p < nat a (p + 1)
/-- what a call does -/
theorem call_cases {b : List Int} {i : Int} (h0 : 0 ≤ i) (h1 : i < b.length) : callN b i = b ∨ (IsT b i ∧ (midN b i = nat b (i - 1) ∨ midN b i = nat b (i + 1)) ∧ nat b (i - 1) ≤ midN b i ∧ nat b (i + 1) ≤ midN b i) ∨ (IsD b i ∧ (midN b i = nat b (i - 1) ∨ midN b i = nat b (i + 1)) ∧ midN b i ≤ nat b (i - 1) ∧ midN b i ≤ nat b (i + 1)) := by
  by_cases he : i = 0 ∨ i = (b.length : Int) - 1
  · refine .inl ((callN_iff h0 h1).mpr ?_)
    unfold midN
    rw [if_pos he]
  · have em : midN b i = mid3 (nat b (i - 1)) (nat b i) (nat b (i + 1)) := by unfold midN; rw [if_neg he]
    by_cases ht : nat b (i - 1) < nat b i ∧ nat b (i + 1) < nat b i
    · have := mid3_top ht.1 ht.2
      rw [← em] at this
      exact .inr (.inl ⟨⟨by omega, by omega, ht⟩, this⟩)
    · by_cases hd : nat b i < nat b (i - 1) ∧ nat b i < nat b (i + 1)
      · have := mid3_dip hd.1 hd.2
        rw [← em] at this
        exact .inr (.inr ⟨⟨by omega, by omega, hd⟩, this⟩)
      · exact .inl ((callN_iff h0 h1).mpr (em.trans (mid3_idle ht hd)))
theorem nat_call {b : List Int} {i p : Int} (h0 : 0 ≤ i) (h1 : i < b.length) (hp : 0 ≤ p) : nat (callN b i) p = if p = i then midN b i else nat b p := by
  unfold callN
  rw [nat_set hp]
  by_cases e : p = i
  · rw [if_pos ⟨by omega, by omega⟩, if_pos e]
  · rw [if_neg (fun z => e (by omega)), if_neg e]
def Btw (p q r : Int) : Prop := (p ≤ r ∧ r ≤ q) ∨ (q ≤ r ∧ r ≤ p)
/-- a leads to b -/
structure Keep (a b : List Int) : Prop where
  len : b.length = a.length
  chg : ∀ p : Int, 0 ≤ p → p < a.length → nat a p = nat b p ∨ (IsT a p ∧ nat b p < nat a p) ∨ (IsD a p ∧ nat a p < nat b p)
  ord : ∀ p : Int, 0 ≤ p → p + 1 < a.length → (nat a p < nat a (p + 1) → nat b p ≤ nat b (p + 1)) ∧ (nat a (p + 1) < nat a p → nat b (p + 1) ≤ nat b p) ∧ (nat a p = nat a (p + 1) → nat b p = nat b (p + 1))
  run : ∀ p : Int, 0 ≤ p → p < a.length → ∃ q : Int, 0 ≤ q ∧ q < a.length ∧ nat a q = nat b q ∧ ∀ r, Btw p q r → nat b r = nat b p
theorem Keep.refl (a : List Int) : Keep a a := ⟨rfl, fun _ _ _ => .inl rfl, fun p _ _ => ⟨fun h => by omega, fun h => by omega, fun h => h⟩, fun p h0 h1 => ⟨p, h0, h1, rfl, fun r hr => by rw [show r = p by unfold Btw at hr; omega]⟩⟩
theorem Keep.runs {a b : List Int} {i m : Int} {c : List Int} (h : Keep a b) (h0 : 0 < i) (h1 : i + 1 < a.length) (n1 : nat b (i - 1) ≠ nat b i) (n2 : nat b (i + 1) ≠ nat b i) (hm : m = nat b (i - 1) ∨ m = nat b (i + 1)) (hc : ∀ p : Int, 0 ≤ p → nat c p = if p = i then m else nat b p) :
    ∀ p : Int, 0 ≤ p → p < a.length → ∃ q : Int, 0 ≤ q ∧ q < a.length ∧ nat a q = nat c q ∧ ∀ r, Btw p q r → nat c r = nat c p := by
  intro p hp0 hp1
  have cut : ∀ p q : Int, p ≠ i → (∀ r, Btw p q r → nat b r = nat b p) → ¬ Btw p q i := fun p q hp hr hb => by
    have e := hr i hb
    unfold Btw at hb
    rcases hb with hb | hb
    · have := hr (i - 1) (by unfold Btw; omega)
      exact n1 (by rw [this, e])
    · have := hr (i + 1) (by unfold Btw; omega)
      exact n2 (by rw [this, e])
  have go : ∀ j : Int, 0 ≤ j → j < a.length → j ≠ i → ∃ q : Int, 0 ≤ q ∧ q < a.length ∧ q ≠ i ∧ ¬ Btw j q i ∧ nat a q = nat c q ∧ ∀ r, Btw j q r → nat c r = nat b j := fun j j0 j1 ji => by
    obtain ⟨q, q0, q1, qs, qr⟩ := h.run j j0 j1
    have nb := cut j q ji qr
    have qi : q ≠ i := fun z => nb (by unfold Btw; omega)
    refine ⟨q, q0, q1, qi, nb, by rw [hc q q0, if_neg qi]; exact qs, fun r hr => ?_⟩
    have ri : r ≠ i := fun z => nb (z ▸ hr)
    rw [hc r (by unfold Btw at hr; omega), if_neg ri]
    exact qr r hr
  by_cases hp : p = i
  · subst hp
    rcases hm with hm | hm
    · obtain ⟨q, q0, q1, qi, nb, qs, qr⟩ := go (p - 1) (by omega) (by omega) (by omega)
      have ql : q ≤ p - 1 := by unfold Btw at nb; omega
      refine ⟨q, q0, q1, qs, fun r hr => ?_⟩
      rw [hc p (by omega), if_pos rfl]
      by_cases e : r = p
      · rw [e, hc p (by omega), if_pos rfl]
      · rw [hm]
        exact qr r (by unfold Btw at hr ⊢; omega)
    · obtain ⟨q, q0, q1, qi, nb, qs, qr⟩ := go (p + 1) (by omega) (by omega) (by omega)
      have ql : p + 1 ≤ q := by unfold Btw at nb; omega
      refine ⟨q, q0, q1, qs, fun r hr => ?_⟩
      rw [hc p (by omega), if_pos rfl]
      by_cases e : r = p
      · rw [e, hc p (by omega), if_pos rfl]
      · rw [hm]
        exact qr r (by unfold Btw at hr ⊢; omega)
  · obtain ⟨q, q0, q1, qi, nb, qs, qr⟩ := go p hp0 hp1 hp
    refine ⟨q, q0, q1, qs, fun r hr => ?_⟩
    rw [qr r hr, hc p hp0, if_neg hp]
theorem Keep.alone {a b : List Int} {i : Int} (h : Keep a b) (h0 : 0 < i) (h1 : i + 1 < a.length) (n1 : nat b (i - 1) ≠ nat b i) (n2 : nat b (i + 1) ≠ nat b i) : nat a i = nat b i := by
  obtain ⟨q, q0, q1, qs, qr⟩ := h.run i (by omega) (by omega)
  rcases Int.lt_trichotomy q i with hq | hq | hq
  · exact absurd (qr (i - 1) (by unfold Btw; omega)) n1
  · rw [← hq]; exact qs
  · exact absurd (qr (i + 1) (by unfold Btw; omega)) n2
theorem Keep.top {a b : List Int} {i : Int} (h : Keep a b) (t : IsT b i) : IsT a i ∧ nat a i = nat b i := by
  obtain ⟨t0, t1, t2, t3⟩ := t
  have hl := h.len
  have o1 := h.ord (i - 1) (by omega) (by omega)
  rw [show i - 1 + 1 = i by omega] at o1
  have o2 := h.ord i (by omega) (by omega)
  refine ⟨⟨t0, by omega, ?_, ?_⟩, h.alone t0 (by omega) (by omega) (by omega)⟩
  · rcases Int.lt_trichotomy (nat a (i - 1)) (nat a i) with e | e | e
    · exact e
    · have := o1.2.2 e; omega
    · have := o1.2.1 e; omega
  · rcases Int.lt_trichotomy (nat a (i + 1)) (nat a i) with e | e | e
    · exact e
    · have := o2.2.2 e.symm; omega
    · have := o2.1 e; omega
theorem Keep.dip {a b : List Int} {i : Int} (h : Keep a b) (t : IsD b i) : IsD a i ∧ nat a i = nat b i := by
  obtain ⟨t0, t1, t2, t3⟩ := t
  have hl := h.len
  have o1 := h.ord (i - 1) (by omega) (by omega)
  rw [show i - 1 + 1 = i by omega] at o1
  have o2 := h.ord i (by omega) (by omega)
  refine ⟨⟨t0, by omega, ?_, ?_⟩, h.alone t0 (by omega) (by omega) (by omega)⟩
  · rcases Int.lt_trichotomy (nat a i) (nat a (i - 1)) with e | e | e
    · exact e
    · have := o1.2.2 e.symm; omega
    · have := o1.1 e; omega
  · rcases Int.lt_trichotomy (nat a i) (nat a (i + 1)) with e | e | e
    · exact e
    · have := o2.2.2 e; omega
    · have := o2.2.1 e; omega
theorem Keep.call {a b : List Int} {i : Int} (h : Keep a b) (h0 : 0 ≤ i) (h1 : i < a.length) : Keep a (callN b i) := by
  have hl := h.len
  have hc := fun p (hp : (0 : Int) ≤ p) => nat_call (b := b) (p := p) h0 (by omega) hp
  rcases call_cases (b := b) h0 (by omega) with e | ⟨t, tm, t1, t2⟩ | ⟨t, tm, t1, t2⟩
  · rw [e]; exact h
  · obtain ⟨ta, es⟩ := h.top t
    obtain ⟨u0, u1, u2, u3⟩ := id t
    obtain ⟨v0, v1, v2, v3⟩ := id ta
    refine ⟨by rw [callN_len]; exact hl, fun p p0 p1 => ?_, fun p p0 p1 => ?_, h.runs u0 (by omega) (by omega) (by omega) tm hc⟩
    · rw [hc p p0]
      by_cases e : p = i
      · subst e
        rw [if_pos rfl]
        exact .inr (.inl ⟨ta, by omega⟩)
      · rw [if_neg e]; exact h.chg p p0 p1
    · rw [hc p p0, hc (p + 1) (by omega)]
      have o := h.ord p p0 p1
      by_cases e : p = i
      · subst e
        rw [if_pos rfl, if_neg (by omega)]
        omega
      · rw [if_neg e]
        by_cases e2 : p + 1 = i
        · subst e2
          rw [if_pos rfl]
          rw [show p + 1 - 1 = p by omega] at *
          omega
        · rw [if_neg e2]; exact o
  · obtain ⟨ta, es⟩ := h.dip t
    obtain ⟨u0, u1, u2, u3⟩ := id t
    obtain ⟨v0, v1, v2, v3⟩ := id ta
    refine ⟨by rw [callN_len]; exact hl, fun p p0 p1 => ?_, fun p p0 p1 => ?_, h.runs u0 (by omega) (by omega) (by omega) tm hc⟩
    · rw [hc p p0]
      by_cases e : p = i
      · subst e
        rw [if_pos rfl]
        exact .inr (.inr ⟨ta, by omega⟩)
      · rw [if_neg e]; exact h.chg p p0 p1
    · rw [hc p p0, hc (p + 1) (by omega)]
      have o := h.ord p p0 p1
      by_cases e : p = i
      · subst e
        rw [if_pos rfl, if_neg (by omega)]
        omega
      · rw [if_neg e]
        by_cases e2 : p + 1 = i
        · subst e2
          rw [if_pos rfl]
          rw [show p + 1 - 1 = p by omega] at *
          omega
        · rw [if_neg e2]; exact o
theorem Keep.more {a : List Int} : ∀ (tape : List Int) {b : List Int}, Keep a b → (∀ i ∈ tape, 0 ≤ i ∧ i < a.length) → Keep a (runN b tape)
  | [], _, h, _ => h
  | i :: tape, b, h, ht => by
    have hi := ht i List.mem_cons_self
    exact Keep.more tape (h.call hi.1 hi.2) fun j hj => ht j (List.mem_cons_of_mem _ hj)
theorem keep_run {a tape : List Int} (h : ∀ i ∈ tape, 0 ≤ i ∧ i < a.length) : Keep a (runN a tape) := (Keep.refl a).more tape h
end DL
namespace DL
open PySem L2
def cgB (ns ms : List Int) (p : Int) : Bool := !decide (nat ns p = nat ms p)
def cgL (ns ms : List Int) : List Int := (rngI 0 ns.length).filter (cgB ns ms)
theorem cg_mem {a b : List Int} {p : Int} : p ∈ cgL a b ↔ (0 ≤ p ∧ p < a.length) ∧ nat a p ≠ nat b p := by
  unfold cgL cgB
  rw [List.mem_filter]
  constructor
  · intro ⟨h1, h2⟩
    have := mem_rngI h1
    exact ⟨⟨by omega, by omega⟩, by simpa using h2⟩
  · intro ⟨h1, h2⟩
    exact ⟨in_rngI h1.1 (by omega), by simpa using h2⟩
theorem row_eq {a b : List Int} (hl : b.length = a.length) (h : ∀ p : Int, 0 ≤ p → p < a.length → nat a p = nat b p) : a = b := by
  apply List.ext_getElem?
  intro k
  by_cases hk : k < a.length
  · have := h (k : Int) (by omega) (by omega)
    unfold nat at this
    rw [Int.toNat_natCast, List.getElem?_eq_getElem hk, List.getElem?_eq_getElem (show k < b.length by omega)] at this
    rw [List.getElem?_eq_getElem hk, List.getElem?_eq_getElem (show k < b.length by omega)]
    simpa using this
  · rw [List.getElem?_eq_none (by omega), List.getElem?_eq_none (by omega)]
theorem cg_nil {a b : List Int} (hl : b.length = a.length) : cgL a b = [] ↔ a = b := by
  constructor
  · intro h
    refine row_eq hl fun p h0 h1 => ?_
    by_cases e : nat a p = nat b p
    · exact e
    · have : p ∈ cgL a b := cg_mem.mpr ⟨⟨h0, h1⟩, e⟩
      rw [h] at this
      cases this
  · intro h
    subst h
    refine List.filter_eq_nil_iff.mpr fun p _ => ?_
    unfold cgB
    simp
/-- somebody who has to change beside one who stays, both of the same number in the end -/
theorem Keep.beside {a b : List Int} (h : Keep a b) (ne : a ≠ b) : ∃ p s : Int, (s = 1 ∨ s = -1) ∧ 0 ≤ p ∧ p < a.length ∧ 0 ≤ p + s ∧ p + s < a.length ∧ nat a p ≠ nat b p ∧ nat a (p + s) = nat b (p + s) ∧ nat b (p + s) = nat b p := by
  have hx : ∃ p ∈ cgL a b, True := by
    cases e : cgL a b with
    | nil => exact absurd ((cg_nil h.len).mp e) ne
    | cons x r => exact ⟨x, List.mem_cons_self, True.intro⟩
  obtain ⟨p, hp, _⟩ := hx
  obtain ⟨⟨p0, p1⟩, pn⟩ := cg_mem.mp hp
  obtain ⟨q, q0, q1, qs, qr⟩ := h.run p p0 p1
  have go : ∀ (k : Nat) (p : Int), 0 ≤ p → p < a.length → nat a p ≠ nat b p → (∀ r, Btw p q r → nat b r = nat b p) → (p - q).natAbs ≤ k → ∃ p s : Int, (s = 1 ∨ s = -1) ∧ 0 ≤ p ∧ p < a.length ∧ 0 ≤ p + s ∧ p + s < a.length ∧ nat a p ≠ nat b p ∧ nat a (p + s) = nat b (p + s) ∧ nat b (p + s) = nat b p := by
    intro k
    induction k with
    | zero =>
      intro p p0 p1 pn qr hk
      have e : p = q := by omega
      rw [e] at pn
      exact absurd qs pn
    | succ k ih =>
      intro p p0 p1 pn qr hk
      rcases Int.lt_trichotomy q p with hq | hq | hq
      · have e1 := qr (p + -1) (by unfold Btw; omega)
        by_cases e : nat a (p + -1) = nat b (p + -1)
        · exact ⟨p, -1, .inr rfl, p0, p1, by omega, by omega, pn, e, e1⟩
        · exact ih (p + -1) (by omega) (by omega) e (fun r hr => by rw [e1]; exact qr r (by unfold Btw at hr ⊢; omega)) (by omega)
      · rw [← hq] at pn
        exact absurd qs pn
      · have e1 := qr (p + 1) (by unfold Btw; omega)
        by_cases e : nat a (p + 1) = nat b (p + 1)
        · exact ⟨p, 1, .inl rfl, p0, p1, by omega, by omega, pn, e, e1⟩
        · exact ih (p + 1) (by omega) (by omega) e (fun r hr => by rw [e1]; exact qr r (by unfold Btw at hr ⊢; omega)) (by omega)
  exact go (p - q).natAbs p p0 p1 pn qr (Nat.le_refl _)
/-- what is near a top that has to fall -/
theorem Keep.near_top {a b : List Int} {p x : Int} (h : Keep a b) (t : IsT a p) (hb : nat b p < nat a p) (hx : x = p + 1 ∨ x = p - 1) : nat a x < nat a p ∧ nat b x ≤ nat b p ∧ (nat a x = nat b x ∨ (IsD a x ∧ nat a x < nat b x)) := by
  obtain ⟨t0, t1, t2, t3⟩ := t
  have hl := h.len
  have ha : nat a x < nat a p := by rcases hx with rfl | rfl <;> assumption
  have hbx : nat b x ≤ nat b p := by
    rcases hx with rfl | rfl
    · exact (h.ord p (by omega) (by omega)).2.1 t3
    · have := (h.ord (p - 1) (by omega) (by omega)).1
      rw [show p - 1 + 1 = p by omega] at this
      exact this t2
  refine ⟨ha, hbx, ?_⟩
  rcases h.chg x (by omega) (by omega) with c | ⟨⟨u0, u1, u2, u3⟩, c⟩ | c
  · exact .inl c
  · exfalso
    rcases hx with rfl | rfl
    · rw [show p + 1 - 1 = p by omega] at u2; omega
    · rw [show p - 1 + 1 = p by omega] at u3; omega
  · exact .inr c
theorem Keep.near_dip {a b : List Int} {p x : Int} (h : Keep a b) (t : IsD a p) (hb : nat a p < nat b p) (hx : x = p + 1 ∨ x = p - 1) : nat a p < nat a x ∧ nat b p ≤ nat b x ∧ (nat a x = nat b x ∨ (IsT a x ∧ nat b x < nat a x)) := by
  obtain ⟨t0, t1, t2, t3⟩ := t
  have hl := h.len
  have ha : nat a p < nat a x := by rcases hx with rfl | rfl <;> assumption
  have hbx : nat b p ≤ nat b x := by
    rcases hx with rfl | rfl
    · exact (h.ord p (by omega) (by omega)).1 t3
    · have := (h.ord (p - 1) (by omega) (by omega)).2.1
      rw [show p - 1 + 1 = p by omega] at this
      exact this t2
  refine ⟨ha, hbx, ?_⟩
  rcases h.chg x (by omega) (by omega) with c | c | ⟨⟨u0, u1, u2, u3⟩, c⟩
  · exact .inl c
  · exact .inr c
  · exfalso
    rcases hx with rfl | rfl
    · rw [show p + 1 - 1 = p by omega] at u2; omega
    · rw [show p - 1 + 1 = p by omega] at u3; omega
/-- a call of somebody whose number is then the one of the end -/
theorem Keep.step {a b : List Int} {p : Int} (h : Keep a b) (h0 : 0 < p) (h1 : p + 1 < a.length) (hc : nat a p ≠ nat b p) (hm : midN a p = nat b p) (hle : ∀ x : Int, x = p + 1 ∨ x = p - 1 → (IsT a p → nat a x ≤ nat b p) ∧ (IsD a p → nat b p ≤ nat a x)) : Keep (callN a p) b := by
  have hl := h.len
  have nc := fun x (hx : (0 : Int) ≤ x) => nat_call (b := a) (p := x) (i := p) (by omega) (by omega) hx
  have hk := h.chg p (by omega) (by omega)
  refine ⟨by rw [callN_len]; exact hl, fun x x0 x1 => ?_, fun x x0 x1 => ?_, fun x x0 x1 => ?_⟩
  · rw [callN_len] at x1
    by_cases e : x = p
    · subst e
      rw [nc x x0, if_pos rfl]
      exact .inl hm
    · rw [nc x x0, if_neg e]
      rcases h.chg x x0 x1 with c | ⟨⟨u0, u1, u2, u3⟩, c⟩ | ⟨⟨u0, u1, u2, u3⟩, c⟩
      · exact .inl c
      · refine .inr (.inl ⟨⟨u0, by rw [callN_len]; exact u1, ?_, ?_⟩, c⟩)
        · rw [nc x x0, if_neg e, nc (x - 1) (by omega)]
          by_cases e2 : x - 1 = p
          · rw [if_pos e2, hm]
            have ex : x = p + 1 := by omega
            rcases hk with z | ⟨t, z⟩ | ⟨t, z⟩
            · exact absurd z hc
            · have := (h.near_top t z (.inl ex)).1; rw [e2] at u2; omega
            · have := h.near_dip t z (.inl ex)
              omega
          · rw [if_neg e2]; exact u2
        · rw [nc x x0, if_neg e, nc (x + 1) (by omega)]
          by_cases e2 : x + 1 = p
          · rw [if_pos e2, hm]
            have ex : x = p - 1 := by omega
            rcases hk with z | ⟨t, z⟩ | ⟨t, z⟩
            · exact absurd z hc
            · have := (h.near_top t z (.inr ex)).1; rw [e2] at u3; omega
            · have := h.near_dip t z (.inr ex)
              omega
          · rw [if_neg e2]; exact u3
      · refine .inr (.inr ⟨⟨u0, by rw [callN_len]; exact u1, ?_, ?_⟩, c⟩)
        · rw [nc x x0, if_neg e, nc (x - 1) (by omega)]
          by_cases e2 : x - 1 = p
          · rw [if_pos e2, hm]
            have ex : x = p + 1 := by omega
            rcases hk with z | ⟨t, z⟩ | ⟨t, z⟩
            · exact absurd z hc
            · have := h.near_top t z (.inl ex)
              omega
            · have := (h.near_dip t z (.inl ex)).1; rw [e2] at u2; omega
          · rw [if_neg e2]; exact u2
        · rw [nc x x0, if_neg e, nc (x + 1) (by omega)]
          by_cases e2 : x + 1 = p
          · rw [if_pos e2, hm]
            have ex : x = p - 1 := by omega
            rcases hk with z | ⟨t, z⟩ | ⟨t, z⟩
            · exact absurd z hc
            · have := h.near_top t z (.inr ex)
              omega
            · have := (h.near_dip t z (.inr ex)).1; rw [e2] at u3; omega
          · rw [if_neg e2]; exact u3
  · rw [callN_len] at x1
    rw [nc x x0, nc (x + 1) (by omega)]
    have o := h.ord x x0 x1
    by_cases e : x = p
    · subst e
      rw [if_pos rfl, if_neg (by omega), hm]
      have hl1 := hle (x + 1) (.inl rfl)
      rcases hk with z | ⟨t, z⟩ | ⟨t, z⟩
      · exact absurd z hc
      · have n1 := h.near_top t z (.inl rfl)
        have := hl1.1 t
        omega
      · have n1 := h.near_dip t z (.inl rfl)
        have := hl1.2 t
        omega
    · rw [if_neg e]
      by_cases e2 : x + 1 = p
      · rw [if_pos e2, hm]
        have ex : x = p - 1 := by omega
        have hl1 := hle x (.inr ex)
        rw [e2]
        rcases hk with z | ⟨t, z⟩ | ⟨t, z⟩
        · exact absurd z hc
        · have n1 := h.near_top t z (.inr ex)
          have := hl1.1 t
          omega
        · have n1 := h.near_dip t z (.inr ex)
          have := hl1.2 t
          omega
      · rw [if_neg e2]; exact o
  · rw [callN_len] at x1
    obtain ⟨q, q0, q1, qs, qr⟩ := h.run x x0 x1
    refine ⟨q, q0, by rw [callN_len]; exact q1, ?_, qr⟩
    rw [nc q q0]
    by_cases e : q = p
    · rw [if_pos e, hm, e]
    · rw [if_neg e]; exact qs
/-- who is beside one who stays may be called, and takes the number of the end -/
theorem Keep.can {a b : List Int} {p s : Int} (h : Keep a b) (hs : s = 1 ∨ s = -1) (p0 : 0 ≤ p) (p1 : p < a.length) (q0 : 0 ≤ p + s) (q1 : p + s < a.length) (pn : nat a p ≠ nat b p) (qs : nat a (p + s) = nat b (p + s)) (qe : nat b (p + s) = nat b p) : 0 < p ∧ p + 1 < a.length ∧ midN a p = nat b p ∧ Keep (callN a p) b := by
  have hk := h.chg p p0 p1
  have inn : 0 < p ∧ p + 1 < a.length := by
    rcases hk with z | ⟨⟨t0, t1, _⟩, _⟩ | ⟨⟨t0, t1, _⟩, _⟩
    · exact absurd z pn
    · exact ⟨t0, t1⟩
    · exact ⟨t0, t1⟩
  have em : midN a p = mid3 (nat a (p - 1)) (nat a p) (nat a (p + 1)) := by
    unfold midN
    rw [if_neg (by omega)]
  have fin : midN a p = nat b p ∧ ∀ x : Int, x = p + 1 ∨ x = p - 1 → (IsT a p → nat a x ≤ nat b p) ∧ (IsD a p → nat b p ≤ nat a x) := by
    rcases hk with z | ⟨t, z⟩ | ⟨t, z⟩
    · exact absurd z pn
    · have n1 := h.near_top t z (x := p + 1) (.inl rfl)
      have n2 := h.near_top t z (x := p - 1) (.inr rfl)
      have m := mid3_top (l := nat a (p - 1)) (m := nat a p) (r := nat a (p + 1)) n2.1 n1.1
      rw [← em] at m
      refine ⟨?_, fun x hx => ⟨fun _ => ?_, fun d => ?_⟩⟩
      · rcases hs with rfl | rfl
        · omega
        · rw [show p + -1 = p - 1 by omega] at *; omega
      · rcases hx with rfl | rfl <;> omega
      · have := d.2.2.1; have := t.2.2.1; omega
    · have n1 := h.near_dip t z (x := p + 1) (.inl rfl)
      have n2 := h.near_dip t z (x := p - 1) (.inr rfl)
      have m := mid3_dip (l := nat a (p - 1)) (m := nat a p) (r := nat a (p + 1)) n2.1 n1.1
      rw [← em] at m
      refine ⟨?_, fun x hx => ⟨fun d => ?_, fun _ => ?_⟩⟩
      · rcases hs with rfl | rfl
        · omega
        · rw [show p + -1 = p - 1 by omega] at *; omega
      · have := d.2.2.1; have := t.2.2.1; omega
      · rcases hx with rfl | rfl <;> omega
  exact ⟨inn.1, inn.2, fin.1, h.step inn.1 inn.2 pn fin.1 fin.2⟩
theorem cg_call {a b : List Int} {p : Int} (p0 : 0 ≤ p) (p1 : p < a.length) (pn : nat a p ≠ nat b p) (hm : midN a p = nat b p) : cgL (callN a p) b = (cgL a b).filter fun x => decide (x ≠ p) := by
  unfold cgL
  rw [callN_len, List.filter_filter]
  refine List.filter_congr fun x hx => ?_
  have hx := mem_rngI hx
  unfold cgB
  rw [nat_call p0 p1 (by omega)]
  by_cases e : x = p
  · subst e
    rw [if_pos rfl, hm]
    simp
  · rw [if_neg e]
    simp [e]
theorem len_drop {p : Int} : ∀ {l : List Int}, l.Pairwise (· < ·) → p ∈ l → (l.filter fun x => decide (x ≠ p)).length + 1 = l.length
  | x :: l, hw, hp => by
    have hw := List.pairwise_cons.mp hw
    rw [List.filter_cons]
    by_cases e : x = p
    · subst e
      have : (l.filter fun y => decide (y ≠ x)) = l := List.filter_eq_self.mpr fun y hy => decide_eq_true (by have := hw.1 y hy; omega)
      rw [if_neg (by simp), this]; rfl
    · rcases List.mem_cons.mp hp with z | z
      · exact absurd z.symm e
      · have := len_drop hw.2 z
        rw [if_pos (by simpa using e)]
        simp only [List.length_cons]
        omega
theorem rng_pw (lo : Int) (n : Nat) : (rngI lo n).Pairwise (· < ·) := by
  unfold rngI
  rw [List.pairwise_map]
  exact List.pairwise_lt_range.imp fun h => by omega
theorem cg_pw (a b : List Int) : (cgL a b).Pairwise (· < ·) := (rng_pw 0 _).filter _
/-- b is led to by as many calls as people changed -/
theorem Keep.way : ∀ (k : Nat) {a b : List Int}, Keep a b → (cgL a b).length = k → ∃ tape : List Int, tape.length = k ∧ (∀ i ∈ tape, 0 < i ∧ i + 1 < a.length) ∧ runN a tape = b
  | 0, a, b, h, hk => ⟨[], rfl, fun i hi => (nomatch hi), (cg_nil h.len).mp (List.length_eq_zero_iff.mp hk)⟩
  | k + 1, a, b, h, hk => by
    have ne : a ≠ b := fun e => by
      rw [(cg_nil h.len).mpr e] at hk
      cases hk
    obtain ⟨p, s, hs, p0, p1, q0, q1, pn, qs, qe⟩ := h.beside ne
    obtain ⟨c1, c2, c3, c4⟩ := h.can hs p0 p1 q0 q1 pn qs qe
    have hd := len_drop (cg_pw a b) (cg_mem.mpr ⟨⟨p0, p1⟩, pn⟩)
    obtain ⟨tape, t1, t2, t3⟩ := Keep.way k c4 (by rw [cg_call p0 p1 pn c3]; omega)
    refine ⟨p :: tape, by rw [List.length_cons, t1], fun i hi => ?_, t3⟩
    rcases List.mem_cons.mp hi with rfl | hi
    · exact ⟨c1, c2⟩
    · have := t2 i hi
      rw [callN_len] at this
      exact this
/-- a call that changes something changes one who had not changed yet -/
theorem Keep.more1 {a b : List Int} {i : Int} (h : Keep a b) (h0 : 0 ≤ i) (h1 : i < a.length) (hc : callN b i ≠ b) : (cgL a (callN b i)).length = (cgL a b).length + 1 ∧ 0 < i ∧ i + 1 < a.length ∧ nat a i = nat b i := by
  have hl := h.len
  have inn : (0 < i ∧ i + 1 < a.length) ∧ nat a i = nat b i ∧ midN b i ≠ nat b i := by
    have ni : midN b i ≠ nat b i := fun e => hc ((callN_iff h0 (by omega)).mpr e)
    rcases call_cases (b := b) h0 (by omega) with e | ⟨t, _⟩ | ⟨t, _⟩
    · exact absurd e hc
    · have := h.top t
      exact ⟨⟨t.1, by have := t.2.1; omega⟩, this.2, ni⟩
    · have := h.dip t
      exact ⟨⟨t.1, by have := t.2.1; omega⟩, this.2, ni⟩
  refine ⟨?_, inn.1.1, inn.1.2, inn.2.1⟩
  have e : cgL a b = (cgL a (callN b i)).filter fun x => decide (x ≠ i) := by
    unfold cgL
    rw [List.filter_filter]
    refine List.filter_congr fun x hx => ?_
    have hx := mem_rngI hx
    unfold cgB
    rw [nat_call h0 (by omega) (by omega)]
    by_cases e : x = i
    · subst e
      rw [if_pos rfl, inn.2.1]
      simp
    · rw [if_neg e]
      simp [e]
  have hm : i ∈ cgL a (callN b i) := cg_mem.mpr ⟨⟨h0, h1⟩, by rw [nat_call h0 (by omega) h0, if_pos rfl, inn.2.1]; exact fun z => inn.2.2 z.symm⟩
  have := len_drop (cg_pw a (callN b i)) hm
  rw [← e] at this
  omega
theorem runN_app (a : List Int) (s t : List Int) : runN a (s ++ t) = runN (runN a s) t := List.foldl_append
theorem dist_run {a : List Int} : ∀ (tape : List Int) {b : List Int}, Keep a b → (∀ i ∈ tape, 0 ≤ i ∧ i < a.length) → (cgL a (runN b tape)).length ≤ (cgL a b).length + tape.length
  | [], b, _, _ => Nat.le_refl _
  | i :: tape, b, h, ht => by
    have hi := ht i List.mem_cons_self
    have ih := dist_run tape (h.call hi.1 hi.2) fun j hj => ht j (List.mem_cons_of_mem _ hj)
    show (cgL a (runN (callN b i) tape)).length ≤ _
    rw [List.length_cons]
    by_cases e : callN b i = b
    · rw [e] at ih ⊢; omega
    · have := (h.more1 hi.1 hi.2 e).1; omega
/-- the row before -/
theorem Keep.back {a b : List Int} {k : Nat} (h : Keep a b) (hk : (cgL a b).length = k + 1) : ∃ (c : List Int) (i : Int), Keep a c ∧ (cgL a c).length = k ∧ 0 < i ∧ i + 1 < a.length ∧ callN c i = b := by
  obtain ⟨tape, t1, t2, t3⟩ := Keep.way (k + 1) h hk
  have t2' : ∀ i ∈ tape, 0 ≤ i ∧ i < a.length := fun i hi => by have := t2 i hi; omega
  rcases List.eq_nil_or_concat tape with e | ⟨s, i, e⟩
  · rw [e] at t1; cases t1
  · rw [List.concat_eq_append] at e
    subst e
    have hs : ∀ j ∈ s, 0 ≤ j ∧ j < a.length := fun j hj => t2' j (List.mem_append_left _ hj)
    have hi := t2 i (List.mem_append_right _ List.mem_cons_self)
    have kc := keep_run hs
    rw [runN_app] at t3
    have t3 : callN (runN a s) i = b := t3
    rw [List.length_append] at t1
    have d1 := dist_run s (Keep.refl a) hs
    have d0 : (cgL a a).length = 0 := by rw [(cg_nil rfl).mpr rfl]; rfl
    have d2 := dist_run [i] kc (fun j hj => by rw [List.mem_singleton.mp hj]; omega)
    have d2 : (cgL a (callN (runN a s) i)).length ≤ (cgL a (runN a s)).length + 1 := d2
    rw [t3, hk] at d2
    simp at t1
    exact ⟨runN a s, i, kc, by omega, hi.1, hi.2, t3⟩
end DL
namespace DL
open PySem L2
structure Sta where
  num : Int
  st : Bool
  came : Int
  wide : Bool
  deriving DecidableEq
abbrev Stt := Option Sta
def stD : Stt → D
  | none => .none
  | some s => .tuple [.int s.num, .bool s.st, .int s.came, .bool s.wide]
abbrev Opt := Int × Bool
def opt2D (o : Opt) : D := .tuple [.int o.1, .bool o.2]
def partN (a : List Int) (p : Int) (s : Sta) (o : Opt) (calm : Bool) : Stt :=
  if s.st = false ∨ nat a (p - 1) = nat a p ∨ decide (nat a (p - 1) < nat a p) ≠ decide (s.num < o.1) then none
  else if calm = true ∧ s.wide = false ∧ ¬ (s.came = 0 ∨ s.came = if s.num < o.1 then 1 else -1) then none
  else some ⟨o.1, !o.2, if calm then (if s.num < o.1 then 1 else -1) else 0, false⟩
def nxN (a : List Int) (p : Int) (s : Stt) (o : Opt) (calm : Bool) : Stt := match s with
  | none => some ⟨o.1, !o.2, 0, false⟩
  | some s => if o.1 = s.num then some ⟨s.num, s.st || !o.2, s.came, calm⟩ else partN a p s o calm
theorem part_num {a : List Int} {p : Int} {s : Sta} {o : Opt} {calm : Bool} {t : Sta} (h : partN a p s o calm = some t) : t.num = o.1 := by
  unfold partN at h
  by_cases c1 : s.st = false ∨ nat a (p - 1) = nat a p ∨ decide (nat a (p - 1) < nat a p) ≠ decide (s.num < o.1)
  · rw [if_pos c1] at h; cases h
  · rw [if_neg c1] at h
    by_cases c2 : calm = true ∧ s.wide = false ∧ ¬ (s.came = 0 ∨ s.came = if s.num < o.1 then 1 else -1)
    · rw [if_pos c2] at h; cases h
    · rw [if_neg c2] at h
      injection h with h
      rw [← h]
theorem nx_num {a : List Int} {p : Int} {s : Stt} {o : Opt} {calm : Bool} {t : Sta} (h : nxN a p s o calm = some t) : t.num = o.1 := by
  cases s with
  | none => injection h with h; rw [← h]
  | some s =>
    unfold nxN at h
    dsimp only at h
    by_cases e : o.1 = s.num
    · rw [if_pos e] at h
      injection h with h
      rw [← h]; exact e.symm
    · rw [if_neg e] at h
      exact part_num h
/-- the states after one more person -/
def nxL (a : List Int) (op : List Opt) (p : Int) (s : Stt) (calm : Bool) : List Sta := op.filterMap fun o => nxN a p s o calm
def accB : Stt → Bool
  | none => true
  | some s => s.st
/-- how many ways to go on, r people left, the next one p -/
def cntF (a : List Int) (ops : Int → List Opt) (calm : Bool) : Nat → Int → Stt → Nat
  | 0, _, s => if accB s then 1 else 0
  | r + 1, p, s => ((nxL a (ops p) p s calm).map fun t => cntF a ops calm r (p + 1) (some t)).sum
/-- the numbers that go on so -/
def rowF (a : List Int) (ops : Int → List Opt) (calm : Bool) : Nat → Int → Stt → List (List Int)
  | 0, _, s => if accB s then [[]] else []
  | r + 1, p, s => (nxL a (ops p) p s calm).flatMap fun t => (rowF a ops calm r (p + 1) (some t)).map (t.num :: ·)
theorem row_len (a : List Int) (ops : Int → List Opt) (calm : Bool) : ∀ (r : Nat) (p : Int) (s : Stt), (rowF a ops calm r p s).length = cntF a ops calm r p s
  | 0, p, s => by unfold rowF cntF; split <;> rfl
  | r + 1, p, s => by
    unfold rowF cntF
    rw [List.length_flatMap]
    congr 1
    refine List.map_congr_left fun t _ => ?_
    rw [List.length_map, row_len a ops calm r]
theorem row_each {a : List Int} {ops : Int → List Opt} {calm : Bool} : ∀ {r : Nat} {p : Int} {s : Stt} {c : List Int}, c ∈ rowF a ops calm r p s → c.length = r
  | 0, p, s, c, h => by
    unfold rowF at h
    split at h
    · rw [List.mem_singleton.mp h]; rfl
    · cases h
  | r + 1, p, s, c, h => by
    unfold rowF at h
    obtain ⟨t, _, h1⟩ := List.mem_flatMap.mp h
    obtain ⟨c', h2, rfl⟩ := List.mem_map.mp h1
    rw [List.length_cons, row_each h2]
def AscO (op : List Opt) : Prop := op.Pairwise fun x y => x.1 < y.1
theorem nxL_pw {a : List Int} {op : List Opt} {p : Int} {s : Stt} {calm : Bool} (h : AscO op) : (nxL a op p s calm).Pairwise fun x y => x.num < y.num := by
  unfold nxL
  rw [List.pairwise_filterMap]
  exact h.imp fun {x y} hxy t ht u hu => by rw [nx_num ht, nx_num hu]; exact hxy
theorem cons_lt {x y : Int} {c d : List Int} : x :: c < y :: d ↔ x < y ∨ (x = y ∧ c < d) := List.cons_lt_cons_iff
theorem row_asc {a : List Int} {ops : Int → List Opt} {calm : Bool} (h : ∀ p, AscO (ops p)) : ∀ (r : Nat) (p : Int) (s : Stt), (rowF a ops calm r p s).Pairwise (· < ·)
  | 0, p, s => by
    unfold rowF
    split
    · exact List.pairwise_singleton _ _
    · exact .nil
  | r + 1, p, s => by
    unfold rowF
    rw [List.flatMap_def, List.pairwise_flatten]
    refine ⟨fun l hl => ?_, ?_⟩
    · obtain ⟨t, _, rfl⟩ := List.mem_map.mp hl
      rw [List.pairwise_map]
      exact (row_asc h r (p + 1) (some t)).imp fun hc => cons_lt.mpr (.inr ⟨rfl, hc⟩)
    · rw [List.pairwise_map]
      refine (nxL_pw (h p)).imp fun {t u} htu c hc d hd => ?_
      obtain ⟨c', _, rfl⟩ := List.mem_map.mp hc
      obtain ⟨d', _, rfl⟩ := List.mem_map.mp hd
      exact cons_lt.mpr (.inl htu)
theorem lt_irr (c : List Int) : ¬ c < c := List.lt_irrefl c
theorem row_nodup {a : List Int} {ops : Int → List Opt} {calm : Bool} (h : ∀ p, AscO (ops p)) (r : Nat) (p : Int) (s : Stt) : (rowF a ops calm r p s).Nodup := (row_asc h r p s).imp fun {x y} hxy e => by rw [e] at hxy; exact lt_irr y hxy
/-- two ascending lists of the same members are one -/
theorem asc_rows : ∀ {xs ys : List (List Int)}, xs.Pairwise (· < ·) → ys.Pairwise (· < ·) → (∀ c, c ∈ xs ↔ c ∈ ys) → xs = ys
  | [], [], _, _, _ => rfl
  | [], y :: ys, _, _, h => absurd ((h y).mpr List.mem_cons_self) (fun z => nomatch z)
  | x :: xs, [], _, _, h => absurd ((h x).mp List.mem_cons_self) (fun z => nomatch z)
  | x :: xs, y :: ys, hx, hy, h => by
    have hx := List.pairwise_cons.mp hx
    have hy := List.pairwise_cons.mp hy
    have as : ∀ {c d : List Int}, c < d → ¬ d < c := fun h1 h2 => lt_irr _ (List.lt_trans h1 h2)
    have e : x = y := by
      rcases List.mem_cons.mp ((h x).mp List.mem_cons_self) with e | e
      · exact e
      · rcases List.mem_cons.mp ((h y).mpr List.mem_cons_self) with e2 | e2
        · exact e2.symm
        · exact absurd (hx.1 y e2) (as (hy.1 x e))
    subst e
    congr 1
    refine asc_rows hx.2 hy.2 fun c => ⟨fun hc => ?_, fun hc => ?_⟩
    · rcases List.mem_cons.mp ((h c).mp (List.mem_cons_of_mem _ hc)) with e | e
      · subst e; exact absurd (hx.1 c hc) (lt_irr c)
      · exact e
    · rcases List.mem_cons.mp ((h c).mpr (List.mem_cons_of_mem _ hc)) with e | e
      · subst e; exact absurd (hy.1 c hc) (lt_irr c)
      · exact e
end DL
namespace DL
open PySem L2
instance (a : List Int) (p : Int) : Decidable (IsT a p) := by unfold IsT; infer_instance
instance (a : List Int) (p : Int) : Decidable (IsD a p) := by unfold IsD; infer_instance
def optA (a : List Int) (p : Int) : List Opt :=
  if IsT a p then (((srtU a).filter fun x => decide (x < nat a p)).map fun x => (x, true)) ++ [(nat a p, false)]
  else if IsD a p then (nat a p, false) :: ((srtU a).filter fun x => decide (nat a p < x)).map fun x => (x, true)
  else [(nat a p, false)]
theorem not_td {a : List Int} {p : Int} (t : IsT a p) (d : IsD a p) : False := by have := t.2.2.1; have := d.2.2.1; omega
theorem optA_mem {a : List Int} {p x : Int} {c : Bool} : (x, c) ∈ optA a p ↔ (c = false ∧ x = nat a p) ∨ (c = true ∧ x ∈ a ∧ ((IsT a p ∧ x < nat a p) ∨ (IsD a p ∧ nat a p < x))) := by
  unfold optA
  by_cases t : IsT a p
  · rw [if_pos t, List.mem_append, List.mem_map, List.mem_singleton]
    constructor
    · rintro (⟨y, hy, e⟩ | e)
      · cases e
        obtain ⟨h1, h2⟩ := List.mem_filter.mp hy
        exact .inr ⟨rfl, mem_srtU.mp h1, .inl ⟨t, of_decide_eq_true h2⟩⟩
      · cases e; exact .inl ⟨rfl, rfl⟩
    · rintro (⟨rfl, rfl⟩ | ⟨rfl, h1, ⟨_, h2⟩ | ⟨d, _⟩⟩)
      · exact .inr rfl
      · exact .inl ⟨x, List.mem_filter.mpr ⟨mem_srtU.mpr h1, decide_eq_true h2⟩, rfl⟩
      · exact (not_td t d).elim
  · rw [if_neg t]
    by_cases d : IsD a p
    · rw [if_pos d, List.mem_cons, List.mem_map]
      constructor
      · rintro (e | ⟨y, hy, e⟩)
        · cases e; exact .inl ⟨rfl, rfl⟩
        · cases e
          obtain ⟨h1, h2⟩ := List.mem_filter.mp hy
          exact .inr ⟨rfl, mem_srtU.mp h1, .inr ⟨d, of_decide_eq_true h2⟩⟩
      · rintro (⟨rfl, rfl⟩ | ⟨rfl, h1, ⟨z, _⟩ | ⟨_, h2⟩⟩)
        · exact .inl rfl
        · exact (t z).elim
        · exact .inr ⟨x, List.mem_filter.mpr ⟨mem_srtU.mpr h1, decide_eq_true h2⟩, rfl⟩
    · rw [if_neg d, List.mem_singleton]
      constructor
      · intro e; cases e; exact .inl ⟨rfl, rfl⟩
      · rintro (⟨rfl, rfl⟩ | ⟨rfl, _, ⟨z, _⟩ | ⟨z, _⟩⟩)
        · rfl
        · exact (t z).elim
        · exact (d z).elim
theorem optA_asc (a : List Int) (p : Int) : AscO (optA a p) := by
  unfold AscO optA
  have s1 : ∀ f : Int → Bool, (((srtU a).filter f).map fun x => ((x, true) : Opt)).Pairwise fun x y => x.1 < y.1 := fun f => by
    rw [List.pairwise_map]
    exact asc_srtU.filter _
  split
  · rw [List.pairwise_append]
    refine ⟨s1 _, List.pairwise_singleton _ _, fun x hx y hy => ?_⟩
    obtain ⟨z, hz, rfl⟩ := List.mem_map.mp hx
    rw [List.mem_singleton.mp hy]
    exact of_decide_eq_true (List.mem_filter.mp hz).2
  · split
    · rw [List.pairwise_cons]
      refine ⟨fun x hx => ?_, s1 _⟩
      obtain ⟨z, hz, rfl⟩ := List.mem_map.mp hx
      exact of_decide_eq_true (p := nat a p < z) (List.mem_filter.mp hz).2
    · exact List.pairwise_singleton _ _
def OptOk (a b : List Int) (k : Nat) : Prop := (nat b k, !decide (nat a k = nat b k)) ∈ optA a k
def stayB (a b : List Int) : Nat → Bool
  | 0 => decide (nat a (0 : Nat) = nat b (0 : Nat))
  | k + 1 => if nat b ((k + 1 : Nat) : Int) = nat b (k : Nat) then stayB a b k || decide (nat a ((k + 1 : Nat) : Int) = nat b ((k + 1 : Nat) : Int)) else decide (nat a ((k + 1 : Nat) : Int) = nat b ((k + 1 : Nat) : Int))
def stAt (a b : List Int) : Nat → Stt
  | 0 => none
  | k + 1 => some ⟨nat b (k : Nat), stayB a b k, 0, false⟩
/-- the step to person k + 1 is fine -/
def PartOk (a b : List Int) (k : Nat) : Prop := nat b (k : Nat) ≠ nat b ((k + 1 : Nat) : Int) → nat a (k : Nat) ≠ nat a ((k + 1 : Nat) : Int) ∧ (nat a (k : Nat) < nat a ((k + 1 : Nat) : Int) ↔ nat b (k : Nat) < nat b ((k + 1 : Nat) : Int)) ∧ stayB a b k = true
def StepOk (a b : List Int) : Nat → Prop
  | 0 => True
  | k + 1 => PartOk a b k
theorem dec_iff {p q : Prop} [Decidable p] [Decidable q] : decide p = decide q ↔ (p ↔ q) := decide_eq_decide
theorem nx_at {a b : List Int} : ∀ (k : Nat), (StepOk a b k → nxN a k (stAt a b k) (nat b k, !decide (nat a k = nat b k)) false = stAt a b (k + 1)) ∧ (¬ StepOk a b k → nxN a k (stAt a b k) (nat b k, !decide (nat a k = nat b k)) false = none)
  | 0 => by
    refine ⟨fun _ => ?_, fun h => absurd True.intro h⟩
    show some (Sta.mk _ _ 0 false) = some (Sta.mk _ _ 0 false)
    unfold stayB
    simp
  | k + 1 => by
    have e : nxN a ((k + 1 : Nat) : Int) (stAt a b (k + 1)) (nat b ((k + 1 : Nat) : Int), !decide (nat a ((k + 1 : Nat) : Int) = nat b ((k + 1 : Nat) : Int))) false = if nat b ((k + 1 : Nat) : Int) = nat b (k : Nat) then some ⟨nat b (k : Nat), stayB a b k || !!decide (nat a ((k + 1 : Nat) : Int) = nat b ((k + 1 : Nat) : Int)), 0, false⟩ else partN a ((k + 1 : Nat) : Int) ⟨nat b (k : Nat), stayB a b k, 0, false⟩ (nat b ((k + 1 : Nat) : Int), !decide (nat a ((k + 1 : Nat) : Int) = nat b ((k + 1 : Nat) : Int))) false := rfl
    rw [e]
    have ek : ((k + 1 : Nat) : Int) - 1 = (k : Nat) := by omega
    by_cases c : nat b ((k + 1 : Nat) : Int) = nat b (k : Nat)
    · rw [if_pos c]
      refine ⟨fun _ => ?_, fun h => absurd (fun z => absurd c.symm z) h⟩
      show some _ = some (Sta.mk (nat b ((k + 1 : Nat) : Int)) (stayB a b (k + 1)) 0 false)
      have s1 : stayB a b (k + 1) = (stayB a b k || decide (nat a ((k + 1 : Nat) : Int) = nat b ((k + 1 : Nat) : Int))) := by
        show (if nat b ((k + 1 : Nat) : Int) = nat b (k : Nat) then _ else _) = _
        rw [if_pos c]
      rw [s1, Bool.not_not, c]
    · rw [if_neg c]
      unfold partN
      dsimp only
      rw [ek]
      refine ⟨fun h => ?_, fun h => ?_⟩
      · obtain ⟨h1, h2, h3⟩ := h fun z => c z.symm
        rw [if_neg (by
          rintro (z | z | z)
          · rw [h3] at z; cases z
          · exact h1 z
          · exact z (dec_iff.mpr h2)), if_neg (by rintro ⟨z, _⟩; cases z)]
        show some _ = some (Sta.mk (nat b ((k + 1 : Nat) : Int)) (stayB a b (k + 1)) 0 false)
        have s1 : stayB a b (k + 1) = decide (nat a ((k + 1 : Nat) : Int) = nat b ((k + 1 : Nat) : Int)) := by
          show (if nat b ((k + 1 : Nat) : Int) = nat b (k : Nat) then _ else _) = _
          rw [if_neg c]
        rw [s1, Bool.not_not]
        rfl
      · rw [if_pos]
        by_cases z1 : stayB a b k = false
        · exact .inl z1
        · by_cases z2 : nat a (k : Nat) = nat a ((k + 1 : Nat) : Int)
          · exact .inr (.inl z2)
          · refine .inr (.inr fun z => h fun _ => ⟨z2, dec_iff.mp z, ?_⟩)
            cases e2 : stayB a b k with
            | true => rfl
            | false => exact absurd e2 z1
theorem opt_flag {a : List Int} {p x : Int} {c : Bool} (h : (x, c) ∈ optA a p) : c = !decide (nat a p = x) := by
  rcases optA_mem.mp h with ⟨rfl, rfl⟩ | ⟨rfl, _, ⟨_, h⟩ | ⟨_, h⟩⟩
  · simp
  · rw [decide_eq_false (by omega)]; rfl
  · rw [decide_eq_false (by omega)]; rfl
theorem drop_at {b : List Int} {k : Nat} (h : k < b.length) : b.drop k = nat b k :: b.drop (k + 1) := by
  rw [List.drop_eq_getElem_cons h]
  congr 1
  unfold nat
  rw [Int.toNat_natCast, List.getElem?_eq_getElem h]; rfl
theorem row_path {a b : List Int} : ∀ (r k : Nat), k + r = b.length → (b.drop k ∈ rowF a (optA a) false r k (stAt a b k) ↔ (∀ p, k ≤ p → p < b.length → OptOk a b p ∧ StepOk a b p) ∧ accB (stAt a b b.length) = true)
  | 0, k, h => by
    have e : k = b.length := by omega
    subst e
    rw [List.drop_length]
    show [] ∈ (if accB (stAt a b b.length) then [[]] else []) ↔ _
    constructor
    · intro hm
      refine ⟨fun p h1 h2 => absurd h1 (by omega), ?_⟩
      by_cases z : accB (stAt a b b.length) = true
      · exact z
      · rw [if_neg z] at hm; cases hm
    · intro ⟨_, z⟩
      rw [if_pos z]; exact List.mem_singleton.mpr rfl
  | r + 1, k, h => by
    have hk : k < b.length := by omega
    have ih := row_path (a := a) (b := b) r (k + 1) (by omega)
    rw [drop_at hk]
    have rs : rowF a (optA a) false (r + 1) k (stAt a b k) = (nxL a (optA a k) k (stAt a b k) false).flatMap fun t => (rowF a (optA a) false r ((k + 1 : Nat) : Int) (some t)).map (t.num :: ·) := rfl
    rw [rs, List.mem_flatMap]
    obtain ⟨n1, n2⟩ := nx_at (a := a) (b := b) k
    constructor
    · rintro ⟨t, ht, hm⟩
      obtain ⟨c, hc, e⟩ := List.mem_map.mp hm
      injection e with e1 e2
      subst e2
      obtain ⟨o, ho, hn⟩ := List.mem_filterMap.mp ht
      have en := nx_num hn
      obtain ⟨x, f⟩ := o
      have ex : x = nat b k := by rw [← e1, en]
      subst ex
      have ef := opt_flag ho
      subst ef
      have so : StepOk a b k := by
        by_cases z : StepOk a b k
        · exact z
        · rw [n2 z] at hn; cases hn
      rw [n1 so] at hn
      rw [← hn] at hc
      obtain ⟨i1, i2⟩ := ih.mp hc
      refine ⟨fun p h1 h2 => ?_, i2⟩
      by_cases e : p = k
      · subst e; exact ⟨ho, so⟩
      · exact i1 p (by omega) h2
    · intro ⟨h1, h2⟩
      obtain ⟨ho, so⟩ := h1 k (Nat.le_refl _) hk
      have hm := ih.mpr ⟨fun p h3 h4 => h1 p (by omega) h4, h2⟩
      exact ⟨⟨nat b (k : Nat), stayB a b k, 0, false⟩, List.mem_filterMap.mpr ⟨_, ho, n1 so⟩, List.mem_map.mpr ⟨_, hm, rfl⟩⟩
/-- somebody of the run up to k stayed -/
theorem stay_iff {a b : List Int} : ∀ (k : Nat), stayB a b k = true ↔ ∃ q : Nat, q ≤ k ∧ nat a (q : Nat) = nat b (q : Nat) ∧ ∀ r : Nat, q ≤ r → r ≤ k → nat b (r : Nat) = nat b (k : Nat)
  | 0 => by
    unfold stayB
    rw [decide_eq_true_eq]
    constructor
    · intro h; exact ⟨0, Nat.le_refl 0, h, fun r h1 h2 => by rw [show r = 0 by omega]⟩
    · rintro ⟨q, h1, h2, _⟩
      rw [show q = 0 by omega] at h2; exact h2
  | k + 1 => by
    have ih := stay_iff (a := a) (b := b) k
    show (if nat b ((k + 1 : Nat) : Int) = nat b (k : Nat) then _ else _) = true ↔ _
    by_cases c : nat b ((k + 1 : Nat) : Int) = nat b (k : Nat)
    · rw [if_pos c, Bool.or_eq_true, decide_eq_true_eq, ih]
      constructor
      · rintro (⟨q, h1, h2, h3⟩ | h)
        · refine ⟨q, by omega, h2, fun r h4 h5 => ?_⟩
          by_cases e : r = k + 1
          · rw [e]
          · rw [c]; exact h3 r h4 (by omega)
        · exact ⟨k + 1, Nat.le_refl _, h, fun r h1 h2 => by rw [show r = k + 1 by omega]⟩
      · rintro ⟨q, h1, h2, h3⟩
        by_cases e : q = k + 1
        · subst e; exact .inr h2
        · refine .inl ⟨q, by omega, h2, fun r h4 h5 => ?_⟩
          rw [h3 r h4 (by omega), c]
    · rw [if_neg c, decide_eq_true_eq]
      constructor
      · intro h; exact ⟨k + 1, Nat.le_refl _, h, fun r h1 h2 => by rw [show r = k + 1 by omega]⟩
      · rintro ⟨q, h1, h2, h3⟩
        by_cases e : q = k + 1
        · subst e; exact h2
        · exact absurd (h3 k (by omega) (by omega)).symm c
theorem nat_mem {a : List Int} {p : Int} (h0 : 0 ≤ p) (h1 : p < a.length) : nat a p ∈ a := by
  unfold nat
  have : p.toNat < a.length := by omega
  rw [List.getElem?_eq_getElem this]
  exact List.getElem_mem this
theorem keep_path {a b : List Int} (hl : b.length = a.length) : Keep a b ↔ (∀ p, 0 ≤ p → p < b.length → OptOk a b p ∧ StepOk a b p) ∧ accB (stAt a b b.length) = true := by
  constructor
  · intro h
    have stay : ∀ k : Nat, k < a.length → (k + 1 = a.length ∨ nat b ((k + 1 : Nat) : Int) ≠ nat b (k : Nat)) → stayB a b k = true := fun k hk hn => by
      obtain ⟨q, q0, q1, qs, qr⟩ := h.run k (by omega) (by omega)
      have hq : q ≤ k := by
        by_cases z : q ≤ k
        · exact z
        · rcases hn with hn | hn
          · omega
          · exact absurd (qr ((k + 1 : Nat) : Int) (by unfold Btw; omega)) hn
      refine (stay_iff k).mpr ⟨q.toNat, by omega, by rw [show ((q.toNat : Nat) : Int) = q by omega]; exact qs, fun r h1 h2 => qr r (by unfold Btw; omega)⟩
    refine ⟨fun p _ hp => ⟨?_, ?_⟩, ?_⟩
    · unfold OptOk
      rw [optA_mem]
      rcases h.chg p (by omega) (by omega) with c | ⟨t, c⟩ | ⟨t, c⟩
      · exact .inl ⟨by rw [decide_eq_true c]; rfl, c.symm⟩
      · obtain ⟨q, q0, q1, qs, qr⟩ := h.run p (by omega) (by omega)
        have hb : nat b p ∈ a := by
          have : nat b q = nat b p := qr q (by unfold Btw; omega)
          rw [← this, ← qs]; exact nat_mem q0 q1
        exact .inr ⟨by rw [decide_eq_false (by omega)]; rfl, hb, .inl ⟨t, c⟩⟩
      · obtain ⟨q, q0, q1, qs, qr⟩ := h.run p (by omega) (by omega)
        have hb : nat b p ∈ a := by
          have : nat b q = nat b p := qr q (by unfold Btw; omega)
          rw [← this, ← qs]; exact nat_mem q0 q1
        exact .inr ⟨by rw [decide_eq_false (by omega)]; rfl, hb, .inr ⟨t, c⟩⟩
    · cases p with
      | zero => exact True.intro
      | succ k =>
        intro hn
        have o := h.ord k (by omega) (by omega)
        rw [show (k : Int) + 1 = ((k + 1 : Nat) : Int) by omega] at o
        exact ⟨by omega, by omega, stay k (by omega) (.inr fun z => hn z.symm)⟩
    · rw [hl]
      cases e : a.length with
      | zero => rfl
      | succ k => exact stay k (by omega) (.inl e.symm)
  · intro ⟨h1, h2⟩
    refine ⟨hl, fun p p0 p1 => ?_, fun p p0 p1 => ?_, fun p p0 p1 => ?_⟩
    · obtain ⟨ho, _⟩ := h1 p.toNat (Nat.zero_le _) (by omega)
      unfold OptOk at ho
      rw [show ((p.toNat : Nat) : Int) = p by omega] at ho
      rcases optA_mem.mp ho with ⟨_, z⟩ | ⟨_, _, z | z⟩
      · exact .inl z.symm
      · exact .inr (.inl z)
      · exact .inr (.inr z)
    · obtain ⟨_, so⟩ := h1 (p.toNat + 1) (Nat.zero_le _) (by omega)
      have so : PartOk a b p.toNat := so
      unfold PartOk at so
      rw [show ((p.toNat + 1 : Nat) : Int) = p + 1 by omega, show ((p.toNat : Nat) : Int) = p by omega] at so
      by_cases e : nat b p = nat b (p + 1)
      · omega
      · have := so e; omega
    · -- the end of the run of p
      have go : ∀ (m k : Nat), k + m + 1 = a.length → ∃ e : Nat, k ≤ e ∧ e < a.length ∧ stayB a b e = true ∧ ∀ r : Nat, k ≤ r → r ≤ e → nat b (r : Nat) = nat b (k : Nat) := by
        intro m
        induction m with
        | zero =>
          intro k hk
          refine ⟨k, Nat.le_refl _, by omega, ?_, fun r h3 h4 => by rw [show r = k by omega]⟩
          rw [hl, show a.length = k + 1 by omega] at h2
          exact h2
        | succ m ih =>
          intro k hk
          by_cases c : nat b (k : Nat) = nat b ((k + 1 : Nat) : Int)
          · obtain ⟨e, h3, h4, h5, h6⟩ := ih (k + 1) (by omega)
            refine ⟨e, by omega, h4, h5, fun r h7 h8 => ?_⟩
            by_cases e2 : r = k
            · rw [e2]
            · rw [h6 r (by omega) h8, c]
          · obtain ⟨_, so⟩ := h1 (k + 1) (Nat.zero_le _) (by omega)
            exact ⟨k, Nat.le_refl _, by omega, (so c).2.2, fun r h3 h4 => by rw [show r = k by omega]⟩
      obtain ⟨e, h3, h4, h5, h6⟩ := go (a.length - 1 - p.toNat) p.toNat (by omega)
      obtain ⟨q, g1, g2, g3⟩ := (stay_iff e).mp h5
      refine ⟨q, by omega, by omega, g2, fun r hr => ?_⟩
      have ep : ((p.toNat : Nat) : Int) = p := by omega
      have he : nat b (e : Nat) = nat b p := by rw [← ep]; exact h6 e h3 (Nat.le_refl _)
      have r0 : 0 ≤ r := by unfold Btw at hr; omega
      have er : ((r.toNat : Nat) : Int) = r := by omega
      rw [← er]
      by_cases c : r.toNat ≤ e ∧ p.toNat ≤ r.toNat
      · rw [h6 r.toNat c.2 c.1, ep]
      · rw [g3 r.toNat (by unfold Btw at hr; omega) (by unfold Btw at hr; omega), he]
theorem row_keep {a b : List Int} : b ∈ rowF a (optA a) false a.length 0 none ↔ Keep a b := by
  constructor
  · intro h
    have hl : b.length = a.length := row_each h
    refine (keep_path hl).mpr ?_
    have := (row_path (a := a) (b := b) a.length 0 (by omega)).mp (by rw [List.drop_zero]; exact h)
    exact this
  · intro h
    have hl := h.len
    have := (row_path (a := a) (b := b) a.length 0 (by omega)).mpr ((keep_path hl).mp h)
    rw [List.drop_zero] at this
    exact this
end DL
namespace DL
open PySem L2
theorem lc_emb {α : Type} {vs : List Nat} {k : GG} {t : GT} {e : GE} {ρ : Rho} {emb out : α → D} (p : α → Bool) : ∀ {as : List α}, (∀ a ∈ as, ∃ ρ1, k (emb a) ρ = some ρ1 ∧ wipeR ρ1 vs = ρ ∧ t ρ1 = .ok (p a) ρ1 ∧ (p a = true → e ρ1 = .ok (out a) ρ1)) → lcL vs k t e (as.map emb) ρ = .ok ((as.filter p).map out) ρ
  | [], _ => rfl
  | a :: as, h => by
    obtain ⟨ρ1, e1, ew, et, ee⟩ := h a List.mem_cons_self
    have ih := lc_emb (as := as) p fun x hx => h x (List.mem_cons_of_mem _ hx)
    rw [List.map_cons]
    unfold lcL
    rw [e1]
    dsimp only
    cases hp : p a with
    | true => rw [et, R.ok_bind, hp, if_pos rfl, ee hp, R.ok_bind, ew, ih, List.filter_cons, if_pos hp]; rfl
    | false => rw [et, R.ok_bind, hp, if_neg Bool.false_ne_true, ew, ih, List.filter_cons, if_neg (by rw [hp]; simp)]
theorem lc_emb1 {α : Type} {vs : List Nat} {k : GG} {e : GE} {ρ : Rho} {emb out : α → D} {as : List α} (h : ∀ a ∈ as, ∃ ρ1, k (emb a) ρ = some ρ1 ∧ wipeR ρ1 vs = ρ ∧ e ρ1 = .ok (out a) ρ1) : lcL vs k gYes e (as.map emb) ρ = .ok (as.map out) ρ := by
  have := lc_emb (vs := vs) (k := k) (t := gYes) (e := e) (ρ := ρ) (emb := emb) (out := out) (fun _ => true) (as := as) fun a ha => by
    obtain ⟨ρ1, e1, e2, e3⟩ := h a ha
    exact ⟨ρ1, e1, e2, rfl, fun _ => e3⟩
  rw [this, List.filter_eq_self.mpr fun _ _ => rfl]
end DL
namespace DL
open PySem L2
open PySem.W (dataLe AllAlike Sortable alike alikeAll dataLt)
theorem sort_all {β : Type} {enc : β → D} {l m : List β} {x : D} (lt : β → β → Prop) (ei : itemsSD x = some (l.map enc)) (hs : sortableB (l.map enc) = true) (hn : ∀ b ∈ l, noD (enc b) = true ∧ (enc b).depth ≤ 50) (hp : l.Perm m) (hm : m.Pairwise lt) (hle : ∀ b c, dataLe false enc b c = true → ¬ lt c b) :
    sortDD [x] = some (m.map enc) := by
  show (match itemsSD x with
    | some ds => if sortableB ds = true ∧ (ds.all fun d => noD d && decide (d.depth ≤ 50)) = true then some (ds.mergeSort (dataLe false id)) else none
    | none => none) = _
  rw [ei]
  dsimp only
  rw [if_pos ⟨hs, List.all_eq_true.mpr fun d hd => by
    obtain ⟨b, hb, rfl⟩ := List.mem_map.mp hd
    obtain ⟨h1, h2⟩ := hn b hb
    rw [h1, decide_eq_true h2]; rfl⟩]
  congr 1
  have sm := PySem.W.sort_maps (r := dataLe false enc) (s := dataLe false id) enc (l := l) (fun _ _ _ _ => rfl)
  rw [← sm]
  congr 1
  have pp : (l.mergeSort (dataLe false enc)).Perm m := (List.mergeSort_perm _ _).trans hp
  have pw := PySem.W.sort_pairwise (PySem.W.sortLe_total (PyProof.Rows.listOrd PyProof.Rows.itemOrd) false fun b => PySem.W.keyToks (enc b)) l
  have pw : (l.mergeSort (dataLe false enc)).Pairwise fun b c => dataLe false enc b c = true := pw
  have go : ∀ {xs ys : List β}, xs.Perm ys → xs.Pairwise (fun b c => dataLe false enc b c = true) → ys.Pairwise lt → xs = ys := by
    intro xs
    induction xs with
    | nil => intro ys h _ _; exact (List.nil_perm.mp h).symm
    | cons b bs ih =>
      intro ys h1 h2 h3
      cases ys with
      | nil => exact absurd h1.length_eq (by simp)
      | cons c cs =>
        have h2 := List.pairwise_cons.mp h2
        have h3' := List.pairwise_cons.mp h3
        have e : b = c := by
          have hb : b ∈ c :: cs := h1.mem_iff.mp List.mem_cons_self
          have hc : c ∈ b :: bs := h1.mem_iff.mpr List.mem_cons_self
          rcases List.mem_cons.mp hb with e | hb
          · exact e
          · rcases List.mem_cons.mp hc with e | hc
            · exact e.symm
            · exact absurd (h3'.1 b hb) (hle b c (h2.1 c hc))
        subst e
        rw [ih h1.cons_inv h2.2 h3'.2]
  exact go pp pw hm
theorem opt_alike (o q : Opt) : alike (opt2D o) (opt2D q) = true := by simp [opt2D, alike, alikeAll]
theorem dataLt_opt (o q : Opt) (h : o.1 < q.1) : dataLt (opt2D o) (opt2D q) = true := by
  unfold opt2D
  rw [PySem.W.dataLt_pair (by simp [alike]) (by simp [alike])]
  rw [if_neg (by simp [PyData.eqv]; omega), PySem.W.dataLt_int]
  exact decide_eq_true h
theorem sort_opts {os ms : List Opt} (hp : os.Perm ms) (hm : AscO ms) : sortDD [.list (os.map opt2D)] = some (ms.map opt2D) := by
  refine sort_all (enc := opt2D) (fun x y : Opt => x.1 < y.1) rfl ?_ (fun o _ => ⟨rfl, by simp [opt2D, PyData.depth, PyData.depthAll]⟩) hp hm fun o q h hlt => ?_
  · unfold sortableB
    rw [Bool.or_eq_true]
    refine .inr ?_
    rw [Bool.and_eq_true, List.all_eq_true, List.all_eq_true]
    refine ⟨fun d hd => List.all_eq_true.mpr fun e he => ?_, fun d hd => ?_⟩
    · obtain ⟨o, _, rfl⟩ := List.mem_map.mp hd
      obtain ⟨q, _, rfl⟩ := List.mem_map.mp he
      exact opt_alike o q
    · obtain ⟨o, _, rfl⟩ := List.mem_map.mp hd
      rfl
  · have h : (!dataLt (opt2D q) (opt2D o)) = true := h
    rw [dataLt_opt q o hlt] at h
    cases h
def rowD (b : List Int) : D := .tuple (b.map .int)
end DL
namespace DL
open PySem PySem.Spec PyProof.Rows L2
end DL
namespace DL
open PySem L2
theorem b2i_inj {a b : Bool} (h : (if a = true then (1 : Int) else 0) = if b = true then 1 else 0) : a = b := by
  cases a <;> cases b <;> simp at h <;> rfl
theorem kk_st : ∀ {s t : Stt}, kkD (stD s) = kkD (stD t) → s = t
  | none, none, _ => rfl
  | none, some t, h => by cases h
  | some s, none, h => by cases h
  | some s, some t, h => by
    obtain ⟨a, b, c, d⟩ := s
    obtain ⟨a', b', c', d'⟩ := t
    have h : some (KK.tp [.num a, .num (if b then 1 else 0), .num c, .num (if d then 1 else 0)]) = some (KK.tp [.num a', .num (if b' then 1 else 0), .num c', .num (if d' then 1 else 0)]) := h
    simp only [Option.some.injEq, KK.tp.injEq, List.cons.injEq, Leaf.num.injEq, and_true] at h
    obtain ⟨h1, h2, h3, h4⟩ := h
    rw [h1, b2i_inj h2, h3, b2i_inj h4]
def insS (l : List Stt) (x : Stt) : List Stt := if x ∈ l then l else l ++ [x]
theorem ins_mem {l : List Stt} {x y : Stt} : y ∈ insS l x ↔ y ∈ l ∨ y = x := by
  unfold insS
  split
  · exact ⟨.inl, fun h => h.elim id fun e => by rw [e]; assumption⟩
  · rw [List.mem_append, List.mem_singleton]
theorem ins_nodup {l : List Stt} {x : Stt} (h : l.Nodup) : (insS l x).Nodup := by
  unfold insS
  split
  · exact h
  · rename_i hx
    exact List.nodup_append.mpr ⟨h, List.pairwise_singleton _ _, fun a ha b hb e => by rw [List.mem_singleton.mp hb] at e; exact hx (by rw [← e]; exact ha)⟩
def insL (acc : List Stt) (ts : List Sta) : List Stt := ts.foldl (fun acc t => insS acc (some t)) acc
theorem insL_mem : ∀ {ts : List Sta} {acc : List Stt} {y : Stt}, y ∈ insL acc ts ↔ y ∈ acc ∨ ∃ t ∈ ts, y = some t
  | [], acc, y => ⟨.inl, fun h => h.elim id fun ⟨t, ht, _⟩ => nomatch ht⟩
  | t :: ts, acc, y => by
    show y ∈ insL (insS acc (some t)) ts ↔ _
    rw [insL_mem, ins_mem]
    constructor
    · rintro ((h | h) | ⟨u, hu, h⟩)
      · exact .inl h
      · exact .inr ⟨t, List.mem_cons_self, h⟩
      · exact .inr ⟨u, List.mem_cons_of_mem _ hu, h⟩
    · rintro (h | ⟨u, hu, h⟩)
      · exact .inl (.inl h)
      · rcases List.mem_cons.mp hu with e | hu
        · subst e; exact .inl (.inr h)
        · exact .inr ⟨u, hu, h⟩
theorem insL_nodup : ∀ {ts : List Sta} {acc : List Stt}, acc.Nodup → (insL acc ts).Nodup
  | [], acc, h => h
  | t :: ts, acc, h => insL_nodup (ts := ts) (ins_nodup h)
def insLL (a : List Int) (op : List Opt) (p : Int) (calm : Bool) (acc : List Stt) (ss : List Stt) : List Stt := ss.foldl (fun acc s => insL acc (nxL a op p s calm)) acc
theorem insLL_mem {a : List Int} {op : List Opt} {p : Int} {calm : Bool} : ∀ {ss acc : List Stt} {y : Stt}, y ∈ insLL a op p calm acc ss ↔ y ∈ acc ∨ ∃ s ∈ ss, ∃ t ∈ nxL a op p s calm, y = some t
  | [], acc, y => ⟨.inl, fun h => h.elim id fun ⟨t, ht, _⟩ => nomatch ht⟩
  | s :: ss, acc, y => by
    show y ∈ insLL a op p calm (insL acc (nxL a op p s calm)) ss ↔ _
    rw [insLL_mem, insL_mem]
    constructor
    · rintro ((h | ⟨t, ht, h⟩) | ⟨u, hu, h⟩)
      · exact .inl h
      · exact .inr ⟨s, List.mem_cons_self, t, ht, h⟩
      · exact .inr ⟨u, List.mem_cons_of_mem _ hu, h⟩
    · rintro (h | ⟨u, hu, h⟩)
      · exact .inl (.inl h)
      · rcases List.mem_cons.mp hu with e | hu
        · subst e; exact .inl (.inr h)
        · exact .inr ⟨u, hu, h⟩
theorem insLL_nodup {a : List Int} {op : List Opt} {p : Int} {calm : Bool} : ∀ {ss acc : List Stt}, acc.Nodup → (insLL a op p calm acc ss).Nodup
  | [], acc, h => h
  | s :: ss, acc, h => insLL_nodup (ss := ss) (insL_nodup h)
def layN (a : List Int) (ops : Int → List Opt) (calm : Bool) : Nat → List Stt
  | 0 => [none]
  | k + 1 => insLL a (ops k) k calm [] (layN a ops calm k)
section
variable {a : List Int} {ops : Int → List Opt} {calm : Bool}
theorem lay_nodup : ∀ k, (layN a ops calm k).Nodup
  | 0 => List.pairwise_singleton _ _
  | k + 1 => insLL_nodup List.nodup_nil
theorem lay_next {k : Nat} {s : Stt} {t : Sta} (hs : s ∈ layN a ops calm k) (ht : t ∈ nxL a (ops k) k s calm) : some t ∈ layN a ops calm (k + 1) := insLL_mem.mpr (.inr ⟨s, hs, t, ht, rfl⟩)
theorem lay_some {k : Nat} {s : Stt} (hs : s ∈ layN a ops calm (k + 1)) : ∃ t, s = some t ∧ ∃ u ∈ layN a ops calm k, t ∈ nxL a (ops k) k u calm := by
  rcases insLL_mem.mp hs with h | ⟨u, hu, t, ht, h⟩
  · cases h
  · exact ⟨t, h, u, hu, ht⟩
def cameOk (s : Stt) : Prop := ∀ t, s = some t → t.came = 0 ∨ t.came = 1 ∨ t.came = -1
theorem part_came {p : Int} {s t : Sta} {o : Opt} (h : partN a p s o calm = some t) : t.came = 0 ∨ t.came = 1 ∨ t.came = -1 := by
  unfold partN at h
  by_cases c1 : s.st = false ∨ nat a (p - 1) = nat a p ∨ decide (nat a (p - 1) < nat a p) ≠ decide (s.num < o.1)
  · rw [if_pos c1] at h; cases h
  · rw [if_neg c1] at h
    by_cases c2 : calm = true ∧ s.wide = false ∧ ¬ (s.came = 0 ∨ s.came = if s.num < o.1 then 1 else -1)
    · rw [if_pos c2] at h; cases h
    · rw [if_neg c2] at h
      injection h with h
      rw [← h]
      dsimp only
      split
      · split
        · exact .inr (.inl rfl)
        · exact .inr (.inr rfl)
      · exact .inl rfl
theorem nx_came {p : Int} {s : Stt} {t : Sta} {o : Opt} (hs : cameOk s) (h : nxN a p s o calm = some t) : t.came = 0 ∨ t.came = 1 ∨ t.came = -1 := by
  cases s with
  | none => injection h with h; rw [← h]; exact .inl rfl
  | some s =>
    unfold nxN at h
    dsimp only at h
    by_cases e : o.1 = s.num
    · rw [if_pos e] at h
      injection h with h
      rw [← h]; exact hs s rfl
    · rw [if_neg e] at h
      exact part_came h
theorem lay_came : ∀ (k : Nat) (s : Stt), s ∈ layN a ops calm k → cameOk s
  | 0, s, hs => fun t e => by rw [List.mem_singleton.mp hs] at e; cases e
  | k + 1, s, hs => fun t e => by
    obtain ⟨u, h, v, hv, hu⟩ := lay_some hs
    rw [e] at h
    cases h
    obtain ⟨o, _, hn⟩ := List.mem_filterMap.mp hu
    exact nx_came (lay_came k v hv) hn
theorem sub_len {α : Type} [DecidableEq α] : ∀ {l m : List α}, l.Nodup → (∀ x ∈ l, x ∈ m) → l.length ≤ m.length
  | [], m, _, _ => Nat.zero_le _
  | x :: l, m, hn, h => by
    have hn := List.nodup_cons.mp hn
    have hx := h x List.mem_cons_self
    have := sub_len (l := l) (m := m.erase x) hn.2 fun y hy => (List.mem_erase_of_ne (fun e => hn.1 (by rw [← e]; exact hy))).mpr (h y (List.mem_cons_of_mem _ hy))
    rw [List.length_erase_of_mem hx] at this
    have : 0 < m.length := List.length_pos_of_mem hx
    rw [List.length_cons]; omega
def allSt (n : Int) : List Stt := [0, 1, -1].flatMap fun c => [false, true].flatMap fun b => [false, true].map fun w => some ⟨n, b, c, w⟩
theorem lay_len (k : Nat) : (layN a ops calm (k + 1)).length ≤ 12 * (ops k).length := by
  have h := sub_len (lay_nodup (a := a) (ops := ops) (calm := calm) (k + 1)) (m := (ops k).flatMap fun o => allSt o.1) fun s hs => by
    obtain ⟨t, rfl, u, hu, ht⟩ := lay_some hs
    obtain ⟨o, ho, hn⟩ := List.mem_filterMap.mp ht
    have hc := lay_came (k + 1) (some t) hs t rfl
    have en := nx_num hn
    obtain ⟨n, b, c, w⟩ := t
    refine List.mem_flatMap.mpr ⟨o, ho, ?_⟩
    have en : n = o.1 := en
    subst en
    unfold allSt
    refine List.mem_flatMap.mpr ⟨c, ?_, List.mem_flatMap.mpr ⟨b, by cases b <;> simp, List.mem_map.mpr ⟨w, by cases w <;> simp, rfl⟩⟩⟩
    have hc : c = 0 ∨ c = 1 ∨ c = -1 := hc
    rcases hc with rfl | rfl | rfl <;> simp
  refine Nat.le_trans h ?_
  rw [List.length_flatMap]
  have go : ∀ os : List Opt, (os.map fun o => (allSt o.1).length).sum = 12 * os.length := fun os => by
    induction os with
    | nil => rfl
    | cons o os ih => rw [List.map_cons, List.sum_cons, ih, List.length_cons, show (allSt o.1).length = 12 from rfl]; omega
  rw [go]; exact Nat.le_refl _
end
end DL
namespace DL
open PySem L2
theorem lf_ints : ∀ b : List Int, lfDs (b.map PyData.int) = some (b.map Leaf.num)
  | [] => rfl
  | x :: b => by
    rw [List.map_cons]
    show (match lfD (.int x), lfDs (b.map PyData.int) with
      | some l, some ls => some (l :: ls)
      | _, _ => none) = _
    rw [lf_ints b]; rfl
theorem kk_row (b : List Int) : kkD (rowD b) = some (.tp (b.map Leaf.num)) := by
  show (lfDs (b.map PyData.int)).map KK.tp = _
  rw [lf_ints]; rfl
theorem kk_row_inj {b c : List Int} (h : kkD (rowD b) = kkD (rowD c)) : b = c := by
  rw [kk_row, kk_row] at h
  simp only [Option.some.injEq, KK.tp.injEq] at h
  exact List.map_inj_right (fun x y e => by injection e) |>.mp h
theorem tp_row (b : List Int) : isTp (rowD b) = true := by
  show (lfDs (b.map PyData.int)).isSome = true
  rw [lf_ints]; rfl
def tabR (f : List Int → D) (l : List (List Int)) : List (D × D) := l.map fun b => (rowD b, f b)
theorem tabR_len (f : List Int → D) (l : List (List Int)) : (tabR f l).length = l.length := List.length_map _
theorem sort_row {f : List Int → D} {l : List (List Int)} (x : List Int) : sortB (rowD x) (tabR f l) = true := by
  unfold sortB tabR
  rw [Bool.or_eq_true, Bool.and_eq_true, Bool.and_eq_true, List.all_eq_true, List.all_eq_true]
  refine .inr ⟨tp_row x, fun p hp => ?_⟩
  obtain ⟨s, hs, rfl⟩ := List.mem_map.mp hp
  exact tp_row s
theorem find_row {f : List Int → D} {x : List Int} : ∀ {l : List (List Int)}, (x ∈ l → dFind (tabR f l) (rowD x) = some (f x)) ∧ (x ∉ l → dFind (tabR f l) (rowD x) = none)
  | [] => ⟨fun h => (nomatch h), fun _ => rfl⟩
  | s :: l => by
    have ih := find_row (f := f) (x := x) (l := l)
    by_cases e : s = x
    · subst e
      refine ⟨fun _ => ?_, fun h => absurd List.mem_cons_self h⟩
      simp [dFind, tabR, List.find?_cons]
    · have b : dFind (tabR f (s :: l)) (rowD x) = dFind (tabR f l) (rowD x) := by
        have ne : ¬ kkD (rowD s) = kkD (rowD x) := fun z => e (kk_row_inj z)
        simp [dFind, tabR, List.find?_cons, ne]
      rw [b]
      refine ⟨fun h => ih.1 ?_, fun h => ih.2 fun z => h (List.mem_cons_of_mem _ z)⟩
      rcases List.mem_cons.mp h with z | z
      · exact absurd z.symm e
      · exact z
theorem get_row {f : List Int → D} {l : List (List Int)} {x : List Int} (hx : x ∈ l) : dGetD (dcD (tabR f l)) (rowD x) = some (f x) := by
  show (if sortB (rowD x) (tabR f l) = true then dFind (tabR f l) (rowD x) else none) = _
  rw [if_pos (sort_row x)]
  exact find_row.1 hx
theorem ni_row {f : List Int → D} {l : List (List Int)} {x : List Int} : dNotInD (rowD x) (dcD (tabR f l)) = some (.bool (!decide (x ∈ l))) := by
  show (if sortB (rowD x) (tabR f l) = true then some (PyData.bool (!(dFind (tabR f l) (rowD x)).isSome)) else none) = _
  rw [if_pos (sort_row x)]
  by_cases h : x ∈ l
  · rw [find_row.1 h, decide_eq_true h]; rfl
  · rw [find_row.2 h, decide_eq_false h]; rfl
theorem put_row {f : List Int → D} {l : List (List Int)} {x : List Int} {d : D} (hd : d = f x) (h : x ∉ l) : dPut (tabR f l) (rowD x) d = tabR f (l ++ [x]) := by
  subst hd
  unfold dPut
  rw [find_row.2 h, if_neg (by simp)]
  unfold tabR
  rw [List.map_append]; rfl
theorem canLay_rows : ∀ l : List (List Int), PyData.canLayAll0 (l.map rowD) = true
  | [] => by simp [PyData.canLayAll0]
  | b :: l => by simp [PyData.canLayAll0, rowD, PyData.canLay0, canLay_ints, canLay_rows l]
theorem depth_rows : ∀ l : List (List Int), PyData.depthAll (l.map rowD) ≤ 1
  | [] => by simp [PyData.depthAll]
  | b :: l => by
    have := depth_rows l
    simp [PyData.depthAll, rowD, PyData.depth, depth_ints]
    omega
theorem shaped_rows (l : List (List Int)) : SeqAt.shaped (.list (l.map rowD)) = true := by
  have := depth_rows l
  unfold SeqAt.shaped
  simp [PyData.canLay0, canLay_rows, PyData.depth]
  omega
theorem ne_rows (l : List (List Int)) : neW (.list (l.map rowD)) (.list []) = some (.bool (!decide (l = []))) := by
  rw [neW_ll (shaped_rows l) (by have := shaped_rows []; exact this)]
  cases l with
  | nil => simp [PyData.eqv, PyData.eqvAll]
  | cons b l => simp [PyData.eqv, PyData.eqvAll]
theorem sum_le {ns : List Nat} {m : Nat} (h : ∀ n ∈ ns, n ≤ m) : ns.sum ≤ ns.length * m := by
  induction ns with
  | nil => simp
  | cons n ns ih =>
    have h1 := h n List.mem_cons_self
    have h2 := ih fun x hx => h x (List.mem_cons_of_mem _ hx)
    rw [List.sum_cons, List.length_cons, Nat.succ_mul]; omega
theorem optA_end {a : List Int} {p : Int} (h : p ≤ 0 ∨ (a.length : Int) - 1 ≤ p) : optA a p = [(nat a p, false)] := by
  have t : ¬ IsT a p := fun t => by have := t.1; have := t.2.1; omega
  have d : ¬ IsD a p := fun t => by have := t.1; have := t.2.1; omega
  unfold optA
  simp [t, d]
theorem nx_len (a : List Int) (op : List Opt) (p : Int) (s : Stt) (calm : Bool) : (nxL a op p s calm).length ≤ op.length := List.length_filterMap_le _ _
theorem cnt_in {a : List Int} {calm : Bool} {m : Nat} (hm : ∀ p, (optA a p).length ≤ m) : ∀ (r : Nat) (p : Int) (s : Stt), p + ((r + 1 : Nat) : Int) = a.length → cntF a (optA a) calm (r + 1) p s ≤ m ^ r
  | 0, p, s, h => by
    have h1 : (optA a p).length = 1 := by rw [optA_end (.inr (by omega))]; rfl
    have h2 := nx_len a (optA a p) p s calm
    show ((nxL a (optA a p) p s calm).map fun t => cntF a (optA a) calm 0 (p + 1) (some t)).sum ≤ m ^ 0
    refine Nat.le_trans (sum_le (m := 1) fun n hn => ?_) ?_
    · obtain ⟨t, _, rfl⟩ := List.mem_map.mp hn
      unfold cntF
      split <;> omega
    · rw [List.length_map, Nat.pow_zero]; omega
  | r + 1, p, s, h => by
    have h2 := nx_len a (optA a p) p s calm
    show ((nxL a (optA a p) p s calm).map fun t => cntF a (optA a) calm (r + 1) (p + 1) (some t)).sum ≤ m ^ (r + 1)
    refine Nat.le_trans (sum_le (m := m ^ r) fun n hn => ?_) ?_
    · obtain ⟨t, _, rfl⟩ := List.mem_map.mp hn
      exact cnt_in hm r (p + 1) (some t) (by omega)
    · rw [List.length_map, Nat.pow_succ, Nat.mul_comm (m ^ r)]
      exact Nat.mul_le_mul_right _ (Nat.le_trans h2 (hm p))
theorem cnt_top {a : List Int} {calm : Bool} {m : Nat} (hm : ∀ p, (optA a p).length ≤ m) (m0 : 1 ≤ m) : cntF a (optA a) calm a.length 0 none ≤ m ^ (a.length - 2) := by
  cases e : a.length with
  | zero =>
    show (if accB none then 1 else 0) ≤ m ^ (0 - 2)
    simp [accB]
  | succ n =>
    cases n with
    | zero =>
      have := cnt_in (calm := calm) hm 0 0 none (by rw [e]; rfl)
      simpa using this
    | succ n =>
      have h1 : (optA a 0).length = 1 := by rw [optA_end (.inl (Int.le_refl 0))]; rfl
      have h2 := nx_len a (optA a 0) 0 none calm
      show ((nxL a (optA a 0) 0 none calm).map fun t => cntF a (optA a) calm (n + 1) (0 + 1) (some t)).sum ≤ m ^ n
      refine Nat.le_trans (sum_le (m := m ^ n) fun x hx => ?_) ?_
      · obtain ⟨t, _, rfl⟩ := List.mem_map.mp hx
        exact cnt_in hm n (0 + 1) (some t) (by omega)
      · rw [List.length_map]
        have := Nat.mul_le_mul_right (m ^ n) (Nat.le_trans h2 (Nat.le_of_eq h1))
        rw [Nat.one_mul] at this
        exact this
def folR (a : List Int) : List (List Int) := rowF a (optA a) false a.length 0 none
theorem fol_mem {a b : List Int} : b ∈ folR a ↔ Keep a b := row_keep
theorem fol_len (a : List Int) : (folR a).length = cntF a (optA a) false a.length 0 none := row_len ..
theorem fol_nodup (a : List Int) : (folR a).Nodup := row_nodup (fun p => optA_asc a p) ..
theorem fol_asc (a : List Int) : (folR a).Pairwise (· < ·) := row_asc (fun p => optA_asc a p) ..
theorem fol_ne (a : List Int) : 0 < (folR a).length := List.length_pos_of_mem (fol_mem.mpr (Keep.refl a))
def dst (a b : List Int) : Nat := (cgL a b).length
theorem dst_le (a b : List Int) : dst a b ≤ a.length := by
  unfold dst cgL
  exact Nat.le_trans (List.length_filter_le _ _) (by rw [rngI_len]; exact Nat.le_refl _)
theorem dst_self (a : List Int) : dst a a = 0 := by
  unfold dst
  rw [(cg_nil rfl).mpr rfl]; rfl
theorem dst_zero {a b : List Int} (h : Keep a b) (hd : dst a b = 0) : b = a := ((cg_nil h.len).mp (List.length_eq_zero_iff.mp hd)).symm
/-- what has been found: all rows of at most i calls; and the layer: those of i calls -/
structure Lay (a : List Int) (i : Nat) (acc lay : List (List Int)) : Prop where
  nd : acc.Nodup
  inn : ∀ b, b ∈ acc ↔ Keep a b ∧ dst a b ≤ i
  last : ∀ b, b ∈ lay ↔ Keep a b ∧ dst a b = i
theorem Lay.start (a : List Int) : Lay a 0 [a] [a] where
  nd := List.pairwise_singleton _ a
  inn := fun b => by
    rw [List.mem_singleton]
    exact ⟨fun h => by rw [h]; exact ⟨Keep.refl a, Nat.le_of_eq (dst_self a)⟩, fun ⟨h1, h2⟩ => dst_zero h1 (by omega)⟩
  last := fun b => by
    rw [List.mem_singleton]
    exact ⟨fun h => by rw [h]; exact ⟨Keep.refl a, dst_self a⟩, fun ⟨h1, h2⟩ => dst_zero h1 h2⟩
theorem Lay.done {a : List Int} {i : Nat} {acc : List (List Int)} (h : Lay a i acc []) : ∀ b, b ∈ acc ↔ Keep a b := by
  have none : ∀ (j : Nat) (b : List Int), Keep a b → dst a b ≠ i + j := by
    intro j
    induction j with
    | zero =>
      intro b hb he
      have := (h.last b).mpr ⟨hb, by omega⟩
      cases this
    | succ j ih =>
      intro b hb he
      obtain ⟨c, p, hc, hd, _, _, _⟩ := hb.back (k := i + j) (by unfold dst at he; omega)
      exact ih c hc hd
  intro b
  rw [h.inn]
  refine ⟨fun z => z.1, fun z => ⟨z, ?_⟩⟩
  by_cases e : dst a b ≤ i
  · exact e
  · exact absurd (show dst a b = i + (dst a b - i) by omega) (none _ b z)
theorem Lay.far {a : List Int} {i : Nat} {acc lay : List (List Int)} (h : Lay a i acc lay) (hi : a.length < i) : lay = [] := by
  cases e : lay with
  | nil => rfl
  | cons b l =>
    have := (h.last b).mp (by rw [e]; exact List.mem_cons_self)
    have := dst_le a b
    omega
/-- a call of one of the layer -/
theorem Lay.call {a c : List Int} {i : Nat} {acc lay : List (List Int)} {p : Int} (h : Lay a i acc lay) (hc : c ∈ lay) (h0 : 0 < p) (h1 : p + 1 < a.length) (hn : callN c p ∉ acc) : Keep a (callN c p) ∧ dst a (callN c p) = i + 1 := by
  obtain ⟨k, hd⟩ := (h.last c).mp hc
  have k2 := k.call (i := p) (by omega) (by omega)
  refine ⟨k2, ?_⟩
  by_cases e : callN c p = c
  · exact absurd ((h.inn _).mpr ⟨k2, by rw [e]; omega⟩) hn
  · have := (k.more1 (i := p) (by omega) (by omega) e).1
    unfold dst at hd ⊢
    omega
/-- the next layer: fur are the new ones, each by a call of one of the layer, and all such calls are found -/
theorem Lay.next {a : List Int} {i : Nat} {acc lay fur : List (List Int)} (h : Lay a i acc lay) (nd : (acc ++ fur).Nodup) (hf : ∀ b ∈ fur, ∃ c ∈ lay, ∃ p : Int, 0 < p ∧ p + 1 < a.length ∧ b = callN c p) (ha : ∀ c ∈ lay, ∀ p : Int, 0 < p → p + 1 < a.length → callN c p ∈ acc ++ fur) : Lay a (i + 1) (acc ++ fur) fur := by
  have hd := (List.nodup_append.mp nd).2.2
  have l1 : ∀ b, b ∈ fur ↔ Keep a b ∧ dst a b = i + 1 := fun b => by
    constructor
    · intro hb
      obtain ⟨c, hc, p, p0, p1, rfl⟩ := hf b hb
      exact h.call hc p0 p1 fun z => hd _ z _ hb rfl
    · intro ⟨k, e⟩
      obtain ⟨c, p, hc, he, p0, p1, rfl⟩ := k.back (k := i) (by unfold dst at e; exact e)
      have := ha c ((h.last c).mpr ⟨hc, he⟩) p p0 p1
      rcases List.mem_append.mp this with z | z
      · have := ((h.inn _).mp z).2
        omega
      · exact z
  refine ⟨nd, fun b => ?_, l1⟩
  rw [List.mem_append, h.inn, l1]
  constructor
  · rintro (⟨k, e⟩ | ⟨k, e⟩)
    · exact ⟨k, by omega⟩
    · exact ⟨k, by omega⟩
  · intro ⟨k, e⟩
    by_cases z : dst a b ≤ i
    · exact .inl ⟨k, z⟩
    · exact .inr ⟨k, by omega⟩
end DL
namespace DL
open PySem L2
def Rest (b : List Int) : Prop := ∀ p : Int, ¬ IsT b p ∧ ¬ IsD b p
end DL
namespace DL
open PySem L2
/-- somebody at p or to the left stayed, and all from there to p are equal -/
def Lft (a b : List Int) (p : Int) : Prop := ∃ q : Int, 0 ≤ q ∧ q ≤ p ∧ nat a q = nat b q ∧ ∀ r : Int, q ≤ r → r ≤ p → nat b r = nat b p
open Classical in
noncomputable def codeN (a b : List Int) (p : Int) : Nat := if nat a p = nat b p then 0 else if Lft a b p then 1 else 2
theorem codeN_lt (a b : List Int) (p : Int) : codeN a b p < 3 := by
  unfold codeN
  split
  · omega
  · split <;> omega
theorem code_0 {a b : List Int} {p : Int} : codeN a b p = 0 ↔ nat a p = nat b p := by
  unfold codeN
  by_cases h : nat a p = nat b p
  · rw [if_pos h]; exact ⟨fun _ => h, fun _ => rfl⟩
  · rw [if_neg h]
    refine ⟨fun z => ?_, fun z => absurd z h⟩
    split at z <;> cases z
theorem code_1 {a b : List Int} {p : Int} : codeN a b p = 1 ↔ nat a p ≠ nat b p ∧ Lft a b p := by
  unfold codeN
  by_cases h : nat a p = nat b p
  · rw [if_pos h]; exact ⟨fun z => (nomatch z), fun z => absurd h z.1⟩
  · rw [if_neg h]
    by_cases l : Lft a b p
    · rw [if_pos l]; exact ⟨fun _ => ⟨h, l⟩, fun _ => rfl⟩
    · rw [if_neg l]; exact ⟨fun z => (nomatch z), fun z => absurd z.2 l⟩
/-- one step to the left within the run -/
theorem Lft.step {a b : List Int} {p : Int} (h : Lft a b p) (hn : nat a p ≠ nat b p) : 0 ≤ p - 1 ∧ nat b (p - 1) = nat b p ∧ Lft a b (p - 1) := by
  obtain ⟨q, q0, q1, qs, qr⟩ := h
  have ne : q ≠ p := fun z => hn (by rw [← z]; exact qs)
  have e := qr (p - 1) (by omega) (by omega)
  exact ⟨by omega, e, q, q0, by omega, qs, fun r h1 h2 => by rw [e]; exact qr r h1 (by omega)⟩
theorem Keep.end0 {a b : List Int} (h : Keep a b) {p : Int} (h0 : 0 ≤ p) (h1 : p < a.length) (he : p = 0 ∨ p + 1 = a.length) : nat a p = nat b p := by
  rcases h.chg p h0 h1 with z | ⟨t, _⟩ | ⟨t, _⟩
  · exact z
  · have := t.1; have := t.2.1; omega
  · have := t.1; have := t.2.1; omega
theorem code_left {a b c : List Int} (hb : Keep a b) (hc : Keep a c) (hk : ∀ p : Int, 0 < p → p + 1 < a.length → codeN a b p = codeN a c p) : ∀ (k : Nat), (k : Int) < a.length → Lft a b (k : Nat) → nat c (k : Nat) = nat b (k : Nat)
  | 0, h, _ => by
    rw [← hc.end0 (p := (0 : Nat)) (by omega) (by omega) (.inl rfl), ← hb.end0 (p := (0 : Nat)) (by omega) (by omega) (.inl rfl)]
  | k + 1, h, hl => by
    by_cases he : ((k + 1 : Nat) : Int) + 1 = a.length
    · rw [← hc.end0 (p := ((k + 1 : Nat) : Int)) (by omega) (by omega) (.inr he), ← hb.end0 (p := ((k + 1 : Nat) : Int)) (by omega) (by omega) (.inr he)]
    · have e := hk ((k + 1 : Nat) : Int) (by omega) (by omega)
      by_cases hs : nat a ((k + 1 : Nat) : Int) = nat b ((k + 1 : Nat) : Int)
      · rw [code_0.mpr hs] at e
        rw [← code_0.mp e.symm]; exact hs
      · rw [code_1.mpr ⟨hs, hl⟩] at e
        obtain ⟨c1, c2⟩ := code_1.mp e.symm
        have s1 := hl.step hs
        have s2 := c2.step c1
        have ek : ((k + 1 : Nat) : Int) - 1 = (k : Nat) := by omega
        rw [ek] at s1 s2
        have ih := code_left hb hc hk k (by omega) s1.2.2
        rw [← s1.2.1, ← s2.2.1]; exact ih
theorem Keep.right {a b : List Int} (h : Keep a b) {p : Int} (h0 : 0 ≤ p) (h1 : p < a.length) (hl : ¬ Lft a b p) : p + 1 < a.length ∧ nat b (p + 1) = nat b p := by
  obtain ⟨q, q0, q1, qs, qr⟩ := h.run p h0 h1
  have hq : p < q := by
    by_cases z : p < q
    · exact z
    · exact absurd ⟨q, q0, by omega, qs, fun r r1 r2 => qr r (by unfold Btw; omega)⟩ hl
  exact ⟨by omega, qr (p + 1) (by unfold Btw; omega)⟩
theorem code_inj {a b c : List Int} (hb : Keep a b) (hc : Keep a c) (hk : ∀ p : Int, 0 < p → p + 1 < a.length → codeN a b p = codeN a c p) : b = c := by
  have main : ∀ (m k : Nat), k + m = a.length → k < a.length → nat c (k : Nat) = nat b (k : Nat) := by
    intro m
    induction m with
    | zero => intro k h h1; omega
    | succ m ih =>
      intro k h h1
      by_cases hl : Lft a b (k : Nat)
      · exact code_left hb hc hk k (by omega) hl
      · obtain ⟨b1, b2⟩ := hb.right (p := (k : Nat)) (by omega) (by omega) hl
        by_cases k0 : k = 0
        · subst k0
          rw [← hc.end0 (p := (0 : Nat)) (by omega) (by omega) (.inl rfl), ← hb.end0 (p := (0 : Nat)) (by omega) (by omega) (.inl rfl)]
        · have e := hk (k : Nat) (by omega) b1
          have hs : nat a (k : Nat) ≠ nat b (k : Nat) := fun z => hl ⟨(k : Nat), by omega, by omega, z, fun r r1 r2 => by rw [show r = ((k : Nat) : Int) by omega]⟩
          have hl2 : ¬ Lft a c (k : Nat) := fun z => by
            by_cases y : nat a (k : Nat) = nat c (k : Nat)
            · rw [code_0.mpr y] at e
              exact hs (code_0.mp e)
            · rw [code_1.mpr ⟨y, z⟩] at e
              exact hl (code_1.mp e).2
          obtain ⟨_, c2⟩ := hc.right (p := (k : Nat)) (by omega) (by omega) hl2
          have := ih (k + 1) (by omega) (by omega)
          rw [show ((k + 1 : Nat) : Int) = (k : Nat) + 1 by omega] at this
          rw [← b2, ← c2]; exact this
  refine row_eq (by rw [hc.len, hb.len]) fun p h0 h1 => ?_
  rw [hb.len] at h1
  have := main (a.length - p.toNat) p.toNat (by omega) (by omega)
  rw [show ((p.toNat : Nat) : Int) = p by omega] at this
  exact this.symm
def allC : Nat → List (List Nat)
  | 0 => [[]]
  | m + 1 => (allC m).flatMap fun c => [0 :: c, 1 :: c, 2 :: c]
theorem allC_len : ∀ m, (allC m).length = 3 ^ m
  | 0 => rfl
  | m + 1 => by
    unfold allC
    rw [List.length_flatMap]
    have : ((allC m).map fun c => [0 :: c, 1 :: c, 2 :: c].length) = List.replicate (allC m).length 3 := by
      rw [List.eq_replicate_iff]
      exact ⟨by rw [List.length_map], fun x hx => by obtain ⟨c, _, rfl⟩ := List.mem_map.mp hx; rfl⟩
    rw [this, List.sum_replicate_nat, allC_len m, Nat.pow_succ]
theorem allC_mem : ∀ {c : List Nat}, (∀ x ∈ c, x < 3) → c ∈ allC c.length
  | [], _ => List.mem_singleton.mpr rfl
  | x :: c, h => by
    rw [List.length_cons]
    unfold allC
    rw [List.mem_flatMap]
    refine ⟨c, allC_mem fun y hy => h y (List.mem_cons_of_mem _ hy), ?_⟩
    have := h x List.mem_cons_self
    rcases x with _ | _ | _ | x
    · simp
    · simp
    · simp
    · omega
theorem fol_3 (a : List Int) : (folR a).length ≤ 3 ^ (a.length - 2) := by
  have nd : ((folR a).map fun b => (rngI 1 (a.length - 2)).map (codeN a b)).Nodup := by
    unfold List.Nodup
    rw [List.pairwise_map]
    refine (fol_nodup a).imp_of_mem fun {b c} hb hc hne e => hne (code_inj (fol_mem.mp hb) (fol_mem.mp hc) fun p p0 p1 => ?_)
    exact (List.map_inj_left.mp e) p (in_rngI (by omega) (by omega))
  have := sub_len nd (m := allC (a.length - 2)) fun x hx => by
    obtain ⟨b, _, rfl⟩ := List.mem_map.mp hx
    have := allC_mem (c := (rngI 1 (a.length - 2)).map (codeN a b)) fun y hy => by
      obtain ⟨p, _, rfl⟩ := List.mem_map.mp hy
      exact codeN_lt a b p
    rw [List.length_map, rngI_len] at this
    exact this
  rw [List.length_map, allC_len] at this
  exact this
end DL
namespace DL
open PySem PySem.Spec PyProof.Rows L2
theorem alike_ints (ns : List Int) : PySem.W.AlikeAll (ns.map PyData.int) := by
  refine ⟨fun x hx y hy => ?_, fun x hx e => ?_⟩
  · obtain ⟨i, _, rfl⟩ := List.mem_map.mp hx
    obtain ⟨j, _, rfl⟩ := List.mem_map.mp hy
    rfl
  · obtain ⟨i, _, rfl⟩ := List.mem_map.mp hx
    cases e
theorem reads_ints {h : Heap} : ∀ {vs : List Value} {ns : List Int}, IntsAre vs ns → ReadsAll h vs (ns.map PyData.int) []
  | _, _, .nil => .nil
  | _, _, .cons n t r => ReadsAll.cons (as := []) (Reads.int n t) (reads_ints r)
end DL
namespace DL
open PySem L2
end DL
namespace DL
abbrev OP := Int × Int × Bool × Bool
def lefts (ops : List OP) : List Int := (ops.filter fun x => x.2.2.1).map (·.1)
def rights (ops : List OP) : List Int := (ops.filter fun x => x.2.2.2).map (·.2.1)
def ncL (ops : List OP) : List Int := srtU (lefts ops ++ rights ops)
def wo1 (p : Int) (x : OP) : List OP :=
  if p = x.1 ∧ x.2.2.1 = true then (if x.1 + 1 ≤ x.2.1 then [(x.1 + 1, x.2.1, true, x.2.2.2)] else [])
  else if p = x.2.1 ∧ x.2.2.2 = true then (if x.1 ≤ x.2.1 - 1 then [(x.1, x.2.1 - 1, x.2.2.1, true)] else [])
  else if x.1 ≤ x.2.1 then [x] else []
def woL (ops : List OP) (p : Int) : List OP := ops.flatMap (wo1 p)
theorem wo_off {p : Int} {x : OP} (h : p < x.1 ∨ x.2.1 < p) (hx : x.1 ≤ x.2.1) : wo1 p x = [x] := by
  unfold wo1
  rw [if_neg (by intro z; omega), if_neg (by intro z; omega), if_pos hx]
theorem wo_offs {p : Int} : ∀ {ops : List OP}, (∀ x ∈ ops, (p < x.1 ∨ x.2.1 < p) ∧ x.1 ≤ x.2.1) → woL ops p = ops
  | [], _ => rfl
  | x :: ops, h => by
    unfold woL
    rw [List.flatMap_cons, wo_off (h x List.mem_cons_self).1 (h x List.mem_cons_self).2]
    have ih := wo_offs (p := p) (ops := ops) fun y hy => h y (List.mem_cons_of_mem _ hy)
    unfold woL at ih
    rw [ih]; rfl
theorem wo_app (ops more : List OP) (p : Int) : woL (ops ++ more) p = woL ops p ++ woL more p := List.flatMap_append
def factN : Nat → Nat
  | 0 => 1
  | n + 1 => (n + 1) * factN n
def szO (x : OP) : Nat := (x.2.1 + 1 - x.1).toNat
def totN (ops : List OP) : Nat := (ops.map szO).sum
def pfN : List OP → Nat
  | [] => 1
  | x :: ops => factN (szO x) * pfN ops
theorem totN_cons (x : OP) (ops : List OP) : totN (x :: ops) = szO x + totN ops := List.sum_cons
theorem totN_app (a b : List OP) : totN (a ++ b) = totN a + totN b := by unfold totN; rw [List.map_append, List.sum_append]
structure GdO (ops : List OP) : Prop where
  le : ∀ x ∈ ops, x.1 ≤ x.2.1
  op : ∀ x ∈ ops, x.2.2.1 = true ∨ x.2.2.2 = true
  pw : ops.Pairwise fun x y => x.2.1 < y.1
def stO (x : OP) : List Int := (if x.2.2.1 then [x.1] else []) ++ (if x.2.2.2 && !(x.2.2.1 && decide (x.1 = x.2.1)) then [x.2.1] else [])
theorem stO_mem {x : OP} (hle : x.1 ≤ x.2.1) {p : Int} : p ∈ stO x ↔ (p = x.1 ∧ x.2.2.1 = true) ∨ (p = x.2.1 ∧ x.2.2.2 = true) := by
  obtain ⟨f, l, L, R⟩ := x
  unfold stO
  dsimp only
  cases L <;> cases R <;> simp
  by_cases e : f = l
  · simp [e]
  · simp [e]
theorem stO_asc {x : OP} (hle : x.1 ≤ x.2.1) : (stO x).Pairwise (· < ·) := by
  obtain ⟨f, l, L, R⟩ := x
  unfold stO
  dsimp only at *
  cases L <;> cases R <;> simp
  by_cases e : f = l
  · simp [e]
  · simp [e]; omega
theorem nc_flat {ops : List OP} (h : GdO ops) : ncL ops = ops.flatMap stO := by
  refine asc_unique asc_srtU ?_ fun p => ?_
  · have : ∀ (ops : List OP), (∀ x ∈ ops, x.1 ≤ x.2.1) → ops.Pairwise (fun x y => x.2.1 < y.1) → (ops.flatMap stO).Pairwise (· < ·) := by
      intro ops
      induction ops with
      | nil => intro _ _; exact .nil
      | cons x ops ih =>
        intro h1 h2
        obtain ⟨a1, a2⟩ := List.pairwise_cons.mp h2
        rw [List.flatMap_cons]
        refine List.pairwise_append.mpr ⟨stO_asc (h1 x List.mem_cons_self), ih (fun y hy => h1 y (List.mem_cons_of_mem _ hy)) a2, fun p hp q hq => ?_⟩
        obtain ⟨y, hy, hq⟩ := List.mem_flatMap.mp hq
        have := a1 y hy
        have l1 := h1 x List.mem_cons_self
        have l2 := h1 y (List.mem_cons_of_mem _ hy)
        rcases (stO_mem l1).mp hp with z | z <;> rcases (stO_mem l2).mp hq with w | w <;> omega
    exact this ops h.le h.pw
  · unfold ncL
    rw [mem_srtU, List.mem_append, List.mem_flatMap]
    unfold lefts rights
    rw [List.mem_map, List.mem_map]
    constructor
    · rintro (⟨x, hx, rfl⟩ | ⟨x, hx, rfl⟩)
      · obtain ⟨h1, h2⟩ := List.mem_filter.mp hx
        exact ⟨x, h1, (stO_mem (h.le x h1)).mpr (.inl ⟨rfl, h2⟩)⟩
      · obtain ⟨h1, h2⟩ := List.mem_filter.mp hx
        exact ⟨x, h1, (stO_mem (h.le x h1)).mpr (.inr ⟨rfl, h2⟩)⟩
    · rintro ⟨x, hx, hp⟩
      rcases (stO_mem (h.le x hx)).mp hp with ⟨rfl, z⟩ | ⟨rfl, z⟩
      · exact .inl ⟨x, List.mem_filter.mpr ⟨hx, z⟩, rfl⟩
      · exact .inr ⟨x, List.mem_filter.mpr ⟨hx, z⟩, rfl⟩
/-- one part after a call -/
theorem wo1_one {x : OP} {p : Int} (hle : x.1 ≤ x.2.1) (hp : p ∈ stO x) : totN (wo1 p x) + 1 = szO x ∧ pfN (wo1 p x) * szO x = factN (szO x) ∧ (∀ y ∈ wo1 p x, y.1 ≤ y.2.1 ∧ (y.2.2.1 = true ∨ y.2.2.2 = true) ∧ x.1 ≤ y.1 ∧ y.2.1 ≤ x.2.1) ∧ (wo1 p x).length ≤ 1 := by
  obtain ⟨f, l, L, R⟩ := x
  have key : ∀ (f l f' l' : Int) (c : Prop) [Decidable c] (y : OP), y.1 = f' → y.2.1 = l' → l' - f' + 1 = l - f → (c ↔ f' ≤ l') → f ≤ l → f ≤ f' → l' ≤ l → (y.2.2.1 = true ∨ y.2.2.2 = true) → totN (if c then [y] else []) + 1 = (l + 1 - f).toNat ∧ pfN (if c then [y] else []) * (l + 1 - f).toNat = factN (l + 1 - f).toNat ∧ (∀ z ∈ (if c then [y] else []), z.1 ≤ z.2.1 ∧ (z.2.2.1 = true ∨ z.2.2.2 = true) ∧ f ≤ z.1 ∧ z.2.1 ≤ l) ∧ (if c then [y] else []).length ≤ 1 := by
    intro f l f' l' c _ y e1 e2 e3 hc hle h1 h2 h3
    by_cases d : c
    · rw [if_pos d]
      have hs : szO y + 1 = (l + 1 - f).toNat := by
        unfold szO
        have := hc.mp d
        rw [e1, e2]; omega
      refine ⟨by rw [totN_cons]; show szO y + 0 + 1 = _; omega, ?_, fun z hz => ?_, Nat.le_refl 1⟩
      · show factN (szO y) * 1 * _ = _
        rw [← hs]
        show factN (szO y) * 1 * (szO y + 1) = (szO y + 1) * factN (szO y)
        rw [Nat.mul_one, Nat.mul_comm]
      · rw [List.mem_singleton.mp hz, e1, e2]
        exact ⟨hc.mp d, h3, h1, h2⟩
    · rw [if_neg d]
      have hs : (l + 1 - f).toNat = 1 := by
        have hn : ¬ f' ≤ l' := fun z => d (hc.mpr z)
        omega
      rw [hs]
      exact ⟨rfl, rfl, fun z hz => (nomatch hz), Nat.zero_le _⟩
  unfold wo1 szO
  dsimp only at *
  have hp := (stO_mem (x := (f, l, L, R)) hle).mp hp
  dsimp only at hp
  by_cases c1 : p = f ∧ L = true
  · rw [if_pos c1]
    exact key f l (f + 1) l _ _ rfl rfl (by omega) Iff.rfl hle (by omega) (by omega) (.inl rfl)
  · rw [if_neg c1]
    have c2 : p = l ∧ R = true := by
      rcases hp with z | z
      · exact absurd z c1
      · exact z
    rw [if_pos c2]
    exact key f l f (l - 1) _ _ rfl rfl (by omega) Iff.rfl hle (by omega) (by omega) (.inr rfl)
theorem GdO.split {pre post : List OP} {x : OP} (h : GdO (pre ++ x :: post)) {p : Int} (hp : p ∈ stO x) : woL (pre ++ x :: post) p = pre ++ (wo1 p x ++ post) ∧ GdO (pre ++ (wo1 p x ++ post)) := by
  have hx : x ∈ pre ++ x :: post := by simp
  have hle := h.le x hx
  obtain ⟨_, _, h3, h4⟩ := wo1_one hle hp
  have hpx : x.1 ≤ p ∧ p ≤ x.2.1 := by
    rcases (stO_mem hle).mp hp with z | z <;> omega
  obtain ⟨w1, w2, w3⟩ := List.pairwise_append.mp h.pw
  obtain ⟨w4, w5⟩ := List.pairwise_cons.mp w2
  refine ⟨?_, ⟨fun y hy => ?_, fun y hy => ?_, ?_⟩⟩
  · rw [wo_app, wo_offs (ops := pre) fun y hy => ⟨.inr (by have := w3 y hy x List.mem_cons_self; omega), h.le y (List.mem_append_left _ hy)⟩]
    show pre ++ (wo1 p x ++ woL post p) = _
    rw [wo_offs (ops := post) fun y hy => ⟨.inl (by have := w4 y hy; omega), h.le y (List.mem_append_right _ (List.mem_cons_of_mem _ hy))⟩]
  · rcases List.mem_append.mp hy with z | z
    · exact h.le y (List.mem_append_left _ z)
    · rcases List.mem_append.mp z with z | z
      · exact (h3 y z).1
      · exact h.le y (List.mem_append_right _ (List.mem_cons_of_mem _ z))
  · rcases List.mem_append.mp hy with z | z
    · exact h.op y (List.mem_append_left _ z)
    · rcases List.mem_append.mp z with z | z
      · exact (h3 y z).2.1
      · exact h.op y (List.mem_append_right _ (List.mem_cons_of_mem _ z))
  · refine List.pairwise_append.mpr ⟨w1, List.pairwise_append.mpr ⟨?_, w5, fun y hy z hz => ?_⟩, fun y hy z hz => ?_⟩
    · match e : wo1 p x, h4 with
      | [], _ => exact .nil
      | [y], _ => exact List.pairwise_singleton _ _
    · have := (h3 y hy).2.2.2
      have := w4 z hz
      omega
    · rcases List.mem_append.mp hz with q | q
      · have := (h3 z q).2.2.1
        have := w3 y hy x List.mem_cons_self
        omega
      · exact w3 y hy z (List.mem_cons_of_mem _ q)
theorem GdO.call {ops : List OP} (h : GdO ops) {p : Int} (hp : p ∈ ncL ops) : GdO (woL ops p) ∧ totN (woL ops p) + 1 = totN ops := by
  rw [nc_flat h] at hp
  obtain ⟨x, hx, hq⟩ := List.mem_flatMap.mp hp
  obtain ⟨pre, post, rfl⟩ := List.append_of_mem hx
  obtain ⟨e, g⟩ := h.split hq
  obtain ⟨h1, _⟩ := wo1_one (h.le x hx) hq
  rw [e]
  refine ⟨g, ?_⟩
  rw [totN_app, totN_app, totN_app, totN_cons]
  omega
theorem len_insU (k : Int) : ∀ xs : List Int, (insU k xs).length ≤ xs.length + 1
  | [] => by unfold insU; simp
  | x :: xs => by
    have := len_insU k xs
    unfold insU
    split
    · simp
    · split
      · simp
      · simp only [List.length_cons]; omega
theorem len_srtU : ∀ xs : List Int, (srtU xs).length ≤ xs.length
  | [] => Nat.le_refl _
  | x :: xs => by
    have h1 := len_srtU xs
    have h2 := len_insU x (srtU xs)
    show (insU x (srtU xs)).length ≤ _
    rw [List.length_cons]; omega
end DL
namespace DL
open PySem L2
open PySem.W (alike alikeAll dataLt)
end DL
namespace DL
open PySem L2
theorem Keep.trans {a b c : List Int} (h : Keep a b) (k : Keep b c) : Keep a c := by
  obtain ⟨tape, _, t2, t3⟩ := Keep.way _ k rfl
  have := h.more tape fun i hi => by have := t2 i hi; have := h.len; omega
  rw [t3] at this
  exact this
theorem Keep.rest {a b : List Int} (h : Keep a b) (r : Rest a) : b = a := by
  refine (row_eq h.len fun p h0 h1 => ?_).symm
  rcases h.chg p h0 h1 with e | ⟨t, _⟩ | ⟨t, _⟩
  · exact e
  · exact absurd t (r p).1
  · exact absurd t (r p).2
theorem fol_rest {a : List Int} (r : Rest a) : folR a = [a] := asc_rows (fol_asc a) (List.pairwise_singleton _ _) fun c => by
  rw [fol_mem, List.mem_singleton]
  exact ⟨fun h => h.rest r, fun h => by rw [h]; exact Keep.refl a⟩
end DL
namespace DL
def redN (n d : Int) : Int := n / (Int.gcd d n : Int)
def redD (n d : Int) : Int := d / (Int.gcd d n : Int)
theorem gcd_posD {n d : Int} (h : 0 < d) : (0 : Int) < (Int.gcd d n : Int) := by
  have : 0 < Int.gcd d n := Int.gcd_pos_of_ne_zero_left n (by omega)
  omega
/-- the halving of Euclid's steps -/
theorem mod_half {l r : Nat} (hr : 0 < r) (h : r < l) : 2 * (l % r) < l := by
  have h1 := Nat.mod_lt l hr
  have h2 := Nat.div_add_mod l r
  have h3 : 1 ≤ l / r := Nat.div_pos (Nat.le_of_lt h) hr
  have h4 : r * 1 ≤ r * (l / r) := Nat.mul_le_mul_left r h3
  omega
open PySem L2
theorem whl_f {c : GT} {b : GS} {n : Nat} {ρ ρ1 : Rho} (h : c ρ = .ok false ρ1) : whileL c b (n + 1) ρ = .nx ρ1 := by
  unfold whileL
  rw [h]; rfl
theorem whl_t {c : GT} {b : GS} {n : Nat} {ρ ρ1 ρ2 : Rho} {o : O} (h : c ρ = .ok true ρ1) (h2 : b ρ1 = .nx ρ2) (h3 : whileL c b n ρ2 = o) : whileL c b (n + 1) ρ = o := by
  unfold whileL
  rw [h]
  show (match b ρ1 with | .nx ρ2 => whileL c b n ρ2 | .ct ρ2 => whileL c b n ρ2 | .bk ρ2 => .nx ρ2 | o => o) = _
  rw [h2]; exact h3
theorem eu_while {c : GT} {b : GS} {s0 s1 : Sl} (hc : ∀ h l : Nat, c [s0, s1, .sh (.int (h : Int)), .sh (.int (l : Int))] = .ok (decide ((0 : Int) < (l : Int))) [s0, s1, .sh (.int (h : Int)), .sh (.int (l : Int))])
    (hb : ∀ h l : Nat, 0 < l → b [s0, s1, .sh (.int (h : Int)), .sh (.int (l : Int))] = .nx [s0, s1, .sh (.int (l : Int)), .sh (.int ((h % l : Nat) : Int))]) :
    ∀ (k h l f : Nat), l < 2 ^ k → 2 * k + 1 < f → whileL c b f [s0, s1, .sh (.int (h : Int)), .sh (.int (l : Int))] = .nx [s0, s1, .sh (.int ((Nat.gcd h l : Nat) : Int)), .sh (.int ((0 : Nat) : Int))] := by
  have fin : ∀ (h f : Nat), 0 < f → whileL c b f [s0, s1, .sh (.int (h : Int)), .sh (.int ((0 : Nat) : Int))] = .nx [s0, s1, .sh (.int ((Nat.gcd h 0 : Nat) : Int)), .sh (.int ((0 : Nat) : Int))] := fun h f hf => by
    obtain ⟨f, rfl⟩ : ∃ g, f = g + 1 := ⟨f - 1, by omega⟩
    rw [Nat.gcd_zero_right]
    exact whl_f (by rw [hc h 0]; rfl)
  have st : ∀ (h l f : Nat) (o : O), 0 < l → 0 < f → whileL c b (f - 1) [s0, s1, .sh (.int (l : Int)), .sh (.int ((h % l : Nat) : Int))] = o → whileL c b f [s0, s1, .sh (.int (h : Int)), .sh (.int (l : Int))] = o := fun h l f o hl hf e => by
    obtain ⟨f, rfl⟩ : ∃ g, f = g + 1 := ⟨f - 1, by omega⟩
    exact whl_t (by rw [hc h l, decide_eq_true (by omega)]) (hb h l hl) e
  have ge : ∀ h l : Nat, Nat.gcd l (h % l) = Nat.gcd h l := fun h l => by rw [Nat.gcd_comm, ← Nat.gcd_rec, Nat.gcd_comm]
  intro k
  induction k with
  | zero =>
    intro h l f hl hf
    have e : l = 0 := by simpa using hl
    subst e
    exact fin h f (by omega)
  | succ k ih =>
    intro h l f hl hf
    by_cases z : l = 0
    · subst z
      exact fin h f (by omega)
    · refine st h l f _ (by omega) (by omega) ?_
      rw [← ge h l]
      have rl := Nat.mod_lt h (show l > 0 by omega)
      generalize h % l = r at *
      by_cases zr : r = 0
      · subst zr
        exact fin l (f - 1) (by omega)
      · refine st l r (f - 1) _ (by omega) (by omega) ?_
        rw [← ge l r]
        have hm := mod_half (l := l) (r := r) (by omega) rl
        rw [Nat.pow_succ] at hl
        exact ih r (l % r) (f - 1 - 1) (by omega) (by omega)
def frD (n d : Int) : D := .tuple [.int (redN n d), .int (redD n d)]
theorem sum_kinds {α : Type} (f : α → Int) (g : Int → Int) : ∀ (ks : List Int) (l : List α), ks.Nodup → (∀ b ∈ l, f b ∈ ks) → (ks.map fun k => g k * (((l.filter fun b => decide (f b = k)).length : Nat) : Int)).sum = (l.map fun b => g (f b)).sum := by
  intro ks
  induction ks with
  | nil =>
    intro l _ h
    cases l with
    | nil => rfl
    | cons b l => exact absurd (h b List.mem_cons_self) (by simp)
  | cons k ks ih =>
    intro l nd h
    obtain ⟨n1, n2⟩ := List.nodup_cons.mp nd
    rw [List.map_cons, List.sum_cons]
    have e1 := ih (l.filter fun b => !decide (f b = k)) n2 (fun b hb => by
      obtain ⟨b1, b2⟩ := List.mem_filter.mp hb
      rcases List.mem_cons.mp (h b b1) with z | z
      · simp [z] at b2
      · exact z)
    have e2 : (ks.map fun k' => g k' * ((((l.filter fun b => !decide (f b = k)).filter fun b => decide (f b = k')).length : Nat) : Int)) = ks.map fun k' => g k' * (((l.filter fun b => decide (f b = k')).length : Nat) : Int) := by
      refine List.map_congr_left fun k' hk' => ?_
      rw [List.filter_filter]
      congr 3
      refine List.filter_congr fun b _ => ?_
      by_cases z : f b = k'
      · have : f b ≠ k := fun y => n1 (by rw [← y, z]; exact hk')
        simp [z, this]
        rw [z] at this; exact this
      · simp [z]
    rw [e2] at e1
    rw [e1]
    have : ∀ l : List α, g k * (((l.filter fun b => decide (f b = k)).length : Nat) : Int) + ((l.filter fun b => !decide (f b = k)).map fun b => g (f b)).sum = (l.map fun b => g (f b)).sum := by
      intro l
      induction l with
      | nil => simp
      | cons b l ih2 =>
        rw [List.map_cons, List.sum_cons, ← ih2]
        by_cases z : f b = k
        · rw [List.filter_cons_of_pos (by simpa using z), List.filter_cons_of_neg (by simpa using z), List.length_cons, z, Int.natCast_add, Int.mul_add]
          omega
        · rw [List.filter_cons_of_neg (by simpa using z), List.filter_cons_of_pos (by simpa using z), List.map_cons, List.sum_cons]
          omega
    exact this l
end DL
namespace DL
open PySem L2
end DL
namespace DL
open PySem PySem.Spec PyProof.Rows L2
section
variable {X : Cx} {K : PySem.W.Frag} {te ta tc : TE}
def cntI : D → D → Option D
  | .list ds, .int k => (intsOf ds).map fun ns => .int (ns.count k : Nat)
  | _, _ => none
def eCntI (a b : GE) (ρ : Rho) : R D := (a ρ).bind fun x ρ1 => (b ρ1).bind fun y ρ2 => R.lift (cntI x y) ρ2
theorem de_cntI {a b : GE} (ha : DE K ta a) (hb : DE K te b) : DE K (tBM K "list" (rCntI K) ta (tCons te tNil)) (eCntI a b) := fun b0 B Z0 Z H σ ρ d ρ' Q ok e q => by
  obtain ⟨x, ρ1, e1, e⟩ := R.bind_ok e
  obtain ⟨y, ρ2, e2, e⟩ := R.bind_ok e
  obtain ⟨e3, rfl⟩ := R.lift_ok e
  unfold cntI at e3
  split at e3
  · obtain ⟨bs, e4, rfl⟩ := Option.map_eq_some_iff.mp e3
    refine ha b0 B Z0 Z H σ ρ _ _ _ ok e1 fun v H1 Z1 ok1 s1 r1 => ?_
    cases intsOf_eq e4
    cases r1 with
    | lst hs ra =>
      refine ⟨.inl ⟨rfl, _, .inl (.inl (ok1.zh _ _ hs))⟩, ?_⟩
      refine hb b0 B Z0 Z1 H1 σ ρ1 _ _ _ ok1 e2 fun w H2 Z2 ok2 s2 r2 => ?_
      cases r2
      cases ra.of_ints
      exact ⟨_, bs, _, rfl, rfl, .inl (.inl (ok2.zh _ _ (s2 _ _ hs))), q _ H2 Z2 ok2 (s1.trans s2) (.int _)⟩
  · cases e3
def tBMD (K : PySem.W.Frag) (r : V → List V → Hp → VK → Prop) (to : TE) (t : TA) : TE := fun σ H Q => to σ H fun x H1 => (∃ a kvs, x = .ref a ∧ IsDc H1 a kvs) ∧ t σ H1 fun xs H2 => r x xs H2 Q
theorem tyD_is {pins : List (Addr × Obj)} {σ : L2.St} {H : Hp} {s : Shared} {x : V} {v : Value} (I : L2.Inv X pins σ H s) (r : L2.RelV x v) (ty : ∃ a kvs, x = .ref a ∧ IsDc H a kvs) : s.TypeIs v "dict" ∧ ∀ a, v = .ref a → ∃ ob, s.heap.get? a = some ob ∧ ob.dict = none := by
  obtain ⟨a, kvs, rfl, h⟩ := ty
  cases r
  obtain ⟨⟨ob, es, ep, e, ex, _⟩, _⟩ := dc_at I.hok h
  refine ⟨⟨ob, e, ex.1⟩, fun a e2 => ?_⟩
  cases e2
  exact ⟨ob, e, ex.2.1⟩
variable {o e : Expr} {es : List Expr} {to : TE} {t : TA} {name : Str} {apos cpos : Pos} {id : String} {r : V → List V → Hp → VK → Prop}
theorem pe_bmD (pa : PlainAttrs "dict") (slot : Slot "dict" name id) (hty : typeOf (.builtin id) = pure (.type "method_descriptor")) (hm : MtR X id r) (ho : PE X o to) (ha : PA X (e :: es) t)
    (hbase : attributeBase o name X.env (eval o X.env) = eval o X.env := by rfl)
    (hfew : ((backTo cpos (starEach (e :: es) X.env)).all (fun x => !x.1) && (backToKw cpos (keywordEach [] X.env)).all (fun x => x.1.isSome)
      && decide ((e :: es).length + ([] : List Keyword).length + (if ([] : List Keyword).isEmpty then 0 else 1) < 30)) = true := by rfl)
    (hline : (apos.endLine == cpos.line) = true := by rfl) (hs : starEach (e :: es) X.env = (false, eval e X.env) :: starEach es X.env := by rfl) (hplain : (backTo cpos (starEach es X.env)).any (·.1) = false := by rfl) :
    PE X (.Call (.Attribute o name apos) (e :: es) [] cpos) (tBMD X.K r to t) := by
  refine ⟨fun pins s σ H Q I h => ?_⟩
  refine wpAny_Call_method_late hbase hfew hline rfl (thn (ho.run pins s σ H _ I h) fun v s1 ⟨x, H1, I1, r1, ty, q1⟩ => ?_)
  obtain ⟨h1, h2⟩ := tyD_is I1 r1 ty
  refine ⟨"dict", id, pa, slot, hty, h1, h2, ?_⟩
  have hA := ha.run cpos pins s1 σ H1 _ I1 q1
  rw [hs] at hA ⊢
  refine Calls.callWith_builtin (by show (false || (backTo cpos (starEach es X.env)).any (·.1)) = false; rw [hplain] <;> rfl) (Calls.evalArgs_plain ?_)
  exact thn hA fun us s2 ⟨vs, H2, I2, r2, q2⟩ => hm pins s2 σ H2 x vs v us Q I2 r1 r2 q2
/-- d.get(c, z) -/
def dGet2 : D → D → D → Option D
  | .dict ((.dict [], .none) :: kds), c, z => if sortB c kds = true then some ((dFind kds c).getD z) else none
  | _, _, _ => none
def isDc : Option D → Bool
  | some (.dict ((.dict [], .none) :: _)) => true
  | _ => false
def eNGet2 (a : GO) (b c : GE) (ρ : Rho) : R D := (a ρ).bind fun x ρ1 => if isDc (x.res ρ1) = true then (b ρ1).bind fun y ρ2 => (c ρ2).bind fun z ρ3 => match x.res ρ3 with
    | some d => R.lift (dGet2 d y z) ρ3
    | none => .bad
  else .bad
theorem de_nget {a : GO} {b c : GE} (ha : DO K ta a) (hb : DE K te b) (hc : DE K tc c) : DE K (tBMD K (rNGet2 K) ta (tCons te (tCons tc tNil))) (eNGet2 a b c) := fun b0 B Z0 Z H σ ρ d ρ' Q ok e q => by
  obtain ⟨x, ρ1, e1, e⟩ := R.bind_ok e
  split at e
  · rename_i hx
    obtain ⟨y, ρ2, e2, e⟩ := R.bind_ok e
    obtain ⟨z, ρ3, e3, e⟩ := R.bind_ok e
    split at e
    · rename_i dd hd
      obtain ⟨e4, rfl⟩ := R.lift_ok e
      refine ha b0 B Z0 Z H σ ρ x ρ1 _ ok e1 fun v H1 Z1 ok1 s1 r1 => ?_
      have hx' : ∃ kds, x.res ρ1 = some (dcD kds) := by
        cases h : x.res ρ1 with
        | none => rw [h] at hx; cases hx
        | some d0 =>
          rw [h] at hx
          unfold isDc at hx
          split at hx
          · rename_i kds heq
            injection heq with heq
            exact ⟨kds, by rw [heq]⟩
          · cases hx
      obtain ⟨kds1, hk1⟩ := hx'
      refine ⟨?_, ?_⟩
      · have := ok1.bd r1 hk1
        cases this with
        | dct h _ => exact ⟨_, _, rfl, _, h⟩
      · refine hb b0 B Z0 Z1 H1 σ ρ1 y ρ2 _ ok1 e2 fun v2 H2 Z2 ok2 s2 r2 => ?_
        refine hc b0 B Z0 Z2 H2 σ ρ2 z ρ3 _ ok2 e3 fun v3 H3 Z3 ok3 s3 r3 => ?_
        have bd := ok3.bd ((r1.mono s2).mono s3) hd
        unfold dGet2 at e4
        split at e4
        · split at e4
          · rename_i hs
            injection e4 with e4
            subst e4
            obtain ⟨p, r, rfl, g, o⟩ := ngot ok3.zh bd (r2.mono s3) hs
            refine ⟨p, v2, v3, r, rfl, rfl, g, q _ H3 Z3 ok3 ((s1.trans s2).trans s3) ?_⟩
            cases hf : dFind _ y with
            | none =>
              rw [hf] at o
              cases r with
              | none => exact r3
              | some v => exact o.elim
            | some d =>
              rw [hf] at o
              cases r with
              | none => exact o.elim
              | some v => exact o
          · cases e4
        · cases e4
    · cases e
  · cases e
end
end DL
namespace DL
open PySem L2
end DL
namespace DL
open PySem L2
theorem Keep.num {a b : List Int} (h : Keep a b) {p : Int} (h0 : 0 ≤ p) (h1 : p < a.length) : nat b p ∈ a := by
  obtain ⟨q, q0, q1, qs, qr⟩ := h.run p h0 h1
  have e := qr q (by unfold Btw; omega)
  rw [← e, ← qs]
  exact nat_mem q0 q1
/-- the numbers of a' and b' stand in the order of those of a and b -/
structure Sim (a b a' b' : List Int) : Prop where
  la : a'.length = a.length
  lb : b.length = a.length
  lb' : b'.length = a.length
  aa : ∀ p q : Int, 0 ≤ p → p < a.length → 0 ≤ q → q < a.length → (nat a p < nat a q ↔ nat a' p < nat a' q)
  ab : ∀ p q : Int, 0 ≤ p → p < a.length → 0 ≤ q → q < a.length → (nat a p < nat b q ↔ nat a' p < nat b' q)
  ba : ∀ p q : Int, 0 ≤ p → p < a.length → 0 ≤ q → q < a.length → (nat b p < nat a q ↔ nat b' p < nat a' q)
  bb : ∀ p q : Int, 0 ≤ p → p < a.length → 0 ≤ q → q < a.length → (nat b p < nat b q ↔ nat b' p < nat b' q)
end DL
namespace DL
open PySem L2
end DL
namespace DL
open PySem PySem.Spec PyProof.Rows L2
section
variable {P : Program} {w : World} {K : PySem.W.Frag} {X : Cx} {td te : TE} {e : Expr} {apos cpos : Pos}
abbrev ItN (d : Addr) (kvs : List (KK × V × V)) (dt : Array DictEntry × Nat) : It := ItP (fun H => H d = some (dcO d kvs dt)) kvs.length (fun i => (kvs[i]?).map (·.2.1)) (fun i => (kvs[i]?).map (·.2.2))
theorem er_at : ∀ {kvs : List (KK × V × V)} {es : List DictEntry}, Paired ER kvs es → ∀ {i : Nat} {z : KK × V × V}, kvs[i]? = some z → ∃ en, es[i]? = some en ∧ ER z en
  | _, _, .cons r t, 0, z, h => by
    injection h with h
    subst h
    exact ⟨_, rfl, r⟩
  | _, _, .cons r t, i + 1, z, h => er_at t h
theorem turn_itemsN {d : Addr} {kvs : List (KK × V × V)} {dt : Array DictEntry × Nat} {elts : List Expr} {kk : Nat} {tpos : Pos} (it : Addr) :
    Turn P w K (.Tuple elts kk tpos) (ItN d kvs dt) [it] it (fun i h => ∃ ok ov, IsItemIter h it d i dt.1.size dt.2 ok ov) where
  mem := by simp
  obj := fun i h st b hb => by
    have e : b = it := by simpa using hb
    subst e
    obtain ⟨ok, ov, e⟩ := st
    exact ⟨_, e, fun v z => nomatch z⟩
  keep := fun i h h' st k => let ⟨ok, ov, e⟩ := st; ⟨ok, ov, k it (by simp) _ e⟩
  item := by
    intro X hP hw hK hc i pins s σ H E I hf st hg
    subst hP hw hK
    obtain ⟨hd, hi⟩ := hg
    obtain ⟨⟨ob, h1, h2, h3, h4⟩, hs, hz, _⟩ := dc_atT I.hok hd
    have hl : kvs.length = dt.1.size := by rw [Paired.length h4, Array.length_toList]
    obtain ⟨z, hkv⟩ : ∃ p, kvs[i]? = some p := ⟨kvs[i], List.getElem?_eq_getElem hi⟩
    obtain ⟨en, hen, her⟩ := er_at h4 hkv
    obtain ⟨ok, ov, he⟩ := st
    have hlt : it < s.heap.objs.size := Heap.lt_size he
    have hi2 : i < dt.1.size := by omega
    have een : dt.1[i] = en := by
      rw [Array.getElem?_toList, Array.getElem?_eq_getElem hi2] at hen
      injection hen
    refine wpAny_pyNext_items_item_raw he ⟨ob, h1, h2, h3⟩ hi2 fun h' ho hT hz hk => ?_
    rw [een] at ho hT
    refine ⟨_, rfl, wpAny_letOwnedTupleGo_items (s := { s with heap := h' }) ho fun h'' he' sb => ?_⟩
    have hT2 : h''.get? s.heap.objs.size = some { cls := .type "tuple", data := .seq #[en.key, en.val] } := (sb.2 _ (Nat.ne_of_gt hlt)).trans hT
    have new : ObjOk X.prog X.w (upd H s.heap.objs.size (.tup [z.2.1, z.2.2])) h'' s.heap.objs.size (.tup [z.2.1, z.2.2]) :=
      ⟨by show 2 ≤ sizeLine; decide, [en.key, en.val], .cons her.2.1 (.cons her.2.2 .nil), ⟨_, hT2, rfl, _, rfl⟩⟩
    have I1 : L2.Inv X pins σ (upd H s.heap.objs.size (.tup [z.2.1, z.2.2])) { s with heap := h'' } :=
      I.turnedNew (t' := s.toks) (ch := [it]) (fun b ob hb e => (sb.2 b (by simpa using hb)).trans (hk b ob (by simpa using hb) e)) hf (Nat.le_refl _) new
    refine ⟨.ref s.heap.objs.size, _, I1, rfl, ⟨_, z.2.1, z.2.2, rfl, I.hok.fresh (Nat.le_refl _), rfl, by show (kvs[i]?).map (fun x => x.2.1) = _; rw [hkv]; rfl, by show (kvs[i]?).map (fun x => x.2.2) = _; rw [hkv]; rfl⟩, ⟨en.key, en.val, he'⟩, fun b hb => ?_⟩
    have e : b = it := by simpa using hb
    rw [e, upd_ne (Nat.ne_of_lt hlt)]
    exact (hf it (by simp)).1
  done := by
    intro X hP hw hK hc i pins s σ H E I hf st hg
    subst hP hw hK
    obtain ⟨hd, hi⟩ := hg
    obtain ⟨f0, f1, f2, f3, f4, f5⟩ := hf it (by simp)
    obtain ⟨⟨ob, h1, h2, h3, h4⟩, hs, hz, _⟩ := dc_atT I.hok hd
    have hl : kvs.length = dt.1.size := by rw [Paired.length h4, Array.length_toList]
    obtain ⟨ok, ov, he⟩ := st
    exact wpAny_pyNext_items_end_raw (I.ok.hd hc) he ⟨ob, h1, h2, h3⟩ (by omega) fun h' eb => ⟨rfl, I.turned (t' := s.toks) (fun b ob hb e => eb b ob hb e) f0 f1 f3 f4 f5⟩
  self := fun A i s Q E st h => let ⟨_, _, e⟩ := st; PySem.W.kcp_self e h
def iItemsN (td : TE) : TI := fun σ H R => td σ H fun x H1 => ∃ d kvs dt, x = .ref d ∧ H1 d = some (dcO d kvs dt) ∧ R (ItN d kvs dt) H1
theorem pi_itemsN {elts : List Expr} {kk : Nat} {tpos : Pos} (he : PE X e td) (hbase : attributeBase e "items" X.env (eval e X.env) = eval e X.env := by rfl) (hline : (apos.endLine == cpos.line) = true := by rfl) :
    PI X (.Tuple elts kk tpos) (.Call (.Attribute e "items" apos) [] [] cpos) (iItemsN td) := by
  refine ⟨fun pins s σ H R I h => ?_⟩
  refine wpAny_Call_method (T := "dict") (id := "dict.items") hbase rfl hline F.plainAttrs_dict F.slot_dict_items F.type_dict_items (thn (he.run pins s σ H _ I h) fun u s1 ⟨x, H1, I1, rx, d, kvs, dt, ex, hd, q⟩ => ?_)
  subst ex
  obtain rfl : u = Value.ref d := rx
  obtain ⟨⟨ob, h1, h2, h3, h4⟩, hs, hz, _⟩ := dc_atT I1.hok hd
  refine ⟨⟨ob, h1, h2.1⟩, fun a e2 => by cases e2; exact ⟨ob, h1, h2.2.1⟩, ?_⟩
  have I2 : L2.Inv X pins σ H1 { s1 with heap := s1.heap.push { cls := .type "dict_items", data := .fields #[.ref d] } } := I1.kept (t' := s1.toks) fun b ob q => Heap.get?_push_of_some _ q
  have fin : wpAny (model X.prog X.w) X.A (pyIter (.ref s1.heap.objs.size)) (PIE X pins σ (.Tuple elts kk tpos) R) X.xe { s1 with heap := s1.heap.push { cls := .type "dict_items", data := .fields #[.ref d] } } := by
    refine wpAny_pyIter_items_raw (d := d) (es := dt.1) (ep := dt.2) ⟨_, Heap.get?_push_size _ rfl, rfl, rfl⟩ ⟨ob, Heap.get?_push_of_some _ h1, h2, h3⟩ (pi_one (tk := s1.toks) I2 _ (turn_itemsN _) ⟨.none, .none, ?_⟩ q)
    exact Heap.get?_push_size _ rfl
  show wpAny _ _ (callWith cpos (.builtin "dict.items") [.ref d] [] []) _ X.xe s1
  exact method_meetsIn F.slot_dict_items F.entry_dict_items rfl (PySem.evalArgs_none ⟨rfl, ⟨ob, h1, h2.1⟩, F.args_dict_items_1 _, _, meets_dict_items_raw d hs, ⟨dt.1, dt.2, ob, h1, h2, h3⟩, fin⟩)
def itemsDD : D → Option (List D)
  | .dict ((.dict [], .none) :: kds) => some (kds.map fun p => .tuple [p.1, p.2])
  | _ => none
def gItems (g : GE) (ρ : Rho) : R (List D) := (g ρ).bind fun d ρ1 => R.lift (itemsDD d) ρ1
theorem rpK_at {Z : Hp} : ∀ {kvs : List (KK × V × V)} {kds : List (D × D)}, RpK K Z kvs kds → ∀ {i : Nat} {z : KK × V × V}, kvs[i]? = some z → ∃ p, kds[i]? = some p ∧ Rp K Z z.2.1 p.1 ∧ Rp K Z z.2.2 p.2
  | _, _, .cons _ r1 r2 t, 0, z, h => by
    injection h with h
    subst h
    exact ⟨_, rfl, r1, r2⟩
  | _, _, .cons _ _ _ t, i + 1, z, h => rpK_at t h
theorem di_items {g : GE} (h : DE K te g) : DI K (iItemsN te) (gItems g) := fun b0 B Z0 Z H σ ρ ds ρ' W ok e q => by
  obtain ⟨d, ρ1, e1, e⟩ := R.bind_ok e
  obtain ⟨e2, rfl⟩ := R.lift_ok e
  unfold itemsDD at e2
  split at e2
  · cases e2
    refine h b0 B Z0 Z H σ ρ _ _ _ ok e1 fun v H1 Z1 ok1 s1 r1 => ?_
    cases r1 with
    | dct hd rk =>
      refine ⟨_, _, _, rfl, ok1.zh _ _ hd, q _ H1 Z1 ok1 s1 (wk_pair (fun H s => s _ _ hd) (by rw [List.length_map, rk.length]) fun i x y hi ex ey => ?_)⟩
      obtain ⟨z, hz, rfl⟩ := Option.map_eq_some_iff.mp ex
      obtain ⟨z', hz', rfl⟩ := Option.map_eq_some_iff.mp ey
      rw [hz] at hz'
      cases hz'
      obtain ⟨p, hp, ra, rb⟩ := rpK_at rk hz
      exact ⟨p.1, p.2, by rw [List.getElem?_map, hp]; rfl, ra, rb⟩
  · cases e2
end
end DL
namespace DL
open PySem L2
/-- least and greatest for each state of l -/
structure Mm (Q : Int → Stt → Prop) (l : List Stt) (g : Stt → Int × Int) : Prop where
  lo : ∀ s ∈ l, Q (g s).1 s
  hi : ∀ s ∈ l, Q (g s).2 s
  inn : ∀ c s, Q c s → s ∈ l
  bnd : ∀ c s, Q c s → (g s).1 ≤ c ∧ c ≤ (g s).2
def updM (l : List Stt) (g : Stt → Int × Int) (x : Stt) (lo hi : Int) : Stt → Int × Int := fun y => if y = x then (min (if x ∈ l then (g x).1 else lo) lo, max (if x ∈ l then (g x).2 else hi) hi) else g y
theorem Mm.nil (g : Stt → Int × Int) : Mm (fun _ _ => False) [] g := ⟨fun _ h => (nomatch h), fun _ h => (nomatch h), fun _ _ h => h.elim, fun _ _ h => h.elim⟩
theorem Mm.put {Q : Int → Stt → Prop} {l : List Stt} {g : Stt → Int × Int} {R : Int → Prop} {x : Stt} {lo hi : Int} (h : Mm Q l g) (h1 : R lo) (h2 : R hi) (h3 : ∀ c, R c → lo ≤ c ∧ c ≤ hi) : Mm (fun c s => Q c s ∨ (s = x ∧ R c)) (insS l x) (updM l g x lo hi) where
  lo := fun s hs => by
    unfold updM
    by_cases e : s = x
    · subst e
      rw [if_pos rfl]
      by_cases m : s ∈ l
      · rw [if_pos m]
        show Q (min (g s).1 lo) s ∨ s = s ∧ R (min (g s).1 lo)
        by_cases c : (g s).1 ≤ lo
        · rw [Int.min_eq_left c]; exact .inl (h.lo s m)
        · rw [Int.min_eq_right (by omega)]; exact .inr ⟨rfl, h1⟩
      · rw [if_neg m]
        show Q (min lo lo) s ∨ s = s ∧ R (min lo lo)
        rw [Int.min_self]; exact .inr ⟨rfl, h1⟩
    · rw [if_neg e]
      exact .inl (h.lo s ((ins_mem.mp hs).resolve_right e))
  hi := fun s hs => by
    unfold updM
    by_cases e : s = x
    · subst e
      rw [if_pos rfl]
      by_cases m : s ∈ l
      · rw [if_pos m]
        show Q (max (if s ∈ l then (g s).2 else hi) hi) s ∨ s = s ∧ R (max (if s ∈ l then (g s).2 else hi) hi)
        rw [if_pos m]
        by_cases c : (g s).2 ≤ hi
        · rw [Int.max_eq_right c]; exact .inr ⟨rfl, h2⟩
        · rw [Int.max_eq_left (by omega)]; exact .inl (h.hi s m)
      · show Q (max (if s ∈ l then (g s).2 else hi) hi) s ∨ s = s ∧ R (max (if s ∈ l then (g s).2 else hi) hi)
        rw [if_neg m, Int.max_self]; exact .inr ⟨rfl, h2⟩
    · rw [if_neg e]
      exact .inl (h.hi s ((ins_mem.mp hs).resolve_right e))
  inn := fun c s q => ins_mem.mpr (q.elim (fun q => .inl (h.inn c s q)) fun q => .inr q.1)
  bnd := fun c s q => by
    unfold updM
    by_cases e : s = x
    · subst e
      rw [if_pos rfl]
      show min (if s ∈ l then (g s).1 else lo) lo ≤ c ∧ c ≤ max (if s ∈ l then (g s).2 else hi) hi
      rcases q with q | ⟨_, q⟩
      · rw [if_pos (h.inn c s q), if_pos (h.inn c s q)]
        have := h.bnd c s q
        omega
      · have := h3 c q
        omega
    · rw [if_neg e]
      exact h.bnd c s (q.resolve_right fun z => e z.1)
theorem foldl_max : ∀ (ns : List Int) (n m : Int), (m = n ∨ m ∈ ns) → n ≤ m → (∀ x ∈ ns, x ≤ m) → ns.foldl max n = m
  | [], n, m, h, _, _ => (h.resolve_right fun z => nomatch z).symm
  | y :: ns, n, m, h, h1, h2 => by
    rw [List.foldl_cons]
    have hy := h2 y List.mem_cons_self
    refine foldl_max ns (max n y) m ?_ (by omega) fun x hx => h2 x (List.mem_cons_of_mem _ hx)
    rcases h with e | e
    · exact .inl (by omega)
    · rcases List.mem_cons.mp e with e | e
      · exact .inl (by omega)
      · exact .inr e
end DL
namespace DL
open PySem PySem.Spec PyProof.Rows PyProof.V L2
end DL
namespace DL
open PySem L2
/-- 1 for a changed person -/
def stp (a : List Int) (p x : Int) : Int := if nat a p = x then 0 else 1
def dsF (a : List Int) : List Int → Int → Int
  | [], _ => 0
  | x :: c, p => stp a p x + dsF a c (p + 1)
/-- how many changed people, from a place on -/
theorem ds_dst {a : List Int} : ∀ (c : List Int) (k : Nat), dsF a c k = (((List.range c.length).filter fun j => !decide (nat a ((k + j : Nat) : Int) = nat c (j : Int))).length : Nat)
  | [], k => rfl
  | x :: c, k => by
    have ih := ds_dst (a := a) c (k + 1)
    have e0 : nat (x :: c) ((0 : Nat) : Int) = x := rfl
    have es : ∀ j : Nat, nat (x :: c) ((j + 1 : Nat) : Int) = nat c (j : Int) := fun j => by unfold nat; simp
    show stp a k x + dsF a c ((k : Int) + 1) = _
    rw [show ((k : Int) + 1) = ((k + 1 : Nat) : Int) by omega, ih, List.length_cons, List.range_succ_eq_map, List.filter_cons, List.filter_map, Nat.add_zero]
    have ef : ((List.range c.length).filter ((fun j => !decide (nat a ((k + j : Nat) : Int) = nat (x :: c) (j : Int))) ∘ Nat.succ)) = (List.range c.length).filter fun j => !decide (nat a ((k + 1 + j : Nat) : Int) = nat c (j : Int)) := by
      refine List.filter_congr fun j _ => ?_
      show (!decide (nat a ((k + (j + 1) : Nat) : Int) = nat (x :: c) ((j + 1 : Nat) : Int))) = _
      rw [es, show k + (j + 1) = k + 1 + j by omega]
    rw [ef]
    unfold stp
    rw [e0]
    by_cases h : nat a (k : Int) = x
    · rw [if_pos h, if_neg (by simp [h]), List.length_map]; omega
    · rw [if_neg h, if_pos (by simp [h]), List.length_cons, List.length_map]; omega
end DL
namespace DL
open PySem PySem.Spec PyProof.Rows L2
open PySem.W (AlikeAll EachIs)
end DL
namespace DL
open PySem L2
open PySem.W (alike alikeAll dataLt minD)
theorem ds_eq {a c : List Int} (hl : c.length = a.length) : dsF a c 0 = (dst a c : Nat) := by
  have h := ds_dst (a := a) c 0
  rw [show ((0 : Nat) : Int) = 0 from rfl] at h
  rw [h]
  unfold dst cgL rngI
  rw [List.filter_map, List.length_map, hl]
  congr 2
  refine List.filter_congr fun j _ => ?_
  show (!decide (nat a ((0 + j : Nat) : Int) = nat c (j : Int))) = _
  rw [Nat.zero_add]
  simp only [Function.comp, Int.zero_add]
  rfl
end DL
namespace DL
open PySem PySem.Spec PyProof.Rows L2
end DL
namespace DL
open PySem L2
open PySem.W (alike alikeAll dataLt minD)
end DL
namespace DL
open PySem L2
end DL
namespace DL
open PySem PySem.Spec PyProof.Rows L2
end DL
namespace DL
open PySem L2
structure Calm (a : List Int) (p : Int) : Prop where
  td : DL.IsT a p ∨ DL.IsD a p
  l : ¬ DL.IsT a (p - 1) ∧ ¬ DL.IsD a (p - 1)
  r : ¬ DL.IsT a (p + 1) ∧ ¬ DL.IsD a (p + 1)
theorem Calm.in' {a : List Int} {p : Int} (c : Calm a p) : 0 < p ∧ p + 1 < a.length := by
  rcases c.td with t | t
  · exact ⟨t.1, t.2.1⟩
  · exact ⟨t.1, t.2.1⟩
theorem stay_if {a b : List Int} {q : Int} (h : Keep a b) (h0 : 0 ≤ q) (h1 : q < a.length) (n : ¬ DL.IsT a q ∧ ¬ DL.IsD a q) : nat b q = nat a q := by
  rcases h.chg q h0 h1 with c | c | c
  · exact c.symm
  · exact absurd c.1 n.1
  · exact absurd c.1 n.2
theorem Calm.nb {a b : List Int} {p : Int} (c : Calm a p) (h : Keep a b) : nat b (p - 1) = nat a (p - 1) ∧ nat b (p + 1) = nat a (p + 1) := by
  have := c.in'
  exact ⟨stay_if h (by omega) (by omega) c.l, stay_if h (by omega) (by omega) c.r⟩
theorem Calm.ne {a : List Int} {p : Int} (c : Calm a p) : midN a p ≠ nat a p := by
  have hin := c.in'
  intro z
  have e := (callN_iff (ns := a) (i := p) (by omega) (by omega)).mpr z
  rcases call_cases (b := a) (i := p) (by omega) (by omega) with h | h | h
  · have em : midN a p = mid3 (nat a (p - 1)) (nat a p) (nat a (p + 1)) := by unfold midN; rw [if_neg (by omega)]
    rcases c.td with t | t
    · have := mid3_top t.2.2.1 t.2.2.2
      have := t.2.2
      omega
    · have := mid3_dip t.2.2.1 t.2.2.2
      have := t.2.2
      omega
  · have := h.1.2.2
    have := h.2
    omega
  · have := h.1.2.2
    have := h.2
    omega
theorem Calm.mid {a b : List Int} {p : Int} (c : Calm a p) (h : Keep a b) (hp : nat b p = nat a p) : midN b p = midN a p := by
  have := c.nb h
  have hl := h.len
  unfold midN
  rw [hp, this.1, this.2, hl]
theorem Calm.two {a b : List Int} {p : Int} (c : Calm a p) (h : Keep a b) : nat b p = nat a p ∨ nat b p = midN a p := by
  have hin := c.in'
  have nb := c.nb h
  by_cases e : nat b p = nat a p
  · exact .inl e
  · right
    obtain ⟨q, q0, q1, qs, qr⟩ := h.run p (by omega) (by omega)
    have side : nat b p = nat b (p - 1) ∨ nat b p = nat b (p + 1) := by
      by_cases lt : q < p
      · exact .inl (qr (p - 1) (by unfold Btw; omega)).symm
      · by_cases eq : q = p
        · subst eq; exact absurd qs.symm e
        · exact .inr (qr (p + 1) (by unfold Btw; omega)).symm
    have cc := call_cases (b := a) (i := p) (by omega) (by omega)
    have ne := c.ne
    have nc : ¬ callN a p = a := fun z => ne ((callN_iff (by omega) (by omega)).mp z)
    rcases h.chg p (by omega) (by omega) with k | k | k
    · exact absurd k.symm e
    · obtain ⟨_, x1, x2⟩ := h.near_top k.1 k.2 (x := p + 1) (.inl rfl)
      obtain ⟨_, y1, y2⟩ := h.near_top k.1 k.2 (x := p - 1) (.inr rfl)
      have kt := k.1.2.2
      rcases cc with z | z | z
      · exact absurd z nc
      · have := z.2; omega
      · have := z.1.2.2; omega
    · obtain ⟨_, x1, x2⟩ := h.near_dip k.1 k.2 (x := p + 1) (.inl rfl)
      obtain ⟨_, y1, y2⟩ := h.near_dip k.1 k.2 (x := p - 1) (.inr rfl)
      have kt := k.1.2.2
      rcases cc with z | z | z
      · exact absurd z nc
      · have := z.1.2.2; omega
      · have := z.2; omega
theorem Calm.call {a b : List Int} {p : Int} (c : Calm a p) : Keep (callN a p) b ↔ Keep a b ∧ nat b p = midN a p := by
  have hin := c.in'
  constructor
  · intro h
    have k := ((Keep.refl a).call (by omega) (by omega : p < a.length)).trans h
    refine ⟨k, ?_⟩
    rcases c.two k with e | e
    · exfalso
      -- p can change no more
      have ln : (callN a p).length = a.length := ((Keep.refl a).call (by omega) (by omega : p < a.length)).len
      have np := nat_call (b := a) (i := p) (p := p) (by omega) (by omega) (by omega)
      rw [if_pos rfl] at np
      have nl := nat_call (b := a) (i := p) (p := p - 1) (by omega) (by omega) (by omega)
      rw [if_neg (by omega)] at nl
      have nr := nat_call (b := a) (i := p) (p := p + 1) (by omega) (by omega) (by omega)
      rw [if_neg (by omega)] at nr
      have ne := c.ne
      have nc : ¬ callN a p = a := fun z => ne ((callN_iff (by omega) (by omega)).mp z)
      have eqn : midN a p = nat a (p - 1) ∨ midN a p = nat a (p + 1) := by
        rcases call_cases (b := a) (i := p) (by omega) (by omega) with z | z | z
        · exact absurd z nc
        · exact z.2.1
        · exact z.2.1
      rcases h.chg p (by omega) (by omega) with z | z | z
      · omega
      · have := z.1.2.2; omega
      · have := z.1.2.2; omega
    · exact e
  · rintro ⟨h, e⟩
    have ne := c.ne
    have nc : ¬ callN a p = a := fun z => ne ((callN_iff (by omega) (by omega)).mp z)
    have cc := call_cases (b := a) (i := p) (by omega) (by omega)
    refine h.step (by omega) (by omega) (fun z => ne (by omega)) e.symm fun x hx => ⟨fun t => ?_, fun t => ?_⟩
    · have t' := t.2.2
      rcases cc with z | z | z
      · exact absurd z nc
      · rcases hx with rfl | rfl <;> omega
      · have := z.1.2.2; omega
    · have t' := t.2.2
      rcases cc with z | z | z
      · exact absurd z nc
      · have := z.1.2.2; omega
      · rcases hx with rfl | rfl <;> omega
theorem Calm.up {a b : List Int} {p : Int} (c : Calm a p) (h : Keep a b) (e : nat b p = midN a p) : Keep a (b.set p.toNat (nat a p)) := by
  have hin := c.in'
  have hl := h.len
  have nb := c.nb h
  have at' : ∀ q : Int, 0 ≤ q → nat (b.set p.toNat (nat a p)) q = if q = p then nat a p else nat b q := fun q q0 => by
    rw [nat_set q0]
    by_cases z : q = p
    · rw [if_pos ⟨by omega, by omega⟩, if_pos z]
    · rw [if_neg (fun y => z (by omega)), if_neg z]
  have chg' : ∀ q : Int, 0 ≤ q → q < a.length → nat a q = nat (b.set p.toNat (nat a p)) q ∨ (DL.IsT a q ∧ nat (b.set p.toNat (nat a p)) q < nat a q) ∨ (DL.IsD a q ∧ nat a q < nat (b.set p.toNat (nat a p)) q) := fun q q0 q1 => by
    rw [at' q q0]
    by_cases z : q = p
    · rw [if_pos z, z]; exact .inl rfl
    · rw [if_neg z]; exact h.chg q q0 q1
  refine ⟨by rw [List.length_set]; exact hl, chg', fun q q0 q1 => ?_, fun q q0 q1 => ?_⟩
  · rw [at' q q0, at' (q + 1) (by omega)]
    by_cases z : q = p
    · subst z
      rw [if_pos rfl, if_neg (by omega), nb.2]
      exact ⟨fun y => by omega, fun y => by omega, fun y => y⟩
    · by_cases z2 : q + 1 = p
      · rw [if_neg z, if_pos z2]
        have : q = p - 1 := by omega
        subst this
        rw [nb.1, show p - 1 + 1 = p by omega]
        exact ⟨fun y => by omega, fun y => by omega, fun y => y⟩
      · rw [if_neg z, if_neg z2]
        exact h.ord q q0 q1
  · by_cases z : q = p
    · subst z
      refine ⟨q, q0, q1, by rw [at' q q0, if_pos rfl], fun r hr => by rw [show r = q by unfold Btw at hr; omega]⟩
    · obtain ⟨t, t0, t1, ts, tr⟩ := h.run q q0 q1
      by_cases near : Btw q t p
      · -- the way there leads by p: the neighbour before p stayed
        by_cases side : q < p
        · refine ⟨p - 1, by omega, by omega, by rw [at' _ (by omega), if_neg (by omega)]; exact nb.1.symm, fun r hr => ?_⟩
          unfold Btw at hr near
          rw [at' r (by omega), if_neg (by omega), at' q q0, if_neg z]
          exact tr r (by unfold Btw; omega)
        · refine ⟨p + 1, by omega, by omega, by rw [at' _ (by omega), if_neg (by omega)]; exact nb.2.symm, fun r hr => ?_⟩
          unfold Btw at hr near
          rw [at' r (by omega), if_neg (by omega), at' q q0, if_neg z]
          exact tr r (by unfold Btw; omega)
      · have tp : t ≠ p := fun y => near (by unfold Btw; omega)
        refine ⟨t, t0, t1, by rw [at' t t0, if_neg tp]; exact ts, fun r hr => ?_⟩
        have rp : r ≠ p := fun y => near (by subst y; exact hr)
        have r0 : 0 ≤ r := by unfold Btw at hr; omega
        rw [at' r r0, if_neg rp, at' q q0, if_neg z]
        exact tr r hr
theorem nodup_map_on {α β : Type} {f : α → β} : ∀ {l : List α}, l.Nodup → (∀ x ∈ l, ∀ y ∈ l, f x = f y → x = y) → (l.map f).Nodup
  | [], _, _ => List.Pairwise.nil
  | x :: l, hn, h => by
    have hn := List.nodup_cons.mp hn
    rw [List.map_cons]
    refine List.nodup_cons.mpr ⟨fun z => ?_, nodup_map_on hn.2 fun y hy w hw => h y (List.mem_cons_of_mem _ hy) w (List.mem_cons_of_mem _ hw)⟩
    obtain ⟨y, hy, e⟩ := List.mem_map.mp z
    exact hn.1 (by rw [h x List.mem_cons_self y (List.mem_cons_of_mem _ hy) e.symm]; exact hy)
theorem Calm.low {a : List Int} {p : Int} (c : Calm a p) : ((folR a).filter fun b => decide (nat b p = midN a p)) = folR (callN a p) := asc_rows ((fol_asc a).filter _) (fol_asc _) fun b => by
  rw [List.mem_filter, decide_eq_true_eq, fol_mem, fol_mem, c.call]
theorem Calm.half {a : List Int} {p : Int} (c : Calm a p) : ((folR a).filter fun b => decide (nat b p = nat a p)).length = (folR (callN a p)).length := by
  have hin := c.in'
  have set_at : ∀ {b : List Int} {v : Int}, b.length = a.length → nat (b.set p.toNat v) p = v := fun {b v} hl => by
    rw [nat_set (by omega), if_pos ⟨by omega, by omega⟩]
  have inj : ∀ {v : Int} {b d : List Int}, b.length = a.length → d.length = a.length → nat b p = nat d p → b.set p.toNat v = d.set p.toNat v → b = d := fun {v b d} hb hd hp e => by
    refine row_eq (by omega) fun q q0 q1 => ?_
    by_cases z : q = p
    · rw [z]; exact hp
    · have this : nat (b.set p.toNat v) q = nat (d.set p.toNat v) q := congrArg (fun l => nat l q) e
      rw [nat_set q0, nat_set q0, if_neg (fun y => z (by omega)), if_neg (fun y => z (by omega))] at this
      exact this
  rw [← c.low]
  refine Nat.le_antisymm ?_ ?_
  · have hs := sub_len (l := ((folR a).filter fun b => decide (nat b p = nat a p)).map fun b => b.set p.toNat (midN a p)) (m := (folR a).filter fun b => decide (nat b p = midN a p)) (nodup_map_on ((fol_nodup a).filter _) fun x hx y hy e => by
      obtain ⟨x1, x2⟩ := List.mem_filter.mp hx
      obtain ⟨y1, y2⟩ := List.mem_filter.mp hy
      have x2 := of_decide_eq_true x2
      have y2 := of_decide_eq_true y2
      exact inj (fol_mem.mp x1).len (fol_mem.mp y1).len (by omega) e) fun b hb => by
      obtain ⟨x, hx, rfl⟩ := List.mem_map.mp hb
      obtain ⟨x1, x2⟩ := List.mem_filter.mp hx
      have x2 := of_decide_eq_true x2
      have k := fol_mem.mp x1
      have ek : x.set p.toNat (midN a p) = callN x p := by
        unfold callN
        rw [c.mid k x2]
      rw [List.mem_filter, decide_eq_true_eq, fol_mem]
      exact ⟨by rw [ek]; exact k.call (by omega) (by omega), set_at k.len⟩
    rw [List.length_map] at hs
    exact hs
  · have hs := sub_len (l := ((folR a).filter fun b => decide (nat b p = midN a p)).map fun b => b.set p.toNat (nat a p)) (m := (folR a).filter fun b => decide (nat b p = nat a p)) (nodup_map_on ((fol_nodup a).filter _) fun x hx y hy e => by
      obtain ⟨x1, x2⟩ := List.mem_filter.mp hx
      obtain ⟨y1, y2⟩ := List.mem_filter.mp hy
      have x2 := of_decide_eq_true x2
      have y2 := of_decide_eq_true y2
      exact inj (fol_mem.mp x1).len (fol_mem.mp y1).len (by omega) e) fun b hb => by
      obtain ⟨x, hx, rfl⟩ := List.mem_map.mp hb
      obtain ⟨x1, x2⟩ := List.mem_filter.mp hx
      have x2 := of_decide_eq_true x2
      have k := fol_mem.mp x1
      rw [List.mem_filter, decide_eq_true_eq, fol_mem]
      exact ⟨c.up k x2, set_at k.len⟩
    rw [List.length_map] at hs
    exact hs
theorem Calm.all {a : List Int} {p : Int} (c : Calm a p) : (folR a).length = 2 * (folR (callN a p)).length := by
  have h1 := c.half
  have h2 := congrArg List.length c.low
  have split : ∀ l : List (List Int), (∀ b ∈ l, nat b p = nat a p ∨ nat b p = midN a p) → l.length = (l.filter fun b => decide (nat b p = nat a p)).length + (l.filter fun b => decide (nat b p = midN a p)).length := fun l => by
    induction l with
    | nil => intro _; rfl
    | cons b l ih =>
      intro h
      have ih := ih fun x hx => h x (List.mem_cons_of_mem _ hx)
      have ne := c.ne
      rcases h b List.mem_cons_self with e | e
      · rw [List.filter_cons_of_pos (by simpa using e), List.filter_cons_of_neg (by simp; omega), List.length_cons, List.length_cons]; omega
      · rw [List.filter_cons_of_neg (by simp; omega), List.filter_cons_of_pos (by simpa using e), List.length_cons, List.length_cons]; omega
  have := split (folR a) fun b hb => c.two (fol_mem.mp hb)
  omega
end DL
namespace DL
open PySem L2
end DL
namespace DL
open PySem L2
end DL
namespace DL
open PySem PySem.Spec PyProof.Rows L2
section
variable {prog : Program} {w : World} {A : Around} {E : Value → Shared → Prop} {s : Shared}
theorem walks_raw (hh : A.handled = none) (I d : Addr) (hne : d ≠ I) (es : Array DictEntry) (ep : Nat) :
    Walks prog w A I [I, d] [I] es.size (fun i v => (es.map (·.key))[i]? = some v) (fun i h => h.IsKeyIter I d i es.size ep ∧ h.DictRaw d es ep) where
  sub := fun b hb => by simp at hb; simp [hb]
  frame := fun _ _ _ st hk => ⟨st.1.at fun o e => hk I (by simp) o e, st.2.at fun o e => hk d (by simp) o e⟩
  item := fun i s Q E hi st hQ => by
    refine PySem.wpAny_pyNext_keys_item_raw st.1 st.2 hi fun h' hit' hs' => ?_
    exact hQ _ h' s.toks (by rw [Array.getElem?_map, Array.getElem?_eq_getElem hi]; rfl) ⟨hit', st.2.at fun o e => (hs'.2 d hne).trans e⟩ fun b o hb e => (hs'.2 b (fun h => hb (by simp [h]))).trans e
  done := fun s Q E st hQ => PySem.wpAny_pyNext_keys_end_raw hh st.1 st.2 (Nat.le_refl _) fun h' he' => hQ h' s.toks fun b o hb e => he' b o (fun h => hb (by simp [h])) e
  self := fun _ _ _ _ st hQ => wpAny_pyIter_keyiter st.1 hQ
end
def rMaxD (K : PySem.W.Frag) : List V → Hp → VK → Prop := fun vs H Q => ∃ (a : Addr) (kvs : List (KK × V × V)) (dt : Array DictEntry × Nat) (n : Int) (ns : List Int), vs = [V.ref a] ∧ H a = some (dcO a kvs dt) ∧ kvs.map (·.2.1) = (n :: ns).map V.int ∧ Q (.int (ns.foldl max n)) H
theorem er_ikeys : ∀ {kvs : List (KK × V × V)} {es : List DictEntry} {ns : List Int}, Paired ER kvs es → kvs.map (·.2.1) = ns.map V.int → IntsAre (es.map (·.key)) ns
  | _, _, [], .nil, _ => .nil
  | _, _, n :: ns, .cons r t, h => by
    rw [List.map_cons, List.map_cons] at h
    injection h with h1 h2
    have rk := r.2.1
    rw [h1] at rk
    obtain ⟨t', et⟩ := rk
    rw [List.map_cons, et]
    exact .cons n t' (er_ikeys t h2)
  | _, _, _ :: _, .nil, h => by cases h
  | _, _, [], .cons _ _, h => by cases h
section
variable {X : Cx}
theorem cr_maxD {k : Nat} (hr : Room k X.A) (hc : X.calm = true) : CallR X (.builtin "max") (rMaxD X.K) := by
  intro pins s σ H vs us Q I r h
  obtain ⟨a, kvs, dt, n, ns, rfl, hs, hk, q⟩ := h
  have hu := hr.un
  have dz : X.A.units + 1 + PyData.depthAll (.int n :: ns.map PyData.int) < cLine := by
    have := depth_ints (n :: ns)
    rw [List.map_cons] at this
    rw [this]; omega
  obtain ⟨⟨ob, h1, h2, h3, h4⟩, hz, hsz, _⟩ := dc_atT I.hok hs
  rw [Vals.ref1 r]
  have rd := reads_ints (h := s.heap) (er_ikeys h4 hk)
  have ea : (dt.1.map (·.key)).toList = dt.1.toList.map (·.key) := Array.toList_map ..
  rw [← ea] at rd
  have hn : (dt.1.map (·.key)).size = (ns.map PyData.int).length + 1 := PySem.W.readsAll_len rd
  have hsz2 : dt.1.size = (dt.1.map (·.key)).size := (Array.size_map ..).symm
  have hlt : a < s.heap.objs.size := Heap.lt_size h1
  refine PySem.call_max_walkH (iter_keys hz h1 h2 h3 ?_)
  have W := (walks_raw (prog := X.prog) (w := X.w) (A := X.A.in1) (I.ok.hd hc) s.heap.objs.size a (Nat.ne_of_lt hlt) dt.1 dt.2).toS
  have n0 : 0 < dt.1.size := by omega
  refine ⟨_, _, _, _, _, _, _, s.heap, _, rfl, W, ⟨⟨_, Heap.get?_push_size _ rfl, rfl, rfl⟩, ⟨ob, Heap.get?_push_of_some _ h1, h2, h3⟩⟩, fun b hb => ?_, n0, fun b o e hb => ?_, fun b o e => Heap.get?_push_of_some _ e, PySem.W.cmpIn_gt (A := X.A.in1) rd (alike_ints (n :: ns)) (by show X.A.units + 1 + _ < _; exact dz), fun v s' hP m => ?_⟩
  · show b < (s.heap.push _).objs.size
    rw [Heap.size_push]
    rcases List.mem_cons.mp hb with rfl | hb
    · exact Nat.lt_succ_self _
    · rcases List.mem_cons.mp hb with rfl | hb
      · exact Nat.lt_succ_of_lt hlt
      · cases hb
  · exact absurd (Heap.lt_size e) ((List.mem_singleton.mp hb) ▸ Nat.lt_irrefl _)
  · obtain ⟨h', tk, rfl, hk'⟩ := PySem.W.moved_old rfl rfl m
    obtain ⟨bs, rr, _, _, _⟩ := PySem.W.readsAll_atA rd _ v hP
    have e1 : dt.1.size - 1 = (ns.map PyData.int).length := by omega
    have e2 := (PySem.W.argBest_fold (fun a b => PySem.W.dataLt b a) PyData.none (.int n) (ns.map .int) (ns.map PyData.int).length (Nat.le_refl _)).2
    rw [List.take_length] at e2
    rw [e1] at rr
    have rd2 : Reads h' v (PySem.W.maxD (.int n) (ns.map .int)) bs := PySem.W.reads_keeps hk' (by unfold PySem.W.maxD; rw [← e2]; exact rr)
    rw [PySem.W.maxD_ints] at rd2
    cases rd2
    exact ⟨.int _, H, I.kept hk', ⟨_, rfl⟩, q⟩
end
end DL
namespace DL
open PySem L2
def encI (ks : List (Int × Int)) : List (KK × V × V) := ks.map fun p => (.lf (.num p.1), .int p.1, .int p.2)
def encD (ks : List (Int × Int)) : List (D × D) := ks.map fun p => (.int p.1, .int p.2)
def getI (t : List (Int × Int)) (k : Int) : Option Int := (t.find? fun p => decide (p.1 = k)).map (·.2)
def putI (t : List (Int × Int)) (k v : Int) : List (Int × Int) := if (getI t k).isSome = true then t.map (fun z => if z.1 = k then (z.1, v) else z) else t ++ [(k, v)]
def addUp (kt ks : List (Int × Int)) (m : Int) : List (Int × Int) := ks.foldl (fun t p => putI t (p.1 + m) ((getI t (p.1 + m)).getD 0 + p.2)) kt
theorem kk_int {i j : Int} : ((KK.lf (.num i)) = .lf (.num j)) ↔ i = j := ⟨fun h => by injection h with h; injection h, fun h => by rw [h]⟩
theorem enc_get (t : List (Int × Int)) (k : Int) : getK (encI t) (.lf (.num k)) = (getI t k).map V.int := by
  unfold getK getI encI
  rw [List.find?_map, Option.map_map, Option.map_map]
  have e : ((fun z : KK × V × V => decide (z.1 = KK.lf (.num k))) ∘ fun p : Int × Int => (KK.lf (.num p.1), V.int p.1, V.int p.2)) = fun p : Int × Int => decide (p.1 = k) := funext fun p => decide_eq_decide.mpr kk_int
  rw [e]; rfl
theorem enc_put (t : List (Int × Int)) (k v : Int) : put3 (encI t) (.lf (.num k)) (.int k) (.int v) = encI (putI t k v) := by
  unfold put3 putI
  rw [enc_get, Option.isSome_map]
  split
  · unfold encI
    rw [List.map_map, List.map_map]
    refine List.map_congr_left fun p _ => ?_
    show (if KK.lf (.num p.1) = .lf (.num k) then _ else _) = (fun p : Int × Int => (KK.lf (.num p.1), V.int p.1, V.int p.2)) (if p.1 = k then (p.1, v) else p)
    by_cases e : p.1 = k
    · rw [if_pos e, if_pos (kk_int.mpr e)]
    · rw [if_neg e, if_neg (fun z => e (kk_int.mp z))]
  · unfold encI
    rw [List.map_append]; rfl
theorem putI_len (t : List (Int × Int)) (k v : Int) : (putI t k v).length ≤ t.length + 1 := by
  unfold putI
  split
  · rw [List.length_map]; omega
  · rw [List.length_append]; exact Nat.le_refl _
section
variable {K : PySem.W.Frag} {Wx : WX}
theorem enc_keys {H : Hp} (t : List (Int × Int)) : KeysV K H (encI t) := fun y hy => by
  obtain ⟨p, _, rfl⟩ := List.mem_map.mp hy
  exact .inl ⟨_, rfl, rfl⟩
theorem enc_sort (t : List (Int × Int)) (k : Int) : SortOk (.lf (.num k)) (encI t) := .inl ⟨⟨_, rfl⟩, fun y hy => by
  obtain ⟨p, _, rfl⟩ := List.mem_map.mp hy
  exact ⟨_, rfl⟩⟩
theorem add_ii {a b : Int} {H : Hp} {Q : VK} (q : Q (.int (a + b)) H) : rAddU K (.int a) (.int b) H Q := .inl ⟨_, _, rfl, rfl, q⟩
def spAdd (K : PySem.W.Frag) : Sp := fun vs H Q _ => vs.length = 3 ∧ ∃ (t s : Addr) (m : Int) (kt ks : List (Int × Int)) (dts : Array DictEntry × Nat), vs = [.ref t, .ref s, .int m] ∧ t ≠ s ∧ IsDc H t (encI kt) ∧ H s = some (dcO s (encI ks) dts) ∧ kt.length + ks.length < sizeLine ∧
  ∀ H', (∀ p o, p ≠ t → H p = some o → H' p = some o) → IsDc H' t (encI (addUp kt ks m)) → Q .non H'
theorem addUp_take {kt ks : List (Int × Int)} {m : Int} {i : Nat} {z : Int × Int} (h : ks[i]? = some z) : addUp kt (ks.take (i + 1)) m = putI (addUp kt (ks.take i) m) (z.1 + m) ((getI (addUp kt (ks.take i) m) (z.1 + m)).getD 0 + z.2) := by
  unfold addUp
  rw [List.take_add_one, h, Option.toList_some, List.foldl_append]; rfl
theorem addUp_len {m : Int} : ∀ (ks kt : List (Int × Int)), (addUp kt ks m).length ≤ kt.length + ks.length
  | [], kt => Nat.le_refl _
  | p :: ks, kt => by
    have := addUp_len (m := m) ks (putI kt (p.1 + m) ((getI kt (p.1 + m)).getD 0 + p.2))
    have h2 := putI_len kt (p.1 + m) ((getI kt (p.1 + m)).getD 0 + p.2)
    rw [List.length_cons]
    show (addUp (putI kt (p.1 + m) ((getI kt (p.1 + m)).getD 0 + p.2)) ks m).length ≤ _
    omega
theorem run_add {vs : List V} {H : Hp} {Q : VK} {E : XK} {N : List Str} (hN : N.length = 5) (h : spAdd K vs H Q E) :
    tFor (iItemsN (tVar 1)) (gTup K 2 (tgN [3, 4])) (sNPut K (tVar 0) (tOp (rAddU K) (tVar 3) (tVar 2)) (tOp (rAddU K) (tBMD K (rNGet2 K) (tVar 0) (tCons (tOp (rAddU K) (tVar 3) (tVar 2)) (tCons (tC (.int 0)) tNil))) (tVar 4))) { nx := fun _ H' => Q .non H', rt := Q } (L2.start N vs) H := by
  obtain ⟨_, t, s, m, kt, ks, dts, rfl, ne, ht, hs, hl, q⟩ := h
  have st : L2.start N [.ref t, .ref s, .int m] = [some (.ref t), some (.ref s), some (.int m), none, none] := by
    unfold L2.start
    rw [hN]; rfl
  rw [st]
  refine ⟨_, rfl, s, encI ks, dts, rfl, hs, ?_⟩
  have W : Walk (ItN s (encI ks) dts) ks.length (fun H => H s = some (dcO s (encI ks) dts)) (fun i H x H' => (ItN s (encI ks) dts).yld i H x H') := ⟨fun i H hi g => ⟨g, by unfold encI; rw [List.length_map]; exact hi⟩, fun H g => ⟨g, by unfold encI; rw [List.length_map]⟩, fun _ _ _ _ _ _ y => y⟩
  refine for_it W (fun i σ H1 => (∃ a b, σ = [some (.ref t), some (.ref s), some (.int m), a, b]) ∧ (∀ p o, p ≠ t → H p = some o → H1 p = some o) ∧ IsDc H1 t (encI (addUp kt (ks.take i) m))) ⟨⟨_, _, rfl⟩, fun p o _ e => e, by rw [List.take_zero]; exact ht⟩ (fun i σ H1 _ h => ?_) (fun i x σ H1 H2 hlt h y => ?_) (fun σ H1 h => ?_)
  · exact h.2.1 s _ (Ne.symm ne) hs
  · obtain ⟨⟨a, b, rfl⟩, hk, hd⟩ := h
    obtain ⟨T, x1, y1, rfl, hT, rfl, e1, e2⟩ := y
    obtain ⟨z, hz⟩ : ∃ z, ks[i]? = some z := ⟨ks[i], List.getElem?_eq_getElem hlt⟩
    have ez : (encI ks)[i]? = some (.lf (.num z.1), .int z.1, .int z.2) := by
      unfold encI
      rw [List.getElem?_map, hz]; rfl
    dsimp only at e1 e2
    rw [ez] at e1 e2
    cases e1
    cases e2
    refine ⟨T, [.int z.1, .int z.2], rfl, .inl (.inl upd_same), rfl, tgN_run (is := [3, 4]) rfl ?_⟩
    have nt : t ≠ T := fun e => by
      obtain ⟨_, hd⟩ := hd
      rw [e, hT] at hd
      cases hd
    have hd2 : IsDc (upd H1 T (.tup [.int z.1, .int z.2])) t (encI (addUp kt (ks.take i) m)) := by
      obtain ⟨dt, hd⟩ := hd
      exact ⟨dt, by rw [upd_ne nt]; exact hd⟩
    have ky : ∀ {H : Hp}, KeyV K H (.int (z.1 + m)) (.lf (.num (z.1 + m))) := .inl ⟨_, rfl, rfl⟩
    have al := addUp_len (m := m) (ks.take i) kt
    have il : (ks.take i).length ≤ ks.length := by rw [List.length_take]; omega
    refine ⟨_, rfl, ⟨t, _, rfl, hd2⟩, ?_⟩
    refine ⟨_, rfl, _, rfl, add_ii ?_⟩
    refine ⟨t, .int (z.1 + m), .int 0, _, rfl, rfl, ⟨_, _, hd2, enc_keys _, ky, enc_sort _ _, rfl⟩, ?_⟩
    rw [enc_get]
    have ev : ((getI (addUp kt (ks.take i) m) (z.1 + m)).map V.int).getD (.int 0) = .int ((getI (addUp kt (ks.take i) m) (z.1 + m)).getD 0) := by
      cases getI (addUp kt (ks.take i) m) (z.1 + m) <;> rfl
    rw [ev]
    refine ⟨_, rfl, add_ii ?_⟩
    refine ⟨_, rfl, _, rfl, _, rfl, add_ii ?_⟩
    refine ⟨t, _, rfl, ⟨_, _, hd2, enc_keys _, ky, enc_sort _ _, by unfold encI; rw [List.length_map]; omega, rfl⟩, fun dt => ⟨⟨_, _, rfl⟩, fun p o hp e => ?_, ⟨dt, ?_⟩⟩⟩
    · rw [upd_ne hp]
      have := hk p o hp e
      rw [upd_ne (ne_of_none this hT)]; exact this
    · rw [upd_same, enc_put, ← addUp_take hz]
  · obtain ⟨_, hk, hd⟩ := h
    rw [List.take_of_length_le (Nat.le_refl _)] at hd
    exact q H1 hk hd
end
end DL
namespace DL
open PySem L2
abbrev ND := List (D × List (Int × Int))
def ndFind (n : ND) (c : D) : Option (List (Int × Int)) := (n.find? fun p => decide (kkD p.1 = kkD c)).map (·.2)
/-- n[c] = n.get(c, {}) -/
def ndGet (n : ND) (c : D) : ND := if (ndFind n c).isSome = true then n else n ++ [(c, [])]
def ndMap (n : ND) (c : D) (v : List (Int × Int)) : ND := n.map fun p => if kkD p.1 = kkD c then (p.1, v) else p
def ndD (n : ND) : D := dcD (n.map fun p => (p.1, dcD (encD p.2)))
section
variable {K : PySem.W.Frag} {Wx : WX} {b0 : Option Addr} {B W Z0 Z H : Hp} {σ : L2.St} {ρ : Rho} {p q : Addr} {o o' : HO}
/-- what the frame knows changes -/
theorem Ok.writeG {H' : Hp} (ok : Ok K b0 W Z0 Z H σ ρ) (zq : Z q = none) (wq : W q = some o) (hk : ∀ r x, r ≠ q → H r = some x → H' r = some x) (hq : H' q = some o') : Ok K b0 (upd W q o') Z0 Z H' σ ρ := by
  refine ⟨ok.len, fun r x e => ?_, fun r x e => hk r x (ne_of_none e zq) (ok.zh r x e), ok.zz, fun r x e => ?_, ok.sh, fun i s e eo => ?_, ok.fix, ok.sepS⟩
  · by_cases hr : r = q
    · subst hr; rw [upd_same] at e; cases e; exact hq
    · rw [upd_ne hr] at e; exact hk r x hr (ok.bh r x e)
  · rcases ok.nb r x e with z | z
    · exact .inl z
    · exact .inr (by rw [upd_ne (ne_of_none e zq)]; exact z)
  · obtain ⟨r, x, e1, e2, e3, e4, e5⟩ := ok.own i s e eo
    have nr : r ≠ q := fun z => by rw [z, wq] at e3; cases e3
    exact ⟨r, x, e1, e2, by rw [upd_ne nr]; exact e3, hk r x nr e4, e5⟩
theorem Ok.writeF (ok : Ok K b0 W Z0 Z H σ ρ) (zq : Z q = none) (wq : W q = some o) : Ok K b0 (upd W q o') Z0 Z (upd H q o') σ ρ :=
  ok.writeG zq wq (fun r x n e => by rw [upd_ne n]; exact e) upd_same
/-- what the frame knows is frozen -/
theorem Ok.freezeF (ok : Ok K b0 W Z0 Z H σ ρ) (zq : Z q = none) (wq : W q = some o) : Ok K b0 (but W q) Z0 (upd Z q o) H σ ρ ∧ Same Z (upd Z q o) := by
  have e : W = upd (but W q) q o := by
    funext r
    by_cases hr : r = q
    · subst hr; rw [upd_same]; exact wq
    · rw [upd_ne hr, but_ne hr]
  rw [e] at ok
  obtain ⟨ok1, z1, a1, h1⟩ := ok.unframe (ok.zz.free zq) but_same
  exact ok1.freeze z1 but_same a1 h1
theorem Ok.weakB (ok : Ok K b0 W Z0 Z H σ ρ) (s : Same B W) : Ok K b0 B Z0 Z H σ ρ := by
  refine ⟨ok.len, s.trans ok.bh, ok.zh, ok.zz, fun r x e => (ok.nb r x e).imp id fun z => s.free z, ok.sh, fun i t e eo => ?_, ok.fix, ok.sepS⟩
  obtain ⟨r, x, e1, e2, e3, e4, e5⟩ := ok.own i t e eo
  exact ⟨r, x, e1, e2, s.free e3, e4, e5⟩
inductive NestA (K : PySem.W.Frag) (Z W : Hp) : List (KK × V × V) → List Addr → ND → Prop
  | nil : NestA K Z W [] [] []
  | cons {k : KK} {x : V} {c : D} {q : Addr} {ks : List (Int × Int)} {kvs : List (KK × V × V)} {qs : List Addr} {nd : ND} : kkD c = some k → Rp K Z x c → IsDc W q (encI ks) → NestA K Z W kvs qs nd → NestA K Z W ((k, x, .ref q) :: kvs) (q :: qs) ((c, ks) :: nd)
theorem NestA.mono {Z' W' : Hp} : ∀ {kvs : List (KK × V × V)} {qs : List Addr} {nd : ND}, NestA K Z W kvs qs nd → Same Z Z' → (∀ r ∈ qs, W r = W' r) → NestA K Z' W' kvs qs nd
  | _, _, _, .nil, _, _ => .nil
  | _, _, _, .cons e r w t, s, hw => .cons e (r.mono s) (by
      obtain ⟨dt, w⟩ := w
      exact ⟨dt, by rw [← hw _ (List.mem_cons_self ..)]; exact w⟩) (t.mono s fun r hr => hw r (List.mem_cons_of_mem _ hr))
theorem NestA.len : ∀ {kvs : List (KK × V × V)} {qs : List Addr} {nd : ND}, NestA K Z W kvs qs nd → kvs.length = nd.length
  | _, _, _, .nil => rfl
  | _, _, _, .cons _ _ _ t => by rw [List.length_cons, List.length_cons, t.len]
theorem NestA.keys : ∀ {kvs : List (KK × V × V)} {qs : List Addr} {nd : ND}, NestA K Z W kvs qs nd → KeysV K Z kvs
  | _, _, _, .nil => fun y h => nomatch h
  | _, _, _, .cons e r w t => fun y h => by
    rcases List.mem_cons.mp h with rfl | h
    · exact rp_key r e
    · exact t.keys y h
theorem nd_find_cons (c0 : D) (ks : List (Int × Int)) (nd : ND) (c : D) : ndFind ((c0, ks) :: nd) c = if kkD c0 = kkD c then some ks else ndFind nd c := by
  unfold ndFind
  rw [List.find?_cons]
  by_cases e : kkD c0 = kkD c
  · rw [decide_eq_true e, if_pos e]; rfl
  · rw [decide_eq_false e, if_neg e]
theorem NestA.find {c : D} {k : KK} (hc : kkD c = some k) : ∀ {kvs : List (KK × V × V)} {qs : List Addr} {nd : ND}, NestA K Z W kvs qs nd → (ndFind nd c = none ∧ getK kvs k = none) ∨ ∃ q ks, ndFind nd c = some ks ∧ getK kvs k = some (.ref q) ∧ q ∈ qs ∧ IsDc W q (encI ks)
  | _, _, _, .nil => .inl ⟨rfl, rfl⟩
  | _, _, _, .cons (k := k0) (q := q0) e r w t => by
    rw [nd_find_cons, e, hc]
    by_cases h : k0 = k
    · rw [if_pos (by rw [h]), getK_cons_eq h]
      exact .inr ⟨q0, _, rfl, rfl, List.mem_cons_self .., w⟩
    · rw [if_neg (fun z => h (Option.some.inj z)), getK_cons_ne h]
      rcases t.find hc with ⟨a, b⟩ | ⟨q, ks, a, b, m, d⟩
      · exact .inl ⟨a, b⟩
      · exact .inr ⟨q, ks, a, b, List.mem_cons_of_mem _ m, d⟩
theorem nest_key : ∀ {kvs : List (KK × V × V)} {qs : List Addr} {nd : ND}, NestA K Z W kvs qs nd → ∀ {c : D} {k : KK}, kkD c = some k → k ∉ kvs.map (·.1) → ∀ z ∈ nd, kkD z.1 ≠ kkD c
  | _, _, _, .nil, _, _, _, _ => fun z h => nomatch h
  | _, _, _, .cons e r w t, c, k, hc, hn => fun z h => by
    rw [List.map_cons] at hn
    rcases List.mem_cons.mp h with rfl | h
    · show kkD _ ≠ _
      rw [e, hc]
      intro x
      exact hn (by rw [Option.some.inj x]; exact List.mem_cons_self ..)
    · exact nest_key t hc (fun x => hn (List.mem_cons_of_mem _ x)) z h
theorem nd_map_none {n : ND} {c : D} {v : List (Int × Int)} (h : ∀ z ∈ n, kkD z.1 ≠ kkD c) : ndMap n c v = n := by
  unfold ndMap
  exact (List.map_congr_left fun z hz => if_neg (h z hz)).trans (List.map_id n)
/-- the inner dict at k is written -/
theorem NestA.put {c : D} {k : KK} {v : List (Int × Int)} {o : HO} (hc : kkD c = some k) (ho : o = dcO q (encI v) dt) : ∀ {kvs : List (KK × V × V)} {qs : List Addr} {nd : ND}, NestA K Z W kvs qs nd → qs.Nodup → (kvs.map (·.1)).Nodup → getK kvs k = some (.ref q) → NestA K Z (upd W q o) kvs qs (ndMap nd c v)
  | _, _, _, .nil, _, _, g => by cases g
  | _, _, _, .cons (k := k0) (q := q0) (c := c0) (ks := ks0) (nd := nd0) (qs := qs0) e r w t, nq, nk, g => by
    rw [List.map_cons] at nk
    have nq' := List.nodup_cons.mp nq
    have nk' := List.nodup_cons.mp nk
    by_cases h : k0 = k
    · rw [getK_cons_eq h] at g
      have eq : q0 = q := by
        have := Option.some.inj g
        injection this
      subst eq
      have en : ndMap ((c0, ks0) :: nd0) c v = (c0, v) :: nd0 := by
        show (if kkD c0 = kkD c then (c0, v) else (c0, ks0)) :: ndMap nd0 c v = _
        rw [if_pos (by rw [e, hc, h]), nd_map_none (nest_key t hc (by rw [← h]; exact nk'.1))]
      rw [en]
      exact .cons e r ⟨_, by rw [upd_same, ho]⟩ (t.mono (Same.refl Z) fun r hr => by rw [upd_ne (fun z => nq'.1 (by rw [← z]; exact hr))])
    · rw [getK_cons_ne h] at g
      have en : ndMap ((c0, ks0) :: nd0) c v = (c0, ks0) :: ndMap nd0 c v := by
        show (if kkD c0 = kkD c then (c0, v) else (c0, ks0)) :: ndMap nd0 c v = _
        rw [if_neg (fun z => h (by rw [e, hc] at z; exact Option.some.inj z))]
      rw [en]
      have hq : q ∈ qs0 := by
        rcases t.find hc with ⟨_, b⟩ | ⟨q', ks, _, b, m, _⟩
        · rw [b] at g; cases g
        · rw [b] at g
          have := Option.some.inj g
          injection this with z
          rw [← z]; exact m
      refine .cons e r ?_ (t.put hc ho nq'.2 nk'.2 g)
      obtain ⟨dt, w⟩ := w
      exact ⟨dt, by rw [upd_ne (fun z => nq'.1 (by rw [z]; exact hq))]; exact w⟩
theorem NestA.snoc {k : KK} {x : V} {c : D} {ks : List (Int × Int)} (hc : kkD c = some k) (r : Rp K Z x c) (w : IsDc W q (encI ks)) : ∀ {kvs : List (KK × V × V)} {qs : List Addr} {nd : ND}, NestA K Z W kvs qs nd → NestA K Z W (kvs ++ [(k, x, .ref q)]) (qs ++ [q]) (nd ++ [(c, ks)])
  | _, _, _, .nil => .cons hc r w .nil
  | _, _, _, .cons e r' w' t => .cons e r' w' (t.snoc hc r w)
structure Nest (K : PySem.W.Frag) (Z W B : Hp) (p : Addr) (kvs : List (KK × V × V)) (qs : List Addr) (nd : ND) : Prop where
  out : IsDc W p kvs
  inn : NestA K Z W kvs qs nd
  nk : (kvs.map (·.1)).Nodup
  tp : ∀ y ∈ kvs, ∃ ls, y.1 = .tp ls
  na : (p :: qs).Nodup
  fr : ∀ r ∈ p :: qs, Z r = none ∧ B r = none
theorem rpk_enc : ∀ (ks : List (Int × Int)), RpK K Z (encI ks) (encD ks)
  | [] => .nil
  | p :: ks => .cons rfl (.int _) (.int _) (rpk_enc ks)
theorem nest_fz : ∀ {kvs : List (KK × V × V)} {qs : List Addr} {nd : ND} {Z W : Hp}, Ok K b0 W Z0 Z H σ ρ → Same B W → NestA K Z W kvs qs nd → qs.Nodup → (∀ r ∈ qs, Z r = none ∧ B r = none) →
    ∃ Z' W', Ok K b0 W' Z0 Z' H σ ρ ∧ Same B W' ∧ Same Z Z' ∧ (∀ r, r ∉ qs → W' r = W r ∧ Z' r = Z r) ∧ RpK K Z' kvs (nd.map fun p => (p.1, dcD (encD p.2)))
  | _, _, _, Z, W, ok, sb, .nil, _, _ => ⟨Z, W, ok, sb, Same.refl Z, fun r _ => ⟨rfl, rfl⟩, .nil⟩
  | _, q :: qs, _, Z, W, ok, sb, .cons e r ⟨dt, w⟩ t, nq, fr => by
    have nq' := List.nodup_cons.mp nq
    have f1 := fr q (List.mem_cons_self ..)
    obtain ⟨ok1, s1⟩ := ok.freezeF f1.1 w
    have hne : ∀ r ∈ qs, r ≠ q := fun r hr z => nq'.1 (by rw [← z]; exact hr)
    obtain ⟨Z', W', ok2, sb2, s2, hk, rk⟩ := nest_fz ok1 (fun r x e => by rw [but_ne (ne_of_none e f1.2)]; exact sb r x e) (t.mono s1 fun r hr => by rw [but_ne (hne r hr)]) nq'.2 fun r hr => by
      rw [upd_ne (hne r hr)]
      exact fr r (List.mem_cons_of_mem _ hr)
    refine ⟨Z', W', ok2, sb2, s1.trans s2, fun r hr => ?_, .cons e (r.mono (s1.trans s2)) (.dct (s2 _ _ upd_same) (rpk_enc _)) rk⟩
    have h1 := hk r (fun z => hr (List.mem_cons_of_mem _ z))
    have h2 : r ≠ q := fun z => hr (by rw [z]; exact List.mem_cons_self ..)
    rw [but_ne h2, upd_ne h2] at h1
    exact h1
theorem Nest.freeze {kvs : List (KK × V × V)} {qs : List Addr} {nd : ND} (ok : Ok K b0 W Z0 Z H σ ρ) (sb : Same B W) (n : Nest K Z W B p kvs qs nd) : ∃ Z', Ok K b0 B Z0 Z' H σ ρ ∧ Same Z Z' ∧ Rp K Z' (.ref p) (ndD nd) := by
  have na := List.nodup_cons.mp n.na
  obtain ⟨Z1, W1, ok1, sb1, s1, hk, rk⟩ := nest_fz ok sb n.inn na.2 fun r hr => n.fr r (List.mem_cons_of_mem _ hr)
  obtain ⟨dt, ho⟩ := n.out
  have f1 := n.fr p (List.mem_cons_self ..)
  obtain ⟨h1, h2⟩ := hk p na.1
  obtain ⟨ok2, s2⟩ := ok1.freezeF (q := p) (h2.trans f1.1) (h1.trans ho)
  exact ⟨_, ok2.weakB (fun r x e => by rw [but_ne (ne_of_none e f1.2)]; exact sb1 r x e), s1.trans s2, .dct upd_same (rk.mono s2)⟩
end
structure NOk (K : PySem.W.Frag) (f : Nat) (p : Addr) (b0 : Option Addr) (B Z0 Z H : Hp) (σ : L2.St) (ρ : Rho) (nd : ND) : Prop where
  ex : ∃ W kvs qs, Ok K b0 W Z0 Z H σ ρ ∧ Same B W ∧ Nest K Z W B p kvs qs nd
  at' : σ[f]? = some (some (.ref p))
abbrev NG := Rho → ND → Option (Rho × ND)
def NS (K : PySem.W.Frag) (f : Nat) (t : TS) (b : NG) : Prop := ∀ p b0 B Z0 Z H σ ρ nd ρ' nd' (E : Ends), NOk K f p b0 B Z0 Z H σ ρ nd → b ρ nd = some (ρ', nd') → (∀ σ' H' Z', NOk K f p b0 B Z0 Z' H' σ' ρ' nd' → Same Z Z' → E.nx σ' H') → t E σ H
section
variable {K : PySem.W.Frag} {Wx : WX} {f : Nat} {t u : TS} {te : TE} {tt : TT} {b c : NG}
theorem Nest.grow {Z Z' W B Z0 H : Hp} {b0 : Option Addr} {σ : L2.St} {ρ : Rho} {p : Addr} {kvs : List (KK × V × V)} {qs : List Addr} {nd : ND} (n : Nest K Z W B p kvs qs nd) (s : Same Z Z') (ok : Ok K b0 W Z0 Z' H σ ρ) (zz : Same Z0 Z) : Nest K Z' W B p kvs qs nd := by
  refine ⟨n.out, n.inn.mono s fun _ _ => rfl, n.nk, n.tp, n.na, fun r hr => ⟨?_, (n.fr r hr).2⟩⟩
  have zr := (n.fr r hr).1
  cases e : Z' r with
  | none => rfl
  | some o =>
    rcases ok.nb r o e with z | z
    · rw [zz r o z] at zr; cases zr
    · have : ∃ o, W r = some o := by
        rcases List.mem_cons.mp hr with rfl | hr
        · obtain ⟨dt, w⟩ := n.out
          exact ⟨_, w⟩
        · have go : ∀ {kvs : List (KK × V × V)} {qs : List Addr} {nd : ND}, NestA K Z W kvs qs nd → ∀ r ∈ qs, ∃ o, W r = some o := by
            intro kvs qs nd h
            induction h with
            | nil => intro r h; cases h
            | cons e r w t ih =>
              intro r hr
              rcases List.mem_cons.mp hr with rfl | hr
              · obtain ⟨dt, w⟩ := w
                exact ⟨_, w⟩
              · exact ih r hr
          exact go n.inn r hr
      obtain ⟨o', h'⟩ := this
      rw [h'] at z
      cases z
theorem ns_seq (h1 : NS K f t b) (h2 : NS K f u c) : NS K f (tSeq t u) (fun ρ nd => (b ρ nd).bind fun x => c x.1 x.2) := fun p b0 B Z0 Z H σ ρ nd ρ' nd' E ok e q => by
  obtain ⟨x, e1, e2⟩ := Option.bind_eq_some_iff.mp e
  exact h1 p b0 B Z0 Z H σ ρ nd x.1 x.2 _ ok e1 fun σ1 H1 Z1 ok1 s1 => h2 p b0 B Z0 Z1 H1 σ1 x.1 x.2 ρ' nd' E ok1 e2 fun σ2 H2 Z2 ok2 s2 => q σ2 H2 Z2 ok2 (s1.trans s2)
theorem ns_next : NS K f tNext (fun ρ nd => some (ρ, nd)) := fun p b0 B Z0 Z H σ ρ nd ρ' nd' E ok e q => by
  cases e
  exact q σ H Z ok (Same.refl Z)
def nSet (i : Nat) (g : GE) : NG := fun ρ nd => match g ρ with
  | .ok d ρ1 => some (ρ1.set i (.sh d), nd)
  | _ => none
theorem ns_set {i : Nat} {g : GE} (h : DE K te g) (hi : f ≠ i := by decide) : NS K f (tAsg te (gName i)) (nSet i g) := fun p b0 B Z0 Z H σ ρ nd ρ' nd' E ok e q => by
  obtain ⟨⟨W, kvs, qs, ok1, sb, n⟩, ha⟩ := ok
  unfold nSet at e
  split at e
  · rename_i d ρ1 e1
    cases e
    refine h b0 W Z0 Z H σ ρ d ρ1 _ ok1 e1 fun v H1 Z1 ok2 s1 r => ?_
    have ok3 := ok2.put (i := i) r
    exact q _ H1 Z1 ⟨⟨W, kvs, qs, ok3, sb, n.grow s1 ok3 ok1.zz⟩, by rw [List.getElem?_set_ne (Ne.symm hi)]; exact ha⟩ s1
  · cases e
def nIf (g : GT) (b c : NG) : NG := fun ρ nd => match g ρ with
  | .ok v ρ1 => if v = true then b ρ1 nd else c ρ1 nd
  | _ => none
theorem ns_if {g : GT} (h : DT K tt g) (h1 : NS K f t b) (h2 : NS K f u c) : NS K f (tIfS tt t u) (nIf g b c) := fun p b0 B Z0 Z H σ ρ nd ρ' nd' E ok e q => by
  obtain ⟨⟨W, kvs, qs, ok1, sb, n⟩, ha⟩ := ok
  unfold nIf at e
  split at e
  · rename_i v ρ1 e1
    refine h b0 W Z0 Z H σ ρ v ρ1 _ ok1 e1 fun H1 Z1 ok2 s1 => ?_
    have nk : NOk K f p b0 B Z0 Z1 H1 σ ρ1 nd := ⟨⟨W, kvs, qs, ok2, sb, n.grow s1 ok2 ok1.zz⟩, ha⟩
    cases v with
    | true => exact h1 p b0 B Z0 Z1 H1 σ ρ1 nd ρ' nd' E nk e fun σ2 H2 Z2 ok2 s2 => q σ2 H2 Z2 ok2 (s1.trans s2)
    | false => exact h2 p b0 B Z0 Z1 H1 σ ρ1 nd ρ' nd' E nk e fun σ2 H2 Z2 ok2 s2 => q σ2 H2 Z2 ok2 (s1.trans s2)
  · cases e
def loopN (k : GG) (b : NG) : List D → NG
  | [], ρ, nd => some (ρ, nd)
  | d :: ds, ρ, nd => match k d ρ with
    | none => none
    | some ρ1 => (b ρ1 nd).bind fun x => loopN k b ds x.1 x.2
def nFor (gi : GF) (k : GG) (b : NG) : NG := fun ρ nd => match gi ρ with
  | .ok ds ρ1 => loopN k b ds ρ1 nd
  | _ => none
theorem ns_for {ti : TI} {tg : TG} {ws : List Nat} {gi : GF} {k : GG} (hi : DI K ti gi) (hk : DG K ws tg k) (hb : NS K f t b) (hf : f ∉ ws := by decide) : NS K f (tFor ti tg t) (nFor gi k b) := fun p b0 B Z0 Z H σ ρ nd ρ' nd' E ok e q => by
  obtain ⟨⟨W, kvs, qs, ok1, sb, n⟩, ha⟩ := ok
  unfold nFor at e
  split at e
  · rename_i ds ρ1 e1
    refine hi b0 W Z0 Z H σ ρ ds ρ1 _ ok1 e1 fun J H1 Z1 ok2 s1 wk => ?_
    have nk : NOk K f p b0 B Z0 Z1 H1 σ ρ1 nd := ⟨⟨W, kvs, qs, ok2, sb, n.grow s1 ok2 ok1.zz⟩, ha⟩
    have Wk' : Walk J ds.length (fun H => Same Z1 H) (fun i H x H' => J.yld i H x H') := ⟨wk.goes, wk.stops, fun _ _ _ _ _ _ y => y⟩
    refine for_it Wk' (fun i σ H => ∃ Z ρ nd, NOk K f p b0 B Z0 Z H σ ρ nd ∧ Same Z1 Z ∧ loopN k b (ds.drop i) ρ nd = some (ρ', nd')) ⟨Z1, ρ1, nd, nk, Same.refl Z1, by rw [List.drop_zero]; exact e⟩ (fun i σ H _ h => ?_) (fun i x σ H H' hlt h y => ?_) (fun σ H h => ?_)
    · obtain ⟨Z2, ρ2, nd2, ⟨⟨W2, _, _, ok2, _, _⟩, _⟩, s2, _⟩ := h
      exact s2.trans ok2.zh
    · obtain ⟨Z2, ρ2, nd2, ⟨⟨W2, kvs2, qs2, ok2, sb2, n2⟩, ha2⟩, s2, el⟩ := h
      obtain ⟨Z3, d, ok3, s3, hd, rd⟩ := wk.yields i H x H' hlt y _ _ _ _ _ _ ok2 s2
      have ed : ds.drop i = d :: ds.drop (i + 1) := by
        obtain ⟨hl, e⟩ := List.getElem?_eq_some_iff.mp hd
        rw [← e]
        exact List.drop_eq_getElem_cons hl
      rw [ed] at el
      unfold loopN at el
      split at el
      · cases el
      · rename_i ρ3 e3
        obtain ⟨z, e4, e5⟩ := Option.bind_eq_some_iff.mp el
        refine hk b0 W2 Z0 Z3 H' σ ρ2 x d ρ3 _ ok3 rd e3 fun σ3 ok4 ew => ?_
        have ha3 : σ3[f]? = some (some (.ref p)) := by
          rw [← wipe_get (σ := σ3) hf, ew, wipe_get hf]; exact ha2
        exact hb p b0 B Z0 Z3 H' σ3 ρ3 nd2 z.1 z.2 _ ⟨⟨W2, kvs2, qs2, ok4, sb2, n2.grow s3 ok4 ok2.zz⟩, ha3⟩ e4 fun σ4 H4 Z4 ok5 s5 => ⟨Z4, z.1, z.2, ok5, (s2.trans s3).trans s5, e5⟩
    · obtain ⟨Z2, ρ2, nd2, ok2, s2, el⟩ := h
      rw [List.drop_eq_nil_of_le (Nat.le_refl _)] at el
      cases el
      exact q σ H Z2 ok2 (s1.trans s2)
  · cases e
end
end DL
namespace DL
open PySem L2
theorem NestA.some {K : PySem.W.Frag} {Z W : Hp} : ∀ {kvs : List (KK × V × V)} {qs : List Addr} {nd : ND}, NestA K Z W kvs qs nd → ∀ r ∈ qs, ∃ o, W r = some o
  | _, _, _, .nil, _, h => nomatch h
  | _, _, _, .cons _ _ w t, r, h => by
    rcases List.mem_cons.mp h with rfl | h
    · obtain ⟨dt, w⟩ := w
      exact ⟨_, w⟩
    · exact t.some r h
theorem put3_same {k : KK} {y v : V} : ∀ {kvs : List (KK × V × V)}, (kvs.map (·.1)).Nodup → getK kvs k = some v → kvs.map (fun z => if z.1 = k then (z.1, z.2.1, v) else z) = kvs
  | [], _, h => by cases h
  | z :: kvs, hn, h => by
    rw [List.map_cons] at hn
    have hn' := List.nodup_cons.mp hn
    by_cases e : z.1 = k
    · rw [getK_cons_eq e] at h
      have ev := Option.some.inj h
      rw [List.map_cons, if_pos e]
      have e2 : kvs.map (fun z => if z.1 = k then (z.1, z.2.1, v) else z) = kvs := by
        refine (List.map_congr_left fun x hx => if_neg fun ex => ?_).trans (List.map_id kvs)
        exact hn'.1 (List.mem_map.mpr ⟨x, hx, ex.trans e.symm⟩)
      rw [e2, ← ev]
    · rw [getK_cons_ne e] at h
      rw [List.map_cons, if_neg e, put3_same (y := y) hn'.2 h]
def decI : List (D × D) → Option (List (Int × Int))
  | [] => some []
  | (.int i, .int j) :: r => (decI r).map ((i, j) :: ·)
  | _ => none
theorem dec_enc : ∀ ks : List (Int × Int), decI (encD ks) = some ks
  | [] => rfl
  | p :: ks => by
    show (decI (encD ks)).map (p :: ·) = _
    rw [dec_enc ks]; rfl
theorem decI_eq : ∀ {kds : List (D × D)} {ks : List (Int × Int)}, decI kds = some ks → kds = encD ks
  | [], _, h => by cases h; rfl
  | p :: r, ks, h => by
    unfold decI at h
    split at h
    · rename_i e
      cases e
    · rename_i i j r' e
      cases e
      obtain ⟨z, hz, e2⟩ := Option.map_eq_some_iff.mp h
      subst e2
      rw [decI_eq hz]; rfl
    · cases h
def stI : D → Option (List (Int × Int))
  | .dict ((.dict [], .none) :: kds) => decI kds
  | _ => none
theorem stI_eq {d : D} {ks : List (Int × Int)} (h : stI d = some ks) : d = dcD (encD ks) := by
  unfold stI at h
  split at h
  · rw [decI_eq h]
  · cases h
section
variable {K : PySem.W.Frag} {Wx : WX} {f : Nat} {t u : TS} {te tm : TE} {tt : TT} {b c : NG}
theorem rpk_int {Z : Hp} : ∀ {kvs : List (KK × V × V)} {ks : List (Int × Int)}, RpK K Z kvs (encD ks) → kvs = encI ks
  | _, [], .nil => rfl
  | _, p :: ks, .cons e r1 r2 t => by
    cases r1
    cases r2
    cases e
    rw [rpk_int t]; rfl
def nGet (l : Nat) : NG := fun ρ nd => match ρ[l]? with
  | some (.sh c) => if isTp c = true ∧ nd.length < 1000 then some (ρ, ndGet nd c) else none
  | _ => none
theorem sort_tp {kvs : List (KK × V × V)} {ls : List Leaf} (h : ∀ y ∈ kvs, ∃ ls, y.1 = .tp ls) : SortOk (.tp ls) kvs := .inr ⟨⟨ls, rfl⟩, h⟩
theorem ns_get {l : Nat} : NS K f (sNPut K (tVar f) (tVar l) (tBMD K (rNGet2 K) (tVar f) (tCons (tVar l) (tCons tNNew tNil)))) (nGet l) := fun p b0 B Z0 Z H σ ρ nd ρ' nd' E ok e q => by
  obtain ⟨⟨W, kvs, qs, ok1, sb, n⟩, ha⟩ := ok
  unfold nGet at e
  split at e
  · rename_i c hc
    split at e
    · rename_i hb
      cases e
      obtain ⟨vl, hvl, rl⟩ := ok1.sh l c hc
      obtain ⟨ls, _, _, kc, _⟩ := rp_tp rl hb.1
      obtain ⟨dt0, ho⟩ := n.out
      have zp := (n.fr p (List.mem_cons_self ..)).1
      have hH : H p = some (dcO p kvs dt0) := ok1.bh _ _ ho
      refine ⟨.ref p, ha, ⟨p, kvs, rfl, dt0, hH⟩, ?_⟩
      refine ⟨vl, hvl, fun p' hp' => ?_⟩
      obtain ⟨okf, zp', wp', ap'⟩ := ok1.fresh (o := dcO p' [] (#[], 0)) hp'
      have npp : p ≠ p' := fun z => by rw [z, hp'] at hH; cases hH
      have hH1 : IsDc (upd H p' (dcO p' [] (#[], 0))) p kvs := ⟨dt0, by rw [upd_ne npp]; exact hH⟩
      have kv : KeysV K (upd H p' (dcO p' [] (#[], 0))) kvs := fun y hy => (n.inn.keys y hy).same okf.zh
      have ky : KeyV K (upd H p' (dcO p' [] (#[], 0))) vl (.tp ls) := (rp_key rl kc).same okf.zh
      have hlen : kvs.length < sizeLine := by rw [n.inn.len]; exact Nat.lt_of_lt_of_le hb.2 (by decide)
      refine ⟨p, vl, .ref p', getK kvs (.tp ls), rfl, rfl, ⟨kvs, _, hH1, kv, ky, sort_tp n.tp, rfl⟩, ?_⟩
      refine ⟨.ref p, ha, vl, hvl, p, _, rfl, ⟨kvs, _, hH1, kv, ky, sort_tp n.tp, hlen, rfl⟩, fun dt => ?_⟩
      have na := List.nodup_cons.mp n.na
      rcases n.inn.find kc with ⟨hf, hg⟩ | ⟨q', ks, hf, hg, hm, hd⟩
      · rw [hg]
        have e1 : put3 kvs (.tp ls) vl (.ref p') = kvs ++ [(.tp ls, vl, .ref p')] := by
          unfold put3
          rw [hg]; rfl
        have e2 : ndGet nd c = nd ++ [(c, [])] := by
          unfold ndGet
          rw [hf]; rfl
        rw [e2] at q
        show E.nx σ (upd _ p (dcO p (put3 kvs (.tp ls) vl (.ref p')) dt))
        rw [e1]
        have ok2 := okf.frame zp' ap' upd_same
        have wp2 : upd W p' (dcO p' [] (#[], 0)) p = some (dcO p kvs dt0) := by rw [upd_ne npp]; exact ho
        have ok3 := ok2.writeF (o' := dcO p (kvs ++ [(.tp ls, vl, .ref p')]) dt) zp wp2
        have bp' : B p' = none := sb.free wp'
        have nq' : p' ∉ qs := fun z => by
          obtain ⟨o, h⟩ := n.inn.some _ z
          rw [wp'] at h; cases h
        refine q σ _ Z ⟨⟨_, _, qs ++ [p'], ok3, fun r x e => ?_, ⟨⟨dt, upd_same⟩, NestA.snoc kc rl ⟨(#[], 0), by rw [upd_ne (Ne.symm npp), upd_same]; rfl⟩ (n.inn.mono (Same.refl Z) fun r hr => ?_), ?_, fun y hy => ?_, ?_, fun r hr => ?_⟩⟩, ha⟩ (Same.refl Z)
        · rw [upd_ne (ne_of_none e (n.fr p (List.mem_cons_self ..)).2), upd_ne (ne_of_none e bp')]
          exact sb r x e
        · rw [upd_ne (fun z => na.1 (by rw [← z]; exact hr)), upd_ne (fun z => nq' (by rw [← z]; exact hr))]
        · rw [List.map_append]
          refine List.nodup_append.mpr ⟨n.nk, by simp, fun a ha b hb z => ?_⟩
          simp only [List.map_cons, List.map_nil, List.mem_singleton] at hb
          rw [z, hb] at ha
          exact getK_none.mp hg ha
        · rcases List.mem_append.mp hy with hy | hy
          · exact n.tp y hy
          · rw [List.mem_singleton.mp hy]; exact ⟨ls, rfl⟩
        · rw [← List.cons_append]
          refine List.nodup_append.mpr ⟨n.na, by simp, fun a ha b hb z => ?_⟩
          rw [List.mem_singleton.mp hb] at z
          rcases List.mem_cons.mp ha with h | h
          · exact npp (by rw [← h, z])
          · exact nq' (by rw [← z]; exact h)
        · rw [← List.cons_append] at hr
          rcases List.mem_append.mp hr with hr | hr
          · exact n.fr r hr
          · rw [List.mem_singleton.mp hr]; exact ⟨zp', bp'⟩
      · rw [hg]
        have e1 : put3 kvs (.tp ls) vl (.ref q') = kvs := by
          unfold put3
          rw [hg]
          exact put3_same (y := vl) n.nk hg
        have e2 : ndGet nd c = nd := by
          unfold ndGet
          rw [hf]; rfl
        rw [e2] at q
        show E.nx σ (upd _ p (dcO p (put3 kvs (.tp ls) vl (.ref q')) dt))
        rw [e1]
        have ok3 := okf.writeF (o' := dcO p kvs dt) zp ho
        refine q σ _ Z ⟨⟨_, kvs, qs, ok3, fun r x e => ?_, ⟨⟨dt, upd_same⟩, n.inn.mono (Same.refl Z) fun r hr => ?_, n.nk, n.tp, n.na, n.fr⟩⟩, ha⟩ (Same.refl Z)
        · rw [upd_ne (ne_of_none e (n.fr p (List.mem_cons_self ..)).2)]
          exact sb r x e
        · rw [upd_ne (fun z => na.1 (by rw [← z]; exact hr))]
    · cases e
  · cases e
def nAdd (l st : Nat) (gm : GE) : NG := fun ρ nd => match ρ[l]?, ρ[st]? with
  | some (.sh c), some (.sh sd) => (match stI sd, gm ρ, ndFind nd c with
    | some ks, .ok (.int m) ρ1, some kt => if isTp c = true ∧ kt.length + ks.length < 1000 then some (ρ1, ndMap nd c (addUp kt ks m)) else none
    | _, _, _ => none)
  | _, _ => none
theorem ns_add {l st : Nat} {gm : GE} {E' : XK} (hm : DE K tm gm) : NS K f (tDrop (tCall (spAdd K) [] E' (tCons (tOp (rNGet K) (tVar f) (tVar l)) (tCons (tVar st) (tCons tm tNil))))) (nAdd l st gm) := fun p b0 B Z0 Z H σ ρ nd ρ' nd' E ok e q => by
  obtain ⟨⟨W, kvs, qs, ok1, sb, n⟩, ha⟩ := ok
  unfold nAdd at e
  split at e
  · rename_i c sd hc hs
    split at e
    · rename_i ks m ρ1 kt es em ek
      split at e
      · rename_i hb
        cases e
        obtain ⟨vl, hvl, rl⟩ := ok1.sh l c hc
        obtain ⟨vs, hvs, rs⟩ := ok1.sh st sd hs
        obtain ⟨ls, _, _, kc, _⟩ := rp_tp rl hb.1
        obtain ⟨dt0, ho⟩ := n.out
        have hH : H p = some (dcO p kvs dt0) := ok1.bh _ _ ho
        rcases n.inn.find kc with ⟨hf, hg⟩ | ⟨q', ks', hf, hg, hmq, dq, wq⟩
        · rw [hf] at ek; cases ek
        rw [hf] at ek
        cases ek
        rw [stI_eq es] at rs
        cases rs with
        | dct hz rk =>
        rename_i s kvs' dts
        cases rpk_int rk
        have kv : KeysV K H kvs := fun y hy => (n.inn.keys y hy).same ok1.zh
        have ky : KeyV K H vl (.tp ls) := (rp_key rl kc).same ok1.zh
        refine ⟨.ref p, ha, vl, hvl, p, .ref q', rfl, ⟨kvs, _, ⟨dt0, hH⟩, kv, ky, sort_tp n.tp, hg.symm⟩, ?_⟩
        refine ⟨_, hvs, ?_⟩
        refine hm b0 W Z0 Z H σ ρ _ _ _ ok1 em fun v H1 Z1 ok2 s1 r => ?_
        cases r
        have n2 := n.grow s1 ok2 ok1.zz
        have zq := (n2.fr q' (List.mem_cons_of_mem _ hmq)).1
        refine ⟨rfl, q', s, m, kt, ks, dts, rfl, fun z => ?_, ⟨dq, ok2.bh _ _ wq⟩, ok2.zh _ _ (s1 _ _ hz), Nat.lt_of_lt_of_le hb.2 (by decide), fun H' hk hd => ?_⟩
        · have := s1 _ _ hz
          rw [← z, zq] at this
          cases this
        · obtain ⟨dt, hd⟩ := hd
          have ok3 := ok2.writeG zq wq hk hd
          have na := List.nodup_cons.mp n2.na
          have npq : p ≠ q' := fun z => na.1 (by rw [z]; exact hmq)
          refine q σ H' Z1 ⟨⟨_, kvs, qs, ok3, fun r x e => ?_, ⟨⟨dt0, by rw [upd_ne npq]; exact ho⟩, n2.inn.put kc rfl na.2 n2.nk hg, n2.nk, n2.tp, n2.na, n2.fr⟩⟩, ha⟩ s1
          rw [upd_ne (ne_of_none e (n2.fr q' (List.mem_cons_of_mem _ hmq)).2)]
          exact sb r x e
      · cases e
    · cases e
  · cases e
def gNest (f h : Nat) (b : NG) : GS := fun ρ => if f < ρ.length then (match b (ρ.set f .no) [] with
  | some (ρ1, nd) => .nx (ρ1.set h (.sh (ndD nd)))
  | none => .bad) else .bad
theorem ds_nest {f h : Nat} (hb : NS K f t b) : DS K Wx (tSeq (tAsg tNNew (gName f)) (tSeq t (tAsg (tVar f) (gName h)))) (gNest f h b) := fun b0 B Z0 Z H σ ρ E ok s => by
  unfold gNest at s
  split at s
  · rename_i hlt
    split at s
    · rename_i ρ1 nd e
      intro p hp
      obtain ⟨okf, zp, bp, ap⟩ := ok.fresh (o := dcO p [] (#[], 0)) hp
      have ok1 := (okf.frame zp ap upd_same).putAny (i := f) (x := some (.ref p))
      refine hb p b0 B Z0 Z _ _ (ρ.set f .no) [] ρ1 nd _ ⟨⟨_, [], [], ok1, fun r x e => by rw [upd_ne (ne_of_none e bp)]; exact e, ⟨⟨_, upd_same⟩, .nil, List.nodup_nil, (fun _ h => nomatch h), List.nodup_cons.mpr ⟨List.not_mem_nil, List.nodup_nil⟩, fun r hr => ?_⟩⟩, ?_⟩ e fun σ2 H2 Z2 ok2 s2 => ?_
      · rw [List.mem_singleton.mp hr]; exact ⟨zp, bp⟩
      · rw [List.getElem?_set_self (by rw [ok.len]; exact hlt)]
      · obtain ⟨⟨W, kvs, qs, ok3, sb, n⟩, ha⟩ := ok2
        obtain ⟨Z3, ok4, s3, r⟩ := n.freeze ok3 sb
        exact ⟨_, ha, s _ H2 Z3 (ok4.put (i := h) r)⟩
    · exact s.elim
  · exact s.elim
end
end DL
namespace DL
open PySem L2
section
variable {K : PySem.W.Frag} {Wx : WX} {te tm : TE} {b0 : Option Addr} {B Z0 Z H : Hp} {σ : L2.St} {ρ : Rho}
theorem Ok.growO {H' : Hp} {p : Addr} {i : Nat} {kds kds' : List (D × D)} {kvs : List (KK × V × V)} (ok : Ok K b0 B Z0 Z H σ ρ) (hi : ρ[i]? = some (.od kds)) (hb : σ[i]? = some (some (.ref p))) (hh : ∀ r o, r ≠ p → H r = some o → H' r = some o)
    (hp : IsDc H' p kvs) (rk : RpK K Z kvs kds') : Ok K b0 B Z0 Z H' σ (ρ.set i (.od kds')) := by
  obtain ⟨b1, vb, f1, f2, f3, f4, f5⟩ := ok.od i kds hi
  rw [hb] at f1
  cases f1
  obtain ⟨dt, hp⟩ := hp
  refine ⟨by rw [List.length_set]; exact ok.len, fun r o e => hh r o (ne_of_none e f3) (ok.bh r o e), fun r o e => hh r o (ne_of_none e f2) (ok.zh r o e), ok.zz, ok.nb, fun j d e => ?_, fun j s e eo => ?_, fun a ha ds e => ?_, fun j k q s t e1 e2 o1 o2 e3 e4 => ?_⟩
  · rcases set_get e with ⟨_, z⟩ | ⟨n, e⟩
    · cases z
    · exact ok.sh j d e
  · rcases set_get e with ⟨rfl, z⟩ | ⟨n, e⟩
    · subst z
      exact ⟨p, _, hb, f2, f3, hp, kvs, dt, rfl, rk⟩
    · obtain ⟨q, vs, e1, e2, e3, e4, e5⟩ := ok.own j s e eo
      have nq : q ≠ p := fun z => n (ok.sepS i j p _ s hi e rfl eo hb (by rw [e1, z]))
      exact ⟨q, vs, e1, e2, e3, hh _ _ nq e4, e5⟩
  · rcases set_get e with ⟨_, z⟩ | ⟨n, e⟩
    · cases z
    · exact ok.fix a ha ds e
  · have G : ∀ {j : Nat} {as : Sl}, (ρ.set i (.od kds'))[j]? = some as → as.isO = true → ∃ as', ρ[j]? = some as' ∧ as'.isO = true := fun {j as} e ho => by
      rcases set_get e with ⟨rfl, z⟩ | ⟨n, e⟩
      · exact ⟨.od kds, hi, rfl⟩
      · exact ⟨as, e, ho⟩
    obtain ⟨_, y1, z1⟩ := G e1 o1
    obtain ⟨_, y2, z2⟩ := G e2 o2
    exact ok.sepS j k q _ _ y1 y2 z1 z2 e3 e4
def sAddO (i : Nat) (g gm : GE) : GS := fun ρ => match ρ[i]? with
  | some (.od _) => (g ρ).to fun sd ρ1 => (gm ρ1).to fun md ρ2 => match ρ2[i]?, stI sd, md with
    | some (.od kds), some ks, .int m => (match decI kds with
      | some kt => if kt.length + ks.length < 1000 then .nx (ρ2.set i (.od (encD (addUp kt ks m)))) else .bad
      | none => .bad)
    | _, _, _ => .bad
  | _ => .bad
theorem ds_addO {i : Nat} {g gm : GE} {E' : XK} (hg : DE K te g) (hm : DE K tm gm) : DS K Wx (tDrop (tCall (spAdd K) [] E' (tCons (tVar i) (tCons te (tCons tm tNil))))) (sAddO i g gm) := fun b0 B Z0 Z H σ ρ E ok s => by
  unfold sAddO at s
  split at s
  · rename_i kds0 h0
    obtain ⟨p, kv0, hp, _, _, _, _⟩ := ok.od i kds0 h0
    obtain ⟨sd, ρ1, e1, s⟩ := Sat.to s
    obtain ⟨md, ρ2, e2, s⟩ := Sat.to s
    split at s
    · rename_i kds ks m hi es
      split at s
      · rename_i kt ek
        split at s
        · rename_i hb
          refine ⟨_, hp, ?_⟩
          refine hg b0 B Z0 Z H σ ρ _ ρ1 _ ok e1 fun v H1 Z1 ok1 s1 r1 => ?_
          refine hm b0 B Z0 Z1 H1 σ ρ1 _ ρ2 _ ok1 e2 fun w H2 Z2 ok2 s2 r2 => ?_
          cases r2
          rw [stI_eq es] at r1
          cases r1 with
          | dct hz rk =>
          rename_i a kvs' dts
          cases rpk_int rk
          obtain ⟨p2, kv2, f1, f2, f3, f4, f5⟩ := ok2.od i kds hi
          rw [hp] at f1
          cases f1
          rw [decI_eq ek] at f5
          cases rpk_int f5
          refine ⟨rfl, p, a, m, kt, ks, dts, rfl, fun z => ?_, f4, ok2.zh _ _ (s2 _ _ hz), Nat.lt_of_lt_of_le hb (by decide), fun H' hk hd => ?_⟩
          · have := s2 _ _ hz
            rw [← z, f2] at this
            cases this
          · exact s _ H' Z2 (ok2.growO hi hp hk hd (rpk_enc _))
        · exact s.elim
      · exact s.elim
    · exact s.elim
  · exact s.elim
def nSeq (b c : NG) : NG := fun ρ nd => (b ρ nd).bind fun x => c x.1 x.2
def nNext : NG := fun ρ nd => some (ρ, nd)
def maxDD : List D → Option D
  | [.dict ((.dict [], .none) :: kds)] => (match intsOf (kds.map (·.1)) with | some (n :: ns) => some (.int (ns.foldl max n)) | _ => none)
  | _ => none
theorem rpk_keys {Z : Hp} : ∀ {kvs : List (KK × V × V)} {kds : List (D × D)} {ns : List Int}, RpK K Z kvs kds → kds.map (·.1) = ns.map PyData.int → kvs.map (·.2.1) = ns.map V.int
  | _, _, [], .nil, _ => rfl
  | _, _, n :: ns, .cons e r1 r2 t, h => by
    rw [List.map_cons, List.map_cons] at h
    injection h with h1 h2
    dsimp only at h1
    subst h1
    cases r1
    rw [List.map_cons, List.map_cons, rpk_keys t h2]
  | _, _, _ :: _, .nil, h => by cases h
  | _, _, [], .cons _ _ _ _, h => by cases h
theorem sn_maxD : SnA K (rMaxD K) maxDD := fun b0 B Z0 Z H σ ρ xs as c Q ok ha e q => by
  unfold maxDD at e
  split at e
  · split at e
    · rename_i n ns e1
      cases e
      have e2 := intsOf_eq e1
      cases ha with
      | cons h h' =>
      cases h'
      cases h with
      | dct h r => exact ⟨_, _, _, n, ns, rfl, h, rpk_keys r e2, q _ H Z ok (Same.refl Z) (.int _)⟩
    · cases e
  · cases e
end
end DL
namespace DL
open PySem L2
abbrev LI := List (Int × Int)
def lfI (φ : Int → Int) (t : LI) : Int := (t.map fun p => p.2 * φ p.1).sum
structure GoodI (t : LI) : Prop where
  nd : (t.map (·.1)).Nodup
  pos : ∀ p ∈ t, 0 < p.2
theorem getI_cons (p : Int × Int) (t : LI) (k : Int) : getI (p :: t) k = if p.1 = k then some p.2 else getI t k := by
  unfold getI
  rw [List.find?_cons]
  by_cases e : p.1 = k
  · rw [decide_eq_true e, if_pos e]; rfl
  · rw [decide_eq_false e, if_neg e]
theorem getI_none {k : Int} : ∀ {t : LI}, getI t k = none ↔ k ∉ t.map (·.1)
  | [] => ⟨(fun _ h => nomatch h), fun _ => rfl⟩
  | p :: t => by
    rw [getI_cons, List.map_cons, List.mem_cons]
    by_cases e : p.1 = k
    · rw [if_pos e]
      exact ⟨(fun h => nomatch h), fun h => absurd (Or.inl e.symm) h⟩
    · rw [if_neg e, getI_none]
      exact ⟨fun h z => z.elim (fun y => e y.symm) h, fun h z => h (.inr z)⟩
theorem getI_mem {k v : Int} : ∀ {t : LI}, getI t k = some v → (k, v) ∈ t
  | [], h => nomatch h
  | p :: t, h => by
    rw [getI_cons] at h
    by_cases e : p.1 = k
    · rw [if_pos e] at h
      cases h
      rw [← e]; exact List.mem_cons_self ..
    · rw [if_neg e] at h
      exact List.mem_cons_of_mem _ (getI_mem h)
theorem getI_at {k v : Int} : ∀ {t : LI}, (t.map (·.1)).Nodup → (k, v) ∈ t → getI t k = some v
  | p :: t, hn, h => by
    rw [List.map_cons] at hn
    have hn' := List.nodup_cons.mp hn
    rw [getI_cons]
    rcases List.mem_cons.mp h with e | h
    · rw [← e, if_pos rfl]
    · rw [if_neg (fun z => hn'.1 (by rw [z]; exact List.mem_map.mpr ⟨_, h, rfl⟩)), getI_at hn'.2 h]
theorem mapI_keys {k v : Int} (t : LI) : (t.map fun z => if z.1 = k then (z.1, v) else z).map (·.1) = t.map (·.1) := by
  rw [List.map_map]
  refine List.map_congr_left fun z _ => ?_
  show (if z.1 = k then (z.1, v) else z).1 = z.1
  split <;> rfl
theorem mapI_none {k v : Int} {t : LI} (h : k ∉ t.map (·.1)) : (t.map fun z => if z.1 = k then (z.1, v) else z) = t := by
  refine (List.map_congr_left fun z hz => if_neg fun e => ?_).trans (List.map_id t)
  exact h (List.mem_map.mpr ⟨z, hz, e⟩)
theorem lf_cons (φ : Int → Int) (p : Int × Int) (t : LI) : lfI φ (p :: t) = p.2 * φ p.1 + lfI φ t := by unfold lfI; rw [List.map_cons, List.sum_cons]
theorem lf_map {φ : Int → Int} {k v w : Int} : ∀ {t : LI}, (t.map (·.1)).Nodup → getI t k = some w → lfI φ (t.map fun z => if z.1 = k then (z.1, v) else z) = lfI φ t + (v - w) * φ k
  | [], _, h => nomatch h
  | p :: t, hn, h => by
    rw [List.map_cons] at hn
    have hn' := List.nodup_cons.mp hn
    rw [getI_cons] at h
    rw [List.map_cons]
    by_cases e : p.1 = k
    · rw [if_pos e] at h
      cases h
      rw [if_pos e, mapI_none (by rw [← e]; exact hn'.1), lf_cons, lf_cons]
      dsimp only
      rw [e, Int.sub_mul]; omega
    · rw [if_neg e] at h
      rw [if_neg e, lf_cons, lf_cons, lf_map hn'.2 h]; omega
theorem lf_put {φ : Int → Int} {t : LI} (hn : (t.map (·.1)).Nodup) (k v : Int) : lfI φ (putI t k v) = lfI φ t + (v - (getI t k).getD 0) * φ k := by
  unfold putI
  cases h : getI t k with
  | none =>
    rw [if_neg (by simp)]
    unfold lfI
    rw [List.map_append, List.sum_append]
    show _ + (v * φ k + 0) = _ + (v - 0) * φ k
    rw [Int.sub_zero, Int.add_zero]
  | some w =>
    rw [if_pos (show (some w).isSome = true from rfl), lf_map hn h]; rfl
theorem good_putI {t : LI} (g : GoodI t) {k v : Int} (hv : 0 < v) : GoodI (putI t k v) := by
  unfold putI
  cases h : getI t k with
  | none =>
    rw [if_neg (by simp)]
    refine ⟨?_, fun p hp => ?_⟩
    · rw [List.map_append]
      refine List.nodup_append.mpr ⟨g.nd, by simp, fun a ha b hb z => ?_⟩
      simp only [List.map_cons, List.map_nil, List.mem_singleton] at hb
      rw [z, hb] at ha
      exact getI_none.mp h ha
    · rcases List.mem_append.mp hp with hp | hp
      · exact g.pos p hp
      · rw [List.mem_singleton.mp hp]; exact hv
  | some w =>
    rw [if_pos (show (some w).isSome = true from rfl)]
    refine ⟨by rw [mapI_keys]; exact g.nd, fun p hp => ?_⟩
    obtain ⟨z, hz, rfl⟩ := List.mem_map.mp hp
    split
    · exact hv
    · exact g.pos z hz
theorem getI_pos {t : LI} (g : GoodI t) (k : Int) : 0 ≤ (getI t k).getD 0 := by
  cases h : getI t k with
  | none => exact Int.le_refl _
  | some w => exact Int.le_of_lt (g.pos _ (getI_mem h))
theorem addUp_all {m : Int} : ∀ {ks kt : LI}, GoodI kt → (∀ p ∈ ks, 0 < p.2) → GoodI (addUp kt ks m) ∧ ∀ φ : Int → Int, lfI φ (addUp kt ks m) = lfI φ kt + lfI (fun x => φ (x + m)) ks
  | [], kt, g, _ => ⟨g, fun φ => by show lfI φ kt = lfI φ kt + 0; omega⟩
  | p :: ks, kt, g, hp => by
    have p0 := hp p (List.mem_cons_self ..)
    have gp := getI_pos g (p.1 + m)
    have g1 := good_putI g (k := p.1 + m) (v := (getI kt (p.1 + m)).getD 0 + p.2) (by omega)
    obtain ⟨h1, h2⟩ := addUp_all (m := m) (ks := ks) g1 fun q hq => hp q (List.mem_cons_of_mem _ hq)
    refine ⟨h1, fun φ => ?_⟩
    show lfI φ (addUp (putI kt (p.1 + m) ((getI kt (p.1 + m)).getD 0 + p.2)) ks m) = _
    rw [h2, lf_put g.nd, lf_cons, show (getI kt (p.1 + m)).getD 0 + p.2 - (getI kt (p.1 + m)).getD 0 = p.2 by omega]; omega
/-- the keys behind add_up -/
theorem putI_keys {t : LI} {k v x : Int} : x ∈ (putI t k v).map (·.1) ↔ x ∈ t.map (·.1) ∨ x = k := by
  unfold putI
  cases h : getI t k with
  | none =>
    rw [if_neg (by simp), List.map_append, List.mem_append]
    simp
  | some w =>
    rw [if_pos (show (some w).isSome = true from rfl), mapI_keys]
    constructor
    · exact .inl
    · rintro (h' | rfl)
      · exact h'
      · exact List.mem_map.mpr ⟨_, getI_mem h, rfl⟩
theorem addUp_keys {m x : Int} : ∀ {ks kt : LI}, x ∈ (addUp kt ks m).map (·.1) ↔ x ∈ kt.map (·.1) ∨ x - m ∈ ks.map (·.1)
  | [], kt => ⟨.inl, fun h => h.elim id fun z => nomatch z⟩
  | p :: ks, kt => by
    show x ∈ (addUp (putI kt (p.1 + m) _) ks m).map (·.1) ↔ _
    rw [addUp_keys, putI_keys, List.map_cons, List.mem_cons]
    constructor
    · rintro ((h | h) | h)
      · exact .inl h
      · exact .inr (.inl (by omega))
      · exact .inr (.inr h)
    · rintro (h | h | h)
      · exact .inl (.inl h)
      · exact .inl (.inr (by omega))
      · exact .inr h
abbrev SD := List (Stt × LI)
def encS (n : SD) : ND := n.map fun p => (stD p.1, p.2)
def sFind (n : SD) (t : Stt) : Option LI := (n.find? fun p => decide (p.1 = t)).map (·.2)
def sGet (n : SD) (t : Stt) : SD := if (sFind n t).isSome = true then n else n ++ [(t, [])]
def sMap (n : SD) (t : Stt) (v : LI) : SD := n.map fun p => if p.1 = t then (p.1, v) else p
def sAdd (n : SD) (t : Stt) (ks : LI) (m : Int) : SD := sMap (sGet n t) t (addUp ((sFind (sGet n t) t).getD []) ks m)
theorem kk_iff {s t : Stt} : kkD (stD s) = kkD (stD t) ↔ s = t := ⟨kk_st, fun h => by rw [h]⟩
theorem enc_find (n : SD) (t : Stt) : ndFind (encS n) (stD t) = sFind n t := by
  unfold ndFind sFind encS
  rw [List.find?_map, Option.map_map]
  have e : ((fun p : D × List (Int × Int) => decide (kkD p.1 = kkD (stD t))) ∘ fun p : Stt × LI => (stD p.1, p.2)) = fun p => decide (p.1 = t) := funext fun p => decide_eq_decide.mpr kk_iff
  rw [e]; rfl
theorem enc_sget (n : SD) (t : Stt) : ndGet (encS n) (stD t) = encS (sGet n t) := by
  unfold ndGet sGet
  rw [enc_find]
  split
  · rfl
  · unfold encS
    rw [List.map_append]; rfl
theorem enc_smap (n : SD) (t : Stt) (v : LI) : ndMap (encS n) (stD t) v = encS (sMap n t v) := by
  unfold ndMap sMap encS
  rw [List.map_map, List.map_map]
  refine List.map_congr_left fun p _ => ?_
  show (if kkD (stD p.1) = kkD (stD t) then (stD p.1, v) else (stD p.1, p.2)) = (fun p : Stt × LI => (stD p.1, p.2)) (if p.1 = t then (p.1, v) else p)
  by_cases e : p.1 = t
  · rw [if_pos e, if_pos (kk_iff.mpr e)]
  · rw [if_neg e, if_neg (fun z => e (kk_iff.mp z))]
def mS (Φ : Stt → Int → Int) (n : SD) : Int := (n.map fun p => lfI (Φ p.1) p.2).sum
structure GoodS (n : SD) : Prop where
  nd : (n.map (·.1)).Nodup
  each : ∀ p ∈ n, GoodI p.2
theorem sFind_cons (p : Stt × LI) (n : SD) (t : Stt) : sFind (p :: n) t = if p.1 = t then some p.2 else sFind n t := by
  unfold sFind
  rw [List.find?_cons]
  by_cases e : p.1 = t
  · rw [decide_eq_true e, if_pos e]; rfl
  · rw [decide_eq_false e, if_neg e]
theorem sFind_mem {t : Stt} {v : LI} : ∀ {n : SD}, sFind n t = some v → (t, v) ∈ n
  | [], h => nomatch h
  | p :: n, h => by
    rw [sFind_cons] at h
    by_cases e : p.1 = t
    · rw [if_pos e] at h
      cases h
      rw [← e]; exact List.mem_cons_self ..
    · rw [if_neg e] at h
      exact List.mem_cons_of_mem _ (sFind_mem h)
theorem sFind_none {t : Stt} : ∀ {n : SD}, sFind n t = none ↔ t ∉ n.map (·.1)
  | [] => ⟨(fun _ h => nomatch h), fun _ => rfl⟩
  | p :: n => by
    rw [sFind_cons, List.map_cons, List.mem_cons]
    by_cases e : p.1 = t
    · rw [if_pos e]
      exact ⟨(fun h => nomatch h), fun h => absurd (Or.inl e.symm) h⟩
    · rw [if_neg e, sFind_none]
      exact ⟨fun h z => z.elim (fun y => e y.symm) h, fun h z => h (.inr z)⟩
theorem sMap_keys (n : SD) (t : Stt) (v : LI) : (sMap n t v).map (·.1) = n.map (·.1) := by
  unfold sMap
  rw [List.map_map]
  refine List.map_congr_left fun z _ => ?_
  show (if z.1 = t then (z.1, v) else z).1 = z.1
  split <;> rfl
theorem mS_cons (Φ : Stt → Int → Int) (p : Stt × LI) (n : SD) : mS Φ (p :: n) = lfI (Φ p.1) p.2 + mS Φ n := by unfold mS; rw [List.map_cons, List.sum_cons]
theorem sMap_none {t : Stt} {v : LI} {n : SD} (h : t ∉ n.map (·.1)) : sMap n t v = n := by
  unfold sMap
  refine (List.map_congr_left fun z hz => if_neg fun e => ?_).trans (List.map_id n)
  exact h (List.mem_map.mpr ⟨z, hz, e⟩)
theorem mS_map {Φ : Stt → Int → Int} {t : Stt} {v w : LI} : ∀ {n : SD}, (n.map (·.1)).Nodup → sFind n t = some w → mS Φ (sMap n t v) = mS Φ n + (lfI (Φ t) v - lfI (Φ t) w)
  | [], _, h => nomatch h
  | p :: n, hn, h => by
    rw [List.map_cons] at hn
    have hn' := List.nodup_cons.mp hn
    rw [sFind_cons] at h
    have em : sMap (p :: n) t v = (if p.1 = t then (p.1, v) else p) :: sMap n t v := rfl
    rw [em]
    by_cases e : p.1 = t
    · rw [if_pos e] at h
      cases h
      rw [if_pos e, sMap_none (by rw [← e]; exact hn'.1), mS_cons, mS_cons]
      dsimp only
      rw [e]; omega
    · rw [if_neg e] at h
      rw [if_neg e, mS_cons, mS_cons, mS_map hn'.2 h]; omega
theorem sGet_all {n : SD} {t : Stt} (g : GoodS n) : GoodS (sGet n t) ∧ (∃ w, sFind (sGet n t) t = some w ∧ GoodI w) ∧ (∀ Φ, mS Φ (sGet n t) = mS Φ n) ∧ ∀ s, s ∈ (sGet n t).map (·.1) ↔ s ∈ n.map (·.1) ∨ s = t := by
  unfold sGet
  cases h : sFind n t with
  | some w =>
    rw [if_pos (show (some w).isSome = true from rfl)]
    refine ⟨g, ⟨w, h, g.each _ (sFind_mem h)⟩, fun _ => rfl, fun s => ⟨.inl, ?_⟩⟩
    rintro (z | rfl)
    · exact z
    · exact List.mem_map.mpr ⟨_, sFind_mem h, rfl⟩
  | none =>
    rw [if_neg (by simp)]
    have gn : GoodI [] := ⟨List.nodup_nil, fun p hp => nomatch hp⟩
    refine ⟨⟨?_, fun p hp => ?_⟩, ⟨[], ?_, gn⟩, fun Φ => ?_, fun s => ?_⟩
    · rw [List.map_append]
      refine List.nodup_append.mpr ⟨g.nd, by simp, fun a ha b hb z => ?_⟩
      simp only [List.map_cons, List.map_nil, List.mem_singleton] at hb
      rw [z, hb] at ha
      exact sFind_none.mp h ha
    · rcases List.mem_append.mp hp with hp | hp
      · exact g.each p hp
      · rw [List.mem_singleton.mp hp]; exact gn
    · unfold sFind at h ⊢
      rw [List.find?_append, Option.map_eq_none_iff.mp h]
      rw [Option.none_or, List.find?_cons, decide_eq_true rfl]; rfl
    · unfold mS
      rw [List.map_append, List.sum_append]
      show _ + (lfI (Φ t) [] + 0) = _
      show _ + ((0 : Int) + 0) = _
      omega
    · rw [List.map_append, List.mem_append]
      simp
theorem sAdd_all {n : SD} {t : Stt} {ks : LI} {m : Int} (g : GoodS n) (hp : ∀ p ∈ ks, 0 < p.2) : GoodS (sAdd n t ks m) ∧ (∀ Φ, mS Φ (sAdd n t ks m) = mS Φ n + lfI (fun x => Φ t (x + m)) ks) ∧ ∀ s, s ∈ (sAdd n t ks m).map (·.1) ↔ s ∈ n.map (·.1) ∨ s = t := by
  obtain ⟨g1, ⟨w, hw, gw⟩, hm, hk⟩ := sGet_all (t := t) g
  unfold sAdd
  rw [hw, Option.getD_some]
  obtain ⟨ga, hl⟩ := addUp_all (m := m) gw hp
  refine ⟨⟨by rw [sMap_keys]; exact g1.nd, fun p hp' => ?_⟩, fun Φ => ?_, fun s => by rw [sMap_keys]; exact hk s⟩
  · obtain ⟨z, hz, rfl⟩ := List.mem_map.mp hp'
    split
    · exact ga
    · exact g1.each z hz
  · rw [mS_map g1.nd hw, hl, hm]; omega
end DL
namespace DL
open PySem L2
section
variable {a : List Int} {ops : Int → List Opt}
/-- how many rows go on so with j changes from here on -/
def gcnt (a : List Int) (ops : Int → List Opt) (r : Nat) (p : Int) (s : Stt) (j : Int) : Int := ((((rowF a ops false r p s).filter fun c => decide (dsF a c p = j)).length : Nat) : Int)
theorem sum_cast : ∀ l : List Nat, ((l.sum : Nat) : Int) = (l.map fun n : Nat => (n : Int)).sum
  | [] => rfl
  | x :: l => by rw [List.sum_cons, List.map_cons, List.sum_cons, ← sum_cast l]; omega
theorem gcnt_succ (r : Nat) (p : Int) (s : Stt) (j : Int) : gcnt a ops (r + 1) p s j = ((nxL a (ops p) p s false).map fun t => gcnt a ops r (p + 1) (some t) (j - stp a p t.num)).sum := by
  unfold gcnt
  have e : rowF a ops false (r + 1) p s = (nxL a (ops p) p s false).flatMap fun t => (rowF a ops false r (p + 1) (some t)).map (t.num :: ·) := rfl
  rw [e, List.filter_flatMap, List.length_flatMap, sum_cast, List.map_map]
  congr 1
  refine List.map_congr_left fun t _ => ?_
  show (((List.filter _ ((rowF a ops false r (p + 1) (some t)).map (t.num :: ·))).length : Nat) : Int) = _
  rw [List.filter_map, List.length_map]
  congr 2
  refine List.filter_congr fun c _ => ?_
  show decide (stp a p t.num + dsF a c (p + 1) = j) = decide (dsF a c (p + 1) = j - stp a p t.num)
  exact decide_eq_decide.mpr ⟨fun h => by omega, fun h => by omega⟩
theorem gcnt_zero (p : Int) (s : Stt) (j : Int) : gcnt a ops 0 p s j = if accB s = true ∧ j = 0 then 1 else 0 := by
  unfold gcnt rowF
  by_cases h : accB s = true
  · rw [if_pos h]
    by_cases e : j = 0
    · rw [if_pos ⟨h, e⟩, List.filter_cons, if_pos (decide_eq_true (show dsF a [] p = j from e.symm))]; rfl
    · rw [if_neg (fun z => e z.2), List.filter_cons, if_neg (by rw [decide_eq_false (show ¬ dsF a [] p = j from fun z => e z.symm)]; simp)]; rfl
  · rw [if_neg h, if_neg (fun z => h z.1)]; rfl
theorem lf_add (φ ψ : Int → Int) : ∀ t : LI, lfI (fun x => φ x + ψ x) t = lfI φ t + lfI ψ t
  | [] => rfl
  | p :: t => by rw [lf_cons, lf_cons, lf_cons, lf_add φ ψ t, Int.mul_add]; omega
theorem lf_zero : ∀ t : LI, lfI (fun _ => 0) t = 0
  | [] => rfl
  | p :: t => by rw [lf_cons, lf_zero t, Int.mul_zero]; rfl
theorem lf_sum {α : Type} (f : α → Int → Int) (ks : LI) : ∀ l : List α, lfI (fun x => (l.map fun t => f t x).sum) ks = (l.map fun t => lfI (f t) ks).sum
  | [] => lf_zero ks
  | t :: l => by
    rw [List.map_cons, List.sum_cons, ← lf_sum f ks l, ← lf_add]; rfl
def b2i (b : Bool) : Int := if b = true then 1 else 0
def optStep (a : List Int) (p : Int) (s : Stt) (ks : LI) : List Opt → SD → SD
  | [], n => n
  | o :: os, n => optStep a p s ks os (match nxN a p s o false with
    | none => n
    | some t => sAdd n (some t) ks (b2i o.2))
def plcStep (a : List Int) (os : List Opt) (p : Int) : SD → SD → SD
  | [], n => n
  | x :: here, n => plcStep a os p here (optStep a p x.1 x.2 os n)
def InR (n : SD) (h : Int) : Prop := ∀ p ∈ n, ∀ x ∈ p.2.map (·.1), 0 ≤ x ∧ x ≤ h
theorem sAdd_rng {n : SD} {t : Stt} {ks : LI} {m h : Int} (hr : InR n h) (hk : ∀ x ∈ ks.map (·.1), 0 ≤ x + m ∧ x + m ≤ h) : InR (sGet n t) h ∧ InR (sAdd n t ks m) h := by
  have hg : InR (sGet n t) h := by
    unfold sGet
    split
    · exact hr
    · intro p hp x hx
      rcases List.mem_append.mp hp with hp | hp
      · exact hr p hp x hx
      · rw [List.mem_singleton.mp hp] at hx; cases hx
  refine ⟨hg, fun p hp x hx => ?_⟩
  unfold sAdd sMap at hp
  obtain ⟨z, hz, e⟩ := List.mem_map.mp hp
  by_cases ez : z.1 = t
  · rw [if_pos ez] at e
    rw [← e] at hx
    rcases addUp_keys.mp hx with h1 | h1
    · cases hf : sFind (sGet n t) t with
      | none => rw [hf] at h1; cases h1
      | some w =>
        rw [hf] at h1
        exact hg _ (sFind_mem hf) x h1
    · have := hk _ h1
      omega
  · rw [if_neg ez] at e
    rw [← e] at hx
    exact hg z hz x hx
theorem opt_all {p : Int} {s : Stt} {ks : LI} {h : Int} (hp : ∀ x ∈ ks, 0 < x.2) (hk : ∀ x ∈ ks.map (·.1), 0 ≤ x ∧ x + 1 ≤ h) : ∀ {os : List Opt} {n : SD}, (∀ o ∈ os, b2i o.2 = stp a p o.1) → GoodS n → InR n h →
    GoodS (optStep a p s ks os n) ∧ InR (optStep a p s ks os n) h ∧ (∀ Φ : Stt → Int → Int, mS Φ (optStep a p s ks os n) = mS Φ n + ((nxL a os p s false).map fun t => lfI (fun x => Φ (some t) (x + stp a p t.num)) ks).sum) ∧ ∀ u, u ∈ (optStep a p s ks os n).map (·.1) → u ∈ n.map (·.1) ∨ ∃ t ∈ nxL a os p s false, u = some t
  | [], n, _, g, r => ⟨g, r, fun Φ => by show mS Φ n = mS Φ n + 0; omega, fun u hu => .inl hu⟩
  | o :: os, n, hf, g, r => by
    have hf' : ∀ o ∈ os, b2i o.2 = stp a p o.1 := fun x hx => hf x (List.mem_cons_of_mem _ hx)
    have f0 := hf o (List.mem_cons_self ..)
    have b01 : b2i o.2 = 0 ∨ b2i o.2 = 1 := by unfold b2i; split <;> omega
    cases e : nxN a p s o false with
    | none =>
      have e1 : optStep a p s ks (o :: os) n = optStep a p s ks os n := by
        show optStep a p s ks os (match nxN a p s o false with | none => n | some t => sAdd n (some t) ks (b2i o.2)) = _
        rw [e]
      have e2 : nxL a (o :: os) p s false = nxL a os p s false := by
        unfold nxL
        rw [List.filterMap_cons, e]
      rw [e1, e2]
      exact opt_all hp hk hf' g r
    | some t =>
      have e1 : optStep a p s ks (o :: os) n = optStep a p s ks os (sAdd n (some t) ks (b2i o.2)) := by
        show optStep a p s ks os (match nxN a p s o false with | none => n | some t => sAdd n (some t) ks (b2i o.2)) = _
        rw [e]
      have e2 : nxL a (o :: os) p s false = t :: nxL a os p s false := by
        unfold nxL
        rw [List.filterMap_cons, e]
      obtain ⟨g1, m1, k1⟩ := sAdd_all (t := some t) (m := b2i o.2) g hp
      have r1 := (sAdd_rng (t := some t) (m := b2i o.2) r fun x hx => by have := hk x hx; omega).2
      obtain ⟨h1, h2, h3, h4⟩ := opt_all hp hk hf' g1 r1
      rw [e1, e2]
      refine ⟨h1, h2, fun Φ => ?_, fun u hu => ?_⟩
      · rw [h3, m1, List.map_cons, List.sum_cons, f0, nx_num e]; omega
      · rcases h4 u hu with q | ⟨t', ht, eu⟩
        · rcases (k1 u).mp q with q | q
          · exact .inl q
          · exact .inr ⟨t, List.mem_cons_self .., q⟩
        · exact .inr ⟨t', List.mem_cons_of_mem _ ht, eu⟩
theorem plc_all {p : Int} {os : List Opt} {h : Int} (hf : ∀ o ∈ os, b2i o.2 = stp a p o.1) : ∀ {here n : SD}, (∀ x ∈ here, GoodI x.2) → InR here (h - 1) → GoodS n → InR n h →
    GoodS (plcStep a os p here n) ∧ InR (plcStep a os p here n) h ∧ (∀ Φ : Stt → Int → Int, mS Φ (plcStep a os p here n) = mS Φ n + (here.map fun x => ((nxL a os p x.1 false).map fun t => lfI (fun y => Φ (some t) (y + stp a p t.num)) x.2).sum).sum) ∧ ∀ u, u ∈ (plcStep a os p here n).map (·.1) → u ∈ n.map (·.1) ∨ ∃ s ∈ here.map (·.1), ∃ t ∈ nxL a os p s false, u = some t
  | [], n, _, _, g, r => ⟨g, r, fun Φ => by show mS Φ n = mS Φ n + 0; omega, fun u hu => .inl hu⟩
  | x :: here, n, hg, hr, g, r => by
    obtain ⟨g1, r1, m1, k1⟩ := opt_all (s := x.1) (hg x (List.mem_cons_self ..)).pos (fun y hy => by have := hr x (List.mem_cons_self ..) y hy; omega) hf g r
    obtain ⟨g2, r2, m2, k2⟩ := plc_all hf (fun y hy => hg y (List.mem_cons_of_mem _ hy)) (fun y hy => hr y (List.mem_cons_of_mem _ hy)) g1 r1
    refine ⟨g2, r2, fun Φ => ?_, fun u hu => ?_⟩
    · show mS Φ (plcStep a os p here (optStep a p x.1 x.2 os n)) = _
      rw [m2, m1, List.map_cons, List.sum_cons]; omega
    · rcases k2 u hu with q | ⟨s, hs, t, ht, e⟩
      · rcases k1 u q with q | ⟨t, ht, e⟩
        · exact .inl q
        · exact .inr ⟨x.1, List.mem_cons_self .., t, ht, e⟩
      · exact .inr ⟨s, List.mem_cons_of_mem _ hs, t, ht, e⟩
/-- the dict after k people -/
def hereN (a : List Int) (ops : Int → List Opt) : Nat → SD
  | 0 => [(none, [(0, 1)])]
  | k + 1 => plcStep a (ops k) k (hereN a ops k) []
def FlB (a : List Int) (ops : Int → List Opt) : Prop := ∀ p, ∀ o ∈ ops p, b2i o.2 = stp a p o.1
theorem here_all (hf : FlB a ops) : ∀ k : Nat, GoodS (hereN a ops k) ∧ InR (hereN a ops k) k ∧ (∀ s ∈ (hereN a ops k).map (·.1), s ∈ layN a ops false k) ∧ ∀ (r : Nat) (j : Int), mS (fun s x => gcnt a ops r k s (j - x)) (hereN a ops k) = gcnt a ops (r + k) 0 none j
  | 0 => by
    refine ⟨⟨List.pairwise_singleton _ _, fun p hp => ?_⟩, fun p hp x hx => ?_, fun s hs => hs, fun r j => ?_⟩
    · rw [List.mem_singleton.mp hp]
      exact ⟨List.pairwise_singleton _ _, fun q hq => by rw [List.mem_singleton.mp hq]; decide⟩
    · rw [List.mem_singleton.mp hp] at hx
      rw [List.mem_singleton.mp hx]
      exact ⟨Int.le_refl _, Int.le_refl _⟩
    · show (1 * gcnt a ops r 0 none (j - 0) + 0) + 0 = _
      rw [Int.sub_zero, Nat.add_zero]; omega
  | k + 1 => by
    obtain ⟨g, r, l, m⟩ := here_all hf k
    obtain ⟨g2, r2, m2, k2⟩ := plc_all (a := a) (p := (k : Int)) (os := ops k) (h := ((k + 1 : Nat) : Int)) (hf k) (here := hereN a ops k) (n := []) (fun x hx => g.each x hx) (fun p hp x hx => by have := r p hp x hx; omega) ⟨List.nodup_nil, fun p hp => nomatch hp⟩ (fun p hp => nomatch hp)
    refine ⟨g2, r2, fun s hs => ?_, fun q j => ?_⟩
    · rcases k2 s hs with h | ⟨u, hu, t, ht, e⟩
      · cases h
      · rw [e]; exact lay_next (l u hu) ht
    · show mS _ (plcStep a (ops k) k (hereN a ops k) []) = _
      rw [m2, show q + (k + 1) = (q + 1) + k by omega, ← m (q + 1) j]
      show (0 : Int) + _ = _
      rw [Int.zero_add]
      unfold mS
      congr 1
      refine List.map_congr_left fun x _ => ?_
      rw [← lf_sum]
      congr 1
      funext y
      show _ = gcnt a ops (q + 1) k x.1 (j - y)
      rw [gcnt_succ]
      congr 1
      refine List.map_congr_left fun t _ => ?_
      show gcnt a ops q ((k + 1 : Nat) : Int) (some t) (j - (y + stp a k t.num)) = gcnt a ops q ((k : Int) + 1) (some t) (j - y - stp a k t.num)
      rw [show ((k + 1 : Nat) : Int) = (k : Int) + 1 by omega, show j - (y + stp a k t.num) = j - y - stp a k t.num by omega]
def totL : SD → LI → LI
  | [], T => T
  | x :: n, T => totL n (if accB x.1 = true then addUp T x.2 0 else T)
theorem tot_all {h : Int} : ∀ {n : SD} {T : LI}, (∀ x ∈ n, GoodI x.2) → InR n h → GoodI T → (∀ x ∈ T.map (·.1), 0 ≤ x ∧ x ≤ h) → GoodI (totL n T) ∧ (∀ x ∈ (totL n T).map (·.1), 0 ≤ x ∧ x ≤ h) ∧ ∀ φ : Int → Int, lfI φ (totL n T) = lfI φ T + mS (fun s x => if accB s = true then φ x else 0) n
  | [], T, _, _, g, r => ⟨g, r, fun φ => by show lfI φ T = lfI φ T + 0; omega⟩
  | x :: n, T, hg, hr, g, r => by
    have hg' : ∀ y ∈ n, GoodI y.2 := fun y hy => hg y (List.mem_cons_of_mem _ hy)
    have hr' : InR n h := fun y hy => hr y (List.mem_cons_of_mem _ hy)
    by_cases e : accB x.1 = true
    · have e1 : totL (x :: n) T = totL n (addUp T x.2 0) := by
        show totL n (if accB x.1 = true then addUp T x.2 0 else T) = _
        rw [if_pos e]
      obtain ⟨g1, l1⟩ := addUp_all (m := 0) g (hg x (List.mem_cons_self ..)).pos
      obtain ⟨h1, h2, h3⟩ := tot_all hg' hr' g1 fun y hy => by
        rcases addUp_keys.mp hy with q | q
        · exact r y q
        · have := hr x (List.mem_cons_self ..) _ q; omega
      rw [e1]
      refine ⟨h1, h2, fun φ => ?_⟩
      rw [h3, l1, mS_cons]
      have e2 : lfI (fun y => φ (y + 0)) x.2 = lfI φ x.2 := by
        congr 1
        funext y
        rw [Int.add_zero]
      have e3 : lfI (fun y => if accB x.1 = true then φ y else 0) x.2 = lfI φ x.2 := by
        congr 1
        funext y
        rw [if_pos e]
      rw [e2, e3]; omega
    · have e1 : totL (x :: n) T = totL n T := by
        show totL n (if accB x.1 = true then addUp T x.2 0 else T) = _
        rw [if_neg e]
      obtain ⟨h1, h2, h3⟩ := tot_all hg' hr' g r
      rw [e1]
      refine ⟨h1, h2, fun φ => ?_⟩
      rw [h3, mS_cons]
      have e3 : lfI (fun y => if accB x.1 = true then φ y else 0) x.2 = 0 := by
        have : (fun y : Int => if accB x.1 = true then φ y else 0) = fun _ => 0 := funext fun y => if_neg e
        rw [this]; exact lf_zero _
      rw [e3]; omega
theorem lf_at {k : Int} : ∀ {t : LI}, (t.map (·.1)).Nodup → lfI (fun x => if k = x then 1 else 0) t = (getI t k).getD 0
  | [], _ => rfl
  | p :: t, hn => by
    rw [List.map_cons] at hn
    have hn' := List.nodup_cons.mp hn
    rw [lf_cons, lf_at hn'.2, getI_cons]
    by_cases e : p.1 = k
    · rw [if_pos e, if_pos e.symm, getI_none.mpr (by rw [← e]; exact hn'.1)]
      show p.2 * 1 + 0 = p.2
      omega
    · rw [if_neg e, if_neg (fun z => e z.symm), Int.mul_zero, Int.zero_add]
def sphT (a : List Int) : LI := totL (hereN a (optA a) a.length) []
def cntD (a : List Int) (k : Nat) : Nat := ((folR a).filter fun b => decide (dst a b = k)).length
end
end DL
namespace DL
open PySem L2
theorem flB_A (a : List Int) : FlB a (optA a) := fun p o ho => by
  obtain ⟨x, c⟩ := o
  have := opt_flag ho
  show b2i c = stp a p x
  unfold b2i stp
  rw [this]
  by_cases e : nat a p = x
  · rw [if_pos e, decide_eq_true e]; rfl
  · rw [if_neg e, decide_eq_false e]; rfl
theorem sphT_all (a : List Int) : GoodI (sphT a) ∧ (∀ x ∈ (sphT a).map (·.1), 0 ≤ x ∧ x ≤ (a.length : Int)) ∧ ∀ k : Nat, (getI (sphT a) (k : Int)).getD 0 = (cntD a k : Nat) := by
  obtain ⟨g, r, l, m⟩ := here_all (a := a) (flB_A a) a.length
  obtain ⟨h1, h2, h3⟩ := tot_all (T := []) (h := (a.length : Int)) (fun x hx => g.each x hx) r ⟨List.nodup_nil, fun p hp => nomatch hp⟩ (fun x hx => nomatch hx)
  refine ⟨h1, h2, fun k => ?_⟩
  show (getI (totL (hereN a (optA a) a.length) []) (k : Int)).getD 0 = _
  rw [← lf_at h1.nd]
  rw [h3]
  have e : mS (fun s x => if accB s = true then (if (k : Int) = x then 1 else 0) else 0) (hereN a (optA a) a.length) = mS (fun s x => gcnt a (optA a) 0 a.length s ((k : Int) - x)) (hereN a (optA a) a.length) := by
    congr 1
    funext s x
    rw [gcnt_zero]
    by_cases h : accB s = true
    · rw [if_pos h]
      by_cases z : (k : Int) = x
      · rw [if_pos z, if_pos ⟨h, by omega⟩]
      · rw [if_neg z, if_neg (fun y => z (by have := y.2; omega))]
    · rw [if_neg h, if_neg (fun y => h y.1)]
  rw [e, m 0 k]
  show (0 : Int) + gcnt a (optA a) (0 + a.length) 0 none k = _
  rw [Int.zero_add, Nat.zero_add]
  unfold gcnt cntD
  congr 2
  refine List.filter_congr fun b hb => ?_
  have hl : b.length = a.length := (fol_mem.mp hb).len
  exact decide_eq_decide.mpr (by rw [ds_eq hl]; omega)
theorem sph_key {a : List Int} {x : Int} : x ∈ (sphT a).map (·.1) ↔ ∃ b ∈ folR a, (dst a b : Int) = x := by
  obtain ⟨g, r, c⟩ := sphT_all a
  constructor
  · intro h
    have h0 := r x h
    obtain ⟨k, rfl⟩ : ∃ k : Nat, x = (k : Int) := ⟨x.toNat, by omega⟩
    obtain ⟨p, hp, e⟩ := List.mem_map.mp h
    have hg : getI (sphT a) (k : Int) = some p.2 := getI_at g.nd (by rw [← e]; exact hp)
    have := c k
    rw [hg, Option.getD_some] at this
    have pp := g.pos p hp
    have : 0 < cntD a k := by omega
    obtain ⟨b, hb⟩ := List.exists_mem_of_length_pos this
    have hb := List.mem_filter.mp hb
    exact ⟨b, hb.1, by rw [of_decide_eq_true hb.2]⟩
  · rintro ⟨b, hb, rfl⟩
    have hc : 0 < cntD a (dst a b) := List.length_pos_of_mem (List.mem_filter.mpr ⟨hb, decide_eq_true rfl⟩)
    have := c (dst a b)
    cases h : getI (sphT a) (dst a b : Int) with
    | none =>
      rw [h] at this
      have : (0 : Int) = (cntD a (dst a b) : Nat) := this
      omega
    | some v => exact List.mem_map.mpr ⟨_, getI_mem h, rfl⟩
def farN (a : List Int) : Nat := ((folR a).map (dst a)).foldl max 0
theorem fold_maxN : ∀ (l : List Nat) (m : Nat), m ≤ l.foldl max m ∧ (∀ x ∈ l, x ≤ l.foldl max m) ∧ (l.foldl max m = m ∨ l.foldl max m ∈ l)
  | [], m => ⟨Nat.le_refl m, (fun x h => nomatch h), .inl rfl⟩
  | y :: l, m => by
    obtain ⟨h1, h2, h3⟩ := fold_maxN l (max m y)
    rw [List.foldl_cons]
    refine ⟨by omega, fun x hx => ?_, ?_⟩
    · rcases List.mem_cons.mp hx with rfl | hx
      · omega
      · exact h2 x hx
    · rcases h3 with h | h
      · by_cases e : y ≤ m
        · left; omega
        · right
          rw [h, show max m y = y by omega]; exact List.mem_cons_self ..
      · exact .inr (List.mem_cons_of_mem _ h)
theorem far_le {a b : List Int} (h : b ∈ folR a) : dst a b ≤ farN a := (fold_maxN _ 0).2.1 _ (List.mem_map.mpr ⟨b, h, rfl⟩)
theorem far_at (a : List Int) : ∃ b ∈ folR a, dst a b = farN a := by
  rcases (fold_maxN ((folR a).map (dst a)) 0).2.2 with h | h
  · exact ⟨a, fol_mem.mpr (Keep.refl a), by rw [dst_self]; exact h.symm⟩
  · obtain ⟨b, hb, e⟩ := List.mem_map.mp h
    exact ⟨b, hb, e⟩
/-- the numbers of rows at each distance -/
def sphL (a : List Int) : List Int := (List.range (farN a + 1)).map fun k : Nat => ((cntD a k : Nat) : Int)
theorem enc_ints (t : LI) : (encD t).map (·.1) = (t.map (·.1)).map PyData.int := by unfold encD; rw [List.map_map, List.map_map]; rfl
theorem ints_of (ns : List Int) : intsOf (ns.map PyData.int) = some ns := intsOf_map ns
theorem sph_max (a : List Int) : maxDD [dcD (encD (sphT a))] = some (.int (farN a : Nat)) := by
  show (match intsOf ((encD (sphT a)).map (·.1)) with | some (n :: ns) => some (PyData.int (ns.foldl max n)) | _ => none) = _
  rw [enc_ints, ints_of]
  obtain ⟨b, hb, e⟩ := far_at a
  have hm : (farN a : Int) ∈ (sphT a).map (·.1) := sph_key.mpr ⟨b, hb, by rw [e]⟩
  have hle : ∀ x ∈ (sphT a).map (·.1), x ≤ (farN a : Int) := fun x hx => by
    obtain ⟨c, hc, ec⟩ := sph_key.mp hx
    have := far_le hc
    omega
  cases h : (sphT a).map (·.1) with
  | nil => rw [h] at hm; cases hm
  | cons n ns =>
    rw [h] at hm hle
    show some (PyData.int (ns.foldl max n)) = _
    rw [foldl_max ns n (farN a) (List.mem_cons.mp hm) (hle n (List.mem_cons_self ..)) fun x hx => hle x (List.mem_cons_of_mem _ hx)]
theorem goodI_len {t : LI} {h : Nat} (g : GoodI t) (r : ∀ x ∈ t.map (·.1), 0 ≤ x ∧ x ≤ (h : Int)) : t.length ≤ h + 1 := by
  have := sub_len g.nd (m := (List.range (h + 1)).map fun k : Nat => (k : Int)) fun x hx => by
    have := r x hx
    exact List.mem_map.mpr ⟨x.toNat, List.mem_range.mpr (by omega), by omega⟩
  rw [List.length_map, List.length_map, List.length_range] at this
  exact this
end DL
namespace DL
open PySem L2
theorem sph_kinds (a : List Int) (g : Int → Int) : ((List.range (farN a + 1)).map fun k : Nat => g (k : Int) * ((cntD a k : Nat) : Int)).sum = ((folR a).map fun b => g (dst a b : Int)).sum := by
  have := sum_kinds (fun b => ((dst a b : Nat) : Int)) g ((List.range (farN a + 1)).map fun k : Nat => (k : Int)) (folR a) (nodup_map_on List.nodup_range fun x _ y _ e => by omega) fun b hb => by
    have := far_le hb
    exact List.mem_map.mpr ⟨dst a b, List.mem_range.mpr (by omega), rfl⟩
  rw [← this, List.map_map]
  congr 1
  refine List.map_congr_left fun k _ => ?_
  show g (k : Int) * ((cntD a k : Nat) : Int) = g (k : Int) * _
  unfold cntD
  congr 3
  refine List.filter_congr fun b _ => ?_
  show decide (dst a b = k) = decide (((dst a b : Nat) : Int) = (k : Int))
  exact decide_eq_decide.mpr ⟨fun h => by omega, fun h => by omega⟩
theorem sph_sum (a : List Int) : (sphL a).sum = ((folR a).length : Nat) := by
  have := sph_kinds a fun _ => 1
  have e1 : ((folR a).map fun b => (1 : Int)).sum = ((folR a).length : Nat) := by
    have go : ∀ l : List (List Int), (l.map fun b => (1 : Int)).sum = (l.length : Nat) := fun l => by
      induction l with
      | nil => rfl
      | cons x l ih => rw [List.map_cons, List.sum_cons, ih, List.length_cons]; omega
    exact go _
  rw [e1] at this
  rw [← this]
  unfold sphL
  congr 1
  exact List.map_congr_left fun k _ => (Int.one_mul _).symm
/-- all calls put together -/
def wsN (a : List Int) : Int := ((List.range (farN a + 1)).map fun k : Nat => (k : Int) * ((cntD a k : Nat) : Int)).sum
theorem ws_eq (a : List Int) : wsN a = (((folR a).map (dst a)).sum : Nat) := by
  unfold wsN
  rw [sph_kinds a fun x => x]
  rw [sum_cast, List.map_map]; rfl
end DL
namespace DL
open PySem L2
section
variable {f : Int → Int} {S : List Int}
theorem Sim.symm {a b a' b' : List Int} (s : Sim a b a' b') : Sim a' b' a b := by
  obtain ⟨la, lb, lb', aa, ab, ba, bb⟩ := s
  exact ⟨la.symm, by omega, by omega, fun p q p0 p1 q0 q1 => (aa p q p0 (by omega) q0 (by omega)).symm, fun p q p0 p1 q0 q1 => (ab p q p0 (by omega) q0 (by omega)).symm, fun p q p0 p1 q0 q1 => (ba p q p0 (by omega) q0 (by omega)).symm, fun p q p0 p1 q0 q1 => (bb p q p0 (by omega) q0 (by omega)).symm⟩
end
end DL
namespace DL
open PySem L2
theorem nat_appL {a b : List Int} {p : Int} (h0 : 0 ≤ p) (h1 : p < a.length) : nat (a ++ b) p = nat a p := by
  unfold nat
  rw [List.getElem?_append_left (by omega)]
theorem nat_appR {a b : List Int} {p : Int} (h0 : 0 ≤ p) : nat (a ++ b) ((a.length : Int) + p) = nat b p := by
  unfold nat
  rw [List.getElem?_append_right (by omega), show ((a.length : Int) + p).toNat - a.length = p.toNat by omega]
/-- neither of the two where the rows meet is a top or dip -/
def Still (a b : List Int) : Prop := ∀ p : Int, p = (a.length : Int) - 1 ∨ p = a.length → ¬ IsT (a ++ b) p ∧ ¬ IsD (a ++ b) p
section
variable {a b : List Int}
theorem topL {p : Int} (h0 : 0 ≤ p) (h : p + 1 < a.length) : (IsT (a ++ b) p ↔ IsT a p) ∧ (IsD (a ++ b) p ↔ IsD a p) := by
  have n0 := nat_appL (a := a) (b := b) h0 (by omega)
  have n1 := nat_appL (a := a) (b := b) (p := p + 1) (by omega) h
  have l : (a ++ b).length = a.length + b.length := List.length_append
  constructor
  · constructor
    · rintro ⟨q0, _, q⟩
      rw [n0, n1, nat_appL (p := p - 1) (by omega) (by omega)] at q
      exact ⟨q0, h, q⟩
    · rintro ⟨q0, _, q⟩
      refine ⟨q0, by omega, ?_⟩
      rw [n0, n1, nat_appL (p := p - 1) (by omega) (by omega)]
      exact q
  · constructor
    · rintro ⟨q0, _, q⟩
      rw [n0, n1, nat_appL (p := p - 1) (by omega) (by omega)] at q
      exact ⟨q0, h, q⟩
    · rintro ⟨q0, _, q⟩
      refine ⟨q0, by omega, ?_⟩
      rw [n0, n1, nat_appL (p := p - 1) (by omega) (by omega)]
      exact q
theorem topR {p : Int} (h0 : 0 < p) : (IsT (a ++ b) ((a.length : Int) + p) ↔ IsT b p) ∧ (IsD (a ++ b) ((a.length : Int) + p) ↔ IsD b p) := by
  have n0 := nat_appR (a := a) (b := b) (p := p) (by omega)
  have n1 := nat_appR (a := a) (b := b) (p := p + 1) (by omega)
  have n2 := nat_appR (a := a) (b := b) (p := p - 1) (by omega)
  have l : (a ++ b).length = a.length + b.length := List.length_append
  rw [← Int.add_assoc] at n1
  rw [show (a.length : Int) + (p - 1) = (a.length : Int) + p - 1 by omega] at n2
  constructor
  · constructor
    · rintro ⟨q0, q1, q⟩
      rw [n0, n1, n2] at q
      exact ⟨h0, by omega, q⟩
    · rintro ⟨q0, q1, q⟩
      refine ⟨by omega, by omega, ?_⟩
      rw [n0, n1, n2]
      exact q
  · constructor
    · rintro ⟨q0, q1, q⟩
      rw [n0, n1, n2] at q
      exact ⟨h0, by omega, q⟩
    · rintro ⟨q0, q1, q⟩
      refine ⟨by omega, by omega, ?_⟩
      rw [n0, n1, n2]
      exact q
theorem keep_join {c e : List Int} (hc : c.length = a.length) (he : e.length = b.length) (s : Still a b) : Keep (a ++ b) (c ++ e) ↔ Keep a c ∧ Keep b e := by
  have l : (a ++ b).length = a.length + b.length := List.length_append
  have l2 : (c ++ e).length = a.length + b.length := by rw [List.length_append, hc, he]
  have cR : ∀ {p : Int}, 0 ≤ p → nat (c ++ e) ((a.length : Int) + p) = nat e p := fun {p} h => by
    have := nat_appR (a := c) (b := e) h
    rw [hc] at this
    exact this
  have cL : ∀ {p : Int}, 0 ≤ p → p < a.length → nat (c ++ e) p = nat c p := fun {p} h0 h1 => nat_appL h0 (by omega)
  constructor
  · intro k
    have still : ∀ p : Int, p = (a.length : Int) - 1 ∨ p = a.length → 0 ≤ p → p < (a ++ b).length → nat (a ++ b) p = nat (c ++ e) p := fun p hp h0 h1 => by
      rcases k.chg p h0 h1 with z | z | z
      · exact z
      · exact absurd z.1 (s p hp).1
      · exact absurd z.1 (s p hp).2
    refine ⟨⟨hc, fun p h0 h1 => ?_, fun p h0 h1 => ?_, fun p h0 h1 => ?_⟩, ⟨he, fun p h0 h1 => ?_, fun p h0 h1 => ?_, fun p h0 h1 => ?_⟩⟩
    · rw [← nat_appL (b := b) h0 h1, ← cL h0 h1]
      by_cases h2 : p + 1 < a.length
      · rw [← (topL (b := b) h0 h2).1, ← (topL (b := b) h0 h2).2]
        exact k.chg p h0 (by omega)
      · exact .inl (still p (.inl (by omega)) h0 (by omega))
    · have := k.ord p h0 (by omega)
      rw [nat_appL h0 (by omega), nat_appL (p := p + 1) (by omega) h1, cL h0 (by omega), cL (p := p + 1) (by omega) h1] at this
      exact this
    · obtain ⟨q, q0, q1, qe, qr⟩ := k.run p h0 (by omega)
      by_cases h2 : q < a.length
      · refine ⟨q, q0, h2, ?_, fun r hr => ?_⟩
        · rw [nat_appL q0 h2, cL q0 h2] at qe
          exact qe
        · have := qr r hr
          rw [cL (by unfold Btw at hr; omega) (by unfold Btw at hr; omega), cL h0 h1] at this
          exact this
      · have st := still ((a.length : Int) - 1) (.inl rfl) (by omega) (by omega)
        rw [nat_appL (by omega) (by omega), cL (by omega) (by omega)] at st
        refine ⟨(a.length : Int) - 1, by omega, by omega, st, fun r hr => ?_⟩
        have := qr r (by unfold Btw at hr ⊢; omega)
        rw [cL (by unfold Btw at hr; omega) (by unfold Btw at hr; omega), cL h0 h1] at this
        exact this
    · rw [← nat_appR (a := a) h0, ← cR h0]
      by_cases h2 : 0 < p
      · rw [← (topR (a := a) h2).1, ← (topR (a := a) h2).2]
        exact k.chg _ (by omega) (by omega)
      · have : p = 0 := by omega
        subst this
        exact .inl (still _ (.inr (by omega)) (by omega) (by omega))
    · have := k.ord ((a.length : Int) + p) (by omega) (by omega)
      rw [Int.add_assoc, nat_appR h0, nat_appR (p := p + 1) (by omega), cR h0, cR (p := p + 1) (by omega)] at this
      exact this
    · obtain ⟨q, q0, q1, qe, qr⟩ := k.run ((a.length : Int) + p) (by omega) (by omega)
      by_cases h2 : (a.length : Int) ≤ q
      · obtain ⟨z, rfl⟩ : ∃ z : Int, q = (a.length : Int) + z := ⟨q - a.length, by omega⟩
        refine ⟨z, by omega, by omega, ?_, fun r hr => ?_⟩
        · rw [nat_appR (by omega), cR (by omega)] at qe
          exact qe
        · have := qr ((a.length : Int) + r) (by unfold Btw at hr ⊢; omega)
          rw [cR (by unfold Btw at hr; omega), cR h0] at this
          exact this
      · have st := still a.length (.inr rfl) (by omega) (by omega)
        have z1 := nat_appR (a := a) (b := b) (p := 0) (Int.le_refl 0)
        have z2 := cR (p := 0) (Int.le_refl 0)
        rw [Int.add_zero] at z1 z2
        rw [z1, z2] at st
        refine ⟨0, Int.le_refl 0, by omega, st, fun r hr => ?_⟩
        have := qr ((a.length : Int) + r) (by unfold Btw at hr ⊢; omega)
        rw [cR (by unfold Btw at hr; omega), cR h0] at this
        exact this
  · rintro ⟨k, m⟩
    refine ⟨by rw [l, l2], fun p h0 h1 => ?_, fun p h0 h1 => ?_, fun p h0 h1 => ?_⟩
    · rw [l] at h1
      by_cases h2 : p < a.length
      · rw [nat_appL h0 h2, cL h0 h2]
        rcases k.chg p h0 h2 with z | z | z
        · exact .inl z
        · exact .inr (.inl ⟨(topL h0 z.1.2.1).1.mpr z.1, z.2⟩)
        · exact .inr (.inr ⟨(topL h0 z.1.2.1).2.mpr z.1, z.2⟩)
      · obtain ⟨z, rfl⟩ : ∃ z : Int, p = (a.length : Int) + z := ⟨p - a.length, by omega⟩
        rw [nat_appR (by omega), cR (by omega)]
        rcases m.chg z (by omega) (by omega) with y | y | y
        · exact .inl y
        · exact .inr (.inl ⟨(topR y.1.1).1.mpr y.1, y.2⟩)
        · exact .inr (.inr ⟨(topR y.1.1).2.mpr y.1, y.2⟩)
    · rw [l] at h1
      by_cases h2 : p + 1 < a.length
      · rw [nat_appL h0 (by omega), nat_appL (p := p + 1) (by omega) h2, cL h0 (by omega), cL (p := p + 1) (by omega) h2]
        exact k.ord p h0 h2
      · by_cases h3 : p < a.length
        · have e1 := k.end0 (p := p) h0 h3 (.inr (by omega))
          have e2 := m.end0 (p := 0) (Int.le_refl 0) (by omega) (.inl rfl)
          have z1 := nat_appR (a := a) (b := b) (p := 0) (Int.le_refl 0)
          have z2 := cR (p := 0) (Int.le_refl 0)
          rw [show (a.length : Int) + 0 = p + 1 by omega] at z1 z2
          rw [z1, z2, nat_appL h0 h3, cL h0 h3, ← e1, ← e2]
          exact ⟨fun h => by omega, fun h => by omega, fun h => h⟩
        · obtain ⟨z, rfl⟩ : ∃ z : Int, p = (a.length : Int) + z := ⟨p - a.length, by omega⟩
          rw [Int.add_assoc, nat_appR (by omega), nat_appR (p := z + 1) (by omega), cR (by omega), cR (p := z + 1) (by omega)]
          exact m.ord z (by omega) (by omega)
    · rw [l] at h1
      by_cases h2 : p < a.length
      · obtain ⟨q, q0, q1, qe, qr⟩ := k.run p h0 h2
        refine ⟨q, q0, by omega, by rw [nat_appL q0 q1, cL q0 q1]; exact qe, fun r hr => ?_⟩
        rw [cL (by unfold Btw at hr; omega) (by unfold Btw at hr; omega), cL h0 h2]
        exact qr r hr
      · obtain ⟨z, rfl⟩ : ∃ z : Int, p = (a.length : Int) + z := ⟨p - a.length, by omega⟩
        obtain ⟨q, q0, q1, qe, qr⟩ := m.run z (by omega) (by omega)
        refine ⟨(a.length : Int) + q, by omega, by omega, by rw [nat_appR q0, cR q0]; exact qe, fun r hr => ?_⟩
        obtain ⟨y, rfl⟩ : ∃ y : Int, r = (a.length : Int) + y := ⟨r - a.length, by omega⟩
        rw [cR (by unfold Btw at hr; omega), cR (by omega)]
        exact qr y (by unfold Btw at hr ⊢; omega)
end
end DL
namespace DL
open PySem L2
theorem app_ltL : ∀ {c d x y : List Int}, c.length = d.length → c < d → c ++ x < d ++ y
  | [], [], _, _, _, h => absurd h (List.not_lt_nil _)
  | [], _ :: _, _, _, hl, _ => by rw [List.length_cons] at hl; exact absurd hl (by simp)
  | _ :: _, [], _, _, hl, _ => by rw [List.length_cons] at hl; exact absurd hl (by simp)
  | u :: c, v :: d, x, y, hl, h => by
    rw [List.length_cons, List.length_cons] at hl
    rw [List.cons_append, List.cons_append, List.cons_lt_cons_iff]
    rcases List.cons_lt_cons_iff.mp h with h | ⟨e, h⟩
    · exact .inl h
    · exact .inr ⟨e, app_ltL (by omega) h⟩
theorem app_ltR {x y : List Int} (h : x < y) : ∀ c : List Int, c ++ x < c ++ y
  | [] => h
  | u :: c => by
    rw [List.cons_append, List.cons_append, List.cons_lt_cons_iff]
    exact .inr ⟨rfl, app_ltR h c⟩
theorem fol_join {a b : List Int} (s : Still a b) : folR (a ++ b) = (folR a).flatMap fun c => (folR b).map (c ++ ·) := by
  refine asc_rows (fol_asc _) ?_ fun d => ?_
  · rw [List.pairwise_flatMap]
    refine ⟨fun c _ => ?_, ?_⟩
    · rw [List.pairwise_map]
      exact (fol_asc b).imp fun h => app_ltR h c
    · have : (folR a).Pairwise fun c d => (c ∈ folR a ∧ d ∈ folR a) ∧ c < d := by
        have h := fol_asc a
        rw [List.pairwise_iff_getElem] at h ⊢
        exact fun i j hi hj hij => ⟨⟨List.getElem_mem hi, List.getElem_mem hj⟩, h i j hi hj hij⟩
      refine this.imp fun {c d} h x hx y hy => ?_
      obtain ⟨u, _, rfl⟩ := List.mem_map.mp hx
      obtain ⟨v, _, rfl⟩ := List.mem_map.mp hy
      exact app_ltL (by rw [(fol_mem.mp h.1.1).len, (fol_mem.mp h.1.2).len]) h.2
  · rw [fol_mem, List.mem_flatMap]
    constructor
    · intro k
      have hl := k.len
      rw [List.length_append] at hl
      have e : d.take a.length ++ d.drop a.length = d := List.take_append_drop _ _
      rw [← e] at k
      obtain ⟨k1, k2⟩ := (keep_join (by rw [List.length_take]; omega) (by rw [List.length_drop]; omega) s).mp k
      exact ⟨_, fol_mem.mpr k1, List.mem_map.mpr ⟨_, fol_mem.mpr k2, e⟩⟩
    · rintro ⟨c, hc, hd⟩
      obtain ⟨u, hu, rfl⟩ := List.mem_map.mp hd
      have k1 := fol_mem.mp hc
      have k2 := fol_mem.mp hu
      exact (keep_join k1.len k2.len s).mpr ⟨k1, k2⟩
theorem fol_one (x : Int) : folR [x] = [[x]] := fol_rest fun p => ⟨fun t => by have := t.1; have := t.2.1; rw [List.length_singleton] at *; omega, fun t => by have := t.1; have := t.2.1; rw [List.length_singleton] at *; omega⟩
theorem fol_snoc {a : List Int} {x : Int} (s : Still a [x]) : folR (a ++ [x]) = (folR a).map (· ++ [x]) := by
  rw [fol_join s, fol_one, List.flatMap_def]
  have : ((folR a).map fun c => [[x]].map (c ++ ·)) = (folR a).map fun c => [c ++ [x]] := List.map_congr_left fun c _ => rfl
  rw [this]
  induction folR a with
  | nil => rfl
  | cons c l ih => rw [List.map_cons, List.flatten_cons, ih]; rfl
end DL
namespace DL
open PySem L2
end DL
namespace DL
open PySem L2
end DL
namespace DL
open PySem L2
theorem still_same {a b : List Int} (h : a ≠ [] → b ≠ [] → nat a ((a.length : Int) - 1) = nat b 0) : Still a b := fun p hp => by
  have l : (a ++ b).length = a.length + b.length := List.length_append
  by_cases ha : a = []
  · have : a.length = 0 := by rw [ha]; rfl
    exact ⟨fun t => by have := t.1; omega, fun t => by have := t.1; omega⟩
  · by_cases hb : b = []
    · have : b.length = 0 := by rw [hb]; rfl
      exact ⟨fun t => by have := t.2.1; omega, fun t => by have := t.2.1; omega⟩
    · have pa := List.length_pos_iff.mpr ha
      have pb := List.length_pos_iff.mpr hb
      have e := h ha hb
      have v1 : nat (a ++ b) ((a.length : Int) - 1) = nat b 0 := by rw [nat_appL (by omega) (by omega), e]
      have v2 : nat (a ++ b) (a.length : Int) = nat b 0 := by
        have := nat_appR (a := a) (b := b) (p := 0) (by omega)
        rw [Int.add_zero] at this
        exact this
      rcases hp with rfl | rfl
      · refine ⟨fun t => ?_, fun t => ?_⟩ <;>
        · have := t.2.2.2
          rw [show (a.length : Int) - 1 + 1 = a.length by omega, v1, v2] at this
          omega
      · refine ⟨fun t => ?_, fun t => ?_⟩ <;>
        · have := t.2.2.1
          rw [v1, v2] at this
          omega
theorem filt_map {α β : Type} {f : α → β} {p : β → Bool} {q : α → Bool} : ∀ {l : List α}, (∀ x ∈ l, p (f x) = q x) → (l.map f).filter p = (l.filter q).map f
  | [], _ => rfl
  | x :: l, h => by
    have ih := filt_map (l := l) fun y hy => h y (List.mem_cons_of_mem _ hy)
    have e := h x (List.mem_cons_self ..)
    rw [List.map_cons, List.filter_cons, List.filter_cons, e, ih]
    split <;> rfl
def vl : List Int → (Nat → Int) → Int
  | [], _ => 0
  | x :: F, φ => x * φ 0 + vl F fun k => φ (k + 1)
end DL
namespace DL
open PySem L2
open PySem.W (dataLe AllAlike Sortable alike alikeAll dataLt)
end DL
namespace DL
open PySem PySem.Spec PyProof PyProof.Rows L2
end DL
namespace DL
open PySem L2
end DL
namespace DL
open PySem L2
/-- c, its end x again, e's end y ahead of e -/
def wdR (x y : Int) (c e : List Int) : List Int := c ++ [x] ++ [y] ++ e
theorem prod_filter {α β γ : Type} {f : α → β → γ} {P : γ → Bool} {P1 : α → Bool} {P2 : β → Bool} {m : List β} : ∀ {l : List α}, (∀ c ∈ l, ∀ e ∈ m, P (f c e) = (P1 c && P2 e)) → ((l.flatMap fun c => m.map (f c)).filter P).length = (l.filter P1).length * (m.filter P2).length
  | [], _ => by simp
  | c :: l, h => by
    have ih := prod_filter (l := l) fun c' hc => h c' (List.mem_cons_of_mem _ hc)
    rw [List.flatMap_cons, List.filter_append, List.length_append, ih, List.filter_cons]
    have e1 : ((m.map (f c)).filter P).length = if P1 c = true then (m.filter P2).length else 0 := by
      rw [filt_map (q := fun e => P1 c && P2 e) fun e he => h c (List.mem_cons_self ..) e he, List.length_map]
      cases P1 c with
      | true => simp
      | false => simp
    rw [e1]
    cases P1 c with
    | true => simp only [if_true, List.length_cons, Nat.succ_mul]; omega
    | false => simp
section
variable {a b c e : List Int} {x y : Int}
theorem wd_lo {p : Int} (h0 : 0 ≤ p) (h1 : p < c.length) : nat (wdR x y c e) p = nat c p := by
  unfold wdR
  rw [List.append_assoc, List.append_assoc]
  exact nat_appL h0 h1
theorem wd_hi {q : Int} (h0 : 0 ≤ q) : nat (wdR x y c e) ((c.length : Int) + 2 + q) = nat e q := by
  have := nat_appR (a := c ++ [x] ++ [y]) (b := e) (p := q) h0
  rw [show ((c ++ [x] ++ [y]).length : Int) = (c.length : Int) + 2 by simp only [List.length_append, List.length_cons, List.length_nil]; omega] at this
  exact this
theorem wd_x : nat (wdR x y c e) (c.length : Int) = x := by
  have := nat_appR (a := c) (b := [x] ++ ([y] ++ e)) (p := 0) (by omega)
  unfold wdR
  rw [List.append_assoc, List.append_assoc]
  rw [Int.add_zero] at this
  rw [this]; rfl
theorem wd_y : nat (wdR x y c e) ((c.length : Int) + 1) = y := by
  have := nat_appR (a := c) (b := [x] ++ ([y] ++ e)) (p := 1) (by omega)
  unfold wdR
  rw [List.append_assoc, List.append_assoc, this]; rfl
end
/-- the ends are those of the rows -/
structure Ends2 (a b : List Int) (x y : Int) : Prop where
  ha : 0 < a.length
  hb : 0 < b.length
  hx : x = nat a ((a.length : Int) - 1)
  hy : y = nat b 0
section
variable {a b c e : List Int} {x y : Int}
theorem Ends2.sL (h : Ends2 a b x y) : Still a [x] := still_same fun _ _ => by rw [h.hx]; rfl
theorem Ends2.sR (h : Ends2 a b x y) : Still [y] b := still_same fun _ _ => by
  have : nat [y] (([y].length : Int) - 1) = y := rfl
  rw [this, h.hy]
theorem Ends2.sM (h : Ends2 a b x y) : Still (a ++ [x]) ([y] ++ b) := fun p hp => by
  have ha := h.ha
  have hb := h.hb
  have l1 : (a ++ [x]).length = a.length + 1 := by rw [List.length_append]; rfl
  have ew : a ++ [x] ++ ([y] ++ b) = wdR x y a b := by unfold wdR; rw [List.append_assoc (a ++ [x])]
  have v1 : nat (wdR x y a b) ((a.length : Int) - 1) = x := by rw [wd_lo (by omega) (by omega), h.hx]
  have v2 : nat (wdR x y a b) (a.length : Int) = x := wd_x
  have v3 : nat (wdR x y a b) ((a.length : Int) + 1) = y := wd_y
  have v4 : nat (wdR x y a b) ((a.length : Int) + 2) = y := by
    have := wd_hi (x := x) (y := y) (c := a) (e := b) (q := 0) (by omega)
    rw [Int.add_zero] at this
    rw [this, h.hy]
  rw [ew]
  rw [l1] at hp
  rcases hp with rfl | rfl
  · refine ⟨fun t => ?_, fun t => ?_⟩ <;>
    · have := t.2.2.1
      rw [show ((a.length + 1 : Nat) : Int) - 1 - 1 = (a.length : Int) - 1 by omega, show ((a.length + 1 : Nat) : Int) - 1 = (a.length : Int) by omega, v1, v2] at this
      omega
  · refine ⟨fun t => ?_, fun t => ?_⟩ <;>
    · have := t.2.2.2
      rw [show ((a.length + 1 : Nat) : Int) + 1 = (a.length : Int) + 2 by omega, show ((a.length + 1 : Nat) : Int) = (a.length : Int) + 1 by omega, v3, v4] at this
      omega
theorem Ends2.keep (h : Ends2 a b x y) (hc : c.length = a.length) (he : e.length = b.length) : Keep (wdR x y a b) (wdR x y c e) ↔ Keep a c ∧ Keep b e := by
  have e1 : ∀ c e : List Int, wdR x y c e = (c ++ [x]) ++ ([y] ++ e) := fun c e => by unfold wdR; rw [List.append_assoc (c ++ [x])]
  rw [e1, e1, keep_join (by simp only [List.length_append, hc]) (by simp only [List.length_append, he]) h.sM, keep_join hc rfl h.sL, keep_join rfl he h.sR]
  constructor
  · rintro ⟨⟨k1, _⟩, _, k2⟩
    exact ⟨k1, k2⟩
  · rintro ⟨k1, k2⟩
    exact ⟨⟨k1, Keep.refl _⟩, Keep.refl _, k2⟩
theorem Ends2.fol (h : Ends2 a b x y) : folR (wdR x y a b) = (folR a).flatMap fun c => (folR b).map (wdR x y c) := by
  have e1 : wdR x y a b = (a ++ [x]) ++ ([y] ++ b) := by unfold wdR; rw [List.append_assoc (a ++ [x])]
  have f2 : folR ([y] ++ b) = (folR b).map ([y] ++ ·) := by
    rw [fol_join h.sR, fol_one]
    simp
  rw [e1, fol_join h.sM, fol_snoc h.sL, f2, List.flatMap_map]
  congr 1
  funext c
  rw [List.map_map]
  refine List.map_congr_left fun e _ => ?_
  show c ++ [x] ++ ([y] ++ e) = wdR x y c e
  unfold wdR
  rw [List.append_assoc (c ++ [x])]
theorem Ends2.len (h : Ends2 a b x y) : (folR (wdR x y a b)).length = (folR a).length * (folR b).length := by
  have := prod_filter (f := wdR x y) (P := fun _ => true) (P1 := fun _ => true) (P2 := fun _ => true) (l := folR a) (m := folR b) fun _ _ _ _ => rfl
  rw [List.filter_eq_self.mpr fun _ _ => rfl, List.filter_eq_self.mpr fun _ _ => rfl, List.filter_eq_self.mpr fun _ _ => rfl] at this
  rw [h.fol]; exact this
end
end DL
namespace DL
open PySem L2
end DL
namespace DL
open PySem PySem.Spec PyProof.Rows L2
end DL
namespace DL
open PySem PySem.Spec PyProof PyProof.Rows L2
end DL
namespace DL
open PySem PySem.Spec PyProof PyProof.Rows L2
open PySem.W (dataLe AllAlike EachIs dataLt)
section
variable {prog : Program} {w : World}
theorem meets_valuesR (d : Addr) (hd : (d == sysModules) = false) :
    MeetsIn prog w (Builtin.«dict.values» ⟨[.ref d], []⟩) (fun _ R s => s.TypeIs (.ref d) "dict" ∧
      R (.ok (.ret (.ref s.heap.objs.size))) { s with heap := s.heap.push { cls := .type "dict_values", data := .fields #[.ref d] } }) :=
  .of_wp fun A R s ⟨hm, h⟩ => by
    refine wpAny_bind ?_
    unfold Builtin.Dict.noArgs
    refine wpAny_bind (wpAny_notOrdered_dict hm ?_)
    show wpAny _ _ (pure d) _ _ s
    refine wpAny_pure ?_
    show wpAny _ _ (Builtin.Dict.showsAll d >>= _) _ _ s
    unfold Builtin.Dict.showsAll
    rw [if_neg (by rw [hd]; exact Bool.false_ne_true)]
    refine wpAny_bind (wpAny_pure ?_)
    exact wpAny_bind (wpAny_newObj_type (wpAny_pure ⟨_, rfl, h⟩))
end
section
variable {X : Cx} {K : PySem.W.Frag} {te : TE}
theorem er_vals : ∀ {kvs : List (KK × V × V)} {es : List DictEntry} {ns : List Int}, Paired ER kvs es → (kvs.map fun z => z.2.2) = ns.map V.int → EachIs (fun (u : Value) (n : Int) => ∃ t, u = .int n t) (es.map (·.val)) ns
  | _, _, [], .nil, _ => .nil
  | _, _, n :: ns, .nil, h => by cases h
  | _, _, [], .cons _ _, h => by cases h
  | _, _, n :: ns, .cons (a := z) (b := e) r t, h => by
    rw [List.map_cons, List.map_cons] at h
    injection h with h1 h2
    refine .cons ?_ (er_vals t h2)
    have := r.2.2
    rw [h1] at this
    exact this
theorem int_vals : ∀ {us : List Value} {ns : List Int}, EachIs (fun (u : Value) (n : Int) => ∃ t, u = .int n t) us ns → Vals (ns.map V.int) us
  | _, _, .nil => .nil
  | _, _, .cons h t => .cons h (int_vals t)
theorem alike_int (ns : List Int) : AllAlike (ns.map PyData.int) ∧ PySem.W.Sortable (ns.map PyData.int) := by
  refine ⟨fun d hd e he => ?_, .inr fun d hd => ?_⟩
  · obtain ⟨i, _, rfl⟩ := List.mem_map.mp hd
    obtain ⟨j, _, rfl⟩ := List.mem_map.mp he
    rfl
  · obtain ⟨i, _, rfl⟩ := List.mem_map.mp hd
    exact ⟨fun z => (nomatch z), fun xs z => (nomatch z)⟩
def tSrtVals (td : TE) : TE := fun σ H Q => td σ H fun x H1 => ∃ (a : Addr) (kvs : List (KK × V × V)) (ns : List Int), x = V.ref a ∧ IsDc H1 a kvs ∧ (kvs.map fun z => z.2.2) = ns.map V.int ∧ ∀ p, H1 p = none → Q (.ref p) (upd H1 p (.lst ((ns.mergeSort (dataLe false PyData.int)).map V.int)))
variable {o : Expr} {p pos apos mpos : Pos} {td : TE} {n : Nat}
theorem pe_srtVals (hr : Room n X.A) (hc : X.calm = true) (hg : Gl X "sorted") (hm : X.mg "sorted" = none) (hd : PE X o td) (hbase : attributeBase o "values" X.env (eval o X.env) = eval o X.env := by rfl) (hline : (apos.endLine == mpos.line) = true := by rfl)
    (hse : starEach [Expr.Call (.Attribute o "values" apos) [] [] mpos] X.env = [(false, eval (Expr.Call (.Attribute o "values" apos) [] [] mpos) X.env)] := by rfl) :
    PE X (.Call (.Name "sorted" p) [.Call (.Attribute o "values" apos) [] [] mpos] [] pos) (tSrtVals td) := by
  refine ⟨fun pins s σ H Q I h => ?_⟩
  refine wpAny_Call_Name_kw (ld_blt I hg hm (u := .builtin "sorted") (by first | rfl | decide +kernel) ?_ (by first | decide +kernel | decide) (by first | decide +kernel | decide))
  rw [hse]
  refine PySem.callWith_builtin1 (wpAny_Call_method0_late hbase hline (thn (hd.run pins s σ H _ I h) fun v s1 ⟨x, H1, I1, r1, a, kvs, ns, ex, ha, hv, q⟩ => ?_))
  subst ex
  obtain rfl : v = Value.ref a := r1
  obtain ⟨⟨ob, es, ep, h1, h2, h3, h4⟩, hsys, hz, _⟩ := dc_at I1.hok ha
  have hu := hr.un
  have hlen : kvs.length = es.size := by rw [Paired.length h4, Array.length_toList]
  refine ⟨"dict", "dict.values", F.plainAttrs_dict, F.slot_dict_values, F.type_dict_values, ⟨ob, h1, h2.1⟩, fun b e => ?_, Calls.callWith_builtin rfl (PySem.evalArgs_none ?_)⟩
  · cases e
    exact ⟨ob, h1, h2.2.1⟩
  refine call_meetsIn F.slot_dict_values ⟨ob, h1, h2.1⟩ F.entry_dict_values (F.args_dict_values_1 _) (meets_valuesR a hsys) ⟨⟨ob, h1, h2.1⟩, ?_⟩
  have k1 : ∀ b u, s1.heap.get? b = some u → (s1.heap.push { cls := .type "dict_values", data := .fields #[.ref a] }).get? b = some u := fun b u e => Heap.get?_push_of_some _ e
  have ev := er_vals h4 hv
  have ln : (es.toList.map (·.val)).length = ns.length := ev.length
  rw [List.length_map, Array.length_toList] at ln
  refine DLX.sorted_gen (enc := PyData.int) ev (ev.mono fun u i ⟨t, e⟩ => ⟨[], by rw [e]; exact .int i t⟩) (.inr (alike_int ns)) (by omega) (fun b _ => by show X.A.units + 3 + _ < cLine; simp only [PyData.depth]; omega) (fun Q' E' hq => ?_) fun h' tk p out hp kp ⟨m, hm⟩ eo => ?_
  · refine PySem.W.kdu_collect (A := X.A.in1) (PySem.KdlSrc.rawValues (es := es) (ep := ep) (d := a)) (I1.ok.hd hc) ⟨⟨_, Heap.get?_push_size _ rfl, rfl, rfl⟩, ⟨ob, k1 _ _ h1, h2, h3⟩⟩ (by omega) fun h' tk acc kp hacc => ?_
    have ea : acc.toList = es.toList.map (·.val) := by
      apply List.ext_getElem?
      intro j
      rw [List.getElem?_map]
      by_cases hj : j < es.size
      · have hj2 : j < acc.size := by rw [hacc.1]; exact hj
        obtain ⟨hi, ev⟩ := hacc.2 j acc[j] (by simp [hj2])
        simp [hj, hj2, ev]
      · have hj2 : ¬ j < acc.size := by rw [hacc.1]; exact hj
        simp [hj, hj2]
    rw [ea]
    exact hq h' tk kp
  · have hp1 : s1.heap.get? p = none := by
      cases e : s1.heap.get? p with
      | none => rfl
      | some u => rw [k1 _ _ e] at hp; cases hp
    have hl : ((ns.mergeSort (dataLe false PyData.int)).map V.int).length ≤ sizeLine := by rw [List.length_map, (List.mergeSort_perm _ _).length_eq]; omega
    exact ⟨.ref p, _, I1.laidN (t' := tk) (fun b u e => kp b u (k1 b u e)) hp1 (hok_none I1.hok hp1) (show ObjOk X.prog X.w _ h' _ (.lst _) from ⟨hl, out, m, int_vals eo, hm⟩), rfl, q _ (hok_none I1.hok hp1)⟩
def srtV (ns : List Int) : List Int := ns.mergeSort (dataLe false PyData.int)
theorem srtV_eq (ns : List Int) : srtV ns = srtI ns := by
  unfold srtV
  refine srt_unique (List.mergeSort_perm _ _) ?_
  have pw := PySem.W.sort_pairwise (PySem.W.sortLe_total (PyProof.Rows.listOrd PyProof.Rows.itemOrd) false fun b : Int => PySem.W.keyToks (PyData.int b)) ns
  have pw : (ns.mergeSort (dataLe false PyData.int)).Pairwise fun b c => dataLe false PyData.int b c = true := pw
  refine pw.imp fun {b c} h => ?_
  have h : (!dataLt (.int c) (.int b)) = true := h
  rw [PySem.W.dataLt_int, Bool.not_eq_true', decide_eq_false_iff_not] at h
  omega
def sortVD : D → Option (List D)
  | .dict ((.dict [], .none) :: kds) => (intsOf (kds.map (·.2))).map fun ns => (srtI ns).map .int
  | _ => none
theorem rpK_vals {Z : Hp} : ∀ {kvs : List (KK × V × V)} {kds : List (D × D)}, RpK K Z kvs kds → RpA K Z (kvs.map fun z => z.2.2) (kds.map (·.2))
  | _, _, .nil => .nil
  | _, _, .cons _ _ h r => .cons h (rpK_vals r)
def eSrtVals (g : GE) (ρ : Rho) : R (List D) := (g ρ).bind fun d ρ1 => R.lift (sortVD d) ρ1
theorem df_srtVals {g : GE} (h : DE K te g) : DF K (tSrtVals te) (eSrtVals g) := fun b0 B Z0 Z H σ ρ ds ρ' Q ok e q => by
  obtain ⟨d, ρ1, e1, e⟩ := R.bind_ok e
  obtain ⟨e2, rfl⟩ := R.lift_ok e
  unfold sortVD at e2
  split at e2
  · rename_i kds
    obtain ⟨ns, hn, rfl⟩ := Option.map_eq_some_iff.mp e2
    refine h b0 B Z0 Z H σ ρ _ _ _ ok e1 fun v H1 Z1 ok1 s1 r1 => ?_
    cases r1 with
    | dct hd rk =>
      have rv := rpK_vals rk
      rw [intsOf_eq hn] at rv
      refine ⟨_, _, ns, rfl, ⟨_, ok1.zh _ _ hd⟩, RpA.of_ints rv, fun p hp => ?_⟩
      obtain ⟨okf, zf, bf, af⟩ := ok1.fresh (o := .lst _) hp
      refine q p _ _ Z1 okf s1 zf bf af upd_same ?_
      show RpA K Z1 ((srtV ns).map V.int) _
      rw [srtV_eq]
      exact RpA.ints _
  · cases e2
end
end DL
namespace W
open PySem L2 DL
def topS (i : Nat) : Stmt := PySem.Challenge.pw_middlecall_k11_spheres.main.body.getD i (.Pass ⟨0, 0, 0, 0⟩)
abbrev s__law_box : Stmt := topS 16
abbrev N__law_box : List Str := ["_law_script", "_law_k", "_law_cell"]
theorem sc__law_box : FnScope N__law_box ["_law_script", "_law_k"] (defScope s__law_box) := ⟨rfl, rfl, rfl, by decide +kernel, rfl, by decide +kernel, by decide +kernel⟩
def g__law_box : GS :=
    (sSeq (sSet 2 (eIf (tstE (eOp2 ltD (oE (eV 1)) (oE (eApp lenD (aCons (oE (eV 0)) aNil))))) (eOp2 ixD (oE (eV 0)) (oE (eV 1))) (eC (.int 0))))
    (sRetF (eSeq (aCons (oE (eOp2 mulV (oE (eApp absD (aCons (oE (eV 2)) aNil))) (oE (eApp intD (aCons (oE (eOp2 geD (oE (eApp absD (aCons (oE (eV 2)) aNil))) (oE (eOp2 powD (oE (eC (.int 10))) (oE (eC (.int 18))))))) aNil))))) (aCons (oE (eOp2 addU (oE (eOp2 addU (oE (eOp2 modD (oE (eV 2)) (oE (eC (.int 2305843009213693951))))) (oE (eOp2 mulV (oE (eC (.int 7919))) (oE (eV 1)))))) (oE (eC (.int 65))))) (aCons (oE (eC (.int 0))) aNil))))))
def F__law_box : List D → Option (List D) := callF 2 3 g__law_box
abbrev s__law_cells : Stmt := topS 18
abbrev N__law_cells : List Str := ["_law_script", "_law_most", "_law_cells_here", "_law_k", "_law_cell"]
theorem sc__law_cells : FnScope N__law_cells ["_law_script", "_law_most"] (defScope s__law_cells) := ⟨rfl, rfl, rfl, by decide +kernel, rfl, by decide +kernel, by decide +kernel⟩
def gb__law_cells_1 : GS :=
    (sPutIx 2 (eOp2 modD (oE (eV 3)) (oE (eV 1))) (eOp2 addU (oE (eOp2 ixD (oV 2) (oE (eOp2 modD (oE (eV 3)) (oE (eV 1)))))) (oE (eOp2 mulV (oE (eV 4)) (oE (eOp2 addU (oE (eV 3)) (oE (eC (.int 2)))))))))
def g__law_cells : GS :=
    (sSeq (sSetO 2 (eApp listD (aCons (oE (eSl sliceU (oE (eV 0)) pNo (pSo (eV 1)))) aNil)))
    (sSeq (sFor (eCall enum1D (aCons (oE (eSl sliceU (oE (eV 0)) (pSo (eV 1)) (pSo (eC (.int 63))))) aNil)) (gT 2 (gsCons (gN 3) (gsCons (gN 4) gsNil))) gb__law_cells_1)
    (sFz 2 (sRet (eIf (tstE (eOp2 neW (oE (eV 2)) (oE (eL (eSeq aNil))))) (eV 2) (eL (eSeq (aCons (oE (eC (.int 0))) aNil))))))))
def F__law_cells : List D → Option D := callP 2 5 g__law_cells
abbrev s__law_mid : Stmt := topS 23
abbrev N__law_mid : List Str := ["_law_line", "_law_at"]
theorem sc__law_mid : FnScope N__law_mid ["_law_line", "_law_at"] (defScope s__law_mid) := ⟨rfl, rfl, rfl, by decide +kernel, rfl, by decide +kernel, by decide +kernel⟩
def g__law_mid : GS :=
    (sSeq (sIf (tOrG (tstE (eOp2 eqW (oE (eV 1)) (oE (eC (.int 0))))) (tstE (eOp2 eqW (oE (eV 1)) (oE (eOp2 subD (oE (eApp lenD (aCons (oE (eV 0)) aNil))) (oE (eC (.int 1)))))))) (sRet (eOp2 ixD (oE (eV 0)) (oE (eV 1))))
    sNext)
    (sRet (eOp2 ixD (oE (eL (eApp sortedD (aCons (oE (eSl sliceU (oE (eV 0)) (pSo (eOp2 subD (oE (eV 1)) (oE (eC (.int 1))))) (pSo (eOp2 addU (oE (eV 1)) (oE (eC (.int 2))))))) aNil)))) (oE (eC (.int 1))))))
def F__law_mid : List D → Option D := callP 2 2 g__law_mid
abbrev s__law_call : Stmt := topS 24
abbrev N__law_call : List Str := ["_law_line", "_law_at"]
theorem sc__law_call : FnScope N__law_call ["_law_line", "_law_at"] (defScope s__law_call) := ⟨rfl, rfl, rfl, by decide +kernel, rfl, by decide +kernel, by decide +kernel⟩
def g__law_call : GS :=
    (sRet (eOp2 addU (oE (eOp2 addU (oE (eSl sliceU (oE (eV 0)) pNo (pSo (eV 1)))) (oE (eT (eSeq (aCons (oE (eCall F__law_mid (aCons (oE (eV 0)) (aCons (oE (eV 1)) aNil)))) aNil)))))) (oE (eSl sliceU (oE (eV 0)) (pSo (eOp2 addU (oE (eV 1)) (oE (eC (.int 1))))) pNo))))
def F__law_call : List D → Option D := callP 2 2 g__law_call
abbrev s__law_layers : Stmt := topS 25
abbrev N__law_layers : List Str := ["_law_line", "_law_found", "_law_layer", "_law_further", "_law_here", "_law_at", "_law_there"]
theorem sc__law_layers : FnScope N__law_layers ["_law_line"] (defScope s__law_layers) := ⟨rfl, rfl, rfl, by decide +kernel, rfl, by decide +kernel, by decide +kernel⟩
def gb__law_layers_1 : GS :=
    (sSeq (sSet 6 (eCall F__law_call (aCons (oE (eV 4)) (aCons (oE (eV 5)) aNil))))
    (sIf (tstE (eOp2 dNotInD (oE (eV 6)) (oV 1))) (sSeq (sPutD 1 (eV 6) (eOp2 addU (oE (eOp2 dGetD (oV 1) (oE (eV 4)))) (oE (eC (.int 1)))))
    (sApp 3 (eV 6)))
    sNext))
def gb__law_layers_2 : GS :=
    (sFor (eCall rng2 (aCons (oE (eC (.int 1))) (aCons (oE (eOp2 subD (oE (eApp lenD (aCons (oE (eV 4)) aNil))) (oE (eC (.int 1))))) aNil))) (gN 5) gb__law_layers_1)
def wt__law_layers_3 : GT :=
    (tstE (eOp2 neW (oE (eV 2)) (oE (eL (eSeq aNil)))))
def gb__law_layers_4 : GS :=
    (sSeq (sSetO 3 (eSeq aNil))
    (sSeq (sFor (gSeq (eV 2)) (gN 4) gb__law_layers_2)
    (sFz 3 (sSet 2 (eV 3)))))
def g__law_layers : GS :=
    (sSeq (sParD 1 2 (eDisp (eV 0) (eC (.int 0))) (nS (eL (eSeq (aCons (oE (eV 0)) aNil)))))
    (sSeq (whileL wt__law_layers_3 gb__law_layers_4 1000)
    (sFz 1 (sRet (eV 1)))))
def F__law_layers : List D → Option D := callP 1 7 g__law_layers
abbrev s__law_take : Stmt := topS 17
abbrev N__law_take : List Str := ["_law_box_here", "_law_span", "_law_once", "_law_found"]
theorem sc__law_take : FnScope N__law_take ["_law_box_here", "_law_span"] (defScope s__law_take) := ⟨rfl, rfl, rfl, by decide +kernel, rfl, by decide +kernel, by decide +kernel⟩
def g__law_take (Frec : List D → List D → Option (D × List D)) : GS :=
    (sSeq (sIf (tstE (eOp2 gtD (oE (eOp2 ixD (oV 0) (oE (eC (.int 0))))) (oE (eC (.int 0))))) (sSeq (sSet 3 (eOp2 modD (oE (eOp2 ixD (oV 0) (oE (eC (.int 0))))) (oE (eV 1))))
    (sSeq (sPutIx 0 (eC (.int 0)) (eOp2 fdivD (oE (eOp2 ixD (oV 0) (oE (eC (.int 0))))) (oE (eV 1))))
    (sRet (eV 3))))
    sNext)
    (sSeq (sIf (tstE (eOp2 gtD (oE (eV 1)) (oE (eOp2 powD (oE (eC (.int 10))) (oE (eC (.int 7))))))) (sRet (eOp2 modD (oE (eOp2 addU (oE (eCallB Frec 0 (aCons (oE (eOp2 powD (oE (eC (.int 10))) (oE (eC (.int 7))))) aNil))) (oE (eOp2 mulV (oE (eOp2 powD (oE (eC (.int 10))) (oE (eC (.int 7))))) (oE (eCallB Frec 0 (aCons (oE (eOp2 addU (oE (eOp2 fdivD (oE (eOp2 subD (oE (eV 1)) (oE (eC (.int 1))))) (oE (eOp2 powD (oE (eC (.int 10))) (oE (eC (.int 7))))))) (oE (eC (.int 1))))) aNil))))))) (oE (eV 1))))
    sNext)
    (sSeq (sPutIx 0 (eC (.int 2)) (eOp2 addU (oE (eOp2 ixD (oV 0) (oE (eC (.int 2))))) (oE (eC (.int 1)))))
    (sSeq (sSet 2 (eOp2 modD (oE (eOp2 powD (oE (eOp2 addU (oE (eOp2 ixD (oV 0) (oE (eC (.int 1))))) (oE (eOp2 mulV (oE (eC (.int 39373))) (oE (eOp2 ixD (oV 0) (oE (eC (.int 2))))))))) (oE (eC (.int 5))))) (oE (eC (.int 2147483647)))))
    (sRet (eOp2 modD (oE (eOp2 fdivD (oE (eOp2 modD (oE (eOp2 addU (oE (eOp2 mulV (oE (eV 2)) (oE (eOp2 addU (oE (eOp2 modD (oE (eV 2)) (oE (eC (.int 40009))))) (oE (eC (.int 7))))))) (oE (eOp2 mulV (oE (eOp2 ixD (oV 0) (oE (eC (.int 2))))) (oE (eC (.int 7919))))))) (oE (eC (.int 2147483629))))) (oE (eC (.int 64))))) (oE (eV 1))))))))
def F__law_take : Nat → List D → List D → Option (D × List D)
  | 0 => fun _ _ => none
  | n + 1 => callB 2 4 (g__law_take (F__law_take n))
theorem Fl__law_take : ∀ (n : Nat) b ds d, F__law_take n b ds = some d → ds.length + 1 = 2
  | 0, b, ds, d, h => nomatch h
  | n + 1, b, ds, d, h => callB_len b ds d h
abbrev s__law_of : Stmt := topS 19
abbrev N__law_of : List Str := ["_law_box_here", "_law_some"]
theorem sc__law_of : FnScope N__law_of ["_law_box_here", "_law_some"] (defScope s__law_of) := ⟨rfl, rfl, rfl, by decide +kernel, rfl, by decide +kernel, by decide +kernel⟩
def g__law_of : GS :=
    (sRet (eOp2 ixD (oE (eV 1)) (oE (eCallB (F__law_take 8) 0 (aCons (oE (eApp lenD (aCons (oE (eV 1)) aNil))) aNil)))))
def F__law_of : List D → List D → Option (D × List D) := callB 2 2 g__law_of
abbrev s__law_random_line : Stmt := topS 22
abbrev N__law_random_line : List Str := ["_law_box_here", "_law_most", "_law_top", "_law_way", "_law_found", "_law_turn", "_law_spot"]
theorem sc__law_random_line : FnScope N__law_random_line ["_law_box_here", "_law_most", "_law_top"] (defScope s__law_random_line) := ⟨rfl, rfl, rfl, by decide +kernel, rfl, by decide +kernel, by decide +kernel⟩
def gb__law_random_line_1 : GS :=
    (sSeq (sSet 6 (eOp2 subD (oE (eCallB (F__law_take 8) 0 (aCons (oE (eOp2 addU (oE (eOp2 mulV (oE (eC (.int 2))) (oE (eV 2)))) (oE (eC (.int 1))))) aNil))) (oE (eV 2))))
    (sSeq (sIf (tstE (eOp2 ltD (oE (eV 3)) (oE (eC (.int 2))))) (sSet 6 (eOp2 addU (oE (eOp2 mulV (oE (eCallB (F__law_take 8) 0 (aCons (oE (eApp max2D (aCons (oE (eC (.int 2))) (aCons (oE (eV 2)) aNil)))) aNil))) (oE (eOp2 subD (oE (eC (.int 1))) (oE (eOp2 mulV (oE (eC (.int 2))) (oE (eOp2 modD (oE (eV 5)) (oE (eC (.int 2))))))))))) (oE (eV 3))))
    sNext)
    (sSeq (sIf (tAndG (tstE (eOp2 eqW (oE (eV 3)) (oE (eC (.int 2))))) (tAndG (tstE (eOp2 neW (oV 4) (oE (eL (eSeq aNil))))) (tstE (eOp2 eqW (oE (eCallB (F__law_take 8) 0 (aCons (oE (eC (.int 3))) aNil))) (oE (eC (.int 0))))))) (sSet 6 (eOp2 ixD (oV 4) (oE (eCallB (F__law_take 8) 0 (aCons (oE (eApp lenD (aCons (oV 4) aNil))) aNil)))))
    sNext)
    (sApp 4 (eV 6)))))
def g__law_random_line : GS :=
    (sSeq (sPar 3 4 (nS (eCallB (F__law_take 8) 0 (aCons (oE (eC (.int 4))) aNil))) (nF (eSeq aNil)))
    (sSeq (sFor (eCall rng1 (aCons (oE (eCallB (F__law_take 8) 0 (aCons (oE (eOp2 addU (oE (eV 1)) (oE (eC (.int 1))))) aNil))) aNil)) (gN 5) gb__law_random_line_1)
    (sRet (eApp tupleD (aCons (oV 4) aNil)))))
def F__law_random_line : List D → List D → Option (D × List D) := callB 3 7 g__law_random_line
abbrev s__law_ratio : Stmt := topS 21
abbrev N__law_ratio : List Str := ["_law_above", "_law_under", "_law_low", "_law_high"]
theorem sc__law_ratio : FnScope N__law_ratio ["_law_above", "_law_under"] (defScope s__law_ratio) := ⟨rfl, rfl, rfl, by decide +kernel, rfl, by decide +kernel, by decide +kernel⟩
def wt__law_ratio_1 : GT :=
    (tstE (eOp2 gtD (oE (eV 3)) (oE (eC (.int 0)))))
def gb__law_ratio_2 : GS :=
    (sPar 2 3 (nS (eV 3)) (nS (eOp2 modD (oE (eV 2)) (oE (eV 3)))))
def g__law_ratio : GS :=
    (sSeq (sPar 2 3 (nS (eV 0)) (nS (eV 1)))
    (sSeq (whileL wt__law_ratio_1 gb__law_ratio_2 1000)
    (sRet (eT (eSeq (aCons (oE (eOp2 fdivD (oE (eV 0)) (oE (eV 2)))) (aCons (oE (eOp2 fdivD (oE (eV 1)) (oE (eV 2)))) aNil)))))))
def F__law_ratio : List D → Option D := callP 2 4 g__law_ratio
abbrev s__law_same : Stmt := topS 20
abbrev N__law_same : List Str := ["_law_found", "_law_due", "_law_mine", "_law_its"]
theorem sc__law_same : FnScope N__law_same ["_law_found", "_law_due"] (defScope s__law_same) := ⟨rfl, rfl, rfl, by decide +kernel, rfl, by decide +kernel, by decide +kernel⟩
def ce__law_same_1 (Frec : List D → Option D) : GE :=
    (eCall Frec (aCons (oE (eV 2)) (aCons (oE (eV 3)) aNil)))
def g__law_same (Frec : List D → Option D) : GS :=
    (sSeq (sIf (tstE (eOp1 (isiTD ["list", "tuple"]) (oE (eV 1)))) (sSeq (sIf (tOrG (tstE (eOp2 neW (oE (eOp1 (isiD "list") (oE (eV 0)))) (oE (eOp1 (isiD "list") (oE (eV 1)))))) (tstE (eOp2 neW (oE (eOp1 (isiD "tuple") (oE (eV 0)))) (oE (eOp1 (isiD "tuple") (oE (eV 1))))))) (sRet (eC (.bool false)))
    sNext)
    (sRet (eAndG (eOp2 eqW (oE (eApp lenD (aCons (oE (eV 0)) aNil))) (oE (eApp lenD (aCons (oE (eV 1)) aNil)))) (eApp allD (aCons (oE (eL (eLc [2, 3] (eCall zip2D (aCons (oE (eV 0)) (aCons (oE (eV 1)) aNil))) (gT 2 (gsCons (gN 2) (gsCons (gN 3) gsNil))) gYes (ce__law_same_1 Frec)))) aNil)))))
    sNext)
    (sSeq (sIf (tOrG (tstE (eOp2 isD (oE (eV 1)) (oE (eC .none)))) (tstE (eOp1 (isiTD ["str", "bool"]) (oE (eV 1))))) (sRet (eAndG (eOp2 eqW (oE (eV 0)) (oE (eV 1))) (eAndG (eOp2 eqW (oE (eOp1 (isiD "bool") (oE (eV 0)))) (oE (eOp1 (isiD "bool") (oE (eV 1))))) (eOp2 eqW (oE (eOp2 isD (oE (eV 0)) (oE (eC .none)))) (oE (eOp2 isD (oE (eV 1)) (oE (eC .none))))))))
    sNext)
    (sRet (eAndG (eOp1 (isiD "int") (oE (eV 0))) (eAndG (eNotG (eOp1 (isiD "bool") (oE (eV 0)))) (eOp2 eqW (oE (eV 0)) (oE (eV 1))))))))
def F__law_same : Nat → List D → Option D
  | 0 => fun _ => none
  | n + 1 => callP 2 4 (g__law_same (F__law_same n))
theorem Fl__law_same : ∀ (n : Nat) ds d, F__law_same n ds = some d → ds.length = 2
  | 0, ds, d, h => nomatch h
  | n + 1, ds, d, h => callP_len ds d h
abbrev s_add_up : Stmt := topS 10
abbrev N_add_up : List Str := ["target", "steps", "more", "many", "rows"]
theorem sc_add_up : FnScope N_add_up ["target", "steps", "more"] (defScope s_add_up) := ⟨rfl, rfl, rfl, by decide +kernel, rfl, by decide +kernel, by decide +kernel⟩
abbrev s_free_wish : Stmt := topS 9
abbrev N_free_wish : List Str := ["row"]
theorem sc_free_wish : FnScope N_free_wish ["row"] (defScope s_free_wish) := ⟨rfl, rfl, rfl, by decide +kernel, rfl, by decide +kernel, by decide +kernel⟩
def g_free_wish : GS :=
    (sRetF (eOp2 repL (oE (eL (eSeq (aCons (oE (eC .none)) aNil)))) (oE (eApp lenD (aCons (oE (eV 0)) aNil)))))
def F_free_wish : List D → Option (List D) := callF 1 1 g_free_wish
abbrev s_parted : Stmt := topS 6
abbrev N_parted : List Str := ["row", "place", "state", "option", "calm", "before", "stays", "came", "wide", "number", "changes", "turn"]
theorem sc_parted : FnScope N_parted ["row", "place", "state", "option", "calm"] (defScope s_parted) := ⟨rfl, rfl, rfl, by decide +kernel, rfl, by decide +kernel, by decide +kernel⟩
def g_parted : GS :=
    (sSeq (sTo (eT (eSeq (aCons (oE (eV 2)) (aCons (oE (eV 3)) aNil)))) (gT 2 (gsCons (gT 4 (gsCons (gN 5) (gsCons (gN 6) (gsCons (gN 7) (gsCons (gN 8) gsNil))))) (gsCons (gT 2 (gsCons (gN 9) (gsCons (gN 10) gsNil))) gsNil))))
    (sSeq (sIf (tOrG (tNotG (tstE (eV 6))) (tOrG (tstE (eOp2 eqW (oE (eOp2 ixD (oE (eV 0)) (oE (eOp2 subD (oE (eV 1)) (oE (eC (.int 1))))))) (oE (eOp2 ixD (oE (eV 0)) (oE (eV 1)))))) (tstE (eOp2 neW (oE (eOp2 ltD (oE (eOp2 ixD (oE (eV 0)) (oE (eOp2 subD (oE (eV 1)) (oE (eC (.int 1))))))) (oE (eOp2 ixD (oE (eV 0)) (oE (eV 1)))))) (oE (eOp2 ltD (oE (eV 5)) (oE (eV 9)))))))) (sRet (eC .none))
    sNext)
    (sSeq (sSet 11 (eIf (tstE (eOp2 ltD (oE (eV 5)) (oE (eV 9)))) (eC (.int 1)) (eOp1 negD (oE (eC (.int 1))))))
    (sSeq (sIf (tAndG (tstE (eV 4)) (tAndG (tNotG (tstE (eV 8))) (tstE (eOp2 notInD (oE (eV 7)) (oE (eT (eSeq (aCons (oE (eC (.int 0))) (aCons (oE (eV 11)) aNil))))))))) (sRet (eC .none))
    sNext)
    (sRet (eT (eSeq (aCons (oE (eV 9)) (aCons (oE (eNotG (eV 10))) (aCons (oE (eIf (tstE (eV 4)) (eV 11) (eC (.int 0)))) (aCons (oE (eC (.bool false))) aNil)))))))))))
def F_parted : List D → Option D := callP 5 12 g_parted
abbrev s_next_state : Stmt := topS 7
abbrev N_next_state : List Str := ["row", "place", "state", "option", "calm"]
theorem sc_next_state : FnScope N_next_state ["row", "place", "state", "option", "calm"] (defScope s_next_state) := ⟨rfl, rfl, rfl, by decide +kernel, rfl, by decide +kernel, by decide +kernel⟩
def g_next_state : GS :=
    (sSeq (sIf (tstE (eOp2 isD (oE (eV 2)) (oE (eC .none)))) (sRet (eT (eSeq (aCons (oE (eOp2 ixD (oE (eV 3)) (oE (eC (.int 0))))) (aCons (oE (eNotG (eOp2 ixD (oE (eV 3)) (oE (eC (.int 1)))))) (aCons (oE (eC (.int 0))) (aCons (oE (eC (.bool false))) aNil)))))))
    sNext)
    (sSeq (sIf (tstE (eOp2 eqW (oE (eOp2 ixD (oE (eV 3)) (oE (eC (.int 0))))) (oE (eOp2 ixD (oE (eV 2)) (oE (eC (.int 0))))))) (sRet (eT (eSeq (aCons (oE (eOp2 ixD (oE (eV 2)) (oE (eC (.int 0))))) (aCons (oE (eOrG (eOp2 ixD (oE (eV 2)) (oE (eC (.int 1)))) (eNotG (eOp2 ixD (oE (eV 3)) (oE (eC (.int 1))))))) (aCons (oE (eOp2 ixD (oE (eV 2)) (oE (eC (.int 2))))) (aCons (oE (eV 4)) aNil)))))))
    sNext)
    (sRet (eCall F_parted (aCons (oE (eV 0)) (aCons (oE (eV 1)) (aCons (oE (eV 2)) (aCons (oE (eV 3)) (aCons (oE (eV 4)) aNil)))))))))
def F_next_state : List D → Option D := callP 5 5 g_next_state
abbrev s_inner : Stmt := topS 1
abbrev N_inner : List Str := ["row"]
theorem sc_inner : FnScope N_inner ["row"] (defScope s_inner) := ⟨rfl, rfl, rfl, by decide +kernel, rfl, by decide +kernel, by decide +kernel⟩
def g_inner : GS :=
    (sRetF (eRg2 (eC (.int 1)) (eOp2 subD (oE (eApp lenD (aCons (oE (eV 0)) aNil))) (oE (eC (.int 1))))))
def F_inner : List D → Option (List D) := callF 1 1 g_inner
abbrev s_dips : Stmt := topS 3
abbrev N_dips : List Str := ["row", "person"]
theorem sc_dips : FnScope N_dips ["row"] (defScope s_dips) := ⟨rfl, rfl, rfl, by decide +kernel, rfl, by decide +kernel, by decide +kernel⟩
def ct_dips_1 : GT :=
    (tstE (eChain gtD ltD (oE (eOp2 ixD (oE (eV 0)) (oE (eOp2 subD (oE (eV 1)) (oE (eC (.int 1))))))) (oE (eOp2 ixD (oE (eV 0)) (oE (eV 1)))) (oE (eOp2 ixD (oE (eV 0)) (oE (eOp2 addU (oE (eV 1)) (oE (eC (.int 1)))))))))
def ce_dips_2 : GE :=
    (eV 1)
def g_dips : GS :=
    (sRetF (eLc [1] (gSeq (eL (eCall F_inner (aCons (oE (eV 0)) aNil)))) (gN 1) ct_dips_1 ce_dips_2))
def F_dips : List D → Option (List D) := callF 1 2 g_dips
abbrev s_tops : Stmt := topS 2
abbrev N_tops : List Str := ["row", "person"]
theorem sc_tops : FnScope N_tops ["row"] (defScope s_tops) := ⟨rfl, rfl, rfl, by decide +kernel, rfl, by decide +kernel, by decide +kernel⟩
def ct_tops_1 : GT :=
    (tstE (eChain ltD gtD (oE (eOp2 ixD (oE (eV 0)) (oE (eOp2 subD (oE (eV 1)) (oE (eC (.int 1))))))) (oE (eOp2 ixD (oE (eV 0)) (oE (eV 1)))) (oE (eOp2 ixD (oE (eV 0)) (oE (eOp2 addU (oE (eV 1)) (oE (eC (.int 1)))))))))
def ce_tops_2 : GE :=
    (eV 1)
def g_tops : GS :=
    (sRetF (eLc [1] (gSeq (eL (eCall F_inner (aCons (oE (eV 0)) aNil)))) (gN 1) ct_tops_1 ce_tops_2))
def F_tops : List D → Option (List D) := callF 1 2 g_tops
abbrev s_options_of : Stmt := topS 5
abbrev N_options_of : List Str := ["row", "wish", "high", "low", "found", "person", "own", "some", "number", "option"]
theorem sc_options_of : FnScope N_options_of ["row", "wish"] (defScope s_options_of) := ⟨rfl, rfl, rfl, by decide +kernel, rfl, by decide +kernel, by decide +kernel⟩
def ct_options_of_1 : GT :=
    (tstE (eOp2 ltD (oE (eV 8)) (oE (eV 6))))
def ce_options_of_2 : GE :=
    (eT (eSeq (aCons (oE (eV 8)) (aCons (oE (eC (.bool true))) aNil))))
def ct_options_of_3 : GT :=
    (tstE (eOp2 gtD (oE (eV 8)) (oE (eV 6))))
def ct_options_of_4 : GT :=
    (tOrG (tstE (eOp2 isD (oE (eOp2 ixD (oE (eV 1)) (oE (eV 5)))) (oE (eC .none)))) (tstE (eOp2 eqW (oE (eOp2 ixD (oE (eV 1)) (oE (eV 5)))) (oE (eOp2 ixD (oE (eV 9)) (oE (eC (.int 0))))))))
def ce_options_of_5 : GE :=
    (eV 9)
def gb_options_of_6 : GS :=
    (sSeq (sSetO 7 (eSeq (aCons (oE (eT (eSeq (aCons (oE (eV 6)) (aCons (oE (eC (.bool false))) aNil))))) aNil)))
    (sSeq (sIf (tstE (eOp2 inD (oE (eV 5)) (oE (eV 2)))) (sExt 7 (eLc [8] (gSeq (eL (eSrtSet (eV 0)))) (gN 8) ct_options_of_1 ce_options_of_2))
    sNext)
    (sSeq (sIf (tstE (eOp2 inD (oE (eV 5)) (oE (eV 3)))) (sExt 7 (eLc [8] (gSeq (eL (eSrtSet (eV 0)))) (gN 8) ct_options_of_3 ce_options_of_2))
    sNext)
    (sFz 7 (sApp 4 (eL (eApp sortDD (aCons (oE (eL (eLc [9] (gSeq (eV 7)) (gN 9) ct_options_of_4 ce_options_of_5))) aNil))))))))
def g_options_of : GS :=
    (sSeq (sPar3 2 3 4 (nS (eL (eCall F_tops (aCons (oE (eV 0)) aNil)))) (nS (eL (eCall F_dips (aCons (oE (eV 0)) aNil)))) (nF (eSeq aNil)))
    (sSeq (sFor (eCall enum1D (aCons (oE (eV 0)) aNil)) (gT 2 (gsCons (gN 5) (gsCons (gN 6) gsNil))) gb_options_of_6)
    (sRetO 4)))
def F_options_of : List D → Option (List D) := callF 2 10 g_options_of
abbrev s_spheres : Stmt := topS 11
abbrev N_spheres : List Str := ["row", "options", "here", "place", "total", "state", "steps", "found", "option", "later", "many"]
theorem sc_spheres : FnScope N_spheres ["row"] (defScope s_spheres) := ⟨rfl, rfl, rfl, by decide +kernel, rfl, by decide +kernel, by decide +kernel⟩
def gn_spheres_1 : NG :=
    (nFor (gItems (eV 2)) (gT 2 (gsCons (gN 5) (gsCons (gN 6) gsNil))) (nFor (gSeq (eOp2 ixD (oE (eV 1)) (oE (eV 3)))) (gN 8) (nSeq (nSet 9 (eCall F_next_state (aCons (oE (eV 0)) (aCons (oE (eV 3)) (aCons (oE (eV 5)) (aCons (oE (eV 8)) (aCons (oE (eC (.bool false))) aNil))))))) (nIf (tstE (eOp2 isNotD (oE (eV 9)) (oE (eC .none)))) (nSeq (nGet 9) (nAdd 9 6 (eApp intD (aCons (oE (eOp2 ixD (oE (eV 8)) (oE (eC (.int 1))))) aNil)))) nNext))))
def gb_spheres_2 : GS :=
    (gNest 7 2 gn_spheres_1)
def gb_spheres_3 : GS :=
    (sIf (tOrG (tstE (eOp2 isD (oE (eV 5)) (oE (eC .none)))) (tstE (eOp2 ixD (oE (eV 5)) (oE (eC (.int 1)))))) (sAddO 4 (eV 6) (eC (.int 0)))
    sNext)
def ce_spheres_4 : GE :=
    (eNGet2 (oV 4) (eV 10) (eC (.int 0)))
def g_spheres : GS :=
    (sSeq (sPar 1 2 (nS (eL (eCall F_options_of (aCons (oE (eV 0)) (aCons (oE (eL (eCall F_free_wish (aCons (oE (eV 0)) aNil)))) aNil))))) (nS (eD (eDisp (eC .none) (eD (eDisp (eC (.int 0)) (eC (.int 1))))))))
    (sSeq (sFor (eCall rng1 (aCons (oE (eApp lenD (aCons (oE (eV 0)) aNil))) aNil)) (gN 3) gb_spheres_2)
    (sSeq (sSetD 4 (fun ρ => .ok [] ρ))
    (sSeq (sFor (gItems (eV 2)) (gT 2 (gsCons (gN 5) (gsCons (gN 6) gsNil))) gb_spheres_3)
    (sRetF (eLc [10] (eCall rng1 (aCons (oE (eOp2 addU (oE (eApp maxDD (aCons (oV 4) aNil))) (oE (eC (.int 1))))) aNil)) (gN 10) gYes ce_spheres_4))))))
def F_spheres : List D → Option (List D) := callF 1 11 g_spheres
abbrev s_farthest : Stmt := topS 12
abbrev N_farthest : List Str := ["row"]
theorem sc_farthest : FnScope N_farthest ["row"] (defScope s_farthest) := ⟨rfl, rfl, rfl, by decide +kernel, rfl, by decide +kernel, by decide +kernel⟩
def g_farthest : GS :=
    (sRet (eOp2 subD (oE (eApp lenD (aCons (oE (eL (eCall F_spheres (aCons (oE (eV 0)) aNil)))) aNil))) (oE (eC (.int 1)))))
def F_farthest : List D → Option D := callP 1 1 g_farthest
abbrev s_fraction : Stmt := topS 13
abbrev N_fraction : List Str := ["numerator", "denominator", "high", "low"]
theorem sc_fraction : FnScope N_fraction ["numerator", "denominator"] (defScope s_fraction) := ⟨rfl, rfl, rfl, by decide +kernel, rfl, by decide +kernel, by decide +kernel⟩
def wt_fraction_1 : GT :=
    (tstE (eOp2 gtD (oE (eV 3)) (oE (eC (.int 0)))))
def gb_fraction_2 : GS :=
    (sPar 2 3 (nS (eV 3)) (nS (eOp2 modD (oE (eV 2)) (oE (eV 3)))))
def g_fraction : GS :=
    (sSeq (sPar 2 3 (nS (eV 1)) (nS (eApp absD (aCons (oE (eV 0)) aNil))))
    (sSeq (whileL wt_fraction_1 gb_fraction_2 1000)
    (sRet (eT (eSeq (aCons (oE (eOp2 fdivD (oE (eV 0)) (oE (eV 2)))) (aCons (oE (eOp2 fdivD (oE (eV 1)) (oE (eV 2)))) aNil)))))))
def F_fraction : List D → Option D := callP 2 4 g_fraction
abbrev s_mean_distance : Stmt := topS 14
abbrev N_mean_distance : List Str := ["row", "found", "many", "rows"]
theorem sc_mean_distance : FnScope N_mean_distance ["row"] (defScope s_mean_distance) := ⟨rfl, rfl, rfl, by decide +kernel, rfl, by decide +kernel, by decide +kernel⟩
def ce_mean_distance_1 : GE :=
    (eOp2 mulV (oE (eV 2)) (oE (eV 3)))
def g_mean_distance : GS :=
    (sSeq (sSet 1 (eL (eCall F_spheres (aCons (oE (eV 0)) aNil))))
    (sRet (eCall F_fraction (aCons (oE (eApp sumD (aCons (oE (eL (eLc [2, 3] (eCall enum1D (aCons (oE (eV 1)) aNil)) (gT 2 (gsCons (gN 2) (gsCons (gN 3) gsNil))) gYes ce_mean_distance_1))) aNil))) (aCons (oE (eApp sumD (aCons (oE (eV 1)) aNil))) aNil)))))
def F_mean_distance : List D → Option D := callP 1 4 g_mean_distance
abbrev s__law_right : Stmt := topS 26
abbrev N__law_right : List Str := ["_law_box_here", "_law_line", "_law_soft", "_law_far", "_law_due", "_law_mean", "_law_found", "_law_heard", "_law_step"]
theorem sc__law_right : FnScope N__law_right ["_law_box_here"] (defScope s__law_right) := ⟨rfl, rfl, rfl, by decide +kernel, rfl, by decide +kernel, by decide +kernel⟩
def ce__law_right_1 : GE :=
    (eCntI (eV 3) (eV 8))
def gr__law_right_2 : GS :=
    (sSeq (sSet 7 (eL (eSeq (aCons (oE (eL (eCall F_spheres (aCons (oE (eV 1)) aNil)))) (aCons (oE (eCall F_farthest (aCons (oE (eV 1)) aNil))) (aCons (oE (eCallW F_farthest 1 @idL (aCons (oE (eV 2)) aNil))) (aCons (oE (eCall F_mean_distance (aCons (oE (eV 1)) aNil))) (aCons (oE (eCallW F_mean_distance 1 @idL (aCons (oE (eV 2)) aNil))) aNil))))))))
    (sRet (eAndG (eCall (F__law_same 6) (aCons (oE (eV 7)) (aCons (oE (eL (eSeq (aCons (oE (eV 4)) (aCons (oE (eOp2 ixD (oE (eV 3)) (oE (eOp1 negD (oE (eC (.int 1))))))) (aCons (oE (eOp2 ixD (oE (eV 3)) (oE (eOp1 negD (oE (eC (.int 1))))))) (aCons (oE (eV 5)) (aCons (oE (eV 5)) aNil)))))))) aNil))) (eOp2 eqW (oE (eApp tupleD (aCons (oE (eV 2)) aNil))) (oE (eV 1))))))
def g__law_right : GS :=
    (sSeq (sSet 1 (eCallB F__law_random_line 0 (aCons (oE (eC (.int 9))) (aCons (oE (eCallB F__law_of 0 (aCons (oE (eL (eSeq (aCons (oE (eC (.int 2))) (aCons (oE (eC (.int 9))) (aCons (oE (eOp2 powD (oE (eC (.int 10))) (oE (eC (.int 40))))) aNil)))))) aNil))) aNil))))
    (sSeq (sTo (eT (eSeq (aCons (oE (eL (eApp listD (aCons (oE (eV 1)) aNil)))) (aCons (oE (eL (eSrtVals (eCall F__law_layers (aCons (oE (eV 1)) aNil))))) aNil)))) (gT 2 (gsCons (gN 2) (gsCons (gN 3) gsNil))))
    (sSeq (sPar 4 5 (nS (eL (eLc [8] (eCall rng1 (aCons (oE (eOp2 addU (oE (eOp2 ixD (oE (eV 3)) (oE (eOp1 negD (oE (eC (.int 1))))))) (oE (eC (.int 1))))) aNil)) (gN 8) gYes ce__law_right_1))) (nS (eCall F__law_ratio (aCons (oE (eApp sumD (aCons (oE (eV 3)) aNil))) (aCons (oE (eApp lenD (aCons (oE (eV 3)) aNil))) aNil)))))
    (sHeardT 6 (nlCons (nF (eCall F_spheres (aCons (oE (eV 1)) aNil))) (nlCons (nF (eCallW F_spheres 1 @idL (aCons (oE (eV 2)) aNil))) nlNil)) (F__law_same 6) (eL (eSeq (aCons (oE (eV 4)) (aCons (oE (eV 4)) aNil)))) [0] some
    gr__law_right_2))))
def F__law_right : List D → List D → Option (D × List D) := callB 1 9 g__law_right
abbrev s_law : Stmt := topS 27
abbrev N_law : List Str := ["_law_script", "_law_cells_here", "_law_k", "_law_box_here", "_law_turn"]
theorem sc_law : FnScope N_law ["_law_script"] (defScope s_law) := ⟨rfl, rfl, rfl, by decide +kernel, rfl, by decide +kernel, by decide +kernel⟩
def ce_law_1 : GE :=
    (eCallB F__law_right 3 aNil)
def gb_law_2 : GS :=
    (sSeq (sSetO 3 (eCall F__law_box (aCons (oE (eV 1)) (aCons (oE (eV 2)) aNil))))
    (sIf (tNotG (tstE (eApp allD (aCons (oE (eL (eLc [4] (eCall rng1 (aCons (oE (eC (.int 2))) aNil)) (gN 4) gYes ce_law_1))) aNil)))) (sRet (eC (.bool false)))
    sNext))
def g_law : GS :=
    (sSeq (sSet 1 (eCall F__law_cells (aCons (oE (eV 0)) (aCons (oE (eC (.int 3))) aNil))))
    (sSeq (sFor (eCall rng1 (aCons (oE (eApp lenD (aCons (oE (eV 1)) aNil))) aNil)) (gN 2) gb_law_2)
    (sRet (eC (.bool true)))))
def F_law : List D → Option D := callP 1 5 g_law
structure Tx (K : PySem.W.Frag) (mg : Str → Option Value) where
  a__law_box : Addr
  d__law_box : FuncData
  F__law_box : Fun K "_law_box" "_law_box" s__law_box a__law_box d__law_box
  m__law_box : mg "_law_box" = some (.ref a__law_box)
  b__law_box : Binds K d__law_box ["_law_script", "_law_k"] []
  a__law_cells : Addr
  d__law_cells : FuncData
  F__law_cells : Fun K "_law_cells" "_law_cells" s__law_cells a__law_cells d__law_cells
  m__law_cells : mg "_law_cells" = some (.ref a__law_cells)
  b__law_cells : Binds K d__law_cells ["_law_script", "_law_most"] []
  a__law_mid : Addr
  d__law_mid : FuncData
  F__law_mid : Fun K "_law_mid" "_law_mid" s__law_mid a__law_mid d__law_mid
  m__law_mid : mg "_law_mid" = some (.ref a__law_mid)
  b__law_mid : Binds K d__law_mid ["_law_line", "_law_at"] []
  a__law_call : Addr
  d__law_call : FuncData
  F__law_call : Fun K "_law_call" "_law_call" s__law_call a__law_call d__law_call
  m__law_call : mg "_law_call" = some (.ref a__law_call)
  b__law_call : Binds K d__law_call ["_law_line", "_law_at"] []
  a__law_layers : Addr
  d__law_layers : FuncData
  F__law_layers : Fun K "_law_layers" "_law_layers" s__law_layers a__law_layers d__law_layers
  m__law_layers : mg "_law_layers" = some (.ref a__law_layers)
  b__law_layers : Binds K d__law_layers ["_law_line"] []
  a__law_take : Addr
  d__law_take : FuncData
  F__law_take : Fun K "_law_take" "_law_take" s__law_take a__law_take d__law_take
  m__law_take : mg "_law_take" = some (.ref a__law_take)
  b__law_take : Binds K d__law_take ["_law_box_here", "_law_span"] []
  a__law_of : Addr
  d__law_of : FuncData
  F__law_of : Fun K "_law_of" "_law_of" s__law_of a__law_of d__law_of
  m__law_of : mg "_law_of" = some (.ref a__law_of)
  b__law_of : Binds K d__law_of ["_law_box_here", "_law_some"] []
  a__law_random_line : Addr
  d__law_random_line : FuncData
  F__law_random_line : Fun K "_law_random_line" "_law_random_line" s__law_random_line a__law_random_line d__law_random_line
  m__law_random_line : mg "_law_random_line" = some (.ref a__law_random_line)
  b__law_random_line : Binds K d__law_random_line ["_law_box_here", "_law_most", "_law_top"] []
  a__law_ratio : Addr
  d__law_ratio : FuncData
  F__law_ratio : Fun K "_law_ratio" "_law_ratio" s__law_ratio a__law_ratio d__law_ratio
  m__law_ratio : mg "_law_ratio" = some (.ref a__law_ratio)
  b__law_ratio : Binds K d__law_ratio ["_law_above", "_law_under"] []
  a__law_same : Addr
  d__law_same : FuncData
  F__law_same : Fun K "_law_same" "_law_same" s__law_same a__law_same d__law_same
  m__law_same : mg "_law_same" = some (.ref a__law_same)
  b__law_same : Binds K d__law_same ["_law_found", "_law_due"] []
  a_add_up : Addr
  d_add_up : FuncData
  F_add_up : Fun K "add_up" "add_up" s_add_up a_add_up d_add_up
  m_add_up : mg "add_up" = some (.ref a_add_up)
  b_add_up : Binds K d_add_up ["target", "steps", "more"] []
  a_free_wish : Addr
  d_free_wish : FuncData
  F_free_wish : Fun K "free_wish" "free_wish" s_free_wish a_free_wish d_free_wish
  m_free_wish : mg "free_wish" = some (.ref a_free_wish)
  b_free_wish : Binds K d_free_wish ["row"] []
  a_parted : Addr
  d_parted : FuncData
  F_parted : Fun K "parted" "parted" s_parted a_parted d_parted
  m_parted : mg "parted" = some (.ref a_parted)
  b_parted : Binds K d_parted ["row", "place", "state", "option", "calm"] []
  a_next_state : Addr
  d_next_state : FuncData
  F_next_state : Fun K "next_state" "next_state" s_next_state a_next_state d_next_state
  m_next_state : mg "next_state" = some (.ref a_next_state)
  b_next_state : Binds K d_next_state ["row", "place", "state", "option", "calm"] []
  a_inner : Addr
  d_inner : FuncData
  F_inner : Fun K "inner" "inner" s_inner a_inner d_inner
  m_inner : mg "inner" = some (.ref a_inner)
  b_inner : Binds K d_inner ["row"] []
  a_dips : Addr
  d_dips : FuncData
  F_dips : Fun K "dips" "dips" s_dips a_dips d_dips
  m_dips : mg "dips" = some (.ref a_dips)
  b_dips : Binds K d_dips ["row"] []
  a_tops : Addr
  d_tops : FuncData
  F_tops : Fun K "tops" "tops" s_tops a_tops d_tops
  m_tops : mg "tops" = some (.ref a_tops)
  b_tops : Binds K d_tops ["row"] []
  a_options_of : Addr
  d_options_of : FuncData
  F_options_of : Fun K "options_of" "options_of" s_options_of a_options_of d_options_of
  m_options_of : mg "options_of" = some (.ref a_options_of)
  b_options_of : Binds K d_options_of ["row", "wish"] []
  a_spheres : Addr
  d_spheres : FuncData
  F_spheres : Fun K "spheres" "spheres" s_spheres a_spheres d_spheres
  m_spheres : mg "spheres" = some (.ref a_spheres)
  b_spheres : Binds K d_spheres ["row"] []
  a_farthest : Addr
  d_farthest : FuncData
  F_farthest : Fun K "farthest" "farthest" s_farthest a_farthest d_farthest
  m_farthest : mg "farthest" = some (.ref a_farthest)
  b_farthest : Binds K d_farthest ["row"] []
  a_fraction : Addr
  d_fraction : FuncData
  F_fraction : Fun K "fraction" "fraction" s_fraction a_fraction d_fraction
  m_fraction : mg "fraction" = some (.ref a_fraction)
  b_fraction : Binds K d_fraction ["numerator", "denominator"] []
  a_mean_distance : Addr
  d_mean_distance : FuncData
  F_mean_distance : Fun K "mean_distance" "mean_distance" s_mean_distance a_mean_distance d_mean_distance
  m_mean_distance : mg "mean_distance" = some (.ref a_mean_distance)
  b_mean_distance : Binds K d_mean_distance ["row"] []
  a__law_right : Addr
  d__law_right : FuncData
  F__law_right : Fun K "_law_right" "_law_right" s__law_right a__law_right d__law_right
  m__law_right : mg "_law_right" = some (.ref a__law_right)
  b__law_right : Binds K d__law_right ["_law_box_here"] []
  a_law : Addr
  d_law : FuncData
  F_law : Fun K "law" "law" s_law a_law d_law
  m_law : mg "law" = some (.ref a_law)
  b_law : Binds K d_law ["_law_script"] []
  k_spheres_row : KwB K d_spheres ["row"] ["row"] @idL
  k_mean_distance_row : KwB K d_mean_distance ["row"] ["row"] @idL
  k_farthest_row : KwB K d_farthest ["row"] ["row"] @idL
  n_len : mg "len" = none
  n_abs : mg "abs" = none
  n_int : mg "int" = none
  n_list : mg "list" = none
  n_enumerate : mg "enumerate" = none
  n_sorted : mg "sorted" = none
  n_range : mg "range" = none
  n_max : mg "max" = none
  n_tuple : mg "tuple" = none
  n_isinstance : mg "isinstance" = none
  n_zip : mg "zip" = none
  n_all : mg "all" = none
  n_bool : mg "bool" = none
  n_str : mg "str" = none
  n_set : mg "set" = none
  n_sum : mg "sum" = none
section
variable {P : Program} {w : World} {K : PySem.W.Frag} {mg : Str → Option Value} {base : Heap}
theorem ok__law_box (T : Tx K mg) : FnOk P w K mg base CX0 1 T.a__law_box T.d__law_box ["_law_script", "_law_k"] (spF K 2 F__law_box) := by
    refine T.F__law_box.ok sc__law_box (fun vs H Q E h => h.1) (fun cdv A outer s H vs Q E hr h => ?_)
    have nd := sc__law_box.nd
    exact ⟨_, (pss_cons (ps_set (i := 2) nd rfl (Or.inl rfl) (pe_ifExp (pt_cmpR op_lt (pv 1) (pe_callB call_lenU (by rfl) T.n_len (by decide +kernel) (pa_cons (pv 0) pa_nil)) (nomark _)) (pe_ix ix_seq (pv 0) (pv 1) (fun _ _ => rfl)) pe_int)) (pss_one (ps_ret (pe_lst (pa_cons (pe_op op_mulT (pe_callB call_absU (by rfl) T.n_abs (by decide +kernel) (pa_cons (pv 2) pa_nil)) (pe_callTy call_intU (by rfl) T.n_int (by decide +kernel) (pa_cons (pe_cmpR op_ge (pe_callB call_absU (by rfl) T.n_abs (by decide +kernel) (pa_cons (pv 2) pa_nil)) (pe_op op_pow pe_int pe_int) (nomark _)) pa_nil))) (pa_cons (pe_op op_addU (pe_op op_addU (pe_op op_mod (pv 2) pe_int) (pe_op op_mulT pe_int (pv 1))) pe_int) (pa_cons pe_int pa_nil))))))),
      run_F (N := N__law_box) (ds_seq (ds_set (i := 2) (de_if (dt_test (de_op sn_lt (do_e de_v) (do_e (de_cb sn_len (da_cons (do_e de_v) da_nil))))) (de_op sn_ix (do_e de_v) (do_e de_v)) de_int)) (ds_retF (df_lst (da_cons (do_e (de_op sn_mulV (do_e (de_cb sn_abs (da_cons (do_e de_v) da_nil))) (do_e (de_cb sn_int (da_cons (do_e (de_op sn_ge (do_e (de_cb sn_abs (da_cons (do_e de_v) da_nil))) (do_e (de_op sn_pow (do_e de_int) (do_e de_int))))) da_nil))))) (da_cons (do_e (de_op sn_addU (do_e (de_op sn_addU (do_e (de_op sn_mod (do_e de_v) (do_e de_int))) (do_e (de_op sn_mulV (do_e de_int) (do_e de_v))))) (do_e de_int))) (da_cons (do_e de_int) da_nil)))))) (by decide) h⟩
theorem ok__law_cells (T : Tx K mg) : FnOk P w K mg base CX0 1 T.a__law_cells T.d__law_cells ["_law_script", "_law_most"] (spP K 2 F__law_cells) := by
    refine T.F__law_cells.ok sc__law_cells (fun vs H Q E h => h.1) (fun cdv A outer s H vs Q E hr h => ?_)
    have nd := sc__law_cells.nd
    exact ⟨_, (pss_cons (ps_set (i := 2) nd rfl (Or.inl rfl) (pe_callTy call_listU (by rfl) T.n_list (by decide +kernel) (pa_cons (pe_slice sl_U (pv 0) po_none (po_some (pv 1))) pa_nil))) (pss_cons (ps_for PassesOwn.never rfl (pi_enumU (by rfl) T.n_enumerate (pa_cons (pe_slice sl_U (pv 0) (po_some (pv 1)) (po_some pe_int)) pa_nil)) (pg_tup rfl (pgs_cons (pg_name (i := 3) nd rfl (Or.inl rfl)) (pgs_cons (pg_name (i := 4) nd rfl (Or.inl rfl)) pgs_nil))) (pss_one (ps_asg (pe_op op_addU (pe_ix ix_seq (pv 2) (pe_op op_mod (pv 3) (pv 1)) (fun _ _ => rfl)) (pe_op op_mulT (pv 4) (pe_op op_addU (pv 3) pe_int))) (pg_sub (pv 2) (pe_op op_mod (pv 3) (pv 1)) set_list)))) (pss_one (ps_ret (pe_ifExp (pt_cmpR (op_neU hr) (pv 2) (pe_lst pa_nil) (nomark _)) (pv 2) (pe_lst (pa_cons pe_int pa_nil))))))),
      run_P (N := N__law_cells) (ds_seq (ds_setO (i := 2) (df_cb sn_list (da_cons (do_e (de_sl sn_sliceU (do_e de_v) dp_no (dp_so de_v))) da_nil))) (ds_seq (ds_for (ws := [3, 4]) (di_enum (da_cons (do_e (de_sl sn_sliceU (do_e de_v) (dp_so de_v) (dp_so de_int))) da_nil)) (dg_tup (dgs_cons (dg_name (by decide)) (dgs_cons (dg_name (by decide)) dgs_nil))) (ds_putIx (de_op sn_addU (do_e (de_op sn_ix do_v (do_e (de_op sn_mod (do_e de_v) (do_e de_v))))) (do_e (de_op sn_mulV (do_e de_v) (do_e (de_op sn_addU (do_e de_v) (do_e de_int)))))) (de_op sn_mod (do_e de_v) (do_e de_v)))) (ds_fz (i := 2) (ds_ret (de_if (dt_test (de_op sn_neW (do_e de_v) (do_e (de_l (df_lst da_nil))))) de_v (de_l (df_lst (da_cons (do_e de_int) da_nil)))))))) (by decide) h⟩
theorem ok__law_mid (T : Tx K mg) : FnOk P w K mg base CX0 1 T.a__law_mid T.d__law_mid ["_law_line", "_law_at"] (spP K 2 F__law_mid) := by
    refine T.F__law_mid.ok sc__law_mid (fun vs H Q E h => h.1) (fun cdv A outer s H vs Q E hr h => ?_)
    have nd := sc__law_mid.nd
    exact ⟨_, (pss_cons (ps_if (PW.pt (pw_or (pt_cmpR (op_eqU hr) (pv 1) pe_int (nomark _)) (pw_or1 (pt_cmpR (op_eqU hr) (pv 1) (pe_op op_sub (pe_callB call_lenU (by rfl) T.n_len (by decide +kernel) (pa_cons (pv 0) pa_nil)) pe_int) (nomark _))))) (pss_one (ps_ret (pe_ix ix_seq (pv 0) (pv 1) (fun _ _ => rfl)))) pss_nil) (pss_one (ps_ret (pe_ix ix_seq (pe_callB cr_sortedU (by rfl) T.n_sorted (by decide +kernel) (pa_cons (pe_slice sl_U (pv 0) (po_some (pe_op op_sub (pv 1) pe_int)) (po_some (pe_op op_addU (pv 1) pe_int))) pa_nil)) pe_int (fun _ _ => rfl))))),
      run_P (N := N__law_mid) (ds_seq (ds_if (dt_or (dt_test (de_op sn_eqW (do_e de_v) (do_e de_int))) (dt_test (de_op sn_eqW (do_e de_v) (do_e (de_op sn_sub (do_e (de_cb sn_len (da_cons (do_e de_v) da_nil))) (do_e de_int)))))) (ds_ret (de_op sn_ix (do_e de_v) (do_e de_v))) ds_next) (ds_ret (de_op sn_ix (do_e (de_l (df_cb sn_sorted (da_cons (do_e (de_sl sn_sliceU (do_e de_v) (dp_so (de_op sn_sub (do_e de_v) (do_e de_int))) (dp_so (de_op sn_addU (do_e de_v) (do_e de_int))))) da_nil)))) (do_e de_int)))) (by decide) h⟩
theorem ok__law_call (T : Tx K mg) : FnOk P w K mg base CX0 2 T.a__law_call T.d__law_call ["_law_line", "_law_at"] (spP K 2 F__law_call) := by
    refine T.F__law_call.ok sc__law_call (fun vs H Q E h => h.1) (fun cdv A outer s H vs Q E hr h => ?_)
    have nd := sc__law_call.nd
    exact ⟨_, (pss_one (ps_ret (pe_op op_addU (pe_op op_addU (pe_slice sl_U (pv 0) po_none (po_some (pv 1))) (pe_tup (pa_cons (pe_call (ok__law_mid T) (hr.mono (by decide)) (by rfl) T.m__law_mid T.F__law_mid.kp T.b__law_mid .nil pass0 (pa_cons (pv 0) (pa_cons (pv 1) pa_nil))) pa_nil))) (pe_slice sl_U (pv 0) (po_some (pe_op op_addU (pv 1) pe_int)) po_none)))),
      run_P (N := N__law_call) (ds_ret (de_op sn_addU (do_e (de_op sn_addU (do_e (de_sl sn_sliceU (do_e de_v) dp_no (dp_so de_v))) (do_e (de_tup (da_cons (do_e (de_call callP_len (da_cons (do_e de_v) (da_cons (do_e de_v) da_nil)))) da_nil))))) (do_e (de_sl sn_sliceU (do_e de_v) (dp_so (de_op sn_addU (do_e de_v) (do_e de_int))) dp_no)))) (by decide) h⟩
theorem ok__law_layers (T : Tx K mg) : FnOk P w K mg base CX0 3 T.a__law_layers T.d__law_layers ["_law_line"] (spP K 1 F__law_layers) := by
    refine T.F__law_layers.ok sc__law_layers (fun vs H Q E h => h.1) (fun cdv A outer s H vs Q E hr h => ?_)
    have nd := sc__law_layers.nd
    exact ⟨_, (pss_cons (ps_par (i := 1) (j := 2) (by rfl) nd rfl rfl (by decide) rfl rfl (pa_cons (pe_ndisp hr (pv 0) pe_int) (pa_cons (pe_lst (pa_cons (pv 0) pa_nil)) pa_nil)) (by rfl)) (pss_cons (ps_while PassesOwn.never (pt_cmpR (op_neU hr) (pv 2) (pe_lst pa_nil) (nomark _)) (pss_cons (ps_set (i := 3) nd rfl (Or.inl rfl) (pe_lst pa_nil)) (pss_cons (ps_for PassesOwn.never rfl (pi_seqU (pv 2)) (pg_name (i := 4) nd rfl (Or.inl rfl)) (pss_one (ps_for PassesOwn.never rfl (pi_range2 (by rfl) T.n_range (pa_cons pe_int (pa_cons (pe_op op_sub (pe_callB call_lenU (by rfl) T.n_len (by decide +kernel) (pa_cons (pv 4) pa_nil)) pe_int) pa_nil))) (pg_name (i := 5) nd rfl (Or.inl rfl)) (pss_cons (ps_set (i := 6) nd rfl (Or.inl rfl) (pe_call (ok__law_call T) (hr.mono (by decide)) (by rfl) T.m__law_call T.F__law_call.kp T.b__law_call .nil pass0 (pa_cons (pv 4) (pa_cons (pv 5) pa_nil)))) (pss_one (ps_if (pt_cmpR (op_nNotIn hr) (pv 6) (pv 1) (by rfl)) (pss_cons (ps_nput hr (pv 1) (pv 6) (pe_op op_addU (pe_ix (ix_dict hr) (pv 1) (pv 4) (fun _ _ => rfl)) pe_int)) (pss_one (ps_expr (pe_bm PySem.F.plainAttrs_list PySem.F.slot_list_append PySem.F.type_list_append mt_append (pv 3) (pa_cons (pv 6) pa_nil))))) pss_nil)))))) (pss_one (ps_set (i := 2) nd rfl (Or.inl rfl) (pv 3)))))) (pss_one (ps_ret (pv 1))))),
      run_P (N := N__law_layers) (ds_seq (ds_parD (dd_disp de_v de_int) (dn_s (de_l (df_lst (da_cons (do_e de_v) da_nil))))) (ds_seq (ds_while (n := 1000) (dt_test (de_op sn_neW (do_e de_v) (do_e (de_l (df_lst da_nil))))) (ds_seq (ds_setO (i := 3) (df_lst da_nil)) (ds_seq (ds_for (ws := [4]) (di_seq de_v) (dg_name (by decide)) (ds_for (ws := [5]) (di_rng2 (da_cons (do_e de_int) (da_cons (do_e (de_op sn_sub (do_e (de_cb sn_len (da_cons (do_e de_v) da_nil))) (do_e de_int))) da_nil))) (dg_name (by decide)) (ds_seq (ds_set (i := 6) (de_call callP_len (da_cons (do_e de_v) (da_cons (do_e de_v) da_nil)))) (ds_if (dt_test (de_op sn_nnotin (do_e de_v) do_v)) (ds_seq (ds_putD (de_op sn_addU (do_e (de_op sn_nget do_v (do_e de_v))) (do_e de_int)) de_v) (ds_app de_v)) ds_next)))) (ds_fz (i := 3) (ds_set (i := 2) de_v))))) (ds_fz (i := 1) (ds_ret de_v)))) (by decide) h⟩
theorem ok__law_take (T : Tx K mg) : ∀ n : Nat, FnOk P w K mg base CX0 (0 + n) T.a__law_take T.d__law_take ["_law_box_here", "_law_span"] (spB K 2 (F__law_take n))
  | 0 => fn_noneB rfl
  | n + 1 => by
    have ih := ok__law_take T n
    have hFl := Fl__law_take n
    refine T.F__law_take.ok sc__law_take (fun vs H Q E h => h.1) (fun cdv A outer s H vs Q E hr h => ?_)
    have nd := sc__law_take.nd
    exact ⟨_, (pss_cons (ps_if (pt_cmpR op_gt (pe_ix ix_seq (pv 0) pe_int (fun _ _ => rfl)) pe_int (nomark _)) (pss_cons (ps_set (i := 3) nd rfl (Or.inl rfl) (pe_op op_mod (pe_ix ix_seq (pv 0) pe_int (fun _ _ => rfl)) (pv 1))) (pss_cons (ps_asg (pe_op op_fdivW (pe_ix ix_seq (pv 0) pe_int (fun _ _ => rfl)) (pv 1)) (pg_sub (pv 0) pe_int set_list)) (pss_one (ps_ret (pv 3))))) pss_nil) (pss_cons (ps_if (pt_cmpR op_gt (pv 1) (pe_op op_pow pe_int pe_int) (nomark _)) (pss_one (ps_ret (pe_op op_mod (pe_op op_addU (pe_call ih (hr.mono (Nat.le_refl _)) (by rfl) T.m__law_take T.F__law_take.kp T.b__law_take .nil pass0 (pa_cons (pv 0) (pa_cons (pe_op op_pow pe_int pe_int) pa_nil))) (pe_op op_mulT (pe_op op_pow pe_int pe_int) (pe_call ih (hr.mono (Nat.le_refl _)) (by rfl) T.m__law_take T.F__law_take.kp T.b__law_take .nil pass0 (pa_cons (pv 0) (pa_cons (pe_op op_addU (pe_op op_fdivW (pe_op op_sub (pv 1) pe_int) (pe_op op_pow pe_int pe_int)) pe_int) pa_nil))))) (pv 1)))) pss_nil) (pss_cons (ps_asg (pe_op op_addU (pe_ix ix_seq (pv 0) pe_int (fun _ _ => rfl)) pe_int) (pg_sub (pv 0) pe_int set_list)) (pss_cons (ps_set (i := 2) nd rfl (Or.inl rfl) (pe_op op_mod (pe_op op_pow (pe_op op_addU (pe_ix ix_seq (pv 0) pe_int (fun _ _ => rfl)) (pe_op op_mulT pe_int (pe_ix ix_seq (pv 0) pe_int (fun _ _ => rfl)))) pe_int) pe_int)) (pss_one (ps_ret (pe_op op_mod (pe_op op_fdivW (pe_op op_mod (pe_op op_addU (pe_op op_mulT (pv 2) (pe_op op_addU (pe_op op_mod (pv 2) pe_int) pe_int)) (pe_op op_mulT (pe_ix ix_seq (pv 0) pe_int (fun _ _ => rfl)) pe_int)) pe_int) pe_int) (pv 1)))))))),
      run_B (N := N__law_take) (ds_seq (ds_if (dt_test (de_op sn_gt (do_e (de_op sn_ix do_v (do_e de_int))) (do_e de_int))) (ds_seq (ds_set (i := 3) (de_op sn_mod (do_e (de_op sn_ix do_v (do_e de_int))) (do_e de_v))) (ds_seq (ds_putIx (de_op sn_fdiv (do_e (de_op sn_ix do_v (do_e de_int))) (do_e de_v)) de_int) (ds_ret de_v))) ds_next) (ds_seq (ds_if (dt_test (de_op sn_gt (do_e de_v) (do_e (de_op sn_pow (do_e de_int) (do_e de_int))))) (ds_ret (de_op sn_mod (do_e (de_op sn_addU (do_e (de_callB hFl (da_cons (do_e (de_op sn_pow (do_e de_int) (do_e de_int))) da_nil))) (do_e (de_op sn_mulV (do_e (de_op sn_pow (do_e de_int) (do_e de_int))) (do_e (de_callB hFl (da_cons (do_e (de_op sn_addU (do_e (de_op sn_fdiv (do_e (de_op sn_sub (do_e de_v) (do_e de_int))) (do_e (de_op sn_pow (do_e de_int) (do_e de_int))))) (do_e de_int))) da_nil))))))) (do_e de_v))) ds_next) (ds_seq (ds_putIx (de_op sn_addU (do_e (de_op sn_ix do_v (do_e de_int))) (do_e de_int)) de_int) (ds_seq (ds_set (i := 2) (de_op sn_mod (do_e (de_op sn_pow (do_e (de_op sn_addU (do_e (de_op sn_ix do_v (do_e de_int))) (do_e (de_op sn_mulV (do_e de_int) (do_e (de_op sn_ix do_v (do_e de_int))))))) (do_e de_int))) (do_e de_int))) (ds_ret (de_op sn_mod (do_e (de_op sn_fdiv (do_e (de_op sn_mod (do_e (de_op sn_addU (do_e (de_op sn_mulV (do_e de_v) (do_e (de_op sn_addU (do_e (de_op sn_mod (do_e de_v) (do_e de_int))) (do_e de_int))))) (do_e (de_op sn_mulV (do_e (de_op sn_ix do_v (do_e de_int))) (do_e de_int))))) (do_e de_int))) (do_e de_int))) (do_e de_v))))))) (by decide) h⟩
theorem ok__law_of (T : Tx K mg) : FnOk P w K mg base CX0 9 T.a__law_of T.d__law_of ["_law_box_here", "_law_some"] (spB K 2 F__law_of) := by
    refine T.F__law_of.ok sc__law_of (fun vs H Q E h => h.1) (fun cdv A outer s H vs Q E hr h => ?_)
    have nd := sc__law_of.nd
    exact ⟨_, (pss_one (ps_ret (pe_ix ix_seq (pv 1) (pe_call (ok__law_take T 8) (hr.mono (by decide)) (by rfl) T.m__law_take T.F__law_take.kp T.b__law_take .nil pass0 (pa_cons (pv 0) (pa_cons (pe_callB call_lenU (by rfl) T.n_len (by decide +kernel) (pa_cons (pv 1) pa_nil)) pa_nil))) (fun _ _ => rfl)))),
      run_B (N := N__law_of) (ds_ret (de_op sn_ix (do_e de_v) (do_e (de_callB (Fl__law_take _) (da_cons (do_e (de_cb sn_len (da_cons (do_e de_v) da_nil))) da_nil))))) (by decide) h⟩
theorem ok__law_random_line (T : Tx K mg) : FnOk P w K mg base CX0 9 T.a__law_random_line T.d__law_random_line ["_law_box_here", "_law_most", "_law_top"] (spB K 3 F__law_random_line) := by
    refine T.F__law_random_line.ok sc__law_random_line (fun vs H Q E h => h.1) (fun cdv A outer s H vs Q E hr h => ?_)
    have nd := sc__law_random_line.nd
    exact ⟨_, (pss_cons (ps_par (i := 3) (j := 4) (by rfl) nd rfl rfl (by decide) rfl rfl (pa_cons (pe_call (ok__law_take T 8) (hr.mono (by decide)) (by rfl) T.m__law_take T.F__law_take.kp T.b__law_take .nil pass0 (pa_cons (pv 0) (pa_cons pe_int pa_nil))) (pa_cons (pe_lst pa_nil) pa_nil)) (by rfl)) (pss_cons (ps_for PassesOwn.never rfl (pi_range1 (by rfl) T.n_range (pa_cons (pe_call (ok__law_take T 8) (hr.mono (by decide)) (by rfl) T.m__law_take T.F__law_take.kp T.b__law_take .nil pass0 (pa_cons (pv 0) (pa_cons (pe_op op_addU (pv 1) pe_int) pa_nil))) pa_nil)) (pg_name (i := 5) nd rfl (Or.inl rfl)) (pss_cons (ps_set (i := 6) nd rfl (Or.inl rfl) (pe_op op_sub (pe_call (ok__law_take T 8) (hr.mono (by decide)) (by rfl) T.m__law_take T.F__law_take.kp T.b__law_take .nil pass0 (pa_cons (pv 0) (pa_cons (pe_op op_addU (pe_op op_mulT pe_int (pv 2)) pe_int) pa_nil))) (pv 2))) (pss_cons (ps_if (pt_cmpR op_lt (pv 3) pe_int (nomark _)) (pss_one (ps_set (i := 6) nd rfl (Or.inl rfl) (pe_op op_addU (pe_op op_mulT (pe_call (ok__law_take T 8) (hr.mono (by decide)) (by rfl) T.m__law_take T.F__law_take.kp T.b__law_take .nil pass0 (pa_cons (pv 0) (pa_cons (pe_callB (call_max2U rfl) (by rfl) T.n_max (by decide +kernel) (pa_cons pe_int (pa_cons (pv 2) pa_nil))) pa_nil))) (pe_op op_sub pe_int (pe_op op_mulT pe_int (pe_op op_mod (pv 5) pe_int)))) (pv 3)))) pss_nil) (pss_cons (ps_if (PW.pt (pw_and (pt_cmpR (op_eqU hr) (pv 3) pe_int (nomark _)) (pw_and (pt_cmpR (op_neU hr) (pv 4) (pe_lst pa_nil) (nomark _)) (pw_and1 (pt_cmpR (op_eqU hr) (pe_call (ok__law_take T 8) (hr.mono (by decide)) (by rfl) T.m__law_take T.F__law_take.kp T.b__law_take .nil pass0 (pa_cons (pv 0) (pa_cons pe_int pa_nil))) pe_int (nomark _)))))) (pss_one (ps_set (i := 6) nd rfl (Or.inl rfl) (pe_ix ix_seq (pv 4) (pe_call (ok__law_take T 8) (hr.mono (by decide)) (by rfl) T.m__law_take T.F__law_take.kp T.b__law_take .nil pass0 (pa_cons (pv 0) (pa_cons (pe_callB call_lenU (by rfl) T.n_len (by decide +kernel) (pa_cons (pv 4) pa_nil)) pa_nil))) (fun _ _ => rfl)))) pss_nil) (pss_one (ps_expr (pe_bm PySem.F.plainAttrs_list PySem.F.slot_list_append PySem.F.type_list_append mt_append (pv 4) (pa_cons (pv 6) pa_nil)))))))) (pss_one (ps_ret (pe_callTy call_tupleU (by rfl) T.n_tuple (by decide +kernel) (pa_cons (pv 4) pa_nil)))))),
      run_B (N := N__law_random_line) (ds_seq (ds_par (dn_s (de_callB (Fl__law_take _) (da_cons (do_e de_int) da_nil))) (dn_f (df_lst da_nil))) (ds_seq (ds_for (ws := [5]) (di_rng1 (da_cons (do_e (de_callB (Fl__law_take _) (da_cons (do_e (de_op sn_addU (do_e de_v) (do_e de_int))) da_nil))) da_nil)) (dg_name (by decide)) (ds_seq (ds_set (i := 6) (de_op sn_sub (do_e (de_callB (Fl__law_take _) (da_cons (do_e (de_op sn_addU (do_e (de_op sn_mulV (do_e de_int) (do_e de_v))) (do_e de_int))) da_nil))) (do_e de_v))) (ds_seq (ds_if (dt_test (de_op sn_lt (do_e de_v) (do_e de_int))) (ds_set (i := 6) (de_op sn_addU (do_e (de_op sn_mulV (do_e (de_callB (Fl__law_take _) (da_cons (do_e (de_cb sn_max2 (da_cons (do_e de_int) (da_cons (do_e de_v) da_nil)))) da_nil))) (do_e (de_op sn_sub (do_e de_int) (do_e (de_op sn_mulV (do_e de_int) (do_e (de_op sn_mod (do_e de_v) (do_e de_int))))))))) (do_e de_v))) ds_next) (ds_seq (ds_if (dt_and (dt_test (de_op sn_eqW (do_e de_v) (do_e de_int))) (dt_and (dt_test (de_op sn_neW do_v (do_e (de_l (df_lst da_nil))))) (dt_test (de_op sn_eqW (do_e (de_callB (Fl__law_take _) (da_cons (do_e de_int) da_nil))) (do_e de_int))))) (ds_set (i := 6) (de_op sn_ix do_v (do_e (de_callB (Fl__law_take _) (da_cons (do_e (de_cb sn_len (da_cons do_v da_nil))) da_nil))))) ds_next) (ds_app de_v))))) (ds_ret (de_cb sn_tuple (da_cons do_v da_nil))))) (by decide) h⟩
theorem ok__law_ratio (T : Tx K mg) : FnOk P w K mg base CX0 1 T.a__law_ratio T.d__law_ratio ["_law_above", "_law_under"] (spP K 2 F__law_ratio) := by
    refine T.F__law_ratio.ok sc__law_ratio (fun vs H Q E h => h.1) (fun cdv A outer s H vs Q E hr h => ?_)
    have nd := sc__law_ratio.nd
    exact ⟨_, (pss_cons (ps_par (i := 2) (j := 3) (by rfl) nd rfl rfl (by decide) rfl rfl (pa_cons (pv 0) (pa_cons (pv 1) pa_nil)) (by rfl)) (pss_cons (ps_while PassesOwn.never (pt_cmpR op_gt (pv 3) pe_int (nomark _)) (pss_one (ps_par (i := 2) (j := 3) (by rfl) nd rfl rfl (by decide) rfl rfl (pa_cons (pv 3) (pa_cons (pe_op op_mod (pv 2) (pv 3)) pa_nil)) (by rfl)))) (pss_one (ps_ret (pe_tup (pa_cons (pe_op op_fdivW (pv 0) (pv 2)) (pa_cons (pe_op op_fdivW (pv 1) (pv 2)) pa_nil))))))),
      run_P (N := N__law_ratio) (ds_seq (ds_par (dn_s de_v) (dn_s de_v)) (ds_seq (ds_while (n := 1000) (dt_test (de_op sn_gt (do_e de_v) (do_e de_int))) (ds_par (dn_s de_v) (dn_s (de_op sn_mod (do_e de_v) (do_e de_v))))) (ds_ret (de_tup (da_cons (do_e (de_op sn_fdiv (do_e de_v) (do_e de_v))) (da_cons (do_e (de_op sn_fdiv (do_e de_v) (do_e de_v))) da_nil)))))) (by decide) h⟩
theorem ok__law_same (T : Tx K mg) : ∀ n : Nat, FnOk P w K mg base CX0 (0 + n) T.a__law_same T.d__law_same ["_law_found", "_law_due"] (spP K 2 (F__law_same n))
  | 0 => fn_noneP rfl
  | n + 1 => by
    have ih := ok__law_same T n
    have hFl := Fl__law_same n
    refine T.F__law_same.ok sc__law_same (fun vs H Q E h => h.1) (fun cdv A outer s H vs Q E hr h => ?_)
    have nd := sc__law_same.nd
    exact ⟨_, (pss_cons (ps_if (pt_val (pe_callB call_isiT (by rfl) T.n_isinstance (by decide +kernel) (pa_cons (pv 1) (pa_cons (pe_tup (pa_cons (pe_bltn (v := .ty "list") (by rfl) T.n_list (by decide +kernel) rfl) (pa_cons (pe_bltn (v := .ty "tuple") (by rfl) T.n_tuple (by decide +kernel) rfl) pa_nil))) pa_nil)))) (pss_cons (ps_if (PW.pt (pw_or (pt_cmpR (op_neU hr) (pe_callB call_isi (by rfl) T.n_isinstance (by decide +kernel) (pa_cons (pv 0) (pa_cons (pe_bltn (v := .ty "list") (by rfl) T.n_list (by decide +kernel) rfl) pa_nil))) (pe_callB call_isi (by rfl) T.n_isinstance (by decide +kernel) (pa_cons (pv 1) (pa_cons (pe_bltn (v := .ty "list") (by rfl) T.n_list (by decide +kernel) rfl) pa_nil))) (nomark _)) (pw_or1 (pt_cmpR (op_neU hr) (pe_callB call_isi (by rfl) T.n_isinstance (by decide +kernel) (pa_cons (pv 0) (pa_cons (pe_bltn (v := .ty "tuple") (by rfl) T.n_tuple (by decide +kernel) rfl) pa_nil))) (pe_callB call_isi (by rfl) T.n_isinstance (by decide +kernel) (pa_cons (pv 1) (pa_cons (pe_bltn (v := .ty "tuple") (by rfl) T.n_tuple (by decide +kernel) rfl) pa_nil))) (nomark _))))) (pss_one (ps_ret pe_bl)) pss_nil) (pss_one (ps_ret (pe_and (pe_cmpR (op_eqU hr) (pe_callB call_lenU (by rfl) T.n_len (by decide +kernel) (pa_cons (pv 0) pa_nil)) (pe_callB call_lenU (by rfl) T.n_len (by decide +kernel) (pa_cons (pv 1) pa_nil)) (nomark _)) (pe_one (pe_callB (cr_all rfl) (by rfl) T.n_all (by decide +kernel) (pa_cons (pe_lc (own := [("_law_mine", 2), ("_law_its", 3)]) (by rfl) nd (pi_zipU (by rfl) T.n_zip (pa_cons (pv 0) (pa_cons (pv 1) pa_nil))) (blkOk_by (own := [("_law_mine", 2), ("_law_its", 3)]) (N := N__law_same) (sc := defScope s__law_same) (by decide +kernel)) (fun _ _ _ _ _ => (pg_tup rfl (pgs_cons (pg_name (i := 2) nd rfl (Or.inl rfl)) (pgs_cons (pg_name (i := 3) nd rfl (Or.inl rfl)) pgs_nil)))) (fun _ _ _ _ _ => pts_nil) (fun _ _ _ _ _ => (pe_call ih (hr.mono (Nat.le_refl _)) (by rfl) T.m__law_same T.F__law_same.kp T.b__law_same .nil pass0 (pa_cons (pv 2) (pa_cons (pv 3) pa_nil))))) pa_nil))))))) pss_nil) (pss_cons (ps_if (PW.pt (pw_or (pt_cmpR op_isU (pv 1) pe_non (nomark _)) (pw_or1 (pt_val (pe_callB call_isiT (by rfl) T.n_isinstance (by decide +kernel) (pa_cons (pv 1) (pa_cons (pe_tup (pa_cons (pe_bltn (v := .ty "str") (by rfl) T.n_str (by decide +kernel) rfl) (pa_cons (pe_bltn (v := .ty "bool") (by rfl) T.n_bool (by decide +kernel) rfl) pa_nil))) pa_nil))))))) (pss_one (ps_ret (pe_and (pe_cmpR (op_eqU hr) (pv 0) (pv 1) (nomark _)) (pe_and (pe_cmpR (op_eqU hr) (pe_callB call_isi (by rfl) T.n_isinstance (by decide +kernel) (pa_cons (pv 0) (pa_cons (pe_bltn (v := .ty "bool") (by rfl) T.n_bool (by decide +kernel) rfl) pa_nil))) (pe_callB call_isi (by rfl) T.n_isinstance (by decide +kernel) (pa_cons (pv 1) (pa_cons (pe_bltn (v := .ty "bool") (by rfl) T.n_bool (by decide +kernel) rfl) pa_nil))) (nomark _)) (pe_one (pe_cmpR (op_eqU hr) (pe_cmpR op_isU (pv 0) pe_non (nomark _)) (pe_cmpR op_isU (pv 1) pe_non (nomark _)) (nomark _))))))) pss_nil) (pss_one (ps_ret (pe_and (pe_callB call_isi (by rfl) T.n_isinstance (by decide +kernel) (pa_cons (pv 0) (pa_cons (pe_bltn (v := .ty "int") (by rfl) T.n_int (by decide +kernel) rfl) pa_nil))) (pe_and (pe_not (pe_callB call_isi (by rfl) T.n_isinstance (by decide +kernel) (pa_cons (pv 0) (pa_cons (pe_bltn (v := .ty "bool") (by rfl) T.n_bool (by decide +kernel) rfl) pa_nil)))) (pe_one (pe_cmpR (op_eqU hr) (pv 0) (pv 1) (nomark _))))))))),
      run_P (N := N__law_same) (ds_seq (ds_if (dt_B (de_isiT (Ts := ["list", "tuple"]) (by decide) (do_e de_v))) (ds_seq (ds_if (dt_or (dt_test (de_op sn_neW (do_e (de_isi (do_e de_v))) (do_e (de_isi (do_e de_v))))) (dt_test (de_op sn_neW (do_e (de_isi (do_e de_v))) (do_e (de_isi (do_e de_v)))))) (ds_ret de_bl) ds_next) (ds_ret (de_and (de_op sn_eqW (do_e (de_cb sn_len (da_cons (do_e de_v) da_nil))) (do_e (de_cb sn_len (da_cons (do_e de_v) da_nil)))) (de_cb sn_all (da_cons (do_e (de_l (df_lc (di_zip (da_cons (do_e de_v) (da_cons (do_e de_v) da_nil))) (dg_tup (dgs_cons (dg_name (by decide)) (dgs_cons (dg_name (by decide)) dgs_nil))) dt_yes (de_call hFl (da_cons (do_e de_v) (da_cons (do_e de_v) da_nil)))))) da_nil))))) ds_next) (ds_seq (ds_if (dt_or (dt_test (de_op sn_is (do_e de_v) (do_e de_non))) (dt_B (de_isiT (Ts := ["str", "bool"]) (by decide) (do_e de_v)))) (ds_ret (de_and (de_op sn_eqW (do_e de_v) (do_e de_v)) (de_and (de_op sn_eqW (do_e (de_isi (do_e de_v))) (do_e (de_isi (do_e de_v)))) (de_op sn_eqW (do_e (de_op sn_is (do_e de_v) (do_e de_non))) (do_e (de_op sn_is (do_e de_v) (do_e de_non))))))) ds_next) (ds_ret (de_and (de_isi (do_e de_v)) (de_and (de_not (de_isi (do_e de_v))) (de_op sn_eqW (do_e de_v) (do_e de_v))))))) (by decide) h⟩
theorem ok_add_up (T : Tx K mg) : FnOk P w K mg base CX0 1 T.a_add_up T.d_add_up ["target", "steps", "more"] (spAdd K) := by
    refine T.F_add_up.ok sc_add_up (fun vs H Q E h => h.1) (fun cdv A outer s H vs Q E hr h => ?_)
    have nd := sc_add_up.nd
    exact ⟨_, (pss_one (ps_for PassesOwn.never rfl (pi_itemsN (pv 1)) (pg_tup rfl (pgs_cons (pg_name (i := 3) nd rfl (Or.inl rfl)) (pgs_cons (pg_name (i := 4) nd rfl (Or.inl rfl)) pgs_nil))) (pss_one (ps_nput hr (pv 0) (pe_op op_addU (pv 3) (pv 2)) (pe_op op_addU (pe_bmD PySem.F.plainAttrs_dict PySem.F.slot_dict_get PySem.F.type_dict_get (mt_nget hr) (pv 0) (pa_cons (pe_op op_addU (pv 3) (pv 2)) (pa_cons pe_int pa_nil))) (pv 4)))))), run_add (N := N_add_up) (E := E) rfl h⟩
theorem ok_free_wish (T : Tx K mg) : FnOk P w K mg base CX0 1 T.a_free_wish T.d_free_wish ["row"] (spF K 1 F_free_wish) := by
    refine T.F_free_wish.ok sc_free_wish (fun vs H Q E h => h.1) (fun cdv A outer s H vs Q E hr h => ?_)
    have nd := sc_free_wish.nd
    exact ⟨_, (pss_one (ps_ret (pe_op op_mulT (pe_lst (pa_cons pe_non pa_nil)) (pe_callB call_lenU (by rfl) T.n_len (by decide +kernel) (pa_cons (pv 0) pa_nil))))),
      run_F (N := N_free_wish) (ds_retF (df_op sn_repLT (do_e (de_l (df_lst (da_cons (do_e de_non) da_nil)))) (do_e (de_cb sn_len (da_cons (do_e de_v) da_nil))))) (by decide) h⟩
theorem ok_parted (T : Tx K mg) : FnOk P w K mg base CX0 1 T.a_parted T.d_parted ["row", "place", "state", "option", "calm"] (spP K 5 F_parted) := by
    refine T.F_parted.ok sc_parted (fun vs H Q E h => h.1) (fun cdv A outer s H vs Q E hr h => ?_)
    have nd := sc_parted.nd
    exact ⟨_, (pss_cons (ps_asg (pe_tup (pa_cons (pv 2) (pa_cons (pv 3) pa_nil))) (pg_tup rfl (pgs_cons (pg_tup rfl (pgs_cons (pg_name (i := 5) nd rfl (Or.inl rfl)) (pgs_cons (pg_name (i := 6) nd rfl (Or.inl rfl)) (pgs_cons (pg_name (i := 7) nd rfl (Or.inl rfl)) (pgs_cons (pg_name (i := 8) nd rfl (Or.inl rfl)) pgs_nil))))) (pgs_cons (pg_tup rfl (pgs_cons (pg_name (i := 9) nd rfl (Or.inl rfl)) (pgs_cons (pg_name (i := 10) nd rfl (Or.inl rfl)) pgs_nil))) pgs_nil)))) (pss_cons (ps_if (PW.pt (pw_or (pt_not (pt_val (pv 6))) (pw_or (pt_cmpR (op_eqU hr) (pe_ix ix_seq (pv 0) (pe_op op_sub (pv 1) pe_int) (fun _ _ => rfl)) (pe_ix ix_seq (pv 0) (pv 1) (fun _ _ => rfl)) (nomark _)) (pw_or1 (pt_cmpR (op_neU hr) (pe_cmpR op_lt (pe_ix ix_seq (pv 0) (pe_op op_sub (pv 1) pe_int) (fun _ _ => rfl)) (pe_ix ix_seq (pv 0) (pv 1) (fun _ _ => rfl)) (nomark _)) (pe_cmpR op_lt (pv 5) (pv 9) (nomark _)) (nomark _)))))) (pss_one (ps_ret pe_non)) pss_nil) (pss_cons (ps_set (i := 11) nd rfl (Or.inl rfl) (pe_ifExp (pt_cmpR op_lt (pv 5) (pv 9) (nomark _)) pe_int (pe_un un_neg pe_int))) (pss_cons (ps_if (PW.pt (pw_and (pt_val (pv 4)) (pw_and (pt_not (pt_val (pv 8))) (pw_and1 (pt_cmpR op_notIn_seq (pv 7) (pe_tup (pa_cons pe_int (pa_cons (pv 11) pa_nil))) (by rfl)))))) (pss_one (ps_ret pe_non)) pss_nil) (pss_one (ps_ret (pe_tup (pa_cons (pv 9) (pa_cons (pe_not (pv 10)) (pa_cons (pe_ifExp (pt_val (pv 4)) (pv 11) pe_int) (pa_cons pe_bl pa_nil))))))))))),
      run_P (N := N_parted) (ds_seq (ds_to (ws := [5, 6, 7, 8, 9, 10]) (de_tup (da_cons (do_e de_v) (da_cons (do_e de_v) da_nil))) (dg_tup (dgs_cons (dg_tup (dgs_cons (dg_name (by decide)) (dgs_cons (dg_name (by decide)) (dgs_cons (dg_name (by decide)) (dgs_cons (dg_name (by decide)) dgs_nil))))) (dgs_cons (dg_tup (dgs_cons (dg_name (by decide)) (dgs_cons (dg_name (by decide)) dgs_nil))) dgs_nil)))) (ds_seq (ds_if (dt_or (dt_not (dt_B de_v)) (dt_or (dt_test (de_op sn_eqW (do_e (de_op sn_ix (do_e de_v) (do_e (de_op sn_sub (do_e de_v) (do_e de_int))))) (do_e (de_op sn_ix (do_e de_v) (do_e de_v))))) (dt_test (de_op sn_neW (do_e (de_op sn_lt (do_e (de_op sn_ix (do_e de_v) (do_e (de_op sn_sub (do_e de_v) (do_e de_int))))) (do_e (de_op sn_ix (do_e de_v) (do_e de_v))))) (do_e (de_op sn_lt (do_e de_v) (do_e de_v))))))) (ds_ret de_non) ds_next) (ds_seq (ds_set (i := 11) (de_if (dt_test (de_op sn_lt (do_e de_v) (do_e de_v))) de_int (de_un sn_neg (do_e de_int)))) (ds_seq (ds_if (dt_and (dt_B de_v) (dt_and (dt_not (dt_B de_v)) (dt_test (de_op sn_notIn (do_e de_v) (do_e (de_tup (da_cons (do_e de_int) (da_cons (do_e de_v) da_nil)))))))) (ds_ret de_non) ds_next) (ds_ret (de_tup (da_cons (do_e de_v) (da_cons (do_e (de_not de_v)) (da_cons (do_e (de_if (dt_B de_v) de_v de_int)) (da_cons (do_e de_bl) da_nil)))))))))) (by decide) h⟩
theorem ok_next_state (T : Tx K mg) : FnOk P w K mg base CX0 2 T.a_next_state T.d_next_state ["row", "place", "state", "option", "calm"] (spP K 5 F_next_state) := by
    refine T.F_next_state.ok sc_next_state (fun vs H Q E h => h.1) (fun cdv A outer s H vs Q E hr h => ?_)
    have nd := sc_next_state.nd
    exact ⟨_, (pss_cons (ps_if (pt_cmpR op_isU (pv 2) pe_non (nomark _)) (pss_one (ps_ret (pe_tup (pa_cons (pe_ix ix_seq (pv 3) pe_int (fun _ _ => rfl)) (pa_cons (pe_not (pe_ix ix_seq (pv 3) pe_int (fun _ _ => rfl))) (pa_cons pe_int (pa_cons pe_bl pa_nil))))))) pss_nil) (pss_cons (ps_if (pt_cmpR (op_eqU hr) (pe_ix ix_seq (pv 3) pe_int (fun _ _ => rfl)) (pe_ix ix_seq (pv 2) pe_int (fun _ _ => rfl)) (nomark _)) (pss_one (ps_ret (pe_tup (pa_cons (pe_ix ix_seq (pv 2) pe_int (fun _ _ => rfl)) (pa_cons (pe_or (pe_ix ix_seq (pv 2) pe_int (fun _ _ => rfl)) (pe_one (pe_not (pe_ix ix_seq (pv 3) pe_int (fun _ _ => rfl))))) (pa_cons (pe_ix ix_seq (pv 2) pe_int (fun _ _ => rfl)) (pa_cons (pv 4) pa_nil))))))) pss_nil) (pss_one (ps_ret (pe_call (ok_parted T) (hr.mono (by decide)) (by rfl) T.m_parted T.F_parted.kp T.b_parted .nil pass0 (pa_cons (pv 0) (pa_cons (pv 1) (pa_cons (pv 2) (pa_cons (pv 3) (pa_cons (pv 4) pa_nil)))))))))),
      run_P (N := N_next_state) (ds_seq (ds_if (dt_test (de_op sn_is (do_e de_v) (do_e de_non))) (ds_ret (de_tup (da_cons (do_e (de_op sn_ix (do_e de_v) (do_e de_int))) (da_cons (do_e (de_not (de_op sn_ix (do_e de_v) (do_e de_int)))) (da_cons (do_e de_int) (da_cons (do_e de_bl) da_nil)))))) ds_next) (ds_seq (ds_if (dt_test (de_op sn_eqW (do_e (de_op sn_ix (do_e de_v) (do_e de_int))) (do_e (de_op sn_ix (do_e de_v) (do_e de_int))))) (ds_ret (de_tup (da_cons (do_e (de_op sn_ix (do_e de_v) (do_e de_int))) (da_cons (do_e (de_or (de_op sn_ix (do_e de_v) (do_e de_int)) (de_not (de_op sn_ix (do_e de_v) (do_e de_int))))) (da_cons (do_e (de_op sn_ix (do_e de_v) (do_e de_int))) (da_cons (do_e de_v) da_nil)))))) ds_next) (ds_ret (de_call callP_len (da_cons (do_e de_v) (da_cons (do_e de_v) (da_cons (do_e de_v) (da_cons (do_e de_v) (da_cons (do_e de_v) da_nil))))))))) (by decide) h⟩
theorem ok_inner (T : Tx K mg) : FnOk P w K mg base CX0 1 T.a_inner T.d_inner ["row"] (spF K 1 F_inner) := by
    refine T.F_inner.ok sc_inner (fun vs H Q E h => h.1) (fun cdv A outer s H vs Q E hr h => ?_)
    have nd := sc_inner.nd
    exact ⟨_, (pss_one (ps_ret (pe_listRg (by rfl) (by rfl) T.n_list (prg_2 (by rfl) T.n_range pe_int (pe_op op_sub (pe_callB call_lenU (by rfl) T.n_len (by decide +kernel) (pa_cons (pv 0) pa_nil)) pe_int))))),
      run_F (N := N_inner) (ds_retF (df_listRg2 de_int (de_op sn_sub (do_e (de_cb sn_len (da_cons (do_e de_v) da_nil))) (do_e de_int)))) (by decide) h⟩
theorem ok_dips (T : Tx K mg) : FnOk P w K mg base CX0 2 T.a_dips T.d_dips ["row"] (spF K 1 F_dips) := by
    refine T.F_dips.ok sc_dips (fun vs H Q E h => h.1) (fun cdv A outer s H vs Q E hr h => ?_)
    have nd := sc_dips.nd
    exact ⟨_, (pss_one (ps_ret (pe_lc (own := [("person", 1)]) (by rfl) nd (pi_seqU (pe_call (ok_inner T) (hr.mono (by decide)) (by rfl) T.m_inner T.F_inner.kp T.b_inner .nil pass0 (pa_cons (pv 0) pa_nil))) (blkOk_by (own := [("person", 1)]) (N := N_dips) (sc := defScope s_dips) (by decide +kernel)) (fun _ _ _ _ _ => (pg_name (i := 1) nd rfl (Or.inl rfl))) (fun _ _ _ _ _ => (pts_one (pt_chain op_gt op_lt (pe_ix ix_seq (pv 0) (pe_op op_sub (pv 1) pe_int) (fun _ _ => rfl)) (pe_ix ix_seq (pv 0) (pv 1) (fun _ _ => rfl)) (pe_ix ix_seq (pv 0) (pe_op op_addU (pv 1) pe_int) (fun _ _ => rfl))))) (fun _ _ _ _ _ => (pv 1))))),
      run_F (N := N_dips) (ds_retF (df_lc (di_seq (de_l (df_call callF_len (da_cons (do_e de_v) da_nil)))) (dg_name (by decide)) (dt_test (de_chain sn_gt sn_lt (do_e (de_op sn_ix (do_e de_v) (do_e (de_op sn_sub (do_e de_v) (do_e de_int))))) (do_e (de_op sn_ix (do_e de_v) (do_e de_v))) (do_e (de_op sn_ix (do_e de_v) (do_e (de_op sn_addU (do_e de_v) (do_e de_int))))))) de_v)) (by decide) h⟩
theorem ok_tops (T : Tx K mg) : FnOk P w K mg base CX0 2 T.a_tops T.d_tops ["row"] (spF K 1 F_tops) := by
    refine T.F_tops.ok sc_tops (fun vs H Q E h => h.1) (fun cdv A outer s H vs Q E hr h => ?_)
    have nd := sc_tops.nd
    exact ⟨_, (pss_one (ps_ret (pe_lc (own := [("person", 1)]) (by rfl) nd (pi_seqU (pe_call (ok_inner T) (hr.mono (by decide)) (by rfl) T.m_inner T.F_inner.kp T.b_inner .nil pass0 (pa_cons (pv 0) pa_nil))) (blkOk_by (own := [("person", 1)]) (N := N_tops) (sc := defScope s_tops) (by decide +kernel)) (fun _ _ _ _ _ => (pg_name (i := 1) nd rfl (Or.inl rfl))) (fun _ _ _ _ _ => (pts_one (pt_chain op_lt op_gt (pe_ix ix_seq (pv 0) (pe_op op_sub (pv 1) pe_int) (fun _ _ => rfl)) (pe_ix ix_seq (pv 0) (pv 1) (fun _ _ => rfl)) (pe_ix ix_seq (pv 0) (pe_op op_addU (pv 1) pe_int) (fun _ _ => rfl))))) (fun _ _ _ _ _ => (pv 1))))),
      run_F (N := N_tops) (ds_retF (df_lc (di_seq (de_l (df_call callF_len (da_cons (do_e de_v) da_nil)))) (dg_name (by decide)) (dt_test (de_chain sn_lt sn_gt (do_e (de_op sn_ix (do_e de_v) (do_e (de_op sn_sub (do_e de_v) (do_e de_int))))) (do_e (de_op sn_ix (do_e de_v) (do_e de_v))) (do_e (de_op sn_ix (do_e de_v) (do_e (de_op sn_addU (do_e de_v) (do_e de_int))))))) de_v)) (by decide) h⟩
theorem ok_options_of (T : Tx K mg) : FnOk P w K mg base CX0 3 T.a_options_of T.d_options_of ["row", "wish"] (spF K 2 F_options_of) := by
    refine T.F_options_of.ok sc_options_of (fun vs H Q E h => h.1) (fun cdv A outer s H vs Q E hr h => ?_)
    have nd := sc_options_of.nd
    exact ⟨_, (pss_cons (ps_par3 (i := 2) (j := 3) (l := 4) (by rfl) nd rfl rfl rfl (by decide) (by decide) (by decide) rfl rfl rfl (pa_cons (pe_call (ok_tops T) (hr.mono (by decide)) (by rfl) T.m_tops T.F_tops.kp T.b_tops .nil pass0 (pa_cons (pv 0) pa_nil)) (pa_cons (pe_call (ok_dips T) (hr.mono (by decide)) (by rfl) T.m_dips T.F_dips.kp T.b_dips .nil pass0 (pa_cons (pv 0) pa_nil)) (pa_cons (pe_lst pa_nil) pa_nil))) (by rfl)) (pss_cons (ps_for PassesOwn.never rfl (pi_enumU (by rfl) T.n_enumerate (pa_cons (pv 0) pa_nil)) (pg_tup rfl (pgs_cons (pg_name (i := 5) nd rfl (Or.inr rfl)) (pgs_cons (pg_name (i := 6) nd rfl (Or.inr rfl)) pgs_nil))) (pss_cons (ps_set (i := 7) nd rfl (Or.inl rfl) (pe_lst (pa_cons (pe_tup (pa_cons (pv 6) (pa_cons pe_bl pa_nil))) pa_nil))) (pss_cons (ps_if (pt_cmpR op_in_seq (pv 5) (pv 2) (by rfl)) (pss_one (ps_expr (pe_bm PySem.F.plainAttrs_list PySem.F.slot_list_extend PySem.F.type_list_extend mt_extend (pv 7) (pa_cons (pe_lc (own := [("number", 8)]) (by rfl) nd (pi_seqU (pe_srtSet (by rfl) T.n_sorted (by rfl) T.n_set (pv 0))) (blkOk_by (own := [("number", 8)]) (N := N_options_of) (sc := defScope s_options_of) (by decide +kernel)) (fun _ _ _ _ _ => (pg_name (i := 8) nd rfl (Or.inl rfl))) (fun _ _ _ _ _ => (pts_one (pt_cmpR op_lt (pv 8) (pv 6) (nomark _)))) (fun _ _ _ _ _ => (pe_tup (pa_cons (pv 8) (pa_cons pe_bl pa_nil))))) pa_nil)))) pss_nil) (pss_cons (ps_if (pt_cmpR op_in_seq (pv 5) (pv 3) (by rfl)) (pss_one (ps_expr (pe_bm PySem.F.plainAttrs_list PySem.F.slot_list_extend PySem.F.type_list_extend mt_extend (pv 7) (pa_cons (pe_lc (own := [("number", 8)]) (by rfl) nd (pi_seqU (pe_srtSet (by rfl) T.n_sorted (by rfl) T.n_set (pv 0))) (blkOk_by (own := [("number", 8)]) (N := N_options_of) (sc := defScope s_options_of) (by decide +kernel)) (fun _ _ _ _ _ => (pg_name (i := 8) nd rfl (Or.inl rfl))) (fun _ _ _ _ _ => (pts_one (pt_cmpR op_gt (pv 8) (pv 6) (nomark _)))) (fun _ _ _ _ _ => (pe_tup (pa_cons (pv 8) (pa_cons pe_bl pa_nil))))) pa_nil)))) pss_nil) (pss_one (ps_expr (pe_bm PySem.F.plainAttrs_list PySem.F.slot_list_append PySem.F.type_list_append mt_append (pv 4) (pa_cons (pe_callB (cr_sortN hr rfl) (by rfl) T.n_sorted (by decide +kernel) (pa_cons (pe_lc (own := [("option", 9)]) (by rfl) nd (pi_seqU (pv 7)) (blkOk_by (own := [("option", 9)]) (N := N_options_of) (sc := defScope s_options_of) (by decide +kernel)) (fun _ _ _ _ _ => (pg_name (i := 9) nd rfl (Or.inl rfl))) (fun _ _ _ _ _ => (pts_one (PW.pt (pw_or (pt_cmpR op_isU (pe_ix ix_seq (pv 1) (pv 5) (fun _ _ => rfl)) pe_non (nomark _)) (pw_or1 (pt_cmpR (op_eqU hr) (pe_ix ix_seq (pv 1) (pv 5) (fun _ _ => rfl)) (pe_ix ix_seq (pv 9) pe_int (fun _ _ => rfl)) (nomark _))))))) (fun _ _ _ _ _ => (pv 9))) pa_nil)) pa_nil)))))))) (pss_one (ps_ret (pv 4))))),
      run_F (N := N_options_of) (ds_seq (ds_par3f (de_l (df_call callF_len (da_cons (do_e de_v) da_nil))) (de_l (df_call callF_len (da_cons (do_e de_v) da_nil))) (df_lst da_nil)) (ds_seq (ds_for (ws := [5, 6]) (di_enum (da_cons (do_e de_v) da_nil)) (dg_tup (dgs_cons (dg_name (by decide)) (dgs_cons (dg_name (by decide)) dgs_nil))) (ds_seq (ds_setO (i := 7) (df_lst (da_cons (do_e (de_tup (da_cons (do_e de_v) (da_cons (do_e de_bl) da_nil)))) da_nil))) (ds_seq (ds_if (dt_test (de_op sn_in (do_e de_v) (do_e de_v))) (ds_ext (df_lc (di_seq (de_l (df_srtSet de_v))) (dg_name (by decide)) (dt_test (de_op sn_lt (do_e de_v) (do_e de_v))) (de_tup (da_cons (do_e de_v) (da_cons (do_e de_bl) da_nil))))) ds_next) (ds_seq (ds_if (dt_test (de_op sn_in (do_e de_v) (do_e de_v))) (ds_ext (df_lc (di_seq (de_l (df_srtSet de_v))) (dg_name (by decide)) (dt_test (de_op sn_gt (do_e de_v) (do_e de_v))) (de_tup (da_cons (do_e de_v) (da_cons (do_e de_bl) da_nil))))) ds_next) (ds_fz (i := 7) (ds_app (de_l (df_cb sn_sortN (da_cons (do_e (de_l (df_lc (di_seq de_v) (dg_name (by decide)) (dt_or (dt_test (de_op sn_is (do_e (de_op sn_ix (do_e de_v) (do_e de_v))) (do_e de_non))) (dt_test (de_op sn_eqW (do_e (de_op sn_ix (do_e de_v) (do_e de_v))) (do_e (de_op sn_ix (do_e de_v) (do_e de_int)))))) de_v))) da_nil))))))))) ds_retO)) (by decide) h⟩
theorem ok_spheres (T : Tx K mg) : FnOk P w K mg base CX0 4 T.a_spheres T.d_spheres ["row"] (spF K 1 F_spheres) := by
    refine T.F_spheres.ok sc_spheres (fun vs H Q E h => h.1) (fun cdv A outer s H vs Q E hr h => ?_)
    have nd := sc_spheres.nd
    exact ⟨_, (pss_cons (ps_par (i := 1) (j := 2) (by rfl) nd rfl rfl (by decide) rfl rfl (pa_cons (pe_call (ok_options_of T) (hr.mono (by decide)) (by rfl) T.m_options_of T.F_options_of.kp T.b_options_of .nil pass0 (pa_cons (pv 0) (pa_cons (pe_call (ok_free_wish T) (hr.mono (by decide)) (by rfl) T.m_free_wish T.F_free_wish.kp T.b_free_wish .nil pass0 (pa_cons (pv 0) pa_nil)) pa_nil))) (pa_cons (pe_ndisp hr pe_non (pe_ndisp hr pe_int pe_int)) pa_nil)) (by rfl)) (pss_cons (ps_for PassesOwn.never rfl (pi_range1 (by rfl) T.n_range (pa_cons (pe_callB call_lenU (by rfl) T.n_len (by decide +kernel) (pa_cons (pv 0) pa_nil)) pa_nil)) (pg_name (i := 3) nd rfl (Or.inl rfl)) (pss_cons (ps_set (i := 7) nd rfl (Or.inl rfl) pe_nnew) (pss_cons (ps_for PassesOwn.never rfl (pi_itemsN (pv 2)) (pg_tup rfl (pgs_cons (pg_name (i := 5) nd rfl (Or.inl rfl)) (pgs_cons (pg_name (i := 6) nd rfl (Or.inl rfl)) pgs_nil))) (pss_one (ps_for PassesOwn.never rfl (pi_seqU (pe_ix ix_seq (pv 1) (pv 3) (fun _ _ => rfl))) (pg_name (i := 8) nd rfl (Or.inl rfl)) (pss_cons (ps_set (i := 9) nd rfl (Or.inl rfl) (pe_call (ok_next_state T) (hr.mono (by decide)) (by rfl) T.m_next_state T.F_next_state.kp T.b_next_state .nil pass0 (pa_cons (pv 0) (pa_cons (pv 3) (pa_cons (pv 5) (pa_cons (pv 8) (pa_cons pe_bl pa_nil))))))) (pss_one (ps_if (pt_cmpR op_isNotU (pv 9) pe_non (nomark _)) (pss_cons (ps_nput hr (pv 7) (pv 9) (pe_bmD PySem.F.plainAttrs_dict PySem.F.slot_dict_get PySem.F.type_dict_get (mt_nget hr) (pv 7) (pa_cons (pv 9) (pa_cons pe_nnew pa_nil)))) (pss_one (ps_expr (pe_call (ok_add_up T) (hr.mono (by decide)) (by rfl) T.m_add_up T.F_add_up.kp T.b_add_up .nil pass0 (pa_cons (pe_ix (ix_dict hr) (pv 7) (pv 9) (fun _ _ => rfl)) (pa_cons (pv 6) (pa_cons (pe_callTy call_intU (by rfl) T.n_int (by decide +kernel) (pa_cons (pe_ix ix_seq (pv 8) pe_int (fun _ _ => rfl)) pa_nil)) pa_nil))))))) pss_nil)))))) (pss_one (ps_set (i := 2) nd rfl (Or.inl rfl) (pv 7)))))) (pss_cons (ps_set (i := 4) nd rfl (Or.inr rfl) pe_nnew) (pss_cons (ps_for PassesOwn.never rfl (pi_itemsN (pv 2)) (pg_tup rfl (pgs_cons (pg_name (i := 5) nd rfl (Or.inl rfl)) (pgs_cons (pg_name (i := 6) nd rfl (Or.inl rfl)) pgs_nil))) (pss_one (ps_if (PW.pt (pw_or (pt_cmpR op_isU (pv 5) pe_non (nomark _)) (pw_or1 (pt_val (pe_ix ix_seq (pv 5) pe_int (fun _ _ => rfl)))))) (pss_one (ps_expr (pe_call (ok_add_up T) (hr.mono (by decide)) (by rfl) T.m_add_up T.F_add_up.kp T.b_add_up .nil pass0 (pa_cons (pv 4) (pa_cons (pv 6) (pa_cons pe_int pa_nil)))))) pss_nil))) (pss_one (ps_ret (pe_lc (own := [("many", 10)]) (by rfl) nd (pi_range1 (by rfl) T.n_range (pa_cons (pe_op op_addU (pe_callB (cr_maxD hr rfl) (by rfl) T.n_max (by decide +kernel) (pa_cons (pv 4) pa_nil)) pe_int) pa_nil)) (blkOk_by (own := [("many", 10)]) (N := N_spheres) (sc := defScope s_spheres) (by decide +kernel)) (fun _ _ _ _ _ => (pg_name (i := 10) nd rfl (Or.inl rfl))) (fun _ _ _ _ _ => pts_nil) (fun _ _ _ _ _ => (pe_bmD PySem.F.plainAttrs_dict PySem.F.slot_dict_get PySem.F.type_dict_get (mt_nget hr) (pv 4) (pa_cons (pv 10) (pa_cons pe_int pa_nil))))))))))),
      run_F (N := N_spheres) (ds_seq (ds_par (dn_s (de_l (df_call callF_len (da_cons (do_e de_v) (da_cons (do_e (de_l (df_call callF_len (da_cons (do_e de_v) da_nil)))) da_nil))))) (dn_s (de_d (dd_disp de_non (de_d (dd_disp de_int de_int)))))) (ds_seq (ds_for (ws := [3]) (di_rng1 (da_cons (do_e (de_cb sn_len (da_cons (do_e de_v) da_nil))) da_nil)) (dg_name (by decide)) (ds_nest (f := 7) (h := 2) (ns_for (ws := [5, 6]) (di_items de_v) (dg_tup (dgs_cons (dg_name (by decide)) (dgs_cons (dg_name (by decide)) dgs_nil))) (ns_for (ws := [8]) (di_seq (de_op sn_ix (do_e de_v) (do_e de_v))) (dg_name (by decide)) (ns_seq (ns_set (i := 9) (de_call callP_len (da_cons (do_e de_v) (da_cons (do_e de_v) (da_cons (do_e de_v) (da_cons (do_e de_v) (da_cons (do_e de_bl) da_nil))))))) (ns_if (dt_test (de_op sn_isNot (do_e de_v) (do_e de_non))) (ns_seq (ns_get (l := 9)) (ns_add (l := 9) (st := 6) (de_cb sn_int (da_cons (do_e (de_op sn_ix (do_e de_v) (do_e de_int))) da_nil)))) ns_next)))))) (ds_seq (ds_setD (i := 4) dd_new) (ds_seq (ds_for (ws := [5, 6]) (di_items de_v) (dg_tup (dgs_cons (dg_name (by decide)) (dgs_cons (dg_name (by decide)) dgs_nil))) (ds_if (dt_or (dt_test (de_op sn_is (do_e de_v) (do_e de_non))) (dt_B (de_op sn_ix (do_e de_v) (do_e de_int)))) (ds_addO (i := 4) de_v de_int) ds_next)) (ds_retF (df_lc (di_rng1 (da_cons (do_e (de_op sn_addU (do_e (de_cb sn_maxD (da_cons do_v da_nil))) (do_e de_int))) da_nil)) (dg_name (by decide)) dt_yes (de_nget do_v de_v de_int))))))) (by decide) h⟩
theorem ok_farthest (T : Tx K mg) : FnOk P w K mg base CX0 5 T.a_farthest T.d_farthest ["row"] (spP K 1 F_farthest) := by
    refine T.F_farthest.ok sc_farthest (fun vs H Q E h => h.1) (fun cdv A outer s H vs Q E hr h => ?_)
    have nd := sc_farthest.nd
    exact ⟨_, (pss_one (ps_ret (pe_op op_sub (pe_callB call_lenU (by rfl) T.n_len (by decide +kernel) (pa_cons (pe_call (ok_spheres T) (hr.mono (by decide)) (by rfl) T.m_spheres T.F_spheres.kp T.b_spheres .nil pass0 (pa_cons (pv 0) pa_nil)) pa_nil)) pe_int))),
      run_P (N := N_farthest) (ds_ret (de_op sn_sub (do_e (de_cb sn_len (da_cons (do_e (de_l (df_call callF_len (da_cons (do_e de_v) da_nil)))) da_nil))) (do_e de_int))) (by decide) h⟩
theorem ok_fraction (T : Tx K mg) : FnOk P w K mg base CX0 1 T.a_fraction T.d_fraction ["numerator", "denominator"] (spP K 2 F_fraction) := by
    refine T.F_fraction.ok sc_fraction (fun vs H Q E h => h.1) (fun cdv A outer s H vs Q E hr h => ?_)
    have nd := sc_fraction.nd
    exact ⟨_, (pss_cons (ps_par (i := 2) (j := 3) (by rfl) nd rfl rfl (by decide) rfl rfl (pa_cons (pv 1) (pa_cons (pe_callB call_absU (by rfl) T.n_abs (by decide +kernel) (pa_cons (pv 0) pa_nil)) pa_nil)) (by rfl)) (pss_cons (ps_while PassesOwn.never (pt_cmpR op_gt (pv 3) pe_int (nomark _)) (pss_one (ps_par (i := 2) (j := 3) (by rfl) nd rfl rfl (by decide) rfl rfl (pa_cons (pv 3) (pa_cons (pe_op op_mod (pv 2) (pv 3)) pa_nil)) (by rfl)))) (pss_one (ps_ret (pe_tup (pa_cons (pe_op op_fdivW (pv 0) (pv 2)) (pa_cons (pe_op op_fdivW (pv 1) (pv 2)) pa_nil))))))),
      run_P (N := N_fraction) (ds_seq (ds_par (dn_s de_v) (dn_s (de_cb sn_abs (da_cons (do_e de_v) da_nil)))) (ds_seq (ds_while (n := 1000) (dt_test (de_op sn_gt (do_e de_v) (do_e de_int))) (ds_par (dn_s de_v) (dn_s (de_op sn_mod (do_e de_v) (do_e de_v))))) (ds_ret (de_tup (da_cons (do_e (de_op sn_fdiv (do_e de_v) (do_e de_v))) (da_cons (do_e (de_op sn_fdiv (do_e de_v) (do_e de_v))) da_nil)))))) (by decide) h⟩
theorem ok_mean_distance (T : Tx K mg) : FnOk P w K mg base CX0 5 T.a_mean_distance T.d_mean_distance ["row"] (spP K 1 F_mean_distance) := by
    refine T.F_mean_distance.ok sc_mean_distance (fun vs H Q E h => h.1) (fun cdv A outer s H vs Q E hr h => ?_)
    have nd := sc_mean_distance.nd
    exact ⟨_, (pss_cons (ps_set (i := 1) nd rfl (Or.inl rfl) (pe_call (ok_spheres T) (hr.mono (by decide)) (by rfl) T.m_spheres T.F_spheres.kp T.b_spheres .nil pass0 (pa_cons (pv 0) pa_nil))) (pss_one (ps_ret (pe_call (ok_fraction T) (hr.mono (by decide)) (by rfl) T.m_fraction T.F_fraction.kp T.b_fraction .nil pass0 (pa_cons (pe_callB (cr_sum rfl) (by rfl) T.n_sum (by decide +kernel) (pa_cons (pe_lc (own := [("many", 2), ("rows", 3)]) (by rfl) nd (pi_enumU (by rfl) T.n_enumerate (pa_cons (pv 1) pa_nil)) (blkOk_by (own := [("many", 2), ("rows", 3)]) (N := N_mean_distance) (sc := defScope s_mean_distance) (by decide +kernel)) (fun _ _ _ _ _ => (pg_tup rfl (pgs_cons (pg_name (i := 2) nd rfl (Or.inl rfl)) (pgs_cons (pg_name (i := 3) nd rfl (Or.inl rfl)) pgs_nil)))) (fun _ _ _ _ _ => pts_nil) (fun _ _ _ _ _ => (pe_op op_mulT (pv 2) (pv 3)))) pa_nil)) (pa_cons (pe_callB (cr_sum rfl) (by rfl) T.n_sum (by decide +kernel) (pa_cons (pv 1) pa_nil)) pa_nil)))))),
      run_P (N := N_mean_distance) (ds_seq (ds_set (i := 1) (de_l (df_call callF_len (da_cons (do_e de_v) da_nil)))) (ds_ret (de_call callP_len (da_cons (do_e (de_cb sn_sum (da_cons (do_e (de_l (df_lc (di_enum (da_cons (do_e de_v) da_nil)) (dg_tup (dgs_cons (dg_name (by decide)) (dgs_cons (dg_name (by decide)) dgs_nil))) dt_yes (de_op sn_mulV (do_e de_v) (do_e de_v))))) da_nil))) (da_cons (do_e (de_cb sn_sum (da_cons (do_e de_v) da_nil))) da_nil))))) (by decide) h⟩
theorem ok__law_right (T : Tx K mg) : FnOk P w K mg base CX0 10 T.a__law_right T.d__law_right ["_law_box_here"] (spB K 1 F__law_right) := by
    refine T.F__law_right.ok sc__law_right (fun vs H Q E h => h.1) (fun cdv A outer s H vs Q E hr h => ?_)
    have nd := sc__law_right.nd
    exact ⟨_, (pss_cons (ps_set (i := 1) nd rfl (Or.inl rfl) (pe_call (ok__law_random_line T) (hr.mono (by decide)) (by rfl) T.m__law_random_line T.F__law_random_line.kp T.b__law_random_line .nil pass0 (pa_cons (pv 0) (pa_cons pe_int (pa_cons (pe_call (ok__law_of T) (hr.mono (by decide)) (by rfl) T.m__law_of T.F__law_of.kp T.b__law_of .nil pass0 (pa_cons (pv 0) (pa_cons (pe_lst (pa_cons pe_int (pa_cons pe_int (pa_cons (pe_op op_pow pe_int pe_int) pa_nil)))) pa_nil))) pa_nil))))) (pss_cons (ps_asg (pe_tup (pa_cons (pe_callTy call_listU (by rfl) T.n_list (by decide +kernel) (pa_cons (pv 1) pa_nil)) (pa_cons (pe_srtVals hr (by rfl) (by rfl) T.n_sorted (pe_call (ok__law_layers T) (hr.mono (by decide)) (by rfl) T.m__law_layers T.F__law_layers.kp T.b__law_layers .nil pass0 (pa_cons (pv 1) pa_nil))) pa_nil))) (pg_tup rfl (pgs_cons (pg_name (i := 2) nd rfl (Or.inl rfl)) (pgs_cons (pg_name (i := 3) nd rfl (Or.inr rfl)) pgs_nil)))) (pss_cons (ps_par (i := 4) (j := 5) (by rfl) nd rfl rfl (by decide) rfl rfl (pa_cons (pe_lc (own := [("_law_step", 8)]) (by rfl) nd (pi_range1 (by rfl) T.n_range (pa_cons (pe_op op_addU (pe_ix ix_seq (pv 3) (pe_un un_neg pe_int) (fun _ _ => rfl)) pe_int) pa_nil)) (blkOk_by (own := [("_law_step", 8)]) (N := N__law_right) (sc := defScope s__law_right) (by decide +kernel)) (fun _ _ _ _ _ => (pg_name (i := 8) nd rfl (Or.inl rfl))) (fun _ _ _ _ _ => pts_nil) (fun _ _ _ _ _ => (pe_bm PySem.F.plainAttrs_list PySem.F.slot_list_count PySem.F.type_list_count mt_lcount (pv 3) (pa_cons (pv 8) pa_nil)))) (pa_cons (pe_call (ok__law_ratio T) (hr.mono (by decide)) (by rfl) T.m__law_ratio T.F__law_ratio.kp T.b__law_ratio .nil pass0 (pa_cons (pe_callB (cr_sum rfl) (by rfl) T.n_sum (by decide +kernel) (pa_cons (pv 3) pa_nil)) (pa_cons (pe_callB call_lenU (by rfl) T.n_len (by decide +kernel) (pa_cons (pv 3) pa_nil)) pa_nil))) pa_nil)) (by rfl)) (pss_cons (ps_set (i := 6) nd rfl (Or.inl rfl) (pe_lst (pa_cons (pe_call (ok_spheres T) (hr.mono (by decide)) (by rfl) T.m_spheres T.F_spheres.kp T.b_spheres .nil pass0 (pa_cons (pv 1) pa_nil)) (pa_cons (pe_callW (ok_spheres T) (hr.mono (by decide)) (by rfl) T.m_spheres T.F_spheres.kp T.k_spheres_row pass0 (pk_cons (pv 2) pk_nil)) pa_nil)))) (pss_cons (ps_if (pt_not (pt_val (pe_call (ok__law_same T 6) (hr.mono (by decide)) (by rfl) T.m__law_same T.F__law_same.kp T.b__law_same .nil pass0 (pa_cons (pv 6) (pa_cons (pe_lst (pa_cons (pv 4) (pa_cons (pv 4) pa_nil))) pa_nil))))) (pss_one (ps_ret pe_bl)) pss_nil) (pss_cons (ps_expr (pe_bm PySem.F.plainAttrs_list PySem.F.slot_list_append PySem.F.type_list_append mt_append (pe_ix ix_seq (pv 6) pe_int (fun _ _ => rfl)) (pa_cons pe_str pa_nil))) (pss_cons (ps_set (i := 7) nd rfl (Or.inl rfl) (pe_lst (pa_cons (pe_call (ok_spheres T) (hr.mono (by decide)) (by rfl) T.m_spheres T.F_spheres.kp T.b_spheres .nil pass0 (pa_cons (pv 1) pa_nil)) (pa_cons (pe_call (ok_farthest T) (hr.mono (by decide)) (by rfl) T.m_farthest T.F_farthest.kp T.b_farthest .nil pass0 (pa_cons (pv 1) pa_nil)) (pa_cons (pe_callW (ok_farthest T) (hr.mono (by decide)) (by rfl) T.m_farthest T.F_farthest.kp T.k_farthest_row pass0 (pk_cons (pv 2) pk_nil)) (pa_cons (pe_call (ok_mean_distance T) (hr.mono (by decide)) (by rfl) T.m_mean_distance T.F_mean_distance.kp T.b_mean_distance .nil pass0 (pa_cons (pv 1) pa_nil)) (pa_cons (pe_callW (ok_mean_distance T) (hr.mono (by decide)) (by rfl) T.m_mean_distance T.F_mean_distance.kp T.k_mean_distance_row pass0 (pk_cons (pv 2) pk_nil)) pa_nil))))))) (pss_one (ps_ret (pe_and (pe_call (ok__law_same T 6) (hr.mono (by decide)) (by rfl) T.m__law_same T.F__law_same.kp T.b__law_same .nil pass0 (pa_cons (pv 7) (pa_cons (pe_lst (pa_cons (pv 4) (pa_cons (pe_ix ix_seq (pv 3) (pe_un un_neg pe_int) (fun _ _ => rfl)) (pa_cons (pe_ix ix_seq (pv 3) (pe_un un_neg pe_int) (fun _ _ => rfl)) (pa_cons (pv 5) (pa_cons (pv 5) pa_nil)))))) pa_nil))) (pe_one (pe_cmpR (op_eqU hr) (pe_callTy call_tupleU (by rfl) T.n_tuple (by decide +kernel) (pa_cons (pv 2) pa_nil)) (pv 1) (nomark _))))))))))))),
      run_B (N := N__law_right) (ds_seq (ds_set (i := 1) (de_callB callB_len (da_cons (do_e de_int) (da_cons (do_e (de_callB callB_len (da_cons (do_e (de_l (df_lst (da_cons (do_e de_int) (da_cons (do_e de_int) (da_cons (do_e (de_op sn_pow (do_e de_int) (do_e de_int))) da_nil)))))) da_nil))) da_nil)))) (ds_seq (ds_to (ws := [2, 3]) (de_tup (da_cons (do_e (de_l (df_cb sn_list (da_cons (do_e de_v) da_nil)))) (da_cons (do_e (de_l (df_srtVals (de_call callP_len (da_cons (do_e de_v) da_nil))))) da_nil))) (dg_tup (dgs_cons (dg_name (by decide)) (dgs_cons (dg_name (by decide)) dgs_nil)))) (ds_seq (ds_par (dn_s (de_l (df_lc (di_rng1 (da_cons (do_e (de_op sn_addU (do_e (de_op sn_ix (do_e de_v) (do_e (de_un sn_neg (do_e de_int))))) (do_e de_int))) da_nil)) (dg_name (by decide)) dt_yes (de_cntI de_v de_v)))) (dn_s (de_call callP_len (da_cons (do_e (de_cb sn_sum (da_cons (do_e de_v) da_nil))) (da_cons (do_e (de_cb sn_len (da_cons (do_e de_v) da_nil))) da_nil))))) (ds_heardT (h := 6) (dnl_f (df_call callF_len (da_cons (do_e de_v) da_nil)) (dnl_f (df_callW kw_idL callF_len (da_cons (do_e de_v) da_nil)) dnl_nil)) (de_l (df_lst (da_cons (do_e de_v) (da_cons (do_e de_v) da_nil)))) (ht_apps (x := "more") (js := [0])) (ds_seq (ds_set (i := 7) (de_l (df_lst (da_cons (do_e (de_l (df_call callF_len (da_cons (do_e de_v) da_nil)))) (da_cons (do_e (de_call callP_len (da_cons (do_e de_v) da_nil))) (da_cons (do_e (de_callW kw_idL callP_len (da_cons (do_e de_v) da_nil))) (da_cons (do_e (de_call callP_len (da_cons (do_e de_v) da_nil))) (da_cons (do_e (de_callW kw_idL callP_len (da_cons (do_e de_v) da_nil))) da_nil)))))))) (ds_ret (de_and (de_call (Fl__law_same _) (da_cons (do_e de_v) (da_cons (do_e (de_l (df_lst (da_cons (do_e de_v) (da_cons (do_e (de_op sn_ix (do_e de_v) (do_e (de_un sn_neg (do_e de_int))))) (da_cons (do_e (de_op sn_ix (do_e de_v) (do_e (de_un sn_neg (do_e de_int))))) (da_cons (do_e de_v) (da_cons (do_e de_v) da_nil)))))))) da_nil))) (de_op sn_eqW (do_e (de_cb sn_tuple (da_cons (do_e de_v) da_nil))) (do_e de_v))))))))) (by decide) h⟩
theorem ok_law (T : Tx K mg) : FnOk P w K mg base CX0 11 T.a_law T.d_law ["_law_script"] (spP K 1 F_law) := by
    refine T.F_law.ok sc_law (fun vs H Q E h => h.1) (fun cdv A outer s H vs Q E hr h => ?_)
    have nd := sc_law.nd
    exact ⟨_, (pss_cons (ps_set (i := 1) nd rfl (Or.inl rfl) (pe_call (ok__law_cells T) (hr.mono (by decide)) (by rfl) T.m__law_cells T.F__law_cells.kp T.b__law_cells .nil pass0 (pa_cons (pv 0) (pa_cons pe_int pa_nil)))) (pss_cons (ps_for PassesOwn.never rfl (pi_range1 (by rfl) T.n_range (pa_cons (pe_callB call_lenU (by rfl) T.n_len (by decide +kernel) (pa_cons (pv 1) pa_nil)) pa_nil)) (pg_name (i := 2) nd rfl (Or.inl rfl)) (pss_cons (ps_set (i := 3) nd rfl (Or.inr rfl) (pe_call (ok__law_box T) (hr.mono (by decide)) (by rfl) T.m__law_box T.F__law_box.kp T.b__law_box .nil pass0 (pa_cons (pv 1) (pa_cons (pv 2) pa_nil)))) (pss_one (ps_if (pt_not (pt_val (pe_callB (cr_all rfl) (by rfl) T.n_all (by decide +kernel) (pa_cons (pe_lc (own := [("_law_turn", 4)]) (by rfl) nd (pi_range1 (by rfl) T.n_range (pa_cons pe_int pa_nil)) (blkOk_by (own := [("_law_turn", 4)]) (N := N_law) (sc := defScope s_law) (by decide +kernel)) (fun _ _ _ _ _ => (pg_name (i := 4) nd rfl (Or.inl rfl))) (fun _ _ _ _ _ => pts_nil) (fun _ _ _ _ _ => (pe_call (ok__law_right T) (hr.mono (by decide)) (by rfl) T.m__law_right T.F__law_right.kp T.b__law_right .nil pass0 (pa_cons (pv 3) pa_nil)))) pa_nil)))) (pss_one (ps_ret pe_bl)) pss_nil)))) (pss_one (ps_ret pe_bl)))),
      run_P (N := N_law) (ds_seq (ds_set (i := 1) (de_call callP_len (da_cons (do_e de_v) (da_cons (do_e de_int) da_nil)))) (ds_seq (ds_for (ws := [2]) (di_rng1 (da_cons (do_e (de_cb sn_len (da_cons (do_e de_v) da_nil))) da_nil)) (dg_name (by decide)) (ds_seq (ds_setO (i := 3) (df_call callF_len (da_cons (do_e de_v) (da_cons (do_e de_v) da_nil)))) (ds_if (dt_not (dt_B (de_cb sn_all (da_cons (do_e (de_l (df_lc (di_rng1 (da_cons (do_e de_int) da_nil)) (dg_name (by decide)) dt_yes (de_callB callB_len da_nil)))) da_nil)))) (ds_ret de_bl) ds_next))) (ds_ret de_bl))) (by decide) h⟩
end
end W
namespace W
open PySem L2 DL
local macro_rules | `(tactic| walk_at "ev") => `(tactic| simp only [eC, eV, oE, oV, eL, eT, aNil, aCons, eOp2, eOp1, eApp, tstE, eB, tNotG, tAndG, tOrG, eAndG, eOrG, eNotG, eIf, eSeq, eCall, eCallO, eCallB, eCallBF, eCallBX, sSeq, sNext, sRet, sRetF, sRetO, sRetN, sDrop, sIf, sSet, sSetO, sBreak, sCont, sBad, sPar, sPar3, fz, sFz, eCallW, idL, sApp, sPutIx, sAug, sFor, gN, gT, gsCons, gsNil, gYes, eLc, gSeq, nS, nF, Nw.sl, R.ok_bind, R.ok_map, R.lift_some, to_ok, toX_ok, toX_ex, bind_nx, bind_rt, bind_rf, bind_ex, bind_bk, bind_ct, at_ok, at_ex, res_val, map_ex, rbind_ex, Op.res, resA, valA, isOw, box0, Option.map_some, Option.bind_some, sHeardT, nlCons, nlNil, Nw.dat, mSet, eChain, eRg1, eRg2, eSl, pNo, pSo,
  List.getElem?_cons_zero, List.getElem?_cons_succ, List.set_cons_zero, List.set_cons_succ, List.length_cons, List.length_nil, if_true, if_false, Bool.false_eq_true, ite_true, ite_false, reduceIte,
  addU_int, subD_int, ltD_int, leD_int, gtD_int, geD_int, negD_int, absD_int, intD_bool, intD_int, lenD_list, lenD_tuple, lenD_scr, pow10_7, pow10_18, pow10_40, eqW_ints, neW_ints, eqW_strs, neW_strs, eqW_none, eqW_in, eqW_ni, ixD_list, ixD_tuple, ixD_scr, atI_3_0, atI_3_1, atI_3_2, ixN_3_0, ixN_3_1, ixN_3_2, wipeR, zip2D, skOf, isiD_n, isiD_b, isiD_i, isiD_s, isiD_l, isiD_t, isiTD_n, isiTD_b, isiTD_i, isiTD_s, isiTD_l, isiTD_t, isiAny, eCallX, eCallWX, xE, xIf, xL, xCb1, sSetX, sRetX, sDropX, sRaise, sTo, eMk, isX_n, sKeep, kt_ll, kt_lt, kt_ls, kt_li, kt_lb, kt_tl, kt_tt, kt_ts, kt_ti, kt_tb, kt_sl, kt_st, kt_ss, kt_si, kt_sb, kt_il, kt_it, kt_is, kt_ii, kt_ib, kt_bl, kt_bt, kt_bs, kt_bi, kt_bb, kt_nl, kt_nt, kt_ns, kt_ni, kt_nb, eqW_bools, neW_bools, isD_none, isNotD_none, isNoneD, isNone_e, List.map_cons, List.map_nil, List.replicate, List.append_nil, List.cons_append, List.nil_append, nc0, nc1, nc2, nc3, nc4, nc5, nc6, nc7, nc8, nc9, nc10, nc11, nc12, nc13, nc14, nc15, nc16, nc17, nc18, nc19, nc20, Nat.reduceAdd, Nat.reduceSub, ne_eq, decide_true, decide_false, not_true_eq_false, not_false_eq_true, reduceCtorEq, Bool.and_true, Bool.true_and, Bool.and_false, Bool.false_and, Bool.or_true, Bool.true_or, Bool.or_false, Bool.false_or, Bool.not_true, Bool.not_false])
local macro_rules | `(tactic| walk_at "evh") => `(tactic| simp only [eC, eV, oE, oV, eL, eT, aNil, aCons, eOp2, eOp1, eApp, tstE, eB, tNotG, tAndG, tOrG, eAndG, eOrG, eNotG, eIf, eSeq, eCall, eCallO, eCallB, eCallBF, eCallBX, sSeq, sNext, sRet, sRetF, sRetO, sRetN, sDrop, sIf, sSet, sSetO, sBreak, sCont, sBad, sPar, sPar3, fz, sFz, eCallW, idL, sApp, sPutIx, sAug, sFor, gN, gT, gsCons, gsNil, gYes, eLc, gSeq, nS, nF, Nw.sl, R.ok_bind, R.ok_map, R.lift_some, to_ok, toX_ok, toX_ex, bind_nx, bind_rt, bind_rf, bind_ex, bind_bk, bind_ct, at_ok, at_ex, res_val, map_ex, rbind_ex, Op.res, resA, valA, isOw, box0, Option.map_some, Option.bind_some, sHeardT, nlCons, nlNil, Nw.dat, mSet, eChain, eRg1, eRg2, eSl, pNo, pSo,
  List.getElem?_cons_zero, List.getElem?_cons_succ, List.set_cons_zero, List.set_cons_succ, List.length_cons, List.length_nil, if_true, if_false, Bool.false_eq_true, ite_true, ite_false, reduceIte,
  addU_int, subD_int, ltD_int, leD_int, gtD_int, geD_int, negD_int, absD_int, intD_bool, intD_int, lenD_list, lenD_tuple, lenD_scr, pow10_7, pow10_18, pow10_40, eqW_ints, neW_ints, eqW_strs, neW_strs, eqW_none, eqW_in, eqW_ni, ixD_list, ixD_tuple, ixD_scr, atI_3_0, atI_3_1, atI_3_2, ixN_3_0, ixN_3_1, ixN_3_2, wipeR, zip2D, skOf, isiD_n, isiD_b, isiD_i, isiD_s, isiD_l, isiD_t, isiTD_n, isiTD_b, isiTD_i, isiTD_s, isiTD_l, isiTD_t, isiAny, eCallX, eCallWX, xE, xIf, xL, xCb1, sSetX, sRetX, sDropX, sRaise, sTo, eMk, isX_n, sKeep, kt_ll, kt_lt, kt_ls, kt_li, kt_lb, kt_tl, kt_tt, kt_ts, kt_ti, kt_tb, kt_sl, kt_st, kt_ss, kt_si, kt_sb, kt_il, kt_it, kt_is, kt_ii, kt_ib, kt_bl, kt_bt, kt_bs, kt_bi, kt_bb, kt_nl, kt_nt, kt_ns, kt_ni, kt_nb, eqW_bools, neW_bools, isD_none, isNotD_none, isNoneD, isNone_e, List.map_cons, List.map_nil, List.replicate, List.append_nil, List.cons_append, List.nil_append, nc0, nc1, nc2, nc3, nc4, nc5, nc6, nc7, nc8, nc9, nc10, nc11, nc12, nc13, nc14, nc15, nc16, nc17, nc18, nc19, nc20, Nat.reduceAdd, Nat.reduceSub, ne_eq, decide_true, decide_false, not_true_eq_false, not_false_eq_true, reduceCtorEq, Bool.and_true, Bool.true_and, Bool.and_false, Bool.false_and, Bool.or_true, Bool.true_or, Bool.or_false, Bool.false_or, Bool.not_true, Bool.not_false, *])
theorem take1 {a b c span : Int} (Fr : List D → List D → Option (D × List D)) (ha : 0 < a) (hs : 0 < span) (hs2 : span < 2 ^ 300) : callB 2 4 (g__law_take Fr) [.int a, .int b, .int c] [.int span] = some (.int (a % span), [.int (a / span), .int b, .int c]) := by
  have d1 : decide ((0:Int) < a) = true := decide_eq_true ha
  have e1 : modD (.int a) (.int span) = some (.int (a % span)) := modD_int hs
  have e2 : fdivD (.int a) (.int span) = some (.int (a / span)) := fdivD_int hs hs2
  unfold callB g__law_take envB
  walk_at "evh"
theorem take2 {b c span : Int} (Fr : List D → List D → Option (D × List D)) (hb : 0 ≤ b ∧ b < 2 ^ 62) (hc : 0 ≤ c ∧ c < 2 ^ 40) (hs : 0 < span) (hs2 : span ≤ 10000000) : ∃ r, callB 2 4 (g__law_take Fr) [.int 0, .int b, .int c] [.int span] = some (.int r, [.int 0, .int b, .int (c + 1)]) ∧ 0 ≤ r ∧ r < span := by
  have d2 : decide ((10000000:Int) < span) = false := decide_eq_false (by omega)
  have m1 : mulV (.int 39373) (.int (c + 1)) = some (.int (39373 * (c + 1))) := cmul_l (by omega)
  have m2 : ∀ y : Int, powD (.int (b + 39373 * (c + 1))) (.int 5) = some (.int ((b + 39373 * (c + 1)) ^ 5)) := fun _ => powD_int (by omega) (by omega) (by omega)
  have m2 := m2 0
  generalize hx : (b + 39373 * (c + 1)) ^ 5 = x at m2
  have m3 : modD (.int x) (.int 2147483647) = some (.int (x % 2147483647)) := modD_int (by omega)
  generalize hy : x % 2147483647 = y at m3
  have hy0 : 0 ≤ y ∧ y < 2147483647 := by omega
  have m4 : modD (.int y) (.int 40009) = some (.int (y % 40009)) := modD_int (by omega)
  have m5 : mulV (.int y) (.int (y % 40009 + 7)) = some (.int (y * (y % 40009 + 7))) := cmul_l (by omega)
  have m6 : mulV (.int (c + 1)) (.int 7919) = some (.int ((c + 1) * 7919)) := cmul_r (by omega)
  generalize hz : y * (y % 40009 + 7) + (c + 1) * 7919 = z
  have m7 : modD (.int z) (.int 2147483629) = some (.int (z % 2147483629)) := modD_int (by omega)
  have m8 : fdivD (.int (z % 2147483629)) (.int 64) = some (.int (z % 2147483629 / 64)) := fdivD_int (by omega) (by omega)
  have m9 : modD (.int (z % 2147483629 / 64)) (.int span) = some (.int (z % 2147483629 / 64 % span)) := modD_int hs
  refine ⟨z % 2147483629 / 64 % span, ?_, Int.emod_nonneg _ (by omega), Int.emod_lt_of_pos _ hs⟩
  have d1 : decide ((0:Int) < 0) = false := rfl
  unfold callB g__law_take envB
  clear hx hy
  walk_at "evh"
theorem take_small (k : Nat) {span n : Int} {box : List D} (hb : GoodBox n box) (hn : n < 2 ^ 40) (hs : 0 < span) (hs2 : span ≤ 10000000) : ∃ r box', F__law_take (k + 1) box [.int span] = some (.int r, box') ∧ 0 ≤ r ∧ r < span ∧ GoodBox (n + 1) box' := by
  obtain ⟨a, b, c, rfl, h1, h2, h3, h4, h5⟩ := hb
  by_cases ha : 0 < a
  · refine ⟨_, _, take1 _ ha hs (by omega), Int.emod_nonneg _ (by omega), Int.emod_lt_of_pos _ hs, _, _, _, rfl, ?_, h2, h3, h4, by omega⟩
    exact Int.ediv_nonneg h1 (by omega)
  · have e : a = 0 := by omega
    subst e
    obtain ⟨r, e, r1, r2⟩ := take2 (F__law_take k) ⟨h2, h3⟩ ⟨h4, by omega⟩ hs hs2
    exact ⟨r, _, e, r1, r2, _, _, _, rfl, by omega, h2, h3, by omega, by omega⟩
theorem take3 {b c span : Int} (Fr : List D → List D → Option (D × List D)) {r1 r2 : Int} {box1 box2 : List D} (hs : 10000000 < span) (hs2 : span < 2 ^ 300)
    (e1 : Fr [.int 0, .int b, .int c] [.int 10000000] = some (.int r1, box1)) (e2 : Fr box1 [.int ((span - 1) / 10000000 + 1)] = some (.int r2, box2)) :
    callB 2 4 (g__law_take Fr) [.int 0, .int b, .int c] [.int span] = some (.int ((r1 + 10000000 * r2) % span), box2) := by
  have d1 : decide ((0:Int) < 0) = false := rfl
  have d2 : decide ((10000000:Int) < span) = true := decide_eq_true hs
  have m1 : fdivD (.int (span - 1)) (.int 10000000) = some (.int ((span - 1) / 10000000)) := fdivD_int (by omega) (by omega)
  have m2 : mulV (.int 10000000) (.int r2) = some (.int (10000000 * r2)) := cmul_l (by omega)
  have m3 : modD (.int (r1 + 10000000 * r2)) (.int span) = some (.int ((r1 + 10000000 * r2) % span)) := modD_int (by omega)
  unfold callB g__law_take envB
  walk_at "evh"
def spB : Nat → Int
  | 0 => 10000000
  | k + 1 => spB k * 10000000
theorem spB_lt : ∀ k : Nat, k ≤ 7 → spB k < 2 ^ 300
  | 0, _ => by decide
  | 1, _ => by decide
  | 2, _ => by decide
  | 3, _ => by decide
  | 4, _ => by decide
  | 5, _ => by decide
  | 6, _ => by decide
  | 7, _ => by decide
  | k + 8, h => by omega
theorem take_spec : ∀ (k : Nat) {span n : Int} {box : List D}, GoodBox n box → n + k < 2 ^ 40 → 0 < span → span ≤ spB k → k ≤ 7 → ∃ r box', F__law_take (k + 1) box [.int span] = some (.int r, box') ∧ 0 ≤ r ∧ r < span ∧ GoodBox (n + k + 1) box'
  | 0, span, n, box, hb, hn, hs, hs2, hk => by
    obtain ⟨r, box', e, r1, r2, g⟩ := take_small 0 hb (by omega) hs hs2
    exact ⟨r, box', e, r1, r2, g.mono (by omega)⟩
  | k + 1, span, n, box, hb, hn, hs, hs2, hk => by
    by_cases hsm : span ≤ 10000000
    · obtain ⟨r, box', e, r1, r2, g⟩ := take_small (k + 1) hb (by omega) hs hsm
      exact ⟨r, box', e, r1, r2, g.mono (by omega)⟩
    · have hlt : span < 2 ^ 300 := by
        have := spB_lt (k + 1) hk
        omega
      obtain ⟨a, b, c, rfl, h1, h2, h3, h4, h5⟩ := id hb
      by_cases ha : 0 < a
      · refine ⟨_, _, take1 _ ha hs hlt, Int.emod_nonneg _ (by omega), Int.emod_lt_of_pos _ hs, _, _, _, rfl, ?_, h2, h3, h4, by omega⟩
        exact Int.ediv_nonneg h1 (by omega)
      · have e : a = 0 := by omega
        subst e
        have hX : span ≤ spB k * 10000000 := hs2
        obtain ⟨r1, box1, e1, q1, q2, g1⟩ := take_small k (span := 10000000) hb (by omega) (by omega) (by omega)
        obtain ⟨r2, box2, e2, q3, q4, g2⟩ := take_spec k (span := (span - 1) / 10000000 + 1) g1 (by omega) (by omega) (by omega) (by omega)
        exact ⟨_, _, take3 (F__law_take (k + 1)) (by omega) hlt e1 e2, Int.emod_nonneg _ (by omega), Int.emod_lt_of_pos _ hs, g2.mono (by omega)⟩
/-- the draw that the law's defs use -/
theorem take8 {span n : Int} {box : List D} (hb : GoodBox n box) (hn : n < 2 ^ 39) (hs : 0 < span) (hs2 : span ≤ 10 ^ 50) : ∃ r box', F__law_take 8 box [.int span] = some (.int r, box') ∧ 0 ≤ r ∧ r < span ∧ GoodBox (n + 8) box' := by
  obtain ⟨r, box', e, r1, r2, g⟩ := take_spec 7 hb (by omega) hs (by
    have : (10:Int) ^ 50 ≤ spB 7 := by decide
    omega) (by omega)
  exact ⟨r, box', e, r1, r2, g.mono (by omega)⟩
theorem all_true : ∀ xs : List D, allD [.list (xs.map fun _ => PyData.bool true)] = some (.bool true) := fun xs => by
  have e : boolsOf (xs.map fun _ => PyData.bool true) = some (xs.map fun _ => true) := by
    rw [← boolsOf_map (xs.map fun _ => true), List.map_map]; rfl
  unfold allD
  dsimp only
  rw [e]
  show some (PyData.bool _) = _
  congr 2
  rw [List.all_map]
  exact List.all_eq_true.mpr fun _ _ => rfl
theorem same_refl : ∀ (n : Nat) {d : D}, Pl n d → F__law_same (n + 1) [d, d] = some (.bool true)
  | n, _, .none _ => by
    show callP 2 4 _ _ = _
    unfold callP g__law_same env0

    walk_at "evh"
  | n, _, .bool _ b => by
    show callP 2 4 _ _ = _
    unfold callP g__law_same env0
    walk_at "evh"
  | n, _, .int _ i => by
    show callP 2 4 _ _ = _
    unfold callP g__law_same env0
    walk_at "evh"
  | n, _, .str _ x => by
    show callP 2 4 _ _ = _
    unfold callP g__law_same env0
    have e : decide (x = x) = true := decide_eq_true rfl
    walk_at "evh"
  | n + 1, _, .list (xs := xs) hl h => by
    show callP 2 4 _ _ = _
    unfold callP g__law_same env0
    have hz : (zipD xs xs).length ≤ sizeLine := by rw [zipD_self, List.length_map]; exact hl
    have a := all_true xs
    have e : lcL [2, 3] (gT 2 (gsCons (gN 2) (gsCons (gN 3) gsNil))) gYes (ce__law_same_1 (F__law_same (n + 1))) (zipD xs xs) [.sh (.list xs), .sh (.list xs), .no, .no] = .ok (xs.map fun _ => PyData.bool true) [.sh (.list xs), .sh (.list xs), .no, .no] := by
      rw [zipD_self, lc_map (fun _ => PyData.bool true), List.map_map]
      · rfl
      · intro d hd
        obtain ⟨x, hx, rfl⟩ := List.mem_map.mp hd
        have ih := same_refl n (h x hx)
        refine ⟨[.sh (.list xs), .sh (.list xs), .sh x, .sh x], rfl, rfl, rfl, ?_⟩
        clear a hz
        unfold ce__law_same_1
        walk_at "evh"
    walk_at "evh"
  | n + 1, _, .tuple (xs := xs) hl h => by
    show callP 2 4 _ _ = _
    unfold callP g__law_same env0
    have hz : (zipD xs xs).length ≤ sizeLine := by rw [zipD_self, List.length_map]; exact hl
    have a := all_true xs
    have e : lcL [2, 3] (gT 2 (gsCons (gN 2) (gsCons (gN 3) gsNil))) gYes (ce__law_same_1 (F__law_same (n + 1))) (zipD xs xs) [.sh (.tuple xs), .sh (.tuple xs), .no, .no] = .ok (xs.map fun _ => PyData.bool true) [.sh (.tuple xs), .sh (.tuple xs), .no, .no] := by
      rw [zipD_self, lc_map (fun _ => PyData.bool true), List.map_map]
      · rfl
      · intro d hd
        obtain ⟨x, hx, rfl⟩ := List.mem_map.mp hd
        have ih := same_refl n (h x hx)
        refine ⟨[.sh (.tuple xs), .sh (.tuple xs), .sh x, .sh x], rfl, rfl, rfl, ?_⟩
        clear a hz
        unfold ce__law_same_1
        walk_at "evh"
    walk_at "evh"
end W
namespace W
open PySem L2 DL
local macro_rules | `(tactic| walk_at "ev") => `(tactic| simp only [eC, eV, oE, oV, eL, eT, aNil, aCons, eOp2, eOp1, eApp, tstE, eB, tNotG, tAndG, tOrG, eAndG, eOrG, eNotG, eIf, eSeq, eCall, eCallO, eCallB, eCallBF, eCallBX, sSeq, sNext, sRet, sRetF, sRetO, sRetN, sDrop, sIf, sSet, sSetO, sBreak, sCont, sBad, sPar, sPar3, fz, sFz, eCallW, idL, sApp, sPutIx, sAug, sFor, gN, gT, gsCons, gsNil, gYes, eLc, gSeq, nS, nF, Nw.sl, R.ok_bind, R.ok_map, R.lift_some, to_ok, toX_ok, toX_ex, bind_nx, bind_rt, bind_rf, bind_ex, bind_bk, bind_ct, at_ok, at_ex, res_val, map_ex, rbind_ex, Op.res, resA, valA, isOw, box0, Option.map_some, Option.bind_some, sHeardT, nlCons, nlNil, Nw.dat, mSet, eChain, eRg1, eRg2, eSl, pNo, pSo,
  List.getElem?_cons_zero, List.getElem?_cons_succ, List.set_cons_zero, List.set_cons_succ, List.length_cons, List.length_nil, if_true, if_false, Bool.false_eq_true, ite_true, ite_false, reduceIte,
  addU_int, subD_int, ltD_int, leD_int, gtD_int, geD_int, negD_int, absD_int, intD_bool, intD_int, lenD_list, lenD_tuple, lenD_scr, pow10_7, pow10_18, pow10_40, eqW_ints, neW_ints, eqW_strs, neW_strs, eqW_none, eqW_in, eqW_ni, ixD_list, ixD_tuple, ixD_scr, atI_3_0, atI_3_1, atI_3_2, ixN_3_0, ixN_3_1, ixN_3_2, wipeR, zip2D, skOf, isiD_n, isiD_b, isiD_i, isiD_s, isiD_l, isiD_t, isiTD_n, isiTD_b, isiTD_i, isiTD_s, isiTD_l, isiTD_t, isiAny, eCallX, eCallWX, xE, xIf, xL, xCb1, sSetX, sRetX, sDropX, sRaise, sTo, eMk, isX_n, sKeep, kt_ll, kt_lt, kt_ls, kt_li, kt_lb, kt_tl, kt_tt, kt_ts, kt_ti, kt_tb, kt_sl, kt_st, kt_ss, kt_si, kt_sb, kt_il, kt_it, kt_is, kt_ii, kt_ib, kt_bl, kt_bt, kt_bs, kt_bi, kt_bb, kt_nl, kt_nt, kt_ns, kt_ni, kt_nb, eqW_bools, neW_bools, isD_none, isNotD_none, isNoneD, isNone_e, List.map_cons, List.map_nil, List.replicate, List.append_nil, List.cons_append, List.nil_append, nc0, nc1, nc2, nc3, nc4, nc5, nc6, nc7, nc8, nc9, nc10, nc11, nc12, nc13, nc14, nc15, nc16, nc17, nc18, nc19, nc20, Nat.reduceAdd, Nat.reduceSub, ne_eq, decide_true, decide_false, not_true_eq_false, not_false_eq_true, reduceCtorEq, Bool.and_true, Bool.true_and, Bool.and_false, Bool.false_and, Bool.or_true, Bool.true_or, Bool.or_false, Bool.false_or, Bool.not_true, Bool.not_false])
local macro_rules | `(tactic| walk_at "evh") => `(tactic| simp only [eC, eV, oE, oV, eL, eT, aNil, aCons, eOp2, eOp1, eApp, tstE, eB, tNotG, tAndG, tOrG, eAndG, eOrG, eNotG, eIf, eSeq, eCall, eCallO, eCallB, eCallBF, eCallBX, sSeq, sNext, sRet, sRetF, sRetO, sRetN, sDrop, sIf, sSet, sSetO, sBreak, sCont, sBad, sPar, sPar3, fz, sFz, eCallW, idL, sApp, sPutIx, sAug, sFor, gN, gT, gsCons, gsNil, gYes, eLc, gSeq, nS, nF, Nw.sl, R.ok_bind, R.ok_map, R.lift_some, to_ok, toX_ok, toX_ex, bind_nx, bind_rt, bind_rf, bind_ex, bind_bk, bind_ct, at_ok, at_ex, res_val, map_ex, rbind_ex, Op.res, resA, valA, isOw, box0, Option.map_some, Option.bind_some, sHeardT, nlCons, nlNil, Nw.dat, mSet, eChain, eRg1, eRg2, eSl, pNo, pSo,
  List.getElem?_cons_zero, List.getElem?_cons_succ, List.set_cons_zero, List.set_cons_succ, List.length_cons, List.length_nil, if_true, if_false, Bool.false_eq_true, ite_true, ite_false, reduceIte,
  addU_int, subD_int, ltD_int, leD_int, gtD_int, geD_int, negD_int, absD_int, intD_bool, intD_int, lenD_list, lenD_tuple, lenD_scr, pow10_7, pow10_18, pow10_40, eqW_ints, neW_ints, eqW_strs, neW_strs, eqW_none, eqW_in, eqW_ni, ixD_list, ixD_tuple, ixD_scr, atI_3_0, atI_3_1, atI_3_2, ixN_3_0, ixN_3_1, ixN_3_2, wipeR, zip2D, skOf, isiD_n, isiD_b, isiD_i, isiD_s, isiD_l, isiD_t, isiTD_n, isiTD_b, isiTD_i, isiTD_s, isiTD_l, isiTD_t, isiAny, eCallX, eCallWX, xE, xIf, xL, xCb1, sSetX, sRetX, sDropX, sRaise, sTo, eMk, isX_n, sKeep, kt_ll, kt_lt, kt_ls, kt_li, kt_lb, kt_tl, kt_tt, kt_ts, kt_ti, kt_tb, kt_sl, kt_st, kt_ss, kt_si, kt_sb, kt_il, kt_it, kt_is, kt_ii, kt_ib, kt_bl, kt_bt, kt_bs, kt_bi, kt_bb, kt_nl, kt_nt, kt_ns, kt_ni, kt_nb, eqW_bools, neW_bools, isD_none, isNotD_none, isNoneD, isNone_e, List.map_cons, List.map_nil, List.replicate, List.append_nil, List.cons_append, List.nil_append, nc0, nc1, nc2, nc3, nc4, nc5, nc6, nc7, nc8, nc9, nc10, nc11, nc12, nc13, nc14, nc15, nc16, nc17, nc18, nc19, nc20, Nat.reduceAdd, Nat.reduceSub, ne_eq, decide_true, decide_false, not_true_eq_false, not_false_eq_true, reduceCtorEq, Bool.and_true, Bool.true_and, Bool.and_false, Bool.false_and, Bool.or_true, Bool.true_or, Bool.or_false, Bool.false_or, Bool.not_true, Bool.not_false, *])
theorem int_set (ms : List Int) (k : Nat) (y : Int) : (ms.map PyData.int).set k (.int y) = (ms.set k y).map .int := by rw [List.map_set]
/-- the cells: at most m of them, at least one -/
theorem cells_eq {ns : List Int} {m : Nat} (hm : 1 ≤ m ∧ m ≤ 60) : ∃ ms : List Int, F__law_cells [.dict [(.list (ns.map .int), .none)], .int (m : Int)] = some (.list (ms.map .int)) ∧ ms.length ≤ m ∧ 1 ≤ ms.length := by
  have s1 : sliceU (.dict [(.list (ns.map PyData.int), .none)]) none (some (m : Int)) = some (.list ((ns.take m).map .int)) := by
    show some (PyData.list (cutD (ns.map PyData.int) none (some (m : Int)))) = _
    rw [cut_map, cut_to]
  have s2 : sliceU (.dict [(.list (ns.map PyData.int), .none)]) (some (m : Int)) (some 63) = some (.list ((cutD ns (some (m : Int)) (some 63)).map .int)) := by
    show some (PyData.list (cutD (ns.map PyData.int) (some (m : Int)) (some 63))) = _
    rw [cut_map]
  have hcl : (cutD ns (some (m : Int)) (some 63)).length ≤ ns.length - m := cut_ft_len ns m 63
  have hcl2 : (cutD ns (some (m : Int)) (some 63)).length ≤ 63 := by
    unfold cutD
    rw [show (some (63 : Int)) = some ((63 : Nat) : Int) from rfl, HT.sIx_nat, HT.sIx_nat, List.length_take, List.length_drop]
    omega
  generalize hcs : cutD ns (some (m : Int)) (some 63) = cs at s2 hcl hcl2
  have en : enum1D [.list (cs.map .int)] = some (enumFrom 0 (cs.map .int)) := rfl
  obtain ⟨ρ', e3, ms, s3, s4, rfl, hl⟩ := for_inv (k := gT 2 (gsCons (gN 3) (gsCons (gN 4) gsNil))) (b := gb__law_cells_1) (ds := enumFrom 0 (cs.map PyData.int))
    (fun i ρ => ∃ (ms : List Int) (s3 s4 : Sl), ρ = [.sh (.dict [(.list (ns.map .int), .none)]), .sh (.int (m : Int)), .ow (ms.map .int), s3, s4] ∧ ms.length = (ns.take m).length)
    (fun i d ρ hd h => by
      obtain ⟨ms, s3, s4, rfl, hl⟩ := h
      have hi : i < cs.length := by
        have := (List.getElem?_eq_some_iff.mp hd).1
        rw [enumFrom_len, List.length_map] at this
        exact this
      obtain ⟨c, hc⟩ : ∃ c, cs[i]? = some c := ⟨_, List.getElem?_eq_getElem hi⟩
      have hg : (cs.map PyData.int)[i]? = some (.int c) := by rw [List.getElem?_map, hc]; rfl
      rw [enumFrom_get _ 0 i _ hg] at hd
      cases hd
      rw [List.length_take] at hl
      have hlm : ms.length = m := by omega
      have hj : i % m < ms.length := by rw [hlm]; exact Nat.mod_lt _ (by omega)
      obtain ⟨v, hv⟩ : ∃ v, ms[i % m]? = some v := ⟨_, List.getElem?_eq_getElem hj⟩
      have m1 : modD (.int ((0 + i : Nat) : Int)) (.int (m : Int)) = some (.int ((i % m : Nat) : Int)) := by
        rw [modD_int (by omega), Nat.zero_add]; rfl
      have ix : atI (ms.map PyData.int) ((i % m : Nat) : Int) = some (.int v) := atI_nat (by rw [List.getElem?_map, hv]; rfl)
      have iN : ixN (ms.map PyData.int).length ((i % m : Nat) : Int) = some (i % m) := by
        unfold ixN
        rw [if_pos (by omega), if_pos (by rw [List.length_map]; omega)]
        rfl
      have m2 : mulV (.int c) (.int (((0 + i : Nat) : Int) + 2)) = some (.int (c * (((0 + i : Nat) : Int) + 2))) := cmul_r (by omega)
      have st := int_set ms (i % m)
      refine ⟨[.sh (.dict [(.list (ns.map .int), .none)]), .sh (.int (m : Int)), .ow (ms.map .int), .sh (.int ((0 + i : Nat) : Int)), .sh (.int c)], rfl, _, .inl ?_, ms.set (i % m) (v + c * (((0 + i : Nat) : Int) + 2)), .sh (.int ((0 + i : Nat) : Int)), .sh (.int c), rfl, by rw [List.length_set, List.length_take]; exact hl⟩
      have st := st (v + c * (((0 + i : Nat) : Int) + 2))
      clear hg hlm hl hj hcs hm s1 s2 hv hc hi
      unfold gb__law_cells_1
      walk_at "evh")
    (ρ := [.sh (.dict [(.list (ns.map .int), .none)]), .sh (.int (m : Int)), .ow ((ns.take m).map .int), .no, .no]) ⟨_, .no, .no, rfl, rfl⟩
  have li : listD [.list ((ns.take m).map .int)] = some ((ns.take m).map .int) := rfl
  have nw : neW (.list (ms.map .int)) (.list []) = some (.bool (!decide (ms = []))) := neW_li ms []
  have sz : (0 : Nat) ≤ sizeLine := by decide
  have sz1 : (1 : Nat) ≤ sizeLine := by decide
  by_cases h0 : ms = []
  · refine ⟨[0], ?_, hm.1, Nat.le_refl _⟩
    have d : decide (ms = []) = true := decide_eq_true h0
    clear hcs hcl hcl2 hl hm h0
    unfold F__law_cells callP g__law_cells env0
    walk_at "evh"
  · refine ⟨ms, ?_, by rw [hl, List.length_take]; omega, ?_⟩
    · have d : decide (ms = []) = false := decide_eq_false h0
      clear hcs hcl hcl2 hl hm h0
      unfold F__law_cells callP g__law_cells env0
      walk_at "evh"
    · cases ms with
      | nil => exact absurd rfl h0
      | cons _ _ => simp
theorem box_eq {ns : List Int} {k : Nat} (hk : k ≤ 1000) : ∃ box, F__law_box [.list (ns.map .int), .int (k : Int)] = some box ∧ GoodBox 0 box := by
  have m1 := fun c : Int => modD_int (i := c) (j := 2305843009213693951) (by omega)
  have m2 : mulV (.int 7919) (.int (k : Int)) = some (.int (7919 * (k : Int))) := cmul_l (by omega)
  have m3 : ∀ c : Int, mulV (.int (if c < 0 then -c else c)) (.int (if decide (1000000000000000000 ≤ if c < 0 then -c else c) = true then 1 else 0)) = some (.int ((if c < 0 then -c else c) * (if decide (1000000000000000000 ≤ if c < 0 then -c else c) = true then 1 else 0))) := fun c =>
    cmul_r (by
      generalize (decide (1000000000000000000 ≤ if c < 0 then -c else c)) = b
      cases b <;> decide)
  have sz : (3 : Nat) ≤ sizeLine := by decide
  have good : ∀ c : Int, GoodBox 0 [.int ((if c < 0 then -c else c) * (if decide (1000000000000000000 ≤ if c < 0 then -c else c) = true then 1 else 0)), .int (c % 2305843009213693951 + 7919 * (k : Int) + 65), .int 0] := by
    intro c
    refine ⟨_, _, _, rfl, ?_, by omega, by omega, by omega, by omega⟩
    exact Int.mul_nonneg (by split <;> omega) (by split <;> omega)
  by_cases hi : k < ns.length
  · refine ⟨_, ?_, good ns[k]⟩
    have ix : atI (ns.map PyData.int) (k : Int) = some (.int ns[k]) := atI_nat (by rw [List.getElem?_map, List.getElem?_eq_getElem hi]; rfl)
    have d : decide ((k : Int) < ((ns.map PyData.int).length : Int)) = true := decide_eq_true (by rw [List.length_map]; omega)
    have m3 := m3 ns[k]
    have m1 := m1 ns[k]
    clear good hk
    unfold F__law_box callF g__law_box env0
    walk_at "evh"
  · refine ⟨_, ?_, good 0⟩
    have d : decide ((k : Int) < ((ns.map PyData.int).length : Int)) = false := decide_eq_false (by rw [List.length_map]; omega)
    have m3 := m3 0
    have m1 := m1 0
    clear good hk hi
    unfold F__law_box callF g__law_box env0
    walk_at "evh"
/-- one of a list -/
theorem of_eq {n : Int} {box xs : List D} (hb : GoodBox n box) (hn : n < 2 ^ 39) (h1 : 0 < xs.length) (h2 : xs.length ≤ 100000) : ∃ y box', F__law_of box [.list xs] = some (y, box') ∧ y ∈ xs ∧ GoodBox (n + 8) box' := by
  obtain ⟨r, box', e, r1, r2, g⟩ := take8 (span := (xs.length : Int)) hb hn (by omega) (by omega)
  have hr : r.toNat < xs.length := by omega
  have ix : atI xs r = some xs[r.toNat] := atI_of (n := r.toNat) (by omega) (List.getElem?_eq_getElem hr)
  refine ⟨xs[r.toNat], box', ?_, List.getElem_mem hr, g⟩
  clear g hb h1 h2 hn r1 r2
  unfold F__law_of callB g__law_of envB
  walk_at "evh"
/-- a row of ints, none beyond 10 ** 41 -/
def Row (ns : List Int) : Prop := ∀ x ∈ ns, x.natAbs ≤ 10 ^ 41
theorem Row.app {ns : List Int} {y : Int} (hr : Row ns) (hy : y.natAbs ≤ 10 ^ 41) : Row (ns ++ [y]) := fun x hx => by
  rcases List.mem_append.mp hx with h | h
  · exact hr x h
  · rw [List.mem_singleton.mp h]; exact hy
end W
namespace W
open PySem L2 DL
local macro_rules | `(tactic| walk_at "ev") => `(tactic| simp only [eC, eV, oE, oV, eL, eT, aNil, aCons, eOp2, eOp1, eApp, tstE, eB, tNotG, tAndG, tOrG, eAndG, eOrG, eNotG, eIf, eSeq, eCall, eCallO, eCallB, eCallBF, eCallBX, sSeq, sNext, sRet, sRetF, sRetO, sRetN, sDrop, sIf, sSet, sSetO, sBreak, sCont, sBad, sPar, sPar3, fz, sFz, eCallW, idL, sApp, sPutIx, sAug, sFor, gN, gT, gsCons, gsNil, gYes, eLc, gSeq, nS, nF, Nw.sl, R.ok_bind, R.ok_map, R.lift_some, to_ok, toX_ok, toX_ex, bind_nx, bind_rt, bind_rf, bind_ex, bind_bk, bind_ct, at_ok, at_ex, res_val, map_ex, rbind_ex, Op.res, resA, valA, isOw, box0, Option.map_some, Option.bind_some, sHeardT, nlCons, nlNil, Nw.dat, mSet, eChain, eRg1, eRg2, eSl, pNo, pSo,
  List.getElem?_cons_zero, List.getElem?_cons_succ, List.set_cons_zero, List.set_cons_succ, List.length_cons, List.length_nil, if_true, if_false, Bool.false_eq_true, ite_true, ite_false, reduceIte,
  addU_int, subD_int, ltD_int, leD_int, gtD_int, geD_int, negD_int, absD_int, intD_bool, intD_int, lenD_list, lenD_tuple, lenD_scr, pow10_7, pow10_18, pow10_40, eqW_ints, neW_ints, eqW_strs, neW_strs, eqW_none, eqW_in, eqW_ni, ixD_list, ixD_tuple, ixD_scr, atI_3_0, atI_3_1, atI_3_2, ixN_3_0, ixN_3_1, ixN_3_2, wipeR, zip2D, skOf, isiD_n, isiD_b, isiD_i, isiD_s, isiD_l, isiD_t, isiTD_n, isiTD_b, isiTD_i, isiTD_s, isiTD_l, isiTD_t, isiAny, eCallX, eCallWX, xE, xIf, xL, xCb1, sSetX, sRetX, sDropX, sRaise, sTo, eMk, isX_n, sKeep, kt_ll, kt_lt, kt_ls, kt_li, kt_lb, kt_tl, kt_tt, kt_ts, kt_ti, kt_tb, kt_sl, kt_st, kt_ss, kt_si, kt_sb, kt_il, kt_it, kt_is, kt_ii, kt_ib, kt_bl, kt_bt, kt_bs, kt_bi, kt_bb, kt_nl, kt_nt, kt_ns, kt_ni, kt_nb, eqW_bools, neW_bools, isD_none, isNotD_none, isNoneD, isNone_e, List.map_cons, List.map_nil, List.replicate, List.append_nil, List.cons_append, List.nil_append, nc0, nc1, nc2, nc3, nc4, nc5, nc6, nc7, nc8, nc9, nc10, nc11, nc12, nc13, nc14, nc15, nc16, nc17, nc18, nc19, nc20, Nat.reduceAdd, Nat.reduceSub, ne_eq, decide_true, decide_false, not_true_eq_false, not_false_eq_true, reduceCtorEq, Bool.and_true, Bool.true_and, Bool.and_false, Bool.false_and, Bool.or_true, Bool.true_or, Bool.or_false, Bool.false_or, Bool.not_true, Bool.not_false])
local macro_rules | `(tactic| walk_at "evh") => `(tactic| simp only [eC, eV, oE, oV, eL, eT, aNil, aCons, eOp2, eOp1, eApp, tstE, eB, tNotG, tAndG, tOrG, eAndG, eOrG, eNotG, eIf, eSeq, eCall, eCallO, eCallB, eCallBF, eCallBX, sSeq, sNext, sRet, sRetF, sRetO, sRetN, sDrop, sIf, sSet, sSetO, sBreak, sCont, sBad, sPar, sPar3, fz, sFz, eCallW, idL, sApp, sPutIx, sAug, sFor, gN, gT, gsCons, gsNil, gYes, eLc, gSeq, nS, nF, Nw.sl, R.ok_bind, R.ok_map, R.lift_some, to_ok, toX_ok, toX_ex, bind_nx, bind_rt, bind_rf, bind_ex, bind_bk, bind_ct, at_ok, at_ex, res_val, map_ex, rbind_ex, Op.res, resA, valA, isOw, box0, Option.map_some, Option.bind_some, sHeardT, nlCons, nlNil, Nw.dat, mSet, eChain, eRg1, eRg2, eSl, pNo, pSo,
  List.getElem?_cons_zero, List.getElem?_cons_succ, List.set_cons_zero, List.set_cons_succ, List.length_cons, List.length_nil, if_true, if_false, Bool.false_eq_true, ite_true, ite_false, reduceIte,
  addU_int, subD_int, ltD_int, leD_int, gtD_int, geD_int, negD_int, absD_int, intD_bool, intD_int, lenD_list, lenD_tuple, lenD_scr, pow10_7, pow10_18, pow10_40, eqW_ints, neW_ints, eqW_strs, neW_strs, eqW_none, eqW_in, eqW_ni, ixD_list, ixD_tuple, ixD_scr, atI_3_0, atI_3_1, atI_3_2, ixN_3_0, ixN_3_1, ixN_3_2, wipeR, zip2D, skOf, isiD_n, isiD_b, isiD_i, isiD_s, isiD_l, isiD_t, isiTD_n, isiTD_b, isiTD_i, isiTD_s, isiTD_l, isiTD_t, isiAny, eCallX, eCallWX, xE, xIf, xL, xCb1, sSetX, sRetX, sDropX, sRaise, sTo, eMk, isX_n, sKeep, kt_ll, kt_lt, kt_ls, kt_li, kt_lb, kt_tl, kt_tt, kt_ts, kt_ti, kt_tb, kt_sl, kt_st, kt_ss, kt_si, kt_sb, kt_il, kt_it, kt_is, kt_ii, kt_ib, kt_bl, kt_bt, kt_bs, kt_bi, kt_bb, kt_nl, kt_nt, kt_ns, kt_ni, kt_nb, eqW_bools, neW_bools, isD_none, isNotD_none, isNoneD, isNone_e, List.map_cons, List.map_nil, List.replicate, List.append_nil, List.cons_append, List.nil_append, nc0, nc1, nc2, nc3, nc4, nc5, nc6, nc7, nc8, nc9, nc10, nc11, nc12, nc13, nc14, nc15, nc16, nc17, nc18, nc19, nc20, Nat.reduceAdd, Nat.reduceSub, ne_eq, decide_true, decide_false, not_true_eq_false, not_false_eq_true, reduceCtorEq, Bool.and_true, Bool.true_and, Bool.and_false, Bool.false_and, Bool.or_true, Bool.true_or, Bool.or_false, Bool.false_or, Bool.not_true, Bool.not_false, *])
theorem rline_step {n : Int} {i : Nat} {box : List D} {most : D} {top way : Int} {ns : List Int} {s6 : Sl} (hb : GoodBox n box) (hn : n < 2 ^ 38) (hl : ns.length < 1000) (hr : Row ns) (ht : 1 ≤ top ∧ top ≤ 10 ^ 40) (hw : 0 ≤ way ∧ way < 4) (hi : i < 1000) :
    ∃ y box', gb__law_random_line_1 [.ow box, .sh most, .sh (.int top), .sh (.int way), .ow (ns.map .int), .sh (.int (i : Int)), s6] = .nx [.ow box', .sh most, .sh (.int top), .sh (.int way), .ow ((ns ++ [y]).map .int), .sh (.int (i : Int)), .sh (.int y)] ∧ GoodBox (n + 32) box' ∧ Row (ns ++ [y]) := by
  obtain ⟨r0, box1, e1, r1, r2, g1⟩ := take8 (span := 2 * top + 1) hb (by omega) (by omega) (by omega)
  have m0 : mulV (.int 2) (.int top) = some (.int (2 * top)) := cmul_l (by omega)
  have sz : (ns.map PyData.int).length < sizeLine := by rw [List.length_map]; exact Nat.lt_trans hl (by decide)
  have ap : ∀ y : Int, (ns.map PyData.int) ++ [.int y] = (ns ++ [y]).map .int := fun y => by rw [List.map_append]; rfl
  have sz0 : (0 : Nat) ≤ sizeLine := by decide
  have nw : neW (.list (ns.map .int)) (.list []) = some (.bool (!decide (ns = []))) := neW_li ns []
  have ll : ((ns.map PyData.int).length : Int) = (ns.length : Int) := by rw [List.length_map]
  unfold gb__law_random_line_1
  by_cases w2 : way < 2
  · obtain ⟨M, hM, M1, M2⟩ : ∃ M : Int, max2D [.int 2, .int top] = some (.int M) ∧ 2 ≤ M ∧ M ≤ 10 ^ 40 := ⟨_, rfl, by split <;> omega, by split <;> omega⟩
    obtain ⟨q, box2, e2, q1, q2, g2⟩ := take8 (span := M) g1 (by omega) (by omega) (by omega)
    have m1 : modD (.int (i : Int)) (.int 2) = some (.int ((i : Int) % 2)) := modD_int (by omega)
    have m2 : mulV (.int 2) (.int ((i : Int) % 2)) = some (.int (2 * ((i : Int) % 2))) := cmul_l (by omega)
    have m3 : mulV (.int q) (.int (1 - 2 * ((i : Int) % 2))) = some (.int (q * (1 - 2 * ((i : Int) % 2)))) := cmul_r (by omega)
    have d1 : decide (way < 2) = true := decide_eq_true w2
    have d2 : decide (way = 2) = false := decide_eq_false (by omega)
    have hb : (q * (1 - 2 * ((i : Int) % 2)) + way).natAbs ≤ 10 ^ 41 := by
      have : (i : Int) % 2 = 0 ∨ (i : Int) % 2 = 1 := by omega
      rcases this with h | h <;> rw [h] <;> omega
    refine ⟨q * (1 - 2 * ((i : Int) % 2)) + way, box2, ?_, g2.mono (by omega), hr.app hb⟩
    have ap := ap (q * (1 - 2 * ((i : Int) % 2)) + way)
    clear hb g1 g2 hr hl ht hw r1 r2 q1 q2 w2 M1 M2 nw hn hi
    walk_at "evh"
  · have d1 : decide (way < 2) = false := decide_eq_false w2
    have h0 : (r0 - top).natAbs ≤ 10 ^ 41 := by omega
    by_cases w3 : way = 2
    · have d2 : decide (way = 2) = true := decide_eq_true w3
      by_cases hn0 : ns = []
      · have d3 : decide (ns = []) = true := decide_eq_true hn0
        refine ⟨r0 - top, box1, ?_, g1.mono (by omega), hr.app h0⟩
        have ap := ap (r0 - top)
        clear hb g1 hr hl ht hw r1 r2 w2 w3 h0 hn hn0 hi
        walk_at "evh"
      · have d3 : decide (ns = []) = false := decide_eq_false hn0
        obtain ⟨q, box2, e2, q1, q2, g2⟩ := take8 (span := 3) g1 (by omega) (by omega) (by omega)
        by_cases hq : q = 0
        · have d4 : decide (q = 0) = true := decide_eq_true hq
          have hpos : 0 < ns.length := List.length_pos_iff.mpr hn0
          obtain ⟨k, box3, e3, k1, k2, g3⟩ := take8 (span := (ns.length : Int)) g2 (by omega) (by omega) (by omega)
          have hk : k.toNat < ns.length := by omega
          obtain ⟨v, hv⟩ : ∃ v, ns[k.toNat]? = some v := ⟨_, List.getElem?_eq_getElem hk⟩
          have ix : atI (ns.map PyData.int) k = some (.int v) := atI_of (n := k.toNat) (by omega) (by rw [List.getElem?_map, hv]; rfl)
          refine ⟨v, box3, ?_, g3.mono (by omega), hr.app (hr v (List.mem_of_getElem? hv))⟩
          have ap := ap v
          clear hb g1 g2 g3 hr hl ht hw r1 r2 w2 w3 h0 hn hn0 hv hk k1 k2 hpos hq hi
          walk_at "evh"
        · have d4 : decide (q = 0) = false := decide_eq_false hq
          refine ⟨r0 - top, box2, ?_, g2.mono (by omega), hr.app h0⟩
          have ap := ap (r0 - top)
          clear hb g1 g2 hr hl ht hw r1 r2 w2 w3 h0 hn hn0 q1 q2 hq hi
          walk_at "evh"
    · have d2 : decide (way = 2) = false := decide_eq_false w3
      refine ⟨r0 - top, box1, ?_, g1.mono (by omega), hr.app h0⟩
      have ap := ap (r0 - top)
      clear hb g1 hr hl ht hw r1 r2 w2 w3 h0 hn hi
      walk_at "evh"
theorem rline_eq {n : Int} {box : List D} {most : Nat} {top : Int} (hb : GoodBox n box) (hn : n < 2 ^ 37) (hm : most ≤ 900) (ht : 1 ≤ top ∧ top ≤ 10 ^ 40) : ∃ ns box', F__law_random_line box [.int (most : Int), .int top] = some (.tuple (ns.map .int), box') ∧ ns.length ≤ most ∧ Row ns ∧ GoodBox (n + 16 + 32 * most) box' := by
  obtain ⟨way, box1, e1, k1, k2, g1⟩ := take8 (span := 4) hb (by omega) (by omega) (by omega)
  obtain ⟨m, box2, e2, m1, m2, g2⟩ := take8 (span := (most : Int) + 1) g1 (by omega) (by omega) (by omega)
  have rg := rng1_eq m1 (by omega)
  obtain ⟨ρ', e3, box3, ns, s5, s6, rfl, g3, hl, hr⟩ := for_inv (k := gN 5) (b := gb__law_random_line_1) (ds := rangeD 0 m.toNat)
    (fun i ρ => ∃ box ns s5 s6, ρ = [.ow box, .sh (.int (most : Int)), .sh (.int top), .sh (.int way), .ow (ns.map .int), s5, s6] ∧ GoodBox (n + 16 + 32 * i) box ∧ ns.length = i ∧ Row ns)
    (fun i d ρ hd h => by
      obtain ⟨rfl, hi⟩ := rangeD_at hd
      obtain ⟨box, ns, s5, s6, rfl, g, hl, hr⟩ := h
      obtain ⟨y, box', e, g', hr'⟩ := rline_step (i := i) (most := .int (most : Int)) (s6 := s6) g (by omega) (by omega) hr ht ⟨k1, k2⟩ (by omega)
      exact ⟨_, rfl, _, .inl e, box', ns ++ [y], _, _, rfl, g'.mono (by omega), by rw [List.length_append, hl]; rfl, hr'⟩)
    (ρ := [.ow box2, .sh (.int (most : Int)), .sh (.int top), .sh (.int way), .ow [], .no, .no]) ⟨box2, [], .no, .no, rfl, g2.mono (by omega), rfl, fun x hx => nomatch hx⟩
  rw [rangeD_len] at hl g3
  refine ⟨ns, box3, ?_, by omega, hr, g3.mono (by omega)⟩
  have t : tupleD [.list (ns.map .int)] = some (.tuple (ns.map .int)) := rfl
  have sz : (0 : Nat) ≤ sizeLine := by decide
  clear g3 g2 g1 hb hr hl hm ht hn k1 k2 m1 m2
  unfold F__law_random_line callB g__law_random_line envB
  walk_at "evh"
end W
namespace W
open PySem L2 DL
local macro_rules | `(tactic| walk_at "ev") => `(tactic| simp only [eC, eV, oE, oV, eL, eT, aNil, aCons, eOp2, eOp1, eApp, tstE, eB, tNotG, tAndG, tOrG, eAndG, eOrG, eNotG, eIf, eSeq, eCall, eCallO, eCallB, eCallBF, eCallBX, sSeq, sNext, sRet, sRetF, sRetO, sRetN, sDrop, sIf, sSet, sSetO, sBreak, sCont, sBad, sPar, sPar3, fz, sFz, eCallW, idL, sApp, sPutIx, sAug, sFor, gN, gT, gsCons, gsNil, gYes, eLc, gSeq, nS, nF, Nw.sl, R.ok_bind, R.ok_map, R.lift_some, to_ok, toX_ok, toX_ex, bind_nx, bind_rt, bind_rf, bind_ex, bind_bk, bind_ct, at_ok, at_ex, res_val, map_ex, rbind_ex, Op.res, resA, valA, isOw, box0, Option.map_some, Option.bind_some, sHeardT, nlCons, nlNil, Nw.dat, mSet, eChain, eRg1, eRg2, eSl, pNo, pSo,
  List.getElem?_cons_zero, List.getElem?_cons_succ, List.set_cons_zero, List.set_cons_succ, List.length_cons, List.length_nil, if_true, if_false, Bool.false_eq_true, ite_true, ite_false, reduceIte,
  addU_int, subD_int, ltD_int, leD_int, gtD_int, geD_int, negD_int, absD_int, intD_bool, intD_int, lenD_list, lenD_tuple, lenD_scr, pow10_7, pow10_18, pow10_40, eqW_ints, neW_ints, eqW_strs, neW_strs, eqW_none, eqW_in, eqW_ni, ixD_list, ixD_tuple, ixD_scr, atI_3_0, atI_3_1, atI_3_2, ixN_3_0, ixN_3_1, ixN_3_2, wipeR, zip2D, skOf, isiD_n, isiD_b, isiD_i, isiD_s, isiD_l, isiD_t, isiTD_n, isiTD_b, isiTD_i, isiTD_s, isiTD_l, isiTD_t, isiAny, eCallX, eCallWX, xE, xIf, xL, xCb1, sSetX, sRetX, sDropX, sRaise, sTo, eMk, isX_n, sKeep, kt_ll, kt_lt, kt_ls, kt_li, kt_lb, kt_tl, kt_tt, kt_ts, kt_ti, kt_tb, kt_sl, kt_st, kt_ss, kt_si, kt_sb, kt_il, kt_it, kt_is, kt_ii, kt_ib, kt_bl, kt_bt, kt_bs, kt_bi, kt_bb, kt_nl, kt_nt, kt_ns, kt_ni, kt_nb, eqW_bools, neW_bools, isD_none, isNotD_none, isNoneD, isNone_e, List.map_cons, List.map_nil, List.replicate, List.append_nil, List.cons_append, List.nil_append, nc0, nc1, nc2, nc3, nc4, nc5, nc6, nc7, nc8, nc9, nc10, nc11, nc12, nc13, nc14, nc15, nc16, nc17, nc18, nc19, nc20, Nat.reduceAdd, Nat.reduceSub, ne_eq, decide_true, decide_false, not_true_eq_false, not_false_eq_true, reduceCtorEq, Bool.and_true, Bool.true_and, Bool.and_false, Bool.false_and, Bool.or_true, Bool.true_or, Bool.or_false, Bool.false_or, Bool.not_true, Bool.not_false])
local macro_rules | `(tactic| walk_at "evh") => `(tactic| simp only [eC, eV, oE, oV, eL, eT, aNil, aCons, eOp2, eOp1, eApp, tstE, eB, tNotG, tAndG, tOrG, eAndG, eOrG, eNotG, eIf, eSeq, eCall, eCallO, eCallB, eCallBF, eCallBX, sSeq, sNext, sRet, sRetF, sRetO, sRetN, sDrop, sIf, sSet, sSetO, sBreak, sCont, sBad, sPar, sPar3, fz, sFz, eCallW, idL, sApp, sPutIx, sAug, sFor, gN, gT, gsCons, gsNil, gYes, eLc, gSeq, nS, nF, Nw.sl, R.ok_bind, R.ok_map, R.lift_some, to_ok, toX_ok, toX_ex, bind_nx, bind_rt, bind_rf, bind_ex, bind_bk, bind_ct, at_ok, at_ex, res_val, map_ex, rbind_ex, Op.res, resA, valA, isOw, box0, Option.map_some, Option.bind_some, sHeardT, nlCons, nlNil, Nw.dat, mSet, eChain, eRg1, eRg2, eSl, pNo, pSo,
  List.getElem?_cons_zero, List.getElem?_cons_succ, List.set_cons_zero, List.set_cons_succ, List.length_cons, List.length_nil, if_true, if_false, Bool.false_eq_true, ite_true, ite_false, reduceIte,
  addU_int, subD_int, ltD_int, leD_int, gtD_int, geD_int, negD_int, absD_int, intD_bool, intD_int, lenD_list, lenD_tuple, lenD_scr, pow10_7, pow10_18, pow10_40, eqW_ints, neW_ints, eqW_strs, neW_strs, eqW_none, eqW_in, eqW_ni, ixD_list, ixD_tuple, ixD_scr, atI_3_0, atI_3_1, atI_3_2, ixN_3_0, ixN_3_1, ixN_3_2, wipeR, zip2D, skOf, isiD_n, isiD_b, isiD_i, isiD_s, isiD_l, isiD_t, isiTD_n, isiTD_b, isiTD_i, isiTD_s, isiTD_l, isiTD_t, isiAny, eCallX, eCallWX, xE, xIf, xL, xCb1, sSetX, sRetX, sDropX, sRaise, sTo, eMk, isX_n, sKeep, kt_ll, kt_lt, kt_ls, kt_li, kt_lb, kt_tl, kt_tt, kt_ts, kt_ti, kt_tb, kt_sl, kt_st, kt_ss, kt_si, kt_sb, kt_il, kt_it, kt_is, kt_ii, kt_ib, kt_bl, kt_bt, kt_bs, kt_bi, kt_bb, kt_nl, kt_nt, kt_ns, kt_ni, kt_nb, eqW_bools, neW_bools, isD_none, isNotD_none, isNoneD, isNone_e, List.map_cons, List.map_nil, List.replicate, List.append_nil, List.cons_append, List.nil_append, nc0, nc1, nc2, nc3, nc4, nc5, nc6, nc7, nc8, nc9, nc10, nc11, nc12, nc13, nc14, nc15, nc16, nc17, nc18, nc19, nc20, Nat.reduceAdd, Nat.reduceSub, ne_eq, decide_true, decide_false, not_true_eq_false, not_false_eq_true, reduceCtorEq, Bool.and_true, Bool.true_and, Bool.and_false, Bool.false_and, Bool.or_true, Bool.true_or, Bool.or_false, Bool.false_or, Bool.not_true, Bool.not_false, *])
def inn (ns : List Int) : List Int := rngI 1 (ns.length - 2)
theorem mem_inn {ns : List Int} {i : Int} (h : i ∈ inn ns) : 1 ≤ i ∧ i + 1 < ns.length := by
  have := mem_rngI h
  omega
def isTop (ns : List Int) (i : Int) : Bool := decide (nat ns (i - 1) < nat ns i) && decide (nat ns (i + 1) < nat ns i)
def isDip (ns : List Int) (i : Int) : Bool := decide (nat ns i < nat ns (i - 1)) && decide (nat ns i < nat ns (i + 1))
theorem inner_eq {r : D} {ns : List Int} (hr : Sq r (ns.map .int)) (hl : ns.length ≤ 1000) : F_inner [r] = some ((inn ns).map .int) := by
  have e : rg2 (.int 1) (.int (((ns.map PyData.int).length : Int) - 1)) = some ((inn ns).map .int) := by
    unfold rg2
    dsimp only
    rw [if_pos (by rw [List.length_map]; omega), rngI_d]
    unfold inn
    rw [List.length_map, show ((ns.length : Int) - 1 - 1).toNat = ns.length - 2 by omega]
  clear hl
  unfold F_inner callF g_inner env0
  rcases hr with rfl | rfl <;> walk_at "evh"
theorem len_inn {ns : List Int} (hl : ns.length ≤ 1000) : ((inn ns).map PyData.int).length ≤ sizeLine := by
  rw [List.length_map]
  unfold inn
  rw [rngI_len]
  exact Nat.le_trans (by omega : ns.length - 2 ≤ 1000) (by decide)
theorem tops_lc {r : D} {ns : List Int} (hr : Sq r (ns.map .int)) : lcL [1] (gN 1) ct_tops_1 ce_tops_2 ((inn ns).map .int) [.sh r, .no] = .ok (((inn ns).filter (isTop ns)).map .int) [.sh r, .no] := by
  refine lc_filter _ fun i hi => ⟨[.sh r, .sh (.int i)], rfl, rfl, ?_, rfl⟩
  obtain ⟨h1, h2⟩ := mem_inn hi
  have a1 := atI_at (ns := ns) (i := i - 1) (by omega) (by omega)
  have a2 := atI_at (ns := ns) (i := i) (by omega) (by omega)
  have a3 := atI_at (ns := ns) (i := i + 1) (by omega) (by omega)
  clear hi h1 h2
  unfold ct_tops_1 isTop
  cases d1 : decide (nat ns (i - 1) < nat ns i) <;> cases d2 : decide (nat ns (i + 1) < nat ns i) <;> rcases hr with rfl | rfl <;> walk_at "evh"
theorem dips_lc {r : D} {ns : List Int} (hr : Sq r (ns.map .int)) : lcL [1] (gN 1) ct_dips_1 ce_dips_2 ((inn ns).map .int) [.sh r, .no] = .ok (((inn ns).filter (isDip ns)).map .int) [.sh r, .no] := by
  refine lc_filter _ fun i hi => ⟨[.sh r, .sh (.int i)], rfl, rfl, ?_, rfl⟩
  obtain ⟨h1, h2⟩ := mem_inn hi
  have a1 := atI_at (ns := ns) (i := i - 1) (by omega) (by omega)
  have a2 := atI_at (ns := ns) (i := i) (by omega) (by omega)
  have a3 := atI_at (ns := ns) (i := i + 1) (by omega) (by omega)
  clear hi h1 h2
  unfold ct_dips_1 isDip
  cases d1 : decide (nat ns i < nat ns (i - 1)) <;> cases d2 : decide (nat ns i < nat ns (i + 1)) <;> rcases hr with rfl | rfl <;> walk_at "evh"
def topsL (ns : List Int) : List Int := (inn ns).filter (isTop ns)
def dipsL (ns : List Int) : List Int := (inn ns).filter (isDip ns)
theorem tops_eq {r : D} {ns : List Int} (hr : Sq r (ns.map .int)) (hl : ns.length ≤ 1000) : F_tops [r] = some ((topsL ns).map .int) := by
  have e1 := inner_eq hr hl
  have e2 := tops_lc hr
  have e3 := len_inn hl
  have it : itemsD (.list ((inn ns).map .int)) = some ((inn ns).map .int) := rfl
  clear hl hr
  unfold F_tops callF g_tops env0 topsL
  walk_at "evh"
theorem dips_eq {r : D} {ns : List Int} (hr : Sq r (ns.map .int)) (hl : ns.length ≤ 1000) : F_dips [r] = some ((dipsL ns).map .int) := by
  have e1 := inner_eq hr hl
  have e2 := dips_lc hr
  have e3 := len_inn hl
  have it : itemsD (.list ((inn ns).map .int)) = some ((inn ns).map .int) := rfl
  clear hl hr
  unfold F_dips callF g_dips env0 dipsL
  walk_at "evh"
end W
namespace W
open PySem L2 DL
local macro_rules | `(tactic| walk_at "ev") => `(tactic| simp only [eC, eV, oE, oV, eL, eT, aNil, aCons, eOp2, eOp1, eApp, tstE, eB, tNotG, tAndG, tOrG, eAndG, eOrG, eNotG, eIf, eSeq, eCall, eCallO, eCallB, eCallBF, eCallBX, sSeq, sNext, sRet, sRetF, sRetO, sRetN, sDrop, sIf, sSet, sSetO, sBreak, sCont, sBad, sPar, sPar3, fz, sFz, eCallW, idL, sApp, sPutIx, sAug, sFor, gN, gT, gsCons, gsNil, gYes, eLc, gSeq, nS, nF, Nw.sl, R.ok_bind, R.ok_map, R.lift_some, to_ok, toX_ok, toX_ex, bind_nx, bind_rt, bind_rf, bind_ex, bind_bk, bind_ct, at_ok, at_ex, res_val, map_ex, rbind_ex, Op.res, resA, valA, isOw, box0, Option.map_some, Option.bind_some, sHeardT, nlCons, nlNil, Nw.dat, mSet, eChain, eRg1, eRg2, eSl, pNo, pSo,
  List.getElem?_cons_zero, List.getElem?_cons_succ, List.set_cons_zero, List.set_cons_succ, List.length_cons, List.length_nil, if_true, if_false, Bool.false_eq_true, ite_true, ite_false, reduceIte,
  addU_int, subD_int, ltD_int, leD_int, gtD_int, geD_int, negD_int, absD_int, intD_bool, intD_int, lenD_list, lenD_tuple, lenD_scr, pow10_7, pow10_18, pow10_40, eqW_ints, neW_ints, eqW_strs, neW_strs, eqW_none, eqW_in, eqW_ni, ixD_list, ixD_tuple, ixD_scr, atI_3_0, atI_3_1, atI_3_2, ixN_3_0, ixN_3_1, ixN_3_2, wipeR, zip2D, skOf, isiD_n, isiD_b, isiD_i, isiD_s, isiD_l, isiD_t, isiTD_n, isiTD_b, isiTD_i, isiTD_s, isiTD_l, isiTD_t, isiAny, eCallX, eCallWX, xE, xIf, xL, xCb1, sSetX, sRetX, sDropX, sRaise, sTo, eMk, isX_n, sKeep, kt_ll, kt_lt, kt_ls, kt_li, kt_lb, kt_tl, kt_tt, kt_ts, kt_ti, kt_tb, kt_sl, kt_st, kt_ss, kt_si, kt_sb, kt_il, kt_it, kt_is, kt_ii, kt_ib, kt_bl, kt_bt, kt_bs, kt_bi, kt_bb, kt_nl, kt_nt, kt_ns, kt_ni, kt_nb, eqW_bools, neW_bools, isD_none, isNotD_none, isNoneD, isNone_e, List.map_cons, List.map_nil, List.replicate, List.append_nil, List.cons_append, List.nil_append, nc0, nc1, nc2, nc3, nc4, nc5, nc6, nc7, nc8, nc9, nc10, nc11, nc12, nc13, nc14, nc15, nc16, nc17, nc18, nc19, nc20, Nat.reduceAdd, Nat.reduceSub, ne_eq, decide_true, decide_false, not_true_eq_false, not_false_eq_true, reduceCtorEq, Bool.and_true, Bool.true_and, Bool.and_false, Bool.false_and, Bool.or_true, Bool.true_or, Bool.or_false, Bool.false_or, Bool.not_true, Bool.not_false, xIf])
local macro_rules | `(tactic| walk_at "evh") => `(tactic| simp only [eC, eV, oE, oV, eL, eT, aNil, aCons, eOp2, eOp1, eApp, tstE, eB, tNotG, tAndG, tOrG, eAndG, eOrG, eNotG, eIf, eSeq, eCall, eCallO, eCallB, eCallBF, eCallBX, sSeq, sNext, sRet, sRetF, sRetO, sRetN, sDrop, sIf, sSet, sSetO, sBreak, sCont, sBad, sPar, sPar3, fz, sFz, eCallW, idL, sApp, sPutIx, sAug, sFor, gN, gT, gsCons, gsNil, gYes, eLc, gSeq, nS, nF, Nw.sl, R.ok_bind, R.ok_map, R.lift_some, to_ok, toX_ok, toX_ex, bind_nx, bind_rt, bind_rf, bind_ex, bind_bk, bind_ct, at_ok, at_ex, res_val, map_ex, rbind_ex, Op.res, resA, valA, isOw, box0, Option.map_some, Option.bind_some, sHeardT, nlCons, nlNil, Nw.dat, mSet, eChain, eRg1, eRg2, eSl, pNo, pSo,
  List.getElem?_cons_zero, List.getElem?_cons_succ, List.set_cons_zero, List.set_cons_succ, List.length_cons, List.length_nil, if_true, if_false, Bool.false_eq_true, ite_true, ite_false, reduceIte,
  addU_int, subD_int, ltD_int, leD_int, gtD_int, geD_int, negD_int, absD_int, intD_bool, intD_int, lenD_list, lenD_tuple, lenD_scr, pow10_7, pow10_18, pow10_40, eqW_ints, neW_ints, eqW_strs, neW_strs, eqW_none, eqW_in, eqW_ni, ixD_list, ixD_tuple, ixD_scr, atI_3_0, atI_3_1, atI_3_2, ixN_3_0, ixN_3_1, ixN_3_2, wipeR, zip2D, skOf, isiD_n, isiD_b, isiD_i, isiD_s, isiD_l, isiD_t, isiTD_n, isiTD_b, isiTD_i, isiTD_s, isiTD_l, isiTD_t, isiAny, eCallX, eCallWX, xE, xIf, xL, xCb1, sSetX, sRetX, sDropX, sRaise, sTo, eMk, isX_n, sKeep, kt_ll, kt_lt, kt_ls, kt_li, kt_lb, kt_tl, kt_tt, kt_ts, kt_ti, kt_tb, kt_sl, kt_st, kt_ss, kt_si, kt_sb, kt_il, kt_it, kt_is, kt_ii, kt_ib, kt_bl, kt_bt, kt_bs, kt_bi, kt_bb, kt_nl, kt_nt, kt_ns, kt_ni, kt_nb, eqW_bools, neW_bools, isD_none, isNotD_none, isNoneD, isNone_e, List.map_cons, List.map_nil, List.replicate, List.append_nil, List.cons_append, List.nil_append, nc0, nc1, nc2, nc3, nc4, nc5, nc6, nc7, nc8, nc9, nc10, nc11, nc12, nc13, nc14, nc15, nc16, nc17, nc18, nc19, nc20, Nat.reduceAdd, Nat.reduceSub, ne_eq, decide_true, decide_false, not_true_eq_false, not_false_eq_true, reduceCtorEq, Bool.and_true, Bool.true_and, Bool.and_false, Bool.false_and, Bool.or_true, Bool.true_or, Bool.or_false, Bool.false_or, Bool.not_true, Bool.not_false, xIf, *])
theorem lmid_go1 {r : D} {i j : Int} {a : D} (hj : lenD [r] = some (.int j)) (b1 b2 : Bool) (d1 : decide (i = 0) = b1) (d2 : decide (i = j - 1) = b2) (hb : (b1 || b2) = true) (ix : ixD r (.int i) = some a) : F__law_mid [r, .int i] = some a := by
  unfold F__law_mid callP g__law_mid env0
  cases b1
  · cases b2
    · cases hb
    · clear hb; walk_at "evh"
  · clear hb; walk_at "evh"
theorem lmid_go2 {r : D} {i j : Int} {t : D} {s : List D} {m : D} (hj : lenD [r] = some (.int j)) (d1 : decide (i = 0) = false) (d2 : decide (i = j - 1) = false) (sl : sliceU r (some (i - 1)) (some (i + 2)) = some t) (hs : sortedD [t] = some s) (hm : atI s 1 = some m) : F__law_mid [r, .int i] = some m := by
  unfold F__law_mid callP g__law_mid env0
  walk_at "evh"
theorem lmid_eq {ns : List Int} {i : Int} (h0 : 0 ≤ i) (h1 : i < ns.length) : F__law_mid [.tuple (ns.map .int), .int i] = some (.int (midN ns i)) := by
  have hr := Sq.t (ns.map PyData.int)
  have hj := hr.leni
  unfold midN
  by_cases h : i = 0 ∨ i = (ns.length : Int) - 1
  · rw [if_pos h]
    refine lmid_go1 hj _ _ rfl rfl ?_ (hr.ix h0 h1)
    rcases h with h | h
    · rw [decide_eq_true h]; rfl
    · rw [decide_eq_true h, Bool.or_true]
  · rw [if_neg h]
    obtain ⟨x, z, e⟩ := srt3 (nat ns (i - 1)) (nat ns i) (nat ns (i + 1))
    refine lmid_go2 (s := (srtI [nat ns (i - 1), nat ns i, nat ns (i + 1)]).map .int) hj (decide_eq_false fun z => h (.inl z)) (decide_eq_false fun z => h (.inr z)) sliceU_t ?_ ?_
    · rw [cut_map, cut3 ns i (by omega) (by omega)]; rfl
    · rw [e]; rfl
theorem lcall_go {r m : D} {i : Int} {a b c d : D} (hm : F__law_mid [r, .int i] = some m) (s1 : sliceU r none (some i) = some a) (s2 : sliceU r (some (i + 1)) none = some b) (a1 : addU a (.tuple [m]) = some c) (a2 : addU c b = some d) (sz : 1 ≤ sizeLine) : F__law_call [r, .int i] = some d := by
  unfold F__law_call callP g__law_call env0
  walk_at "evh"
theorem lcall_eq {ns : List Int} {i : Int} (h0 : 0 ≤ i) (h1 : i < ns.length) (hl : ns.length ≤ 1000) : F__law_call [.tuple (ns.map .int), .int i] = some (.tuple ((callN ns i).map .int)) := by
  obtain ⟨k, rfl⟩ : ∃ k : Nat, i = (k : Int) := ⟨i.toNat, by omega⟩
  refine lcall_go (lmid_eq h0 h1) sliceU_t sliceU_t (addT ?_) ?_ (by decide)
  · rw [cut_to, List.length_take, List.length_map]; simp; omega
  · rw [show (k : Int) + 1 = ((k + 1 : Nat) : Int) by omega, cut_from, cut_to, addT]
    · congr 2
      unfold callN
      rw [Int.toNat_natCast, ← set_cut ns k _ (by omega)]
      simp
    · rw [List.length_append, List.length_take, List.length_drop, List.length_map]; simp; omega
end W
namespace W
open PySem L2 DL
local macro_rules | `(tactic| walk_at "ev") => `(tactic| simp only [eC, eV, oE, oV, eL, eT, aNil, aCons, eOp2, eOp1, eApp, tstE, eB, tNotG, tAndG, tOrG, eAndG, eOrG, eNotG, eIf, eSeq, eCall, eCallO, eCallB, eCallBF, eCallBX, sSeq, sNext, sRet, sRetF, sRetO, sRetN, sDrop, sIf, sSet, sSetO, sBreak, sCont, sBad, sPar, sPar3, fz, sFz, eCallW, idL, sApp, sPutIx, sAug, sFor, gN, gT, gsCons, gsNil, gYes, eLc, gSeq, nS, nF, Nw.sl, R.ok_bind, R.ok_map, R.lift_some, to_ok, toX_ok, toX_ex, bind_nx, bind_rt, bind_rf, bind_ex, bind_bk, bind_ct, at_ok, at_ex, res_val, map_ex, rbind_ex, Op.res, resA, valA, isOw, box0, Option.map_some, Option.bind_some, sHeardT, nlCons, nlNil, Nw.dat, mSet, eChain, eRg1, eRg2, eSl, pNo, pSo,
  List.getElem?_cons_zero, List.getElem?_cons_succ, List.set_cons_zero, List.set_cons_succ, List.length_cons, List.length_nil, if_true, if_false, Bool.false_eq_true, ite_true, ite_false, reduceIte,
  addU_int, subD_int, ltD_int, leD_int, gtD_int, geD_int, negD_int, absD_int, intD_bool, intD_int, lenD_list, lenD_tuple, lenD_scr, pow10_7, pow10_18, pow10_40, eqW_ints, neW_ints, eqW_strs, neW_strs, eqW_none, eqW_in, eqW_ni, ixD_list, ixD_tuple, ixD_scr, atI_3_0, atI_3_1, atI_3_2, ixN_3_0, ixN_3_1, ixN_3_2, wipeR, zip2D, skOf, isiD_n, isiD_b, isiD_i, isiD_s, isiD_l, isiD_t, isiTD_n, isiTD_b, isiTD_i, isiTD_s, isiTD_l, isiTD_t, isiAny, eCallX, eCallWX, xE, xIf, xL, xCb1, sSetX, sRetX, sDropX, sRaise, sTo, eMk, isX_n, sKeep, kt_ll, kt_lt, kt_ls, kt_li, kt_lb, kt_tl, kt_tt, kt_ts, kt_ti, kt_tb, kt_sl, kt_st, kt_ss, kt_si, kt_sb, kt_il, kt_it, kt_is, kt_ii, kt_ib, kt_bl, kt_bt, kt_bs, kt_bi, kt_bb, kt_nl, kt_nt, kt_ns, kt_ni, kt_nb, eqW_bools, neW_bools, isD_none, isNotD_none, isNoneD, isNone_e, List.map_cons, List.map_nil, List.replicate, List.append_nil, List.cons_append, List.nil_append, nc0, nc1, nc2, nc3, nc4, nc5, nc6, nc7, nc8, nc9, nc10, nc11, nc12, nc13, nc14, nc15, nc16, nc17, nc18, nc19, nc20, Nat.reduceAdd, Nat.reduceSub, ne_eq, decide_true, decide_false, not_true_eq_false, not_false_eq_true, reduceCtorEq, Bool.and_true, Bool.true_and, Bool.and_false, Bool.false_and, Bool.or_true, Bool.true_or, Bool.or_false, Bool.false_or, Bool.not_true, Bool.not_false])
local macro_rules | `(tactic| walk_at "evh") => `(tactic| simp only [eC, eV, oE, oV, eL, eT, aNil, aCons, eOp2, eOp1, eApp, tstE, eB, tNotG, tAndG, tOrG, eAndG, eOrG, eNotG, eIf, eSeq, eCall, eCallO, eCallB, eCallBF, eCallBX, sSeq, sNext, sRet, sRetF, sRetO, sRetN, sDrop, sIf, sSet, sSetO, sBreak, sCont, sBad, sPar, sPar3, fz, sFz, eCallW, idL, sApp, sPutIx, sAug, sFor, gN, gT, gsCons, gsNil, gYes, eLc, gSeq, nS, nF, Nw.sl, R.ok_bind, R.ok_map, R.lift_some, to_ok, toX_ok, toX_ex, bind_nx, bind_rt, bind_rf, bind_ex, bind_bk, bind_ct, at_ok, at_ex, res_val, map_ex, rbind_ex, Op.res, resA, valA, isOw, box0, Option.map_some, Option.bind_some, sHeardT, nlCons, nlNil, Nw.dat, mSet, eChain, eRg1, eRg2, eSl, pNo, pSo,
  List.getElem?_cons_zero, List.getElem?_cons_succ, List.set_cons_zero, List.set_cons_succ, List.length_cons, List.length_nil, if_true, if_false, Bool.false_eq_true, ite_true, ite_false, reduceIte,
  addU_int, subD_int, ltD_int, leD_int, gtD_int, geD_int, negD_int, absD_int, intD_bool, intD_int, lenD_list, lenD_tuple, lenD_scr, pow10_7, pow10_18, pow10_40, eqW_ints, neW_ints, eqW_strs, neW_strs, eqW_none, eqW_in, eqW_ni, ixD_list, ixD_tuple, ixD_scr, atI_3_0, atI_3_1, atI_3_2, ixN_3_0, ixN_3_1, ixN_3_2, wipeR, zip2D, skOf, isiD_n, isiD_b, isiD_i, isiD_s, isiD_l, isiD_t, isiTD_n, isiTD_b, isiTD_i, isiTD_s, isiTD_l, isiTD_t, isiAny, eCallX, eCallWX, xE, xIf, xL, xCb1, sSetX, sRetX, sDropX, sRaise, sTo, eMk, isX_n, sKeep, kt_ll, kt_lt, kt_ls, kt_li, kt_lb, kt_tl, kt_tt, kt_ts, kt_ti, kt_tb, kt_sl, kt_st, kt_ss, kt_si, kt_sb, kt_il, kt_it, kt_is, kt_ii, kt_ib, kt_bl, kt_bt, kt_bs, kt_bi, kt_bb, kt_nl, kt_nt, kt_ns, kt_ni, kt_nb, eqW_bools, neW_bools, isD_none, isNotD_none, isNoneD, isNone_e, List.map_cons, List.map_nil, List.replicate, List.append_nil, List.cons_append, List.nil_append, nc0, nc1, nc2, nc3, nc4, nc5, nc6, nc7, nc8, nc9, nc10, nc11, nc12, nc13, nc14, nc15, nc16, nc17, nc18, nc19, nc20, Nat.reduceAdd, Nat.reduceSub, ne_eq, decide_true, decide_false, not_true_eq_false, not_false_eq_true, reduceCtorEq, Bool.and_true, Bool.true_and, Bool.and_false, Bool.false_and, Bool.or_true, Bool.true_or, Bool.or_false, Bool.false_or, Bool.not_true, Bool.not_false, *])
theorem notInD_t (i : Int) (ns : List Int) : notInD (.int i) (.tuple (ns.map .int)) = some (.bool (!decide (i ∈ ns))) := notInD_l i ns
theorem part_a {r : D} {p l m n x c : Int} {ch w calm : Bool} {s11 : Sl} (st k1 k2 k3 : Bool) (x1 : ixD r (.int (p - 1)) = some (.int l)) (x2 : ixD r (.int p) = some (.int m)) (h1 : decide (l = m) = k1) (h2 : decide (l < m) = k2) (h3 : decide (n < x) = k3) (hb : (!st || (k1 || !decide (k2 = k3))) = true) :
    (sIf (tOrG (tNotG (tstE (eV 6))) (tOrG (tstE (eOp2 eqW (oE (eOp2 ixD (oE (eV 0)) (oE (eOp2 subD (oE (eV 1)) (oE (eC (.int 1))))))) (oE (eOp2 ixD (oE (eV 0)) (oE (eV 1)))))) (tstE (eOp2 neW (oE (eOp2 ltD (oE (eOp2 ixD (oE (eV 0)) (oE (eOp2 subD (oE (eV 1)) (oE (eC (.int 1))))))) (oE (eOp2 ixD (oE (eV 0)) (oE (eV 1)))))) (oE (eOp2 ltD (oE (eV 5)) (oE (eV 9)))))))) (sRet (eC .none))
    sNext) [.sh r, .sh (.int p), .sh (.tuple [.int n, .bool st, .int c, .bool w]), .sh (.tuple [.int x, .bool ch]), .sh (.bool calm), .sh (.int n), .sh (.bool st), .sh (.int c), .sh (.bool w), .sh (.int x), .sh (.bool ch), s11] = .rt .none [.sh r, .sh (.int p), .sh (.tuple [.int n, .bool st, .int c, .bool w]), .sh (.tuple [.int x, .bool ch]), .sh (.bool calm), .sh (.int n), .sh (.bool st), .sh (.int c), .sh (.bool w), .sh (.int x), .sh (.bool ch), s11] := by
  cases st with
  | false => clear hb; walk_at "evh"
  | true =>
    cases k1 with
    | true => clear hb; walk_at "evh"
    | false =>
      have hb : decide (k2 = k3) = false := by simpa using hb
      walk_at "evh"
theorem part_b {r : D} {p l m n x c : Int} {ch w calm : Bool} {s11 : Sl} (k2 k3 : Bool) (x1 : ixD r (.int (p - 1)) = some (.int l)) (x2 : ixD r (.int p) = some (.int m)) (h1 : decide (l = m) = false) (h2 : decide (l < m) = k2) (h3 : decide (n < x) = k3) (hb : decide (k2 = k3) = true) :
    (sIf (tOrG (tNotG (tstE (eV 6))) (tOrG (tstE (eOp2 eqW (oE (eOp2 ixD (oE (eV 0)) (oE (eOp2 subD (oE (eV 1)) (oE (eC (.int 1))))))) (oE (eOp2 ixD (oE (eV 0)) (oE (eV 1)))))) (tstE (eOp2 neW (oE (eOp2 ltD (oE (eOp2 ixD (oE (eV 0)) (oE (eOp2 subD (oE (eV 1)) (oE (eC (.int 1))))))) (oE (eOp2 ixD (oE (eV 0)) (oE (eV 1)))))) (oE (eOp2 ltD (oE (eV 5)) (oE (eV 9)))))))) (sRet (eC .none))
    sNext) [.sh r, .sh (.int p), .sh (.tuple [.int n, .bool true, .int c, .bool w]), .sh (.tuple [.int x, .bool ch]), .sh (.bool calm), .sh (.int n), .sh (.bool true), .sh (.int c), .sh (.bool w), .sh (.int x), .sh (.bool ch), s11] = .nx [.sh r, .sh (.int p), .sh (.tuple [.int n, .bool true, .int c, .bool w]), .sh (.tuple [.int x, .bool ch]), .sh (.bool calm), .sh (.int n), .sh (.bool true), .sh (.int c), .sh (.bool w), .sh (.int x), .sh (.bool ch), s11] := by
  walk_at "evh"
theorem part_c {s0 s1 s2 s3 s4 s6 s7 s8 s10 s11 : Sl} {n x : Int} (k3 : Bool) (h3 : decide (n < x) = k3) :
    (sSet 11 (eIf (tstE (eOp2 ltD (oE (eV 5)) (oE (eV 9)))) (eC (.int 1)) (eOp1 negD (oE (eC (.int 1)))))) [s0, s1, s2, s3, s4, .sh (.int n), s6, s7, s8, .sh (.int x), s10, s11] = .nx [s0, s1, s2, s3, s4, .sh (.int n), s6, s7, s8, .sh (.int x), s10, .sh (.int (if k3 = true then 1 else -1))] := by
  cases k3 <;> walk_at "evh"
theorem part_d {s0 s1 s2 s3 s5 s6 s9 s10 : Sl} {c t : Int} (calm w k4 : Bool) (h4 : notInD (.int c) (.tuple [.int 0, .int t]) = some (.bool k4)) (z : 2 ≤ sizeLine) :
    (sIf (tAndG (tstE (eV 4)) (tAndG (tNotG (tstE (eV 8))) (tstE (eOp2 notInD (oE (eV 7)) (oE (eT (eSeq (aCons (oE (eC (.int 0))) (aCons (oE (eV 11)) aNil))))))))) (sRet (eC .none))
    sNext) [s0, s1, s2, s3, .sh (.bool calm), s5, s6, .sh (.int c), .sh (.bool w), s9, s10, .sh (.int t)] = if (calm && (!w && k4)) = true then .rt .none [s0, s1, s2, s3, .sh (.bool calm), s5, s6, .sh (.int c), .sh (.bool w), s9, s10, .sh (.int t)] else .nx [s0, s1, s2, s3, .sh (.bool calm), s5, s6, .sh (.int c), .sh (.bool w), s9, s10, .sh (.int t)] := by
  cases calm with
  | false => clear h4; walk_at "evh"
  | true =>
    cases w with
    | true => clear h4; walk_at "evh"
    | false => cases k4 <;> walk_at "evh"
theorem part_e {s0 s1 s2 s3 s5 s6 s7 s8 : Sl} {x t : Int} {ch : Bool} (calm : Bool) (z : 4 ≤ sizeLine) :
    (sRet (eT (eSeq (aCons (oE (eV 9)) (aCons (oE (eNotG (eV 10))) (aCons (oE (eIf (tstE (eV 4)) (eV 11) (eC (.int 0)))) (aCons (oE (eC (.bool false))) aNil))))))) [s0, s1, s2, s3, .sh (.bool calm), s5, s6, s7, s8, .sh (.int x), .sh (.bool ch), .sh (.int t)] = .rt (.tuple [.int x, .bool (!ch), .int (if calm = true then t else 0), .bool false]) [s0, s1, s2, s3, .sh (.bool calm), s5, s6, s7, s8, .sh (.int x), .sh (.bool ch), .sh (.int t)] := by
  cases calm <;> walk_at "ev" <;> rw [if_pos z] <;> rfl
theorem part_0 {r : D} {p n x c : Int} {st ch w calm : Bool} {s5 s6 s7 s8 s9 s10 s11 : Sl} (z : 2 ≤ sizeLine) :
    (sTo (eT (eSeq (aCons (oE (eV 2)) (aCons (oE (eV 3)) aNil)))) (gT 2 (gsCons (gT 4 (gsCons (gN 5) (gsCons (gN 6) (gsCons (gN 7) (gsCons (gN 8) gsNil))))) (gsCons (gT 2 (gsCons (gN 9) (gsCons (gN 10) gsNil))) gsNil)))) [.sh r, .sh (.int p), .sh (.tuple [.int n, .bool st, .int c, .bool w]), .sh (.tuple [.int x, .bool ch]), .sh (.bool calm), s5, s6, s7, s8, s9, s10, s11] = .nx [.sh r, .sh (.int p), .sh (.tuple [.int n, .bool st, .int c, .bool w]), .sh (.tuple [.int x, .bool ch]), .sh (.bool calm), .sh (.int n), .sh (.bool st), .sh (.int c), .sh (.bool w), .sh (.int x), .sh (.bool ch), s11] := by
  walk_at "evh"
theorem parted_eq {r : D} {a : List Int} {p : Int} {s : Sta} {o : Opt} {calm : Bool} (hr : Sq r (a.map .int)) (h0 : 1 ≤ p) (h1 : p < a.length) : F_parted [r, .int p, stD (some s), opt2D o, .bool calm] = some (stD (partN a p s o calm)) := by
  obtain ⟨n, st, c, w⟩ := s
  obtain ⟨x, ch⟩ := o
  have x1 := hr.ix (i := p - 1) (by omega) (by omega)
  have x2 := hr.ix (i := p) (by omega) h1
  have P0 := part_0 (r := r) (p := p) (n := n) (x := x) (c := c) (st := st) (ch := ch) (w := w) (calm := calm) (s5 := .no) (s6 := .no) (s7 := .no) (s8 := .no) (s9 := .no) (s10 := .no) (s11 := .no) (by decide)
  unfold partN
  dsimp only
  generalize nat a (p - 1) = l at *
  generalize nat a p = m at *
  by_cases c1 : st = false ∨ l = m ∨ decide (l < m) ≠ decide (n < x)
  · rw [if_pos c1]
    refine callP_rt rfl (ρ := _) (seq_nx P0 (seq_rt (part_a (calm := calm) (w := w) (c := c) (ch := ch) (s11 := .no) st _ _ _ x1 x2 rfl rfl rfl ?_)))
    rcases c1 with e | e | e
    · rw [e]; rfl
    · rw [decide_eq_true e]; simp
    · rw [decide_eq_false e]; simp
  · rw [if_neg c1]
    have e1 : st = true := by
      cases st with
      | true => rfl
      | false => exact absurd (.inl rfl) c1
    subst e1
    have e2 : decide (l = m) = false := decide_eq_false fun e => c1 (.inr (.inl e))
    have e3 : decide (decide (l < m) = decide (n < x)) = true := by
      by_cases e : decide (l < m) = decide (n < x)
      · exact decide_eq_true e
      · exact absurd (.inr (.inr e)) c1
    have h4 := notInD_t c [0, if decide (n < x) = true then 1 else -1]
    have h4 : notInD (.int c) (.tuple [.int 0, .int (if decide (n < x) = true then 1 else -1)]) = some (.bool (!decide (c ∈ [0, if decide (n < x) = true then 1 else -1]))) := h4
    have P1 := part_b (calm := calm) (w := w) (c := c) (ch := ch) (s11 := .no) _ _ x1 x2 e2 rfl rfl e3
    have P2 := part_c (s0 := .sh r) (s1 := .sh (.int p)) (s2 := .sh (.tuple [.int n, .bool true, .int c, .bool w])) (s3 := .sh (.tuple [.int x, .bool ch])) (s4 := .sh (.bool calm)) (s6 := .sh (.bool true)) (s7 := .sh (.int c)) (s8 := .sh (.bool w)) (s10 := .sh (.bool ch)) (s11 := .no) (n := n) (x := x) _ rfl
    have P3 := part_d (s0 := .sh r) (s1 := .sh (.int p)) (s2 := .sh (.tuple [.int n, .bool true, .int c, .bool w])) (s3 := .sh (.tuple [.int x, .bool ch])) (s5 := .sh (.int n)) (s6 := .sh (.bool true)) (s9 := .sh (.int x)) (s10 := .sh (.bool ch)) calm w _ h4 (by decide)
    have ei : (if decide (n < x) = true then (1 : Int) else -1) = if n < x then 1 else -1 := by
      by_cases e : n < x
      · rw [decide_eq_true e, if_pos rfl, if_pos e]
      · rw [decide_eq_false e, if_neg Bool.false_ne_true, if_neg e]
    by_cases c2 : calm = true ∧ w = false ∧ ¬ (c = 0 ∨ c = if n < x then 1 else -1)
    · rw [if_pos c2]
      have hb : (calm && (!w && !decide (c ∈ [0, if decide (n < x) = true then 1 else -1]))) = true := by
        rw [c2.1, c2.2.1, ei, decide_eq_false (by simpa using c2.2.2)]; rfl
      rw [if_pos hb] at P3
      exact callP_rt rfl (ρ := _) (seq_nx P0 (seq_nx P1 (seq_nx P2 (seq_rt P3))))
    · rw [if_neg c2]
      have hb : ¬ (calm && (!w && !decide (c ∈ [0, if decide (n < x) = true then 1 else -1]))) = true := fun z => by
        rw [Bool.and_eq_true, Bool.and_eq_true, ei] at z
        obtain ⟨z1, z2, z3⟩ := z
        refine c2 ⟨z1, by simpa using z2, ?_⟩
        simpa using z3
      rw [if_neg hb] at P3
      have P4 := part_e (s0 := .sh r) (s1 := .sh (.int p)) (s2 := .sh (.tuple [.int n, .bool true, .int c, .bool w])) (s3 := .sh (.tuple [.int x, .bool ch])) (s5 := .sh (.int n)) (s6 := .sh (.bool true)) (s7 := .sh (.int c)) (s8 := .sh (.bool w)) (x := x) (ch := ch) (t := if decide (n < x) = true then 1 else -1) calm (by decide)
      rw [ei] at P4
      rw [ei] at P3 P2
      exact callP_rt rfl (ρ := _) (seq_nx P0 (seq_nx P1 (seq_nx P2 (seq_nx P3 P4))))
theorem ns_0 {r : D} {p x : Int} {ch calm : Bool} (z : 4 ≤ sizeLine) : F_next_state [r, .int p, .none, .tuple [.int x, .bool ch], .bool calm] = some (.tuple [.int x, .bool (!ch), .int 0, .bool false]) := by
  have i0 : atI [.int x, .bool ch] 0 = some (PyData.int x) := rfl
  have i1 : atI [.int x, .bool ch] 1 = some (PyData.bool ch) := rfl
  unfold F_next_state callP g_next_state env0
  walk_at "evh"
theorem ns_1 {r : D} {p x n c : Int} {ch calm st w : Bool} (z : 4 ≤ sizeLine) (k : Bool) (hk : decide (x = n) = k) {v : D} (h : k = false → F_parted [r, .int p, .tuple [.int n, .bool st, .int c, .bool w], .tuple [.int x, .bool ch], .bool calm] = some v) : F_next_state [r, .int p, .tuple [.int n, .bool st, .int c, .bool w], .tuple [.int x, .bool ch], .bool calm] = some (if k = true then .tuple [.int n, .bool (st || !ch), .int c, .bool calm] else v) := by
  have i0 : atI [.int x, .bool ch] 0 = some (PyData.int x) := rfl
  have i1 : atI [.int x, .bool ch] 1 = some (PyData.bool ch) := rfl
  have j0 : atI [.int n, .bool st, .int c, .bool w] 0 = some (PyData.int n) := rfl
  have j1 : atI [.int n, .bool st, .int c, .bool w] 1 = some (PyData.bool st) := rfl
  have j2 : atI [.int n, .bool st, .int c, .bool w] 2 = some (PyData.int c) := rfl
  unfold F_next_state callP g_next_state env0
  cases k with
  | true => clear h; cases st <;> walk_at "evh"
  | false =>
    have h := h rfl
    walk_at "evh"
theorem next_eq {r : D} {a : List Int} {p : Int} {s : Stt} {o : Opt} {calm : Bool} (hr : Sq r (a.map .int)) (h0 : s = none ∨ 1 ≤ p) (h1 : p < a.length) : F_next_state [r, .int p, stD s, opt2D o, .bool calm] = some (stD (nxN a p s o calm)) := by
  cases s with
  | none => exact ns_0 (by decide)
  | some s =>
    have hp : 1 ≤ p := h0.resolve_left (fun z => nomatch z)
    have := parted_eq (s := s) (o := o) (calm := calm) hr hp h1
    obtain ⟨n, st, c, w⟩ := s
    obtain ⟨x, ch⟩ := o
    have e := ns_1 (r := r) (p := p) (x := x) (n := n) (c := c) (ch := ch) (calm := calm) (st := st) (w := w) (by decide) _ rfl (fun _ => this)
    refine e.trans ?_
    unfold nxN
    dsimp only
    by_cases k : x = n
    · rw [if_pos (decide_eq_true k), if_pos k]; rfl
    · rw [if_neg (by simpa using k), if_neg k]
end W
namespace W
open PySem L2 DL
local macro_rules | `(tactic| walk_at "ev") => `(tactic| simp only [eC, eV, oE, oV, eL, eT, aNil, aCons, eOp2, eOp1, eApp, tstE, eB, tNotG, tAndG, tOrG, eAndG, eOrG, eNotG, eIf, eSeq, eCall, eCallO, eCallB, eCallBF, eCallBX, sSeq, sNext, sRet, sRetF, sRetO, sRetN, sDrop, sIf, sSet, sSetO, sBreak, sCont, sBad, sPar, sPar3, fz, sFz, eCallW, idL, sApp, sPutIx, sAug, sFor, gN, gT, gsCons, gsNil, gYes, eLc, gSeq, nS, nF, Nw.sl, R.ok_bind, R.ok_map, R.lift_some, to_ok, toX_ok, toX_ex, bind_nx, bind_rt, bind_rf, bind_ex, bind_bk, bind_ct, at_ok, at_ex, res_val, map_ex, rbind_ex, Op.res, resA, valA, isOw, box0, Option.map_some, Option.bind_some, sHeardT, nlCons, nlNil, Nw.dat, mSet, eChain, eRg1, eRg2, eSl, pNo, pSo,
  List.getElem?_cons_zero, List.getElem?_cons_succ, List.set_cons_zero, List.set_cons_succ, List.length_cons, List.length_nil, if_true, if_false, Bool.false_eq_true, ite_true, ite_false, reduceIte,
  addU_int, subD_int, ltD_int, leD_int, gtD_int, geD_int, negD_int, absD_int, intD_bool, intD_int, lenD_list, lenD_tuple, lenD_scr, pow10_7, pow10_18, pow10_40, eqW_ints, neW_ints, eqW_strs, neW_strs, eqW_none, eqW_in, eqW_ni, ixD_list, ixD_tuple, ixD_scr, atI_3_0, atI_3_1, atI_3_2, ixN_3_0, ixN_3_1, ixN_3_2, wipeR, zip2D, skOf, isiD_n, isiD_b, isiD_i, isiD_s, isiD_l, isiD_t, isiTD_n, isiTD_b, isiTD_i, isiTD_s, isiTD_l, isiTD_t, isiAny, eCallX, eCallWX, xE, xIf, xL, xCb1, sSetX, sRetX, sDropX, sRaise, sTo, eMk, isX_n, sKeep, kt_ll, kt_lt, kt_ls, kt_li, kt_lb, kt_tl, kt_tt, kt_ts, kt_ti, kt_tb, kt_sl, kt_st, kt_ss, kt_si, kt_sb, kt_il, kt_it, kt_is, kt_ii, kt_ib, kt_bl, kt_bt, kt_bs, kt_bi, kt_bb, kt_nl, kt_nt, kt_ns, kt_ni, kt_nb, eqW_bools, neW_bools, isD_none, isNotD_none, isNoneD, isNone_e, List.map_cons, List.map_nil, List.replicate, List.append_nil, List.cons_append, List.nil_append, nc0, nc1, nc2, nc3, nc4, nc5, nc6, nc7, nc8, nc9, nc10, nc11, nc12, nc13, nc14, nc15, nc16, nc17, nc18, nc19, nc20, Nat.reduceAdd, Nat.reduceSub, ne_eq, decide_true, decide_false, not_true_eq_false, not_false_eq_true, reduceCtorEq, Bool.and_true, Bool.true_and, Bool.and_false, Bool.false_and, Bool.or_true, Bool.true_or, Bool.or_false, Bool.false_or, Bool.not_true, Bool.not_false])
local macro_rules | `(tactic| walk_at "evh") => `(tactic| simp only [eC, eV, oE, oV, eL, eT, aNil, aCons, eOp2, eOp1, eApp, tstE, eB, tNotG, tAndG, tOrG, eAndG, eOrG, eNotG, eIf, eSeq, eCall, eCallO, eCallB, eCallBF, eCallBX, sSeq, sNext, sRet, sRetF, sRetO, sRetN, sDrop, sIf, sSet, sSetO, sBreak, sCont, sBad, sPar, sPar3, fz, sFz, eCallW, idL, sApp, sPutIx, sAug, sFor, gN, gT, gsCons, gsNil, gYes, eLc, gSeq, nS, nF, Nw.sl, R.ok_bind, R.ok_map, R.lift_some, to_ok, toX_ok, toX_ex, bind_nx, bind_rt, bind_rf, bind_ex, bind_bk, bind_ct, at_ok, at_ex, res_val, map_ex, rbind_ex, Op.res, resA, valA, isOw, box0, Option.map_some, Option.bind_some, sHeardT, nlCons, nlNil, Nw.dat, mSet, eChain, eRg1, eRg2, eSl, pNo, pSo,
  List.getElem?_cons_zero, List.getElem?_cons_succ, List.set_cons_zero, List.set_cons_succ, List.length_cons, List.length_nil, if_true, if_false, Bool.false_eq_true, ite_true, ite_false, reduceIte,
  addU_int, subD_int, ltD_int, leD_int, gtD_int, geD_int, negD_int, absD_int, intD_bool, intD_int, lenD_list, lenD_tuple, lenD_scr, pow10_7, pow10_18, pow10_40, eqW_ints, neW_ints, eqW_strs, neW_strs, eqW_none, eqW_in, eqW_ni, ixD_list, ixD_tuple, ixD_scr, atI_3_0, atI_3_1, atI_3_2, ixN_3_0, ixN_3_1, ixN_3_2, wipeR, zip2D, skOf, isiD_n, isiD_b, isiD_i, isiD_s, isiD_l, isiD_t, isiTD_n, isiTD_b, isiTD_i, isiTD_s, isiTD_l, isiTD_t, isiAny, eCallX, eCallWX, xE, xIf, xL, xCb1, sSetX, sRetX, sDropX, sRaise, sTo, eMk, isX_n, sKeep, kt_ll, kt_lt, kt_ls, kt_li, kt_lb, kt_tl, kt_tt, kt_ts, kt_ti, kt_tb, kt_sl, kt_st, kt_ss, kt_si, kt_sb, kt_il, kt_it, kt_is, kt_ii, kt_ib, kt_bl, kt_bt, kt_bs, kt_bi, kt_bb, kt_nl, kt_nt, kt_ns, kt_ni, kt_nb, eqW_bools, neW_bools, isD_none, isNotD_none, isNoneD, isNone_e, List.map_cons, List.map_nil, List.replicate, List.append_nil, List.cons_append, List.nil_append, nc0, nc1, nc2, nc3, nc4, nc5, nc6, nc7, nc8, nc9, nc10, nc11, nc12, nc13, nc14, nc15, nc16, nc17, nc18, nc19, nc20, Nat.reduceAdd, Nat.reduceSub, ne_eq, decide_true, decide_false, not_true_eq_false, not_false_eq_true, reduceCtorEq, Bool.and_true, Bool.true_and, Bool.and_false, Bool.false_and, Bool.or_true, Bool.true_or, Bool.or_false, Bool.false_or, Bool.not_true, Bool.not_false, *])
theorem top_iff {a : List Int} {p : Int} : p ∈ topsL a ↔ IsT a p := by
  unfold topsL isTop DL.IsT inn
  rw [List.mem_filter, Bool.and_eq_true, decide_eq_true_eq, decide_eq_true_eq]
  constructor
  · intro ⟨h1, h2⟩
    have := mem_rngI h1
    exact ⟨by omega, by omega, h2.1, h2.2⟩
  · intro ⟨h0, h1, h2, h3⟩
    exact ⟨in_rngI (by omega) (by omega), h2, h3⟩
theorem dip_iff {a : List Int} {p : Int} : p ∈ dipsL a ↔ IsD a p := by
  unfold dipsL isDip DL.IsD inn
  rw [List.mem_filter, Bool.and_eq_true, decide_eq_true_eq, decide_eq_true_eq]
  constructor
  · intro ⟨h1, h2⟩
    have := mem_rngI h1
    exact ⟨by omega, by omega, h2.1, h2.2⟩
  · intro ⟨h0, h1, h2, h3⟩
    exact ⟨in_rngI (by omega) (by omega), h2, h3⟩
def wD : Option Int → D
  | none => .none
  | some x => .int x
def wB (w : Option Int) (x : Int) : Bool := match w with
  | none => true
  | some y => decide (y = x)
def wAt (W : List (Option Int)) (p : Int) : Option Int := W[p.toNat]?.getD none
def optW (a : List Int) (W : List (Option Int)) (p : Int) : List Opt := (optA a p).filter fun o => wB (wAt W p) o.1
def lessL (a : List Int) (p : Int) : List Opt := ((srtU a).filter fun x => decide (x < nat a p)).map fun x => (x, true)
def moreL (a : List Int) (p : Int) : List Opt := ((srtU a).filter fun x => decide (nat a p < x)).map fun x => (x, true)
def someL (a : List Int) (p : Int) : List Opt := [(nat a p, false)] ++ (if IsT a p then lessL a p else []) ++ (if IsD a p then moreL a p else [])
theorem some_perm (a : List Int) (p : Int) : (someL a p).Perm (optA a p) := by
  unfold someL optA lessL moreL
  by_cases t : IsT a p
  · rw [if_pos t, if_pos t, if_neg fun d => not_td t d, List.append_nil]
    exact List.perm_append_comm
  · rw [if_neg t, if_neg t, List.append_nil]
    by_cases d : IsD a p
    · rw [if_pos d, if_pos d]; exact .refl _
    · rw [if_neg d, if_neg d]; exact .refl _
theorem optW_asc (a : List Int) (W : List (Option Int)) (p : Int) : AscO (optW a W p) := (optA_asc a p).filter _
theorem len_insU (k : Int) : ∀ xs : List Int, (insU k xs).length ≤ xs.length + 1
  | [] => Nat.le_refl _
  | x :: xs => by
    have := len_insU k xs
    unfold insU
    split
    · simp
    · split
      · simp
      · simp only [List.length_cons]; omega
theorem len_srtU : ∀ xs : List Int, (srtU xs).length ≤ xs.length
  | [] => Nat.le_refl _
  | x :: xs => by
    have h1 := len_srtU xs
    have h2 := len_insU x (srtU xs)
    show (insU x (srtU xs)).length ≤ _
    rw [List.length_cons]; omega
theorem optA_len (a : List Int) (p : Int) : (optA a p).length ≤ a.length + 1 := by
  have h := len_srtU a
  have f : ∀ g : Int → Bool, ((srtU a).filter g).length ≤ a.length := fun g => Nat.le_trans (List.length_filter_le _ _) h
  unfold optA
  split
  · rw [List.length_append, List.length_map]; have := f fun x => decide (x < nat a p); simp; omega
  · split
    · rw [List.length_cons, List.length_map]; have := f fun x => decide (nat a p < x); omega
    · simp
theorem oo_src {r : D} {s1 s2 s3 s4 s5 s6 s7 s8 s9 : Sl} {E : List Int} (io : itemsD r = some (E.map .int)) (hr : r = .list (E.map .int) ∨ r = .tuple (E.map .int)) (hz : E.length < 64) : (gSeq (eL (eSrtSet (eV 0)))) [.sh r, s1, s2, s3, s4, s5, s6, s7, s8, s9] = .ok ((srtU E).map .int) [.sh r, s1, s2, s3, s4, s5, s6, s7, s8, s9] := by
  have e : eSrtSet (eV 0) [.sh r, s1, s2, s3, s4, s5, s6, s7, s8, s9] = .ok ((srtU E).map .int) [.sh r, s1, s2, s3, s4, s5, s6, s7, s8, s9] := by
    have h : eV 0 [.sh r, s1, s2, s3, s4, s5, s6, s7, s8, s9] = .ok r [.sh r, s1, s2, s3, s4, s5, s6, s7, s8, s9] := rfl
    unfold eSrtSet
    rw [h, R.ok_bind]
    rcases hr with rfl | rfl <;> dsimp only <;> rw [intsOf_map] <;> dsimp only <;> rw [if_pos hz]
  have it : itemsD (.list ((srtU E).map PyData.int)) = some ((srtU E).map .int) := rfl
  unfold gSeq
  rw [eL_ok e, R.ok_bind, it]; rfl
theorem oo_lc1 {s0 s1 s2 s3 s4 s5 s7 : Sl} {m : Int} {E : List Int} : lcL [8] (gN 8) ct_options_of_1 ce_options_of_2 (E.map .int) [s0, s1, s2, s3, s4, s5, .sh (.int m), s7, .no, .no] = .ok (((E.filter fun x => decide (x < m)).map fun x => ((x, true) : Opt)).map opt2D) [s0, s1, s2, s3, s4, s5, .sh (.int m), s7, .no, .no] := by
  rw [List.map_map]
  exact lc_emb (fun x : Int => decide (x < m)) fun x _ => ⟨[s0, s1, s2, s3, s4, s5, .sh (.int m), s7, .sh (.int x), .no], rfl, rfl, by unfold ct_options_of_1; walk_at "ev", fun _ => by
    have z : 2 ≤ sizeLine := by decide
    show ce_options_of_2 _ = .ok (opt2D (x, true)) _
    unfold ce_options_of_2 opt2D
    walk_at "evh"⟩
theorem oo_lc2 {s0 s1 s2 s3 s4 s5 s7 : Sl} {m : Int} {E : List Int} : lcL [8] (gN 8) ct_options_of_3 ce_options_of_2 (E.map .int) [s0, s1, s2, s3, s4, s5, .sh (.int m), s7, .no, .no] = .ok (((E.filter fun x => decide (m < x)).map fun x => ((x, true) : Opt)).map opt2D) [s0, s1, s2, s3, s4, s5, .sh (.int m), s7, .no, .no] := by
  rw [List.map_map]
  exact lc_emb (fun x : Int => decide (m < x)) fun x _ => ⟨[s0, s1, s2, s3, s4, s5, .sh (.int m), s7, .sh (.int x), .no], rfl, rfl, by unfold ct_options_of_3; walk_at "ev", fun _ => by
    have z : 2 ≤ sizeLine := by decide
    show ce_options_of_2 _ = .ok (opt2D (x, true)) _
    unfold ce_options_of_2 opt2D
    walk_at "evh"⟩
theorem oo_t {s0 s2 s3 s4 s6 s7 s8 : Sl} {q : D} {p : Int} {w : Option Int} {o : Opt} (ix : ixD q (.int p) = some (wD w)) : ct_options_of_4 [s0, .sh q, s2, s3, s4, .sh (.int p), s6, s7, s8, .sh (opt2D o)] = .ok (wB w o.1) [s0, .sh q, s2, s3, s4, .sh (.int p), s6, s7, s8, .sh (opt2D o)] := by
  have i0 : ixD (opt2D o) (.int 0) = some (.int o.1) := rfl
  generalize opt2D o = y at *
  obtain ⟨x, _⟩ := o
  unfold ct_options_of_4
  cases w with
  | none =>
    have ix' : ixD q (.int p) = some .none := ix
    clear ix
    show _ = R.ok true _
    walk_at "evh"
  | some v =>
    have ix' : ixD q (.int p) = some (.int v) := ix
    clear ix
    show _ = R.ok (decide (v = x)) _
    walk_at "evh"
theorem oo_if {s0 s1 s3 s4 s6 s8 s9 : Sl} {p : Int} {T : List Int} {g : GF} {S E : List D} (k : Bool) (hk : decide (p ∈ T) = k) (hg : k = true → g [s0, s1, .sh (.list (T.map .int)), s3, s4, .sh (.int p), s6, .ow S, s8, s9] = .ok E [s0, s1, .sh (.list (T.map .int)), s3, s4, .sh (.int p), s6, .ow S, s8, s9]) (hz : S.length + E.length ≤ sizeLine) :
    (sIf (tstE (eOp2 inD (oE (eV 5)) (oE (eV 2)))) (sExt 7 g) sNext) [s0, s1, .sh (.list (T.map .int)), s3, s4, .sh (.int p), s6, .ow S, s8, s9] = .nx [s0, s1, .sh (.list (T.map .int)), s3, s4, .sh (.int p), s6, .ow (S ++ if k = true then E else []), s8, s9] := by
  have hi := inD_l p T
  rw [hk] at hi
  generalize PyData.list (T.map .int) = L at *
  have ht : (tstE (eOp2 inD (oE (eV 5)) (oE (eV 2)))) [s0, s1, .sh L, s3, s4, .sh (.int p), s6, .ow S, s8, s9] = .ok k [s0, s1, .sh L, s3, s4, .sh (.int p), s6, .ow S, s8, s9] := by
    clear hg hz
    walk_at "evh"
  cases k with
  | false => exact sIf_f ht (by rw [if_neg Bool.false_ne_true, List.append_nil]; rfl)
  | true =>
    refine sIf_t ht ?_
    have hg := hg rfl
    unfold sExt
    show (if isOw (some (Sl.ow S)) then _ else _) = _
    rw [if_pos rfl, hg]
    show (if S.length + E.length ≤ sizeLine then O.nx _ else .bad) = _
    rw [if_pos hz]; rfl
theorem oo_if2 {s0 s1 s2 s4 s6 s8 s9 : Sl} {p : Int} {T : List Int} {g : GF} {S E : List D} (k : Bool) (hk : decide (p ∈ T) = k) (hg : k = true → g [s0, s1, s2, .sh (.list (T.map .int)), s4, .sh (.int p), s6, .ow S, s8, s9] = .ok E [s0, s1, s2, .sh (.list (T.map .int)), s4, .sh (.int p), s6, .ow S, s8, s9]) (hz : S.length + E.length ≤ sizeLine) :
    (sIf (tstE (eOp2 inD (oE (eV 5)) (oE (eV 3)))) (sExt 7 g) sNext) [s0, s1, s2, .sh (.list (T.map .int)), s4, .sh (.int p), s6, .ow S, s8, s9] = .nx [s0, s1, s2, .sh (.list (T.map .int)), s4, .sh (.int p), s6, .ow (S ++ if k = true then E else []), s8, s9] := by
  have hi := inD_l p T
  rw [hk] at hi
  generalize PyData.list (T.map .int) = L at *
  have ht : (tstE (eOp2 inD (oE (eV 5)) (oE (eV 3)))) [s0, s1, s2, .sh L, s4, .sh (.int p), s6, .ow S, s8, s9] = .ok k [s0, s1, s2, .sh L, s4, .sh (.int p), s6, .ow S, s8, s9] := by
    clear hg hz
    walk_at "evh"
  cases k with
  | false => exact sIf_f ht (by rw [if_neg Bool.false_ne_true, List.append_nil]; rfl)
  | true =>
    refine sIf_t ht ?_
    have hg := hg rfl
    unfold sExt
    show (if isOw (some (Sl.ow S)) then _ else _) = _
    rw [if_pos rfl, hg]
    show (if S.length + E.length ≤ sizeLine then O.nx _ else .bad) = _
    rw [if_pos hz]; rfl
theorem oo_own {s0 s1 s2 s3 s4 s5 s7 s8 s9 : Sl} {m : Int} (z1 : 1 ≤ sizeLine) (z2 : 2 ≤ sizeLine) : (sSetO 7 (eSeq (aCons (oE (eT (eSeq (aCons (oE (eV 6)) (aCons (oE (eC (.bool false))) aNil))))) aNil))) [s0, s1, s2, s3, s4, s5, .sh (.int m), s7, s8, s9] = .nx [s0, s1, s2, s3, s4, s5, .sh (.int m), .ow [.tuple [.int m, .bool false]], s8, s9] := by
  walk_at "evh"
theorem oo_last {s0 s1 s2 s3 s5 s6 : Sl} {S F L M : List D} (g : GF) (hg : g [s0, s1, s2, s3, .ow F, s5, s6, .sh (.list S), .no, .no] = .ok L [s0, s1, s2, s3, .ow F, s5, s6, .sh (.list S), .no, .no]) (hs : sortDD [.list L] = some M) (hz : F.length < sizeLine) :
    (sFz 7 (sApp 4 (eL (eApp sortDD (aCons (oE (eL g)) aNil))))) [s0, s1, s2, s3, .ow F, s5, s6, .ow S, .no, .no] = .nx [s0, s1, s2, s3, .ow (F ++ [.list M]), s5, s6, .sh (.list S), .no, .no] := by
  show sApp 4 _ [s0, s1, s2, s3, .ow F, s5, s6, .sh (.list S), .no, .no] = _
  walk_at "evh"
theorem oo_step {r q : D} {a : List Int} {W : List (Option Int)} {p : Int} {F : List D} {s7 : Sl} (hr : Sq r (a.map .int)) (hq : ixD q (.int p) = some (wD (wAt W p))) (hl : a.length < 60) (hz : F.length < sizeLine) :
    ∃ t7, gb_options_of_6 [.sh r, .sh q, .sh (.list ((topsL a).map .int)), .sh (.list ((dipsL a).map .int)), .ow F, .sh (.int p), .sh (.int (nat a p)), s7, .no, .no] = .nx [.sh r, .sh q, .sh (.list ((topsL a).map .int)), .sh (.list ((dipsL a).map .int)), .ow (F ++ [.list ((optW a W p).map opt2D)]), .sh (.int p), .sh (.int (nat a p)), t7, .no, .no] := by
  have hr2 : r = .list (a.map .int) ∨ r = .tuple (a.map .int) := hr.elim (fun e => .inl e) fun e => .inr e
  have ls := len_srtU a
  have l1 : (lessL a p).length ≤ a.length := by unfold lessL; rw [List.length_map]; exact Nat.le_trans (List.length_filter_le _ _) ls
  have l2 : (moreL a p).length ≤ a.length := by unfold moreL; rw [List.length_map]; exact Nat.le_trans (List.length_filter_le _ _) ls
  have zs : ((srtU a).map PyData.int).length ≤ sizeLine := by rw [List.length_map]; exact size_of (by omega)
  have S1 := oo_own (s0 := .sh r) (s1 := .sh q) (s2 := .sh (.list ((topsL a).map .int))) (s3 := .sh (.list ((dipsL a).map .int))) (s4 := .ow F) (s5 := .sh (.int p)) (s7 := s7) (s8 := .no) (s9 := .no) (m := nat a p) (by decide) (by decide)
  have S2 := oo_if (s0 := .sh r) (s1 := .sh q) (s3 := .sh (.list ((dipsL a).map .int))) (s4 := .ow F) (s6 := .sh (.int (nat a p))) (s8 := .no) (s9 := .no) (p := p) (T := topsL a) (S := [.tuple [.int (nat a p), .bool false]]) (E := (lessL a p).map opt2D) (g := eLc [8] (gSeq (eL (eSrtSet (eV 0)))) (gN 8) ct_options_of_1 ce_options_of_2) _ rfl
    (fun _ => eLc_ok (ρ1 := [.sh r, .sh q, .sh (.list ((topsL a).map .int)), .sh (.list ((dipsL a).map .int)), .ow F, .sh (.int p), .sh (.int (nat a p)), .ow [.tuple [.int (nat a p), .bool false]], .no, .no]) (oo_src hr.items hr2 (by omega)) zs oo_lc1) (by rw [List.length_map]; exact size_of (by simp; omega))
  have S3 := oo_if2 (s0 := .sh r) (s1 := .sh q) (s2 := .sh (.list ((topsL a).map .int))) (s4 := .ow F) (s6 := .sh (.int (nat a p))) (s8 := .no) (s9 := .no) (p := p) (T := dipsL a) (S := [.tuple [.int (nat a p), .bool false]] ++ if decide (p ∈ topsL a) = true then (lessL a p).map opt2D else []) (E := (moreL a p).map opt2D) (g := eLc [8] (gSeq (eL (eSrtSet (eV 0)))) (gN 8) ct_options_of_3 ce_options_of_2) _ rfl
    (fun _ => eLc_ok (ρ1 := [.sh r, .sh q, .sh (.list ((topsL a).map .int)), .sh (.list ((dipsL a).map .int)), .ow F, .sh (.int p), .sh (.int (nat a p)), .ow ([.tuple [.int (nat a p), .bool false]] ++ if decide (p ∈ topsL a) = true then (lessL a p).map opt2D else []), .no, .no]) (oo_src hr.items hr2 (by omega)) zs oo_lc2) (by
      rw [List.length_map, List.length_append]
      refine size_of ?_
      split
      · rw [List.length_map]; simp; omega
      · simp; omega)
  have es : ([.tuple [.int (nat a p), .bool false]] ++ if decide (p ∈ topsL a) = true then (lessL a p).map opt2D else []) ++ (if decide (p ∈ dipsL a) = true then (moreL a p).map opt2D else []) = (someL a p).map opt2D := by
    unfold someL
    rw [List.map_append, List.map_append]
    have c1 : (decide (p ∈ topsL a) = true) = IsT a p := by rw [decide_eq_true_eq]; exact propext top_iff
    have c2 : (decide (p ∈ dipsL a) = true) = IsD a p := by rw [decide_eq_true_eq]; exact propext dip_iff
    simp only [c1, c2]
    congr 1
    · congr 1
      split <;> rfl
    · split <;> rfl
  rw [es] at S3
  have ll : (someL a p).length ≤ a.length + 1 := by rw [(some_perm a p).length_eq]; exact optA_len a p
  have lc : lcL [9] (gN 9) ct_options_of_4 ce_options_of_5 ((someL a p).map opt2D) [.sh r, .sh q, .sh (.list ((topsL a).map .int)), .sh (.list ((dipsL a).map .int)), .ow F, .sh (.int p), .sh (.int (nat a p)), .sh (.list ((someL a p).map opt2D)), .no, .no] = .ok (((someL a p).filter fun o => wB (wAt W p) o.1).map opt2D) [.sh r, .sh q, .sh (.list ((topsL a).map .int)), .sh (.list ((dipsL a).map .int)), .ow F, .sh (.int p), .sh (.int (nat a p)), .sh (.list ((someL a p).map opt2D)), .no, .no] :=
    lc_emb (fun o : Opt => wB (wAt W p) o.1) fun o _ => ⟨[.sh r, .sh q, .sh (.list ((topsL a).map .int)), .sh (.list ((dipsL a).map .int)), .ow F, .sh (.int p), .sh (.int (nat a p)), .sh (.list ((someL a p).map opt2D)), .no, .sh (opt2D o)], rfl, rfl, oo_t hq, fun _ => rfl⟩
  have it : gSeq (eV 7) [.sh r, .sh q, .sh (.list ((topsL a).map .int)), .sh (.list ((dipsL a).map .int)), .ow F, .sh (.int p), .sh (.int (nat a p)), .sh (.list ((someL a p).map opt2D)), .no, .no] = .ok ((someL a p).map opt2D) [.sh r, .sh q, .sh (.list ((topsL a).map .int)), .sh (.list ((dipsL a).map .int)), .ow F, .sh (.int p), .sh (.int (nat a p)), .sh (.list ((someL a p).map opt2D)), .no, .no] := by
    have i : itemsD (.list ((someL a p).map opt2D)) = some ((someL a p).map opt2D) := rfl
    generalize (someL a p).map opt2D = Y at *
    clear lc S1 S2 S3 es zs
    walk_at "evh"
  have S4 := oo_last (s0 := .sh r) (s1 := .sh q) (s2 := .sh (.list ((topsL a).map .int))) (s3 := .sh (.list ((dipsL a).map .int))) (s5 := .sh (.int p)) (s6 := .sh (.int (nat a p))) (S := (someL a p).map opt2D) (F := F) _ (eLc_ok it (by rw [List.length_map]; exact size_of (by omega)) lc) (sort_opts ((some_perm a p).filter _) (optW_asc a W p)) hz
  exact ⟨_, seq_nx S1 (seq_nx S2 (seq_nx S3 S4))⟩
theorem en_map {r : D} {a : List Int} (hr : Sq r (a.map .int)) : enum1D [r] = some ((rngI 0 a.length).map fun p => .tuple [.int p, .int (nat a p)]) := by
  have e : enum1D [r] = some (enumFrom 0 (a.map PyData.int)) := by rcases hr with rfl | rfl <;> rfl
  rw [e]
  congr 1
  apply List.ext_getElem?
  intro k
  by_cases hk : k < a.length
  · have eg : (a.map PyData.int)[k]? = some (.int (nat a k)) := by
      rw [List.getElem?_map, List.getElem?_eq_getElem hk]
      unfold nat
      rw [Int.toNat_natCast, List.getElem?_eq_getElem hk]; rfl
    rw [enumFrom_get _ _ _ _ eg]
    unfold rngI
    rw [List.map_map, List.getElem?_map, List.getElem?_range hk, Option.map_some]
    simp
  · rw [List.getElem?_eq_none (by rw [enumFrom_len, List.length_map]; omega), List.getElem?_eq_none (by rw [List.length_map, rngI_len]; omega)]
theorem oo_go {r q : D} {T E F : List D} {L M : D} {s5 s6 s7 : Sl} (e1 : F_tops [r] = some T) (e2 : F_dips [r] = some E) (en : enum1D [r] = some F) {C : List D} (z : 0 ≤ sizeLine) (f : forL (gT 2 (gsCons (gN 5) (gsCons (gN 6) gsNil))) gb_options_of_6 F [.sh r, .sh q, .sh (.list T), .sh (.list E), .ow [], .no, .no, .no, .no, .no] = .nx [.sh r, .sh q, .sh (.list T), .sh (.list E), .ow C, s5, s6, s7, .no, .no]) : F_options_of [r, q] = some C := by
  unfold F_options_of callF g_options_of env0
  walk_at "evh"
theorem opts_eq {r q : D} {a : List Int} {W : List (Option Int)} (hr : Sq r (a.map .int)) (hq : Sq q (W.map wD)) (hw : W.length = a.length) (hl : a.length < 60) : F_options_of [r, q] = some ((rngI 0 a.length).map fun p => .list ((optW a W p).map opt2D)) := by
  have ixq : ∀ p : Int, 0 ≤ p → p < a.length → ixD q (.int p) = some (wD (wAt W p)) := fun p h0 h1 => by
    have e : (W.map wD)[p.toNat]? = some (wD (wAt W p)) := by
      rw [List.getElem?_map]
      unfold wAt
      rw [List.getElem?_eq_getElem (show p.toNat < W.length by omega)]; rfl
    have := atI_of (xs := W.map wD) (n := p.toNat) (i := p) (by omega) e
    rcases hq with rfl | rfl <;> exact this
  obtain ⟨ρ', e, s5, s6, s7, rfl⟩ := for_inv (k := gT 2 (gsCons (gN 5) (gsCons (gN 6) gsNil))) (b := gb_options_of_6) (ds := (rngI 0 a.length).map fun p => .tuple [.int p, .int (nat a p)])
    (fun i ρ => ∃ s5 s6 s7, ρ = [.sh r, .sh q, .sh (.list ((topsL a).map .int)), .sh (.list ((dipsL a).map .int)), .ow ((rngI 0 i).map fun p => .list ((optW a W p).map opt2D)), s5, s6, s7, .no, .no])
    (fun i d ρ hd hh => by
      obtain ⟨s5, s6, s7, rfl⟩ := hh
      rw [List.getElem?_map] at hd
      obtain ⟨p, hp, rfl⟩ := Option.map_eq_some_iff.mp hd
      have hi : i < a.length := by
        have := (List.getElem?_eq_some_iff.mp hp).1
        rw [rngI_len] at this; exact this
      have ep : p = (i : Int) := by
        unfold rngI at hp
        rw [List.getElem?_map, List.getElem?_range hi, Option.map_some] at hp
        injection hp with hp
        omega
      subst ep
      obtain ⟨t7, e⟩ := oo_step (s7 := s7) (F := (rngI 0 i).map fun p => .list ((optW a W p).map opt2D)) hr (ixq (i : Int) (by omega) (by omega)) hl (by rw [List.length_map, rngI_len]; exact size_lt (by omega))
      refine ⟨_, rfl, _, .inl e, .sh (.int (i : Int)), .sh (.int (nat a (i : Int))), t7, ?_⟩
      rw [rngI_succ, List.map_append]
      simp)
    (ρ := [.sh r, .sh q, .sh (.list ((topsL a).map .int)), .sh (.list ((dipsL a).map .int)), .ow [], .no, .no, .no, .no, .no]) ⟨.no, .no, .no, rfl⟩
  rw [List.length_map, rngI_len] at e
  exact oo_go (L := .none) (M := .none) (tops_eq hr (by omega)) (dips_eq hr (by omega)) (en_map hr) (by decide) e
end W
namespace W
open PySem L2 DL
local macro_rules | `(tactic| walk_at "ev") => `(tactic| simp only [eC, eV, oE, oV, eL, eT, aNil, aCons, eOp2, eOp1, eApp, tstE, eB, tNotG, tAndG, tOrG, eAndG, eOrG, eNotG, eIf, eSeq, eCall, eCallO, eCallB, eCallBF, eCallBX, sSeq, sNext, sRet, sRetF, sRetO, sRetN, sDrop, sIf, sSet, sSetO, sBreak, sCont, sBad, sPar, sPar3, fz, sFz, eCallW, idL, sApp, sPutIx, sAug, sFor, gN, gT, gsCons, gsNil, gYes, eLc, gSeq, nS, nF, Nw.sl, R.ok_bind, R.ok_map, R.lift_some, to_ok, toX_ok, toX_ex, bind_nx, bind_rt, bind_rf, bind_ex, bind_bk, bind_ct, at_ok, at_ex, res_val, map_ex, rbind_ex, Op.res, resA, valA, isOw, box0, Option.map_some, Option.bind_some, sHeardT, nlCons, nlNil, Nw.dat, mSet, eChain, eRg1, eRg2, eSl, pNo, pSo,
  List.getElem?_cons_zero, List.getElem?_cons_succ, List.set_cons_zero, List.set_cons_succ, List.length_cons, List.length_nil, if_true, if_false, Bool.false_eq_true, ite_true, ite_false, reduceIte,
  addU_int, subD_int, ltD_int, leD_int, gtD_int, geD_int, negD_int, absD_int, intD_bool, intD_int, lenD_list, lenD_tuple, lenD_scr, pow10_7, pow10_18, pow10_40, eqW_ints, neW_ints, eqW_strs, neW_strs, eqW_none, eqW_in, eqW_ni, ixD_list, ixD_tuple, ixD_scr, atI_3_0, atI_3_1, atI_3_2, ixN_3_0, ixN_3_1, ixN_3_2, wipeR, zip2D, skOf, isiD_n, isiD_b, isiD_i, isiD_s, isiD_l, isiD_t, isiTD_n, isiTD_b, isiTD_i, isiTD_s, isiTD_l, isiTD_t, isiAny, eCallX, eCallWX, xE, xIf, xL, xCb1, sSetX, sRetX, sDropX, sRaise, sTo, eMk, isX_n, sKeep, kt_ll, kt_lt, kt_ls, kt_li, kt_lb, kt_tl, kt_tt, kt_ts, kt_ti, kt_tb, kt_sl, kt_st, kt_ss, kt_si, kt_sb, kt_il, kt_it, kt_is, kt_ii, kt_ib, kt_bl, kt_bt, kt_bs, kt_bi, kt_bb, kt_nl, kt_nt, kt_ns, kt_ni, kt_nb, eqW_bools, neW_bools, isD_none, isNotD_none, isNoneD, isNone_e, List.map_cons, List.map_nil, List.replicate, List.append_nil, List.cons_append, List.nil_append, nc0, nc1, nc2, nc3, nc4, nc5, nc6, nc7, nc8, nc9, nc10, nc11, nc12, nc13, nc14, nc15, nc16, nc17, nc18, nc19, nc20, Nat.reduceAdd, Nat.reduceSub, ne_eq, decide_true, decide_false, not_true_eq_false, not_false_eq_true, reduceCtorEq, Bool.and_true, Bool.true_and, Bool.and_false, Bool.false_and, Bool.or_true, Bool.true_or, Bool.or_false, Bool.false_or, Bool.not_true, Bool.not_false])
local macro_rules | `(tactic| walk_at "evh") => `(tactic| simp only [eC, eV, oE, oV, eL, eT, aNil, aCons, eOp2, eOp1, eApp, tstE, eB, tNotG, tAndG, tOrG, eAndG, eOrG, eNotG, eIf, eSeq, eCall, eCallO, eCallB, eCallBF, eCallBX, sSeq, sNext, sRet, sRetF, sRetO, sRetN, sDrop, sIf, sSet, sSetO, sBreak, sCont, sBad, sPar, sPar3, fz, sFz, eCallW, idL, sApp, sPutIx, sAug, sFor, gN, gT, gsCons, gsNil, gYes, eLc, gSeq, nS, nF, Nw.sl, R.ok_bind, R.ok_map, R.lift_some, to_ok, toX_ok, toX_ex, bind_nx, bind_rt, bind_rf, bind_ex, bind_bk, bind_ct, at_ok, at_ex, res_val, map_ex, rbind_ex, Op.res, resA, valA, isOw, box0, Option.map_some, Option.bind_some, sHeardT, nlCons, nlNil, Nw.dat, mSet, eChain, eRg1, eRg2, eSl, pNo, pSo,
  List.getElem?_cons_zero, List.getElem?_cons_succ, List.set_cons_zero, List.set_cons_succ, List.length_cons, List.length_nil, if_true, if_false, Bool.false_eq_true, ite_true, ite_false, reduceIte,
  addU_int, subD_int, ltD_int, leD_int, gtD_int, geD_int, negD_int, absD_int, intD_bool, intD_int, lenD_list, lenD_tuple, lenD_scr, pow10_7, pow10_18, pow10_40, eqW_ints, neW_ints, eqW_strs, neW_strs, eqW_none, eqW_in, eqW_ni, ixD_list, ixD_tuple, ixD_scr, atI_3_0, atI_3_1, atI_3_2, ixN_3_0, ixN_3_1, ixN_3_2, wipeR, zip2D, skOf, isiD_n, isiD_b, isiD_i, isiD_s, isiD_l, isiD_t, isiTD_n, isiTD_b, isiTD_i, isiTD_s, isiTD_l, isiTD_t, isiAny, eCallX, eCallWX, xE, xIf, xL, xCb1, sSetX, sRetX, sDropX, sRaise, sTo, eMk, isX_n, sKeep, kt_ll, kt_lt, kt_ls, kt_li, kt_lb, kt_tl, kt_tt, kt_ts, kt_ti, kt_tb, kt_sl, kt_st, kt_ss, kt_si, kt_sb, kt_il, kt_it, kt_is, kt_ii, kt_ib, kt_bl, kt_bt, kt_bs, kt_bi, kt_bb, kt_nl, kt_nt, kt_ns, kt_ni, kt_nb, eqW_bools, neW_bools, isD_none, isNotD_none, isNoneD, isNone_e, List.map_cons, List.map_nil, List.replicate, List.append_nil, List.cons_append, List.nil_append, nc0, nc1, nc2, nc3, nc4, nc5, nc6, nc7, nc8, nc9, nc10, nc11, nc12, nc13, nc14, nc15, nc16, nc17, nc18, nc19, nc20, Nat.reduceAdd, Nat.reduceSub, ne_eq, decide_true, decide_false, not_true_eq_false, not_false_eq_true, reduceCtorEq, Bool.and_true, Bool.true_and, Bool.and_false, Bool.false_and, Bool.or_true, Bool.true_or, Bool.or_false, Bool.false_or, Bool.not_true, Bool.not_false, *])
structure OpsOk (a : List Int) (ops : Int → List Opt) (op : D) : Prop where
  ix : ∀ p : Int, 0 ≤ p → p < a.length → ixD op (.int p) = some (.list ((ops p).map opt2D))
  few : ∀ p, (ops p).length ≤ 100
end W
namespace W
open PySem L2 DL
local macro_rules | `(tactic| walk_at "ev") => `(tactic| simp only [eC, eV, oE, oV, eL, eT, aNil, aCons, eOp2, eOp1, eApp, tstE, eB, tNotG, tAndG, tOrG, eAndG, eOrG, eNotG, eIf, eSeq, eCall, eCallO, eCallB, eCallBF, eCallBX, sSeq, sNext, sRet, sRetF, sRetO, sRetN, sDrop, sIf, sSet, sSetO, sBreak, sCont, sBad, sPar, sPar3, fz, sFz, eCallW, idL, sApp, sPutIx, sAug, sFor, gN, gT, gsCons, gsNil, gYes, eLc, gSeq, nS, nF, Nw.sl, R.ok_bind, R.ok_map, R.lift_some, to_ok, toX_ok, toX_ex, bind_nx, bind_rt, bind_rf, bind_ex, bind_bk, bind_ct, at_ok, at_ex, res_val, map_ex, rbind_ex, Op.res, resA, valA, isOw, box0, Option.map_some, Option.bind_some, sHeardT, nlCons, nlNil, Nw.dat, mSet, eChain, eRg1, eRg2, eSl, pNo, pSo,
  List.getElem?_cons_zero, List.getElem?_cons_succ, List.set_cons_zero, List.set_cons_succ, List.length_cons, List.length_nil, if_true, if_false, Bool.false_eq_true, ite_true, ite_false, reduceIte,
  addU_int, subD_int, ltD_int, leD_int, gtD_int, geD_int, negD_int, absD_int, intD_bool, intD_int, lenD_list, lenD_tuple, lenD_scr, pow10_7, pow10_18, pow10_40, eqW_ints, neW_ints, eqW_strs, neW_strs, eqW_none, eqW_in, eqW_ni, ixD_list, ixD_tuple, ixD_scr, atI_3_0, atI_3_1, atI_3_2, ixN_3_0, ixN_3_1, ixN_3_2, wipeR, zip2D, skOf, isiD_n, isiD_b, isiD_i, isiD_s, isiD_l, isiD_t, isiTD_n, isiTD_b, isiTD_i, isiTD_s, isiTD_l, isiTD_t, isiAny, eCallX, eCallWX, xE, xIf, xL, xCb1, sSetX, sRetX, sDropX, sRaise, sTo, eMk, isX_n, sKeep, kt_ll, kt_lt, kt_ls, kt_li, kt_lb, kt_tl, kt_tt, kt_ts, kt_ti, kt_tb, kt_sl, kt_st, kt_ss, kt_si, kt_sb, kt_il, kt_it, kt_is, kt_ii, kt_ib, kt_bl, kt_bt, kt_bs, kt_bi, kt_bb, kt_nl, kt_nt, kt_ns, kt_ni, kt_nb, eqW_bools, neW_bools, isD_none, isNotD_none, isNoneD, isNone_e, List.map_cons, List.map_nil, List.replicate, List.append_nil, List.cons_append, List.nil_append, nc0, nc1, nc2, nc3, nc4, nc5, nc6, nc7, nc8, nc9, nc10, nc11, nc12, nc13, nc14, nc15, nc16, nc17, nc18, nc19, nc20, Nat.reduceAdd, Nat.reduceSub, ne_eq, decide_true, decide_false, not_true_eq_false, not_false_eq_true, reduceCtorEq, Bool.and_true, Bool.true_and, Bool.and_false, Bool.false_and, Bool.or_true, Bool.true_or, Bool.or_false, Bool.false_or, Bool.not_true, Bool.not_false])
local macro_rules | `(tactic| walk_at "evh") => `(tactic| simp only [eC, eV, oE, oV, eL, eT, aNil, aCons, eOp2, eOp1, eApp, tstE, eB, tNotG, tAndG, tOrG, eAndG, eOrG, eNotG, eIf, eSeq, eCall, eCallO, eCallB, eCallBF, eCallBX, sSeq, sNext, sRet, sRetF, sRetO, sRetN, sDrop, sIf, sSet, sSetO, sBreak, sCont, sBad, sPar, sPar3, fz, sFz, eCallW, idL, sApp, sPutIx, sAug, sFor, gN, gT, gsCons, gsNil, gYes, eLc, gSeq, nS, nF, Nw.sl, R.ok_bind, R.ok_map, R.lift_some, to_ok, toX_ok, toX_ex, bind_nx, bind_rt, bind_rf, bind_ex, bind_bk, bind_ct, at_ok, at_ex, res_val, map_ex, rbind_ex, Op.res, resA, valA, isOw, box0, Option.map_some, Option.bind_some, sHeardT, nlCons, nlNil, Nw.dat, mSet, eChain, eRg1, eRg2, eSl, pNo, pSo,
  List.getElem?_cons_zero, List.getElem?_cons_succ, List.set_cons_zero, List.set_cons_succ, List.length_cons, List.length_nil, if_true, if_false, Bool.false_eq_true, ite_true, ite_false, reduceIte,
  addU_int, subD_int, ltD_int, leD_int, gtD_int, geD_int, negD_int, absD_int, intD_bool, intD_int, lenD_list, lenD_tuple, lenD_scr, pow10_7, pow10_18, pow10_40, eqW_ints, neW_ints, eqW_strs, neW_strs, eqW_none, eqW_in, eqW_ni, ixD_list, ixD_tuple, ixD_scr, atI_3_0, atI_3_1, atI_3_2, ixN_3_0, ixN_3_1, ixN_3_2, wipeR, zip2D, skOf, isiD_n, isiD_b, isiD_i, isiD_s, isiD_l, isiD_t, isiTD_n, isiTD_b, isiTD_i, isiTD_s, isiTD_l, isiTD_t, isiAny, eCallX, eCallWX, xE, xIf, xL, xCb1, sSetX, sRetX, sDropX, sRaise, sTo, eMk, isX_n, sKeep, kt_ll, kt_lt, kt_ls, kt_li, kt_lb, kt_tl, kt_tt, kt_ts, kt_ti, kt_tb, kt_sl, kt_st, kt_ss, kt_si, kt_sb, kt_il, kt_it, kt_is, kt_ii, kt_ib, kt_bl, kt_bt, kt_bs, kt_bi, kt_bb, kt_nl, kt_nt, kt_ns, kt_ni, kt_nb, eqW_bools, neW_bools, isD_none, isNotD_none, isNoneD, isNone_e, List.map_cons, List.map_nil, List.replicate, List.append_nil, List.cons_append, List.nil_append, nc0, nc1, nc2, nc3, nc4, nc5, nc6, nc7, nc8, nc9, nc10, nc11, nc12, nc13, nc14, nc15, nc16, nc17, nc18, nc19, nc20, Nat.reduceAdd, Nat.reduceSub, ne_eq, decide_true, decide_false, not_true_eq_false, not_false_eq_true, reduceCtorEq, Bool.and_true, Bool.true_and, Bool.and_false, Bool.false_and, Bool.or_true, Bool.true_or, Bool.or_false, Bool.false_or, Bool.not_true, Bool.not_false, *])
theorem repL_n {n : Nat} {x : D} (h : n ≤ 100000) : repL (.list [x]) (.int (n : Nat)) = some (List.replicate n x) := by
  unfold repL
  dsimp only
  rw [Int.toNat_natCast, if_pos ⟨by omega, by omega, by rw [List.length_singleton, Nat.one_mul]; exact size_of h⟩, List.flatten_replicate_singleton]
theorem fw_go {r : D} {n : Int} {w : List D} (hl : lenD [r] = some (.int n)) (h : repL (.list [.none]) (.int n) = some w) : F_free_wish [r] = some w := by
  have z : 1 ≤ sizeLine := by decide
  unfold F_free_wish callF g_free_wish env0
  walk_at "evh"
theorem fw_eq {r : D} {a : List Int} (hr : Sq r (a.map .int)) (hl : a.length < 60) : F_free_wish [r] = some (List.replicate a.length .none) := fw_go hr.leni (repL_n (by omega))
def freeO (a : List Int) : List D := (rngI 0 a.length).map fun p => .list ((optA a p).map opt2D)
theorem wAt_none (n : Nat) (p : Int) : wAt (List.replicate n none) p = none := by
  unfold wAt
  rw [List.getElem?_replicate]
  split <;> rfl
theorem optW_free (a : List Int) (n : Nat) (p : Int) : optW a (List.replicate n none) p = optA a p := by
  unfold optW
  rw [wAt_none]
  exact List.filter_eq_self.mpr fun _ _ => rfl
theorem free_opts {r : D} {a : List Int} (hr : Sq r (a.map .int)) (hl : a.length < 60) : F_options_of [r, .list (List.replicate a.length .none)] = some (freeO a) := by
  have := opts_eq (q := .list (List.replicate a.length .none)) (W := List.replicate a.length none) hr (by rw [List.map_replicate]; exact Sq.l _) List.length_replicate hl
  rw [this]
  congr 1
  refine List.map_congr_left fun p _ => ?_
  rw [optW_free]
theorem free_ok {a : List Int} (hl : a.length < 60) : OpsOk a (optA a) (.list (freeO a)) where
  ix := fun p h0 h1 => by
    show atI (freeO a) p = _
    refine atI_of' h0 ?_
    unfold freeO rngI
    rw [List.getElem?_map, List.getElem?_map, List.getElem?_range (by omega), Option.map_some, Option.map_some]
    rw [show (0 : Int) + (p.toNat : Int) = p by omega]
  few := fun p => by have := optA_len a p; omega
end W
namespace W
open PySem L2 DL
local macro_rules | `(tactic| walk_at "ev") => `(tactic| simp only [eC, eV, oE, oV, eL, eT, aNil, aCons, eOp2, eOp1, eApp, tstE, eB, tNotG, tAndG, tOrG, eAndG, eOrG, eNotG, eIf, eSeq, eCall, eCallO, eCallB, eCallBF, eCallBX, sSeq, sNext, sRet, sRetF, sRetO, sRetN, sDrop, sIf, sSet, sSetO, sBreak, sCont, sBad, sPar, sPar3, fz, sFz, eCallW, idL, sApp, sPutIx, sAug, sFor, gN, gT, gsCons, gsNil, gYes, eLc, gSeq, nS, nF, Nw.sl, R.ok_bind, R.ok_map, R.lift_some, to_ok, toX_ok, toX_ex, bind_nx, bind_rt, bind_rf, bind_ex, bind_bk, bind_ct, at_ok, at_ex, res_val, map_ex, rbind_ex, Op.res, resA, valA, isOw, box0, Option.map_some, Option.bind_some, sHeardT, nlCons, nlNil, Nw.dat, mSet, eChain, eRg1, eRg2, eSl, pNo, pSo,
  List.getElem?_cons_zero, List.getElem?_cons_succ, List.set_cons_zero, List.set_cons_succ, List.length_cons, List.length_nil, if_true, if_false, Bool.false_eq_true, ite_true, ite_false, reduceIte,
  addU_int, subD_int, ltD_int, leD_int, gtD_int, geD_int, negD_int, absD_int, intD_bool, intD_int, lenD_list, lenD_tuple, lenD_scr, pow10_7, pow10_18, pow10_40, eqW_ints, neW_ints, eqW_strs, neW_strs, eqW_none, eqW_in, eqW_ni, ixD_list, ixD_tuple, ixD_scr, atI_3_0, atI_3_1, atI_3_2, ixN_3_0, ixN_3_1, ixN_3_2, wipeR, zip2D, skOf, isiD_n, isiD_b, isiD_i, isiD_s, isiD_l, isiD_t, isiTD_n, isiTD_b, isiTD_i, isiTD_s, isiTD_l, isiTD_t, isiAny, eCallX, eCallWX, xE, xIf, xL, xCb1, sSetX, sRetX, sDropX, sRaise, sTo, eMk, isX_n, sKeep, kt_ll, kt_lt, kt_ls, kt_li, kt_lb, kt_tl, kt_tt, kt_ts, kt_ti, kt_tb, kt_sl, kt_st, kt_ss, kt_si, kt_sb, kt_il, kt_it, kt_is, kt_ii, kt_ib, kt_bl, kt_bt, kt_bs, kt_bi, kt_bb, kt_nl, kt_nt, kt_ns, kt_ni, kt_nb, eqW_bools, neW_bools, isD_none, isNotD_none, isNoneD, isNone_e, List.map_cons, List.map_nil, List.replicate, List.append_nil, List.cons_append, List.nil_append, nc0, nc1, nc2, nc3, nc4, nc5, nc6, nc7, nc8, nc9, nc10, nc11, nc12, nc13, nc14, nc15, nc16, nc17, nc18, nc19, nc20, Nat.reduceAdd, Nat.reduceSub, ne_eq, decide_true, decide_false, not_true_eq_false, not_false_eq_true, reduceCtorEq, Bool.and_true, Bool.true_and, Bool.and_false, Bool.false_and, Bool.or_true, Bool.true_or, Bool.or_false, Bool.false_or, Bool.not_true, Bool.not_false])
local macro_rules | `(tactic| walk_at "evh") => `(tactic| simp only [eC, eV, oE, oV, eL, eT, aNil, aCons, eOp2, eOp1, eApp, tstE, eB, tNotG, tAndG, tOrG, eAndG, eOrG, eNotG, eIf, eSeq, eCall, eCallO, eCallB, eCallBF, eCallBX, sSeq, sNext, sRet, sRetF, sRetO, sRetN, sDrop, sIf, sSet, sSetO, sBreak, sCont, sBad, sPar, sPar3, fz, sFz, eCallW, idL, sApp, sPutIx, sAug, sFor, gN, gT, gsCons, gsNil, gYes, eLc, gSeq, nS, nF, Nw.sl, R.ok_bind, R.ok_map, R.lift_some, to_ok, toX_ok, toX_ex, bind_nx, bind_rt, bind_rf, bind_ex, bind_bk, bind_ct, at_ok, at_ex, res_val, map_ex, rbind_ex, Op.res, resA, valA, isOw, box0, Option.map_some, Option.bind_some, sHeardT, nlCons, nlNil, Nw.dat, mSet, eChain, eRg1, eRg2, eSl, pNo, pSo,
  List.getElem?_cons_zero, List.getElem?_cons_succ, List.set_cons_zero, List.set_cons_succ, List.length_cons, List.length_nil, if_true, if_false, Bool.false_eq_true, ite_true, ite_false, reduceIte,
  addU_int, subD_int, ltD_int, leD_int, gtD_int, geD_int, negD_int, absD_int, intD_bool, intD_int, lenD_list, lenD_tuple, lenD_scr, pow10_7, pow10_18, pow10_40, eqW_ints, neW_ints, eqW_strs, neW_strs, eqW_none, eqW_in, eqW_ni, ixD_list, ixD_tuple, ixD_scr, atI_3_0, atI_3_1, atI_3_2, ixN_3_0, ixN_3_1, ixN_3_2, wipeR, zip2D, skOf, isiD_n, isiD_b, isiD_i, isiD_s, isiD_l, isiD_t, isiTD_n, isiTD_b, isiTD_i, isiTD_s, isiTD_l, isiTD_t, isiAny, eCallX, eCallWX, xE, xIf, xL, xCb1, sSetX, sRetX, sDropX, sRaise, sTo, eMk, isX_n, sKeep, kt_ll, kt_lt, kt_ls, kt_li, kt_lb, kt_tl, kt_tt, kt_ts, kt_ti, kt_tb, kt_sl, kt_st, kt_ss, kt_si, kt_sb, kt_il, kt_it, kt_is, kt_ii, kt_ib, kt_bl, kt_bt, kt_bs, kt_bi, kt_bb, kt_nl, kt_nt, kt_ns, kt_ni, kt_nb, eqW_bools, neW_bools, isD_none, isNotD_none, isNoneD, isNone_e, List.map_cons, List.map_nil, List.replicate, List.append_nil, List.cons_append, List.nil_append, nc0, nc1, nc2, nc3, nc4, nc5, nc6, nc7, nc8, nc9, nc10, nc11, nc12, nc13, nc14, nc15, nc16, nc17, nc18, nc19, nc20, Nat.reduceAdd, Nat.reduceSub, ne_eq, decide_true, decide_false, not_true_eq_false, not_false_eq_true, reduceCtorEq, Bool.and_true, Bool.true_and, Bool.and_false, Bool.false_and, Bool.or_true, Bool.true_or, Bool.or_false, Bool.false_or, Bool.not_true, Bool.not_false, *])
def dD (a : List Int) : List Int → D := fun b => .int (dst a b : Nat)
theorem ly_set {s0 s1 s2 s3 s6 : Sl} {c b : D} {p : Int} (e : F__law_call [c, .int p] = some b) : (sSet 6 (eCall F__law_call (aCons (oE (eV 4)) (aCons (oE (eV 5)) aNil)))) [s0, s1, s2, s3, .sh c, .sh (.int p), s6] = .nx [s0, s1, s2, s3, .sh c, .sh (.int p), .sh b] := by
  walk_at "evh"
theorem ly_t {s0 s2 s3 s4 s5 : Sl} {kds : List (D × D)} {b : D} {v : Bool} (e : dNotInD b (dcD kds) = some (.bool v)) : (tstE (eOp2 dNotInD (oE (eV 6)) (oV 1))) [s0, .od kds, s2, s3, s4, s5, .sh b] = .ok v [s0, .od kds, s2, s3, s4, s5, .sh b] := by
  walk_at "evh"
theorem ly_v {s0 s2 s3 s5 s6 : Sl} {kds : List (D × D)} {c x y : D} (e : dGetD (dcD kds) c = some x) (ea : addU x (.int 1) = some y) : (eOp2 addU (oE (eOp2 dGetD (oV 1) (oE (eV 4)))) (oE (eC (.int 1)))) [s0, .od kds, s2, s3, .sh c, s5, s6] = .ok y [s0, .od kds, s2, s3, .sh c, s5, s6] := by
  walk_at "evh"
theorem ly_b {a c : List Int} {s0 s2 s6 : Sl} {p : Int} {A F : List (List Int)} (h0 : 0 ≤ p) (h1 : p < c.length) (hl : c.length ≤ 1000) (hc : c ∈ A) (hd : callN c p ∉ A → dst a (callN c p) = dst a c + 1) (hz : callN c p ∉ A → A.length < sizeLine ∧ F.length < sizeLine) :
    gb__law_layers_1 [s0, .od (tabR (dD a) A), s2, .ow (F.map rowD), .sh (rowD c), .sh (.int p), s6] = .nx (if callN c p ∈ A then [s0, .od (tabR (dD a) A), s2, .ow (F.map rowD), .sh (rowD c), .sh (.int p), .sh (rowD (callN c p))] else [s0, .od (tabR (dD a) (A ++ [callN c p])), s2, .ow ((F ++ [callN c p]).map rowD), .sh (rowD c), .sh (.int p), .sh (rowD (callN c p))]) := by
  have e := lcall_eq (ns := c) (i := p) h0 h1 hl
  refine seq_nx (ly_set e) ?_
  by_cases h : callN c p ∈ A
  · rw [if_pos h]
    have t := ni_row (f := dD a) (l := A) (x := callN c p)
    rw [decide_eq_true h] at t
    exact sIf_f (ly_t t) rfl
  · rw [if_neg h]
    have t := ni_row (f := dD a) (l := A) (x := callN c p)
    rw [decide_eq_false h] at t
    refine sIf_t (ly_t t) ?_
    obtain ⟨z1, z2⟩ := hz h
    have ea : addU (dD a c) (.int 1) = some (dD a (callN c p)) := by
      unfold dD
      rw [hd h]; rfl
    have ev := ly_v (s0 := s0) (s2 := s2) (s3 := .ow (F.map rowD)) (s5 := .sh (.int p)) (s6 := .sh (rowD (callN c p))) (get_row (f := dD a) hc) ea
    refine seq_nx (ρ1 := [s0, .od (tabR (dD a) (A ++ [callN c p])), s2, .ow (F.map rowD), .sh (rowD c), .sh (.int p), .sh (rowD (callN c p))]) ?_ ?_
    · unfold sPutD
      have ev2 : (eOp2 addU (oE (eOp2 dGetD (oV 1) (oE (eV 4)))) (oE (eC (.int 1)))) [s0, .od (tabR (dD a) A), s2, .ow (F.map rowD), .sh (rowD c), .sh (.int p), .sh (.tuple ((callN c p).map .int))] = .ok (dD a (callN c p)) [s0, .od (tabR (dD a) A), s2, .ow (F.map rowD), .sh (rowD c), .sh (.int p), .sh (rowD (callN c p))] := ev
      rw [ev2]
      show (if sortB (rowD (callN c p)) (tabR (dD a) A) = true ∧ (tabR (dD a) A).length < sizeLine then O.nx [s0, .od (dPut (tabR (dD a) A) (rowD (callN c p)) (dD a (callN c p))), s2, .ow (F.map rowD), .sh (rowD c), .sh (.int p), .sh (rowD (callN c p))] else .bad) = _
      rw [if_pos ⟨sort_row _, by rw [tabR_len]; exact z1⟩, put_row (f := dD a) (x := callN c p) (d := dD a (callN c p)) rfl h]
    · show (if (F.map rowD).length < sizeLine then O.nx [s0, .od (tabR (dD a) (A ++ [callN c p])), s2, .ow (F.map rowD ++ [rowD (callN c p)]), .sh (rowD c), .sh (.int p), .sh (rowD (callN c p))] else .bad) = _
      rw [if_pos (by rw [List.length_map]; exact z2), List.map_append]; rfl
/-- what is new while a layer is gone through -/
structure Nww (a : List Int) (acc lay F : List (List Int)) : Prop where
  nd : (acc ++ F).Nodup
  from' : ∀ b ∈ F, ∃ c ∈ lay, ∃ p : Int, 0 < p ∧ p + 1 < a.length ∧ b = callN c p
theorem Nww.keep {a : List Int} {i : Nat} {acc lay F : List (List Int)} (hL : Lay a i acc lay) (h : Nww a acc lay F) : ∀ b ∈ acc ++ F, Keep a b := fun b hb => by
  rcases List.mem_append.mp hb with z | z
  · exact ((hL.inn b).mp z).1
  · obtain ⟨c, hc, p, p0, p1, rfl⟩ := h.from' b z
    exact ((hL.last c).mp hc).1.call (by omega) (by omega)
theorem Nww.len {a : List Int} {i : Nat} {acc lay F : List (List Int)} (hL : Lay a i acc lay) (h : Nww a acc lay F) : (acc ++ F).length ≤ (folR a).length := sub_len h.nd fun b hb => fol_mem.mpr (h.keep hL b hb)
theorem ly_in {a c : List Int} {i : Nat} {acc lay : List (List Int)} {s0 s2 : Sl} (hL : Lay a i acc lay) (hc : c ∈ lay) (hl : a.length ≤ 1000) (hz : (folR a).length < sizeLine) : ∀ (ps : List Int) {F : List (List Int)} {s5 s6 : Sl}, (∀ p ∈ ps, 0 < p ∧ p + 1 < a.length) → Nww a acc lay F →
    ∃ F' t5 t6, forL (gN 5) gb__law_layers_1 (ps.map .int) [s0, .od (tabR (dD a) (acc ++ F)), s2, .ow (F.map rowD), .sh (rowD c), s5, s6] = .nx [s0, .od (tabR (dD a) (acc ++ F')), s2, .ow (F'.map rowD), .sh (rowD c), t5, t6] ∧ Nww a acc lay F' ∧ (∀ b ∈ F, b ∈ F') ∧ ∀ p ∈ ps, callN c p ∈ acc ++ F'
  | [], F, s5, s6, _, hn => ⟨F, s5, s6, rfl, hn, fun b hb => hb, fun p hp => (nomatch hp)⟩
  | p :: ps, F, s5, s6, hp, hn => by
    obtain ⟨p0, p1⟩ := hp p List.mem_cons_self
    obtain ⟨kc, dc⟩ := (hL.last c).mp hc
    have cl := kc.len
    have cA : c ∈ acc := (hL.inn c).mpr ⟨kc, by omega⟩
    have nl := hn.len hL
    rw [List.length_append] at nl
    have e := ly_b (a := a) (c := c) (p := p) (A := acc ++ F) (F := F) (s0 := s0) (s2 := s2) (s6 := s6) (by omega) (by omega) (by omega) (List.mem_append_left _ cA)
      (fun hni => by rw [dc]; exact (hL.call hc p0 p1 fun z => hni (List.mem_append_left _ z)).2)
      (fun hni => by rw [List.length_append]; exact ⟨by omega, by omega⟩)
    by_cases h : callN c p ∈ acc ++ F
    · rw [if_pos h] at e
      obtain ⟨F', t5, t6, e2, g1, g2, g3⟩ := ly_in hL hc hl hz ps (F := F) (s5 := .sh (.int p)) (s6 := .sh (rowD (callN c p))) (fun x hx => hp x (List.mem_cons_of_mem _ hx)) hn
      refine ⟨F', t5, t6, for_cons (ρ1 := [s0, .od (tabR (dD a) (acc ++ F)), s2, .ow (F.map rowD), .sh (rowD c), .sh (.int p), s6]) rfl e e2, g1, g2, fun x hx => ?_⟩
      rcases List.mem_cons.mp hx with z | z
      · rw [z]
        rcases List.mem_append.mp h with y | y
        · exact List.mem_append_left _ y
        · exact List.mem_append_right _ (g2 _ y)
      · exact g3 x z
    · rw [if_neg h, List.append_assoc] at e
      have hn2 : Nww a acc lay (F ++ [callN c p]) := by
        refine ⟨?_, fun b hb => ?_⟩
        · rw [← List.append_assoc]
          refine List.nodup_append.mpr ⟨hn.nd, List.pairwise_singleton _ _, fun x hx y hy e => h ?_⟩
          rw [← List.mem_singleton.mp hy, ← e]; exact hx
        · rcases List.mem_append.mp hb with z | z
          · exact hn.from' b z
          · rw [List.mem_singleton.mp z]
            exact ⟨c, hc, p, p0, p1, rfl⟩
      obtain ⟨F', t5, t6, e2, g1, g2, g3⟩ := ly_in hL hc hl hz ps (F := F ++ [callN c p]) (s5 := .sh (.int p)) (s6 := .sh (rowD (callN c p))) (fun x hx => hp x (List.mem_cons_of_mem _ hx)) hn2
      refine ⟨F', t5, t6, for_cons (ρ1 := [s0, .od (tabR (dD a) (acc ++ F)), s2, .ow (F.map rowD), .sh (rowD c), .sh (.int p), s6]) rfl e e2, g1, fun b hb => g2 b (List.mem_append_left _ hb), fun x hx => ?_⟩
      rcases List.mem_cons.mp hx with z | z
      · rw [z]
        exact List.mem_append_right _ (g2 _ (List.mem_append_right _ (List.mem_singleton.mpr rfl)))
      · exact g3 x z
theorem ly_rg {s0 s1 s2 s3 s5 s6 : Sl} {c : D} {n : Int} {M : List D} (hl : lenD [c] = some (.int n)) (hm : rng2 [.int 1, .int (n - 1)] = some M) : (eCall rng2 (aCons (oE (eC (.int 1))) (aCons (oE (eOp2 subD (oE (eApp lenD (aCons (oE (eV 4)) aNil))) (oE (eC (.int 1))))) aNil))) [s0, s1, s2, s3, .sh c, s5, s6] = .ok M [s0, s1, s2, s3, .sh c, s5, s6] := by
  walk_at "evh"
theorem rng2_in {n : Nat} (hn : n ≤ 1000) : rng2 [.int 1, .int ((n : Int) - 1)] = some ((rngI 1 (n - 2)).map .int) := by
  show (if -(2 ^ 62) ≤ (1 : Int) ∧ (1 : Int) < 2 ^ 62 ∧ -(2 ^ 62) ≤ (n : Int) - 1 ∧ (n : Int) - 1 < 2 ^ 62 then some (rangeD 1 ((n : Int) - 1 - 1).toNat) else none) = _
  rw [if_pos (by omega), show ((n : Int) - 1 - 1).toNat = n - 2 by omega]
  unfold rngI rangeD
  rw [List.map_map]
  congr 1
theorem ly_mid {a : List Int} {i : Nat} {acc lay : List (List Int)} {s0 s2 : Sl} (hL : Lay a i acc lay) (hl : a.length ≤ 1000) (hz : (folR a).length < sizeLine) : ∀ (cs : List (List Int)) {F : List (List Int)} {s4 s5 s6 : Sl}, (∀ c ∈ cs, c ∈ lay) → Nww a acc lay F →
    ∃ F' t4 t5 t6, forL (gN 4) gb__law_layers_2 (cs.map rowD) [s0, .od (tabR (dD a) (acc ++ F)), s2, .ow (F.map rowD), s4, s5, s6] = .nx [s0, .od (tabR (dD a) (acc ++ F')), s2, .ow (F'.map rowD), t4, t5, t6] ∧ Nww a acc lay F' ∧ (∀ b ∈ F, b ∈ F') ∧ ∀ c ∈ cs, ∀ p : Int, 0 < p → p + 1 < a.length → callN c p ∈ acc ++ F'
  | [], F, s4, s5, s6, _, hn => ⟨F, s4, s5, s6, rfl, hn, fun b hb => hb, fun c hc => (nomatch hc)⟩
  | c :: cs, F, s4, s5, s6, hcs, hn => by
    have hc := hcs c List.mem_cons_self
    have cl := ((hL.last c).mp hc).1.len
    obtain ⟨F1, t5, t6, e1, g1, g2, g3⟩ := ly_in (s0 := s0) (s2 := s2) hL hc hl hz (rngI 1 (a.length - 2)) (F := F) (s5 := s5) (s6 := s6) (fun p hp => by have := mem_rngI hp; omega) hn
    have rg := ly_rg (s0 := s0) (s1 := .od (tabR (dD a) (acc ++ F))) (s2 := s2) (s3 := .ow (F.map rowD)) (s5 := s5) (s6 := s6) (c := rowD c) (n := (a.length : Nat)) (by
      have := (Sq.t (c.map PyData.int)).leni
      rw [cl] at this; exact this) (rng2_in hl)
    obtain ⟨F', u4, u5, u6, e2, h1, h2, h3⟩ := ly_mid hL hl hz cs (F := F1) (s4 := .sh (rowD c)) (s5 := t5) (s6 := t6) (fun x hx => hcs x (List.mem_cons_of_mem _ hx)) g1
    refine ⟨F', u4, u5, u6, for_cons (ρ1 := [s0, .od (tabR (dD a) (acc ++ F)), s2, .ow (F.map rowD), .sh (rowD c), s5, s6]) rfl (sFor_nx rg e1) e2, h1, fun b hb => h2 b (g2 b hb), fun x hx p p0 p1 => ?_⟩
    rcases List.mem_cons.mp hx with z | z
    · rw [z]
      rcases List.mem_append.mp (g3 p (in_rngI (by omega) (by omega))) with y | y
      · exact List.mem_append_left _ y
      · exact List.mem_append_right _ (h2 _ y)
    · exact h3 x z p p0 p1
theorem lwhile_f {c : GT} {b : GS} {n : Nat} {ρ ρ1 : Rho} (h : c ρ = .ok false ρ1) : whileL c b (n + 1) ρ = .nx ρ1 := by
  unfold whileL
  rw [h]; rfl
theorem lwhile_t {c : GT} {b : GS} {n : Nat} {ρ ρ1 ρ2 : Rho} {o : O} (h : c ρ = .ok true ρ1) (h2 : b ρ1 = .nx ρ2) (h3 : whileL c b n ρ2 = o) : whileL c b (n + 1) ρ = o := by
  unfold whileL
  rw [h]
  show (match b ρ1 with | .nx ρ2 => whileL c b n ρ2 | .ct ρ2 => whileL c b n ρ2 | .bk ρ2 => .nx ρ2 | o => o) = _
  rw [h2]; exact h3
theorem ly_wt {s0 s1 s3 s4 s5 s6 : Sl} {L : List D} {v : Bool} (z : 0 ≤ sizeLine) (e : neW (.list L) (.list []) = some (.bool v)) : wt__law_layers_3 [s0, s1, .sh (.list L), s3, s4, s5, s6] = .ok v [s0, s1, .sh (.list L), s3, s4, s5, s6] := by
  unfold wt__law_layers_3
  walk_at "evh"
theorem ly_while {a : List Int} {s0 : Sl} (hl : a.length ≤ 1000) (hz : (folR a).length < sizeLine) : ∀ (m : Nat) {f i : Nat} {acc lay : List (List Int)} {s3 s4 s5 s6 : Sl}, Lay a i acc lay → a.length < i + m → m < f →
    ∃ accE t2 t3 t4 t5 t6, whileL wt__law_layers_3 gb__law_layers_4 f [s0, .od (tabR (dD a) acc), .sh (.list (lay.map rowD)), s3, s4, s5, s6] = .nx [s0, .od (tabR (dD a) accE), t2, t3, t4, t5, t6] ∧ accE.Nodup ∧ ∀ b, b ∈ accE ↔ Keep a b
  | m, f + 1, i, acc, lay, s3, s4, s5, s6, hL, hm, hf => by
    have t := ne_rows lay
    by_cases he : lay = []
    · rw [decide_eq_true he] at t
      refine ⟨acc, .sh (.list (lay.map rowD)), s3, s4, s5, s6, lwhile_f (ly_wt (Nat.zero_le _) t), hL.nd, ?_⟩
      rw [he] at hL
      exact hL.done
    · rw [decide_eq_false he] at t
      cases m with
      | zero => exact absurd (hL.far (by omega)) he
      | succ m =>
        obtain ⟨F', t4, t5, t6, e1, g1, g2, g3⟩ := ly_mid (s0 := s0) (s2 := .sh (.list (lay.map rowD))) hL hl hz lay (F := []) (s4 := s4) (s5 := s5) (s6 := s6) (fun c hc => hc) ⟨by rw [List.append_nil]; exact hL.nd, fun b hb => (nomatch hb)⟩
        rw [List.append_nil] at e1
        have L2 : Lay a (i + 1) (acc ++ F') F' := hL.next g1.nd g1.from' g3
        obtain ⟨accE, u2, u3, u4, u5, u6, e2, h1, h2⟩ := ly_while hl hz m (f := f) (s3 := .sh (.list (F'.map rowD))) (s4 := t4) (s5 := t5) (s6 := t6) L2 (by omega) (by omega)
        refine ⟨accE, u2, u3, u4, u5, u6, lwhile_t (ly_wt (Nat.zero_le _) t) (seq_nx (ρ1 := [s0, .od (tabR (dD a) acc), .sh (.list (lay.map rowD)), .ow (([] : List (List Int)).map rowD), s4, s5, s6]) rfl (seq_nx (sFor_nx (ρ1 := [s0, .od (tabR (dD a) acc), .sh (.list (lay.map rowD)), .ow (([] : List (List Int)).map rowD), s4, s5, s6]) rfl e1) rfl)) e2, h1, h2⟩
theorem fol_small {a : List Int} (hl : a.length ≤ 9) : (folR a).length ≤ 10000000 := by
  rw [fol_len]
  have h := cnt_top (a := a) (calm := false) (m := 10) (fun p => by have := optA_len a p; omega) (by omega)
  have : (10 : Nat) ^ (a.length - 2) ≤ 10 ^ 7 := Nat.pow_le_pow_right (by omega) (by omega)
  exact Nat.le_trans h (Nat.le_trans this (by decide))
theorem size_10 {n : Nat} (h : n ≤ 10000000) : n < sizeLine := Nat.lt_of_le_of_lt h (by decide)
theorem ly_eq {a : List Int} (hl : a.length ≤ 9) : ∃ acc : List (List Int), F__law_layers [rowD a] = some (dcD (tabR (dD a) acc)) ∧ acc.Nodup ∧ ∀ b, b ∈ acc ↔ Keep a b := by
  obtain ⟨accE, t2, t3, t4, t5, t6, e, h1, h2⟩ := ly_while (a := a) (s0 := .sh (rowD a)) (by omega) (size_10 (fol_small hl)) (a.length + 1) (f := 1000) (s3 := .no) (s4 := .no) (s5 := .no) (s6 := .no) (Lay.start a) (by omega) (by omega)
  refine ⟨accE, ?_, h1, h2⟩
  have S1 : (sParD 1 2 (eDisp (eV 0) (eC (.int 0))) (nS (eL (eSeq (aCons (oE (eV 0)) aNil))))) [.sh (rowD a), .no, .no, .no, .no, .no, .no] = .nx [.sh (rowD a), .od (tabR (dD a) [a]), .sh (.list ([a].map rowD)), .no, .no, .no, .no] := by
    have tp := tp_row a
    have ed : tabR (dD a) [a] = [(rowD a, .int 0)] := by
      show [(rowD a, PyData.int (dst a a : Nat))] = _
      rw [dst_self]; rfl
    rw [ed]
    have z : 1 ≤ sizeLine := by decide
    show _ = O.nx [.sh (rowD a), .od [(rowD a, .int 0)], .sh (.list [rowD a]), .no, .no, .no, .no]
    have tq : (isLf (rowD a) || isTp (rowD a)) = true := by rw [tp, Bool.or_true]
    generalize rowD a = y at *
    unfold sParD eDisp
    clear e ed tp
    walk_at "evh"
  exact callP_rt (ρ := [.sh (rowD a), .sh (dcD (tabR (dD a) accE)), t2, t3, t4, t5, t6]) rfl (seq_nx S1 (seq_nx e rfl))
end W
namespace W
open PySem L2 DL
local macro_rules | `(tactic| walk_at "ev") => `(tactic| simp only [eC, eV, oE, oV, eL, eT, aNil, aCons, eOp2, eOp1, eApp, tstE, eB, tNotG, tAndG, tOrG, eAndG, eOrG, eNotG, eIf, eSeq, eCall, eCallO, eCallB, eCallBF, eCallBX, sSeq, sNext, sRet, sRetF, sRetO, sRetN, sDrop, sIf, sSet, sSetO, sBreak, sCont, sBad, sPar, sPar3, fz, sFz, eCallW, idL, sApp, sPutIx, sAug, sFor, gN, gT, gsCons, gsNil, gYes, eLc, gSeq, nS, nF, Nw.sl, R.ok_bind, R.ok_map, R.lift_some, to_ok, toX_ok, toX_ex, bind_nx, bind_rt, bind_rf, bind_ex, bind_bk, bind_ct, at_ok, at_ex, res_val, map_ex, rbind_ex, Op.res, resA, valA, isOw, box0, Option.map_some, Option.bind_some, sHeardT, nlCons, nlNil, Nw.dat, mSet, eChain, eRg1, eRg2, eSl, pNo, pSo,
  List.getElem?_cons_zero, List.getElem?_cons_succ, List.set_cons_zero, List.set_cons_succ, List.length_cons, List.length_nil, if_true, if_false, Bool.false_eq_true, ite_true, ite_false, reduceIte,
  addU_int, subD_int, ltD_int, leD_int, gtD_int, geD_int, negD_int, absD_int, intD_bool, intD_int, lenD_list, lenD_tuple, lenD_scr, pow10_7, pow10_18, pow10_40, eqW_ints, neW_ints, eqW_strs, neW_strs, eqW_none, eqW_in, eqW_ni, ixD_list, ixD_tuple, ixD_scr, atI_3_0, atI_3_1, atI_3_2, ixN_3_0, ixN_3_1, ixN_3_2, wipeR, zip2D, skOf, isiD_n, isiD_b, isiD_i, isiD_s, isiD_l, isiD_t, isiTD_n, isiTD_b, isiTD_i, isiTD_s, isiTD_l, isiTD_t, isiAny, eCallX, eCallWX, xE, xIf, xL, xCb1, sSetX, sRetX, sDropX, sRaise, sTo, eMk, isX_n, sKeep, kt_ll, kt_lt, kt_ls, kt_li, kt_lb, kt_tl, kt_tt, kt_ts, kt_ti, kt_tb, kt_sl, kt_st, kt_ss, kt_si, kt_sb, kt_il, kt_it, kt_is, kt_ii, kt_ib, kt_bl, kt_bt, kt_bs, kt_bi, kt_bb, kt_nl, kt_nt, kt_ns, kt_ni, kt_nb, eqW_bools, neW_bools, isD_none, isNotD_none, isNoneD, isNone_e, List.map_cons, List.map_nil, List.replicate, List.append_nil, List.cons_append, List.nil_append, nc0, nc1, nc2, nc3, nc4, nc5, nc6, nc7, nc8, nc9, nc10, nc11, nc12, nc13, nc14, nc15, nc16, nc17, nc18, nc19, nc20, Nat.reduceAdd, Nat.reduceSub, ne_eq, decide_true, decide_false, not_true_eq_false, not_false_eq_true, reduceCtorEq, Bool.and_true, Bool.true_and, Bool.and_false, Bool.false_and, Bool.or_true, Bool.true_or, Bool.or_false, Bool.false_or, Bool.not_true, Bool.not_false, and_self, if_true])
local macro_rules | `(tactic| walk_at "evh") => `(tactic| simp only [eC, eV, oE, oV, eL, eT, aNil, aCons, eOp2, eOp1, eApp, tstE, eB, tNotG, tAndG, tOrG, eAndG, eOrG, eNotG, eIf, eSeq, eCall, eCallO, eCallB, eCallBF, eCallBX, sSeq, sNext, sRet, sRetF, sRetO, sRetN, sDrop, sIf, sSet, sSetO, sBreak, sCont, sBad, sPar, sPar3, fz, sFz, eCallW, idL, sApp, sPutIx, sAug, sFor, gN, gT, gsCons, gsNil, gYes, eLc, gSeq, nS, nF, Nw.sl, R.ok_bind, R.ok_map, R.lift_some, to_ok, toX_ok, toX_ex, bind_nx, bind_rt, bind_rf, bind_ex, bind_bk, bind_ct, at_ok, at_ex, res_val, map_ex, rbind_ex, Op.res, resA, valA, isOw, box0, Option.map_some, Option.bind_some, sHeardT, nlCons, nlNil, Nw.dat, mSet, eChain, eRg1, eRg2, eSl, pNo, pSo,
  List.getElem?_cons_zero, List.getElem?_cons_succ, List.set_cons_zero, List.set_cons_succ, List.length_cons, List.length_nil, if_true, if_false, Bool.false_eq_true, ite_true, ite_false, reduceIte,
  addU_int, subD_int, ltD_int, leD_int, gtD_int, geD_int, negD_int, absD_int, intD_bool, intD_int, lenD_list, lenD_tuple, lenD_scr, pow10_7, pow10_18, pow10_40, eqW_ints, neW_ints, eqW_strs, neW_strs, eqW_none, eqW_in, eqW_ni, ixD_list, ixD_tuple, ixD_scr, atI_3_0, atI_3_1, atI_3_2, ixN_3_0, ixN_3_1, ixN_3_2, wipeR, zip2D, skOf, isiD_n, isiD_b, isiD_i, isiD_s, isiD_l, isiD_t, isiTD_n, isiTD_b, isiTD_i, isiTD_s, isiTD_l, isiTD_t, isiAny, eCallX, eCallWX, xE, xIf, xL, xCb1, sSetX, sRetX, sDropX, sRaise, sTo, eMk, isX_n, sKeep, kt_ll, kt_lt, kt_ls, kt_li, kt_lb, kt_tl, kt_tt, kt_ts, kt_ti, kt_tb, kt_sl, kt_st, kt_ss, kt_si, kt_sb, kt_il, kt_it, kt_is, kt_ii, kt_ib, kt_bl, kt_bt, kt_bs, kt_bi, kt_bb, kt_nl, kt_nt, kt_ns, kt_ni, kt_nb, eqW_bools, neW_bools, isD_none, isNotD_none, isNoneD, isNone_e, List.map_cons, List.map_nil, List.replicate, List.append_nil, List.cons_append, List.nil_append, nc0, nc1, nc2, nc3, nc4, nc5, nc6, nc7, nc8, nc9, nc10, nc11, nc12, nc13, nc14, nc15, nc16, nc17, nc18, nc19, nc20, Nat.reduceAdd, Nat.reduceSub, ne_eq, decide_true, decide_false, not_true_eq_false, not_false_eq_true, reduceCtorEq, Bool.and_true, Bool.true_and, Bool.and_false, Bool.false_and, Bool.or_true, Bool.true_or, Bool.or_false, Bool.false_or, Bool.not_true, Bool.not_false, and_self, if_true, *])
theorem abs_nat (n : Int) : absD [.int n] = some (.int (n.natAbs : Int)) := by
  rw [absD_int]
  congr 2
  split <;> omega
theorem fr_t {s0 s1 : Sl} {h l : Int} : wt_fraction_1 [s0, s1, .sh (.int h), .sh (.int l)] = .ok (decide (0 < l)) [s0, s1, .sh (.int h), .sh (.int l)] := by
  unfold wt_fraction_1
  walk_at "ev"
theorem fr_b {s0 s1 : Sl} {h l r : Int} (m : modD (.int h) (.int l) = some (.int r)) : gb_fraction_2 [s0, s1, .sh (.int h), .sh (.int l)] = .nx [s0, s1, .sh (.int l), .sh (.int r)] := by
  unfold gb_fraction_2
  walk_at "evh"
theorem fr_1 {n d k : Int} (a : absD [.int n] = some (.int k)) : (sPar 2 3 (nS (eV 1)) (nS (eApp absD (aCons (oE (eV 0)) aNil)))) [.sh (.int n), .sh (.int d), .no, .no] = .nx [.sh (.int n), .sh (.int d), .sh (.int d), .sh (.int k)] := by
  rw [absD_int] at a
  injection a with a
  injection a with a
  subst a
  walk_at "ev"
theorem fr_3 {n d g x y : Int} {s3 : Sl} (f1 : fdivD (.int n) (.int g) = some (.int x)) (f2 : fdivD (.int d) (.int g) = some (.int y)) (z : 2 ≤ sizeLine) : (eT (eSeq (aCons (oE (eOp2 fdivD (oE (eV 0)) (oE (eV 2)))) (aCons (oE (eOp2 fdivD (oE (eV 1)) (oE (eV 2)))) aNil)))) [.sh (.int n), .sh (.int d), .sh (.int g), s3] = .ok (.tuple [.int x, .int y]) [.sh (.int n), .sh (.int d), .sh (.int g), s3] := by
  walk_at "evh"
theorem fr_eq {n d : Int} (hd : 0 < d) (hd2 : d < 2 ^ 200) (hn : n.natAbs < 2 ^ 240) : F_fraction [.int n, .int d] = some (frD n d) := by
  have w := eu_while (c := wt_fraction_1) (b := gb_fraction_2) (s0 := .sh (.int n)) (s1 := .sh (.int d)) (fun h l => fr_t) (fun h l hl => fr_b (by rw [modD_int (by omega), ← Int.natCast_emod])) 240 d.natAbs n.natAbs 1000 hn (by omega)
  have gp := gcd_posD (n := n) hd
  have ge : ((Nat.gcd d.natAbs n.natAbs : Nat) : Int) = (Int.gcd d n : Int) := rfl
  rw [ge] at w
  have ed : (d.natAbs : Int) = d := by omega
  rw [ed] at w
  have gl : (Int.gcd d n : Int) ≤ d := Int.le_of_dvd hd (Int.gcd_dvd_left d n)
  exact callP_rt rfl (seq_nx (fr_1 (abs_nat n)) (seq_nx w (sRet_ok (fr_3 (fdivD_int gp (by omega)) (fdivD_int gp (by omega)) (by decide)))))
end W
namespace W
open PySem L2 DL
local macro_rules | `(tactic| walk_at "ev") => `(tactic| simp only [eC, eV, oE, oV, eL, eT, aNil, aCons, eOp2, eOp1, eApp, tstE, eB, tNotG, tAndG, tOrG, eAndG, eOrG, eNotG, eIf, eSeq, eCall, eCallO, eCallB, eCallBF, eCallBX, sSeq, sNext, sRet, sRetF, sRetO, sRetN, sDrop, sIf, sSet, sSetO, sBreak, sCont, sBad, sPar, sPar3, fz, sFz, eCallW, idL, sApp, sPutIx, sAug, sFor, gN, gT, gsCons, gsNil, gYes, eLc, gSeq, nS, nF, Nw.sl, R.ok_bind, R.ok_map, R.lift_some, to_ok, toX_ok, toX_ex, bind_nx, bind_rt, bind_rf, bind_ex, bind_bk, bind_ct, at_ok, at_ex, res_val, map_ex, rbind_ex, Op.res, resA, valA, isOw, box0, Option.map_some, Option.bind_some, sHeardT, nlCons, nlNil, Nw.dat, mSet, eChain, eRg1, eRg2, eSl, pNo, pSo,
  List.getElem?_cons_zero, List.getElem?_cons_succ, List.set_cons_zero, List.set_cons_succ, List.length_cons, List.length_nil, if_true, if_false, Bool.false_eq_true, ite_true, ite_false, reduceIte,
  addU_int, subD_int, ltD_int, leD_int, gtD_int, geD_int, negD_int, absD_int, intD_bool, intD_int, lenD_list, lenD_tuple, lenD_scr, pow10_7, pow10_18, pow10_40, eqW_ints, neW_ints, eqW_strs, neW_strs, eqW_none, eqW_in, eqW_ni, ixD_list, ixD_tuple, ixD_scr, atI_3_0, atI_3_1, atI_3_2, ixN_3_0, ixN_3_1, ixN_3_2, wipeR, zip2D, skOf, isiD_n, isiD_b, isiD_i, isiD_s, isiD_l, isiD_t, isiTD_n, isiTD_b, isiTD_i, isiTD_s, isiTD_l, isiTD_t, isiAny, eCallX, eCallWX, xE, xIf, xL, xCb1, sSetX, sRetX, sDropX, sRaise, sTo, eMk, isX_n, sKeep, kt_ll, kt_lt, kt_ls, kt_li, kt_lb, kt_tl, kt_tt, kt_ts, kt_ti, kt_tb, kt_sl, kt_st, kt_ss, kt_si, kt_sb, kt_il, kt_it, kt_is, kt_ii, kt_ib, kt_bl, kt_bt, kt_bs, kt_bi, kt_bb, kt_nl, kt_nt, kt_ns, kt_ni, kt_nb, eqW_bools, neW_bools, isD_none, isNotD_none, isNoneD, isNone_e, List.map_cons, List.map_nil, List.replicate, List.append_nil, List.cons_append, List.nil_append, nc0, nc1, nc2, nc3, nc4, nc5, nc6, nc7, nc8, nc9, nc10, nc11, nc12, nc13, nc14, nc15, nc16, nc17, nc18, nc19, nc20, Nat.reduceAdd, Nat.reduceSub, ne_eq, decide_true, decide_false, not_true_eq_false, not_false_eq_true, reduceCtorEq, Bool.and_true, Bool.true_and, Bool.and_false, Bool.false_and, Bool.or_true, Bool.true_or, Bool.or_false, Bool.false_or, Bool.not_true, Bool.not_false, and_self, if_true])
local macro_rules | `(tactic| walk_at "evh") => `(tactic| simp only [eC, eV, oE, oV, eL, eT, aNil, aCons, eOp2, eOp1, eApp, tstE, eB, tNotG, tAndG, tOrG, eAndG, eOrG, eNotG, eIf, eSeq, eCall, eCallO, eCallB, eCallBF, eCallBX, sSeq, sNext, sRet, sRetF, sRetO, sRetN, sDrop, sIf, sSet, sSetO, sBreak, sCont, sBad, sPar, sPar3, fz, sFz, eCallW, idL, sApp, sPutIx, sAug, sFor, gN, gT, gsCons, gsNil, gYes, eLc, gSeq, nS, nF, Nw.sl, R.ok_bind, R.ok_map, R.lift_some, to_ok, toX_ok, toX_ex, bind_nx, bind_rt, bind_rf, bind_ex, bind_bk, bind_ct, at_ok, at_ex, res_val, map_ex, rbind_ex, Op.res, resA, valA, isOw, box0, Option.map_some, Option.bind_some, sHeardT, nlCons, nlNil, Nw.dat, mSet, eChain, eRg1, eRg2, eSl, pNo, pSo,
  List.getElem?_cons_zero, List.getElem?_cons_succ, List.set_cons_zero, List.set_cons_succ, List.length_cons, List.length_nil, if_true, if_false, Bool.false_eq_true, ite_true, ite_false, reduceIte,
  addU_int, subD_int, ltD_int, leD_int, gtD_int, geD_int, negD_int, absD_int, intD_bool, intD_int, lenD_list, lenD_tuple, lenD_scr, pow10_7, pow10_18, pow10_40, eqW_ints, neW_ints, eqW_strs, neW_strs, eqW_none, eqW_in, eqW_ni, ixD_list, ixD_tuple, ixD_scr, atI_3_0, atI_3_1, atI_3_2, ixN_3_0, ixN_3_1, ixN_3_2, wipeR, zip2D, skOf, isiD_n, isiD_b, isiD_i, isiD_s, isiD_l, isiD_t, isiTD_n, isiTD_b, isiTD_i, isiTD_s, isiTD_l, isiTD_t, isiAny, eCallX, eCallWX, xE, xIf, xL, xCb1, sSetX, sRetX, sDropX, sRaise, sTo, eMk, isX_n, sKeep, kt_ll, kt_lt, kt_ls, kt_li, kt_lb, kt_tl, kt_tt, kt_ts, kt_ti, kt_tb, kt_sl, kt_st, kt_ss, kt_si, kt_sb, kt_il, kt_it, kt_is, kt_ii, kt_ib, kt_bl, kt_bt, kt_bs, kt_bi, kt_bb, kt_nl, kt_nt, kt_ns, kt_ni, kt_nb, eqW_bools, neW_bools, isD_none, isNotD_none, isNoneD, isNone_e, List.map_cons, List.map_nil, List.replicate, List.append_nil, List.cons_append, List.nil_append, nc0, nc1, nc2, nc3, nc4, nc5, nc6, nc7, nc8, nc9, nc10, nc11, nc12, nc13, nc14, nc15, nc16, nc17, nc18, nc19, nc20, Nat.reduceAdd, Nat.reduceSub, ne_eq, decide_true, decide_false, not_true_eq_false, not_false_eq_true, reduceCtorEq, Bool.and_true, Bool.true_and, Bool.and_false, Bool.false_and, Bool.or_true, Bool.true_or, Bool.or_false, Bool.false_or, Bool.not_true, Bool.not_false, and_self, if_true, *])
def glS : GE := eCall F_next_state (aCons (oE (eV 0)) (aCons (oE (eV 3)) (aCons (oE (eV 5)) (aCons (oE (eV 8)) (aCons (oE (eC (.bool false))) aNil)))))
def gmS : GE := eApp intD (aCons (oE (eOp2 ixD (oE (eV 8)) (oE (eC (.int 1))))) aNil)
def gtS : GT := tstE (eOp2 isNotD (oE (eV 9)) (oE (eC .none)))
def b1S : NG := nSeq (nSet 9 glS) (nIf gtS (nSeq (nGet 9) (nAdd 9 6 gmS)) nNext)
theorem sp_l {r o : D} {s : Stt} {p : Int} {v : D} {s1 s2 s4 s6 s7 s9 s10 : Sl} (e : F_next_state [r, .int p, stD s, o, .bool false] = some v) : glS [.sh r, s1, s2, .sh (.int p), s4, .sh (stD s), s6, s7, .sh o, s9, s10] = .ok v [.sh r, s1, s2, .sh (.int p), s4, .sh (stD s), s6, s7, .sh o, s9, s10] := by
  unfold glS
  generalize stD s = z at *
  walk_at "evh"
theorem sp_t {v : Stt} {s0 s1 s2 s3 s4 s5 s6 s7 s8 s10 : Sl} : gtS [s0, s1, s2, s3, s4, s5, s6, s7, s8, .sh (stD v), s10] = .ok v.isSome [s0, s1, s2, s3, s4, s5, s6, s7, s8, .sh (stD v), s10] := by
  have h : isNotD (stD v) .none = some (.bool v.isSome) := by cases v <;> rfl
  unfold gtS
  generalize stD v = x at *
  walk_at "evh"
theorem sp_m {o : Opt} {s0 s1 s2 s3 s4 s5 s6 s7 s9 s10 : Sl} : gmS [s0, s1, s2, s3, s4, s5, s6, s7, .sh (opt2D o), s9, s10] = .ok (.int (b2i o.2)) [s0, s1, s2, s3, s4, s5, s6, s7, .sh (opt2D o), s9, s10] := by
  have i : ixD (opt2D o) (.int 1) = some (.bool o.2) := rfl
  have j : intD [.bool o.2] = some (.int (b2i o.2)) := rfl
  unfold gmS
  generalize opt2D o = z at *
  walk_at "evh"
theorem stt_tp (t : Sta) : isTp (stD (some t)) = true := rfl
theorem sp_b1 {r O X : D} {a : List Int} {k : Nat} {s : Stt} {o : Opt} {ks : LI} {n : SD} {s4 s9 s10 : Sl} (hr : Sq r (a.map .int)) (hk : k < a.length) (h0 : s = none ∨ 1 ≤ (k : Int)) (hn : ∀ t, nxN a (k : Int) s o false = some t → n.length < 1000 ∧ ((sFind (sGet n (some t)) (some t)).getD []).length + ks.length < 1000 ∧ (sFind (sGet n (some t)) (some t)).isSome = true) :
    b1S [.sh r, .sh O, .sh X, .sh (.int (k : Int)), s4, .sh (stD s), .sh (dcD (encD ks)), .no, .sh (opt2D o), s9, s10] (encS n) = some ([.sh r, .sh O, .sh X, .sh (.int (k : Int)), s4, .sh (stD s), .sh (dcD (encD ks)), .no, .sh (opt2D o), .sh (stD (nxN a (k : Int) s o false)), s10], encS (match nxN a (k : Int) s o false with | none => n | some t => sAdd n (some t) ks (b2i o.2))) := by
  have e1 := sp_l (s1 := .sh O) (s2 := .sh X) (s4 := s4) (s6 := .sh (dcD (encD ks))) (s7 := .no) (s9 := s9) (s10 := s10) (next_eq (o := o) (calm := false) hr h0 (by omega))
  have e2 := sp_t (v := nxN a (k : Int) s o false) (s0 := .sh r) (s1 := .sh O) (s2 := .sh X) (s3 := .sh (.int (k : Int))) (s4 := s4) (s5 := .sh (stD s)) (s6 := .sh (dcD (encD ks))) (s7 := .no) (s8 := .sh (opt2D o)) (s10 := s10)
  have e3 := sp_m (o := o) (s0 := .sh r) (s1 := .sh O) (s2 := .sh X) (s3 := .sh (.int (k : Int))) (s4 := s4) (s5 := .sh (stD s)) (s6 := .sh (dcD (encD ks))) (s7 := .no) (s9 := .sh (stD (nxN a (k : Int) s o false))) (s10 := s10)
  have f1 : nSet 9 glS [.sh r, .sh O, .sh X, .sh (.int (k : Int)), s4, .sh (stD s), .sh (dcD (encD ks)), .no, .sh (opt2D o), s9, s10] (encS n) = some ([.sh r, .sh O, .sh X, .sh (.int (k : Int)), s4, .sh (stD s), .sh (dcD (encD ks)), .no, .sh (opt2D o), .sh (stD (nxN a (k : Int) s o false)), s10], encS n) := by
    unfold nSet
    rw [e1]; rfl
  unfold b1S nSeq
  rw [f1]
  show nIf gtS (nSeq (nGet 9) (nAdd 9 6 gmS)) nNext [.sh r, .sh O, .sh X, .sh (.int (k : Int)), s4, .sh (stD s), .sh (dcD (encD ks)), .no, .sh (opt2D o), .sh (stD (nxN a (k : Int) s o false)), s10] (encS n) = _
  unfold nIf
  rw [e2]
  cases ev : nxN a (k : Int) s o false with
  | none => rfl
  | some t =>
    rw [ev] at e3
    obtain ⟨n1, n2, n3⟩ := hn t ev
    obtain ⟨w, hw⟩ := Option.isSome_iff_exists.mp n3
    rw [hw, Option.getD_some] at n2
    show (nGet 9 [.sh r, .sh O, .sh X, .sh (.int (k : Int)), s4, .sh (stD s), .sh (dcD (encD ks)), .no, .sh (opt2D o), .sh (stD (some t)), s10] (encS n)).bind (fun x => nAdd 9 6 gmS x.1 x.2) = _
    have g1 : nGet 9 [.sh r, .sh O, .sh X, .sh (.int (k : Int)), s4, .sh (stD s), .sh (dcD (encD ks)), .no, .sh (opt2D o), .sh (stD (some t)), s10] (encS n) = some ([.sh r, .sh O, .sh X, .sh (.int (k : Int)), s4, .sh (stD s), .sh (dcD (encD ks)), .no, .sh (opt2D o), .sh (stD (some t)), s10], encS (sGet n (some t))) := by
      show (if isTp (stD (some t)) = true ∧ (encS n).length < 1000 then some (_, ndGet (encS n) (stD (some t))) else none) = _
      rw [if_pos ⟨stt_tp t, by unfold encS; rw [List.length_map]; exact n1⟩, enc_sget]
    rw [g1]
    show nAdd 9 6 gmS [.sh r, .sh O, .sh X, .sh (.int (k : Int)), s4, .sh (stD s), .sh (dcD (encD ks)), .no, .sh (opt2D o), .sh (stD (some t)), s10] (encS (sGet n (some t))) = _
    show (match stI (dcD (encD ks)), gmS [.sh r, .sh O, .sh X, .sh (.int (k : Int)), s4, .sh (stD s), .sh (dcD (encD ks)), .no, .sh (opt2D o), .sh (stD (some t)), s10], ndFind (encS (sGet n (some t))) (stD (some t)) with
      | some ks, .ok (.int m) ρ1, some kt => if isTp (stD (some t)) = true ∧ kt.length + ks.length < 1000 then some (ρ1, ndMap (encS (sGet n (some t))) (stD (some t)) (addUp kt ks m)) else none
      | _, _, _ => none) = _
    rw [show stI (dcD (encD ks)) = some ks from dec_enc ks, e3, enc_find, hw]
    show (if isTp (stD (some t)) = true ∧ w.length + ks.length < 1000 then some (_, ndMap (encS (sGet n (some t))) (stD (some t)) (addUp w ks (b2i o.2))) else none) = _
    rw [if_pos ⟨stt_tp t, n2⟩, enc_smap]
    have es : sAdd n (some t) ks (b2i o.2) = sMap (sGet n (some t)) (some t) (addUp w ks (b2i o.2)) := by
      unfold sAdd
      rw [hw]; rfl
    show some (_, encS (sMap (sGet n (some t)) (some t) (addUp w ks (b2i o.2)))) = some (_, encS (sAdd n (some t) ks (b2i o.2)))
    rw [es]
theorem sp_opts {r O X : D} {a : List Int} {k : Nat} {s : Stt} {ks : LI} {s4 s10 : Sl} (hr : Sq r (a.map .int)) (hl : a.length < 60) (hk : k < a.length) (hs : s ∈ layN a (optA a) false k) (gk : GoodI ks) (rk : ∀ x ∈ ks.map (·.1), 0 ≤ x ∧ x ≤ (k : Int)) : ∀ (os : List Opt), (∀ o ∈ os, o ∈ optA a k) → ∀ {n : SD} {s8 s9 : Sl}, GoodS n → InR n ((k + 1 : Nat) : Int) → (∀ u ∈ n.map (·.1), u ∈ layN a (optA a) false (k + 1)) →
    ∃ t8 t9, loopN (gN 8) b1S (os.map opt2D) [.sh r, .sh O, .sh X, .sh (.int (k : Int)), s4, .sh (stD s), .sh (dcD (encD ks)), .no, s8, s9, s10] (encS n) = some ([.sh r, .sh O, .sh X, .sh (.int (k : Int)), s4, .sh (stD s), .sh (dcD (encD ks)), .no, t8, t9, s10], encS (optStep a k s ks os n))
  | [], _, n, s8, s9, _, _, _ => ⟨s8, s9, rfl⟩
  | o :: os, ho, n, s8, s9, g, r1, hu => by
    have h0 : s = none ∨ 1 ≤ (k : Int) := by
      cases k with
      | zero => exact .inl (List.mem_singleton.mp hs)
      | succ k => exact .inr (by omega)
    have ho0 := ho o (List.mem_cons_self ..)
    have b01 : b2i o.2 = 0 ∨ b2i o.2 = 1 := by unfold b2i; split <;> omega
    have nl : n.length < 1000 := by
      have h1 := sub_len g.nd hu
      have h2 := lay_len (a := a) (ops := optA a) (calm := false) k
      have h3 := optA_len a k
      rw [List.length_map] at h1
      omega
    have kl := goodI_len gk rk
    have S := sp_b1 (O := O) (X := X) (k := k) (s := s) (o := o) (ks := ks) (n := n) (s4 := s4) (s9 := s9) (s10 := s10) hr hk h0 fun t _ => by
      obtain ⟨_, ⟨w, hw, gw⟩, _, _⟩ := sGet_all (t := some t) g
      have rg := (sAdd_rng (t := some t) (ks := ks) (m := 0) r1 fun x hx => by have := rk x hx; omega).1
      have wl := goodI_len gw (rg _ (sFind_mem hw))
      rw [hw]
      exact ⟨nl, by rw [Option.getD_some]; omega, rfl⟩
    obtain ⟨t8, t9, e⟩ := sp_opts (O := O) (X := X) (s4 := s4) (s10 := s10) hr hl hk hs gk rk os (fun x hx => ho x (List.mem_cons_of_mem _ hx)) (n := match nxN a (k : Int) s o false with | none => n | some t => sAdd n (some t) ks (b2i o.2)) (s8 := .sh (opt2D o)) (s9 := .sh (stD (nxN a (k : Int) s o false))) (by
      cases nxN a (k : Int) s o false with
      | none => exact g
      | some t => exact (sAdd_all g gk.pos).1) (by
      cases nxN a (k : Int) s o false with
      | none => exact r1
      | some t => exact (sAdd_rng r1 fun x hx => by have := rk x hx; omega).2) (by
      cases ev : nxN a (k : Int) s o false with
      | none => exact hu
      | some t =>
        intro u h
        rcases ((sAdd_all (t := some t) (m := b2i o.2) g gk.pos).2.2 u).mp h with q | q
        · exact hu u q
        · rw [q]; exact lay_next hs (List.mem_filterMap.mpr ⟨o, ho0, ev⟩))
    refine ⟨t8, t9, ?_⟩
    show ((b1S [.sh r, .sh O, .sh X, .sh (.int (k : Int)), s4, .sh (stD s), .sh (dcD (encD ks)), .no, .sh (opt2D o), s9, s10] (encS n)).bind fun x => loopN (gN 8) b1S (os.map opt2D) x.1 x.2) = _
    rw [S]
    exact e
theorem sp_src {r X O : D} {p : Int} {E : List D} {s2 s4 s5 s6 s7 s8 s9 s10 : Sl} (ix : ixD O (.int p) = some X) (it : itemsD X = some E) : (gSeq (eOp2 ixD (oE (eV 1)) (oE (eV 3)))) [.sh r, .sh O, s2, .sh (.int p), s4, s5, s6, s7, s8, s9, s10] = .ok E [.sh r, .sh O, s2, .sh (.int p), s4, s5, s6, s7, s8, s9, s10] := by
  walk_at "evh"
def b2S : NG := nFor (gSeq (eOp2 ixD (oE (eV 1)) (oE (eV 3)))) (gN 8) b1S
theorem sp_b2 {r X : D} {a : List Int} {k : Nat} {s : Stt} {ks : LI} {n : SD} {s4 s8 s9 s10 : Sl} (hr : Sq r (a.map .int)) (hl : a.length < 60) (hk : k < a.length) (hs : s ∈ layN a (optA a) false k) (gk : GoodI ks) (rk : ∀ x ∈ ks.map (·.1), 0 ≤ x ∧ x ≤ (k : Int)) (g : GoodS n) (r1 : InR n ((k + 1 : Nat) : Int)) (hu : ∀ u ∈ n.map (·.1), u ∈ layN a (optA a) false (k + 1)) :
    ∃ t8 t9, b2S [.sh r, .sh (.list (freeO a)), .sh X, .sh (.int (k : Int)), s4, .sh (stD s), .sh (dcD (encD ks)), .no, s8, s9, s10] (encS n) = some ([.sh r, .sh (.list (freeO a)), .sh X, .sh (.int (k : Int)), s4, .sh (stD s), .sh (dcD (encD ks)), .no, t8, t9, s10], encS (optStep a k s ks (optA a k) n)) := by
  obtain ⟨t8, t9, e⟩ := sp_opts (O := .list (freeO a)) (X := X) (s4 := s4) (s10 := s10) hr hl hk hs gk rk (optA a k) (fun o h => h) (n := n) (s8 := s8) (s9 := s9) g r1 hu
  refine ⟨t8, t9, ?_⟩
  have i := (free_ok hl).ix (k : Int) (by omega) (by omega)
  have e0 := sp_src (r := r) (s2 := .sh X) (s4 := s4) (s5 := .sh (stD s)) (s6 := .sh (dcD (encD ks))) (s7 := .no) (s8 := s8) (s9 := s9) (s10 := s10) i (E := (optA a k).map opt2D) rfl
  unfold b2S nFor
  rw [e0]
  exact e
theorem sp_here {r X : D} {a : List Int} {k : Nat} {s4 s10 : Sl} (hr : Sq r (a.map .int)) (hl : a.length < 60) (hk : k < a.length) : ∀ (here : SD), (∀ x ∈ here, x.1 ∈ layN a (optA a) false k ∧ GoodI x.2 ∧ ∀ y ∈ x.2.map (·.1), 0 ≤ y ∧ y ≤ (k : Int)) → ∀ {n : SD} {s5 s6 s8 s9 : Sl}, GoodS n → InR n ((k + 1 : Nat) : Int) → (∀ u ∈ n.map (·.1), u ∈ layN a (optA a) false (k + 1)) →
    ∃ t5 t6 t8 t9, loopN (gT 2 (gsCons (gN 5) (gsCons (gN 6) gsNil))) b2S (here.map fun x => .tuple [stD x.1, dcD (encD x.2)]) [.sh r, .sh (.list (freeO a)), .sh X, .sh (.int (k : Int)), s4, s5, s6, .no, s8, s9, s10] (encS n) = some ([.sh r, .sh (.list (freeO a)), .sh X, .sh (.int (k : Int)), s4, t5, t6, .no, t8, t9, s10], encS (plcStep a (optA a k) k here n))
  | [], _, n, s5, s6, s8, s9, _, _, _ => ⟨s5, s6, s8, s9, rfl⟩
  | x :: here, hx, n, s5, s6, s8, s9, g, r1, hu => by
    obtain ⟨h1, h2, h3⟩ := hx x (List.mem_cons_self ..)
    obtain ⟨t8, t9, e1⟩ := sp_b2 (X := X) (k := k) (s := x.1) (ks := x.2) (n := n) (s4 := s4) (s8 := s8) (s9 := s9) (s10 := s10) hr hl hk h1 h2 h3 g r1 hu
    obtain ⟨g2, r2, _, k2⟩ := opt_all (a := a) (p := (k : Int)) (s := x.1) (h := ((k + 1 : Nat) : Int)) h2.pos (fun y hy => by have := h3 y hy; omega) (flB_A a k) g r1
    obtain ⟨u5, u6, u8, u9, e2⟩ := sp_here (X := X) (s4 := s4) (s10 := s10) hr hl hk here (fun y hy => hx y (List.mem_cons_of_mem _ hy)) (n := optStep a k x.1 x.2 (optA a k) n) (s5 := .sh (stD x.1)) (s6 := .sh (dcD (encD x.2))) (s8 := t8) (s9 := t9) g2 r2 fun u hu' => by
      rcases k2 u hu' with q | ⟨t, ht, e⟩
      · exact hu u q
      · rw [e]; exact lay_next h1 ht
    refine ⟨u5, u6, u8, u9, ?_⟩
    show ((b2S [.sh r, .sh (.list (freeO a)), .sh X, .sh (.int (k : Int)), s4, .sh (stD x.1), .sh (dcD (encD x.2)), .no, s8, s9, s10] (encS n)).bind fun x => loopN _ b2S _ x.1 x.2) = _
    rw [e1]
    exact e2
def hD (n : SD) : D := ndD (encS n)
theorem h_items (n : SD) : itemsDD (hD n) = some (n.map fun x => .tuple [stD x.1, dcD (encD x.2)]) := by
  show some (((encS n).map fun p => (p.1, dcD (encD p.2))).map fun p : D × D => PyData.tuple [p.1, p.2]) = _
  unfold encS
  rw [List.map_map, List.map_map]; rfl
theorem sp_hi {n : SD} {s0 s1 s3 s4 s5 s6 s7 s8 s9 s10 : Sl} : gItems (eV 2) [s0, s1, .sh (hD n), s3, s4, s5, s6, s7, s8, s9, s10] = .ok (n.map fun x => .tuple [stD x.1, dcD (encD x.2)]) [s0, s1, .sh (hD n), s3, s4, s5, s6, s7, s8, s9, s10] := by
  show R.lift (itemsDD (hD n)) _ = _
  rw [h_items]; rfl
theorem here_in (a : List Int) (k : Nat) : ∀ x ∈ hereN a (optA a) k, x.1 ∈ layN a (optA a) false k ∧ GoodI x.2 ∧ ∀ y ∈ x.2.map (·.1), 0 ≤ y ∧ y ≤ (k : Int) := fun x hx => by
  obtain ⟨g, r, l, _⟩ := here_all (a := a) (flB_A a) k
  exact ⟨l _ (List.mem_map.mpr ⟨x, hx, rfl⟩), g.each x hx, fun y hy => r x hx y hy⟩
theorem sp_place {r : D} {a : List Int} {k : Nat} {s4 s5 s6 s7 s8 s9 s10 : Sl} (hr : Sq r (a.map .int)) (hl : a.length < 60) (hk : k < a.length) : ∃ t5 t6 t8 t9, gb_spheres_2 [.sh r, .sh (.list (freeO a)), .sh (hD (hereN a (optA a) k)), .sh (.int (k : Int)), s4, s5, s6, s7, s8, s9, s10] = .nx [.sh r, .sh (.list (freeO a)), .sh (hD (hereN a (optA a) (k + 1))), .sh (.int (k : Int)), s4, t5, t6, .no, t8, t9, s10] := by
  obtain ⟨t5, t6, t8, t9, e⟩ := sp_here (X := hD (hereN a (optA a) k)) (s4 := s4) (s10 := s10) hr hl hk (hereN a (optA a) k) (here_in a k) (n := []) (s5 := s5) (s6 := s6) (s8 := s8) (s9 := s9) ⟨List.nodup_nil, fun p hp => nomatch hp⟩ (fun p hp => nomatch hp) (fun u hu => nomatch hu)
  refine ⟨t5, t6, t8, t9, ?_⟩
  have e0 : gn_spheres_1 [.sh r, .sh (.list (freeO a)), .sh (hD (hereN a (optA a) k)), .sh (.int (k : Int)), s4, s5, s6, .no, s8, s9, s10] [] = some ([.sh r, .sh (.list (freeO a)), .sh (hD (hereN a (optA a) k)), .sh (.int (k : Int)), s4, t5, t6, .no, t8, t9, s10], encS (plcStep a (optA a k) k (hereN a (optA a) k) [])) := by
    have h1 := sp_hi (n := hereN a (optA a) k) (s0 := .sh r) (s1 := .sh (.list (freeO a))) (s3 := .sh (.int (k : Int))) (s4 := s4) (s5 := s5) (s6 := s6) (s7 := .no) (s8 := s8) (s9 := s9) (s10 := s10)
    show (match gItems (eV 2) [.sh r, .sh (.list (freeO a)), .sh (hD (hereN a (optA a) k)), .sh (.int (k : Int)), s4, s5, s6, .no, s8, s9, s10] with
      | .ok ds ρ1 => loopN (gT 2 (gsCons (gN 5) (gsCons (gN 6) gsNil))) b2S ds ρ1 []
      | _ => none) = _
    rw [h1]
    exact e
  unfold gb_spheres_2 gNest
  show (if 7 < 11 then (match gn_spheres_1 [.sh r, .sh (.list (freeO a)), .sh (hD (hereN a (optA a) k)), .sh (.int (k : Int)), s4, s5, s6, .no, s8, s9, s10] [] with
    | some (ρ1, nd) => O.nx (ρ1.set 2 (.sh (ndD nd)))
    | none => .bad) else .bad) = _
  rw [e0]; rfl
theorem sp_for {r : D} {a : List Int} {s4 s10 : Sl} (hr : Sq r (a.map .int)) (hl : a.length < 60) : ∃ t3 t5 t6 t7 t8 t9, forL (gN 3) gb_spheres_2 (rangeD 0 a.length) [.sh r, .sh (.list (freeO a)), .sh (hD (hereN a (optA a) 0)), .no, s4, .no, .no, .no, .no, .no, s10] = .nx [.sh r, .sh (.list (freeO a)), .sh (hD (hereN a (optA a) a.length)), t3, s4, t5, t6, t7, t8, t9, s10] := by
  obtain ⟨ρ', e, t3, t5, t6, t7, t8, t9, rfl⟩ := for_inv (k := gN 3) (b := gb_spheres_2) (ds := rangeD 0 a.length)
    (fun i ρ => ∃ t3 t5 t6 t7 t8 t9, ρ = [.sh r, .sh (.list (freeO a)), .sh (hD (hereN a (optA a) i)), t3, s4, t5, t6, t7, t8, t9, s10])
    (fun i d ρ hd hh => by
      obtain ⟨rfl, hi⟩ := rangeD_at hd
      obtain ⟨t3, t5, t6, t7, t8, t9, rfl⟩ := hh
      obtain ⟨u5, u6, u8, u9, e⟩ := sp_place (k := i) (s4 := s4) (s5 := t5) (s6 := t6) (s7 := t7) (s8 := t8) (s9 := t9) (s10 := s10) hr hl hi
      exact ⟨_, rfl, _, .inl e, _, _, _, _, _, _, rfl⟩)
    (ρ := [.sh r, .sh (.list (freeO a)), .sh (hD (hereN a (optA a) 0)), .no, s4, .no, .no, .no, .no, .no, s10]) ⟨_, _, _, _, _, _, rfl⟩
  rw [rangeD_len] at e
  exact ⟨_, _, _, _, _, _, e⟩
theorem sp_tt {s : Stt} {s0 s1 s2 s3 s4 s6 s7 s8 s9 s10 : Sl} : (tOrG (tstE (eOp2 isD (oE (eV 5)) (oE (eC .none)))) (tstE (eOp2 ixD (oE (eV 5)) (oE (eC (.int 1)))))) [s0, s1, s2, s3, s4, .sh (stD s), s6, s7, s8, s9, s10] = .ok (accB s) [s0, s1, s2, s3, s4, .sh (stD s), s6, s7, s8, s9, s10] := by
  cases s with
  | none =>
    have i : isD .none .none = some (.bool true) := rfl
    show _ = R.ok true [s0, s1, s2, s3, s4, .sh .none, s6, s7, s8, s9, s10]
    show (tOrG (tstE (eOp2 isD (oE (eV 5)) (oE (eC .none)))) (tstE (eOp2 ixD (oE (eV 5)) (oE (eC (.int 1)))))) [s0, s1, s2, s3, s4, .sh .none, s6, s7, s8, s9, s10] = _
    walk_at "evh"
  | some t =>
    have i : isD (stD (some t)) .none = some (.bool false) := rfl
    have j : ixD (stD (some t)) (.int 1) = some (.bool t.st) := rfl
    show _ = R.ok t.st [s0, s1, s2, s3, s4, .sh (stD (some t)), s6, s7, s8, s9, s10]
    generalize stD (some t) = z at *
    walk_at "evh"
theorem sp_add {T K0 : LI} {s0 s1 s2 s3 s5 s7 s8 s9 s10 : Sl} (h : T.length + K0.length < 1000) : sAddO 4 (eV 6) (eC (.int 0)) [s0, s1, s2, s3, .od (encD T), s5, .sh (dcD (encD K0)), s7, s8, s9, s10] = .nx [s0, s1, s2, s3, .od (encD (addUp T K0 0)), s5, .sh (dcD (encD K0)), s7, s8, s9, s10] := by
  have h1 : stI (dcD (encD K0)) = some K0 := dec_enc K0
  have h2 : decI (encD T) = some T := dec_enc T
  show (match some (Sl.od (encD T)), stI (dcD (encD K0)), PyData.int 0 with
    | some (.od kds), some ks, .int m => (match decI kds with
      | some kt => if kt.length + ks.length < 1000 then O.nx (([s0, s1, s2, s3, .od (encD T), s5, .sh (dcD (encD K0)), s7, s8, s9, s10] : Rho).set 4 (.od (encD (addUp kt ks m)))) else .bad
      | none => .bad)
    | _, _, _ => .bad) = _
  rw [h1]
  show (match decI (encD T) with
      | some kt => if kt.length + K0.length < 1000 then O.nx (([s0, s1, s2, s3, .od (encD T), s5, .sh (dcD (encD K0)), s7, s8, s9, s10] : Rho).set 4 (.od (encD (addUp kt K0 0)))) else .bad
      | none => .bad) = _
  rw [h2]
  show (if T.length + K0.length < 1000 then O.nx (([s0, s1, s2, s3, .od (encD T), s5, .sh (dcD (encD K0)), s7, s8, s9, s10] : Rho).set 4 (.od (encD (addUp T K0 0)))) else .bad) = _
  rw [if_pos h]; rfl
theorem sp_tot {h : Nat} (hh : h < 60) {s0 s1 s2 s3 s7 s8 s9 s10 : Sl} : ∀ (n : SD), (∀ x ∈ n, GoodI x.2) → InR n (h : Int) → ∀ {T : LI} {s5 s6 : Sl}, GoodI T → (∀ x ∈ T.map (·.1), 0 ≤ x ∧ x ≤ (h : Int)) →
    ∃ t5 t6, forL (gT 2 (gsCons (gN 5) (gsCons (gN 6) gsNil))) gb_spheres_3 (n.map fun x => .tuple [stD x.1, dcD (encD x.2)]) [s0, s1, s2, s3, .od (encD T), s5, s6, s7, s8, s9, s10] = .nx [s0, s1, s2, s3, .od (encD (totL n T)), t5, t6, s7, s8, s9, s10]
  | [], _, _, T, s5, s6, _, _ => ⟨s5, s6, rfl⟩
  | x :: n, hg, hr, T, s5, s6, g, r => by
    have g0 := hg x (List.mem_cons_self ..)
    have r0 := hr x (List.mem_cons_self ..)
    have l1 := goodI_len g r
    have l2 := goodI_len g0 r0
    have S : gb_spheres_3 [s0, s1, s2, s3, .od (encD T), .sh (stD x.1), .sh (dcD (encD x.2)), s7, s8, s9, s10] = .nx [s0, s1, s2, s3, .od (encD (if accB x.1 = true then addUp T x.2 0 else T)), .sh (stD x.1), .sh (dcD (encD x.2)), s7, s8, s9, s10] := by
      unfold gb_spheres_3
      have tt := sp_tt (s := x.1) (s0 := s0) (s1 := s1) (s2 := s2) (s3 := s3) (s4 := .od (encD T)) (s6 := .sh (dcD (encD x.2))) (s7 := s7) (s8 := s8) (s9 := s9) (s10 := s10)
      by_cases e : accB x.1 = true
      · rw [e] at tt
        rw [if_pos e]
        exact (sIf_t tt (sp_add (by omega)))
      · have e' : accB x.1 = false := by simpa using e
        rw [e'] at tt
        rw [if_neg e]
        exact (sIf_f tt rfl)
    obtain ⟨t5, t6, e⟩ := sp_tot hh (s0 := s0) (s1 := s1) (s2 := s2) (s3 := s3) (s7 := s7) (s8 := s8) (s9 := s9) (s10 := s10) n (fun y hy => hg y (List.mem_cons_of_mem _ hy)) (fun y hy => hr y (List.mem_cons_of_mem _ hy)) (T := if accB x.1 = true then addUp T x.2 0 else T) (s5 := .sh (stD x.1)) (s6 := .sh (dcD (encD x.2))) (by
      split
      · exact (addUp_all g g0.pos).1
      · exact g) (by
      split
      · intro y hy
        rcases addUp_keys.mp hy with q | q
        · exact r y q
        · have := r0 _ q; omega
      · exact r)
    exact ⟨t5, t6, for_cons rfl S e⟩
theorem find_enc (t : LI) (k : Int) : dFind (encD t) (.int k) = (getI t k).map PyData.int := by
  unfold dFind getI encD
  rw [List.find?_map, Option.map_map, Option.map_map]
  have e : ((fun p : D × D => decide (kkD p.1 = kkD (.int k))) ∘ fun p : Int × Int => (PyData.int p.1, PyData.int p.2)) = fun p : Int × Int => decide (p.1 = k) := funext fun p => decide_eq_decide.mpr (by
    show some (KK.lf (.num p.1)) = some (KK.lf (.num k)) ↔ _
    exact ⟨fun h => kk_int.mp (Option.some.inj h), fun h => by rw [h]⟩)
  rw [e]; rfl
theorem sort_enc (t : LI) (k : Int) : sortB (.int k) (encD t) = true := by
  show ((true && (encD t).all fun p => isLf p.1) || _) = true
  have : ((encD t).all fun p => isLf p.1) = true := List.all_eq_true.mpr fun p hp => by
    obtain ⟨z, _, rfl⟩ := List.mem_map.mp hp
    rfl
  rw [this]; rfl
theorem sp_get {T : LI} {k : Int} {s0 s1 s2 s3 s5 s6 s7 s8 s9 : Sl} : ce_spheres_4 [s0, s1, s2, s3, .od (encD T), s5, s6, s7, s8, s9, .sh (.int k)] = .ok (.int ((getI T k).getD 0)) [s0, s1, s2, s3, .od (encD T), s5, s6, s7, s8, s9, .sh (.int k)] := by
  have e : dGet2 (dcD (encD T)) (.int k) (.int 0) = some (.int ((getI T k).getD 0)) := by
    show (if sortB (.int k) (encD T) = true then some ((dFind (encD T) (.int k)).getD (.int 0)) else none) = _
    rw [if_pos (sort_enc T k), find_enc]
    cases getI T k <;> rfl
  show R.lift (dGet2 (dcD (encD T)) (.int k) (.int 0)) _ = _
  rw [e]; rfl
theorem sp_rg {T : LI} {m : Int} {M : List D} {s0 s1 s2 s3 s5 s6 s7 s8 s9 s10 : Sl} (e : maxDD [dcD (encD T)] = some (.int m)) (rg : rng1 [.int (m + 1)] = some M) : (eCall rng1 (aCons (oE (eOp2 addU (oE (eApp maxDD (aCons (oV 4) aNil))) (oE (eC (.int 1))))) aNil)) [s0, s1, s2, s3, .od (encD T), s5, s6, s7, s8, s9, s10] = .ok M [s0, s1, s2, s3, .od (encD T), s5, s6, s7, s8, s9, s10] := by
  have e2 : eApp maxDD (aCons (oV 4) aNil) [s0, s1, s2, s3, .od (encD T), s5, s6, s7, s8, s9, s10] = .ok (.int m) [s0, s1, s2, s3, .od (encD T), s5, s6, s7, s8, s9, s10] := by
    show R.lift (maxDD [dcD (encD T)]) _ = _
    rw [e]; rfl
  generalize eApp maxDD (aCons (oV 4) aNil) = G at *
  walk_at "evh"
end W
namespace W
open PySem L2 DL
local macro_rules | `(tactic| walk_at "ev") => `(tactic| simp only [eC, eV, oE, oV, eL, eT, aNil, aCons, eOp2, eOp1, eApp, tstE, eB, tNotG, tAndG, tOrG, eAndG, eOrG, eNotG, eIf, eSeq, eCall, eCallO, eCallB, eCallBF, eCallBX, sSeq, sNext, sRet, sRetF, sRetO, sRetN, sDrop, sIf, sSet, sSetO, sBreak, sCont, sBad, sPar, sPar3, fz, sFz, eCallW, idL, sApp, sPutIx, sAug, sFor, gN, gT, gsCons, gsNil, gYes, eLc, gSeq, nS, nF, Nw.sl, R.ok_bind, R.ok_map, R.lift_some, to_ok, toX_ok, toX_ex, bind_nx, bind_rt, bind_rf, bind_ex, bind_bk, bind_ct, at_ok, at_ex, res_val, map_ex, rbind_ex, Op.res, resA, valA, isOw, box0, Option.map_some, Option.bind_some, sHeardT, nlCons, nlNil, Nw.dat, mSet, eChain, eRg1, eRg2, eSl, pNo, pSo,
  List.getElem?_cons_zero, List.getElem?_cons_succ, List.set_cons_zero, List.set_cons_succ, List.length_cons, List.length_nil, if_true, if_false, Bool.false_eq_true, ite_true, ite_false, reduceIte,
  addU_int, subD_int, ltD_int, leD_int, gtD_int, geD_int, negD_int, absD_int, intD_bool, intD_int, lenD_list, lenD_tuple, lenD_scr, pow10_7, pow10_18, pow10_40, eqW_ints, neW_ints, eqW_strs, neW_strs, eqW_none, eqW_in, eqW_ni, ixD_list, ixD_tuple, ixD_scr, atI_3_0, atI_3_1, atI_3_2, ixN_3_0, ixN_3_1, ixN_3_2, wipeR, zip2D, skOf, isiD_n, isiD_b, isiD_i, isiD_s, isiD_l, isiD_t, isiTD_n, isiTD_b, isiTD_i, isiTD_s, isiTD_l, isiTD_t, isiAny, eCallX, eCallWX, xE, xIf, xL, xCb1, sSetX, sRetX, sDropX, sRaise, sTo, eMk, isX_n, sKeep, kt_ll, kt_lt, kt_ls, kt_li, kt_lb, kt_tl, kt_tt, kt_ts, kt_ti, kt_tb, kt_sl, kt_st, kt_ss, kt_si, kt_sb, kt_il, kt_it, kt_is, kt_ii, kt_ib, kt_bl, kt_bt, kt_bs, kt_bi, kt_bb, kt_nl, kt_nt, kt_ns, kt_ni, kt_nb, eqW_bools, neW_bools, isD_none, isNotD_none, isNoneD, isNone_e, List.map_cons, List.map_nil, List.replicate, List.append_nil, List.cons_append, List.nil_append, nc0, nc1, nc2, nc3, nc4, nc5, nc6, nc7, nc8, nc9, nc10, nc11, nc12, nc13, nc14, nc15, nc16, nc17, nc18, nc19, nc20, Nat.reduceAdd, Nat.reduceSub, ne_eq, decide_true, decide_false, not_true_eq_false, not_false_eq_true, reduceCtorEq, Bool.and_true, Bool.true_and, Bool.and_false, Bool.false_and, Bool.or_true, Bool.true_or, Bool.or_false, Bool.false_or, Bool.not_true, Bool.not_false, and_self, if_true])
local macro_rules | `(tactic| walk_at "evh") => `(tactic| simp only [eC, eV, oE, oV, eL, eT, aNil, aCons, eOp2, eOp1, eApp, tstE, eB, tNotG, tAndG, tOrG, eAndG, eOrG, eNotG, eIf, eSeq, eCall, eCallO, eCallB, eCallBF, eCallBX, sSeq, sNext, sRet, sRetF, sRetO, sRetN, sDrop, sIf, sSet, sSetO, sBreak, sCont, sBad, sPar, sPar3, fz, sFz, eCallW, idL, sApp, sPutIx, sAug, sFor, gN, gT, gsCons, gsNil, gYes, eLc, gSeq, nS, nF, Nw.sl, R.ok_bind, R.ok_map, R.lift_some, to_ok, toX_ok, toX_ex, bind_nx, bind_rt, bind_rf, bind_ex, bind_bk, bind_ct, at_ok, at_ex, res_val, map_ex, rbind_ex, Op.res, resA, valA, isOw, box0, Option.map_some, Option.bind_some, sHeardT, nlCons, nlNil, Nw.dat, mSet, eChain, eRg1, eRg2, eSl, pNo, pSo,
  List.getElem?_cons_zero, List.getElem?_cons_succ, List.set_cons_zero, List.set_cons_succ, List.length_cons, List.length_nil, if_true, if_false, Bool.false_eq_true, ite_true, ite_false, reduceIte,
  addU_int, subD_int, ltD_int, leD_int, gtD_int, geD_int, negD_int, absD_int, intD_bool, intD_int, lenD_list, lenD_tuple, lenD_scr, pow10_7, pow10_18, pow10_40, eqW_ints, neW_ints, eqW_strs, neW_strs, eqW_none, eqW_in, eqW_ni, ixD_list, ixD_tuple, ixD_scr, atI_3_0, atI_3_1, atI_3_2, ixN_3_0, ixN_3_1, ixN_3_2, wipeR, zip2D, skOf, isiD_n, isiD_b, isiD_i, isiD_s, isiD_l, isiD_t, isiTD_n, isiTD_b, isiTD_i, isiTD_s, isiTD_l, isiTD_t, isiAny, eCallX, eCallWX, xE, xIf, xL, xCb1, sSetX, sRetX, sDropX, sRaise, sTo, eMk, isX_n, sKeep, kt_ll, kt_lt, kt_ls, kt_li, kt_lb, kt_tl, kt_tt, kt_ts, kt_ti, kt_tb, kt_sl, kt_st, kt_ss, kt_si, kt_sb, kt_il, kt_it, kt_is, kt_ii, kt_ib, kt_bl, kt_bt, kt_bs, kt_bi, kt_bb, kt_nl, kt_nt, kt_ns, kt_ni, kt_nb, eqW_bools, neW_bools, isD_none, isNotD_none, isNoneD, isNone_e, List.map_cons, List.map_nil, List.replicate, List.append_nil, List.cons_append, List.nil_append, nc0, nc1, nc2, nc3, nc4, nc5, nc6, nc7, nc8, nc9, nc10, nc11, nc12, nc13, nc14, nc15, nc16, nc17, nc18, nc19, nc20, Nat.reduceAdd, Nat.reduceSub, ne_eq, decide_true, decide_false, not_true_eq_false, not_false_eq_true, reduceCtorEq, Bool.and_true, Bool.true_and, Bool.and_false, Bool.false_and, Bool.or_true, Bool.true_or, Bool.or_false, Bool.false_or, Bool.not_true, Bool.not_false, and_self, if_true, *])
theorem sq_1 {r : D} {a : List Int} {w O : List D} (e1 : F_free_wish [r] = some w) (e2 : F_options_of [r, .list w] = some O) : (sPar 1 2 (nS (eL (eCall F_options_of (aCons (oE (eV 0)) (aCons (oE (eL (eCall F_free_wish (aCons (oE (eV 0)) aNil)))) aNil))))) (nS (eD (eDisp (eC .none) (eD (eDisp (eC (.int 0)) (eC (.int 1)))))))) [.sh r, .no, .no, .no, .no, .no, .no, .no, .no, .no, .no] = .nx [.sh r, .sh (.list O), .sh (hD (hereN a (optA a) 0)), .no, .no, .no, .no, .no, .no, .no, .no] := by
  have ed : (eD (eDisp (eC .none) (eD (eDisp (eC (.int 0)) (eC (.int 1)))))) [.sh r, .no, .no, .no, .no, .no, .no, .no, .no, .no, .no] = .ok (hD (hereN a (optA a) 0)) [.sh r, .no, .no, .no, .no, .no, .no, .no, .no, .no, .no] := rfl
  generalize (eD (eDisp (eC .none) (eD (eDisp (eC (.int 0)) (eC (.int 1)))))) = G at *
  generalize hD (hereN a (optA a) 0) = X at *
  walk_at "evh"
theorem sq_2 {r : D} {n : Int} {M : List D} {s1 s2 s3 s4 s5 s6 s7 s8 s9 s10 : Sl} (hl : lenD [r] = some (.int n)) (rg : rng1 [.int n] = some M) : (eCall rng1 (aCons (oE (eApp lenD (aCons (oE (eV 0)) aNil))) aNil)) [.sh r, s1, s2, s3, s4, s5, s6, s7, s8, s9, s10] = .ok M [.sh r, s1, s2, s3, s4, s5, s6, s7, s8, s9, s10] := by
  walk_at "evh"
theorem sph_eq {r : D} {a : List Int} (hr : Sq r (a.map .int)) (hl : a.length < 60) : F_spheres [r] = some ((sphL a).map .int) := by
  have S1 := sq_1 (a := a) (fw_eq hr hl) (free_opts hr hl)
  obtain ⟨t3, t5, t6, t7, t8, t9, e⟩ := sp_for (s4 := .no) (s10 := .no) hr hl
  have rg : rng1 [.int (a.length : Int)] = some (rangeD 0 a.length) := by
    have := rng1_eq (m := (a.length : Int)) (by omega) (by omega)
    rw [this, Int.toNat_natCast]
  have S2 := sq_2 (s1 := .sh (.list (freeO a))) (s2 := .sh (hD (hereN a (optA a) 0))) (s3 := .no) (s4 := .no) (s5 := .no) (s6 := .no) (s7 := .no) (s8 := .no) (s9 := .no) (s10 := .no) hr.leni rg
  have S3 : (sSetD 4 (fun ρ => .ok [] ρ)) [.sh r, .sh (.list (freeO a)), .sh (hD (hereN a (optA a) a.length)), t3, .no, t5, t6, t7, t8, t9, .no] = .nx [.sh r, .sh (.list (freeO a)), .sh (hD (hereN a (optA a) a.length)), t3, .od (encD []), t5, t6, t7, t8, t9, .no] := rfl
  obtain ⟨g, rr, l, _⟩ := here_all (a := a) (flB_A a) a.length
  obtain ⟨u5, u6, e4⟩ := sp_tot (h := a.length) (by omega) (s0 := .sh r) (s1 := .sh (.list (freeO a))) (s2 := .sh (hD (hereN a (optA a) a.length))) (s3 := t3) (s7 := t7) (s8 := t8) (s9 := t9) (s10 := .no) (hereN a (optA a) a.length) (fun x hx => g.each x hx) rr (T := []) (s5 := t5) (s6 := t6) ⟨List.nodup_nil, fun p hp => nomatch hp⟩ (fun x hx => nomatch hx)
  have S4 := sp_hi (n := hereN a (optA a) a.length) (s0 := .sh r) (s1 := .sh (.list (freeO a))) (s3 := t3) (s4 := .od (encD [])) (s5 := t5) (s6 := t6) (s7 := t7) (s8 := t8) (s9 := t9) (s10 := .no)
  have hn : farN a ≤ a.length := by
    obtain ⟨b, _, e⟩ := far_at a
    rw [← e]; exact dst_le a b
  have rg5 : rng1 [.int ((farN a : Nat) + 1)] = some (rangeD 0 (farN a + 1)) := by
    have := rng1_eq (m := ((farN a : Nat) : Int) + 1) (by omega) (by omega)
    rw [this, show (((farN a : Nat) : Int) + 1).toNat = farN a + 1 by omega]
  have S5 := sp_rg (T := sphT a) (s0 := .sh r) (s1 := .sh (.list (freeO a))) (s2 := .sh (hD (hereN a (optA a) a.length))) (s3 := t3) (s5 := u5) (s6 := u6) (s7 := t7) (s8 := t8) (s9 := t9) (s10 := .no) (sph_max a) rg5
  have rd : rangeD 0 (farN a + 1) = (List.range (farN a + 1)).map fun i : Nat => PyData.int (i : Int) := by
    unfold rangeD
    refine List.map_congr_left fun i _ => ?_
    show PyData.int (0 + (i : Int)) = PyData.int (i : Int)
    rw [Int.zero_add]
  have lc : lcL [10] (gN 10) gYes ce_spheres_4 (rangeD 0 (farN a + 1)) [.sh r, .sh (.list (freeO a)), .sh (hD (hereN a (optA a) a.length)), t3, .od (encD (sphT a)), u5, u6, t7, t8, t9, .no] = .ok ((sphL a).map .int) [.sh r, .sh (.list (freeO a)), .sh (hD (hereN a (optA a) a.length)), t3, .od (encD (sphT a)), u5, u6, t7, t8, t9, .no] := by
    rw [rd]
    have em : (sphL a).map PyData.int = (List.range (farN a + 1)).map fun k : Nat => PyData.int ((getI (sphT a) (k : Int)).getD 0) := by
      unfold sphL
      rw [List.map_map]
      refine List.map_congr_left fun k _ => ?_
      show PyData.int ((cntD a k : Nat) : Int) = _
      rw [(sphT_all a).2.2 k]
    rw [em]
    exact lc_emb1 fun k _ => ⟨[.sh r, .sh (.list (freeO a)), .sh (hD (hereN a (optA a) a.length)), t3, .od (encD (sphT a)), u5, u6, t7, t8, t9, .sh (.int (k : Int))], rfl, rfl, sp_get⟩
  exact callF_rf rfl (seq_nx S1 (seq_nx (sFor_nx S2 e) (seq_nx S3 (seq_nx (sFor_nx S4 e4) (sRetF_ok (eLc_ok S5 (by rw [rangeD_len]; exact size_of (by omega)) lc))))))
theorem sph_len (a : List Int) : (sphL a).length = farN a + 1 := by unfold sphL; rw [List.length_map, List.length_range]
theorem fa_go {r : D} {L : List D} {n : Int} (e : F_spheres [r] = some L) (hl : lenD [.list L] = some (.int n)) : F_farthest [r] = some (.int (n - 1)) := by
  have e2 : eApp lenD (aCons (oE (eL (eCall F_spheres (aCons (oE (eV 0)) aNil)))) aNil) [.sh r] = .ok (.int n) [.sh r] := by
    have e3 : eCall F_spheres (aCons (oE (eV 0)) aNil) [.sh r] = .ok L [.sh r] := by
      generalize F_spheres = FF at *
      walk_at "evh"
    have e4 : aCons (oE (eL (eCall F_spheres (aCons (oE (eV 0)) aNil)))) aNil [.sh r] = .ok [.val (.list L)] [.sh r] := by
      generalize eCall F_spheres (aCons (oE (eV 0)) aNil) = G at *
      walk_at "evh"
    unfold eApp
    rw [e4]
    show R.lift (lenD [.list L]) _ = _
    rw [hl]; rfl
  unfold F_farthest callP g_farthest env0
  generalize eApp lenD (aCons (oE (eL (eCall F_spheres (aCons (oE (eV 0)) aNil)))) aNil) = G at *
  walk_at "evh"
theorem far_eq {r : D} {a : List Int} (hr : Sq r (a.map .int)) (hl : a.length < 60) : F_farthest [r] = some (.int (farN a : Nat)) := by
  have := fa_go (n := ((farN a + 1 : Nat) : Int)) (sph_eq hr hl) (by
    show some (PyData.int (((sphL a).map PyData.int).length : Nat)) = _
    rw [List.length_map, sph_len])
  rw [this, show ((farN a + 1 : Nat) : Int) - 1 = (farN a : Nat) by omega]
end W
namespace W
open PySem L2 DL
local macro_rules | `(tactic| walk_at "ev") => `(tactic| simp only [eC, eV, oE, oV, eL, eT, aNil, aCons, eOp2, eOp1, eApp, tstE, eB, tNotG, tAndG, tOrG, eAndG, eOrG, eNotG, eIf, eSeq, eCall, eCallO, eCallB, eCallBF, eCallBX, sSeq, sNext, sRet, sRetF, sRetO, sRetN, sDrop, sIf, sSet, sSetO, sBreak, sCont, sBad, sPar, sPar3, fz, sFz, eCallW, idL, sApp, sPutIx, sAug, sFor, gN, gT, gsCons, gsNil, gYes, eLc, gSeq, nS, nF, Nw.sl, R.ok_bind, R.ok_map, R.lift_some, to_ok, toX_ok, toX_ex, bind_nx, bind_rt, bind_rf, bind_ex, bind_bk, bind_ct, at_ok, at_ex, res_val, map_ex, rbind_ex, Op.res, resA, valA, isOw, box0, Option.map_some, Option.bind_some, sHeardT, nlCons, nlNil, Nw.dat, mSet, eChain, eRg1, eRg2, eSl, pNo, pSo,
  List.getElem?_cons_zero, List.getElem?_cons_succ, List.set_cons_zero, List.set_cons_succ, List.length_cons, List.length_nil, if_true, if_false, Bool.false_eq_true, ite_true, ite_false, reduceIte,
  addU_int, subD_int, ltD_int, leD_int, gtD_int, geD_int, negD_int, absD_int, intD_bool, intD_int, lenD_list, lenD_tuple, lenD_scr, pow10_7, pow10_18, pow10_40, eqW_ints, neW_ints, eqW_strs, neW_strs, eqW_none, eqW_in, eqW_ni, ixD_list, ixD_tuple, ixD_scr, atI_3_0, atI_3_1, atI_3_2, ixN_3_0, ixN_3_1, ixN_3_2, wipeR, zip2D, skOf, isiD_n, isiD_b, isiD_i, isiD_s, isiD_l, isiD_t, isiTD_n, isiTD_b, isiTD_i, isiTD_s, isiTD_l, isiTD_t, isiAny, eCallX, eCallWX, xE, xIf, xL, xCb1, sSetX, sRetX, sDropX, sRaise, sTo, eMk, isX_n, sKeep, kt_ll, kt_lt, kt_ls, kt_li, kt_lb, kt_tl, kt_tt, kt_ts, kt_ti, kt_tb, kt_sl, kt_st, kt_ss, kt_si, kt_sb, kt_il, kt_it, kt_is, kt_ii, kt_ib, kt_bl, kt_bt, kt_bs, kt_bi, kt_bb, kt_nl, kt_nt, kt_ns, kt_ni, kt_nb, eqW_bools, neW_bools, isD_none, isNotD_none, isNoneD, isNone_e, List.map_cons, List.map_nil, List.replicate, List.append_nil, List.cons_append, List.nil_append, nc0, nc1, nc2, nc3, nc4, nc5, nc6, nc7, nc8, nc9, nc10, nc11, nc12, nc13, nc14, nc15, nc16, nc17, nc18, nc19, nc20, Nat.reduceAdd, Nat.reduceSub, ne_eq, decide_true, decide_false, not_true_eq_false, not_false_eq_true, reduceCtorEq, Bool.and_true, Bool.true_and, Bool.and_false, Bool.false_and, Bool.or_true, Bool.true_or, Bool.or_false, Bool.false_or, Bool.not_true, Bool.not_false, and_self, if_true])
local macro_rules | `(tactic| walk_at "evh") => `(tactic| simp only [eC, eV, oE, oV, eL, eT, aNil, aCons, eOp2, eOp1, eApp, tstE, eB, tNotG, tAndG, tOrG, eAndG, eOrG, eNotG, eIf, eSeq, eCall, eCallO, eCallB, eCallBF, eCallBX, sSeq, sNext, sRet, sRetF, sRetO, sRetN, sDrop, sIf, sSet, sSetO, sBreak, sCont, sBad, sPar, sPar3, fz, sFz, eCallW, idL, sApp, sPutIx, sAug, sFor, gN, gT, gsCons, gsNil, gYes, eLc, gSeq, nS, nF, Nw.sl, R.ok_bind, R.ok_map, R.lift_some, to_ok, toX_ok, toX_ex, bind_nx, bind_rt, bind_rf, bind_ex, bind_bk, bind_ct, at_ok, at_ex, res_val, map_ex, rbind_ex, Op.res, resA, valA, isOw, box0, Option.map_some, Option.bind_some, sHeardT, nlCons, nlNil, Nw.dat, mSet, eChain, eRg1, eRg2, eSl, pNo, pSo,
  List.getElem?_cons_zero, List.getElem?_cons_succ, List.set_cons_zero, List.set_cons_succ, List.length_cons, List.length_nil, if_true, if_false, Bool.false_eq_true, ite_true, ite_false, reduceIte,
  addU_int, subD_int, ltD_int, leD_int, gtD_int, geD_int, negD_int, absD_int, intD_bool, intD_int, lenD_list, lenD_tuple, lenD_scr, pow10_7, pow10_18, pow10_40, eqW_ints, neW_ints, eqW_strs, neW_strs, eqW_none, eqW_in, eqW_ni, ixD_list, ixD_tuple, ixD_scr, atI_3_0, atI_3_1, atI_3_2, ixN_3_0, ixN_3_1, ixN_3_2, wipeR, zip2D, skOf, isiD_n, isiD_b, isiD_i, isiD_s, isiD_l, isiD_t, isiTD_n, isiTD_b, isiTD_i, isiTD_s, isiTD_l, isiTD_t, isiAny, eCallX, eCallWX, xE, xIf, xL, xCb1, sSetX, sRetX, sDropX, sRaise, sTo, eMk, isX_n, sKeep, kt_ll, kt_lt, kt_ls, kt_li, kt_lb, kt_tl, kt_tt, kt_ts, kt_ti, kt_tb, kt_sl, kt_st, kt_ss, kt_si, kt_sb, kt_il, kt_it, kt_is, kt_ii, kt_ib, kt_bl, kt_bt, kt_bs, kt_bi, kt_bb, kt_nl, kt_nt, kt_ns, kt_ni, kt_nb, eqW_bools, neW_bools, isD_none, isNotD_none, isNoneD, isNone_e, List.map_cons, List.map_nil, List.replicate, List.append_nil, List.cons_append, List.nil_append, nc0, nc1, nc2, nc3, nc4, nc5, nc6, nc7, nc8, nc9, nc10, nc11, nc12, nc13, nc14, nc15, nc16, nc17, nc18, nc19, nc20, Nat.reduceAdd, Nat.reduceSub, ne_eq, decide_true, decide_false, not_true_eq_false, not_false_eq_true, reduceCtorEq, Bool.and_true, Bool.true_and, Bool.and_false, Bool.false_and, Bool.or_true, Bool.true_or, Bool.or_false, Bool.false_or, Bool.not_true, Bool.not_false, and_self, if_true, *])
theorem md_e {k c : Int} {s0 s1 : Sl} (m : mulV (.int k) (.int c) = some (.int (k * c))) : ce_mean_distance_1 [s0, s1, .sh (.int k), .sh (.int c)] = .ok (.int (k * c)) [s0, s1, .sh (.int k), .sh (.int c)] := by
  unfold ce_mean_distance_1
  walk_at "evh"
theorem md_1 {r : D} {L : List D} (e : F_spheres [r] = some L) : (sSet 1 (eL (eCall F_spheres (aCons (oE (eV 0)) aNil)))) [.sh r, .no, .no, .no] = .nx [.sh r, .sh (.list L), .no, .no] := by
  walk_at "evh"
theorem md_it {r X : D} {E : List D} (e : enum1D [X] = some E) : (eCall enum1D (aCons (oE (eV 1)) aNil)) [.sh r, .sh X, .no, .no] = .ok E [.sh r, .sh X, .no, .no] := by
  walk_at "evh"
theorem md_2 {r X d : D} {n m : Int} {g : GE} (e : g [.sh r, .sh X, .no, .no] = .ok (.int n) [.sh r, .sh X, .no, .no]) (s : sumD [X] = some (.int m)) (f : F_fraction [.int n, .int m] = some d) : (sRet (eCall F_fraction (aCons (oE g) (aCons (oE (eApp sumD (aCons (oE (eV 1)) aNil))) aNil)))) [.sh r, .sh X, .no, .no] = .rt d [.sh r, .sh X, .no, .no] := by
  walk_at "evh"
theorem md_sum {G : GE} {ρ ρ1 : Rho} {Y : List D} {v : D} (e : G ρ = .ok (.list Y) ρ1) (s : sumD [.list Y] = some v) : (eApp sumD (aCons (oE G) aNil)) ρ = .ok v ρ1 := by
  walk_at "evh"
theorem sumD_i (ns : List Int) : sumD [.list (ns.map .int)] = some (.int ns.sum) := by
  show (intsOf (ns.map PyData.int)).map (fun ms => PyData.int ms.sum) = _
  rw [DL.intsOf_map, Option.map_some]
theorem ws_rng (a : List Int) : ((rngI 0 (sphL a).length).map fun p => p * nat (sphL a) p).sum = wsN a := by
  unfold wsN rngI
  rw [sph_len, List.map_map]
  congr 1
  refine List.map_congr_left fun k hk => ?_
  show (0 + (k : Int)) * nat (sphL a) (0 + (k : Int)) = (k : Int) * ((cntD a k : Nat) : Int)
  rw [Int.zero_add]
  congr 1
  unfold nat sphL
  rw [Int.toNat_natCast, List.getElem?_map, List.getElem?_range (List.mem_range.mp hk)]; rfl
theorem ws_nn (a : List Int) : 0 ≤ wsN a := by rw [ws_eq]; omega
theorem ws_le {a : List Int} (hl : a.length ≤ 20) : wsN a ≤ 10 ^ 12 ∧ (folR a).length ≤ 387420489 := by
  have h1 := fol_3 a
  have h2 : (3 : Nat) ^ (a.length - 2) ≤ 3 ^ 18 := Nat.pow_le_pow_right (by decide) (by omega)
  have h3 : (3 : Nat) ^ 18 = 387420489 := by decide
  have h4 := sum_le (ns := (folR a).map (dst a)) (m := 20) fun n hn => by
    obtain ⟨b, _, rfl⟩ := List.mem_map.mp hn
    exact Nat.le_trans (dst_le a b) hl
  rw [List.length_map] at h4
  rw [ws_eq]
  refine ⟨?_, by omega⟩
  have : (10 : Int) ^ 12 = 1000000000000 := by decide
  omega
theorem mean_eq {r : D} {a : List Int} (hr : Sq r (a.map .int)) (hl : a.length ≤ 20) : F_mean_distance [r] = some (frD (wsN a) ((folR a).length : Nat)) := by
  have en := en_map (r := .list ((sphL a).map PyData.int)) (a := sphL a) (Sq.l _)
  have hn : farN a ≤ a.length := by
    obtain ⟨b, _, e⟩ := far_at a
    rw [← e]; exact dst_le a b
  have lc : lcL [2, 3] (gT 2 (gsCons (gN 2) (gsCons (gN 3) gsNil))) gYes ce_mean_distance_1 ((rngI 0 (sphL a).length).map fun p => .tuple [.int p, .int (nat (sphL a) p)]) [.sh r, .sh (.list ((sphL a).map .int)), .no, .no] = .ok ((rngI 0 (sphL a).length).map fun p => .int (p * nat (sphL a) p)) [.sh r, .sh (.list ((sphL a).map .int)), .no, .no] :=
    lc_emb1 fun p hp => ⟨[.sh r, .sh (.list ((sphL a).map .int)), .sh (.int p), .sh (.int (nat (sphL a) p))], rfl, rfl, md_e (by
      have := mem_rngI hp
      rw [sph_len] at this
      exact cmul_l ⟨by omega, by omega⟩)⟩
  have em : ((rngI 0 (sphL a).length).map fun p => PyData.int (p * nat (sphL a) p)) = ((rngI 0 (sphL a).length).map fun p => p * nat (sphL a) p).map PyData.int := by rw [List.map_map]; rfl
  rw [em] at lc
  have s1 := md_sum (eL_ok (eLc_ok (md_it (r := r) en) (by rw [List.length_map, rngI_len, sph_len]; exact size_of (by omega)) lc)) (sumD_i _)
  rw [ws_rng] at s1
  have s2 := sumD_i (sphL a)
  rw [sph_sum] at s2
  have b := ws_le hl
  have nn := ws_nn a
  have fp := fol_ne a
  have fe := fr_eq (n := wsN a) (d := ((folR a).length : Nat)) (by omega) (by
    have : (387420489 : Int) < 2 ^ 200 := by decide
    omega) (by
    have h : (10 : Nat) ^ 12 < 2 ^ 240 := by decide
    have h2 : (10 : Int) ^ 12 = ((10 ^ 12 : Nat) : Int) := by decide
    have : (wsN a).natAbs ≤ 10 ^ 12 := by omega
    omega)
  exact callP_rt rfl (seq_nx (md_1 (sph_eq hr (by omega))) (md_2 s1 s2 fe))
theorem ra_t {s0 s1 : Sl} {h l : Int} : wt__law_ratio_1 [s0, s1, .sh (.int h), .sh (.int l)] = .ok (decide (0 < l)) [s0, s1, .sh (.int h), .sh (.int l)] := by
  unfold wt__law_ratio_1
  walk_at "ev"
theorem ra_b {s0 s1 : Sl} {h l r : Int} (m : modD (.int h) (.int l) = some (.int r)) : gb__law_ratio_2 [s0, s1, .sh (.int h), .sh (.int l)] = .nx [s0, s1, .sh (.int l), .sh (.int r)] := by
  unfold gb__law_ratio_2
  walk_at "evh"
theorem ra_1 {n d : Int} : (sPar 2 3 (nS (eV 0)) (nS (eV 1))) [.sh (.int n), .sh (.int d), .no, .no] = .nx [.sh (.int n), .sh (.int d), .sh (.int n), .sh (.int d)] := by
  walk_at "ev"
theorem ra_3 {n d g x y : Int} {s3 : Sl} (f1 : fdivD (.int n) (.int g) = some (.int x)) (f2 : fdivD (.int d) (.int g) = some (.int y)) (z : 2 ≤ sizeLine) : (eT (eSeq (aCons (oE (eOp2 fdivD (oE (eV 0)) (oE (eV 2)))) (aCons (oE (eOp2 fdivD (oE (eV 1)) (oE (eV 2)))) aNil)))) [.sh (.int n), .sh (.int d), .sh (.int g), s3] = .ok (.tuple [.int x, .int y]) [.sh (.int n), .sh (.int d), .sh (.int g), s3] := by
  walk_at "evh"
theorem rat_eq {n d : Int} (hn : 0 ≤ n) (hd : 0 < d) (hd2 : d.natAbs < 2 ^ 200) : F__law_ratio [.int n, .int d] = some (frD n d) := by
  have w := eu_while (c := wt__law_ratio_1) (b := gb__law_ratio_2) (s0 := .sh (.int n)) (s1 := .sh (.int d)) (fun h l => ra_t) (fun h l hl => ra_b (by rw [modD_int (by omega), ← Int.natCast_emod])) 200 n.natAbs d.natAbs 1000 hd2 (by omega)
  have gp := gcd_posD (n := n) hd
  have ge : ((Nat.gcd n.natAbs d.natAbs : Nat) : Int) = (Int.gcd d n : Int) := by rw [Nat.gcd_comm]; rfl
  rw [ge] at w
  have ed : (d.natAbs : Int) = d := by omega
  have en : (n.natAbs : Int) = n := by omega
  rw [ed, en] at w
  have gl : (Int.gcd d n : Int) ≤ d := Int.le_of_dvd hd (Int.gcd_dvd_left d n)
  exact callP_rt rfl (seq_nx ra_1 (seq_nx w (sRet_ok (ra_3 (fdivD_int gp (by omega)) (fdivD_int gp (by omega)) (by decide)))))
end W
namespace W
open PySem L2 DL
theorem pow10_40 : powD (.int 10) (.int 40) = some (.int 10000000000000000000000000000000000000000) := rfl
local macro_rules | `(tactic| walk_at "ev") => `(tactic| simp only [eC, eV, oE, oV, eL, eT, aNil, aCons, eOp2, eOp1, eApp, tstE, eB, tNotG, tAndG, tOrG, eAndG, eOrG, eNotG, eIf, eSeq, eCall, eCallO, eCallB, eCallBF, eCallBX, sSeq, sNext, sRet, sRetF, sRetO, sRetN, sDrop, sIf, sSet, sSetO, sBreak, sCont, sBad, sPar, sPar3, fz, sFz, eCallW, idL, sApp, sPutIx, sAug, sFor, gN, gT, gsCons, gsNil, gYes, eLc, gSeq, nS, nF, Nw.sl, R.ok_bind, R.ok_map, R.lift_some, to_ok, toX_ok, toX_ex, bind_nx, bind_rt, bind_rf, bind_ex, bind_bk, bind_ct, at_ok, at_ex, res_val, map_ex, rbind_ex, Op.res, resA, valA, isOw, box0, Option.map_some, Option.bind_some, sHeardT, nlCons, nlNil, Nw.dat, mSet, eChain, eRg1, eRg2, eSl, pNo, pSo,
  List.getElem?_cons_zero, List.getElem?_cons_succ, List.set_cons_zero, List.set_cons_succ, List.length_cons, List.length_nil, if_true, if_false, Bool.false_eq_true, ite_true, ite_false, reduceIte,
  addU_int, subD_int, ltD_int, leD_int, gtD_int, geD_int, negD_int, absD_int, intD_bool, intD_int, lenD_list, lenD_tuple, lenD_scr, pow10_7, pow10_18, pow10_40, eqW_ints, neW_ints, eqW_strs, neW_strs, eqW_none, eqW_in, eqW_ni, ixD_list, ixD_tuple, ixD_scr, atI_3_0, atI_3_1, atI_3_2, ixN_3_0, ixN_3_1, ixN_3_2, wipeR, zip2D, skOf, isiD_n, isiD_b, isiD_i, isiD_s, isiD_l, isiD_t, isiTD_n, isiTD_b, isiTD_i, isiTD_s, isiTD_l, isiTD_t, isiAny, eCallX, eCallWX, xE, xIf, xL, xCb1, sSetX, sRetX, sDropX, sRaise, sTo, eMk, isX_n, sKeep, kt_ll, kt_lt, kt_ls, kt_li, kt_lb, kt_tl, kt_tt, kt_ts, kt_ti, kt_tb, kt_sl, kt_st, kt_ss, kt_si, kt_sb, kt_il, kt_it, kt_is, kt_ii, kt_ib, kt_bl, kt_bt, kt_bs, kt_bi, kt_bb, kt_nl, kt_nt, kt_ns, kt_ni, kt_nb, eqW_bools, neW_bools, isD_none, isNotD_none, isNoneD, isNone_e, List.map_cons, List.map_nil, List.replicate, List.append_nil, List.cons_append, List.nil_append, nc0, nc1, nc2, nc3, nc4, nc5, nc6, nc7, nc8, nc9, nc10, nc11, nc12, nc13, nc14, nc15, nc16, nc17, nc18, nc19, nc20, Nat.reduceAdd, Nat.reduceSub, ne_eq, decide_true, decide_false, not_true_eq_false, not_false_eq_true, reduceCtorEq, Bool.and_true, Bool.true_and, Bool.and_false, Bool.false_and, Bool.or_true, Bool.true_or, Bool.or_false, Bool.false_or, Bool.not_true, Bool.not_false, and_self, if_true, pow10_40, eSrtVals, eCntI])
local macro_rules | `(tactic| walk_at "evh") => `(tactic| simp only [eC, eV, oE, oV, eL, eT, aNil, aCons, eOp2, eOp1, eApp, tstE, eB, tNotG, tAndG, tOrG, eAndG, eOrG, eNotG, eIf, eSeq, eCall, eCallO, eCallB, eCallBF, eCallBX, sSeq, sNext, sRet, sRetF, sRetO, sRetN, sDrop, sIf, sSet, sSetO, sBreak, sCont, sBad, sPar, sPar3, fz, sFz, eCallW, idL, sApp, sPutIx, sAug, sFor, gN, gT, gsCons, gsNil, gYes, eLc, gSeq, nS, nF, Nw.sl, R.ok_bind, R.ok_map, R.lift_some, to_ok, toX_ok, toX_ex, bind_nx, bind_rt, bind_rf, bind_ex, bind_bk, bind_ct, at_ok, at_ex, res_val, map_ex, rbind_ex, Op.res, resA, valA, isOw, box0, Option.map_some, Option.bind_some, sHeardT, nlCons, nlNil, Nw.dat, mSet, eChain, eRg1, eRg2, eSl, pNo, pSo,
  List.getElem?_cons_zero, List.getElem?_cons_succ, List.set_cons_zero, List.set_cons_succ, List.length_cons, List.length_nil, if_true, if_false, Bool.false_eq_true, ite_true, ite_false, reduceIte,
  addU_int, subD_int, ltD_int, leD_int, gtD_int, geD_int, negD_int, absD_int, intD_bool, intD_int, lenD_list, lenD_tuple, lenD_scr, pow10_7, pow10_18, pow10_40, eqW_ints, neW_ints, eqW_strs, neW_strs, eqW_none, eqW_in, eqW_ni, ixD_list, ixD_tuple, ixD_scr, atI_3_0, atI_3_1, atI_3_2, ixN_3_0, ixN_3_1, ixN_3_2, wipeR, zip2D, skOf, isiD_n, isiD_b, isiD_i, isiD_s, isiD_l, isiD_t, isiTD_n, isiTD_b, isiTD_i, isiTD_s, isiTD_l, isiTD_t, isiAny, eCallX, eCallWX, xE, xIf, xL, xCb1, sSetX, sRetX, sDropX, sRaise, sTo, eMk, isX_n, sKeep, kt_ll, kt_lt, kt_ls, kt_li, kt_lb, kt_tl, kt_tt, kt_ts, kt_ti, kt_tb, kt_sl, kt_st, kt_ss, kt_si, kt_sb, kt_il, kt_it, kt_is, kt_ii, kt_ib, kt_bl, kt_bt, kt_bs, kt_bi, kt_bb, kt_nl, kt_nt, kt_ns, kt_ni, kt_nb, eqW_bools, neW_bools, isD_none, isNotD_none, isNoneD, isNone_e, List.map_cons, List.map_nil, List.replicate, List.append_nil, List.cons_append, List.nil_append, nc0, nc1, nc2, nc3, nc4, nc5, nc6, nc7, nc8, nc9, nc10, nc11, nc12, nc13, nc14, nc15, nc16, nc17, nc18, nc19, nc20, Nat.reduceAdd, Nat.reduceSub, ne_eq, decide_true, decide_false, not_true_eq_false, not_false_eq_true, reduceCtorEq, Bool.and_true, Bool.true_and, Bool.and_false, Bool.false_and, Bool.or_true, Bool.true_or, Bool.or_false, Bool.false_or, Bool.not_true, Bool.not_false, and_self, if_true, pow10_40, eSrtVals, eCntI, *])
def farL (a : List Int) : List Int := srtI ((folR a).map fun c => ((dst a c : Nat) : Int))
theorem farL_perm (a : List Int) : (farL a).Perm ((folR a).map fun c => ((dst a c : Nat) : Int)) := srtI_perm _
theorem farL_of {a : List Int} {acc : List (List Int)} (nd : acc.Nodup) (h : ∀ b, b ∈ acc ↔ Keep a b) : srtI (acc.map fun c => ((dst a c : Nat) : Int)) = farL a := by
  have p : acc.Perm (folR a) := (List.perm_ext_iff_of_nodup nd (fol_nodup a)).mpr fun b => by rw [h, fol_mem]
  exact srt_unique ((srtI_perm _).trans (p.map _)) (srtI_pw _)
theorem sort_vals {a : List Int} {acc : List (List Int)} (nd : acc.Nodup) (h : ∀ b, b ∈ acc ↔ Keep a b) : sortVD (dcD (tabR (dD a) acc)) = some ((farL a).map .int) := by
  rw [← farL_of nd h]
  show (intsOf ((tabR (dD a) acc).map (·.2))).map (fun ns => (srtI ns).map PyData.int) = _
  have e : (tabR (dD a) acc).map (·.2) = (acc.map fun c => ((dst a c : Nat) : Int)).map PyData.int := by
    unfold tabR dD
    rw [List.map_map, List.map_map]; rfl
  rw [e, intsOf_map]; rfl
theorem sum_permI {l m : List Int} (h : l.Perm m) : l.sum = m.sum := by
  induction h with
  | nil => rfl
  | cons x _ ih => rw [List.sum_cons, List.sum_cons, ih]
  | swap x y l => rw [List.sum_cons, List.sum_cons, List.sum_cons, List.sum_cons]; omega
  | trans _ _ h1 h2 => rw [h1, h2]
theorem farL_len (a : List Int) : (farL a).length = (folR a).length := by rw [(farL_perm a).length_eq, List.length_map]
theorem farL_sum (a : List Int) : (farL a).sum = wsN a := by
  rw [sum_permI (farL_perm a), ws_eq, sum_cast, List.map_map]; rfl
theorem farL_cnt (a : List Int) (k : Nat) : (farL a).count (k : Int) = cntD a k := by
  rw [(farL_perm a).count_eq]
  unfold cntD
  rw [List.count_eq_countP, List.countP_map, List.countP_eq_length_filter]
  refine congrArg List.length (List.filter_congr fun c _ => ?_)
  show (((dst a c : Nat) : Int) == (k : Int)) = decide (dst a c = k)
  rw [Bool.eq_iff_iff, beq_iff_eq, decide_eq_true_iff]
  omega
theorem farL_last (a : List Int) : ∃ l, farL a = l ++ [((farN a : Nat) : Int)] := by
  have ne : farL a ≠ [] := fun z => by
    have := farL_len a
    rw [z] at this
    have := fol_ne a
    rw [List.length_nil] at *
    omega
  have e := (List.dropLast_concat_getLast ne).symm
  generalize (farL a).getLast ne = x at e
  generalize (farL a).dropLast = l at e
  refine ⟨l, ?_⟩
  rw [e]
  have pw := srtI_pw ((folR a).map fun c => ((dst a c : Nat) : Int))
  have pw : (farL a).Pairwise (· ≤ ·) := pw
  rw [e] at pw
  have le : ∀ y ∈ farL a, y ≤ x := fun y hy => by
    rw [e] at hy
    rcases List.mem_append.mp hy with h | h
    · exact (List.pairwise_append.mp pw).2.2 y h x (List.mem_singleton.mpr rfl)
    · rw [List.mem_singleton.mp h]; exact Int.le_refl _
  have mx : x ∈ farL a := by rw [e]; exact List.mem_append_right _ (List.mem_singleton.mpr rfl)
  obtain ⟨c, hc, ec⟩ := List.mem_map.mp ((farL_perm a).mem_iff.mp mx)
  obtain ⟨b, hb, eb⟩ := far_at a
  have h1 := far_le hc
  have h2 := le _ ((farL_perm a).mem_iff.mpr (List.mem_map.mpr ⟨b, hb, rfl⟩))
  have : x = ((farN a : Nat) : Int) := by omega
  rw [this]
theorem v_1 {box box1 box2 : List D} {t : Int} {L : D} {s1 s2 s3 s4 s5 s6 s7 s8 : Sl} (e1 : F__law_of box [.list [.int 2, .int 9, .int 10000000000000000000000000000000000000000]] = some (.int t, box1)) (e2 : F__law_random_line box1 [.int 9, .int t] = some (L, box2)) (z : 3 ≤ sizeLine) : (sSet 1 (eCallB F__law_random_line 0 (aCons (oE (eC (.int 9))) (aCons (oE (eCallB F__law_of 0 (aCons (oE (eL (eSeq (aCons (oE (eC (.int 2))) (aCons (oE (eC (.int 9))) (aCons (oE (eOp2 powD (oE (eC (.int 10))) (oE (eC (.int 40))))) aNil)))))) aNil))) aNil)))) [.ow box, s1, s2, s3, s4, s5, s6, s7, s8] = .nx [.ow box2, .sh L, s2, s3, s4, s5, s6, s7, s8] := by
  walk_at "evh"
theorem v_2 {L Y : D} {E ms : List D} {s0 s2 s3 s4 s5 s6 s7 s8 : Sl} (e1 : F__law_layers [L] = some Y) (so : sortVD Y = some E) (li : listD [L] = some ms) (z : 2 ≤ sizeLine) : (sTo (eT (eSeq (aCons (oE (eL (eApp listD (aCons (oE (eV 1)) aNil)))) (aCons (oE (eL (eSrtVals (eCall F__law_layers (aCons (oE (eV 1)) aNil))))) aNil)))) (gT 2 (gsCons (gN 2) (gsCons (gN 3) gsNil)))) [s0, .sh L, s2, s3, s4, s5, s6, s7, s8] = .nx [s0, .sh L, .sh (.list ms), .sh (.list E), s4, s5, s6, s7, s8] := by
  walk_at "evh"
theorem v_3e {F x y : D} {s0 s1 s2 s4 s5 s6 s7 : Sl} (c : cntI F x = some y) : ce__law_right_1 [s0, s1, s2, .sh F, s4, s5, s6, s7, .sh x] = .ok y [s0, s1, s2, .sh F, s4, s5, s6, s7, .sh x] := by
  unfold ce__law_right_1
  walk_at "evh"
theorem v_3s {F : D} {j : Int} {M : List D} {s0 s1 s2 s4 s5 s6 s7 s8 : Sl} (i : ixD F (.int (-1)) = some (.int j)) (rg : rng1 [.int (j + 1)] = some M) : (eCall rng1 (aCons (oE (eOp2 addU (oE (eOp2 ixD (oE (eV 3)) (oE (eOp1 negD (oE (eC (.int 1))))))) (oE (eC (.int 1))))) aNil)) [s0, s1, s2, .sh F, s4, s5, s6, s7, s8] = .ok M [s0, s1, s2, .sh F, s4, s5, s6, s7, s8] := by
  walk_at "evh"
theorem v_3 {g : GF} {Y : List D} {F W : D} {m k : Int} {s0 s1 s2 s4 s5 s6 s7 s8 : Sl} (eg : g [s0, s1, s2, .sh F, s4, s5, s6, s7, s8] = .ok Y [s0, s1, s2, .sh F, s4, s5, s6, s7, s8]) (s : sumD [F] = some (.int m)) (l : lenD [F] = some (.int k)) (e : F__law_ratio [.int m, .int k] = some W) : (sPar 4 5 (nS (eL g)) (nS (eCall F__law_ratio (aCons (oE (eApp sumD (aCons (oE (eV 3)) aNil))) (aCons (oE (eApp lenD (aCons (oE (eV 3)) aNil))) aNil))))) [s0, s1, s2, .sh F, s4, s5, s6, s7, s8] = .nx [s0, s1, s2, .sh F, .sh (.list Y), .sh W, s6, s7, s8] := by
  walk_at "evh"
theorem v_4 {L S : D} {E : List D} {s0 s3 s4 s5 s6 s7 s8 : Sl} (e1 : F_spheres [L] = some E) (e2 : F_spheres [S] = some E) : (nlCons (nF (eCall F_spheres (aCons (oE (eV 1)) aNil))) (nlCons (nF (eCallW F_spheres 1 @idL (aCons (oE (eV 2)) aNil))) nlNil)) [s0, .sh L, .sh S, s3, s4, s5, s6, s7, s8] = .ok [.f E, .f E] [s0, .sh L, .sh S, s3, s4, s5, s6, s7, s8] := by
  walk_at "evh"
theorem v_5 {E : D} {s0 s1 s2 s3 s5 s6 s7 s8 : Sl} (z : 2 ≤ sizeLine) : (eL (eSeq (aCons (oE (eV 4)) (aCons (oE (eV 4)) aNil)))) [s0, s1, s2, s3, .sh E, s5, s6, s7, s8] = .ok (.list [E, E]) [s0, s1, s2, s3, .sh E, s5, s6, s7, s8] := by
  walk_at "evh"
theorem v_6 {L S F W : D} {E : List D} {j : Int} {s0 s6 s7 s8 : Sl} (e1 : F_spheres [L] = some E) (e2 : F_farthest [L] = some (.int j)) (e3 : F_farthest [S] = some (.int j)) (e4 : F_mean_distance [L] = some W) (e5 : F_mean_distance [S] = some W) (i : ixD F (.int (-1)) = some (.int j)) (z : 5 ≤ sizeLine)
    (sm : F__law_same 6 [.list [.list E, .int j, .int j, W, W], .list [.list E, .int j, .int j, W, W]] = some (.bool true)) (tu : tupleD [S] = some L) (q : eqW L L = some (.bool true)) : gr__law_right_2 [s0, .sh L, .sh S, .sh F, .sh (.list E), .sh W, s6, s7, s8] = .rt (.bool true) [s0, .sh L, .sh S, .sh F, .sh (.list E), .sh W, s6, .sh (.list [.list E, .int j, .int j, W, W]), s8] := by
  unfold gr__law_right_2
  walk_at "evh"
theorem right_eq {n : Int} {box : List D} (hb : GoodBox n box) (hn : n < 2 ^ 30) : ∃ box', F__law_right box [] = some (.bool true, box') ∧ GoodBox (n + 2000) box' := by
  obtain ⟨y, box1, e1, hy, g1⟩ := of_eq (xs := [.int 2, .int 9, .int 10000000000000000000000000000000000000000]) hb (by omega) (by decide) (by decide)
  obtain ⟨t, rfl, ht⟩ : ∃ t : Int, y = .int t ∧ 1 ≤ t ∧ t ≤ 10 ^ 40 := by
    simp only [List.mem_cons, List.not_mem_nil, or_false] at hy
    rcases hy with rfl | rfl | rfl
    · exact ⟨2, rfl, by omega, by omega⟩
    · exact ⟨9, rfl, by omega, by omega⟩
    · exact ⟨10000000000000000000000000000000000000000, rfl, by omega, by omega⟩
  obtain ⟨a, box2, e2, hl, hr, g2⟩ := rline_eq (most := 9) g1 (by omega) (by omega) ht
  obtain ⟨acc, ly, nd, hk⟩ := ly_eq (a := a) (by omega)
  have sv := sort_vals nd hk
  have T := Sq.t (a.map PyData.int)
  have Lq := Sq.l (a.map PyData.int)
  have fs := fol_3 a
  have fs2 : (3 : Nat) ^ (a.length - 2) ≤ 3 ^ 7 := Nat.pow_le_pow_right (by omega) (by omega)
  have fs3 : (folR a).length ≤ 2187 := Nat.le_trans fs (Nat.le_trans fs2 (by decide))
  have fp := fol_ne a
  obtain ⟨l0, el⟩ := farL_last a
  have fN : farN a ≤ 9 := by
    obtain ⟨b, hb, e⟩ := far_at a
    have := dst_le a b
    omega
  have ix : ixD (.list ((farL a).map .int)) (.int (-1)) = some (.int (farN a : Nat)) := by
    rw [ixD_list, el, List.map_append]
    exact DL.atI_last _ _
  have rg : rng1 [.int (((farN a : Nat) : Int) + 1)] = some ((rngI 0 (farN a + 1)).map .int) := by
    rw [← rngI_d]; exact rng1_eq (by omega) (by omega)
  have sE : sphL a = (rngI 0 (farN a + 1)).map fun k => (((farL a).count k : Nat) : Int) := by
    unfold sphL rngI
    rw [List.map_map]
    refine List.map_congr_left fun k _ => ?_
    show ((cntD a k : Nat) : Int) = (((farL a).count (0 + (k : Int)) : Nat) : Int)
    rw [show (0 : Int) + (k : Int) = (k : Int) by omega, farL_cnt]
  have lc : ∀ {s0 s1 s2 s4 s5 s6 s7 : Sl}, lcL [8] (gN 8) gYes ce__law_right_1 ((rngI 0 (farN a + 1)).map .int) [s0, s1, s2, .sh (.list ((farL a).map .int)), s4, s5, s6, s7, .no] = .ok ((sphL a).map .int) [s0, s1, s2, .sh (.list ((farL a).map .int)), s4, s5, s6, s7, .no] := by
    intro s0 s1 s2 s4 s5 s6 s7
    rw [sE, List.map_map]
    refine lc_emb1 fun k _ => ⟨_, rfl, rfl, v_3e ?_⟩
    show (intsOf ((farL a).map PyData.int)).map (fun ns => PyData.int (ns.count k : Nat)) = _
    rw [intsOf_map]; rfl
  have S1 := v_1 (s1 := .no) (s2 := .no) (s3 := .no) (s4 := .no) (s5 := .no) (s6 := .no) (s7 := .no) (s8 := .no) e1 e2 (by decide)
  have S2 := v_2 (s0 := .ow box2) (s2 := .no) (s3 := .no) (s4 := .no) (s5 := .no) (s6 := .no) (s7 := .no) (s8 := .no) ly sv T.lst (by decide)
  have wl := ws_le (a := a) (by omega)
  have wn := ws_nn a
  have rt := rat_eq (n := wsN a) (d := ((folR a).length : Nat)) wn (by omega) (by
    have : (387420489 : Nat) < 2 ^ 200 := by decide
    omega)
  have su : sumD [.list ((farL a).map .int)] = some (.int (wsN a)) := by rw [sumD_i, farL_sum]
  have ln : lenD [.list ((farL a).map .int)] = some (.int ((folR a).length : Nat)) := by
    rw [lenD_list, List.length_map, farL_len]
  have S3 := v_3 (s0 := .ow box2) (s1 := .sh (rowD a)) (s2 := .sh (.list (a.map .int))) (s4 := .no) (s5 := .no) (s6 := .no) (s7 := .no) (s8 := .no) (eLc_ok (vs := [8]) (k := gN 8) (t := gYes) (v_3s ix rg) (size_of (by rw [List.length_map, rngI_len]; omega)) lc) su ln rt
  have pE : Pl 4 (.list ((sphL a).map .int)) := .list (by rw [List.length_map, sph_len]; exact size_of (by omega)) fun x hx => by
    obtain ⟨i, _, rfl⟩ := List.mem_map.mp hx
    exact .int _ i
  have pW : Pl 4 (frD (wsN a) ((folR a).length : Nat)) := .tuple (by show 2 ≤ sizeLine; decide) fun x hx => by
    simp only [List.mem_cons, List.not_mem_nil, or_false] at hx
    rcases hx with rfl | rfl <;> exact .int _ _
  have sm1 : F__law_same 6 [.list [.list ((sphL a).map .int), .list ((sphL a).map .int)], .list [.list ((sphL a).map .int), .list ((sphL a).map .int)]] = some (.bool true) := same_refl 5 (.list (by show 2 ≤ sizeLine; decide) fun x hx => by
    simp only [List.mem_cons, List.not_mem_nil, or_false] at hx
    rcases hx with rfl | rfl <;> exact pE)
  have sm2 : F__law_same 6 [.list [.list ((sphL a).map .int), .int (farN a : Nat), .int (farN a : Nat), frD (wsN a) ((folR a).length : Nat), frD (wsN a) ((folR a).length : Nat)], .list [.list ((sphL a).map .int), .int (farN a : Nat), .int (farN a : Nat), frD (wsN a) ((folR a).length : Nat), frD (wsN a) ((folR a).length : Nat)]] = some (.bool true) := same_refl 5 (.list (by show 5 ≤ sizeLine; decide) fun x hx => by
    simp only [List.mem_cons, List.not_mem_nil, or_false] at hx
    rcases hx with rfl | rfl | rfl | rfl | rfl
    · exact pE
    · exact .int _ _
    · exact .int _ _
    · exact pW
    · exact pW)
  have qa : eqW (rowD a) (rowD a) = some (.bool true) := by
    have := eqW_ti a a
    rw [decide_eq_true rfl] at this
    exact this
  have S4 := v_4 (s0 := .ow box2) (s3 := .sh (.list ((farL a).map .int))) (s4 := .sh (.list ((sphL a).map .int))) (s5 := .sh (frD (wsN a) ((folR a).length : Nat))) (s6 := .no) (s7 := .no) (s8 := .no) (sph_eq T (by omega)) (sph_eq Lq (by omega))
  have S5 := v_5 (E := .list ((sphL a).map .int)) (s0 := .ow box2) (s1 := .sh (rowD a)) (s2 := .sh (.list (a.map .int))) (s3 := .sh (.list ((farL a).map .int))) (s5 := .sh (frD (wsN a) ((folR a).length : Nat))) (s6 := .no) (s7 := .no) (s8 := .no) (by decide)
  have tu : tupleD [.list (a.map .int)] = some (rowD a) := rfl
  have S6 := v_6 (s0 := .ow box2) (s6 := .no) (s7 := .no) (s8 := .no) (sph_eq T (by omega)) (far_eq T (by omega)) (far_eq Lq (by omega)) (mean_eq T (by omega)) (mean_eq Lq (by omega)) ix (by decide) sm2 tu qa
  have H : ∀ j ∈ [0], ∃ Y, [Nw.f ((sphL a).map PyData.int), Nw.f ((sphL a).map PyData.int)][j]? = some (.f Y) ∧ Y.length + [0].length ≤ sizeLine := fun j hj => by
    rw [List.mem_singleton.mp hj]
    exact ⟨(sphL a).map .int, rfl, by rw [List.length_map, sph_len]; exact size_of (by simp; omega)⟩
  have S7 := heardT_ok (h := 6) (js := [0]) (m := some) S4 (by show 2 ≤ sizeLine; decide) (by show 6 < 9; decide) (by show 1 ≤ sizeLine; decide) S5 sm1 H rfl S6
  have st := seq_nx S1 (seq_nx S2 (seq_nx S3 S7))
  refine ⟨box2, ?_, g2.mono (by omega)⟩
  unfold F__law_right callB envB
  show (match g__law_right [.ow box, .no, .no, .no, .no, .no, .no, .no, .no] with
      | .rt d ρ => (box0 ρ).map (d, ·)
      | .nx ρ => (box0 ρ).map (.none, ·)
      | .rf ds ρ => (box0 ρ).map (.list ds, ·)
      | _ => none) = _
  have st2 : g__law_right [.ow box, .no, .no, .no, .no, .no, .no, .no, .no] = _ := st
  rw [st2]; rfl
end W
namespace W
open PySem L2 DL
local macro_rules | `(tactic| walk_at "ev") => `(tactic| simp only [eC, eV, oE, oV, eL, eT, aNil, aCons, eOp2, eOp1, eApp, tstE, eB, tNotG, tAndG, tOrG, eAndG, eOrG, eNotG, eIf, eSeq, eCall, eCallO, eCallB, eCallBF, eCallBX, sSeq, sNext, sRet, sRetF, sRetO, sRetN, sDrop, sIf, sSet, sSetO, sBreak, sCont, sBad, sPar, sPar3, fz, sFz, eCallW, idL, sApp, sPutIx, sAug, sFor, gN, gT, gsCons, gsNil, gYes, eLc, gSeq, nS, nF, Nw.sl, R.ok_bind, R.ok_map, R.lift_some, to_ok, toX_ok, toX_ex, bind_nx, bind_rt, bind_rf, bind_ex, bind_bk, bind_ct, at_ok, at_ex, res_val, map_ex, rbind_ex, Op.res, resA, valA, isOw, box0, Option.map_some, Option.bind_some, sHeardT, nlCons, nlNil, Nw.dat, mSet, eChain, eRg1, eRg2, eSl, pNo, pSo,
  List.getElem?_cons_zero, List.getElem?_cons_succ, List.set_cons_zero, List.set_cons_succ, List.length_cons, List.length_nil, if_true, if_false, Bool.false_eq_true, ite_true, ite_false, reduceIte,
  addU_int, subD_int, ltD_int, leD_int, gtD_int, geD_int, negD_int, absD_int, intD_bool, intD_int, lenD_list, lenD_tuple, lenD_scr, pow10_7, pow10_18, pow10_40, eqW_ints, neW_ints, eqW_strs, neW_strs, eqW_none, eqW_in, eqW_ni, ixD_list, ixD_tuple, ixD_scr, atI_3_0, atI_3_1, atI_3_2, ixN_3_0, ixN_3_1, ixN_3_2, wipeR, zip2D, skOf, isiD_n, isiD_b, isiD_i, isiD_s, isiD_l, isiD_t, isiTD_n, isiTD_b, isiTD_i, isiTD_s, isiTD_l, isiTD_t, isiAny, eCallX, eCallWX, xE, xIf, xL, xCb1, sSetX, sRetX, sDropX, sRaise, sTo, eMk, isX_n, sKeep, kt_ll, kt_lt, kt_ls, kt_li, kt_lb, kt_tl, kt_tt, kt_ts, kt_ti, kt_tb, kt_sl, kt_st, kt_ss, kt_si, kt_sb, kt_il, kt_it, kt_is, kt_ii, kt_ib, kt_bl, kt_bt, kt_bs, kt_bi, kt_bb, kt_nl, kt_nt, kt_ns, kt_ni, kt_nb, eqW_bools, neW_bools, isD_none, isNotD_none, isNoneD, isNone_e, List.map_cons, List.map_nil, List.replicate, List.append_nil, List.cons_append, List.nil_append, nc0, nc1, nc2, nc3, nc4, nc5, nc6, nc7, nc8, nc9, nc10, nc11, nc12, nc13, nc14, nc15, nc16, nc17, nc18, nc19, nc20, Nat.reduceAdd, Nat.reduceSub, ne_eq, decide_true, decide_false, not_true_eq_false, not_false_eq_true, reduceCtorEq, Bool.and_true, Bool.true_and, Bool.and_false, Bool.false_and, Bool.or_true, Bool.true_or, Bool.or_false, Bool.false_or, Bool.not_true, Bool.not_false])
local macro_rules | `(tactic| walk_at "evh") => `(tactic| simp only [eC, eV, oE, oV, eL, eT, aNil, aCons, eOp2, eOp1, eApp, tstE, eB, tNotG, tAndG, tOrG, eAndG, eOrG, eNotG, eIf, eSeq, eCall, eCallO, eCallB, eCallBF, eCallBX, sSeq, sNext, sRet, sRetF, sRetO, sRetN, sDrop, sIf, sSet, sSetO, sBreak, sCont, sBad, sPar, sPar3, fz, sFz, eCallW, idL, sApp, sPutIx, sAug, sFor, gN, gT, gsCons, gsNil, gYes, eLc, gSeq, nS, nF, Nw.sl, R.ok_bind, R.ok_map, R.lift_some, to_ok, toX_ok, toX_ex, bind_nx, bind_rt, bind_rf, bind_ex, bind_bk, bind_ct, at_ok, at_ex, res_val, map_ex, rbind_ex, Op.res, resA, valA, isOw, box0, Option.map_some, Option.bind_some, sHeardT, nlCons, nlNil, Nw.dat, mSet, eChain, eRg1, eRg2, eSl, pNo, pSo,
  List.getElem?_cons_zero, List.getElem?_cons_succ, List.set_cons_zero, List.set_cons_succ, List.length_cons, List.length_nil, if_true, if_false, Bool.false_eq_true, ite_true, ite_false, reduceIte,
  addU_int, subD_int, ltD_int, leD_int, gtD_int, geD_int, negD_int, absD_int, intD_bool, intD_int, lenD_list, lenD_tuple, lenD_scr, pow10_7, pow10_18, pow10_40, eqW_ints, neW_ints, eqW_strs, neW_strs, eqW_none, eqW_in, eqW_ni, ixD_list, ixD_tuple, ixD_scr, atI_3_0, atI_3_1, atI_3_2, ixN_3_0, ixN_3_1, ixN_3_2, wipeR, zip2D, skOf, isiD_n, isiD_b, isiD_i, isiD_s, isiD_l, isiD_t, isiTD_n, isiTD_b, isiTD_i, isiTD_s, isiTD_l, isiTD_t, isiAny, eCallX, eCallWX, xE, xIf, xL, xCb1, sSetX, sRetX, sDropX, sRaise, sTo, eMk, isX_n, sKeep, kt_ll, kt_lt, kt_ls, kt_li, kt_lb, kt_tl, kt_tt, kt_ts, kt_ti, kt_tb, kt_sl, kt_st, kt_ss, kt_si, kt_sb, kt_il, kt_it, kt_is, kt_ii, kt_ib, kt_bl, kt_bt, kt_bs, kt_bi, kt_bb, kt_nl, kt_nt, kt_ns, kt_ni, kt_nb, eqW_bools, neW_bools, isD_none, isNotD_none, isNoneD, isNone_e, List.map_cons, List.map_nil, List.replicate, List.append_nil, List.cons_append, List.nil_append, nc0, nc1, nc2, nc3, nc4, nc5, nc6, nc7, nc8, nc9, nc10, nc11, nc12, nc13, nc14, nc15, nc16, nc17, nc18, nc19, nc20, Nat.reduceAdd, Nat.reduceSub, ne_eq, decide_true, decide_false, not_true_eq_false, not_false_eq_true, reduceCtorEq, Bool.and_true, Bool.true_and, Bool.and_false, Bool.false_and, Bool.or_true, Bool.true_or, Bool.or_false, Bool.false_or, Bool.not_true, Bool.not_false, *])
theorem paired_c {c : D} : ∀ {ds ys : List D}, Paired (fun _ y => y = c) ds ys → ys = ds.map fun _ => c
  | _, _, .nil => rfl
  | _, _, .cons h r => by rw [List.map_cons, ← paired_c r, h]
theorem law_turns (m : Nat) {box : List D} {s0 s1 s2 : Sl} (hb : GoodBox 0 box) (hm : m ≤ 100) : ∃ box', lcL [4] (gN 4) gYes ce_law_1 (rangeD 0 m) [s0, s1, s2, .ow box, .no] = .ok ((rangeD 0 m).map fun _ => PyData.bool true) [s0, s1, s2, .ow box', .no] := by
  obtain ⟨ys, ρ', e, ⟨box', rfl, _⟩, hp⟩ := lc_inv (vs := [4]) (k := gN 4) (t := gYes) (e := ce_law_1) (ds := rangeD 0 m) (fun i ρ => ∃ box, ρ = [s0, s1, s2, .ow box, .no] ∧ GoodBox (100000 * i) box) (fun _ y => y = .bool true)
    (fun i d ρ hd h => by
      obtain ⟨rfl, hi⟩ := rangeD_at hd
      obtain ⟨box, rfl, g⟩ := h
      obtain ⟨box', e, g'⟩ := right_eq g (by omega)
      refine ⟨[s0, s1, s2, .ow box, .sh (.int (i : Int))], rfl, _, rfl, .bool true, [s0, s1, s2, .ow box', .sh (.int (i : Int))], ?_, rfl, box', rfl, g'.mono (by omega)⟩
      clear g g'
      unfold ce_law_1
      walk_at "evh")
    (ρ := [s0, s1, s2, .ow box, .no]) ⟨box, rfl, hb.mono (by omega)⟩
  exact ⟨box', by rw [e, paired_c hp]⟩
theorem turn_go {c : D} {k : Int} {box box' Rg : List D} {s0 s3 : Sl} (e1 : F__law_box [c, .int k] = some box) (rg : rng1 [.int 2] = some Rg) (hz : Rg.length ≤ sizeLine) (e2 : lcL [4] (gN 4) gYes ce_law_1 Rg [s0, .sh c, .sh (.int k), .ow box, .no] = .ok (Rg.map fun _ => PyData.bool true) [s0, .sh c, .sh (.int k), .ow box', .no]) (al : allD [.list (Rg.map fun _ => PyData.bool true)] = some (.bool true)) :
    gb_law_2 [s0, .sh c, .sh (.int k), s3, .no] = .nx [s0, .sh c, .sh (.int k), .ow box', .no] := by
  unfold gb_law_2
  refine seq_nx (ρ1 := [s0, .sh c, .sh (.int k), .ow box, .no]) ?_ ?_
  · clear e2 al rg hz
    walk_at "evh"
  · have lc := eLc_ok (vs := [4]) (gi := eCall rng1 (aCons (oE (eC (.int 2))) aNil)) (k := gN 4) (t := gYes) (e := ce_law_1) (ρ := [s0, .sh c, .sh (.int k), .ow box, .no]) (ρ1 := [s0, .sh c, .sh (.int k), .ow box, .no]) (by clear e2 al; walk_at "evh") hz e2
    generalize eLc [4] (eCall rng1 (aCons (oE (eC (.int 2))) aNil)) (gN 4) gYes ce_law_1 = g at lc
    generalize (Rg.map fun _ => PyData.bool true) = ys at *
    clear e2 rg hz e1
    walk_at "evh"
theorem law_go {r c : D} {Rg : List D} {j : Int} {ρ : Rho} (e1 : F__law_cells [r, .int 3] = some c) (hj : lenD [c] = some (.int j)) (rg : rng1 [.int j] = some Rg) (e2 : forL (gN 2) gb_law_2 Rg [.sh r, .sh c, .no, .no, .no] = .nx ρ) : F_law [r] = some (.bool true) := by
  unfold F_law callP g_law env0
  walk_at "evh"
theorem law_true (ns : List Int) (hl : ns.length ≤ 63) : F_law [.dict [(.list (ns.map .int), .none)]] = some (.bool true) := by
  obtain ⟨ms, e1, m1, m2⟩ := cells_eq (ns := ns) (m := 3) (by decide)
  have rT : rng1 [.int 2] = some (rangeD 0 2) := rng1_eq (by omega) (by omega)
  obtain ⟨ρ', e3, _⟩ := for_inv (k := gN 2) (b := gb_law_2) (ds := rangeD 0 ms.length)
    (fun i ρ => ∃ s2 s3, ρ = [.sh (.dict [(.list (ns.map .int), .none)]), .sh (.list (ms.map .int)), s2, s3, .no])
    (fun i d ρ hd h => by
      obtain ⟨rfl, hi⟩ := rangeD_at hd
      obtain ⟨s2, s3, rfl⟩ := h
      obtain ⟨box, eb, g⟩ := box_eq (ns := ms) (k := i) (by omega)
      obtain ⟨box', el⟩ := law_turns 2 (s0 := .sh (.dict [(.list (ns.map .int), .none)])) (s1 := .sh (.list (ms.map .int))) (s2 := .sh (.int (i : Int))) g (by omega)
      exact ⟨[.sh (.dict [(.list (ns.map .int), .none)]), .sh (.list (ms.map .int)), .sh (.int (i : Int)), s3, .no], rfl, _, .inl (turn_go eb rT (by rw [rangeD_len]; decide) el (all_true _)), _, _, rfl⟩)
    (ρ := [.sh (.dict [(.list (ns.map .int), .none)]), .sh (.list (ms.map .int)), .no, .no, .no]) ⟨.no, .no, rfl⟩
  exact law_go e1 (j := (ms.length : Int)) (by rw [lenD_list, List.length_map]) (rng1_eq (by omega) (by omega)) e3
end W
namespace W
open PySem L2 DL
def FF (K : PySem.W.Frag) (name : Str) (st : Stmt) : Prop := ∃ (f : Addr) (fd : FuncData), PySem.W.nsIn K mainGlobals name = some (some (.ref f)) ∧ Fun K name name st f fd
theorem ff_mk {K : PySem.W.Frag} {name : Str} {st : Stmt} {f : Addr} {oc : Value} {od an : Option Addr} {osl : Array (Option Value)} {kV doc pm cdv ct : Value} (a : PySem.W.nsIn K mainGlobals name = some (some (.ref f)))
    (l : K.lookup f = some ⟨oc, od, .func (PySem.W.fnOf name name (defArgs st) (defBody st) (defScope st) .none kV doc pm an cdv ct), osl⟩) (c : PySem.W.codeIn K cdv name = true) (k : PySem.W.keepIn K (.ref f) = true) : FF K name st := ⟨f, _, a, fun_mk l c k⟩
theorem kwB_of {K : PySem.W.Frag} {x qual : Str} {st : Stmt} {f : Addr} {fd : FuncData} {ps ks : List Str} {g : {α : Type} → List α → List α} (F : Fun K x qual st f fd) (rel : ∀ {A C : Type} {rel : A → C → Prop} {zs : List A} {ws : List C}, Paired rel zs ws → Paired rel (g zs) (g ws))
    (h : ∀ (kV doc pm : Value) (an : Option Addr) (cdv ct : Value) (ws : List Value), ws.length = ks.length → bindArgs (PySem.W.fnOf x qual (defArgs st) (defBody st) (defScope st) .none kV doc pm an cdv ct) ⟨[], ks.zip ws⟩ = pure (ps.zip (g ws))) : KwB K fd ps ks g := by
  obtain ⟨oc, od, kV, doc, pm, an, cdv, ct, osl, rfl, lk, hcd⟩ := F.ex
  exact ⟨fun s ws _ hl => .of_eq (h kV doc pm an cdv ct ws hl), rel⟩
theorem all_mk {l : PySem.W.OpenLaw} {w : World} {K : PySem.W.Frag} {h : Heap} {mg : Str → Option Value} {fa : Addr} (X : K.In h) (G : h.Ns mainGlobals mg) (hfa : mg "law" = some (.ref fa))
    (f__law_box : FF K "_law_box" s__law_box) (f__law_cells : FF K "_law_cells" s__law_cells) (f__law_mid : FF K "_law_mid" s__law_mid) (f__law_call : FF K "_law_call" s__law_call) (f__law_layers : FF K "_law_layers" s__law_layers) (f__law_take : FF K "_law_take" s__law_take) (f__law_of : FF K "_law_of" s__law_of) (f__law_random_line : FF K "_law_random_line" s__law_random_line) (f__law_ratio : FF K "_law_ratio" s__law_ratio) (f__law_same : FF K "_law_same" s__law_same) (f_add_up : FF K "add_up" s_add_up) (f_free_wish : FF K "free_wish" s_free_wish) (f_parted : FF K "parted" s_parted) (f_next_state : FF K "next_state" s_next_state) (f_inner : FF K "inner" s_inner) (f_dips : FF K "dips" s_dips) (f_tops : FF K "tops" s_tops) (f_options_of : FF K "options_of" s_options_of) (f_spheres : FF K "spheres" s_spheres) (f_farthest : FF K "farthest" s_farthest) (f_fraction : FF K "fraction" s_fraction) (f_mean_distance : FF K "mean_distance" s_mean_distance) (f__law_right : FF K "_law_right" s__law_right) (f_law : FF K "law" s_law)
    (z_len : PySem.W.nsIn K mainGlobals "len" = some none) (z_abs : PySem.W.nsIn K mainGlobals "abs" = some none) (z_int : PySem.W.nsIn K mainGlobals "int" = some none) (z_list : PySem.W.nsIn K mainGlobals "list" = some none) (z_enumerate : PySem.W.nsIn K mainGlobals "enumerate" = some none) (z_sorted : PySem.W.nsIn K mainGlobals "sorted" = some none) (z_range : PySem.W.nsIn K mainGlobals "range" = some none) (z_max : PySem.W.nsIn K mainGlobals "max" = some none) (z_tuple : PySem.W.nsIn K mainGlobals "tuple" = some none) (z_isinstance : PySem.W.nsIn K mainGlobals "isinstance" = some none) (z_zip : PySem.W.nsIn K mainGlobals "zip" = some none) (z_all : PySem.W.nsIn K mainGlobals "all" = some none) (z_bool : PySem.W.nsIn K mainGlobals "bool" = some none) (z_str : PySem.W.nsIn K mainGlobals "str" = some none) (z_set : PySem.W.nsIn K mainGlobals "set" = some none) (z_sum : PySem.W.nsIn K mainGlobals "sum" = some none) 
     :
    ∃ fd : FuncData, (∀ (s : Shared) (v : Value), BindsTo s fd ⟨[v], []⟩ [("_law_script", v)]) ∧ ∀ base : Heap, K.In base → base.Ns mainGlobals mg → FnOk l.prog w K mg base CX0 11 fa fd ["_law_script"] (spP K 1 F_law) := by
  obtain ⟨f__law_box, d__law_box, a__law_box, F__law_box⟩ := f__law_box
  obtain ⟨f__law_cells, d__law_cells, a__law_cells, F__law_cells⟩ := f__law_cells
  obtain ⟨f__law_mid, d__law_mid, a__law_mid, F__law_mid⟩ := f__law_mid
  obtain ⟨f__law_call, d__law_call, a__law_call, F__law_call⟩ := f__law_call
  obtain ⟨f__law_layers, d__law_layers, a__law_layers, F__law_layers⟩ := f__law_layers
  obtain ⟨f__law_take, d__law_take, a__law_take, F__law_take⟩ := f__law_take
  obtain ⟨f__law_of, d__law_of, a__law_of, F__law_of⟩ := f__law_of
  obtain ⟨f__law_random_line, d__law_random_line, a__law_random_line, F__law_random_line⟩ := f__law_random_line
  obtain ⟨f__law_ratio, d__law_ratio, a__law_ratio, F__law_ratio⟩ := f__law_ratio
  obtain ⟨f__law_same, d__law_same, a__law_same, F__law_same⟩ := f__law_same
  obtain ⟨f_add_up, d_add_up, a_add_up, F_add_up⟩ := f_add_up
  obtain ⟨f_free_wish, d_free_wish, a_free_wish, F_free_wish⟩ := f_free_wish
  obtain ⟨f_parted, d_parted, a_parted, F_parted⟩ := f_parted
  obtain ⟨f_next_state, d_next_state, a_next_state, F_next_state⟩ := f_next_state
  obtain ⟨f_inner, d_inner, a_inner, F_inner⟩ := f_inner
  obtain ⟨f_dips, d_dips, a_dips, F_dips⟩ := f_dips
  obtain ⟨f_tops, d_tops, a_tops, F_tops⟩ := f_tops
  obtain ⟨f_options_of, d_options_of, a_options_of, F_options_of⟩ := f_options_of
  obtain ⟨f_spheres, d_spheres, a_spheres, F_spheres⟩ := f_spheres
  obtain ⟨f_farthest, d_farthest, a_farthest, F_farthest⟩ := f_farthest
  obtain ⟨f_fraction, d_fraction, a_fraction, F_fraction⟩ := f_fraction
  obtain ⟨f_mean_distance, d_mean_distance, a_mean_distance, F_mean_distance⟩ := f_mean_distance
  obtain ⟨f__law_right, d__law_right, a__law_right, F__law_right⟩ := f__law_right
  obtain ⟨f_law, d_law, a_law, F_law⟩ := f_law
  have e := hfa.symm.trans (PySem.W.mg_of X G a_law)
  cases e
  let T : Tx K mg := {
    a__law_box := f__law_box, d__law_box := d__law_box, F__law_box := F__law_box, m__law_box := PySem.W.mg_of X G a__law_box, b__law_box := (F__law_box.binds fun _ _ _ _ _ _ us hl => match us, hl with | [_, _], _ => rfl),
    a__law_cells := f__law_cells, d__law_cells := d__law_cells, F__law_cells := F__law_cells, m__law_cells := PySem.W.mg_of X G a__law_cells, b__law_cells := (F__law_cells.binds fun _ _ _ _ _ _ us hl => match us, hl with | [_, _], _ => rfl),
    a__law_mid := f__law_mid, d__law_mid := d__law_mid, F__law_mid := F__law_mid, m__law_mid := PySem.W.mg_of X G a__law_mid, b__law_mid := (F__law_mid.binds fun _ _ _ _ _ _ us hl => match us, hl with | [_, _], _ => rfl),
    a__law_call := f__law_call, d__law_call := d__law_call, F__law_call := F__law_call, m__law_call := PySem.W.mg_of X G a__law_call, b__law_call := (F__law_call.binds fun _ _ _ _ _ _ us hl => match us, hl with | [_, _], _ => rfl),
    a__law_layers := f__law_layers, d__law_layers := d__law_layers, F__law_layers := F__law_layers, m__law_layers := PySem.W.mg_of X G a__law_layers, b__law_layers := (F__law_layers.binds fun _ _ _ _ _ _ us hl => match us, hl with | [_], _ => rfl),
    a__law_take := f__law_take, d__law_take := d__law_take, F__law_take := F__law_take, m__law_take := PySem.W.mg_of X G a__law_take, b__law_take := (F__law_take.binds fun _ _ _ _ _ _ us hl => match us, hl with | [_, _], _ => rfl),
    a__law_of := f__law_of, d__law_of := d__law_of, F__law_of := F__law_of, m__law_of := PySem.W.mg_of X G a__law_of, b__law_of := (F__law_of.binds fun _ _ _ _ _ _ us hl => match us, hl with | [_, _], _ => rfl),
    a__law_random_line := f__law_random_line, d__law_random_line := d__law_random_line, F__law_random_line := F__law_random_line, m__law_random_line := PySem.W.mg_of X G a__law_random_line, b__law_random_line := (F__law_random_line.binds fun _ _ _ _ _ _ us hl => match us, hl with | [_, _, _], _ => rfl),
    a__law_ratio := f__law_ratio, d__law_ratio := d__law_ratio, F__law_ratio := F__law_ratio, m__law_ratio := PySem.W.mg_of X G a__law_ratio, b__law_ratio := (F__law_ratio.binds fun _ _ _ _ _ _ us hl => match us, hl with | [_, _], _ => rfl),
    a__law_same := f__law_same, d__law_same := d__law_same, F__law_same := F__law_same, m__law_same := PySem.W.mg_of X G a__law_same, b__law_same := (F__law_same.binds fun _ _ _ _ _ _ us hl => match us, hl with | [_, _], _ => rfl),
    a_add_up := f_add_up, d_add_up := d_add_up, F_add_up := F_add_up, m_add_up := PySem.W.mg_of X G a_add_up, b_add_up := (F_add_up.binds fun _ _ _ _ _ _ us hl => match us, hl with | [_, _, _], _ => rfl),
    a_free_wish := f_free_wish, d_free_wish := d_free_wish, F_free_wish := F_free_wish, m_free_wish := PySem.W.mg_of X G a_free_wish, b_free_wish := (F_free_wish.binds fun _ _ _ _ _ _ us hl => match us, hl with | [_], _ => rfl),
    a_parted := f_parted, d_parted := d_parted, F_parted := F_parted, m_parted := PySem.W.mg_of X G a_parted, b_parted := (F_parted.binds fun _ _ _ _ _ _ us hl => match us, hl with | [_, _, _, _, _], _ => rfl),
    a_next_state := f_next_state, d_next_state := d_next_state, F_next_state := F_next_state, m_next_state := PySem.W.mg_of X G a_next_state, b_next_state := (F_next_state.binds fun _ _ _ _ _ _ us hl => match us, hl with | [_, _, _, _, _], _ => rfl),
    a_inner := f_inner, d_inner := d_inner, F_inner := F_inner, m_inner := PySem.W.mg_of X G a_inner, b_inner := (F_inner.binds fun _ _ _ _ _ _ us hl => match us, hl with | [_], _ => rfl),
    a_dips := f_dips, d_dips := d_dips, F_dips := F_dips, m_dips := PySem.W.mg_of X G a_dips, b_dips := (F_dips.binds fun _ _ _ _ _ _ us hl => match us, hl with | [_], _ => rfl),
    a_tops := f_tops, d_tops := d_tops, F_tops := F_tops, m_tops := PySem.W.mg_of X G a_tops, b_tops := (F_tops.binds fun _ _ _ _ _ _ us hl => match us, hl with | [_], _ => rfl),
    a_options_of := f_options_of, d_options_of := d_options_of, F_options_of := F_options_of, m_options_of := PySem.W.mg_of X G a_options_of, b_options_of := (F_options_of.binds fun _ _ _ _ _ _ us hl => match us, hl with | [_, _], _ => rfl),
    a_spheres := f_spheres, d_spheres := d_spheres, F_spheres := F_spheres, m_spheres := PySem.W.mg_of X G a_spheres, b_spheres := (F_spheres.binds fun _ _ _ _ _ _ us hl => match us, hl with | [_], _ => rfl),
    a_farthest := f_farthest, d_farthest := d_farthest, F_farthest := F_farthest, m_farthest := PySem.W.mg_of X G a_farthest, b_farthest := (F_farthest.binds fun _ _ _ _ _ _ us hl => match us, hl with | [_], _ => rfl),
    a_fraction := f_fraction, d_fraction := d_fraction, F_fraction := F_fraction, m_fraction := PySem.W.mg_of X G a_fraction, b_fraction := (F_fraction.binds fun _ _ _ _ _ _ us hl => match us, hl with | [_, _], _ => rfl),
    a_mean_distance := f_mean_distance, d_mean_distance := d_mean_distance, F_mean_distance := F_mean_distance, m_mean_distance := PySem.W.mg_of X G a_mean_distance, b_mean_distance := (F_mean_distance.binds fun _ _ _ _ _ _ us hl => match us, hl with | [_], _ => rfl),
    a__law_right := f__law_right, d__law_right := d__law_right, F__law_right := F__law_right, m__law_right := PySem.W.mg_of X G a__law_right, b__law_right := (F__law_right.binds fun _ _ _ _ _ _ us hl => match us, hl with | [_], _ => rfl),
    a_law := fa, d_law := d_law, F_law := F_law, m_law := PySem.W.mg_of X G a_law, b_law := (F_law.binds fun _ _ _ _ _ _ us hl => match us, hl with | [_], _ => rfl),
    k_spheres_row := (kwB_of F_spheres kw_idL fun _ _ _ _ _ _ ws hl => match ws, hl with | [_], _ => rfl),
    k_mean_distance_row := (kwB_of F_mean_distance kw_idL fun _ _ _ _ _ _ ws hl => match ws, hl with | [_], _ => rfl),
    k_farthest_row := (kwB_of F_farthest kw_idL fun _ _ _ _ _ _ ws hl => match ws, hl with | [_], _ => rfl),
    n_len := PySem.W.mg_none_of X G z_len,
    n_abs := PySem.W.mg_none_of X G z_abs,
    n_int := PySem.W.mg_none_of X G z_int,
    n_list := PySem.W.mg_none_of X G z_list,
    n_enumerate := PySem.W.mg_none_of X G z_enumerate,
    n_sorted := PySem.W.mg_none_of X G z_sorted,
    n_range := PySem.W.mg_none_of X G z_range,
    n_max := PySem.W.mg_none_of X G z_max,
    n_tuple := PySem.W.mg_none_of X G z_tuple,
    n_isinstance := PySem.W.mg_none_of X G z_isinstance,
    n_zip := PySem.W.mg_none_of X G z_zip,
    n_all := PySem.W.mg_none_of X G z_all,
    n_bool := PySem.W.mg_none_of X G z_bool,
    n_str := PySem.W.mg_none_of X G z_str,
    n_set := PySem.W.mg_none_of X G z_set,
    n_sum := PySem.W.mg_none_of X G z_sum }
  obtain ⟨oc, od, kV, doc, pm, an, cdv, ct, osl, ed, lk, hcd⟩ := F_law.ex
  refine ⟨d_law, fun s v => ?_, fun base _ _ => ok_law T⟩
  subst ed
  exact .of_eq rfl
end W
open PySem PySem.W PyProof.Rows
set_option maxHeartbeats 0 in
theorem PySem.Challenge.cw_middlecall_k11_spheres_holds : PySem.Challenge.rw_middlecall_k11_spheres.Holds := by
  w_on; o_law; k_head; (case hw => w_witness2)
  k_fill
  refine L2.walk_of (l := PySem.Challenge.rw_middlecall_k11_spheres) (n := 63) (k := 11) (x := "_law_script") (CX := fun _ => L2.CX0) (sp := fun w => DL.spP _ 1 W.F_law) rfl (by decide) rfl ⟨rfl, by decide, by decide⟩ (fun w h Y => PySem.W.kIn_of Y) ?F (fun _ H a ns hl _ hS => ⟨rfl, H, _, _, L2.Same.refl H, DL.RpA.cons (DL.Rp.scr hS (DL.RpA.ints ns)) DL.RpA.nil, W.law_true ns hl, fun v H1 Z1 _ _ r => by cases r; rfl⟩) (fun _ _ _ _ _ h => h)
  case F =>
    intro w mg fa h KX G hmg
    refine' W.all_mk KX G hmg (W.ff_mk ?a0 ?l0 ?c0 ?k0) (W.ff_mk ?a1 ?l1 ?c1 ?k1) (W.ff_mk ?a2 ?l2 ?c2 ?k2) (W.ff_mk ?a3 ?l3 ?c3 ?k3) (W.ff_mk ?a4 ?l4 ?c4 ?k4) (W.ff_mk ?a5 ?l5 ?c5 ?k5) (W.ff_mk ?a6 ?l6 ?c6 ?k6) (W.ff_mk ?a7 ?l7 ?c7 ?k7) (W.ff_mk ?a8 ?l8 ?c8 ?k8) (W.ff_mk ?a9 ?l9 ?c9 ?k9) (W.ff_mk ?a10 ?l10 ?c10 ?k10) (W.ff_mk ?a11 ?l11 ?c11 ?k11) (W.ff_mk ?a12 ?l12 ?c12 ?k12) (W.ff_mk ?a13 ?l13 ?c13 ?k13) (W.ff_mk ?a14 ?l14 ?c14 ?k14) (W.ff_mk ?a15 ?l15 ?c15 ?k15) (W.ff_mk ?a16 ?l16 ?c16 ?k16) (W.ff_mk ?a17 ?l17 ?c17 ?k17) (W.ff_mk ?a18 ?l18 ?c18 ?k18) (W.ff_mk ?a19 ?l19 ?c19 ?k19) (W.ff_mk ?a20 ?l20 ?c20 ?k20) (W.ff_mk ?a21 ?l21 ?c21 ?k21) (W.ff_mk ?a22 ?l22 ?c22 ?k22) (W.ff_mk ?a23 ?l23 ?c23 ?k23) ?z0 ?z1 ?z2 ?z3 ?z4 ?z5 ?z6 ?z7 ?z8 ?z9 ?z10 ?z11 ?z12 ?z13 ?z14 ?z15  
    (case a0 => k_is); (case l0 => k_is); (case c0 => k_is); (case k0 => k_is); (case a1 => k_is); (case l1 => k_is); (case c1 => k_is); (case k1 => k_is); (case a2 => k_is); (case l2 => k_is); (case c2 => k_is); (case k2 => k_is); (case a3 => k_is); (case l3 => k_is); (case c3 => k_is); (case k3 => k_is); (case a4 => k_is); (case l4 => k_is); (case c4 => k_is); (case k4 => k_is); (case a5 => k_is); (case l5 => k_is); (case c5 => k_is); (case k5 => k_is); (case a6 => k_is); (case l6 => k_is); (case c6 => k_is); (case k6 => k_is); (case a7 => k_is); (case l7 => k_is); (case c7 => k_is); (case k7 => k_is); (case a8 => k_is); (case l8 => k_is); (case c8 => k_is); (case k8 => k_is); (case a9 => k_is); (case l9 => k_is); (case c9 => k_is); (case k9 => k_is); (case a10 => k_is); (case l10 => k_is); (case c10 => k_is); (case k10 => k_is); (case a11 => k_is); (case l11 => k_is); (case c11 => k_is); (case k11 => k_is); (case a12 => k_is); (case l12 => k_is); (case c12 => k_is); (case k12 => k_is); (case a13 => k_is); (case l13 => k_is); (case c13 => k_is); (case k13 => k_is); (case a14 => k_is); (case l14 => k_is); (case c14 => k_is); (case k14 => k_is); (case a15 => k_is); (case l15 => k_is); (case c15 => k_is); (case k15 => k_is); (case a16 => k_is); (case l16 => k_is); (case c16 => k_is); (case k16 => k_is); (case a17 => k_is); (case l17 => k_is); (case c17 => k_is); (case k17 => k_is); (case a18 => k_is); (case l18 => k_is); (case c18 => k_is); (case k18 => k_is); (case a19 => k_is); (case l19 => k_is); (case c19 => k_is); (case k19 => k_is); (case a20 => k_is); (case l20 => k_is); (case c20 => k_is); (case k20 => k_is); (case a21 => k_is); (case l21 => k_is); (case c21 => k_is); (case k21 => k_is); (case a22 => k_is); (case l22 => k_is); (case c22 => k_is); (case k22 => k_is); (case a23 => k_is); (case l23 => k_is); (case c23 => k_is); (case k23 => k_is)
    (case z0 => k_is); (case z1 => k_is); (case z2 => k_is); (case z3 => k_is); (case z4 => k_is); (case z5 => k_is); (case z6 => k_is); (case z7 => k_is); (case z8 => k_is); (case z9 => k_is); (case z10 => k_is); (case z11 => k_is); (case z12 => k_is); (case z13 => k_is); (case z14 => k_is); (case z15 => k_is)
