import PyProof.Rows.All
import Wide.All
import OpenK.AllK
import Wide.FinOn
import HandS.ForMost
import HandS.Walk
import HandS.Zip
import HandS.Exc
import HandS.ExcInit
import KE.KDictKeyed
import KE.KDictCopyH
import HandS.TupAny
import HandS.TupMul
import HandS.Wide
import HandS.IsInst
import HandS.Style
import HandS.SortInts
import HandS.Conv
import KE.GoesNew
import HandS.Defaults
import HandS.ExcOwn
import HandS.ExcIs
import HandS.ExcField
import HandS.WordsExc
import KE.KExcInit
import KE.KExcIs
import KE.KTryMore
import HandS.ExcValue
import HandS.CallSlots
import HandS.RaiseMore
import KE.KDictZip
import KE.KRevSl
import PyProof.StrLawsRepr
import HandS.SetFor
import HandS.Strs
import HandS.TryOnly
import HandS.Dict
import KE.KDictDisplayH
import KE.KDictList
import KE.SortData
import KE.KDictSum
import HandS.SortOrd
import HandS.Iter
import KE.DataMinMax
import KE.DataCmp
import KE.KDictWalk
import KE.KTupSum
import HandS.TupSets
import HandS.Deep
import HandS.Flow
import HandS.Text
import HandS.Steps
import PyProof.ListStr
import PyProof.StrOps2
import KE.IntTextLaws
import PyProof.Rows.StrSplitAre
import PyProof.Rows.StrItems
import PySem.Challenge.RW_middlecall_k64_texts_and_back
set_option Elab.async false
set_option linter.all false
set_option maxRecDepth 100000
set_option maxHeartbeats 4000000
namespace DL
open PySem L2
abbrev D := PyData
/-- at a: an exception of the class at C with its dict at d -/
def exk (a C d : Addr) : HO := .ext fun h => ∃ (oe : Obj) (vs : Array Value), h.get? a = some oe ∧ Zc (.ref C) (some d) oe ∧ oe.data = .fields vs
/-- the class that a module's name holds -/
def Cls (K : PySem.W.Frag) (c : Str) (C : Addr) : Prop := PySem.W.nsIn K mainGlobals c = some (some (.ref C))
/-- the one field of each error class -/
def fldT : List (Str × Str) := [("NoPerson", "person"), ("NoPlace", "place"), ("NoNumber", "number"), ("NoDeed", "many"), ("OtherPeople", "many"), ("NotWay", "calls"), ("BadDeed", "at"), ("BadText", "text"), ("BadLine", "at"), ("Barred", "reason"), ("TooMany", "many"), ("Full", "many")]
def fld (c : Str) : Str := (fldT.lookup c).getD ""
/-- an exception as data: its class, its field -/
abbrev excD (c : Str) (d : D) : D := .dict [(.none, .str c), (.none, d)]
inductive KK where
  | lf (l : Leaf)
  | tp (ls : List Leaf)
  deriving DecidableEq
def lfD : D → Option Leaf
  | .none => some .none
  | .int i => some (.num i)
  | .bool b => some (.num (if b then 1 else 0))
  | _ => none
def lfDs : List D → Option (List Leaf)
  | [] => some []
  | d :: ds => match lfD d, lfDs ds with
    | some l, some ls => some (l :: ls)
    | _, _ => none
/-- the key that data is -/
def kkD : D → Option KK
  | .tuple ds => (lfDs ds).map .tp
  | .none => some (.lf .none)
  | .int i => some (.lf (.num i))
  | _ => none
def hL : Leaf → Int
  | .none => reduceHash 0xFCA86420
  | .num i => hashInt i
  | .text _ => 0
def hK : KK → Int
  | .lf l => hL l
  | .tp ls => reduceHash (Builtin.Tuple.tupleHashOf (ls.map hL))
def ER (x : KK × V × V) (e : DictEntry) : Prop := e.hash = hK x.1 ∧ RelV x.2.1 e.key ∧ RelV x.2.2 e.val
/-- all keys of one sort, no key twice -/
def KGood (ks : List KK) : Prop := ks.Nodup ∧ ((∀ k ∈ ks, ∃ l, k = .lf l) ∨ ∀ k ∈ ks, ∃ ls, k = .tp ls)
/-- at a: a dict with these keys (as keys, as values) and values -/
def dcO (a : Addr) (kvs : List (KK × V × V)) (dt : Array DictEntry × Nat) : HO := .ext fun h => (∃ o, h.get? a = some o ∧ o.ExactDict ∧ o.data = .dict dt.1 dt.2 ∧ Paired ER kvs dt.1.toList) ∧ (a == sysModules) = false ∧ kvs.length ≤ sizeLine ∧ KGood (kvs.map (·.1))
/-- .. whatever its entries are -/
abbrev IsDc (H : Hp) (a : Addr) (kvs : List (KK × V × V)) : Prop := ∃ dt, H a = some (dcO a kvs dt)
/-- a dict as data -/
abbrev dcD (kds : List (D × D)) : D := .dict ((.dict [], .none) :: kds)
mutual
/-- v stands for the data, by what the (frozen) heap Z tells -/
inductive Rp (K : PySem.W.Frag) (Z : Hp) : V → D → Prop
  | non : Rp K Z .non .none
  | bl (b : Bool) : Rp K Z (.bl b) (.bool b)
  | int (i : Int) : Rp K Z (.int i) (.int i)
  | str (x : Str) : Rp K Z (.str x) (.str x)
  | lst {a : Addr} {xs : List V} {ds : List D} : Z a = some (.lst xs) → RpA K Z xs ds → Rp K Z (.ref a) (.list ds)
  | scr {a : Addr} {xs : List V} {ds : List D} : SqL K Z a xs → RpA K Z xs ds → Rp K Z (.ref a) (.dict [(.list ds, .none)])
  | tup {a : Addr} {xs : List V} {ds : List D} : SqT K Z a xs → RpA K Z xs ds → Rp K Z (.ref a) (.tuple ds)
  | exc {a C dx : Addr} {c : Str} {v : V} {d : D} : Z a = some (exk a C dx) → Z dx = some (.xd [(fld c, v)]) → Cls K c C → Rp K Z v d → Rp K Z (.ref a) (.dict [(.none, .str c), (.none, d)])
  | dct {a : Addr} {kvs : List (KK × V × V)} {dt : Array DictEntry × Nat} {kds : List (D × D)} : Z a = some (dcO a kvs dt) → RpK K Z kvs kds → Rp K Z (.ref a) (.dict ((.dict [], .none) :: kds))
inductive RpA (K : PySem.W.Frag) (Z : Hp) : List V → List D → Prop
  | nil : RpA K Z [] []
  | cons {v : V} {vs : List V} {d : D} {ds : List D} : Rp K Z v d → RpA K Z vs ds → RpA K Z (v :: vs) (d :: ds)
inductive RpK (K : PySem.W.Frag) (Z : Hp) : List (KK × V × V) → List (D × D) → Prop
  | nil : RpK K Z [] []
  | cons {k : KK} {x v : V} {c d : D} {kvs : List (KK × V × V)} {kds : List (D × D)} : kkD c = some k → Rp K Z x c → Rp K Z v d → RpK K Z kvs kds → RpK K Z ((k, x, v) :: kvs) ((c, d) :: kds)
end
section
variable {K : PySem.W.Frag} {Z Z' H H' : Hp}
theorem same_rd {a : Addr} {u : HO} (e : Same Z Z') (h : Rd Z a u) : Rd Z' a u := by
  rcases h with h | ⟨o, h⟩
  · exact .inl (e _ _ h)
  · exact .inr ⟨o, e _ _ h⟩
theorem same_t {a : Addr} {xs : List V} (e : Same Z Z') (h : SqT K Z a xs) : SqT K Z' a xs := by
  rcases h with h | h
  · exact .inl (same_rd e h)
  · exact .inr h
theorem same_l {a : Addr} {xs : List V} (e : Same Z Z') (h : SqL K Z a xs) : SqL K Z' a xs := e.seq h
mutual
theorem Rp.mono (e : Same Z Z') : ∀ {v : V} {d : D}, Rp K Z v d → Rp K Z' v d
  | _, _, .non => .non
  | _, _, .bl b => .bl b
  | _, _, .int i => .int i
  | _, _, .str x => .str x
  | _, _, .lst h r => .lst (e _ _ h) (RpA.mono e r)
  | _, _, .scr h r => .scr (same_l e h) (RpA.mono e r)
  | _, _, .tup h r => .tup (same_t e h) (RpA.mono e r)
  | _, _, .exc h1 h2 h3 r => .exc (e _ _ h1) (e _ _ h2) h3 (Rp.mono e r)
  | _, _, .dct h r => .dct (e _ _ h) (RpK.mono e r)
theorem RpA.mono (e : Same Z Z') : ∀ {vs : List V} {ds : List D}, RpA K Z vs ds → RpA K Z' vs ds
  | _, _, .nil => .nil
  | _, _, .cons h r => .cons (Rp.mono e h) (RpA.mono e r)
theorem RpK.mono (e : Same Z Z') : ∀ {vs : List (KK × V × V)} {ds : List (D × D)}, RpK K Z vs ds → RpK K Z' vs ds
  | _, _, .nil => .nil
  | _, _, .cons hk h h2 r => .cons hk (Rp.mono e h) (Rp.mono e h2) (RpK.mono e r)
end
mutual
def noD : D → Bool
  | .none => true
  | .bool _ => true
  | .int _ => true
  | .str _ => true
  | .list xs => noDs xs
  | .tuple xs => noDs xs
  | .dict _ => false
def noDs : List D → Bool
  | [] => true
  | x :: xs => noD x && noDs xs
end
mutual
theorem Rp.dp : ∀ {v : V} {d : D}, Rp K Z v d → noD d = true → Dp K Z v d
  | _, _, .non, _ => .non
  | _, _, .bl b, _ => .bl b
  | _, _, .int i, _ => .int i
  | _, _, .str x, _ => .str x
  | _, _, .lst h r, n => .lst (.inl (.inl h)) (RpA.dp r (by unfold noD at n; exact n))
  | _, _, .tup h r, n => .tup h (RpA.dp r (by unfold noD at n; exact n))
  | _, _, .scr h r, n => by unfold noD at n; cases n
  | _, _, .exc h1 h2 h3 r, n => by unfold noD at n; cases n
  | _, _, .dct h r, n => by unfold noD at n; cases n
theorem RpA.dp : ∀ {vs : List V} {ds : List D}, RpA K Z vs ds → noDs ds = true → DpAll K Z vs ds
  | _, _, .nil, _ => .nil
  | _, _, .cons h r, n => by
    unfold noDs at n
    rw [Bool.and_eq_true] at n
    exact .cons (Rp.dp h n.1) (RpA.dp r n.2)
end
theorem RpA.length : ∀ {vs : List V} {ds : List D}, RpA K Z vs ds → vs.length = ds.length
  | _, _, .nil => rfl
  | _, _, .cons _ r => by rw [List.length_cons, List.length_cons, RpA.length r]
theorem RpA.get : ∀ {vs : List V} {ds : List D} {i : Nat} {d : D}, RpA K Z vs ds → ds[i]? = some d → ∃ v, vs[i]? = some v ∧ Rp K Z v d
  | _, _, _, _, .nil, h => by simp at h
  | _, _, 0, _, .cons (v := v) q _, h => ⟨v, rfl, by simp at h; subst h; exact q⟩
  | _, _, i + 1, _, .cons _ r, h => by
    obtain ⟨v, e, q⟩ := RpA.get (i := i) r (by simpa using h)
    exact ⟨v, by simpa using e, q⟩
theorem RpA.getV : ∀ {vs : List V} {ds : List D} {i : Nat} {v : V}, RpA K Z vs ds → vs[i]? = some v → ∃ d, ds[i]? = some d ∧ Rp K Z v d
  | _, _, _, _, .nil, h => by simp at h
  | _, _, 0, _, .cons (d := d) q _, h => ⟨d, rfl, by simp at h; subst h; exact q⟩
  | _, _, i + 1, _, .cons _ r, h => by
    obtain ⟨v, e, q⟩ := RpA.getV (i := i) r (by simpa using h)
    exact ⟨v, by simpa using e, q⟩
theorem RpA.append : ∀ {vs us : List V} {ds es : List D}, RpA K Z vs ds → RpA K Z us es → RpA K Z (vs ++ us) (ds ++ es)
  | _, _, _, _, .nil, s => s
  | _, _, _, _, .cons h r, s => .cons h (RpA.append r s)
theorem RpA.one {v : V} {d : D} (h : Rp K Z v d) : RpA K Z [v] [d] := .cons h .nil
theorem RpA.take : ∀ {vs : List V} {ds : List D} (n : Nat), RpA K Z vs ds → RpA K Z (vs.take n) (ds.take n)
  | _, _, 0, _ => .nil
  | _, _, _ + 1, .nil => .nil
  | _, _, n + 1, .cons h r => .cons h (RpA.take n r)
theorem RpA.drop : ∀ {vs : List V} {ds : List D} (n : Nat), RpA K Z vs ds → RpA K Z (vs.drop n) (ds.drop n)
  | _, _, 0, r => r
  | _, _, _ + 1, .nil => .nil
  | _, _, n + 1, .cons _ r => RpA.drop n r
theorem RpA.set {v : V} {d : D} (q : Rp K Z v d) : ∀ {vs : List V} {ds : List D} (n : Nat), RpA K Z vs ds → RpA K Z (vs.set n v) (ds.set n d)
  | _, _, _, .nil => .nil
  | _, _, 0, .cons _ r => .cons q r
  | _, _, n + 1, .cons h r => .cons h (RpA.set q n r)
theorem RpA.ints : ∀ (ns : List Int), RpA K Z (ns.map V.int) (ns.map PyData.int)
  | [] => .nil
  | n :: r => .cons (.int n) (RpA.ints r)
theorem RpA.of_bools : ∀ {vs : List V} {ns : List Bool}, RpA K Z vs (ns.map PyData.bool) → vs = ns.map V.bl
  | _, [], .nil => rfl
  | _, n :: r, .cons h t => by
    cases h
    rw [List.map_cons, RpA.of_bools t]
end
/-- a slot: nothing known, shared data, a list of one's own, a dict of one's own -/
inductive Sl where
  | no
  | sh (d : D)
  | ow (ds : List D)
  | od (kds : List (D × D))
def Sl.isO : Sl → Bool
  | .ow _ => true
  | .od _ => true
  | _ => false
abbrev Rho := List Sl
/-- what an owned slot says of its object -/
def OwR (K : PySem.W.Frag) (Z : Hp) (p : Addr) (o : HO) : Sl → Prop
  | .ow ds => ∃ vs, o = .lst vs ∧ RpA K Z vs ds
  | .od kds => ∃ kvs dt, o = dcO p kvs dt ∧ RpK K Z kvs kds
  | _ => False
theorem OwR.mono {K : PySem.W.Frag} {Z Z' : Hp} {p : Addr} {o : HO} {s : Sl} (e : Same Z Z') (h : OwR K Z p o s) : OwR K Z' p o s := by
  cases s with
  | no => exact h
  | sh d => exact h
  | ow ds => obtain ⟨vs, h1, h2⟩ := h; exact ⟨vs, h1, h2.mono e⟩
  | od kds => obtain ⟨vs, dt, h1, h2⟩ := h; exact ⟨vs, dt, h1, h2.mono e⟩
/-- B: what stood at the entry (and stays); Z0: what was frozen there; Z: what is frozen now -/
structure Ok (K : PySem.W.Frag) (b0 : Option Addr) (B Z0 Z H : Hp) (σ : L2.St) (ρ : Rho) : Prop where
  len : σ.length = ρ.length
  bh : Same B H
  zh : Same Z H
  zz : Same Z0 Z
  nb : ∀ p o, Z p = some o → Z0 p = some o ∨ B p = none
  sh : ∀ (i : Nat) (d : D), ρ[i]? = some (.sh d) → ∃ v, σ[i]? = some (some v) ∧ Rp K Z v d
  own : ∀ (i : Nat) (s : Sl), ρ[i]? = some s → s.isO = true → ∃ p o, σ[i]? = some (some (.ref p)) ∧ Z p = none ∧ B p = none ∧ H p = some o ∧ OwR K Z p o s
  fix : ∀ a, b0 = some a → ∀ ds, ρ[0]? = some (.ow ds) → σ[0]? = some (some (.ref a))
  sepS : ∀ (i j : Nat) (p : Addr) (s t : Sl), ρ[i]? = some s → ρ[j]? = some t → s.isO = true → t.isO = true → σ[i]? = some (some (.ref p)) → σ[j]? = some (some (.ref p)) → i = j
/-- p is none of the owned things -/
def Apart (σ : L2.St) (ρ : Rho) (p : Addr) : Prop := ∀ (i : Nat) (s : Sl), ρ[i]? = some s → s.isO = true → σ[i]? ≠ some (some (.ref p))
section
variable {K : PySem.W.Frag} {b0 : Option Addr} {B Z0 Z H : Hp} {σ : L2.St} {ρ : Rho} {p : Addr} {o : HO}
theorem Ok.ow (h : Ok K b0 B Z0 Z H σ ρ) : ∀ (i : Nat) (ds : List D), ρ[i]? = some (.ow ds) → ∃ p vs, σ[i]? = some (some (.ref p)) ∧ Z p = none ∧ B p = none ∧ H p = some (.lst vs) ∧ RpA K Z vs ds := fun i ds e => by
  obtain ⟨p, o, h1, h2, h3, h4, vs, rfl, h5⟩ := h.own i _ e rfl
  exact ⟨p, vs, h1, h2, h3, h4, h5⟩
theorem Ok.od (h : Ok K b0 B Z0 Z H σ ρ) : ∀ (i : Nat) (ds : List (D × D)), ρ[i]? = some (.od ds) → ∃ p vs, σ[i]? = some (some (.ref p)) ∧ Z p = none ∧ B p = none ∧ IsDc H p vs ∧ RpK K Z vs ds := fun i ds e => by
  obtain ⟨p, o, h1, h2, h3, h4, vs, dt, rfl, h5⟩ := h.own i _ e rfl
  exact ⟨p, vs, h1, h2, h3, ⟨dt, h4⟩, h5⟩
/-- a new object, frozen at once -/
theorem Ok.new (h : Ok K b0 B Z0 Z H σ ρ) (hp : H p = none) : Ok K b0 B Z0 (upd Z p o) (upd H p o) σ ρ ∧ Same Z (upd Z p o) := by
  have zp : Z p = none := h.zh.free hp
  have bp : B p = none := h.bh.free hp
  have sz : Same Z (upd Z p o) := fun b x e => by rw [upd_ne (ne_of_none e zp)]; exact e
  refine ⟨⟨h.len, fun b x e => ?_, fun b x e => ?_, h.zz.trans sz, fun b x e => ?_, fun i d e => ?_, fun i s e eo => ?_, h.fix, h.sepS⟩, sz⟩
  · rw [upd_ne (ne_of_none e bp)]; exact h.bh b x e
  · by_cases hb : b = p
    · subst hb; rw [upd_same] at e ⊢; exact e
    · rw [upd_ne hb] at e ⊢; exact h.zh b x e
  · by_cases hb : b = p
    · subst hb; exact .inr bp
    · rw [upd_ne hb] at e; exact h.nb b x e
  · obtain ⟨v, e1, e2⟩ := h.sh i d e
    exact ⟨v, e1, e2.mono sz⟩
  · obtain ⟨q, x, e1, e2, e3, e4, e5⟩ := h.own i s e eo
    have nq : q ≠ p := ne_of_none e4 hp
    exact ⟨q, x, e1, by rw [upd_ne nq]; exact e2, e3, by rw [upd_ne nq]; exact e4, e5.mono sz⟩
/-- a new object, not frozen -/
theorem Ok.fresh (h : Ok K b0 B Z0 Z H σ ρ) (hp : H p = none) : Ok K b0 B Z0 Z (upd H p o) σ ρ ∧ Z p = none ∧ B p = none ∧ Apart σ ρ p := by
  have zp : Z p = none := h.zh.free hp
  have bp : B p = none := h.bh.free hp
  refine ⟨⟨h.len, fun b x e => ?_, fun b x e => ?_, h.zz, h.nb, h.sh, fun i s e eo => ?_, h.fix, h.sepS⟩, zp, bp, fun i s e eo q => ?_⟩
  · rw [upd_ne (ne_of_none e bp)]; exact h.bh b x e
  · rw [upd_ne (ne_of_none e zp)]; exact h.zh b x e
  · obtain ⟨q, x, e1, e2, e3, e4, e5⟩ := h.own i s e eo
    have nq : q ≠ p := ne_of_none e4 hp
    exact ⟨q, x, e1, e2, e3, by rw [upd_ne nq]; exact e4, e5⟩
  · obtain ⟨q', x, e1, e2, e3, e4, e5⟩ := h.own i s e eo
    rw [e1] at q
    cases q
    rw [hp] at e4
    cases e4
/-- an object that nobody else knows is frozen -/
theorem Ok.freeze (h : Ok K b0 B Z0 Z H σ ρ) (zp : Z p = none) (bp : B p = none) (ap : Apart σ ρ p) (hp : H p = some o) : Ok K b0 B Z0 (upd Z p o) H σ ρ ∧ Same Z (upd Z p o) := by
  have sz : Same Z (upd Z p o) := fun b x e => by rw [upd_ne (ne_of_none e zp)]; exact e
  refine ⟨⟨h.len, h.bh, fun b x e => ?_, h.zz.trans sz, fun b x e => ?_, fun i d e => ?_, fun i s e eo => ?_, h.fix, h.sepS⟩, sz⟩
  · by_cases hb : b = p
    · subst hb; rw [upd_same] at e; rw [← e]; exact hp
    · rw [upd_ne hb] at e; exact h.zh b x e
  · by_cases hb : b = p
    · subst hb; exact .inr bp
    · rw [upd_ne hb] at e; exact h.nb b x e
  · obtain ⟨v, e1, e2⟩ := h.sh i d e
    exact ⟨v, e1, e2.mono sz⟩
  · obtain ⟨q, x, e1, e2, e3, e4, e5⟩ := h.own i s e eo
    have nq : q ≠ p := fun z => ap i s e eo (by rw [e1, z])
    exact ⟨q, x, e1, by rw [upd_ne nq]; exact e2, e3, e4, e5.mono sz⟩
/-- an object that nobody else knows changes -/
theorem Ok.write (h : Ok K b0 B Z0 Z H σ ρ) (zp : Z p = none) (bp : B p = none) (ap : Apart σ ρ p) : Ok K b0 B Z0 Z (upd H p o) σ ρ := by
  refine ⟨h.len, fun b x e => ?_, fun b x e => ?_, h.zz, h.nb, h.sh, fun i s e eo => ?_, h.fix, h.sepS⟩
  · rw [upd_ne (ne_of_none e bp)]; exact h.bh b x e
  · rw [upd_ne (ne_of_none e zp)]; exact h.zh b x e
  · obtain ⟨q, x, e1, e2, e3, e4, e5⟩ := h.own i s e eo
    have nq : q ≠ p := fun z => ap i s e eo (by rw [e1, z])
    exact ⟨q, x, e1, e2, e3, by rw [upd_ne nq]; exact e4, e5⟩
theorem set_get {α : Type} {l : List α} {i j : Nat} {x y : α} (h : (l.set i x)[j]? = some y) : (i = j ∧ x = y) ∨ (i ≠ j ∧ l[j]? = some y) := by
  by_cases hij : i = j
  · subst hij
    by_cases hl : i < l.length
    · rw [List.getElem?_set_self hl] at h
      exact .inl ⟨rfl, Option.some.inj h⟩
    · rw [List.getElem?_eq_none (by simpa using hl)] at h
      cases h
  · rw [List.getElem?_set_ne hij] at h
    exact .inr ⟨hij, h⟩
/-- shared data goes into a slot -/
theorem Ok.put {i : Nat} {v : V} {d : D} (h : Ok K b0 B Z0 Z H σ ρ) (r : Rp K Z v d) : Ok K b0 B Z0 Z H (σ.set i (some v)) (ρ.set i (.sh d)) := by
  have hl := h.len
  refine ⟨by rw [List.length_set, List.length_set]; exact hl, h.bh, h.zh, h.zz, h.nb, fun j d' e => ?_, fun j s e eo => ?_, fun a ha ds e => ?_, fun j k q s t e1 e2 o1 o2 e3 e4 => ?_⟩
  · by_cases hij : i = j
    · subst hij
      have hi : i < ρ.length := by
        by_cases q : i < ρ.length
        · exact q
        · rw [List.getElem?_eq_none (by simpa using q)] at e; cases e
      rw [List.getElem?_set_self hi] at e
      cases e
      exact ⟨v, by rw [List.getElem?_set_self (by omega)], r⟩
    · rw [List.getElem?_set_ne hij] at e
      rw [List.getElem?_set_ne hij]
      exact h.sh j d' e
  · rcases set_get e with ⟨_, z⟩ | ⟨n, e⟩
    · subst z; cases eo
    · rw [List.getElem?_set_ne n]
      exact h.own j s e eo
  · rcases set_get e with ⟨_, z⟩ | ⟨n, e⟩
    · cases z
    · rw [List.getElem?_set_ne n]
      exact h.fix a ha ds e
  · rcases set_get e1 with ⟨_, z⟩ | ⟨n1, e1⟩
    · subst z; cases o1
    · rcases set_get e2 with ⟨_, z⟩ | ⟨n2, e2⟩
      · subst z; cases o2
      · rw [List.getElem?_set_ne n1] at e3
        rw [List.getElem?_set_ne n2] at e4
        exact h.sepS j k q s t e1 e2 o1 o2 e3 e4
/-- an own thing goes into a slot -/
theorem Ok.putS {i : Nat} {s0 : Sl} (h : Ok K b0 B Z0 Z H σ ρ) (zp : Z p = none) (bp : B p = none) (ap : Apart σ ρ p) (hp : H p = some o) (ho : s0.isO = true) (r : OwR K Z p o s0) (hf : ∀ a, b0 = some a → i = 0 → p = a) :
    Ok K b0 B Z0 Z H (σ.set i (some (.ref p))) (ρ.set i s0) := by
  have hl := h.len
  refine ⟨by rw [List.length_set, List.length_set]; exact hl, h.bh, h.zh, h.zz, h.nb, fun j d' e => ?_, fun j s e eo => ?_, fun a ha ds e => ?_, fun j k q s t e1 e2 o1 o2 e3 e4 => ?_⟩
  · rcases set_get e with ⟨_, z⟩ | ⟨n, e⟩
    · subst z; cases ho
    · rw [List.getElem?_set_ne n]
      exact h.sh j d' e
  · by_cases hij : i = j
    · subst hij
      have hi : i < ρ.length := by
        by_cases q : i < ρ.length
        · exact q
        · rw [List.getElem?_eq_none (by simpa using q)] at e; cases e
      rw [List.getElem?_set_self hi] at e
      cases e
      exact ⟨p, o, by rw [List.getElem?_set_self (by omega)], zp, bp, hp, r⟩
    · rw [List.getElem?_set_ne hij] at e
      rw [List.getElem?_set_ne hij]
      exact h.own j s e eo
  · by_cases hi0 : i = 0
    · subst hi0
      have hl0 : 0 < ρ.length := by
        by_cases q : 0 < ρ.length
        · exact q
        · rw [List.getElem?_eq_none (by rw [List.length_set]; omega)] at e; cases e
      rw [hf a ha rfl, List.getElem?_set_self (by omega)]
    · rw [List.getElem?_set_ne hi0] at e
      rw [List.getElem?_set_ne hi0]
      exact h.fix a ha ds e
  · rcases set_get e1 with ⟨i1, _⟩ | ⟨n1, e1⟩
    · rcases set_get e2 with ⟨i2, _⟩ | ⟨n2, e2⟩
      · rw [← i1, ← i2]
      · rw [List.getElem?_set_ne n2] at e4
        rcases set_get e3 with ⟨_, z⟩ | ⟨n, _⟩
        · cases z; exact absurd e4 (ap k t e2 o2)
        · exact absurd i1 n
    · rw [List.getElem?_set_ne n1] at e3
      rcases set_get e2 with ⟨i2, _⟩ | ⟨n2, e2⟩
      · rcases set_get e4 with ⟨_, z⟩ | ⟨n, _⟩
        · cases z; exact absurd e3 (ap j s e1 o1)
        · exact absurd i2 n
      · rw [List.getElem?_set_ne n2] at e4
        exact h.sepS j k q s t e1 e2 o1 o2 e3 e4
theorem Ok.putO {i : Nat} {vs : List V} {ds : List D} (h : Ok K b0 B Z0 Z H σ ρ) (zp : Z p = none) (bp : B p = none) (ap : Apart σ ρ p) (hp : H p = some (.lst vs)) (r : RpA K Z vs ds) (hf : ∀ a, b0 = some a → i = 0 → p = a) :
    Ok K b0 B Z0 Z H (σ.set i (some (.ref p))) (ρ.set i (.ow ds)) := h.putS zp bp ap hp rfl ⟨vs, rfl, r⟩ hf
/-- forgetting slots -/
theorem Ok.weak {σ' : L2.St} {ρ' : Rho} (h : Ok K b0 B Z0 Z H σ ρ) (hl : σ'.length = ρ'.length) (hs : ∀ (i : Nat) (s : Sl), ρ'[i]? = some s → s = .no ∨ (ρ[i]? = some s ∧ σ'[i]? = σ[i]?)) : Ok K b0 B Z0 Z H σ' ρ' := by
  refine ⟨hl, h.bh, h.zh, h.zz, h.nb, fun j d e => ?_, fun j s e eo => ?_, fun a ha ds e => ?_, fun j k q s t e1 e2 o1 o2 e3 e4 => ?_⟩
  · rcases hs j _ e with z | ⟨z, y⟩
    · cases z
    · rw [y]; exact h.sh j d z
  · rcases hs j _ e with z | ⟨z, y⟩
    · subst z; cases eo
    · rw [y]; exact h.own j s z eo
  · rcases hs 0 _ e with z | ⟨z, y⟩
    · cases z
    · rw [y]; exact h.fix a ha ds z
  · rcases hs j _ e1 with z | ⟨z1, y1⟩
    · subst z; cases o1
    · rcases hs k _ e2 with z | ⟨z2, y2⟩
      · subst z; cases o2
      · rw [y1] at e3
        rw [y2] at e4
        exact h.sepS j k q s t z1 z2 o1 o2 e3 e4
end
end DL
namespace DL
open PySem L2
/-- a result: a value and the environment behind it; an exception of a class by its name, with its one field; nothing that is told -/
inductive R (α : Type) where
  | ok (a : α) (ρ : Rho)
  | ex (c : Str) (d : D) (ρ : Rho)
  | bad
def R.bind {α β : Type} (r : R α) (f : α → Rho → R β) : R β := match r with
  | .ok a ρ => f a ρ
  | .ex c d ρ => .ex c d ρ
  | .bad => .bad
def R.map {α β : Type} (f : α → β) (r : R α) : R β := match r with
  | .ok a ρ => .ok (f a) ρ
  | .ex c d ρ => .ex c d ρ
  | .bad => .bad
def R.lift {α : Type} (x : Option α) (ρ : Rho) : R α := match x with
  | some a => .ok a ρ
  | none => .bad
theorem R.bind_ok {α β : Type} {r : R α} {f : α → Rho → R β} {b : β} {ρ' : Rho} (h : r.bind f = .ok b ρ') : ∃ a ρ1, r = .ok a ρ1 ∧ f a ρ1 = .ok b ρ' := by
  cases r with
  | ok a ρ1 => exact ⟨a, ρ1, rfl, h⟩
  | ex c d ρ1 => cases h
  | bad => cases h
theorem R.map_ok {α β : Type} {r : R α} {f : α → β} {b : β} {ρ' : Rho} (h : r.map f = .ok b ρ') : ∃ a, r = .ok a ρ' ∧ f a = b := by
  cases r with
  | ok a ρ1 => cases h; exact ⟨a, rfl, rfl⟩
  | ex c d ρ1 => cases h
  | bad => cases h
theorem R.lift_ok {α : Type} {x : Option α} {ρ ρ' : Rho} {a : α} (h : R.lift x ρ = .ok a ρ') : x = some a ∧ ρ = ρ' := by
  cases x with
  | some b => cases h; exact ⟨rfl, rfl⟩
  | none => cases h
@[simp] theorem R.ok_bind {α β : Type} (a : α) (ρ : Rho) (f : α → Rho → R β) : (R.ok a ρ).bind f = f a ρ := rfl
@[simp] theorem R.ok_map {α β : Type} (a : α) (ρ : Rho) (f : α → β) : (R.ok a ρ).map f = .ok (f a) ρ := rfl
@[simp] theorem R.lift_some {α : Type} (a : α) (ρ : Rho) : R.lift (some a) ρ = .ok a ρ := rfl
/-- an operand: data, or the list of one's own in a slot -/
inductive Op where
  | val (d : D)
  | own (i : Nat)
def Op.res (o : Op) (ρ : Rho) : Option D := match o with
  | .val d => some d
  | .own i => match ρ[i]? with
    | some (.ow ds) => some (.list ds)
    | some (.od kds) => some (.dict ((.dict [], .none) :: kds))
    | _ => none
abbrev GE := Rho → R D
abbrev GO := Rho → R Op
abbrev GT := Rho → R Bool
abbrev GF := Rho → R (List D)
abbrev GA := Rho → R (List Op)
/-- v stands for data by H, its items by Z -/
inductive Bd (K : PySem.W.Frag) (Z H : Hp) : V → D → Prop
  | non : Bd K Z H .non .none
  | bl (b : Bool) : Bd K Z H (.bl b) (.bool b)
  | int (i : Int) : Bd K Z H (.int i) (.int i)
  | str (x : Str) : Bd K Z H (.str x) (.str x)
  | lst {a : Addr} {xs : List V} {ds : List D} : H a = some (.lst xs) → RpA K Z xs ds → Bd K Z H (.ref a) (.list ds)
  | scr {a : Addr} {xs : List V} {ds : List D} : SqL K H a xs → RpA K Z xs ds → Bd K Z H (.ref a) (.dict [(.list ds, .none)])
  | tup {a : Addr} {xs : List V} {ds : List D} : SqT K Z a xs → RpA K Z xs ds → Bd K Z H (.ref a) (.tuple ds)
  | exc {a C dx : Addr} {c : Str} {v : V} {d : D} : Z a = some (exk a C dx) → Z dx = some (.xd [(fld c, v)]) → Cls K c C → Rp K Z v d → Bd K Z H (.ref a) (.dict [(.none, .str c), (.none, d)])
  | dct {a : Addr} {kvs : List (KK × V × V)} {dt : Array DictEntry × Nat} {kds : List (D × D)} : H a = some (dcO a kvs dt) → RpK K Z kvs kds → Bd K Z H (.ref a) (.dict ((.dict [], .none) :: kds))
inductive BdA (K : PySem.W.Frag) (Z H : Hp) : List V → List D → Prop
  | nil : BdA K Z H [] []
  | cons {v : V} {vs : List V} {d : D} {ds : List D} : Bd K Z H v d → BdA K Z H vs ds → BdA K Z H (v :: vs) (d :: ds)
def OpR' (K : PySem.W.Frag) (Z : Hp) (σ : L2.St) (v : V) : Op → Prop
  | .val d => Rp K Z v d
  | .own i => σ[i]? = some (some v)
section
variable {K : PySem.W.Frag} {b0 : Option Addr} {B Z0 Z Z' H : Hp} {σ : L2.St} {ρ : Rho} {v : V} {d : D}
theorem Rp.bd (r : Rp K Z v d) (e : Same Z H) : Bd K Z H v d := by
  cases r with
  | non => exact .non
  | bl b => exact .bl b
  | int i => exact .int i
  | str x => exact .str x
  | lst h r => exact .lst (e _ _ h) r
  | scr h r => exact .scr (same_l e h) r
  | tup h r => exact .tup h r
  | exc h1 h2 h3 r => exact .exc h1 h2 h3 r
  | dct h r => exact .dct (e _ _ h) r
theorem OpR'.mono (e : Same Z Z') {o : Op} (h : OpR' K Z σ v o) : OpR' K Z' σ v o := by
  cases o with
  | val d => exact Rp.mono e h
  | own i => exact h
theorem Ok.bd (h : Ok K b0 B Z0 Z H σ ρ) {o : Op} (ho : OpR' K Z σ v o) (e : o.res ρ = some d) : Bd K Z H v d := by
  cases o with
  | val d' => cases e; exact Rp.bd ho h.zh
  | own i =>
    unfold Op.res at e
    dsimp only at e
    split at e
    · rename_i ds hi
      cases e
      obtain ⟨p, vs, e1, e2, e3, e4, e5⟩ := h.ow i ds hi
      have e6 : σ[i]? = some (some v) := ho
      rw [e1] at e6
      cases e6
      exact .lst e4 e5
    · rename_i ds hi
      cases e
      obtain ⟨p, vs, e1, e2, e3, ⟨dt, e4⟩, e5⟩ := h.od i ds hi
      have e6 : σ[i]? = some (some v) := ho
      rw [e1] at e6
      cases e6
      exact .dct e4 e5
    · cases e
end
/-- an expression that gives data -/
def DE (K : PySem.W.Frag) (t : TE) (g : GE) : Prop := ∀ b0 B Z0 Z H σ ρ d ρ' (Q : VK), Ok K b0 B Z0 Z H σ ρ → g ρ = .ok d ρ' → (∀ v H' Z', Ok K b0 B Z0 Z' H' σ ρ' → Same Z Z' → Rp K Z' v d → Q v H') → t σ H Q
/-- .. an operand -/
def DO (K : PySem.W.Frag) (t : TE) (g : GO) : Prop := ∀ b0 B Z0 Z H σ ρ o ρ' (Q : VK), Ok K b0 B Z0 Z H σ ρ → g ρ = .ok o ρ' → (∀ v H' Z', Ok K b0 B Z0 Z' H' σ ρ' → Same Z Z' → OpR' K Z' σ v o → Q v H') → t σ H Q
/-- .. a new list -/
def DF (K : PySem.W.Frag) (t : TE) (g : GF) : Prop := ∀ b0 B Z0 Z H σ ρ ds ρ' (Q : VK), Ok K b0 B Z0 Z H σ ρ → g ρ = .ok ds ρ' →
  (∀ p vs H' Z', Ok K b0 B Z0 Z' H' σ ρ' → Same Z Z' → Z' p = none → B p = none → Apart σ ρ' p → H' p = some (.lst vs) → RpA K Z' vs ds → Q (.ref p) H') → t σ H Q
/-- a test -/
def DT (K : PySem.W.Frag) (t : TT) (g : GT) : Prop := ∀ b0 B Z0 Z H σ ρ b ρ' (Q : Bool → Hp → Prop), Ok K b0 B Z0 Z H σ ρ → g ρ = .ok b ρ' → (∀ H' Z', Ok K b0 B Z0 Z' H' σ ρ' → Same Z Z' → Q b H') → t σ H Q
inductive OpA (K : PySem.W.Frag) (Z : Hp) (σ : L2.St) : List V → List Op → Prop
  | nil : OpA K Z σ [] []
  | cons {v : V} {vs : List V} {o : Op} {os : List Op} : OpR' K Z σ v o → OpA K Z σ vs os → OpA K Z σ (v :: vs) (o :: os)
/-- arguments -/
def DA (K : PySem.W.Frag) (t : TA) (g : GA) : Prop := ∀ b0 B Z0 Z H σ ρ os ρ' (Q : List V → Hp → Prop), Ok K b0 B Z0 Z H σ ρ → g ρ = .ok os ρ' → (∀ vs H' Z', Ok K b0 B Z0 Z' H' σ ρ' → Same Z Z' → OpA K Z' σ vs os → Q vs H') → t σ H Q
def resA : List Op → Rho → Option (List D)
  | [], _ => some []
  | o :: os, ρ => match o.res ρ, resA os ρ with
    | some d, some ds => some (d :: ds)
    | _, _ => none
def eC (d : D) (ρ : Rho) : R D := .ok d ρ
def eV (i : Nat) (ρ : Rho) : R D := match ρ[i]? with
  | some (.sh d) => .ok d ρ
  | _ => .bad
def oE (g : GE) (ρ : Rho) : R Op := (g ρ).map .val
def oV (i : Nat) (ρ : Rho) : R Op := match ρ[i]? with
  | some (.ow _) => .ok (.own i) ρ
  | some (.od _) => .ok (.own i) ρ
  | _ => .bad
def eL (g : GF) (ρ : Rho) : R D := (g ρ).map .list
def aNil (ρ : Rho) : R (List Op) := .ok [] ρ
def aCons (g : GO) (r : GA) (ρ : Rho) : R (List Op) := (g ρ).bind fun o ρ1 => (r ρ1).map (o :: ·)
def eOp2 {α : Type} (f : D → D → Option α) (a b : GO) (ρ : Rho) : R α := (a ρ).bind fun x ρ1 => (b ρ1).bind fun y ρ2 => match x.res ρ2, y.res ρ2 with
  | some d, some e => R.lift (f d e) ρ2
  | _, _ => .bad
def eOp1 {α : Type} (f : D → Option α) (a : GO) (ρ : Rho) : R α := (a ρ).bind fun x ρ1 => match x.res ρ1 with
  | some d => R.lift (f d) ρ1
  | _ => .bad
def eApp {α : Type} (f : List D → Option α) (as : GA) (ρ : Rho) : R α := (as ρ).bind fun os ρ1 => match resA os ρ1 with
  | some ds => R.lift (f ds) ρ1
  | none => .bad
def tstE (g : GE) (ρ : Rho) : R Bool := (g ρ).bind fun d ρ1 => match d with
  | .bool b => .ok b ρ1
  | _ => .bad
def eB (g : GT) (ρ : Rho) : R D := (g ρ).map .bool
def tNotG (g : GT) (ρ : Rho) : R Bool := (g ρ).map (!·)
def tAndG (a b : GT) (ρ : Rho) : R Bool := (a ρ).bind fun c ρ1 => if c then b ρ1 else .ok false ρ1
def tOrG (a b : GT) (ρ : Rho) : R Bool := (a ρ).bind fun c ρ1 => if c then .ok true ρ1 else b ρ1
def eAndG (a b : GE) (ρ : Rho) : R D := (a ρ).bind fun c ρ1 => match c with
  | .bool true => b ρ1
  | .bool false => .ok (.bool false) ρ1
  | _ => .bad
def eOrG (a b : GE) (ρ : Rho) : R D := (a ρ).bind fun c ρ1 => match c with
  | .bool true => .ok (.bool true) ρ1
  | .bool false => b ρ1
  | _ => .bad
def eNotG (a : GE) (ρ : Rho) : R D := (a ρ).bind fun c ρ1 => match c with
  | .bool c => .ok (.bool (!c)) ρ1
  | _ => .bad
def eIf {α : Type} (c : GT) (a b : Rho → R α) (ρ : Rho) : R α := (c ρ).bind fun k ρ1 => if k then a ρ1 else b ρ1
def Sn2 (K : PySem.W.Frag) (r : R2) (f : D → D → Option D) : Prop := ∀ b0 B Z0 Z H σ ρ x y a b c (Q : VK), Ok K b0 B Z0 Z H σ ρ → Bd K Z H x a → Bd K Z H y b → f a b = some c → (∀ v H' Z', Ok K b0 B Z0 Z' H' σ ρ → Same Z Z' → Rp K Z' v c → Q v H') → r x y H Q
def Sn2F (K : PySem.W.Frag) (r : R2) (f : D → D → Option (List D)) : Prop := ∀ b0 B Z0 Z H σ ρ x y a b c (Q : VK), Ok K b0 B Z0 Z H σ ρ → Bd K Z H x a → Bd K Z H y b → f a b = some c →
  (∀ p vs H', Ok K b0 B Z0 Z H' σ ρ → Z p = none → B p = none → Apart σ ρ p → H' p = some (.lst vs) → RpA K Z vs c → Q (.ref p) H') → r x y H Q
def Sn1 (K : PySem.W.Frag) (r : V → Hp → VK → Prop) (f : D → Option D) : Prop := ∀ b0 B Z0 Z H σ ρ x a c (Q : VK), Ok K b0 B Z0 Z H σ ρ → Bd K Z H x a → f a = some c → (∀ v H' Z', Ok K b0 B Z0 Z' H' σ ρ → Same Z Z' → Rp K Z' v c → Q v H') → r x H Q
def SnA (K : PySem.W.Frag) (r : List V → Hp → VK → Prop) (f : List D → Option D) : Prop := ∀ b0 B Z0 Z H σ ρ xs as c (Q : VK), Ok K b0 B Z0 Z H σ ρ → BdA K Z H xs as → f as = some c → (∀ v H' Z', Ok K b0 B Z0 Z' H' σ ρ → Same Z Z' → Rp K Z' v c → Q v H') → r xs H Q
def SnAF (K : PySem.W.Frag) (r : List V → Hp → VK → Prop) (f : List D → Option (List D)) : Prop := ∀ b0 B Z0 Z H σ ρ xs as c (Q : VK), Ok K b0 B Z0 Z H σ ρ → BdA K Z H xs as → f as = some c →
  (∀ p vs H', Ok K b0 B Z0 Z H' σ ρ → Z p = none → B p = none → Apart σ ρ p → H' p = some (.lst vs) → RpA K Z vs c → Q (.ref p) H') → r xs H Q
section
variable {K : PySem.W.Frag} {ta tb te : TE} {tt tu : TT} {tas : TA}
theorem de_c {v : V} {d : D} (h : ∀ Z, Rp K Z v d) : DE K (tC v) (eC d) := fun b0 B Z0 Z H σ ρ d' ρ' Q ok e q => by
  cases e
  exact q v H Z ok (Same.refl Z) (h Z)
theorem de_int {i : Int} : DE K (tC (.int i)) (eC (.int i)) := de_c fun _ => .int i
theorem de_bl {b : Bool} : DE K (tC (.bl b)) (eC (.bool b)) := de_c fun _ => .bl b
theorem de_non : DE K (tC .non) (eC .none) := de_c fun _ => .non
theorem de_str {x : Str} : DE K (tC (.str x)) (eC (.str x)) := de_c fun _ => .str x
theorem de_v {i : Nat} : DE K (tVar i) (eV i) := fun b0 B Z0 Z H σ ρ d ρ' Q ok e q => by
  unfold eV at e
  split at e
  · rename_i d' hi
    cases e
    obtain ⟨v, e1, e2⟩ := ok.sh i _ hi
    exact ⟨v, e1, q v H Z ok (Same.refl Z) e2⟩
  · cases e
theorem do_e {g : GE} (h : DE K te g) : DO K te (oE g) := fun b0 B Z0 Z H σ ρ o ρ' Q ok e q => by
  obtain ⟨d, e1, rfl⟩ := R.map_ok e
  exact h b0 B Z0 Z H σ ρ d ρ' Q ok e1 fun v H' Z' ok' s r => q v H' Z' ok' s r
theorem do_v {i : Nat} : DO K (tVar i) (oV i) := fun b0 B Z0 Z H σ ρ o ρ' Q ok e q => by
  unfold oV at e
  split at e
  · rename_i ds hi
    cases e
    obtain ⟨p, vs, e1, _⟩ := ok.ow i ds hi
    exact ⟨.ref p, e1, q (.ref p) H Z ok (Same.refl Z) e1⟩
  · rename_i ds hi
    cases e
    obtain ⟨p, vs, e1, _⟩ := ok.od i ds hi
    exact ⟨.ref p, e1, q (.ref p) H Z ok (Same.refl Z) e1⟩
  · cases e
theorem de_l {g : GF} (h : DF K te g) : DE K te (eL g) := fun b0 B Z0 Z H σ ρ d ρ' Q ok e q => by
  obtain ⟨ds, e1, rfl⟩ := R.map_ok e
  refine h b0 B Z0 Z H σ ρ ds ρ' Q ok e1 fun p vs H' Z' ok' s zp bp ap hp r => ?_
  obtain ⟨ok2, s2⟩ := ok'.freeze zp bp ap hp
  exact q (.ref p) H' _ ok2 (s.trans s2) (.lst upd_same (r.mono s2))
theorem da_nil : DA K tNil aNil := fun b0 B Z0 Z H σ ρ os ρ' Q ok e q => by
  cases e
  exact q [] H Z ok (Same.refl Z) .nil
theorem OpA.mono {Z Z' : Hp} {σ : L2.St} (e : Same Z Z') : ∀ {vs : List V} {os : List Op}, OpA K Z σ vs os → OpA K Z' σ vs os
  | _, _, .nil => .nil
  | _, _, .cons h r => .cons (h.mono e) (OpA.mono e r)
theorem da_cons {g : GO} {r : GA} (h : DO K te g) (hr : DA K tas r) : DA K (tCons te tas) (aCons g r) := fun b0 B Z0 Z H σ ρ os ρ' Q ok e q => by
  obtain ⟨o, ρ1, e1, e2⟩ := R.bind_ok e
  obtain ⟨os', e3, rfl⟩ := R.map_ok e2
  refine h b0 B Z0 Z H σ ρ o ρ1 _ ok e1 fun v H1 Z1 ok1 s1 r1 => ?_
  exact hr b0 B Z0 Z1 H1 σ ρ1 os' ρ' _ ok1 e3 fun vs H2 Z2 ok2 s2 r2 => q (v :: vs) H2 Z2 ok2 (s1.trans s2) (.cons (r1.mono s2) r2)
theorem Ok.bdA {b0 : Option Addr} {B Z0 Z H : Hp} {σ : L2.St} {ρ : Rho} (ok : Ok K b0 B Z0 Z H σ ρ) : ∀ {vs : List V} {os : List Op} {ds : List D}, OpA K Z σ vs os → resA os ρ = some ds → BdA K Z H vs ds
  | _, _, _, .nil, e => by cases e; exact .nil
  | _, _, _, .cons h r, e => by
    unfold resA at e
    split at e
    · rename_i d ds' e1 e2
      cases e
      exact .cons (ok.bd h e1) (Ok.bdA ok r e2)
    · cases e
theorem op2_ok {α : Type} {f : D → D → Option α} {ga gb : GO} {ρ ρ' : Rho} {z : α} (e : eOp2 f ga gb ρ = .ok z ρ') : ∃ x ρ1 y a b, ga ρ = .ok x ρ1 ∧ gb ρ1 = .ok y ρ' ∧ x.res ρ' = some a ∧ y.res ρ' = some b ∧ f a b = some z := by
  obtain ⟨x, ρ1, e1, e2⟩ := R.bind_ok e
  obtain ⟨y, ρ2, e3, e4⟩ := R.bind_ok e2
  split at e4
  · rename_i d d' h1 h2
    obtain ⟨e5, rfl⟩ := R.lift_ok e4
    exact ⟨x, ρ1, y, d, d', e1, e3, h1, h2, e5⟩
  · cases e4
theorem de_op {r : R2} {f : D → D → Option D} {ga gb : GO} (sn : Sn2 K r f) (ha : DO K ta ga) (hb : DO K tb gb) : DE K (tOp r ta tb) (eOp2 f ga gb) := fun b0 B Z0 Z H σ ρ d ρ' Q ok e q => by
  obtain ⟨x, ρ1, y, a, b, e1, e2, e3, e4, e5⟩ := op2_ok e
  refine ha b0 B Z0 Z H σ ρ x ρ1 _ ok e1 fun v H1 Z1 ok1 s1 r1 => ?_
  refine hb b0 B Z0 Z1 H1 σ ρ1 y ρ' _ ok1 e2 fun u H2 Z2 ok2 s2 r2 => ?_
  exact sn b0 B Z0 Z2 H2 σ ρ' v u a b d Q ok2 (ok2.bd (r1.mono s2) e3) (ok2.bd r2 e4) e5 fun w H3 Z3 ok3 s3 r3 => q w H3 Z3 ok3 ((s1.trans s2).trans s3) r3
theorem op1_ok {α : Type} {f : D → Option α} {ga : GO} {ρ ρ' : Rho} {z : α} (e : eOp1 f ga ρ = .ok z ρ') : ∃ x a, ga ρ = .ok x ρ' ∧ x.res ρ' = some a ∧ f a = some z := by
  obtain ⟨x, ρ1, e1, e2⟩ := R.bind_ok e
  split at e2
  · rename_i d h1
    obtain ⟨e5, rfl⟩ := R.lift_ok e2
    exact ⟨x, d, e1, h1, e5⟩
  · cases e2
theorem de_un {r : V → Hp → VK → Prop} {f : D → Option D} {ga : GO} (sn : Sn1 K r f) (ha : DO K ta ga) : DE K (tUn r ta) (eOp1 f ga) := fun b0 B Z0 Z H σ ρ d ρ' Q ok e q => by
  obtain ⟨x, a, e1, e3, e5⟩ := op1_ok e
  refine ha b0 B Z0 Z H σ ρ x ρ' _ ok e1 fun v H1 Z1 ok1 s1 r1 => ?_
  exact sn b0 B Z0 Z1 H1 σ ρ' v a d Q ok1 (ok1.bd r1 e3) e5 fun w H3 Z3 ok3 s3 r3 => q w H3 Z3 ok3 (s1.trans s3) r3
theorem app_ok {α : Type} {f : List D → Option α} {ga : GA} {ρ ρ' : Rho} {z : α} (e : eApp f ga ρ = .ok z ρ') : ∃ os ds, ga ρ = .ok os ρ' ∧ resA os ρ' = some ds ∧ f ds = some z := by
  obtain ⟨x, ρ1, e1, e2⟩ := R.bind_ok e
  split at e2
  · rename_i d h1
    obtain ⟨e5, rfl⟩ := R.lift_ok e2
    exact ⟨x, d, e1, h1, e5⟩
  · cases e2
theorem de_cb {r : List V → Hp → VK → Prop} {f : List D → Option D} {ga : GA} (sn : SnA K r f) (ha : DA K tas ga) : DE K (tCB r tas) (eApp f ga) := fun b0 B Z0 Z H σ ρ d ρ' Q ok e q => by
  obtain ⟨x, a, e1, e3, e5⟩ := app_ok e
  refine ha b0 B Z0 Z H σ ρ x ρ' _ ok e1 fun v H1 Z1 ok1 s1 r1 => ?_
  exact sn b0 B Z0 Z1 H1 σ ρ' v a d Q ok1 (ok1.bdA r1 e3) e5 fun w H3 Z3 ok3 s3 r3 => q w H3 Z3 ok3 (s1.trans s3) r3
theorem df_cb {r : List V → Hp → VK → Prop} {f : List D → Option (List D)} {ga : GA} (sn : SnAF K r f) (ha : DA K tas ga) : DF K (tCB r tas) (eApp f ga) := fun b0 B Z0 Z H σ ρ d ρ' Q ok e q => by
  obtain ⟨x, a, e1, e3, e5⟩ := app_ok e
  refine ha b0 B Z0 Z H σ ρ x ρ' _ ok e1 fun v H1 Z1 ok1 s1 r1 => ?_
  exact sn b0 B Z0 Z1 H1 σ ρ' v a d Q ok1 (ok1.bdA r1 e3) e5 fun p vs H3 ok3 zp bp ap hp r3 => q p vs H3 Z1 ok3 s1 zp bp ap hp r3
theorem dt_B {g : GE} (h : DE K te g) : DT K (tB te) (tstE g) := fun b0 B Z0 Z H σ ρ b ρ' Q ok e q => by
  obtain ⟨d, ρ1, e1, e2⟩ := R.bind_ok e
  split at e2
  · cases e2
    refine h b0 B Z0 Z H σ ρ _ _ _ ok e1 fun v H' Z' ok' s r => ?_
    cases r
    exact ⟨_, rfl, q H' Z' ok' s⟩
  · cases e2
theorem dt_test {g : GE} (h : DE K te g) : DT K (tTest te) (tstE g) := fun b0 B Z0 Z H σ ρ b ρ' Q ok e q => by
  obtain ⟨d, ρ1, e1, e2⟩ := R.bind_ok e
  split at e2
  · cases e2
    refine h b0 B Z0 Z H σ ρ _ _ _ ok e1 fun v H' Z' ok' s r => ?_
    cases r
    exact ⟨_, rfl, q H' Z' ok' s⟩
  · cases e2
theorem dt_not {g : GT} (h : DT K tt g) : DT K (tNot tt) (tNotG g) := fun b0 B Z0 Z H σ ρ b ρ' Q ok e q => by
  obtain ⟨d, e1, rfl⟩ := R.map_ok e
  exact h b0 B Z0 Z H σ ρ d ρ' _ ok e1 fun H' Z' ok' s => q H' Z' ok' s
theorem dt_and {g k : GT} (h : DT K tt g) (h2 : DT K tu k) : DT K (tAnd tt tu) (tAndG g k) := fun b0 B Z0 Z H σ ρ b ρ' Q ok e q => by
  obtain ⟨c, ρ1, e1, e2⟩ := R.bind_ok e
  refine h b0 B Z0 Z H σ ρ c ρ1 _ ok e1 fun H1 Z1 ok1 s1 => ?_
  cases c with
  | true => exact h2 b0 B Z0 Z1 H1 σ ρ1 b ρ' Q ok1 e2 fun H2 Z2 ok2 s2 => q H2 Z2 ok2 (s1.trans s2)
  | false => cases e2; exact q H1 Z1 ok1 s1
theorem dt_or {g k : GT} (h : DT K tt g) (h2 : DT K tu k) : DT K (tOr tt tu) (tOrG g k) := fun b0 B Z0 Z H σ ρ b ρ' Q ok e q => by
  obtain ⟨c, ρ1, e1, e2⟩ := R.bind_ok e
  refine h b0 B Z0 Z H σ ρ c ρ1 _ ok e1 fun H1 Z1 ok1 s1 => ?_
  cases c with
  | true => cases e2; exact q H1 Z1 ok1 s1
  | false => exact h2 b0 B Z0 Z1 H1 σ ρ1 b ρ' Q ok1 e2 fun H2 Z2 ok2 s2 => q H2 Z2 ok2 (s1.trans s2)
theorem de_and {g k : GE} (h : DE K ta g) (h2 : DE K tb k) : DE K (tAndV ta tb) (eAndG g k) := fun b0 B Z0 Z H σ ρ d ρ' Q ok e q => by
  obtain ⟨c, ρ1, e1, e2⟩ := R.bind_ok e
  refine h b0 B Z0 Z H σ ρ c ρ1 _ ok e1 fun v H1 Z1 ok1 s1 r1 => ?_
  split at e2
  · cases r1
    exact ⟨true, rfl, h2 b0 B Z0 Z1 H1 σ ρ1 d ρ' Q ok1 e2 fun v H2 Z2 ok2 s2 r2 => q v H2 Z2 ok2 (s1.trans s2) r2⟩
  · cases r1; cases e2
    exact ⟨false, rfl, q _ H1 Z1 ok1 s1 (.bl false)⟩
  · cases e2
theorem de_or {g k : GE} (h : DE K ta g) (h2 : DE K tb k) : DE K (tOrV ta tb) (eOrG g k) := fun b0 B Z0 Z H σ ρ d ρ' Q ok e q => by
  obtain ⟨c, ρ1, e1, e2⟩ := R.bind_ok e
  refine h b0 B Z0 Z H σ ρ c ρ1 _ ok e1 fun v H1 Z1 ok1 s1 r1 => ?_
  split at e2
  · cases r1; cases e2
    exact ⟨true, rfl, q _ H1 Z1 ok1 s1 (.bl true)⟩
  · cases r1
    exact ⟨false, rfl, h2 b0 B Z0 Z1 H1 σ ρ1 d ρ' Q ok1 e2 fun v H2 Z2 ok2 s2 r2 => q v H2 Z2 ok2 (s1.trans s2) r2⟩
  · cases e2
theorem de_not {g : GE} (h : DE K ta g) : DE K (tNotV ta) (eNotG g) := fun b0 B Z0 Z H σ ρ d ρ' Q ok e q => by
  obtain ⟨c, ρ1, e1, e2⟩ := R.bind_ok e
  refine h b0 B Z0 Z H σ ρ c ρ1 _ ok e1 fun v H1 Z1 ok1 s1 r1 => ?_
  split at e2
  · cases r1; cases e2
    exact ⟨_, rfl, q _ H1 Z1 ok1 s1 (.bl _)⟩
  · cases e2
theorem de_if {c : GT} {g k : GE} (hc : DT K tt c) (h : DE K ta g) (h2 : DE K tb k) : DE K (tIf tt ta tb) (eIf c g k) := fun b0 B Z0 Z H σ ρ d ρ' Q ok e q => by
  obtain ⟨b, ρ1, e1, e2⟩ := R.bind_ok e
  refine hc b0 B Z0 Z H σ ρ b ρ1 _ ok e1 fun H1 Z1 ok1 s1 => ?_
  cases b with
  | true => exact h b0 B Z0 Z1 H1 σ ρ1 d ρ' Q ok1 e2 fun v H2 Z2 ok2 s2 r2 => q v H2 Z2 ok2 (s1.trans s2) r2
  | false => exact h2 b0 B Z0 Z1 H1 σ ρ1 d ρ' Q ok1 e2 fun v H2 Z2 ok2 s2 r2 => q v H2 Z2 ok2 (s1.trans s2) r2
def valA : List Op → Option (List D)
  | [] => some []
  | .val d :: os => (valA os).map (d :: ·)
  | _ :: _ => none
theorem valA_ok {Z : Hp} {σ : L2.St} : ∀ {vs : List V} {os : List Op} {ds : List D}, OpA K Z σ vs os → valA os = some ds → RpA K Z vs ds
  | _, _, _, .nil, e => by cases e; exact .nil
  | _, _, _, .cons (o := .val d) h r, e => by
    unfold valA at e
    obtain ⟨ds', e1, rfl⟩ := Option.map_eq_some_iff.mp e
    exact .cons h (valA_ok r e1)
  | _, _, _, .cons (o := .own i) h r, e => by cases e
def eSeq (ga : GA) (ρ : Rho) : R (List D) := (ga ρ).bind fun os ρ1 => match valA os with
  | some ds => if ds.length ≤ sizeLine then .ok ds ρ1 else .bad
  | none => .bad
def eT (g : GF) (ρ : Rho) : R D := (g ρ).map .tuple
theorem seq_ok {ga : GA} {ρ ρ' : Rho} {ds : List D} (e : eSeq ga ρ = .ok ds ρ') : ∃ os, ga ρ = .ok os ρ' ∧ valA os = some ds ∧ ds.length ≤ sizeLine := by
  obtain ⟨os, ρ1, e1, e2⟩ := R.bind_ok e
  split at e2
  · split at e2
    · cases e2
      exact ⟨os, e1, by assumption, by assumption⟩
    · cases e2
  · cases e2
theorem df_lst {ga : GA} (ha : DA K tas ga) : DF K (tLst tas) (eSeq ga) := fun b0 B Z0 Z H σ ρ d ρ' Q ok e q => by
  obtain ⟨os, e1, e2, e3⟩ := seq_ok e
  refine ha b0 B Z0 Z H σ ρ os ρ' _ ok e1 fun vs H1 Z1 ok1 s1 r1 => ?_
  have ra := valA_ok r1 e2
  refine ⟨by rw [ra.length]; exact e3, fun p hp => ?_⟩
  obtain ⟨ok2, zp, bp, ap⟩ := ok1.fresh (o := .lst vs) hp
  exact q p vs _ Z1 ok2 s1 zp bp ap upd_same ra
theorem de_tup {ga : GA} (ha : DA K tas ga) : DE K (tTup tas) (eT (eSeq ga)) := fun b0 B Z0 Z H σ ρ d ρ' Q ok e q => by
  obtain ⟨ds, e0, rfl⟩ := R.map_ok e
  obtain ⟨os, e1, e2, e3⟩ := seq_ok e0
  refine ha b0 B Z0 Z H σ ρ os ρ' _ ok e1 fun vs H1 Z1 ok1 s1 r1 => ?_
  have ra := valA_ok r1 e2
  refine ⟨by rw [ra.length]; exact e3, fun p hp => ?_⟩
  obtain ⟨ok2, s2⟩ := ok1.new (o := .tup vs) hp
  exact q (.ref p) _ _ ok2 (s1.trans s2) (.tup (.inl (.inl upd_same)) (ra.mono s2))
end
end DL
namespace DL
open PySem L2
/-- how a block ends: next, return of data, return of a new list, break, continue, an exception, nothing that is told -/
inductive O where
  | nx (ρ : Rho)
  | rt (d : D) (ρ : Rho)
  | rf (ds : List D) (ρ : Rho)
  | bk (ρ : Rho)
  | ct (ρ : Rho)
  | ex (c : Str) (d : D) (ρ : Rho)
  | bad
abbrev GS := Rho → O
/-- what the end o promises, seen from the entry (B, Z0) -/
def Sat (K : PySem.W.Frag) (Wx : WX) (b0 : Option Addr) (B Z0 : Hp) (E : Ends) : O → Prop
  | .nx ρ => ∀ σ H Z, Ok K b0 B Z0 Z H σ ρ → E.nx σ H
  | .rt d ρ => ∀ v σ H Z, Ok K b0 B Z0 Z H σ ρ → Rp K Z v d → E.rt v H
  | .rf ds ρ => ∀ p vs σ H Z, Ok K b0 B Z0 Z H σ ρ → Z p = none → B p = none → Apart σ ρ p → H p = some (.lst vs) → RpA K Z vs ds → E.rt (.ref p) H
  | .bk ρ => ∀ σ H Z, Ok K b0 B Z0 Z H σ ρ → E.bk σ H
  | .ct ρ => ∀ σ H Z, Ok K b0 B Z0 Z H σ ρ → E.ct σ H
  | .ex c d ρ => ∀ σ H Z C dx v, Ok K b0 B Z0 Z H σ ρ → Cls K c C → Z dx = some (.xd [(fld c, v)]) → Rp K Z v d → Wx (.ref C) (some dx) σ H
  | .bad => False
def DS (K : PySem.W.Frag) (Wx : WX) (t : TS) (g : GS) : Prop := ∀ b0 B Z0 Z H σ ρ (E : Ends), Ok K b0 B Z0 Z H σ ρ → Sat K Wx b0 B Z0 E (g ρ) → t E σ H
def O.bind (o : O) (f : Rho → O) : O := match o with
  | .nx ρ => f ρ
  | o => o
def R.to {α : Type} (r : R α) (f : α → Rho → O) : O := match r with
  | .ok a ρ => f a ρ
  | .ex c d ρ => .bad
  | .bad => .bad
def sSeq (a b : GS) (ρ : Rho) : O := (a ρ).bind b
def sNext (ρ : Rho) : O := .nx ρ
def sRet (g : GE) (ρ : Rho) : O := (g ρ).to .rt
def sRetF (g : GF) (ρ : Rho) : O := (g ρ).to .rf
/-- return of the list of one's own in slot i -/
def sRetO (i : Nat) (ρ : Rho) : O := match ρ[i]? with
  | some (.ow ds) => .rf ds (ρ.set i .no)
  | _ => .bad
def sRetN (ρ : Rho) : O := .rt .none ρ
def sDrop (g : GE) (ρ : Rho) : O := (g ρ).to fun _ ρ => .nx ρ
def sIf (c : GT) (a b : GS) (ρ : Rho) : O := (c ρ).to fun k ρ1 => if k then a ρ1 else b ρ1
def sSet (i : Nat) (g : GE) (ρ : Rho) : O := (g ρ).to fun d ρ1 => .nx (ρ1.set i (.sh d))
def sSetO (i : Nat) (g : GF) (ρ : Rho) : O := (g ρ).to fun ds ρ1 => .nx (ρ1.set i (.ow ds))
def sBreak (ρ : Rho) : O := .bk ρ
def sCont (ρ : Rho) : O := .ct ρ
def sBad (ρ : Rho) : O := .bad
/-- the own list in slot i is frozen -/
def fz (i : Nat) (ρ : Rho) : Rho := match ρ[i]? with
  | some (.ow ds) => ρ.set i (.sh (.list ds))
  | some (.od kds) => ρ.set i (.sh (.dict ((.dict [], .none) :: kds)))
  | _ => ρ
def sFz (i : Nat) (g : GS) (ρ : Rho) : O := g (fz i ρ)
section
variable {K : PySem.W.Frag} {Wx : WX} {ta tb te : TE} {tt tu : TT} {tas : TA} {t u : TS} {b0 : Option Addr} {B Z0 Z H : Hp} {σ : L2.St} {ρ : Rho} {E : Ends}
theorem Sat.to {α : Type} {r : R α} {f : α → Rho → O} (h : Sat K Wx b0 B Z0 E (r.to f)) : ∃ a ρ', r = .ok a ρ' ∧ Sat K Wx b0 B Z0 E (f a ρ') := by
  cases r with
  | ok a ρ' => exact ⟨a, ρ', rfl, h⟩
  | ex c d ρ' => exact h.elim
  | bad => exact h.elim
theorem Sat.bind {o : O} {f : Rho → O} {nx' : L2.St → Hp → Prop} (h : Sat K Wx b0 B Z0 E (o.bind f)) (hn : ∀ ρ' σ' H' Z', Ok K b0 B Z0 Z' H' σ' ρ' → Sat K Wx b0 B Z0 E (f ρ') → nx' σ' H') : Sat K Wx b0 B Z0 { E with nx := nx' } o := by
  cases o with
  | nx ρ' => exact fun σ' H' Z' ok => hn ρ' σ' H' Z' ok h
  | rt d ρ' => exact h
  | rf ds ρ' => exact h
  | bk ρ' => exact h
  | ct ρ' => exact h
  | ex c d ρ' => exact h
  | bad => exact h.elim
theorem ds_seq {g k : GS} (h : DS K Wx t g) (h2 : DS K Wx u k) : DS K Wx (tSeq t u) (sSeq g k) := fun b0 B Z0 Z H σ ρ E ok s =>
  h b0 B Z0 Z H σ ρ _ ok (Sat.bind s fun ρ' σ' H' Z' ok' s' => h2 b0 B Z0 Z' H' σ' ρ' E ok' s')
theorem ds_next : DS K Wx tNext sNext := fun b0 B Z0 Z H σ ρ E ok s => s σ H Z ok
theorem ds_ret {g : GE} (h : DE K te g) : DS K Wx (tRet te) (sRet g) := fun b0 B Z0 Z H σ ρ E ok s => by
  obtain ⟨d, ρ', e, s⟩ := Sat.to s
  exact h b0 B Z0 Z H σ ρ d ρ' _ ok e fun v H' Z' ok' _ r => s v σ H' Z' ok' r
theorem ds_retF {g : GF} (h : DF K te g) : DS K Wx (tRet te) (sRetF g) := fun b0 B Z0 Z H σ ρ E ok s => by
  obtain ⟨d, ρ', e, s⟩ := Sat.to s
  exact h b0 B Z0 Z H σ ρ d ρ' _ ok e fun p vs H' Z' ok' _ zp bp ap hp r => s p vs σ H' Z' ok' zp bp ap hp r
theorem no_get {i j : Nat} {s : Sl} (h : (ρ.set i .no)[j]? = some s) : s = .no ∨ (i ≠ j ∧ ρ[j]? = some s) := by
  rcases set_get h with ⟨_, e⟩ | ⟨n, e⟩
  · exact .inl e.symm
  · exact .inr ⟨n, e⟩
theorem Ok.forget {i : Nat} (ok : Ok K b0 B Z0 Z H σ ρ) : Ok K b0 B Z0 Z H σ (ρ.set i .no) :=
  ok.weak (by rw [List.length_set]; exact ok.len) fun j s h => (no_get h).imp id fun z => ⟨z.2, rfl⟩
theorem Ok.release {i : Nat} {ds : List D} (ok : Ok K b0 B Z0 Z H σ ρ) (h : ρ[i]? = some (.ow ds)) : ∃ p vs, σ[i]? = some (some (.ref p)) ∧ Ok K b0 B Z0 Z H σ (ρ.set i .no) ∧ Z p = none ∧ B p = none ∧ Apart σ (ρ.set i .no) p ∧ H p = some (.lst vs) ∧ RpA K Z vs ds := by
  obtain ⟨p, vs, e1, e2, e3, e4, e5⟩ := ok.ow i ds h
  refine ⟨p, vs, e1, ok.forget, e2, e3, fun j s hj ho q => ?_, e4, e5⟩
  rcases no_get hj with z | ⟨n, z⟩
  · subst z; cases ho
  · exact n (ok.sepS i j p _ s h z rfl ho e1 q)
theorem Ok.releaseD {i : Nat} {ds : List (D × D)} (ok : Ok K b0 B Z0 Z H σ ρ) (h : ρ[i]? = some (.od ds)) : ∃ p vs, σ[i]? = some (some (.ref p)) ∧ Ok K b0 B Z0 Z H σ (ρ.set i .no) ∧ Z p = none ∧ B p = none ∧ Apart σ (ρ.set i .no) p ∧ IsDc H p vs ∧ RpK K Z vs ds := by
  obtain ⟨p, vs, e1, e2, e3, e4, e5⟩ := ok.od i ds h
  refine ⟨p, vs, e1, ok.forget, e2, e3, fun j s hj ho q => ?_, e4, e5⟩
  rcases no_get hj with z | ⟨n, z⟩
  · subst z; cases ho
  · exact n (ok.sepS i j p _ s h z rfl ho e1 q)
theorem set_own {i : Nat} {v : V} (e1 : σ[i]? = some (some v)) : σ.set i (some v) = σ := by
  apply List.ext_getElem?
  intro j
  by_cases hj : i = j
  · subst hj
    rw [List.getElem?_set_self (by
      by_cases z : i < σ.length
      · exact z
      · rw [List.getElem?_eq_none (by simpa using z)] at e1; cases e1), e1]
  · rw [List.getElem?_set_ne hj]
theorem ds_retO {i : Nat} : DS K Wx (tRet (tVar i)) (sRetO i) := fun b0 B Z0 Z H σ ρ E ok s => by
  unfold sRetO at s
  split at s
  · rename_i ds h
    obtain ⟨p, vs, e1, ok', zp, bp, ap, hp, r⟩ := ok.release h
    exact ⟨.ref p, e1, s p vs σ H Z ok' zp bp ap hp r⟩
  · exact s.elim
theorem ds_if {c : GT} {g k : GS} (hc : DT K tt c) (h : DS K Wx t g) (h2 : DS K Wx u k) : DS K Wx (tIfS tt t u) (sIf c g k) := fun b0 B Z0 Z H σ ρ E ok s => by
  obtain ⟨b, ρ', e, s⟩ := Sat.to s
  refine hc b0 B Z0 Z H σ ρ b ρ' _ ok e fun H' Z' ok' _ => ?_
  cases b with
  | true => exact h b0 B Z0 Z' H' σ ρ' E ok' s
  | false => exact h2 b0 B Z0 Z' H' σ ρ' E ok' s
theorem ds_set {i : Nat} {g : GE} (h : DE K te g) : DS K Wx (tAsg te (gName i)) (sSet i g) := fun b0 B Z0 Z H σ ρ E ok s => by
  obtain ⟨d, ρ', e, s⟩ := Sat.to s
  exact h b0 B Z0 Z H σ ρ d ρ' _ ok e fun v H' Z' ok' _ r => s _ H' Z' (ok'.put r)
theorem ds_setO {i : Nat} {g : GF} (h : DF K te g) (hi : i ≠ 0 := by decide) : DS K Wx (tAsg te (gName i)) (sSetO i g) := fun b0 B Z0 Z H σ ρ E ok s => by
  obtain ⟨d, ρ', e, s⟩ := Sat.to s
  exact h b0 B Z0 Z H σ ρ d ρ' _ ok e fun p vs H' Z' ok' _ zp bp ap hp r => s _ H' Z' (ok'.putO zp bp ap hp r fun _ _ z => absurd z hi)
theorem Ok.fz {i : Nat} (ok : Ok K b0 B Z0 Z H σ ρ) : ∃ Z', Ok K b0 B Z0 Z' H σ (fz i ρ) ∧ Same Z Z' := by
  unfold DL.fz
  split
  · rename_i ds h
    obtain ⟨p, vs, e1, ok', zp, bp, ap, hp, r⟩ := ok.release h
    obtain ⟨ok2, s2⟩ := ok'.freeze zp bp ap hp
    refine ⟨_, ?_, s2⟩
    have q := ok2.put (i := i) (v := .ref p) (d := .list ds) (.lst upd_same (r.mono s2))
    rw [List.set_set] at q
    have e : σ.set i (some (.ref p)) = σ := by
      apply List.ext_getElem?
      intro j
      by_cases hj : i = j
      · subst hj
        rw [List.getElem?_set_self (by
          by_cases z : i < σ.length
          · exact z
          · rw [List.getElem?_eq_none (by simpa using z)] at e1; cases e1), e1]
      · rw [List.getElem?_set_ne hj]
    rw [e] at q
    exact q
  · rename_i ds h
    obtain ⟨p, vs, e1, ok', zp, bp, ap, ⟨dt, hp⟩, r⟩ := ok.releaseD h
    obtain ⟨ok2, s2⟩ := ok'.freeze zp bp ap hp
    refine ⟨_, ?_, s2⟩
    have q := ok2.put (i := i) (v := .ref p) (d := dcD ds) (.dct upd_same (r.mono s2))
    rw [List.set_set, set_own e1] at q
    exact q
  · exact ⟨Z, ok, Same.refl Z⟩
theorem ds_fz {i : Nat} {g : GS} (h : DS K Wx t g) : DS K Wx t (sFz i g) := fun b0 B Z0 Z H σ ρ E ok s => by
  obtain ⟨Z', ok', _⟩ := ok.fz (i := i)
  exact h b0 B Z0 Z' H σ _ E ok' s
/-- data goes to a target -/
abbrev GG := D → Rho → Option Rho
def DG (K : PySem.W.Frag) (ws : List Nat) (t : TG) (g : GG) : Prop := ∀ b0 B Z0 Z H σ ρ v d ρ' (Q : L2.St → Hp → Prop), Ok K b0 B Z0 Z H σ ρ → Rp K Z v d → g d ρ = some ρ' → (∀ σ', Ok K b0 B Z0 Z H σ' ρ' → wipe σ' ws = wipe σ ws → Q σ' H) → t v σ H Q
def DGs (K : PySem.W.Frag) (ws : List Nat) (t : TGs) (g : List D → Rho → Option Rho) : Prop := ∀ b0 B Z0 Z H σ ρ vs ds ρ' (Q : L2.St → Hp → Prop), Ok K b0 B Z0 Z H σ ρ → RpA K Z vs ds → g ds ρ = some ρ' → (∀ σ', Ok K b0 B Z0 Z H σ' ρ' → wipe σ' ws = wipe σ ws → Q σ' H) → t vs σ H Q
def gN (i : Nat) (d : D) (ρ : Rho) : Option Rho := some (ρ.set i (.sh d))
def gsNil (ds : List D) (ρ : Rho) : Option Rho := match ds with
  | [] => some ρ
  | _ => none
def gsCons (g : GG) (r : List D → Rho → Option Rho) (ds : List D) (ρ : Rho) : Option Rho := match ds with
  | [] => none
  | d :: ds => (g d ρ).bind (r ds)
def gT (n : Nat) (g : List D → Rho → Option Rho) (d : D) (ρ : Rho) : Option Rho := match d with
  | .tuple ds => if ds.length = n then g ds ρ else none
  | _ => none
theorem wipe_comm (σ : L2.St) (x : Option V) : ∀ (ws : List Nat) (i : Nat), i ∉ ws → wipe (σ.set i x) ws = (wipe σ ws).set i x
  | [], i, _ => rfl
  | w :: ws, i, h => by
    unfold wipe
    have n1 : i ≠ w := fun z => h (by rw [z]; exact List.mem_cons_self)
    rw [wipe_comm σ x ws i fun z => h (List.mem_cons_of_mem _ z), List.set_comm _ _ n1]
theorem wipe_set {σ : L2.St} {x : Option V} : ∀ {ws : List Nat} {i : Nat}, i ∈ ws → wipe (σ.set i x) ws = wipe σ ws
  | [], i, h => nomatch h
  | w :: ws, i, h => by
    unfold wipe
    by_cases hi : i ∈ ws
    · rw [wipe_set hi]
    · have e : i = w := by
        rcases List.mem_cons.mp h with z | z
        · exact z
        · exact absurd z hi
      subst e
      rw [wipe_comm σ x ws i hi, List.set_set]
variable {ws : List Nat}
theorem dg_name {i : Nat} (hi : i ∈ ws) : DG K ws (gName i) (gN i) := fun b0 B Z0 Z H σ ρ v d ρ' Q ok r e q => by
  cases e
  exact q _ (ok.put r) (wipe_set hi)
theorem dgs_nil : DGs K ws gNil gsNil := fun b0 B Z0 Z H σ ρ vs ds ρ' Q ok r e q => by
  cases r with
  | nil => cases e; exact ⟨rfl, q σ ok rfl⟩
  | cons h r => cases e
theorem dgs_cons {t : TG} {u : TGs} {g : GG} {k : List D → Rho → Option Rho} (h : DG K ws t g) (h2 : DGs K ws u k) : DGs K ws (gCons t u) (gsCons g k) := fun b0 B Z0 Z H σ ρ vs ds ρ' Q ok r e q => by
  cases r with
  | nil => cases e
  | cons h1 r =>
    obtain ⟨ρ1, e1, e2⟩ := Option.bind_eq_some_iff.mp e
    exact ⟨_, _, rfl, h b0 B Z0 Z H σ ρ _ _ ρ1 _ ok h1 e1 fun σ1 ok1 w1 => h2 b0 B Z0 Z H σ1 ρ1 _ _ ρ' Q ok1 r e2 fun σ2 ok2 w2 => q σ2 ok2 (w2.trans w1)⟩
theorem dg_tup {n : Nat} {u : TGs} {g : List D → Rho → Option Rho} (h : DGs K ws u g) : DG K ws (gTup K n u) (gT n g) := fun b0 B Z0 Z H σ ρ v d ρ' Q ok r e q => by
  unfold gT at e
  split at e
  · split at e
    · cases r with
      | tup hs ra => exact ⟨_, _, rfl, same_t ok.zh hs, by rw [ra.length]; assumption, h b0 B Z0 Z H σ ρ _ _ ρ' Q ok ra e q⟩
    · cases e
  · cases e
def sTo (g : GE) (k : GG) (ρ : Rho) : O := (g ρ).to fun d ρ1 => match k d ρ1 with
  | some ρ2 => .nx ρ2
  | none => .bad
end
end DL
namespace DL
open PySem L2
section
variable {K : PySem.W.Frag} {Wx : WX} {ta tb te : TE} {tt tu : TT} {tas : TA} {t u : TS} {b0 : Option Addr} {B Z0 Z H : Hp} {σ : L2.St} {ρ : Rho} {E : Ends} {p : Addr} {o o' : HO}
theorem Ok.frame (ok : Ok K b0 B Z0 Z H σ ρ) (zp : Z p = none) (ap : Apart σ ρ p) (hp : H p = some o) : Ok K b0 (upd B p o) Z0 Z H σ ρ := by
  refine ⟨ok.len, fun b x e => ?_, ok.zh, ok.zz, fun b x e => ?_, ok.sh, fun i s e eo => ?_, ok.fix, ok.sepS⟩
  · by_cases hb : b = p
    · subst hb; rw [upd_same] at e; rw [← e]; exact hp
    · rw [upd_ne hb] at e; exact ok.bh b x e
  · rcases ok.nb b x e with z | z
    · exact .inl z
    · exact .inr (by rw [upd_ne (ne_of_none e zp)]; exact z)
  · obtain ⟨q, vs, e1, e2, e3, e4, e5⟩ := ok.own i s e eo
    have nq : q ≠ p := fun z => ap i s e eo (by rw [e1, z])
    exact ⟨q, vs, e1, e2, by rw [upd_ne nq]; exact e3, e4, e5⟩
theorem Ok.unframe (ok : Ok K b0 (upd B p o) Z0 Z H σ ρ) (zp : Z0 p = none) (bp : B p = none) : Ok K b0 B Z0 Z H σ ρ ∧ Z p = none ∧ Apart σ ρ p ∧ H p = some o := by
  have hz : Z p = none := by
    cases q : Z p with
    | none => rfl
    | some x =>
      rcases ok.nb p x q with z | z
      · rw [zp] at z; cases z
      · rw [upd_same] at z; cases z
  refine ⟨⟨ok.len, fun b x e => ok.bh b x (by rw [upd_ne (ne_of_none e bp)]; exact e), ok.zh, ok.zz, fun b x e => ?_, ok.sh, fun i s e eo => ?_, ok.fix, ok.sepS⟩, hz, fun i s e eo q => ?_, ok.bh p o upd_same⟩
  · rcases ok.nb b x e with z | z
    · exact .inl z
    · rw [upd_ne (ne_of_none e hz)] at z; exact .inr z
  · obtain ⟨q, vs, e1, e2, e3, e4, e5⟩ := ok.own i s e eo
    have nq : q ≠ p := fun z => by rw [z, upd_same] at e3; cases e3
    rw [upd_ne nq] at e3
    exact ⟨q, vs, e1, e2, e3, e4, e5⟩
  · obtain ⟨q', vs, e1, e2, e3, e4, e5⟩ := ok.own i s e eo
    rw [e1] at q
    cases q
    rw [upd_same] at e3
    cases e3
theorem Ok.reframe (ok : Ok K b0 (upd B p o) Z0 Z H σ ρ) (zp : Z0 p = none) (bp : B p = none) : Ok K b0 (upd B p o') Z0 Z (upd H p o') σ ρ := by
  obtain ⟨ok1, hz, ap, hp⟩ := ok.unframe zp bp
  exact (ok1.write (o := o') hz bp ap).frame hz ap upd_same
/-- all that is frozen joins what stays -/
def joinH (B Z : Hp) : Hp := fun p => match B p with
  | some o => some o
  | none => Z p
theorem Ok.enter (ok : Ok K b0 B Z0 Z H σ ρ) : Ok K b0 (joinH B Z) Z Z H σ ρ := by
  refine ⟨ok.len, fun b x e => ?_, ok.zh, Same.refl Z, fun b x e => .inl e, ok.sh, fun i s e eo => ?_, ok.fix, ok.sepS⟩
  · unfold joinH at e
    split at e
    · cases e; exact ok.bh b _ (by assumption)
    · exact ok.zh b x e
  · obtain ⟨q, vs, e1, e2, e3, e4, e5⟩ := ok.own i s e eo
    exact ⟨q, vs, e1, e2, by unfold joinH; rw [e3]; exact e2, e4, e5⟩
theorem Ok.leave {Z' H' : Hp} {σ' : L2.St} {ρ' : Rho} (ok : Ok K b0 B Z0 Z H σ ρ) (ok' : Ok K b0 (joinH B Z) Z Z' H' σ' ρ') : Ok K b0 B Z0 Z' H' σ' ρ' := by
  have jb : ∀ q, joinH B Z q = none → B q = none := fun q e => by
    unfold joinH at e
    split at e
    · cases e
    · assumption
  refine ⟨ok'.len, fun b x e => ok'.bh b x (by unfold joinH; rw [e]), ok'.zh, ok.zz.trans ok'.zz, fun b x e => ?_, ok'.sh, fun i s e eo => ?_, ok'.fix, ok'.sepS⟩
  · rcases ok'.nb b x e with z | z
    · exact ok.nb b x z
    · exact .inr (jb b z)
  · obtain ⟨q, vs, e1, e2, e3, e4, e5⟩ := ok'.own i s e eo
    exact ⟨q, vs, e1, e2, jb q e3, e4, e5⟩
theorem Sat.leave {o : O} (ok : Ok K b0 B Z0 Z H σ ρ) (s : Sat K Wx b0 B Z0 E o) : Sat K Wx b0 (joinH B Z) Z E o := by
  have jb : ∀ q, joinH B Z q = none → B q = none := fun q e => by
    unfold joinH at e
    split at e
    · cases e
    · assumption
  cases o with
  | nx ρ' => exact fun σ' H' Z' ok' => s σ' H' Z' (ok.leave ok')
  | rt d ρ' => exact fun v σ' H' Z' ok' r => s v σ' H' Z' (ok.leave ok') r
  | rf ds ρ' => exact fun p vs σ' H' Z' ok' zp bp ap hp r => s p vs σ' H' Z' (ok.leave ok') zp (jb p bp) ap hp r
  | bk ρ' => exact fun σ' H' Z' ok' => s σ' H' Z' (ok.leave ok')
  | ct ρ' => exact fun σ' H' Z' ok' => s σ' H' Z' (ok.leave ok')
  | ex c d ρ' => exact fun σ' H' Z' C dx v ok' => s σ' H' Z' C dx v (ok.leave ok')
  | bad => exact s.elim
/-- a value on the way into a slot: shared data, or a new list -/
inductive Nw where
  | s (d : D)
  | f (ds : List D)
def Nw.sl : Nw → Sl
  | .s d => .sh d
  | .f ds => .ow ds
def nS (g : GE) (ρ : Rho) : R Nw := (g ρ).map .s
def nF (g : GF) (ρ : Rho) : R Nw := (g ρ).map .f
def NwR (K : PySem.W.Frag) (B Z H : Hp) (σ : L2.St) (ρ : Rho) (v : V) : Nw → Prop
  | .s d => Rp K Z v d
  | .f ds => ∃ p vs, v = .ref p ∧ Z p = none ∧ B p = none ∧ Apart σ ρ p ∧ H p = some (.lst vs) ∧ RpA K Z vs ds
def DN (K : PySem.W.Frag) (t : TE) (g : Rho → R Nw) : Prop := ∀ b0 B Z0 Z H σ ρ n ρ' (Q : VK), Ok K b0 B Z0 Z H σ ρ → g ρ = .ok n ρ' → (∀ v H' Z', Ok K b0 B Z0 Z' H' σ ρ' → Same Z Z' → NwR K B Z' H' σ ρ' v n → Q v H') → t σ H Q
theorem dn_f {g : GF} (h : DF K te g) : DN K te (nF g) := fun b0 B Z0 Z H σ ρ n ρ' Q ok e q => by
  obtain ⟨d, e1, rfl⟩ := R.map_ok e
  exact h b0 B Z0 Z H σ ρ d ρ' Q ok e1 fun p vs H' Z' ok' s zp bp ap hp r => q _ H' Z' ok' s ⟨p, vs, rfl, zp, bp, ap, hp, r⟩
def sPar (i j : Nat) (a b : Rho → R Nw) (ρ : Rho) : O := (a ρ).to fun x ρ1 => (b ρ1).to fun y ρ2 => .nx ((ρ2.set i x.sl).set j y.sl)
theorem ds_par {i j : Nat} {a b : Rho → R Nw} (ha : DN K ta a) (hb : DN K tb b) (hi : i ≠ 0 := by decide) (hj0 : j ≠ 0 := by decide) : DS K Wx (tPar i j (tCons ta (tCons tb tNil))) (sPar i j a b) := fun b0 B Z0 Z H σ ρ E ok s => by
  obtain ⟨x, ρ1, e1, s⟩ := Sat.to s
  obtain ⟨y, ρ2, e2, s⟩ := Sat.to s
  refine ha b0 B Z0 Z H σ ρ x ρ1 _ ok e1 fun v H1 Z1 ok1 s1 r1 => ?_
  have pa : ∀ {q : Addr} {ds : List D} {H2 Z2 : Hp}, Ok K b0 B Z0 Z2 H2 σ ρ2 → B q = none → Z2 q = none → Apart σ ρ2 q → ∀ {k : Nat} {w : V} {m : Nw}, NwR K B Z2 H2 σ ρ2 w m → w ≠ .ref q → Apart (σ.set k (some w)) (ρ2.set k m.sl) q := by
    intro q ds H2 Z2 ok2 bq zq aq k w m rm hw j' es hj ho hq
    rcases set_get hj with ⟨ek, e⟩ | ⟨nk, e⟩
    · subst ek
      rcases set_get hq with ⟨_, e2⟩ | ⟨n2, _⟩
      · exact hw (Option.some.inj e2)
      · exact n2 rfl
    · rw [List.getElem?_set_ne nk] at hq
      exact aq j' es e ho hq
  cases x with
  | s d =>
    refine hb b0 B Z0 Z1 H1 σ ρ1 y ρ2 _ ok1 e2 fun w H2 Z2 ok2 s2 r2 => ⟨v, w, rfl, ?_⟩
    have okv := ok2.put (i := i) (Rp.mono s2 r1)
    refine s _ H2 Z2 ?_
    cases y with
    | s d2 => exact okv.put r2
    | f ds =>
      obtain ⟨q, vs, rfl, zq, bq, aq, hq, ra⟩ := r2
      refine okv.putO zq bq (fun j' es hj ho hqq => ?_) hq ra fun _ _ z => absurd z hj0
      rcases set_get hj with ⟨_, z⟩ | ⟨nk, e⟩
      · subst z; cases ho
      · rw [List.getElem?_set_ne nk] at hqq
        exact aq j' es e ho hqq
  | f ds =>
    obtain ⟨q, vs, rfl, zq, bq, aq, hq, ra⟩ := r1
    have okf := ok1.frame zq aq hq
    refine hb b0 (upd B q (.lst vs)) Z0 Z1 H1 σ ρ1 y ρ2 _ okf e2 fun w H2 Z2 ok2 s2 r2 => ⟨.ref q, w, rfl, ?_⟩
    obtain ⟨ok3, zq2, aq2, hq2⟩ := ok2.unframe (ok1.zz.free zq) bq
    have okv := ok3.putO (i := i) zq2 bq aq2 hq2 (ra.mono s2) fun _ _ z => absurd z hi
    refine s _ H2 Z2 ?_
    cases y with
    | s d2 => exact okv.put r2
    | f ds2 =>
      obtain ⟨q', vs', rfl, zq', bq', aq', hq', ra'⟩ := r2
      have nq : q' ≠ q := fun z => by rw [z, upd_same] at bq'; cases bq'
      rw [upd_ne nq] at bq'
      refine okv.putO zq' bq' (fun j' es hj ho hqq => ?_) hq' ra' fun _ _ z => absurd z hj0
      rcases set_get hj with ⟨ek, _⟩ | ⟨nk, e⟩
      · subst ek
        rcases set_get hqq with ⟨_, e2⟩ | ⟨n2, _⟩
        · have z := Option.some.inj e2
          injection z with z
          exact nq z.symm
        · exact n2 rfl
      · rw [List.getElem?_set_ne nk] at hqq
        exact aq' j' es e ho hqq
def isOw : Option Sl → Bool
  | some (.ow _) => true
  | _ => false
def sApp (i : Nat) (g : GE) (ρ : Rho) : O := if isOw ρ[i]? then (g ρ).to fun d ρ1 => match ρ1[i]? with
    | some (.ow ds) => if ds.length < sizeLine then .nx (ρ1.set i (.ow (ds ++ [d]))) else .bad
    | _ => .bad
  else .bad
theorem Ok.isOw {i : Nat} (ok : Ok K b0 B Z0 Z H σ ρ) (h : isOw ρ[i]? = true) : ∃ p vs, σ[i]? = some (some (.ref p)) ∧ H p = some (.lst vs) := by
  unfold DL.isOw at h
  split at h
  · rename_i ds e
    obtain ⟨p, vs, e1, _, _, e4, _⟩ := ok.ow i ds e
    exact ⟨p, vs, e1, e4⟩
  · cases h
theorem Ok.rewrite {i : Nat} {ds es : List D} {vs' : List V} (ok : Ok K b0 B Z0 Z H σ ρ) (h : ρ[i]? = some (.ow ds)) (hp : σ[i]? = some (some (.ref p))) (r : RpA K Z vs' es) : Ok K b0 B Z0 Z (upd H p (.lst vs')) σ (ρ.set i (.ow es)) := by
  obtain ⟨q, vs, e1, ok', zp, bp, ap, _, _⟩ := ok.release h
  rw [hp] at e1
  cases e1
  have ok2 := ok'.write (o := .lst vs') zp bp ap
  have ok3 := ok2.putO (i := i) zp bp ap upd_same r fun a ha hi0 => by
    subst hi0
    have z := ok.fix a ha ds h
    rw [hp] at z
    injection z with z
    injection z with z
    injection z
  rw [List.set_set] at ok3
  have e : σ.set i (some (.ref p)) = σ := by
    apply List.ext_getElem?
    intro j
    by_cases hj : i = j
    · subst hj
      rw [List.getElem?_set_self (by
        by_cases z : i < σ.length
        · exact z
        · rw [List.getElem?_eq_none (by simpa using z)] at hp; cases hp), hp]
    · rw [List.getElem?_set_ne hj]
  rw [e] at ok3
  exact ok3
theorem ds_app {i : Nat} {g : GE} (h : DE K te g) : DS K Wx (tDrop (tBM K "list" rAppend (tVar i) (tCons te tNil))) (sApp i g) := fun b0 B Z0 Z H σ ρ E ok s => by
  unfold sApp at s
  split at s
  · rename_i h0
    obtain ⟨p, vs0, e0, hp0⟩ := ok.isOw h0
    obtain ⟨d, ρ1, e1, s⟩ := Sat.to s
    split at s
    · rename_i ds hi
      split at s
      · rename_i hs
        refine ⟨.ref p, e0, .inl ⟨rfl, vs0, .inl (.inl hp0)⟩, ?_⟩
        refine h b0 B Z0 Z H σ ρ d ρ1 _ ok e1 fun v H1 Z1 ok1 s1 r1 => ?_
        obtain ⟨q, vs, f1, f2, f3, f4, f5⟩ := ok1.ow i ds hi
        rw [e0] at f1
        cases f1
        exact ⟨p, vs, v, rfl, rfl, f4, by rw [f5.length]; exact hs, s σ _ Z1 (ok1.rewrite hi e0 (f5.append (.one r1)))⟩
      · exact s.elim
    · exact s.elim
  · exact s.elim
/-- x[k] = e -/
def sPutIx (i : Nat) (gk : GE) (g : GE) (ρ : Rho) : O := (g ρ).to fun d ρ1 => if isOw ρ1[i]? then (gk ρ1).to fun k ρ2 => match k, ρ2[i]? with
    | .int k, some (.ow ds) => (match ixN ds.length k with
      | some j => .nx (ρ2.set i (.ow (ds.set j d)))
      | none => .bad)
    | _, _ => .bad
  else .bad
theorem ds_putIx {i : Nat} {gk g : GE} (h : DE K te g) (hk : DE K tb gk) : DS K Wx (tAsg te (gSub (tVar i) tb rSetL)) (sPutIx i gk g) := fun b0 B Z0 Z H σ ρ E ok s => by
  unfold sPutIx at s
  obtain ⟨d, ρ1, e1, s⟩ := Sat.to s
  refine h b0 B Z0 Z H σ ρ d ρ1 _ ok e1 fun v H1 Z1 ok1 s1 r1 => ?_
  split at s
  · rename_i h0
    obtain ⟨p, vs0, e0, hp0⟩ := ok1.isOw h0
    obtain ⟨k, ρ2, e2, s⟩ := Sat.to s
    split at s
    · rename_i k' ds hi
      split at s
      · rename_i j hj
        refine ⟨.ref p, e0, ?_⟩
        refine hk b0 B Z0 Z1 H1 σ ρ1 _ ρ2 _ ok1 e2 fun w H2 Z2 ok2 s2 r2 => ?_
        cases r2
        obtain ⟨q, vs, f1, f2, f3, f4, f5⟩ := ok2.ow i ds hi
        rw [e0] at f1
        cases f1
        exact ⟨p, vs, k', j, rfl, rfl, f4, by rw [f5.length]; exact hj, s σ _ Z2 (ok2.rewrite hi e0 (f5.set (r1.mono s2) j))⟩
      · exact s.elim
    · exact s.elim
  · exact s.elim
def sAug (i : Nat) (f : D → D → Option D) (g : GE) (ρ : Rho) : O := match ρ[i]? with
  | some (.sh a) => (g ρ).to fun b ρ1 => match f a b with
    | some c => .nx (ρ1.set i (.sh c))
    | none => .bad
  | _ => .bad
structure Wk (K : PySem.W.Frag) (J : It) (Z : Hp) (ds : List D) : Prop where
  goes : ∀ i H, i < ds.length → Same Z H → J.go i H
  stops : ∀ H, Same Z H → J.stop ds.length H
  yields : ∀ i H x H', i < ds.length → J.yld i H x H' → ∀ b0 B Z0 Z' σ ρ, Ok K b0 B Z0 Z' H σ ρ → Same Z Z' → ∃ Z'' d, Ok K b0 B Z0 Z'' H' σ ρ ∧ Same Z' Z'' ∧ ds[i]? = some d ∧ Rp K Z'' x d
def DI (K : PySem.W.Frag) (t : TI) (g : GF) : Prop := ∀ b0 B Z0 Z H σ ρ ds ρ' (R : It → Hp → Prop), Ok K b0 B Z0 Z H σ ρ → g ρ = .ok ds ρ' → (∀ J H' Z', Ok K b0 B Z0 Z' H' σ ρ' → Same Z Z' → Wk K J Z' ds → R J H') → t σ H R
def forL (k : GG) (b : GS) : List D → Rho → O
  | [], ρ => .nx ρ
  | d :: ds, ρ => match k d ρ with
    | none => .bad
    | some ρ1 => match b ρ1 with
      | .nx ρ2 => forL k b ds ρ2
      | .ct ρ2 => forL k b ds ρ2
      | .bk ρ2 => .nx ρ2
      | o => o
def sFor (gi : GF) (k : GG) (b : GS) (ρ : Rho) : O := (gi ρ).to fun ds ρ1 => forL k b ds ρ1
theorem ds_for {ti : TI} {tg : TG} {tb : TS} {ws : List Nat} {gi : GF} {k : GG} {b : GS} (hi : DI K ti gi) (hk : DG K ws tg k) (hb : DS K Wx tb b) : DS K Wx (tFor ti tg tb) (sFor gi k b) := fun b0 B Z0 Z H σ ρ E ok s => by
  obtain ⟨ds, ρ1, e1, s⟩ := Sat.to s
  refine hi b0 B Z0 Z H σ ρ ds ρ1 _ ok e1 fun J H1 Z1 ok1 s1 wk => ?_
  have W : Walk J ds.length (fun H => Same Z1 H) (fun i H x H' => J.yld i H x H') := ⟨wk.goes, wk.stops, fun _ _ _ _ _ _ y => y⟩
  refine for_it W (fun i σ H => ∃ Z ρ, Ok K b0 (joinH B Z1) Z1 Z H σ ρ ∧ Sat K Wx b0 (joinH B Z1) Z1 E (forL k b (ds.drop i) ρ)) ⟨Z1, ρ1, ok1.enter, ?_⟩ (fun i σ H _ h => ?_) (fun i x σ H H' hlt h y => ?_) (fun σ H h => ?_)
  · rw [List.drop_zero]
    exact Sat.leave ok1 s
  · obtain ⟨Z, ρ, ok, _⟩ := h
    exact ok.zz.trans ok.zh
  · obtain ⟨Z2, ρ2, ok2, sat⟩ := h
    obtain ⟨Z3, d, ok3, s3, hd, rd⟩ := wk.yields i H x H' hlt y _ _ _ _ _ _ ok2 ok2.zz
    have ed : ds.drop i = d :: ds.drop (i + 1) := by
      obtain ⟨hl, e⟩ := List.getElem?_eq_some_iff.mp hd
      rw [← e]
      exact List.drop_eq_getElem_cons hl
    rw [ed] at sat
    unfold forL at sat
    split at sat
    · exact sat.elim
    · rename_i ρ3 hk3
      refine hk _ _ _ Z3 H' σ ρ2 x d ρ3 _ ok3 rd hk3 fun σ3 ok4 _ => ?_
      refine hb _ _ _ Z3 H' σ3 ρ3 _ ok4 ?_
      split at sat
      · rename_i ρ4 e4; rw [e4]; exact fun σ4 H4 Z4 ok5 => ⟨Z4, ρ4, ok5, sat⟩
      · rename_i ρ4 e4; rw [e4]; exact fun σ4 H4 Z4 ok5 => ⟨Z4, ρ4, ok5, sat⟩
      · rename_i ρ4 e4; rw [e4]; exact sat
      · rename_i o h1 h2 h3
        generalize b ρ3 = o' at *
        cases o' with
        | nx ρ' => exact absurd rfl (h1 ρ')
        | ct ρ' => exact absurd rfl (h2 ρ')
        | bk ρ' => exact absurd rfl (h3 ρ')
        | rt d ρ' => exact sat
        | rf ds ρ' => exact sat
        | ex c d ρ' => exact sat
        | bad => exact sat.elim
  · obtain ⟨Z2, ρ2, ok2, sat⟩ := h
    rw [List.drop_length] at sat
    exact sat σ H Z2 ok2
end
end DL
namespace DL
open PySem L2
section
variable {K : PySem.W.Frag} {Wx : WX} {ta tb te : TE} {tt tu : TT} {tas : TA} {t u : TS} {b0 : Option Addr} {B Z0 Z H : Hp} {σ : L2.St} {ρ : Rho} {E : Ends} {p : Addr} {o o' : HO}
def wipeR (ρ : Rho) : List Nat → Rho
  | [] => ρ
  | v :: vs => (wipeR ρ vs).set v .no
theorem wipeR_len : ∀ (vs : List Nat), (wipeR ρ vs).length = ρ.length
  | [] => rfl
  | v :: vs => by unfold wipeR; rw [List.length_set, wipeR_len vs]
theorem wipeR_get {i : Nat} {s : Sl} : ∀ {vs : List Nat}, (wipeR ρ vs)[i]? = some s → s = .no ∨ (i ∉ vs ∧ ρ[i]? = some s)
  | [], h => .inr ⟨by simp, h⟩
  | v :: vs, h => by
    unfold wipeR at h
    rcases set_get h with ⟨_, e⟩ | ⟨n, e⟩
    · exact .inl e.symm
    · rcases wipeR_get e with z | ⟨z1, z2⟩
      · exact .inl z
      · exact .inr ⟨fun z => (List.mem_cons.mp z).elim (fun y => n y.symm) z1, z2⟩
theorem wipe_get {i : Nat} : ∀ {vs : List Nat}, i ∉ vs → (wipe σ vs)[i]? = σ[i]?
  | [], _ => rfl
  | v :: vs, h => by
    unfold wipe
    rw [List.getElem?_set_ne (fun z => h (by rw [z]; exact List.mem_cons_self)), wipe_get fun z => h (List.mem_cons_of_mem _ z)]
theorem Ok.wipe (vs : List Nat) (ok : Ok K b0 B Z0 Z H σ ρ) : Ok K b0 B Z0 Z H (wipe σ vs) (wipeR ρ vs) :=
  ok.weak (by rw [wipe_length, wipeR_len]; exact ok.len) fun i s h => (wipeR_get h).imp id fun z => ⟨z.2, wipe_get z.1⟩
theorem Ok.unwipe (vs : List Nat) (ok : Ok K b0 B Z0 Z H (L2.wipe σ vs) ρ) : Ok K b0 B Z0 Z H σ (wipeR ρ vs) :=
  ok.weak (by rw [wipeR_len, ← ok.len, wipe_length]) fun i s h => (wipeR_get h).imp id fun z => ⟨z.2, (wipe_get z.1).symm⟩
theorem wipe_wipe (σ : L2.St) (vs : List Nat) : L2.wipe (L2.wipe σ vs) vs = L2.wipe σ vs := by
  apply List.ext_getElem?
  intro i
  by_cases h : i ∈ vs
  · have e : ∀ (τ : L2.St) (ws : List Nat), i ∈ ws → (L2.wipe τ ws)[i]? = if i < τ.length then some none else none := by
      intro τ ws
      induction ws with
      | nil => intro h; cases h
      | cons w ws ih =>
        intro h
        unfold L2.wipe
        by_cases hw : w = i
        · subst hw
          by_cases hl : w < τ.length
          · rw [List.getElem?_set_self (by rw [wipe_length]; exact hl), if_pos hl]
          · rw [if_neg hl, List.getElem?_eq_none (by rw [List.length_set, wipe_length]; omega)]
        · rw [List.getElem?_set_ne hw]
          exact ih ((List.mem_cons.mp h).resolve_left fun z => hw z.symm)
    rw [e _ _ h, e _ _ h, wipe_length]
  · rw [wipe_get h]
def gYes (ρ : Rho) : R Bool := .ok true ρ
theorem dt_yes : DT K tYes gYes := fun b0 B Z0 Z H σ ρ b ρ' Q ok e q => by
  cases e
  exact q H Z ok (Same.refl Z)
def lcL (vs : List Nat) (k : GG) (t : GT) (e : GE) : List D → Rho → R (List D)
  | [], ρ => .ok [] ρ
  | d :: ds, ρ => match k d ρ with
    | none => .bad
    | some ρ1 => (t ρ1).bind fun b ρ2 => if b then (e ρ2).bind fun y ρ3 => (lcL vs k t e ds (wipeR ρ3 vs)).map (y :: ·) else lcL vs k t e ds (wipeR ρ2 vs)
def eLc (vs : List Nat) (gi : GF) (k : GG) (t : GT) (e : GE) (ρ : Rho) : R (List D) := (gi ρ).bind fun ds ρ1 => if ds.length ≤ sizeLine then (lcL vs k t e ds (wipeR ρ1 vs)).bind fun ys ρ2 => .ok ys (wipeR ρ2 vs) else .bad
theorem df_lc {ti : TI} {tg : TG} {vs : List Nat} {gi : GF} {k : GG} {gt : GT} {ge : GE} (hi : DI K ti gi) (hk : DG K vs tg k) (ht : DT K tt gt) (he : DE K te ge) : DF K (tLc ti tg tt te vs) (eLc vs gi k gt ge) := fun b0 B Z0 Z H σ ρ ys ρ' Q ok e q => by
  obtain ⟨ds, ρ1, e1, e2⟩ := R.bind_ok e
  split at e2
  · rename_i hsz
    obtain ⟨ys', ρ2, e3, e4⟩ := R.bind_ok e2
    cases e4
    refine hi b0 B Z0 Z H σ ρ ds ρ1 _ ok e1 fun J H1 Z1 ok1 s1 wk => fun D hD => ?_
    have W : Walk J ds.length (fun H => Same Z1 H) (fun i H x H' => J.yld i H x H') := ⟨wk.goes, wk.stops, fun _ _ _ _ _ _ y => y⟩
    have bD : B D = none := ok1.bh.free hD
    have zD : Z0 D = none := ok1.zz.free (ok1.zh.free hD)
    refine lc_it W (fun i H => ∃ Z ρ acc da rest, Ok K b0 (upd B D (.lst acc)) Z0 Z H (wipe σ vs) ρ ∧ Same Z1 Z ∧ RpA K Z acc da ∧ acc.length ≤ i ∧ lcL vs k gt ge (ds.drop i) ρ = .ok rest ρ2 ∧ ys = da ++ rest) ?_ (fun i H _ h => ?_) (fun i x H H' hlt h y => ?_) (fun H h => ?_)
    · obtain ⟨okf, zf, bf, af⟩ := ok1.fresh (o := .lst []) hD
      have okw := okf.frame zf af upd_same
      refine ⟨Z1, wipeR ρ1 vs, [], [], ys, okw.wipe vs, Same.refl Z1, .nil, Nat.le_refl 0, ?_, rfl⟩
      rw [List.drop_zero]
      exact e3
    · obtain ⟨Z2, ρ2, acc, da, rest, ok2, s2, _⟩ := h
      exact s2.trans ok2.zh
    · obtain ⟨Z2, ρ2', acc, da, rest, ok2, s2, ra, hl, el, ey⟩ := h
      obtain ⟨Z3, d, ok3, s3, hd, rd⟩ := wk.yields i H x H' hlt y _ _ _ _ _ _ ok2 s2
      have ed : ds.drop i = d :: ds.drop (i + 1) := by
        obtain ⟨hl, e⟩ := List.getElem?_eq_some_iff.mp hd
        rw [← e]
        exact List.drop_eq_getElem_cons hl
      rw [ed] at el
      unfold lcL at el
      split at el
      · cases el
      · rename_i ρ3 hk3
        refine hk _ _ _ Z3 H' (wipe σ vs) ρ2' x d ρ3 _ ok3 rd hk3 fun σ3 ok4 w4 => ⟨w4.trans (wipe_wipe σ vs), ?_⟩
        obtain ⟨b, ρ4, e4, el⟩ := R.bind_ok el
        refine ht _ _ _ Z3 H' σ3 ρ3 b ρ4 _ ok4 e4 fun H5 Z5 ok5 s5 => ?_
        cases b with
        | false =>
          refine ⟨Z5, wipeR ρ4 vs, acc, da, rest, ?_, (s2.trans s3).trans s5, (ra.mono s3).mono s5, Nat.le_succ_of_le hl, el, ey⟩
          have := ok5.wipe vs
          rw [w4, wipe_wipe] at this
          exact this
        | true =>
          obtain ⟨yv, ρ5, e5, el⟩ := R.bind_ok el
          obtain ⟨rest', e6, rfl⟩ := R.map_ok el
          refine he _ _ _ Z5 H5 σ3 ρ4 yv ρ5 _ ok5 e5 fun v H6 Z6 ok6 s6 r6 => ?_
          obtain ⟨_, hz6, ap6, hp6⟩ := ok6.unframe zD bD
          refine ⟨acc, hp6, by omega, Z6, wipeR ρ5 vs, acc ++ [v], da ++ [yv], rest', ?_, ((s2.trans s3).trans s5).trans s6, (((ra.mono s3).mono s5).mono s6).append (.one r6), ?_, e6, ?_⟩
          · have := (ok6.reframe (o' := .lst (acc ++ [v])) zD bD).wipe vs
            rw [w4, wipe_wipe] at this
            exact this
          · rw [List.length_append, List.length_singleton]; omega
          · rw [ey, List.append_assoc]; rfl
    · obtain ⟨Z2, ρ2', acc, da, rest, ok2, s2, ra, hl, el, ey⟩ := h
      rw [List.drop_length] at el
      cases el
      obtain ⟨ok3, hz, ap, hp⟩ := ok2.unframe zD bD
      have ok4 := ok3.unwipe vs
      rw [List.append_nil] at ey
      subst ey
      refine q D acc H Z2 ok4 (s1.trans s2) hz bD (fun i es hi ho hq => ?_) hp ra
      rcases wipeR_get hi with z | ⟨z1, z2⟩
      · subst z; cases ho
      · exact ap i es z2 ho (by rw [wipe_get z1]; exact hq)
  · cases e2
end
end DL
namespace DL
open PySem L2
section
variable {K : PySem.W.Frag} {Wx : WX} {ta tb te : TE} {tt tu : TT} {tas : TA} {t u : TS} {b0 : Option Addr} {B Z0 Z H : Hp} {σ : L2.St} {ρ : Rho} {p : Addr} {o o' : HO}
/-- what a caller hears of the frozen heap behind a call -/
def Grow (H Z Z' H' : Hp) : Prop := Same Z Z' ∧ Same Z' H' ∧ ∀ p o, Z' p = some o → Z p = some o ∨ H p = none
/-- a def that hands back data and changes nothing -/
def spP (K : PySem.W.Frag) (np : Nat) (F : List D → Option D) : Sp := fun vs H Q _ => vs.length = np ∧ ∃ Z ds d, Same Z H ∧ RpA K Z vs ds ∧ F ds = some d ∧ ∀ v H' Z', Same H H' → Grow H Z Z' H' → Rp K Z' v d → Q v H'
/-- .. a new list -/
def spF (K : PySem.W.Frag) (np : Nat) (F : List D → Option (List D)) : Sp := fun vs H Q _ => vs.length = np ∧ ∃ Z ds es, Same Z H ∧ RpA K Z vs ds ∧ F ds = some es ∧ ∀ p ws H' Z', Same H H' → Grow H Z Z' H' → H p = none → Z' p = none → H' p = some (.lst ws) → RpA K Z' ws es → Q (.ref p) H'
/-- a def whose first parameter is a list that it may change -/
def spB (K : PySem.W.Frag) (np : Nat) (F : List D → List D → Option (D × List D)) : Sp := fun vs H Q _ => vs.length = np ∧ ∃ Z b vb box rest ds d box', vs = .ref b :: rest ∧ Same Z H ∧ Z b = none ∧ H b = some (.lst vb) ∧ RpA K Z vb box ∧ RpA K Z rest ds ∧ F box ds = some (d, box') ∧
  ∀ v H' Z' vb', (∀ p o, p ≠ b → H p = some o → H' p = some o) → Grow H Z Z' H' → Z' b = none → H' b = some (.lst vb') → RpA K Z' vb' box' → Rp K Z' v d → Q v H'
def env0 (n : Nat) (args : List D) : Rho := args.map .sh ++ List.replicate (n - args.length) .no
def envB (n : Nat) (box : List D) (args : List D) : Rho := .ow box :: (args.map .sh ++ List.replicate (n - (args.length + 1)) .no)
def callP (np n : Nat) (g : GS) : List D → Option D := fun args => if args.length ≠ np then none else match g (env0 n args) with
  | .rt d _ => some d
  | .nx _ => some .none
  | .rf ds _ => some (.list ds)
  | _ => none
def callF (np n : Nat) (g : GS) : List D → Option (List D) := fun args => if args.length ≠ np then none else match g (env0 n args) with
  | .rf ds _ => some ds
  | _ => none
def box0 (ρ : Rho) : Option (List D) := match (ρ[0]? : Option Sl) with
  | some (.ow b) => some b
  | _ => none
def callB (np n : Nat) (g : GS) : List D → List D → Option (D × List D) := fun box args => if args.length + 1 ≠ np then none else match g (envB n box args) with
  | .rt d ρ => (box0 ρ).map (d, ·)
  | .nx ρ => (box0 ρ).map (.none, ·)
  | .rf ds ρ => (box0 ρ).map (.list ds, ·)
  | _ => none
theorem args_get {vs : List V} {ds : List D} {n m i : Nat} {s : Sl} (r : RpA K Z vs ds) (h : (ds.map Sl.sh ++ List.replicate m .no)[i]? = some s) : s = .no ∨ ∃ d v, s = .sh d ∧ (vs.map some ++ List.replicate n none)[i]? = some (some v) ∧ Rp K Z v d := by
  by_cases hi : i < ds.length
  · rw [List.getElem?_append_left (by rw [List.length_map]; exact hi), List.getElem?_map] at h
    obtain ⟨d, hd, rfl⟩ := Option.map_eq_some_iff.mp h
    obtain ⟨v, hv, rv⟩ := r.get hd
    refine .inr ⟨d, v, rfl, ?_, rv⟩
    rw [List.getElem?_append_left (by rw [List.length_map, r.length]; exact hi), List.getElem?_map, hv]
    rfl
  · rw [List.getElem?_append_right (by rw [List.length_map]; omega), List.getElem?_replicate] at h
    split at h
    · exact .inl (Option.some.inj h).symm
    · cases h
theorem ok_start {N : List Str} {vs : List V} {ds : List D} (s : Same Z H) (r : RpA K Z vs ds) (hn : vs.length ≤ N.length) : Ok K none H Z Z H (L2.start N vs) (env0 N.length ds) := by
  unfold L2.start env0
  refine ⟨?_, Same.refl H, s, Same.refl Z, fun _ _ e => .inl e, fun i d h => ?_, fun i s h ho => ?_, (fun _ z => nomatch z), fun i j p s t h _ ho _ _ _ => ?_⟩
  · rw [List.length_append, List.length_append, List.length_map, List.length_map, List.length_replicate, List.length_replicate, r.length]
  · rcases args_get (n := N.length - vs.length) r h with z | ⟨d', v, e, e2, rv⟩
    · cases z
    · cases e; exact ⟨v, e2, rv⟩
  · rcases args_get (n := N.length - vs.length) r h with z | ⟨d', v, e, e2, rv⟩
    · subst z; cases ho
    · subst e; cases ho
  · rcases args_get (n := N.length - vs.length) r h with z | ⟨d', v, e, e2, rv⟩
    · subst z; cases ho
    · subst e; cases ho
/-- a body that reads as g keeps the promise -/
theorem run_P {N : List Str} {np : Nat} {g : GS} {vs : List V} {Q : VK} {E : XK} (h : DS K (fun _ _ _ _ => False) t g) (hk : np ≤ N.length) (hs : spP K np (callP np N.length g) vs H Q E) : t { nx := fun _ H' => Q .non H', rt := Q } (L2.start N vs) H := by
  obtain ⟨hl, Z, ds, d, sZ, ra, e, q⟩ := hs
  have ok := ok_start (N := N) sZ ra (by omega)
  refine h _ _ _ _ _ _ _ _ ok ?_
  unfold callP at e
  split at e
  · cases e
  split at e
  · rename_i d' ρ' e'
    cases e
    rw [e']
    exact fun v σ' H' Z' ok' r => q v H' Z' ok'.bh ⟨ok'.zz, ok'.zh, ok'.nb⟩ r
  · rename_i ρ' e'
    cases e
    rw [e']
    exact fun σ' H' Z' ok' => q .non H' Z' ok'.bh ⟨ok'.zz, ok'.zh, ok'.nb⟩ .non
  · rename_i ds' ρ' e'
    cases e
    rw [e']
    intro p ws σ' H' Z' ok' zp bp ap hp r
    obtain ⟨ok2, s2⟩ := ok'.freeze zp bp ap hp
    exact q (.ref p) H' _ ok2.bh ⟨ok2.zz, ok2.zh, ok2.nb⟩ (.lst upd_same (r.mono s2))
  · cases e
theorem run_F {N : List Str} {np : Nat} {g : GS} {vs : List V} {Q : VK} {E : XK} (h : DS K (fun _ _ _ _ => False) t g) (hk : np ≤ N.length) (hs : spF K np (callF np N.length g) vs H Q E) : t { nx := fun _ H' => Q .non H', rt := Q } (L2.start N vs) H := by
  obtain ⟨hl, Z, ds, d, sZ, ra, e, q⟩ := hs
  have ok := ok_start (N := N) sZ ra (by omega)
  refine h _ _ _ _ _ _ _ _ ok ?_
  unfold callF at e
  split at e
  · cases e
  split at e
  · rename_i ds' ρ' e'
    cases e
    rw [e']
    intro p ws σ' H' Z' ok' zp bp ap hp r
    exact q p ws H' Z' ok'.bh ⟨ok'.zz, ok'.zh, ok'.nb⟩ bp zp hp r
  · cases e
/-- H without b -/
def but (H : Hp) (b : Addr) : Hp := fun p => if p = b then none else H p
theorem but_same {b : Addr} : but H b b = none := if_pos rfl
theorem but_ne {b q : Addr} (h : q ≠ b) : but H b q = H q := if_neg h
theorem but_le {b : Addr} : Same (but H b) H := fun q o e => by
  by_cases hq : q = b
  · rw [hq, but_same] at e; cases e
  · rw [but_ne hq] at e; exact e
theorem ok_startB {N : List Str} {b : Addr} {vb rest : List V} {box ds : List D} (s : Same Z H) (zb : Z b = none) (hb : H b = some (.lst vb)) (rb : RpA K Z vb box) (r : RpA K Z rest ds) (hn : rest.length + 1 ≤ N.length) : Ok K (some b) (but H b) Z Z H (L2.start N (.ref b :: rest)) (envB N.length box ds) := by
  have len : (L2.start N (.ref b :: rest)) = some (.ref b) :: (rest.map some ++ List.replicate (N.length - (rest.length + 1)) none) := rfl
  rw [len]
  unfold envB
  have zb' : ∀ q o, Z q = some o → (Z q = some o ∨ but H b q = none) := fun q o e => .inl e
  have G : ∀ {i : Nat} {s : Sl}, (Sl.ow box :: (ds.map Sl.sh ++ List.replicate (N.length - (ds.length + 1)) .no))[i]? = some s → (i = 0 ∧ s = .ow box) ∨ s = .no ∨ ∃ j d v, i = j + 1 ∧ s = .sh d ∧ (rest.map some ++ List.replicate (N.length - (rest.length + 1)) none)[j]? = some (some v) ∧ Rp K Z v d := by
    intro i s h
    cases i with
    | zero => exact .inl ⟨rfl, (Option.some.inj h).symm⟩
    | succ j =>
      rw [List.getElem?_cons_succ] at h
      rcases args_get (n := N.length - (rest.length + 1)) r h with z | ⟨d', v, e, e2, rv⟩
      · exact .inr (.inl z)
      · exact .inr (.inr ⟨j, d', v, rfl, e, e2, rv⟩)
  refine ⟨?_, but_le, s, Same.refl Z, zb', fun i d h => ?_, fun i s h ho => ?_, fun a ha ds' h => by cases ha; rfl, fun i j p s t h h' ho ho' _ _ => ?_⟩
  · simp only [List.length_cons, List.length_append, List.length_map, List.length_replicate, r.length]
  · rcases G h with ⟨_, z⟩ | z | ⟨j, d', v, rfl, e, e2, rv⟩
    · cases z
    · cases z
    · cases e; exact ⟨v, by rw [List.getElem?_cons_succ]; exact e2, rv⟩
  · rcases G h with ⟨rfl, z⟩ | z | ⟨j, d', v, rfl, e, e2, rv⟩
    · subst z; exact ⟨b, _, rfl, zb, but_same, hb, vb, rfl, rb⟩
    · subst z; cases ho
    · subst e; cases ho
  · rcases G h with ⟨rfl, z⟩ | z | ⟨j, d', v, rfl, e, e2, rv⟩
    · rcases G h' with ⟨rfl, z⟩ | z | ⟨j, d', v, rfl, e, e2, rv⟩
      · rfl
      · subst z; cases ho'
      · subst e; cases ho'
    · subst z; cases ho
    · subst e; cases ho
theorem box0_ok {b : Addr} {Z' H' : Hp} {σ' : L2.St} {ρ' : Rho} {box' : List D} (ok : Ok K (some b) (but H b) Z0 Z' H' σ' ρ') (h : box0 ρ' = some box') : ∃ vb', Z' b = none ∧ H' b = some (.lst vb') ∧ RpA K Z' vb' box' := by
  unfold box0 at h
  split at h
  · rename_i b' e
    cases h
    obtain ⟨q, vs, e1, e2, e3, e4, e5⟩ := ok.ow 0 _ e
    have z := ok.fix b rfl _ e
    rw [e1] at z
    cases z
    exact ⟨vs, e2, e4, e5⟩
  · cases h
theorem but_nb {b : Addr} {Z' : Hp} (zb : Z' b = none) (h : ∀ p o, Z' p = some o → Z p = some o ∨ but H b p = none) : ∀ p o, Z' p = some o → Z p = some o ∨ H p = none := fun p o e => by
  rcases h p o e with z | z
  · exact .inl z
  · have n : p ≠ b := ne_of_none e zb
    rw [but_ne n] at z
    exact .inr z
theorem but_bh {b : Addr} {H' : Hp} (h : Same (but H b) H') : ∀ p o, p ≠ b → H p = some o → H' p = some o := fun p o n e => h p o (by rw [but_ne n]; exact e)
theorem run_B {N : List Str} {np : Nat} {g : GS} {vs : List V} {Q : VK} {E : XK} (h : DS K (fun _ _ _ _ => False) t g) (hk : np ≤ N.length) (hs : spB K np (callB np N.length g) vs H Q E) : t { nx := fun _ H' => Q .non H', rt := Q } (L2.start N vs) H := by
  obtain ⟨hl, Z, b, vb, box, rest, ds, d, box', rfl, sZ, zb, hb, rb, ra, e, q⟩ := hs
  have ok := ok_startB (N := N) sZ zb hb rb ra (by rw [List.length_cons] at hl; omega)
  refine h _ _ _ _ _ _ _ _ ok ?_
  unfold callB at e
  split at e
  · cases e
  split at e
  · rename_i d' ρ' e'
    obtain ⟨bx, e1, e2⟩ := Option.map_eq_some_iff.mp e
    cases e2
    rw [e']
    intro v σ' H' Z' ok' r
    obtain ⟨vb', z1, z2, z3⟩ := box0_ok ok' e1
    exact q v H' Z' vb' (but_bh ok'.bh) ⟨ok'.zz, ok'.zh, but_nb z1 ok'.nb⟩ z1 z2 z3 r
  · rename_i ρ' e'
    obtain ⟨bx, e1, e2⟩ := Option.map_eq_some_iff.mp e
    cases e2
    rw [e']
    intro σ' H' Z' ok'
    obtain ⟨vb', z1, z2, z3⟩ := box0_ok ok' e1
    exact q .non H' Z' vb' (but_bh ok'.bh) ⟨ok'.zz, ok'.zh, but_nb z1 ok'.nb⟩ z1 z2 z3 .non
  · rename_i ds' ρ' e'
    obtain ⟨bx, e1, e2⟩ := Option.map_eq_some_iff.mp e
    cases e2
    rw [e']
    intro p ws σ' H' Z' ok' zp bp ap hp r
    obtain ⟨ok2, s2⟩ := ok'.freeze zp bp ap hp
    obtain ⟨vb', z1, z2, z3⟩ := box0_ok ok2 e1
    exact q (.ref p) H' _ vb' (but_bh ok2.bh) ⟨ok2.zz, ok2.zh, but_nb z1 ok2.nb⟩ z1 z2 z3 (.lst upd_same (r.mono s2))
  · cases e
def flatD : D → Bool
  | .none => true
  | .bool _ => true
  | .int _ => true
  | .str _ => true
  | _ => false
theorem flat_rp {v : V} {d : D} {Z Z' : Hp} (h : flatD d = true) (r : Rp K Z v d) : Rp K Z' v d := by
  cases r with
  | non => exact .non
  | bl b => exact .bl b
  | int i => exact .int i
  | str x => exact .str x
  | lst _ _ => cases h
  | scr _ _ => cases h
  | tup _ _ => cases h
  | exc _ _ _ _ => cases h
  | dct _ _ => cases h
/-- a call, its arguments data -/
def eCall {α : Type} (F : List D → Option α) (ga : GA) (ρ : Rho) : R α := (ga ρ).bind fun os ρ1 => match valA os with
  | some ds => R.lift (F ds) ρ1
  | none => .bad
theorem call_ok {α : Type} {F : List D → Option α} {ga : GA} {ρ ρ' : Rho} {z : α} (e : eCall F ga ρ = .ok z ρ') : ∃ os ds, ga ρ = .ok os ρ' ∧ valA os = some ds ∧ F ds = some z := by
  obtain ⟨x, ρ1, e1, e2⟩ := R.bind_ok e
  split at e2
  · rename_i d h1
    obtain ⟨e5, rfl⟩ := R.lift_ok e2
    exact ⟨x, d, e1, h1, e5⟩
  · cases e2
/-- behind a call that keeps all -/
theorem Ok.grow {Z' H' : Hp} (ok : Ok K b0 B Z0 Z H σ ρ) (hh : Same H H') (g : Grow H Z Z' H') : Ok K b0 B Z0 Z' H' σ ρ := by
  refine ⟨ok.len, ok.bh.trans hh, g.2.1, ok.zz.trans g.1, fun p o e => ?_, fun i d e => ?_, fun i s e eo => ?_, ok.fix, ok.sepS⟩
  · rcases g.2.2 p o e with z | z
    · exact ok.nb p o z
    · exact .inr (ok.bh.free z)
  · obtain ⟨v, e1, e2⟩ := ok.sh i d e
    exact ⟨v, e1, e2.mono g.1⟩
  · obtain ⟨q, vs, e1, e2, e3, e4, e5⟩ := ok.own i s e eo
    refine ⟨q, vs, e1, ?_, e3, hh _ _ e4, e5.mono g.1⟩
    cases z : Z' q with
    | none => rfl
    | some o =>
      rcases g.2.2 q o z with y | y
      · rw [e2] at y; cases y
      · rw [e4] at y; cases y
theorem OpA.length {Z : Hp} {σ : L2.St} : ∀ {vs : List V} {os : List Op}, OpA K Z σ vs os → vs.length = os.length
  | _, _, .nil => rfl
  | _, _, .cons _ r => by rw [List.length_cons, List.length_cons, OpA.length r]
theorem callP_len {np n : Nat} {g : GS} : ∀ ds d, callP np n g ds = some d → ds.length = np := fun ds d h => by
  unfold callP at h
  split at h
  · cases h
  · omega
theorem callF_len {np n : Nat} {g : GS} : ∀ ds d, callF np n g ds = some d → ds.length = np := fun ds d h => by
  unfold callF at h
  split at h
  · cases h
  · omega
theorem callB_len {np n : Nat} {g : GS} : ∀ b ds d, callB np n g b ds = some d → ds.length + 1 = np := fun b ds d h => by
  unfold callB at h
  split at h
  · cases h
  · omega
theorem de_call {np : Nat} {F : List D → Option D} {ga : GA} {E : XK} (hF : ∀ ds d, F ds = some d → ds.length = np) (ha : DA K tas ga) : DE K (tCall (spP K np F) [] E tas) (eCall F ga) := fun b0 B Z0 Z H σ ρ d ρ' Q ok e q => by
  obtain ⟨os, ds, e1, e2, e3⟩ := call_ok e
  refine ha b0 B Z0 Z H σ ρ os ρ' _ ok e1 fun vs H1 Z1 ok1 s1 r1 => ?_
  have rA := valA_ok r1 e2
  refine ⟨by rw [List.append_nil, rA.length]; exact hF _ _ e3, Z1, ds, d, ok1.zh, by rw [List.append_nil]; exact rA, e3, fun v H' Z' hh g r => ?_⟩
  exact q v H' Z' (ok1.grow hh g) (s1.trans g.1) r
theorem df_call {np : Nat} {F : List D → Option (List D)} {ga : GA} {E : XK} (hF : ∀ ds d, F ds = some d → ds.length = np) (ha : DA K tas ga) : DF K (tCall (spF K np F) [] E tas) (eCall F ga) := fun b0 B Z0 Z H σ ρ d ρ' Q ok e q => by
  obtain ⟨os, ds, e1, e2, e3⟩ := call_ok e
  refine ha b0 B Z0 Z H σ ρ os ρ' _ ok e1 fun vs H1 Z1 ok1 s1 r1 => ?_
  have rA := valA_ok r1 e2
  refine ⟨by rw [List.append_nil, rA.length]; exact hF _ _ e3, Z1, ds, d, ok1.zh, by rw [List.append_nil]; exact rA, e3, fun p ws H' Z' hh g hp zp hp' r => ?_⟩
  refine q p ws H' Z' (ok1.grow hh g) (s1.trans g.1) zp (ok1.bh.free hp) (fun i es hi ho hq => ?_) hp' r
  obtain ⟨q', vs', f1, _, _, f4, _⟩ := ok1.own i es hi ho
  rw [f1] at hq
  cases hq
  rw [hp] at f4
  cases f4
/-- a call whose answer is flat; its arguments may be lists of one's own -/
def eCallO (F : List D → Option D) (ga : GA) (ρ : Rho) : R D := (ga ρ).bind fun os ρ1 => match resA os ρ1 with
  | some ds => (match F ds with
    | some d => if flatD d then .ok d ρ1 else .bad
    | none => .bad)
  | none => .bad
theorem Ok.later {H' : Hp} (ok : Ok K b0 B Z0 Z H σ ρ) (hh : Same H H') : Ok K b0 B Z0 Z H' σ ρ :=
  ok.grow hh ⟨Same.refl Z, ok.zh.trans hh, fun _ _ e => .inl e⟩
theorem BdA.length {Z H : Hp} : ∀ {vs : List V} {ds : List D}, BdA K Z H vs ds → vs.length = ds.length
  | _, _, .nil => rfl
  | _, _, .cons _ r => by rw [List.length_cons, List.length_cons, BdA.length r]
/-- a call of a def that may change the list in slot i -/
def eCallB (F : List D → List D → Option (D × List D)) (i : Nat) (ga : GA) (ρ : Rho) : R D := if isOw ρ[i]? then (ga ρ).bind fun os ρ1 => match ρ1[i]?, valA os with
    | some (.ow box), some ds => (match F box ds with
      | some (d, box') => .ok d (ρ1.set i (.ow box'))
      | none => .bad)
    | _, _ => .bad
  else .bad
theorem Ok.growB {Z' H' : Hp} {b : Addr} {vb' : List V} {i : Nat} {box box' : List D} (ok : Ok K b0 B Z0 Z H σ ρ) (hi : ρ[i]? = some (.ow box)) (hb : σ[i]? = some (some (.ref b))) (hh : ∀ p o, p ≠ b → H p = some o → H' p = some o) (g : Grow H Z Z' H')
    (zb : Z' b = none) (hb' : H' b = some (.lst vb')) (r : RpA K Z' vb' box') : Ok K b0 B Z0 Z' H' σ (ρ.set i (.ow box')) := by
  obtain ⟨b1, vb, f1, f2, f3, f4, f5⟩ := ok.ow i box hi
  rw [hb] at f1
  cases f1
  have hl : i < ρ.length := by
    by_cases z : i < ρ.length
    · exact z
    · rw [List.getElem?_eq_none (by simpa using z)] at hi; cases hi
  refine ⟨by rw [List.length_set]; exact ok.len, fun p o e => hh p o (ne_of_none e f3) (ok.bh p o e), g.2.1, ok.zz.trans g.1, fun p o e => ?_, fun j d e => ?_, fun j s e eo => ?_, fun a ha ds e => ?_, fun j k q s t e1 e2 o1 o2 e3 e4 => ?_⟩
  · rcases g.2.2 p o e with z | z
    · exact ok.nb p o z
    · exact .inr (ok.bh.free z)
  · rcases set_get e with ⟨_, z⟩ | ⟨n, e⟩
    · cases z
    · obtain ⟨v, e1, e2⟩ := ok.sh j d e
      exact ⟨v, e1, e2.mono g.1⟩
  · rcases set_get e with ⟨rfl, z⟩ | ⟨n, e⟩
    · subst z
      exact ⟨b, _, hb, zb, f3, hb', vb', rfl, r⟩
    · obtain ⟨q, vs, e1, e2, e3, e4, e5⟩ := ok.own j s e eo
      have nq : q ≠ b := fun z => n (ok.sepS i j b _ s hi e rfl eo hb (by rw [e1, z]))
      refine ⟨q, vs, e1, ?_, e3, hh _ _ nq e4, e5.mono g.1⟩
      cases z : Z' q with
      | none => rfl
      | some o =>
        rcases g.2.2 q o z with y | y
        · rw [e2] at y; cases y
        · rw [e4] at y; cases y
  · rcases set_get e with ⟨rfl, z⟩ | ⟨n, e⟩
    · exact ok.fix a ha box hi
    · exact ok.fix a ha ds e
  · have G : ∀ {j : Nat} {as : Sl}, (ρ.set i (.ow box'))[j]? = some as → as.isO = true → ∃ as', ρ[j]? = some as' ∧ as'.isO = true := fun {j as} e ho => by
      rcases set_get e with ⟨rfl, z⟩ | ⟨n, e⟩
      · exact ⟨.ow box, hi, rfl⟩
      · exact ⟨as, e, ho⟩
    obtain ⟨_, y1, z1⟩ := G e1 o1
    obtain ⟨_, y2, z2⟩ := G e2 o2
    exact ok.sepS j k q _ _ y1 y2 z1 z2 e3 e4
theorem de_callB {np : Nat} {F : List D → List D → Option (D × List D)} {i : Nat} {ga : GA} {E : XK} (hF0 : ∀ b ds d, F b ds = some d → ds.length + 1 = np) (ha : DA K tas ga) : DE K (tCall (spB K np F) [] E (tCons (tVar i) tas)) (eCallB F i ga) := fun b0 B Z0 Z H σ ρ d ρ' Q ok e q => by
  unfold eCallB at e
  split at e
  · rename_i h0
    obtain ⟨b, vb0, e0, hb0⟩ := ok.isOw h0
    obtain ⟨os, ρ1, e1, e⟩ := R.bind_ok e
    split at e
    · rename_i box ds hi hv
      split at e
      · rename_i d' box' hF
        cases e
        refine ⟨.ref b, e0, ?_⟩
        refine ha b0 B Z0 Z H σ ρ os ρ1 _ ok e1 fun vs H1 Z1 ok1 s1 r1 => ?_
        obtain ⟨b1, vb, f1, f2, f3, f4, f5⟩ := ok1.ow i box hi
        rw [e0] at f1
        cases f1
        have rA := valA_ok r1 hv
        refine ⟨by rw [List.append_nil, List.length_cons, rA.length]; exact hF0 _ _ _ hF, Z1, b, vb, box, vs, ds, d, box', by rw [List.append_nil], ok1.zh, f2, f4, f5, rA, hF, fun v H' Z' vb' hh g zb hb' rb r => ?_⟩
        exact q v H' Z' (ok1.growB hi e0 hh g zb hb' rb) (s1.trans g.1) r
      · cases e
    · cases e
  · cases e
end
end DL
namespace DL
open PySem L2
def sz (n : Nat) : Bool := decide (n ≤ sizeLine)
def addD : D → D → Option D
  | .int i, .int j => some (.int (i + j))
  | .str x, .str y => if x.length + y.length ≤ sizeLine then some (.str (x ++ y)) else none
  | .tuple xs, .tuple ys => if xs.length + ys.length ≤ sizeLine then some (.tuple (xs ++ ys)) else none
  | _, _ => none
def addL : D → D → Option (List D)
  | .list xs, .list ys => if xs.length + ys.length ≤ sizeLine then some (xs ++ ys) else none
  | _, _ => none
def subD : D → D → Option D
  | .int i, .int j => some (.int (i - j))
  | _, _ => none
instance (i j : Int) : Decidable (CMul i j) := inferInstanceAs (Decidable (_ ∨ _))
instance (i j : Int) : Decidable (CMulW i j) := inferInstanceAs (Decidable (_ < _))
/-- a small factor, or together less than a million bits -/
def CMulU (i j : Int) : Prop := CMul i j ∨ CMulW i j
instance (i j : Int) : Decidable (CMulU i j) := inferInstanceAs (Decidable (_ ∨ _))
theorem CMulU.ok {i j : Int} (h : CMulU i j) : _root_.PySem.IntMulOk i j := h.elim CMul.ok CMulW.ok
def mulD : D → D → Option D
  | .int i, .int j => if CMulU i j then some (.int (i * j)) else none
  | _, _ => none
def repL : D → D → Option (List D)
  | .list xs, .int k => if -(2 ^ 63) ≤ k ∧ k < 2 ^ 63 ∧ xs.length * k.toNat ≤ sizeLine then some (List.replicate k.toNat xs).flatten else none
  | _, _ => none
def fdivD : D → D → Option D
  | .int i, .int j => if 0 < j ∧ j.natAbs.log2 < 9000 then some (.int (i / j)) else none
  | _, _ => none
def modD : D → D → Option D
  | .int i, .int j => if 0 < j then some (.int (i % j)) else none
  | _, _ => none
def powD : D → D → Option D
  | .int i, .int j => if 0 ≤ j ∧ j ≤ 1000000 ∧ i.natAbs < 2 ^ 64 then some (.int (i ^ j.toNat)) else none
  | _, _ => none
def eqD (d e : D) : Option D := if SeqAt.shaped d = true ∧ SeqAt.shaped e = true then some (.bool (PyData.eqv d e)) else none
def neD (d e : D) : Option D := if SeqAt.shaped d = true ∧ SeqAt.shaped e = true then some (.bool (!PyData.eqv d e)) else none
def ltD : D → D → Option D
  | .int i, .int j => some (.bool (decide (i < j)))
  | _, _ => none
def leD : D → D → Option D
  | .int i, .int j => some (.bool (decide (i ≤ j)))
  | _, _ => none
def gtD : D → D → Option D
  | .int i, .int j => some (.bool (decide (j < i)))
  | _, _ => none
def geD : D → D → Option D
  | .int i, .int j => some (.bool (decide (j ≤ i)))
  | _, _ => none
def isNoneD : D → Bool
  | .none => true
  | _ => false
def isD : D → D → Option D
  | d, .none => some (.bool (isNoneD d))
  | _, _ => none
def isNotD : D → D → Option D
  | d, .none => some (.bool (!isNoneD d))
  | _, _ => none
def negD : D → Option D
  | .int i => some (.int (-i))
  | _ => none
section
variable {X : Cx} {K : PySem.W.Frag}
theorem opr_or {f : Value → Value → Sem Value} {r r' : R2} (h : OpR X f r) (h' : OpR X f r') : OpR X f (fun x y H Q => r x y H Q ∨ r' x y H Q) := fun pins s σ H x y v u Q I rx ry q => by
  rcases q with q | q
  · exact h pins s σ H x y v u Q I rx ry q
  · exact h' pins s σ H x y v u Q I rx ry q
theorem sn2_mono {r r' : R2} {f : D → D → Option D} (h : Sn2 K r f) (m : ∀ x y H Q, r x y H Q → r' x y H Q) : Sn2 K r' f := fun b0 B Z0 Z H σ ρ x y a b c Q ok ha hb e q => m _ _ _ _ (h b0 B Z0 Z H σ ρ x y a b c Q ok ha hb e q)
/-- a rule on two ints -/
theorem sn_i0 {g : Int → Int → V} {f : D → D → Option D} (hf : ∀ a b c, f a b = some c → ∃ i j, a = .int i ∧ b = .int j ∧ ∀ Z, Rp K Z (g i j) c) : Sn2 K (rI0 g) f := fun b0 B Z0 Z H σ ρ x y a b c Q ok ha hb e q => by
  obtain ⟨i, j, rfl, rfl, r⟩ := hf a b c e
  cases ha
  cases hb
  exact ⟨i, j, rfl, rfl, q _ H Z ok (Same.refl Z) (r Z)⟩
theorem sn_iC {C : Int → Int → Prop} {g : Int → Int → V} {f : D → D → Option D} (hf : ∀ a b c, f a b = some c → ∃ i j, a = .int i ∧ b = .int j ∧ C i j ∧ ∀ Z, Rp K Z (g i j) c) : Sn2 K (rI C g) f := fun b0 B Z0 Z H σ ρ x y a b c Q ok ha hb e q => by
  obtain ⟨i, j, rfl, rfl, hc, r⟩ := hf a b c e
  cases ha
  cases hb
  exact ⟨i, j, rfl, rfl, hc, q _ H Z ok (Same.refl Z) (r Z)⟩
theorem sn_sub : Sn2 K (rI0 fun i j => .int (i - j)) subD := sn_i0 fun a b c e => by
  unfold subD at e; split at e <;> cases e; exact ⟨_, _, rfl, rfl, fun _ => .int _⟩
theorem sn_mulI : Sn2 K (rI CMulU fun i j => .int (i * j)) mulD := sn_iC fun a b c e => by
  unfold mulD at e
  split at e
  · split at e
    · cases e; exact ⟨_, _, rfl, rfl, by assumption, fun _ => .int _⟩
    · cases e
  · cases e
theorem sn_fdiv : Sn2 K (rI CDivW fun i j => .int (i / j)) fdivD := sn_iC fun a b c e => by
  unfold fdivD at e
  split at e
  · split at e
    · cases e; exact ⟨_, _, rfl, rfl, by assumption, fun _ => .int _⟩
    · cases e
  · cases e
theorem sn_mod : Sn2 K (rI (fun _ j => 0 < j) fun i j => .int (i % j)) modD := sn_iC fun a b c e => by
  unfold modD at e
  split at e
  · split at e
    · cases e; exact ⟨_, _, rfl, rfl, by assumption, fun _ => .int _⟩
    · cases e
  · cases e
theorem sn_pow : Sn2 K (rI CPow fun i j => .int (i ^ j.toNat)) powD := sn_iC fun a b c e => by
  unfold powD at e
  split at e
  · split at e
    · cases e; exact ⟨_, _, rfl, rfl, by assumption, fun _ => .int _⟩
    · cases e
  · cases e
theorem sn_lt : Sn2 K (rI0 fun i j => .bl (decide (i < j))) ltD := sn_i0 fun a b c e => by
  unfold ltD at e; split at e <;> cases e; exact ⟨_, _, rfl, rfl, fun _ => .bl _⟩
theorem sn_le : Sn2 K (rI0 fun i j => .bl (decide (i ≤ j))) leD := sn_i0 fun a b c e => by
  unfold leD at e; split at e <;> cases e; exact ⟨_, _, rfl, rfl, fun _ => .bl _⟩
theorem sn_gt : Sn2 K (rI0 fun i j => .bl (decide (j < i))) gtD := sn_i0 fun a b c e => by
  unfold gtD at e; split at e <;> cases e; exact ⟨_, _, rfl, rfl, fun _ => .bl _⟩
theorem sn_ge : Sn2 K (rI0 fun i j => .bl (decide (j ≤ i))) geD := sn_i0 fun a b c e => by
  unfold geD at e; split at e <;> cases e; exact ⟨_, _, rfl, rfl, fun _ => .bl _⟩
def rAddI : R2 := rI0 fun i j => .int (i + j)
def rAddS : R2 := fun x y H Q => ∃ i j, x = .str i ∧ y = .str j ∧ i.length + j.length ≤ sizeLine ∧ Q (.str (i ++ j)) H
def rAddU (K : PySem.W.Frag) : R2 := fun x y H Q => rAddI x y H Q ∨ rAddS x y H Q ∨ rCatA K x y H Q ∨ rCat x y H Q
theorem op_addU : OpR X (binaryOp .Add) (rAddU X.K) := opr_or op_add (opr_or op_add_str (opr_or op_catA op_cat))
theorem sn_add : Sn2 K (rAddU K) addD := fun b0 B Z0 Z H σ ρ x y a b c Q ok ha hb e q => by
  unfold addD at e
  split at e
  · cases e; cases ha; cases hb
    exact .inl ⟨_, _, rfl, rfl, q _ H Z ok (Same.refl Z) (.int _)⟩
  · split at e
    · cases e; cases ha; cases hb
      exact .inr (.inl ⟨_, _, rfl, rfl, by assumption, q _ H Z ok (Same.refl Z) (.str _)⟩)
    · cases e
  · split at e
    · rename_i hl
      cases e
      cases ha with
      | tup h1 r1 =>
      cases hb with
      | tup h2 r2 =>
      refine .inr (.inr (.inl ⟨_, _, _, _, rfl, rfl, same_t ok.zh h1, same_t ok.zh h2, by rw [r1.length, r2.length]; exact hl, fun z => ?_, fun _ z => ?_, fun _ _ p hp => ?_⟩))
      · subst z
        cases r1
        exact q _ H Z ok (Same.refl Z) (.tup h2 r2)
      · subst z
        cases r2
        rw [List.append_nil] at q
        exact q _ H Z ok (Same.refl Z) (.tup h1 r1)
      · obtain ⟨ok2, s2⟩ := ok.new (o := .tup _) hp
        exact q _ _ _ ok2 s2 (.tup (.inl (.inl upd_same)) ((r1.append r2).mono s2))
    · cases e
  · cases e
theorem sn_addL : Sn2F K (rAddU K) addL := fun b0 B Z0 Z H σ ρ x y a b c Q ok ha hb e q => by
  unfold addL at e
  split at e
  · split at e
    · rename_i hl
      cases e
      cases ha with
      | lst h1 r1 =>
      cases hb with
      | lst h2 r2 =>
      refine .inr (.inr (.inr ⟨_, _, _, _, rfl, rfl, h1, h2, by rw [r1.length, r2.length]; exact hl, fun p hp => ?_⟩))
      obtain ⟨ok2, zp, bp, ap⟩ := ok.fresh (o := .lst _) hp
      exact q p _ _ ok2 zp bp ap upd_same (r1.append r2)
    · cases e
  · cases e
theorem op_mulC : OpR X (binaryOp .Mult) (rI CMulU fun i j => .int (i * j)) := opI fun _ _ _ _ _ _ _ hc q => PyProof.Rows.mul_int q hc.ok
def rMulU : R2 := fun x y H Q => rI CMulU (fun i j => .int (i * j)) x y H Q ∨ rRep x y H Q
theorem op_mulU : OpR X (binaryOp .Mult) rMulU := opr_or op_mulC op_rep
theorem sn_mul : Sn2 K rMulU mulD := sn2_mono sn_mulI fun _ _ _ _ h => .inl h
theorem flat_rep {vs : List V} {ds : List D} {Z : Hp} (r : RpA K Z vs ds) : ∀ n : Nat, RpA K Z (List.replicate n vs).flatten (List.replicate n ds).flatten
  | 0 => .nil
  | n + 1 => by
    rw [List.replicate_succ, List.replicate_succ, List.flatten_cons, List.flatten_cons]
    exact r.append (flat_rep r n)
theorem sn_repL : Sn2F K rMulU repL := fun b0 B Z0 Z H σ ρ x y a b c Q ok ha hb e q => by
  unfold repL at e
  split at e
  · split at e
    · rename_i hl
      cases e
      cases hb
      cases ha with
      | lst h1 r1 =>
      refine .inr ⟨_, _, _, rfl, rfl, h1, hl.1, hl.2.1, by rw [r1.length]; exact hl.2.2, fun p hp => ?_⟩
      obtain ⟨ok2, zp, bp, ap⟩ := ok.fresh (o := .lst _) hp
      exact q p _ _ ok2 zp bp ap upd_same (flat_rep r1 _)
    · cases e
  · cases e
mutual
theorem noD_of : ∀ d : D, d.canLay0 = true → noD d = true
  | .none, _ => by simp [noD]
  | .bool _, _ => by simp [noD]
  | .int _, _ => by simp [noD]
  | .str _, _ => by simp [noD]
  | .list xs, h => by
    simp only [noD]
    exact noDs_of xs (by simpa [PyData.canLay0] using h)
  | .tuple xs, h => by
    simp only [noD]
    exact noDs_of xs (by simpa [PyData.canLay0] using h)
  | .dict _, h => by simp [PyData.canLay0] at h
theorem noDs_of : ∀ xs : List D, PyData.canLayAll0 xs = true → noDs xs = true
  | [], _ => by simp [noDs]
  | x :: xs, h => by
    have h' : x.canLay0 = true ∧ PyData.canLayAll0 xs = true := by simpa [PyData.canLayAll0] using h
    simp only [noDs, noD_of x h'.1, noDs_of xs h'.2, Bool.and_self]
end
theorem shaped_noD {d : D} (h : SeqAt.shaped d = true) : noD d = true := by
  unfold SeqAt.shaped at h
  rw [Bool.and_eq_true] at h
  exact noD_of d h.1
theorem bd_rp {Z H : Hp} {v : V} {d : D} (s : Same Z H) (h : Bd K Z H v d) : Rp K H v d := by
  cases h with
  | non => exact .non
  | bl b => exact .bl b
  | int i => exact .int i
  | str x => exact .str x
  | lst h r => exact .lst h (r.mono s)
  | scr h r => exact .scr h (r.mono s)
  | tup h r => exact .tup (same_t s h) (r.mono s)
  | exc h1 h2 h3 r => exact .exc (s _ _ h1) (s _ _ h2) h3 (r.mono s)
  | dct h r => exact .dct h (r.mono s)
theorem sn_eq : Sn2 K (rEqD K) eqD := fun b0 B Z0 Z H σ ρ x y a b c Q ok ha hb e q => by
  unfold eqD at e
  split at e
  · rename_i h
    cases e
    exact ⟨a, b, (bd_rp ok.zh ha).dp (shaped_noD h.1), (bd_rp ok.zh hb).dp (shaped_noD h.2), h.1, h.2, q _ H Z ok (Same.refl Z) (.bl _)⟩
  · cases e
theorem sn_ne : Sn2 K (rNeD K) neD := fun b0 B Z0 Z H σ ρ x y a b c Q ok ha hb e q => by
  unfold neD at e
  split at e
  · rename_i h
    cases e
    exact ⟨a, b, (bd_rp ok.zh ha).dp (shaped_noD h.1), (bd_rp ok.zh hb).dp (shaped_noD h.2), h.1, h.2, q _ H Z ok (Same.refl Z) (.bl _)⟩
  · cases e
theorem non_iff {Z H : Hp} {v : V} {d : D} (h : Bd K Z H v d) : decide (v = V.non) = isNoneD d := by
  cases h <;> rfl
def rIsU : R2 := fun x y H Q => (y = .non ∧ Q (.bl (decide (x = .non))) H)
def rIsNotU : R2 := fun x y H Q => (y = .non ∧ Q (.bl (!decide (x = .non))) H)
theorem op_isU : OpR X (compareOp .Is) rIsU := op_isN
theorem op_isNotU : OpR X (compareOp .IsNot) rIsNotU := op_notN
theorem sn_is : Sn2 K rIsU isD := fun b0 B Z0 Z H σ ρ x y a b c Q ok ha hb e q => by
  unfold isD at e
  split at e
  · cases e; cases hb
    exact ⟨rfl, q _ H Z ok (Same.refl Z) (by rw [non_iff ha]; exact .bl _)⟩
  · cases e
theorem sn_isNot : Sn2 K rIsNotU isNotD := fun b0 B Z0 Z H σ ρ x y a b c Q ok ha hb e q => by
  unfold isNotD at e
  split at e
  · cases e; cases hb
    exact ⟨rfl, q _ H Z ok (Same.refl Z) (by rw [non_iff ha]; exact .bl _)⟩
  · cases e
theorem sn_neg : Sn1 K (rU fun i => .int (-i)) negD := fun b0 B Z0 Z H σ ρ x a c Q ok ha e q => by
  unfold negD at e
  split at e
  · cases e; cases ha
    exact ⟨_, rfl, q _ H Z ok (Same.refl Z) (.int _)⟩
  · cases e
def ixD : D → D → Option D
  | .list xs, .int i => atI xs i
  | .dict [(.list xs, .none)], .int i => atI xs i
  | .tuple xs, .int i => atI xs i
  | .str z, .int i => if z.length ≤ sizeLine then (atI z.cps.toList i).map fun c => .str ⟨#[c]⟩ else none
  | _, _ => none
theorem atI_rp {Z : Hp} {vs : List V} {ds : List D} {i : Int} {d : D} (r : RpA K Z vs ds) (h : atI ds i = some d) : ∃ v, atI vs i = some v ∧ Rp K Z v d := by
  unfold atI at h ⊢
  rw [r.length]
  obtain ⟨j, e1, e2⟩ := Option.bind_eq_some_iff.mp h
  obtain ⟨v, e3, rv⟩ := r.get e2
  exact ⟨v, by rw [e1]; exact e3, rv⟩
theorem sn_ix : Sn2 K (rIx K) ixD := fun b0 B Z0 Z H σ ρ x y a b c Q ok ha hb e q => by
  unfold ixD at e
  split at e
  · cases hb
    cases ha with
    | lst h r =>
    obtain ⟨v, e1, rv⟩ := atI_rp r e
    exact .inl ⟨_, _, _, v, rfl, rfl, .inl (.inl h), e1, q v H Z ok (Same.refl Z) rv⟩
  · cases hb
    cases ha with
    | scr h r =>
    obtain ⟨v, e1, rv⟩ := atI_rp r e
    exact .inl ⟨_, _, _, v, rfl, rfl, h, e1, q v H Z ok (Same.refl Z) rv⟩
  · cases hb
    cases ha with
    | tup h r =>
    obtain ⟨v, e1, rv⟩ := atI_rp r e
    exact .inr (.inl ⟨_, _, _, v, rfl, rfl, same_t ok.zh h, e1, q v H Z ok (Same.refl Z) rv⟩)
  · split at e
    · rename_i hz
      cases hb
      cases ha
      obtain ⟨c', e1, rfl⟩ := Option.map_eq_some_iff.mp e
      exact .inr (.inr ⟨_, _, c', rfl, rfl, hz, e1, q _ H Z ok (Same.refl Z) (.str _)⟩)
    · cases e
  · cases e
end
end DL
namespace DL
open PySem L2
section
variable {X : Cx} {K : PySem.W.Frag} {ta tb te tc : TE} {tas : TA}
def eChain (f f' : D → D → Option D) (a b c : GO) (ρ : Rho) : R D := (a ρ).bind fun x ρ1 => (b ρ1).bind fun y ρ2 => match x.res ρ2, y.res ρ2 with
  | some d, some e => (match f d e with
    | some (.bool true) => (c ρ2).bind fun z ρ3 => (match y.res ρ3, z.res ρ3 with
      | some e', some k => R.lift (f' e' k) ρ3
      | _, _ => .bad)
    | some (.bool false) => .ok (.bool false) ρ2
    | _ => .bad)
  | _, _ => .bad
theorem de_chain {r r' : R2} {f f' : D → D → Option D} {ga gb gc : GO} (sn : Sn2 K r f) (sn' : Sn2 K r' f') (ha : DO K ta ga) (hb : DO K tb gb) (hc : DO K tc gc) : DE K (tChain r r' ta tb tc) (eChain f f' ga gb gc) := fun b0 B Z0 Z H σ ρ d ρ' Q ok e q => by
  obtain ⟨x, ρ1, e1, e⟩ := R.bind_ok e
  obtain ⟨y, ρ2, e2, e⟩ := R.bind_ok e
  refine ha b0 B Z0 Z H σ ρ x ρ1 _ ok e1 fun v H1 Z1 ok1 s1 r1 => ?_
  refine hb b0 B Z0 Z1 H1 σ ρ1 y ρ2 _ ok1 e2 fun u H2 Z2 ok2 s2 r2 => ?_
  split at e
  · rename_i d1 d2 h1 h2
    split at e
    · rename_i hf
      refine sn b0 B Z0 Z2 H2 σ ρ2 v u d1 d2 _ _ ok2 (ok2.bd (r1.mono s2) h1) (ok2.bd r2 h2) hf fun w H3 Z3 ok3 s3 r3 => ?_
      cases r3
      refine ⟨true, rfl, ?_⟩
      obtain ⟨z, ρ3, e3, e⟩ := R.bind_ok e
      refine hc b0 B Z0 Z3 H3 σ ρ2 z ρ3 _ ok3 e3 fun w4 H4 Z4 ok4 s4 r4 => ?_
      split at e
      · rename_i e' k h3 h4
        obtain ⟨e5, rfl⟩ := R.lift_ok e
        exact sn' b0 B Z0 Z4 H4 σ ρ3 u w4 e' k d Q ok4 (ok4.bd ((r2.mono s3).mono s4) h3) (ok4.bd r4 h4) e5 fun w5 H5 Z5 ok5 s5 r5 => q w5 H5 Z5 ok5 ((((s1.trans s2).trans s3).trans s4).trans s5) r5
      · cases e
    · rename_i hf
      cases e
      refine sn b0 B Z0 Z2 H2 σ _ v u d1 d2 _ _ ok2 (ok2.bd (r1.mono s2) h1) (ok2.bd r2 h2) hf fun w H3 Z3 ok3 s3 r3 => ?_
      cases r3
      exact ⟨false, rfl, q _ H3 Z3 ok3 ((s1.trans s2).trans s3) (.bl false)⟩
    · cases e
  · cases e
abbrev GP := Rho → R (Option Int)
def DP (K : PySem.W.Frag) (t : TO) (g : GP) : Prop := ∀ b0 B Z0 Z H σ ρ o ρ' (Q : Option Int → Hp → Prop), Ok K b0 B Z0 Z H σ ρ → g ρ = .ok o ρ' → (∀ H' Z', Ok K b0 B Z0 Z' H' σ ρ' → Same Z Z' → Q o H') → t σ H Q
def pNo (ρ : Rho) : R (Option Int) := .ok none ρ
def pSo (g : GE) (ρ : Rho) : R (Option Int) := (g ρ).bind fun d ρ1 => match d with
  | .int i => .ok (some i) ρ1
  | _ => .bad
theorem dp_no : DP K tNoPart pNo := fun b0 B Z0 Z H σ ρ o ρ' Q ok e q => by
  cases e
  exact q H Z ok (Same.refl Z)
theorem dp_so {g : GE} (h : DE K te g) : DP K (tPart te) (pSo g) := fun b0 B Z0 Z H σ ρ o ρ' Q ok e q => by
  obtain ⟨d, ρ1, e1, e⟩ := R.bind_ok e
  split at e
  · cases e
    refine h b0 B Z0 Z H σ ρ _ _ _ ok e1 fun v H1 Z1 ok1 s1 r1 => ?_
    cases r1
    exact ⟨_, rfl, q H1 Z1 ok1 s1⟩
  · cases e
def cutD {α : Type} (xs : List α) (lo hi : Option Int) : List α := (xs.drop (HT.sIx xs.length 0 lo)).take (HT.sIx xs.length xs.length hi - HT.sIx xs.length 0 lo)
theorem cut_rp {Z : Hp} {vs : List V} {ds : List D} {lo hi : Option Int} (r : RpA K Z vs ds) : RpA K Z (cutV vs lo hi) (cutD ds lo hi) := by
  unfold cutV cutD
  rw [r.length]
  exact (r.drop _).take _
def SnSl (K : PySem.W.Frag) (r : V → Option Int → Option Int → Hp → VK → Prop) (f : D → Option Int → Option Int → Option D) : Prop := ∀ b0 B Z0 Z H σ ρ x a lo hi c (Q : VK), Ok K b0 B Z0 Z H σ ρ → Bd K Z H x a → f a lo hi = some c → (∀ v H' Z', Ok K b0 B Z0 Z' H' σ ρ → Same Z Z' → Rp K Z' v c → Q v H') → r x lo hi H Q
def SnSlF (K : PySem.W.Frag) (r : V → Option Int → Option Int → Hp → VK → Prop) (f : D → Option Int → Option Int → Option (List D)) : Prop := ∀ b0 B Z0 Z H σ ρ x a lo hi c (Q : VK), Ok K b0 B Z0 Z H σ ρ → Bd K Z H x a → f a lo hi = some c →
  (∀ p vs H', Ok K b0 B Z0 Z H' σ ρ → Z p = none → B p = none → Apart σ ρ p → H' p = some (.lst vs) → RpA K Z vs c → Q (.ref p) H') → r x lo hi H Q
def rSlU (K : PySem.W.Frag) : V → Option Int → Option Int → Hp → VK → Prop := fun x lo hi H Q => rSlL K x lo hi H Q ∨ rSlA K x lo hi H Q
theorem sl_U : SlR X (rSlU X.K) := fun pins s σ H x v vl vu lo hi sl Q I rx hs pl pu h => by
  rcases h with h | h
  · exact sl_list pins s σ H x v vl vu lo hi sl Q I rx hs pl pu h
  · exact sl_tupA pins s σ H x v vl vu lo hi sl Q I rx hs pl pu h
def sliceL (d : D) (lo hi : Option Int) : Option (List D) := match d with
  | .list xs => some (cutD xs lo hi)
  | .dict [(.list xs, .none)] => some (cutD xs lo hi)
  | _ => none
def sliceT (d : D) (lo hi : Option Int) : Option D := match d with
  | .tuple xs => some (.tuple (cutD xs lo hi))
  | _ => none
theorem sn_sliceL : SnSlF K (rSlU K) sliceL := fun b0 B Z0 Z H σ ρ x a lo hi c Q ok ha e q => by
  unfold sliceL at e
  split at e
  · cases e
    cases ha with
    | lst h r =>
    refine .inl ⟨_, _, rfl, .inl (.inl h), fun p hp => ?_⟩
    obtain ⟨ok2, zp, bp, ap⟩ := ok.fresh (o := .lst _) hp
    exact q p _ _ ok2 zp bp ap upd_same (cut_rp r)
  · cases e
    cases ha with
    | scr h r =>
    refine .inl ⟨_, _, rfl, h, fun p hp => ?_⟩
    obtain ⟨ok2, zp, bp, ap⟩ := ok.fresh (o := .lst _) hp
    exact q p _ _ ok2 zp bp ap upd_same (cut_rp r)
  · cases e
theorem cut_all {α : Type} (xs : List α) {lo hi : Option Int} (h1 : HT.sIx xs.length 0 lo = 0) (h2 : HT.sIx xs.length xs.length hi = xs.length) : cutD xs lo hi = xs := by
  unfold cutD
  rw [h1, h2, List.drop_zero, Nat.sub_zero, List.take_length]
theorem sn_sliceT : SnSl K (rSlU K) sliceT := fun b0 B Z0 Z H σ ρ x a lo hi c Q ok ha e q => by
  unfold sliceT at e
  split at e
  · cases e
    cases ha with
    | tup h r =>
    refine .inr ⟨_, _, rfl, same_t ok.zh h, fun z => ?_, fun _ p hp => ?_⟩
    · have := r.length
      rw [this] at z
      rw [cut_all _ z.1 z.2] at q
      exact q _ H Z ok (Same.refl Z) (.tup h r)
    · obtain ⟨ok2, s2⟩ := ok.new (o := .tup _) hp
      exact q _ _ _ ok2 s2 (.tup (.inl (.inl upd_same)) ((cut_rp r).mono s2))
  · cases e
def eSl {α : Type} (f : D → Option Int → Option Int → Option α) (g : GO) (lo hi : GP) (ρ : Rho) : R α := (g ρ).bind fun x ρ1 => (lo ρ1).bind fun l ρ2 => (hi ρ2).bind fun u ρ3 => match x.res ρ3 with
  | some d => R.lift (f d l u) ρ3
  | none => .bad
theorem sl_ok {α : Type} {f : D → Option Int → Option Int → Option α} {g : GO} {lo hi : GP} {ρ ρ' : Rho} {z : α} (e : eSl f g lo hi ρ = .ok z ρ') : ∃ x ρ1 l ρ2 u d, g ρ = .ok x ρ1 ∧ lo ρ1 = .ok l ρ2 ∧ hi ρ2 = .ok u ρ' ∧ x.res ρ' = some d ∧ f d l u = some z := by
  obtain ⟨x, ρ1, e1, e⟩ := R.bind_ok e
  obtain ⟨l, ρ2, e2, e⟩ := R.bind_ok e
  obtain ⟨u, ρ3, e3, e⟩ := R.bind_ok e
  split at e
  · rename_i d h
    obtain ⟨e5, rfl⟩ := R.lift_ok e
    exact ⟨x, ρ1, l, ρ2, u, d, e1, e2, e3, h, e5⟩
  · cases e
theorem de_sl {r : V → Option Int → Option Int → Hp → VK → Prop} {f : D → Option Int → Option Int → Option D} {g : GO} {lo hi : GP} {tl th : TO} (sn : SnSl K r f) (hg : DO K te g) (hl : DP K tl lo) (hh : DP K th hi) : DE K (tSl r te tl th) (eSl f g lo hi) := fun b0 B Z0 Z H σ ρ d ρ' Q ok e q => by
  obtain ⟨x, ρ1, l, ρ2, u, d', e1, e2, e3, e4, e5⟩ := sl_ok e
  refine hg b0 B Z0 Z H σ ρ x ρ1 _ ok e1 fun v H1 Z1 ok1 s1 r1 => ?_
  refine hl b0 B Z0 Z1 H1 σ ρ1 l ρ2 _ ok1 e2 fun H2 Z2 ok2 s2 => ?_
  refine hh b0 B Z0 Z2 H2 σ ρ2 u ρ' _ ok2 e3 fun H3 Z3 ok3 s3 => ?_
  exact sn b0 B Z0 Z3 H3 σ ρ' v d' l u d Q ok3 (ok3.bd ((r1.mono s2).mono s3) e4) e5 fun w H4 Z4 ok4 s4 r4 => q w H4 Z4 ok4 (((s1.trans s2).trans s3).trans s4) r4
def lenD : List D → Option D
  | [.list xs] => some (.int xs.length)
  | [.dict [(.list xs, .none)]] => some (.int xs.length)
  | [.tuple xs] => some (.int xs.length)
  | [.str z] => if z.length ≤ sizeLine then some (.int z.length) else none
  | _ => none
def rLen (K : PySem.W.Frag) : List V → Hp → VK → Prop := fun xs H Q => ∃ x n, xs = [x] ∧ LenV K x H n ∧ Q (.int n) H
theorem call_lenU : CallR X (.builtin "len") (rLen X.K) := call_len
theorem sn_len : SnA K (rLen K) lenD := fun b0 B Z0 Z H σ ρ xs as c Q ok ha e q => by
  unfold lenD at e
  split at e
  · cases e
    cases ha with
    | cons h h' =>
    cases h'
    cases h with
    | lst h r => exact ⟨_, _, rfl, .inl ⟨_, .inl (.inl h), rfl⟩, by rw [r.length]; exact q _ H Z ok (Same.refl Z) (.int _)⟩
  · cases e
    cases ha with
    | cons h h' =>
    cases h'
    cases h with
    | scr h r => exact ⟨_, _, rfl, .inl ⟨_, h, rfl⟩, by rw [r.length]; exact q _ H Z ok (Same.refl Z) (.int _)⟩
  · cases e
    cases ha with
    | cons h h' =>
    cases h'
    cases h with
    | tup h r => exact ⟨_, _, rfl, .inr ⟨_, same_t ok.zh h, rfl⟩, by rw [r.length]; exact q _ H Z ok (Same.refl Z) (.int _)⟩
  · split at e
    · rename_i hz
      cases e
      cases ha with
      | cons h h' =>
      cases h'
      cases h
      exact ⟨_, _, rfl, ⟨hz, rfl⟩, q _ H Z ok (Same.refl Z) (.int _)⟩
    · cases e
  · cases e
def absD : List D → Option D
  | [.int i] => some (.int (if i < 0 then -i else i))
  | _ => none
def rAbs : List V → Hp → VK → Prop := fun xs H Q => ∃ i, xs = [.int i] ∧ Q (.int (if i < 0 then -i else i)) H
theorem call_absU : CallR X (.builtin "abs") rAbs := call_abs
theorem sn_abs : SnA K rAbs absD := fun b0 B Z0 Z H σ ρ xs as c Q ok ha e q => by
  unfold absD at e
  split at e
  · cases e
    cases ha with
    | cons h h' =>
    cases h'; cases h
    exact ⟨_, rfl, q _ H Z ok (Same.refl Z) (.int _)⟩
  · cases e
def intD : List D → Option D
  | [.int i] => some (.int i)
  | [.bool k] => some (.int (if k then 1 else 0))
  | _ => none
def rInt1 : List V → Hp → VK → Prop := fun xs H Q => (∃ i, xs = [.int i] ∧ Q (.int i) H) ∨ ∃ k, xs = [.bl k] ∧ Q (.int (if k then 1 else 0)) H
theorem call_intU : CallR X (.type "int") rInt1 := call_int1
theorem sn_int : SnA K rInt1 intD := fun b0 B Z0 Z H σ ρ xs as c Q ok ha e q => by
  unfold intD at e
  split at e
  · cases e
    cases ha with
    | cons h h' =>
    cases h'; cases h
    exact .inl ⟨_, rfl, q _ H Z ok (Same.refl Z) (.int _)⟩
  · cases e
    cases ha with
    | cons h h' =>
    cases h'; cases h
    exact .inr ⟨_, rfl, q _ H Z ok (Same.refl Z) (.int _)⟩
  · cases e
def boolsOf : List D → Option (List Bool)
  | [] => some []
  | .bool i :: ds => (boolsOf ds).map (i :: ·)
  | _ :: _ => none
theorem boolsOf_eq : ∀ {ds : List D} {ns : List Bool}, boolsOf ds = some ns → ds = ns.map PyData.bool
  | [], ns, h => by cases h; rfl
  | .bool i :: ds, ns, h => by
    unfold boolsOf at h
    obtain ⟨ms, e, rfl⟩ := Option.map_eq_some_iff.mp h
    rw [boolsOf_eq e]; rfl
theorem boolsOf_map : ∀ (ns : List Bool), boolsOf (ns.map PyData.bool) = some ns
  | [] => rfl
  | n :: r => by
    show (boolsOf (r.map PyData.bool)).map (n :: ·) = _
    rw [boolsOf_map r]; rfl
def allD : List D → Option D
  | [.list ds] => (boolsOf ds).map fun bs => .bool (bs.all id)
  | _ => none
theorem sn_all : SnA K (rAll K) allD := fun b0 B Z0 Z H σ ρ xs as c Q ok ha e q => by
  unfold allD at e
  split at e
  · obtain ⟨bs, e1, rfl⟩ := Option.map_eq_some_iff.mp e
    cases boolsOf_eq e1
    cases ha with
    | cons h h' =>
    cases h'
    cases h with
    | lst h r =>
    cases r.of_bools
    exact ⟨_, bs, rfl, .inl (.inl h), q _ H Z ok (Same.refl Z) (.bl _)⟩
  · cases e
def listD : List D → Option (List D)
  | [.list xs] => some xs
  | [.tuple xs] => some xs
  | [.dict [(.list xs, .none)]] => some xs
  | _ => none
def rList (K : PySem.W.Frag) : List V → Hp → VK → Prop := fun xs H Q => ∃ p ys, xs = [.ref p] ∧ (SqL K H p ys ∨ SqT K H p ys) ∧ ∀ l, H l = none → Q (.ref l) (upd H l (.lst ys))
theorem call_listU : CallR X (.type "list") (rList X.K) := call_list_of
theorem sn_list : SnAF K (rList K) listD := fun b0 B Z0 Z H σ ρ xs as c Q ok ha e q => by
  have fin : ∀ {a : Addr} {vs : List V} (p : Addr), (SqL K H a vs ∨ SqT K H a vs) → RpA K Z vs c → rList K [.ref a] H Q := fun {a vs} _ h r => by
    refine ⟨_, _, rfl, h, fun p hp => ?_⟩
    obtain ⟨ok2, zp, bp, ap⟩ := ok.fresh (o := .lst _) hp
    exact q p _ _ ok2 zp bp ap upd_same r
  unfold listD at e
  split at e
  · cases e
    cases ha with
    | cons h h' =>
    cases h'
    cases h with
    | lst h r => exact fin 0 (.inl (.inl (.inl h))) r
  · cases e
    cases ha with
    | cons h h' =>
    cases h'
    cases h with
    | tup h r => exact fin 0 (.inr (same_t ok.zh h)) r
  · cases e
    cases ha with
    | cons h h' =>
    cases h'
    cases h with
    | scr h r => exact fin 0 (.inl h) r
  · cases e
def tupleD : List D → Option D
  | [.list xs] => some (.tuple xs)
  | [.tuple xs] => some (.tuple xs)
  | [.dict [(.list xs, .none)]] => some (.tuple xs)
  | _ => none
def rTuple (K : PySem.W.Frag) : List V → Hp → VK → Prop := fun xs H Q => ∃ p ys, xs = [.ref p] ∧ ((SqL K H p ys ∧ ∀ l, H l = none → Q (.ref l) (upd H l (.tup ys))) ∨ (SqT K H p ys ∧ Q (.ref p) H))
theorem call_tupleU : CallR X (.type "tuple") (rTuple X.K) := call_tuple_of
theorem sn_tuple : SnA K (rTuple K) tupleD := fun b0 B Z0 Z H σ ρ xs as c Q ok ha e q => by
  have fin : ∀ {a : Addr} {vs : List V} {ds : List D} (p : Addr), c = .tuple ds → SqL K H a vs → RpA K Z vs ds → rTuple K [.ref a] H Q := fun {a vs ds} _ ec h r => by
    refine ⟨_, _, rfl, .inl ⟨h, fun p hp => ?_⟩⟩
    obtain ⟨ok2, s2⟩ := ok.new (o := .tup _) hp
    subst ec
    exact q _ _ _ ok2 s2 (.tup (.inl (.inl upd_same)) (r.mono s2))
  unfold tupleD at e
  split at e
  · cases e
    cases ha with
    | cons h h' =>
    cases h'
    cases h with
    | lst h r => exact fin 0 rfl (.inl (.inl h)) r
  · cases e
    cases ha with
    | cons h h' =>
    cases h'
    cases h with
    | tup h r => exact ⟨_, _, rfl, .inr ⟨same_t ok.zh h, q _ H Z ok (Same.refl Z) (.tup h r)⟩⟩
  · cases e
    cases ha with
    | cons h h' =>
    cases h'
    cases h with
    | scr h r => exact fin 0 rfl h r
  · cases e
end
end DL
namespace DL
open PySem L2
section
variable {X : Cx} {K : PySem.W.Frag} {ta tb te tc : TE} {tas : TA} {tg : Expr}
theorem pi_or {e : Expr} {w1 w2 : TI} (h1 : PI X tg e w1) (h2 : PI X tg e w2) : PI X tg e (fun σ H R => w1 σ H R ∨ w2 σ H R) := ⟨fun pins s σ H R I h => by
  rcases h with h | h
  · exact h1.run pins s σ H R I h
  · exact h2.run pins s σ H R I h⟩
def iSeqU (K : PySem.W.Frag) (te : TE) : TI := fun σ H R => iList K te σ H R ∨ iTup K te σ H R
theorem pi_seqU {e : Expr} (he : PE X e te) : PI X tg e (iSeqU X.K te) := pi_or (pi_list he) (pi_tup he)
def itemsD : D → Option (List D)
  | .list xs => some xs
  | .tuple xs => some xs
  | .dict [(.list xs, .none)] => some xs
  | _ => none
def gSeq (g : GE) (ρ : Rho) : R (List D) := (g ρ).bind fun d ρ1 => R.lift (itemsD d) ρ1
theorem wk_list {Z : Hp} {a : Addr} {xs : List V} {ds : List D} (h : SqL K Z a xs) (r : RpA K Z xs ds) : Wk K (Itl K a) Z ds where
  goes := fun i H hi s => ⟨xs, xs[i]'(by rw [r.length]; exact hi), same_l s h, List.getElem?_eq_getElem _⟩
  stops := fun H s => ⟨xs, same_l s h, by rw [r.length]; exact Nat.le_refl _⟩
  yields := fun i H x H' hi y b0 B Z0 Z' σ ρ ok s => by
    obtain ⟨rfl, y⟩ := y
    obtain ⟨d, e1, r1⟩ := r.getV (y xs (same_l (s.trans ok.zh) h))
    exact ⟨Z', d, ok, Same.refl Z', e1, r1.mono s⟩
theorem wk_tup {Z : Hp} {a : Addr} {xs : List V} {ds : List D} (h : SqT K Z a xs) (r : RpA K Z xs ds) : Wk K (Itt K a) Z ds where
  goes := fun i H hi s => ⟨xs, xs[i]'(by rw [r.length]; exact hi), same_t s h, List.getElem?_eq_getElem _⟩
  stops := fun H s => ⟨xs, same_t s h, by rw [r.length]; exact Nat.le_refl _⟩
  yields := fun i H x H' hi y b0 B Z0 Z' σ ρ ok s => by
    obtain ⟨rfl, y⟩ := y
    obtain ⟨d, e1, r1⟩ := r.getV (y xs (same_t (s.trans ok.zh) h))
    exact ⟨Z', d, ok, Same.refl Z', e1, r1.mono s⟩
theorem di_seq {g : GE} (h : DE K te g) : DI K (iSeqU K te) (gSeq g) := fun b0 B Z0 Z H σ ρ ds ρ' W ok e q => by
  obtain ⟨d, ρ1, e1, e⟩ := R.bind_ok e
  obtain ⟨e2, rfl⟩ := R.lift_ok e
  unfold itemsD at e2
  split at e2
  · cases e2
    refine .inl (h b0 B Z0 Z H σ ρ _ _ _ ok e1 fun v H1 Z1 ok1 s1 r1 => ?_)
    cases r1 with
    | lst hs ra => exact ⟨_, rfl, ⟨_, .inl (.inl (ok1.zh _ _ hs))⟩, q _ H1 Z1 ok1 s1 (wk_list (.inl (.inl hs)) ra)⟩
  · cases e2
    refine .inr (h b0 B Z0 Z H σ ρ _ _ _ ok e1 fun v H1 Z1 ok1 s1 r1 => ?_)
    cases r1 with
    | tup hs ra => exact ⟨_, rfl, ⟨_, same_t ok1.zh hs⟩, q _ H1 Z1 ok1 s1 (wk_tup hs ra)⟩
  · cases e2
    refine .inl (h b0 B Z0 Z H σ ρ _ _ _ ok e1 fun v H1 Z1 ok1 s1 r1 => ?_)
    cases r1 with
    | scr hs ra => exact ⟨_, rfl, ⟨_, same_l ok1.zh hs⟩, q _ H1 Z1 ok1 s1 (wk_list hs ra)⟩
  · cases e2
def rangeD (lo : Int) (n : Nat) : List D := (List.range n).map fun (i : Nat) => PyData.int (lo + (i : Int))
theorem rangeD_len (lo : Int) (n : Nat) : (rangeD lo n).length = n := by unfold rangeD; rw [List.length_map, List.length_range]
theorem rangeD_get {lo : Int} {n i : Nat} (h : i < n) : (rangeD lo n)[i]? = some (.int (lo + (i : Int))) := by
  unfold rangeD
  rw [List.getElem?_map, List.getElem?_range h]; rfl
theorem wk_rng {Z : Hp} {lo : Int} {n : Nat} : Wk K (Itr lo n) Z (rangeD lo n) where
  goes := fun i H hi s => by rw [rangeD_len] at hi; exact hi
  stops := fun H s => by rw [rangeD_len]; exact Nat.le_refl _
  yields := fun i H x H' hi y b0 B Z0 Z' σ ρ ok s => by
    obtain ⟨rfl, rfl⟩ := y
    rw [rangeD_len] at hi
    exact ⟨Z', _, ok, Same.refl Z', rangeD_get hi, .int _⟩
def rng1 : List D → Option (List D)
  | [.int j] => if -(2 ^ 62) ≤ j ∧ j < 2 ^ 62 then some (rangeD 0 j.toNat) else none
  | _ => none
theorem di_rng1 {ga : GA} (h : DA K tas ga) : DI K (iRng1 tas) (eCall rng1 ga) := fun b0 B Z0 Z H σ ρ ds ρ' W ok e q => by
  obtain ⟨os, as, e1, e2, e3⟩ := call_ok e
  refine h b0 B Z0 Z H σ ρ os ρ' _ ok e1 fun vs H1 Z1 ok1 s1 r1 => ?_
  have ra := valA_ok r1 e2
  unfold rng1 at e3
  split at e3
  · split at e3
    · rename_i hb
      cases e3
      cases ra with
      | cons r ra =>
      cases r; cases ra
      exact ⟨_, rfl, hb.1, hb.2, q _ H1 Z1 ok1 s1 wk_rng⟩
    · cases e3
  · cases e3
/-- what may be walked: a list, a tuple -/
inductive Sk where
  | L
  | T
def Sk.sq (K : PySem.W.Frag) (H : Hp) (a : Addr) (xs : List V) : Sk → Prop
  | .L => SqL K H a xs
  | .T => SqT K H a xs
def Sk.src (h : Heap) (a : Addr) (its : Array Value) : Sk → Prop
  | .L => h.IsList a its
  | .T => h.IsTuple a its
def Sk.itr (h : Heap) (it a : Addr) (i : Nat) : Sk → Prop
  | .L => h.IsListIter it a i
  | .T => h.IsTupleIter it a i
def Sk.obj (a : Addr) : Sk → Obj
  | .L => { cls := .type "list_iterator", data := .fields #[.ref a, .int 0 0] }
  | .T => { cls := .type "tuple_iterator", data := .fields #[.ref a, .int 0 0] }
theorem Sk.draws {prog : Program} {w : World} {A : Around} (k : Sk) (hh : A.handled = none) (it a : Addr) (hne : a ≠ it) (its : Array Value) : Draws prog w A it [it, a] its.size (fun i v => its[i]? = some v) (fun i h => k.itr h it a i ∧ k.src h a its) := by
  cases k with
  | L => exact Draws.list hh it a hne its
  | T => exact Draws.tuple hh it a hne its
theorem Sk.begins (k : Sk) (a : Addr) (its : Array Value) : Begins (.ref a) (k.obj a) (fun h => k.src h a its) := by
  cases k with
  | L => exact begins_list a its
  | T => exact begins_tuple a its
theorem Sk.first (k : Sk) {h : Heap} {it a : Addr} (e : h.get? it = some (k.obj a)) : k.itr h it a 0 := by
  cases k with
  | L => exact ⟨_, e, rfl, rfl⟩
  | T => exact ⟨_, e, rfl, rfl⟩
theorem Sk.there (k : Sk) {pins : List (Addr × Obj)} {σ : L2.St} {H : Hp} {s : Shared} {a : Addr} {xs : List V} (I : L2.Inv X pins σ H s) (h : k.sq X.K H a xs) : ∃ its, Vals xs its ∧ k.src s.heap a its.toArray := by
  cases k with
  | L =>
    obtain ⟨its, r, p, _⟩ := I.list h
    exact ⟨its, r, p.isList⟩
  | T =>
    obtain ⟨its, r, p, _⟩ := I.tuple h
    exact ⟨its, r, p⟩
theorem Sk.lt (k : Sk) {h : Heap} {a : Addr} {its : Array Value} (e : k.src h a its) : a < h.objs.size := by
  cases k with
  | L => obtain ⟨o, q, _⟩ := e; exact Heap.lt_size q
  | T => obtain ⟨o, q, _⟩ := e; exact Heap.lt_size q
theorem Sk.obj_of (k : Sk) {h : Heap} {it a : Addr} {i : Nat} (e : k.itr h it a i) : ∃ o, h.get? it = some o ∧ ∀ v, o.data ≠ .cell v := by
  cases k with
  | L => obtain ⟨o, q, _, d⟩ := e; exact ⟨o, q, fun v z => by rw [d] at z; cases z⟩
  | T => obtain ⟨o, q, _, d⟩ := e; exact ⟨o, q, fun v z => by rw [d] at z; cases z⟩
theorem Sk.keep (k : Sk) {h h' : Heap} {it a : Addr} {i : Nat} (e : k.itr h it a i) (kp : ∀ o, h.get? it = some o → h'.get? it = some o) : k.itr h' it a i := by
  cases k with
  | L => obtain ⟨o, q, r⟩ := e; exact ⟨o, kp o q, r⟩
  | T => obtain ⟨o, q, r⟩ := e; exact ⟨o, kp o q, r⟩
theorem Sk.mono (k : Sk) {Z H : Hp} {a : Addr} {xs : List V} (s : Same Z H) (h : k.sq K Z a xs) : k.sq K H a xs := by
  cases k with
  | L => exact same_l s h
  | T => exact same_t s h
/-- pairs, n of them, while S holds -/
def ItP (S : Hp → Prop) (n : Nat) (f g : Nat → Option V) : It :=
  ⟨fun i H => S H ∧ i < n, fun i H v H' => ∃ T x y, v = .ref T ∧ H T = none ∧ H' = upd H T (.tup [x, y]) ∧ f i = some x ∧ g i = some y, fun i H => S H ∧ i = n⟩
/-- a new pair goes into the heap, the iterators' own objects turn -/
theorem pair_inv {pins : List (Addr × Obj)} {σ : L2.St} {H : Hp} {s : Shared} {h' : Heap} {tk : Nat} {T : Addr} {x y : V} {u v : Value} {wr fp : List Addr} (I : L2.Inv X pins σ H s) (hf : ∀ b ∈ fp, FpOk X pins H b) (sub : ∀ b ∈ wr, b ∈ fp)
    (kp : ∀ b o, b ∉ wr → s.heap.get? b = some o → h'.get? b = some o) (hT : s.heap.objs.size ≤ T) (tup : h'.IsTuple T #[u, v]) (rx : RelV x u) (ry : RelV y v) (live : ∀ b ∈ fp, ∃ o, s.heap.get? b = some o) :
    L2.Inv X pins σ (upd H T (.tup [x, y])) { s with heap := h', toks := tk } ∧ H T = none ∧ ∀ b ∈ fp, upd H T (.tup [x, y]) b = none := by
  refine ⟨I.turnedNew (t' := tk) (ch := wr) kp (fun b hb => hf b (sub b hb)) hT ⟨by show 2 ≤ sizeLine; decide, [u, v], .cons rx (.cons ry .nil), tup⟩, I.hok.fresh hT, fun b hb => ?_⟩
  obtain ⟨o, e⟩ := live b hb
  rw [upd_ne (Nat.ne_of_lt (Nat.lt_of_lt_of_le (Heap.lt_size e) hT))]
  exact (hf b hb).1
def zipTn (k1 k2 : Sk) (a b N : Addr) : Nat → Heap → Prop := fun i h => IsZip h (N + 4) (N + 2) (N + 3) .none ∧ IsTupOf2 h (N + 2) (.ref N) (.ref (N + 1)) ∧ (∃ a1 a2, IsTupOf2 h (N + 3) a1 a2) ∧ k1.itr h N a i ∧ k2.itr h (N + 1) b i
def fp5 (N : Addr) : List Addr := [N + 4, N + 2, N + 3, N, N + 1]
theorem zip_live {k1 k2 : Sk} {a b N : Addr} {i : Nat} {h : Heap} (st : zipTn k1 k2 a b N i h) : ∀ c ∈ fp5 N, ∃ o, h.get? c = some o ∧ ∀ v, o.data ≠ .cell v := fun c hc => by
  obtain ⟨h1, h2, ⟨a1, a2, h3⟩, h4, h5⟩ := st
  have e : c = N + 4 ∨ c = N + 2 ∨ c = N + 3 ∨ c = N ∨ c = N + 1 := by simpa [fp5] using hc
  rcases e with e | e | e | e | e
  · rw [e]; exact ⟨_, h1, fun v z => nomatch z⟩
  · rw [e]; exact ⟨_, h2, fun v z => nomatch z⟩
  · rw [e]; exact ⟨_, h3, fun v z => nomatch z⟩
  · rw [e]; exact k1.obj_of h4
  · rw [e]; exact k2.obj_of h5
theorem turn_zipU {P : Program} {w : World} {elts : List Expr} {kk : Nat} {tpos : Pos} (k1 k2 : Sk) {a b N : Addr} (ha : a < N) (hb : b < N) (xs ys : List V) :
    Turn P w K (.Tuple elts kk tpos) (ItP (fun H => k1.sq K H a xs ∧ k2.sq K H b ys) (min xs.length ys.length) (fun i => xs[i]?) (fun i => ys[i]?)) (fp5 N) (N + 4) (zipTn k1 k2 a b N) where
  mem := by simp [fp5]
  obj := fun i h st => zip_live st
  keep := fun i h h' st kp => by
    obtain ⟨h1, h2, ⟨a1, a2, h3⟩, h4, h5⟩ := st
    exact ⟨kp _ (by simp [fp5]) _ h1, kp _ (by simp [fp5]) _ h2, ⟨a1, a2, kp _ (by simp [fp5]) _ h3⟩, k1.keep h4 fun o q => kp _ (by simp [fp5]) o q, k2.keep h5 fun o q => kp _ (by simp [fp5]) o q⟩
  item := by
    intro X hP hw hK hc i pins s σ H E I hf st hg
    subst hP hw hK
    obtain ⟨⟨q1, q2⟩, hi⟩ := hg
    obtain ⟨i1, r1, s1⟩ := k1.there I q1
    obtain ⟨i2, r2, s2⟩ := k2.there I q2
    have W := GoesN.zip2 (prog := X.prog) (w := X.w) (A := X.A) (elts := elts) (x1 := kk) (pos := tpos) (zip_sep2 (N := N) (fp1 := [a]) (fp2 := [b]) (by simpa using ha) (by simpa using hb))
      (k1.draws (A := X.A.in1) (I.ok.hd hc) N a (Nat.ne_of_lt ha) i1.toArray) (k2.draws (A := X.A.in1) (I.ok.hd hc) (N + 1) b (Nat.ne_of_lt (Nat.lt_succ_of_lt hb)) i2.toArray)
    have st0 := st
    obtain ⟨h1, h2, h3, h4, h5⟩ := st
    refine W.goes i s _ E (by rw [List.size_toArray, List.size_toArray, ← r1.length, ← r2.length]; exact hi) ⟨h1, h2, h3, ⟨h4, s1⟩, h5, s2⟩ fun v h' tk hY st' kp htk => ?_
    obtain ⟨T, x, y, rfl, hT, ex, ey, tup⟩ := hY
    have gx : xs[i]? = some (xs[i]'(by omega)) := List.getElem?_eq_getElem _
    have gy : ys[i]? = some (ys[i]'(by omega)) := List.getElem?_eq_getElem _
    obtain ⟨u, eu, ru⟩ := r1.get gx
    obtain ⟨v, ev, rv⟩ := r2.get gy
    have e1 : u = x := Option.some.inj (eu.symm.trans (by simpa using ex))
    have e2 : v = y := Option.some.inj (ev.symm.trans (by simpa using ey))
    subst e1 e2
    obtain ⟨I2, hn, fr⟩ := pair_inv (tk := tk) I hf (by simp [fp5]) kp hT tup ru rv fun b hb => let ⟨o, e, _⟩ := zip_live st0 b hb; ⟨o, e⟩
    obtain ⟨g1, g2, g3, ⟨g4, _⟩, g5, _⟩ := st'
    exact ⟨.ref T, _, I2, rfl, ⟨T, _, _, rfl, hn, rfl, gx, gy⟩, ⟨g1, g2, g3, g4, g5⟩, fr⟩
  done := by
    intro X hP hw hK hc i pins s σ H E I hf st hg
    subst hP hw hK
    obtain ⟨⟨q1, q2⟩, hi⟩ := hg
    obtain ⟨i1, r1, s1⟩ := k1.there I q1
    obtain ⟨i2, r2, s2⟩ := k2.there I q2
    have W := GoesN.zip2 (prog := X.prog) (w := X.w) (A := X.A) (elts := elts) (x1 := kk) (pos := tpos) (zip_sep2 (N := N) (fp1 := [a]) (fp2 := [b]) (by simpa using ha) (by simpa using hb))
      (k1.draws (A := X.A.in1) (I.ok.hd hc) N a (Nat.ne_of_lt ha) i1.toArray) (k2.draws (A := X.A.in1) (I.ok.hd hc) (N + 1) b (Nat.ne_of_lt (Nat.lt_succ_of_lt hb)) i2.toArray)
    obtain ⟨h1, h2, h3, h4, h5⟩ := st
    have hn : min i1.toArray.size i2.toArray.size = i := by rw [List.size_toArray, List.size_toArray, ← r1.length, ← r2.length]; exact hi.symm
    rw [hn] at W
    refine W.stops s _ E ⟨h1, h2, h3, ⟨h4, s1⟩, h5, s2⟩ fun h' tk kp htk => ?_
    exact I.turnedL (t' := tk) (ch := [N + 4, N + 3, N, N + 1]) kp fun b hb => hf b (by
      have : b = N + 4 ∨ b = N + 3 ∨ b = N ∨ b = N + 1 := by simpa using hb
      rcases this with e | e | e | e <;> simp [fp5, e])
  self := fun A i s Q E st h => wpAny_pyIter_zip st.1 h
def iZipU (K : PySem.W.Frag) (ta : TA) : TI := fun σ H R => ta σ H fun vs H1 => ∃ a b k1 k2 xs ys, vs = [.ref a, .ref b] ∧ Sk.sq K H1 a xs k1 ∧ Sk.sq K H1 b ys k2 ∧ R (ItP (fun H => k1.sq K H a xs ∧ k2.sq K H b ys) (min xs.length ys.length) (fun i => xs[i]?) (fun i => ys[i]?)) H1
theorem pi_zipU {e e2 : Expr} {ta : TA} {p pos tpos : Pos} {elts : List Expr} {kk : Nat} (hg : Gl X "zip") (hm : X.mg "zip" = none) (ha : PA X [e, e2] ta)
    (h1 : starEach [e, e2] X.env = (false, eval e X.env) :: starEach [e2] X.env := by rfl) (h2 : (backTo pos (starEach [e2] X.env)).any (·.1) = false := by rfl) :
    PI X (.Tuple elts kk tpos) (.Call (.Name "zip" p) [e, e2] [] pos) (iZipU X.K ta) := by
  refine ⟨fun pins s σ H R I h => PyProof.Rows.Call_ (ld_blt I hg hm PyProof.Rows.boot_zip (PyProof.Rows.callWith_type1 (thn (ha.run pos pins s σ H _ I h) fun us s1 ⟨vs, H1, I1, r1, q1⟩ => ?_) h1 h2))⟩
  obtain ⟨a, b, k1, k2, xs, ys, rfl, q1, q2, q⟩ := q1
  cases r1 with
  | cons r rr =>
  cases rr with
  | cons r' rr =>
  cases rr; cases r; cases r'
  obtain ⟨i1, r1, s1'⟩ := k1.there I1 q1
  obtain ⟨i2, r2, s2'⟩ := k2.there I1 q2
  refine zip_begins2 (k1.begins a i1.toArray) (k2.begins b i2.toArray) s1' s2' fun h' hz hTI hTO g1 g2 hsz hk => wpAny_pyIter_zip hz ?_
  refine ⟨s1.heap.objs.size + 4, fp5 s1.heap.objs.size, _, _, H1, rfl, I1.kept (t' := s1.toks) hk, turn_zipU k1 k2 (k1.lt s1') (k2.lt s2') xs ys, ⟨hz, hTI, ⟨_, _, hTO⟩, k1.first g1, k2.first g2⟩, fun c hc => ?_, q⟩
  have hle : s1.heap.objs.size ≤ c := by
    have : c = s1.heap.objs.size + 4 ∨ c = s1.heap.objs.size + 2 ∨ c = s1.heap.objs.size + 3 ∨ c = s1.heap.objs.size ∨ c = s1.heap.objs.size + 1 := by simpa [fp5] using hc
    rcases this with z | z | z | z | z <;> rw [z] <;> first | exact Nat.le_add_right _ _ | exact Nat.le_refl _
  exact I1.fpOk hle (I1.hok.fresh hle)
theorem wk_pair {Z : Hp} {S : Hp → Prop} {n : Nat} {f g : Nat → Option V} {ds : List D} (hS : ∀ H, Same Z H → S H) (hn : ds.length = n) (hd : ∀ i x y, i < n → f i = some x → g i = some y → ∃ a b, ds[i]? = some (.tuple [a, b]) ∧ Rp K Z x a ∧ Rp K Z y b) : Wk K (ItP S n f g) Z ds where
  goes := fun i H hi s => ⟨hS H s, by rw [← hn]; exact hi⟩
  stops := fun H s => ⟨hS H s, hn⟩
  yields := fun i H x H' hi y b0 B Z0 Z' σ ρ ok s => by
    obtain ⟨T, x, y, rfl, hT, rfl, e1, e2⟩ := y
    obtain ⟨a, b, ed, ra, rb⟩ := hd i x y (by omega) e1 e2
    obtain ⟨ok2, s2⟩ := ok.new (o := .tup [x, y]) hT
    exact ⟨_, _, ok2, s2, ed, .tup (.inl (.inl upd_same)) (.cons ((ra.mono s).mono s2) (.cons ((rb.mono s).mono s2) .nil))⟩
def skOf : D → Option (Sk × List D)
  | .list xs => some (.L, xs)
  | .tuple xs => some (.T, xs)
  | .dict [(.list xs, .none)] => some (.L, xs)
  | _ => none
theorem sk_rp {Z : Hp} {v : V} {d : D} {k : Sk} {ds : List D} (h : skOf d = some (k, ds)) (r : Rp K Z v d) : ∃ a xs, v = .ref a ∧ k.sq K Z a xs ∧ RpA K Z xs ds := by
  unfold skOf at h
  split at h
  · cases h
    cases r with
    | lst hs ra => exact ⟨_, _, rfl, .inl (.inl hs), ra⟩
  · cases h
    cases r with
    | tup hs ra => exact ⟨_, _, rfl, hs, ra⟩
  · cases h
    cases r with
    | scr hs ra => exact ⟨_, _, rfl, hs, ra⟩
  · cases h
def zipD (as bs : List D) : List D := List.zipWith (fun a b => .tuple [a, b]) as bs
def zip2D : List D → Option (List D)
  | [a, b] => match skOf a, skOf b with
    | some (_, xs), some (_, ys) => some (zipD xs ys)
    | _, _ => none
  | _ => none
theorem di_zip {ga : GA} (h : DA K tas ga) : DI K (iZipU K tas) (eCall zip2D ga) := fun b0 B Z0 Z H σ ρ ds ρ' W ok e q => by
  obtain ⟨os, as, e1, e2, e3⟩ := call_ok e
  refine h b0 B Z0 Z H σ ρ os ρ' _ ok e1 fun vs H1 Z1 ok1 s1 r1 => ?_
  have ra := valA_ok r1 e2
  unfold zip2D at e3
  split at e3
  · split at e3
    · rename_i k1 xs k2 ys f1 f2
      cases e3
      cases ra with
      | cons r ra =>
      cases ra with
      | cons r' ra =>
      cases ra
      obtain ⟨a, va, rfl, qa, rva⟩ := sk_rp f1 r
      obtain ⟨b, vb, rfl, qb, rvb⟩ := sk_rp f2 r'
      refine ⟨a, b, k1, k2, va, vb, rfl, k1.mono ok1.zh qa, k2.mono ok1.zh qb, q _ H1 Z1 ok1 s1 (wk_pair (fun H s => ⟨k1.mono s qa, k2.mono s qb⟩) ?_ fun i x y hi ex ey => ?_)⟩
      · unfold zipD; rw [List.length_zipWith, rva.length, rvb.length]
      · obtain ⟨d1, g1, rd1⟩ := rva.getV ex
        obtain ⟨d2, g2, rd2⟩ := rvb.getV ey
        refine ⟨d1, d2, ?_, rd1, rd2⟩
        unfold zipD
        rw [List.getElem?_zipWith, g1, g2]
    · cases e3
  · cases e3
end
end DL
namespace DL
open PySem L2
theorem enum_new1 {v : Value} {o : Obj} {HH : Heap → Prop} (B : Begins v o HH) :
    Meets (Builtin.«enumerate.__new__» ⟨[.type "enumerate", v], []⟩) (fun _ R s => HH s.heap ∧
      R (.ok (.ret (.ref (s.heap.push o).objs.size))) { s with heap := (s.heap.push o).push { cls := .type "enumerate", data := .fields #[.none, .bool false, .ref s.heap.objs.size, rawInt 0, .none, .none] } }) :=
  .of_wp fun prog w A R s h => by
    obtain ⟨hp, gn, dr, tk, os⟩ := s
    obtain ⟨h1, h⟩ := h
    have hsub := sub_enumerate
    have q1 : ∀ {A' : Around} {E : Value → Shared → Prop} {Q : Value → Shared → Prop}, Q (.ref hp.objs.size) ⟨hp.push o, gn, dr, tk, os⟩ → wpAny (model prog w) A' (pyIter v) Q E ⟨hp, gn, dr, tk, os⟩ :=
      fun q => B.iter prog w _ _ ⟨hp, gn, dr, tk, os⟩ _ h1 q
    wp_walk using q1
    refine wpAny_stack_any fun st => wpAny_pure ?_
    split
    · rename_i c _ _ _ _ _
      cases (c == Value.type "enumerate") <;> (wp_walk using q1; exact ⟨_, rfl, h⟩)
    · wp_walk using q1
      exact ⟨_, rfl, h⟩
theorem enum_begins1 {prog : Program} {w : World} {A : Around} {E : Value → Shared → Prop} {s : Shared} {v : Value} {o : Obj} {HH : Heap → Prop} {Q : Value → Shared → Prop} (B : Begins v o HH) (h1 : HH s.heap)
    (h : ∀ h', IsEnum h' (s.heap.objs.size + 1) s.heap.objs.size 0 .none → h'.get? s.heap.objs.size = some o → (∀ b o, s.heap.get? b = some o → h'.get? b = some o) → Q (.ref (s.heap.objs.size + 1)) { s with heap := h' }) :
    wpAny (model prog w) A (call (.type "enumerate") [v]) Q E s := by
  refine callType_new F.called_enumerate (by decide) (F.typeCall_enumerate_1 _) (F.newCall_enumerate_1 _) (fun obj => F.args_object_init_2 obj _) F.entry_enumerate_new (enum_new1 B) ⟨h1, ?_⟩
  have hz : (s.heap.push o).objs.size = s.heap.objs.size + 1 := Heap.size_push ..
  show _ ∧ _
  rw [hz]
  have he : IsEnum ((s.heap.push o).push { cls := .type "enumerate", data := .fields #[.none, .bool false, .ref s.heap.objs.size, rawInt 0, .none, .none] }) (s.heap.objs.size + 1) s.heap.objs.size 0 .none := by
    have q := Heap.get?_push_size (s.heap.push o) (o := { cls := .type "enumerate", data := .fields #[.none, .bool false, .ref s.heap.objs.size, rawInt 0, .none, .none] }) rfl
    rw [hz] at q
    exact q
  exact ⟨⟨_, he, rfl⟩, h _ he (Heap.get?_push_of_some _ (Heap.get?_push_size _ B.free)) fun b o x => Heap.get?_push_of_some _ (Heap.get?_push_of_some _ x)⟩
section
variable {X : Cx} {K : PySem.W.Frag} {ta tb te tc : TE} {tas : TA} {tg : Expr}
def enumTn (k : Sk) (a N : Addr) : Nat → Heap → Prop := fun i h => (∃ old, IsEnum h (N + 1) N (0 + (i : Int)) old) ∧ k.itr h N a i
theorem enum_live {k : Sk} {a N : Addr} {i : Nat} {h : Heap} (st : enumTn k a N i h) : ∀ c ∈ [N + 1, N], ∃ o, h.get? c = some o ∧ ∀ v, o.data ≠ .cell v := fun c hc => by
  obtain ⟨⟨old, h1⟩, h2⟩ := st
  have e : c = N + 1 ∨ c = N := by simpa using hc
  rcases e with e | e
  · rw [e]; exact ⟨_, h1, fun v z => nomatch z⟩
  · rw [e]; exact k.obj_of h2
theorem turn_enumU {P : Program} {w : World} {elts : List Expr} {kk : Nat} {tpos : Pos} (k : Sk) {a N : Addr} (ha : a < N) (xs : List V) :
    Turn P w K (.Tuple elts kk tpos) (ItP (fun H => k.sq K H a xs) xs.length (fun i => some (.int (0 + (i : Int)))) (fun i => xs[i]?)) [N + 1, N] (N + 1) (enumTn k a N) where
  mem := by simp
  obj := fun i h st => enum_live st
  keep := fun i h h' st kp => by
    obtain ⟨⟨old, h1⟩, h2⟩ := st
    exact ⟨⟨old, kp _ (by simp) _ h1⟩, k.keep h2 fun o q => kp _ (by simp) o q⟩
  item := by
    intro X hP hw hK hc i pins s σ H E I hf st hg
    subst hP hw hK
    obtain ⟨q1, hi⟩ := hg
    obtain ⟨i1, r1, s1⟩ := k.there I q1
    have W := GoesN.enumFrom (prog := X.prog) (w := X.w) (A := X.A) (elts := elts) (x1 := kk) (pos := tpos) 0 (k.draws (A := X.A.in1) (I.ok.hd hc) N a (Nat.ne_of_lt ha) i1.toArray) (N + 1) (Nat.succ_ne_self _) (by
      intro z
      rcases List.mem_cons.mp z with z | z
      · exact Nat.succ_ne_self _ z
      · rcases List.mem_cons.mp z with z | z
        · exact Nat.lt_irrefl _ (Nat.lt_of_lt_of_le ha (by rw [← z]; exact Nat.le_succ N))
        · cases z) (by simp)
    have st0 := st
    obtain ⟨h1, h2⟩ := st
    refine W.goes i s _ E (by rw [List.size_toArray, ← r1.length]; exact hi) ⟨h1, h2, s1⟩ fun v h' tk hY st' kp htk => ?_
    obtain ⟨T, t, x, rfl, hT, ex, tup⟩ := hY
    have gx : xs[i]? = some xs[i] := List.getElem?_eq_getElem _
    obtain ⟨u, eu, ru⟩ := r1.get gx
    have e1 : u = x := Option.some.inj (eu.symm.trans (by simpa using ex))
    subst e1
    obtain ⟨I2, hn, fr⟩ := pair_inv (tk := tk) (x := .int (0 + (i : Int))) I hf (by simp) kp hT tup ⟨_, rfl⟩ ru fun b hb => let ⟨o, e, _⟩ := enum_live st0 b hb; ⟨o, e⟩
    obtain ⟨g1, g2, _⟩ := st'
    exact ⟨.ref T, _, I2, rfl, ⟨T, _, _, rfl, hn, rfl, rfl, gx⟩, ⟨g1, g2⟩, fr⟩
  done := by
    intro X hP hw hK hc i pins s σ H E I hf st hg
    subst hP hw hK
    obtain ⟨q1, hi⟩ := hg
    obtain ⟨i1, r1, s1⟩ := k.there I q1
    have W := GoesN.enumFrom (prog := X.prog) (w := X.w) (A := X.A) (elts := elts) (x1 := kk) (pos := tpos) 0 (k.draws (A := X.A.in1) (I.ok.hd hc) N a (Nat.ne_of_lt ha) i1.toArray) (N + 1) (Nat.succ_ne_self _) (by
      intro z
      rcases List.mem_cons.mp z with z | z
      · exact Nat.succ_ne_self _ z
      · rcases List.mem_cons.mp z with z | z
        · exact Nat.lt_irrefl _ (Nat.lt_of_lt_of_le ha (by rw [← z]; exact Nat.le_succ N))
        · cases z) (by simp)
    obtain ⟨h1, h2⟩ := st
    have hn : i1.toArray.size = i := by rw [List.size_toArray, ← r1.length]; exact hi.symm
    rw [hn] at W
    refine W.stops s _ E ⟨h1, h2, s1⟩ fun h' tk kp htk => ?_
    exact I.turnedL (t' := tk) (ch := [N + 1, N]) kp fun b hb => hf b hb
  self := fun A i s Q E st h => let ⟨⟨_, he⟩, _⟩ := st; wpAny_pyIter_enum he h
def iEnumU (K : PySem.W.Frag) (ta : TA) : TI := fun σ H R => ta σ H fun vs H1 => ∃ a k xs, vs = [.ref a] ∧ Sk.sq K H1 a xs k ∧ R (ItP (fun H => k.sq K H a xs) xs.length (fun i => some (.int (0 + (i : Int)))) (fun i => xs[i]?)) H1
theorem pi_enumU {e : Expr} {ta : TA} {p pos tpos : Pos} {elts : List Expr} {kk : Nat} (hg : Gl X "enumerate") (hm : X.mg "enumerate" = none) (ha : PA X [e] ta) (h1 : starEach [e] X.env = [(false, eval e X.env)] := by rfl) :
    PI X (.Tuple elts kk tpos) (.Call (.Name "enumerate" p) [e] [] pos) (iEnumU X.K ta) := by
  refine ⟨fun pins s σ H R I h => PyProof.Rows.Call_ (ld_blt I hg hm PyProof.Rows.boot_enumerate (PyProof.Rows.callWith_type1 (thn (ha.run pos pins s σ H _ I h) fun us s1 ⟨vs, H1, I1, r1, q1⟩ => ?_) h1 rfl))⟩
  obtain ⟨a, k, xs, rfl, q1, q⟩ := q1
  cases r1 with
  | cons r rr =>
  cases rr; cases r
  obtain ⟨i1, r1, s1'⟩ := k.there I1 q1
  refine enum_begins1 (k.begins a i1.toArray) s1' fun h' he g1 hk => wpAny_pyIter_enum he ?_
  refine ⟨s1.heap.objs.size + 1, [s1.heap.objs.size + 1, s1.heap.objs.size], _, _, H1, rfl, I1.kept (t' := s1.toks) hk, turn_enumU k (k.lt s1') xs, ⟨⟨_, he⟩, k.first g1⟩, fun c hc => ?_, q⟩
  have hle : s1.heap.objs.size ≤ c := by
    have : c = s1.heap.objs.size + 1 ∨ c = s1.heap.objs.size := by simpa using hc
    rcases this with z | z <;> rw [z] <;> first | exact Nat.le_add_right _ _ | exact Nat.le_refl _
  exact I1.fpOk hle (I1.hok.fresh hle)
def enumFrom (i : Nat) : List D → List D
  | [] => []
  | d :: ds => .tuple [.int (i : Int), d] :: enumFrom (i + 1) ds
theorem enumFrom_len : ∀ (ds : List D) (i : Nat), (enumFrom i ds).length = ds.length
  | [], _ => rfl
  | d :: ds, i => by
    show (enumFrom (i + 1) ds).length + 1 = ds.length + 1
    rw [enumFrom_len ds (i + 1)]
theorem enumFrom_get : ∀ (ds : List D) (i j : Nat) (d : D), ds[j]? = some d → (enumFrom i ds)[j]? = some (.tuple [.int ((i + j : Nat) : Int), d])
  | d :: ds, i, 0, e, h => by cases h; rfl
  | d :: ds, i, j + 1, e, h => by
    show (enumFrom (i + 1) ds)[j]? = _
    rw [enumFrom_get ds (i + 1) j e h, show i + 1 + j = i + (j + 1) by omega]
def enum1D : List D → Option (List D)
  | [a] => (skOf a).map fun q => enumFrom 0 q.2
  | _ => none
theorem di_enum {ga : GA} (h : DA K tas ga) : DI K (iEnumU K tas) (eCall enum1D ga) := fun b0 B Z0 Z H σ ρ ds ρ' W ok e q => by
  obtain ⟨os, as, e1, e2, e3⟩ := call_ok e
  refine h b0 B Z0 Z H σ ρ os ρ' _ ok e1 fun vs H1 Z1 ok1 s1 r1 => ?_
  have ra := valA_ok r1 e2
  unfold enum1D at e3
  split at e3
  · obtain ⟨⟨k, xs⟩, f1, rfl⟩ := Option.map_eq_some_iff.mp e3
    cases ra with
    | cons r ra =>
    cases ra
    obtain ⟨a, va, rfl, qa, rva⟩ := sk_rp f1 r
    refine ⟨a, k, va, rfl, k.mono ok1.zh qa, q _ H1 Z1 ok1 s1 (wk_pair (fun H s => k.mono s qa) (by rw [enumFrom_len, rva.length]) fun i x y hi ex ey => ?_)⟩
    cases ex
    obtain ⟨d1, g1, rd1⟩ := rva.getV ey
    exact ⟨_, d1, enumFrom_get xs 0 i d1 g1, by rw [show ((0 + i : Nat) : Int) = 0 + (i : Int) by omega]; exact .int _, rd1⟩
  · cases e3
def tyName : D → String
  | .none => "NoneType"
  | .bool _ => "bool"
  | .int _ => "int"
  | .str _ => "str"
  | .list _ => "list"
  | .tuple _ => "tuple"
  | .dict [(.list _, .none)] => "list"
  | .dict _ => "?"
def plainT (d : D) : Bool := tyName d != "?"
def isiD (T : String) (d : D) : Option D := if plainT d then (kitB (tyName d) T).map .bool else none
def isiAny (a : String) : List String → Option Bool
  | [] => some false
  | T :: r => match kitB a T with
    | some true => some true
    | some false => isiAny a r
    | none => none
def isiTD (Ts : List String) (d : D) : Option D := if plainT d then (isiAny (tyName d) Ts).map .bool else none
theorem tyx_of {Z H : Hp} {v : V} {d : D} (s : Same Z H) (h : Bd K Z H v d) (hp : plainT d = true) : TyX K H v (.type (tyName d)) := by
  cases h with
  | non => exact .base .non
  | bl b => exact .base (.bl b)
  | int i => exact .base (.int i)
  | str x => exact .base (.str x)
  | lst h r => exact .base (.lst h)
  | scr h r =>
    rcases h with (h | ⟨o, h⟩) | ⟨o, its, n, h, c, _⟩
    · exact .base (.lst h)
    · exact .base (.frz h)
    · exact .kList h c
  | tup h r =>
    rcases same_t s h with (h | ⟨o, h⟩) | ⟨o, its, n, h, c, _⟩
    · exact .base (.tup h)
    · exact .fTuple h
    · exact .kTuple h c
  | exc h1 h2 h3 r => exact absurd (show false = true from hp) (by decide)
  | dct h r => exact absurd (show false = true from hp) (by decide)
theorem de_isi {T : String} {g : GO} (h : DO K te g) : DE K (tCB (rIsi K) (tCons te (tCons (tC (.ty T)) tNil))) (eOp1 (isiD T) g) := fun b0 B Z0 Z H σ ρ d ρ' Q ok e q => by
  obtain ⟨x, a, e1, e3, e5⟩ := op1_ok e
  unfold isiD at e5
  split at e5
  case isFalse => cases e5
  rename_i hp
  obtain ⟨b, e6, rfl⟩ := Option.map_eq_some_iff.mp e5
  refine h b0 B Z0 Z H σ ρ x ρ' _ ok e1 fun v H1 Z1 ok1 s1 r1 => ?_
  exact ⟨v, .ty T, _, _, b, rfl, .ty T, tyx_of ok1.zh (ok1.bd r1 e3) hp, kit_ty e6, q _ H1 Z1 ok1 s1 (.bl b)⟩
theorem kitAny_of {a : String} : ∀ {Ts : List String} {b : Bool}, isiAny a Ts = some b → PySem.W.kitAny K (.type a) (Ts.map Value.type) = some b
  | [], b, h => by cases h; rfl
  | T :: r, b, h => by
    unfold isiAny at h
    split at h
    · rename_i hk
      cases h
      exact kitAny_cons (kit_ty hk) (fun z => nomatch z) fun _ => rfl
    · rename_i hk
      exact kitAny_cons (kit_ty hk) (fun _ => kitAny_of h) fun z => nomatch z
    · cases h
def tTys : List String → TA
  | [] => tNil
  | T :: r => tCons (tC (.ty T)) (tTys r)
theorem tTys_run {σ : L2.St} {H : Hp} {Q : List V → Hp → Prop} : ∀ (Ts : List String), Q (Ts.map V.ty) H → tTys Ts σ H Q
  | [], h => h
  | T :: r, h => tTys_run (Q := fun xs H2 => Q (.ty T :: xs) H2) r h
theorem paired_ty : ∀ Ts : List String, Paired ClsV (Ts.map V.ty) (Ts.map Value.type)
  | [] => .nil
  | T :: r => .cons (.ty T) (paired_ty r)
theorem de_isiT {Ts : List String} {g : GO} (hl : Ts.length ≤ sizeLine) (h : DO K te g) : DE K (tCB (rIsiT K) (tCons te (tCons (tTup (tTys Ts)) tNil))) (eOp1 (isiTD Ts) g) := fun b0 B Z0 Z H σ ρ d ρ' Q ok e q => by
  obtain ⟨x, a, e1, e3, e5⟩ := op1_ok e
  unfold isiTD at e5
  split at e5
  case isFalse => cases e5
  rename_i hpl
  obtain ⟨b, e6, rfl⟩ := Option.map_eq_some_iff.mp e5
  refine h b0 B Z0 Z H σ ρ x ρ' _ ok e1 fun v H1 Z1 ok1 s1 r1 => ?_
  refine tTys_run (Q := fun xs H2 => xs.length ≤ sizeLine ∧ ∀ p, H2 p = none → _) Ts ⟨by rw [List.length_map]; exact hl, fun p hp => ?_⟩
  obtain ⟨ok2, zp, bp, ap⟩ := ok1.fresh (o := .tup (Ts.map V.ty)) hp
  exact ⟨v, p, Ts.map V.ty, _, _, b, rfl, upd_same, paired_ty Ts, tyx_of ok2.zh (ok2.bd r1 e3) hpl, kitAny_of e6, q _ _ Z1 ok2 s1 (.bl b)⟩
end
end DL
namespace DL
open PySem L2
section
variable {X : Cx} {K : PySem.W.Frag} {ta tb te tc : TE} {tas tks : TA} {tg : Expr}
theorem sn2_of_f {r : R2} {f : D → D → Option (List D)} (h : Sn2F K r f) : Sn2 K r (fun a b => (f a b).map .list) := fun b0 B Z0 Z H σ ρ x y a b c Q ok ha hb e q => by
  obtain ⟨ds, e1, rfl⟩ := Option.map_eq_some_iff.mp e
  refine h b0 B Z0 Z H σ ρ x y a b ds Q ok ha hb e1 fun p vs H' ok' zp bp ap hp r => ?_
  obtain ⟨ok2, s2⟩ := ok'.freeze zp bp ap hp
  exact q (.ref p) H' _ ok2 s2 (.lst upd_same (r.mono s2))
theorem sn2_or {r : R2} {f g : D → D → Option D} (h : Sn2 K r f) (h' : Sn2 K r g) : Sn2 K r (fun a b => (f a b).orElse fun _ => g a b) := fun b0 B Z0 Z H σ ρ x y a b c Q ok ha hb e q => by
  dsimp only at e
  cases hf : f a b with
  | some d =>
    rw [hf] at e
    cases e
    exact h b0 B Z0 Z H σ ρ x y a b _ Q ok ha hb hf q
  | none =>
    rw [hf] at e
    exact h' b0 B Z0 Z H σ ρ x y a b c Q ok ha hb e q
def addU (a b : D) : Option D := (addD a b).orElse fun _ => (addL a b).map .list
def mulU (a b : D) : Option D := (mulD a b).orElse fun _ => (repL a b).map .list
theorem sn_addU : Sn2 K (rAddU K) addU := sn2_or sn_add (sn2_of_f sn_addL)
theorem sn_mulU : Sn2 K rMulU mulU := sn2_or sn_mul (sn2_of_f sn_repL)
def sliceU (d : D) (lo hi : Option Int) : Option D := (sliceT d lo hi).orElse fun _ => (sliceL d lo hi).map .list
theorem sn_sliceU : SnSl K (rSlU K) sliceU := fun b0 B Z0 Z H σ ρ x a lo hi c Q ok ha e q => by
  unfold sliceU at e
  cases hf : sliceT a lo hi with
  | some d =>
    rw [hf] at e
    cases e
    exact sn_sliceT b0 B Z0 Z H σ ρ x a lo hi _ Q ok ha hf q
  | none =>
    rw [hf] at e
    obtain ⟨ds, e1, rfl⟩ := Option.map_eq_some_iff.mp e
    refine sn_sliceL b0 B Z0 Z H σ ρ x a lo hi ds Q ok ha e1 fun p vs H' ok' zp bp ap hp r => ?_
    obtain ⟨ok2, s2⟩ := ok'.freeze zp bp ap hp
    exact q (.ref p) H' _ ok2 s2 (.lst upd_same (r.mono s2))
def eCallBF (F : List D → List D → Option (List D × List D)) (i : Nat) (ga : GA) (ρ : Rho) : R (List D) := if isOw ρ[i]? then (ga ρ).bind fun os ρ1 => match ρ1[i]?, valA os with
    | some (.ow box), some ds => (match F box ds with
      | some (d, box') => .ok d (ρ1.set i (.ow box'))
      | none => .bad)
    | _, _ => .bad
  else .bad
structure KwB (K : PySem.W.Frag) (fd : FuncData) (ps ks : List Str) (g : {α : Type} → List α → List α) : Prop where
  to : ∀ (s : Shared) (ws : List Value), K.In s.heap → ws.length = ks.length → BindsTo s fd ⟨[], ks.zip ws⟩ (ps.zip (g ws))
  rel : ∀ {A C : Type} {rel : A → C → Prop} {zs : List A} {ws : List C}, Paired rel zs ws → Paired rel (g zs) (g ws)
def tCallW (sp : Sp) (m : Nat) (g : {α : Type} → List α → List α) (E : XK) (tk : TA) : TE := fun σ H Q => tk σ H fun zs H2 => zs.length = m ∧ sp (g zs) H2 Q E
theorem pe_callW {CX : CXT} {k : Nat} {f : Addr} {fd : FuncData} {ps ks : List Str} {sp : Sp} {E : XK} {x : Str} {p pos : Pos} {kws : List Keyword} {g : {α : Type} → List α → List α} (F : FnOk X.prog X.w X.K X.mg X.base CX k f fd ps sp) (hr : Room k X.A) (hg : Gl X x) (hm : X.mg x = some (.ref f)) (hk : PySem.W.keepIn X.K (.ref f) = true) (hb : KwB X.K fd ps ks g) (hx : Passes CX X E) (hkw : PK X kws tks)
    (c1 : (backToKw pos (keywordEach kws X.env)).all (·.1.isSome) = true := by rfl) (c2 : (backToKw pos (keywordEach kws X.env)).filterMap (·.1) = ks := by rfl) (c3 : (x == ("__debug__" : Str)) = false := by decide)
    (c4 : ((backTo pos (starEach [] X.env)).any (·.1) || (backToKw pos (keywordEach kws X.env)).any (·.1.isNone)) = false := by rfl) : PE X (.Call (.Name x p) [] kws pos) (tCallW sp ks.length g E tks) := by
  refine ⟨fun pins s σ H Q I h => wpAny_Call_Name_kw (ld_glob I hg hm (PySem.W.callWith_KW0 (h₀ := X.base) I.ok.mod.kin hk c1 ?_ c4) c3)⟩
  refine thn (hkw.run pos pins s σ H _ I h) fun ws s2 ⟨zs, H2, I2, rz, l2, q2⟩ => ⟨I2.kIn, ?_⟩
  rw [c2]
  have r2 : Vals (g zs) (g ws) := hb.rel rz
  refine wpAny_call (codeAny_mono (F.run X.A X.stack s2 H2 ⟨[], ks.zip ws⟩ (g ws) (g zs) Q E hr I2.env0 (hb.to s2 ws I2.kIn (rz.length.symm.trans l2)) r2 q2) fun r s' hq => ?_)
  cases r with
  | error e => exact hx pins σ H2 s2 e s' I2 hq
  | ok fl => cases fl <;> first | exact I2.after hq | exact hq.elim
def eCallW {α : Type} (F : List D → Option α) (m : Nat) (g : {α : Type} → List α → List α) (ga : GA) (ρ : Rho) : R α := (ga ρ).bind fun os ρ1 => match valA os with
  | some ds => if ds.length = m then R.lift (F (g ds)) ρ1 else .bad
  | none => .bad
theorem RpA.paired {Z : Hp} : ∀ {vs : List V} {ds : List D}, RpA K Z vs ds → Paired (Rp K Z) vs ds
  | _, _, .nil => .nil
  | _, _, .cons h r => .cons h (RpA.paired r)
theorem RpA.of_paired {Z : Hp} : ∀ {vs : List V} {ds : List D}, Paired (Rp K Z) vs ds → RpA K Z vs ds
  | _, _, .nil => .nil
  | _, _, .cons h r => .cons h (RpA.of_paired r)
theorem callW_ok {α : Type} {F : List D → Option α} {m : Nat} {g : {α : Type} → List α → List α} {ga : GA} {ρ ρ' : Rho} {z : α} (e : eCallW F m g ga ρ = .ok z ρ') : ∃ os ds, ga ρ = .ok os ρ' ∧ valA os = some ds ∧ ds.length = m ∧ F (g ds) = some z := by
  obtain ⟨x, ρ1, e1, e2⟩ := R.bind_ok e
  split at e2
  · rename_i d h1
    split at e2
    · obtain ⟨e5, rfl⟩ := R.lift_ok e2
      exact ⟨x, d, e1, h1, by assumption, e5⟩
    · cases e2
  · cases e2
theorem de_callW {m np : Nat} {F : List D → Option D} {g : {α : Type} → List α → List α} {ga : GA} {E : XK} (hg : ∀ {A C : Type} {rel : A → C → Prop} {zs : List A} {ws : List C}, Paired rel zs ws → Paired rel (g zs) (g ws)) (hF : ∀ ds d, F ds = some d → ds.length = np) (ha : DA K tks ga) : DE K (tCallW (spP K np F) m g E tks) (eCallW F m g ga) := fun b0 B Z0 Z H σ ρ d ρ' Q ok e q => by
  obtain ⟨os, ds, e1, e2, hm, e3⟩ := callW_ok e
  refine ha b0 B Z0 Z H σ ρ os ρ' _ ok e1 fun vs H1 Z1 ok1 s1 r1 => ?_
  have ra := valA_ok r1 e2
  have rg : RpA K Z1 (g vs) (g ds) := RpA.of_paired (hg ra.paired)
  refine ⟨by rw [ra.length]; exact hm, by rw [rg.length]; exact hF _ _ e3, Z1, g ds, d, ok1.zh, rg, e3, fun v H' Z' hh g r => ?_⟩
  exact q v H' Z' (ok1.grow hh g) (s1.trans g.1) r
theorem fn_noneP {P : Program} {w : World} {mg : Str → Option Value} {base : Heap} {k np : Nat} {f : Addr} {fd : FuncData} {ps : List Str} (h : ps.length = np) : FnOk P w K mg base CX0 k f fd ps (spP K np fun _ => none) :=
  ⟨fun vs H Q E q => q.1.trans h.symm, fun A outer s H args us vs Q E hr he hb hv hs => by
    obtain ⟨_, Z, ds, d, _, _, e, _⟩ := hs
    cases e⟩
theorem fn_noneB {P : Program} {w : World} {mg : Str → Option Value} {base : Heap} {k np : Nat} {f : Addr} {fd : FuncData} {ps : List Str} (h : ps.length = np) : FnOk P w K mg base CX0 k f fd ps (spB K np fun _ _ => none) :=
  ⟨fun vs H Q E q => q.1.trans h.symm, fun A outer s H args us vs Q E hr he hb hv hs => by
    obtain ⟨_, Z, b, vb, box, rest, ds, d, box', _, _, _, _, _, _, e, _⟩ := hs
    cases e⟩
end
end DL
namespace DL
open PySem PySem.Spec PyProof.Rows L2
structure FnG (P : Program) (w : World) (K : PySem.W.Frag) (mg : Str → Option Value) (base : Heap) (k : Nat) (f : Addr) (fd : FuncData) (ps : List Str) (sp : Sp) : Prop where
  len : ∀ vs H Q E, sp vs H Q E → vs.length = ps.length
  run : ∀ (A : Around) (out : List PySem.Env) (t : Shared) (H : Hp) (ar : Args) (us : List Value) (vs : List V) (Q : VK) (E : XK), Room k A → A.guards = some [] → Env0 P w K mg base A out t H → BindsTo t fd ar (ps.zip us) → Vals vs us → sp vs H Q E →
    codeAny (model P w) A (.call (.ref f) ar) (CR CX0 out P w H t Q E) t
section
variable {P : Program} {w : World} {K : PySem.W.Frag} {mg : Str → Option Value} {base : Heap} {X : Cx}
theorem FnG.mono {j k : Nat} {f : Addr} {fd : FuncData} {ps : List Str} {sp : Sp} (F : FnG P w K mg base j f fd ps sp) (h : j ≤ k) : FnG P w K mg base k f fd ps sp :=
  ⟨F.len, fun A out t H ar us vs Q E hr => F.run A out t H ar us vs Q E (hr.mono h)⟩
end
section
variable {X : Cx} {K : PySem.W.Frag}
def rg2 (a b : D) : Option (List D) := match a, b with
  | .int i, .int j => if -(2 ^ 62) ≤ i ∧ i < 2 ^ 62 ∧ -(2 ^ 62) ≤ j ∧ j < 2 ^ 62 ∧ (j - i).toNat ≤ 2 ^ 24 then some (rangeD i (j - i).toNat) else none
  | _, _ => none
def eRg2 (a b : GE) (ρ : Rho) : R (List D) := (a ρ).bind fun x ρ1 => (b ρ1).bind fun y ρ2 => R.lift (rg2 x y) ρ2
def eRg1 (a : GE) (ρ : Rho) : R (List D) := (a ρ).bind fun x ρ1 => R.lift (rg2 (.int 0) x) ρ1
variable {ta tb : TE}
end
end DL
namespace DL
open PySem PySem.Spec PyProof.Rows L2
open AutoSeq1 (wpAny_loadPart')
theorem tup_mul1 (l : Addr) (its : Array Value) (n : Nat) (dd : Option Addr) (sl : Array (Option Value)) (u : Tok) :
    Meets (Builtin.«tuple.__mul__» ⟨[.ref l, .int 1 u], []⟩) (fun _ R s => s.heap.get? l = some { cls := .type "tuple", dict := dd, data := .seq its n, slots := sl } ∧ R (.ok (.ret (Value.ref l))) s) :=
  .of_wp fun prog w A R s h => by
    obtain ⟨hp, g, d, tk, os⟩ := s
    obtain ⟨hl, h⟩ := h
    have f1 := AutoSeq1.idx_int
    have c : (its.isEmpty || (1 : Int) == 1) = true := by cases its.isEmpty <;> rfl
    wp_walk using wpAny_loadPart' hl
    exact ⟨_, rfl, h⟩
theorem tup_mul0 (l : Addr) (its : Array Value) (n : Nat) (dd : Option Addr) (sl : Array (Option Value)) (u : Tok) (c : its.isEmpty = false) :
    Meets (Builtin.«tuple.__mul__» ⟨[.ref l, .int 0 u], []⟩) (fun _ R s => s.heap.get? l = some { cls := .type "tuple", dict := dd, data := .seq its n, slots := sl } ∧ R (.ok (.ret (Value.ref s.heap.objs.size))) { s with heap := s.heap.push { cls := Value.type "tuple", data := Data.seq #[] } }) :=
  .of_wp fun prog w A R s h => by
    obtain ⟨hp, g, d, tk, os⟩ := s
    obtain ⟨hl, h⟩ := h
    have f1 := AutoSeq1.idx_int
    have c1 : (its.isEmpty || (0 : Int) == 1) = false := by rw [c]; rfl
    have c2 : (decide ((0 : Int) ≤ 0) || its.isEmpty) = true := rfl
    wp_walk using wpAny_loadPart' hl
    exact ⟨_, rfl, h⟩
section
variable {X : Cx} {K : PySem.W.Frag}
def rRepT01 (K : PySem.W.Frag) : R2 := fun x y H Q => ∃ l k xs, x = .ref l ∧ y = .int k ∧ SqT K H l xs ∧ xs ≠ [] ∧ ((k = 0 ∧ ∀ p, H p = none → Q (.ref p) (upd H p (.tup []))) ∨ (k = 1 ∧ Q (.ref l) H))
theorem op_repT01 : OpR X (binaryOp .Mult) (rRepT01 X.K) := by
  intro pins s σ H x y v u Q I rx ry h
  obtain ⟨l, k, xs, rfl, rfl, hT, hne, h⟩ := h
  cases rx
  obtain ⟨t, rfl⟩ := ry
  obtain ⟨its, r, ⟨⟨cls, dd, data, sl⟩, ho, hc, n, hd⟩, hs⟩ := I.tuple hT
  simp only at hc hd
  subst hc hd
  have hi : its.toArray.isEmpty = false := by
    cases its with
    | nil => exact absurd (List.eq_nil_of_length_eq_zero (by rw [r.length]; rfl)) hne
    | cons a b => rfl
  refine wpAny_binaryOp_repeat_ref (T := "tuple") (U := "int") (by decide) ⟨_, ho, rfl⟩ (fun s' => typeIs_int s' k t) noFill_tuple_mul F.fills_int_mul F.slot_int_rmul repeat_tuple F.slot_int_index.lookup ?_
  refine call_meets F.slot_int_rmul (typeIs_int s k t) F.entry_int_rmul (F.args_int_rmul_2 _ _) (int_rmul_tuple k t l its.toArray n dd sl) ⟨ho, rfl, ⟨_, ho, rfl⟩, ?_⟩
  rcases h with ⟨rfl, q⟩ | ⟨rfl, q⟩
  · refine call_meets F.slot_tuple_mul ⟨_, ho, rfl⟩ F.entry_tuple_mul (F.args_tuple_mul_2 _ _) (tup_mul0 l its.toArray n dd sl t hi) ⟨ho, ?_⟩
    exact ⟨.ref s.heap.objs.size, _, I.laid (t' := s.toks) (o := .tup []) (fun b ob q => Heap.get?_push_of_some _ q) (Nat.le_refl _) ⟨Nat.zero_le _, [], .nil, IsTup.new _ _⟩, rfl, q _ (I.hok.fresh (Nat.le_refl _))⟩
  · refine call_meets F.slot_tuple_mul ⟨_, ho, rfl⟩ F.entry_tuple_mul (F.args_tuple_mul_2 _ _) (tup_mul1 l its.toArray n dd sl t) ⟨ho, ?_⟩
    exact ⟨.ref l, H, I, rfl, q⟩
/-- * : ints, a list or a tuple times an int -/
def rMulT (K : PySem.W.Frag) : R2 := fun x y H Q => rMulU x y H Q ∨ rRepT K x y H Q ∨ rRepT01 K x y H Q
theorem op_mulT : OpR X (binaryOp .Mult) (rMulT X.K) := opr_or op_mulU (opr_or op_repT op_repT01)
def repT : D → D → Option D
  | .tuple xs, .int k => if 0 ≤ k ∧ k ≤ 1000 ∧ xs.length ≤ 1000 ∧ xs ≠ [] then some (.tuple (List.replicate k.toNat xs).flatten) else none
  | _, _ => none
theorem sn_repT : Sn2 K (rMulT K) repT := fun b0 B Z0 Z H σ ρ x y a b c Q ok ha hb e q => by
  unfold repT at e
  split at e
  · split at e
    · rename_i hl
      obtain ⟨h0, h1, h2, h3⟩ := hl
      cases e
      cases hb
      cases ha with
      | tup hs ra =>
      have hne : ∀ {vs : List V} {ds : List D}, RpA K Z vs ds → ds ≠ [] → vs ≠ [] := fun r n z => by
        subst z
        cases r
        exact n rfl
      rename_i k _ _
      by_cases k0 : k = 0
      · subst k0
        refine .inr (.inr ⟨_, _, _, rfl, rfl, same_t ok.zh hs, hne ra h3, .inl ⟨rfl, fun p hp => ?_⟩⟩)
        obtain ⟨ok2, s2⟩ := ok.new (o := .tup []) hp
        exact q _ _ _ ok2 s2 (.tup (.inl (.inl upd_same)) .nil)
      · by_cases k1 : k = 1
        · subst k1
          refine .inr (.inr ⟨_, _, _, rfl, rfl, same_t ok.zh hs, hne ra h3, .inr ⟨rfl, q _ H Z ok (Same.refl Z) ?_⟩⟩)
          have := flat_rep ra 1
          rw [show (List.replicate 1 _).flatten = _ from List.append_nil _] at this
          exact .tup hs this
        · refine .inr (.inl ⟨_, _, _, rfl, rfl, same_t ok.zh hs, hne ra h3, by omega, h1, by rw [ra.length]; exact h2, fun p hp => ?_⟩)
          obtain ⟨ok2, s2⟩ := ok.new (o := .tup _) hp
          exact q _ _ _ ok2 s2 (.tup (.inl (.inl upd_same)) ((flat_rep ra _).mono s2))
    · cases e
  · cases e
def mulV (a b : D) : Option D := (mulU a b).orElse fun _ => repT a b
theorem sn_mulV : Sn2 K (rMulT K) mulV := sn2_or (sn2_mono sn_mulU fun _ _ _ _ h => .inl h) sn_repT
variable {te : TE} {tas : TA}
def eCallBX (F : List D → List D → Option (D × List D)) (g0 : GF) (ga : GA) (ρ : Rho) : R D := (g0 ρ).bind fun box ρ1 => (ga ρ1).bind fun os ρ2 => match valA os with
  | some ds => (match F box ds with
    | some (d, _) => .ok d ρ2
    | none => .bad)
  | none => .bad
end
end DL
namespace DL
open PySem L2
theorem addU_int (i j : Int) : addU (.int i) (.int j) = some (.int (i + j)) := rfl
theorem subD_int (i j : Int) : subD (.int i) (.int j) = some (.int (i - j)) := rfl
theorem mulD_of {i j : Int} (h : CMulU i j) : mulV (.int i) (.int j) = some (.int (i * j)) := by
  have e : mulD (.int i) (.int j) = some (.int (i * j)) := if_pos h
  unfold mulV mulU
  rw [e]; rfl
theorem cmul_l {i j : Int} (h : -(2 ^ 64) < i ∧ i < 2 ^ 64) : mulV (.int i) (.int j) = some (.int (i * j)) := mulD_of (.inl (.inl h))
theorem cmul_r {i j : Int} (h : -(2 ^ 64) < j ∧ j < 2 ^ 64) : mulV (.int i) (.int j) = some (.int (i * j)) := mulD_of (.inl (.inr h))
theorem modD_int {i j : Int} (h : 0 < j) : modD (.int i) (.int j) = some (.int (i % j)) := if_pos h
theorem fdivD_int {i j : Int} (h : 0 < j) (h2 : j < 2 ^ 300) : fdivD (.int i) (.int j) = some (.int (i / j)) := by
  have q : j.natAbs.log2 < 9000 := by
    have : j.natAbs < 2 ^ 300 := by omega
    have h0 : j.natAbs ≠ 0 := by omega
    exact Nat.lt_of_lt_of_le ((Nat.log2_lt h0).mpr this) (by decide)
  exact if_pos ⟨h, q⟩
theorem ltD_int (i j : Int) : ltD (.int i) (.int j) = some (.bool (decide (i < j))) := rfl
theorem leD_int (i j : Int) : leD (.int i) (.int j) = some (.bool (decide (i ≤ j))) := rfl
theorem gtD_int (i j : Int) : gtD (.int i) (.int j) = some (.bool (decide (j < i))) := rfl
theorem geD_int (i j : Int) : geD (.int i) (.int j) = some (.bool (decide (j ≤ i))) := rfl
theorem negD_int (i : Int) : negD (.int i) = some (.int (-i)) := rfl
theorem absD_int (i : Int) : absD [.int i] = some (.int (if i < 0 then -i else i)) := rfl
theorem intD_bool (k : Bool) : intD [.bool k] = some (.int (if k then 1 else 0)) := rfl
theorem intD_int (i : Int) : intD [.int i] = some (.int i) := rfl
theorem lenD_list (xs : List D) : lenD [.list xs] = some (.int xs.length) := rfl
theorem lenD_tuple (xs : List D) : lenD [.tuple xs] = some (.int xs.length) := rfl
theorem lenD_scr (xs : List D) : lenD [.dict [(.list xs, .none)]] = some (.int xs.length) := rfl
theorem pow10_7 : powD (.int 10) (.int 7) = some (.int 10000000) := rfl
theorem pow10_18 : powD (.int 10) (.int 18) = some (.int 1000000000000000000) := rfl
theorem pow10_40 : powD (.int 10) (.int 40) = some (.int 10000000000000000000000000000000000000000) := rfl
theorem isD_none (d : D) : isD d .none = some (.bool (isNoneD d)) := by cases d <;> rfl
theorem isNotD_none (d : D) : isNotD d .none = some (.bool (!isNoneD d)) := by cases d <;> rfl
theorem shaped_int (i : Int) : SeqAt.shaped (.int i) = true := rfl
theorem shaped_bool (b : Bool) : SeqAt.shaped (.bool b) = true := rfl
theorem eqv_int (i j : Int) : PyData.eqv (.int i) (.int j) = decide (i = j) := by
  unfold PyData.eqv
  by_cases h : i = j
  · rw [decide_eq_true h, h]; exact beq_self_eq_true j
  · rw [decide_eq_false h]; exact beq_eq_false_iff_ne.mpr h
theorem eqv_bool (i j : Bool) : PyData.eqv (.bool i) (.bool j) = decide (i = j) := by
  unfold PyData.eqv
  cases i <;> cases j <;> rfl
theorem eqv_none : PyData.eqv .none .none = true := by unfold PyData.eqv; rfl
theorem eqD_ints (i j : Int) : eqD (.int i) (.int j) = some (.bool (decide (i = j))) := by
  rw [← eqv_int]; exact if_pos ⟨shaped_int i, shaped_int j⟩
theorem neD_ints (i j : Int) : neD (.int i) (.int j) = some (.bool (!decide (i = j))) := by
  rw [← eqv_int]; exact if_pos ⟨shaped_int i, shaped_int j⟩
theorem eqD_bools (i j : Bool) : eqD (.bool i) (.bool j) = some (.bool (decide (i = j))) := by
  rw [← eqv_bool]; exact if_pos ⟨shaped_bool i, shaped_bool j⟩
theorem neD_bools (i j : Bool) : neD (.bool i) (.bool j) = some (.bool (!decide (i = j))) := by
  rw [← eqv_bool]; exact if_pos ⟨shaped_bool i, shaped_bool j⟩
theorem eqD_of {a b : D} (ha : SeqAt.shaped a = true) (hb : SeqAt.shaped b = true) : eqD a b = some (.bool (PyData.eqv a b)) := if_pos ⟨ha, hb⟩
theorem neD_of {a b : D} (ha : SeqAt.shaped a = true) (hb : SeqAt.shaped b = true) : neD a b = some (.bool (!PyData.eqv a b)) := if_pos ⟨ha, hb⟩
theorem atI_nat0 {α : Type} (x : α) (xs : List α) : atI (x :: xs) 0 = some x := atI_nat (j := 0) rfl
theorem ixD_list (xs : List D) (i : Int) : ixD (.list xs) (.int i) = atI xs i := by unfold ixD; rfl
theorem ixD_tuple (xs : List D) (i : Int) : ixD (.tuple xs) (.int i) = atI xs i := by unfold ixD; rfl
theorem ixD_scr (xs : List D) (i : Int) : ixD (.dict [(.list xs, .none)]) (.int i) = atI xs i := by unfold ixD; rfl
theorem atI_3_0 {α : Type} (a b c : α) : atI [a, b, c] 0 = some a := rfl
theorem atI_3_1 {α : Type} (a b c : α) : atI [a, b, c] 1 = some b := rfl
theorem atI_3_2 {α : Type} (a b c : α) : atI [a, b, c] 2 = some c := rfl
theorem ixN_3_0 : ixN 3 0 = some 0 := rfl
theorem ixN_3_1 : ixN 3 1 = some 1 := rfl
theorem ixN_3_2 : ixN 3 2 = some 2 := rfl
theorem atI_of {α : Type} {xs : List α} {i : Int} {n : Nat} {x : α} (hi : i = (n : Int)) (h : xs[n]? = some x) : atI xs i = some x := by
  subst hi
  exact atI_nat h
/-- the box: three ints -/
def GoodBox (n : Int) (box : List D) : Prop := ∃ a b c : Int, box = [.int a, .int b, .int c] ∧ 0 ≤ a ∧ 0 ≤ b ∧ b < 2 ^ 62 ∧ 0 ≤ c ∧ c ≤ n
theorem GoodBox.mono {n m : Int} {box : List D} (h : GoodBox n box) (hm : n ≤ m) : GoodBox m box := by
  obtain ⟨a, b, c, e, h1, h2, h3, h4, h5⟩ := h
  exact ⟨a, b, c, e, h1, h2, h3, h4, by omega⟩
theorem for_inv {k : GG} {b : GS} {ds : List D} (I : Nat → Rho → Prop) (step : ∀ i d ρ, ds[i]? = some d → I i ρ → ∃ ρ1, k d ρ = some ρ1 ∧ ∃ ρ2, (b ρ1 = .nx ρ2 ∨ b ρ1 = .ct ρ2) ∧ I (i + 1) ρ2) :
    ∀ {ρ : Rho}, I 0 ρ → ∃ ρ', forL k b ds ρ = .nx ρ' ∧ I ds.length ρ' := by
  have main : ∀ (es : List D) (j : Nat) (ρ : Rho), ds.drop j = es → I j ρ → ∃ ρ', forL k b es ρ = .nx ρ' ∧ I (j + es.length) ρ' := by
    intro es
    induction es with
    | nil => intro j ρ _ h; exact ⟨ρ, rfl, h⟩
    | cons d es ih =>
      intro j ρ hd h
      have hj : ds[j]? = some d := by
        have := congrArg List.head? hd
        rw [List.head?_drop] at this
        exact this
      have hd2 : ds.drop (j + 1) = es := by
        rw [← List.tail_drop, hd]; rfl
      obtain ⟨ρ1, e1, ρ2, e2, h2⟩ := step j d ρ hj h
      obtain ⟨ρ', e3, h3⟩ := ih (j + 1) ρ2 hd2 h2
      refine ⟨ρ', ?_, by rw [List.length_cons, show j + (es.length + 1) = j + 1 + es.length by omega]; exact h3⟩
      unfold forL
      rw [e1]
      rcases e2 with e2 | e2 <;> (dsimp only; rw [e2]; exact e3)
  intro ρ h
  obtain ⟨ρ', e, h'⟩ := main ds 0 ρ rfl h
  rw [Nat.zero_add] at h'
  exact ⟨ρ', e, h'⟩
theorem lc_inv {vs : List Nat} {k : GG} {t : GT} {e : GE} {ds : List D} (I : Nat → Rho → Prop) (Pd : D → D → Prop) (step : ∀ i d ρ, ds[i]? = some d → I i ρ → ∃ ρ1, k d ρ = some ρ1 ∧ ∃ ρ2, t ρ1 = .ok true ρ2 ∧ ∃ y ρ3, e ρ2 = .ok y ρ3 ∧ Pd d y ∧ I (i + 1) (wipeR ρ3 vs)) :
    ∀ {ρ : Rho}, I 0 ρ → ∃ ys ρ', lcL vs k t e ds ρ = .ok ys ρ' ∧ I ds.length ρ' ∧ Paired Pd ds ys := by
  have main : ∀ (es : List D) (j : Nat) (ρ : Rho), ds.drop j = es → I j ρ → ∃ ys ρ', lcL vs k t e es ρ = .ok ys ρ' ∧ I (j + es.length) ρ' ∧ Paired Pd es ys := by
    intro es
    induction es with
    | nil => intro j ρ _ h; exact ⟨[], ρ, rfl, h, .nil⟩
    | cons d es ih =>
      intro j ρ hd h
      have hj : ds[j]? = some d := by
        have := congrArg List.head? hd
        rw [List.head?_drop] at this
        exact this
      have hd2 : ds.drop (j + 1) = es := by
        rw [← List.tail_drop, hd]; rfl
      obtain ⟨ρ1, e1, ρ2, e2, y, ρ3, e3, py, h3⟩ := step j d ρ hj h
      obtain ⟨ys, ρ', e4, h4, pp⟩ := ih (j + 1) _ hd2 h3
      refine ⟨y :: ys, ρ', ?_, by rw [List.length_cons, show j + (es.length + 1) = j + 1 + es.length by omega]; exact h4, .cons py pp⟩
      unfold lcL
      rw [e1]
      dsimp only
      rw [e2, R.ok_bind, if_pos rfl, e3, R.ok_bind, e4]
      rfl
  intro ρ h
  obtain ⟨ys, ρ', e, h', pp⟩ := main ds 0 ρ rfl h
  rw [Nat.zero_add] at h'
  exact ⟨ys, ρ', e, h', pp⟩
/-- a comprehension whose turns leave the environment as it is -/
theorem lc_fm {vs : List Nat} {k : GG} {t : GT} {e : GE} {ρ : Rho} (f : D → Option D) : ∀ {ds : List D}, (∀ d ∈ ds, ∃ ρ1, k d ρ = some ρ1 ∧ wipeR ρ1 vs = ρ ∧ ((∃ y, f d = some y ∧ t ρ1 = .ok true ρ1 ∧ e ρ1 = .ok y ρ1) ∨ (f d = none ∧ t ρ1 = .ok false ρ1))) → lcL vs k t e ds ρ = .ok (ds.filterMap f) ρ
  | [], _ => rfl
  | d :: ds, h => by
    obtain ⟨ρ1, e1, ew, h1⟩ := h d List.mem_cons_self
    have ih := lc_fm (ds := ds) f fun x hx => h x (List.mem_cons_of_mem _ hx)
    unfold lcL
    rw [e1]
    dsimp only
    rcases h1 with ⟨y, fy, et, ee⟩ | ⟨fn, et⟩
    · rw [et, R.ok_bind, if_pos rfl, ee, R.ok_bind, ew, ih, List.filterMap_cons, fy]
      rfl
    · rw [et, R.ok_bind, if_neg Bool.false_ne_true, ew, ih, List.filterMap_cons, fn]
theorem lc_map {vs : List Nat} {k : GG} {t : GT} {e : GE} {ρ : Rho} (f : D → D) {ds : List D} (h : ∀ d ∈ ds, ∃ ρ1, k d ρ = some ρ1 ∧ wipeR ρ1 vs = ρ ∧ t ρ1 = .ok true ρ1 ∧ e ρ1 = .ok (f d) ρ1) : lcL vs k t e ds ρ = .ok (ds.map f) ρ := by
  rw [lc_fm (fun d => some (f d)) fun d hd => ?_]
  · show R.ok (ds.filterMap (some ∘ f)) ρ = _
    rw [List.filterMap_eq_map]
  · obtain ⟨ρ1, e1, e2, e3, e4⟩ := h d hd
    exact ⟨ρ1, e1, e2, .inl ⟨f d, rfl, e3, e4⟩⟩
theorem kt_ll : kitB "list" "list" = some true := by decide +kernel
theorem kt_lt : kitB "list" "tuple" = some false := by decide +kernel
theorem kt_ls : kitB "list" "str" = some false := by decide +kernel
theorem kt_li : kitB "list" "int" = some false := by decide +kernel
theorem kt_lb : kitB "list" "bool" = some false := by decide +kernel
theorem kt_tl : kitB "tuple" "list" = some false := by decide +kernel
theorem kt_tt : kitB "tuple" "tuple" = some true := by decide +kernel
theorem kt_ts : kitB "tuple" "str" = some false := by decide +kernel
theorem kt_ti : kitB "tuple" "int" = some false := by decide +kernel
theorem kt_tb : kitB "tuple" "bool" = some false := by decide +kernel
theorem kt_sl : kitB "str" "list" = some false := by decide +kernel
theorem kt_st : kitB "str" "tuple" = some false := by decide +kernel
theorem kt_ss : kitB "str" "str" = some true := by decide +kernel
theorem kt_si : kitB "str" "int" = some false := by decide +kernel
theorem kt_sb : kitB "str" "bool" = some false := by decide +kernel
theorem kt_il : kitB "int" "list" = some false := by decide +kernel
theorem kt_it : kitB "int" "tuple" = some false := by decide +kernel
theorem kt_is : kitB "int" "str" = some false := by decide +kernel
theorem kt_ii : kitB "int" "int" = some true := by decide +kernel
theorem kt_ib : kitB "int" "bool" = some false := by decide +kernel
theorem kt_bl : kitB "bool" "list" = some false := by decide +kernel
theorem kt_bt : kitB "bool" "tuple" = some false := by decide +kernel
theorem kt_bs : kitB "bool" "str" = some false := by decide +kernel
theorem kt_bi : kitB "bool" "int" = some true := by decide +kernel
theorem kt_bb : kitB "bool" "bool" = some true := by decide +kernel
theorem kt_nl : kitB "NoneType" "list" = some false := by decide +kernel
theorem kt_nt : kitB "NoneType" "tuple" = some false := by decide +kernel
theorem kt_ns : kitB "NoneType" "str" = some false := by decide +kernel
theorem kt_ni : kitB "NoneType" "int" = some false := by decide +kernel
theorem kt_nb : kitB "NoneType" "bool" = some false := by decide +kernel
theorem zipD_self : ∀ xs : List D, zipD xs xs = xs.map fun x => .tuple [x, x]
  | [] => rfl
  | x :: xs => by
    show _ :: zipD xs xs = _
    rw [zipD_self xs]; rfl
end DL
namespace DL
open PySem L2
section
variable {X : Cx} {K : PySem.W.Frag}
def rEqU (K : PySem.W.Frag) : R2 := fun x y H Q => rEqD K x y H Q ∨ rEq x y H Q
def rNeU (K : PySem.W.Frag) : R2 := fun x y H Q => rNeD K x y H Q ∨ rNe x y H Q
theorem op_eqU {k : Nat} (hr : Room k X.A) : OpR X (compareOp .Eq) (rEqU X.K) := opr_or (op_eqD hr.units) op_eq
theorem op_neU {k : Nat} (hr : Room k X.A) : OpR X (compareOp .NotEq) (rNeU X.K) := opr_or (op_neD hr.units) op_ne
def eqS : D → D → Option D
  | .str x, .str y => some (.bool (decide (x = y)))
  | _, _ => none
def neS : D → D → Option D
  | .str x, .str y => some (.bool (!decide (x = y)))
  | _, _ => none
def eqW (a b : D) : Option D := (eqS a b).orElse fun _ => eqD a b
def neW (a b : D) : Option D := (neS a b).orElse fun _ => neD a b
theorem str_inj (x y : Str) : decide (V.str x = V.str y) = decide (x = y) := by
  by_cases h : x = y
  · rw [decide_eq_true h, h]; exact decide_eq_true rfl
  · rw [decide_eq_false h]; exact decide_eq_false fun z => h (V.str.inj z)
theorem sn_eqS : Sn2 K (rEqU K) eqS := fun b0 B Z0 Z H σ ρ x y a b c Q ok ha hb e q => by
  unfold eqS at e
  split at e
  · cases e; cases ha; cases hb
    exact .inr ⟨rfl, by rw [str_inj]; exact q _ H Z ok (Same.refl Z) (.bl _)⟩
  · cases e
theorem sn_neS : Sn2 K (rNeU K) neS := fun b0 B Z0 Z H σ ρ x y a b c Q ok ha hb e q => by
  unfold neS at e
  split at e
  · cases e; cases ha; cases hb
    exact .inr ⟨rfl, by rw [str_inj]; exact q _ H Z ok (Same.refl Z) (.bl _)⟩
  · cases e
theorem sn_eqW : Sn2 K (rEqU K) eqW := sn2_or sn_eqS (sn2_mono sn_eq fun _ _ _ _ h => .inl h)
theorem sn_neW : Sn2 K (rNeU K) neW := sn2_or sn_neS (sn2_mono sn_ne fun _ _ _ _ h => .inl h)
theorem eqW_ints (i j : Int) : eqW (.int i) (.int j) = some (.bool (decide (i = j))) := eqD_ints i j
theorem neW_ints (i j : Int) : neW (.int i) (.int j) = some (.bool (!decide (i = j))) := neD_ints i j
theorem eqW_bools (i j : Bool) : eqW (.bool i) (.bool j) = some (.bool (decide (i = j))) := eqD_bools i j
theorem neW_bools (i j : Bool) : neW (.bool i) (.bool j) = some (.bool (!decide (i = j))) := neD_bools i j
theorem eqW_strs (x y : Str) : eqW (.str x) (.str y) = some (.bool (decide (x = y))) := rfl
theorem neW_strs (x y : Str) : neW (.str x) (.str y) = some (.bool (!decide (x = y))) := rfl
theorem eqW_none : eqW .none .none = some (.bool true) := by
  show eqD .none .none = _
  rw [eqD_of rfl rfl, eqv_none]
theorem eqW_in (i : Int) : eqW .none (.int i) = some (.bool false) := by
  show eqD .none (.int i) = _
  rw [eqD_of rfl rfl]; unfold PyData.eqv; rfl
theorem eqW_ni (i : Int) : eqW (.int i) .none = some (.bool false) := by
  show eqD (.int i) .none = _
  rw [eqD_of rfl rfl]; unfold PyData.eqv; rfl
theorem neW_ll {xs ys : List D} (h1 : SeqAt.shaped (.list xs) = true) (h2 : SeqAt.shaped (.list ys) = true) : neW (.list xs) (.list ys) = some (.bool (!PyData.eqv (.list xs) (.list ys))) := neD_of h1 h2
end
theorem canLay_ints : ∀ ns : List Int, PyData.canLayAll0 (ns.map PyData.int) = true
  | [] => by simp [PyData.canLayAll0]
  | n :: r => by simp [PyData.canLayAll0, PyData.canLay0, canLay_ints r]
theorem depth_ints : ∀ ns : List Int, PyData.depthAll (ns.map PyData.int) = 0
  | [] => by simp [PyData.depthAll]
  | n :: r => by simp [PyData.depthAll, PyData.depth, depth_ints r]
theorem shaped_li (ns : List Int) : SeqAt.shaped (.list (ns.map PyData.int)) = true := by
  unfold SeqAt.shaped
  simp [PyData.canLay0, canLay_ints, PyData.depth, depth_ints]
theorem eqvAll_ints : ∀ ns ms : List Int, PyData.eqvAll (ns.map PyData.int) (ms.map PyData.int) = decide (ns = ms)
  | [], [] => by simp [PyData.eqvAll]
  | [], m :: ms => by simp [PyData.eqvAll]
  | n :: ns, [] => by simp [PyData.eqvAll]
  | n :: ns, m :: ms => by
    simp only [List.map_cons, PyData.eqvAll, eqv_int, eqvAll_ints ns ms, List.cons.injEq, Bool.decide_and]
theorem eqv_li (ns ms : List Int) : PyData.eqv (.list (ns.map PyData.int)) (.list (ms.map PyData.int)) = decide (ns = ms) := by
  rw [← eqvAll_ints]; simp [PyData.eqv]
theorem neW_li (ns ms : List Int) : neW (.list (ns.map PyData.int)) (.list (ms.map PyData.int)) = some (.bool (!decide (ns = ms))) := by rw [neW_ll (shaped_li _) (shaped_li _), eqv_li]
structure Shw (h L : Nat) (d : D) : Prop where
  sh : d.showable = true
  nd : d.hasDict = false
  dp : d.depth ≤ h
  ln : d.shown.length ≤ L
theorem Shw.mono {h h' L L' : Nat} {d : D} (s : Shw h L d) (a : h ≤ h') (b : L ≤ L') : Shw h' L' d := ⟨s.sh, s.nd, Nat.le_trans s.dp a, Nat.le_trans s.ln b⟩
theorem nc0 : ((0 : Nat) : Int) = 0 := rfl
theorem nc1 : ((1 : Nat) : Int) = 1 := rfl
theorem nc2 : ((2 : Nat) : Int) = 2 := rfl
theorem nc3 : ((3 : Nat) : Int) = 3 := rfl
theorem nc4 : ((4 : Nat) : Int) = 4 := rfl
theorem nc5 : ((5 : Nat) : Int) = 5 := rfl
theorem nc6 : ((6 : Nat) : Int) = 6 := rfl
theorem nc7 : ((7 : Nat) : Int) = 7 := rfl
theorem nc8 : ((8 : Nat) : Int) = 8 := rfl
theorem nc9 : ((9 : Nat) : Int) = 9 := rfl
theorem nc10 : ((10 : Nat) : Int) = 10 := rfl
theorem nc11 : ((11 : Nat) : Int) = 11 := rfl
theorem nc12 : ((12 : Nat) : Int) = 12 := rfl
theorem nc13 : ((13 : Nat) : Int) = 13 := rfl
theorem nc14 : ((14 : Nat) : Int) = 14 := rfl
theorem nc15 : ((15 : Nat) : Int) = 15 := rfl
theorem nc16 : ((16 : Nat) : Int) = 16 := rfl
theorem nc17 : ((17 : Nat) : Int) = 17 := rfl
theorem nc18 : ((18 : Nat) : Int) = 18 := rfl
theorem nc19 : ((19 : Nat) : Int) = 19 := rfl
theorem nc20 : ((20 : Nat) : Int) = 20 := rfl
end DL
namespace DL
open PySem L2
section
variable {K : PySem.W.Frag} {Wx : WX} {ta tb te td : TE} {tt tu : TT} {tas : TA} {t u rest : TS} {b0 : Option Addr} {B Bf Z0 Z H : Hp} {σ : L2.St} {ρ : Rho} {p : Addr} {o o' : HO}
theorem Ok.shrink (ok : Ok K b0 Bf Z0 Z H σ ρ) (s : Same B Bf) : Ok K b0 B Z0 Z H σ ρ := by
  refine ⟨ok.len, s.trans ok.bh, ok.zh, ok.zz, fun q x e => ?_, ok.sh, fun i ds e eo => ?_, ok.fix, ok.sepS⟩
  · rcases ok.nb q x e with z | z
    · exact .inl z
    · exact .inr (s.free z)
  · obtain ⟨q, vs, e1, e2, e3, e4, e5⟩ := ok.own i ds e eo
    exact ⟨q, vs, e1, e2, s.free e3, e4, e5⟩
theorem Ok.reB (ok : Ok K b0 Bf Z0 Z H σ ρ) (hp : Bf p = some o) (zp : Z0 p = none) : Ok K b0 (upd Bf p o') Z0 Z (upd H p o') σ ρ := by
  have hz : Z p = none := by
    cases q : Z p with
    | none => rfl
    | some x =>
      rcases ok.nb p x q with z | z
      · rw [zp] at z; cases z
      · rw [hp] at z; cases z
  have ap : ∀ (q : Addr), Bf q = none → q ≠ p := fun q e z => by rw [z, hp] at e; cases e
  refine ⟨ok.len, fun q x e => ?_, fun q x e => ?_, ok.zz, fun q x e => ?_, ok.sh, fun i ds e eo => ?_, ok.fix, ok.sepS⟩
  · by_cases hq : q = p
    · subst hq; rw [upd_same] at e ⊢; exact e
    · rw [upd_ne hq] at e ⊢; exact ok.bh q x e
  · rw [upd_ne (ne_of_none e hz)]; exact ok.zh q x e
  · rcases ok.nb q x e with z | z
    · exact .inl z
    · exact .inr (by rw [upd_ne (ne_of_none e hz)]; exact z)
  · obtain ⟨q, vs, e1, e2, e3, e4, e5⟩ := ok.own i ds e eo
    have nq := ap q e3
    exact ⟨q, vs, e1, e2, by rw [upd_ne nq]; exact e3, by rw [upd_ne nq]; exact e4, e5⟩
theorem Ok.putAny {i : Nat} {x : Option V} (ok : Ok K b0 B Z0 Z H σ ρ) : Ok K b0 B Z0 Z H (σ.set i x) (ρ.set i .no) :=
  ok.weak (by rw [List.length_set, List.length_set]; exact ok.len) fun j s h => (no_get h).imp id fun z => ⟨z.2, by rw [List.getElem?_set_ne z.1]⟩
/-- the frames: new lists and what they hold -/
inductive NwA (K : PySem.W.Frag) (B Z0 Bf Z : Hp) : List V → List Nw → Prop
  | nil : NwA K B Z0 Bf Z [] []
  | s {v : V} {vs : List V} {d : D} {ns : List Nw} : Rp K Z v d → NwA K B Z0 Bf Z vs ns → NwA K B Z0 Bf Z (v :: vs) (.s d :: ns)
  | f {q : Addr} {ws vs : List V} {ds : List D} {ns : List Nw} : Bf q = some (.lst ws) → B q = none → Z0 q = none → RpA K Z ws ds → NwA K B Z0 Bf Z vs ns → NwA K B Z0 Bf Z (.ref q :: vs) (.f ds :: ns)
def Nw.dat : Nw → D
  | .s d => d
  | .f ds => .list ds
def DNL (K : PySem.W.Frag) (t : TA) (g : Rho → R (List Nw)) : Prop := ∀ b0 B Bf Z0 Z H σ ρ ns ρ' (Q : List V → Hp → Prop), Same B Bf → Ok K b0 Bf Z0 Z H σ ρ → g ρ = .ok ns ρ' →
  (∀ vs H' Z' Bf', Same Bf Bf' → Ok K b0 Bf' Z0 Z' H' σ ρ' → Same Z Z' → NwA K B Z0 Bf' Z' vs ns → Q vs H') → t σ H Q
def nlNil (ρ : Rho) : R (List Nw) := .ok [] ρ
def nlCons (g : Rho → R Nw) (r : Rho → R (List Nw)) (ρ : Rho) : R (List Nw) := (g ρ).bind fun n ρ1 => (r ρ1).map (n :: ·)
theorem dnl_nil : DNL K tNil nlNil := fun b0 B Bf Z0 Z H σ ρ ns ρ' Q sb ok e q => by
  cases e
  exact q [] H Z Bf (Same.refl Bf) ok (Same.refl Z) .nil
theorem dnl_s {g : GE} {r : Rho → R (List Nw)} (h : DE K te g) (hr : DNL K tas r) : DNL K (tCons te tas) (nlCons (nS g) r) := fun b0 B Bf Z0 Z H σ ρ ns ρ' Q sb ok e q => by
  obtain ⟨n, ρ1, e1, e2⟩ := R.bind_ok e
  obtain ⟨d, e3, rfl⟩ := R.map_ok e1
  obtain ⟨ms, e4, rfl⟩ := R.map_ok e2
  refine h b0 Bf Z0 Z H σ ρ d ρ1 _ ok e3 fun v H1 Z1 ok1 s1 r1 => ?_
  exact hr b0 B Bf Z0 Z1 H1 σ ρ1 ms ρ' _ sb ok1 e4 fun vs H2 Z2 Bf2 sb2 ok2 s2 r2 => q (v :: vs) H2 Z2 Bf2 sb2 ok2 (s1.trans s2) (.s (r1.mono s2) r2)
theorem dnl_f {g : GF} {r : Rho → R (List Nw)} (h : DF K te g) (hr : DNL K tas r) : DNL K (tCons te tas) (nlCons (nF g) r) := fun b0 B Bf Z0 Z H σ ρ ns ρ' Q sb ok e q => by
  obtain ⟨n, ρ1, e1, e2⟩ := R.bind_ok e
  obtain ⟨ds, e3, rfl⟩ := R.map_ok e1
  obtain ⟨ms, e4, rfl⟩ := R.map_ok e2
  refine h b0 Bf Z0 Z H σ ρ ds ρ1 _ ok e3 fun q1 ws H1 Z1 ok1 s1 zq bq aq hq r1 => ?_
  have sn : Same Bf (upd Bf q1 (.lst ws)) := fun c x ec => by rw [upd_ne (ne_of_none ec bq)]; exact ec
  refine hr b0 B (upd Bf q1 (.lst ws)) Z0 Z1 H1 σ ρ1 ms ρ' _ (sb.trans sn) (ok1.frame zq aq hq) e4 fun vs H2 Z2 Bf2 sb2 ok2 s2 r2 => ?_
  exact q (.ref q1 :: vs) H2 Z2 Bf2 (sn.trans sb2) ok2 (s1.trans s2) (.f (sb2 _ _ upd_same) (sb.free bq) (ok1.zz.free zq) (r1.mono s2) r2)
theorem NwA.mono {Z' Bf' : Hp} (s : Same Z Z') (b : Same Bf Bf') : ∀ {vs : List V} {ns : List Nw}, NwA K B Z0 Bf Z vs ns → NwA K B Z0 Bf' Z' vs ns
  | _, _, .nil => .nil
  | _, _, .s h r => .s (h.mono s) (NwA.mono s b r)
  | _, _, .f h1 h2 h3 h4 r => .f (b _ _ h1) h2 h3 (h4.mono s) (NwA.mono s b r)
theorem NwA.rp (sz : Same Z H) (sb : Same Bf H) : ∀ {vs : List V} {ns : List Nw}, NwA K B Z0 Bf Z vs ns → RpA K H vs (ns.map Nw.dat)
  | _, _, .nil => .nil
  | _, _, .s h r => .cons (h.mono sz) (NwA.rp sz sb r)
  | _, _, .f h1 _ _ h4 r => .cons (.lst (sb _ _ h1) (h4.mono sz)) (NwA.rp sz sb r)
theorem NwA.len : ∀ {vs : List V} {ns : List Nw}, NwA K B Z0 Bf Z vs ns → vs.length = ns.length
  | _, _, .nil => rfl
  | _, _, .s _ r => by rw [List.length_cons, List.length_cons, NwA.len r]
  | _, _, .f _ _ _ _ r => by rw [List.length_cons, List.length_cons, NwA.len r]
theorem NwA.get : ∀ {vs : List V} {ns : List Nw} {j : Nat} {ds : List D}, NwA K B Z0 Bf Z vs ns → ns[j]? = some (.f ds) → ∃ q ws, vs[j]? = some (.ref q) ∧ Bf q = some (.lst ws) ∧ B q = none ∧ Z0 q = none ∧ ws.length = ds.length
  | _, _, j, _, .nil, h => by simp at h
  | _, _, 0, _, .s _ _, h => by simp at h
  | _, _, 0, _, .f (q := q) (ws := ws) h1 h2 h3 h4 _, h => by
    simp at h
    subst h
    exact ⟨q, ws, rfl, h1, h2, h3, h4.length⟩
  | _, _, j + 1, ds, .s _ r, h => by
    obtain ⟨q, ws, e, z⟩ := NwA.get (j := j) (ds := ds) r (by simpa using h)
    exact ⟨q, ws, by simpa using e, z⟩
  | _, _, j + 1, ds, .f _ _ _ _ r, h => by
    obtain ⟨q, ws, e, z⟩ := NwA.get (j := j) (ds := ds) r (by simpa using h)
    exact ⟨q, ws, by simpa using e, z⟩
/-- heard[j].append(x) -/
abbrev tApp1 (K : PySem.W.Frag) (h : Nat) (j : Int) (x : Str) : TS := tDrop (tBM K "list" rAppend (tOp (rIx K) (tVar h) (tC (.int j))) (tCons (tC (.str x)) tNil))
def tApps (K : PySem.W.Frag) (h : Nat) (x : Str) (rest : TS) : List Nat → TS
  | [] => rest
  | j :: js => tSeq (tApp1 K h (j : Int) x) (tApps K h x rest js)
/-- each place holds a list that is framed, smaller than half the line -/
theorem apps_run {h : Nat} {x : Str} {E : Ends} {a : Addr} {vs : List V} (hσ : σ[h]? = some (some (.ref a))) (hrest : ∀ Bf H, Same B Bf → Ok K b0 Bf Z0 Z H σ ρ → rest E σ H) :
    ∀ (js : List Nat) {Bf H : Hp}, Same B Bf → Ok K b0 Bf Z0 Z H σ ρ → Bf a = some (.lst vs) → (∀ j ∈ js, ∃ q ws, vs[j]? = some (.ref q) ∧ q ≠ a ∧ Bf q = some (.lst ws) ∧ B q = none ∧ Z0 q = none ∧ ws.length + js.length ≤ sizeLine) → tApps K h x rest js E σ H
  | [], Bf, H, sb, ok, _, _ => hrest Bf H sb ok
  | j :: js, Bf, H, sb, ok, ha, hj => by
    obtain ⟨q, ws, e1, nq, e2, e3, e4, e5⟩ := hj j List.mem_cons_self
    have hH : H a = some (.lst vs) := ok.bh _ _ ha
    have hq : H q = some (.lst ws) := ok.bh _ _ e2
    rw [List.length_cons] at e5
    refine ⟨.ref a, hσ, .inl ⟨a, vs, (j : Int), .ref q, rfl, rfl, .inl (.inl hH), atI_nat e1, .inl ⟨rfl, ws, .inl (.inl hq)⟩, q, ws, .str x, rfl, rfl, hq, by omega, ?_⟩⟩
    have sn : Same B (upd Bf q (.lst (ws ++ [.str x]))) := fun c y ec => by rw [upd_ne (ne_of_none ec e3)]; exact sb c y ec
    refine apps_run hσ hrest js sn (ok.reB e2 e4) (by rw [upd_ne (Ne.symm nq)]; exact ha) fun j' hj' => ?_
    obtain ⟨q', ws', f1, nq', f2, f3, f4, f5⟩ := hj j' (List.mem_cons_of_mem _ hj')
    rw [List.length_cons] at f5
    by_cases hqq : q' = q
    · subst hqq
      refine ⟨q', ws ++ [.str x], f1, nq, upd_same, e3, e4, ?_⟩
      rw [List.length_append, List.length_singleton]
      omega
    · exact ⟨q', ws', f1, nq', by rw [upd_ne hqq]; exact f2, f3, f4, by omega⟩
def isF (k : Nat) : Option Nw → Bool
  | some (.f ds) => decide (ds.length + k ≤ sizeLine)
  | _ => false
end
end DL
namespace DL
open PySem L2
section
variable {K : PySem.W.Frag} {Wx : WX} {ta tb te td : TE} {tt tu : TT} {tas : TA} {t u rest tail : TS} {b0 : Option Addr} {B Bf Z0 Z H : Hp} {σ : L2.St} {ρ : Rho} {p : Addr} {o o' : HO}
/-- what follows the comparison: it changes the framed lists at js, then the rest runs -/
def HTail (K : PySem.W.Frag) (h : Nat) (js : List Nat) (m : Rho → Option Rho) (tail rest : TS) : Prop := ∀ (b0 : Option Addr) (B Bf Z0 Z H : Hp) (σ : L2.St) (ρ ρ' : Rho) (E : Ends) (a : Addr) (vs : List V), σ[h]? = some (some (.ref a)) → m ρ = some ρ' →
  (∀ Bf H σ', Same B Bf → Ok K b0 Bf Z0 Z H σ' ρ' → rest E σ' H) → Same B Bf → Ok K b0 Bf Z0 Z H σ ρ → Bf a = some (.lst vs) → js.length ≤ sizeLine →
  (∀ j ∈ js, ∃ q ws, vs[j]? = some (.ref q) ∧ q ≠ a ∧ Bf q = some (.lst ws) ∧ B q = none ∧ Z0 q = none ∧ ws.length + js.length ≤ sizeLine) → tail E σ H
theorem ht_apps {h : Nat} {x : Str} {js : List Nat} : HTail K h js some (tApps K h x rest js) rest := fun b0 B Bf Z0 Z H σ ρ ρ' E a vs hσ em hr sb ok ha hl hj => by
  cases em
  exact apps_run hσ (fun Bf H s o => hr Bf H σ s o) js sb ok ha hj
def mSet (i : Nat) (ρ : Rho) : Option Rho := if i < ρ.length then some (ρ.set i .no) else none
/-- h = [..]; if not same(h, due): return False; the tail -/
def sHeardT (h : Nat) (gn : Rho → R (List Nw)) (Fs : List D → Option D) (gd : GE) (js : List Nat) (m : Rho → Option Rho) (rest : GS) (ρ : Rho) : O := (gn ρ).to fun ns ρ1 => if ns.length ≤ sizeLine ∧ h < ρ1.length ∧ js.length ≤ sizeLine then (gd (ρ1.set h .no)).to fun due ρ2 => match Fs [.list (ns.map Nw.dat), due] with
    | some (.bool true) => if js.all (fun j => isF js.length ns[j]?) then (match m (ρ2.set h .no) with | some ρ3 => rest ρ3 | none => .bad) else .bad
    | some (.bool false) => .rt (.bool false) (ρ2.set h .no)
    | _ => .bad
  else .bad
theorem ds_heardT {h : Nat} {gn : Rho → R (List Nw)} {Fs : List D → Option D} {gd : GE} {js : List Nat} {m : Rho → Option Rho} {k : GS} {E0 : XK} (hn : DNL K tas gn) (hd : DE K td gd) (ht : HTail K h js m tail rest) (hr : DS K Wx rest k) :
    DS K Wx (tSeq (tAsg (tLst tas) (gName h)) (tSeq (tIfS (tNot (tB (tCall (spP K 2 Fs) [] E0 (tCons (tVar h) (tCons td tNil))))) (tRet (tC (.bl false))) tNext) tail)) (sHeardT h gn Fs gd js m k) := fun b0 B Z0 Z H σ ρ E ok s => by
  unfold sHeardT at s
  obtain ⟨ns, ρ1, e1, s⟩ := Sat.to s
  refine hn b0 B B Z0 Z H σ ρ ns ρ1 _ (Same.refl B) ok e1 fun vs H1 Z1 Bf1 sb1 ok1 s1 nw => ?_
  split at s
  · rename_i hsz
    obtain ⟨hsz, hh, hlj⟩ := hsz
    refine ⟨by rw [nw.len]; exact hsz, fun a hp => ?_⟩
    obtain ⟨okf, zf, bf, af⟩ := ok1.fresh (o := .lst vs) hp
    have sn : Same Bf1 (upd Bf1 a (.lst vs)) := fun c y ec => by rw [upd_ne (ne_of_none ec bf)]; exact ec
    have ok2 := (okf.frame zf af upd_same).putAny (i := h) (x := some (.ref a))
    have hσ : (σ.set h (some (.ref a)))[h]? = some (some (.ref a)) := List.getElem?_set_self (by rw [ok1.len]; exact hh)
    obtain ⟨due, ρ2, e2, s⟩ := Sat.to s
    refine ⟨.ref a, hσ, ?_⟩
    refine hd b0 _ Z0 Z1 _ _ _ due ρ2 _ ok2 e2 fun vd H3 Z3 ok3 s3 r3 => ?_
    have nw3 := nw.mono s3 sn
    have ha3 : H3 a = some (.lst vs) := ok3.bh _ _ upd_same
    have rpA : RpA K H3 [.ref a, vd] [.list (ns.map Nw.dat), due] := .cons (.lst ha3 (nw3.rp ok3.zh ok3.bh)) (.cons (r3.mono ok3.zh) .nil)
    have fin : ∀ (b : Bool), Fs [.list (ns.map Nw.dat), due] = some (.bool b) → (∀ H4, Same H3 H4 → (tIfS (fun _ H Q => Q (!b) H) (tRet (tC (.bl false))) tNext) { E with nx := tail E } (σ.set h (some (.ref a))) H4) →
        spP K 2 Fs [.ref a, vd] H3 (fun y H1 => ∃ c, y = V.bl c ∧ (if (!c) = true then tRet (tC (.bl false)) { E with nx := tail E } (σ.set h (some (.ref a))) H1 else tNext { E with nx := tail E } (σ.set h (some (.ref a))) H1)) E0 := by
      intro b eb hc
      refine ⟨rfl, H3, _, _, Same.refl H3, rpA, eb, fun v H' Z' hs g r => ?_⟩
      cases r
      exact ⟨b, rfl, hc H' hs⟩
    split at s
    · rename_i eF
      split at s
      · rename_i hjs
        split at s
        · rename_i ρ3 em
          refine fin true eF fun H4 hs => ?_
          have ok5 := (ok3.later hs).forget (i := h)
          refine ht b0 B _ Z0 Z3 H4 _ _ ρ3 E a vs hσ em (fun Bf' H' σ' sb' ok' => hr b0 B Z0 Z3 H' _ _ E (ok'.shrink sb') s) (sb1.trans sn) ok5 upd_same hlj fun j hj => ?_
          have hf := List.all_eq_true.mp hjs j hj
          unfold isF at hf
          split at hf
          · rename_i ds ej
            obtain ⟨q, ws, f1, f2, f3, f4, f5⟩ := nw.get ej
            have nq : q ≠ a := ne_of_none f2 bf
            exact ⟨q, ws, f1, nq, by rw [upd_ne nq]; exact f2, f3, f4, by rw [f5]; exact of_decide_eq_true hf⟩
          · cases hf
        · exact s.elim
      · exact s.elim
    · rename_i eF
      refine fin false eF fun H4 hs => ?_
      exact s (.bl false) _ H4 Z3 ((ok3.later hs).forget.shrink (sb1.trans sn)) (.bl false)
    · exact s.elim
  · exact s.elim
end
end DL
namespace DL
open PySem L2
section
variable {K : PySem.W.Frag} {Wx : WX} {ta tb tc te td : TE} {tas : TA}
def idL {α : Type} (x : List α) : List α := x
theorem kw_idL {A C : Type} {rel : A → C → Prop} {zs : List A} {ws : List C} (h : Paired rel zs ws) : Paired rel (idL zs) (idL ws) := h
def sPar3 (i j l : Nat) (a b c : Rho → R Nw) (ρ : Rho) : O := (a ρ).to fun x ρ1 => (b ρ1).to fun y ρ2 => (c ρ2).to fun z ρ3 => .nx (((ρ3.set i x.sl).set j y.sl).set l z.sl)
end
end DL
namespace DL
open PySem L2
end DL
namespace DLX
open PySem PySem.W PySem.Calls PyProof.Rows PySem.HandSPX
open Builtin Builtin.ObjectAttr
/-- the built-in class B: what is asked of it -/
structure Bs (B nw ini : String) (tl : List Value) : Prop where
  f : ExcBaseFacts B nw ini tl
  s : StoreFacts B tl "object.__setattr__" "object"
  ty : typeOf (.type B) = pure (.type "type")
  ob : tl.contains (.type "object") = true
  st : Manifest.isStub B = false
  hi : PySem.W.handedIn (.builtin ini) = true
theorem bs_V : Bs "ValueError" "ValueError.__new__" "ValueError.__init__" [.type "ValueError", .type "Exception", .type "BaseException", .type "object"] := ⟨F.excBase_ValueError, F.store_ValueError, by kernel_rfl, by decide +kernel, by decide +kernel, by decide +kernel⟩
section
variable {prog : Program} {w : World} {A : Around} {R : Result → Shared → Prop} {hp : Heap} {g : Array GenState} {d : Drawn} {t : Nat} {os : OsState} {B nw ini : String} {tl : List Value}
/-- the first field of an exception of an own class -/
theorem osa1 {K : W.Frag} {f : Str} {tk : Tok} {v : Value} {x C : Addr} {fv : Array Value} {cd : ClassData} (bs : Bs B nw ini tl) (KX : K.In hp) (hx : hp.get? x = some { cls := .ref C, data := .fields fv }) (hcd : W.clsIn K C = some cd) (hm : cd.mro = .ref C :: tl) (hh : cd.hasDict = true) (ha : W.findIn K (.ref C) f = some none)
    (hq : ∀ h' tk' dx, (∀ b o, b ≠ x → hp.get? b = some o → h'.get? b = some o) → hp.objs.size ≤ dx → dx ≠ x → h'.get? x = some { cls := .ref C, dict := some dx, data := .fields fv } → h'.Ns1 dx (fun y => if y = f then some v else none) → R (.ok (.ret .none)) ⟨h', g, d, tk', os⟩) :
    codeAny (model prog w) A (.call (.builtin "object.__setattr__") ⟨[.ref x, .str f tk, v], []⟩) R ⟨hp, g, d, t, os⟩ := by
  have J : W.InstAt hp x { cls := .ref C, data := .fields fv } C none := ⟨hx, rfl, rfl, trivial⟩
  have ne : cd.mro.isEmpty = false := by rw [hm]; rfl
  have hob : cd.mro.contains (.type "object") = true := by rw [hm, List.contains_cons, bs.ob, Bool.or_true]
  have hps : refuseLoop (.ref x) "__setattr__" cd.mro = pure () := by rw [hm, refuseLoop_ref]; exact bs.s.passes _
  have xlt : x ≠ hp.objs.size := Nat.ne_of_lt (Heap.lt_size hx)
  have sub : W.Looks (model prog w) hp (isInstance (.ref x) (.type "object")) true := J.type.andThen (W.looks_mroIn KX (by unfold W.mroIn; rw [hcd, Option.bind_some, if_neg (by rw [ne]; decide), hob]))
  have S0 := F.store_object
  refine codeAny_call_builtin S0.slot.plain S0.entry (@W.check_slot (model prog w) _ _ ⟨hp, g, d, t, os⟩ "object.__setattr__" "object" "__setattr__" (.ref x) [.str f tk, v] [] _ S0.kind S0.split sub (S0.args (.ref x) (.str f tk) v) ?_)
  have mr : W.Looks (model prog w) hp (mroOf (.ref C)) cd.mro := (W.looks_clsIn KX hcd).andThen .now
  have nt : W.Looks (model prog w) hp (storeTaker? none) none := .now
  have cl : W.Looks (model prog w) hp (classData C) cd := W.looks_clsIn KX hcd
  rw [W.osa_eq, refuse_eq]
  refine wpAny_bind (wpAny_bind (J.type.at (wpAny_bind (mr.at ?_))))
  rw [hps]
  refine wpAny_pure (wpAny_bind (J.type.at (wpAny_bind ((W.looks_findIn KX ha).at (wpAny_bind (nt.at ?_))))))
  show wpAny _ _ (storeInOwnDict (.ref x) (.ref C) (.str f tk) f v false) _ _ _
  obtain ⟨nm, bs', mro, ns, qn, hd, sn, sb, ab, col, del⟩ := cd
  dsimp only at hh
  subst hh
  unfold storeInOwnDict ownDictForStores
  repeat (first | with_reducible refine store_in_new ?_ ?_ | with_reducible refine wpAny_loadPart_at hx ?_ | with_reducible refine cl.at ?_ | wp_step)
  · exact ⟨_, #[], _, (Heap.get?_update_ne _ _ _ _ xlt.symm).trans (Heap.get?_push_at rfl rfl), rfl, fun e he => absurd he (by simp), fun _ => rfl⟩
  · intro h' tk' hn' hs
    have hx1 : (hp.push { cls := .type "dict", data := .dict #[] }).get? x = some { cls := .ref C, data := .fields fv } := Heap.get?_push_of_some _ hx
    exact hq h' tk' hp.objs.size (fun b o hb ho => (hs.2 b (Nat.ne_of_lt (Heap.lt_size ho))).trans ((Heap.get?_update_ne _ _ _ _ hb).trans (Heap.get?_push_of_some _ ho))) (Nat.le_refl _) xlt.symm ((hs.2 x xlt).trans (Heap.get?_update_self _ hx1 rfl)) hn'
end
end DLX
namespace DL
open PySem PySem.Spec PyProof.Rows L2 DLX
/-- what the written part says of an own class C straight over a built-in one -/
structure OxC (K : PySem.W.Frag) (nw : String) (tl : List Value) (C : Addr) : Prop where
  cls : ∃ nm q N bs sn sub ab col dd k0 k1 k2 k3 k5, K.lookup C = some (excClassObj nm q C N bs tl true sn sub ab col dd k0 k1 k2 k3 k5 nw)
  sa : PySem.W.findIn K (.ref C) "__setattr__" = some (some (.builtin "object.__setattr__"))
  ex : PySem.W.subIn K (.ref C) (.type "BaseException") = some true
  ty : PySem.W.typeIn K (.ref C) = some (.type "type")
  kp : PySem.W.keepIn K (.ref C) = true
section
variable {X : Cx} {pins : List (Addr × Obj)} {σ : L2.St} {H : Hp} {s : Shared} {a C dx : Addr} {f : Str} {y : V} {u : Value} {E : Value → Shared → Prop} {A : Around} {B nw ini : String} {tl : List Value}
theorem ox_store {Q : Unit → Shared → Prop} (bs : Bs B nw ini tl) (T : OxC X.K nw tl C) (I : Inv X pins σ H s) (e : H a = some (exo a C none)) (hno : PySem.W.findIn X.K (.ref C) f = some none) (ry : RelV y u)
    (h : ∀ dx s', H dx = none → dx ≠ a → Inv X pins σ (upd (upd H dx (exd dx [(f, y)])) a (exo a C (some dx))) s' → Q () s') : wpAny (model X.prog X.w) A (setAttr (.ref a) f u) Q E s := by
  obtain ⟨nm, q, N, bss, sn, sub, ab, col, dd, k0, k1, k2, k3, k5, hC⟩ := T.cls
  have hcl : PySem.W.clsIn X.K C = some { name := nm, bases := bss, mro := .ref C :: tl, ns := N, qualname := q, hasDict := true, slotNames := sn, subclasses := sub, abstract := ab, collection := col, hasDel := false } := by
    unfold PySem.W.clsIn
    rw [hC] <;> rfl
  obtain ⟨t1, ho⟩ := exo_at I.hok e
  obtain ⟨hp, g, d, t, os⟩ := s
  refine PySem.W.set_plain I.kIn (ox := { cls := .ref C, dict := none, data := .fields #[.ref t1, .none, .none, .none, .bool false, .none] }) (od := none) ⟨ho, rfl, rfl, trivial⟩ T.sa (osa1 bs I.kIn ho hcl rfl rfl hno fun h' tk' dx k dn dne hx hn => ?_)
  have fd : H dx = none := I.hok.fresh dn
  have nd : ∀ {b : Addr} {o : Obj}, hp.get? b = some o → b ≠ dx := fun q => Nat.ne_of_lt (Nat.lt_of_lt_of_le (Heap.lt_size q) dn)
  have na : ∀ {b : Addr}, H b = none → b ≠ a := fun n z => by rw [z, e] at n; cases n
  have U : Un X.fs [] H (upd (upd H dx (exd dx [(f, y)])) a (exo a C (some dx))) hp h' := by
    constructor
    · exact fun b o q n _ _ => k b o (na n) q
    · exact fun b o q n _ _ => ⟨o.slots, k b o (na n) q⟩
    · intro b o q n _
      rw [upd_ne (na n), upd_ne (nd q)]; exact n
    · intro b o q _
      by_cases hb : b = a
      · exact ⟨_, hb ▸ hx⟩
      · exact ⟨o, k b o hb q⟩
    · intro b xs q
      rw [upd_ne (at_ne e q exo_tup), upd_ne (ne_of_none q fd)]; exact q
    · intro b o v q
      rw [upd_ne (at_ne e q exo_frz), upd_ne (ne_of_none q fd)]; exact q
    · intro b ps q
      exact ⟨#[], by rw [upd_ne (at_ne e q exo_tbl), upd_ne (ne_of_none q fd), q]; simp⟩
  refine h dx _ fd dne (I.un (t' := tk') U fun b o q => ?_)
  by_cases hb : b = a
  · subst hb
    rw [upd_same] at q; cases q; exact exo_ok hx
  · rw [upd_ne hb] at q
    by_cases hd : b = dx
    · subst hd
      rw [upd_same] at q; cases q
      exact exd_ok hn (relO_put (fs := []) ry fun g => True.intro)
    · rw [upd_ne hd] at q
      refine (I.hok b o q).stay (fun c v hc z => k c v (hc.elim (fun hc => hc ▸ hb) fun hc => at_ne e hc exo_own) z) (fun c hc => ?_) fun c xs hc => ?_
      · rw [upd_ne (at_ne e hc exo_own), upd_ne (ne_of_none hc fd)]; exact hc
      · rw [upd_ne (at_ne e hc exo_tup), upd_ne (ne_of_none hc fd)]; exact hc
theorem ox_init {us : List Value} {Q : Value → Shared → Prop} (bs : Bs B nw ini tl) (T : OxC X.K nw tl C) (I : Inv X pins σ H s) (e : H a = some (exo a C none)) (hl : us.length ≤ sizeLine) (h : ∀ s', Inv X pins σ H s' → Q .none s') :
    wpAny (model X.prog X.w) A (call (.builtin ini) (.ref a :: us)) Q E s := by
  obtain ⟨nm, q, N, bss, sn, sub, ab, col, dd, k0, k1, k2, k3, k5, hC⟩ := T.cls
  obtain ⟨t1, ho⟩ := exo_at I.hok e
  obtain ⟨hp, g, d, t, os⟩ := s
  refine wpAny_call (PySem.HandSPX.init_base bs.f (fun Y => rfl) (I.kIn _ _ hC) ho hl fun h' t2 k hx => ?_)
  have J := I.write (t' := t) (x := a) (e := a) (o := exo a C none) (by rw [e]; exact True.intro) (.inl rfl) k ⟨_, hx⟩ (exo_ok hx)
  have eu : upd H a (exo a C none) = H := funext fun b => by
    by_cases hb : b = a
    · rw [hb, upd_same, e]
    · rw [upd_ne hb]
  exact h _ (eu ▸ J)
end
/-- B.__init__(self, x) -/
def tBIni (K : PySem.W.Frag) (nw : String) (tl : List Value) (ta : TA) : TE := fun σ H Q => ta σ H fun vs H1 => ∃ (a C : Addr) (ws : List V), vs = .ref a :: ws ∧ ws.length ≤ 1000 ∧ OxC K nw tl C ∧ H1 a = some (exo a C none) ∧ Q .non H1
/-- self.f = x -/
def tFld (K : PySem.W.Frag) (nw : String) (tl : List Value) (f : Str) (to te : TE) : TS := fun D σ H => te σ H fun y H1 => to σ H1 fun x H2 => ∃ a C : Addr, x = .ref a ∧ OxC K nw tl C ∧ PySem.W.findIn K (.ref C) f = some none ∧
  H2 a = some (exo a C none) ∧ ∀ dx, H2 dx = none → dx ≠ a → D.nx σ (upd (upd H2 dx (exd dx [(f, y)])) a (exo a C (some dx)))
section
variable {X : Cx} {o e : Expr} {es : List Expr} {to te : TE} {ta : TA} {f : Str} {p p' p1 p2 pos : Pos} {B nw ini : String} {tl : List Value}
theorem pe_bini {pl : Sem Bool} {BS : Str} (bs : Bs B nw ini tl) (hg : Gl X BS) (hm : X.mg BS = none) (hbt : bootBuiltins BS = some (.type B)) (hnn : BS ≠ "__name__") (hdb : (BS == ("__debug__" : Str)) = false) (vV : PySem.W.findCls X.K (.type B) (.type "type") "__init__" = some (.val (.builtin ini)))
    (ha : PA X (e :: es) ta)
    (hc : eval (.Call (.Attribute (.Name BS p1) "__init__" p2) (e :: es) [] pos) X.env = (do
      let ov ← eval (.Name BS p1) X.env
      standAt p2.atName
      let (fv, first) ← holding [ov] (getMethod ov "__init__" pl)
      callWith pos fv first (backTo pos (starEach (e :: es) X.env)) (backToKw pos (keywordEach [] X.env))) := by rfl)
    (he : starEach (e :: es) X.env = (false, eval e X.env) :: starEach es X.env := by rfl) (hpl : (backTo pos (starEach es X.env)).any (·.1) = false := by rfl) :
    PE X (.Call (.Attribute (.Name BS p1) "__init__" p2) (e :: es) [] pos) (tBIni X.K nw tl ta) := by
  refine ⟨fun pins s σ H Q I h => ?_⟩
  refine PySem.W.methodCall_KW (ld_blt I hg hm hbt ?_ hnn hdb) hc
  obtain ⟨m, fr⟩ := I.fr
  refine PySem.W.method_type fr I.ok.mod.kin bs.ty bs.st vV bs.hi ?_
  show wpAny _ _ (callWith pos (Value.builtin ini) [] (backTo pos (starEach (e :: es) X.env)) []) _ _ _
  refine PyProof.Rows.callWith_method1 (thn (ha.run pos pins _ σ H _ (I.tok _) h) fun us s1 hh => ?_) he hpl
  obtain ⟨vs, H1, I1, r1, a, C, ws, rfl, hl, T, ea, q⟩ := hh
  cases r1 with
  | @cons _ u0 _ ur ra rw' =>
    obtain rfl : u0 = Value.ref a := ra
    exact ox_init bs T I1 ea (by rw [← Paired.length rw', sizeLine_eq]; omega) fun s' J => ⟨.non, H1, J, rfl, q⟩
theorem ps_fld (bs : Bs B nw ini tl) (ho : PE X o to) (he : PE X e te) (hs : swapsWith e (some (.Attribute o f p')) pos.line X.env = pure false := by rfl) : PS X (.Assign [.Attribute o f p'] e pos) (tFld X.K nw tl f to te) := by
  refine ⟨fun pins s σ H D I h => plainObj_wpAny_Assign_Attribute (thn (he.run pins s σ H _ I h) fun v s1 hh => ?_) hs⟩
  obtain ⟨y, H1, I1, r1, q1⟩ := hh
  refine thn (ho.run pins s1 σ H1 _ I1 q1) fun u s2 hh => ?_
  obtain ⟨x, H2, I2, r2, a, C, rfl, T, hno, ea, q⟩ := hh
  obtain rfl : u = Value.ref a := r2
  exact ox_store bs T I2 ea hno r1 fun dx s' n ne J => ⟨σ, _, J, q dx n ne⟩
end
/-- the promise of such an __init__ -/
def spIni (K : PySem.W.Frag) (nw : String) (tl : List Value) (f : Str) : Sp := fun vs H Q _ => ∃ (a C : Addr) (v : V), vs = [.ref a, v] ∧ OxC K nw tl C ∧ PySem.W.findIn K (.ref C) f = some none ∧ H a = some (exo a C none) ∧ ∀ dx, H dx = none → dx ≠ a → Q .non (upd (upd H dx (exd dx [(f, v)])) a (exo a C (some dx)))
theorem ini_run {K : PySem.W.Frag} {nw : String} {tl : List Value} {f : Str} {N : List Str} {vs : List V} {H : Hp} {Q : VK} {E : XK} (h : spIni K nw tl f vs H Q E) (hN : N.length = 2) :
    tSeq (tDrop (tBIni K nw tl (tCons (tVar 0) (tCons (tVar 1) tNil)))) (tFld K nw tl f (tVar 0) (tVar 1)) { nx := fun _ H' => Q .non H', rt := Q } (L2.start N vs) H := by
  obtain ⟨a, C, v, rfl, T, hno, ea, q⟩ := h
  have e0 : (L2.start N [.ref a, v])[0]? = some (some (.ref a)) := rfl
  have e1 : (L2.start N [.ref a, v])[1]? = some (some v) := rfl
  exact ⟨_, e0, _, e1, a, C, [v], rfl, (by decide : 1 ≤ 1000), T, ea, _, e1, _, e0, a, C, rfl, T, hno, ea, q⟩
end DL
namespace DL
open PySem PySem.Spec PyProof.Rows L2 DLX
/-- raise C(e): what is wished -/
def tMk1 (C : Addr) (f : Str) (ta : TA) : L2.St → Hp → XK → Prop := fun σ H Q => ta σ H fun vs H1 => ∃ v, vs = [v] ∧ ∀ d, H1 d = none → Q (.ref C) (some d) (upd H1 d (.xd [(f, v)]))
/-- all that is asked of a class with its __init__ -/
structure OxI (P : Program) (w : World) (K : PySem.W.Frag) (mg : Str → Option Value) (base : Heap) (nw : String) (tl : List Value) (C : Addr) (f : Str) : Prop where
  c : OxC K nw tl C
  no : PySem.W.findIn K (.ref C) f = some none
  i : ∃ (fI : Addr) (fd : FuncData), PySem.W.findIn K (.ref C) "__init__" = some (some (.ref fI)) ∧ PySem.W.typeIn K (.ref fI) = some (.type "function") ∧ FnOk P w K mg base CX0 1 fI fd ["self", f] (spIni K nw tl f) ∧ Binds K fd ["self", f] []
section
variable {X : Cx} {e : Expr} {ta : TA} {f x : Str} {p pos : Pos} {C : Addr} {B nw ini : String} {tl : List Value}
/-- the making of C(u): the walk that both rules share -/
theorem ox_call {pins : List (Addr × Obj)} {σ : L2.St} {H1 : Hp} {s1 : Shared} {v : V} {u : Value} {Q : Value → Shared → Prop} {EE : Value → Shared → Prop} (bs : Bs B nw ini tl) (T : OxI X.prog X.w X.K X.mg X.base nw tl C f) (hr : Room 2 X.A) (I1 : Inv X pins σ H1 s1) (r : RelV v u)
    (h : ∀ (a d : Addr) (k2 : Heap) (H2 : Hp) (s2 : Shared), s1.heap.objs.size ≤ a → (∀ b o, s1.heap.get? b = some o → k2.get? b = some o) → H1 a = none → H1 d = none → d ≠ a → H2 = upd (upd (upd H1 a (exo a C none)) d (exd d [(f, v)])) a (exo a C (some d)) →
      Un (frs X.stack) [] (upd H1 a (exo a C none)) H2 k2 s2.heap → HOk X.prog X.w H2 s2.heap → s2.os = s1.os → AllBare s2.gens → Inv X pins σ H2 s2 → Q (.ref a) s2) :
    wpAny (model X.prog X.w) X.A (call (.ref C) [u]) Q EE s1 := by
  obtain ⟨nm, q, N, bss, sn, sub, ab, col, dd, k0, k1, k2, k3, k5, hC⟩ := T.c.cls
  obtain ⟨fI, fd, iC, tI, F1, hb⟩ := T.i
  obtain ⟨hp, g, dr, tk, os⟩ := s1
  have up1 : hp.objs.size ≤ hp.objs.size + 1 := Nat.le_succ _
  have fr1 : H1 (hp.objs.size + 1) = none := I1.hok.fresh up1
  have kk : ∀ b o, hp.get? b = some o → ((hp.push (PySem.W.kdv_tup [u])).push (PySem.HandSPX.excO C hp.objs.size)).get? b = some o := fun b o e => Heap.get?_push_of_some _ (Heap.get?_push_of_some _ e)
  have hget : ((hp.push (PySem.W.kdv_tup [u])).push (PySem.HandSPX.excO C hp.objs.size)).get? (hp.objs.size + 1) = some (PySem.HandSPX.excO C hp.objs.size) := by heap_get
  have I2 : Inv X pins σ (upd H1 (hp.objs.size + 1) (exo (hp.objs.size + 1) C none)) ⟨(hp.push (PySem.W.kdv_tup [u])).push (PySem.HandSPX.excO C hp.objs.size), g, dr, tk, os⟩ := I1.laid (t' := tk) kk up1 (exo_ok hget)
  have r2 : Vals [V.ref (hp.objs.size + 1), v] [Value.ref (hp.objs.size + 1), u] := .cons rfl (.cons r .nil)
  refine wpAny_call (PySem.HandSPX.call_own bs.f (fun Y => rfl) (I1.kIn _ _ hC) (PySem.W.looks_findIn I1.kIn iC) (fun self => PySem.W.bind_fn I1.kIn self tI) (by rw [sizeLine_eq]; show 1 ≤ 16777216; decide)
    (codeAny_mono (F1.run _ X.stack _ (upd H1 (hp.objs.size + 1) (exo (hp.objs.size + 1) C none)) ⟨[.ref (hp.objs.size + 1), u], []⟩ [.ref (hp.objs.size + 1), u] [.ref (hp.objs.size + 1), v]
      (fun v' H2 => v' = .non ∧ ∃ d, H1 d = none ∧ d ≠ hp.objs.size + 1 ∧ H2 = upd (upd (upd H1 (hp.objs.size + 1) (exo (hp.objs.size + 1) C none)) d (exd d [(f, v)])) (hp.objs.size + 1) (exo (hp.objs.size + 1) C (some d))) (fun _ _ _ => False)
      (hr.make C [u] []) (I2.env0.make C [u] []) (by have := hb _ [.ref (hp.objs.size + 1), u] I2.kIn rfl; rw [List.append_nil] at this; exact this) r2 ?_) fun r s' hq' => ?_))
  · refine ⟨_, C, v, rfl, T.c, T.no, upd_same, fun dx hdx hne => ⟨rfl, dx, ?_, hne, rfl⟩⟩
    rw [upd_ne hne] at hdx; exact hdx
  · cases r with
    | error er => exact hq'.elim
    | ok fl =>
      cases fl with
      | ret u' =>
        have J := I2.after hq'
        obtain ⟨v', H2, J2, _, _⟩ := J
        obtain ⟨v2, H3, os2, bare2, un2, hok2, rv, ev, d, hd, dne, eH⟩ := hq'
        subst ev
        refine ⟨rv, h _ d _ H3 s' up1 kk fr1 hd dne eH un2 hok2 os2 bare2 ?_⟩
        have K2 := I2.after (Q := fun v' H2 => v' = .non ∧ H2 = H3) ⟨.non, H3, os2, bare2, un2, hok2, rv, rfl, rfl⟩
        obtain ⟨_, _, J3, _, _, e3⟩ := K2
        rw [← e3]; exact J3
      | next => exact hq'.elim
      | brk => exact hq'.elim
      | cont => exact hq'.elim
theorem pmk_ox (bs : Bs B nw ini tl) (T : OxI X.prog X.w X.K X.mg X.base nw tl C f) (hr : Room 2 X.A) (hg : Gl X x) (hm : X.mg x = some (.ref C)) (ha : PA X [e] ta) (hdb : (x == ("__debug__" : Str)) = false := by decide)
    (he : starEach [e] X.env = (false, eval e X.env) :: starEach [] X.env := by rfl) (hpl : (backTo pos (starEach [] X.env)).any (·.1) = false := by rfl) : PMk X (.Call (.Name x p) [e] [] pos) (tMk1 C f ta) := by
  intro pins s σ H Q I h
  refine wpAny_Call_Name_kw (ld_glob I hg hm ?_ hdb)
  refine PySem.W.callWith_K (h₀ := X.base) I.ok.mod.kin T.c.kp (thn (ha.run pos pins s σ H _ I h) fun us s1 hh => ?_) he hpl
  obtain ⟨vs, H1, I1, r1, v, rfl, q1⟩ := hh
  refine ⟨I1.kIn, ?_⟩
  cases r1 with
  | cons rv rn =>
    cases rn
    refine ox_call bs T hr I1 rv fun a d k2 H2 s2 ha1 kk na nd ne eH un2 hok2 os2 bare2 _ => ?_
    have ea : H2 a = some (exo a C (some d)) := by rw [eH]; exact upd_same
    have ed : H2 d = some (exd d [(f, v)]) := by rw [eH, upd_ne ne]; exact upd_same
    have eq : upd (del H2 a) d (.xd [(f, v)]) = upd H1 d (.xd [(f, v)]) := funext fun b => by
      by_cases hb : b = d
      · rw [hb, upd_same, upd_same]
      · rw [upd_ne hb, upd_ne hb]
        by_cases hba : b = a
        · rw [hba, del_same, na]
        · rw [del_ne hba, eH, upd_ne hba, upd_ne hb, upd_ne hba]
    obtain ⟨hp, g1, d1, t1, os1⟩ := s1
    obtain ⟨h2, g2, d2, t2, os2'⟩ := s2
    exact mk_end (raises_own T.c.ex T.c.ty) I1 ha1 kk un2 hok2 os2 bare2 ea ed nd (by rw [eq]; exact q1 d nd)
end
end DL
namespace DLX
open PySem PySem.W PySem.Spec PySem.Calls PyProof.Rows
end DLX
namespace DL
open PySem PySem.Spec PyProof.Rows L2 DLX
/-- names of classes, and what they hold -/
inductive NmL (X : Cx) : List Expr → List Value → Prop
  | nil : NmL X [] []
  | cons {x : Str} {c : Value} {p : Pos} {es : List Expr} {cs : List Value} (h : Names X x c) (r : NmL X es cs) : NmL X (.Name x p :: es) (c :: cs)
section
variable {X : Cx} {pins : List (Addr × Obj)} {σ : L2.St} {H : Hp} {s : Shared} {a : Addr} {o : HO}
theorem NmL.len {es : List Expr} {cs : List Value} (h : NmL X es cs) : es.length = cs.length := by
  induction h with
  | nil => rfl
  | cons _ _ ih => rw [List.length_cons, List.length_cons, ih]
/-- the names of the clause, read while an exception is handled -/
theorem NmL.run {b : Addr} {pn : List (Addr × Obj)} {E : Value → Shared → Prop} {M : Model} {pos : Pos} (I : Inv (X.suite b pn) pins σ H s) : ∀ {es : List Expr} {cs : List Value}, NmL X es cs → ∀ {Q : List Value → Shared → Prop}, Q cs s → wpAny (model X.prog X.w) (X.A.mark (some (.ref b))) (spliced (backTo pos (starEach es X.env))) Q E s
  | _, _, .nil, Q, q => wpAny_items_nil q
  | _, _, .cons (x := x) (c := c) h r, Q, q => by
    refine wpAny_items_cons ?_
    obtain ⟨hg, hdbg, hm | ⟨hm, hv, hnn⟩⟩ := h
    · exact ld_glob (X := X.suite b pn) I hg hm (NmL.run (M := M) I r q) hdbg
    · exact ld_blt (X := X.suite b pn) I hg hm hv (NmL.run (M := M) I r q) hnn hdbg
end
end DL
namespace DL
open PySem L2
/-- what a def that may raise computes -/
inductive RX (α : Type) where
  | ok (a : α)
  | ex (c : Str) (d : D)
  | bad
section
variable {X : Cx} {K : PySem.W.Frag} {Wx : WX} {ta tb te : TE} {tt : TT} {tas tks : TA} {t u : TS} {b0 : Option Addr} {B Z0 Z H : Hp} {σ : L2.St} {ρ : Rho}
def ExO (K : PySem.W.Frag) (H Z : Hp) (E : XK) (c : Str) (d : D) : Prop := ∀ C dx v H' Z', Same H H' → Grow H Z Z' H' → Cls K c C → Z' dx = some (.xd [(fld c, v)]) → Rp K Z' v d → E (.ref C) (some dx) H'
def spX (K : PySem.W.Frag) (np : Nat) (F : List D → RX D) : Sp := fun vs H Q E => vs.length = np ∧ ∃ Z ds, Same Z H ∧ RpA K Z vs ds ∧ match F ds with
  | .ok d => ∀ v H' Z', Same H H' → Grow H Z Z' H' → Rp K Z' v d → Q v H'
  | .ex c d => ExO K H Z E c d
  | .bad => False
def callX (np n : Nat) (g : GS) : List D → RX D := fun args => if args.length ≠ np then .bad else match g (env0 n args) with
  | .rt d _ => .ok d
  | .nx _ => .ok .none
  | .rf ds _ => .ok (.list ds)
  | .ex c d _ => .ex c d
  | _ => .bad
theorem callX_len {np n : Nat} {g : GS} : ∀ ds, callX np n g ds ≠ .bad → ds.length = np := fun ds h => by
  unfold callX at h
  split at h
  · exact absurd rfl h
  · omega
theorem run_X {N : List Str} {np : Nat} {g : GS} {vs : List V} {Q : VK} {E : XK} (h : DS K (fun cls d _ H => E cls d H) t g) (hk : np ≤ N.length) (hs : spX K np (callX np N.length g) vs H Q E) : t { nx := fun _ H' => Q .non H', rt := Q } (L2.start N vs) H := by
  obtain ⟨hl, Z, ds, sZ, ra, q⟩ := hs
  have ok := ok_start (N := N) sZ ra (by omega)
  refine h _ _ _ _ _ _ _ _ ok ?_
  unfold callX at q
  rw [if_neg (by rw [← ra.length]; omega)] at q
  cases e' : g (env0 N.length ds) with
  | rt d ρ' => rw [e'] at q; exact fun v σ' H' Z' ok' r => q v H' Z' ok'.bh ⟨ok'.zz, ok'.zh, ok'.nb⟩ r
  | nx ρ' => rw [e'] at q; exact fun σ' H' Z' ok' => q .non H' Z' ok'.bh ⟨ok'.zz, ok'.zh, ok'.nb⟩ .non
  | rf ds' ρ' =>
    rw [e'] at q
    intro p ws σ' H' Z' ok' zp bp ap hp r
    obtain ⟨ok2, s2⟩ := ok'.freeze zp bp ap hp
    exact q (.ref p) H' _ ok2.bh ⟨ok2.zz, ok2.zh, ok2.nb⟩ (.lst upd_same (r.mono s2))
  | ex c d ρ' => rw [e'] at q; exact fun σ' H' Z' C dx v ok' hc hx r => q C dx v H' Z' ok'.bh ⟨ok'.zz, ok'.zh, ok'.nb⟩ hc hx r
  | bk ρ' => rw [e'] at q; exact q.elim
  | ct ρ' => rw [e'] at q; exact q.elim
  | bad => rw [e'] at q; exact q.elim
def RX.at {α : Type} (r : RX α) (ρ : Rho) : R α := match r with
  | .ok a => .ok a ρ
  | .ex c d => .ex c d ρ
  | .bad => .bad
def eCallX {α : Type} (F : List D → RX α) (ga : GA) (ρ : Rho) : R α := match ga ρ with
  | .ok os ρ1 => (match valA os with
    | some ds => (F ds).at ρ1
    | none => .bad)
  | _ => .bad
def eCallWX {α : Type} (F : List D → RX α) (m : Nat) (g : {α : Type} → List α → List α) (ga : GA) (ρ : Rho) : R α := match ga ρ with
  | .ok os ρ1 => (match valA os with
    | some ds => if ds.length = m then (F (g ds)).at ρ1 else .bad
    | none => .bad)
  | _ => .bad
theorem RX.at_ok {α : Type} {r : RX α} {ρ ρ' : Rho} {a : α} (h : r.at ρ = .ok a ρ') : r = .ok a ∧ ρ = ρ' := by
  cases r with
  | ok b => cases h; exact ⟨rfl, rfl⟩
  | ex c d => cases h
  | bad => cases h
theorem callX_ok {α : Type} {F : List D → RX α} {ga : GA} {ρ ρ' : Rho} {z : α} (e : eCallX F ga ρ = .ok z ρ') : ∃ os ds, ga ρ = .ok os ρ' ∧ valA os = some ds ∧ F ds = .ok z := by
  unfold eCallX at e
  split at e
  · rename_i os ρ1 h1
    split at e
    · rename_i ds hv
      obtain ⟨e3, rfl⟩ := RX.at_ok e
      exact ⟨os, ds, h1, hv, e3⟩
    · cases e
  · cases e
theorem callWX_ok {α : Type} {F : List D → RX α} {m : Nat} {g : {α : Type} → List α → List α} {ga : GA} {ρ ρ' : Rho} {z : α} (e : eCallWX F m g ga ρ = .ok z ρ') : ∃ os ds, ga ρ = .ok os ρ' ∧ valA os = some ds ∧ ds.length = m ∧ F (g ds) = .ok z := by
  unfold eCallWX at e
  split at e
  · rename_i os ρ1 h1
    split at e
    · rename_i ds hv
      split at e
      · rename_i hm
        obtain ⟨e3, rfl⟩ := RX.at_ok e
        exact ⟨os, ds, h1, hv, hm, e3⟩
      · cases e
    · cases e
  · cases e
theorem apart_new {p : Addr} (ok : Ok K b0 B Z0 Z H σ ρ) (hp : H p = none) : Apart σ ρ p := fun i es hi ho hq => by
  obtain ⟨q', vs', f1, _, _, f4, _⟩ := ok.own i es hi ho
  rw [f1] at hq; cases hq
  rw [hp] at f4; cases f4
theorem de_callX {np : Nat} {F : List D → RX D} {ga : GA} {E : XK} (hF : ∀ ds, F ds ≠ .bad → ds.length = np) (ha : DA K tas ga) : DE K (tCall (spX K np F) [] E tas) (eCallX F ga) := fun b0 B Z0 Z H σ ρ d ρ' Q ok e q => by
  obtain ⟨os, ds, e1, hv, e3⟩ := callX_ok e
  refine ha b0 B Z0 Z H σ ρ os ρ' _ ok e1 fun vs H1 Z1 ok1 s1 r1 => ?_
  have rA := valA_ok r1 hv
  refine ⟨by rw [List.append_nil, rA.length]; exact hF _ (by rw [e3]; exact fun z => nomatch z), Z1, ds, ok1.zh, by rw [List.append_nil]; exact rA, ?_⟩
  rw [e3]
  exact fun v H' Z' hh g r => q v H' Z' (ok1.grow hh g) (s1.trans g.1) r
theorem de_callWX {m np : Nat} {F : List D → RX D} {g : {α : Type} → List α → List α} {ga : GA} {E : XK} (hg : ∀ {A C : Type} {rel : A → C → Prop} {zs : List A} {ws : List C}, Paired rel zs ws → Paired rel (g zs) (g ws)) (hF : ∀ ds, F ds ≠ .bad → ds.length = np) (ha : DA K tks ga) : DE K (tCallW (spX K np F) m g E tks) (eCallWX F m g ga) := fun b0 B Z0 Z H σ ρ d ρ' Q ok e q => by
  obtain ⟨os, ds, e1, hv, hm, e3⟩ := callWX_ok e
  refine ha b0 B Z0 Z H σ ρ os ρ' _ ok e1 fun vs H1 Z1 ok1 s1 r1 => ?_
  have rA := valA_ok r1 hv
  have rG : RpA K Z1 (g vs) (g ds) := RpA.of_paired (hg rA.paired)
  refine ⟨by rw [rA.length]; exact hm, by rw [rG.length]; exact hF _ (by rw [e3]; exact fun z => nomatch z), Z1, g ds, ok1.zh, rG, ?_⟩
  rw [e3]
  exact fun v H' Z' hh g r => q v H' Z' (ok1.grow hh g) (s1.trans g.1) r
def SatE (K : PySem.W.Frag) (Wx : WX) (b0 : Option Addr) (B Z0 Z : Hp) (σ : L2.St) (Q : VK) : R D → Prop
  | .ok d ρ => ∀ v H' Z', Ok K b0 B Z0 Z' H' σ ρ → Same Z Z' → Rp K Z' v d → Q v H'
  | .ex c d ρ => ∀ H' Z' C dx v, Ok K b0 B Z0 Z' H' σ ρ → Same Z Z' → Cls K c C → Z' dx = some (.xd [(fld c, v)]) → Rp K Z' v d → Wx (.ref C) (some dx) σ H'
  | .bad => False
def XD (K : PySem.W.Frag) (Wx : WX) (t : TE) (g : GE) : Prop := ∀ b0 B Z0 Z H σ ρ (Q : VK), Ok K b0 B Z0 Z H σ ρ → SatE K Wx b0 B Z0 Z σ Q (g ρ) → t σ H Q
/-- an expression that raises nothing -/
def xE (g : GE) (ρ : Rho) : R D := match g ρ with
  | .ok d ρ' => .ok d ρ'
  | _ => .bad
theorem callX_run {np : Nat} {F : List D → RX D} {b0 : Option Addr} {B Z0 Z Z1 H H1 : Hp} {σ : L2.St} {ρ1 : Rho} {Q : VK} {vs : List V} {ds : List D} (hF : ∀ ds, F ds ≠ .bad → ds.length = np) (ok1 : Ok K b0 B Z0 Z1 H1 σ ρ1) (s1 : Same Z Z1) (rA : RpA K Z1 vs ds) (s : SatE K Wx b0 B Z0 Z σ Q ((F ds).at ρ1)) : spX K np F vs H1 Q (WE Wx σ) := by
  cases e : F ds with
  | ok d =>
    rw [e] at s
    refine ⟨by rw [rA.length]; exact hF _ (by rw [e]; exact fun z => nomatch z), Z1, ds, ok1.zh, rA, ?_⟩
    rw [e]
    exact fun v H' Z' hh g r => s v H' Z' (ok1.grow hh g) (s1.trans g.1) r
  | ex c d =>
    rw [e] at s
    refine ⟨by rw [rA.length]; exact hF _ (by rw [e]; exact fun z => nomatch z), Z1, ds, ok1.zh, rA, ?_⟩
    rw [e]
    exact fun C dx v H' Z' hh g hc hx r => s H' Z' C dx v (ok1.grow hh g) (s1.trans g.1) hc hx r
  | bad => rw [e] at s; exact s.elim
def xL (g : GF) (ρ : Rho) : R D := (g ρ).map .list
theorem satE_call {α : Type} {F : List D → RX α} {ga : GA} {m : α → D} {b0 : Option Addr} {B Z0 Z : Hp} {Q : VK} (s : SatE K Wx b0 B Z0 Z σ Q ((eCallX F ga ρ).map m)) : ∃ os ds ρ1, ga ρ = .ok os ρ1 ∧ valA os = some ds ∧ SatE K Wx b0 B Z0 Z σ Q (((F ds).at ρ1).map m) := by
  unfold eCallX at s
  split at s
  · rename_i os ρ1 h1
    split at s
    · rename_i ds hv
      exact ⟨os, ds, ρ1, h1, hv, s⟩
    · exact s.elim
  · exact s.elim
theorem R.map_id {α : Type} (r : R α) : r.map (fun x => x) = r := by cases r <;> rfl
theorem xd_callX {np : Nat} {F : List D → RX D} {ga : GA} (hF : ∀ ds, F ds ≠ .bad → ds.length = np) (ha : DA K tas ga) : XD K Wx (tCallS (spX K np F) (WE Wx) tas) (eCallX F ga) := fun b0 B Z0 Z H σ ρ Q ok s => by
  rw [← R.map_id (eCallX F ga ρ)] at s
  obtain ⟨os, ds, ρ1, e1, hv, s⟩ := satE_call s
  rw [R.map_id] at s
  exact ha b0 B Z0 Z H σ ρ os ρ1 _ ok e1 fun vs H1 Z1 ok1 s1 r1 => callX_run (H := H) hF ok1 s1 (valA_ok r1 hv) s
def xIf (c : GT) (a b : GE) (ρ : Rho) : R D := match c ρ with
  | .ok k ρ1 => if k then a ρ1 else b ρ1
  | _ => .bad
theorem SatE.mono {Z1 : Hp} {Q : VK} {r : R D} (s1 : Same Z Z1) (s : SatE K Wx b0 B Z0 Z σ Q r) : SatE K Wx b0 B Z0 Z1 σ Q r := by
  cases r with
  | ok d ρ => exact fun v H' Z' ok' s' r => s v H' Z' ok' (s1.trans s') r
  | ex c d ρ => exact fun H' Z' C dx v ok' s' => s H' Z' C dx v ok' (s1.trans s')
  | bad => exact s
/-- f(x), x raising, f a built-in of data -/
def xCb1 (f : List D → Option D) (g : GE) (ρ : Rho) : R D := (g ρ).bind fun d ρ1 => R.lift (f [d]) ρ1
def R.toX {α : Type} (r : R α) (f : α → Rho → O) : O := match r with
  | .ok a ρ => f a ρ
  | .ex c d ρ => .ex c d ρ
  | .bad => .bad
theorem Sat.toX {r : R D} {f : D → Rho → O} {E : Ends} {Q : VK} (s : Sat K Wx b0 B Z0 E (r.toX f)) (ok : Ok K b0 B Z0 Z H σ ρ) (h : ∀ d ρ', r = .ok d ρ' → Sat K Wx b0 B Z0 E (f d ρ') → ∀ v H' Z', Ok K b0 B Z0 Z' H' σ ρ' → Rp K Z' v d → Q v H') : SatE K Wx b0 B Z0 Z σ Q r := by
  cases r with
  | ok d ρ' => exact fun v H' Z' ok' _ r => h d ρ' rfl s v H' Z' ok' r
  | ex c d ρ' => exact fun H' Z' C dx v ok' _ hc hx r => s σ H' Z' C dx v ok' hc hx r
  | bad => exact s
def sSetX (i : Nat) (g : GE) (ρ : Rho) : O := (g ρ).toX fun d ρ1 => .nx (ρ1.set i (.sh d))
def sRetX (g : GE) (ρ : Rho) : O := (g ρ).toX .rt
def sDropX (g : GE) (ρ : Rho) : O := (g ρ).toX fun _ ρ => .nx ρ
theorem ds_retX {g : GE} (h : XD K Wx te g) : DS K Wx (tRet te) (sRetX g) := fun b0 B Z0 Z H σ ρ E ok s =>
  h b0 B Z0 Z H σ ρ _ ok (Sat.toX s ok fun d ρ' _ s v H' Z' ok' r => s v σ H' Z' ok' r)
def sRaise (c : Str) (g : GE) (ρ : Rho) : O := (g ρ).to fun d ρ1 => .ex c d ρ1
theorem ds_raise {c f : Str} {C : Addr} {g : GE} (hc : Cls K c C) (hf : f = fld c) (h : DE K te g) : DS K Wx (fun _ σ H => tMk1 C f (tCons te tNil) σ H fun cls d H' => Wx cls d σ H') (sRaise c g) := fun b0 B Z0 Z H σ ρ E ok s => by
  obtain ⟨d, ρ', e, s⟩ := Sat.to s
  subst hf
  refine h b0 B Z0 Z H σ ρ d ρ' _ ok e fun v H1 Z1 ok1 s1 r1 => ⟨v, rfl, fun dx hdx => ?_⟩
  obtain ⟨ok2, s2⟩ := ok1.new (o := .xd [(fld c, v)]) hdx
  exact s σ _ _ C dx v ok2 hc upd_same (r1.mono s2)
end
end DL
namespace DL
open PySem PySem.Spec PyProof.Rows L2
def baseT : List (Str × List Str) := [("NoPerson", ["LookupError"]), ("NoPlace", ["LookupError"]), ("NoNumber", ["LookupError"]), ("NoDeed", ["LookupError"]), ("OtherPeople", ["ValueError"]), ("NotWay", ["ValueError"]), ("BadDeed", ["ValueError"]), ("BadText", ["ValueError"]), ("BadLine", ["ValueError"]), ("Barred", ["RuntimeError"]), ("TooMany", ["OverflowError", "ArithmeticError"]), ("Full", ["OverflowError", "ArithmeticError"])]
def subC (c t : Str) : Bool := t == c || ((baseT.lookup c).getD []).contains t || t == "Exception" || t == "BaseException"
def valOf (K : PySem.W.Frag) (T : Str) : Option Value := match PySem.W.nsIn K mainGlobals T with
  | some (some u) => some u
  | some none => bootBuiltins T
  | none => none
def exB (K : PySem.W.Frag) (c : Str) : Bool := match PySem.W.nsIn K mainGlobals c with
  | some (some (.ref C)) => (PySem.W.clsIn K C).isSome && (decide (PySem.W.findIn K (.ref C) "__getattribute__" = some (some (.builtin "BaseException.__getattribute__"))) && (decide (PySem.W.findIn K (.ref C) "__getattr__" = some none) && (decide (PySem.W.subIn K (.ref C) (.type "BaseException") = some true) &&
    (decide (PySem.W.findIn K (.ref C) "__class__" = some (some (.builtin "object.__class__"))) && (decide (PySem.W.specialIn K (.builtin "object.__class__") "__get__" = some (some (.builtin "getset_descriptor.__get__"))) && (decide (PySem.W.takesIn K (.builtin "object.__class__") = some true) &&
    (decide (PySem.W.mroIn K C (.type "object") = some true) && (PySem.W.hasDictIn K C && decide (PySem.W.findIn K (.ref C) (fld c) = some none)))))))))
  | _ => false
def etB (K : PySem.W.Frag) (Cs Ts : List Str) : Bool := Cs.all (exB K) && Ts.all fun T => match valOf K T with
  | some u => decide (PySem.W.kitOne K (.type "NoneType") u = some false) && Cs.all fun c => match PySem.W.nsIn K mainGlobals c with
    | some (some (.ref C)) => decide (PySem.W.kitOne K (.ref C) u = some (subC c T)) && decide (PySem.W.exmOne K (.ref C) u = some (subC c T))
    | _ => false
  | none => false
section
variable {K : PySem.W.Frag} {Cs Ts : List Str}
theorem et_non {T : Str} {u : Value} (h : etB K Cs Ts = true) (hT : T ∈ Ts) (hu : valOf K T = some u) : PySem.W.kitOne K (.type "NoneType") u = some false := by
  unfold etB at h
  rw [Bool.and_eq_true] at h
  have := List.all_eq_true.mp h.2 T hT
  rw [hu] at this
  simp only [Bool.and_eq_true, decide_eq_true_eq] at this
  exact this.1
theorem et_sub {T c : Str} {u : Value} {C : Addr} (h : etB K Cs Ts = true) (hT : T ∈ Ts) (hu : valOf K T = some u) (hc : c ∈ Cs) (hC : Cls K c C) : PySem.W.kitOne K (.ref C) u = some (subC c T) ∧ PySem.W.exmOne K (.ref C) u = some (subC c T) := by
  unfold etB at h
  rw [Bool.and_eq_true] at h
  have := List.all_eq_true.mp h.2 T hT
  rw [hu] at this
  simp only [Bool.and_eq_true] at this
  have := List.all_eq_true.mp this.2 c hc
  rw [show PySem.W.nsIn K mainGlobals c = some (some (.ref C)) from hC] at this
  simp only [Bool.and_eq_true, decide_eq_true_eq] at this
  exact this
end
/-- the values of classes by their names -/
inductive VTs (K : PySem.W.Frag) : List Str → List V → List Value → Prop
  | nil : VTs K [] [] []
  | cons {T : Str} {cv : V} {u : Value} {Ts : List Str} {cvs : List V} {us : List Value} (h : ClsV cv u) (e : valOf K T = some u) (r : VTs K Ts cvs us) : VTs K (T :: Ts) (cv :: cvs) (u :: us)
section
variable {X : Cx} {K : PySem.W.Frag} {Wx : WX} {ta tb te : TE} {tt : TT} {tas tks : TA} {t u : TS} {b0 : Option Addr} {B Z0 Z H : Hp} {σ : L2.St} {ρ : Rho} {Cs Ts Us : List Str}
theorem VTs.paired : ∀ {Ts : List Str} {cvs : List V} {us : List Value}, VTs K Ts cvs us → Paired ClsV cvs us
  | _, _, _, .nil => .nil
  | _, _, _, .cons h _ r => .cons h (VTs.paired r)
theorem VTs.len : ∀ {Ts : List Str} {cvs : List V} {us : List Value}, VTs K Ts cvs us → cvs.length = Ts.length
  | _, _, _, .nil => rfl
  | _, _, _, .cons h _ r => by rw [List.length_cons, List.length_cons, VTs.len r]
theorem VTs.non (et : etB K Cs Us = true) : ∀ {Ts : List Str} {cvs : List V} {us : List Value}, VTs K Ts cvs us → (∀ T ∈ Ts, T ∈ Us) → PySem.W.kitAny K (.type "NoneType") us = some false
  | _, _, _, .nil, _ => rfl
  | _, _, _, .cons h e r, s => kitAny_cons (et_non et (s _ List.mem_cons_self) e) (fun _ => VTs.non et r fun T hT => s T (List.mem_cons_of_mem _ hT)) fun z => nomatch z
theorem VTs.any (et : etB K Cs Us = true) {c : Str} {C : Addr} (hc : c ∈ Cs) (hC : Cls K c C) : ∀ {Ts : List Str} {cvs : List V} {us : List Value}, VTs K Ts cvs us → (∀ T ∈ Ts, T ∈ Us) → PySem.W.kitAny K (.ref C) us = some (Ts.any (subC c)) ∧ PySem.W.exmAny K (.ref C) us = some (Ts.any (subC c))
  | _, _, _, .nil, _ => ⟨rfl, rfl⟩
  | _, _, _, .cons (T := T) (Ts := Ts) h e r, s => by
    obtain ⟨e1, e2⟩ := et_sub et (s _ List.mem_cons_self) e hc hC
    obtain ⟨i1, i2⟩ := VTs.any et hc hC r fun T hT => s T (List.mem_cons_of_mem _ hT)
    rw [List.any_cons]
    refine ⟨?_, ?_⟩
    · cases q : subC c T with
      | true => rw [q] at e1; exact kitAny_cons e1 (fun z => nomatch z) fun _ => rfl
      | false => rw [q] at e1; exact kitAny_cons e1 (fun _ => by rw [Bool.false_or]; exact i1) fun z => nomatch z
    · unfold PySem.W.exmAny
      rw [e2, i2]
/-- isinstance(x, one of Ts), x None or an exception of a class in Cs -/
def isX (Cs Ts : List Str) : D → Option D
  | .none => some (.bool false)
  | .dict [(.none, .str c), (.none, _)] => if Cs.contains c then some (.bool (Ts.any (subC c))) else none
  | _ => none
def eMk (c : Str) (g : GE) (ρ : Rho) : R D := (g ρ).map fun d => excD c d
def sKeep (Cs Ts : List Str) (i j : Nat) (g : GS) (ρ : Rho) : O := match g ρ with
  | .ex c d ρ1 => if Cs.contains c then (if Ts.any (subC c) then .nx ((ρ1.set j (.sh (excD c d))).set i .no) else .ex c d ρ1) else .bad
  | o => o
end
end DL
namespace DLX
open PySem PyProof.Rows Srt SrtO
end DLX
namespace DL
open PySem PySem.Spec PyProof.Rows L2
section
variable {X : Cx} {K : PySem.W.Frag}
def insI (x : Int) : List Int → List Int
  | [] => [x]
  | y :: r => if x ≤ y then x :: y :: r else y :: insI x r
def srtI : List Int → List Int
  | [] => []
  | x :: r => insI x (srtI r)
end
end DL
namespace DL
open PySem L2
section
variable {α β : Type} {a : α} {ρ ρ1 : Rho} {c : Str} {d e : D} {x : Str} {i : Int} {b : Bool} {xs : List D} {T : String} {Ts : List String}
theorem to_ok (f : α → Rho → O) : (R.ok a ρ).to f = f a ρ := rfl
theorem toX_ok (f : α → Rho → O) : (R.ok a ρ).toX f = f a ρ := rfl
theorem toX_ex (f : α → Rho → O) : (R.ex c d ρ : R α).toX f = .ex c d ρ := rfl
theorem bind_nx (f : Rho → O) : (O.nx ρ).bind f = f ρ := rfl
theorem bind_rt (f : Rho → O) : (O.rt d ρ).bind f = .rt d ρ := rfl
theorem bind_rf (f : Rho → O) : (O.rf xs ρ).bind f = .rf xs ρ := rfl
theorem bind_ex (f : Rho → O) : (O.ex c d ρ).bind f = .ex c d ρ := rfl
theorem bind_bk (f : Rho → O) : (O.bk ρ).bind f = .bk ρ := rfl
theorem bind_ct (f : Rho → O) : (O.ct ρ).bind f = .ct ρ := rfl
theorem at_ok : (RX.ok a).at ρ = .ok a ρ := rfl
theorem at_ex : (RX.ex c d : RX α).at ρ = .ex c d ρ := rfl
theorem res_val : (Op.val d).res ρ = some d := rfl
theorem map_ex (f : α → β) : (R.ex c d ρ : R α).map f = .ex c d ρ := rfl
theorem rbind_ex (f : α → Rho → R β) : (R.ex c d ρ : R α).bind f = .ex c d ρ := rfl
theorem isiD_n : isiD T .none = (kitB "NoneType" T).map .bool := rfl
theorem isiD_b : isiD T (.bool b) = (kitB "bool" T).map .bool := rfl
theorem isiD_i : isiD T (.int i) = (kitB "int" T).map .bool := rfl
theorem isiD_s : isiD T (.str x) = (kitB "str" T).map .bool := rfl
theorem isiD_l : isiD T (.list xs) = (kitB "list" T).map .bool := rfl
theorem isiD_t : isiD T (.tuple xs) = (kitB "tuple" T).map .bool := rfl
theorem isiTD_n : isiTD Ts .none = (isiAny "NoneType" Ts).map .bool := rfl
theorem isiTD_b : isiTD Ts (.bool b) = (isiAny "bool" Ts).map .bool := rfl
theorem isiTD_i : isiTD Ts (.int i) = (isiAny "int" Ts).map .bool := rfl
theorem isiTD_s : isiTD Ts (.str x) = (isiAny "str" Ts).map .bool := rfl
theorem isiTD_l : isiTD Ts (.list xs) = (isiAny "list" Ts).map .bool := rfl
theorem isiTD_t : isiTD Ts (.tuple xs) = (isiAny "tuple" Ts).map .bool := rfl
theorem isNone_e : isNoneD (excD c d) = false := rfl
theorem isX_n {Cs Us : List Str} : isX Cs Us .none = some (.bool false) := rfl
theorem callP_rt {np n : Nat} {g : GS} {as : List D} (hl : as.length = np) (h : g (env0 n as) = .rt d ρ) : callP np n g as = some d := by unfold callP; rw [if_neg (fun z => z hl), h]
theorem callX_rt {np n : Nat} {g : GS} {as : List D} (hl : as.length = np) (h : g (env0 n as) = .rt d ρ) : callX np n g as = .ok d := by unfold callX; rw [if_neg (fun z => z hl), h]
end
inductive Pl : Nat → D → Prop
  | none (n : Nat) : Pl n .none
  | bool (n : Nat) (b : Bool) : Pl n (.bool b)
  | int (n : Nat) (i : Int) : Pl n (.int i)
  | str (n : Nat) (x : Str) : Pl n (.str x)
  | list {n : Nat} {xs : List D} (hl : xs.length ≤ sizeLine) (h : ∀ x ∈ xs, Pl n x) : Pl (n + 1) (.list xs)
  | tuple {n : Nat} {xs : List D} (hl : xs.length ≤ sizeLine) (h : ∀ x ∈ xs, Pl n x) : Pl (n + 1) (.tuple xs)
theorem Pl.up {n : Nat} {d : D} (h : Pl n d) : Pl (n + 1) d := by
  induction h with
  | none n => exact .none _
  | bool n b => exact .bool _ b
  | int n i => exact .int _ i
  | str n x => exact .str _ x
  | list hl h ih => exact .list hl ih
  | tuple hl h ih => exact .tuple hl ih
end DL
namespace DL
open PySem L2
theorem eLc_ok {vs : List Nat} {gi : GF} {k : GG} {t : GT} {e : GE} {ρ ρ1 ρ2 : Rho} {ds ys : List D} (h1 : gi ρ = .ok ds ρ1) (h2 : ds.length ≤ sizeLine) (h3 : lcL vs k t e ds (wipeR ρ1 vs) = .ok ys ρ2) : eLc vs gi k t e ρ = .ok ys (wipeR ρ2 vs) := by
  unfold eLc
  rw [h1]
  show (if ds.length ≤ sizeLine then (lcL vs k t e ds (wipeR ρ1 vs)).bind fun ys ρ2 => R.ok ys (wipeR ρ2 vs) else .bad) = _
  rw [if_pos h2, h3]; rfl
theorem eL_ok {g : GF} {ρ ρ1 : Rho} {ds : List D} (h : g ρ = .ok ds ρ1) : eL g ρ = .ok (.list ds) ρ1 := by unfold eL; rw [h]; rfl
theorem sSet_ok {i : Nat} {g : GE} {ρ ρ1 : Rho} {d : D} (h : g ρ = .ok d ρ1) : sSet i g ρ = .nx (ρ1.set i (.sh d)) := by unfold sSet; rw [h]; rfl
theorem seq_nx {a b : GS} {ρ ρ1 : Rho} {o : O} (h : a ρ = .nx ρ1) (h2 : b ρ1 = o) : sSeq a b ρ = o := by unfold sSeq; rw [h]; exact h2
theorem sFor_nx {gi : GF} {k : GG} {b : GS} {ρ ρ1 ρ2 : Rho} {ds : List D} (h : gi ρ = .ok ds ρ1) (h2 : forL k b ds ρ1 = .nx ρ2) : sFor gi k b ρ = .nx ρ2 := by unfold sFor; rw [h]; exact h2
theorem sIf_f {c : GT} {a b : GS} {ρ ρ1 : Rho} {o : O} (h : c ρ = .ok false ρ1) (h2 : b ρ1 = o) : sIf c a b ρ = o := by unfold sIf; rw [h]; exact h2
/-- the number at a place -/
def nat (ns : List Int) (i : Int) : Int := ns[i.toNat]?.getD 0
def rngI (lo : Int) (n : Nat) : List Int := (List.range n).map fun i : Nat => lo + (i : Int)
theorem rngI_d (lo : Int) (n : Nat) : rangeD lo n = (rngI lo n).map .int := by unfold rangeD rngI; rw [List.map_map]; rfl
theorem mem_rngI {lo i : Int} {n : Nat} (h : i ∈ rngI lo n) : lo ≤ i ∧ i < lo + n := by
  obtain ⟨k, hk, rfl⟩ := List.mem_map.mp h
  have := List.mem_range.mp hk
  omega
theorem in_rngI {lo i : Int} {n : Nat} (h0 : lo ≤ i) (h1 : i < lo + n) : i ∈ rngI lo n := List.mem_map.mpr ⟨(i - lo).toNat, List.mem_range.mpr (by omega), by omega⟩
theorem rngI_len (lo : Int) (n : Nat) : (rngI lo n).length = n := by unfold rngI; rw [List.length_map, List.length_range]
theorem rng1_eq {m : Int} (h0 : 0 ≤ m) (h1 : m < 2 ^ 62) : rng1 [.int m] = some (rangeD 0 m.toNat) := if_pos ⟨by omega, h1⟩
theorem rangeD_at {m i : Nat} {d : D} (h : (rangeD 0 m)[i]? = some d) : d = .int (i : Int) ∧ i < m := by
  have hl : i < m := by
    have := (List.getElem?_eq_some_iff.mp h).1
    rw [rangeD_len] at this
    exact this
  rw [rangeD_get hl] at h
  exact ⟨by rw [← Option.some.inj h, Int.zero_add], hl⟩
def Sq (d : D) (xs : List D) : Prop := d = .list xs ∨ d = .tuple xs
theorem Sq.l (xs : List D) : Sq (.list xs) xs := .inl rfl
theorem Sq.t (xs : List D) : Sq (.tuple xs) xs := .inr rfl
theorem Sq.len {r : D} {xs : List D} (h : Sq r xs) : ∃ j : Int, lenD [r] = some (.int j) ∧ j = (xs.length : Int) := by rcases h with rfl | rfl <;> exact ⟨_, rfl, rfl⟩
theorem atI_last {α : Type} (l : List α) (x : α) : atI (l ++ [x]) (-1) = some x := by
  unfold atI ixN
  rw [if_neg (by omega), if_pos (by rw [List.length_append]; simp; omega)]
  show (l ++ [x])[_]? = _
  rw [List.length_append, show ((-1 : Int) + ((l.length + [x].length : Nat) : Int)).toNat = l.length by simp; omega]
  simp
theorem size_of {n : Nat} (h : n ≤ 100000) : n ≤ sizeLine := Nat.le_trans h (by decide)
theorem size_lt {n : Nat} (h : n < 100000) : n < sizeLine := Nat.lt_of_lt_of_le h (by decide)
theorem cut_map {α β : Type} (f : α → β) (xs : List α) (lo hi : Option Int) : cutD (xs.map f) lo hi = (cutD xs lo hi).map f := by
  unfold cutD
  rw [List.length_map, List.map_take, List.map_drop]
theorem cut_to {α : Type} (xs : List α) (m : Nat) : cutD xs none (some (m : Int)) = xs.take m := by
  unfold cutD
  rw [HT.sIx_nat]
  show (xs.drop 0).take (min m xs.length - 0) = _
  rw [List.drop_zero, Nat.sub_zero, List.take_eq_take_iff]
  omega
theorem cut_ft_len {α : Type} (xs : List α) (m u : Nat) : (cutD xs (some (m : Int)) (some (u : Int))).length ≤ xs.length - m := by
  unfold cutD
  rw [HT.sIx_nat, HT.sIx_nat, List.length_take, List.length_drop]
  omega
theorem nat_set {ns : List Int} {i : Nat} {m k : Int} (h0 : 0 ≤ k) : nat (ns.set i m) k = if k = (i : Int) ∧ i < ns.length then m else nat ns k := by
  unfold nat
  rw [List.getElem?_set]
  by_cases e : i = k.toNat
  · rw [if_pos e]
    by_cases h : i < ns.length
    · rw [if_pos h, if_pos ⟨by omega, h⟩]; rfl
    · rw [if_neg h, if_neg fun z => h z.2, List.getElem?_eq_none (by omega)]
  · rw [if_neg e, if_neg fun z => e (by omega)]
def mid3 (a b c : Int) : Int := (srtI [a, b, c])[1]?.getD 0
/-- the number after a call -/
def midN (ns : List Int) (i : Int) : Int := if i = 0 ∨ i = (ns.length : Int) - 1 then nat ns i else mid3 (nat ns (i - 1)) (nat ns i) (nat ns (i + 1))
def callN (ns : List Int) (i : Int) : List Int := ns.set i.toNat (midN ns i)
theorem callN_len (ns : List Int) (i : Int) : (callN ns i).length = ns.length := List.length_set
theorem addLL {xs ys : List D} (h : xs.length + ys.length ≤ 100000) : addU (.list xs) (.list ys) = some (.list (xs ++ ys)) := by
  have e : addL (.list xs) (.list ys) = some (xs ++ ys) := if_pos (size_of h)
  unfold addU
  rw [e]; rfl
end DL
namespace DL
open PySem L2
theorem for_cons {k : GG} {b : GS} {ρ ρ1 ρ2 : Rho} {d : D} {ds : List D} {o : O} (h1 : k d ρ = some ρ1) (h2 : b ρ1 = .nx ρ2) (h3 : forL k b ds ρ2 = o) : forL k b (d :: ds) ρ = o := by
  show (match k d ρ with | none => O.bad | some ρ1 => match b ρ1 with | .nx ρ2 => forL k b ds ρ2 | .ct ρ2 => forL k b ds ρ2 | .bk ρ2 => .nx ρ2 | o => o) = _
  rw [h1]
  show (match b ρ1 with | .nx ρ2 => forL k b ds ρ2 | .ct ρ2 => forL k b ds ρ2 | .bk ρ2 => .nx ρ2 | o => o) = _
  rw [h2]; exact h3
end DL
namespace DL
open PySem L2
inductive NwP (K : PySem.W.Frag) (B Z H : Hp) (σ : L2.St) (ρ : Rho) : List V → List Nw → List Addr → Prop
  | nil : NwP K B Z H σ ρ [] [] []
  | s {v : V} {vs : List V} {d : D} {ns : List Nw} {qs : List Addr} : Rp K Z v d → NwP K B Z H σ ρ vs ns qs → NwP K B Z H σ ρ (v :: vs) (.s d :: ns) qs
  | f {q : Addr} {ws vs : List V} {ds : List D} {ns : List Nw} {qs : List Addr} : Z q = none → B q = none → Apart σ ρ q → H q = some (.lst ws) → RpA K Z ws ds → q ∉ qs → NwP K B Z H σ ρ vs ns qs → NwP K B Z H σ ρ (.ref q :: vs) (.f ds :: ns) (q :: qs)
section
variable {K : PySem.W.Frag} {Wx : WX} {te : TE} {tas : TA} {b0 : Option Addr} {B Z0 Z H : Hp} {σ : L2.St} {ρ : Rho}
theorem NwP.len {vs : List V} {ns : List Nw} {qs : List Addr} (h : NwP K B Z H σ ρ vs ns qs) : vs.length = ns.length := by
  induction h with
  | nil => rfl
  | s _ _ ih => rw [List.length_cons, List.length_cons, ih]
  | f _ _ _ _ _ _ _ ih => rw [List.length_cons, List.length_cons, ih]
theorem NwP.none {vs : List V} {ns : List Nw} {qs : List Addr} (h : NwP K B Z H σ ρ vs ns qs) : ∀ q ∈ qs, B q = Option.none := by
  induction h with
  | nil => exact fun q hq => nomatch hq
  | s _ _ ih => exact ih
  | f _ hb _ _ _ _ _ ih =>
    intro q hq
    rcases List.mem_cons.mp hq with rfl | hq
    · exact hb
    · exact ih q hq
def DNP (K : PySem.W.Frag) (t : TA) (g : Rho → R (List Nw)) : Prop := ∀ b0 B Z0 Z H σ ρ ns ρ' (Q : List V → Hp → Prop), Ok K b0 B Z0 Z H σ ρ → g ρ = .ok ns ρ' →
  (∀ vs H' Z' qs, Ok K b0 B Z0 Z' H' σ ρ' → Same Z Z' → NwP K B Z' H' σ ρ' vs ns qs → Q vs H') → t σ H Q
theorem dnp_nil : DNP K tNil nlNil := fun b0 B Z0 Z H σ ρ ns ρ' Q ok e q => by
  cases e
  exact q [] H Z [] ok (Same.refl Z) .nil
theorem dnp_s {g : GE} {r : Rho → R (List Nw)} (h : DE K te g) (hr : DNP K tas r) : DNP K (tCons te tas) (nlCons (nS g) r) := fun b0 B Z0 Z H σ ρ ns ρ' Q ok e q => by
  obtain ⟨n, ρ1, e1, e2⟩ := R.bind_ok e
  obtain ⟨d, e3, rfl⟩ := R.map_ok e1
  obtain ⟨ms, e4, rfl⟩ := R.map_ok e2
  refine h b0 B Z0 Z H σ ρ d ρ1 _ ok e3 fun v H1 Z1 ok1 s1 r1 => ?_
  exact hr b0 B Z0 Z1 H1 σ ρ1 ms ρ' _ ok1 e4 fun vs H2 Z2 qs ok2 s2 r2 => q (v :: vs) H2 Z2 qs ok2 (s1.trans s2) (.s (r1.mono s2) r2)
theorem NwP.back {p : Addr} {o : HO} (bp : B p = Option.none) {vs : List V} {ns : List Nw} {qs : List Addr} (h : NwP K (upd B p o) Z H σ ρ vs ns qs) : NwP K B Z H σ ρ vs ns qs ∧ p ∉ qs := by
  induction h with
  | nil => exact ⟨.nil, fun z => nomatch z⟩
  | s r _ ih => exact ⟨.s r ih.1, ih.2⟩
  | @f q ws vs ds ns qs hz hb ha hh hr hn _ ih =>
    have ne : q ≠ p := fun z => by rw [z, upd_same] at hb; cases hb
    rw [upd_ne ne] at hb
    exact ⟨.f hz hb ha hh hr hn ih.1, fun z => (List.mem_cons.mp z).elim (fun y => ne y.symm) ih.2⟩
theorem dnp_f {g : GF} {r : Rho → R (List Nw)} (h : DF K te g) (hr : DNP K tas r) : DNP K (tCons te tas) (nlCons (nF g) r) := fun b0 B Z0 Z H σ ρ ns ρ' Q ok e q => by
  obtain ⟨n, ρ1, e1, e2⟩ := R.bind_ok e
  obtain ⟨ds, e3, rfl⟩ := R.map_ok e1
  obtain ⟨ms, e4, rfl⟩ := R.map_ok e2
  refine h b0 B Z0 Z H σ ρ ds ρ1 _ ok e3 fun q1 ws H1 Z1 ok1 s1 zq bq aq hq r1 => ?_
  refine hr b0 (upd B q1 (.lst ws)) Z0 Z1 H1 σ ρ1 ms ρ' _ (ok1.frame zq aq hq) e4 fun vs H2 Z2 qs ok2 s2 r2 => ?_
  obtain ⟨ok3, z3, a3, h3⟩ := ok2.unframe (ok1.zz.free zq) bq
  obtain ⟨r3, n3⟩ := NwP.back bq r2
  exact q (.ref q1 :: vs) H2 Z2 (q1 :: qs) ok3 (s1.trans s2) (.f z3 bq a3 h3 (r1.mono s2) n3 r3)
def setV : List Nat → List V → L2.St → L2.St
  | i :: is, v :: vs, σ => setV is vs (σ.set i (some v))
  | _, _, σ => σ
def setN : List Nat → List Nw → Rho → Rho
  | i :: is, n :: ns, ρ => setN is ns (ρ.set i n.sl)
  | _, _, ρ => ρ
theorem apart_set {i : Nat} {v : V} {n : Nw} {q : Addr} (h : Apart σ ρ q) (hv : ∀ ds, n = .f ds → v ≠ .ref q) : Apart (σ.set i (some v)) (ρ.set i n.sl) q := fun j es hj ho hq => by
  rcases set_get hj with ⟨ek, e⟩ | ⟨nk, e⟩
  · subst ek
    cases n with
    | s d => subst e; cases ho
    | f ds =>
      rcases set_get hq with ⟨_, e2⟩ | ⟨n2, _⟩
      · exact hv ds rfl (Option.some.inj e2)
      · exact n2 rfl
  · rw [List.getElem?_set_ne nk] at hq
    exact h j es e ho hq
theorem NwP.set {i : Nat} {v : V} {n : Nw} {vs : List V} {ns : List Nw} {qs : List Addr} (hv : ∀ q ∈ qs, ∀ ds, n = .f ds → v ≠ .ref q) (h : NwP K B Z H σ ρ vs ns qs) : NwP K B Z H (σ.set i (some v)) (ρ.set i n.sl) vs ns qs := by
  induction h with
  | nil => exact .nil
  | s r _ ih => exact .s r (ih hv)
  | f hz hb ha hh hr hn _ ih => exact .f hz hb (apart_set ha (hv _ List.mem_cons_self)) hh hr hn (ih fun q hq => hv q (List.mem_cons_of_mem _ hq))
theorem Ok.setN : ∀ {is : List Nat} {vs : List V} {ns : List Nw} {qs : List Addr} {σ : L2.St} {ρ : Rho}, Ok K b0 B Z0 Z H σ ρ → NwP K B Z H σ ρ vs ns qs → (∀ i ∈ is, i ≠ 0) → is.length = ns.length → Ok K b0 B Z0 Z H (setV is vs σ) (setN is ns ρ)
  | [], _, _, _, _, _, ok, .nil, _, _ => ok
  | [], _, _, _, _, _, ok, .s _ _, _, h => nomatch h
  | [], _, _, _, _, _, ok, .f _ _ _ _ _ _ _, _, h => nomatch h
  | i :: is, _, _, _, _, _, ok, .nil, _, h => nomatch h
  | i :: is, _, _, _, _, _, ok, .s (v := v) (d := d) r h, hi, hl => by
    have ok1 := ok.put (i := i) r
    exact Ok.setN (is := is) ok1 (NwP.set (n := .s d) (fun _ _ _ z => nomatch z) h) (fun j hj => hi j (List.mem_cons_of_mem _ hj)) (by simpa using hl)
  | i :: is, _, _, _, _, _, ok, .f (q := q) (ds := ds) hz hb ha hh hr hn h, hi, hl => by
    have ok1 := ok.putO (i := i) hz hb ha hh hr fun _ _ z => absurd z (hi i List.mem_cons_self)
    exact Ok.setN (is := is) ok1 (NwP.set (n := .f ds) (fun q' hq' _ _ z => hn (by injection z with z; rw [z]; exact hq')) h) (fun j hj => hi j (List.mem_cons_of_mem _ hj)) (by simpa using hl)
def sTupN (is : List Nat) (gn : Rho → R (List Nw)) (ρ : Rho) : O := (gn ρ).to fun ns ρ1 => if ns.length = is.length then .nx (setN is ns ρ1) else .bad
end
theorem Sq.tup {r : D} {xs : List D} (h : Sq r xs) : tupleD [r] = some (.tuple xs) := by rcases h with rfl | rfl <;> rfl
theorem Sq.lst {r : D} {xs : List D} (h : Sq r xs) : listD [r] = some xs := by rcases h with rfl | rfl <;> rfl
theorem Sq.items {r : D} {xs : List D} (h : Sq r xs) : itemsD r = some xs := by rcases h with rfl | rfl <;> rfl
/-- the row after calls -/
def runN (ns : List Int) (tape : List Int) : List Int := tape.foldl callN ns
theorem callN_iff {ns : List Int} {i : Int} (h0 : 0 ≤ i) (h1 : i < ns.length) : callN ns i = ns ↔ midN ns i = nat ns i := by
  unfold callN
  have hk : i.toNat < ns.length := by omega
  constructor
  · intro h
    have : (ns.set i.toNat (midN ns i))[i.toNat]? = ns[i.toNat]? := by rw [h]
    rw [List.getElem?_set_self hk] at this
    unfold nat
    rw [← this]; rfl
  · intro h
    rw [h]
    unfold nat
    rw [List.getElem?_eq_getElem hk]
    exact List.set_getElem_self hk
theorem heardT_ok {h : Nat} {gn : Rho → R (List Nw)} {Fs : List D → Option D} {gd : GE} {js : List Nat} {m : Rho → Option Rho} {rest : GS} {ρ ρ1 ρ2 ρ3 : Rho} {ns : List Nw} {due : D} {o : O} (h1 : gn ρ = .ok ns ρ1) (h2 : ns.length ≤ sizeLine) (h3 : h < ρ1.length) (h4 : js.length ≤ sizeLine) (h5 : gd (ρ1.set h .no) = .ok due ρ2)
    (h6 : Fs [.list (ns.map Nw.dat), due] = some (.bool true)) (h7 : ∀ j ∈ js, ∃ T, ns[j]? = some (.f T) ∧ T.length + js.length ≤ sizeLine) (h8 : m (ρ2.set h .no) = some ρ3) (h9 : rest ρ3 = o) : sHeardT h gn Fs gd js m rest ρ = o := by
  have h7 : js.all (fun j => isF js.length ns[j]?) = true := List.all_eq_true.mpr fun j hj => by
    obtain ⟨T, e, z⟩ := h7 j hj
    rw [e]
    exact decide_eq_true z
  unfold sHeardT
  rw [h1]
  show (if ns.length ≤ sizeLine ∧ h < ρ1.length ∧ js.length ≤ sizeLine then (gd (ρ1.set h .no)).to _ else .bad) = _
  rw [if_pos ⟨h2, h3, h4⟩, h5]
  show (match Fs [.list (ns.map Nw.dat), due] with
    | some (.bool true) => if js.all (fun j => isF js.length ns[j]?) then (match m (ρ2.set h .no) with | some ρ3 => rest ρ3 | none => .bad) else .bad
    | some (.bool false) => .rt (.bool false) (ρ2.set h .no)
    | _ => .bad) = _
  rw [h6]
  show (if js.all (fun j => isF js.length ns[j]?) = true then (match m (ρ2.set h .no) with | some ρ3 => rest ρ3 | none => .bad) else .bad) = _
  rw [if_pos h7, h8]
  exact h9
end DL
namespace DL
open PySem PySem.Spec PyProof.Rows L2
end DL
namespace DLX
open PySem PySem.W PySem.Calls PyProof.Rows PySem.HandSPX
open Builtin Builtin.ObjectAttr
end DLX
namespace DL
open PySem PySem.Spec PyProof.Rows L2 DLX
end DL
namespace DL
open PySem PySem.Spec PyProof.Rows L2
def strD : List D → Option D
  | [.int i] => if i.natAbs.log2 < 1920 then some (.str (toString i)) else none
  | [.str a] => some (.str a)
  | _ => none
def rStr1 : List V → Hp → VK → Prop := fun xs H Q => (∃ i, xs = [.int i] ∧ i.natAbs.log2 < 1920 ∧ Q (.str (toString i)) H) ∨ ∃ a, xs = [.str a] ∧ Q (.str a) H
theorem call_strU {X : Cx} : CallR X (.type "str") rStr1 := by
  intro pins s σ H xs us Q I r h
  rcases h with h | h
  · exact call_str_int pins s σ H xs us Q I r h
  · exact SkE.call_str_str pins s σ H xs us Q I r h
theorem sn_str {K : PySem.W.Frag} : SnA K rStr1 strD := fun b0 B Z0 Z H σ ρ xs as c Q ok ha e q => by
  unfold strD at e
  split at e
  · split at e
    · cases e
      cases ha with
      | cons h h' =>
      cases h'; cases h
      exact .inl ⟨_, rfl, ‹_›, q _ H Z ok (Same.refl Z) (.str _)⟩
    · cases e
  · cases e
    cases ha with
    | cons h h' =>
    cases h'; cases h
    exact .inr ⟨_, rfl, q _ H Z ok (Same.refl Z) (.str _)⟩
  · cases e
end DL
namespace DLZ
open PySem
end DLZ
namespace DLZ
open PySem
end DLZ
namespace DL
open PySem PySem.Spec PyProof.Rows L2 DLZ
end DL
namespace DLV
open PySem PySem.Spec PyProof.Rows HT
end DLV
namespace DL
open PySem PySem.Spec PyProof.Rows L2 DLV
section
variable {X : Cx} {K : PySem.W.Frag} {te : TE} {Wx : WX}
theorem RpA.erase {Z : Hp} : ∀ {vs : List V} {ds : List D} (j : Nat), RpA K Z vs ds → RpA K Z (vs.eraseIdx j) (ds.eraseIdx j)
  | _, _, _, .nil => .nil
  | _, _, 0, .cons h t => t
  | _, _, j + 1, .cons h t => .cons h (RpA.erase j t)
theorem RpA.getD {Z : Hp} : ∀ {vs : List V} {ds : List D} {j : Nat} {d : D}, RpA K Z vs ds → ds[j]? = some d → ∃ v, vs[j]? = some v ∧ Rp K Z v d
  | _, _, 0, _, .cons h t, e => by cases e; exact ⟨_, rfl, h⟩
  | _, _, j + 1, _, .cons h t, e => RpA.getD (j := j) t e
end
end DL
namespace DL
open PySem L2
end DL
namespace DL
open PySem L2
mutual
def szZ : D → Nat
  | .list xs => 3 + szZs xs
  | .tuple xs => 3 + szZs xs
  | .none => 5
  | .bool _ => 5
  | .int i => (PyData.int i).shown.length
  | .str x => (PyData.str x).shown.length
  | .dict _ => 0
def szZs : List D → Nat
  | [] => 0
  | x :: xs => szZ x + 2 + szZs xs
end
mutual
def okB (B : Nat) : D → Bool
  | .list xs => okBs B xs
  | .tuple xs => okBs B xs
  | .none => true
  | .bool _ => true
  | .int i => decide (i.natAbs ≤ B)
  | .str _ => true
  | .dict _ => false
def okBs (B : Nat) : List D → Bool
  | [] => true
  | x :: xs => okB B x && okBs B xs
end
theorem log_B {B n : Nat} (hB : B ≤ 10 ^ 70) (h : n ≤ B) : n.log2 < 1920 := by
  by_cases h0 : n = 0
  · subst h0; decide
  · exact Nat.lt_of_lt_of_le ((Nat.log2_lt h0).mpr (Nat.lt_of_le_of_lt (Nat.le_trans h hB) (by decide : 10 ^ 70 < 2 ^ 300))) (by decide)
/-- a plain value: whole numbers up to B, depth up to n, size up to L -/
structure Vv (B n L : Nat) (d : D) : Prop where
  ok : okB B d = true
  dp : d.depth ≤ n
  sz : szZ d ≤ L
theorem Vv.mono {B n L B' n' L' : Nat} {d : D} (v : Vv B n L d) (b : ∀ d, okB B d = true → okB B' d = true) (hn : n ≤ n') (hL : L ≤ L') : Vv B' n' L' d := ⟨b d v.ok, Nat.le_trans v.dp hn, Nat.le_trans v.sz hL⟩
end DL
namespace DL
open PySem PySem.Spec PyProof.Rows L2
def insU (k : Int) : List Int → List Int
  | [] => [k]
  | x :: xs => if k < x then k :: x :: xs else if k = x then x :: xs else x :: insU k xs
def srtU (ns : List Int) : List Int := ns.foldr insU []
theorem mem_insU {k j : Int} : ∀ {xs : List Int}, j ∈ insU k xs ↔ j = k ∨ j ∈ xs
  | [] => by simp [insU]
  | x :: xs => by
    have ih := mem_insU (k := k) (j := j) (xs := xs)
    unfold insU
    split
    · simp
    · split
      · rename_i h; subst h; simp
      · simp only [List.mem_cons, ih]
        constructor
        · rintro (h | h | h)
          · exact .inr (.inl h)
          · exact .inl h
          · exact .inr (.inr h)
        · rintro (h | h | h)
          · exact .inr (.inl h)
          · exact .inl h
          · exact .inr (.inr h)
theorem asc_insU {k : Int} : ∀ {xs : List Int}, xs.Pairwise (· < ·) → (insU k xs).Pairwise (· < ·)
  | [], _ => by simp [insU]
  | x :: xs, h => by
    obtain ⟨h1, h2⟩ := List.pairwise_cons.mp h
    unfold insU
    split
    · rename_i hk
      refine List.pairwise_cons.mpr ⟨fun y hy => ?_, h⟩
      rcases List.mem_cons.mp hy with e | hy
      · rw [e]; exact hk
      · exact Int.lt_trans hk (h1 y hy)
    · split
      · exact h
      · rename_i h3 h4
        refine List.pairwise_cons.mpr ⟨fun y hy => ?_, asc_insU h2⟩
        rcases mem_insU.mp hy with e | hy
        · rw [e]; omega
        · exact h1 y hy
theorem mem_srtU {j : Int} : ∀ {ns : List Int}, j ∈ srtU ns ↔ j ∈ ns
  | [] => by simp [srtU]
  | n :: ns => by
    show j ∈ insU n (srtU ns) ↔ _
    rw [mem_insU, mem_srtU, List.mem_cons]
theorem asc_srtU : ∀ {ns : List Int}, (srtU ns).Pairwise (· < ·)
  | [] => by simp [srtU]
  | n :: ns => asc_insU (asc_srtU (ns := ns))
/-- there is just one ascending list with these members -/
theorem asc_unique : ∀ {xs ys : List Int}, xs.Pairwise (· < ·) → ys.Pairwise (· < ·) → (∀ k, k ∈ xs ↔ k ∈ ys) → xs = ys
  | [], [], _, _, _ => rfl
  | [], y :: ys, _, _, h => absurd ((h y).mpr List.mem_cons_self) (by simp)
  | x :: xs, [], _, _, h => absurd ((h x).mp List.mem_cons_self) (by simp)
  | x :: xs, y :: ys, hx, hy, h => by
    obtain ⟨x1, x2⟩ := List.pairwise_cons.mp hx
    obtain ⟨y1, y2⟩ := List.pairwise_cons.mp hy
    have e : x = y := by
      rcases List.mem_cons.mp ((h x).mp List.mem_cons_self) with e | e
      · exact e
      · rcases List.mem_cons.mp ((h y).mpr List.mem_cons_self) with e' | e'
        · exact e'.symm
        · have := y1 x e
          have := x1 y e'
          omega
    subst e
    rw [asc_unique x2 y2 fun k => ?_]
    constructor
    · intro hk
      rcases List.mem_cons.mp ((h k).mp (List.mem_cons_of_mem _ hk)) with e | e
      · have := x1 k hk
        omega
      · exact e
    · intro hk
      rcases List.mem_cons.mp ((h k).mpr (List.mem_cons_of_mem _ hk)) with e | e
      · have := y1 k hk
        omega
      · exact e
end DL
namespace DL
open PySem L2
end DL
namespace DL
open PySem L2
end DL
namespace DL
open PySem PySem.Spec PyProof.Rows L2
end DL
namespace DL
open PySem L2
end DL
namespace DL
open PySem PySem.Spec PyProof.Rows L2
def lfT : V → Option Leaf
  | .non => some .none
  | .int i => some (.num i)
  | _ => none
def lfV : V → Option Leaf
  | .non => some .none
  | .int i => some (.num i)
  | .bl b => some (.num (if b then 1 else 0))
  | _ => none
def lfVs : List V → Option (List Leaf)
  | [] => some []
  | v :: vs => match lfV v, lfVs vs with
    | some l, some ls => some (l :: ls)
    | _, _ => none
/-- x is the key k -/
def KeyV (K : PySem.W.Frag) (H : Hp) (x : V) (k : KK) : Prop := (∃ l, k = .lf l ∧ lfT x = some l) ∨ ∃ b xs ls, k = .tp ls ∧ x = .ref b ∧ SqT K H b xs ∧ lfVs xs = some ls
theorem KeyV.mono {K : PySem.W.Frag} {H H' : Hp} {x : V} {k : KK} (s : ∀ b xs, SqT K H b xs → SqT K H' b xs) (h : KeyV K H x k) : KeyV K H' x k := by
  rcases h with h | ⟨b, xs, ls, h1, h2, h3, h4⟩
  · exact .inl h
  · exact .inr ⟨b, xs, ls, h1, h2, s _ _ h3, h4⟩
def getK (kvs : List (KK × V × V)) (k : KK) : Option V := (kvs.find? fun z => decide (z.1 = k)).map (·.2.2)
theorem getK_cons_eq {p : KK × V × V} {r : List (KK × V × V)} {k : KK} (e : p.1 = k) : getK (p :: r) k = some p.2.2 := by simp [getK, List.find?_cons, e]
theorem getK_cons_ne {p : KK × V × V} {r : List (KK × V × V)} {k : KK} (e : ¬ p.1 = k) : getK (p :: r) k = getK r k := by simp [getK, List.find?_cons, e]
end DL
namespace DL
open PySem PySem.Spec PyProof.Rows L2
section
variable {X : Cx} {pins : List (Addr × Obj)} {σ : L2.St} {H : Hp} {s : Shared} {a : Addr} {kvs : List (KK × V × V)} {y v : V} {k : KK} {u r : Value} {A : Around} {E : Value → Shared → Prop} {o : Option V}
theorem KeyV.lf {K : PySem.W.Frag} {l : Leaf} (h : KeyV K H y (.lf l)) : lfT y = some l := by
  rcases h with ⟨l', e, h⟩ | ⟨b, xs, ls, e, _⟩
  · cases e; exact h
  · cases e
theorem KeyV.tp {K : PySem.W.Frag} {ls : List Leaf} (h : KeyV K H y (.tp ls)) : ∃ b xs, y = .ref b ∧ SqT K H b xs ∧ lfVs xs = some ls := by
  rcases h with ⟨l', e, h⟩ | ⟨b, xs, ls', e, h1, h2, h3⟩
  · cases e
  · cases e; exact ⟨b, xs, h1, h2, h3⟩
end
end DL
namespace DL
open PySem L2
section
variable {K : PySem.W.Frag} {Wx : WX} {ta tb te : TE} {b0 : Option Addr} {B Z0 Z H : Hp} {σ : L2.St} {ρ : Rho} {p : Addr}
def OrR (K : PySem.W.Frag) (Z : Hp) : Option V → Option D → Prop
  | some v, some d => Rp K Z v d
  | none, none => True
  | _, _ => False
theorem OrR.isSome {v : Option V} {d : Option D} (h : OrR K Z v d) : v.isSome = d.isSome := by
  cases v <;> cases d <;> first | rfl | exact h.elim
theorem RpK.length : ∀ {kvs : List (KK × V × V)} {kds : List (D × D)}, RpK K Z kvs kds → kvs.length = kds.length
  | _, _, .nil => rfl
  | _, _, .cons _ _ _ r => by rw [List.length_cons, List.length_cons, RpK.length r]
end
end DL
namespace DL
open PySem PySem.Spec PyProof.Rows L2
end DL
namespace DL
open PySem PySem.Spec PyProof.Rows L2
end DL
namespace DLX
open PySem PyProof.Rows PySem.W
end DLX
namespace DL
open PySem PySem.Spec PyProof.Rows L2
open PySem.W (dataLe AllAlike Sortable EachIs)
end DL
namespace DL
open PySem L2
end DL
namespace DL
open PySem L2
theorem mid3_top {l m r : Int} (h1 : l < m) (h2 : r < m) : (mid3 l m r = l ∨ mid3 l m r = r) ∧ l ≤ mid3 l m r ∧ r ≤ mid3 l m r := by
  simp only [mid3, srtI, insI]
  split <;> simp only [insI] <;> (repeat' split) <;> simp only [List.getElem?_cons_succ, List.getElem?_cons_zero, Option.getD_some, true_or, or_true, true_and] <;> omega
theorem mid3_dip {l m r : Int} (h1 : m < l) (h2 : m < r) : (mid3 l m r = l ∨ mid3 l m r = r) ∧ mid3 l m r ≤ l ∧ mid3 l m r ≤ r := by
  simp only [mid3, srtI, insI]
  split <;> simp only [insI] <;> (repeat' split) <;> simp only [List.getElem?_cons_succ, List.getElem?_cons_zero, Option.getD_some, true_or, or_true, true_and] <;> omega
theorem mid3_idle {l m r : Int} (h1 : ¬ (l < m ∧ r < m)) (h2 : ¬ (m < l ∧ m < r)) : mid3 l m r = m := by
  simp only [mid3, srtI, insI]
  split <;> simp only [insI] <;> (repeat' split) <;> simp only [List.getElem?_cons_succ, List.getElem?_cons_zero, Option.getD_some, true_or, or_true, true_and] <;> omega
def IsT (a : List Int) (p : Int) : Prop := 0 < p ∧ p + 1 < a.length ∧ nat a (p - 1) < nat a p ∧ nat a (p + 1) < nat a p
def IsD (a : List Int) (p : Int) : Prop := 0 < p ∧ p + 1 < a.length ∧ nat a p < nat a (p - 1) ∧ nat a p < nat a (p + 1)
/-- what a call does -/
theorem call_cases {b : List Int} {i : Int} (h0 : 0 ≤ i) (h1 : i < b.length) : callN b i = b ∨ (IsT b i ∧ (midN b i = nat b (i - 1) ∨ midN b i = nat b (i + 1)) ∧ nat b (i - 1) ≤ midN b i ∧ nat b (i + 1) ≤ midN b i) ∨ (IsD b i ∧ (midN b i = nat b (i - 1) ∨ midN b i = nat b (i + 1)) ∧ midN b i ≤ nat b (i - 1) ∧ midN b i ≤ nat b (i + 1)) := by
  by_cases he : i = 0 ∨ i = (b.length : Int) - 1
  · refine .inl ((callN_iff h0 h1).mpr ?_)
    unfold midN
    rw [if_pos he]
  · have em : midN b i = mid3 (nat b (i - 1)) (nat b i) (nat b (i + 1)) := by unfold midN; rw [if_neg he]
    by_cases ht : nat b (i - 1) < nat b i ∧ nat b (i + 1) < nat b i
    · have := mid3_top ht.1 ht.2
      rw [← em] at this
      exact .inr (.inl ⟨⟨by omega, by omega, ht⟩, this⟩)
    · by_cases hd : nat b i < nat b (i - 1) ∧ nat b i < nat b (i + 1)
      · have := mid3_dip hd.1 hd.2
        rw [← em] at this
        exact .inr (.inr ⟨⟨by omega, by omega, hd⟩, this⟩)
      · exact .inl ((callN_iff h0 h1).mpr (em.trans (mid3_idle ht hd)))
theorem nat_call {b : List Int} {i p : Int} (h0 : 0 ≤ i) (h1 : i < b.length) (hp : 0 ≤ p) : nat (callN b i) p = if p = i then midN b i else nat b p := by
  unfold callN
  rw [nat_set hp]
  by_cases e : p = i
  · rw [if_pos ⟨by omega, by omega⟩, if_pos e]
  · rw [if_neg (fun z => e (by omega)), if_neg e]
def Btw (p q r : Int) : Prop := (p ≤ r ∧ r ≤ q) ∨ (q ≤ r ∧ r ≤ p)
/-- a leads to b -/
structure Keep (a b : List Int) : Prop where
  len : b.length = a.length
  chg : ∀ p : Int, 0 ≤ p → p < a.length → nat a p = nat b p ∨ (IsT a p ∧ nat b p < nat a p) ∨ (IsD a p ∧ nat a p < nat b p)
  ord : ∀ p : Int, 0 ≤ p → p + 1 < a.length → (nat a p < nat a (p + 1) → nat b p ≤ nat b (p + 1)) ∧ (nat a (p + 1) < nat a p → nat b (p + 1) ≤ nat b p) ∧ (nat a p = nat a (p + 1) → nat b p = nat b (p + 1))
  run : ∀ p : Int, 0 ≤ p → p < a.length → ∃ q : Int, 0 ≤ q ∧ q < a.length ∧ nat a q = nat b q ∧ ∀ r, Btw p q r → nat b r = nat b p
theorem Keep.refl (a : List Int) : Keep a a := ⟨rfl, fun _ _ _ => .inl rfl, fun p _ _ => ⟨fun h => by omega, fun h => by omega, fun h => h⟩, fun p h0 h1 => ⟨p, h0, h1, rfl, fun r hr => by rw [show r = p by unfold Btw at hr; omega]⟩⟩
theorem Keep.runs {a b : List Int} {i m : Int} {c : List Int} (h : Keep a b) (h0 : 0 < i) (h1 : i + 1 < a.length) (n1 : nat b (i - 1) ≠ nat b i) (n2 : nat b (i + 1) ≠ nat b i) (hm : m = nat b (i - 1) ∨ m = nat b (i + 1)) (hc : ∀ p : Int, 0 ≤ p → nat c p = if p = i then m else nat b p) :
    ∀ p : Int, 0 ≤ p → p < a.length → ∃ q : Int, 0 ≤ q ∧ q < a.length ∧ nat a q = nat c q ∧ ∀ r, Btw p q r → nat c r = nat c p := by
  intro p hp0 hp1
  have cut : ∀ p q : Int, p ≠ i → (∀ r, Btw p q r → nat b r = nat b p) → ¬ Btw p q i := fun p q hp hr hb => by
    have e := hr i hb
    unfold Btw at hb
    rcases hb with hb | hb
    · have := hr (i - 1) (by unfold Btw; omega)
      exact n1 (by rw [this, e])
    · have := hr (i + 1) (by unfold Btw; omega)
      exact n2 (by rw [this, e])
  have go : ∀ j : Int, 0 ≤ j → j < a.length → j ≠ i → ∃ q : Int, 0 ≤ q ∧ q < a.length ∧ q ≠ i ∧ ¬ Btw j q i ∧ nat a q = nat c q ∧ ∀ r, Btw j q r → nat c r = nat b j := fun j j0 j1 ji => by
    obtain ⟨q, q0, q1, qs, qr⟩ := h.run j j0 j1
    have nb := cut j q ji qr
    have qi : q ≠ i := fun z => nb (by unfold Btw; omega)
    refine ⟨q, q0, q1, qi, nb, by rw [hc q q0, if_neg qi]; exact qs, fun r hr => ?_⟩
    have ri : r ≠ i := fun z => nb (z ▸ hr)
    rw [hc r (by unfold Btw at hr; omega), if_neg ri]
    exact qr r hr
  by_cases hp : p = i
  · subst hp
    rcases hm with hm | hm
    · obtain ⟨q, q0, q1, qi, nb, qs, qr⟩ := go (p - 1) (by omega) (by omega) (by omega)
      have ql : q ≤ p - 1 := by unfold Btw at nb; omega
      refine ⟨q, q0, q1, qs, fun r hr => ?_⟩
      rw [hc p (by omega), if_pos rfl]
      by_cases e : r = p
      · rw [e, hc p (by omega), if_pos rfl]
      · rw [hm]
        exact qr r (by unfold Btw at hr ⊢; omega)
    · obtain ⟨q, q0, q1, qi, nb, qs, qr⟩ := go (p + 1) (by omega) (by omega) (by omega)
      have ql : p + 1 ≤ q := by unfold Btw at nb; omega
      refine ⟨q, q0, q1, qs, fun r hr => ?_⟩
      rw [hc p (by omega), if_pos rfl]
      by_cases e : r = p
      · rw [e, hc p (by omega), if_pos rfl]
      · rw [hm]
        exact qr r (by unfold Btw at hr ⊢; omega)
  · obtain ⟨q, q0, q1, qi, nb, qs, qr⟩ := go p hp0 hp1 hp
    refine ⟨q, q0, q1, qs, fun r hr => ?_⟩
    rw [qr r hr, hc p hp0, if_neg hp]
theorem Keep.alone {a b : List Int} {i : Int} (h : Keep a b) (h0 : 0 < i) (h1 : i + 1 < a.length) (n1 : nat b (i - 1) ≠ nat b i) (n2 : nat b (i + 1) ≠ nat b i) : nat a i = nat b i := by
  obtain ⟨q, q0, q1, qs, qr⟩ := h.run i (by omega) (by omega)
  rcases Int.lt_trichotomy q i with hq | hq | hq
  · exact absurd (qr (i - 1) (by unfold Btw; omega)) n1
  · rw [← hq]; exact qs
  · exact absurd (qr (i + 1) (by unfold Btw; omega)) n2
theorem Keep.top {a b : List Int} {i : Int} (h : Keep a b) (t : IsT b i) : IsT a i ∧ nat a i = nat b i := by
  obtain ⟨t0, t1, t2, t3⟩ := t
  have hl := h.len
  have o1 := h.ord (i - 1) (by omega) (by omega)
  rw [show i - 1 + 1 = i by omega] at o1
  have o2 := h.ord i (by omega) (by omega)
  refine ⟨⟨t0, by omega, ?_, ?_⟩, h.alone t0 (by omega) (by omega) (by omega)⟩
  · rcases Int.lt_trichotomy (nat a (i - 1)) (nat a i) with e | e | e
    · exact e
    · have := o1.2.2 e; omega
    · have := o1.2.1 e; omega
  · rcases Int.lt_trichotomy (nat a (i + 1)) (nat a i) with e | e | e
    · exact e
    · have := o2.2.2 e.symm; omega
    · have := o2.1 e; omega
theorem Keep.dip {a b : List Int} {i : Int} (h : Keep a b) (t : IsD b i) : IsD a i ∧ nat a i = nat b i := by
  obtain ⟨t0, t1, t2, t3⟩ := t
  have hl := h.len
  have o1 := h.ord (i - 1) (by omega) (by omega)
  rw [show i - 1 + 1 = i by omega] at o1
  have o2 := h.ord i (by omega) (by omega)
  refine ⟨⟨t0, by omega, ?_, ?_⟩, h.alone t0 (by omega) (by omega) (by omega)⟩
  · rcases Int.lt_trichotomy (nat a i) (nat a (i - 1)) with e | e | e
    · exact e
    · have := o1.2.2 e.symm; omega
    · have := o1.1 e; omega
  · rcases Int.lt_trichotomy (nat a i) (nat a (i + 1)) with e | e | e
    · exact e
    · have := o2.2.2 e; omega
    · have := o2.2.1 e; omega
theorem Keep.call {a b : List Int} {i : Int} (h : Keep a b) (h0 : 0 ≤ i) (h1 : i < a.length) : Keep a (callN b i) := by
  have hl := h.len
  have hc := fun p (hp : (0 : Int) ≤ p) => nat_call (b := b) (p := p) h0 (by omega) hp
  rcases call_cases (b := b) h0 (by omega) with e | ⟨t, tm, t1, t2⟩ | ⟨t, tm, t1, t2⟩
  · rw [e]; exact h
  · obtain ⟨ta, es⟩ := h.top t
    obtain ⟨u0, u1, u2, u3⟩ := id t
    obtain ⟨v0, v1, v2, v3⟩ := id ta
    refine ⟨by rw [callN_len]; exact hl, fun p p0 p1 => ?_, fun p p0 p1 => ?_, h.runs u0 (by omega) (by omega) (by omega) tm hc⟩
    · rw [hc p p0]
      by_cases e : p = i
      · subst e
        rw [if_pos rfl]
        exact .inr (.inl ⟨ta, by omega⟩)
      · rw [if_neg e]; exact h.chg p p0 p1
    · rw [hc p p0, hc (p + 1) (by omega)]
      have o := h.ord p p0 p1
      by_cases e : p = i
      · subst e
        rw [if_pos rfl, if_neg (by omega)]
        omega
      · rw [if_neg e]
        by_cases e2 : p + 1 = i
        · subst e2
          rw [if_pos rfl]
          rw [show p + 1 - 1 = p by omega] at *
          omega
        · rw [if_neg e2]; exact o
  · obtain ⟨ta, es⟩ := h.dip t
    obtain ⟨u0, u1, u2, u3⟩ := id t
    obtain ⟨v0, v1, v2, v3⟩ := id ta
    refine ⟨by rw [callN_len]; exact hl, fun p p0 p1 => ?_, fun p p0 p1 => ?_, h.runs u0 (by omega) (by omega) (by omega) tm hc⟩
    · rw [hc p p0]
      by_cases e : p = i
      · subst e
        rw [if_pos rfl]
        exact .inr (.inr ⟨ta, by omega⟩)
      · rw [if_neg e]; exact h.chg p p0 p1
    · rw [hc p p0, hc (p + 1) (by omega)]
      have o := h.ord p p0 p1
      by_cases e : p = i
      · subst e
        rw [if_pos rfl, if_neg (by omega)]
        omega
      · rw [if_neg e]
        by_cases e2 : p + 1 = i
        · subst e2
          rw [if_pos rfl]
          rw [show p + 1 - 1 = p by omega] at *
          omega
        · rw [if_neg e2]; exact o
theorem Keep.more {a : List Int} : ∀ (tape : List Int) {b : List Int}, Keep a b → (∀ i ∈ tape, 0 ≤ i ∧ i < a.length) → Keep a (runN b tape)
  | [], _, h, _ => h
  | i :: tape, b, h, ht => by
    have hi := ht i List.mem_cons_self
    exact Keep.more tape (h.call hi.1 hi.2) fun j hj => ht j (List.mem_cons_of_mem _ hj)
end DL
namespace DL
open PySem L2
def cgB (ns ms : List Int) (p : Int) : Bool := !decide (nat ns p = nat ms p)
def cgL (ns ms : List Int) : List Int := (rngI 0 ns.length).filter (cgB ns ms)
theorem cg_mem {a b : List Int} {p : Int} : p ∈ cgL a b ↔ (0 ≤ p ∧ p < a.length) ∧ nat a p ≠ nat b p := by
  unfold cgL cgB
  rw [List.mem_filter]
  constructor
  · intro ⟨h1, h2⟩
    have := mem_rngI h1
    exact ⟨⟨by omega, by omega⟩, by simpa using h2⟩
  · intro ⟨h1, h2⟩
    exact ⟨in_rngI h1.1 (by omega), by simpa using h2⟩
theorem row_eq {a b : List Int} (hl : b.length = a.length) (h : ∀ p : Int, 0 ≤ p → p < a.length → nat a p = nat b p) : a = b := by
  apply List.ext_getElem?
  intro k
  by_cases hk : k < a.length
  · have := h (k : Int) (by omega) (by omega)
    unfold nat at this
    rw [Int.toNat_natCast, List.getElem?_eq_getElem hk, List.getElem?_eq_getElem (show k < b.length by omega)] at this
    rw [List.getElem?_eq_getElem hk, List.getElem?_eq_getElem (show k < b.length by omega)]
    simpa using this
  · rw [List.getElem?_eq_none (by omega), List.getElem?_eq_none (by omega)]
theorem cg_nil {a b : List Int} (hl : b.length = a.length) : cgL a b = [] ↔ a = b := by
  constructor
  · intro h
    refine row_eq hl fun p h0 h1 => ?_
    by_cases e : nat a p = nat b p
    · exact e
    · have : p ∈ cgL a b := cg_mem.mpr ⟨⟨h0, h1⟩, e⟩
      rw [h] at this
      cases this
  · intro h
    subst h
    refine List.filter_eq_nil_iff.mpr fun p _ => ?_
    unfold cgB
    simp
/-- somebody who has to change beside one who stays, both of the same number in the end -/
theorem Keep.beside {a b : List Int} (h : Keep a b) (ne : a ≠ b) : ∃ p s : Int, (s = 1 ∨ s = -1) ∧ 0 ≤ p ∧ p < a.length ∧ 0 ≤ p + s ∧ p + s < a.length ∧ nat a p ≠ nat b p ∧ nat a (p + s) = nat b (p + s) ∧ nat b (p + s) = nat b p := by
  have hx : ∃ p ∈ cgL a b, True := by
    cases e : cgL a b with
    | nil => exact absurd ((cg_nil h.len).mp e) ne
    | cons x r => exact ⟨x, List.mem_cons_self, True.intro⟩
  obtain ⟨p, hp, _⟩ := hx
  obtain ⟨⟨p0, p1⟩, pn⟩ := cg_mem.mp hp
  obtain ⟨q, q0, q1, qs, qr⟩ := h.run p p0 p1
  have go : ∀ (k : Nat) (p : Int), 0 ≤ p → p < a.length → nat a p ≠ nat b p → (∀ r, Btw p q r → nat b r = nat b p) → (p - q).natAbs ≤ k → ∃ p s : Int, (s = 1 ∨ s = -1) ∧ 0 ≤ p ∧ p < a.length ∧ 0 ≤ p + s ∧ p + s < a.length ∧ nat a p ≠ nat b p ∧ nat a (p + s) = nat b (p + s) ∧ nat b (p + s) = nat b p := by
    intro k
    induction k with
    | zero =>
      intro p p0 p1 pn qr hk
      have e : p = q := by omega
      rw [e] at pn
      exact absurd qs pn
    | succ k ih =>
      intro p p0 p1 pn qr hk
      rcases Int.lt_trichotomy q p with hq | hq | hq
      · have e1 := qr (p + -1) (by unfold Btw; omega)
        by_cases e : nat a (p + -1) = nat b (p + -1)
        · exact ⟨p, -1, .inr rfl, p0, p1, by omega, by omega, pn, e, e1⟩
        · exact ih (p + -1) (by omega) (by omega) e (fun r hr => by rw [e1]; exact qr r (by unfold Btw at hr ⊢; omega)) (by omega)
      · rw [← hq] at pn
        exact absurd qs pn
      · have e1 := qr (p + 1) (by unfold Btw; omega)
        by_cases e : nat a (p + 1) = nat b (p + 1)
        · exact ⟨p, 1, .inl rfl, p0, p1, by omega, by omega, pn, e, e1⟩
        · exact ih (p + 1) (by omega) (by omega) e (fun r hr => by rw [e1]; exact qr r (by unfold Btw at hr ⊢; omega)) (by omega)
  exact go (p - q).natAbs p p0 p1 pn qr (Nat.le_refl _)
/-- what is near a top that has to fall -/
theorem Keep.near_top {a b : List Int} {p x : Int} (h : Keep a b) (t : IsT a p) (hb : nat b p < nat a p) (hx : x = p + 1 ∨ x = p - 1) : nat a x < nat a p ∧ nat b x ≤ nat b p ∧ (nat a x = nat b x ∨ (IsD a x ∧ nat a x < nat b x)) := by
  obtain ⟨t0, t1, t2, t3⟩ := t
  have hl := h.len
  have ha : nat a x < nat a p := by rcases hx with rfl | rfl <;> assumption
  have hbx : nat b x ≤ nat b p := by
    rcases hx with rfl | rfl
    · exact (h.ord p (by omega) (by omega)).2.1 t3
    · have := (h.ord (p - 1) (by omega) (by omega)).1
      rw [show p - 1 + 1 = p by omega] at this
      exact this t2
  refine ⟨ha, hbx, ?_⟩
  rcases h.chg x (by omega) (by omega) with c | ⟨⟨u0, u1, u2, u3⟩, c⟩ | c
  · exact .inl c
  · exfalso
    rcases hx with rfl | rfl
    · rw [show p + 1 - 1 = p by omega] at u2; omega
    · rw [show p - 1 + 1 = p by omega] at u3; omega
  · exact .inr c
theorem Keep.near_dip {a b : List Int} {p x : Int} (h : Keep a b) (t : IsD a p) (hb : nat a p < nat b p) (hx : x = p + 1 ∨ x = p - 1) : nat a p < nat a x ∧ nat b p ≤ nat b x ∧ (nat a x = nat b x ∨ (IsT a x ∧ nat b x < nat a x)) := by
  obtain ⟨t0, t1, t2, t3⟩ := t
  have hl := h.len
  have ha : nat a p < nat a x := by rcases hx with rfl | rfl <;> assumption
  have hbx : nat b p ≤ nat b x := by
    rcases hx with rfl | rfl
    · exact (h.ord p (by omega) (by omega)).1 t3
    · have := (h.ord (p - 1) (by omega) (by omega)).2.1
      rw [show p - 1 + 1 = p by omega] at this
      exact this t2
  refine ⟨ha, hbx, ?_⟩
  rcases h.chg x (by omega) (by omega) with c | c | ⟨⟨u0, u1, u2, u3⟩, c⟩
  · exact .inl c
  · exact .inr c
  · exfalso
    rcases hx with rfl | rfl
    · rw [show p + 1 - 1 = p by omega] at u2; omega
    · rw [show p - 1 + 1 = p by omega] at u3; omega
/-- a call of somebody whose number is then the one of the end -/
theorem Keep.step {a b : List Int} {p : Int} (h : Keep a b) (h0 : 0 < p) (h1 : p + 1 < a.length) (hc : nat a p ≠ nat b p) (hm : midN a p = nat b p) (hle : ∀ x : Int, x = p + 1 ∨ x = p - 1 → (IsT a p → nat a x ≤ nat b p) ∧ (IsD a p → nat b p ≤ nat a x)) : Keep (callN a p) b := by
  have hl := h.len
  have nc := fun x (hx : (0 : Int) ≤ x) => nat_call (b := a) (p := x) (i := p) (by omega) (by omega) hx
  have hk := h.chg p (by omega) (by omega)
  refine ⟨by rw [callN_len]; exact hl, fun x x0 x1 => ?_, fun x x0 x1 => ?_, fun x x0 x1 => ?_⟩
  · rw [callN_len] at x1
    by_cases e : x = p
    · subst e
      rw [nc x x0, if_pos rfl]
      exact .inl hm
    · rw [nc x x0, if_neg e]
      rcases h.chg x x0 x1 with c | ⟨⟨u0, u1, u2, u3⟩, c⟩ | ⟨⟨u0, u1, u2, u3⟩, c⟩
      · exact .inl c
      · refine .inr (.inl ⟨⟨u0, by rw [callN_len]; exact u1, ?_, ?_⟩, c⟩)
        · rw [nc x x0, if_neg e, nc (x - 1) (by omega)]
          by_cases e2 : x - 1 = p
          · rw [if_pos e2, hm]
            have ex : x = p + 1 := by omega
            rcases hk with z | ⟨t, z⟩ | ⟨t, z⟩
            · exact absurd z hc
            · have := (h.near_top t z (.inl ex)).1; rw [e2] at u2; omega
            · have := h.near_dip t z (.inl ex)
              omega
          · rw [if_neg e2]; exact u2
        · rw [nc x x0, if_neg e, nc (x + 1) (by omega)]
          by_cases e2 : x + 1 = p
          · rw [if_pos e2, hm]
            have ex : x = p - 1 := by omega
            rcases hk with z | ⟨t, z⟩ | ⟨t, z⟩
            · exact absurd z hc
            · have := (h.near_top t z (.inr ex)).1; rw [e2] at u3; omega
            · have := h.near_dip t z (.inr ex)
              omega
          · rw [if_neg e2]; exact u3
      · refine .inr (.inr ⟨⟨u0, by rw [callN_len]; exact u1, ?_, ?_⟩, c⟩)
        · rw [nc x x0, if_neg e, nc (x - 1) (by omega)]
          by_cases e2 : x - 1 = p
          · rw [if_pos e2, hm]
            have ex : x = p + 1 := by omega
            rcases hk with z | ⟨t, z⟩ | ⟨t, z⟩
            · exact absurd z hc
            · have := h.near_top t z (.inl ex)
              omega
            · have := (h.near_dip t z (.inl ex)).1; rw [e2] at u2; omega
          · rw [if_neg e2]; exact u2
        · rw [nc x x0, if_neg e, nc (x + 1) (by omega)]
          by_cases e2 : x + 1 = p
          · rw [if_pos e2, hm]
            have ex : x = p - 1 := by omega
            rcases hk with z | ⟨t, z⟩ | ⟨t, z⟩
            · exact absurd z hc
            · have := h.near_top t z (.inr ex)
              omega
            · have := (h.near_dip t z (.inr ex)).1; rw [e2] at u3; omega
          · rw [if_neg e2]; exact u3
  · rw [callN_len] at x1
    rw [nc x x0, nc (x + 1) (by omega)]
    have o := h.ord x x0 x1
    by_cases e : x = p
    · subst e
      rw [if_pos rfl, if_neg (by omega), hm]
      have hl1 := hle (x + 1) (.inl rfl)
      rcases hk with z | ⟨t, z⟩ | ⟨t, z⟩
      · exact absurd z hc
      · have n1 := h.near_top t z (.inl rfl)
        have := hl1.1 t
        omega
      · have n1 := h.near_dip t z (.inl rfl)
        have := hl1.2 t
        omega
    · rw [if_neg e]
      by_cases e2 : x + 1 = p
      · rw [if_pos e2, hm]
        have ex : x = p - 1 := by omega
        have hl1 := hle x (.inr ex)
        rw [e2]
        rcases hk with z | ⟨t, z⟩ | ⟨t, z⟩
        · exact absurd z hc
        · have n1 := h.near_top t z (.inr ex)
          have := hl1.1 t
          omega
        · have n1 := h.near_dip t z (.inr ex)
          have := hl1.2 t
          omega
      · rw [if_neg e2]; exact o
  · rw [callN_len] at x1
    obtain ⟨q, q0, q1, qs, qr⟩ := h.run x x0 x1
    refine ⟨q, q0, by rw [callN_len]; exact q1, ?_, qr⟩
    rw [nc q q0]
    by_cases e : q = p
    · rw [if_pos e, hm, e]
    · rw [if_neg e]; exact qs
/-- who is beside one who stays may be called, and takes the number of the end -/
theorem Keep.can {a b : List Int} {p s : Int} (h : Keep a b) (hs : s = 1 ∨ s = -1) (p0 : 0 ≤ p) (p1 : p < a.length) (q0 : 0 ≤ p + s) (q1 : p + s < a.length) (pn : nat a p ≠ nat b p) (qs : nat a (p + s) = nat b (p + s)) (qe : nat b (p + s) = nat b p) : 0 < p ∧ p + 1 < a.length ∧ midN a p = nat b p ∧ Keep (callN a p) b := by
  have hk := h.chg p p0 p1
  have inn : 0 < p ∧ p + 1 < a.length := by
    rcases hk with z | ⟨⟨t0, t1, _⟩, _⟩ | ⟨⟨t0, t1, _⟩, _⟩
    · exact absurd z pn
    · exact ⟨t0, t1⟩
    · exact ⟨t0, t1⟩
  have em : midN a p = mid3 (nat a (p - 1)) (nat a p) (nat a (p + 1)) := by
    unfold midN
    rw [if_neg (by omega)]
  have fin : midN a p = nat b p ∧ ∀ x : Int, x = p + 1 ∨ x = p - 1 → (IsT a p → nat a x ≤ nat b p) ∧ (IsD a p → nat b p ≤ nat a x) := by
    rcases hk with z | ⟨t, z⟩ | ⟨t, z⟩
    · exact absurd z pn
    · have n1 := h.near_top t z (x := p + 1) (.inl rfl)
      have n2 := h.near_top t z (x := p - 1) (.inr rfl)
      have m := mid3_top (l := nat a (p - 1)) (m := nat a p) (r := nat a (p + 1)) n2.1 n1.1
      rw [← em] at m
      refine ⟨?_, fun x hx => ⟨fun _ => ?_, fun d => ?_⟩⟩
      · rcases hs with rfl | rfl
        · omega
        · rw [show p + -1 = p - 1 by omega] at *; omega
      · rcases hx with rfl | rfl <;> omega
      · have := d.2.2.1; have := t.2.2.1; omega
    · have n1 := h.near_dip t z (x := p + 1) (.inl rfl)
      have n2 := h.near_dip t z (x := p - 1) (.inr rfl)
      have m := mid3_dip (l := nat a (p - 1)) (m := nat a p) (r := nat a (p + 1)) n2.1 n1.1
      rw [← em] at m
      refine ⟨?_, fun x hx => ⟨fun d => ?_, fun _ => ?_⟩⟩
      · rcases hs with rfl | rfl
        · omega
        · rw [show p + -1 = p - 1 by omega] at *; omega
      · have := d.2.2.1; have := t.2.2.1; omega
      · rcases hx with rfl | rfl <;> omega
  exact ⟨inn.1, inn.2, fin.1, h.step inn.1 inn.2 pn fin.1 fin.2⟩
theorem cg_call {a b : List Int} {p : Int} (p0 : 0 ≤ p) (p1 : p < a.length) (pn : nat a p ≠ nat b p) (hm : midN a p = nat b p) : cgL (callN a p) b = (cgL a b).filter fun x => decide (x ≠ p) := by
  unfold cgL
  rw [callN_len, List.filter_filter]
  refine List.filter_congr fun x hx => ?_
  have hx := mem_rngI hx
  unfold cgB
  rw [nat_call p0 p1 (by omega)]
  by_cases e : x = p
  · subst e
    rw [if_pos rfl, hm]
    simp
  · rw [if_neg e]
    simp [e]
theorem len_drop {p : Int} : ∀ {l : List Int}, l.Pairwise (· < ·) → p ∈ l → (l.filter fun x => decide (x ≠ p)).length + 1 = l.length
  | x :: l, hw, hp => by
    have hw := List.pairwise_cons.mp hw
    rw [List.filter_cons]
    by_cases e : x = p
    · subst e
      have : (l.filter fun y => decide (y ≠ x)) = l := List.filter_eq_self.mpr fun y hy => decide_eq_true (by have := hw.1 y hy; omega)
      rw [if_neg (by simp), this]; rfl
    · rcases List.mem_cons.mp hp with z | z
      · exact absurd z.symm e
      · have := len_drop hw.2 z
        rw [if_pos (by simpa using e)]
        simp only [List.length_cons]
        omega
theorem rng_pw (lo : Int) (n : Nat) : (rngI lo n).Pairwise (· < ·) := by
  unfold rngI
  rw [List.pairwise_map]
  exact List.pairwise_lt_range.imp fun h => by omega
theorem cg_pw (a b : List Int) : (cgL a b).Pairwise (· < ·) := (rng_pw 0 _).filter _
/-- b is led to by as many calls as people changed -/
theorem Keep.way : ∀ (k : Nat) {a b : List Int}, Keep a b → (cgL a b).length = k → ∃ tape : List Int, tape.length = k ∧ (∀ i ∈ tape, 0 < i ∧ i + 1 < a.length) ∧ runN a tape = b
  | 0, a, b, h, hk => ⟨[], rfl, fun i hi => (nomatch hi), (cg_nil h.len).mp (List.length_eq_zero_iff.mp hk)⟩
  | k + 1, a, b, h, hk => by
    have ne : a ≠ b := fun e => by
      rw [(cg_nil h.len).mpr e] at hk
      cases hk
    obtain ⟨p, s, hs, p0, p1, q0, q1, pn, qs, qe⟩ := h.beside ne
    obtain ⟨c1, c2, c3, c4⟩ := h.can hs p0 p1 q0 q1 pn qs qe
    have hd := len_drop (cg_pw a b) (cg_mem.mpr ⟨⟨p0, p1⟩, pn⟩)
    obtain ⟨tape, t1, t2, t3⟩ := Keep.way k c4 (by rw [cg_call p0 p1 pn c3]; omega)
    refine ⟨p :: tape, by rw [List.length_cons, t1], fun i hi => ?_, t3⟩
    rcases List.mem_cons.mp hi with rfl | hi
    · exact ⟨c1, c2⟩
    · have := t2 i hi
      rw [callN_len] at this
      exact this
/-- a call that changes something changes one who had not changed yet -/
theorem Keep.more1 {a b : List Int} {i : Int} (h : Keep a b) (h0 : 0 ≤ i) (h1 : i < a.length) (hc : callN b i ≠ b) : (cgL a (callN b i)).length = (cgL a b).length + 1 ∧ 0 < i ∧ i + 1 < a.length ∧ nat a i = nat b i := by
  have hl := h.len
  have inn : (0 < i ∧ i + 1 < a.length) ∧ nat a i = nat b i ∧ midN b i ≠ nat b i := by
    have ni : midN b i ≠ nat b i := fun e => hc ((callN_iff h0 (by omega)).mpr e)
    rcases call_cases (b := b) h0 (by omega) with e | ⟨t, _⟩ | ⟨t, _⟩
    · exact absurd e hc
    · have := h.top t
      exact ⟨⟨t.1, by have := t.2.1; omega⟩, this.2, ni⟩
    · have := h.dip t
      exact ⟨⟨t.1, by have := t.2.1; omega⟩, this.2, ni⟩
  refine ⟨?_, inn.1.1, inn.1.2, inn.2.1⟩
  have e : cgL a b = (cgL a (callN b i)).filter fun x => decide (x ≠ i) := by
    unfold cgL
    rw [List.filter_filter]
    refine List.filter_congr fun x hx => ?_
    have hx := mem_rngI hx
    unfold cgB
    rw [nat_call h0 (by omega) (by omega)]
    by_cases e : x = i
    · subst e
      rw [if_pos rfl, inn.2.1]
      simp
    · rw [if_neg e]
      simp [e]
  have hm : i ∈ cgL a (callN b i) := cg_mem.mpr ⟨⟨h0, h1⟩, by rw [nat_call h0 (by omega) h0, if_pos rfl, inn.2.1]; exact fun z => inn.2.2 z.symm⟩
  have := len_drop (cg_pw a (callN b i)) hm
  rw [← e] at this
  omega
end DL
namespace DL
open PySem L2
structure Sta where
  num : Int
  st : Bool
  came : Int
  wide : Bool
  deriving DecidableEq
abbrev Stt := Option Sta
abbrev Opt := Int × Bool
def partN (a : List Int) (p : Int) (s : Sta) (o : Opt) (calm : Bool) : Stt :=
  if s.st = false ∨ nat a (p - 1) = nat a p ∨ decide (nat a (p - 1) < nat a p) ≠ decide (s.num < o.1) then none
  else if calm = true ∧ s.wide = false ∧ ¬ (s.came = 0 ∨ s.came = if s.num < o.1 then 1 else -1) then none
  else some ⟨o.1, !o.2, if calm then (if s.num < o.1 then 1 else -1) else 0, false⟩
def nxN (a : List Int) (p : Int) (s : Stt) (o : Opt) (calm : Bool) : Stt := match s with
  | none => some ⟨o.1, !o.2, 0, false⟩
  | some s => if o.1 = s.num then some ⟨s.num, s.st || !o.2, s.came, calm⟩ else partN a p s o calm
theorem part_num {a : List Int} {p : Int} {s : Sta} {o : Opt} {calm : Bool} {t : Sta} (h : partN a p s o calm = some t) : t.num = o.1 := by
  unfold partN at h
  by_cases c1 : s.st = false ∨ nat a (p - 1) = nat a p ∨ decide (nat a (p - 1) < nat a p) ≠ decide (s.num < o.1)
  · rw [if_pos c1] at h; cases h
  · rw [if_neg c1] at h
    by_cases c2 : calm = true ∧ s.wide = false ∧ ¬ (s.came = 0 ∨ s.came = if s.num < o.1 then 1 else -1)
    · rw [if_pos c2] at h; cases h
    · rw [if_neg c2] at h
      injection h with h
      rw [← h]
theorem nx_num {a : List Int} {p : Int} {s : Stt} {o : Opt} {calm : Bool} {t : Sta} (h : nxN a p s o calm = some t) : t.num = o.1 := by
  cases s with
  | none => injection h with h; rw [← h]
  | some s =>
    unfold nxN at h
    dsimp only at h
    by_cases e : o.1 = s.num
    · rw [if_pos e] at h
      injection h with h
      rw [← h]; exact e.symm
    · rw [if_neg e] at h
      exact part_num h
/-- the states after one more person -/
def nxL (a : List Int) (op : List Opt) (p : Int) (s : Stt) (calm : Bool) : List Sta := op.filterMap fun o => nxN a p s o calm
def accB : Stt → Bool
  | none => true
  | some s => s.st
/-- the numbers that go on so -/
def rowF (a : List Int) (ops : Int → List Opt) (calm : Bool) : Nat → Int → Stt → List (List Int)
  | 0, _, s => if accB s then [[]] else []
  | r + 1, p, s => (nxL a (ops p) p s calm).flatMap fun t => (rowF a ops calm r (p + 1) (some t)).map (t.num :: ·)
theorem row_each {a : List Int} {ops : Int → List Opt} {calm : Bool} : ∀ {r : Nat} {p : Int} {s : Stt} {c : List Int}, c ∈ rowF a ops calm r p s → c.length = r
  | 0, p, s, c, h => by
    unfold rowF at h
    split at h
    · rw [List.mem_singleton.mp h]; rfl
    · cases h
  | r + 1, p, s, c, h => by
    unfold rowF at h
    obtain ⟨t, _, h1⟩ := List.mem_flatMap.mp h
    obtain ⟨c', h2, rfl⟩ := List.mem_map.mp h1
    rw [List.length_cons, row_each h2]
def AscO (op : List Opt) : Prop := op.Pairwise fun x y => x.1 < y.1
theorem nxL_pw {a : List Int} {op : List Opt} {p : Int} {s : Stt} {calm : Bool} (h : AscO op) : (nxL a op p s calm).Pairwise fun x y => x.num < y.num := by
  unfold nxL
  rw [List.pairwise_filterMap]
  exact h.imp fun {x y} hxy t ht u hu => by rw [nx_num ht, nx_num hu]; exact hxy
theorem cons_lt {x y : Int} {c d : List Int} : x :: c < y :: d ↔ x < y ∨ (x = y ∧ c < d) := List.cons_lt_cons_iff
theorem row_asc {a : List Int} {ops : Int → List Opt} {calm : Bool} (h : ∀ p, AscO (ops p)) : ∀ (r : Nat) (p : Int) (s : Stt), (rowF a ops calm r p s).Pairwise (· < ·)
  | 0, p, s => by
    unfold rowF
    split
    · exact List.pairwise_singleton _ _
    · exact .nil
  | r + 1, p, s => by
    unfold rowF
    rw [List.flatMap_def, List.pairwise_flatten]
    refine ⟨fun l hl => ?_, ?_⟩
    · obtain ⟨t, _, rfl⟩ := List.mem_map.mp hl
      rw [List.pairwise_map]
      exact (row_asc h r (p + 1) (some t)).imp fun hc => cons_lt.mpr (.inr ⟨rfl, hc⟩)
    · rw [List.pairwise_map]
      refine (nxL_pw (h p)).imp fun {t u} htu c hc d hd => ?_
      obtain ⟨c', _, rfl⟩ := List.mem_map.mp hc
      obtain ⟨d', _, rfl⟩ := List.mem_map.mp hd
      exact cons_lt.mpr (.inl htu)
theorem lt_irr (c : List Int) : ¬ c < c := List.lt_irrefl c
theorem row_nodup {a : List Int} {ops : Int → List Opt} {calm : Bool} (h : ∀ p, AscO (ops p)) (r : Nat) (p : Int) (s : Stt) : (rowF a ops calm r p s).Nodup := (row_asc h r p s).imp fun {x y} hxy e => by rw [e] at hxy; exact lt_irr y hxy
/-- two ascending lists of the same members are one -/
theorem asc_rows : ∀ {xs ys : List (List Int)}, xs.Pairwise (· < ·) → ys.Pairwise (· < ·) → (∀ c, c ∈ xs ↔ c ∈ ys) → xs = ys
  | [], [], _, _, _ => rfl
  | [], y :: ys, _, _, h => absurd ((h y).mpr List.mem_cons_self) (fun z => nomatch z)
  | x :: xs, [], _, _, h => absurd ((h x).mp List.mem_cons_self) (fun z => nomatch z)
  | x :: xs, y :: ys, hx, hy, h => by
    have hx := List.pairwise_cons.mp hx
    have hy := List.pairwise_cons.mp hy
    have as : ∀ {c d : List Int}, c < d → ¬ d < c := fun h1 h2 => lt_irr _ (List.lt_trans h1 h2)
    have e : x = y := by
      rcases List.mem_cons.mp ((h x).mp List.mem_cons_self) with e | e
      · exact e
      · rcases List.mem_cons.mp ((h y).mpr List.mem_cons_self) with e2 | e2
        · exact e2.symm
        · exact absurd (hx.1 y e2) (as (hy.1 x e))
    subst e
    congr 1
    refine asc_rows hx.2 hy.2 fun c => ⟨fun hc => ?_, fun hc => ?_⟩
    · rcases List.mem_cons.mp ((h c).mp (List.mem_cons_of_mem _ hc)) with e | e
      · subst e; exact absurd (hx.1 c hc) (lt_irr c)
      · exact e
    · rcases List.mem_cons.mp ((h c).mpr (List.mem_cons_of_mem _ hc)) with e | e
      · subst e; exact absurd (hy.1 c hc) (lt_irr c)
      · exact e
end DL
namespace DL
open PySem L2
instance (a : List Int) (p : Int) : Decidable (IsT a p) := by unfold IsT; infer_instance
instance (a : List Int) (p : Int) : Decidable (IsD a p) := by unfold IsD; infer_instance
def optA (a : List Int) (p : Int) : List Opt :=
  if IsT a p then (((srtU a).filter fun x => decide (x < nat a p)).map fun x => (x, true)) ++ [(nat a p, false)]
  else if IsD a p then (nat a p, false) :: ((srtU a).filter fun x => decide (nat a p < x)).map fun x => (x, true)
  else [(nat a p, false)]
theorem not_td {a : List Int} {p : Int} (t : IsT a p) (d : IsD a p) : False := by have := t.2.2.1; have := d.2.2.1; omega
theorem optA_mem {a : List Int} {p x : Int} {c : Bool} : (x, c) ∈ optA a p ↔ (c = false ∧ x = nat a p) ∨ (c = true ∧ x ∈ a ∧ ((IsT a p ∧ x < nat a p) ∨ (IsD a p ∧ nat a p < x))) := by
  unfold optA
  by_cases t : IsT a p
  · rw [if_pos t, List.mem_append, List.mem_map, List.mem_singleton]
    constructor
    · rintro (⟨y, hy, e⟩ | e)
      · cases e
        obtain ⟨h1, h2⟩ := List.mem_filter.mp hy
        exact .inr ⟨rfl, mem_srtU.mp h1, .inl ⟨t, of_decide_eq_true h2⟩⟩
      · cases e; exact .inl ⟨rfl, rfl⟩
    · rintro (⟨rfl, rfl⟩ | ⟨rfl, h1, ⟨_, h2⟩ | ⟨d, _⟩⟩)
      · exact .inr rfl
      · exact .inl ⟨x, List.mem_filter.mpr ⟨mem_srtU.mpr h1, decide_eq_true h2⟩, rfl⟩
      · exact (not_td t d).elim
  · rw [if_neg t]
    by_cases d : IsD a p
    · rw [if_pos d, List.mem_cons, List.mem_map]
      constructor
      · rintro (e | ⟨y, hy, e⟩)
        · cases e; exact .inl ⟨rfl, rfl⟩
        · cases e
          obtain ⟨h1, h2⟩ := List.mem_filter.mp hy
          exact .inr ⟨rfl, mem_srtU.mp h1, .inr ⟨d, of_decide_eq_true h2⟩⟩
      · rintro (⟨rfl, rfl⟩ | ⟨rfl, h1, ⟨z, _⟩ | ⟨_, h2⟩⟩)
        · exact .inl rfl
        · exact (t z).elim
        · exact .inr ⟨x, List.mem_filter.mpr ⟨mem_srtU.mpr h1, decide_eq_true h2⟩, rfl⟩
    · rw [if_neg d, List.mem_singleton]
      constructor
      · intro e; cases e; exact .inl ⟨rfl, rfl⟩
      · rintro (⟨rfl, rfl⟩ | ⟨rfl, _, ⟨z, _⟩ | ⟨z, _⟩⟩)
        · rfl
        · exact (t z).elim
        · exact (d z).elim
theorem optA_asc (a : List Int) (p : Int) : AscO (optA a p) := by
  unfold AscO optA
  have s1 : ∀ f : Int → Bool, (((srtU a).filter f).map fun x => ((x, true) : Opt)).Pairwise fun x y => x.1 < y.1 := fun f => by
    rw [List.pairwise_map]
    exact asc_srtU.filter _
  split
  · rw [List.pairwise_append]
    refine ⟨s1 _, List.pairwise_singleton _ _, fun x hx y hy => ?_⟩
    obtain ⟨z, hz, rfl⟩ := List.mem_map.mp hx
    rw [List.mem_singleton.mp hy]
    exact of_decide_eq_true (List.mem_filter.mp hz).2
  · split
    · rw [List.pairwise_cons]
      refine ⟨fun x hx => ?_, s1 _⟩
      obtain ⟨z, hz, rfl⟩ := List.mem_map.mp hx
      exact of_decide_eq_true (p := nat a p < z) (List.mem_filter.mp hz).2
    · exact List.pairwise_singleton _ _
def OptOk (a b : List Int) (k : Nat) : Prop := (nat b k, !decide (nat a k = nat b k)) ∈ optA a k
def stayB (a b : List Int) : Nat → Bool
  | 0 => decide (nat a (0 : Nat) = nat b (0 : Nat))
  | k + 1 => if nat b ((k + 1 : Nat) : Int) = nat b (k : Nat) then stayB a b k || decide (nat a ((k + 1 : Nat) : Int) = nat b ((k + 1 : Nat) : Int)) else decide (nat a ((k + 1 : Nat) : Int) = nat b ((k + 1 : Nat) : Int))
def stAt (a b : List Int) : Nat → Stt
  | 0 => none
  | k + 1 => some ⟨nat b (k : Nat), stayB a b k, 0, false⟩
/-- the step to person k + 1 is fine -/
def PartOk (a b : List Int) (k : Nat) : Prop := nat b (k : Nat) ≠ nat b ((k + 1 : Nat) : Int) → nat a (k : Nat) ≠ nat a ((k + 1 : Nat) : Int) ∧ (nat a (k : Nat) < nat a ((k + 1 : Nat) : Int) ↔ nat b (k : Nat) < nat b ((k + 1 : Nat) : Int)) ∧ stayB a b k = true
def StepOk (a b : List Int) : Nat → Prop
  | 0 => True
  | k + 1 => PartOk a b k
theorem dec_iff {p q : Prop} [Decidable p] [Decidable q] : decide p = decide q ↔ (p ↔ q) := decide_eq_decide
theorem nx_at {a b : List Int} : ∀ (k : Nat), (StepOk a b k → nxN a k (stAt a b k) (nat b k, !decide (nat a k = nat b k)) false = stAt a b (k + 1)) ∧ (¬ StepOk a b k → nxN a k (stAt a b k) (nat b k, !decide (nat a k = nat b k)) false = none)
  | 0 => by
    refine ⟨fun _ => ?_, fun h => absurd True.intro h⟩
    show some (Sta.mk _ _ 0 false) = some (Sta.mk _ _ 0 false)
    unfold stayB
    simp
  | k + 1 => by
    have e : nxN a ((k + 1 : Nat) : Int) (stAt a b (k + 1)) (nat b ((k + 1 : Nat) : Int), !decide (nat a ((k + 1 : Nat) : Int) = nat b ((k + 1 : Nat) : Int))) false = if nat b ((k + 1 : Nat) : Int) = nat b (k : Nat) then some ⟨nat b (k : Nat), stayB a b k || !!decide (nat a ((k + 1 : Nat) : Int) = nat b ((k + 1 : Nat) : Int)), 0, false⟩ else partN a ((k + 1 : Nat) : Int) ⟨nat b (k : Nat), stayB a b k, 0, false⟩ (nat b ((k + 1 : Nat) : Int), !decide (nat a ((k + 1 : Nat) : Int) = nat b ((k + 1 : Nat) : Int))) false := rfl
    rw [e]
    have ek : ((k + 1 : Nat) : Int) - 1 = (k : Nat) := by omega
    by_cases c : nat b ((k + 1 : Nat) : Int) = nat b (k : Nat)
    · rw [if_pos c]
      refine ⟨fun _ => ?_, fun h => absurd (fun z => absurd c.symm z) h⟩
      show some _ = some (Sta.mk (nat b ((k + 1 : Nat) : Int)) (stayB a b (k + 1)) 0 false)
      have s1 : stayB a b (k + 1) = (stayB a b k || decide (nat a ((k + 1 : Nat) : Int) = nat b ((k + 1 : Nat) : Int))) := by
        show (if nat b ((k + 1 : Nat) : Int) = nat b (k : Nat) then _ else _) = _
        rw [if_pos c]
      rw [s1, Bool.not_not, c]
    · rw [if_neg c]
      unfold partN
      dsimp only
      rw [ek]
      refine ⟨fun h => ?_, fun h => ?_⟩
      · obtain ⟨h1, h2, h3⟩ := h fun z => c z.symm
        rw [if_neg (by
          rintro (z | z | z)
          · rw [h3] at z; cases z
          · exact h1 z
          · exact z (dec_iff.mpr h2)), if_neg (by rintro ⟨z, _⟩; cases z)]
        show some _ = some (Sta.mk (nat b ((k + 1 : Nat) : Int)) (stayB a b (k + 1)) 0 false)
        have s1 : stayB a b (k + 1) = decide (nat a ((k + 1 : Nat) : Int) = nat b ((k + 1 : Nat) : Int)) := by
          show (if nat b ((k + 1 : Nat) : Int) = nat b (k : Nat) then _ else _) = _
          rw [if_neg c]
        rw [s1, Bool.not_not]
        rfl
      · rw [if_pos]
        by_cases z1 : stayB a b k = false
        · exact .inl z1
        · by_cases z2 : nat a (k : Nat) = nat a ((k + 1 : Nat) : Int)
          · exact .inr (.inl z2)
          · refine .inr (.inr fun z => h fun _ => ⟨z2, dec_iff.mp z, ?_⟩)
            cases e2 : stayB a b k with
            | true => rfl
            | false => exact absurd e2 z1
theorem opt_flag {a : List Int} {p x : Int} {c : Bool} (h : (x, c) ∈ optA a p) : c = !decide (nat a p = x) := by
  rcases optA_mem.mp h with ⟨rfl, rfl⟩ | ⟨rfl, _, ⟨_, h⟩ | ⟨_, h⟩⟩
  · simp
  · rw [decide_eq_false (by omega)]; rfl
  · rw [decide_eq_false (by omega)]; rfl
theorem drop_at {b : List Int} {k : Nat} (h : k < b.length) : b.drop k = nat b k :: b.drop (k + 1) := by
  rw [List.drop_eq_getElem_cons h]
  congr 1
  unfold nat
  rw [Int.toNat_natCast, List.getElem?_eq_getElem h]; rfl
theorem row_path {a b : List Int} : ∀ (r k : Nat), k + r = b.length → (b.drop k ∈ rowF a (optA a) false r k (stAt a b k) ↔ (∀ p, k ≤ p → p < b.length → OptOk a b p ∧ StepOk a b p) ∧ accB (stAt a b b.length) = true)
  | 0, k, h => by
    have e : k = b.length := by omega
    subst e
    rw [List.drop_length]
    show [] ∈ (if accB (stAt a b b.length) then [[]] else []) ↔ _
    constructor
    · intro hm
      refine ⟨fun p h1 h2 => absurd h1 (by omega), ?_⟩
      by_cases z : accB (stAt a b b.length) = true
      · exact z
      · rw [if_neg z] at hm; cases hm
    · intro ⟨_, z⟩
      rw [if_pos z]; exact List.mem_singleton.mpr rfl
  | r + 1, k, h => by
    have hk : k < b.length := by omega
    have ih := row_path (a := a) (b := b) r (k + 1) (by omega)
    rw [drop_at hk]
    have rs : rowF a (optA a) false (r + 1) k (stAt a b k) = (nxL a (optA a k) k (stAt a b k) false).flatMap fun t => (rowF a (optA a) false r ((k + 1 : Nat) : Int) (some t)).map (t.num :: ·) := rfl
    rw [rs, List.mem_flatMap]
    obtain ⟨n1, n2⟩ := nx_at (a := a) (b := b) k
    constructor
    · rintro ⟨t, ht, hm⟩
      obtain ⟨c, hc, e⟩ := List.mem_map.mp hm
      injection e with e1 e2
      subst e2
      obtain ⟨o, ho, hn⟩ := List.mem_filterMap.mp ht
      have en := nx_num hn
      obtain ⟨x, f⟩ := o
      have ex : x = nat b k := by rw [← e1, en]
      subst ex
      have ef := opt_flag ho
      subst ef
      have so : StepOk a b k := by
        by_cases z : StepOk a b k
        · exact z
        · rw [n2 z] at hn; cases hn
      rw [n1 so] at hn
      rw [← hn] at hc
      obtain ⟨i1, i2⟩ := ih.mp hc
      refine ⟨fun p h1 h2 => ?_, i2⟩
      by_cases e : p = k
      · subst e; exact ⟨ho, so⟩
      · exact i1 p (by omega) h2
    · intro ⟨h1, h2⟩
      obtain ⟨ho, so⟩ := h1 k (Nat.le_refl _) hk
      have hm := ih.mpr ⟨fun p h3 h4 => h1 p (by omega) h4, h2⟩
      exact ⟨⟨nat b (k : Nat), stayB a b k, 0, false⟩, List.mem_filterMap.mpr ⟨_, ho, n1 so⟩, List.mem_map.mpr ⟨_, hm, rfl⟩⟩
/-- somebody of the run up to k stayed -/
theorem stay_iff {a b : List Int} : ∀ (k : Nat), stayB a b k = true ↔ ∃ q : Nat, q ≤ k ∧ nat a (q : Nat) = nat b (q : Nat) ∧ ∀ r : Nat, q ≤ r → r ≤ k → nat b (r : Nat) = nat b (k : Nat)
  | 0 => by
    unfold stayB
    rw [decide_eq_true_eq]
    constructor
    · intro h; exact ⟨0, Nat.le_refl 0, h, fun r h1 h2 => by rw [show r = 0 by omega]⟩
    · rintro ⟨q, h1, h2, _⟩
      rw [show q = 0 by omega] at h2; exact h2
  | k + 1 => by
    have ih := stay_iff (a := a) (b := b) k
    show (if nat b ((k + 1 : Nat) : Int) = nat b (k : Nat) then _ else _) = true ↔ _
    by_cases c : nat b ((k + 1 : Nat) : Int) = nat b (k : Nat)
    · rw [if_pos c, Bool.or_eq_true, decide_eq_true_eq, ih]
      constructor
      · rintro (⟨q, h1, h2, h3⟩ | h)
        · refine ⟨q, by omega, h2, fun r h4 h5 => ?_⟩
          by_cases e : r = k + 1
          · rw [e]
          · rw [c]; exact h3 r h4 (by omega)
        · exact ⟨k + 1, Nat.le_refl _, h, fun r h1 h2 => by rw [show r = k + 1 by omega]⟩
      · rintro ⟨q, h1, h2, h3⟩
        by_cases e : q = k + 1
        · subst e; exact .inr h2
        · refine .inl ⟨q, by omega, h2, fun r h4 h5 => ?_⟩
          rw [h3 r h4 (by omega), c]
    · rw [if_neg c, decide_eq_true_eq]
      constructor
      · intro h; exact ⟨k + 1, Nat.le_refl _, h, fun r h1 h2 => by rw [show r = k + 1 by omega]⟩
      · rintro ⟨q, h1, h2, h3⟩
        by_cases e : q = k + 1
        · subst e; exact h2
        · exact absurd (h3 k (by omega) (by omega)).symm c
theorem nat_mem {a : List Int} {p : Int} (h0 : 0 ≤ p) (h1 : p < a.length) : nat a p ∈ a := by
  unfold nat
  have : p.toNat < a.length := by omega
  rw [List.getElem?_eq_getElem this]
  exact List.getElem_mem this
theorem keep_path {a b : List Int} (hl : b.length = a.length) : Keep a b ↔ (∀ p, 0 ≤ p → p < b.length → OptOk a b p ∧ StepOk a b p) ∧ accB (stAt a b b.length) = true := by
  constructor
  · intro h
    have stay : ∀ k : Nat, k < a.length → (k + 1 = a.length ∨ nat b ((k + 1 : Nat) : Int) ≠ nat b (k : Nat)) → stayB a b k = true := fun k hk hn => by
      obtain ⟨q, q0, q1, qs, qr⟩ := h.run k (by omega) (by omega)
      have hq : q ≤ k := by
        by_cases z : q ≤ k
        · exact z
        · rcases hn with hn | hn
          · omega
          · exact absurd (qr ((k + 1 : Nat) : Int) (by unfold Btw; omega)) hn
      refine (stay_iff k).mpr ⟨q.toNat, by omega, by rw [show ((q.toNat : Nat) : Int) = q by omega]; exact qs, fun r h1 h2 => qr r (by unfold Btw; omega)⟩
    refine ⟨fun p _ hp => ⟨?_, ?_⟩, ?_⟩
    · unfold OptOk
      rw [optA_mem]
      rcases h.chg p (by omega) (by omega) with c | ⟨t, c⟩ | ⟨t, c⟩
      · exact .inl ⟨by rw [decide_eq_true c]; rfl, c.symm⟩
      · obtain ⟨q, q0, q1, qs, qr⟩ := h.run p (by omega) (by omega)
        have hb : nat b p ∈ a := by
          have : nat b q = nat b p := qr q (by unfold Btw; omega)
          rw [← this, ← qs]; exact nat_mem q0 q1
        exact .inr ⟨by rw [decide_eq_false (by omega)]; rfl, hb, .inl ⟨t, c⟩⟩
      · obtain ⟨q, q0, q1, qs, qr⟩ := h.run p (by omega) (by omega)
        have hb : nat b p ∈ a := by
          have : nat b q = nat b p := qr q (by unfold Btw; omega)
          rw [← this, ← qs]; exact nat_mem q0 q1
        exact .inr ⟨by rw [decide_eq_false (by omega)]; rfl, hb, .inr ⟨t, c⟩⟩
    · cases p with
      | zero => exact True.intro
      | succ k =>
        intro hn
        have o := h.ord k (by omega) (by omega)
        rw [show (k : Int) + 1 = ((k + 1 : Nat) : Int) by omega] at o
        exact ⟨by omega, by omega, stay k (by omega) (.inr fun z => hn z.symm)⟩
    · rw [hl]
      cases e : a.length with
      | zero => rfl
      | succ k => exact stay k (by omega) (.inl e.symm)
  · intro ⟨h1, h2⟩
    refine ⟨hl, fun p p0 p1 => ?_, fun p p0 p1 => ?_, fun p p0 p1 => ?_⟩
    · obtain ⟨ho, _⟩ := h1 p.toNat (Nat.zero_le _) (by omega)
      unfold OptOk at ho
      rw [show ((p.toNat : Nat) : Int) = p by omega] at ho
      rcases optA_mem.mp ho with ⟨_, z⟩ | ⟨_, _, z | z⟩
      · exact .inl z.symm
      · exact .inr (.inl z)
      · exact .inr (.inr z)
    · obtain ⟨_, so⟩ := h1 (p.toNat + 1) (Nat.zero_le _) (by omega)
      have so : PartOk a b p.toNat := so
      unfold PartOk at so
      rw [show ((p.toNat + 1 : Nat) : Int) = p + 1 by omega, show ((p.toNat : Nat) : Int) = p by omega] at so
      by_cases e : nat b p = nat b (p + 1)
      · omega
      · have := so e; omega
    · -- the end of the run of p
      have go : ∀ (m k : Nat), k + m + 1 = a.length → ∃ e : Nat, k ≤ e ∧ e < a.length ∧ stayB a b e = true ∧ ∀ r : Nat, k ≤ r → r ≤ e → nat b (r : Nat) = nat b (k : Nat) := by
        intro m
        induction m with
        | zero =>
          intro k hk
          refine ⟨k, Nat.le_refl _, by omega, ?_, fun r h3 h4 => by rw [show r = k by omega]⟩
          rw [hl, show a.length = k + 1 by omega] at h2
          exact h2
        | succ m ih =>
          intro k hk
          by_cases c : nat b (k : Nat) = nat b ((k + 1 : Nat) : Int)
          · obtain ⟨e, h3, h4, h5, h6⟩ := ih (k + 1) (by omega)
            refine ⟨e, by omega, h4, h5, fun r h7 h8 => ?_⟩
            by_cases e2 : r = k
            · rw [e2]
            · rw [h6 r (by omega) h8, c]
          · obtain ⟨_, so⟩ := h1 (k + 1) (Nat.zero_le _) (by omega)
            exact ⟨k, Nat.le_refl _, by omega, (so c).2.2, fun r h3 h4 => by rw [show r = k by omega]⟩
      obtain ⟨e, h3, h4, h5, h6⟩ := go (a.length - 1 - p.toNat) p.toNat (by omega)
      obtain ⟨q, g1, g2, g3⟩ := (stay_iff e).mp h5
      refine ⟨q, by omega, by omega, g2, fun r hr => ?_⟩
      have ep : ((p.toNat : Nat) : Int) = p := by omega
      have he : nat b (e : Nat) = nat b p := by rw [← ep]; exact h6 e h3 (Nat.le_refl _)
      have r0 : 0 ≤ r := by unfold Btw at hr; omega
      have er : ((r.toNat : Nat) : Int) = r := by omega
      rw [← er]
      by_cases c : r.toNat ≤ e ∧ p.toNat ≤ r.toNat
      · rw [h6 r.toNat c.2 c.1, ep]
      · rw [g3 r.toNat (by unfold Btw at hr; omega) (by unfold Btw at hr; omega), he]
theorem row_keep {a b : List Int} : b ∈ rowF a (optA a) false a.length 0 none ↔ Keep a b := by
  constructor
  · intro h
    have hl : b.length = a.length := row_each h
    refine (keep_path hl).mpr ?_
    have := (row_path (a := a) (b := b) a.length 0 (by omega)).mp (by rw [List.drop_zero]; exact h)
    exact this
  · intro h
    have hl := h.len
    have := (row_path (a := a) (b := b) a.length 0 (by omega)).mpr ((keep_path hl).mp h)
    rw [List.drop_zero] at this
    exact this
end DL
namespace DL
open PySem L2
theorem lc_emb {α : Type} {vs : List Nat} {k : GG} {t : GT} {e : GE} {ρ : Rho} {emb out : α → D} (p : α → Bool) : ∀ {as : List α}, (∀ a ∈ as, ∃ ρ1, k (emb a) ρ = some ρ1 ∧ wipeR ρ1 vs = ρ ∧ t ρ1 = .ok (p a) ρ1 ∧ (p a = true → e ρ1 = .ok (out a) ρ1)) → lcL vs k t e (as.map emb) ρ = .ok ((as.filter p).map out) ρ
  | [], _ => rfl
  | a :: as, h => by
    obtain ⟨ρ1, e1, ew, et, ee⟩ := h a List.mem_cons_self
    have ih := lc_emb (as := as) p fun x hx => h x (List.mem_cons_of_mem _ hx)
    rw [List.map_cons]
    unfold lcL
    rw [e1]
    dsimp only
    cases hp : p a with
    | true => rw [et, R.ok_bind, hp, if_pos rfl, ee hp, R.ok_bind, ew, ih, List.filter_cons, if_pos hp]; rfl
    | false => rw [et, R.ok_bind, hp, if_neg Bool.false_ne_true, ew, ih, List.filter_cons, if_neg (by rw [hp]; simp)]
theorem lc_emb1 {α : Type} {vs : List Nat} {k : GG} {e : GE} {ρ : Rho} {emb out : α → D} {as : List α} (h : ∀ a ∈ as, ∃ ρ1, k (emb a) ρ = some ρ1 ∧ wipeR ρ1 vs = ρ ∧ e ρ1 = .ok (out a) ρ1) : lcL vs k gYes e (as.map emb) ρ = .ok (as.map out) ρ := by
  have := lc_emb (vs := vs) (k := k) (t := gYes) (e := e) (ρ := ρ) (emb := emb) (out := out) (fun _ => true) (as := as) fun a ha => by
    obtain ⟨ρ1, e1, e2, e3⟩ := h a ha
    exact ⟨ρ1, e1, e2, rfl, fun _ => e3⟩
  rw [this, List.filter_eq_self.mpr fun _ _ => rfl]
end DL
namespace DL
open PySem L2
open PySem.W (dataLe AllAlike Sortable alike alikeAll dataLt)
def rowD (b : List Int) : D := .tuple (b.map .int)
end DL
namespace DL
open PySem PySem.Spec PyProof.Rows L2
section
variable {X : Cx} {K : PySem.W.Frag} {Wx : WX} {ta tb te td : TE} {tas : TA}
theorem ds_par3N {i j l : Nat} {gn : Rho → R (List Nw)} (h : DNP K tas gn) (h0 : ∀ k ∈ [i, j, l], k ≠ 0 := by decide) : DS K Wx (tPar3 i j l tas) (sTupN [i, j, l] gn) := fun b0 B Z0 Z H σ ρ E ok s => by
  obtain ⟨ns, ρ1, e1, s⟩ := Sat.to s
  split at s
  · rename_i hl
    refine h b0 B Z0 Z H σ ρ ns ρ1 _ ok e1 fun vs H1 Z1 qs ok1 s1 r1 => ?_
    have lv : vs.length = 3 := r1.len.trans hl
    match vs, lv, r1 with
    | [u, v, w], _, r1 => exact ⟨u, v, w, rfl, s _ _ Z1 (Ok.setN ok1 r1 h0 hl.symm)⟩
  · exact s.elim
end
end DL
namespace DL
open PySem L2
def insS (l : List Stt) (x : Stt) : List Stt := if x ∈ l then l else l ++ [x]
theorem ins_mem {l : List Stt} {x y : Stt} : y ∈ insS l x ↔ y ∈ l ∨ y = x := by
  unfold insS
  split
  · exact ⟨.inl, fun h => h.elim id fun e => by rw [e]; assumption⟩
  · rw [List.mem_append, List.mem_singleton]
section
variable {a : List Int} {ops : Int → List Opt} {calm : Bool}
theorem sub_len {α : Type} [DecidableEq α] : ∀ {l m : List α}, l.Nodup → (∀ x ∈ l, x ∈ m) → l.length ≤ m.length
  | [], m, _, _ => Nat.zero_le _
  | x :: l, m, hn, h => by
    have hn := List.nodup_cons.mp hn
    have hx := h x List.mem_cons_self
    have := sub_len (l := l) (m := m.erase x) hn.2 fun y hy => (List.mem_erase_of_ne (fun e => hn.1 (by rw [← e]; exact hy))).mpr (h y (List.mem_cons_of_mem _ hy))
    rw [List.length_erase_of_mem hx] at this
    have : 0 < m.length := List.length_pos_of_mem hx
    rw [List.length_cons]; omega
end
end DL
namespace DL
open PySem L2
def folR (a : List Int) : List (List Int) := rowF a (optA a) false a.length 0 none
theorem fol_mem {a b : List Int} : b ∈ folR a ↔ Keep a b := row_keep
theorem fol_nodup (a : List Int) : (folR a).Nodup := row_nodup (fun p => optA_asc a p) ..
theorem fol_asc (a : List Int) : (folR a).Pairwise (· < ·) := row_asc (fun p => optA_asc a p) ..
def dst (a b : List Int) : Nat := (cgL a b).length
theorem dst_self (a : List Int) : dst a a = 0 := by
  unfold dst
  rw [(cg_nil rfl).mpr rfl]; rfl
theorem dst_zero {a b : List Int} (h : Keep a b) (hd : dst a b = 0) : b = a := ((cg_nil h.len).mp (List.length_eq_zero_iff.mp hd)).symm
/-- what has been found: all rows of at most i calls; and the layer: those of i calls -/
structure Lay (a : List Int) (i : Nat) (acc lay : List (List Int)) : Prop where
  nd : acc.Nodup
  inn : ∀ b, b ∈ acc ↔ Keep a b ∧ dst a b ≤ i
  last : ∀ b, b ∈ lay ↔ Keep a b ∧ dst a b = i
theorem Lay.start (a : List Int) : Lay a 0 [a] [a] where
  nd := List.pairwise_singleton _ a
  inn := fun b => by
    rw [List.mem_singleton]
    exact ⟨fun h => by rw [h]; exact ⟨Keep.refl a, Nat.le_of_eq (dst_self a)⟩, fun ⟨h1, h2⟩ => dst_zero h1 (by omega)⟩
  last := fun b => by
    rw [List.mem_singleton]
    exact ⟨fun h => by rw [h]; exact ⟨Keep.refl a, dst_self a⟩, fun ⟨h1, h2⟩ => dst_zero h1 h2⟩
/-- a call of one of the layer -/
theorem Lay.call {a c : List Int} {i : Nat} {acc lay : List (List Int)} {p : Int} (h : Lay a i acc lay) (hc : c ∈ lay) (h0 : 0 < p) (h1 : p + 1 < a.length) (hn : callN c p ∉ acc) : Keep a (callN c p) ∧ dst a (callN c p) = i + 1 := by
  obtain ⟨k, hd⟩ := (h.last c).mp hc
  have k2 := k.call (i := p) (by omega) (by omega)
  refine ⟨k2, ?_⟩
  by_cases e : callN c p = c
  · exact absurd ((h.inn _).mpr ⟨k2, by rw [e]; omega⟩) hn
  · have := (k.more1 (i := p) (by omega) (by omega) e).1
    unfold dst at hd ⊢
    omega
end DL
namespace DL
open PySem L2
def Rest (b : List Int) : Prop := ∀ p : Int, ¬ IsT b p ∧ ¬ IsD b p
end DL
namespace DL
open PySem L2
/-- somebody at p or to the left stayed, and all from there to p are equal -/
def Lft (a b : List Int) (p : Int) : Prop := ∃ q : Int, 0 ≤ q ∧ q ≤ p ∧ nat a q = nat b q ∧ ∀ r : Int, q ≤ r → r ≤ p → nat b r = nat b p
/-- one step to the left within the run -/
theorem Lft.step {a b : List Int} {p : Int} (h : Lft a b p) (hn : nat a p ≠ nat b p) : 0 ≤ p - 1 ∧ nat b (p - 1) = nat b p ∧ Lft a b (p - 1) := by
  obtain ⟨q, q0, q1, qs, qr⟩ := h
  have ne : q ≠ p := fun z => hn (by rw [← z]; exact qs)
  have e := qr (p - 1) (by omega) (by omega)
  exact ⟨by omega, e, q, q0, by omega, qs, fun r h1 h2 => by rw [e]; exact qr r h1 (by omega)⟩
theorem Keep.end0 {a b : List Int} (h : Keep a b) {p : Int} (h0 : 0 ≤ p) (h1 : p < a.length) (he : p = 0 ∨ p + 1 = a.length) : nat a p = nat b p := by
  rcases h.chg p h0 h1 with z | ⟨t, _⟩ | ⟨t, _⟩
  · exact z
  · have := t.1; have := t.2.1; omega
  · have := t.1; have := t.2.1; omega
end DL
namespace DL
open PySem PySem.Spec PyProof.Rows L2
end DL
namespace DL
open PySem L2
end DL
namespace DL
abbrev OP := Int × Int × Bool × Bool
def lefts (ops : List OP) : List Int := (ops.filter fun x => x.2.2.1).map (·.1)
def rights (ops : List OP) : List Int := (ops.filter fun x => x.2.2.2).map (·.2.1)
def ncL (ops : List OP) : List Int := srtU (lefts ops ++ rights ops)
def wo1 (p : Int) (x : OP) : List OP :=
  if p = x.1 ∧ x.2.2.1 = true then (if x.1 + 1 ≤ x.2.1 then [(x.1 + 1, x.2.1, true, x.2.2.2)] else [])
  else if p = x.2.1 ∧ x.2.2.2 = true then (if x.1 ≤ x.2.1 - 1 then [(x.1, x.2.1 - 1, x.2.2.1, true)] else [])
  else if x.1 ≤ x.2.1 then [x] else []
def woL (ops : List OP) (p : Int) : List OP := ops.flatMap (wo1 p)
theorem wo_off {p : Int} {x : OP} (h : p < x.1 ∨ x.2.1 < p) (hx : x.1 ≤ x.2.1) : wo1 p x = [x] := by
  unfold wo1
  rw [if_neg (by intro z; omega), if_neg (by intro z; omega), if_pos hx]
theorem wo_offs {p : Int} : ∀ {ops : List OP}, (∀ x ∈ ops, (p < x.1 ∨ x.2.1 < p) ∧ x.1 ≤ x.2.1) → woL ops p = ops
  | [], _ => rfl
  | x :: ops, h => by
    unfold woL
    rw [List.flatMap_cons, wo_off (h x List.mem_cons_self).1 (h x List.mem_cons_self).2]
    have ih := wo_offs (p := p) (ops := ops) fun y hy => h y (List.mem_cons_of_mem _ hy)
    unfold woL at ih
    rw [ih]; rfl
theorem wo_app (ops more : List OP) (p : Int) : woL (ops ++ more) p = woL ops p ++ woL more p := List.flatMap_append
def factN : Nat → Nat
  | 0 => 1
  | n + 1 => (n + 1) * factN n
def szO (x : OP) : Nat := (x.2.1 + 1 - x.1).toNat
def totN (ops : List OP) : Nat := (ops.map szO).sum
def pfN : List OP → Nat
  | [] => 1
  | x :: ops => factN (szO x) * pfN ops
theorem totN_cons (x : OP) (ops : List OP) : totN (x :: ops) = szO x + totN ops := List.sum_cons
theorem totN_app (a b : List OP) : totN (a ++ b) = totN a + totN b := by unfold totN; rw [List.map_append, List.sum_append]
structure GdO (ops : List OP) : Prop where
  le : ∀ x ∈ ops, x.1 ≤ x.2.1
  op : ∀ x ∈ ops, x.2.2.1 = true ∨ x.2.2.2 = true
  pw : ops.Pairwise fun x y => x.2.1 < y.1
def stO (x : OP) : List Int := (if x.2.2.1 then [x.1] else []) ++ (if x.2.2.2 && !(x.2.2.1 && decide (x.1 = x.2.1)) then [x.2.1] else [])
theorem stO_mem {x : OP} (hle : x.1 ≤ x.2.1) {p : Int} : p ∈ stO x ↔ (p = x.1 ∧ x.2.2.1 = true) ∨ (p = x.2.1 ∧ x.2.2.2 = true) := by
  obtain ⟨f, l, L, R⟩ := x
  unfold stO
  dsimp only
  cases L <;> cases R <;> simp
  by_cases e : f = l
  · simp [e]
  · simp [e]
theorem stO_asc {x : OP} (hle : x.1 ≤ x.2.1) : (stO x).Pairwise (· < ·) := by
  obtain ⟨f, l, L, R⟩ := x
  unfold stO
  dsimp only at *
  cases L <;> cases R <;> simp
  by_cases e : f = l
  · simp [e]
  · simp [e]; omega
theorem nc_flat {ops : List OP} (h : GdO ops) : ncL ops = ops.flatMap stO := by
  refine asc_unique asc_srtU ?_ fun p => ?_
  · have : ∀ (ops : List OP), (∀ x ∈ ops, x.1 ≤ x.2.1) → ops.Pairwise (fun x y => x.2.1 < y.1) → (ops.flatMap stO).Pairwise (· < ·) := by
      intro ops
      induction ops with
      | nil => intro _ _; exact .nil
      | cons x ops ih =>
        intro h1 h2
        obtain ⟨a1, a2⟩ := List.pairwise_cons.mp h2
        rw [List.flatMap_cons]
        refine List.pairwise_append.mpr ⟨stO_asc (h1 x List.mem_cons_self), ih (fun y hy => h1 y (List.mem_cons_of_mem _ hy)) a2, fun p hp q hq => ?_⟩
        obtain ⟨y, hy, hq⟩ := List.mem_flatMap.mp hq
        have := a1 y hy
        have l1 := h1 x List.mem_cons_self
        have l2 := h1 y (List.mem_cons_of_mem _ hy)
        rcases (stO_mem l1).mp hp with z | z <;> rcases (stO_mem l2).mp hq with w | w <;> omega
    exact this ops h.le h.pw
  · unfold ncL
    rw [mem_srtU, List.mem_append, List.mem_flatMap]
    unfold lefts rights
    rw [List.mem_map, List.mem_map]
    constructor
    · rintro (⟨x, hx, rfl⟩ | ⟨x, hx, rfl⟩)
      · obtain ⟨h1, h2⟩ := List.mem_filter.mp hx
        exact ⟨x, h1, (stO_mem (h.le x h1)).mpr (.inl ⟨rfl, h2⟩)⟩
      · obtain ⟨h1, h2⟩ := List.mem_filter.mp hx
        exact ⟨x, h1, (stO_mem (h.le x h1)).mpr (.inr ⟨rfl, h2⟩)⟩
    · rintro ⟨x, hx, hp⟩
      rcases (stO_mem (h.le x hx)).mp hp with ⟨rfl, z⟩ | ⟨rfl, z⟩
      · exact .inl ⟨x, List.mem_filter.mpr ⟨hx, z⟩, rfl⟩
      · exact .inr ⟨x, List.mem_filter.mpr ⟨hx, z⟩, rfl⟩
/-- one part after a call -/
theorem wo1_one {x : OP} {p : Int} (hle : x.1 ≤ x.2.1) (hp : p ∈ stO x) : totN (wo1 p x) + 1 = szO x ∧ pfN (wo1 p x) * szO x = factN (szO x) ∧ (∀ y ∈ wo1 p x, y.1 ≤ y.2.1 ∧ (y.2.2.1 = true ∨ y.2.2.2 = true) ∧ x.1 ≤ y.1 ∧ y.2.1 ≤ x.2.1) ∧ (wo1 p x).length ≤ 1 := by
  obtain ⟨f, l, L, R⟩ := x
  have key : ∀ (f l f' l' : Int) (c : Prop) [Decidable c] (y : OP), y.1 = f' → y.2.1 = l' → l' - f' + 1 = l - f → (c ↔ f' ≤ l') → f ≤ l → f ≤ f' → l' ≤ l → (y.2.2.1 = true ∨ y.2.2.2 = true) → totN (if c then [y] else []) + 1 = (l + 1 - f).toNat ∧ pfN (if c then [y] else []) * (l + 1 - f).toNat = factN (l + 1 - f).toNat ∧ (∀ z ∈ (if c then [y] else []), z.1 ≤ z.2.1 ∧ (z.2.2.1 = true ∨ z.2.2.2 = true) ∧ f ≤ z.1 ∧ z.2.1 ≤ l) ∧ (if c then [y] else []).length ≤ 1 := by
    intro f l f' l' c _ y e1 e2 e3 hc hle h1 h2 h3
    by_cases d : c
    · rw [if_pos d]
      have hs : szO y + 1 = (l + 1 - f).toNat := by
        unfold szO
        have := hc.mp d
        rw [e1, e2]; omega
      refine ⟨by rw [totN_cons]; show szO y + 0 + 1 = _; omega, ?_, fun z hz => ?_, Nat.le_refl 1⟩
      · show factN (szO y) * 1 * _ = _
        rw [← hs]
        show factN (szO y) * 1 * (szO y + 1) = (szO y + 1) * factN (szO y)
        rw [Nat.mul_one, Nat.mul_comm]
      · rw [List.mem_singleton.mp hz, e1, e2]
        exact ⟨hc.mp d, h3, h1, h2⟩
    · rw [if_neg d]
      have hs : (l + 1 - f).toNat = 1 := by
        have hn : ¬ f' ≤ l' := fun z => d (hc.mpr z)
        omega
      rw [hs]
      exact ⟨rfl, rfl, fun z hz => (nomatch hz), Nat.zero_le _⟩
  unfold wo1 szO
  dsimp only at *
  have hp := (stO_mem (x := (f, l, L, R)) hle).mp hp
  dsimp only at hp
  by_cases c1 : p = f ∧ L = true
  · rw [if_pos c1]
    exact key f l (f + 1) l _ _ rfl rfl (by omega) Iff.rfl hle (by omega) (by omega) (.inl rfl)
  · rw [if_neg c1]
    have c2 : p = l ∧ R = true := by
      rcases hp with z | z
      · exact absurd z c1
      · exact z
    rw [if_pos c2]
    exact key f l f (l - 1) _ _ rfl rfl (by omega) Iff.rfl hle (by omega) (by omega) (.inr rfl)
theorem GdO.split {pre post : List OP} {x : OP} (h : GdO (pre ++ x :: post)) {p : Int} (hp : p ∈ stO x) : woL (pre ++ x :: post) p = pre ++ (wo1 p x ++ post) ∧ GdO (pre ++ (wo1 p x ++ post)) := by
  have hx : x ∈ pre ++ x :: post := by simp
  have hle := h.le x hx
  obtain ⟨_, _, h3, h4⟩ := wo1_one hle hp
  have hpx : x.1 ≤ p ∧ p ≤ x.2.1 := by
    rcases (stO_mem hle).mp hp with z | z <;> omega
  obtain ⟨w1, w2, w3⟩ := List.pairwise_append.mp h.pw
  obtain ⟨w4, w5⟩ := List.pairwise_cons.mp w2
  refine ⟨?_, ⟨fun y hy => ?_, fun y hy => ?_, ?_⟩⟩
  · rw [wo_app, wo_offs (ops := pre) fun y hy => ⟨.inr (by have := w3 y hy x List.mem_cons_self; omega), h.le y (List.mem_append_left _ hy)⟩]
    show pre ++ (wo1 p x ++ woL post p) = _
    rw [wo_offs (ops := post) fun y hy => ⟨.inl (by have := w4 y hy; omega), h.le y (List.mem_append_right _ (List.mem_cons_of_mem _ hy))⟩]
  · rcases List.mem_append.mp hy with z | z
    · exact h.le y (List.mem_append_left _ z)
    · rcases List.mem_append.mp z with z | z
      · exact (h3 y z).1
      · exact h.le y (List.mem_append_right _ (List.mem_cons_of_mem _ z))
  · rcases List.mem_append.mp hy with z | z
    · exact h.op y (List.mem_append_left _ z)
    · rcases List.mem_append.mp z with z | z
      · exact (h3 y z).2.1
      · exact h.op y (List.mem_append_right _ (List.mem_cons_of_mem _ z))
  · refine List.pairwise_append.mpr ⟨w1, List.pairwise_append.mpr ⟨?_, w5, fun y hy z hz => ?_⟩, fun y hy z hz => ?_⟩
    · match e : wo1 p x, h4 with
      | [], _ => exact .nil
      | [y], _ => exact List.pairwise_singleton _ _
    · have := (h3 y hy).2.2.2
      have := w4 z hz
      omega
    · rcases List.mem_append.mp hz with q | q
      · have := (h3 z q).2.2.1
        have := w3 y hy x List.mem_cons_self
        omega
      · exact w3 y hy z (List.mem_cons_of_mem _ q)
theorem GdO.call {ops : List OP} (h : GdO ops) {p : Int} (hp : p ∈ ncL ops) : GdO (woL ops p) ∧ totN (woL ops p) + 1 = totN ops := by
  rw [nc_flat h] at hp
  obtain ⟨x, hx, hq⟩ := List.mem_flatMap.mp hp
  obtain ⟨pre, post, rfl⟩ := List.append_of_mem hx
  obtain ⟨e, g⟩ := h.split hq
  obtain ⟨h1, _⟩ := wo1_one (h.le x hx) hq
  rw [e]
  refine ⟨g, ?_⟩
  rw [totN_app, totN_app, totN_app, totN_cons]
  omega
end DL
namespace DL
open PySem L2
open PySem.W (alike alikeAll dataLt)
end DL
namespace DL
open PySem L2
theorem Keep.trans {a b c : List Int} (h : Keep a b) (k : Keep b c) : Keep a c := by
  obtain ⟨tape, _, t2, t3⟩ := Keep.way _ k rfl
  have := h.more tape fun i hi => by have := t2 i hi; have := h.len; omega
  rw [t3] at this
  exact this
theorem Keep.rest {a b : List Int} (h : Keep a b) (r : Rest a) : b = a := by
  refine (row_eq h.len fun p h0 h1 => ?_).symm
  rcases h.chg p h0 h1 with e | ⟨t, _⟩ | ⟨t, _⟩
  · exact e
  · exact absurd t (r p).1
  · exact absurd t (r p).2
theorem fol_rest {a : List Int} (r : Rest a) : folR a = [a] := asc_rows (fol_asc a) (List.pairwise_singleton _ _) fun c => by
  rw [fol_mem, List.mem_singleton]
  exact ⟨fun h => h.rest r, fun h => by rw [h]; exact Keep.refl a⟩
end DL
namespace DL
open PySem L2
end DL
namespace DL
open PySem L2
end DL
namespace DL
open PySem PySem.Spec PyProof.Rows L2
end DL
namespace DL
open PySem L2
end DL
namespace DL
open PySem L2
theorem Keep.num {a b : List Int} (h : Keep a b) {p : Int} (h0 : 0 ≤ p) (h1 : p < a.length) : nat b p ∈ a := by
  obtain ⟨q, q0, q1, qs, qr⟩ := h.run p h0 h1
  have e := qr q (by unfold Btw; omega)
  rw [← e, ← qs]
  exact nat_mem q0 q1
/-- the numbers of a' and b' stand in the order of those of a and b -/
structure Sim (a b a' b' : List Int) : Prop where
  la : a'.length = a.length
  lb : b.length = a.length
  lb' : b'.length = a.length
  aa : ∀ p q : Int, 0 ≤ p → p < a.length → 0 ≤ q → q < a.length → (nat a p < nat a q ↔ nat a' p < nat a' q)
  ab : ∀ p q : Int, 0 ≤ p → p < a.length → 0 ≤ q → q < a.length → (nat a p < nat b q ↔ nat a' p < nat b' q)
  ba : ∀ p q : Int, 0 ≤ p → p < a.length → 0 ≤ q → q < a.length → (nat b p < nat a q ↔ nat b' p < nat a' q)
  bb : ∀ p q : Int, 0 ≤ p → p < a.length → 0 ≤ q → q < a.length → (nat b p < nat b q ↔ nat b' p < nat b' q)
end DL
namespace DL
open PySem L2
end DL
namespace DL
open PySem PySem.Spec PyProof.Rows L2
end DL
namespace DL
open PySem L2
/-- least and greatest for each state of l -/
structure Mm (Q : Int → Stt → Prop) (l : List Stt) (g : Stt → Int × Int) : Prop where
  lo : ∀ s ∈ l, Q (g s).1 s
  hi : ∀ s ∈ l, Q (g s).2 s
  inn : ∀ c s, Q c s → s ∈ l
  bnd : ∀ c s, Q c s → (g s).1 ≤ c ∧ c ≤ (g s).2
def updM (l : List Stt) (g : Stt → Int × Int) (x : Stt) (lo hi : Int) : Stt → Int × Int := fun y => if y = x then (min (if x ∈ l then (g x).1 else lo) lo, max (if x ∈ l then (g x).2 else hi) hi) else g y
theorem Mm.nil (g : Stt → Int × Int) : Mm (fun _ _ => False) [] g := ⟨fun _ h => (nomatch h), fun _ h => (nomatch h), fun _ _ h => h.elim, fun _ _ h => h.elim⟩
theorem Mm.put {Q : Int → Stt → Prop} {l : List Stt} {g : Stt → Int × Int} {R : Int → Prop} {x : Stt} {lo hi : Int} (h : Mm Q l g) (h1 : R lo) (h2 : R hi) (h3 : ∀ c, R c → lo ≤ c ∧ c ≤ hi) : Mm (fun c s => Q c s ∨ (s = x ∧ R c)) (insS l x) (updM l g x lo hi) where
  lo := fun s hs => by
    unfold updM
    by_cases e : s = x
    · subst e
      rw [if_pos rfl]
      by_cases m : s ∈ l
      · rw [if_pos m]
        show Q (min (g s).1 lo) s ∨ s = s ∧ R (min (g s).1 lo)
        by_cases c : (g s).1 ≤ lo
        · rw [Int.min_eq_left c]; exact .inl (h.lo s m)
        · rw [Int.min_eq_right (by omega)]; exact .inr ⟨rfl, h1⟩
      · rw [if_neg m]
        show Q (min lo lo) s ∨ s = s ∧ R (min lo lo)
        rw [Int.min_self]; exact .inr ⟨rfl, h1⟩
    · rw [if_neg e]
      exact .inl (h.lo s ((ins_mem.mp hs).resolve_right e))
  hi := fun s hs => by
    unfold updM
    by_cases e : s = x
    · subst e
      rw [if_pos rfl]
      by_cases m : s ∈ l
      · rw [if_pos m]
        show Q (max (if s ∈ l then (g s).2 else hi) hi) s ∨ s = s ∧ R (max (if s ∈ l then (g s).2 else hi) hi)
        rw [if_pos m]
        by_cases c : (g s).2 ≤ hi
        · rw [Int.max_eq_right c]; exact .inr ⟨rfl, h2⟩
        · rw [Int.max_eq_left (by omega)]; exact .inl (h.hi s m)
      · show Q (max (if s ∈ l then (g s).2 else hi) hi) s ∨ s = s ∧ R (max (if s ∈ l then (g s).2 else hi) hi)
        rw [if_neg m, Int.max_self]; exact .inr ⟨rfl, h2⟩
    · rw [if_neg e]
      exact .inl (h.hi s ((ins_mem.mp hs).resolve_right e))
  inn := fun c s q => ins_mem.mpr (q.elim (fun q => .inl (h.inn c s q)) fun q => .inr q.1)
  bnd := fun c s q => by
    unfold updM
    by_cases e : s = x
    · subst e
      rw [if_pos rfl]
      show min (if s ∈ l then (g s).1 else lo) lo ≤ c ∧ c ≤ max (if s ∈ l then (g s).2 else hi) hi
      rcases q with q | ⟨_, q⟩
      · rw [if_pos (h.inn c s q), if_pos (h.inn c s q)]
        have := h.bnd c s q
        omega
      · have := h3 c q
        omega
    · rw [if_neg e]
      exact h.bnd c s (q.resolve_right fun z => e z.1)
end DL
namespace DL
open PySem PySem.Spec PyProof.Rows PyProof.V L2
end DL
namespace DL
open PySem L2
end DL
namespace DL
open PySem PySem.Spec PyProof.Rows L2
open PySem.W (AlikeAll EachIs)
end DL
namespace DL
open PySem L2
open PySem.W (alike alikeAll dataLt minD)
end DL
namespace DL
open PySem PySem.Spec PyProof.Rows L2
end DL
namespace DL
open PySem L2
open PySem.W (alike alikeAll dataLt minD)
end DL
namespace DL
open PySem L2
end DL
namespace DL
open PySem PySem.Spec PyProof.Rows L2
end DL
namespace DL
open PySem L2
structure Calm (a : List Int) (p : Int) : Prop where
  td : DL.IsT a p ∨ DL.IsD a p
  l : ¬ DL.IsT a (p - 1) ∧ ¬ DL.IsD a (p - 1)
  r : ¬ DL.IsT a (p + 1) ∧ ¬ DL.IsD a (p + 1)
theorem Calm.in' {a : List Int} {p : Int} (c : Calm a p) : 0 < p ∧ p + 1 < a.length := by
  rcases c.td with t | t
  · exact ⟨t.1, t.2.1⟩
  · exact ⟨t.1, t.2.1⟩
theorem stay_if {a b : List Int} {q : Int} (h : Keep a b) (h0 : 0 ≤ q) (h1 : q < a.length) (n : ¬ DL.IsT a q ∧ ¬ DL.IsD a q) : nat b q = nat a q := by
  rcases h.chg q h0 h1 with c | c | c
  · exact c.symm
  · exact absurd c.1 n.1
  · exact absurd c.1 n.2
theorem Calm.nb {a b : List Int} {p : Int} (c : Calm a p) (h : Keep a b) : nat b (p - 1) = nat a (p - 1) ∧ nat b (p + 1) = nat a (p + 1) := by
  have := c.in'
  exact ⟨stay_if h (by omega) (by omega) c.l, stay_if h (by omega) (by omega) c.r⟩
theorem Calm.ne {a : List Int} {p : Int} (c : Calm a p) : midN a p ≠ nat a p := by
  have hin := c.in'
  intro z
  have e := (callN_iff (ns := a) (i := p) (by omega) (by omega)).mpr z
  rcases call_cases (b := a) (i := p) (by omega) (by omega) with h | h | h
  · have em : midN a p = mid3 (nat a (p - 1)) (nat a p) (nat a (p + 1)) := by unfold midN; rw [if_neg (by omega)]
    rcases c.td with t | t
    · have := mid3_top t.2.2.1 t.2.2.2
      have := t.2.2
      omega
    · have := mid3_dip t.2.2.1 t.2.2.2
      have := t.2.2
      omega
  · have := h.1.2.2
    have := h.2
    omega
  · have := h.1.2.2
    have := h.2
    omega
theorem Calm.mid {a b : List Int} {p : Int} (c : Calm a p) (h : Keep a b) (hp : nat b p = nat a p) : midN b p = midN a p := by
  have := c.nb h
  have hl := h.len
  unfold midN
  rw [hp, this.1, this.2, hl]
theorem Calm.two {a b : List Int} {p : Int} (c : Calm a p) (h : Keep a b) : nat b p = nat a p ∨ nat b p = midN a p := by
  have hin := c.in'
  have nb := c.nb h
  by_cases e : nat b p = nat a p
  · exact .inl e
  · right
    obtain ⟨q, q0, q1, qs, qr⟩ := h.run p (by omega) (by omega)
    have side : nat b p = nat b (p - 1) ∨ nat b p = nat b (p + 1) := by
      by_cases lt : q < p
      · exact .inl (qr (p - 1) (by unfold Btw; omega)).symm
      · by_cases eq : q = p
        · subst eq; exact absurd qs.symm e
        · exact .inr (qr (p + 1) (by unfold Btw; omega)).symm
    have cc := call_cases (b := a) (i := p) (by omega) (by omega)
    have ne := c.ne
    have nc : ¬ callN a p = a := fun z => ne ((callN_iff (by omega) (by omega)).mp z)
    rcases h.chg p (by omega) (by omega) with k | k | k
    · exact absurd k.symm e
    · obtain ⟨_, x1, x2⟩ := h.near_top k.1 k.2 (x := p + 1) (.inl rfl)
      obtain ⟨_, y1, y2⟩ := h.near_top k.1 k.2 (x := p - 1) (.inr rfl)
      have kt := k.1.2.2
      rcases cc with z | z | z
      · exact absurd z nc
      · have := z.2; omega
      · have := z.1.2.2; omega
    · obtain ⟨_, x1, x2⟩ := h.near_dip k.1 k.2 (x := p + 1) (.inl rfl)
      obtain ⟨_, y1, y2⟩ := h.near_dip k.1 k.2 (x := p - 1) (.inr rfl)
      have kt := k.1.2.2
      rcases cc with z | z | z
      · exact absurd z nc
      · have := z.1.2.2; omega
      · have := z.2; omega
theorem Calm.call {a b : List Int} {p : Int} (c : Calm a p) : Keep (callN a p) b ↔ Keep a b ∧ nat b p = midN a p := by
  have hin := c.in'
  constructor
  · intro h
    have k := ((Keep.refl a).call (by omega) (by omega : p < a.length)).trans h
    refine ⟨k, ?_⟩
    rcases c.two k with e | e
    · exfalso
      -- p can change no more
      have ln : (callN a p).length = a.length := ((Keep.refl a).call (by omega) (by omega : p < a.length)).len
      have np := nat_call (b := a) (i := p) (p := p) (by omega) (by omega) (by omega)
      rw [if_pos rfl] at np
      have nl := nat_call (b := a) (i := p) (p := p - 1) (by omega) (by omega) (by omega)
      rw [if_neg (by omega)] at nl
      have nr := nat_call (b := a) (i := p) (p := p + 1) (by omega) (by omega) (by omega)
      rw [if_neg (by omega)] at nr
      have ne := c.ne
      have nc : ¬ callN a p = a := fun z => ne ((callN_iff (by omega) (by omega)).mp z)
      have eqn : midN a p = nat a (p - 1) ∨ midN a p = nat a (p + 1) := by
        rcases call_cases (b := a) (i := p) (by omega) (by omega) with z | z | z
        · exact absurd z nc
        · exact z.2.1
        · exact z.2.1
      rcases h.chg p (by omega) (by omega) with z | z | z
      · omega
      · have := z.1.2.2; omega
      · have := z.1.2.2; omega
    · exact e
  · rintro ⟨h, e⟩
    have ne := c.ne
    have nc : ¬ callN a p = a := fun z => ne ((callN_iff (by omega) (by omega)).mp z)
    have cc := call_cases (b := a) (i := p) (by omega) (by omega)
    refine h.step (by omega) (by omega) (fun z => ne (by omega)) e.symm fun x hx => ⟨fun t => ?_, fun t => ?_⟩
    · have t' := t.2.2
      rcases cc with z | z | z
      · exact absurd z nc
      · rcases hx with rfl | rfl <;> omega
      · have := z.1.2.2; omega
    · have t' := t.2.2
      rcases cc with z | z | z
      · exact absurd z nc
      · have := z.1.2.2; omega
      · rcases hx with rfl | rfl <;> omega
theorem Calm.up {a b : List Int} {p : Int} (c : Calm a p) (h : Keep a b) (e : nat b p = midN a p) : Keep a (b.set p.toNat (nat a p)) := by
  have hin := c.in'
  have hl := h.len
  have nb := c.nb h
  have at' : ∀ q : Int, 0 ≤ q → nat (b.set p.toNat (nat a p)) q = if q = p then nat a p else nat b q := fun q q0 => by
    rw [nat_set q0]
    by_cases z : q = p
    · rw [if_pos ⟨by omega, by omega⟩, if_pos z]
    · rw [if_neg (fun y => z (by omega)), if_neg z]
  have chg' : ∀ q : Int, 0 ≤ q → q < a.length → nat a q = nat (b.set p.toNat (nat a p)) q ∨ (DL.IsT a q ∧ nat (b.set p.toNat (nat a p)) q < nat a q) ∨ (DL.IsD a q ∧ nat a q < nat (b.set p.toNat (nat a p)) q) := fun q q0 q1 => by
    rw [at' q q0]
    by_cases z : q = p
    · rw [if_pos z, z]; exact .inl rfl
    · rw [if_neg z]; exact h.chg q q0 q1
  refine ⟨by rw [List.length_set]; exact hl, chg', fun q q0 q1 => ?_, fun q q0 q1 => ?_⟩
  · rw [at' q q0, at' (q + 1) (by omega)]
    by_cases z : q = p
    · subst z
      rw [if_pos rfl, if_neg (by omega), nb.2]
      exact ⟨fun y => by omega, fun y => by omega, fun y => y⟩
    · by_cases z2 : q + 1 = p
      · rw [if_neg z, if_pos z2]
        have : q = p - 1 := by omega
        subst this
        rw [nb.1, show p - 1 + 1 = p by omega]
        exact ⟨fun y => by omega, fun y => by omega, fun y => y⟩
      · rw [if_neg z, if_neg z2]
        exact h.ord q q0 q1
  · by_cases z : q = p
    · subst z
      refine ⟨q, q0, q1, by rw [at' q q0, if_pos rfl], fun r hr => by rw [show r = q by unfold Btw at hr; omega]⟩
    · obtain ⟨t, t0, t1, ts, tr⟩ := h.run q q0 q1
      by_cases near : Btw q t p
      · -- the way there leads by p: the neighbour before p stayed
        by_cases side : q < p
        · refine ⟨p - 1, by omega, by omega, by rw [at' _ (by omega), if_neg (by omega)]; exact nb.1.symm, fun r hr => ?_⟩
          unfold Btw at hr near
          rw [at' r (by omega), if_neg (by omega), at' q q0, if_neg z]
          exact tr r (by unfold Btw; omega)
        · refine ⟨p + 1, by omega, by omega, by rw [at' _ (by omega), if_neg (by omega)]; exact nb.2.symm, fun r hr => ?_⟩
          unfold Btw at hr near
          rw [at' r (by omega), if_neg (by omega), at' q q0, if_neg z]
          exact tr r (by unfold Btw; omega)
      · have tp : t ≠ p := fun y => near (by unfold Btw; omega)
        refine ⟨t, t0, t1, by rw [at' t t0, if_neg tp]; exact ts, fun r hr => ?_⟩
        have rp : r ≠ p := fun y => near (by subst y; exact hr)
        have r0 : 0 ≤ r := by unfold Btw at hr; omega
        rw [at' r r0, if_neg rp, at' q q0, if_neg z]
        exact tr r hr
theorem nodup_map_on {α β : Type} {f : α → β} : ∀ {l : List α}, l.Nodup → (∀ x ∈ l, ∀ y ∈ l, f x = f y → x = y) → (l.map f).Nodup
  | [], _, _ => List.Pairwise.nil
  | x :: l, hn, h => by
    have hn := List.nodup_cons.mp hn
    rw [List.map_cons]
    refine List.nodup_cons.mpr ⟨fun z => ?_, nodup_map_on hn.2 fun y hy w hw => h y (List.mem_cons_of_mem _ hy) w (List.mem_cons_of_mem _ hw)⟩
    obtain ⟨y, hy, e⟩ := List.mem_map.mp z
    exact hn.1 (by rw [h x List.mem_cons_self y (List.mem_cons_of_mem _ hy) e.symm]; exact hy)
theorem Calm.low {a : List Int} {p : Int} (c : Calm a p) : ((folR a).filter fun b => decide (nat b p = midN a p)) = folR (callN a p) := asc_rows ((fol_asc a).filter _) (fol_asc _) fun b => by
  rw [List.mem_filter, decide_eq_true_eq, fol_mem, fol_mem, c.call]
theorem Calm.half {a : List Int} {p : Int} (c : Calm a p) : ((folR a).filter fun b => decide (nat b p = nat a p)).length = (folR (callN a p)).length := by
  have hin := c.in'
  have set_at : ∀ {b : List Int} {v : Int}, b.length = a.length → nat (b.set p.toNat v) p = v := fun {b v} hl => by
    rw [nat_set (by omega), if_pos ⟨by omega, by omega⟩]
  have inj : ∀ {v : Int} {b d : List Int}, b.length = a.length → d.length = a.length → nat b p = nat d p → b.set p.toNat v = d.set p.toNat v → b = d := fun {v b d} hb hd hp e => by
    refine row_eq (by omega) fun q q0 q1 => ?_
    by_cases z : q = p
    · rw [z]; exact hp
    · have this : nat (b.set p.toNat v) q = nat (d.set p.toNat v) q := congrArg (fun l => nat l q) e
      rw [nat_set q0, nat_set q0, if_neg (fun y => z (by omega)), if_neg (fun y => z (by omega))] at this
      exact this
  rw [← c.low]
  refine Nat.le_antisymm ?_ ?_
  · have hs := sub_len (l := ((folR a).filter fun b => decide (nat b p = nat a p)).map fun b => b.set p.toNat (midN a p)) (m := (folR a).filter fun b => decide (nat b p = midN a p)) (nodup_map_on ((fol_nodup a).filter _) fun x hx y hy e => by
      obtain ⟨x1, x2⟩ := List.mem_filter.mp hx
      obtain ⟨y1, y2⟩ := List.mem_filter.mp hy
      have x2 := of_decide_eq_true x2
      have y2 := of_decide_eq_true y2
      exact inj (fol_mem.mp x1).len (fol_mem.mp y1).len (by omega) e) fun b hb => by
      obtain ⟨x, hx, rfl⟩ := List.mem_map.mp hb
      obtain ⟨x1, x2⟩ := List.mem_filter.mp hx
      have x2 := of_decide_eq_true x2
      have k := fol_mem.mp x1
      have ek : x.set p.toNat (midN a p) = callN x p := by
        unfold callN
        rw [c.mid k x2]
      rw [List.mem_filter, decide_eq_true_eq, fol_mem]
      exact ⟨by rw [ek]; exact k.call (by omega) (by omega), set_at k.len⟩
    rw [List.length_map] at hs
    exact hs
  · have hs := sub_len (l := ((folR a).filter fun b => decide (nat b p = midN a p)).map fun b => b.set p.toNat (nat a p)) (m := (folR a).filter fun b => decide (nat b p = nat a p)) (nodup_map_on ((fol_nodup a).filter _) fun x hx y hy e => by
      obtain ⟨x1, x2⟩ := List.mem_filter.mp hx
      obtain ⟨y1, y2⟩ := List.mem_filter.mp hy
      have x2 := of_decide_eq_true x2
      have y2 := of_decide_eq_true y2
      exact inj (fol_mem.mp x1).len (fol_mem.mp y1).len (by omega) e) fun b hb => by
      obtain ⟨x, hx, rfl⟩ := List.mem_map.mp hb
      obtain ⟨x1, x2⟩ := List.mem_filter.mp hx
      have x2 := of_decide_eq_true x2
      have k := fol_mem.mp x1
      rw [List.mem_filter, decide_eq_true_eq, fol_mem]
      exact ⟨c.up k x2, set_at k.len⟩
    rw [List.length_map] at hs
    exact hs
theorem Calm.all {a : List Int} {p : Int} (c : Calm a p) : (folR a).length = 2 * (folR (callN a p)).length := by
  have h1 := c.half
  have h2 := congrArg List.length c.low
  have split : ∀ l : List (List Int), (∀ b ∈ l, nat b p = nat a p ∨ nat b p = midN a p) → l.length = (l.filter fun b => decide (nat b p = nat a p)).length + (l.filter fun b => decide (nat b p = midN a p)).length := fun l => by
    induction l with
    | nil => intro _; rfl
    | cons b l ih =>
      intro h
      have ih := ih fun x hx => h x (List.mem_cons_of_mem _ hx)
      have ne := c.ne
      rcases h b List.mem_cons_self with e | e
      · rw [List.filter_cons_of_pos (by simpa using e), List.filter_cons_of_neg (by simp; omega), List.length_cons, List.length_cons]; omega
      · rw [List.filter_cons_of_neg (by simp; omega), List.filter_cons_of_pos (by simpa using e), List.length_cons, List.length_cons]; omega
  have := split (folR a) fun b hb => c.two (fol_mem.mp hb)
  omega
end DL
namespace DL
open PySem L2
end DL
namespace DL
open PySem L2
end DL
namespace DL
open PySem PySem.Spec PyProof.Rows L2
end DL
namespace DL
open PySem L2
def encI (ks : List (Int × Int)) : List (KK × V × V) := ks.map fun p => (.lf (.num p.1), .int p.1, .int p.2)
def encD (ks : List (Int × Int)) : List (D × D) := ks.map fun p => (.int p.1, .int p.2)
end DL
namespace DL
open PySem L2
abbrev ND := List (D × List (Int × Int))
def ndFind (n : ND) (c : D) : Option (List (Int × Int)) := (n.find? fun p => decide (kkD p.1 = kkD c)).map (·.2)
def ndMap (n : ND) (c : D) (v : List (Int × Int)) : ND := n.map fun p => if kkD p.1 = kkD c then (p.1, v) else p
def ndD (n : ND) : D := dcD (n.map fun p => (p.1, dcD (encD p.2)))
section
variable {K : PySem.W.Frag} {Wx : WX} {b0 : Option Addr} {B W Z0 Z H : Hp} {σ : L2.St} {ρ : Rho} {p q : Addr} {o o' : HO}
/-- what the frame knows is frozen -/
theorem Ok.freezeF (ok : Ok K b0 W Z0 Z H σ ρ) (zq : Z q = none) (wq : W q = some o) : Ok K b0 (but W q) Z0 (upd Z q o) H σ ρ ∧ Same Z (upd Z q o) := by
  have e : W = upd (but W q) q o := by
    funext r
    by_cases hr : r = q
    · subst hr; rw [upd_same]; exact wq
    · rw [upd_ne hr, but_ne hr]
  rw [e] at ok
  obtain ⟨ok1, z1, a1, h1⟩ := ok.unframe (ok.zz.free zq) but_same
  exact ok1.freeze z1 but_same a1 h1
theorem Ok.weakB (ok : Ok K b0 W Z0 Z H σ ρ) (s : Same B W) : Ok K b0 B Z0 Z H σ ρ := by
  refine ⟨ok.len, s.trans ok.bh, ok.zh, ok.zz, fun r x e => (ok.nb r x e).imp id fun z => s.free z, ok.sh, fun i t e eo => ?_, ok.fix, ok.sepS⟩
  obtain ⟨r, x, e1, e2, e3, e4, e5⟩ := ok.own i t e eo
  exact ⟨r, x, e1, e2, s.free e3, e4, e5⟩
inductive NestA (K : PySem.W.Frag) (Z W : Hp) : List (KK × V × V) → List Addr → ND → Prop
  | nil : NestA K Z W [] [] []
  | cons {k : KK} {x : V} {c : D} {q : Addr} {ks : List (Int × Int)} {kvs : List (KK × V × V)} {qs : List Addr} {nd : ND} : kkD c = some k → Rp K Z x c → IsDc W q (encI ks) → NestA K Z W kvs qs nd → NestA K Z W ((k, x, .ref q) :: kvs) (q :: qs) ((c, ks) :: nd)
theorem NestA.mono {Z' W' : Hp} : ∀ {kvs : List (KK × V × V)} {qs : List Addr} {nd : ND}, NestA K Z W kvs qs nd → Same Z Z' → (∀ r ∈ qs, W r = W' r) → NestA K Z' W' kvs qs nd
  | _, _, _, .nil, _, _ => .nil
  | _, _, _, .cons e r w t, s, hw => .cons e (r.mono s) (by
      obtain ⟨dt, w⟩ := w
      exact ⟨dt, by rw [← hw _ (List.mem_cons_self ..)]; exact w⟩) (t.mono s fun r hr => hw r (List.mem_cons_of_mem _ hr))
theorem NestA.len : ∀ {kvs : List (KK × V × V)} {qs : List Addr} {nd : ND}, NestA K Z W kvs qs nd → kvs.length = nd.length
  | _, _, _, .nil => rfl
  | _, _, _, .cons _ _ _ t => by rw [List.length_cons, List.length_cons, t.len]
theorem nd_find_cons (c0 : D) (ks : List (Int × Int)) (nd : ND) (c : D) : ndFind ((c0, ks) :: nd) c = if kkD c0 = kkD c then some ks else ndFind nd c := by
  unfold ndFind
  rw [List.find?_cons]
  by_cases e : kkD c0 = kkD c
  · rw [decide_eq_true e, if_pos e]; rfl
  · rw [decide_eq_false e, if_neg e]
theorem NestA.find {c : D} {k : KK} (hc : kkD c = some k) : ∀ {kvs : List (KK × V × V)} {qs : List Addr} {nd : ND}, NestA K Z W kvs qs nd → (ndFind nd c = none ∧ getK kvs k = none) ∨ ∃ q ks, ndFind nd c = some ks ∧ getK kvs k = some (.ref q) ∧ q ∈ qs ∧ IsDc W q (encI ks)
  | _, _, _, .nil => .inl ⟨rfl, rfl⟩
  | _, _, _, .cons (k := k0) (q := q0) e r w t => by
    rw [nd_find_cons, e, hc]
    by_cases h : k0 = k
    · rw [if_pos (by rw [h]), getK_cons_eq h]
      exact .inr ⟨q0, _, rfl, rfl, List.mem_cons_self .., w⟩
    · rw [if_neg (fun z => h (Option.some.inj z)), getK_cons_ne h]
      rcases t.find hc with ⟨a, b⟩ | ⟨q, ks, a, b, m, d⟩
      · exact .inl ⟨a, b⟩
      · exact .inr ⟨q, ks, a, b, List.mem_cons_of_mem _ m, d⟩
theorem nest_key : ∀ {kvs : List (KK × V × V)} {qs : List Addr} {nd : ND}, NestA K Z W kvs qs nd → ∀ {c : D} {k : KK}, kkD c = some k → k ∉ kvs.map (·.1) → ∀ z ∈ nd, kkD z.1 ≠ kkD c
  | _, _, _, .nil, _, _, _, _ => fun z h => nomatch h
  | _, _, _, .cons e r w t, c, k, hc, hn => fun z h => by
    rw [List.map_cons] at hn
    rcases List.mem_cons.mp h with rfl | h
    · show kkD _ ≠ _
      rw [e, hc]
      intro x
      exact hn (by rw [Option.some.inj x]; exact List.mem_cons_self ..)
    · exact nest_key t hc (fun x => hn (List.mem_cons_of_mem _ x)) z h
theorem nd_map_none {n : ND} {c : D} {v : List (Int × Int)} (h : ∀ z ∈ n, kkD z.1 ≠ kkD c) : ndMap n c v = n := by
  unfold ndMap
  exact (List.map_congr_left fun z hz => if_neg (h z hz)).trans (List.map_id n)
/-- the inner dict at k is written -/
theorem NestA.put {c : D} {k : KK} {v : List (Int × Int)} {o : HO} (hc : kkD c = some k) (ho : o = dcO q (encI v) dt) : ∀ {kvs : List (KK × V × V)} {qs : List Addr} {nd : ND}, NestA K Z W kvs qs nd → qs.Nodup → (kvs.map (·.1)).Nodup → getK kvs k = some (.ref q) → NestA K Z (upd W q o) kvs qs (ndMap nd c v)
  | _, _, _, .nil, _, _, g => by cases g
  | _, _, _, .cons (k := k0) (q := q0) (c := c0) (ks := ks0) (nd := nd0) (qs := qs0) e r w t, nq, nk, g => by
    rw [List.map_cons] at nk
    have nq' := List.nodup_cons.mp nq
    have nk' := List.nodup_cons.mp nk
    by_cases h : k0 = k
    · rw [getK_cons_eq h] at g
      have eq : q0 = q := by
        have := Option.some.inj g
        injection this
      subst eq
      have en : ndMap ((c0, ks0) :: nd0) c v = (c0, v) :: nd0 := by
        show (if kkD c0 = kkD c then (c0, v) else (c0, ks0)) :: ndMap nd0 c v = _
        rw [if_pos (by rw [e, hc, h]), nd_map_none (nest_key t hc (by rw [← h]; exact nk'.1))]
      rw [en]
      exact .cons e r ⟨_, by rw [upd_same, ho]⟩ (t.mono (Same.refl Z) fun r hr => by rw [upd_ne (fun z => nq'.1 (by rw [← z]; exact hr))])
    · rw [getK_cons_ne h] at g
      have en : ndMap ((c0, ks0) :: nd0) c v = (c0, ks0) :: ndMap nd0 c v := by
        show (if kkD c0 = kkD c then (c0, v) else (c0, ks0)) :: ndMap nd0 c v = _
        rw [if_neg (fun z => h (by rw [e, hc] at z; exact Option.some.inj z))]
      rw [en]
      have hq : q ∈ qs0 := by
        rcases t.find hc with ⟨_, b⟩ | ⟨q', ks, _, b, m, _⟩
        · rw [b] at g; cases g
        · rw [b] at g
          have := Option.some.inj g
          injection this with z
          rw [← z]; exact m
      refine .cons e r ?_ (t.put hc ho nq'.2 nk'.2 g)
      obtain ⟨dt, w⟩ := w
      exact ⟨dt, by rw [upd_ne (fun z => nq'.1 (by rw [z]; exact hq))]; exact w⟩
structure Nest (K : PySem.W.Frag) (Z W B : Hp) (p : Addr) (kvs : List (KK × V × V)) (qs : List Addr) (nd : ND) : Prop where
  out : IsDc W p kvs
  inn : NestA K Z W kvs qs nd
  nk : (kvs.map (·.1)).Nodup
  tp : ∀ y ∈ kvs, ∃ ls, y.1 = .tp ls
  na : (p :: qs).Nodup
  fr : ∀ r ∈ p :: qs, Z r = none ∧ B r = none
theorem rpk_enc : ∀ (ks : List (Int × Int)), RpK K Z (encI ks) (encD ks)
  | [] => .nil
  | p :: ks => .cons rfl (.int _) (.int _) (rpk_enc ks)
theorem nest_fz : ∀ {kvs : List (KK × V × V)} {qs : List Addr} {nd : ND} {Z W : Hp}, Ok K b0 W Z0 Z H σ ρ → Same B W → NestA K Z W kvs qs nd → qs.Nodup → (∀ r ∈ qs, Z r = none ∧ B r = none) →
    ∃ Z' W', Ok K b0 W' Z0 Z' H σ ρ ∧ Same B W' ∧ Same Z Z' ∧ (∀ r, r ∉ qs → W' r = W r ∧ Z' r = Z r) ∧ RpK K Z' kvs (nd.map fun p => (p.1, dcD (encD p.2)))
  | _, _, _, Z, W, ok, sb, .nil, _, _ => ⟨Z, W, ok, sb, Same.refl Z, fun r _ => ⟨rfl, rfl⟩, .nil⟩
  | _, q :: qs, _, Z, W, ok, sb, .cons e r ⟨dt, w⟩ t, nq, fr => by
    have nq' := List.nodup_cons.mp nq
    have f1 := fr q (List.mem_cons_self ..)
    obtain ⟨ok1, s1⟩ := ok.freezeF f1.1 w
    have hne : ∀ r ∈ qs, r ≠ q := fun r hr z => nq'.1 (by rw [← z]; exact hr)
    obtain ⟨Z', W', ok2, sb2, s2, hk, rk⟩ := nest_fz ok1 (fun r x e => by rw [but_ne (ne_of_none e f1.2)]; exact sb r x e) (t.mono s1 fun r hr => by rw [but_ne (hne r hr)]) nq'.2 fun r hr => by
      rw [upd_ne (hne r hr)]
      exact fr r (List.mem_cons_of_mem _ hr)
    refine ⟨Z', W', ok2, sb2, s1.trans s2, fun r hr => ?_, .cons e (r.mono (s1.trans s2)) (.dct (s2 _ _ upd_same) (rpk_enc _)) rk⟩
    have h1 := hk r (fun z => hr (List.mem_cons_of_mem _ z))
    have h2 : r ≠ q := fun z => hr (by rw [z]; exact List.mem_cons_self ..)
    rw [but_ne h2, upd_ne h2] at h1
    exact h1
theorem Nest.freeze {kvs : List (KK × V × V)} {qs : List Addr} {nd : ND} (ok : Ok K b0 W Z0 Z H σ ρ) (sb : Same B W) (n : Nest K Z W B p kvs qs nd) : ∃ Z', Ok K b0 B Z0 Z' H σ ρ ∧ Same Z Z' ∧ Rp K Z' (.ref p) (ndD nd) := by
  have na := List.nodup_cons.mp n.na
  obtain ⟨Z1, W1, ok1, sb1, s1, hk, rk⟩ := nest_fz ok sb n.inn na.2 fun r hr => n.fr r (List.mem_cons_of_mem _ hr)
  obtain ⟨dt, ho⟩ := n.out
  have f1 := n.fr p (List.mem_cons_self ..)
  obtain ⟨h1, h2⟩ := hk p na.1
  obtain ⟨ok2, s2⟩ := ok1.freezeF (q := p) (h2.trans f1.1) (h1.trans ho)
  exact ⟨_, ok2.weakB (fun r x e => by rw [but_ne (ne_of_none e f1.2)]; exact sb1 r x e), s1.trans s2, .dct upd_same (rk.mono s2)⟩
end
abbrev NG := Rho → ND → Option (Rho × ND)
section
variable {K : PySem.W.Frag} {Wx : WX} {f : Nat} {t u : TS} {te : TE} {tt : TT} {b c : NG}
theorem Nest.grow {Z Z' W B Z0 H : Hp} {b0 : Option Addr} {σ : L2.St} {ρ : Rho} {p : Addr} {kvs : List (KK × V × V)} {qs : List Addr} {nd : ND} (n : Nest K Z W B p kvs qs nd) (s : Same Z Z') (ok : Ok K b0 W Z0 Z' H σ ρ) (zz : Same Z0 Z) : Nest K Z' W B p kvs qs nd := by
  refine ⟨n.out, n.inn.mono s fun _ _ => rfl, n.nk, n.tp, n.na, fun r hr => ⟨?_, (n.fr r hr).2⟩⟩
  have zr := (n.fr r hr).1
  cases e : Z' r with
  | none => rfl
  | some o =>
    rcases ok.nb r o e with z | z
    · rw [zz r o z] at zr; cases zr
    · have : ∃ o, W r = some o := by
        rcases List.mem_cons.mp hr with rfl | hr
        · obtain ⟨dt, w⟩ := n.out
          exact ⟨_, w⟩
        · have go : ∀ {kvs : List (KK × V × V)} {qs : List Addr} {nd : ND}, NestA K Z W kvs qs nd → ∀ r ∈ qs, ∃ o, W r = some o := by
            intro kvs qs nd h
            induction h with
            | nil => intro r h; cases h
            | cons e r w t ih =>
              intro r hr
              rcases List.mem_cons.mp hr with rfl | hr
              · obtain ⟨dt, w⟩ := w
                exact ⟨_, w⟩
              · exact ih r hr
          exact go n.inn r hr
      obtain ⟨o', h'⟩ := this
      rw [h'] at z
      cases z
end
end DL
namespace DL
open PySem L2
theorem NestA.some {K : PySem.W.Frag} {Z W : Hp} : ∀ {kvs : List (KK × V × V)} {qs : List Addr} {nd : ND}, NestA K Z W kvs qs nd → ∀ r ∈ qs, ∃ o, W r = some o
  | _, _, _, .nil, _, h => nomatch h
  | _, _, _, .cons _ _ w t, r, h => by
    rcases List.mem_cons.mp h with rfl | h
    · obtain ⟨dt, w⟩ := w
      exact ⟨_, w⟩
    · exact t.some r h
end DL
namespace DL
open PySem L2
end DL
namespace DL
open PySem L2
end DL
namespace DL
open PySem L2
end DL
namespace DL
open PySem L2
end DL
namespace DL
open PySem L2
end DL
namespace DL
open PySem L2
section
variable {f : Int → Int} {S : List Int}
theorem Sim.symm {a b a' b' : List Int} (s : Sim a b a' b') : Sim a' b' a b := by
  obtain ⟨la, lb, lb', aa, ab, ba, bb⟩ := s
  exact ⟨la.symm, by omega, by omega, fun p q p0 p1 q0 q1 => (aa p q p0 (by omega) q0 (by omega)).symm, fun p q p0 p1 q0 q1 => (ab p q p0 (by omega) q0 (by omega)).symm, fun p q p0 p1 q0 q1 => (ba p q p0 (by omega) q0 (by omega)).symm, fun p q p0 p1 q0 q1 => (bb p q p0 (by omega) q0 (by omega)).symm⟩
end
end DL
namespace DL
open PySem L2
theorem nat_appL {a b : List Int} {p : Int} (h0 : 0 ≤ p) (h1 : p < a.length) : nat (a ++ b) p = nat a p := by
  unfold nat
  rw [List.getElem?_append_left (by omega)]
theorem nat_appR {a b : List Int} {p : Int} (h0 : 0 ≤ p) : nat (a ++ b) ((a.length : Int) + p) = nat b p := by
  unfold nat
  rw [List.getElem?_append_right (by omega), show ((a.length : Int) + p).toNat - a.length = p.toNat by omega]
/-- neither of the two where the rows meet is a top or dip -/
def Still (a b : List Int) : Prop := ∀ p : Int, p = (a.length : Int) - 1 ∨ p = a.length → ¬ IsT (a ++ b) p ∧ ¬ IsD (a ++ b) p
section
variable {a b : List Int}
theorem topL {p : Int} (h0 : 0 ≤ p) (h : p + 1 < a.length) : (IsT (a ++ b) p ↔ IsT a p) ∧ (IsD (a ++ b) p ↔ IsD a p) := by
  have n0 := nat_appL (a := a) (b := b) h0 (by omega)
  have n1 := nat_appL (a := a) (b := b) (p := p + 1) (by omega) h
  have l : (a ++ b).length = a.length + b.length := List.length_append
  constructor
  · constructor
    · rintro ⟨q0, _, q⟩
      rw [n0, n1, nat_appL (p := p - 1) (by omega) (by omega)] at q
      exact ⟨q0, h, q⟩
    · rintro ⟨q0, _, q⟩
      refine ⟨q0, by omega, ?_⟩
      rw [n0, n1, nat_appL (p := p - 1) (by omega) (by omega)]
      exact q
  · constructor
    · rintro ⟨q0, _, q⟩
      rw [n0, n1, nat_appL (p := p - 1) (by omega) (by omega)] at q
      exact ⟨q0, h, q⟩
    · rintro ⟨q0, _, q⟩
      refine ⟨q0, by omega, ?_⟩
      rw [n0, n1, nat_appL (p := p - 1) (by omega) (by omega)]
      exact q
theorem topR {p : Int} (h0 : 0 < p) : (IsT (a ++ b) ((a.length : Int) + p) ↔ IsT b p) ∧ (IsD (a ++ b) ((a.length : Int) + p) ↔ IsD b p) := by
  have n0 := nat_appR (a := a) (b := b) (p := p) (by omega)
  have n1 := nat_appR (a := a) (b := b) (p := p + 1) (by omega)
  have n2 := nat_appR (a := a) (b := b) (p := p - 1) (by omega)
  have l : (a ++ b).length = a.length + b.length := List.length_append
  rw [← Int.add_assoc] at n1
  rw [show (a.length : Int) + (p - 1) = (a.length : Int) + p - 1 by omega] at n2
  constructor
  · constructor
    · rintro ⟨q0, q1, q⟩
      rw [n0, n1, n2] at q
      exact ⟨h0, by omega, q⟩
    · rintro ⟨q0, q1, q⟩
      refine ⟨by omega, by omega, ?_⟩
      rw [n0, n1, n2]
      exact q
  · constructor
    · rintro ⟨q0, q1, q⟩
      rw [n0, n1, n2] at q
      exact ⟨h0, by omega, q⟩
    · rintro ⟨q0, q1, q⟩
      refine ⟨by omega, by omega, ?_⟩
      rw [n0, n1, n2]
      exact q
theorem keep_join {c e : List Int} (hc : c.length = a.length) (he : e.length = b.length) (s : Still a b) : Keep (a ++ b) (c ++ e) ↔ Keep a c ∧ Keep b e := by
  have l : (a ++ b).length = a.length + b.length := List.length_append
  have l2 : (c ++ e).length = a.length + b.length := by rw [List.length_append, hc, he]
  have cR : ∀ {p : Int}, 0 ≤ p → nat (c ++ e) ((a.length : Int) + p) = nat e p := fun {p} h => by
    have := nat_appR (a := c) (b := e) h
    rw [hc] at this
    exact this
  have cL : ∀ {p : Int}, 0 ≤ p → p < a.length → nat (c ++ e) p = nat c p := fun {p} h0 h1 => nat_appL h0 (by omega)
  constructor
  · intro k
    have still : ∀ p : Int, p = (a.length : Int) - 1 ∨ p = a.length → 0 ≤ p → p < (a ++ b).length → nat (a ++ b) p = nat (c ++ e) p := fun p hp h0 h1 => by
      rcases k.chg p h0 h1 with z | z | z
      · exact z
      · exact absurd z.1 (s p hp).1
      · exact absurd z.1 (s p hp).2
    refine ⟨⟨hc, fun p h0 h1 => ?_, fun p h0 h1 => ?_, fun p h0 h1 => ?_⟩, ⟨he, fun p h0 h1 => ?_, fun p h0 h1 => ?_, fun p h0 h1 => ?_⟩⟩
    · rw [← nat_appL (b := b) h0 h1, ← cL h0 h1]
      by_cases h2 : p + 1 < a.length
      · rw [← (topL (b := b) h0 h2).1, ← (topL (b := b) h0 h2).2]
        exact k.chg p h0 (by omega)
      · exact .inl (still p (.inl (by omega)) h0 (by omega))
    · have := k.ord p h0 (by omega)
      rw [nat_appL h0 (by omega), nat_appL (p := p + 1) (by omega) h1, cL h0 (by omega), cL (p := p + 1) (by omega) h1] at this
      exact this
    · obtain ⟨q, q0, q1, qe, qr⟩ := k.run p h0 (by omega)
      by_cases h2 : q < a.length
      · refine ⟨q, q0, h2, ?_, fun r hr => ?_⟩
        · rw [nat_appL q0 h2, cL q0 h2] at qe
          exact qe
        · have := qr r hr
          rw [cL (by unfold Btw at hr; omega) (by unfold Btw at hr; omega), cL h0 h1] at this
          exact this
      · have st := still ((a.length : Int) - 1) (.inl rfl) (by omega) (by omega)
        rw [nat_appL (by omega) (by omega), cL (by omega) (by omega)] at st
        refine ⟨(a.length : Int) - 1, by omega, by omega, st, fun r hr => ?_⟩
        have := qr r (by unfold Btw at hr ⊢; omega)
        rw [cL (by unfold Btw at hr; omega) (by unfold Btw at hr; omega), cL h0 h1] at this
        exact this
    · rw [← nat_appR (a := a) h0, ← cR h0]
      by_cases h2 : 0 < p
      · rw [← (topR (a := a) h2).1, ← (topR (a := a) h2).2]
        exact k.chg _ (by omega) (by omega)
      · have : p = 0 := by omega
        subst this
        exact .inl (still _ (.inr (by omega)) (by omega) (by omega))
    · have := k.ord ((a.length : Int) + p) (by omega) (by omega)
      rw [Int.add_assoc, nat_appR h0, nat_appR (p := p + 1) (by omega), cR h0, cR (p := p + 1) (by omega)] at this
      exact this
    · obtain ⟨q, q0, q1, qe, qr⟩ := k.run ((a.length : Int) + p) (by omega) (by omega)
      by_cases h2 : (a.length : Int) ≤ q
      · obtain ⟨z, rfl⟩ : ∃ z : Int, q = (a.length : Int) + z := ⟨q - a.length, by omega⟩
        refine ⟨z, by omega, by omega, ?_, fun r hr => ?_⟩
        · rw [nat_appR (by omega), cR (by omega)] at qe
          exact qe
        · have := qr ((a.length : Int) + r) (by unfold Btw at hr ⊢; omega)
          rw [cR (by unfold Btw at hr; omega), cR h0] at this
          exact this
      · have st := still a.length (.inr rfl) (by omega) (by omega)
        have z1 := nat_appR (a := a) (b := b) (p := 0) (Int.le_refl 0)
        have z2 := cR (p := 0) (Int.le_refl 0)
        rw [Int.add_zero] at z1 z2
        rw [z1, z2] at st
        refine ⟨0, Int.le_refl 0, by omega, st, fun r hr => ?_⟩
        have := qr ((a.length : Int) + r) (by unfold Btw at hr ⊢; omega)
        rw [cR (by unfold Btw at hr; omega), cR h0] at this
        exact this
  · rintro ⟨k, m⟩
    refine ⟨by rw [l, l2], fun p h0 h1 => ?_, fun p h0 h1 => ?_, fun p h0 h1 => ?_⟩
    · rw [l] at h1
      by_cases h2 : p < a.length
      · rw [nat_appL h0 h2, cL h0 h2]
        rcases k.chg p h0 h2 with z | z | z
        · exact .inl z
        · exact .inr (.inl ⟨(topL h0 z.1.2.1).1.mpr z.1, z.2⟩)
        · exact .inr (.inr ⟨(topL h0 z.1.2.1).2.mpr z.1, z.2⟩)
      · obtain ⟨z, rfl⟩ : ∃ z : Int, p = (a.length : Int) + z := ⟨p - a.length, by omega⟩
        rw [nat_appR (by omega), cR (by omega)]
        rcases m.chg z (by omega) (by omega) with y | y | y
        · exact .inl y
        · exact .inr (.inl ⟨(topR y.1.1).1.mpr y.1, y.2⟩)
        · exact .inr (.inr ⟨(topR y.1.1).2.mpr y.1, y.2⟩)
    · rw [l] at h1
      by_cases h2 : p + 1 < a.length
      · rw [nat_appL h0 (by omega), nat_appL (p := p + 1) (by omega) h2, cL h0 (by omega), cL (p := p + 1) (by omega) h2]
        exact k.ord p h0 h2
      · by_cases h3 : p < a.length
        · have e1 := k.end0 (p := p) h0 h3 (.inr (by omega))
          have e2 := m.end0 (p := 0) (Int.le_refl 0) (by omega) (.inl rfl)
          have z1 := nat_appR (a := a) (b := b) (p := 0) (Int.le_refl 0)
          have z2 := cR (p := 0) (Int.le_refl 0)
          rw [show (a.length : Int) + 0 = p + 1 by omega] at z1 z2
          rw [z1, z2, nat_appL h0 h3, cL h0 h3, ← e1, ← e2]
          exact ⟨fun h => by omega, fun h => by omega, fun h => h⟩
        · obtain ⟨z, rfl⟩ : ∃ z : Int, p = (a.length : Int) + z := ⟨p - a.length, by omega⟩
          rw [Int.add_assoc, nat_appR (by omega), nat_appR (p := z + 1) (by omega), cR (by omega), cR (p := z + 1) (by omega)]
          exact m.ord z (by omega) (by omega)
    · rw [l] at h1
      by_cases h2 : p < a.length
      · obtain ⟨q, q0, q1, qe, qr⟩ := k.run p h0 h2
        refine ⟨q, q0, by omega, by rw [nat_appL q0 q1, cL q0 q1]; exact qe, fun r hr => ?_⟩
        rw [cL (by unfold Btw at hr; omega) (by unfold Btw at hr; omega), cL h0 h2]
        exact qr r hr
      · obtain ⟨z, rfl⟩ : ∃ z : Int, p = (a.length : Int) + z := ⟨p - a.length, by omega⟩
        obtain ⟨q, q0, q1, qe, qr⟩ := m.run z (by omega) (by omega)
        refine ⟨(a.length : Int) + q, by omega, by omega, by rw [nat_appR q0, cR q0]; exact qe, fun r hr => ?_⟩
        obtain ⟨y, rfl⟩ : ∃ y : Int, r = (a.length : Int) + y := ⟨r - a.length, by omega⟩
        rw [cR (by unfold Btw at hr; omega), cR (by omega)]
        exact qr y (by unfold Btw at hr ⊢; omega)
end
end DL
namespace DL
open PySem L2
theorem app_ltL : ∀ {c d x y : List Int}, c.length = d.length → c < d → c ++ x < d ++ y
  | [], [], _, _, _, h => absurd h (List.not_lt_nil _)
  | [], _ :: _, _, _, hl, _ => by rw [List.length_cons] at hl; exact absurd hl (by simp)
  | _ :: _, [], _, _, hl, _ => by rw [List.length_cons] at hl; exact absurd hl (by simp)
  | u :: c, v :: d, x, y, hl, h => by
    rw [List.length_cons, List.length_cons] at hl
    rw [List.cons_append, List.cons_append, List.cons_lt_cons_iff]
    rcases List.cons_lt_cons_iff.mp h with h | ⟨e, h⟩
    · exact .inl h
    · exact .inr ⟨e, app_ltL (by omega) h⟩
theorem app_ltR {x y : List Int} (h : x < y) : ∀ c : List Int, c ++ x < c ++ y
  | [] => h
  | u :: c => by
    rw [List.cons_append, List.cons_append, List.cons_lt_cons_iff]
    exact .inr ⟨rfl, app_ltR h c⟩
theorem fol_join {a b : List Int} (s : Still a b) : folR (a ++ b) = (folR a).flatMap fun c => (folR b).map (c ++ ·) := by
  refine asc_rows (fol_asc _) ?_ fun d => ?_
  · rw [List.pairwise_flatMap]
    refine ⟨fun c _ => ?_, ?_⟩
    · rw [List.pairwise_map]
      exact (fol_asc b).imp fun h => app_ltR h c
    · have : (folR a).Pairwise fun c d => (c ∈ folR a ∧ d ∈ folR a) ∧ c < d := by
        have h := fol_asc a
        rw [List.pairwise_iff_getElem] at h ⊢
        exact fun i j hi hj hij => ⟨⟨List.getElem_mem hi, List.getElem_mem hj⟩, h i j hi hj hij⟩
      refine this.imp fun {c d} h x hx y hy => ?_
      obtain ⟨u, _, rfl⟩ := List.mem_map.mp hx
      obtain ⟨v, _, rfl⟩ := List.mem_map.mp hy
      exact app_ltL (by rw [(fol_mem.mp h.1.1).len, (fol_mem.mp h.1.2).len]) h.2
  · rw [fol_mem, List.mem_flatMap]
    constructor
    · intro k
      have hl := k.len
      rw [List.length_append] at hl
      have e : d.take a.length ++ d.drop a.length = d := List.take_append_drop _ _
      rw [← e] at k
      obtain ⟨k1, k2⟩ := (keep_join (by rw [List.length_take]; omega) (by rw [List.length_drop]; omega) s).mp k
      exact ⟨_, fol_mem.mpr k1, List.mem_map.mpr ⟨_, fol_mem.mpr k2, e⟩⟩
    · rintro ⟨c, hc, hd⟩
      obtain ⟨u, hu, rfl⟩ := List.mem_map.mp hd
      have k1 := fol_mem.mp hc
      have k2 := fol_mem.mp hu
      exact (keep_join k1.len k2.len s).mpr ⟨k1, k2⟩
theorem fol_one (x : Int) : folR [x] = [[x]] := fol_rest fun p => ⟨fun t => by have := t.1; have := t.2.1; rw [List.length_singleton] at *; omega, fun t => by have := t.1; have := t.2.1; rw [List.length_singleton] at *; omega⟩
theorem fol_snoc {a : List Int} {x : Int} (s : Still a [x]) : folR (a ++ [x]) = (folR a).map (· ++ [x]) := by
  rw [fol_join s, fol_one, List.flatMap_def]
  have : ((folR a).map fun c => [[x]].map (c ++ ·)) = (folR a).map fun c => [c ++ [x]] := List.map_congr_left fun c _ => rfl
  rw [this]
  induction folR a with
  | nil => rfl
  | cons c l ih => rw [List.map_cons, List.flatten_cons, ih]; rfl
end DL
namespace DL
open PySem L2
end DL
namespace DL
open PySem L2
end DL
namespace DL
open PySem L2
theorem still_same {a b : List Int} (h : a ≠ [] → b ≠ [] → nat a ((a.length : Int) - 1) = nat b 0) : Still a b := fun p hp => by
  have l : (a ++ b).length = a.length + b.length := List.length_append
  by_cases ha : a = []
  · have : a.length = 0 := by rw [ha]; rfl
    exact ⟨fun t => by have := t.1; omega, fun t => by have := t.1; omega⟩
  · by_cases hb : b = []
    · have : b.length = 0 := by rw [hb]; rfl
      exact ⟨fun t => by have := t.2.1; omega, fun t => by have := t.2.1; omega⟩
    · have pa := List.length_pos_iff.mpr ha
      have pb := List.length_pos_iff.mpr hb
      have e := h ha hb
      have v1 : nat (a ++ b) ((a.length : Int) - 1) = nat b 0 := by rw [nat_appL (by omega) (by omega), e]
      have v2 : nat (a ++ b) (a.length : Int) = nat b 0 := by
        have := nat_appR (a := a) (b := b) (p := 0) (by omega)
        rw [Int.add_zero] at this
        exact this
      rcases hp with rfl | rfl
      · refine ⟨fun t => ?_, fun t => ?_⟩ <;>
        · have := t.2.2.2
          rw [show (a.length : Int) - 1 + 1 = a.length by omega, v1, v2] at this
          omega
      · refine ⟨fun t => ?_, fun t => ?_⟩ <;>
        · have := t.2.2.1
          rw [v1, v2] at this
          omega
theorem filt_map {α β : Type} {f : α → β} {p : β → Bool} {q : α → Bool} : ∀ {l : List α}, (∀ x ∈ l, p (f x) = q x) → (l.map f).filter p = (l.filter q).map f
  | [], _ => rfl
  | x :: l, h => by
    have ih := filt_map (l := l) fun y hy => h y (List.mem_cons_of_mem _ hy)
    have e := h x (List.mem_cons_self ..)
    rw [List.map_cons, List.filter_cons, List.filter_cons, e, ih]
    split <;> rfl
def vl : List Int → (Nat → Int) → Int
  | [], _ => 0
  | x :: F, φ => x * φ 0 + vl F fun k => φ (k + 1)
end DL
namespace DL
open PySem L2
open PySem.W (dataLe AllAlike Sortable alike alikeAll dataLt)
end DL
namespace DL
open PySem PySem.Spec PyProof PyProof.Rows L2
section
variable {X : Cx} {K : PySem.W.Frag}
def itemsQ : D → Option (List D)
  | .list xs => some xs
  | .tuple xs => some xs
  | _ => none
def anyB (d c : D) : Option Bool := match itemsQ c with
  | some xs => if SeqAt.shaped d = true ∧ SeqAt.shaped c = true then some (xs.any fun y => PyData.eqv y d) else none
  | none => none
def rInX (K : PySem.W.Frag) (neg : Bool) : R2 := fun x y H Q => ∃ d c k, Dp K H x d ∧ Dp K H y c ∧ anyB d c = some k ∧ Q (.bl (if neg then !k else k)) H
theorem op_inX {k : Nat} (hr : Room k X.A) : OpR X (compareOp .In) (rInX X.K false) := by
  intro pins s σ H x y v u Q I rx ry h
  obtain ⟨d, c, k, hd, hc, e, q⟩ := h
  obtain ⟨as, r1⟩ := Dp.reads I d x v hd rx
  obtain ⟨bs, r2⟩ := Dp.reads I c y u hc ry
  have hu : X.A.units + 65 < cLine := by have := hr.un; omega
  unfold anyB at e
  cases c with
  | list xs =>
    simp only [itemsQ] at e
    split at e
    · rename_i hh
      cases e
      exact PySem.SeqAt.in_list_reads r2 r1 (PySem.SeqAt.canLay_of_shaped hh.2) (PySem.SeqAt.canLay_of_shaped hh.1) (room_in_shaped hh.1 hu) ⟨.bl _, H, I, rfl, q⟩
    · cases e
  | tuple xs =>
    simp only [itemsQ] at e
    split at e
    · rename_i hh
      cases e
      exact PySem.SeqAt.in_tuple_reads r2 r1 (PySem.SeqAt.canLay_of_shaped hh.2) (PySem.SeqAt.canLay_of_shaped hh.1) (room_in_shaped hh.1 hu) ⟨.bl _, H, I, rfl, q⟩
    · cases e
  | _ => cases e
def inX (d c : D) : Option D := (anyB d c).map fun k => .bool k
theorem any_shaped {d c : D} {k : Bool} (h : anyB d c = some k) : SeqAt.shaped d = true ∧ SeqAt.shaped c = true := by
  unfold anyB at h
  split at h
  · split at h
    · rename_i hh; exact hh
    · cases h
  · cases h
theorem sn_inX : Sn2 K (rInX K false) inX := fun b0 B Z0 Z H σ ρ x y a b c Q ok ha hb e q => by
  unfold inX at e
  obtain ⟨k, ek, rfl⟩ := Option.map_eq_some_iff.mp e
  obtain ⟨s1, s2⟩ := any_shaped ek
  exact ⟨a, b, k, (bd_rp ok.zh ha).dp (shaped_noD s1), (bd_rp ok.zh hb).dp (shaped_noD s2), ek, q _ H Z ok (Same.refl Z) (.bl _)⟩
end
end DL
namespace DL
open PySem L2
end DL
namespace DL
open PySem L2
/-- c, its end x again, e's end y ahead of e -/
def wdR (x y : Int) (c e : List Int) : List Int := c ++ [x] ++ [y] ++ e
theorem prod_filter {α β γ : Type} {f : α → β → γ} {P : γ → Bool} {P1 : α → Bool} {P2 : β → Bool} {m : List β} : ∀ {l : List α}, (∀ c ∈ l, ∀ e ∈ m, P (f c e) = (P1 c && P2 e)) → ((l.flatMap fun c => m.map (f c)).filter P).length = (l.filter P1).length * (m.filter P2).length
  | [], _ => by simp
  | c :: l, h => by
    have ih := prod_filter (l := l) fun c' hc => h c' (List.mem_cons_of_mem _ hc)
    rw [List.flatMap_cons, List.filter_append, List.length_append, ih, List.filter_cons]
    have e1 : ((m.map (f c)).filter P).length = if P1 c = true then (m.filter P2).length else 0 := by
      rw [filt_map (q := fun e => P1 c && P2 e) fun e he => h c (List.mem_cons_self ..) e he, List.length_map]
      cases P1 c with
      | true => simp
      | false => simp
    rw [e1]
    cases P1 c with
    | true => simp only [if_true, List.length_cons, Nat.succ_mul]; omega
    | false => simp
section
variable {a b c e : List Int} {x y : Int}
theorem wd_len (x y : Int) (c e : List Int) : (wdR x y c e).length = c.length + 2 + e.length := by
  unfold wdR
  simp only [List.length_append, List.length_cons, List.length_nil]
theorem wd_lo {p : Int} (h0 : 0 ≤ p) (h1 : p < c.length) : nat (wdR x y c e) p = nat c p := by
  unfold wdR
  rw [List.append_assoc, List.append_assoc]
  exact nat_appL h0 h1
theorem wd_hi {q : Int} (h0 : 0 ≤ q) : nat (wdR x y c e) ((c.length : Int) + 2 + q) = nat e q := by
  have := nat_appR (a := c ++ [x] ++ [y]) (b := e) (p := q) h0
  rw [show ((c ++ [x] ++ [y]).length : Int) = (c.length : Int) + 2 by simp only [List.length_append, List.length_cons, List.length_nil]; omega] at this
  exact this
theorem wd_x : nat (wdR x y c e) (c.length : Int) = x := by
  have := nat_appR (a := c) (b := [x] ++ ([y] ++ e)) (p := 0) (by omega)
  unfold wdR
  rw [List.append_assoc, List.append_assoc]
  rw [Int.add_zero] at this
  rw [this]; rfl
theorem wd_y : nat (wdR x y c e) ((c.length : Int) + 1) = y := by
  have := nat_appR (a := c) (b := [x] ++ ([y] ++ e)) (p := 1) (by omega)
  unfold wdR
  rw [List.append_assoc, List.append_assoc, this]; rfl
end
/-- the ends are those of the rows -/
structure Ends2 (a b : List Int) (x y : Int) : Prop where
  ha : 0 < a.length
  hb : 0 < b.length
  hx : x = nat a ((a.length : Int) - 1)
  hy : y = nat b 0
section
variable {a b c e : List Int} {x y : Int}
theorem Ends2.sL (h : Ends2 a b x y) : Still a [x] := still_same fun _ _ => by rw [h.hx]; rfl
theorem Ends2.sR (h : Ends2 a b x y) : Still [y] b := still_same fun _ _ => by
  have : nat [y] (([y].length : Int) - 1) = y := rfl
  rw [this, h.hy]
theorem Ends2.sM (h : Ends2 a b x y) : Still (a ++ [x]) ([y] ++ b) := fun p hp => by
  have ha := h.ha
  have hb := h.hb
  have l1 : (a ++ [x]).length = a.length + 1 := by rw [List.length_append]; rfl
  have ew : a ++ [x] ++ ([y] ++ b) = wdR x y a b := by unfold wdR; rw [List.append_assoc (a ++ [x])]
  have v1 : nat (wdR x y a b) ((a.length : Int) - 1) = x := by rw [wd_lo (by omega) (by omega), h.hx]
  have v2 : nat (wdR x y a b) (a.length : Int) = x := wd_x
  have v3 : nat (wdR x y a b) ((a.length : Int) + 1) = y := wd_y
  have v4 : nat (wdR x y a b) ((a.length : Int) + 2) = y := by
    have := wd_hi (x := x) (y := y) (c := a) (e := b) (q := 0) (by omega)
    rw [Int.add_zero] at this
    rw [this, h.hy]
  rw [ew]
  rw [l1] at hp
  rcases hp with rfl | rfl
  · refine ⟨fun t => ?_, fun t => ?_⟩ <;>
    · have := t.2.2.1
      rw [show ((a.length + 1 : Nat) : Int) - 1 - 1 = (a.length : Int) - 1 by omega, show ((a.length + 1 : Nat) : Int) - 1 = (a.length : Int) by omega, v1, v2] at this
      omega
  · refine ⟨fun t => ?_, fun t => ?_⟩ <;>
    · have := t.2.2.2
      rw [show ((a.length + 1 : Nat) : Int) + 1 = (a.length : Int) + 2 by omega, show ((a.length + 1 : Nat) : Int) = (a.length : Int) + 1 by omega, v3, v4] at this
      omega
theorem Ends2.keep (h : Ends2 a b x y) (hc : c.length = a.length) (he : e.length = b.length) : Keep (wdR x y a b) (wdR x y c e) ↔ Keep a c ∧ Keep b e := by
  have e1 : ∀ c e : List Int, wdR x y c e = (c ++ [x]) ++ ([y] ++ e) := fun c e => by unfold wdR; rw [List.append_assoc (c ++ [x])]
  rw [e1, e1, keep_join (by simp only [List.length_append, hc]) (by simp only [List.length_append, he]) h.sM, keep_join hc rfl h.sL, keep_join rfl he h.sR]
  constructor
  · rintro ⟨⟨k1, _⟩, _, k2⟩
    exact ⟨k1, k2⟩
  · rintro ⟨k1, k2⟩
    exact ⟨⟨k1, Keep.refl _⟩, Keep.refl _, k2⟩
theorem Ends2.fol (h : Ends2 a b x y) : folR (wdR x y a b) = (folR a).flatMap fun c => (folR b).map (wdR x y c) := by
  have e1 : wdR x y a b = (a ++ [x]) ++ ([y] ++ b) := by unfold wdR; rw [List.append_assoc (a ++ [x])]
  have f2 : folR ([y] ++ b) = (folR b).map ([y] ++ ·) := by
    rw [fol_join h.sR, fol_one]
    simp
  rw [e1, fol_join h.sM, fol_snoc h.sL, f2, List.flatMap_map]
  congr 1
  funext c
  rw [List.map_map]
  refine List.map_congr_left fun e _ => ?_
  show c ++ [x] ++ ([y] ++ e) = wdR x y c e
  unfold wdR
  rw [List.append_assoc (c ++ [x])]
theorem Ends2.len (h : Ends2 a b x y) : (folR (wdR x y a b)).length = (folR a).length * (folR b).length := by
  have := prod_filter (f := wdR x y) (P := fun _ => true) (P1 := fun _ => true) (P2 := fun _ => true) (l := folR a) (m := folR b) fun _ _ _ _ => rfl
  rw [List.filter_eq_self.mpr fun _ _ => rfl, List.filter_eq_self.mpr fun _ _ => rfl, List.filter_eq_self.mpr fun _ _ => rfl] at this
  rw [h.fol]; exact this
end
end DL
namespace DL
open PySem L2
end DL
namespace DL
open PySem PySem.Spec PyProof.Rows L2
end DL
namespace DL
open PySem PySem.Spec PyProof PyProof.Rows L2
end DL
namespace DL
open PySem PySem.Spec PyProof PyProof.Rows L2
open PySem.W (dataLe AllAlike EachIs dataLt)
end DL
namespace DL
open PySem PySem.Spec PyProof PyProof.Rows L2
section
variable {X : Cx} {K : PySem.W.Frag} {ta tb : TE}
def eOrF (a b : GF) (ρ : Rho) : R (List D) := (a ρ).bind fun xs ρ1 => match xs with
  | [] => b ρ1
  | x :: xs => .ok (x :: xs) ρ1
theorem df_or {a b : GF} (ha : DF K ta a) (hb : DF K tb b) : DF K (tOrT K ta tb) (eOrF a b) := fun b0 B Z0 Z H σ ρ ds ρ' Q ok e q => by
  obtain ⟨xs, ρ1, e1, e2⟩ := R.bind_ok e
  refine ha b0 B Z0 Z H σ ρ xs ρ1 _ ok e1 fun p vs H1 Z1 ok1 s1 zp bp ap hp ra => ?_
  cases ra with
  | nil =>
    refine ⟨false, .inl ⟨[], .inl (.inl hp), rfl⟩, hb b0 B Z0 Z1 H1 σ ρ1 ds ρ' Q ok1 e2 fun p vs H2 Z2 ok2 s2 => q p vs H2 Z2 ok2 (s1.trans s2)⟩
  | cons h r =>
    cases e2
    exact ⟨true, .inl ⟨_, .inl (.inl hp), rfl⟩, q p _ H1 Z1 ok1 s1 zp bp ap hp (.cons h r)⟩
end
end DL
namespace DL
open PySem PySem.Calls PySem.Spec PyProof PyProof.Rows PyProof.V L2
open PySem.W (EachIs KdlSrc)
end DL
namespace DL
open PySem PySem.Spec PyProof.Rows L2
end DL
namespace DL
open PySem PySem.Spec PyProof PyProof.Rows L2
section
variable {X : Cx} {K : PySem.W.Frag} {ta tb te to : TE}
def sliceS (d : D) (lo hi : Option Int) : Option D := match d with
  | .str z => if z.length ≤ sizeLine then some (.str (cutS z lo hi)) else none
  | _ => none
theorem sn_sliceS : SnSl K rSlS sliceS := fun b0 B Z0 Z H σ ρ x a lo hi c Q ok ha e q => by
  unfold sliceS at e
  split at e
  · split at e
    · rename_i hz
      cases e
      cases ha
      exact ⟨_, rfl, hz, q _ H Z ok (Same.refl Z) (.str _)⟩
    · cases e
  · cases e
def inS : D → D → Option D
  | .str a, .str z => (match a.cps.toList with
    | [c] => some (.bool (decide (c ∈ z.cps.toList)))
    | _ => none)
  | _, _ => none
theorem str_one {a : Str} {c : Nat} (h : a.cps.toList = [c]) : a = ⟨#[c]⟩ := by
  cases a with
  | mk cps =>
    have : cps = #[c] := Array.toList_inj.mp h
    rw [this]
theorem sn_inS : Sn2 K rInS inS := fun b0 B Z0 Z H σ ρ x y a b c Q ok ha hb e q => by
  unfold inS at e
  split at e
  · split at e
    · rename_i h
      cases e
      cases ha
      cases hb
      exact ⟨_, _, by rw [str_one h], rfl, q _ H Z ok (Same.refl Z) (.bl _)⟩
    · cases e
  · cases e
def signsD (z : Str) : List D := z.cps.toList.map fun c => .str ⟨#[c]⟩
def itS : D → Option (List D)
  | .str z => some (signsD z)
  | _ => none
def gStr (g : GE) (ρ : Rho) : R (List D) := (g ρ).bind fun d ρ1 => R.lift (itS d) ρ1
theorem signs_len (z : Str) : (signsD z).length = z.cps.size := by
  unfold signsD
  rw [List.length_map, Array.length_toList]
theorem wk_str {Z : Hp} {x : Str} : Wk K (Its x) Z (signsD x) where
  goes := fun i H hi s => by rw [signs_len] at hi; exact hi
  stops := fun H s => by rw [signs_len]; exact Nat.le_refl _
  yields := fun i H v H' hi y b0 B Z0 Z' σ ρ ok s => by
    obtain ⟨rfl, c, hc, rfl⟩ := y
    refine ⟨Z', .str ⟨#[c]⟩, ok, Same.refl Z', ?_, .str _⟩
    unfold signsD
    rw [List.getElem?_map, Array.getElem?_toList, hc]; rfl
theorem di_str {g : GE} (h : DE K te g) : DI K (iStr te) (gStr g) := fun b0 B Z0 Z H σ ρ ds ρ' W ok e q => by
  obtain ⟨d, ρ1, e1, e⟩ := R.bind_ok e
  obtain ⟨e2, rfl⟩ := R.lift_ok e
  unfold itS at e2
  split at e2
  · cases e2
    refine h b0 B Z0 Z H σ ρ _ _ _ ok e1 fun v H1 Z1 ok1 s1 r1 => ?_
    cases r1
    exact ⟨_, rfl, q _ H1 Z1 ok1 s1 wk_str⟩
  · cases e2
def rIntS : List V → Hp → VK → Prop := fun xs H Q => ∃ a n, xs = [.str a] ∧ PySem.intText? a = some n ∧ a.length ≤ 640 ∧ Q (.int n) H
theorem call_intS : CallR X (.type "int") rIntS := call_int_str
def intS : List D → Option D
  | [.str a] => if a.length ≤ 640 then (PySem.intText? a).map .int else none
  | _ => none
theorem sn_intS : SnA K rIntS intS := fun b0 B Z0 Z H σ ρ xs as c Q ok ha e q => by
  unfold intS at e
  split at e
  · split at e
    · rename_i hz
      obtain ⟨n, hn, rfl⟩ := Option.map_eq_some_iff.mp e
      cases ha with
      | cons h r =>
        cases r
        cases h
        exact ⟨_, n, rfl, hn, hz, q _ H Z ok (Same.refl Z) (.int _)⟩
    · cases e
  · cases e
theorem strs_rp {Z : Hp} : ∀ ys : List Str, RpA K Z (ys.map V.str) (ys.map PyData.str)
  | [] => .nil
  | y :: ys => .cons (.str _) (strs_rp ys)
def splitS : D → D → Option (List D)
  | .str a, .str b => if (b.length == 0) = false ∧ a.length + 2 ≤ sizeLine then some ((Txt.split a b).map .str) else none
  | _, _ => none
def eSplit (f g : GE) (ρ : Rho) : R (List D) := (f ρ).bind fun x ρ1 => (g ρ1).bind fun y ρ2 => R.lift (splitS x y) ρ2
theorem df_split {f g : GE} (hf : DE K to f) (hg : DE K te g) : DF K (tM1 (fun x xs H Q => ∃ a b, x = .str a ∧ xs = [.str b] ∧ (b.length == 0) = false ∧ a.length + 2 ≤ sizeLine ∧ rNewStrs (Txt.split a b) H Q) to te) (eSplit f g) := fun b0 B Z0 Z H σ ρ ds ρ' Q ok e q => by
  obtain ⟨x, ρ1, e1, e⟩ := R.bind_ok e
  obtain ⟨y, ρ2, e2, e⟩ := R.bind_ok e
  obtain ⟨e3, rfl⟩ := R.lift_ok e
  unfold splitS at e3
  split at e3
  · split at e3
    · rename_i hb
      cases e3
      refine hf b0 B Z0 Z H σ ρ _ _ _ ok e1 fun v H1 Z1 ok1 s1 r1 => ?_
      cases r1
      refine ⟨⟨_, rfl⟩, ?_⟩
      refine hg b0 B Z0 Z1 H1 σ ρ1 _ _ _ ok1 e2 fun w H2 Z2 ok2 s2 r2 => ?_
      cases r2
      refine ⟨_, _, rfl, rfl, hb.1, hb.2, fun p hp => ?_⟩
      obtain ⟨okf, zf, bf, af⟩ := ok2.fresh (o := .lst _) hp
      exact q p _ _ Z2 okf (s1.trans s2) zf bf af upd_same (strs_rp _)
    · cases e3
  · cases e3
def strsOf : List D → Option (List Str)
  | [] => some []
  | .str x :: r => (strsOf r).map (x :: ·)
  | _ :: _ => none
theorem strsOf_map : ∀ ys : List Str, strsOf (ys.map .str) = some ys
  | [] => rfl
  | y :: ys => by
    show (strsOf (ys.map .str)).map (y :: ·) = _
    rw [strsOf_map ys]; rfl
theorem strsOf_rp {Z : Hp} : ∀ {ds : List D} {xs : List V} {ys : List Str}, RpA K Z xs ds → strsOf ds = some ys → xs = ys.map V.str
  | [], _, _, .nil, e => by cases e; rfl
  | d :: ds, _, ys, .cons h r, e => by
    unfold strsOf at e
    split at e
    · rename_i ee; cases ee
    · rename_i x r' ee
      injection ee with e1 e2
      subst e1
      subst e2
      obtain ⟨zs, hz, rfl⟩ := Option.map_eq_some_iff.mp e
      cases h
      rw [strsOf_rp r hz]; rfl
    · cases e
def joinS : D → D → Option D
  | .str a, .list ds => (strsOf ds).bind fun ys => if (ys.map (·.length)).sum + ys.length * a.length ≤ 16777216 then some (.str (Txt.join a ys)) else none
  | _, _ => none
def eJoin (f g : GE) (ρ : Rho) : R D := (f ρ).bind fun x ρ1 => (g ρ1).bind fun y ρ2 => R.lift (joinS x y) ρ2
theorem de_join {f g : GE} (hf : DE K to f) (hg : DE K te g) : DE K (tM1 (fun x xs H Q => ∃ a p, ∃ ys : List Str, x = .str a ∧ xs = [.ref p] ∧ (SqL K H p (ys.map V.str) ∨ SqT K H p (ys.map V.str)) ∧ (ys.map (·.length)).sum + ys.length * a.length ≤ 16777216 ∧ Q (.str (Txt.join a ys)) H) to te) (eJoin f g) := fun b0 B Z0 Z H σ ρ d ρ' Q ok e q => by
  obtain ⟨x, ρ1, e1, e⟩ := R.bind_ok e
  obtain ⟨y, ρ2, e2, e⟩ := R.bind_ok e
  obtain ⟨e3, rfl⟩ := R.lift_ok e
  unfold joinS at e3
  split at e3
  · obtain ⟨ys, hy, e3⟩ := Option.bind_eq_some_iff.mp e3
    split at e3
    · rename_i hb
      cases e3
      refine hf b0 B Z0 Z H σ ρ _ _ _ ok e1 fun v H1 Z1 ok1 s1 r1 => ?_
      cases r1
      refine ⟨⟨_, rfl⟩, ?_⟩
      refine hg b0 B Z0 Z1 H1 σ ρ1 _ _ _ ok1 e2 fun w H2 Z2 ok2 s2 r2 => ?_
      cases r2 with
      | lst hs ra =>
        rw [strsOf_rp ra hy] at hs
        exact ⟨_, _, ys, rfl, rfl, .inl (.inl (.inl (ok2.zh _ _ hs))), hb, q _ H2 Z2 ok2 (s1.trans s2) (.str _)⟩
    · cases e3
  · cases e3
end
end DL
namespace DL
open PySem PySem.Spec PyProof PyProof.Rows L2
section
variable {X : Cx} {K : PySem.W.Frag} {tas : TA}
def eCallXN (F : List D → RX D) (ga : GA) (ρ : Rho) : R (List D) := (ga ρ).bind fun os ρ1 => match valA os with
  | some ds => if ds.all flatD = true then (match F ds with
    | .ok (.list es) => if es.all flatD = true then .ok es ρ1 else .bad
    | _ => .bad) else .bad
  | none => .bad
theorem flat_rpA {Z Z' : Hp} : ∀ {vs : List V} {ds : List D}, ds.all flatD = true → RpA K Z vs ds → RpA K Z' vs ds
  | _, _, _, .nil => .nil
  | _, _, h, .cons r rs => by
    rw [List.all_cons, Bool.and_eq_true] at h
    exact .cons (flat_rp h.1 r) (flat_rpA h.2 rs)
theorem df_callXN {np : Nat} {F : List D → RX D} {ga : GA} {E : XK} (hF : ∀ ds, F ds ≠ .bad → ds.length = np) (ha : DA K tas ga) : DF K (tCall (spX K np F) [] E tas) (eCallXN F ga) := fun b0 B Z0 Z H σ ρ es ρ' Q ok e q => by
  obtain ⟨os, ρ1, e1, e⟩ := R.bind_ok e
  split at e
  · rename_i ds hv
    split at e
    · rename_i hfl
      split at e
      · rename_i es' hF'
        split at e
        · rename_i hfe
          cases e
          refine ha b0 B Z0 Z H σ ρ os ρ' _ ok e1 fun vs H1 Z1 ok1 s1 r1 => ?_
          have rA := valA_ok r1 hv
          refine ⟨by rw [List.append_nil, rA.length]; exact hF _ (by rw [hF']; exact fun z => nomatch z), (fun _ => none), ds, (fun _ _ z => nomatch z), by rw [List.append_nil]; exact flat_rpA hfl rA, ?_⟩
          rw [hF']
          intro v H' Z' hh g r
          cases r with
          | lst ha' ra =>
            have hp := (g.2.2 _ _ ha').resolve_left fun z => nomatch z
            exact q _ _ H' Z1 (ok1.grow hh ⟨Same.refl Z1, ok1.zh.trans hh, fun p o z => .inl z⟩) s1 (ok1.zh.free hp) (ok1.bh.free hp) (apart_new ok1 hp) (g.2.1 _ _ ha') (flat_rpA hfe ra)
        · cases e
      · cases e
    · cases e
  · cases e
end
end DL
namespace W
open PySem L2 DL
def topS (i : Nat) : Stmt := PySem.Challenge.pw_middlecall_k64_texts_and_back.main.body.getD i (.Pass ⟨0, 0, 0, 0⟩)
abbrev CsL : List Str := ["BadText"]
abbrev UsL : List Str := []
abbrev tl_ValueError : List Value := [.type "ValueError", .type "Exception", .type "BaseException", .type "object"]
abbrev si_BadText : Stmt := inClass (topS 1) 0
theorem sci_BadText : FnScope ["self", "text"] ["self", "text"] (defScope si_BadText) := ⟨rfl, rfl, rfl, by decide +kernel, rfl, by decide +kernel, by decide +kernel⟩
abbrev s__law_folded : Stmt := topS 28
abbrev N__law_folded : List Str := ["_law_script", "_law_most", "_law_cells", "_law_k", "_law_cell"]
theorem sc__law_folded : FnScope N__law_folded ["_law_script", "_law_most"] (defScope s__law_folded) := ⟨rfl, rfl, rfl, by decide +kernel, rfl, by decide +kernel, by decide +kernel⟩
def gb__law_folded_1 : GS :=
    (sPutIx 2 (eOp2 modD (oE (eV 3)) (oE (eV 1))) (eOp2 addU (oE (eOp2 ixD (oV 2) (oE (eOp2 modD (oE (eV 3)) (oE (eV 1)))))) (oE (eOp2 mulV (oE (eV 4)) (oE (eOp2 addU (oE (eV 3)) (oE (eC (.int 2)))))))))
def g__law_folded : GS :=
    (sSeq (sSetO 2 (eOrF (eApp listD (aCons (oE (eSl sliceU (oE (eV 0)) pNo (pSo (eV 1)))) aNil)) (eSeq (aCons (oE (eC (.int 0))) aNil))))
    (sSeq (sFor (eCall enum1D (aCons (oE (eSl sliceU (oE (eV 0)) (pSo (eV 1)) (pSo (eC (.int 63))))) aNil)) (gT 2 (gsCons (gN 3) (gsCons (gN 4) gsNil))) gb__law_folded_1)
    (sRetO 2)))
def F__law_folded : List D → Option (List D) := callF 2 5 g__law_folded
abbrev s__law_draw : Stmt := topS 27
abbrev N__law_draw : List Str := ["_law_source", "_law_bound", "_law_once", "_law_twice", "_law_found"]
theorem sc__law_draw : FnScope N__law_draw ["_law_source", "_law_bound"] (defScope s__law_draw) := ⟨rfl, rfl, rfl, by decide +kernel, rfl, by decide +kernel, by decide +kernel⟩
def g__law_draw (Frec : List D → List D → Option (D × List D)) : GS :=
    (sSeq (sIf (tstE (eOp2 gtD (oE (eOp2 ixD (oV 0) (oE (eC (.int 0))))) (oE (eC (.int 0))))) (sSeq (sSet 4 (eOp2 modD (oE (eOp2 ixD (oV 0) (oE (eC (.int 0))))) (oE (eV 1))))
    (sSeq (sPutIx 0 (eC (.int 0)) (eOp2 fdivD (oE (eOp2 ixD (oV 0) (oE (eC (.int 0))))) (oE (eV 1))))
    (sRet (eV 4))))
    sNext)
    (sSeq (sIf (tstE (eOp2 gtD (oE (eV 1)) (oE (eOp2 powD (oE (eC (.int 10))) (oE (eC (.int 7))))))) (sRet (eOp2 modD (oE (eOp2 addU (oE (eCallB Frec 0 (aCons (oE (eOp2 powD (oE (eC (.int 10))) (oE (eC (.int 7))))) aNil))) (oE (eOp2 mulV (oE (eOp2 powD (oE (eC (.int 10))) (oE (eC (.int 7))))) (oE (eCallB Frec 0 (aCons (oE (eOp2 addU (oE (eOp2 fdivD (oE (eOp2 subD (oE (eV 1)) (oE (eC (.int 1))))) (oE (eOp2 powD (oE (eC (.int 10))) (oE (eC (.int 7))))))) (oE (eC (.int 1))))) aNil))))))) (oE (eV 1))))
    sNext)
    (sSeq (sPutIx 0 (eC (.int 2)) (eOp2 addU (oE (eOp2 ixD (oV 0) (oE (eC (.int 2))))) (oE (eC (.int 1)))))
    (sSeq (sSet 2 (eOp2 modD (oE (eOp2 mulV (oE (eOp2 addU (oE (eOp2 ixD (oV 0) (oE (eC (.int 1))))) (oE (eOp2 mulV (oE (eC (.int 48271))) (oE (eOp2 ixD (oV 0) (oE (eC (.int 2))))))))) (oE (eOp2 addU (oE (eC (.int 39373))) (oE (eOp2 ixD (oV 0) (oE (eC (.int 2))))))))) (oE (eC (.int 2147483647)))))
    (sSeq (sSet 3 (eOp2 modD (oE (eOp2 mulV (oE (eOp2 addU (oE (eOp2 addU (oE (eV 2)) (oE (eOp2 ixD (oV 0) (oE (eC (.int 2))))))) (oE (eOp2 fdivD (oE (eOp2 ixD (oV 0) (oE (eC (.int 1))))) (oE (eC (.int 1000003))))))) (oE (eOp2 addU (oE (eOp2 modD (oE (eV 2)) (oE (eC (.int 40009))))) (oE (eC (.int 7))))))) (oE (eC (.int 2147483629)))))
    (sRet (eOp2 modD (oE (eOp2 fdivD (oE (eOp2 modD (oE (eOp2 addU (oE (eOp2 mulV (oE (eV 3)) (oE (eC (.int 48271))))) (oE (eV 2)))) (oE (eC (.int 2147483587))))) (oE (eC (.int 64))))) (oE (eV 1)))))))))
def F__law_draw : Nat → List D → List D → Option (D × List D)
  | 0 => fun _ _ => none
  | n + 1 => callB 2 5 (g__law_draw (F__law_draw n))
theorem Fl__law_draw : ∀ (n : Nat) b ds d, F__law_draw n b ds = some d → ds.length + 1 = 2
  | 0, b, ds, d, h => nomatch h
  | n + 1, b, ds, d, h => callB_len b ds d h
abbrev s__law_joined : Stmt := topS 32
abbrev N__law_joined : List Str := ["_law_words"]
theorem sc__law_joined : FnScope N__law_joined ["_law_words"] (defScope s__law_joined) := ⟨rfl, rfl, rfl, by decide +kernel, rfl, by decide +kernel, by decide +kernel⟩
def g__law_joined : GS :=
    (sRet (eIf (tstE (eOp2 neW (oE (eV 0)) (oE (eL (eSeq aNil))))) (eJoin (eC (.str " ")) (eV 0)) (eC (.str "-"))))
def F__law_joined : List D → Option D := callP 1 1 g__law_joined
abbrev s__law_line : Stmt := topS 31
abbrev N__law_line : List Str := ["_law_source", "_law_most", "_law_top", "_law_found", "_law_turns", "_law_low", "_law_turn", "_law_number"]
theorem sc__law_line : FnScope N__law_line ["_law_source", "_law_most", "_law_top"] (defScope s__law_line) := ⟨rfl, rfl, rfl, by decide +kernel, rfl, by decide +kernel, by decide +kernel⟩
def gb__law_line_1 : GS :=
    (sSeq (sSet 7 (eOp2 subD (oE (eCallB (F__law_draw 8) 0 (aCons (oE (eV 2)) aNil))) (oE (eV 5))))
    (sSeq (sIf (tstE (eOp2 gtD (oE (eV 4)) (oE (eC (.int 0))))) (sSet 7 (eOp2 addU (oE (eV 7)) (oE (eOp2 mulV (oE (eOp2 mulV (oE (eV 2)) (oE (eOp2 modD (oE (eV 6)) (oE (eC (.int 2))))))) (oE (eCallB (F__law_draw 8) 0 (aCons (oE (eC (.int 2))) aNil)))))))
    sNext)
    (sApp 3 (eIf (tAndG (tstE (eOp2 neW (oV 3) (oE (eL (eSeq aNil))))) (tstE (eOp2 eqW (oE (eCallB (F__law_draw 8) 0 (aCons (oE (eC (.int 7))) aNil))) (oE (eC (.int 0)))))) (eOp2 ixD (oV 3) (oE (eOp1 negD (oE (eC (.int 1)))))) (eV 7)))))
def g__law_line : GS :=
    (sSeq (sTupN [3, 4, 5] (nlCons (nF (eSeq aNil)) (nlCons (nS (eCallB (F__law_draw 8) 0 (aCons (oE (eC (.int 3))) aNil))) (nlCons (nS (eOp2 fdivD (oE (eOp2 mulV (oE (eCallB (F__law_draw 8) 0 (aCons (oE (eC (.int 3))) aNil))) (oE (eV 2)))) (oE (eC (.int 3))))) nlNil))))
    (sSeq (sFor (eCall rng1 (aCons (oE (eCallB (F__law_draw 8) 0 (aCons (oE (eOp2 addU (oE (eV 1)) (oE (eC (.int 1))))) aNil))) aNil)) (gN 6) gb__law_line_1)
    (sRet (eApp tupleD (aCons (oV 3) aNil)))))
def F__law_line : List D → List D → Option (D × List D) := callB 3 8 g__law_line
abbrev s__law_pick : Stmt := topS 29
abbrev N__law_pick : List Str := ["_law_source", "_law_some"]
theorem sc__law_pick : FnScope N__law_pick ["_law_source", "_law_some"] (defScope s__law_pick) := ⟨rfl, rfl, rfl, by decide +kernel, rfl, by decide +kernel, by decide +kernel⟩
def g__law_pick : GS :=
    (sRet (eOp2 ixD (oE (eV 1)) (oE (eCallB (F__law_draw 8) 0 (aCons (oE (eApp lenD (aCons (oE (eV 1)) aNil))) aNil)))))
def F__law_pick : List D → List D → Option (D × List D) := callB 2 2 g__law_pick
abbrev s__law_same : Stmt := topS 30
abbrev N__law_same : List Str := ["_law_found", "_law_due", "_law_mine", "_law_its"]
theorem sc__law_same : FnScope N__law_same ["_law_found", "_law_due"] (defScope s__law_same) := ⟨rfl, rfl, rfl, by decide +kernel, rfl, by decide +kernel, by decide +kernel⟩
def ce__law_same_1 (Frec : List D → Option D) : GE :=
    (eCall Frec (aCons (oE (eV 2)) (aCons (oE (eV 3)) aNil)))
def g__law_same (Frec : List D → Option D) : GS :=
    (sSeq (sIf (tstE (eOp1 (isiTD ["list", "tuple"]) (oE (eV 1)))) (sSeq (sIf (tOrG (tstE (eOp2 neW (oE (eOp1 (isiD "list") (oE (eV 0)))) (oE (eOp1 (isiD "list") (oE (eV 1)))))) (tstE (eOp2 neW (oE (eOp1 (isiD "tuple") (oE (eV 0)))) (oE (eOp1 (isiD "tuple") (oE (eV 1))))))) (sRet (eC (.bool false)))
    sNext)
    (sRet (eAndG (eOp2 eqW (oE (eApp lenD (aCons (oE (eV 0)) aNil))) (oE (eApp lenD (aCons (oE (eV 1)) aNil)))) (eApp allD (aCons (oE (eL (eLc [2, 3] (eCall zip2D (aCons (oE (eV 0)) (aCons (oE (eV 1)) aNil))) (gT 2 (gsCons (gN 2) (gsCons (gN 3) gsNil))) gYes (ce__law_same_1 Frec)))) aNil)))))
    sNext)
    (sSeq (sIf (tOrG (tstE (eOp2 isD (oE (eV 1)) (oE (eC .none)))) (tstE (eOp1 (isiTD ["bool", "str"]) (oE (eV 1))))) (sRet (eAndG (eOp2 eqW (oE (eV 0)) (oE (eV 1))) (eAndG (eOp2 eqW (oE (eOp1 (isiD "bool") (oE (eV 0)))) (oE (eOp1 (isiD "bool") (oE (eV 1))))) (eOp2 eqW (oE (eOp2 isD (oE (eV 0)) (oE (eC .none)))) (oE (eOp2 isD (oE (eV 1)) (oE (eC .none))))))))
    sNext)
    (sRet (eAndG (eOp1 (isiD "int") (oE (eV 0))) (eAndG (eNotG (eOp1 (isiD "bool") (oE (eV 0)))) (eOp2 eqW (oE (eV 0)) (oE (eV 1))))))))
def F__law_same : Nat → List D → Option D
  | 0 => fun _ => none
  | n + 1 => callP 2 4 (g__law_same (F__law_same n))
theorem Fl__law_same : ∀ (n : Nat) ds d, F__law_same n ds = some d → ds.length = 2
  | 0, ds, d, h => nomatch h
  | n + 1, ds, d, h => callP_len ds d h
abbrev s_all_or_none : Stmt := topS 17
abbrev N_all_or_none : List Str := ["found"]
theorem sc_all_or_none : FnScope N_all_or_none ["found"] (defScope s_all_or_none) := ⟨rfl, rfl, rfl, by decide +kernel, rfl, by decide +kernel, by decide +kernel⟩
def g_all_or_none : GS :=
    (sRet (eIf (tstE (eOp2 inX (oE (eC .none)) (oE (eV 0)))) (eC .none) (eV 0)))
def F_all_or_none : List D → Option D := callP 1 1 g_all_or_none
abbrev s_count_in : Stmt := topS 14
abbrev N_count_in : List Str := ["part", "digit"]
theorem sc_count_in : FnScope N_count_in ["part"] (defScope s_count_in) := ⟨rfl, rfl, rfl, by decide +kernel, rfl, by decide +kernel, by decide +kernel⟩
def ce_count_in_1 : GE :=
    (eOp2 inS (oE (eV 1)) (oE (eC (.str "0123456789"))))
def g_count_in : GS :=
    (sSeq (sIf (tOrG (tNotG (tstE (eChain leD leD (oE (eC (.int 1))) (oE (eApp lenD (aCons (oE (eV 0)) aNil))) (oE (eC (.int 50)))))) (tNotG (tstE (eApp allD (aCons (oE (eL (eLc [1] (gStr (eV 0)) (gN 1) gYes ce_count_in_1))) aNil))))) (sRet (eC .none))
    sNext)
    (sRet (eIf (tOrG (tstE (eOp2 eqW (oE (eV 0)) (oE (eC (.str "0"))))) (tstE (eOp2 neW (oE (eOp2 ixD (oE (eV 0)) (oE (eC (.int 0))))) (oE (eC (.str "0")))))) (eApp intS (aCons (oE (eV 0)) aNil)) (eC .none))))
def F_count_in : List D → Option D := callP 1 2 g_count_in
abbrev s_words_of : Stmt := topS 16
abbrev N_words_of : List Str := ["text"]
theorem sc_words_of : FnScope N_words_of ["text"] (defScope s_words_of) := ⟨rfl, rfl, rfl, by decide +kernel, rfl, by decide +kernel, by decide +kernel⟩
def g_words_of : GS :=
    (sRet (eIf (tstE (eOp2 eqW (oE (eV 0)) (oE (eC (.str "-"))))) (eL (eSeq aNil)) (eL (eSplit (eV 0) (eC (.str " "))))))
def F_words_of : List D → Option D := callP 1 1 g_words_of
abbrev s_calls_or_none : Stmt := topS 19
abbrev N_calls_or_none : List Str := ["text", "word"]
theorem sc_calls_or_none : FnScope N_calls_or_none ["text"] (defScope s_calls_or_none) := ⟨rfl, rfl, rfl, by decide +kernel, rfl, by decide +kernel, by decide +kernel⟩
def ce_calls_or_none_1 : GE :=
    (eCall F_count_in (aCons (oE (eV 1)) aNil))
def g_calls_or_none : GS :=
    (sRet (eCall F_all_or_none (aCons (oE (eL (eLc [1] (gSeq (eCall F_words_of (aCons (oE (eV 0)) aNil))) (gN 1) gYes ce_calls_or_none_1))) aNil)))
def F_calls_or_none : List D → Option D := callP 1 2 g_calls_or_none
abbrev s_checked : Stmt := topS 21
abbrev N_checked : List Str := ["value", "text"]
theorem sc_checked : FnScope N_checked ["value", "text"] (defScope s_checked) := ⟨rfl, rfl, rfl, by decide +kernel, rfl, by decide +kernel, by decide +kernel⟩
def g_checked : GS :=
    (sSeq (sIf (tstE (eOp2 isD (oE (eV 0)) (oE (eC .none)))) (sRaise "BadText" (eV 1))
    sNext)
    (sRet (eV 0)))
def F_checked : List D → RX D := callX 2 2 g_checked
abbrev s_calls_in : Stmt := topS 23
abbrev N_calls_in : List Str := ["text"]
theorem sc_calls_in : FnScope N_calls_in ["text"] (defScope s_calls_in) := ⟨rfl, rfl, rfl, by decide +kernel, rfl, by decide +kernel, by decide +kernel⟩
def g_calls_in : GS :=
    (sRetX (eCallX F_checked (aCons (oE (eCall F_calls_or_none (aCons (oE (eV 0)) aNil))) (aCons (oE (eV 0)) aNil))))
def F_calls_in : List D → RX D := callX 1 1 g_calls_in
abbrev s_joined_text : Stmt := topS 9
abbrev N_joined_text : List Str := ["words"]
theorem sc_joined_text : FnScope N_joined_text ["words"] (defScope s_joined_text) := ⟨rfl, rfl, rfl, by decide +kernel, rfl, by decide +kernel, by decide +kernel⟩
def g_joined_text : GS :=
    (sRet (eIf (tstE (eOp2 gtD (oE (eApp lenD (aCons (oE (eV 0)) aNil))) (oE (eC (.int 0))))) (eJoin (eC (.str " ")) (eV 0)) (eC (.str "-"))))
def F_joined_text : List D → Option D := callP 1 1 g_joined_text
abbrev s_numbers_text : Stmt := topS 10
abbrev N_numbers_text : List Str := ["numbers", "number"]
theorem sc_numbers_text : FnScope N_numbers_text ["numbers"] (defScope s_numbers_text) := ⟨rfl, rfl, rfl, by decide +kernel, rfl, by decide +kernel, by decide +kernel⟩
def ce_numbers_text_1 : GE :=
    (eApp strD (aCons (oE (eV 1)) aNil))
def g_numbers_text : GS :=
    (sRet (eCall F_joined_text (aCons (oE (eL (eLc [1] (gSeq (eV 0)) (gN 1) gYes ce_numbers_text_1))) aNil)))
def F_numbers_text : List D → Option D := callP 1 2 g_numbers_text
abbrev s_calls_text : Stmt := topS 12
abbrev N_calls_text : List Str := ["calls"]
theorem sc_calls_text : FnScope N_calls_text ["calls"] (defScope s_calls_text) := ⟨rfl, rfl, rfl, by decide +kernel, rfl, by decide +kernel, by decide +kernel⟩
def g_calls_text : GS :=
    (sRet (eCall F_numbers_text (aCons (oE (eV 0)) aNil)))
def F_calls_text : List D → Option D := callP 1 1 g_calls_text
abbrev s_integer_in : Stmt := topS 15
abbrev N_integer_in : List Str := ["part", "found"]
theorem sc_integer_in : FnScope N_integer_in ["part"] (defScope s_integer_in) := ⟨rfl, rfl, rfl, by decide +kernel, rfl, by decide +kernel, by decide +kernel⟩
def g_integer_in : GS :=
    (sSeq (sIf (tstE (eOp2 neW (oE (eSl sliceS (oE (eV 0)) pNo (pSo (eC (.int 1))))) (oE (eC (.str "-"))))) (sRet (eCall F_count_in (aCons (oE (eV 0)) aNil)))
    sNext)
    (sSeq (sSet 1 (eCall F_count_in (aCons (oE (eSl sliceS (oE (eV 0)) (pSo (eC (.int 1))) pNo)) aNil)))
    (sRet (eIf (tAndG (tstE (eOp2 isNotD (oE (eV 1)) (oE (eC .none)))) (tstE (eOp2 gtD (oE (eV 1)) (oE (eC (.int 0)))))) (eOp1 negD (oE (eV 1))) (eC .none)))))
def F_integer_in : List D → Option D := callP 1 2 g_integer_in
abbrev s_row_or_none : Stmt := topS 18
abbrev N_row_or_none : List Str := ["text", "found", "word"]
theorem sc_row_or_none : FnScope N_row_or_none ["text"] (defScope s_row_or_none) := ⟨rfl, rfl, rfl, by decide +kernel, rfl, by decide +kernel, by decide +kernel⟩
def ce_row_or_none_1 : GE :=
    (eCall F_integer_in (aCons (oE (eV 2)) aNil))
def g_row_or_none : GS :=
    (sSeq (sSet 1 (eCall F_all_or_none (aCons (oE (eL (eLc [2] (gSeq (eCall F_words_of (aCons (oE (eV 0)) aNil))) (gN 2) gYes ce_row_or_none_1))) aNil)))
    (sRet (eIf (tstE (eOp2 isD (oE (eV 1)) (oE (eC .none)))) (eC .none) (eApp tupleD (aCons (oE (eV 1)) aNil)))))
def F_row_or_none : List D → Option D := callP 1 3 g_row_or_none
abbrev s_row_in : Stmt := topS 22
abbrev N_row_in : List Str := ["text"]
theorem sc_row_in : FnScope N_row_in ["text"] (defScope s_row_in) := ⟨rfl, rfl, rfl, by decide +kernel, rfl, by decide +kernel, by decide +kernel⟩
def g_row_in : GS :=
    (sRetX (eCallX F_checked (aCons (oE (eCall F_row_or_none (aCons (oE (eV 0)) aNil))) (aCons (oE (eV 0)) aNil))))
def F_row_in : List D → RX D := callX 1 1 g_row_in
abbrev s_row_text : Stmt := topS 11
abbrev N_row_text : List Str := ["row"]
theorem sc_row_text : FnScope N_row_text ["row"] (defScope s_row_text) := ⟨rfl, rfl, rfl, by decide +kernel, rfl, by decide +kernel, by decide +kernel⟩
def g_row_text : GS :=
    (sRet (eCall F_numbers_text (aCons (oE (eV 0)) aNil)))
def F_row_text : List D → Option D := callP 1 1 g_row_text
abbrev s_wish_or_none : Stmt := topS 20
abbrev N_wish_or_none : List Str := ["text", "words", "word"]
theorem sc_wish_or_none : FnScope N_wish_or_none ["text"] (defScope s_wish_or_none) := ⟨rfl, rfl, rfl, by decide +kernel, rfl, by decide +kernel, by decide +kernel⟩
def ce_wish_or_none_1 : GE :=
    (eOrG (eOp2 eqW (oE (eV 2)) (oE (eC (.str "?")))) (eOp2 isNotD (oE (eCall F_integer_in (aCons (oE (eV 2)) aNil))) (oE (eC .none))))
def ce_wish_or_none_2 : GE :=
    (eCall F_integer_in (aCons (oE (eV 2)) aNil))
def g_wish_or_none : GS :=
    (sSeq (sSet 1 (eCall F_words_of (aCons (oE (eV 0)) aNil)))
    (sSeq (sIf (tNotG (tstE (eApp allD (aCons (oE (eL (eLc [2] (gSeq (eV 1)) (gN 2) gYes ce_wish_or_none_1))) aNil)))) (sRet (eC .none))
    sNext)
    (sRet (eApp tupleD (aCons (oE (eL (eLc [2] (gSeq (eV 1)) (gN 2) gYes ce_wish_or_none_2))) aNil)))))
def F_wish_or_none : List D → Option D := callP 1 3 g_wish_or_none
abbrev s_wish_in : Stmt := topS 24
abbrev N_wish_in : List Str := ["text"]
theorem sc_wish_in : FnScope N_wish_in ["text"] (defScope s_wish_in) := ⟨rfl, rfl, rfl, by decide +kernel, rfl, by decide +kernel, by decide +kernel⟩
def g_wish_in : GS :=
    (sRetX (eCallX F_checked (aCons (oE (eCall F_wish_or_none (aCons (oE (eV 0)) aNil))) (aCons (oE (eV 0)) aNil))))
def F_wish_in : List D → RX D := callX 1 1 g_wish_in
abbrev s_wish_text : Stmt := topS 13
abbrev N_wish_text : List Str := ["wish", "number"]
theorem sc_wish_text : FnScope N_wish_text ["wish"] (defScope s_wish_text) := ⟨rfl, rfl, rfl, by decide +kernel, rfl, by decide +kernel, by decide +kernel⟩
def ce_wish_text_1 : GE :=
    (eIf (tstE (eOp2 isD (oE (eV 1)) (oE (eC .none)))) (eC (.str "?")) (eApp strD (aCons (oE (eV 1)) aNil)))
def g_wish_text : GS :=
    (sRet (eCall F_joined_text (aCons (oE (eL (eLc [1] (gSeq (eV 0)) (gN 1) gYes ce_wish_text_1))) aNil)))
def F_wish_text : List D → Option D := callP 1 2 g_wish_text
abbrev s__law_right : Stmt := topS 33
abbrev N__law_right : List Str := ["_law_source", "_law_line_here", "_law_tape", "_law_hope", "_law_turn", "_law_due", "_law_found", "_law_large", "_law_words", "_law_own", "_law_who"]
theorem sc__law_right : FnScope N__law_right ["_law_source"] (defScope s__law_right) := ⟨rfl, rfl, rfl, by decide +kernel, rfl, by decide +kernel, by decide +kernel⟩
def gb__law_right_1 : GS :=
    (sApp 2 (eCallB (F__law_draw 8) 0 (aCons (oE (eCallB F__law_pick 0 (aCons (oE (eL (eSeq (aCons (oE (eC (.int 16))) (aCons (oE (eOp2 powD (oE (eC (.int 10))) (oE (eC (.int 9))))) aNil))))) aNil))) aNil)))
def gb__law_right_2 : GS :=
    (sApp 3 (eCallB F__law_pick 0 (aCons (oE (eL (eSeq (aCons (oE (eC .none)) (aCons (oE (eCallB (F__law_draw 8) 0 (aCons (oE (eOp2 powD (oE (eC (.int 10))) (oE (eC (.int 40))))) aNil))) (aCons (oE (eOp2 subD (oE (eC (.int 4))) (oE (eCallB (F__law_draw 8) 0 (aCons (oE (eC (.int 9))) aNil))))) aNil)))))) aNil)))
def ce__law_right_3 : GE :=
    (eApp strD (aCons (oE (eV 10)) aNil))
def ce__law_right_4 : GE :=
    (eApp strD (aCons (oE (eV 9)) aNil))
def ce__law_right_5 : GE :=
    (eIf (tstE (eOp2 isD (oE (eV 9)) (oE (eC .none)))) (eC (.str "?")) (eApp strD (aCons (oE (eV 9)) aNil)))
def ce__law_right_6 : GE :=
    (eOp2 addU (oE (eC (.int 100))) (oE (eOp2 modD (oE (eOp2 mulV (oE (eC (.int 7))) (oE (eV 4)))) (oE (eC (.int 61))))))
def gr__law_right_7 : GS :=
    (sSeq (sIf (tNotG (tstE (eCall (F__law_same 6) (aCons (oE (eL (eSeq (aCons (oE (eCallWX F_row_in 1 @idL (aCons (oE (eOp2 ixD (oV 5) (oE (eC (.int 0))))) aNil))) (aCons (oE (eCallWX F_calls_in 1 @idL (aCons (oE (eOp2 ixD (oV 5) (oE (eC (.int 1))))) aNil))) (aCons (oE (eCallWX F_wish_in 1 @idL (aCons (oE (eOp2 ixD (oV 5) (oE (eC (.int 2))))) aNil))) aNil)))))) (aCons (oE (eL (eSeq (aCons (oE (eV 1)) (aCons (oE (eV 2)) (aCons (oE (eV 3)) aNil)))))) aNil))))) (sRet (eC (.bool false)))
    sNext)
    (sSeq (sSet 7 (eApp tupleD (aCons (oE (eL (eLc [4] (eCall rng1 (aCons (oE (eOp2 addU (oE (eC (.int 17))) (oE (eCallB (F__law_draw 8) 0 (aCons (oE (eC (.int 44))) aNil))))) aNil)) (gN 4) gYes ce__law_right_6))) aNil)))
    (sSeq (sSet 8 (eJoin (eC (.str " ")) (eL (eLc [9] (gSeq (eV 7)) (gN 9) gYes ce__law_right_4))))
    (sSeq (sSet 6 (eL (eSeq (aCons (oE (eCallX F_row_in (aCons (oE (eV 8)) aNil))) (aCons (oE (eCallX F_calls_in (aCons (oE (eV 8)) aNil))) (aCons (oE (eCallX F_wish_in (aCons (oE (eV 8)) aNil))) (aCons (oE (eCall F_row_text (aCons (oE (eT (eSeq aNil))) aNil))) aNil)))))))
    (sSeq (sSet 6 (eOp2 addU (oE (eV 6)) (oE (eL (eSeq (aCons (oE (eCall F_calls_text (aCons (oE (eL (eSeq aNil))) aNil))) (aCons (oE (eCall F_wish_text (aCons (oE (eL (eSeq aNil))) aNil))) (aCons (oE (eCallX F_row_in (aCons (oE (eC (.str "-"))) aNil))) (aCons (oE (eCallX F_calls_in (aCons (oE (eC (.str "-"))) aNil))) (aCons (oE (eCallX F_wish_in (aCons (oE (eC (.str "-"))) aNil))) aNil))))))))))
    (sRet (eCall (F__law_same 6) (aCons (oE (eV 6)) (aCons (oE (eL (eSeq (aCons (oE (eV 7)) (aCons (oE (eL (eApp listD (aCons (oE (eV 7)) aNil)))) (aCons (oE (eV 7)) (aCons (oE (eC (.str "-"))) (aCons (oE (eC (.str "-"))) (aCons (oE (eC (.str "-"))) (aCons (oE (eT (eSeq aNil))) (aCons (oE (eL (eSeq aNil))) (aCons (oE (eT (eSeq aNil))) aNil)))))))))))) aNil)))))))))
def g__law_right : GS :=
    (sSeq (sSet 1 (eCallB F__law_line 0 (aCons (oE (eC (.int 16))) (aCons (oE (eCallB F__law_pick 0 (aCons (oE (eL (eSeq (aCons (oE (eC (.int 5))) (aCons (oE (eC (.int 300))) (aCons (oE (eOp2 powD (oE (eC (.int 10))) (oE (eC (.int 39))))) aNil)))))) aNil))) aNil))))
    (sSeq (sPar 2 3 (nF (eSeq aNil)) (nF (eSeq aNil)))
    (sSeq (sFor (eCall rng1 (aCons (oE (eCallB (F__law_draw 8) 0 (aCons (oE (eC (.int 20))) aNil))) aNil)) (gN 4) gb__law_right_1)
    (sSeq (sFor (eCall rng1 (aCons (oE (eCallB (F__law_draw 8) 0 (aCons (oE (eC (.int 17))) aNil))) aNil)) (gN 4) gb__law_right_2)
    (sSeq (sSet 3 (eApp tupleD (aCons (oV 3) aNil)))
    (sSeq (sFz 2 (sSetO 5 (eSeq (aCons (oE (eCall F__law_joined (aCons (oE (eL (eLc [9] (gSeq (eV 1)) (gN 9) gYes ce__law_right_4))) aNil))) (aCons (oE (eCall F__law_joined (aCons (oE (eL (eLc [10] (gSeq (eV 2)) (gN 10) gYes ce__law_right_3))) aNil))) aNil)))))
    (sSeq (sApp 5 (eCall F__law_joined (aCons (oE (eL (eLc [9] (gSeq (eV 3)) (gN 9) gYes ce__law_right_5))) aNil)))
    (sSeq (sSet 6 (eL (eSeq (aCons (oE (eCall F_row_text (aCons (oE (eV 1)) aNil))) (aCons (oE (eCall F_calls_text (aCons (oE (eV 2)) aNil))) (aCons (oE (eCall F_wish_text (aCons (oE (eV 3)) aNil))) aNil))))))
    (sSeq (sSet 6 (eOp2 addU (oE (eV 6)) (oE (eL (eSeq (aCons (oE (eCallW F_row_text 1 @idL (aCons (oE (eL (eApp listD (aCons (oE (eV 1)) aNil)))) aNil))) (aCons (oE (eCallW F_calls_text 1 @idL (aCons (oE (eApp tupleD (aCons (oE (eV 2)) aNil))) aNil))) (aCons (oE (eCallW F_wish_text 1 @idL (aCons (oE (eL (eApp listD (aCons (oE (eV 3)) aNil)))) aNil))) aNil))))))))
    (sSeq (sIf (tNotG (tstE (eCall (F__law_same 6) (aCons (oE (eV 6)) (aCons (oE (eOp2 addU (oV 5) (oV 5))) aNil))))) (sRet (eC (.bool false)))
    sNext)
    (sHeardT 6 (nlCons (nS (eCallX F_row_in (aCons (oE (eOp2 ixD (oV 5) (oE (eC (.int 0))))) aNil))) (nlCons (nF (eCallXN F_calls_in (aCons (oE (eOp2 ixD (oV 5) (oE (eC (.int 1))))) aNil))) (nlCons (nS (eCallX F_wish_in (aCons (oE (eOp2 ixD (oV 5) (oE (eC (.int 2))))) aNil))) nlNil))) (F__law_same 6) (eL (eSeq (aCons (oE (eV 1)) (aCons (oE (eV 2)) (aCons (oE (eV 3)) aNil))))) [1] some
    gr__law_right_7)))))))))))
def F__law_right : List D → List D → Option (D × List D) := callB 1 11 g__law_right
abbrev s__law_stream : Stmt := topS 26
abbrev N__law_stream : List Str := ["_law_script", "_law_k", "_law_cell"]
theorem sc__law_stream : FnScope N__law_stream ["_law_script", "_law_k"] (defScope s__law_stream) := ⟨rfl, rfl, rfl, by decide +kernel, rfl, by decide +kernel, by decide +kernel⟩
def g__law_stream : GS :=
    (sSeq (sSet 2 (eC (.int 0)))
    (sSeq (sIf (tstE (eOp2 ltD (oE (eV 1)) (oE (eApp lenD (aCons (oE (eV 0)) aNil))))) (sSet 2 (eOp2 ixD (oE (eV 0)) (oE (eV 1))))
    sNext)
    (sRetF (eSeq (aCons (oE (eOp2 mulV (oE (eApp absD (aCons (oE (eV 2)) aNil))) (oE (eApp intD (aCons (oE (eOp2 geD (oE (eApp absD (aCons (oE (eV 2)) aNil))) (oE (eOp2 powD (oE (eC (.int 10))) (oE (eC (.int 18))))))) aNil))))) (aCons (oE (eOp2 addU (oE (eOp2 addU (oE (eOp2 modD (oE (eV 2)) (oE (eC (.int 2305843009213693951))))) (oE (eOp2 mulV (oE (eC (.int 39373))) (oE (eV 1)))))) (oE (eC (.int 29))))) (aCons (oE (eC (.int 0))) aNil)))))))
def F__law_stream : List D → Option (List D) := callF 2 3 g__law_stream
abbrev s_law : Stmt := topS 34
abbrev N_law : List Str := ["_law_script", "_law_cells", "_law_k", "_law_source", "_law_turn"]
theorem sc_law : FnScope N_law ["_law_script"] (defScope s_law) := ⟨rfl, rfl, rfl, by decide +kernel, rfl, by decide +kernel, by decide +kernel⟩
def ce_law_1 : GE :=
    (eCallB F__law_right 3 aNil)
def gb_law_2 : GS :=
    (sSeq (sSetO 3 (eCall F__law_stream (aCons (oE (eV 1)) (aCons (oE (eV 2)) aNil))))
    (sIf (tNotG (tstE (eApp allD (aCons (oE (eL (eLc [4] (eCall rng1 (aCons (oE (eC (.int 2))) aNil)) (gN 4) gYes ce_law_1))) aNil)))) (sRet (eC (.bool false)))
    sNext))
def g_law : GS :=
    (sSeq (sSet 1 (eL (eCall F__law_folded (aCons (oE (eV 0)) (aCons (oE (eC (.int 3))) aNil)))))
    (sSeq (sFor (eCall rng1 (aCons (oE (eApp lenD (aCons (oE (eV 1)) aNil))) aNil)) (gN 2) gb_law_2)
    (sRet (eC (.bool true)))))
def F_law : List D → Option D := callP 1 5 g_law
structure Tx (K : PySem.W.Frag) (mg : Str → Option Value) where
  a__law_folded : Addr
  d__law_folded : FuncData
  F__law_folded : Fun K "_law_folded" "_law_folded" s__law_folded a__law_folded d__law_folded
  m__law_folded : mg "_law_folded" = some (.ref a__law_folded)
  b__law_folded : Binds K d__law_folded ["_law_script", "_law_most"] []
  a__law_draw : Addr
  d__law_draw : FuncData
  F__law_draw : Fun K "_law_draw" "_law_draw" s__law_draw a__law_draw d__law_draw
  m__law_draw : mg "_law_draw" = some (.ref a__law_draw)
  b__law_draw : Binds K d__law_draw ["_law_source", "_law_bound"] []
  a__law_joined : Addr
  d__law_joined : FuncData
  F__law_joined : Fun K "_law_joined" "_law_joined" s__law_joined a__law_joined d__law_joined
  m__law_joined : mg "_law_joined" = some (.ref a__law_joined)
  b__law_joined : Binds K d__law_joined ["_law_words"] []
  a__law_line : Addr
  d__law_line : FuncData
  F__law_line : Fun K "_law_line" "_law_line" s__law_line a__law_line d__law_line
  m__law_line : mg "_law_line" = some (.ref a__law_line)
  b__law_line : Binds K d__law_line ["_law_source", "_law_most", "_law_top"] []
  a__law_pick : Addr
  d__law_pick : FuncData
  F__law_pick : Fun K "_law_pick" "_law_pick" s__law_pick a__law_pick d__law_pick
  m__law_pick : mg "_law_pick" = some (.ref a__law_pick)
  b__law_pick : Binds K d__law_pick ["_law_source", "_law_some"] []
  a__law_same : Addr
  d__law_same : FuncData
  F__law_same : Fun K "_law_same" "_law_same" s__law_same a__law_same d__law_same
  m__law_same : mg "_law_same" = some (.ref a__law_same)
  b__law_same : Binds K d__law_same ["_law_found", "_law_due"] []
  a_all_or_none : Addr
  d_all_or_none : FuncData
  F_all_or_none : Fun K "all_or_none" "all_or_none" s_all_or_none a_all_or_none d_all_or_none
  m_all_or_none : mg "all_or_none" = some (.ref a_all_or_none)
  b_all_or_none : Binds K d_all_or_none ["found"] []
  a_count_in : Addr
  d_count_in : FuncData
  F_count_in : Fun K "count_in" "count_in" s_count_in a_count_in d_count_in
  m_count_in : mg "count_in" = some (.ref a_count_in)
  b_count_in : Binds K d_count_in ["part"] []
  a_words_of : Addr
  d_words_of : FuncData
  F_words_of : Fun K "words_of" "words_of" s_words_of a_words_of d_words_of
  m_words_of : mg "words_of" = some (.ref a_words_of)
  b_words_of : Binds K d_words_of ["text"] []
  a_calls_or_none : Addr
  d_calls_or_none : FuncData
  F_calls_or_none : Fun K "calls_or_none" "calls_or_none" s_calls_or_none a_calls_or_none d_calls_or_none
  m_calls_or_none : mg "calls_or_none" = some (.ref a_calls_or_none)
  b_calls_or_none : Binds K d_calls_or_none ["text"] []
  a_checked : Addr
  d_checked : FuncData
  F_checked : Fun K "checked" "checked" s_checked a_checked d_checked
  m_checked : mg "checked" = some (.ref a_checked)
  b_checked : Binds K d_checked ["value", "text"] []
  a_calls_in : Addr
  d_calls_in : FuncData
  F_calls_in : Fun K "calls_in" "calls_in" s_calls_in a_calls_in d_calls_in
  m_calls_in : mg "calls_in" = some (.ref a_calls_in)
  b_calls_in : Binds K d_calls_in ["text"] []
  a_joined_text : Addr
  d_joined_text : FuncData
  F_joined_text : Fun K "joined_text" "joined_text" s_joined_text a_joined_text d_joined_text
  m_joined_text : mg "joined_text" = some (.ref a_joined_text)
  b_joined_text : Binds K d_joined_text ["words"] []
  a_numbers_text : Addr
  d_numbers_text : FuncData
  F_numbers_text : Fun K "numbers_text" "numbers_text" s_numbers_text a_numbers_text d_numbers_text
  m_numbers_text : mg "numbers_text" = some (.ref a_numbers_text)
  b_numbers_text : Binds K d_numbers_text ["numbers"] []
  a_calls_text : Addr
  d_calls_text : FuncData
  F_calls_text : Fun K "calls_text" "calls_text" s_calls_text a_calls_text d_calls_text
  m_calls_text : mg "calls_text" = some (.ref a_calls_text)
  b_calls_text : Binds K d_calls_text ["calls"] []
  a_integer_in : Addr
  d_integer_in : FuncData
  F_integer_in : Fun K "integer_in" "integer_in" s_integer_in a_integer_in d_integer_in
  m_integer_in : mg "integer_in" = some (.ref a_integer_in)
  b_integer_in : Binds K d_integer_in ["part"] []
  a_row_or_none : Addr
  d_row_or_none : FuncData
  F_row_or_none : Fun K "row_or_none" "row_or_none" s_row_or_none a_row_or_none d_row_or_none
  m_row_or_none : mg "row_or_none" = some (.ref a_row_or_none)
  b_row_or_none : Binds K d_row_or_none ["text"] []
  a_row_in : Addr
  d_row_in : FuncData
  F_row_in : Fun K "row_in" "row_in" s_row_in a_row_in d_row_in
  m_row_in : mg "row_in" = some (.ref a_row_in)
  b_row_in : Binds K d_row_in ["text"] []
  a_row_text : Addr
  d_row_text : FuncData
  F_row_text : Fun K "row_text" "row_text" s_row_text a_row_text d_row_text
  m_row_text : mg "row_text" = some (.ref a_row_text)
  b_row_text : Binds K d_row_text ["row"] []
  a_wish_or_none : Addr
  d_wish_or_none : FuncData
  F_wish_or_none : Fun K "wish_or_none" "wish_or_none" s_wish_or_none a_wish_or_none d_wish_or_none
  m_wish_or_none : mg "wish_or_none" = some (.ref a_wish_or_none)
  b_wish_or_none : Binds K d_wish_or_none ["text"] []
  a_wish_in : Addr
  d_wish_in : FuncData
  F_wish_in : Fun K "wish_in" "wish_in" s_wish_in a_wish_in d_wish_in
  m_wish_in : mg "wish_in" = some (.ref a_wish_in)
  b_wish_in : Binds K d_wish_in ["text"] []
  a_wish_text : Addr
  d_wish_text : FuncData
  F_wish_text : Fun K "wish_text" "wish_text" s_wish_text a_wish_text d_wish_text
  m_wish_text : mg "wish_text" = some (.ref a_wish_text)
  b_wish_text : Binds K d_wish_text ["wish"] []
  a__law_right : Addr
  d__law_right : FuncData
  F__law_right : Fun K "_law_right" "_law_right" s__law_right a__law_right d__law_right
  m__law_right : mg "_law_right" = some (.ref a__law_right)
  b__law_right : Binds K d__law_right ["_law_source"] []
  a__law_stream : Addr
  d__law_stream : FuncData
  F__law_stream : Fun K "_law_stream" "_law_stream" s__law_stream a__law_stream d__law_stream
  m__law_stream : mg "_law_stream" = some (.ref a__law_stream)
  b__law_stream : Binds K d__law_stream ["_law_script", "_law_k"] []
  a_law : Addr
  d_law : FuncData
  F_law : Fun K "law" "law" s_law a_law d_law
  m_law : mg "law" = some (.ref a_law)
  b_law : Binds K d_law ["_law_script"] []
  k_wish_text_wish : KwB K d_wish_text ["wish"] ["wish"] @idL
  k_calls_text_calls : KwB K d_calls_text ["calls"] ["calls"] @idL
  k_row_text_row : KwB K d_row_text ["row"] ["row"] @idL
  k_wish_in_text : KwB K d_wish_in ["text"] ["text"] @idL
  k_calls_in_text : KwB K d_calls_in ["text"] ["text"] @idL
  k_row_in_text : KwB K d_row_in ["text"] ["text"] @idL
  n_list : mg "list" = none
  n_enumerate : mg "enumerate" = none
  n_range : mg "range" = none
  n_tuple : mg "tuple" = none
  n_len : mg "len" = none
  n_isinstance : mg "isinstance" = none
  n_zip : mg "zip" = none
  n_all : mg "all" = none
  n_str : mg "str" = none
  n_bool : mg "bool" = none
  n_int : mg "int" = none
  n_ValueError : mg "ValueError" = none
  n_abs : mg "abs" = none
  c_BadText : Addr
  cc_BadText : Cls K "BadText" c_BadText
  m_BadText : mg "BadText" = some (.ref c_BadText)
  oc_BadText : OxC K "ValueError.__new__" tl_ValueError c_BadText
  no_BadText : PySem.W.findIn K (.ref c_BadText) "text" = some none
  fi_BadText : Addr
  fd_BadText : FuncData
  Fi_BadText : Fun K "__init__" "BadText.__init__" si_BadText fi_BadText fd_BadText
  iC_BadText : PySem.W.findIn K (.ref c_BadText) "__init__" = some (some (.ref fi_BadText))
  ti_BadText : PySem.W.typeIn K (.ref fi_BadText) = some (.type "function")
  bi_BadText : Binds K fd_BadText ["self", "text"] []
  vB_ValueError : PySem.W.findCls K (.type "ValueError") (.type "type") "__init__" = some (.val (.builtin "ValueError.__init__"))
  et : etB K CsL UsL = true
  t_MOST_DIGITS : Tok
  c_MOST_DIGITS : mg "MOST_DIGITS" = some (.int 50 t_MOST_DIGITS)
  t_DIGITS : Tok
  c_DIGITS : mg "DIGITS" = some (.str "0123456789" t_DIGITS)
  t_EMPTY : Tok
  c_EMPTY : mg "EMPTY" = some (.str "-" t_EMPTY)
  t_BLANK : Tok
  c_BLANK : mg "BLANK" = some (.str " " t_BLANK)
  t_MINUS : Tok
  c_MINUS : mg "MINUS" = some (.str "-" t_MINUS)
  t_OPEN : Tok
  c_OPEN : mg "OPEN" = some (.str "?" t_OPEN)
section
variable {P : Program} {w : World} {K : PySem.W.Frag} {mg : Str → Option Value} {base : Heap}
theorem oki_BadText (T : Tx K mg) : FnOk P w K mg base CX0 1 T.fi_BadText T.fd_BadText ["self", "text"] (spIni K "ValueError.__new__" tl_ValueError "text") := by
  refine T.Fi_BadText.ok sci_BadText (fun vs H Q E h => ?_) (fun cdv A outer s H vs Q E hr h => ⟨_, pss_cons (ps_expr (pe_bini DLX.bs_V (by rfl) T.n_ValueError (by decide +kernel) (by decide) (by decide) T.vB_ValueError (pa_cons (pv 0) (pa_cons (pv 1) pa_nil)))) (pss_one (ps_fld DLX.bs_V (pv 0) (pv 1))), ini_run h rfl⟩)
  obtain ⟨a, C, v, rfl, _⟩ := h
  rfl
theorem ox_BadText (T : Tx K mg) : OxI P w K mg base "ValueError.__new__" tl_ValueError T.c_BadText "text" := ⟨T.oc_BadText, T.no_BadText, T.fi_BadText, T.fd_BadText, T.iC_BadText, T.ti_BadText, oki_BadText T, T.bi_BadText⟩
theorem ok__law_folded (T : Tx K mg) : FnOk P w K mg base CX0 1 T.a__law_folded T.d__law_folded ["_law_script", "_law_most"] (spF K 2 F__law_folded) := by
    refine T.F__law_folded.ok sc__law_folded (fun vs H Q E h => h.1) (fun cdv A outer s H vs Q E hr h => ?_)
    have nd := sc__law_folded.nd
    exact ⟨_, (pss_cons (ps_set (i := 2) nd rfl (Or.inl rfl) (pe_orT (pe_callTy call_listU (by rfl) T.n_list (by decide +kernel) (pa_cons (pe_slice sl_U (pv 0) po_none (po_some (pv 1))) pa_nil)) (pe_one (pe_lst (pa_cons pe_int pa_nil))))) (pss_cons (ps_for PassesOwn.never rfl (pi_enumU (by rfl) T.n_enumerate (pa_cons (pe_slice sl_U (pv 0) (po_some (pv 1)) (po_some pe_int)) pa_nil)) (pg_tup rfl (pgs_cons (pg_name (i := 3) nd rfl (Or.inl rfl)) (pgs_cons (pg_name (i := 4) nd rfl (Or.inl rfl)) pgs_nil))) (pss_one (ps_asg (pe_op op_addU (pe_ix ix_seq (pv 2) (pe_op op_mod (pv 3) (pv 1)) (fun _ _ => rfl)) (pe_op op_mulT (pv 4) (pe_op op_addU (pv 3) pe_int))) (pg_sub (pv 2) (pe_op op_mod (pv 3) (pv 1)) set_list)))) (pss_one (ps_ret (pv 2))))),
      run_F (N := N__law_folded) (ds_seq (ds_setO (i := 2) (df_or (df_cb sn_list (da_cons (do_e (de_sl sn_sliceU (do_e de_v) dp_no (dp_so de_v))) da_nil)) (df_lst (da_cons (do_e de_int) da_nil)))) (ds_seq (ds_for (ws := [3, 4]) (di_enum (da_cons (do_e (de_sl sn_sliceU (do_e de_v) (dp_so de_v) (dp_so de_int))) da_nil)) (dg_tup (dgs_cons (dg_name (by decide)) (dgs_cons (dg_name (by decide)) dgs_nil))) (ds_putIx (de_op sn_addU (do_e (de_op sn_ix do_v (do_e (de_op sn_mod (do_e de_v) (do_e de_v))))) (do_e (de_op sn_mulV (do_e de_v) (do_e (de_op sn_addU (do_e de_v) (do_e de_int)))))) (de_op sn_mod (do_e de_v) (do_e de_v)))) ds_retO)) (by decide) h⟩
theorem ok__law_draw (T : Tx K mg) : ∀ n : Nat, FnOk P w K mg base CX0 (0 + n) T.a__law_draw T.d__law_draw ["_law_source", "_law_bound"] (spB K 2 (F__law_draw n))
  | 0 => fn_noneB rfl
  | n + 1 => by
    have ih := ok__law_draw T n
    have hFl := Fl__law_draw n
    refine T.F__law_draw.ok sc__law_draw (fun vs H Q E h => h.1) (fun cdv A outer s H vs Q E hr h => ?_)
    have nd := sc__law_draw.nd
    exact ⟨_, (pss_cons (ps_if (pt_cmpR op_gt (pe_ix ix_seq (pv 0) pe_int (fun _ _ => rfl)) pe_int (nomark _)) (pss_cons (ps_set (i := 4) nd rfl (Or.inl rfl) (pe_op op_mod (pe_ix ix_seq (pv 0) pe_int (fun _ _ => rfl)) (pv 1))) (pss_cons (ps_asg (pe_op op_fdivW (pe_ix ix_seq (pv 0) pe_int (fun _ _ => rfl)) (pv 1)) (pg_sub (pv 0) pe_int set_list)) (pss_one (ps_ret (pv 4))))) pss_nil) (pss_cons (ps_if (pt_cmpR op_gt (pv 1) (pe_op op_pow pe_int pe_int) (nomark _)) (pss_one (ps_ret (pe_op op_mod (pe_op op_addU (pe_call ih (hr.mono (Nat.le_refl _)) (by rfl) T.m__law_draw T.F__law_draw.kp T.b__law_draw .nil pass0 (pa_cons (pv 0) (pa_cons (pe_op op_pow pe_int pe_int) pa_nil))) (pe_op op_mulT (pe_op op_pow pe_int pe_int) (pe_call ih (hr.mono (Nat.le_refl _)) (by rfl) T.m__law_draw T.F__law_draw.kp T.b__law_draw .nil pass0 (pa_cons (pv 0) (pa_cons (pe_op op_addU (pe_op op_fdivW (pe_op op_sub (pv 1) pe_int) (pe_op op_pow pe_int pe_int)) pe_int) pa_nil))))) (pv 1)))) pss_nil) (pss_cons (ps_asg (pe_op op_addU (pe_ix ix_seq (pv 0) pe_int (fun _ _ => rfl)) pe_int) (pg_sub (pv 0) pe_int set_list)) (pss_cons (ps_set (i := 2) nd rfl (Or.inl rfl) (pe_op op_mod (pe_op op_mulT (pe_op op_addU (pe_ix ix_seq (pv 0) pe_int (fun _ _ => rfl)) (pe_op op_mulT pe_int (pe_ix ix_seq (pv 0) pe_int (fun _ _ => rfl)))) (pe_op op_addU pe_int (pe_ix ix_seq (pv 0) pe_int (fun _ _ => rfl)))) pe_int)) (pss_cons (ps_set (i := 3) nd rfl (Or.inl rfl) (pe_op op_mod (pe_op op_mulT (pe_op op_addU (pe_op op_addU (pv 2) (pe_ix ix_seq (pv 0) pe_int (fun _ _ => rfl))) (pe_op op_fdivW (pe_ix ix_seq (pv 0) pe_int (fun _ _ => rfl)) pe_int)) (pe_op op_addU (pe_op op_mod (pv 2) pe_int) pe_int)) pe_int)) (pss_one (ps_ret (pe_op op_mod (pe_op op_fdivW (pe_op op_mod (pe_op op_addU (pe_op op_mulT (pv 3) pe_int) (pv 2)) pe_int) pe_int) (pv 1))))))))),
      run_B (N := N__law_draw) (ds_seq (ds_if (dt_test (de_op sn_gt (do_e (de_op sn_ix do_v (do_e de_int))) (do_e de_int))) (ds_seq (ds_set (i := 4) (de_op sn_mod (do_e (de_op sn_ix do_v (do_e de_int))) (do_e de_v))) (ds_seq (ds_putIx (de_op sn_fdiv (do_e (de_op sn_ix do_v (do_e de_int))) (do_e de_v)) de_int) (ds_ret de_v))) ds_next) (ds_seq (ds_if (dt_test (de_op sn_gt (do_e de_v) (do_e (de_op sn_pow (do_e de_int) (do_e de_int))))) (ds_ret (de_op sn_mod (do_e (de_op sn_addU (do_e (de_callB hFl (da_cons (do_e (de_op sn_pow (do_e de_int) (do_e de_int))) da_nil))) (do_e (de_op sn_mulV (do_e (de_op sn_pow (do_e de_int) (do_e de_int))) (do_e (de_callB hFl (da_cons (do_e (de_op sn_addU (do_e (de_op sn_fdiv (do_e (de_op sn_sub (do_e de_v) (do_e de_int))) (do_e (de_op sn_pow (do_e de_int) (do_e de_int))))) (do_e de_int))) da_nil))))))) (do_e de_v))) ds_next) (ds_seq (ds_putIx (de_op sn_addU (do_e (de_op sn_ix do_v (do_e de_int))) (do_e de_int)) de_int) (ds_seq (ds_set (i := 2) (de_op sn_mod (do_e (de_op sn_mulV (do_e (de_op sn_addU (do_e (de_op sn_ix do_v (do_e de_int))) (do_e (de_op sn_mulV (do_e de_int) (do_e (de_op sn_ix do_v (do_e de_int))))))) (do_e (de_op sn_addU (do_e de_int) (do_e (de_op sn_ix do_v (do_e de_int))))))) (do_e de_int))) (ds_seq (ds_set (i := 3) (de_op sn_mod (do_e (de_op sn_mulV (do_e (de_op sn_addU (do_e (de_op sn_addU (do_e de_v) (do_e (de_op sn_ix do_v (do_e de_int))))) (do_e (de_op sn_fdiv (do_e (de_op sn_ix do_v (do_e de_int))) (do_e de_int))))) (do_e (de_op sn_addU (do_e (de_op sn_mod (do_e de_v) (do_e de_int))) (do_e de_int))))) (do_e de_int))) (ds_ret (de_op sn_mod (do_e (de_op sn_fdiv (do_e (de_op sn_mod (do_e (de_op sn_addU (do_e (de_op sn_mulV (do_e de_v) (do_e de_int))) (do_e de_v))) (do_e de_int))) (do_e de_int))) (do_e de_v)))))))) (by decide) h⟩
theorem ok__law_joined (T : Tx K mg) : FnOk P w K mg base CX0 1 T.a__law_joined T.d__law_joined ["_law_words"] (spP K 1 F__law_joined) := by
    refine T.F__law_joined.ok sc__law_joined (fun vs H Q E h => h.1) (fun cdv A outer s H vs Q E hr h => ?_)
    have nd := sc__law_joined.nd
    exact ⟨_, (pss_one (ps_ret (pe_ifExp (pt_cmpR (op_neU hr) (pv 0) (pe_lst pa_nil) (nomark _)) (pe_join pe_str (pv 0)) pe_str))),
      run_P (N := N__law_joined) (ds_ret (de_if (dt_test (de_op sn_neW (do_e de_v) (do_e (de_l (df_lst da_nil))))) (de_join de_str de_v) de_str)) (by decide) h⟩
theorem ok__law_line (T : Tx K mg) : FnOk P w K mg base CX0 9 T.a__law_line T.d__law_line ["_law_source", "_law_most", "_law_top"] (spB K 3 F__law_line) := by
    refine T.F__law_line.ok sc__law_line (fun vs H Q E h => h.1) (fun cdv A outer s H vs Q E hr h => ?_)
    have nd := sc__law_line.nd
    exact ⟨_, (pss_cons (ps_par3 (i := 3) (j := 4) (l := 5) (by rfl) nd rfl rfl rfl (by decide) (by decide) (by decide) rfl rfl rfl (pa_cons (pe_lst pa_nil) (pa_cons (pe_call (ok__law_draw T 8) (hr.mono (by decide)) (by rfl) T.m__law_draw T.F__law_draw.kp T.b__law_draw .nil pass0 (pa_cons (pv 0) (pa_cons pe_int pa_nil))) (pa_cons (pe_op op_fdivW (pe_op op_mulT (pe_call (ok__law_draw T 8) (hr.mono (by decide)) (by rfl) T.m__law_draw T.F__law_draw.kp T.b__law_draw .nil pass0 (pa_cons (pv 0) (pa_cons pe_int pa_nil))) (pv 2)) pe_int) pa_nil))) (by rfl)) (pss_cons (ps_for PassesOwn.never rfl (pi_range1 (by rfl) T.n_range (pa_cons (pe_call (ok__law_draw T 8) (hr.mono (by decide)) (by rfl) T.m__law_draw T.F__law_draw.kp T.b__law_draw .nil pass0 (pa_cons (pv 0) (pa_cons (pe_op op_addU (pv 1) pe_int) pa_nil))) pa_nil)) (pg_name (i := 6) nd rfl (Or.inl rfl)) (pss_cons (ps_set (i := 7) nd rfl (Or.inl rfl) (pe_op op_sub (pe_call (ok__law_draw T 8) (hr.mono (by decide)) (by rfl) T.m__law_draw T.F__law_draw.kp T.b__law_draw .nil pass0 (pa_cons (pv 0) (pa_cons (pv 2) pa_nil))) (pv 5))) (pss_cons (ps_if (pt_cmpR op_gt (pv 4) pe_int (nomark _)) (pss_one (ps_set (i := 7) nd rfl (Or.inl rfl) (pe_op op_addU (pv 7) (pe_op op_mulT (pe_op op_mulT (pv 2) (pe_op op_mod (pv 6) pe_int)) (pe_call (ok__law_draw T 8) (hr.mono (by decide)) (by rfl) T.m__law_draw T.F__law_draw.kp T.b__law_draw .nil pass0 (pa_cons (pv 0) (pa_cons pe_int pa_nil))))))) pss_nil) (pss_one (ps_expr (pe_bm PySem.F.plainAttrs_list PySem.F.slot_list_append PySem.F.type_list_append mt_append (pv 3) (pa_cons (pe_ifExp (PW.pt (pw_and (pt_cmpR (op_neU hr) (pv 3) (pe_lst pa_nil) (nomark _)) (pw_and1 (pt_cmpR (op_eqU hr) (pe_call (ok__law_draw T 8) (hr.mono (by decide)) (by rfl) T.m__law_draw T.F__law_draw.kp T.b__law_draw .nil pass0 (pa_cons (pv 0) (pa_cons pe_int pa_nil))) pe_int (nomark _))))) (pe_ix ix_seq (pv 3) (pe_un un_neg pe_int) (fun _ _ => rfl)) (pv 7)) pa_nil))))))) (pss_one (ps_ret (pe_callTy call_tupleU (by rfl) T.n_tuple (by decide +kernel) (pa_cons (pv 3) pa_nil)))))),
      run_B (N := N__law_line) (ds_seq (ds_par3N (dnp_f (df_lst da_nil) (dnp_s (de_callB (Fl__law_draw _) (da_cons (do_e de_int) da_nil)) (dnp_s (de_op sn_fdiv (do_e (de_op sn_mulV (do_e (de_callB (Fl__law_draw _) (da_cons (do_e de_int) da_nil))) (do_e de_v))) (do_e de_int)) dnp_nil)))) (ds_seq (ds_for (ws := [6]) (di_rng1 (da_cons (do_e (de_callB (Fl__law_draw _) (da_cons (do_e (de_op sn_addU (do_e de_v) (do_e de_int))) da_nil))) da_nil)) (dg_name (by decide)) (ds_seq (ds_set (i := 7) (de_op sn_sub (do_e (de_callB (Fl__law_draw _) (da_cons (do_e de_v) da_nil))) (do_e de_v))) (ds_seq (ds_if (dt_test (de_op sn_gt (do_e de_v) (do_e de_int))) (ds_set (i := 7) (de_op sn_addU (do_e de_v) (do_e (de_op sn_mulV (do_e (de_op sn_mulV (do_e de_v) (do_e (de_op sn_mod (do_e de_v) (do_e de_int))))) (do_e (de_callB (Fl__law_draw _) (da_cons (do_e de_int) da_nil))))))) ds_next) (ds_app (de_if (dt_and (dt_test (de_op sn_neW do_v (do_e (de_l (df_lst da_nil))))) (dt_test (de_op sn_eqW (do_e (de_callB (Fl__law_draw _) (da_cons (do_e de_int) da_nil))) (do_e de_int)))) (de_op sn_ix do_v (do_e (de_un sn_neg (do_e de_int)))) de_v))))) (ds_ret (de_cb sn_tuple (da_cons do_v da_nil))))) (by decide) h⟩
theorem ok__law_pick (T : Tx K mg) : FnOk P w K mg base CX0 9 T.a__law_pick T.d__law_pick ["_law_source", "_law_some"] (spB K 2 F__law_pick) := by
    refine T.F__law_pick.ok sc__law_pick (fun vs H Q E h => h.1) (fun cdv A outer s H vs Q E hr h => ?_)
    have nd := sc__law_pick.nd
    exact ⟨_, (pss_one (ps_ret (pe_ix ix_seq (pv 1) (pe_call (ok__law_draw T 8) (hr.mono (by decide)) (by rfl) T.m__law_draw T.F__law_draw.kp T.b__law_draw .nil pass0 (pa_cons (pv 0) (pa_cons (pe_callB call_lenU (by rfl) T.n_len (by decide +kernel) (pa_cons (pv 1) pa_nil)) pa_nil))) (fun _ _ => rfl)))),
      run_B (N := N__law_pick) (ds_ret (de_op sn_ix (do_e de_v) (do_e (de_callB (Fl__law_draw _) (da_cons (do_e (de_cb sn_len (da_cons (do_e de_v) da_nil))) da_nil))))) (by decide) h⟩
theorem ok__law_same (T : Tx K mg) : ∀ n : Nat, FnOk P w K mg base CX0 (0 + n) T.a__law_same T.d__law_same ["_law_found", "_law_due"] (spP K 2 (F__law_same n))
  | 0 => fn_noneP rfl
  | n + 1 => by
    have ih := ok__law_same T n
    have hFl := Fl__law_same n
    refine T.F__law_same.ok sc__law_same (fun vs H Q E h => h.1) (fun cdv A outer s H vs Q E hr h => ?_)
    have nd := sc__law_same.nd
    exact ⟨_, (pss_cons (ps_if (pt_val (pe_callB call_isiT (by rfl) T.n_isinstance (by decide +kernel) (pa_cons (pv 1) (pa_cons (pe_tup (pa_cons (pe_bltn (v := .ty "list") (by rfl) T.n_list (by decide +kernel) rfl) (pa_cons (pe_bltn (v := .ty "tuple") (by rfl) T.n_tuple (by decide +kernel) rfl) pa_nil))) pa_nil)))) (pss_cons (ps_if (PW.pt (pw_or (pt_cmpR (op_neU hr) (pe_callB call_isi (by rfl) T.n_isinstance (by decide +kernel) (pa_cons (pv 0) (pa_cons (pe_bltn (v := .ty "list") (by rfl) T.n_list (by decide +kernel) rfl) pa_nil))) (pe_callB call_isi (by rfl) T.n_isinstance (by decide +kernel) (pa_cons (pv 1) (pa_cons (pe_bltn (v := .ty "list") (by rfl) T.n_list (by decide +kernel) rfl) pa_nil))) (nomark _)) (pw_or1 (pt_cmpR (op_neU hr) (pe_callB call_isi (by rfl) T.n_isinstance (by decide +kernel) (pa_cons (pv 0) (pa_cons (pe_bltn (v := .ty "tuple") (by rfl) T.n_tuple (by decide +kernel) rfl) pa_nil))) (pe_callB call_isi (by rfl) T.n_isinstance (by decide +kernel) (pa_cons (pv 1) (pa_cons (pe_bltn (v := .ty "tuple") (by rfl) T.n_tuple (by decide +kernel) rfl) pa_nil))) (nomark _))))) (pss_one (ps_ret pe_bl)) pss_nil) (pss_one (ps_ret (pe_and (pe_cmpR (op_eqU hr) (pe_callB call_lenU (by rfl) T.n_len (by decide +kernel) (pa_cons (pv 0) pa_nil)) (pe_callB call_lenU (by rfl) T.n_len (by decide +kernel) (pa_cons (pv 1) pa_nil)) (nomark _)) (pe_one (pe_callB (cr_all rfl) (by rfl) T.n_all (by decide +kernel) (pa_cons (pe_lc (own := [("_law_mine", 2), ("_law_its", 3)]) (by rfl) nd (pi_zipU (by rfl) T.n_zip (pa_cons (pv 0) (pa_cons (pv 1) pa_nil))) (blkOk_by (own := [("_law_mine", 2), ("_law_its", 3)]) (N := N__law_same) (sc := defScope s__law_same) (by decide +kernel)) (fun _ _ _ _ _ => (pg_tup rfl (pgs_cons (pg_name (i := 2) nd rfl (Or.inl rfl)) (pgs_cons (pg_name (i := 3) nd rfl (Or.inl rfl)) pgs_nil)))) (fun _ _ _ _ _ => pts_nil) (fun _ _ _ _ _ => (pe_call ih (hr.mono (Nat.le_refl _)) (by rfl) T.m__law_same T.F__law_same.kp T.b__law_same .nil pass0 (pa_cons (pv 2) (pa_cons (pv 3) pa_nil))))) pa_nil))))))) pss_nil) (pss_cons (ps_if (PW.pt (pw_or (pt_cmpR op_isU (pv 1) pe_non (nomark _)) (pw_or1 (pt_val (pe_callB call_isiT (by rfl) T.n_isinstance (by decide +kernel) (pa_cons (pv 1) (pa_cons (pe_tup (pa_cons (pe_bltn (v := .ty "bool") (by rfl) T.n_bool (by decide +kernel) rfl) (pa_cons (pe_bltn (v := .ty "str") (by rfl) T.n_str (by decide +kernel) rfl) pa_nil))) pa_nil))))))) (pss_one (ps_ret (pe_and (pe_cmpR (op_eqU hr) (pv 0) (pv 1) (nomark _)) (pe_and (pe_cmpR (op_eqU hr) (pe_callB call_isi (by rfl) T.n_isinstance (by decide +kernel) (pa_cons (pv 0) (pa_cons (pe_bltn (v := .ty "bool") (by rfl) T.n_bool (by decide +kernel) rfl) pa_nil))) (pe_callB call_isi (by rfl) T.n_isinstance (by decide +kernel) (pa_cons (pv 1) (pa_cons (pe_bltn (v := .ty "bool") (by rfl) T.n_bool (by decide +kernel) rfl) pa_nil))) (nomark _)) (pe_one (pe_cmpR (op_eqU hr) (pe_cmpR op_isU (pv 0) pe_non (nomark _)) (pe_cmpR op_isU (pv 1) pe_non (nomark _)) (nomark _))))))) pss_nil) (pss_one (ps_ret (pe_and (pe_callB call_isi (by rfl) T.n_isinstance (by decide +kernel) (pa_cons (pv 0) (pa_cons (pe_bltn (v := .ty "int") (by rfl) T.n_int (by decide +kernel) rfl) pa_nil))) (pe_and (pe_not (pe_callB call_isi (by rfl) T.n_isinstance (by decide +kernel) (pa_cons (pv 0) (pa_cons (pe_bltn (v := .ty "bool") (by rfl) T.n_bool (by decide +kernel) rfl) pa_nil)))) (pe_one (pe_cmpR (op_eqU hr) (pv 0) (pv 1) (nomark _))))))))),
      run_P (N := N__law_same) (ds_seq (ds_if (dt_B (de_isiT (Ts := ["list", "tuple"]) (by decide) (do_e de_v))) (ds_seq (ds_if (dt_or (dt_test (de_op sn_neW (do_e (de_isi (do_e de_v))) (do_e (de_isi (do_e de_v))))) (dt_test (de_op sn_neW (do_e (de_isi (do_e de_v))) (do_e (de_isi (do_e de_v)))))) (ds_ret de_bl) ds_next) (ds_ret (de_and (de_op sn_eqW (do_e (de_cb sn_len (da_cons (do_e de_v) da_nil))) (do_e (de_cb sn_len (da_cons (do_e de_v) da_nil)))) (de_cb sn_all (da_cons (do_e (de_l (df_lc (di_zip (da_cons (do_e de_v) (da_cons (do_e de_v) da_nil))) (dg_tup (dgs_cons (dg_name (by decide)) (dgs_cons (dg_name (by decide)) dgs_nil))) dt_yes (de_call hFl (da_cons (do_e de_v) (da_cons (do_e de_v) da_nil)))))) da_nil))))) ds_next) (ds_seq (ds_if (dt_or (dt_test (de_op sn_is (do_e de_v) (do_e de_non))) (dt_B (de_isiT (Ts := ["bool", "str"]) (by decide) (do_e de_v)))) (ds_ret (de_and (de_op sn_eqW (do_e de_v) (do_e de_v)) (de_and (de_op sn_eqW (do_e (de_isi (do_e de_v))) (do_e (de_isi (do_e de_v)))) (de_op sn_eqW (do_e (de_op sn_is (do_e de_v) (do_e de_non))) (do_e (de_op sn_is (do_e de_v) (do_e de_non))))))) ds_next) (ds_ret (de_and (de_isi (do_e de_v)) (de_and (de_not (de_isi (do_e de_v))) (de_op sn_eqW (do_e de_v) (do_e de_v))))))) (by decide) h⟩
theorem ok_all_or_none (T : Tx K mg) : FnOk P w K mg base CX0 1 T.a_all_or_none T.d_all_or_none ["found"] (spP K 1 F_all_or_none) := by
    refine T.F_all_or_none.ok sc_all_or_none (fun vs H Q E h => h.1) (fun cdv A outer s H vs Q E hr h => ?_)
    have nd := sc_all_or_none.nd
    exact ⟨_, (pss_one (ps_ret (pe_ifExp (pt_cmpR (op_inX hr) pe_non (pv 0) (by rfl)) pe_non (pv 0)))),
      run_P (N := N_all_or_none) (ds_ret (de_if (dt_test (de_op sn_inX (do_e de_non) (do_e de_v))) de_non de_v)) (by decide) h⟩
theorem ok_count_in (T : Tx K mg) : FnOk P w K mg base CX0 1 T.a_count_in T.d_count_in ["part"] (spP K 1 F_count_in) := by
    refine T.F_count_in.ok sc_count_in (fun vs H Q E h => h.1) (fun cdv A outer s H vs Q E hr h => ?_)
    have nd := sc_count_in.nd
    exact ⟨_, (pss_cons (ps_if (PW.pt (pw_or (pt_not (pt_chain op_le op_le pe_int (pe_callB call_lenU (by rfl) T.n_len (by decide +kernel) (pa_cons (pv 0) pa_nil)) (pe_glob (v := .int 50) (by rfl) T.c_MOST_DIGITS ⟨_, rfl⟩))) (pw_or1 (pt_not (pt_val (pe_callB (cr_all rfl) (by rfl) T.n_all (by decide +kernel) (pa_cons (pe_lc (own := [("digit", 1)]) (by rfl) nd (pi_str (pv 0)) (blkOk_by (own := [("digit", 1)]) (N := N_count_in) (sc := defScope s_count_in) (by decide +kernel)) (fun _ _ _ _ _ => (pg_name (i := 1) nd rfl (Or.inl rfl))) (fun _ _ _ _ _ => pts_nil) (fun _ _ _ _ _ => (pe_cmpR op_inS (pv 1) (pe_glob (v := .str "0123456789") (by rfl) T.c_DIGITS ⟨_, rfl⟩) (by rfl)))) pa_nil))))))) (pss_one (ps_ret pe_non)) pss_nil) (pss_one (ps_ret (pe_ifExp (PW.pt (pw_or (pt_cmpR (op_eqU hr) (pv 0) pe_str (nomark _)) (pw_or1 (pt_cmpR (op_neU hr) (pe_ix ix_seq (pv 0) pe_int (fun _ _ => rfl)) pe_str (nomark _))))) (pe_callTy call_intS (by rfl) T.n_int (by decide +kernel) (pa_cons (pv 0) pa_nil)) pe_non)))),
      run_P (N := N_count_in) (ds_seq (ds_if (dt_or (dt_not (dt_test (de_chain sn_le sn_le (do_e de_int) (do_e (de_cb sn_len (da_cons (do_e de_v) da_nil))) (do_e de_int)))) (dt_not (dt_B (de_cb sn_all (da_cons (do_e (de_l (df_lc (di_str de_v) (dg_name (by decide)) dt_yes (de_op sn_inS (do_e de_v) (do_e de_str))))) da_nil))))) (ds_ret de_non) ds_next) (ds_ret (de_if (dt_or (dt_test (de_op sn_eqW (do_e de_v) (do_e de_str))) (dt_test (de_op sn_neW (do_e (de_op sn_ix (do_e de_v) (do_e de_int))) (do_e de_str)))) (de_cb sn_intS (da_cons (do_e de_v) da_nil)) de_non))) (by decide) h⟩
theorem ok_words_of (T : Tx K mg) : FnOk P w K mg base CX0 1 T.a_words_of T.d_words_of ["text"] (spP K 1 F_words_of) := by
    refine T.F_words_of.ok sc_words_of (fun vs H Q E h => h.1) (fun cdv A outer s H vs Q E hr h => ?_)
    have nd := sc_words_of.nd
    exact ⟨_, (pss_one (ps_ret (pe_ifExp (pt_cmpR (op_eqU hr) (pv 0) (pe_glob (v := .str "-") (by rfl) T.c_EMPTY ⟨_, rfl⟩) (nomark _)) (pe_lst pa_nil) (pe_split (pv 0) (pe_glob (v := .str " ") (by rfl) T.c_BLANK ⟨_, rfl⟩))))),
      run_P (N := N_words_of) (ds_ret (de_if (dt_test (de_op sn_eqW (do_e de_v) (do_e de_str))) (de_l (df_lst da_nil)) (de_l (df_split de_v de_str)))) (by decide) h⟩
theorem ok_calls_or_none (T : Tx K mg) : FnOk P w K mg base CX0 2 T.a_calls_or_none T.d_calls_or_none ["text"] (spP K 1 F_calls_or_none) := by
    refine T.F_calls_or_none.ok sc_calls_or_none (fun vs H Q E h => h.1) (fun cdv A outer s H vs Q E hr h => ?_)
    have nd := sc_calls_or_none.nd
    exact ⟨_, (pss_one (ps_ret (pe_call (ok_all_or_none T) (hr.mono (by decide)) (by rfl) T.m_all_or_none T.F_all_or_none.kp T.b_all_or_none .nil pass0 (pa_cons (pe_lc (own := [("word", 1)]) (by rfl) nd (pi_seqU (pe_call (ok_words_of T) (hr.mono (by decide)) (by rfl) T.m_words_of T.F_words_of.kp T.b_words_of .nil pass0 (pa_cons (pv 0) pa_nil))) (blkOk_by (own := [("word", 1)]) (N := N_calls_or_none) (sc := defScope s_calls_or_none) (by decide +kernel)) (fun _ _ _ _ _ => (pg_name (i := 1) nd rfl (Or.inl rfl))) (fun _ _ _ _ _ => pts_nil) (fun _ _ _ _ _ => (pe_call (ok_count_in T) (hr.mono (by decide)) (by rfl) T.m_count_in T.F_count_in.kp T.b_count_in .nil pass0 (pa_cons (pv 1) pa_nil)))) pa_nil)))),
      run_P (N := N_calls_or_none) (ds_ret (de_call callP_len (da_cons (do_e (de_l (df_lc (di_seq (de_call callP_len (da_cons (do_e de_v) da_nil))) (dg_name (by decide)) dt_yes (de_call callP_len (da_cons (do_e de_v) da_nil))))) da_nil))) (by decide) h⟩
theorem ok_checked (T : Tx K mg) : FnOk P w K mg base (L2.CX P w) 3 T.a_checked T.d_checked ["value", "text"] (spX K 2 F_checked) := by
    refine T.F_checked.okX sc_checked (fun vs H Q E h => h.1) (fun cdv A outer s H vs Q E hr h => ?_)
    have nd := sc_checked.nd
    exact ⟨_, (pss_cons (ps_if (pt_cmpR op_isU (pv 0) pe_non (nomark _)) (pss_one (ps_raise rfl (takes_of rfl rfl rfl rfl) (pmk_ox DLX.bs_V (ox_BadText T) (hr.mono (by decide)) (by rfl) T.m_BadText (pa_cons (pv 1) pa_nil)))) pss_nil) (pss_one (ps_ret (pv 0)))),
      run_X (N := N_checked) (ds_seq (ds_if (dt_test (de_op sn_is (do_e de_v) (do_e de_non))) (ds_raise T.cc_BadText rfl de_v) ds_next) (ds_ret de_v)) (by decide) h⟩
theorem ok_calls_in (T : Tx K mg) : FnOk P w K mg base (L2.CX P w) 4 T.a_calls_in T.d_calls_in ["text"] (spX K 1 F_calls_in) := by
    refine T.F_calls_in.okX sc_calls_in (fun vs H Q E h => h.1) (fun cdv A outer s H vs Q E hr h => ?_)
    have nd := sc_calls_in.nd
    exact ⟨_, (pss_one (ps_ret (pe_callS (ok_checked T) (hr.mono (by decide)) (by rfl) T.m_checked T.F_checked.kp T.b_checked (fun σ => passAt (takes_of rfl rfl rfl rfl) σ) (pa_cons (pe_call (ok_calls_or_none T) (hr.mono (by decide)) (by rfl) T.m_calls_or_none T.F_calls_or_none.kp T.b_calls_or_none .nil pass0 (pa_cons (pv 0) pa_nil)) (pa_cons (pv 0) pa_nil))))),
      run_X (N := N_calls_in) (ds_retX (xd_callX callX_len (da_cons (do_e (de_call callP_len (da_cons (do_e de_v) da_nil))) (da_cons (do_e de_v) da_nil)))) (by decide) h⟩
theorem ok_joined_text (T : Tx K mg) : FnOk P w K mg base CX0 1 T.a_joined_text T.d_joined_text ["words"] (spP K 1 F_joined_text) := by
    refine T.F_joined_text.ok sc_joined_text (fun vs H Q E h => h.1) (fun cdv A outer s H vs Q E hr h => ?_)
    have nd := sc_joined_text.nd
    exact ⟨_, (pss_one (ps_ret (pe_ifExp (pt_cmpR op_gt (pe_callB call_lenU (by rfl) T.n_len (by decide +kernel) (pa_cons (pv 0) pa_nil)) pe_int (nomark _)) (pe_join (pe_glob (v := .str " ") (by rfl) T.c_BLANK ⟨_, rfl⟩) (pv 0)) (pe_glob (v := .str "-") (by rfl) T.c_EMPTY ⟨_, rfl⟩)))),
      run_P (N := N_joined_text) (ds_ret (de_if (dt_test (de_op sn_gt (do_e (de_cb sn_len (da_cons (do_e de_v) da_nil))) (do_e de_int))) (de_join de_str de_v) de_str)) (by decide) h⟩
theorem ok_numbers_text (T : Tx K mg) : FnOk P w K mg base CX0 2 T.a_numbers_text T.d_numbers_text ["numbers"] (spP K 1 F_numbers_text) := by
    refine T.F_numbers_text.ok sc_numbers_text (fun vs H Q E h => h.1) (fun cdv A outer s H vs Q E hr h => ?_)
    have nd := sc_numbers_text.nd
    exact ⟨_, (pss_one (ps_ret (pe_call (ok_joined_text T) (hr.mono (by decide)) (by rfl) T.m_joined_text T.F_joined_text.kp T.b_joined_text .nil pass0 (pa_cons (pe_lc (own := [("number", 1)]) (by rfl) nd (pi_seqU (pv 0)) (blkOk_by (own := [("number", 1)]) (N := N_numbers_text) (sc := defScope s_numbers_text) (by decide +kernel)) (fun _ _ _ _ _ => (pg_name (i := 1) nd rfl (Or.inl rfl))) (fun _ _ _ _ _ => pts_nil) (fun _ _ _ _ _ => (pe_callTy call_strU (by rfl) T.n_str (by decide +kernel) (pa_cons (pv 1) pa_nil)))) pa_nil)))),
      run_P (N := N_numbers_text) (ds_ret (de_call callP_len (da_cons (do_e (de_l (df_lc (di_seq de_v) (dg_name (by decide)) dt_yes (de_cb sn_str (da_cons (do_e de_v) da_nil))))) da_nil))) (by decide) h⟩
theorem ok_calls_text (T : Tx K mg) : FnOk P w K mg base CX0 3 T.a_calls_text T.d_calls_text ["calls"] (spP K 1 F_calls_text) := by
    refine T.F_calls_text.ok sc_calls_text (fun vs H Q E h => h.1) (fun cdv A outer s H vs Q E hr h => ?_)
    have nd := sc_calls_text.nd
    exact ⟨_, (pss_one (ps_ret (pe_call (ok_numbers_text T) (hr.mono (by decide)) (by rfl) T.m_numbers_text T.F_numbers_text.kp T.b_numbers_text .nil pass0 (pa_cons (pv 0) pa_nil)))),
      run_P (N := N_calls_text) (ds_ret (de_call callP_len (da_cons (do_e de_v) da_nil))) (by decide) h⟩
theorem ok_integer_in (T : Tx K mg) : FnOk P w K mg base CX0 2 T.a_integer_in T.d_integer_in ["part"] (spP K 1 F_integer_in) := by
    refine T.F_integer_in.ok sc_integer_in (fun vs H Q E h => h.1) (fun cdv A outer s H vs Q E hr h => ?_)
    have nd := sc_integer_in.nd
    exact ⟨_, (pss_cons (ps_if (pt_cmpR (op_neU hr) (pe_slice sl_str (pv 0) po_none (po_some pe_int)) (pe_glob (v := .str "-") (by rfl) T.c_MINUS ⟨_, rfl⟩) (nomark _)) (pss_one (ps_ret (pe_call (ok_count_in T) (hr.mono (by decide)) (by rfl) T.m_count_in T.F_count_in.kp T.b_count_in .nil pass0 (pa_cons (pv 0) pa_nil)))) pss_nil) (pss_cons (ps_set (i := 1) nd rfl (Or.inl rfl) (pe_call (ok_count_in T) (hr.mono (by decide)) (by rfl) T.m_count_in T.F_count_in.kp T.b_count_in .nil pass0 (pa_cons (pe_slice sl_str (pv 0) (po_some pe_int) po_none) pa_nil))) (pss_one (ps_ret (pe_ifExp (PW.pt (pw_and (pt_cmpR op_isNotU (pv 1) pe_non (nomark _)) (pw_and1 (pt_cmpR op_gt (pv 1) pe_int (nomark _))))) (pe_un un_neg (pv 1)) pe_non))))),
      run_P (N := N_integer_in) (ds_seq (ds_if (dt_test (de_op sn_neW (do_e (de_sl sn_sliceS (do_e de_v) dp_no (dp_so de_int))) (do_e de_str))) (ds_ret (de_call callP_len (da_cons (do_e de_v) da_nil))) ds_next) (ds_seq (ds_set (i := 1) (de_call callP_len (da_cons (do_e (de_sl sn_sliceS (do_e de_v) (dp_so de_int) dp_no)) da_nil))) (ds_ret (de_if (dt_and (dt_test (de_op sn_isNot (do_e de_v) (do_e de_non))) (dt_test (de_op sn_gt (do_e de_v) (do_e de_int)))) (de_un sn_neg (do_e de_v)) de_non)))) (by decide) h⟩
theorem ok_row_or_none (T : Tx K mg) : FnOk P w K mg base CX0 3 T.a_row_or_none T.d_row_or_none ["text"] (spP K 1 F_row_or_none) := by
    refine T.F_row_or_none.ok sc_row_or_none (fun vs H Q E h => h.1) (fun cdv A outer s H vs Q E hr h => ?_)
    have nd := sc_row_or_none.nd
    exact ⟨_, (pss_cons (ps_set (i := 1) nd rfl (Or.inl rfl) (pe_call (ok_all_or_none T) (hr.mono (by decide)) (by rfl) T.m_all_or_none T.F_all_or_none.kp T.b_all_or_none .nil pass0 (pa_cons (pe_lc (own := [("word", 2)]) (by rfl) nd (pi_seqU (pe_call (ok_words_of T) (hr.mono (by decide)) (by rfl) T.m_words_of T.F_words_of.kp T.b_words_of .nil pass0 (pa_cons (pv 0) pa_nil))) (blkOk_by (own := [("word", 2)]) (N := N_row_or_none) (sc := defScope s_row_or_none) (by decide +kernel)) (fun _ _ _ _ _ => (pg_name (i := 2) nd rfl (Or.inl rfl))) (fun _ _ _ _ _ => pts_nil) (fun _ _ _ _ _ => (pe_call (ok_integer_in T) (hr.mono (by decide)) (by rfl) T.m_integer_in T.F_integer_in.kp T.b_integer_in .nil pass0 (pa_cons (pv 2) pa_nil)))) pa_nil))) (pss_one (ps_ret (pe_ifExp (pt_cmpR op_isU (pv 1) pe_non (nomark _)) pe_non (pe_callTy call_tupleU (by rfl) T.n_tuple (by decide +kernel) (pa_cons (pv 1) pa_nil)))))),
      run_P (N := N_row_or_none) (ds_seq (ds_set (i := 1) (de_call callP_len (da_cons (do_e (de_l (df_lc (di_seq (de_call callP_len (da_cons (do_e de_v) da_nil))) (dg_name (by decide)) dt_yes (de_call callP_len (da_cons (do_e de_v) da_nil))))) da_nil))) (ds_ret (de_if (dt_test (de_op sn_is (do_e de_v) (do_e de_non))) de_non (de_cb sn_tuple (da_cons (do_e de_v) da_nil))))) (by decide) h⟩
theorem ok_row_in (T : Tx K mg) : FnOk P w K mg base (L2.CX P w) 4 T.a_row_in T.d_row_in ["text"] (spX K 1 F_row_in) := by
    refine T.F_row_in.okX sc_row_in (fun vs H Q E h => h.1) (fun cdv A outer s H vs Q E hr h => ?_)
    have nd := sc_row_in.nd
    exact ⟨_, (pss_one (ps_ret (pe_callS (ok_checked T) (hr.mono (by decide)) (by rfl) T.m_checked T.F_checked.kp T.b_checked (fun σ => passAt (takes_of rfl rfl rfl rfl) σ) (pa_cons (pe_call (ok_row_or_none T) (hr.mono (by decide)) (by rfl) T.m_row_or_none T.F_row_or_none.kp T.b_row_or_none .nil pass0 (pa_cons (pv 0) pa_nil)) (pa_cons (pv 0) pa_nil))))),
      run_X (N := N_row_in) (ds_retX (xd_callX callX_len (da_cons (do_e (de_call callP_len (da_cons (do_e de_v) da_nil))) (da_cons (do_e de_v) da_nil)))) (by decide) h⟩
theorem ok_row_text (T : Tx K mg) : FnOk P w K mg base CX0 3 T.a_row_text T.d_row_text ["row"] (spP K 1 F_row_text) := by
    refine T.F_row_text.ok sc_row_text (fun vs H Q E h => h.1) (fun cdv A outer s H vs Q E hr h => ?_)
    have nd := sc_row_text.nd
    exact ⟨_, (pss_one (ps_ret (pe_call (ok_numbers_text T) (hr.mono (by decide)) (by rfl) T.m_numbers_text T.F_numbers_text.kp T.b_numbers_text .nil pass0 (pa_cons (pv 0) pa_nil)))),
      run_P (N := N_row_text) (ds_ret (de_call callP_len (da_cons (do_e de_v) da_nil))) (by decide) h⟩
theorem ok_wish_or_none (T : Tx K mg) : FnOk P w K mg base CX0 3 T.a_wish_or_none T.d_wish_or_none ["text"] (spP K 1 F_wish_or_none) := by
    refine T.F_wish_or_none.ok sc_wish_or_none (fun vs H Q E h => h.1) (fun cdv A outer s H vs Q E hr h => ?_)
    have nd := sc_wish_or_none.nd
    exact ⟨_, (pss_cons (ps_set (i := 1) nd rfl (Or.inl rfl) (pe_call (ok_words_of T) (hr.mono (by decide)) (by rfl) T.m_words_of T.F_words_of.kp T.b_words_of .nil pass0 (pa_cons (pv 0) pa_nil))) (pss_cons (ps_if (pt_not (pt_val (pe_callB (cr_all rfl) (by rfl) T.n_all (by decide +kernel) (pa_cons (pe_lc (own := [("word", 2)]) (by rfl) nd (pi_seqU (pv 1)) (blkOk_by (own := [("word", 2)]) (N := N_wish_or_none) (sc := defScope s_wish_or_none) (by decide +kernel)) (fun _ _ _ _ _ => (pg_name (i := 2) nd rfl (Or.inl rfl))) (fun _ _ _ _ _ => pts_nil) (fun _ _ _ _ _ => (pe_or (pe_cmpR (op_eqU hr) (pv 2) (pe_glob (v := .str "?") (by rfl) T.c_OPEN ⟨_, rfl⟩) (nomark _)) (pe_one (pe_cmpR op_isNotU (pe_call (ok_integer_in T) (hr.mono (by decide)) (by rfl) T.m_integer_in T.F_integer_in.kp T.b_integer_in .nil pass0 (pa_cons (pv 2) pa_nil)) pe_non (nomark _)))))) pa_nil)))) (pss_one (ps_ret pe_non)) pss_nil) (pss_one (ps_ret (pe_callTy call_tupleU (by rfl) T.n_tuple (by decide +kernel) (pa_cons (pe_lc (own := [("word", 2)]) (by rfl) nd (pi_seqU (pv 1)) (blkOk_by (own := [("word", 2)]) (N := N_wish_or_none) (sc := defScope s_wish_or_none) (by decide +kernel)) (fun _ _ _ _ _ => (pg_name (i := 2) nd rfl (Or.inl rfl))) (fun _ _ _ _ _ => pts_nil) (fun _ _ _ _ _ => (pe_call (ok_integer_in T) (hr.mono (by decide)) (by rfl) T.m_integer_in T.F_integer_in.kp T.b_integer_in .nil pass0 (pa_cons (pv 2) pa_nil)))) pa_nil)))))),
      run_P (N := N_wish_or_none) (ds_seq (ds_set (i := 1) (de_call callP_len (da_cons (do_e de_v) da_nil))) (ds_seq (ds_if (dt_not (dt_B (de_cb sn_all (da_cons (do_e (de_l (df_lc (di_seq de_v) (dg_name (by decide)) dt_yes (de_or (de_op sn_eqW (do_e de_v) (do_e de_str)) (de_op sn_isNot (do_e (de_call callP_len (da_cons (do_e de_v) da_nil))) (do_e de_non)))))) da_nil)))) (ds_ret de_non) ds_next) (ds_ret (de_cb sn_tuple (da_cons (do_e (de_l (df_lc (di_seq de_v) (dg_name (by decide)) dt_yes (de_call callP_len (da_cons (do_e de_v) da_nil))))) da_nil))))) (by decide) h⟩
theorem ok_wish_in (T : Tx K mg) : FnOk P w K mg base (L2.CX P w) 4 T.a_wish_in T.d_wish_in ["text"] (spX K 1 F_wish_in) := by
    refine T.F_wish_in.okX sc_wish_in (fun vs H Q E h => h.1) (fun cdv A outer s H vs Q E hr h => ?_)
    have nd := sc_wish_in.nd
    exact ⟨_, (pss_one (ps_ret (pe_callS (ok_checked T) (hr.mono (by decide)) (by rfl) T.m_checked T.F_checked.kp T.b_checked (fun σ => passAt (takes_of rfl rfl rfl rfl) σ) (pa_cons (pe_call (ok_wish_or_none T) (hr.mono (by decide)) (by rfl) T.m_wish_or_none T.F_wish_or_none.kp T.b_wish_or_none .nil pass0 (pa_cons (pv 0) pa_nil)) (pa_cons (pv 0) pa_nil))))),
      run_X (N := N_wish_in) (ds_retX (xd_callX callX_len (da_cons (do_e (de_call callP_len (da_cons (do_e de_v) da_nil))) (da_cons (do_e de_v) da_nil)))) (by decide) h⟩
theorem ok_wish_text (T : Tx K mg) : FnOk P w K mg base CX0 2 T.a_wish_text T.d_wish_text ["wish"] (spP K 1 F_wish_text) := by
    refine T.F_wish_text.ok sc_wish_text (fun vs H Q E h => h.1) (fun cdv A outer s H vs Q E hr h => ?_)
    have nd := sc_wish_text.nd
    exact ⟨_, (pss_one (ps_ret (pe_call (ok_joined_text T) (hr.mono (by decide)) (by rfl) T.m_joined_text T.F_joined_text.kp T.b_joined_text .nil pass0 (pa_cons (pe_lc (own := [("number", 1)]) (by rfl) nd (pi_seqU (pv 0)) (blkOk_by (own := [("number", 1)]) (N := N_wish_text) (sc := defScope s_wish_text) (by decide +kernel)) (fun _ _ _ _ _ => (pg_name (i := 1) nd rfl (Or.inl rfl))) (fun _ _ _ _ _ => pts_nil) (fun _ _ _ _ _ => (pe_ifExp (pt_cmpR op_isU (pv 1) pe_non (nomark _)) (pe_glob (v := .str "?") (by rfl) T.c_OPEN ⟨_, rfl⟩) (pe_callTy call_strU (by rfl) T.n_str (by decide +kernel) (pa_cons (pv 1) pa_nil))))) pa_nil)))),
      run_P (N := N_wish_text) (ds_ret (de_call callP_len (da_cons (do_e (de_l (df_lc (di_seq de_v) (dg_name (by decide)) dt_yes (de_if (dt_test (de_op sn_is (do_e de_v) (do_e de_non))) de_str (de_cb sn_str (da_cons (do_e de_v) da_nil)))))) da_nil))) (by decide) h⟩
theorem ok__law_right (T : Tx K mg) : FnOk P w K mg base CX0 10 T.a__law_right T.d__law_right ["_law_source"] (spB K 1 F__law_right) := by
    refine T.F__law_right.ok sc__law_right (fun vs H Q E h => h.1) (fun cdv A outer s H vs Q E hr h => ?_)
    have nd := sc__law_right.nd
    exact ⟨_, (pss_cons (ps_set (i := 1) nd rfl (Or.inl rfl) (pe_call (ok__law_line T) (hr.mono (by decide)) (by rfl) T.m__law_line T.F__law_line.kp T.b__law_line .nil pass0 (pa_cons (pv 0) (pa_cons pe_int (pa_cons (pe_call (ok__law_pick T) (hr.mono (by decide)) (by rfl) T.m__law_pick T.F__law_pick.kp T.b__law_pick .nil pass0 (pa_cons (pv 0) (pa_cons (pe_lst (pa_cons pe_int (pa_cons pe_int (pa_cons (pe_op op_pow pe_int pe_int) pa_nil)))) pa_nil))) pa_nil))))) (pss_cons (ps_par (i := 2) (j := 3) (by rfl) nd rfl rfl (by decide) rfl rfl (pa_cons (pe_lst pa_nil) (pa_cons (pe_lst pa_nil) pa_nil)) (by rfl)) (pss_cons (ps_for PassesOwn.never rfl (pi_range1 (by rfl) T.n_range (pa_cons (pe_call (ok__law_draw T 8) (hr.mono (by decide)) (by rfl) T.m__law_draw T.F__law_draw.kp T.b__law_draw .nil pass0 (pa_cons (pv 0) (pa_cons pe_int pa_nil))) pa_nil)) (pg_name (i := 4) nd rfl (Or.inl rfl)) (pss_one (ps_expr (pe_bm PySem.F.plainAttrs_list PySem.F.slot_list_append PySem.F.type_list_append mt_append (pv 2) (pa_cons (pe_call (ok__law_draw T 8) (hr.mono (by decide)) (by rfl) T.m__law_draw T.F__law_draw.kp T.b__law_draw .nil pass0 (pa_cons (pv 0) (pa_cons (pe_call (ok__law_pick T) (hr.mono (by decide)) (by rfl) T.m__law_pick T.F__law_pick.kp T.b__law_pick .nil pass0 (pa_cons (pv 0) (pa_cons (pe_lst (pa_cons pe_int (pa_cons (pe_op op_pow pe_int pe_int) pa_nil))) pa_nil))) pa_nil))) pa_nil))))) (pss_cons (ps_for PassesOwn.never rfl (pi_range1 (by rfl) T.n_range (pa_cons (pe_call (ok__law_draw T 8) (hr.mono (by decide)) (by rfl) T.m__law_draw T.F__law_draw.kp T.b__law_draw .nil pass0 (pa_cons (pv 0) (pa_cons pe_int pa_nil))) pa_nil)) (pg_name (i := 4) nd rfl (Or.inl rfl)) (pss_one (ps_expr (pe_bm PySem.F.plainAttrs_list PySem.F.slot_list_append PySem.F.type_list_append mt_append (pv 3) (pa_cons (pe_call (ok__law_pick T) (hr.mono (by decide)) (by rfl) T.m__law_pick T.F__law_pick.kp T.b__law_pick .nil pass0 (pa_cons (pv 0) (pa_cons (pe_lst (pa_cons pe_non (pa_cons (pe_call (ok__law_draw T 8) (hr.mono (by decide)) (by rfl) T.m__law_draw T.F__law_draw.kp T.b__law_draw .nil pass0 (pa_cons (pv 0) (pa_cons (pe_op op_pow pe_int pe_int) pa_nil))) (pa_cons (pe_op op_sub pe_int (pe_call (ok__law_draw T 8) (hr.mono (by decide)) (by rfl) T.m__law_draw T.F__law_draw.kp T.b__law_draw .nil pass0 (pa_cons (pv 0) (pa_cons pe_int pa_nil)))) pa_nil)))) pa_nil))) pa_nil))))) (pss_cons (ps_set (i := 3) nd rfl (Or.inl rfl) (pe_callTy call_tupleU (by rfl) T.n_tuple (by decide +kernel) (pa_cons (pv 3) pa_nil))) (pss_cons (ps_set (i := 5) nd rfl (Or.inl rfl) (pe_lst (pa_cons (pe_call (ok__law_joined T) (hr.mono (by decide)) (by rfl) T.m__law_joined T.F__law_joined.kp T.b__law_joined .nil pass0 (pa_cons (pe_lc (own := [("_law_own", 9)]) (by rfl) nd (pi_seqU (pv 1)) (blkOk_by (own := [("_law_own", 9)]) (N := N__law_right) (sc := defScope s__law_right) (by decide +kernel)) (fun _ _ _ _ _ => (pg_name (i := 9) nd rfl (Or.inl rfl))) (fun _ _ _ _ _ => pts_nil) (fun _ _ _ _ _ => (pe_callTy call_strU (by rfl) T.n_str (by decide +kernel) (pa_cons (pv 9) pa_nil)))) pa_nil)) (pa_cons (pe_call (ok__law_joined T) (hr.mono (by decide)) (by rfl) T.m__law_joined T.F__law_joined.kp T.b__law_joined .nil pass0 (pa_cons (pe_lc (own := [("_law_who", 10)]) (by rfl) nd (pi_seqU (pv 2)) (blkOk_by (own := [("_law_who", 10)]) (N := N__law_right) (sc := defScope s__law_right) (by decide +kernel)) (fun _ _ _ _ _ => (pg_name (i := 10) nd rfl (Or.inl rfl))) (fun _ _ _ _ _ => pts_nil) (fun _ _ _ _ _ => (pe_callTy call_strU (by rfl) T.n_str (by decide +kernel) (pa_cons (pv 10) pa_nil)))) pa_nil)) pa_nil)))) (pss_cons (ps_expr (pe_bm PySem.F.plainAttrs_list PySem.F.slot_list_append PySem.F.type_list_append mt_append (pv 5) (pa_cons (pe_call (ok__law_joined T) (hr.mono (by decide)) (by rfl) T.m__law_joined T.F__law_joined.kp T.b__law_joined .nil pass0 (pa_cons (pe_lc (own := [("_law_own", 9)]) (by rfl) nd (pi_seqU (pv 3)) (blkOk_by (own := [("_law_own", 9)]) (N := N__law_right) (sc := defScope s__law_right) (by decide +kernel)) (fun _ _ _ _ _ => (pg_name (i := 9) nd rfl (Or.inl rfl))) (fun _ _ _ _ _ => pts_nil) (fun _ _ _ _ _ => (pe_ifExp (pt_cmpR op_isU (pv 9) pe_non (nomark _)) pe_str (pe_callTy call_strU (by rfl) T.n_str (by decide +kernel) (pa_cons (pv 9) pa_nil))))) pa_nil)) pa_nil))) (pss_cons (ps_set (i := 6) nd rfl (Or.inl rfl) (pe_lst (pa_cons (pe_call (ok_row_text T) (hr.mono (by decide)) (by rfl) T.m_row_text T.F_row_text.kp T.b_row_text .nil pass0 (pa_cons (pv 1) pa_nil)) (pa_cons (pe_call (ok_calls_text T) (hr.mono (by decide)) (by rfl) T.m_calls_text T.F_calls_text.kp T.b_calls_text .nil pass0 (pa_cons (pv 2) pa_nil)) (pa_cons (pe_call (ok_wish_text T) (hr.mono (by decide)) (by rfl) T.m_wish_text T.F_wish_text.kp T.b_wish_text .nil pass0 (pa_cons (pv 3) pa_nil)) pa_nil))))) (pss_cons (ps_set (i := 6) nd rfl (Or.inl rfl) (pe_op op_addU (pv 6) (pe_lst (pa_cons (pe_callW (ok_row_text T) (hr.mono (by decide)) (by rfl) T.m_row_text T.F_row_text.kp T.k_row_text_row pass0 (pk_cons (pe_callTy call_listU (by rfl) T.n_list (by decide +kernel) (pa_cons (pv 1) pa_nil)) pk_nil)) (pa_cons (pe_callW (ok_calls_text T) (hr.mono (by decide)) (by rfl) T.m_calls_text T.F_calls_text.kp T.k_calls_text_calls pass0 (pk_cons (pe_callTy call_tupleU (by rfl) T.n_tuple (by decide +kernel) (pa_cons (pv 2) pa_nil)) pk_nil)) (pa_cons (pe_callW (ok_wish_text T) (hr.mono (by decide)) (by rfl) T.m_wish_text T.F_wish_text.kp T.k_wish_text_wish pass0 (pk_cons (pe_callTy call_listU (by rfl) T.n_list (by decide +kernel) (pa_cons (pv 3) pa_nil)) pk_nil)) pa_nil)))))) (pss_cons (ps_if (pt_not (pt_val (pe_call (ok__law_same T 6) (hr.mono (by decide)) (by rfl) T.m__law_same T.F__law_same.kp T.b__law_same .nil pass0 (pa_cons (pv 6) (pa_cons (pe_op op_addU (pv 5) (pv 5)) pa_nil))))) (pss_one (ps_ret pe_bl)) pss_nil) (pss_cons (ps_set (i := 6) nd rfl (Or.inl rfl) (pe_lst (pa_cons (pe_call (ok_row_in T) (hr.mono (by decide)) (by rfl) T.m_row_in T.F_row_in.kp T.b_row_in .nil passL (pa_cons (pe_ix ix_seq (pv 5) pe_int (fun _ _ => rfl)) pa_nil)) (pa_cons (pe_call (ok_calls_in T) (hr.mono (by decide)) (by rfl) T.m_calls_in T.F_calls_in.kp T.b_calls_in .nil passL (pa_cons (pe_ix ix_seq (pv 5) pe_int (fun _ _ => rfl)) pa_nil)) (pa_cons (pe_call (ok_wish_in T) (hr.mono (by decide)) (by rfl) T.m_wish_in T.F_wish_in.kp T.b_wish_in .nil passL (pa_cons (pe_ix ix_seq (pv 5) pe_int (fun _ _ => rfl)) pa_nil)) pa_nil))))) (pss_cons (ps_if (pt_not (pt_val (pe_call (ok__law_same T 6) (hr.mono (by decide)) (by rfl) T.m__law_same T.F__law_same.kp T.b__law_same .nil pass0 (pa_cons (pv 6) (pa_cons (pe_lst (pa_cons (pv 1) (pa_cons (pv 2) (pa_cons (pv 3) pa_nil)))) pa_nil))))) (pss_one (ps_ret pe_bl)) pss_nil) (pss_cons (ps_expr (pe_bm PySem.F.plainAttrs_list PySem.F.slot_list_append PySem.F.type_list_append mt_append (pe_ix ix_seq (pv 6) pe_int (fun _ _ => rfl)) (pa_cons pe_str pa_nil))) (pss_cons (ps_if (pt_not (pt_val (pe_call (ok__law_same T 6) (hr.mono (by decide)) (by rfl) T.m__law_same T.F__law_same.kp T.b__law_same .nil pass0 (pa_cons (pe_lst (pa_cons (pe_callW (ok_row_in T) (hr.mono (by decide)) (by rfl) T.m_row_in T.F_row_in.kp T.k_row_in_text passL (pk_cons (pe_ix ix_seq (pv 5) pe_int (fun _ _ => rfl)) pk_nil)) (pa_cons (pe_callW (ok_calls_in T) (hr.mono (by decide)) (by rfl) T.m_calls_in T.F_calls_in.kp T.k_calls_in_text passL (pk_cons (pe_ix ix_seq (pv 5) pe_int (fun _ _ => rfl)) pk_nil)) (pa_cons (pe_callW (ok_wish_in T) (hr.mono (by decide)) (by rfl) T.m_wish_in T.F_wish_in.kp T.k_wish_in_text passL (pk_cons (pe_ix ix_seq (pv 5) pe_int (fun _ _ => rfl)) pk_nil)) pa_nil)))) (pa_cons (pe_lst (pa_cons (pv 1) (pa_cons (pv 2) (pa_cons (pv 3) pa_nil)))) pa_nil))))) (pss_one (ps_ret pe_bl)) pss_nil) (pss_cons (ps_set (i := 7) nd rfl (Or.inl rfl) (pe_callTy call_tupleU (by rfl) T.n_tuple (by decide +kernel) (pa_cons (pe_lc (own := [("_law_turn", 4)]) (by rfl) nd (pi_range1 (by rfl) T.n_range (pa_cons (pe_op op_addU pe_int (pe_call (ok__law_draw T 8) (hr.mono (by decide)) (by rfl) T.m__law_draw T.F__law_draw.kp T.b__law_draw .nil pass0 (pa_cons (pv 0) (pa_cons pe_int pa_nil)))) pa_nil)) (blkOk_by (own := [("_law_turn", 4)]) (N := N__law_right) (sc := defScope s__law_right) (by decide +kernel)) (fun _ _ _ _ _ => (pg_name (i := 4) nd rfl (Or.inl rfl))) (fun _ _ _ _ _ => pts_nil) (fun _ _ _ _ _ => (pe_op op_addU pe_int (pe_op op_mod (pe_op op_mulT pe_int (pv 4)) pe_int)))) pa_nil))) (pss_cons (ps_set (i := 8) nd rfl (Or.inl rfl) (pe_join pe_str (pe_lc (own := [("_law_own", 9)]) (by rfl) nd (pi_seqU (pv 7)) (blkOk_by (own := [("_law_own", 9)]) (N := N__law_right) (sc := defScope s__law_right) (by decide +kernel)) (fun _ _ _ _ _ => (pg_name (i := 9) nd rfl (Or.inl rfl))) (fun _ _ _ _ _ => pts_nil) (fun _ _ _ _ _ => (pe_callTy call_strU (by rfl) T.n_str (by decide +kernel) (pa_cons (pv 9) pa_nil)))))) (pss_cons (ps_set (i := 6) nd rfl (Or.inl rfl) (pe_lst (pa_cons (pe_call (ok_row_in T) (hr.mono (by decide)) (by rfl) T.m_row_in T.F_row_in.kp T.b_row_in .nil passL (pa_cons (pv 8) pa_nil)) (pa_cons (pe_call (ok_calls_in T) (hr.mono (by decide)) (by rfl) T.m_calls_in T.F_calls_in.kp T.b_calls_in .nil passL (pa_cons (pv 8) pa_nil)) (pa_cons (pe_call (ok_wish_in T) (hr.mono (by decide)) (by rfl) T.m_wish_in T.F_wish_in.kp T.b_wish_in .nil passL (pa_cons (pv 8) pa_nil)) (pa_cons (pe_call (ok_row_text T) (hr.mono (by decide)) (by rfl) T.m_row_text T.F_row_text.kp T.b_row_text .nil pass0 (pa_cons (pe_tup pa_nil) pa_nil)) pa_nil)))))) (pss_cons (ps_set (i := 6) nd rfl (Or.inl rfl) (pe_op op_addU (pv 6) (pe_lst (pa_cons (pe_call (ok_calls_text T) (hr.mono (by decide)) (by rfl) T.m_calls_text T.F_calls_text.kp T.b_calls_text .nil pass0 (pa_cons (pe_lst pa_nil) pa_nil)) (pa_cons (pe_call (ok_wish_text T) (hr.mono (by decide)) (by rfl) T.m_wish_text T.F_wish_text.kp T.b_wish_text .nil pass0 (pa_cons (pe_lst pa_nil) pa_nil)) (pa_cons (pe_call (ok_row_in T) (hr.mono (by decide)) (by rfl) T.m_row_in T.F_row_in.kp T.b_row_in .nil passL (pa_cons pe_str pa_nil)) (pa_cons (pe_call (ok_calls_in T) (hr.mono (by decide)) (by rfl) T.m_calls_in T.F_calls_in.kp T.b_calls_in .nil passL (pa_cons pe_str pa_nil)) (pa_cons (pe_call (ok_wish_in T) (hr.mono (by decide)) (by rfl) T.m_wish_in T.F_wish_in.kp T.b_wish_in .nil passL (pa_cons pe_str pa_nil)) pa_nil)))))))) (pss_one (ps_ret (pe_call (ok__law_same T 6) (hr.mono (by decide)) (by rfl) T.m__law_same T.F__law_same.kp T.b__law_same .nil pass0 (pa_cons (pv 6) (pa_cons (pe_lst (pa_cons (pv 7) (pa_cons (pe_callTy call_listU (by rfl) T.n_list (by decide +kernel) (pa_cons (pv 7) pa_nil)) (pa_cons (pv 7) (pa_cons pe_str (pa_cons pe_str (pa_cons pe_str (pa_cons (pe_tup pa_nil) (pa_cons (pe_lst pa_nil) (pa_cons (pe_tup pa_nil) pa_nil)))))))))) pa_nil))))))))))))))))))))))),
      run_B (N := N__law_right) (ds_seq (ds_set (i := 1) (de_callB callB_len (da_cons (do_e de_int) (da_cons (do_e (de_callB callB_len (da_cons (do_e (de_l (df_lst (da_cons (do_e de_int) (da_cons (do_e de_int) (da_cons (do_e (de_op sn_pow (do_e de_int) (do_e de_int))) da_nil)))))) da_nil))) da_nil)))) (ds_seq (ds_par (dn_f (df_lst da_nil)) (dn_f (df_lst da_nil))) (ds_seq (ds_for (ws := [4]) (di_rng1 (da_cons (do_e (de_callB (Fl__law_draw _) (da_cons (do_e de_int) da_nil))) da_nil)) (dg_name (by decide)) (ds_app (de_callB (Fl__law_draw _) (da_cons (do_e (de_callB callB_len (da_cons (do_e (de_l (df_lst (da_cons (do_e de_int) (da_cons (do_e (de_op sn_pow (do_e de_int) (do_e de_int))) da_nil))))) da_nil))) da_nil)))) (ds_seq (ds_for (ws := [4]) (di_rng1 (da_cons (do_e (de_callB (Fl__law_draw _) (da_cons (do_e de_int) da_nil))) da_nil)) (dg_name (by decide)) (ds_app (de_callB callB_len (da_cons (do_e (de_l (df_lst (da_cons (do_e de_non) (da_cons (do_e (de_callB (Fl__law_draw _) (da_cons (do_e (de_op sn_pow (do_e de_int) (do_e de_int))) da_nil))) (da_cons (do_e (de_op sn_sub (do_e de_int) (do_e (de_callB (Fl__law_draw _) (da_cons (do_e de_int) da_nil))))) da_nil)))))) da_nil)))) (ds_seq (ds_set (i := 3) (de_cb sn_tuple (da_cons do_v da_nil))) (ds_seq (ds_fz (i := 2) (ds_setO (i := 5) (df_lst (da_cons (do_e (de_call callP_len (da_cons (do_e (de_l (df_lc (di_seq de_v) (dg_name (by decide)) dt_yes (de_cb sn_str (da_cons (do_e de_v) da_nil))))) da_nil))) (da_cons (do_e (de_call callP_len (da_cons (do_e (de_l (df_lc (di_seq de_v) (dg_name (by decide)) dt_yes (de_cb sn_str (da_cons (do_e de_v) da_nil))))) da_nil))) da_nil))))) (ds_seq (ds_app (de_call callP_len (da_cons (do_e (de_l (df_lc (di_seq de_v) (dg_name (by decide)) dt_yes (de_if (dt_test (de_op sn_is (do_e de_v) (do_e de_non))) de_str (de_cb sn_str (da_cons (do_e de_v) da_nil)))))) da_nil))) (ds_seq (ds_set (i := 6) (de_l (df_lst (da_cons (do_e (de_call callP_len (da_cons (do_e de_v) da_nil))) (da_cons (do_e (de_call callP_len (da_cons (do_e de_v) da_nil))) (da_cons (do_e (de_call callP_len (da_cons (do_e de_v) da_nil))) da_nil)))))) (ds_seq (ds_set (i := 6) (de_op sn_addU (do_e de_v) (do_e (de_l (df_lst (da_cons (do_e (de_callW kw_idL callP_len (da_cons (do_e (de_l (df_cb sn_list (da_cons (do_e de_v) da_nil)))) da_nil))) (da_cons (do_e (de_callW kw_idL callP_len (da_cons (do_e (de_cb sn_tuple (da_cons (do_e de_v) da_nil))) da_nil))) (da_cons (do_e (de_callW kw_idL callP_len (da_cons (do_e (de_l (df_cb sn_list (da_cons (do_e de_v) da_nil)))) da_nil))) da_nil)))))))) (ds_seq (ds_if (dt_not (dt_B (de_call (Fl__law_same _) (da_cons (do_e de_v) (da_cons (do_e (de_op sn_addU do_v do_v)) da_nil))))) (ds_ret de_bl) ds_next) (ds_heardT (h := 6) (dnl_s (de_callX callX_len (da_cons (do_e (de_op sn_ix do_v (do_e de_int))) da_nil)) (dnl_f (df_callXN callX_len (da_cons (do_e (de_op sn_ix do_v (do_e de_int))) da_nil)) (dnl_s (de_callX callX_len (da_cons (do_e (de_op sn_ix do_v (do_e de_int))) da_nil)) dnl_nil))) (de_l (df_lst (da_cons (do_e de_v) (da_cons (do_e de_v) (da_cons (do_e de_v) da_nil))))) (ht_apps (x := "more") (js := [1])) (ds_seq (ds_if (dt_not (dt_B (de_call (Fl__law_same _) (da_cons (do_e (de_l (df_lst (da_cons (do_e (de_callWX kw_idL callX_len (da_cons (do_e (de_op sn_ix do_v (do_e de_int))) da_nil))) (da_cons (do_e (de_callWX kw_idL callX_len (da_cons (do_e (de_op sn_ix do_v (do_e de_int))) da_nil))) (da_cons (do_e (de_callWX kw_idL callX_len (da_cons (do_e (de_op sn_ix do_v (do_e de_int))) da_nil))) da_nil)))))) (da_cons (do_e (de_l (df_lst (da_cons (do_e de_v) (da_cons (do_e de_v) (da_cons (do_e de_v) da_nil)))))) da_nil))))) (ds_ret de_bl) ds_next) (ds_seq (ds_set (i := 7) (de_cb sn_tuple (da_cons (do_e (de_l (df_lc (di_rng1 (da_cons (do_e (de_op sn_addU (do_e de_int) (do_e (de_callB (Fl__law_draw _) (da_cons (do_e de_int) da_nil))))) da_nil)) (dg_name (by decide)) dt_yes (de_op sn_addU (do_e de_int) (do_e (de_op sn_mod (do_e (de_op sn_mulV (do_e de_int) (do_e de_v))) (do_e de_int))))))) da_nil))) (ds_seq (ds_set (i := 8) (de_join de_str (de_l (df_lc (di_seq de_v) (dg_name (by decide)) dt_yes (de_cb sn_str (da_cons (do_e de_v) da_nil)))))) (ds_seq (ds_set (i := 6) (de_l (df_lst (da_cons (do_e (de_callX callX_len (da_cons (do_e de_v) da_nil))) (da_cons (do_e (de_callX callX_len (da_cons (do_e de_v) da_nil))) (da_cons (do_e (de_callX callX_len (da_cons (do_e de_v) da_nil))) (da_cons (do_e (de_call callP_len (da_cons (do_e (de_tup da_nil)) da_nil))) da_nil))))))) (ds_seq (ds_set (i := 6) (de_op sn_addU (do_e de_v) (do_e (de_l (df_lst (da_cons (do_e (de_call callP_len (da_cons (do_e (de_l (df_lst da_nil))) da_nil))) (da_cons (do_e (de_call callP_len (da_cons (do_e (de_l (df_lst da_nil))) da_nil))) (da_cons (do_e (de_callX callX_len (da_cons (do_e de_str) da_nil))) (da_cons (do_e (de_callX callX_len (da_cons (do_e de_str) da_nil))) (da_cons (do_e (de_callX callX_len (da_cons (do_e de_str) da_nil))) da_nil)))))))))) (ds_ret (de_call (Fl__law_same _) (da_cons (do_e de_v) (da_cons (do_e (de_l (df_lst (da_cons (do_e de_v) (da_cons (do_e (de_l (df_cb sn_list (da_cons (do_e de_v) da_nil)))) (da_cons (do_e de_v) (da_cons (do_e de_str) (da_cons (do_e de_str) (da_cons (do_e de_str) (da_cons (do_e (de_tup da_nil)) (da_cons (do_e (de_l (df_lst da_nil))) (da_cons (do_e (de_tup da_nil)) da_nil)))))))))))) da_nil)))))))))))))))))))) (by decide) h⟩
theorem ok__law_stream (T : Tx K mg) : FnOk P w K mg base CX0 1 T.a__law_stream T.d__law_stream ["_law_script", "_law_k"] (spF K 2 F__law_stream) := by
    refine T.F__law_stream.ok sc__law_stream (fun vs H Q E h => h.1) (fun cdv A outer s H vs Q E hr h => ?_)
    have nd := sc__law_stream.nd
    exact ⟨_, (pss_cons (ps_set (i := 2) nd rfl (Or.inl rfl) pe_int) (pss_cons (ps_if (pt_cmpR op_lt (pv 1) (pe_callB call_lenU (by rfl) T.n_len (by decide +kernel) (pa_cons (pv 0) pa_nil)) (nomark _)) (pss_one (ps_set (i := 2) nd rfl (Or.inl rfl) (pe_ix ix_seq (pv 0) (pv 1) (fun _ _ => rfl)))) pss_nil) (pss_one (ps_ret (pe_lst (pa_cons (pe_op op_mulT (pe_callB call_absU (by rfl) T.n_abs (by decide +kernel) (pa_cons (pv 2) pa_nil)) (pe_callTy call_intU (by rfl) T.n_int (by decide +kernel) (pa_cons (pe_cmpR op_ge (pe_callB call_absU (by rfl) T.n_abs (by decide +kernel) (pa_cons (pv 2) pa_nil)) (pe_op op_pow pe_int pe_int) (nomark _)) pa_nil))) (pa_cons (pe_op op_addU (pe_op op_addU (pe_op op_mod (pv 2) pe_int) (pe_op op_mulT pe_int (pv 1))) pe_int) (pa_cons pe_int pa_nil)))))))),
      run_F (N := N__law_stream) (ds_seq (ds_set (i := 2) de_int) (ds_seq (ds_if (dt_test (de_op sn_lt (do_e de_v) (do_e (de_cb sn_len (da_cons (do_e de_v) da_nil))))) (ds_set (i := 2) (de_op sn_ix (do_e de_v) (do_e de_v))) ds_next) (ds_retF (df_lst (da_cons (do_e (de_op sn_mulV (do_e (de_cb sn_abs (da_cons (do_e de_v) da_nil))) (do_e (de_cb sn_int (da_cons (do_e (de_op sn_ge (do_e (de_cb sn_abs (da_cons (do_e de_v) da_nil))) (do_e (de_op sn_pow (do_e de_int) (do_e de_int))))) da_nil))))) (da_cons (do_e (de_op sn_addU (do_e (de_op sn_addU (do_e (de_op sn_mod (do_e de_v) (do_e de_int))) (do_e (de_op sn_mulV (do_e de_int) (do_e de_v))))) (do_e de_int))) (da_cons (do_e de_int) da_nil))))))) (by decide) h⟩
theorem ok_law (T : Tx K mg) : FnOk P w K mg base CX0 11 T.a_law T.d_law ["_law_script"] (spP K 1 F_law) := by
    refine T.F_law.ok sc_law (fun vs H Q E h => h.1) (fun cdv A outer s H vs Q E hr h => ?_)
    have nd := sc_law.nd
    exact ⟨_, (pss_cons (ps_set (i := 1) nd rfl (Or.inl rfl) (pe_call (ok__law_folded T) (hr.mono (by decide)) (by rfl) T.m__law_folded T.F__law_folded.kp T.b__law_folded .nil pass0 (pa_cons (pv 0) (pa_cons pe_int pa_nil)))) (pss_cons (ps_for PassesOwn.never rfl (pi_range1 (by rfl) T.n_range (pa_cons (pe_callB call_lenU (by rfl) T.n_len (by decide +kernel) (pa_cons (pv 1) pa_nil)) pa_nil)) (pg_name (i := 2) nd rfl (Or.inl rfl)) (pss_cons (ps_set (i := 3) nd rfl (Or.inr rfl) (pe_call (ok__law_stream T) (hr.mono (by decide)) (by rfl) T.m__law_stream T.F__law_stream.kp T.b__law_stream .nil pass0 (pa_cons (pv 1) (pa_cons (pv 2) pa_nil)))) (pss_one (ps_if (pt_not (pt_val (pe_callB (cr_all rfl) (by rfl) T.n_all (by decide +kernel) (pa_cons (pe_lc (own := [("_law_turn", 4)]) (by rfl) nd (pi_range1 (by rfl) T.n_range (pa_cons pe_int pa_nil)) (blkOk_by (own := [("_law_turn", 4)]) (N := N_law) (sc := defScope s_law) (by decide +kernel)) (fun _ _ _ _ _ => (pg_name (i := 4) nd rfl (Or.inl rfl))) (fun _ _ _ _ _ => pts_nil) (fun _ _ _ _ _ => (pe_call (ok__law_right T) (hr.mono (by decide)) (by rfl) T.m__law_right T.F__law_right.kp T.b__law_right .nil pass0 (pa_cons (pv 3) pa_nil)))) pa_nil)))) (pss_one (ps_ret pe_bl)) pss_nil)))) (pss_one (ps_ret pe_bl)))),
      run_P (N := N_law) (ds_seq (ds_set (i := 1) (de_l (df_call callF_len (da_cons (do_e de_v) (da_cons (do_e de_int) da_nil))))) (ds_seq (ds_for (ws := [2]) (di_rng1 (da_cons (do_e (de_cb sn_len (da_cons (do_e de_v) da_nil))) da_nil)) (dg_name (by decide)) (ds_seq (ds_setO (i := 3) (df_call callF_len (da_cons (do_e de_v) (da_cons (do_e de_v) da_nil)))) (ds_if (dt_not (dt_B (de_cb sn_all (da_cons (do_e (de_l (df_lc (di_rng1 (da_cons (do_e de_int) da_nil)) (dg_name (by decide)) dt_yes (de_callB callB_len da_nil)))) da_nil)))) (ds_ret de_bl) ds_next))) (ds_ret de_bl))) (by decide) h⟩
end
end W
namespace W
open PySem L2 DL
local macro_rules | `(tactic| walk_at "ev") => `(tactic| simp only [eC, eV, oE, oV, eL, eT, aNil, aCons, eOp2, eOp1, eApp, tstE, eB, tNotG, tAndG, tOrG, eAndG, eOrG, eNotG, eIf, eSeq, eCall, eCallO, eCallB, eCallBF, eCallBX, sSeq, sNext, sRet, sRetF, sRetO, sRetN, sDrop, sIf, sSet, sSetO, sBreak, sCont, sBad, sPar, sPar3, fz, sFz, eCallW, idL, sApp, sPutIx, sAug, sFor, gN, gT, gsCons, gsNil, gYes, eLc, gSeq, nS, nF, Nw.sl, R.ok_bind, R.ok_map, R.lift_some, to_ok, toX_ok, toX_ex, bind_nx, bind_rt, bind_rf, bind_ex, bind_bk, bind_ct, at_ok, at_ex, res_val, map_ex, rbind_ex, Op.res, resA, valA, isOw, box0, Option.map_some, Option.bind_some, sHeardT, nlCons, nlNil, Nw.dat, mSet, eChain, eRg1, eRg2, eSl, pNo, pSo,
  List.getElem?_cons_zero, List.getElem?_cons_succ, List.set_cons_zero, List.set_cons_succ, List.length_cons, List.length_nil, if_true, if_false, Bool.false_eq_true, ite_true, ite_false, reduceIte,
  addU_int, subD_int, ltD_int, leD_int, gtD_int, geD_int, negD_int, absD_int, intD_bool, intD_int, lenD_list, lenD_tuple, lenD_scr, pow10_7, pow10_18, pow10_40, eqW_ints, neW_ints, eqW_strs, neW_strs, eqW_none, eqW_in, eqW_ni, ixD_list, ixD_tuple, ixD_scr, atI_3_0, atI_3_1, atI_3_2, ixN_3_0, ixN_3_1, ixN_3_2, wipeR, zip2D, skOf, isiD_n, isiD_b, isiD_i, isiD_s, isiD_l, isiD_t, isiTD_n, isiTD_b, isiTD_i, isiTD_s, isiTD_l, isiTD_t, isiAny, eCallX, eCallWX, xE, xIf, xL, xCb1, sSetX, sRetX, sDropX, sRaise, sTo, eMk, isX_n, sKeep, kt_ll, kt_lt, kt_ls, kt_li, kt_lb, kt_tl, kt_tt, kt_ts, kt_ti, kt_tb, kt_sl, kt_st, kt_ss, kt_si, kt_sb, kt_il, kt_it, kt_is, kt_ii, kt_ib, kt_bl, kt_bt, kt_bs, kt_bi, kt_bb, kt_nl, kt_nt, kt_ns, kt_ni, kt_nb, eqW_bools, neW_bools, isD_none, isNotD_none, isNoneD, isNone_e, List.map_cons, List.map_nil, List.replicate, List.append_nil, List.cons_append, List.nil_append, nc0, nc1, nc2, nc3, nc4, nc5, nc6, nc7, nc8, nc9, nc10, nc11, nc12, nc13, nc14, nc15, nc16, nc17, nc18, nc19, nc20, Nat.reduceAdd, Nat.reduceSub, ne_eq, decide_true, decide_false, not_true_eq_false, not_false_eq_true, reduceCtorEq, Bool.and_true, Bool.true_and, Bool.and_false, Bool.false_and, Bool.or_true, Bool.true_or, Bool.or_false, Bool.false_or, Bool.not_true, Bool.not_false])
local macro_rules | `(tactic| walk_at "evh") => `(tactic| simp only [eC, eV, oE, oV, eL, eT, aNil, aCons, eOp2, eOp1, eApp, tstE, eB, tNotG, tAndG, tOrG, eAndG, eOrG, eNotG, eIf, eSeq, eCall, eCallO, eCallB, eCallBF, eCallBX, sSeq, sNext, sRet, sRetF, sRetO, sRetN, sDrop, sIf, sSet, sSetO, sBreak, sCont, sBad, sPar, sPar3, fz, sFz, eCallW, idL, sApp, sPutIx, sAug, sFor, gN, gT, gsCons, gsNil, gYes, eLc, gSeq, nS, nF, Nw.sl, R.ok_bind, R.ok_map, R.lift_some, to_ok, toX_ok, toX_ex, bind_nx, bind_rt, bind_rf, bind_ex, bind_bk, bind_ct, at_ok, at_ex, res_val, map_ex, rbind_ex, Op.res, resA, valA, isOw, box0, Option.map_some, Option.bind_some, sHeardT, nlCons, nlNil, Nw.dat, mSet, eChain, eRg1, eRg2, eSl, pNo, pSo,
  List.getElem?_cons_zero, List.getElem?_cons_succ, List.set_cons_zero, List.set_cons_succ, List.length_cons, List.length_nil, if_true, if_false, Bool.false_eq_true, ite_true, ite_false, reduceIte,
  addU_int, subD_int, ltD_int, leD_int, gtD_int, geD_int, negD_int, absD_int, intD_bool, intD_int, lenD_list, lenD_tuple, lenD_scr, pow10_7, pow10_18, pow10_40, eqW_ints, neW_ints, eqW_strs, neW_strs, eqW_none, eqW_in, eqW_ni, ixD_list, ixD_tuple, ixD_scr, atI_3_0, atI_3_1, atI_3_2, ixN_3_0, ixN_3_1, ixN_3_2, wipeR, zip2D, skOf, isiD_n, isiD_b, isiD_i, isiD_s, isiD_l, isiD_t, isiTD_n, isiTD_b, isiTD_i, isiTD_s, isiTD_l, isiTD_t, isiAny, eCallX, eCallWX, xE, xIf, xL, xCb1, sSetX, sRetX, sDropX, sRaise, sTo, eMk, isX_n, sKeep, kt_ll, kt_lt, kt_ls, kt_li, kt_lb, kt_tl, kt_tt, kt_ts, kt_ti, kt_tb, kt_sl, kt_st, kt_ss, kt_si, kt_sb, kt_il, kt_it, kt_is, kt_ii, kt_ib, kt_bl, kt_bt, kt_bs, kt_bi, kt_bb, kt_nl, kt_nt, kt_ns, kt_ni, kt_nb, eqW_bools, neW_bools, isD_none, isNotD_none, isNoneD, isNone_e, List.map_cons, List.map_nil, List.replicate, List.append_nil, List.cons_append, List.nil_append, nc0, nc1, nc2, nc3, nc4, nc5, nc6, nc7, nc8, nc9, nc10, nc11, nc12, nc13, nc14, nc15, nc16, nc17, nc18, nc19, nc20, Nat.reduceAdd, Nat.reduceSub, ne_eq, decide_true, decide_false, not_true_eq_false, not_false_eq_true, reduceCtorEq, Bool.and_true, Bool.true_and, Bool.and_false, Bool.false_and, Bool.or_true, Bool.true_or, Bool.or_false, Bool.false_or, Bool.not_true, Bool.not_false, *])
theorem take1 {a b c span : Int} (Fr : List D → List D → Option (D × List D)) (ha : 0 < a) (hs : 0 < span) (hs2 : span < 2 ^ 300) : callB 2 5 (g__law_draw Fr) [.int a, .int b, .int c] [.int span] = some (.int (a % span), [.int (a / span), .int b, .int c]) := by
  have d1 : decide ((0:Int) < a) = true := decide_eq_true ha
  have e1 : modD (.int a) (.int span) = some (.int (a % span)) := modD_int hs
  have e2 : fdivD (.int a) (.int span) = some (.int (a / span)) := fdivD_int hs hs2
  unfold callB g__law_draw envB
  walk_at "evh"
theorem take2 {b c span : Int} (Fr : List D → List D → Option (D × List D)) (hb : 0 ≤ b ∧ b < 2 ^ 62) (hc : 0 ≤ c ∧ c < 2 ^ 40) (hs : 0 < span) (hs2 : span ≤ 10000000) : ∃ r, callB 2 5 (g__law_draw Fr) [.int 0, .int b, .int c] [.int span] = some (.int r, [.int 0, .int b, .int (c + 1)]) ∧ 0 ≤ r ∧ r < span := by
  have d2 : decide ((10000000:Int) < span) = false := decide_eq_false (by omega)
  have m1 : mulV (.int 48271) (.int (c + 1)) = some (.int (48271 * (c + 1))) := cmul_l (by omega)
  have m2 : mulV (.int (b + 48271 * (c + 1))) (.int (39373 + (c + 1))) = some (.int ((b + 48271 * (c + 1)) * (39373 + (c + 1)))) := cmul_r (by omega)
  generalize hx : (b + 48271 * (c + 1)) * (39373 + (c + 1)) = x at m2
  have m3 : modD (.int x) (.int 2147483647) = some (.int (x % 2147483647)) := modD_int (by omega)
  generalize hy : x % 2147483647 = y at m3
  have hy0 : 0 ≤ y ∧ y < 2147483647 := by omega
  have m4 : modD (.int y) (.int 40009) = some (.int (y % 40009)) := modD_int (by omega)
  have m4b : fdivD (.int b) (.int 1000003) = some (.int (b / 1000003)) := fdivD_int (by omega) (by omega)
  have m5 : mulV (.int (y + (c + 1) + b / 1000003)) (.int (y % 40009 + 7)) = some (.int ((y + (c + 1) + b / 1000003) * (y % 40009 + 7))) := cmul_r (by omega)
  generalize hz : (y + (c + 1) + b / 1000003) * (y % 40009 + 7) = z at m5
  have m6 : modD (.int z) (.int 2147483629) = some (.int (z % 2147483629)) := modD_int (by omega)
  generalize hv : z % 2147483629 = v at m6
  have m7 : mulV (.int v) (.int 48271) = some (.int (v * 48271)) := cmul_r (by omega)
  generalize hw : v * 48271 + y = w
  have m8 : modD (.int w) (.int 2147483587) = some (.int (w % 2147483587)) := modD_int (by omega)
  have m9 : fdivD (.int (w % 2147483587)) (.int 64) = some (.int (w % 2147483587 / 64)) := fdivD_int (by omega) (by omega)
  have m10 : modD (.int (w % 2147483587 / 64)) (.int span) = some (.int (w % 2147483587 / 64 % span)) := modD_int hs
  refine ⟨w % 2147483587 / 64 % span, ?_, Int.emod_nonneg _ (by omega), Int.emod_lt_of_pos _ hs⟩
  have d1 : decide ((0:Int) < 0) = false := rfl
  unfold callB g__law_draw envB
  clear hx hy hz hv
  walk_at "evh"
theorem take_small (k : Nat) {span n : Int} {box : List D} (hb : GoodBox n box) (hn : n < 2 ^ 40) (hs : 0 < span) (hs2 : span ≤ 10000000) : ∃ r box', F__law_draw (k + 1) box [.int span] = some (.int r, box') ∧ 0 ≤ r ∧ r < span ∧ GoodBox (n + 1) box' := by
  obtain ⟨a, b, c, rfl, h1, h2, h3, h4, h5⟩ := hb
  by_cases ha : 0 < a
  · refine ⟨_, _, take1 _ ha hs (by omega), Int.emod_nonneg _ (by omega), Int.emod_lt_of_pos _ hs, _, _, _, rfl, ?_, h2, h3, h4, by omega⟩
    exact Int.ediv_nonneg h1 (by omega)
  · have e : a = 0 := by omega
    subst e
    obtain ⟨r, e, r1, r2⟩ := take2 (F__law_draw k) ⟨h2, h3⟩ ⟨h4, by omega⟩ hs hs2
    exact ⟨r, _, e, r1, r2, _, _, _, rfl, by omega, h2, h3, by omega, by omega⟩
theorem take3 {b c span : Int} (Fr : List D → List D → Option (D × List D)) {r1 r2 : Int} {box1 box2 : List D} (hs : 10000000 < span) (hs2 : span < 2 ^ 300)
    (e1 : Fr [.int 0, .int b, .int c] [.int 10000000] = some (.int r1, box1)) (e2 : Fr box1 [.int ((span - 1) / 10000000 + 1)] = some (.int r2, box2)) :
    callB 2 5 (g__law_draw Fr) [.int 0, .int b, .int c] [.int span] = some (.int ((r1 + 10000000 * r2) % span), box2) := by
  have d1 : decide ((0:Int) < 0) = false := rfl
  have d2 : decide ((10000000:Int) < span) = true := decide_eq_true hs
  have m1 : fdivD (.int (span - 1)) (.int 10000000) = some (.int ((span - 1) / 10000000)) := fdivD_int (by omega) (by omega)
  have m2 : mulV (.int 10000000) (.int r2) = some (.int (10000000 * r2)) := cmul_l (by omega)
  have m3 : modD (.int (r1 + 10000000 * r2)) (.int span) = some (.int ((r1 + 10000000 * r2) % span)) := modD_int (by omega)
  unfold callB g__law_draw envB
  walk_at "evh"
def spB : Nat → Int
  | 0 => 10000000
  | k + 1 => spB k * 10000000
theorem spB_lt : ∀ k : Nat, k ≤ 7 → spB k < 2 ^ 300
  | 0, _ => by decide
  | 1, _ => by decide
  | 2, _ => by decide
  | 3, _ => by decide
  | 4, _ => by decide
  | 5, _ => by decide
  | 6, _ => by decide
  | 7, _ => by decide
  | k + 8, h => by omega
theorem take_spec : ∀ (k : Nat) {span n : Int} {box : List D}, GoodBox n box → n + k < 2 ^ 40 → 0 < span → span ≤ spB k → k ≤ 7 → ∃ r box', F__law_draw (k + 1) box [.int span] = some (.int r, box') ∧ 0 ≤ r ∧ r < span ∧ GoodBox (n + k + 1) box'
  | 0, span, n, box, hb, hn, hs, hs2, hk => by
    obtain ⟨r, box', e, r1, r2, g⟩ := take_small 0 hb (by omega) hs hs2
    exact ⟨r, box', e, r1, r2, g.mono (by omega)⟩
  | k + 1, span, n, box, hb, hn, hs, hs2, hk => by
    by_cases hsm : span ≤ 10000000
    · obtain ⟨r, box', e, r1, r2, g⟩ := take_small (k + 1) hb (by omega) hs hsm
      exact ⟨r, box', e, r1, r2, g.mono (by omega)⟩
    · have hlt : span < 2 ^ 300 := by
        have := spB_lt (k + 1) hk
        omega
      obtain ⟨a, b, c, rfl, h1, h2, h3, h4, h5⟩ := id hb
      by_cases ha : 0 < a
      · refine ⟨_, _, take1 _ ha hs hlt, Int.emod_nonneg _ (by omega), Int.emod_lt_of_pos _ hs, _, _, _, rfl, ?_, h2, h3, h4, by omega⟩
        exact Int.ediv_nonneg h1 (by omega)
      · have e : a = 0 := by omega
        subst e
        have hX : span ≤ spB k * 10000000 := hs2
        obtain ⟨r1, box1, e1, q1, q2, g1⟩ := take_small k (span := 10000000) hb (by omega) (by omega) (by omega)
        obtain ⟨r2, box2, e2, q3, q4, g2⟩ := take_spec k (span := (span - 1) / 10000000 + 1) g1 (by omega) (by omega) (by omega) (by omega)
        exact ⟨_, _, take3 (F__law_draw (k + 1)) (by omega) hlt e1 e2, Int.emod_nonneg _ (by omega), Int.emod_lt_of_pos _ hs, g2.mono (by omega)⟩
/-- the draw that the law's defs use -/
theorem take8 {span n : Int} {box : List D} (hb : GoodBox n box) (hn : n < 2 ^ 39) (hs : 0 < span) (hs2 : span ≤ 10 ^ 50) : ∃ r box', F__law_draw 8 box [.int span] = some (.int r, box') ∧ 0 ≤ r ∧ r < span ∧ GoodBox (n + 8) box' := by
  obtain ⟨r, box', e, r1, r2, g⟩ := take_spec 7 hb (by omega) hs (by
    have : (10:Int) ^ 50 ≤ spB 7 := by decide
    omega) (by omega)
  exact ⟨r, box', e, r1, r2, g.mono (by omega)⟩
theorem all_true : ∀ xs : List D, allD [.list (xs.map fun _ => PyData.bool true)] = some (.bool true) := fun xs => by
  have e : boolsOf (xs.map fun _ => PyData.bool true) = some (xs.map fun _ => true) := by
    rw [← boolsOf_map (xs.map fun _ => true), List.map_map]; rfl
  unfold allD
  dsimp only
  rw [e]
  show some (PyData.bool _) = _
  congr 2
  rw [List.all_map]
  exact List.all_eq_true.mpr fun _ _ => rfl
theorem same_refl : ∀ (n : Nat) {d : D}, Pl n d → F__law_same (n + 1) [d, d] = some (.bool true)
  | n, _, .none _ => by
    show callP 2 4 _ _ = _
    unfold callP g__law_same env0

    walk_at "evh"
  | n, _, .bool _ b => by
    show callP 2 4 _ _ = _
    unfold callP g__law_same env0
    walk_at "evh"
  | n, _, .int _ i => by
    show callP 2 4 _ _ = _
    unfold callP g__law_same env0
    walk_at "evh"
  | n, _, .str _ x => by
    show callP 2 4 _ _ = _
    unfold callP g__law_same env0
    have e : decide (x = x) = true := decide_eq_true rfl
    walk_at "evh"
  | n + 1, _, .list (xs := xs) hl h => by
    show callP 2 4 _ _ = _
    unfold callP g__law_same env0
    have hz : (zipD xs xs).length ≤ sizeLine := by rw [zipD_self, List.length_map]; exact hl
    have a := all_true xs
    have e : lcL [2, 3] (gT 2 (gsCons (gN 2) (gsCons (gN 3) gsNil))) gYes (ce__law_same_1 (F__law_same (n + 1))) (zipD xs xs) [.sh (.list xs), .sh (.list xs), .no, .no] = .ok (xs.map fun _ => PyData.bool true) [.sh (.list xs), .sh (.list xs), .no, .no] := by
      rw [zipD_self, lc_map (fun _ => PyData.bool true), List.map_map]
      · rfl
      · intro d hd
        obtain ⟨x, hx, rfl⟩ := List.mem_map.mp hd
        have ih := same_refl n (h x hx)
        refine ⟨[.sh (.list xs), .sh (.list xs), .sh x, .sh x], rfl, rfl, rfl, ?_⟩
        clear a hz
        unfold ce__law_same_1
        walk_at "evh"
    walk_at "evh"
  | n + 1, _, .tuple (xs := xs) hl h => by
    show callP 2 4 _ _ = _
    unfold callP g__law_same env0
    have hz : (zipD xs xs).length ≤ sizeLine := by rw [zipD_self, List.length_map]; exact hl
    have a := all_true xs
    have e : lcL [2, 3] (gT 2 (gsCons (gN 2) (gsCons (gN 3) gsNil))) gYes (ce__law_same_1 (F__law_same (n + 1))) (zipD xs xs) [.sh (.tuple xs), .sh (.tuple xs), .no, .no] = .ok (xs.map fun _ => PyData.bool true) [.sh (.tuple xs), .sh (.tuple xs), .no, .no] := by
      rw [zipD_self, lc_map (fun _ => PyData.bool true), List.map_map]
      · rfl
      · intro d hd
        obtain ⟨x, hx, rfl⟩ := List.mem_map.mp hd
        have ih := same_refl n (h x hx)
        refine ⟨[.sh (.tuple xs), .sh (.tuple xs), .sh x, .sh x], rfl, rfl, rfl, ?_⟩
        clear a hz
        unfold ce__law_same_1
        walk_at "evh"
    walk_at "evh"
end W
namespace W
open PySem L2 DL
local macro_rules | `(tactic| walk_at "ev") => `(tactic| simp only [eC, eV, oE, oV, eL, eT, aNil, aCons, eOp2, eOp1, eApp, tstE, eB, tNotG, tAndG, tOrG, eAndG, eOrG, eNotG, eIf, eSeq, eCall, eCallO, eCallB, eCallBF, eCallBX, sSeq, sNext, sRet, sRetF, sRetO, sRetN, sDrop, sIf, sSet, sSetO, sBreak, sCont, sBad, sPar, sPar3, fz, sFz, eCallW, idL, sApp, sPutIx, sAug, sFor, gN, gT, gsCons, gsNil, gYes, eLc, gSeq, nS, nF, Nw.sl, R.ok_bind, R.ok_map, R.lift_some, to_ok, toX_ok, toX_ex, bind_nx, bind_rt, bind_rf, bind_ex, bind_bk, bind_ct, at_ok, at_ex, res_val, map_ex, rbind_ex, Op.res, resA, valA, isOw, box0, Option.map_some, Option.bind_some, sHeardT, nlCons, nlNil, Nw.dat, mSet, eChain, eRg1, eRg2, eSl, pNo, pSo,
  List.getElem?_cons_zero, List.getElem?_cons_succ, List.set_cons_zero, List.set_cons_succ, List.length_cons, List.length_nil, if_true, if_false, Bool.false_eq_true, ite_true, ite_false, reduceIte,
  addU_int, subD_int, ltD_int, leD_int, gtD_int, geD_int, negD_int, absD_int, intD_bool, intD_int, lenD_list, lenD_tuple, lenD_scr, pow10_7, pow10_18, pow10_40, eqW_ints, neW_ints, eqW_strs, neW_strs, eqW_none, eqW_in, eqW_ni, ixD_list, ixD_tuple, ixD_scr, atI_3_0, atI_3_1, atI_3_2, ixN_3_0, ixN_3_1, ixN_3_2, wipeR, zip2D, skOf, isiD_n, isiD_b, isiD_i, isiD_s, isiD_l, isiD_t, isiTD_n, isiTD_b, isiTD_i, isiTD_s, isiTD_l, isiTD_t, isiAny, eCallX, eCallWX, xE, xIf, xL, xCb1, sSetX, sRetX, sDropX, sRaise, sTo, eMk, isX_n, sKeep, kt_ll, kt_lt, kt_ls, kt_li, kt_lb, kt_tl, kt_tt, kt_ts, kt_ti, kt_tb, kt_sl, kt_st, kt_ss, kt_si, kt_sb, kt_il, kt_it, kt_is, kt_ii, kt_ib, kt_bl, kt_bt, kt_bs, kt_bi, kt_bb, kt_nl, kt_nt, kt_ns, kt_ni, kt_nb, eqW_bools, neW_bools, isD_none, isNotD_none, isNoneD, isNone_e, List.map_cons, List.map_nil, List.replicate, List.append_nil, List.cons_append, List.nil_append, nc0, nc1, nc2, nc3, nc4, nc5, nc6, nc7, nc8, nc9, nc10, nc11, nc12, nc13, nc14, nc15, nc16, nc17, nc18, nc19, nc20, Nat.reduceAdd, Nat.reduceSub, ne_eq, decide_true, decide_false, not_true_eq_false, not_false_eq_true, reduceCtorEq, Bool.and_true, Bool.true_and, Bool.and_false, Bool.false_and, Bool.or_true, Bool.true_or, Bool.or_false, Bool.false_or, Bool.not_true, Bool.not_false, eOrF])
local macro_rules | `(tactic| walk_at "evh") => `(tactic| simp only [eC, eV, oE, oV, eL, eT, aNil, aCons, eOp2, eOp1, eApp, tstE, eB, tNotG, tAndG, tOrG, eAndG, eOrG, eNotG, eIf, eSeq, eCall, eCallO, eCallB, eCallBF, eCallBX, sSeq, sNext, sRet, sRetF, sRetO, sRetN, sDrop, sIf, sSet, sSetO, sBreak, sCont, sBad, sPar, sPar3, fz, sFz, eCallW, idL, sApp, sPutIx, sAug, sFor, gN, gT, gsCons, gsNil, gYes, eLc, gSeq, nS, nF, Nw.sl, R.ok_bind, R.ok_map, R.lift_some, to_ok, toX_ok, toX_ex, bind_nx, bind_rt, bind_rf, bind_ex, bind_bk, bind_ct, at_ok, at_ex, res_val, map_ex, rbind_ex, Op.res, resA, valA, isOw, box0, Option.map_some, Option.bind_some, sHeardT, nlCons, nlNil, Nw.dat, mSet, eChain, eRg1, eRg2, eSl, pNo, pSo,
  List.getElem?_cons_zero, List.getElem?_cons_succ, List.set_cons_zero, List.set_cons_succ, List.length_cons, List.length_nil, if_true, if_false, Bool.false_eq_true, ite_true, ite_false, reduceIte,
  addU_int, subD_int, ltD_int, leD_int, gtD_int, geD_int, negD_int, absD_int, intD_bool, intD_int, lenD_list, lenD_tuple, lenD_scr, pow10_7, pow10_18, pow10_40, eqW_ints, neW_ints, eqW_strs, neW_strs, eqW_none, eqW_in, eqW_ni, ixD_list, ixD_tuple, ixD_scr, atI_3_0, atI_3_1, atI_3_2, ixN_3_0, ixN_3_1, ixN_3_2, wipeR, zip2D, skOf, isiD_n, isiD_b, isiD_i, isiD_s, isiD_l, isiD_t, isiTD_n, isiTD_b, isiTD_i, isiTD_s, isiTD_l, isiTD_t, isiAny, eCallX, eCallWX, xE, xIf, xL, xCb1, sSetX, sRetX, sDropX, sRaise, sTo, eMk, isX_n, sKeep, kt_ll, kt_lt, kt_ls, kt_li, kt_lb, kt_tl, kt_tt, kt_ts, kt_ti, kt_tb, kt_sl, kt_st, kt_ss, kt_si, kt_sb, kt_il, kt_it, kt_is, kt_ii, kt_ib, kt_bl, kt_bt, kt_bs, kt_bi, kt_bb, kt_nl, kt_nt, kt_ns, kt_ni, kt_nb, eqW_bools, neW_bools, isD_none, isNotD_none, isNoneD, isNone_e, List.map_cons, List.map_nil, List.replicate, List.append_nil, List.cons_append, List.nil_append, nc0, nc1, nc2, nc3, nc4, nc5, nc6, nc7, nc8, nc9, nc10, nc11, nc12, nc13, nc14, nc15, nc16, nc17, nc18, nc19, nc20, Nat.reduceAdd, Nat.reduceSub, ne_eq, decide_true, decide_false, not_true_eq_false, not_false_eq_true, reduceCtorEq, Bool.and_true, Bool.true_and, Bool.and_false, Bool.false_and, Bool.or_true, Bool.true_or, Bool.or_false, Bool.false_or, Bool.not_true, Bool.not_false, eOrF, *])
theorem int_set (ms : List Int) (k : Nat) (y : Int) : (ms.map PyData.int).set k (.int y) = (ms.set k y).map .int := by rw [List.map_set]
theorem fo_1a {r Y : D} {m : Int} (sl : sliceU r none (some m) = some Y) (li : listD [Y] = some []) (z : 1 ≤ sizeLine) : (sSetO 2 (eOrF (eApp listD (aCons (oE (eSl sliceU (oE (eV 0)) pNo (pSo (eV 1)))) aNil)) (eSeq (aCons (oE (eC (.int 0))) aNil)))) [.sh r, .sh (.int m), .no, .no, .no] = .nx [.sh r, .sh (.int m), .ow [.int 0], .no, .no] := by
  walk_at "evh"
theorem fo_1b {r Y x : D} {E : List D} {m : Int} (sl : sliceU r none (some m) = some Y) (li : listD [Y] = some (x :: E)) (z : 1 ≤ sizeLine) : (sSetO 2 (eOrF (eApp listD (aCons (oE (eSl sliceU (oE (eV 0)) pNo (pSo (eV 1)))) aNil)) (eSeq (aCons (oE (eC (.int 0))) aNil)))) [.sh r, .sh (.int m), .no, .no, .no] = .nx [.sh r, .sh (.int m), .ow (x :: E), .no, .no] := by
  walk_at "evh"
theorem fo_s {r Y : D} {E : List D} {m : Int} {s2 s3 s4 : Sl} (sl : sliceU r (some m) (some 63) = some Y) (en : enum1D [Y] = some E) : (eCall enum1D (aCons (oE (eSl sliceU (oE (eV 0)) (pSo (eV 1)) (pSo (eC (.int 63))))) aNil)) [.sh r, .sh (.int m), s2, s3, s4] = .ok E [.sh r, .sh (.int m), s2, s3, s4] := by
  walk_at "evh"
/-- the cells: at most m of them, at least one -/
theorem cells_eq {ns : List Int} {m : Nat} (hm : 1 ≤ m ∧ m ≤ 60) : ∃ ms : List Int, F__law_folded [.dict [(.list (ns.map .int), .none)], .int (m : Int)] = some (ms.map .int) ∧ ms.length ≤ m ∧ 1 ≤ ms.length := by
  have s1 : sliceU (.dict [(.list (ns.map PyData.int), .none)]) none (some (m : Int)) = some (.list ((ns.take m).map .int)) := by
    show some (PyData.list (cutD (ns.map PyData.int) none (some (m : Int)))) = _
    rw [cut_map, cut_to]
  have s2 : sliceU (.dict [(.list (ns.map PyData.int), .none)]) (some (m : Int)) (some 63) = some (.list ((cutD ns (some (m : Int)) (some 63)).map .int)) := by
    show some (PyData.list (cutD (ns.map PyData.int) (some (m : Int)) (some 63))) = _
    rw [cut_map]
  have hcl : (cutD ns (some (m : Int)) (some 63)).length ≤ ns.length - m := cut_ft_len ns m 63
  have hcl2 : (cutD ns (some (m : Int)) (some 63)).length ≤ 63 := by
    unfold cutD
    rw [show (some (63 : Int)) = some ((63 : Nat) : Int) from rfl, HT.sIx_nat, HT.sIx_nat, List.length_take, List.length_drop]
    omega
  generalize hcs : cutD ns (some (m : Int)) (some 63) = cs at s2 hcl hcl2
  have en : enum1D [.list (cs.map .int)] = some (enumFrom 0 (cs.map .int)) := rfl
  obtain ⟨bs, S1, hb, hb1, hbm⟩ : ∃ bs : List Int, (sSetO 2 (eOrF (eApp listD (aCons (oE (eSl sliceU (oE (eV 0)) pNo (pSo (eV 1)))) aNil)) (eSeq (aCons (oE (eC (.int 0))) aNil)))) [.sh (.dict [(.list (ns.map .int), .none)]), .sh (.int (m : Int)), .no, .no, .no] = .nx [.sh (.dict [(.list (ns.map .int), .none)]), .sh (.int (m : Int)), .ow (bs.map .int), .no, .no] ∧ bs.length ≤ m ∧ 1 ≤ bs.length ∧ (0 < cs.length → bs.length = m) := by
    cases hn : ns.take m with
    | nil =>
      rw [hn] at s1
      have l := congrArg List.length hn
      rw [List.length_take, List.length_nil] at l
      exact ⟨[0], fo_1a s1 rfl (by decide), hm.1, Nat.le_refl _, fun h => by omega⟩
    | cons x E =>
      rw [hn] at s1
      have l := congrArg List.length hn
      rw [List.length_take, List.length_cons] at l
      exact ⟨x :: E, fo_1b s1 rfl (by decide), by rw [List.length_cons]; omega, by rw [List.length_cons]; omega, fun h => by rw [List.length_cons]; omega⟩
  obtain ⟨ρ', e3, ms, s3, s4, rfl, hl⟩ := for_inv (k := gT 2 (gsCons (gN 3) (gsCons (gN 4) gsNil))) (b := gb__law_folded_1) (ds := enumFrom 0 (cs.map PyData.int))
    (fun i ρ => ∃ (ms : List Int) (s3 s4 : Sl), ρ = [.sh (.dict [(.list (ns.map .int), .none)]), .sh (.int (m : Int)), .ow (ms.map .int), s3, s4] ∧ ms.length = bs.length)
    (fun i d ρ hd h => by
      obtain ⟨ms, s3, s4, rfl, hl⟩ := h
      have hi : i < cs.length := by
        have := (List.getElem?_eq_some_iff.mp hd).1
        rw [enumFrom_len, List.length_map] at this
        exact this
      obtain ⟨c, hc⟩ : ∃ c, cs[i]? = some c := ⟨_, List.getElem?_eq_getElem hi⟩
      have hg : (cs.map PyData.int)[i]? = some (.int c) := by rw [List.getElem?_map, hc]; rfl
      rw [enumFrom_get _ 0 i _ hg] at hd
      cases hd
      have hlm : ms.length = m := by have := hbm (by omega); omega
      have hj : i % m < ms.length := by rw [hlm]; exact Nat.mod_lt _ (by omega)
      obtain ⟨v, hv⟩ : ∃ v, ms[i % m]? = some v := ⟨_, List.getElem?_eq_getElem hj⟩
      have m1 : modD (.int ((0 + i : Nat) : Int)) (.int (m : Int)) = some (.int ((i % m : Nat) : Int)) := by
        rw [modD_int (by omega), Nat.zero_add]; rfl
      have ix : atI (ms.map PyData.int) ((i % m : Nat) : Int) = some (.int v) := atI_nat (by rw [List.getElem?_map, hv]; rfl)
      have iN : ixN (ms.map PyData.int).length ((i % m : Nat) : Int) = some (i % m) := by
        unfold ixN
        rw [if_pos (by omega), if_pos (by rw [List.length_map]; omega)]
        rfl
      have m2 : mulV (.int c) (.int (((0 + i : Nat) : Int) + 2)) = some (.int (c * (((0 + i : Nat) : Int) + 2))) := cmul_r (by omega)
      have st := int_set ms (i % m)
      refine ⟨[.sh (.dict [(.list (ns.map .int), .none)]), .sh (.int (m : Int)), .ow (ms.map .int), .sh (.int ((0 + i : Nat) : Int)), .sh (.int c)], rfl, _, .inl ?_, ms.set (i % m) (v + c * (((0 + i : Nat) : Int) + 2)), .sh (.int ((0 + i : Nat) : Int)), .sh (.int c), rfl, by rw [List.length_set]; exact hl⟩
      have st := st (v + c * (((0 + i : Nat) : Int) + 2))
      clear hg hlm hl hj hcs s1 s2 hv hc hi S1 hb hb1 hbm hm
      unfold gb__law_folded_1
      walk_at "evh")
    (ρ := [.sh (.dict [(.list (ns.map .int), .none)]), .sh (.int (m : Int)), .ow (bs.map .int), .no, .no]) ⟨_, .no, .no, rfl, rfl⟩
  refine ⟨ms, ?_, by omega, by omega⟩
  unfold F__law_folded callF env0
  have st := seq_nx S1 (seq_nx (sFor_nx (fo_s s2 en) e3) (rfl : sRetO 2 [.sh (.dict [(.list (ns.map .int), .none)]), .sh (.int (m : Int)), .ow (ms.map .int), s3, s4] = .rf (ms.map .int) _))
  rw [if_neg (by simp)]
  show (match g__law_folded [.sh (.dict [(.list (ns.map .int), .none)]), .sh (.int (m : Int)), .no, .no, .no] with
    | .rf ds _ => some ds
    | _ => none) = _
  have st2 : g__law_folded [.sh (.dict [(.list (ns.map .int), .none)]), .sh (.int (m : Int)), .no, .no, .no] = _ := st
  rw [st2]; rfl
theorem st_1 {r : D} {k : Int} {s2 : Sl} : (sSet 2 (eC (.int 0))) [.sh r, .sh (.int k), s2] = .nx [.sh r, .sh (.int k), .sh (.int 0)] := by
  walk_at "evh"
theorem st_2a {r : D} {n k c : Int} {s2 : Sl} (l : lenD [r] = some (.int n)) (d : decide (k < n) = true) (i : ixD r (.int k) = some (.int c)) : (sIf (tstE (eOp2 ltD (oE (eV 1)) (oE (eApp lenD (aCons (oE (eV 0)) aNil))))) (sSet 2 (eOp2 ixD (oE (eV 0)) (oE (eV 1))))
    sNext) [.sh r, .sh (.int k), s2] = .nx [.sh r, .sh (.int k), .sh (.int c)] := by
  walk_at "evh"
theorem st_2b {r : D} {n k : Int} {s2 : Sl} (l : lenD [r] = some (.int n)) (d : decide (k < n) = false) : (sIf (tstE (eOp2 ltD (oE (eV 1)) (oE (eApp lenD (aCons (oE (eV 0)) aNil))))) (sSet 2 (eOp2 ixD (oE (eV 0)) (oE (eV 1))))
    sNext) [.sh r, .sh (.int k), s2] = .nx [.sh r, .sh (.int k), s2] := by
  walk_at "evh"
theorem st_3 {r : D} {k c a p q : Int} {v : Bool} (e0 : absD [.int c] = some (.int a)) (d : decide (1000000000000000000 ≤ a) = v) (e1 : mulV (.int a) (.int (if v = true then 1 else 0)) = some (.int p)) (e2 : modD (.int c) (.int 2305843009213693951) = some (.int q)) (e3 : mulV (.int 39373) (.int k) = some (.int (39373 * k))) (z : 3 ≤ sizeLine) : (sRetF (eSeq (aCons (oE (eOp2 mulV (oE (eApp absD (aCons (oE (eV 2)) aNil))) (oE (eApp intD (aCons (oE (eOp2 geD (oE (eApp absD (aCons (oE (eV 2)) aNil))) (oE (eOp2 powD (oE (eC (.int 10))) (oE (eC (.int 18))))))) aNil))))) (aCons (oE (eOp2 addU (oE (eOp2 addU (oE (eOp2 modD (oE (eV 2)) (oE (eC (.int 2305843009213693951))))) (oE (eOp2 mulV (oE (eC (.int 39373))) (oE (eV 1)))))) (oE (eC (.int 29))))) (aCons (oE (eC (.int 0))) aNil))))) [.sh r, .sh (.int k), .sh (.int c)] = .rf [.int p, .int (q + 39373 * k + 29), .int 0] [.sh r, .sh (.int k), .sh (.int c)] := by
  walk_at "evh"
theorem box_eq {ns : List Int} {k : Nat} (hk : k ≤ 1000) : ∃ box, F__law_stream [.list (ns.map .int), .int (k : Int)] = some box ∧ GoodBox 0 box := by
  have key : ∀ c : Int, ∃ box, (sRetF (eSeq (aCons (oE (eOp2 mulV (oE (eApp absD (aCons (oE (eV 2)) aNil))) (oE (eApp intD (aCons (oE (eOp2 geD (oE (eApp absD (aCons (oE (eV 2)) aNil))) (oE (eOp2 powD (oE (eC (.int 10))) (oE (eC (.int 18))))))) aNil))))) (aCons (oE (eOp2 addU (oE (eOp2 addU (oE (eOp2 modD (oE (eV 2)) (oE (eC (.int 2305843009213693951))))) (oE (eOp2 mulV (oE (eC (.int 39373))) (oE (eV 1)))))) (oE (eC (.int 29))))) (aCons (oE (eC (.int 0))) aNil))))) [.sh (.list (ns.map .int)), .sh (.int (k : Int)), .sh (.int c)] = .rf box [.sh (.list (ns.map .int)), .sh (.int (k : Int)), .sh (.int c)] ∧ GoodBox 0 box := fun c => by
    have e0 : absD [.int c] = some (.int (if c < 0 then -c else c)) := rfl
    have ha : 0 ≤ (if c < 0 then -c else c) := by split <;> omega
    generalize (if c < 0 then -c else c) = a at e0 ha
    have e1 : mulV (.int a) (.int (if decide (1000000000000000000 ≤ a) = true then 1 else 0)) = some (.int (a * (if decide (1000000000000000000 ≤ a) = true then 1 else 0))) := cmul_r (by split <;> omega)
    refine ⟨_, st_3 e0 rfl e1 (modD_int (by omega)) (cmul_l ⟨by omega, by omega⟩) (by decide), _, _, _, rfl, Int.mul_nonneg ha (by split <;> omega), by omega, by omega, by omega, by omega⟩
  have fin : ∀ {c : Int} {box : List D}, (sIf (tstE (eOp2 ltD (oE (eV 1)) (oE (eApp lenD (aCons (oE (eV 0)) aNil))))) (sSet 2 (eOp2 ixD (oE (eV 0)) (oE (eV 1))))
    sNext) [.sh (.list (ns.map .int)), .sh (.int (k : Int)), .sh (.int 0)] = .nx [.sh (.list (ns.map .int)), .sh (.int (k : Int)), .sh (.int c)] → (sRetF (eSeq (aCons (oE (eOp2 mulV (oE (eApp absD (aCons (oE (eV 2)) aNil))) (oE (eApp intD (aCons (oE (eOp2 geD (oE (eApp absD (aCons (oE (eV 2)) aNil))) (oE (eOp2 powD (oE (eC (.int 10))) (oE (eC (.int 18))))))) aNil))))) (aCons (oE (eOp2 addU (oE (eOp2 addU (oE (eOp2 modD (oE (eV 2)) (oE (eC (.int 2305843009213693951))))) (oE (eOp2 mulV (oE (eC (.int 39373))) (oE (eV 1)))))) (oE (eC (.int 29))))) (aCons (oE (eC (.int 0))) aNil))))) [.sh (.list (ns.map .int)), .sh (.int (k : Int)), .sh (.int c)] = .rf box [.sh (.list (ns.map .int)), .sh (.int (k : Int)), .sh (.int c)] → F__law_stream [.list (ns.map .int), .int (k : Int)] = some box := fun {c box} h2 h3 => by
    unfold F__law_stream callF env0
    rw [if_neg (by simp)]
    have st : g__law_stream [.sh (.list (ns.map .int)), .sh (.int (k : Int)), .no] = _ := seq_nx st_1 (seq_nx h2 h3)
    show (match g__law_stream [.sh (.list (ns.map .int)), .sh (.int (k : Int)), .no] with
      | .rf ds _ => some ds
      | _ => none) = _
    rw [st]
  have ln : lenD [.list (ns.map .int)] = some (.int (ns.length : Nat)) := by rw [lenD_list, List.length_map]
  by_cases hi : k < ns.length
  · have ix : ixD (.list (ns.map .int)) (.int (k : Int)) = some (.int ns[k]) := by
      rw [ixD_list]
      exact atI_nat (by rw [List.getElem?_map, List.getElem?_eq_getElem hi]; rfl)
    obtain ⟨box, e, g⟩ := key ns[k]
    exact ⟨box, fin (st_2a ln (decide_eq_true (by omega)) ix) e, g⟩
  · obtain ⟨box, e, g⟩ := key 0
    exact ⟨box, fin (st_2b ln (decide_eq_false (by omega))) e, g⟩
/-- one of a list -/
theorem of_eq {n : Int} {box xs : List D} (hb : GoodBox n box) (hn : n < 2 ^ 39) (h1 : 0 < xs.length) (h2 : xs.length ≤ 100000) : ∃ y box', F__law_pick box [.list xs] = some (y, box') ∧ y ∈ xs ∧ GoodBox (n + 8) box' := by
  obtain ⟨r, box', e, r1, r2, g⟩ := take8 (span := (xs.length : Int)) hb hn (by omega) (by omega)
  have hr : r.toNat < xs.length := by omega
  have ix : atI xs r = some xs[r.toNat] := atI_of (n := r.toNat) (by omega) (List.getElem?_eq_getElem hr)
  refine ⟨xs[r.toNat], box', ?_, List.getElem_mem hr, g⟩
  clear g hb h1 h2 hn r1 r2
  unfold F__law_pick callB g__law_pick envB
  walk_at "evh"
/-- a row of ints, none beyond 10 ** 41 -/
def Row (ns : List Int) : Prop := ∀ x ∈ ns, x.natAbs ≤ 10 ^ 41
theorem Row.app {ns : List Int} {y : Int} (hr : Row ns) (hy : y.natAbs ≤ 10 ^ 41) : Row (ns ++ [y]) := fun x hx => by
  rcases List.mem_append.mp hx with h | h
  · exact hr x h
  · rw [List.mem_singleton.mp h]; exact hy
end W
namespace W
open PySem L2 DL
local macro_rules | `(tactic| walk_at "ev") => `(tactic| simp only [eC, eV, oE, oV, eL, eT, aNil, aCons, eOp2, eOp1, eApp, tstE, eB, tNotG, tAndG, tOrG, eAndG, eOrG, eNotG, eIf, eSeq, eCall, eCallO, eCallB, eCallBF, eCallBX, sSeq, sNext, sRet, sRetF, sRetO, sRetN, sDrop, sIf, sSet, sSetO, sBreak, sCont, sBad, sPar, sPar3, fz, sFz, eCallW, idL, sApp, sPutIx, sAug, sFor, gN, gT, gsCons, gsNil, gYes, eLc, gSeq, nS, nF, Nw.sl, R.ok_bind, R.ok_map, R.lift_some, to_ok, toX_ok, toX_ex, bind_nx, bind_rt, bind_rf, bind_ex, bind_bk, bind_ct, at_ok, at_ex, res_val, map_ex, rbind_ex, Op.res, resA, valA, isOw, box0, Option.map_some, Option.bind_some, sHeardT, nlCons, nlNil, Nw.dat, mSet, eChain, eRg1, eRg2, eSl, pNo, pSo,
  List.getElem?_cons_zero, List.getElem?_cons_succ, List.set_cons_zero, List.set_cons_succ, List.length_cons, List.length_nil, if_true, if_false, Bool.false_eq_true, ite_true, ite_false, reduceIte,
  addU_int, subD_int, ltD_int, leD_int, gtD_int, geD_int, negD_int, absD_int, intD_bool, intD_int, lenD_list, lenD_tuple, lenD_scr, pow10_7, pow10_18, pow10_40, eqW_ints, neW_ints, eqW_strs, neW_strs, eqW_none, eqW_in, eqW_ni, ixD_list, ixD_tuple, ixD_scr, atI_3_0, atI_3_1, atI_3_2, ixN_3_0, ixN_3_1, ixN_3_2, wipeR, zip2D, skOf, isiD_n, isiD_b, isiD_i, isiD_s, isiD_l, isiD_t, isiTD_n, isiTD_b, isiTD_i, isiTD_s, isiTD_l, isiTD_t, isiAny, eCallX, eCallWX, xE, xIf, xL, xCb1, sSetX, sRetX, sDropX, sRaise, sTo, eMk, isX_n, sKeep, kt_ll, kt_lt, kt_ls, kt_li, kt_lb, kt_tl, kt_tt, kt_ts, kt_ti, kt_tb, kt_sl, kt_st, kt_ss, kt_si, kt_sb, kt_il, kt_it, kt_is, kt_ii, kt_ib, kt_bl, kt_bt, kt_bs, kt_bi, kt_bb, kt_nl, kt_nt, kt_ns, kt_ni, kt_nb, eqW_bools, neW_bools, isD_none, isNotD_none, isNoneD, isNone_e, List.map_cons, List.map_nil, List.replicate, List.append_nil, List.cons_append, List.nil_append, nc0, nc1, nc2, nc3, nc4, nc5, nc6, nc7, nc8, nc9, nc10, nc11, nc12, nc13, nc14, nc15, nc16, nc17, nc18, nc19, nc20, Nat.reduceAdd, Nat.reduceSub, ne_eq, decide_true, decide_false, not_true_eq_false, not_false_eq_true, reduceCtorEq, Bool.and_true, Bool.true_and, Bool.and_false, Bool.false_and, Bool.or_true, Bool.true_or, Bool.or_false, Bool.false_or, Bool.not_true, Bool.not_false, sTupN, setN, Nw.sl])
local macro_rules | `(tactic| walk_at "evh") => `(tactic| simp only [eC, eV, oE, oV, eL, eT, aNil, aCons, eOp2, eOp1, eApp, tstE, eB, tNotG, tAndG, tOrG, eAndG, eOrG, eNotG, eIf, eSeq, eCall, eCallO, eCallB, eCallBF, eCallBX, sSeq, sNext, sRet, sRetF, sRetO, sRetN, sDrop, sIf, sSet, sSetO, sBreak, sCont, sBad, sPar, sPar3, fz, sFz, eCallW, idL, sApp, sPutIx, sAug, sFor, gN, gT, gsCons, gsNil, gYes, eLc, gSeq, nS, nF, Nw.sl, R.ok_bind, R.ok_map, R.lift_some, to_ok, toX_ok, toX_ex, bind_nx, bind_rt, bind_rf, bind_ex, bind_bk, bind_ct, at_ok, at_ex, res_val, map_ex, rbind_ex, Op.res, resA, valA, isOw, box0, Option.map_some, Option.bind_some, sHeardT, nlCons, nlNil, Nw.dat, mSet, eChain, eRg1, eRg2, eSl, pNo, pSo,
  List.getElem?_cons_zero, List.getElem?_cons_succ, List.set_cons_zero, List.set_cons_succ, List.length_cons, List.length_nil, if_true, if_false, Bool.false_eq_true, ite_true, ite_false, reduceIte,
  addU_int, subD_int, ltD_int, leD_int, gtD_int, geD_int, negD_int, absD_int, intD_bool, intD_int, lenD_list, lenD_tuple, lenD_scr, pow10_7, pow10_18, pow10_40, eqW_ints, neW_ints, eqW_strs, neW_strs, eqW_none, eqW_in, eqW_ni, ixD_list, ixD_tuple, ixD_scr, atI_3_0, atI_3_1, atI_3_2, ixN_3_0, ixN_3_1, ixN_3_2, wipeR, zip2D, skOf, isiD_n, isiD_b, isiD_i, isiD_s, isiD_l, isiD_t, isiTD_n, isiTD_b, isiTD_i, isiTD_s, isiTD_l, isiTD_t, isiAny, eCallX, eCallWX, xE, xIf, xL, xCb1, sSetX, sRetX, sDropX, sRaise, sTo, eMk, isX_n, sKeep, kt_ll, kt_lt, kt_ls, kt_li, kt_lb, kt_tl, kt_tt, kt_ts, kt_ti, kt_tb, kt_sl, kt_st, kt_ss, kt_si, kt_sb, kt_il, kt_it, kt_is, kt_ii, kt_ib, kt_bl, kt_bt, kt_bs, kt_bi, kt_bb, kt_nl, kt_nt, kt_ns, kt_ni, kt_nb, eqW_bools, neW_bools, isD_none, isNotD_none, isNoneD, isNone_e, List.map_cons, List.map_nil, List.replicate, List.append_nil, List.cons_append, List.nil_append, nc0, nc1, nc2, nc3, nc4, nc5, nc6, nc7, nc8, nc9, nc10, nc11, nc12, nc13, nc14, nc15, nc16, nc17, nc18, nc19, nc20, Nat.reduceAdd, Nat.reduceSub, ne_eq, decide_true, decide_false, not_true_eq_false, not_false_eq_true, reduceCtorEq, Bool.and_true, Bool.true_and, Bool.and_false, Bool.false_and, Bool.or_true, Bool.true_or, Bool.or_false, Bool.false_or, Bool.not_true, Bool.not_false, sTupN, setN, Nw.sl, *])
theorem ln_m {top : Int} {i : Nat} {q : Int} : mulV (.int top) (.int ((i : Int) % 2)) = some (.int (top * ((i : Int) % 2))) ∧ (0 ≤ q ∧ q < 2 → mulV (.int (top * ((i : Int) % 2))) (.int q) = some (.int (top * ((i : Int) % 2) * q))) := ⟨cmul_r (by omega), fun h => cmul_r (by omega)⟩
theorem ln_1 {box box1 : List D} {most : D} {top turns low r : Int} {F : List D} {s6 s7 : Sl} (e : F__law_draw 8 box [.int top] = some (.int r, box1)) : (sSet 7 (eOp2 subD (oE (eCallB (F__law_draw 8) 0 (aCons (oE (eV 2)) aNil))) (oE (eV 5)))) [.ow box, .sh most, .sh (.int top), .ow F, .sh (.int turns), .sh (.int low), s6, s7] = .nx [.ow box1, .sh most, .sh (.int top), .ow F, .sh (.int turns), .sh (.int low), s6, .sh (.int (r - low))] := by
  walk_at "evh"
theorem ln_2a {box : List D} {most : D} {top turns low i x : Int} {F : List D} (d : decide (0 < turns) = false) : (sIf (tstE (eOp2 gtD (oE (eV 4)) (oE (eC (.int 0))))) (sSet 7 (eOp2 addU (oE (eV 7)) (oE (eOp2 mulV (oE (eOp2 mulV (oE (eV 2)) (oE (eOp2 modD (oE (eV 6)) (oE (eC (.int 2))))))) (oE (eCallB (F__law_draw 8) 0 (aCons (oE (eC (.int 2))) aNil)))))))
    sNext) [.ow box, .sh most, .sh (.int top), .ow F, .sh (.int turns), .sh (.int low), .sh (.int i), .sh (.int x)] = .nx [.ow box, .sh most, .sh (.int top), .ow F, .sh (.int turns), .sh (.int low), .sh (.int i), .sh (.int x)] := by
  walk_at "evh"
theorem ln_2b {box box1 : List D} {most : D} {top turns low i x m k q y : Int} {F : List D} (d : decide (0 < turns) = true) (e1 : modD (.int i) (.int 2) = some (.int m)) (e2 : mulV (.int top) (.int m) = some (.int k)) (e3 : F__law_draw 8 box [.int 2] = some (.int q, box1)) (e4 : mulV (.int k) (.int q) = some (.int y)) : (sIf (tstE (eOp2 gtD (oE (eV 4)) (oE (eC (.int 0))))) (sSet 7 (eOp2 addU (oE (eV 7)) (oE (eOp2 mulV (oE (eOp2 mulV (oE (eV 2)) (oE (eOp2 modD (oE (eV 6)) (oE (eC (.int 2))))))) (oE (eCallB (F__law_draw 8) 0 (aCons (oE (eC (.int 2))) aNil)))))))
    sNext) [.ow box, .sh most, .sh (.int top), .ow F, .sh (.int turns), .sh (.int low), .sh (.int i), .sh (.int x)] = .nx [.ow box1, .sh most, .sh (.int top), .ow F, .sh (.int turns), .sh (.int low), .sh (.int i), .sh (.int (x + y))] := by
  walk_at "evh"
theorem ln_3a {box : List D} {most : D} {top turns low i x : Int} (z : 0 < sizeLine) (n : neW (.list []) (.list []) = some (.bool false)) : (sApp 3 (eIf (tAndG (tstE (eOp2 neW (oV 3) (oE (eL (eSeq aNil))))) (tstE (eOp2 eqW (oE (eCallB (F__law_draw 8) 0 (aCons (oE (eC (.int 7))) aNil))) (oE (eC (.int 0)))))) (eOp2 ixD (oV 3) (oE (eOp1 negD (oE (eC (.int 1)))))) (eV 7))) [.ow box, .sh most, .sh (.int top), .ow [], .sh (.int turns), .sh (.int low), .sh (.int i), .sh (.int x)] = .nx [.ow box, .sh most, .sh (.int top), .ow [.int x], .sh (.int turns), .sh (.int low), .sh (.int i), .sh (.int x)] := by
  have z0 : 0 ≤ sizeLine := Nat.zero_le _
  walk_at "evh"
theorem ln_3b {box box1 : List D} {most v : D} {top turns low i x q : Int} {F : List D} (z : F.length < sizeLine) (n : neW (.list F) (.list []) = some (.bool true)) (e : F__law_draw 8 box [.int 7] = some (.int q, box1)) (d : decide (q = 0) = true) (ix : atI F (-1) = some v) : (sApp 3 (eIf (tAndG (tstE (eOp2 neW (oV 3) (oE (eL (eSeq aNil))))) (tstE (eOp2 eqW (oE (eCallB (F__law_draw 8) 0 (aCons (oE (eC (.int 7))) aNil))) (oE (eC (.int 0)))))) (eOp2 ixD (oV 3) (oE (eOp1 negD (oE (eC (.int 1)))))) (eV 7))) [.ow box, .sh most, .sh (.int top), .ow F, .sh (.int turns), .sh (.int low), .sh (.int i), .sh (.int x)] = .nx [.ow box1, .sh most, .sh (.int top), .ow (F ++ [v]), .sh (.int turns), .sh (.int low), .sh (.int i), .sh (.int x)] := by
  have z0 : 0 ≤ sizeLine := Nat.zero_le _
  walk_at "evh"
theorem ln_3c {box box1 : List D} {most : D} {top turns low i x q : Int} {F : List D} (z : F.length < sizeLine) (n : neW (.list F) (.list []) = some (.bool true)) (e : F__law_draw 8 box [.int 7] = some (.int q, box1)) (d : decide (q = 0) = false) : (sApp 3 (eIf (tAndG (tstE (eOp2 neW (oV 3) (oE (eL (eSeq aNil))))) (tstE (eOp2 eqW (oE (eCallB (F__law_draw 8) 0 (aCons (oE (eC (.int 7))) aNil))) (oE (eC (.int 0)))))) (eOp2 ixD (oV 3) (oE (eOp1 negD (oE (eC (.int 1)))))) (eV 7))) [.ow box, .sh most, .sh (.int top), .ow F, .sh (.int turns), .sh (.int low), .sh (.int i), .sh (.int x)] = .nx [.ow box1, .sh most, .sh (.int top), .ow (F ++ [.int x]), .sh (.int turns), .sh (.int low), .sh (.int i), .sh (.int x)] := by
  have z0 : 0 ≤ sizeLine := Nat.zero_le _
  walk_at "evh"
theorem line_step {n : Int} {i : Nat} {box : List D} {most : D} {top turns low : Int} {ns : List Int} {s7 : Sl} (hb : GoodBox n box) (hn : n < 2 ^ 38) (hl : ns.length < 1000) (hr : Row ns) (ht : 1 ≤ top ∧ top ≤ 10 ^ 40) (hw : 0 ≤ low ∧ low ≤ top) (hi : i < 1000) :
    ∃ y x box', gb__law_line_1 [.ow box, .sh most, .sh (.int top), .ow (ns.map .int), .sh (.int turns), .sh (.int low), .sh (.int (i : Int)), s7] = .nx [.ow box', .sh most, .sh (.int top), .ow ((ns ++ [y]).map .int), .sh (.int turns), .sh (.int low), .sh (.int (i : Int)), .sh (.int x)] ∧ GoodBox (n + 24) box' ∧ Row (ns ++ [y]) := by
  obtain ⟨r, box1, e1, r1, r2, g1⟩ := take8 (span := top) hb (by omega) (by omega) (by omega)
  have S1 := ln_1 (most := most) (turns := turns) (low := low) (F := ns.map .int) (s6 := .sh (.int (i : Int))) (s7 := s7) e1
  obtain ⟨x, box2, S2, hx, g2⟩ : ∃ x box2, (sIf (tstE (eOp2 gtD (oE (eV 4)) (oE (eC (.int 0))))) (sSet 7 (eOp2 addU (oE (eV 7)) (oE (eOp2 mulV (oE (eOp2 mulV (oE (eV 2)) (oE (eOp2 modD (oE (eV 6)) (oE (eC (.int 2))))))) (oE (eCallB (F__law_draw 8) 0 (aCons (oE (eC (.int 2))) aNil)))))))
    sNext) [.ow box1, .sh most, .sh (.int top), .ow (ns.map .int), .sh (.int turns), .sh (.int low), .sh (.int (i : Int)), .sh (.int (r - low))] = .nx [.ow box2, .sh most, .sh (.int top), .ow (ns.map .int), .sh (.int turns), .sh (.int low), .sh (.int (i : Int)), .sh (.int x)] ∧ x.natAbs ≤ 10 ^ 41 ∧ GoodBox (n + 16) box2 := by
    by_cases d : 0 < turns
    · obtain ⟨q, box2, e3, q1, q2, g2⟩ := take8 (span := 2) g1 (by omega) (by omega) (by omega)
      refine ⟨_, box2, ln_2b (decide_eq_true d) (modD_int (by omega)) (ln_m (q := q)).1 e3 (ln_m.2 ⟨q1, q2⟩), ?_, g2.mono (by omega)⟩
      have h1 : (i : Int) % 2 = 0 ∨ (i : Int) % 2 = 1 := by omega
      have h2 : q = 0 ∨ q = 1 := by omega
      rcases h1 with h1 | h1 <;> rcases h2 with h2 | h2 <;> rw [h1, h2] <;> omega
    · exact ⟨r - low, box1, ln_2a (decide_eq_false d), by omega, g1.mono (by omega)⟩
  have sz : (ns.map PyData.int).length < sizeLine := by rw [List.length_map]; exact size_lt (by omega)
  have ap : ∀ y : Int, (ns.map PyData.int) ++ [.int y] = (ns ++ [y]).map .int := fun y => by rw [List.map_append]; rfl
  have nw : neW (.list (ns.map .int)) (.list []) = some (.bool (!decide (ns = []))) := neW_li ns []
  by_cases h0 : ns = []
  · subst h0
    rw [decide_eq_true rfl] at nw
    exact ⟨x, x, box2, seq_nx S1 (seq_nx S2 (ln_3a (by decide) nw)), g2.mono (by omega), hr.app hx⟩
  · rw [decide_eq_false h0] at nw
    obtain ⟨q, box3, e3, q1, q2, g3⟩ := take8 (span := 7) g2 (by omega) (by omega) (by omega)
    by_cases hq : q = 0
    · obtain ⟨l, v, el⟩ : ∃ l v, ns = l ++ [v] := ⟨ns.dropLast, ns.getLast h0, (List.dropLast_concat_getLast h0).symm⟩
      have ix : atI (ns.map PyData.int) (-1) = some (.int v) := by
        rw [el, List.map_append]
        exact DL.atI_last _ _
      have S3 := ln_3b (most := most) (top := top) (turns := turns) (low := low) (i := i) (x := x) sz nw e3 (decide_eq_true hq) ix
      rw [ap v] at S3
      exact ⟨v, x, box3, seq_nx S1 (seq_nx S2 S3), g3.mono (by omega), hr.app (hr v (by rw [el]; exact List.mem_append_right _ (List.mem_singleton.mpr rfl)))⟩
    · have S3 := ln_3c (most := most) (top := top) (turns := turns) (low := low) (i := i) (x := x) sz nw e3 (decide_eq_false hq)
      rw [ap x] at S3
      exact ⟨x, x, box3, seq_nx S1 (seq_nx S2 S3), g3.mono (by omega), hr.app hx⟩
theorem ln_i {box box1 box2 : List D} {most : D} {top t r m l : Int} (e1 : F__law_draw 8 box [.int 3] = some (.int t, box1)) (e2 : F__law_draw 8 box1 [.int 3] = some (.int r, box2)) (e3 : mulV (.int r) (.int top) = some (.int m)) (e4 : fdivD (.int m) (.int 3) = some (.int l)) (z : 0 ≤ sizeLine) : (sTupN [3, 4, 5] (nlCons (nF (eSeq aNil)) (nlCons (nS (eCallB (F__law_draw 8) 0 (aCons (oE (eC (.int 3))) aNil))) (nlCons (nS (eOp2 fdivD (oE (eOp2 mulV (oE (eCallB (F__law_draw 8) 0 (aCons (oE (eC (.int 3))) aNil))) (oE (eV 2)))) (oE (eC (.int 3))))) nlNil)))) [.ow box, .sh most, .sh (.int top), .no, .no, .no, .no, .no] = .nx [.ow box2, .sh most, .sh (.int top), .ow [], .sh (.int t), .sh (.int l), .no, .no] := by
  walk_at "evh"
theorem ln_s {box box1 : List D} {most m : Int} {M : List D} {s2 s3 s4 s5 s6 s7 : Sl} (e : F__law_draw 8 box [.int (most + 1)] = some (.int m, box1)) (rg : rng1 [.int m] = some M) : (eCall rng1 (aCons (oE (eCallB (F__law_draw 8) 0 (aCons (oE (eOp2 addU (oE (eV 1)) (oE (eC (.int 1))))) aNil))) aNil)) [.ow box, .sh (.int most), s2, s3, s4, s5, s6, s7] = .ok M [.ow box1, .sh (.int most), s2, s3, s4, s5, s6, s7] := by
  walk_at "evh"
theorem ln_r {F : List D} {s0 s1 s2 s4 s5 s6 s7 : Sl} : (sRet (eApp tupleD (aCons (oV 3) aNil))) [s0, s1, s2, .ow F, s4, s5, s6, s7] = .rt (.tuple F) [s0, s1, s2, .ow F, s4, s5, s6, s7] := by
  have t : tupleD [.list F] = some (.tuple F) := rfl
  walk_at "evh"
theorem rline_eq {n : Int} {box : List D} {most : Nat} {top : Int} (hb : GoodBox n box) (hn : n < 2 ^ 37) (hm : most ≤ 900) (ht : 1 ≤ top ∧ top ≤ 10 ^ 40) : ∃ ns box', F__law_line box [.int (most : Int), .int top] = some (.tuple (ns.map .int), box') ∧ ns.length ≤ most ∧ Row ns ∧ GoodBox (n + 24 + 24 * most) box' := by
  obtain ⟨t, box1, e1, t1, t2, g1⟩ := take8 (span := 3) hb (by omega) (by omega) (by omega)
  obtain ⟨r, box2, e2, r1, r2, g2⟩ := take8 (span := 3) g1 (by omega) (by omega) (by omega)
  obtain ⟨m, box3, e3, m1, m2, g3⟩ := take8 (span := (most : Int) + 1) g2 (by omega) (by omega) (by omega)
  have m0 : mulV (.int r) (.int top) = some (.int (r * top)) := cmul_l (by omega)
  have lo : 0 ≤ r * top / 3 ∧ r * top / 3 ≤ top := by
    have : r = 0 ∨ r = 1 ∨ r = 2 := by omega
    rcases this with h | h | h <;> rw [h] <;> omega
  have S1 := ln_i (most := .int (most : Int)) e1 e2 m0 (fdivD_int (by omega) (by omega)) (Nat.zero_le _)
  generalize r * top / 3 = low at *
  have rg := rng1_eq m1 (by omega)
  obtain ⟨ρ', e4, box4, ns, s6, s7, rfl, g4, hl, hr⟩ := for_inv (k := gN 6) (b := gb__law_line_1) (ds := rangeD 0 m.toNat)
    (fun i ρ => ∃ box ns s6 s7, ρ = [.ow box, .sh (.int (most : Int)), .sh (.int top), .ow (ns.map .int), .sh (.int t), .sh (.int low), s6, s7] ∧ GoodBox (n + 24 + 24 * i) box ∧ ns.length = i ∧ Row ns)
    (fun i d ρ hd h => by
      obtain ⟨rfl, hi⟩ := rangeD_at hd
      obtain ⟨box, ns, s6, s7, rfl, g, hl, hr⟩ := h
      obtain ⟨y, x, box', e, g', hr'⟩ := line_step (i := i) (most := .int (most : Int)) (turns := t) (s7 := s7) g (by omega) (by omega) hr ht lo (by omega)
      exact ⟨_, rfl, _, .inl e, box', ns ++ [y], _, _, rfl, g'.mono (by omega), by rw [List.length_append, hl]; rfl, hr'⟩)
    (ρ := [.ow box3, .sh (.int (most : Int)), .sh (.int top), .ow [], .sh (.int t), .sh (.int low), .no, .no]) ⟨box3, [], .no, .no, rfl, g3.mono (by omega), rfl, fun x hx => nomatch hx⟩
  rw [rangeD_len] at hl g4
  refine ⟨ns, box4, ?_, by omega, hr, g4.mono (by omega)⟩
  unfold F__law_line callB envB
  rw [if_neg (by simp)]
  have st : g__law_line [.ow box, .sh (.int (most : Int)), .sh (.int top), .no, .no, .no, .no, .no] = _ := seq_nx S1 (seq_nx (sFor_nx (ln_s e3 rg) e4) ln_r)
  show (match g__law_line [.ow box, .sh (.int (most : Int)), .sh (.int top), .no, .no, .no, .no, .no] with
      | .rt d ρ => (box0 ρ).map (d, ·)
      | .nx ρ => (box0 ρ).map (.none, ·)
      | .rf ds ρ => (box0 ρ).map (.list ds, ·)
      | _ => none) = _
  rw [st]; rfl
end W
namespace W
open PySem L2 DL
local macro_rules | `(tactic| walk_at "ev") => `(tactic| simp only [eC, eV, oE, oV, eL, eT, aNil, aCons, eOp2, eOp1, eApp, tstE, eB, tNotG, tAndG, tOrG, eAndG, eOrG, eNotG, eIf, eSeq, eCall, eCallO, eCallB, eCallBF, eCallBX, sSeq, sNext, sRet, sRetF, sRetO, sRetN, sDrop, sIf, sSet, sSetO, sBreak, sCont, sBad, sPar, sPar3, fz, sFz, eCallW, idL, sApp, sPutIx, sAug, sFor, gN, gT, gsCons, gsNil, gYes, eLc, gSeq, nS, nF, Nw.sl, R.ok_bind, R.ok_map, R.lift_some, to_ok, toX_ok, toX_ex, bind_nx, bind_rt, bind_rf, bind_ex, bind_bk, bind_ct, at_ok, at_ex, res_val, map_ex, rbind_ex, Op.res, resA, valA, isOw, box0, Option.map_some, Option.bind_some, sHeardT, nlCons, nlNil, Nw.dat, mSet, eChain, eRg1, eRg2, eSl, pNo, pSo,
  List.getElem?_cons_zero, List.getElem?_cons_succ, List.set_cons_zero, List.set_cons_succ, List.length_cons, List.length_nil, if_true, if_false, Bool.false_eq_true, ite_true, ite_false, reduceIte,
  addU_int, subD_int, ltD_int, leD_int, gtD_int, geD_int, negD_int, absD_int, intD_bool, intD_int, lenD_list, lenD_tuple, lenD_scr, pow10_7, pow10_18, pow10_40, eqW_ints, neW_ints, eqW_strs, neW_strs, eqW_none, eqW_in, eqW_ni, ixD_list, ixD_tuple, ixD_scr, atI_3_0, atI_3_1, atI_3_2, ixN_3_0, ixN_3_1, ixN_3_2, wipeR, zip2D, skOf, isiD_n, isiD_b, isiD_i, isiD_s, isiD_l, isiD_t, isiTD_n, isiTD_b, isiTD_i, isiTD_s, isiTD_l, isiTD_t, isiAny, eCallX, eCallWX, xE, xIf, xL, xCb1, sSetX, sRetX, sDropX, sRaise, sTo, eMk, isX_n, sKeep, kt_ll, kt_lt, kt_ls, kt_li, kt_lb, kt_tl, kt_tt, kt_ts, kt_ti, kt_tb, kt_sl, kt_st, kt_ss, kt_si, kt_sb, kt_il, kt_it, kt_is, kt_ii, kt_ib, kt_bl, kt_bt, kt_bs, kt_bi, kt_bb, kt_nl, kt_nt, kt_ns, kt_ni, kt_nb, eqW_bools, neW_bools, isD_none, isNotD_none, isNoneD, isNone_e, List.map_cons, List.map_nil, List.replicate, List.append_nil, List.cons_append, List.nil_append, nc0, nc1, nc2, nc3, nc4, nc5, nc6, nc7, nc8, nc9, nc10, nc11, nc12, nc13, nc14, nc15, nc16, nc17, nc18, nc19, nc20, Nat.reduceAdd, Nat.reduceSub, ne_eq, decide_true, decide_false, not_true_eq_false, not_false_eq_true, reduceCtorEq, Bool.and_true, Bool.true_and, Bool.and_false, Bool.false_and, Bool.or_true, Bool.true_or, Bool.or_false, Bool.false_or, Bool.not_true, Bool.not_false, and_self, if_true])
local macro_rules | `(tactic| walk_at "evh") => `(tactic| simp only [eC, eV, oE, oV, eL, eT, aNil, aCons, eOp2, eOp1, eApp, tstE, eB, tNotG, tAndG, tOrG, eAndG, eOrG, eNotG, eIf, eSeq, eCall, eCallO, eCallB, eCallBF, eCallBX, sSeq, sNext, sRet, sRetF, sRetO, sRetN, sDrop, sIf, sSet, sSetO, sBreak, sCont, sBad, sPar, sPar3, fz, sFz, eCallW, idL, sApp, sPutIx, sAug, sFor, gN, gT, gsCons, gsNil, gYes, eLc, gSeq, nS, nF, Nw.sl, R.ok_bind, R.ok_map, R.lift_some, to_ok, toX_ok, toX_ex, bind_nx, bind_rt, bind_rf, bind_ex, bind_bk, bind_ct, at_ok, at_ex, res_val, map_ex, rbind_ex, Op.res, resA, valA, isOw, box0, Option.map_some, Option.bind_some, sHeardT, nlCons, nlNil, Nw.dat, mSet, eChain, eRg1, eRg2, eSl, pNo, pSo,
  List.getElem?_cons_zero, List.getElem?_cons_succ, List.set_cons_zero, List.set_cons_succ, List.length_cons, List.length_nil, if_true, if_false, Bool.false_eq_true, ite_true, ite_false, reduceIte,
  addU_int, subD_int, ltD_int, leD_int, gtD_int, geD_int, negD_int, absD_int, intD_bool, intD_int, lenD_list, lenD_tuple, lenD_scr, pow10_7, pow10_18, pow10_40, eqW_ints, neW_ints, eqW_strs, neW_strs, eqW_none, eqW_in, eqW_ni, ixD_list, ixD_tuple, ixD_scr, atI_3_0, atI_3_1, atI_3_2, ixN_3_0, ixN_3_1, ixN_3_2, wipeR, zip2D, skOf, isiD_n, isiD_b, isiD_i, isiD_s, isiD_l, isiD_t, isiTD_n, isiTD_b, isiTD_i, isiTD_s, isiTD_l, isiTD_t, isiAny, eCallX, eCallWX, xE, xIf, xL, xCb1, sSetX, sRetX, sDropX, sRaise, sTo, eMk, isX_n, sKeep, kt_ll, kt_lt, kt_ls, kt_li, kt_lb, kt_tl, kt_tt, kt_ts, kt_ti, kt_tb, kt_sl, kt_st, kt_ss, kt_si, kt_sb, kt_il, kt_it, kt_is, kt_ii, kt_ib, kt_bl, kt_bt, kt_bs, kt_bi, kt_bb, kt_nl, kt_nt, kt_ns, kt_ni, kt_nb, eqW_bools, neW_bools, isD_none, isNotD_none, isNoneD, isNone_e, List.map_cons, List.map_nil, List.replicate, List.append_nil, List.cons_append, List.nil_append, nc0, nc1, nc2, nc3, nc4, nc5, nc6, nc7, nc8, nc9, nc10, nc11, nc12, nc13, nc14, nc15, nc16, nc17, nc18, nc19, nc20, Nat.reduceAdd, Nat.reduceSub, ne_eq, decide_true, decide_false, not_true_eq_false, not_false_eq_true, reduceCtorEq, Bool.and_true, Bool.true_and, Bool.and_false, Bool.false_and, Bool.or_true, Bool.true_or, Bool.or_false, Bool.false_or, Bool.not_true, Bool.not_false, and_self, if_true, *])
abbrev dvN (cs : List Nat) : Nat := PySem.NumText.digitsVal cs
def digB (c : Nat) : Bool := decide (c ∈ ("0123456789" : Str).cps.toList)
theorem dig_list : ("0123456789" : Str).cps.toList = [48, 49, 50, 51, 52, 53, 54, 55, 56, 57] := by decide +kernel
theorem dig_iff {c : Nat} : digB c = true ↔ 48 ≤ c ∧ c ≤ 57 := by
  unfold digB
  rw [decide_eq_true_iff, dig_list]
  simp only [List.mem_cons, List.not_mem_nil, or_false]
  omega
def digS (p : Str) : Bool := p.cps.toList.all digB
theorem digs_iff {p : Str} : digS p = true ↔ PySem.NumText.AllDigits p.cps.toList := by
  unfold digS PySem.NumText.AllDigits
  rw [List.all_eq_true]
  exact ⟨fun h c hc => dig_iff.mp (h c hc), fun h c hc => dig_iff.mpr (h c hc)⟩
theorem all_digs (p : Str) : allD [.list (p.cps.toList.map fun c => PyData.bool (digB c))] = some (.bool (digS p)) := by
  have e : boolsOf (p.cps.toList.map fun c => PyData.bool (digB c)) = some (p.cps.toList.map digB) := by
    rw [← boolsOf_map (p.cps.toList.map digB), List.map_map]; rfl
  unfold allD
  dsimp only
  rw [e]
  show some (PyData.bool _) = _
  congr 2
  unfold digS
  rw [List.all_map]
  rfl
def headS (p : Str) : Str := match p.cps.toList with
  | c :: _ => ⟨#[c]⟩
  | [] => p
def numB (p : Str) : Bool := decide (1 ≤ p.length) && (decide (p.length ≤ 50) && (digS p && (decide (p = "0") || !decide (headS p = "0"))))
def valI (p : Str) : Int := (PySem.intText? p).getD 0
theorem len_list (p : Str) : p.cps.toList.length = p.length := Array.length_toList
theorem ne_list {p : Str} (h : 1 ≤ p.length) : p.cps.toList ≠ [] := fun z => by
  have := len_list p
  rw [z] at this
  rw [List.length_nil] at this
  omega
theorem ix0_str {p : Str} (h : 1 ≤ p.length) (hz : p.length ≤ sizeLine) : ixD (.str p) (.int 0) = some (.str (headS p)) := by
  show (if p.length ≤ sizeLine then (atI p.cps.toList 0).map fun c => PyData.str ⟨#[c]⟩ else none) = _
  rw [if_pos hz]
  unfold headS
  cases e : p.cps.toList with
  | nil => exact absurd e (ne_list h)
  | cons c cs => rw [atI_nat0]; rfl
theorem num_parts {p : Str} (h : numB p = true) : 1 ≤ p.length ∧ p.length ≤ 50 ∧ digS p = true ∧ (p = "0" ∨ headS p ≠ "0") := by
  unfold numB at h
  simp only [Bool.and_eq_true, Bool.or_eq_true, Bool.not_eq_true', decide_eq_true_eq, decide_eq_false_iff_not] at h
  exact h
theorem dig_val {p : Str} (h1 : 1 ≤ p.length) (h2 : p.length ≤ 50) (hd : digS p = true) : PySem.intText? p = some ((dvN p.cps.toList : Nat) : Int) :=
  PySem.intText_digits (digs_iff.mp hd) (ne_list h1) (by omega)
theorem num_val {p : Str} (h : numB p = true) : valI p = ((dvN p.cps.toList : Nat) : Int) := by
  obtain ⟨h1, h2, h3, _⟩ := num_parts h
  unfold valI
  rw [dig_val h1 h2 h3]; rfl
theorem ci_e {c : Nat} {s0 : Sl} : ce_count_in_1 [s0, .sh (.str ⟨#[c]⟩)] = .ok (.bool (digB c)) [s0, .sh (.str ⟨#[c]⟩)] := by
  have i : inS (.str ⟨#[c]⟩) (.str "0123456789") = some (.bool (digB c)) := rfl
  unfold ce_count_in_1
  walk_at "evh"
theorem ci_lc {p : Str} : lcL [1] (gN 1) gYes ce_count_in_1 (signsD p) [.sh (.str p), .no] = .ok (p.cps.toList.map fun c => .bool (digB c)) [.sh (.str p), .no] :=
  lc_emb1 (emb := fun c => PyData.str ⟨#[c]⟩) (out := fun c => PyData.bool (digB c)) fun c _ => ⟨_, rfl, rfl, ci_e⟩
theorem ci_s {p : Str} : gStr (eV 0) [.sh (.str p), .no] = .ok (signsD p) [.sh (.str p), .no] := rfl
theorem ci_1a {p : Str} {n : Int} {g : GF} (ln : lenD [.str p] = some (.int n)) (h : ¬ (1 ≤ n ∧ n ≤ 50)) : (sIf (tOrG (tNotG (tstE (eChain leD leD (oE (eC (.int 1))) (oE (eApp lenD (aCons (oE (eV 0)) aNil))) (oE (eC (.int 50)))))) (tNotG (tstE (eApp allD (aCons (oE (eL g)) aNil))))) (sRet (eC .none)) sNext) [.sh (.str p), .no] = .rt .none [.sh (.str p), .no] := by
  by_cases z : 1 ≤ n
  · have d0 : decide (1 ≤ n) = true := decide_eq_true z
    have d1 : decide (n ≤ 50) = false := decide_eq_false (by omega)
    clear h z
    walk_at "evh"
  · have d0 : decide (1 ≤ n) = false := decide_eq_false z
    clear h z
    walk_at "evh"
theorem ci_1b {p : Str} {n : Int} {b : Bool} {g : GF} {Y : List D} {o : O} {G : GS} (ln : lenD [.str p] = some (.int n)) (d0 : decide (1 ≤ n) = true) (d1 : decide (n ≤ 50) = true) (eg : g [.sh (.str p), .no] = .ok Y [.sh (.str p), .no]) (al : allD [.list Y] = some (.bool b)) (hG : b = true → G [.sh (.str p), .no] = o) (hb : b = false → o = .rt .none [.sh (.str p), .no]) : sSeq (sIf (tOrG (tNotG (tstE (eChain leD leD (oE (eC (.int 1))) (oE (eApp lenD (aCons (oE (eV 0)) aNil))) (oE (eC (.int 50)))))) (tNotG (tstE (eApp allD (aCons (oE (eL g)) aNil))))) (sRet (eC .none)) sNext) G [.sh (.str p), .no] = o := by
  cases b with
  | true =>
    refine seq_nx (ρ1 := [.sh (.str p), .no]) ?_ (hG rfl)
    clear hG hb
    walk_at "evh"
  | false =>
    rw [hb rfl]
    clear hG hb
    walk_at "evh"
theorem ci_2 {p h : Str} {n : Int} (i0 : ixD (.str p) (.int 0) = some (.str h)) (iv : intS [.str p] = some (.int n)) : (sRet (eIf (tOrG (tstE (eOp2 eqW (oE (eV 0)) (oE (eC (.str "0"))))) (tstE (eOp2 neW (oE (eOp2 ixD (oE (eV 0)) (oE (eC (.int 0))))) (oE (eC (.str "0")))))) (eApp intS (aCons (oE (eV 0)) aNil)) (eC .none))) [.sh (.str p), .no] = .rt (if p = "0" ∨ h ≠ "0" then .int n else .none) [.sh (.str p), .no] := by
  by_cases a : p = "0"
  · have d : decide (p = "0") = true := decide_eq_true a
    rw [if_pos (.inl a)]
    clear a
    walk_at "evh"
  · have d : decide (p = "0") = false := decide_eq_false a
    by_cases b : h = "0"
    · have d2 : decide (h = "0") = true := decide_eq_true b
      rw [if_neg (fun z => z.elim a fun y => y b)]
      clear a b
      walk_at "evh"
    · have d2 : decide (h = "0") = false := decide_eq_false b
      rw [if_pos (.inr b)]
      clear a b
      walk_at "evh"
def numD (p : Str) : D := if numB p = true then .int (valI p) else .none
theorem num_dec (p : Str) : numB p = true ↔ (1 ≤ p.length ∧ p.length ≤ 50) ∧ digS p = true ∧ (p = "0" ∨ headS p ≠ "0") := by
  unfold numB
  simp only [Bool.and_eq_true, Bool.or_eq_true, Bool.not_eq_true', decide_eq_true_eq, decide_eq_false_iff_not]
  exact ⟨fun ⟨a, b, c, d⟩ => ⟨⟨a, b⟩, c, d⟩, fun ⟨⟨a, b⟩, c, d⟩ => ⟨a, b, c, d⟩⟩
theorem len_strD {p : Str} (hz : p.length ≤ 100000) : lenD [.str p] = some (.int (p.length : Nat)) := if_pos (size_of hz)
theorem count_eq {p : Str} (hz : p.length ≤ 100000) : F_count_in [.str p] = some (numD p) := by
  have ln := len_strD hz
  show callP 1 2 g_count_in _ = _
  by_cases h : 1 ≤ p.length ∧ p.length ≤ 50
  · have hs : (signsD p).length ≤ sizeLine := by rw [signs_len]; exact size_of hz
    have al := all_digs p
    refine callP_rt rfl (ρ := [.sh (.str p), .no]) ?_
    show g_count_in [.sh (.str p), .no] = _
    unfold g_count_in
    refine ci_1b ln (decide_eq_true (by omega)) (decide_eq_true (by omega)) (eLc_ok ci_s hs ci_lc) al (fun hd => ?_) fun hd => ?_
    · have iv : intS [.str p] = some (.int (valI p)) := by
        show (if p.length ≤ 640 then (PySem.intText? p).map PyData.int else none) = _
        unfold valI
        rw [if_pos (by omega), dig_val h.1 h.2 hd]; rfl
      rw [ci_2 (ix0_str h.1 (size_of hz)) iv]
      congr 1
      unfold numD
      by_cases q : p = "0" ∨ headS p ≠ "0"
      · rw [if_pos q, if_pos ((num_dec p).mpr ⟨h, hd, q⟩)]
      · rw [if_neg q, if_neg fun z => q ((num_dec p).mp z).2.2]
    · unfold numD
      rw [if_neg fun z => by rw [((num_dec p).mp z).2.1] at hd; cases hd]
  · unfold numD
    rw [if_neg fun z => h ((num_dec p).mp z).1]
    refine callP_rt rfl (ρ := [.sh (.str p), .no]) ?_
    show g_count_in [.sh (.str p), .no] = _
    unfold g_count_in sSeq
    rw [ci_1a ln (by omega)]; rfl
def fstS (p : Str) : Str := cutS p none (some 1)
def rstS (p : Str) : Str := cutS p (some 1) none
theorem fst_list (p : Str) : (fstS p).cps.toList = p.cps.toList.take 1 := by
  unfold fstS cutS
  show ((p.cps.toList.drop 0).take (HT.sIx p.length p.length (some ((1 : Nat) : Int)) - 0)) = _
  rw [HT.sIx_nat, List.drop_zero, Nat.sub_zero, List.take_eq_take_iff, len_list]
  omega
theorem rst_list (p : Str) : (rstS p).cps.toList = p.cps.toList.drop 1 := by
  unfold rstS cutS
  show ((p.cps.toList.drop (HT.sIx p.length 0 (some ((1 : Nat) : Int)))).take (p.length - HT.sIx p.length 0 (some ((1 : Nat) : Int)))) = _
  rw [HT.sIx_nat]
  have := len_list p
  by_cases h : 1 ≤ p.length
  · rw [Nat.min_eq_left h, List.take_of_length_le (by rw [List.length_drop]; omega)]
  · have e : p.cps.toList = [] := List.eq_nil_of_length_eq_zero (by omega)
    rw [e]; simp
theorem str_ext {a b : Str} (h : a.cps.toList = b.cps.toList) : a = b := by
  cases a with
  | mk x =>
    cases b with
    | mk y =>
      have : x = y := Array.toList_inj.mp h
      rw [this]
theorem minus_list : ("-" : Str).cps.toList = [45] := by decide +kernel
theorem zero_list : ("0" : Str).cps.toList = [48] := by decide +kernel
theorem mzero_list : ("-0" : Str).cps.toList = [45, 48] := by decide +kernel
theorem fst_minus {p : Str} (h : fstS p = "-") : p.cps.toList = 45 :: (rstS p).cps.toList := by
  have e := fst_list p
  rw [h, minus_list] at e
  rw [rst_list]
  cases hp : p.cps.toList with
  | nil => rw [hp] at e; cases e
  | cons c cs =>
    rw [hp, List.take_succ_cons, List.take_zero] at e
    injection e with e1
    rw [← e1]; rfl
theorem fst_slice {p : Str} (hz : p.length ≤ 100000) : sliceS (.str p) none (some 1) = some (.str (fstS p)) := if_pos (size_of hz)
theorem rst_slice {p : Str} (hz : p.length ≤ 100000) : sliceS (.str p) (some 1) none = some (.str (rstS p)) := if_pos (size_of hz)
theorem rst_len (p : Str) : (rstS p).length ≤ p.length := by
  have := len_list (rstS p)
  have h2 := len_list p
  rw [rst_list, List.length_drop] at this
  omega
def isnB (k : Int) (p : Str) : Bool := if k ≠ 1 ∧ fstS p = "-" then !decide (p = "-0") && numB (rstS p) else numB p
theorem fold_ge : ∀ (cs : List Nat) (a : Nat), a ≤ cs.foldl (fun acc c => acc * 10 + (c - 48)) a
  | [], a => Nat.le_refl a
  | c :: cs, a => Nat.le_trans (by omega : a ≤ a * 10 + (c - 48)) (fold_ge cs _)
theorem dv_pos {c : Nat} {cs : List Nat} (h : 48 < c) : 0 < dvN (c :: cs) := by
  have := fold_ge cs (0 * 10 + (c - 48))
  show 0 < cs.foldl (fun acc c => acc * 10 + (c - 48)) (0 * 10 + (c - 48))
  omega
theorem num_pos {q : Str} (h : numB q = true) : 0 < dvN q.cps.toList ↔ q ≠ "0" := by
  obtain ⟨h1, _, h3, h4⟩ := num_parts h
  constructor
  · intro hp z
    rw [z, zero_list] at hp
    exact absurd hp (by decide)
  · intro hne
    have hh : headS q ≠ "0" := h4.resolve_left hne
    have hd := digs_iff.mp h3
    unfold headS at hh
    cases e : q.cps.toList with
    | nil => exact absurd e (ne_list h1)
    | cons c cs =>
      rw [e] at hh hd
      have hc := hd.head
      have c48 : c ≠ 48 := fun z => hh (str_ext (by rw [zero_list, z]))
      exact dv_pos (by omega)
theorem minus_zero {p : Str} (h : fstS p = "-") : p = "-0" ↔ rstS p = "0" := by
  have e := fst_minus h
  constructor
  · intro z
    refine str_ext ?_
    rw [z, mzero_list] at e
    injection e with _ e2
    rw [z, ← e2, zero_list]
  · intro z
    refine str_ext ?_
    rw [e, z, zero_list, mzero_list]
theorem minus_val {p : Str} (h : fstS p = "-") (hn : numB (rstS p) = true) : valI p = -((dvN (rstS p).cps.toList : Nat) : Int) := by
  obtain ⟨h1, h2, h3, _⟩ := num_parts hn
  have e := fst_minus h
  have l1 := len_list p
  have l2 := len_list (rstS p)
  rw [e, List.length_cons] at l1
  unfold valI
  rw [PySem.intText_neg e (digs_iff.mp h3) (ne_list h1) (by omega)]; rfl
def intD' (p : Str) : D := if isnB 0 p = true then .int (valI p) else .none
theorem ii_1 {p f : Str} {d : D} {G : GS} (sl : sliceS (.str p) none (some 1) = some (.str f)) (n : decide (f = "-") = false) (e : F_count_in [.str p] = some d) : sSeq (sIf (tstE (eOp2 neW (oE (eSl sliceS (oE (eV 0)) pNo (pSo (eC (.int 1))))) (oE (eC (.str "-"))))) (sRet (eCall F_count_in (aCons (oE (eV 0)) aNil)))
    sNext) G [.sh (.str p), .no] = .rt d [.sh (.str p), .no] := by
  walk_at "evh"
theorem ii_1b {p f : Str} (sl : sliceS (.str p) none (some 1) = some (.str f)) (n : decide (f = "-") = true) : (sIf (tstE (eOp2 neW (oE (eSl sliceS (oE (eV 0)) pNo (pSo (eC (.int 1))))) (oE (eC (.str "-"))))) (sRet (eCall F_count_in (aCons (oE (eV 0)) aNil)))
    sNext) [.sh (.str p), .no] = .nx [.sh (.str p), .no] := by
  walk_at "evh"
theorem ii_2 {p r : Str} {d : D} (sl : sliceS (.str p) (some 1) none = some (.str r)) (e : F_count_in [.str r] = some d) : (sSet 1 (eCall F_count_in (aCons (oE (eSl sliceS (oE (eV 0)) (pSo (eC (.int 1))) pNo)) aNil))) [.sh (.str p), .no] = .nx [.sh (.str p), .sh d] := by
  walk_at "evh"
theorem ii_3n {p : Str} : (sRet (eIf (tAndG (tstE (eOp2 isNotD (oE (eV 1)) (oE (eC .none)))) (tstE (eOp2 gtD (oE (eV 1)) (oE (eC (.int 0)))))) (eOp1 negD (oE (eV 1))) (eC .none))) [.sh (.str p), .sh .none] = .rt .none [.sh (.str p), .sh .none] := by
  have k : isNotD .none .none = some (.bool false) := by rw [isNotD_none]; rfl
  walk_at "evh"
theorem ii_3 {p : Str} {n : Int} (b : Bool) (d : decide (0 < n) = b) : (sRet (eIf (tAndG (tstE (eOp2 isNotD (oE (eV 1)) (oE (eC .none)))) (tstE (eOp2 gtD (oE (eV 1)) (oE (eC (.int 0)))))) (eOp1 negD (oE (eV 1))) (eC .none))) [.sh (.str p), .sh (.int n)] = .rt (if b = true then .int (-n) else .none) [.sh (.str p), .sh (.int n)] := by
  have k : isNotD (.int n) .none = some (.bool true) := by rw [isNotD_none]; rfl
  cases b <;> walk_at "evh"
theorem integer_eq {p : Str} (hz : p.length ≤ 100000) : F_integer_in [.str p] = some (intD' p) := by
  show callP 1 2 g_integer_in _ = _
  by_cases h : fstS p = "-"
  · have rl := rst_len p
    have e2 := ii_2 (p := p) (rst_slice hz) (count_eq (p := rstS p) (by omega))
    have ii : isnB 0 p = (!decide (p = "-0") && numB (rstS p)) := if_pos ⟨by decide, h⟩
    by_cases hn : numB (rstS p) = true
    · have nd : numD (rstS p) = .int (valI (rstS p)) := if_pos hn
      rw [nd] at e2
      have v := num_val hn
      have mv := minus_val h hn
      refine callP_rt rfl (ρ := [.sh (.str p), .sh (.int (valI (rstS p)))]) ?_
      show g_integer_in [.sh (.str p), .no] = _
      unfold g_integer_in
      refine seq_nx (ii_1b (fst_slice hz) (decide_eq_true h)) (seq_nx e2 ?_)
      rw [ii_3 _ rfl]
      congr 1
      unfold intD'
      rw [ii, hn, Bool.and_true]
      by_cases q : rstS p = "0"
      · rw [if_neg, if_neg]
        · rw [decide_eq_true ((minus_zero h).mpr q)]; exact Bool.false_ne_true
        · have np : ¬ 0 < dvN (rstS p).cps.toList := fun z => (num_pos hn).mp z q
          rw [decide_eq_false (by omega)]; exact Bool.false_ne_true
      · have := (num_pos hn).mpr q
        rw [if_pos (decide_eq_true (by omega)), if_pos (by rw [decide_eq_false fun z => q ((minus_zero h).mp z)]; rfl), mv, v]
    · have nd : numD (rstS p) = .none := if_neg hn
      rw [nd] at e2
      refine callP_rt rfl (ρ := [.sh (.str p), .sh .none]) ?_
      show g_integer_in [.sh (.str p), .no] = _
      unfold g_integer_in
      refine seq_nx (ii_1b (fst_slice hz) (decide_eq_true h)) (seq_nx e2 ?_)
      rw [ii_3n]
      congr 1
      unfold intD'
      have hn2 : numB (rstS p) = false := by
        cases e : numB (rstS p) with
        | false => rfl
        | true => exact absurd e hn
      rw [ii, hn2, Bool.and_false, if_neg Bool.false_ne_true]
  · have ii : isnB 0 p = numB p := if_neg fun z => h z.2
    refine callP_rt rfl (ρ := [.sh (.str p), .no]) ?_
    show g_integer_in [.sh (.str p), .no] = _
    unfold g_integer_in
    rw [ii_1 (fst_slice hz) (decide_eq_false h) (count_eq hz)]
    congr 1
    unfold intD' numD
    rw [ii]
end W
namespace W
open PySem L2 DL
local macro_rules | `(tactic| walk_at "ev") => `(tactic| simp only [eC, eV, oE, oV, eL, eT, aNil, aCons, eOp2, eOp1, eApp, tstE, eB, tNotG, tAndG, tOrG, eAndG, eOrG, eNotG, eIf, eSeq, eCall, eCallO, eCallB, eCallBF, eCallBX, sSeq, sNext, sRet, sRetF, sRetO, sRetN, sDrop, sIf, sSet, sSetO, sBreak, sCont, sBad, sPar, sPar3, fz, sFz, eCallW, idL, sApp, sPutIx, sAug, sFor, gN, gT, gsCons, gsNil, gYes, eLc, gSeq, nS, nF, Nw.sl, R.ok_bind, R.ok_map, R.lift_some, to_ok, toX_ok, toX_ex, bind_nx, bind_rt, bind_rf, bind_ex, bind_bk, bind_ct, at_ok, at_ex, res_val, map_ex, rbind_ex, Op.res, resA, valA, isOw, box0, Option.map_some, Option.bind_some, sHeardT, nlCons, nlNil, Nw.dat, mSet, eChain, eRg1, eRg2, eSl, pNo, pSo,
  List.getElem?_cons_zero, List.getElem?_cons_succ, List.set_cons_zero, List.set_cons_succ, List.length_cons, List.length_nil, if_true, if_false, Bool.false_eq_true, ite_true, ite_false, reduceIte,
  addU_int, subD_int, ltD_int, leD_int, gtD_int, geD_int, negD_int, absD_int, intD_bool, intD_int, lenD_list, lenD_tuple, lenD_scr, pow10_7, pow10_18, pow10_40, eqW_ints, neW_ints, eqW_strs, neW_strs, eqW_none, eqW_in, eqW_ni, ixD_list, ixD_tuple, ixD_scr, atI_3_0, atI_3_1, atI_3_2, ixN_3_0, ixN_3_1, ixN_3_2, wipeR, zip2D, skOf, isiD_n, isiD_b, isiD_i, isiD_s, isiD_l, isiD_t, isiTD_n, isiTD_b, isiTD_i, isiTD_s, isiTD_l, isiTD_t, isiAny, eCallX, eCallWX, xE, xIf, xL, xCb1, sSetX, sRetX, sDropX, sRaise, sTo, eMk, isX_n, sKeep, kt_ll, kt_lt, kt_ls, kt_li, kt_lb, kt_tl, kt_tt, kt_ts, kt_ti, kt_tb, kt_sl, kt_st, kt_ss, kt_si, kt_sb, kt_il, kt_it, kt_is, kt_ii, kt_ib, kt_bl, kt_bt, kt_bs, kt_bi, kt_bb, kt_nl, kt_nt, kt_ns, kt_ni, kt_nb, eqW_bools, neW_bools, isD_none, isNotD_none, isNoneD, isNone_e, List.map_cons, List.map_nil, List.replicate, List.append_nil, List.cons_append, List.nil_append, nc0, nc1, nc2, nc3, nc4, nc5, nc6, nc7, nc8, nc9, nc10, nc11, nc12, nc13, nc14, nc15, nc16, nc17, nc18, nc19, nc20, Nat.reduceAdd, Nat.reduceSub, ne_eq, decide_true, decide_false, not_true_eq_false, not_false_eq_true, reduceCtorEq, Bool.and_true, Bool.true_and, Bool.and_false, Bool.false_and, Bool.or_true, Bool.true_or, Bool.or_false, Bool.false_or, Bool.not_true, Bool.not_false, and_self, if_true, eSplit, eJoin])
local macro_rules | `(tactic| walk_at "evh") => `(tactic| simp only [eC, eV, oE, oV, eL, eT, aNil, aCons, eOp2, eOp1, eApp, tstE, eB, tNotG, tAndG, tOrG, eAndG, eOrG, eNotG, eIf, eSeq, eCall, eCallO, eCallB, eCallBF, eCallBX, sSeq, sNext, sRet, sRetF, sRetO, sRetN, sDrop, sIf, sSet, sSetO, sBreak, sCont, sBad, sPar, sPar3, fz, sFz, eCallW, idL, sApp, sPutIx, sAug, sFor, gN, gT, gsCons, gsNil, gYes, eLc, gSeq, nS, nF, Nw.sl, R.ok_bind, R.ok_map, R.lift_some, to_ok, toX_ok, toX_ex, bind_nx, bind_rt, bind_rf, bind_ex, bind_bk, bind_ct, at_ok, at_ex, res_val, map_ex, rbind_ex, Op.res, resA, valA, isOw, box0, Option.map_some, Option.bind_some, sHeardT, nlCons, nlNil, Nw.dat, mSet, eChain, eRg1, eRg2, eSl, pNo, pSo,
  List.getElem?_cons_zero, List.getElem?_cons_succ, List.set_cons_zero, List.set_cons_succ, List.length_cons, List.length_nil, if_true, if_false, Bool.false_eq_true, ite_true, ite_false, reduceIte,
  addU_int, subD_int, ltD_int, leD_int, gtD_int, geD_int, negD_int, absD_int, intD_bool, intD_int, lenD_list, lenD_tuple, lenD_scr, pow10_7, pow10_18, pow10_40, eqW_ints, neW_ints, eqW_strs, neW_strs, eqW_none, eqW_in, eqW_ni, ixD_list, ixD_tuple, ixD_scr, atI_3_0, atI_3_1, atI_3_2, ixN_3_0, ixN_3_1, ixN_3_2, wipeR, zip2D, skOf, isiD_n, isiD_b, isiD_i, isiD_s, isiD_l, isiD_t, isiTD_n, isiTD_b, isiTD_i, isiTD_s, isiTD_l, isiTD_t, isiAny, eCallX, eCallWX, xE, xIf, xL, xCb1, sSetX, sRetX, sDropX, sRaise, sTo, eMk, isX_n, sKeep, kt_ll, kt_lt, kt_ls, kt_li, kt_lb, kt_tl, kt_tt, kt_ts, kt_ti, kt_tb, kt_sl, kt_st, kt_ss, kt_si, kt_sb, kt_il, kt_it, kt_is, kt_ii, kt_ib, kt_bl, kt_bt, kt_bs, kt_bi, kt_bb, kt_nl, kt_nt, kt_ns, kt_ni, kt_nb, eqW_bools, neW_bools, isD_none, isNotD_none, isNoneD, isNone_e, List.map_cons, List.map_nil, List.replicate, List.append_nil, List.cons_append, List.nil_append, nc0, nc1, nc2, nc3, nc4, nc5, nc6, nc7, nc8, nc9, nc10, nc11, nc12, nc13, nc14, nc15, nc16, nc17, nc18, nc19, nc20, Nat.reduceAdd, Nat.reduceSub, ne_eq, decide_true, decide_false, not_true_eq_false, not_false_eq_true, reduceCtorEq, Bool.and_true, Bool.true_and, Bool.and_false, Bool.false_and, Bool.or_true, Bool.true_or, Bool.or_false, Bool.false_or, Bool.not_true, Bool.not_false, and_self, if_true, eSplit, eJoin, *])
def wdS (x : Str) : List Str := if x = "-" then [] else Txt.split x " "
theorem wd_len {x p : Str} (h : p ∈ wdS x) : p.length ≤ x.length := by
  unfold wdS at h
  split at h
  · cases h
  · exact PyProof.Rows.part_short h
theorem wd_many (x : Str) : (wdS x).length ≤ x.length + 2 := by
  unfold wdS
  split
  · exact Nat.zero_le _
  · exact PyProof.Rows.split_le x " "
theorem wd_split {x : Str} (hz : x.length ≤ 100000) : splitS (.str x) (.str " ") = some ((Txt.split x " ").map .str) := if_pos ⟨by decide +kernel, Nat.le_trans (Nat.add_le_add_right hz 2) (by decide)⟩
theorem wo_eq {x : Str} (hz : x.length ≤ 100000) : F_words_of [.str x] = some (.list ((wdS x).map .str)) := by
  have sp := wd_split hz
  have z : 0 ≤ sizeLine := Nat.zero_le _
  unfold F_words_of callP g_words_of env0
  by_cases h : x = "-"
  · have d : decide (x = "-") = true := decide_eq_true h
    have e : wdS x = [] := if_pos h
    rw [e]
    clear h e
    walk_at "evh"
  · have d : decide (x = "-") = false := decide_eq_false h
    have e : wdS x = Txt.split x " " := if_neg h
    rw [e]
    clear h e
    walk_at "evh"
def intO (p : Str) : Option Int := if isnB 0 p = true then some (valI p) else none
def numO (p : Str) : Option Int := if numB p = true then some (valI p) else none
def onD : Option Int → D
  | some i => .int i
  | none => .none
theorem int_on (p : Str) : intD' p = onD (intO p) := by
  unfold intD' intO
  split <;> rfl
theorem num_on (p : Str) : numD p = onD (numO p) := by
  unfold numD numO
  split <;> rfl
theorem canLay_on : ∀ os : List (Option Int), PyData.canLayAll0 (os.map onD) = true
  | [] => by simp [PyData.canLayAll0]
  | some i :: os => by simp [PyData.canLayAll0, PyData.canLay0, onD, canLay_on os]
  | none :: os => by simp [PyData.canLayAll0, PyData.canLay0, onD, canLay_on os]
theorem depth_on : ∀ os : List (Option Int), PyData.depthAll (os.map onD) = 0
  | [] => by simp [PyData.depthAll]
  | some i :: os => by simp [PyData.depthAll, PyData.depth, onD, depth_on os]
  | none :: os => by simp [PyData.depthAll, PyData.depth, onD, depth_on os]
theorem shaped_on (os : List (Option Int)) : SeqAt.shaped (.list (os.map onD)) = true := by
  unfold SeqAt.shaped
  simp [PyData.canLay0, canLay_on, PyData.depth, depth_on]
theorem inX_on (os : List (Option Int)) : inX .none (.list (os.map onD)) = some (.bool (decide (none ∈ os))) := by
  unfold inX anyB
  simp only [itemsQ]
  rw [if_pos ⟨rfl, shaped_on os⟩, List.any_map]
  show some (PyData.bool (os.any fun o => PyData.eqv (onD o) .none)) = _
  congr 2
  rw [Bool.eq_iff_iff, List.any_eq_true, decide_eq_true_iff]
  constructor
  · rintro ⟨o, ho, e⟩
    cases o with
    | none => exact ho
    | some i => simp [onD, PyData.eqv] at e
  · intro h
    exact ⟨none, h, by simp [onD, PyData.eqv]⟩
theorem aon_eq (os : List (Option Int)) : F_all_or_none [.list (os.map onD)] = some (if none ∈ os then .none else .list (os.map onD)) := by
  have i := inX_on os
  generalize os.map onD = ds at *
  unfold F_all_or_none callP g_all_or_none env0
  by_cases h : none ∈ os
  · rw [decide_eq_true h] at i
    rw [if_pos h]
    clear h
    walk_at "evh"
  · rw [decide_eq_false h] at i
    rw [if_neg h]
    clear h
    walk_at "evh"
def okW (k : Int) (p : Str) : Bool := (decide (k = 2) && decide (p = "?")) || isnB k p
def valW (p : Str) : D := if p = "?" then .none else .int (valI p)
def rdO (k : Int) (x : Str) : Option (List D) := if (wdS x).all (okW k) = true then some ((wdS x).map valW) else none
def outD (k : Int) (l : List D) : D := if k = 1 then .list l else .tuple l
theorem num_q : numB "?" = false := by decide +kernel
theorem fst_q : fstS "?" ≠ "-" := by decide +kernel
theorem isn_q (k : Int) : isnB k "?" = false := (if_neg fun z => fst_q z.2).trans num_q
theorem isn_1 (p : Str) : isnB 1 p = numB p := if_neg fun z => z.1 rfl
theorem isn_02 (p : Str) : isnB 2 p = isnB 0 p := by
  unfold isnB
  have e : ((2 : Int) ≠ 1 ∧ fstS p = "-") ↔ ((0 : Int) ≠ 1 ∧ fstS p = "-") := ⟨fun z => ⟨by decide, z.2⟩, fun z => ⟨by decide, z.2⟩⟩
  by_cases h : fstS p = "-"
  · rw [if_pos ⟨by decide, h⟩, if_pos ⟨by decide, h⟩]
  · rw [if_neg fun z => h z.2, if_neg fun z => h z.2]
theorem val_isn {k : Int} {p : Str} (h : isnB k p = true) : valW p = .int (valI p) := if_neg fun z => by
  rw [z, isn_q] at h; cases h
theorem rd_0 {x : Str} (f : Str → Option Int) (k : Int) (hf : ∀ p, f p = if isnB k p = true then some (valI p) else none) (hk : k ≠ 2) : (if none ∈ (wdS x).map f then (.none : D) else .list (((wdS x).map f).map onD)) = (match rdO k x with | some l => .list l | none => .none) := by
  have ok : ∀ p, okW k p = isnB k p := fun p => by
    unfold okW
    rw [decide_eq_false hk, Bool.false_and, Bool.false_or]
  unfold rdO
  by_cases h : (wdS x).all (okW k) = true
  · rw [if_pos h]
    rw [List.all_eq_true] at h
    have hs : ∀ p ∈ wdS x, f p = some (valI p) := fun p hp => by
      have := h p hp
      rw [ok] at this
      rw [hf, if_pos this]
    rw [if_neg fun z => by
      obtain ⟨p, hp, e⟩ := List.mem_map.mp z
      rw [hs p hp] at e; cases e]
    show PyData.list _ = PyData.list _
    rw [List.map_map]
    congr 1
    refine List.map_congr_left fun p hp => ?_
    have := h p hp
    rw [ok] at this
    show onD (f p) = _
    rw [hs p hp, val_isn this]; rfl
  · rw [if_neg h]
    rw [if_pos]
    have : ∃ p ∈ wdS x, okW k p = false := by
      refine Classical.byContradiction fun z => h (List.all_eq_true.mpr fun p hp => ?_)
      cases e : okW k p with
      | true => rfl
      | false => exact absurd ⟨p, hp, e⟩ z
    obtain ⟨p, hp, e⟩ := this
    rw [ok] at e
    exact List.mem_map.mpr ⟨p, hp, by rw [hf, e]; rfl⟩
theorem ro_src {x : Str} {E : List D} {s1 s2 : Sl} (e : F_words_of [.str x] = some (.list E)) : gSeq (eCall F_words_of (aCons (oE (eV 0)) aNil)) [.sh (.str x), s1, s2] = .ok E [.sh (.str x), s1, s2] := by
  have it : itemsD (.list E) = some E := rfl
  walk_at "evh"
theorem ro_1 {x : Str} {Y : List D} {d : D} {g : GF} (eg : g [.sh (.str x), .no, .no] = .ok Y [.sh (.str x), .no, .no]) (e : F_all_or_none [.list Y] = some d) : (sSet 1 (eCall F_all_or_none (aCons (oE (eL g)) aNil))) [.sh (.str x), .no, .no] = .nx [.sh (.str x), .sh d, .no] := by
  walk_at "evh"
theorem ro_2n {x : D} : (sRet (eIf (tstE (eOp2 isD (oE (eV 1)) (oE (eC .none)))) (eC .none) (eApp tupleD (aCons (oE (eV 1)) aNil)))) [.sh x, .sh .none, .no] = .rt .none [.sh x, .sh .none, .no] := by
  have k : isD .none .none = some (.bool true) := by rw [isD_none]; rfl
  walk_at "evh"
theorem ro_2l {x : D} {l : List D} : (sRet (eIf (tstE (eOp2 isD (oE (eV 1)) (oE (eC .none)))) (eC .none) (eApp tupleD (aCons (oE (eV 1)) aNil)))) [.sh x, .sh (.list l), .no] = .rt (.tuple l) [.sh x, .sh (.list l), .no] := by
  have k : isD (.list l) .none = some (.bool false) := by rw [isD_none]; rfl
  have t : tupleD [.list l] = some (.tuple l) := rfl
  walk_at "evh"
def orN (k : Int) (x : Str) : D := match rdO k x with
  | some l => outD k l
  | none => .none
theorem row_or {x : Str} (hz : x.length ≤ 50000) : F_row_or_none [.str x] = some (orN 0 x) := by
  have wm := wd_many x
  have lc : lcL [2] (gN 2) gYes ce_row_or_none_1 ((wdS x).map .str) [.sh (.str x), .no, .no] = .ok ((wdS x).map fun p => onD (intO p)) [.sh (.str x), .no, .no] :=
    lc_emb1 (emb := PyData.str) (out := fun p => onD (intO p)) fun p hp => by
      have l := wd_len hp
      have e := integer_eq (p := p) (by omega)
      rw [int_on] at e
      refine ⟨_, rfl, rfl, ?_⟩
      generalize onD (intO p) = d at *
      clear hp
      unfold ce_row_or_none_1
      walk_at "evh"
  have mm : (wdS x).map (fun p => onD (intO p)) = ((wdS x).map intO).map onD := by rw [List.map_map]; rfl
  rw [mm] at lc
  have S1 := ro_1 (eLc_ok (ro_src (wo_eq (by omega))) (by rw [List.length_map]; exact size_of (by omega)) lc) (aon_eq ((wdS x).map intO))
  rw [rd_0 intO 0 (fun p => rfl) (by decide)] at S1
  show callP 1 3 g_row_or_none _ = _
  unfold orN
  cases h : rdO 0 x with
  | none =>
    rw [h] at S1
    refine callP_rt rfl (ρ := [.sh (.str x), .sh .none, .no]) ?_
    show g_row_or_none [.sh (.str x), .no, .no] = _
    unfold g_row_or_none
    exact seq_nx S1 ro_2n
  | some l =>
    rw [h] at S1
    refine callP_rt rfl (ρ := [.sh (.str x), .sh (.list l), .no]) ?_
    show g_row_or_none [.sh (.str x), .no, .no] = _
    unfold g_row_or_none
    exact seq_nx S1 ro_2l
theorem co_src {x : Str} {E : List D} {s1 : Sl} (e : F_words_of [.str x] = some (.list E)) : gSeq (eCall F_words_of (aCons (oE (eV 0)) aNil)) [.sh (.str x), s1] = .ok E [.sh (.str x), s1] := by
  have it : itemsD (.list E) = some E := rfl
  walk_at "evh"
theorem co_1 {x : Str} {Y : List D} {d : D} {g : GF} (eg : g [.sh (.str x), .no] = .ok Y [.sh (.str x), .no]) (e : F_all_or_none [.list Y] = some d) : (sRet (eCall F_all_or_none (aCons (oE (eL g)) aNil))) [.sh (.str x), .no] = .rt d [.sh (.str x), .no] := by
  walk_at "evh"
theorem calls_or {x : Str} (hz : x.length ≤ 50000) : F_calls_or_none [.str x] = some (orN 1 x) := by
  have wm := wd_many x
  have lc : lcL [1] (gN 1) gYes ce_calls_or_none_1 ((wdS x).map .str) [.sh (.str x), .no] = .ok ((wdS x).map fun p => onD (numO p)) [.sh (.str x), .no] :=
    lc_emb1 (emb := PyData.str) (out := fun p => onD (numO p)) fun p hp => by
      have l := wd_len hp
      have e := count_eq (p := p) (by omega)
      rw [num_on] at e
      refine ⟨_, rfl, rfl, ?_⟩
      generalize onD (numO p) = d at *
      clear hp
      unfold ce_calls_or_none_1
      walk_at "evh"
  have mm : (wdS x).map (fun p => onD (numO p)) = ((wdS x).map numO).map onD := by rw [List.map_map]; rfl
  rw [mm] at lc
  have S1 := co_1 (eLc_ok (co_src (wo_eq (by omega))) (by rw [List.length_map]; exact size_of (by omega)) lc) (aon_eq ((wdS x).map numO))
  rw [rd_0 numO 1 (fun p => by rw [isn_1]; rfl) (by decide)] at S1
  show callP 1 2 g_calls_or_none _ = _
  have e : orN 1 x = (match rdO 1 x with | some l => .list l | none => .none) := by
    unfold orN
    cases rdO 1 x <;> rfl
  rw [e]
  exact callP_rt rfl S1
theorem wi_1 {x : Str} {E : List D} (e : F_words_of [.str x] = some (.list E)) : (sSet 1 (eCall F_words_of (aCons (oE (eV 0)) aNil))) [.sh (.str x), .no, .no] = .nx [.sh (.str x), .sh (.list E), .no] := by
  walk_at "evh"
theorem wi_s {x : D} {E : List D} : gSeq (eV 1) [.sh x, .sh (.list E), .no] = .ok E [.sh x, .sh (.list E), .no] := rfl
theorem wi_e1 {x E : D} {p : Str} {o : Option Int} (e : F_integer_in [.str p] = some (onD o)) : ce_wish_or_none_1 [.sh x, .sh E, .sh (.str p)] = .ok (.bool (decide (p = "?") || o.isSome)) [.sh x, .sh E, .sh (.str p)] := by
  unfold ce_wish_or_none_1
  have k1 : isNotD .none .none = some (.bool false) := by rw [isNotD_none]; rfl
  have k2 : ∀ i, isNotD (.int i) .none = some (.bool true) := fun i => by rw [isNotD_none]; rfl
  by_cases h : p = "?"
  · have d : decide (p = "?") = true := decide_eq_true h
    rw [d, Bool.true_or]
    clear h e
    walk_at "evh"
  · have d : decide (p = "?") = false := decide_eq_false h
    rw [d, Bool.false_or]
    clear h
    cases o with
    | none =>
      replace e : F_integer_in [.str p] = some .none := e
      show _ = R.ok (PyData.bool false) _
      walk_at "evh"
    | some i =>
      replace e : F_integer_in [.str p] = some (.int i) := e
      have k2 := k2 i
      show _ = R.ok (PyData.bool true) _
      walk_at "evh"
theorem wi_e2 {x E d : D} {p : Str} (e : F_integer_in [.str p] = some d) : ce_wish_or_none_2 [.sh x, .sh E, .sh (.str p)] = .ok d [.sh x, .sh E, .sh (.str p)] := by
  unfold ce_wish_or_none_2
  walk_at "evh"
theorem wi_2 {x E : D} {Y : List D} {b : Bool} {g : GF} {G : GS} {o : O} (eg : g [.sh x, .sh E, .no] = .ok Y [.sh x, .sh E, .no]) (al : allD [.list Y] = some (.bool b)) (hG : b = true → G [.sh x, .sh E, .no] = o) (hb : b = false → o = .rt .none [.sh x, .sh E, .no]) : sSeq (sIf (tNotG (tstE (eApp allD (aCons (oE (eL g)) aNil)))) (sRet (eC .none)) sNext) G [.sh x, .sh E, .no] = o := by
  cases b with
  | true =>
    refine seq_nx (ρ1 := [.sh x, .sh E, .no]) ?_ (hG rfl)
    clear hG hb
    walk_at "evh"
  | false =>
    rw [hb rfl]
    clear hG hb
    walk_at "evh"
theorem wi_3 {x E : D} {Y : List D} {g : GF} (eg : g [.sh x, .sh E, .no] = .ok Y [.sh x, .sh E, .no]) : (sRet (eApp tupleD (aCons (oE (eL g)) aNil))) [.sh x, .sh E, .no] = .rt (.tuple Y) [.sh x, .sh E, .no] := by
  have t : tupleD [.list Y] = some (.tuple Y) := rfl
  walk_at "evh"
theorem all_boolsF {α : Type} (xs : List α) (f : α → Bool) : allD [.list (xs.map fun d => PyData.bool (f d))] = some (.bool (xs.all f)) := by
  have e : boolsOf (xs.map fun d => PyData.bool (f d)) = some (xs.map f) := by
    rw [← boolsOf_map (xs.map f), List.map_map]; rfl
  unfold allD
  dsimp only
  rw [e]
  show some (PyData.bool _) = _
  congr 2
  rw [List.all_map]
  rfl
theorem int_some (p : Str) : (intO p).isSome = isnB 2 p := by
  unfold intO
  rw [isn_02]
  cases isnB 0 p <;> rfl
theorem wish_or {x : Str} (hz : x.length ≤ 50000) : F_wish_or_none [.str x] = some (orN 2 x) := by
  have wm := wd_many x
  have hl : ((wdS x).map PyData.str).length ≤ sizeLine := by rw [List.length_map]; exact size_of (by omega)
  have ie : ∀ p ∈ wdS x, F_integer_in [.str p] = some (onD (intO p)) := fun p hp => by
    have l := wd_len hp
    rw [← int_on]
    exact integer_eq (by omega)
  have lc1 : lcL [2] (gN 2) gYes ce_wish_or_none_1 ((wdS x).map .str) [.sh (.str x), .sh (.list ((wdS x).map .str)), .no] = .ok ((wdS x).map fun p => PyData.bool (okW 2 p)) [.sh (.str x), .sh (.list ((wdS x).map .str)), .no] :=
    lc_emb1 (emb := PyData.str) (out := fun p => PyData.bool (okW 2 p)) fun p hp => ⟨_, rfl, rfl, by
      have := wi_e1 (x := .str x) (E := .list ((wdS x).map .str)) (ie p hp)
      rw [int_some] at this
      exact this⟩
  have lc2 : lcL [2] (gN 2) gYes ce_wish_or_none_2 ((wdS x).map .str) [.sh (.str x), .sh (.list ((wdS x).map .str)), .no] = .ok ((wdS x).map fun p => onD (intO p)) [.sh (.str x), .sh (.list ((wdS x).map .str)), .no] :=
    lc_emb1 (emb := PyData.str) (out := fun p => onD (intO p)) fun p hp => ⟨_, rfl, rfl, wi_e2 (ie p hp)⟩
  have al := all_boolsF (wdS x) (okW 2)
  show callP 1 3 g_wish_or_none _ = _
  refine callP_rt rfl (ρ := [.sh (.str x), .sh (.list ((wdS x).map .str)), .no]) ?_
  show g_wish_or_none [.sh (.str x), .no, .no] = _
  unfold g_wish_or_none
  refine seq_nx (wi_1 (wo_eq (by omega))) ?_
  refine wi_2 (eLc_ok wi_s hl lc1) al (fun h => ?_) fun h => ?_
  · rw [wi_3 (eLc_ok wi_s hl lc2)]
    congr 1
    unfold orN rdO
    rw [if_pos h]
    show PyData.tuple _ = PyData.tuple _
    congr 1
    rw [List.all_eq_true] at h
    refine List.map_congr_left fun p hp => ?_
    have ok := h p hp
    unfold okW at ok
    unfold valW
    by_cases q : p = "?"
    · rw [if_pos q, q]
      unfold intO
      rw [isn_q]; rfl
    · rw [decide_eq_false q, Bool.and_false, Bool.false_or, isn_02] at ok
      rw [if_neg q]
      unfold intO
      rw [if_pos ok]; rfl
  · unfold orN rdO
    rw [if_neg (by rw [h]; exact Bool.false_ne_true)]
end W
namespace W
open PySem L2 DL
local macro_rules | `(tactic| walk_at "ev") => `(tactic| simp only [eC, eV, oE, oV, eL, eT, aNil, aCons, eOp2, eOp1, eApp, tstE, eB, tNotG, tAndG, tOrG, eAndG, eOrG, eNotG, eIf, eSeq, eCall, eCallO, eCallB, eCallBF, eCallBX, sSeq, sNext, sRet, sRetF, sRetO, sRetN, sDrop, sIf, sSet, sSetO, sBreak, sCont, sBad, sPar, sPar3, fz, sFz, eCallW, idL, sApp, sPutIx, sAug, sFor, gN, gT, gsCons, gsNil, gYes, eLc, gSeq, nS, nF, Nw.sl, R.ok_bind, R.ok_map, R.lift_some, to_ok, toX_ok, toX_ex, bind_nx, bind_rt, bind_rf, bind_ex, bind_bk, bind_ct, at_ok, at_ex, res_val, map_ex, rbind_ex, Op.res, resA, valA, isOw, box0, Option.map_some, Option.bind_some, sHeardT, nlCons, nlNil, Nw.dat, mSet, eChain, eRg1, eRg2, eSl, pNo, pSo,
  List.getElem?_cons_zero, List.getElem?_cons_succ, List.set_cons_zero, List.set_cons_succ, List.length_cons, List.length_nil, if_true, if_false, Bool.false_eq_true, ite_true, ite_false, reduceIte,
  addU_int, subD_int, ltD_int, leD_int, gtD_int, geD_int, negD_int, absD_int, intD_bool, intD_int, lenD_list, lenD_tuple, lenD_scr, pow10_7, pow10_18, pow10_40, eqW_ints, neW_ints, eqW_strs, neW_strs, eqW_none, eqW_in, eqW_ni, ixD_list, ixD_tuple, ixD_scr, atI_3_0, atI_3_1, atI_3_2, ixN_3_0, ixN_3_1, ixN_3_2, wipeR, zip2D, skOf, isiD_n, isiD_b, isiD_i, isiD_s, isiD_l, isiD_t, isiTD_n, isiTD_b, isiTD_i, isiTD_s, isiTD_l, isiTD_t, isiAny, eCallX, eCallWX, xE, xIf, xL, xCb1, sSetX, sRetX, sDropX, sRaise, sTo, eMk, isX_n, sKeep, kt_ll, kt_lt, kt_ls, kt_li, kt_lb, kt_tl, kt_tt, kt_ts, kt_ti, kt_tb, kt_sl, kt_st, kt_ss, kt_si, kt_sb, kt_il, kt_it, kt_is, kt_ii, kt_ib, kt_bl, kt_bt, kt_bs, kt_bi, kt_bb, kt_nl, kt_nt, kt_ns, kt_ni, kt_nb, eqW_bools, neW_bools, isD_none, isNotD_none, isNoneD, isNone_e, List.map_cons, List.map_nil, List.replicate, List.append_nil, List.cons_append, List.nil_append, nc0, nc1, nc2, nc3, nc4, nc5, nc6, nc7, nc8, nc9, nc10, nc11, nc12, nc13, nc14, nc15, nc16, nc17, nc18, nc19, nc20, Nat.reduceAdd, Nat.reduceSub, ne_eq, decide_true, decide_false, not_true_eq_false, not_false_eq_true, reduceCtorEq, Bool.and_true, Bool.true_and, Bool.and_false, Bool.false_and, Bool.or_true, Bool.true_or, Bool.or_false, Bool.false_or, Bool.not_true, Bool.not_false, and_self, if_true, eSplit, eJoin, xIf])
local macro_rules | `(tactic| walk_at "evh") => `(tactic| simp only [eC, eV, oE, oV, eL, eT, aNil, aCons, eOp2, eOp1, eApp, tstE, eB, tNotG, tAndG, tOrG, eAndG, eOrG, eNotG, eIf, eSeq, eCall, eCallO, eCallB, eCallBF, eCallBX, sSeq, sNext, sRet, sRetF, sRetO, sRetN, sDrop, sIf, sSet, sSetO, sBreak, sCont, sBad, sPar, sPar3, fz, sFz, eCallW, idL, sApp, sPutIx, sAug, sFor, gN, gT, gsCons, gsNil, gYes, eLc, gSeq, nS, nF, Nw.sl, R.ok_bind, R.ok_map, R.lift_some, to_ok, toX_ok, toX_ex, bind_nx, bind_rt, bind_rf, bind_ex, bind_bk, bind_ct, at_ok, at_ex, res_val, map_ex, rbind_ex, Op.res, resA, valA, isOw, box0, Option.map_some, Option.bind_some, sHeardT, nlCons, nlNil, Nw.dat, mSet, eChain, eRg1, eRg2, eSl, pNo, pSo,
  List.getElem?_cons_zero, List.getElem?_cons_succ, List.set_cons_zero, List.set_cons_succ, List.length_cons, List.length_nil, if_true, if_false, Bool.false_eq_true, ite_true, ite_false, reduceIte,
  addU_int, subD_int, ltD_int, leD_int, gtD_int, geD_int, negD_int, absD_int, intD_bool, intD_int, lenD_list, lenD_tuple, lenD_scr, pow10_7, pow10_18, pow10_40, eqW_ints, neW_ints, eqW_strs, neW_strs, eqW_none, eqW_in, eqW_ni, ixD_list, ixD_tuple, ixD_scr, atI_3_0, atI_3_1, atI_3_2, ixN_3_0, ixN_3_1, ixN_3_2, wipeR, zip2D, skOf, isiD_n, isiD_b, isiD_i, isiD_s, isiD_l, isiD_t, isiTD_n, isiTD_b, isiTD_i, isiTD_s, isiTD_l, isiTD_t, isiAny, eCallX, eCallWX, xE, xIf, xL, xCb1, sSetX, sRetX, sDropX, sRaise, sTo, eMk, isX_n, sKeep, kt_ll, kt_lt, kt_ls, kt_li, kt_lb, kt_tl, kt_tt, kt_ts, kt_ti, kt_tb, kt_sl, kt_st, kt_ss, kt_si, kt_sb, kt_il, kt_it, kt_is, kt_ii, kt_ib, kt_bl, kt_bt, kt_bs, kt_bi, kt_bb, kt_nl, kt_nt, kt_ns, kt_ni, kt_nb, eqW_bools, neW_bools, isD_none, isNotD_none, isNoneD, isNone_e, List.map_cons, List.map_nil, List.replicate, List.append_nil, List.cons_append, List.nil_append, nc0, nc1, nc2, nc3, nc4, nc5, nc6, nc7, nc8, nc9, nc10, nc11, nc12, nc13, nc14, nc15, nc16, nc17, nc18, nc19, nc20, Nat.reduceAdd, Nat.reduceSub, ne_eq, decide_true, decide_false, not_true_eq_false, not_false_eq_true, reduceCtorEq, Bool.and_true, Bool.true_and, Bool.and_false, Bool.false_and, Bool.or_true, Bool.true_or, Bool.or_false, Bool.false_or, Bool.not_true, Bool.not_false, and_self, if_true, eSplit, eJoin, xIf, *])
def inR (k : Int) (x : Str) : RX D := match rdO k x with
  | some l => .ok (outD k l)
  | none => .ex "BadText" (.str x)
theorem ck_ok {v x : D} (h : isNoneD v = false) : F_checked [v, x] = .ok v := by
  have k : isD v .none = some (.bool false) := by rw [isD_none, h]
  unfold F_checked
  refine callX_rt rfl (ρ := [.sh v, .sh x]) ?_
  show g_checked [.sh v, .sh x] = _
  unfold g_checked
  refine seq_nx (ρ1 := [.sh v, .sh x]) (sIf_f (ρ1 := [.sh v, .sh x]) ?_ rfl) rfl
  show (match isD v .none with | some (.bool b) => R.ok b [.sh v, .sh x] | _ => R.bad) = _
  rw [k]
theorem ck_no {x : D} : F_checked [.none, x] = .ex "BadText" x := by
  have k : isD .none .none = some (.bool true) := by rw [isD_none]; rfl
  unfold F_checked callX g_checked env0
  walk_at "evh"
theorem orN_in {k : Int} {x : Str} : F_checked [orN k x, .str x] = inR k x := by
  unfold orN inR
  cases rdO k x with
  | none => exact ck_no
  | some l =>
    refine ck_ok ?_
    show isNoneD (outD k l) = false
    unfold outD
    split <;> rfl
theorem in_go {x d : D} {r : RX D} {F : List D → Option D} (e : F [x] = some d) (c : F_checked [d, x] = r) : callX 1 1 (sRetX (eCallX F_checked (aCons (oE (eCall F (aCons (oE (eV 0)) aNil))) (aCons (oE (eV 0)) aNil)))) [x] = r := by
  cases r with
  | ok v =>
    unfold callX env0
    walk_at "evh"
  | ex c v =>
    unfold callX env0
    walk_at "evh"
  | bad =>
    unfold callX env0
    walk_at "evh"
    rfl
theorem rowin_eq {x : Str} (hz : x.length ≤ 50000) : F_row_in [.str x] = inR 0 x := in_go (row_or hz) orN_in
theorem callsin_eq {x : Str} (hz : x.length ≤ 50000) : F_calls_in [.str x] = inR 1 x := in_go (calls_or hz) orN_in
theorem wishin_eq {x : Str} (hz : x.length ≤ 50000) : F_wish_in [.str x] = inR 2 x := in_go (wish_or hz) orN_in
end W
namespace W
open PySem L2 DL
local macro_rules | `(tactic| walk_at "ev") => `(tactic| simp only [eC, eV, oE, oV, eL, eT, aNil, aCons, eOp2, eOp1, eApp, tstE, eB, tNotG, tAndG, tOrG, eAndG, eOrG, eNotG, eIf, eSeq, eCall, eCallO, eCallB, eCallBF, eCallBX, sSeq, sNext, sRet, sRetF, sRetO, sRetN, sDrop, sIf, sSet, sSetO, sBreak, sCont, sBad, sPar, sPar3, fz, sFz, eCallW, idL, sApp, sPutIx, sAug, sFor, gN, gT, gsCons, gsNil, gYes, eLc, gSeq, nS, nF, Nw.sl, R.ok_bind, R.ok_map, R.lift_some, to_ok, toX_ok, toX_ex, bind_nx, bind_rt, bind_rf, bind_ex, bind_bk, bind_ct, at_ok, at_ex, res_val, map_ex, rbind_ex, Op.res, resA, valA, isOw, box0, Option.map_some, Option.bind_some, sHeardT, nlCons, nlNil, Nw.dat, mSet, eChain, eRg1, eRg2, eSl, pNo, pSo,
  List.getElem?_cons_zero, List.getElem?_cons_succ, List.set_cons_zero, List.set_cons_succ, List.length_cons, List.length_nil, if_true, if_false, Bool.false_eq_true, ite_true, ite_false, reduceIte,
  addU_int, subD_int, ltD_int, leD_int, gtD_int, geD_int, negD_int, absD_int, intD_bool, intD_int, lenD_list, lenD_tuple, lenD_scr, pow10_7, pow10_18, pow10_40, eqW_ints, neW_ints, eqW_strs, neW_strs, eqW_none, eqW_in, eqW_ni, ixD_list, ixD_tuple, ixD_scr, atI_3_0, atI_3_1, atI_3_2, ixN_3_0, ixN_3_1, ixN_3_2, wipeR, zip2D, skOf, isiD_n, isiD_b, isiD_i, isiD_s, isiD_l, isiD_t, isiTD_n, isiTD_b, isiTD_i, isiTD_s, isiTD_l, isiTD_t, isiAny, eCallX, eCallWX, xE, xIf, xL, xCb1, sSetX, sRetX, sDropX, sRaise, sTo, eMk, isX_n, sKeep, kt_ll, kt_lt, kt_ls, kt_li, kt_lb, kt_tl, kt_tt, kt_ts, kt_ti, kt_tb, kt_sl, kt_st, kt_ss, kt_si, kt_sb, kt_il, kt_it, kt_is, kt_ii, kt_ib, kt_bl, kt_bt, kt_bs, kt_bi, kt_bb, kt_nl, kt_nt, kt_ns, kt_ni, kt_nb, eqW_bools, neW_bools, isD_none, isNotD_none, isNoneD, isNone_e, List.map_cons, List.map_nil, List.replicate, List.append_nil, List.cons_append, List.nil_append, nc0, nc1, nc2, nc3, nc4, nc5, nc6, nc7, nc8, nc9, nc10, nc11, nc12, nc13, nc14, nc15, nc16, nc17, nc18, nc19, nc20, Nat.reduceAdd, Nat.reduceSub, ne_eq, decide_true, decide_false, not_true_eq_false, not_false_eq_true, reduceCtorEq, Bool.and_true, Bool.true_and, Bool.and_false, Bool.false_and, Bool.or_true, Bool.true_or, Bool.or_false, Bool.false_or, Bool.not_true, Bool.not_false, and_self, if_true, eSplit, eJoin, xIf])
local macro_rules | `(tactic| walk_at "evh") => `(tactic| simp only [eC, eV, oE, oV, eL, eT, aNil, aCons, eOp2, eOp1, eApp, tstE, eB, tNotG, tAndG, tOrG, eAndG, eOrG, eNotG, eIf, eSeq, eCall, eCallO, eCallB, eCallBF, eCallBX, sSeq, sNext, sRet, sRetF, sRetO, sRetN, sDrop, sIf, sSet, sSetO, sBreak, sCont, sBad, sPar, sPar3, fz, sFz, eCallW, idL, sApp, sPutIx, sAug, sFor, gN, gT, gsCons, gsNil, gYes, eLc, gSeq, nS, nF, Nw.sl, R.ok_bind, R.ok_map, R.lift_some, to_ok, toX_ok, toX_ex, bind_nx, bind_rt, bind_rf, bind_ex, bind_bk, bind_ct, at_ok, at_ex, res_val, map_ex, rbind_ex, Op.res, resA, valA, isOw, box0, Option.map_some, Option.bind_some, sHeardT, nlCons, nlNil, Nw.dat, mSet, eChain, eRg1, eRg2, eSl, pNo, pSo,
  List.getElem?_cons_zero, List.getElem?_cons_succ, List.set_cons_zero, List.set_cons_succ, List.length_cons, List.length_nil, if_true, if_false, Bool.false_eq_true, ite_true, ite_false, reduceIte,
  addU_int, subD_int, ltD_int, leD_int, gtD_int, geD_int, negD_int, absD_int, intD_bool, intD_int, lenD_list, lenD_tuple, lenD_scr, pow10_7, pow10_18, pow10_40, eqW_ints, neW_ints, eqW_strs, neW_strs, eqW_none, eqW_in, eqW_ni, ixD_list, ixD_tuple, ixD_scr, atI_3_0, atI_3_1, atI_3_2, ixN_3_0, ixN_3_1, ixN_3_2, wipeR, zip2D, skOf, isiD_n, isiD_b, isiD_i, isiD_s, isiD_l, isiD_t, isiTD_n, isiTD_b, isiTD_i, isiTD_s, isiTD_l, isiTD_t, isiAny, eCallX, eCallWX, xE, xIf, xL, xCb1, sSetX, sRetX, sDropX, sRaise, sTo, eMk, isX_n, sKeep, kt_ll, kt_lt, kt_ls, kt_li, kt_lb, kt_tl, kt_tt, kt_ts, kt_ti, kt_tb, kt_sl, kt_st, kt_ss, kt_si, kt_sb, kt_il, kt_it, kt_is, kt_ii, kt_ib, kt_bl, kt_bt, kt_bs, kt_bi, kt_bb, kt_nl, kt_nt, kt_ns, kt_ni, kt_nb, eqW_bools, neW_bools, isD_none, isNotD_none, isNoneD, isNone_e, List.map_cons, List.map_nil, List.replicate, List.append_nil, List.cons_append, List.nil_append, nc0, nc1, nc2, nc3, nc4, nc5, nc6, nc7, nc8, nc9, nc10, nc11, nc12, nc13, nc14, nc15, nc16, nc17, nc18, nc19, nc20, Nat.reduceAdd, Nat.reduceSub, ne_eq, decide_true, decide_false, not_true_eq_false, not_false_eq_true, reduceCtorEq, Bool.and_true, Bool.true_and, Bool.and_false, Bool.false_and, Bool.or_true, Bool.true_or, Bool.or_false, Bool.false_or, Bool.not_true, Bool.not_false, and_self, if_true, eSplit, eJoin, xIf, *])
def wS : Option Int → Str
  | some i => toString i
  | none => "?"
def txO (os : List (Option Int)) : Str := if os = [] then "-" else Txt.join " " (os.map wS)
theorem tl_nat (n : Nat) : (toString ((n : Nat) : Int) : Str).cps.toList = TL.numL n := TL.tl_num n
theorem tl_neg {n : Nat} (h : 0 < n) : (toString (-(n : Int)) : Str).cps.toList = 45 :: TL.numL n := by
  obtain ⟨m, rfl⟩ : ∃ m, n = m + 1 := ⟨n - 1, by omega⟩
  have e : toString (-((m + 1 : Nat) : Int)) = "-" ++ toString (((m + 1 : Nat) : Int)) := rfl
  rw [e, Str.ofString_eq_toList, String.toList_append, List.map_append]
  have t := tl_nat (m + 1)
  rw [Str.ofString_eq_toList] at t
  have t : ((toString (((m + 1 : Nat) : Int))).toList.map Char.toNat) = TL.numL (m + 1) := t
  show (("-" : String).toList.map Char.toNat ++ _) = _
  rw [t]; rfl
theorem num_head : ∀ (n : Nat), 0 < n → ∃ c r, TL.numL n = c :: r ∧ 49 ≤ c := fun n => by
  induction n using Nat.strongRecOn with
  | ind n ih =>
    intro h
    by_cases k : n < 10
    · exact ⟨48 + n, [], TL.numL_lt k, by omega⟩
    · obtain ⟨c, r, e, hc⟩ := ih (n / 10) (by omega) (by omega)
      exact ⟨c, r ++ [48 + n % 10], by rw [TL.numL_step (by omega), e]; rfl, hc⟩
theorem numB_nat {q : Str} {n : Nat} (h : q.cps.toList = TL.numL n) (hn : n < 10 ^ 50) : numB q = true := by
  have l := len_list q
  rw [h] at l
  have l1 := TL.numL_len (k := 50) (by decide) hn
  have l2 : 0 < (TL.numL n).length := List.length_pos_iff.mpr (TL.numL_ne n)
  rw [num_dec]
  refine ⟨⟨by omega, by omega⟩, digs_iff.mpr (by rw [h]; exact TL.numL_digits n), ?_⟩
  by_cases z : n = 0
  · refine .inl (str_ext ?_)
    rw [h, z, zero_list, TL.numL_lt (by decide)]
  · obtain ⟨c, r, e, hc⟩ := num_head n (by omega)
    refine .inr fun y => ?_
    unfold headS at y
    rw [h, e] at y
    have y2 : (⟨#[c]⟩ : Str).cps.toList = ("0" : Str).cps.toList := by
      have y : (⟨#[c]⟩ : Str) = "0" := y
      rw [y]
    rw [zero_list] at y2
    injection y2 with y3
    omega
theorem valI_nat {n : Nat} (hn : n < 10 ^ 50) : valI (toString ((n : Nat) : Int)) = (n : Int) := by
  have b := numB_nat (tl_nat n) hn
  have v : dvN (TL.numL n) = n := TL.numL_val n
  rw [num_val b, tl_nat, v]
theorem fst_nat (n : Nat) : fstS (toString ((n : Nat) : Int)) ≠ "-" := fun z => by
  have e := fst_minus z
  rw [tl_nat] at e
  have := TL.numL_digits n 45 (by rw [e]; exact List.mem_cons_self ..)
  omega
theorem fst_neg {n : Nat} (h : 0 < n) : fstS (toString (-(n : Int))) = "-" := str_ext (by
  rw [fst_list, tl_neg h, minus_list]; rfl)
theorem rst_neg {n : Nat} (h : 0 < n) : (rstS (toString (-(n : Int)))).cps.toList = TL.numL n := by
  rw [rst_list, tl_neg h]; rfl
theorem isn_nat {k : Int} {n : Nat} (hn : n < 10 ^ 50) : isnB k (toString ((n : Nat) : Int)) = true := by
  unfold isnB
  rw [if_neg fun z => fst_nat n z.2]
  exact numB_nat (tl_nat n) hn
theorem isn_neg {k : Int} {n : Nat} (hk : k ≠ 1) (h : 0 < n) (hn : n < 10 ^ 50) : isnB k (toString (-(n : Int))) = true := by
  unfold isnB
  rw [if_pos ⟨hk, fst_neg h⟩, numB_nat (rst_neg h) hn, Bool.and_true, decide_eq_false]
  · rfl
  · intro z
    have y := (minus_zero (fst_neg h)).mp z
    have e := rst_neg h
    rw [y, zero_list] at e
    have v := TL.numL_val n
    rw [← e] at v
    have v : 0 = n := v
    omega
theorem valI_neg {n : Nat} (h : 0 < n) (hn : n < 10 ^ 50) : valI (toString (-(n : Int))) = -(n : Int) := by
  have v : dvN (TL.numL n) = n := TL.numL_val n
  rw [minus_val (fst_neg h) (numB_nat (rst_neg h) hn), rst_neg h, v]
theorem valI_int {i : Int} (h : i.natAbs < 10 ^ 50) : valI (toString i) = i := by
  rcases (by omega : i < 0 ∨ 0 ≤ i) with z | z
  · have e : i = -((i.natAbs : Nat) : Int) := by omega
    rw [e]
    exact valI_neg (by omega) (by omega)
  · have e : i = ((i.natAbs : Nat) : Int) := by omega
    rw [e]
    exact valI_nat (by omega)
theorem isn_int {k : Int} {i : Int} (hk : k = 1 → 0 ≤ i) (h : i.natAbs < 10 ^ 50) : isnB k (toString i) = true := by
  rcases (by omega : i < 0 ∨ 0 ≤ i) with z | z
  · have e : i = -((i.natAbs : Nat) : Int) := by omega
    rw [e]
    exact isn_neg (fun y => by have := hk y; omega) (by omega) (by omega)
  · have e : i = ((i.natAbs : Nat) : Int) := by omega
    rw [e]
    exact isn_nat (by omega)
/-- what may stand in a text of a kind -/
def OkO (k : Int) : Option Int → Prop
  | some i => (k = 1 → 0 ≤ i) ∧ i.natAbs < 10 ^ 50
  | none => k = 2
theorem ok_wS {k : Int} {o : Option Int} (h : OkO k o) : okW k (wS o) = true ∧ valW (wS o) = onD o := by
  cases o with
  | none =>
    have h : k = 2 := h
    subst h
    exact ⟨by unfold okW; rw [decide_eq_true rfl, decide_eq_true (show wS none = "?" from rfl)]; rfl, if_pos rfl⟩
  | some i =>
    have h : (k = 1 → 0 ≤ i) ∧ i.natAbs < 10 ^ 50 := h
    have e := isn_int h.1 h.2
    refine ⟨by unfold okW; rw [show isnB k (wS (some i)) = true from e, Bool.or_true], ?_⟩
    show valW (toString i) = _
    rw [val_isn e, valI_int h.2]; rfl
theorem wS_free (o : Option Int) : 32 ∉ (wS o).cps.toList := by
  cases o with
  | none =>
    have q : ("?" : Str).cps.toList = [63] := by decide +kernel
    show 32 ∉ ("?" : Str).cps.toList
    rw [q]; decide
  | some i =>
    show 32 ∉ (toString i : Str).cps.toList
    rcases (by omega : i < 0 ∨ 0 ≤ i) with y | y
    · have e : i = -((i.natAbs : Nat) : Int) := by omega
      have t := tl_neg (n := i.natAbs) (by omega)
      rw [← e] at t
      rw [t]
      intro z
      rcases List.mem_cons.mp z with z | z
      · omega
      · exact TL.numL_free (by omega) z
    · have e : i = ((i.natAbs : Nat) : Int) := by omega
      have t := tl_nat i.natAbs
      rw [← e] at t
      rw [t]
      exact TL.numL_free (by omega)
theorem wS_minus (o : Option Int) : (wS o).cps.toList ≠ [45] := fun z => by
  cases o with
  | none =>
    have q : ("?" : Str).cps.toList = [63] := by decide +kernel
    have z : ("?" : Str).cps.toList = [45] := z
    rw [q] at z
    injection z with z; omega
  | some i =>
    have z : (toString i : Str).cps.toList = [45] := z
    rcases (by omega : i < 0 ∨ 0 ≤ i) with y | y
    · have e : i = -((i.natAbs : Nat) : Int) := by omega
      have t := tl_neg (n := i.natAbs) (by omega)
      rw [← e, z] at t
      injection t with _ t
      exact TL.numL_ne _ t.symm
    · have e : i = ((i.natAbs : Nat) : Int) := by omega
      have t := tl_nat i.natAbs
      rw [← e, z] at t
      have := TL.numL_digits i.natAbs 45 (by rw [← t]; exact List.mem_cons_self ..)
      omega
theorem blank_list : (" " : Str).cps.toList = [32] := by decide +kernel
theorem kind_ge (x : Str) : ¬ Builtin.Str.strKind x < Builtin.Str.strKind " " := by
  have e : Builtin.Str.strKind " " = 1 := by decide +kernel
  rw [e]
  unfold Builtin.Str.strKind
  split <;> (try split) <;> (try split) <;> omega
theorem split_join {ws : List Str} (hne : ws ≠ []) (hf : ∀ w ∈ ws, 32 ∉ w.cps.toList) : Txt.split (Txt.join " " ws) " " = ws := by
  refine TL.map_tl_inj ?_
  rw [TL.split_spl _ _ (by show (" " : Str).cps.toList ≠ []; rw [blank_list]; exact fun z => nomatch z) (kind_ge _)]
  have j : TL.tl (Txt.join " " ws) = TL.joinL [32] (ws.map TL.tl) := by
    show TL.tl (Builtin.Str.glued " " ws) = _
    rw [PySem.StrLaws.glued_eq_join, TL.tl_join, show TL.tl " " = [32] from blank_list]
  rw [j, show TL.tl " " = [32] from blank_list]
  refine TL.spl_join (fun z => hne (List.map_eq_nil_iff.mp z)) fun p hp => ?_
  obtain ⟨w, hw, rfl⟩ := List.mem_map.mp hp
  exact hf w hw
theorem join_minus {ws : List Str} (hne : ws ≠ []) (hf : ∀ w ∈ ws, 32 ∉ w.cps.toList) (hm : ∀ w ∈ ws, w.cps.toList ≠ [45]) : Txt.join " " ws ≠ "-" := fun z => by
  have s := split_join hne hf
  rw [z] at s
  have s2 := split_join (ws := ["-"]) (fun y => nomatch y) (fun w hw => by rw [List.mem_singleton.mp hw, minus_list]; decide)
  have j1 : Txt.join " " ["-"] = "-" := by decide +kernel
  rw [j1, s] at s2
  exact hm "-" (by rw [s2]; exact List.mem_singleton.mpr rfl) minus_list
theorem wd_tx (os : List (Option Int)) : wdS (txO os) = os.map wS := by
  unfold txO
  by_cases h : os = []
  · rw [if_pos h, h]
    exact if_pos rfl
  · rw [if_neg h]
    have hne : os.map wS ≠ [] := fun z => h (List.map_eq_nil_iff.mp z)
    have hf : ∀ w ∈ os.map wS, 32 ∉ w.cps.toList := fun w hw => by
      obtain ⟨o, _, rfl⟩ := List.mem_map.mp hw
      exact wS_free o
    unfold wdS
    rw [if_neg (join_minus hne hf fun w hw => by
      obtain ⟨o, _, rfl⟩ := List.mem_map.mp hw
      exact wS_minus o), split_join hne hf]
theorem rd_tx {k : Int} {os : List (Option Int)} (h : ∀ o ∈ os, OkO k o) : rdO k (txO os) = some (os.map onD) := by
  unfold rdO
  rw [wd_tx, if_pos (List.all_eq_true.mpr fun w hw => by
    obtain ⟨o, ho, rfl⟩ := List.mem_map.mp hw
    exact (ok_wS (h o ho)).1), List.map_map]
  congr 1
  exact List.map_congr_left fun o ho => (ok_wS (h o ho)).2
theorem str_of {i : Int} (h : i.natAbs < 10 ^ 50) : strD [.int i] = some (.str (toString i)) := if_pos (log_B (B := 10 ^ 50) (by decide) (by omega))
theorem wS_len {o : Option Int} {k : Int} (h : OkO k o) : (wS o).length ≤ 71 := by
  cases o with
  | none => show ("?" : Str).length ≤ 71; decide +kernel
  | some i =>
    have h : (k = 1 → 0 ≤ i) ∧ i.natAbs < 10 ^ 50 := h
    have := PySem.int_text_length_le10 (k := 70) (by decide) (Nat.lt_trans h.2 (by decide))
    show (toString i : Str).length ≤ 71
    rw [show (Str.ofString (toString i)).length = (toString i).length from PySem.ofString_length _]
    exact this
theorem sum_len : ∀ {ys : List Str}, (∀ y ∈ ys, y.length ≤ 71) → (ys.map (·.length)).sum ≤ ys.length * 71
  | [], _ => Nat.le_refl _
  | y :: ys, h => by
    have a := h y (List.mem_cons_self ..)
    have b := sum_len fun z hz => h z (List.mem_cons_of_mem _ hz)
    rw [List.map_cons, List.sum_cons, List.length_cons]
    omega
theorem jn_eq {ys : List Str} (h : ∀ y ∈ ys, y.length ≤ 71) (hl : ys.length ≤ 100) : joinS (.str " ") (.list (ys.map .str)) = some (.str (Txt.join " " ys)) ∧ (Txt.join " " ys).length ≤ 8000 := by
  have s := sum_len h
  have b1 : (" " : Str).length = 1 := by decide +kernel
  have j : (Txt.join " " ys).length ≤ (ys.map (·.length)).sum + ys.length * (" " : Str).length := by
    show (Builtin.Str.glued " " ys).length ≤ _
    rw [PySem.StrLaws.glued_eq_join]
    exact PySem.StrLaws.join_length_le " " ys
  rw [b1] at j
  refine ⟨?_, by omega⟩
  show (strsOf (ys.map .str)).bind _ = _
  rw [strsOf_map]
  show (if (ys.map (·.length)).sum + ys.length * (" " : Str).length ≤ 16777216 then _ else none) = _
  rw [if_pos (by rw [b1]; omega)]
theorem tx_len {k : Int} {os : List (Option Int)} (h : ∀ o ∈ os, OkO k o) (hl : os.length ≤ 100) : (txO os).length ≤ 8000 := by
  unfold txO
  split
  · decide +kernel
  · exact (jn_eq (fun y hy => by
      obtain ⟨o, ho, rfl⟩ := List.mem_map.mp hy
      exact wS_len (h o ho)) (by rw [List.length_map]; exact hl)).2
theorem jt_go {ds : List D} {n : Int} {t : D} (ln : lenD [.list ds] = some (.int n)) (b : Bool) (d : decide (0 < n) = b) (jn : b = true → joinS (.str " ") (.list ds) = some t) (h : b = false → t = .str "-") : F_joined_text [.list ds] = some t := by
  unfold F_joined_text callP g_joined_text env0
  cases b with
  | true =>
    have jn := jn rfl
    clear h
    walk_at "evh"
  | false =>
    rw [h rfl]
    clear jn h
    walk_at "evh"
theorem joined_eq {k : Int} {os : List (Option Int)} (h : ∀ o ∈ os, OkO k o) (hl : os.length ≤ 100) : F_joined_text [.list ((os.map wS).map .str)] = some (.str (txO os)) := by
  have jn := (jn_eq (ys := os.map wS) (fun y hy => by
    obtain ⟨o, ho, rfl⟩ := List.mem_map.mp hy
    exact wS_len (h o ho)) (by rw [List.length_map]; exact hl)).1
  refine jt_go (by rw [lenD_list, List.length_map, List.length_map]) (decide ((0 : Int) < (os.length : Nat))) rfl (fun b => ?_) fun b => ?_
  · have : os ≠ [] := fun z => by rw [z] at b; exact absurd b (by decide)
    unfold txO
    rw [if_neg this]
    exact jn
  · have : os = [] := by
      have := of_decide_eq_false b
      exact List.eq_nil_of_length_eq_zero (by omega)
    unfold txO
    rw [if_pos this]
theorem nt_e {s0 t : D} {i : Int} (e : strD [.int i] = some t) : ce_numbers_text_1 [.sh s0, .sh (.int i)] = .ok t [.sh s0, .sh (.int i)] := by
  unfold ce_numbers_text_1
  walk_at "evh"
theorem nt_go {r t : D} {E Y : List D} (it : itemsD r = some E) (hz : E.length ≤ sizeLine) (lc : lcL [1] (gN 1) gYes ce_numbers_text_1 E [.sh r, .no] = .ok Y [.sh r, .no]) (e : F_joined_text [.list Y] = some t) : F_numbers_text [r] = some t := by
  unfold F_numbers_text callP g_numbers_text env0
  walk_at "evh"
theorem numbers_eq {k : Int} {r : D} {ns : List Int} (hr : Sq r (ns.map .int)) (h : ∀ i ∈ ns, i.natAbs < 10 ^ 50) (hl : ns.length ≤ 100) : F_numbers_text [r] = some (.str (txO (ns.map some))) := by
  have lc : lcL [1] (gN 1) gYes ce_numbers_text_1 (ns.map .int) [.sh r, .no] = .ok (((ns.map some).map wS).map .str) [.sh r, .no] := by
    rw [List.map_map, List.map_map]
    exact lc_emb1 (emb := PyData.int) fun i hi => ⟨_, rfl, rfl, nt_e (str_of (h i hi))⟩
  exact nt_go hr.items (by rw [List.length_map]; exact size_of (by omega)) lc (joined_eq (k := 0) (fun o ho => by
    obtain ⟨i, hi, rfl⟩ := List.mem_map.mp ho
    exact ⟨fun z => absurd z (by decide), h i hi⟩) (by rw [List.length_map]; exact hl))
theorem rowt_eq {r : D} {ns : List Int} (hr : Sq r (ns.map .int)) (h : ∀ i ∈ ns, i.natAbs < 10 ^ 50) (hl : ns.length ≤ 100) : F_row_text [r] = some (.str (txO (ns.map some))) := by
  have e := numbers_eq (k := 0) hr h hl
  unfold F_row_text callP g_row_text env0
  clear h hl hr
  walk_at "evh"
theorem callst_eq {r : D} {ns : List Int} (hr : Sq r (ns.map .int)) (h : ∀ i ∈ ns, i.natAbs < 10 ^ 50) (hl : ns.length ≤ 100) : F_calls_text [r] = some (.str (txO (ns.map some))) := by
  have e := numbers_eq (k := 0) hr h hl
  unfold F_calls_text callP g_calls_text env0
  clear h hl hr
  walk_at "evh"
theorem wt_e {s0 : D} {o : Option Int} (h : ∀ i, o = some i → strD [.int i] = some (.str (toString i))) : ce_wish_text_1 [.sh s0, .sh (onD o)] = .ok (.str (wS o)) [.sh s0, .sh (onD o)] := by
  unfold ce_wish_text_1
  cases o with
  | none =>
    have k : isD .none .none = some (.bool true) := by rw [isD_none]; rfl
    clear h
    rw [show onD none = PyData.none from rfl, show wS none = "?" from rfl]
    walk_at "evh"
  | some i =>
    have k : isD (.int i) .none = some (.bool false) := by rw [isD_none]; rfl
    have h := h i rfl
    rw [show onD (some i) = PyData.int i from rfl, show wS (some i) = toString i from rfl]
    walk_at "evh"
theorem wt_go {r t : D} {E Y : List D} (it : itemsD r = some E) (hz : E.length ≤ sizeLine) (lc : lcL [1] (gN 1) gYes ce_wish_text_1 E [.sh r, .no] = .ok Y [.sh r, .no]) (e : F_joined_text [.list Y] = some t) : F_wish_text [r] = some t := by
  unfold F_wish_text callP g_wish_text env0
  walk_at "evh"
theorem wisht_eq {r : D} {os : List (Option Int)} (hr : Sq r (os.map onD)) (h : ∀ o ∈ os, OkO 2 o) (hl : os.length ≤ 100) : F_wish_text [r] = some (.str (txO os)) := by
  have lc : lcL [1] (gN 1) gYes ce_wish_text_1 (os.map onD) [.sh r, .no] = .ok ((os.map wS).map .str) [.sh r, .no] := by
    rw [List.map_map]
    exact lc_emb1 (emb := onD) fun o ho => ⟨_, rfl, rfl, wt_e fun i e => str_of (by
      have := h o ho
      rw [e] at this
      exact this.2)⟩
  exact wt_go hr.items (by rw [List.length_map]; exact size_of (by omega)) lc (joined_eq (k := 2) h hl)
end W
namespace W
open PySem L2 DL
theorem pow10_39 : powD (.int 10) (.int 39) = some (.int 1000000000000000000000000000000000000000) := rfl
theorem pow10_9 : powD (.int 10) (.int 9) = some (.int 1000000000) := rfl
local macro_rules | `(tactic| walk_at "ev") => `(tactic| simp only [eC, eV, oE, oV, eL, eT, aNil, aCons, eOp2, eOp1, eApp, tstE, eB, tNotG, tAndG, tOrG, eAndG, eOrG, eNotG, eIf, eSeq, eCall, eCallO, eCallB, eCallBF, eCallBX, sSeq, sNext, sRet, sRetF, sRetO, sRetN, sDrop, sIf, sSet, sSetO, sBreak, sCont, sBad, sPar, sPar3, fz, sFz, eCallW, idL, sApp, sPutIx, sAug, sFor, gN, gT, gsCons, gsNil, gYes, eLc, gSeq, nS, nF, Nw.sl, R.ok_bind, R.ok_map, R.lift_some, to_ok, toX_ok, toX_ex, bind_nx, bind_rt, bind_rf, bind_ex, bind_bk, bind_ct, at_ok, at_ex, res_val, map_ex, rbind_ex, Op.res, resA, valA, isOw, box0, Option.map_some, Option.bind_some, sHeardT, nlCons, nlNil, Nw.dat, mSet, eChain, eRg1, eRg2, eSl, pNo, pSo,
  List.getElem?_cons_zero, List.getElem?_cons_succ, List.set_cons_zero, List.set_cons_succ, List.length_cons, List.length_nil, if_true, if_false, Bool.false_eq_true, ite_true, ite_false, reduceIte,
  addU_int, subD_int, ltD_int, leD_int, gtD_int, geD_int, negD_int, absD_int, intD_bool, intD_int, lenD_list, lenD_tuple, lenD_scr, pow10_7, pow10_18, pow10_40, eqW_ints, neW_ints, eqW_strs, neW_strs, eqW_none, eqW_in, eqW_ni, ixD_list, ixD_tuple, ixD_scr, atI_3_0, atI_3_1, atI_3_2, ixN_3_0, ixN_3_1, ixN_3_2, wipeR, zip2D, skOf, isiD_n, isiD_b, isiD_i, isiD_s, isiD_l, isiD_t, isiTD_n, isiTD_b, isiTD_i, isiTD_s, isiTD_l, isiTD_t, isiAny, eCallX, eCallWX, xE, xIf, xL, xCb1, sSetX, sRetX, sDropX, sRaise, sTo, eMk, isX_n, sKeep, kt_ll, kt_lt, kt_ls, kt_li, kt_lb, kt_tl, kt_tt, kt_ts, kt_ti, kt_tb, kt_sl, kt_st, kt_ss, kt_si, kt_sb, kt_il, kt_it, kt_is, kt_ii, kt_ib, kt_bl, kt_bt, kt_bs, kt_bi, kt_bb, kt_nl, kt_nt, kt_ns, kt_ni, kt_nb, eqW_bools, neW_bools, isD_none, isNotD_none, isNoneD, isNone_e, List.map_cons, List.map_nil, List.replicate, List.append_nil, List.cons_append, List.nil_append, nc0, nc1, nc2, nc3, nc4, nc5, nc6, nc7, nc8, nc9, nc10, nc11, nc12, nc13, nc14, nc15, nc16, nc17, nc18, nc19, nc20, Nat.reduceAdd, Nat.reduceSub, ne_eq, decide_true, decide_false, not_true_eq_false, not_false_eq_true, reduceCtorEq, Bool.and_true, Bool.true_and, Bool.and_false, Bool.false_and, Bool.or_true, Bool.true_or, Bool.or_false, Bool.false_or, Bool.not_true, Bool.not_false, and_self, if_true, eSplit, eJoin, xIf, pow10_39, pow10_9, sPar, eCallWX, idL])
local macro_rules | `(tactic| walk_at "evh") => `(tactic| simp only [eC, eV, oE, oV, eL, eT, aNil, aCons, eOp2, eOp1, eApp, tstE, eB, tNotG, tAndG, tOrG, eAndG, eOrG, eNotG, eIf, eSeq, eCall, eCallO, eCallB, eCallBF, eCallBX, sSeq, sNext, sRet, sRetF, sRetO, sRetN, sDrop, sIf, sSet, sSetO, sBreak, sCont, sBad, sPar, sPar3, fz, sFz, eCallW, idL, sApp, sPutIx, sAug, sFor, gN, gT, gsCons, gsNil, gYes, eLc, gSeq, nS, nF, Nw.sl, R.ok_bind, R.ok_map, R.lift_some, to_ok, toX_ok, toX_ex, bind_nx, bind_rt, bind_rf, bind_ex, bind_bk, bind_ct, at_ok, at_ex, res_val, map_ex, rbind_ex, Op.res, resA, valA, isOw, box0, Option.map_some, Option.bind_some, sHeardT, nlCons, nlNil, Nw.dat, mSet, eChain, eRg1, eRg2, eSl, pNo, pSo,
  List.getElem?_cons_zero, List.getElem?_cons_succ, List.set_cons_zero, List.set_cons_succ, List.length_cons, List.length_nil, if_true, if_false, Bool.false_eq_true, ite_true, ite_false, reduceIte,
  addU_int, subD_int, ltD_int, leD_int, gtD_int, geD_int, negD_int, absD_int, intD_bool, intD_int, lenD_list, lenD_tuple, lenD_scr, pow10_7, pow10_18, pow10_40, eqW_ints, neW_ints, eqW_strs, neW_strs, eqW_none, eqW_in, eqW_ni, ixD_list, ixD_tuple, ixD_scr, atI_3_0, atI_3_1, atI_3_2, ixN_3_0, ixN_3_1, ixN_3_2, wipeR, zip2D, skOf, isiD_n, isiD_b, isiD_i, isiD_s, isiD_l, isiD_t, isiTD_n, isiTD_b, isiTD_i, isiTD_s, isiTD_l, isiTD_t, isiAny, eCallX, eCallWX, xE, xIf, xL, xCb1, sSetX, sRetX, sDropX, sRaise, sTo, eMk, isX_n, sKeep, kt_ll, kt_lt, kt_ls, kt_li, kt_lb, kt_tl, kt_tt, kt_ts, kt_ti, kt_tb, kt_sl, kt_st, kt_ss, kt_si, kt_sb, kt_il, kt_it, kt_is, kt_ii, kt_ib, kt_bl, kt_bt, kt_bs, kt_bi, kt_bb, kt_nl, kt_nt, kt_ns, kt_ni, kt_nb, eqW_bools, neW_bools, isD_none, isNotD_none, isNoneD, isNone_e, List.map_cons, List.map_nil, List.replicate, List.append_nil, List.cons_append, List.nil_append, nc0, nc1, nc2, nc3, nc4, nc5, nc6, nc7, nc8, nc9, nc10, nc11, nc12, nc13, nc14, nc15, nc16, nc17, nc18, nc19, nc20, Nat.reduceAdd, Nat.reduceSub, ne_eq, decide_true, decide_false, not_true_eq_false, not_false_eq_true, reduceCtorEq, Bool.and_true, Bool.true_and, Bool.and_false, Bool.false_and, Bool.or_true, Bool.true_or, Bool.or_false, Bool.false_or, Bool.not_true, Bool.not_false, and_self, if_true, eSplit, eJoin, xIf, pow10_39, pow10_9, sPar, eCallWX, idL, *])
theorem strOk_of {x : Str} (h : ∀ c ∈ x.cps.toList, c < 0x110000) : PyData.strOk x = true := by
  unfold PyData.strOk
  rw [← Array.all_toList, List.all_eq_true]
  exact fun c hc => decide_eq_true (h c hc)
theorem wS_ok (o : Option Int) : PyData.strOk (wS o) = true := strOk_of (by
  cases o with
  | none =>
    have q : ("?" : Str).cps.toList = [63] := by decide +kernel
    show ∀ c ∈ ("?" : Str).cps.toList, c < 0x110000
    rw [q]
    intro c hc
    rw [List.mem_singleton.mp hc]; decide
  | some i =>
    show ∀ c ∈ (toString i : Str).cps.toList, c < 0x110000
    intro c hc
    rcases (by omega : i < 0 ∨ 0 ≤ i) with y | y
    · have e : i = -((i.natAbs : Nat) : Int) := by omega
      have t := tl_neg (n := i.natAbs) (by omega)
      rw [← e] at t
      rw [t] at hc
      rcases List.mem_cons.mp hc with z | z
      · omega
      · have := TL.numL_digits i.natAbs c z
        omega
    · have e : i = ((i.natAbs : Nat) : Int) := by omega
      have t := tl_nat i.natAbs
      rw [← e] at t
      rw [t] at hc
      have := TL.numL_digits i.natAbs c hc
      omega)
theorem canLay_strs : ∀ ws : List Str, (∀ w ∈ ws, PyData.strOk w = true) → PyData.canLayAll0 (ws.map .str) = true
  | [], _ => by simp [PyData.canLayAll0]
  | w :: ws, h => by
    have a := h w (List.mem_cons_self ..)
    have b := canLay_strs ws fun z hz => h z (List.mem_cons_of_mem _ hz)
    simp [PyData.canLayAll0, PyData.canLay0, a, b]
theorem depth_strs : ∀ ws : List Str, PyData.depthAll (ws.map .str) = 0
  | [] => by simp [PyData.depthAll]
  | w :: ws => by simp [PyData.depthAll, PyData.depth, depth_strs ws]
theorem shaped_strs {ws : List Str} (h : ∀ w ∈ ws, PyData.strOk w = true) : SeqAt.shaped (.list (ws.map .str)) = true := by
  unfold SeqAt.shaped
  simp [PyData.canLay0, canLay_strs ws h, PyData.depth, depth_strs]
theorem ne_strs (os : List (Option Int)) : neW (.list ((os.map wS).map .str)) (.list []) = some (.bool (!decide (os.map wS = []))) := by
  show neW (.list ((os.map wS).map .str)) (.list (([] : List Str).map .str)) = _
  rw [neW_ll (shaped_strs fun w hw => by
    obtain ⟨o, _, rfl⟩ := List.mem_map.mp hw
    exact wS_ok o) (shaped_strs (ws := []) fun w hw => nomatch hw)]
  cases os with
  | nil => rw [decide_eq_true (show [].map wS = [] from rfl)]; simp [PyData.eqv, PyData.eqvAll]
  | cons o os => rw [decide_eq_false (fun z => nomatch z)]; simp [PyData.eqv, PyData.eqvAll]
theorem lj_go {ds : List D} {t : D} (b : Bool) (ne : neW (.list ds) (.list []) = some (.bool b)) (jn : b = true → joinS (.str " ") (.list ds) = some t) (h : b = false → t = .str "-") : F__law_joined [.list ds] = some t := by
  have z : 0 ≤ sizeLine := Nat.zero_le _
  unfold F__law_joined callP g__law_joined env0
  cases b with
  | true =>
    have jn := jn rfl
    clear h
    walk_at "evh"
  | false =>
    rw [h rfl]
    clear jn h
    walk_at "evh"
theorem lj_eq {k : Int} {os : List (Option Int)} (h : ∀ o ∈ os, OkO k o) (hl : os.length ≤ 100) : F__law_joined [.list ((os.map wS).map .str)] = some (.str (txO os)) := by
  have jn := (jn_eq (ys := os.map wS) (fun y hy => by
    obtain ⟨o, ho, rfl⟩ := List.mem_map.mp hy
    exact wS_len (h o ho)) (by rw [List.length_map]; exact hl)).1
  refine lj_go _ (ne_strs os) (fun b => ?_) fun b => ?_
  · have : os ≠ [] := fun z => by rw [z] at b; exact absurd b (by decide)
    unfold txO
    rw [if_neg this]
    exact jn
  · have : os = [] := by
      rw [Bool.not_eq_false', decide_eq_true_iff, List.map_eq_nil_iff] at b
      exact b
    unfold txO
    rw [if_pos this]
theorem callB_rt {np n : Nat} {g : GS} {box box' as : List D} {ρ : Rho} {d : D} (hl : as.length + 1 = np) (h : g (envB n box as) = .rt d ρ) (hb : box0 ρ = some box') : callB np n g box as = some (d, box') := by
  unfold callB
  rw [if_neg (fun z => z hl), h]
  show (box0 ρ).map _ = _
  rw [hb]; rfl
theorem r_1 {box box1 box2 : List D} {t L : D} {s1 s2 s3 s4 s5 s6 s7 s8 s9 s10 : Sl} (e1 : F__law_pick box [.list [.int 5, .int 300, .int 1000000000000000000000000000000000000000]] = some (t, box1)) (e2 : F__law_line box1 [.int 16, t] = some (L, box2)) (z : 3 ≤ sizeLine) : (sSet 1 (eCallB F__law_line 0 (aCons (oE (eC (.int 16))) (aCons (oE (eCallB F__law_pick 0 (aCons (oE (eL (eSeq (aCons (oE (eC (.int 5))) (aCons (oE (eC (.int 300))) (aCons (oE (eOp2 powD (oE (eC (.int 10))) (oE (eC (.int 39))))) aNil)))))) aNil))) aNil)))) [.ow box, s1, s2, s3, s4, s5, s6, s7, s8, s9, s10] = .nx [.ow box2, .sh L, s2, s3, s4, s5, s6, s7, s8, s9, s10] := by
  walk_at "evh"
theorem r_2 {s0 s1 s4 s5 s6 s7 s8 s9 s10 : Sl} (z : 0 ≤ sizeLine) : (sPar 2 3 (nF (eSeq aNil)) (nF (eSeq aNil))) [s0, s1, .no, .no, s4, s5, s6, s7, s8, s9, s10] = .nx [s0, s1, .ow [], .ow [], s4, s5, s6, s7, s8, s9, s10] := by
  walk_at "evh"
theorem r_3s {box box1 M : List D} {k : Int} {s1 s2 s3 s4 s5 s6 s7 s8 s9 s10 : Sl} (e : F__law_draw 8 box [.int 20] = some (.int k, box1)) (rg : rng1 [.int k] = some M) : (eCall rng1 (aCons (oE (eCallB (F__law_draw 8) 0 (aCons (oE (eC (.int 20))) aNil))) aNil)) [.ow box, s1, s2, s3, s4, s5, s6, s7, s8, s9, s10] = .ok M [.ow box1, s1, s2, s3, s4, s5, s6, s7, s8, s9, s10] := by
  walk_at "evh"
theorem r_4s {box box1 M : List D} {k : Int} {s1 s2 s3 s4 s5 s6 s7 s8 s9 s10 : Sl} (e : F__law_draw 8 box [.int 17] = some (.int k, box1)) (rg : rng1 [.int k] = some M) : (eCall rng1 (aCons (oE (eCallB (F__law_draw 8) 0 (aCons (oE (eC (.int 17))) aNil))) aNil)) [.ow box, s1, s2, s3, s4, s5, s6, s7, s8, s9, s10] = .ok M [.ow box1, s1, s2, s3, s4, s5, s6, s7, s8, s9, s10] := by
  walk_at "evh"
theorem g1_go {box box1 box2 F : List D} {y x : D} {s1 s3 s4 s5 s6 s7 s8 s9 s10 : Sl} (e1 : F__law_pick box [.list [.int 16, .int 1000000000]] = some (y, box1)) (e2 : F__law_draw 8 box1 [y] = some (x, box2)) (z : 2 ≤ sizeLine) (hz : F.length < sizeLine) : gb__law_right_1 [.ow box, s1, .ow F, s3, s4, s5, s6, s7, s8, s9, s10] = .nx [.ow box2, s1, .ow (F ++ [x]), s3, s4, s5, s6, s7, s8, s9, s10] := by
  unfold gb__law_right_1
  walk_at "evh"
theorem g2_go {box box1 box2 box3 F : List D} {a b : Int} {x : D} {s1 s2 s4 s5 s6 s7 s8 s9 s10 : Sl} (e1 : F__law_draw 8 box [.int 10000000000000000000000000000000000000000] = some (.int a, box1)) (e2 : F__law_draw 8 box1 [.int 9] = some (.int b, box2)) (e3 : F__law_pick box2 [.list [.none, .int a, .int (4 - b)]] = some (x, box3)) (z : 3 ≤ sizeLine) (hz : F.length < sizeLine) : gb__law_right_2 [.ow box, s1, s2, .ow F, s4, s5, s6, s7, s8, s9, s10] = .nx [.ow box3, s1, s2, .ow (F ++ [x]), s4, s5, s6, s7, s8, s9, s10] := by
  unfold gb__law_right_2
  walk_at "evh"
theorem t1_for {s1 s3 s5 s6 s7 s8 s9 s10 : Sl} : ∀ (ds : List D) {n : Int} {box : List D} {F : List Int} {s4 : Sl}, GoodBox n box → n + 16 * ds.length < 2 ^ 37 → F.length + ds.length ≤ 50 → (∀ x ∈ F, 0 ≤ x ∧ x < 10 ^ 10) →
    ∃ (F' : List Int) (box' : List D) (t4 : Sl), forL (gN 4) gb__law_right_1 ds [.ow box, s1, .ow (F.map .int), s3, s4, s5, s6, s7, s8, s9, s10] = .nx [.ow box', s1, .ow (F'.map .int), s3, t4, s5, s6, s7, s8, s9, s10] ∧ F'.length ≤ 50 ∧ (∀ x ∈ F', 0 ≤ x ∧ x < 10 ^ 10) ∧ GoodBox (n + 16 * ds.length) box'
  | [], n, box, F, s4, g, _, hl, hF => ⟨F, box, s4, rfl, by rw [List.length_nil] at hl; omega, hF, g.mono (by rw [List.length_nil]; omega)⟩
  | d :: ds, n, box, F, s4, g, hn, hl, hF => by
    rw [List.length_cons] at *
    obtain ⟨y, box1, e1, hy, g1⟩ := of_eq (xs := [.int 16, .int 1000000000]) g (by omega) (by decide) (by decide)
    obtain ⟨t, rfl, ht⟩ : ∃ t : Int, y = .int t ∧ 0 < t ∧ t ≤ 10 ^ 9 := by
      simp only [List.mem_cons, List.not_mem_nil, or_false] at hy
      rcases hy with rfl | rfl
      · exact ⟨16, rfl, by omega, by omega⟩
      · exact ⟨1000000000, rfl, by omega, by omega⟩
    obtain ⟨x, box2, e2, x0, x1, g2⟩ := take8 (span := t) g1 (by omega) ht.1 (by omega)
    have S := g1_go (F := F.map .int) (s1 := s1) (s3 := s3) (s4 := .sh d) (s5 := s5) (s6 := s6) (s7 := s7) (s8 := s8) (s9 := s9) (s10 := s10) e1 e2 (by decide) (by rw [List.length_map]; exact size_lt (by omega))
    obtain ⟨F', box', t4, e, l', h', g'⟩ := t1_for (s1 := s1) (s3 := s3) (s5 := s5) (s6 := s6) (s7 := s7) (s8 := s8) (s9 := s9) (s10 := s10) ds (F := F ++ [x]) (s4 := .sh d) g2 (by omega) (by rw [List.length_append, List.length_singleton]; omega) (fun z hz => by
      rcases List.mem_append.mp hz with h | h
      · exact hF z h
      · rw [List.mem_singleton.mp h]; omega)
    rw [List.map_append] at e
    exact ⟨F', box', t4, for_cons rfl S e, l', h', g'.mono (by omega)⟩
theorem t2_for {s1 s2 s5 s6 s7 s8 s9 s10 : Sl} : ∀ (ds : List D) {n : Int} {box : List D} {F : List (Option Int)} {s4 : Sl}, GoodBox n box → n + 24 * ds.length < 2 ^ 37 → F.length + ds.length ≤ 50 → (∀ x ∈ F, OkO 2 x) →
    ∃ (F' : List (Option Int)) (box' : List D) (t4 : Sl), forL (gN 4) gb__law_right_2 ds [.ow box, s1, s2, .ow (F.map onD), s4, s5, s6, s7, s8, s9, s10] = .nx [.ow box', s1, s2, .ow (F'.map onD), t4, s5, s6, s7, s8, s9, s10] ∧ F'.length ≤ 50 ∧ (∀ x ∈ F', OkO 2 x) ∧ GoodBox (n + 24 * ds.length) box'
  | [], n, box, F, s4, g, _, hl, hF => ⟨F, box, s4, rfl, by rw [List.length_nil] at hl; omega, hF, g.mono (by rw [List.length_nil]; omega)⟩
  | d :: ds, n, box, F, s4, g, hn, hl, hF => by
    rw [List.length_cons] at *
    obtain ⟨a, box1, e1, a0, a1, g1⟩ := take8 (span := 10000000000000000000000000000000000000000) g (by omega) (by omega) (by omega)
    obtain ⟨b, box2, e2, b0, b1, g2⟩ := take8 (span := 9) g1 (by omega) (by omega) (by omega)
    obtain ⟨y, box3, e3, hy, g3⟩ := of_eq (xs := [.none, .int a, .int (4 - b)]) g2 (by omega) (by show 0 < 3; decide) (by show 3 ≤ 100000; decide)
    obtain ⟨o, rfl, ho⟩ : ∃ o : Option Int, y = onD o ∧ OkO 2 o := by
      simp only [List.mem_cons, List.not_mem_nil, or_false] at hy
      rcases hy with rfl | rfl | rfl
      · exact ⟨none, rfl, rfl⟩
      · exact ⟨some a, rfl, fun z => absurd z (by decide), by omega⟩
      · exact ⟨some (4 - b), rfl, fun z => absurd z (by decide), by omega⟩
    have S := g2_go (F := F.map onD) (s1 := s1) (s2 := s2) (s4 := .sh d) (s5 := s5) (s6 := s6) (s7 := s7) (s8 := s8) (s9 := s9) (s10 := s10) e1 e2 e3 (by decide) (by rw [List.length_map]; exact size_lt (by omega))
    obtain ⟨F', box', t4, e, l', h', g'⟩ := t2_for (s1 := s1) (s2 := s2) (s5 := s5) (s6 := s6) (s7 := s7) (s8 := s8) (s9 := s9) (s10 := s10) ds (F := F ++ [o]) (s4 := .sh d) g3 (by omega) (by rw [List.length_append, List.length_singleton]; omega) (fun z hz => by
      rcases List.mem_append.mp hz with h | h
      · exact hF z h
      · rw [List.mem_singleton.mp h]; exact ho)
    rw [List.map_append] at e
    exact ⟨F', box', t4, for_cons rfl S e, l', h', g'.mono (by omega)⟩
theorem r_5 {F : List D} {s0 s1 s2 s4 s5 s6 s7 s8 s9 s10 : Sl} : (sSet 3 (eApp tupleD (aCons (oV 3) aNil))) [s0, s1, s2, .ow F, s4, s5, s6, s7, s8, s9, s10] = .nx [s0, s1, s2, .sh (.tuple F), s4, s5, s6, s7, s8, s9, s10] := by
  have t : tupleD [.list F] = some (.tuple F) := rfl
  walk_at "evh"
theorem r_6g {g h : GF} {A B : List D} {x y : D} {s0 s1 s2 s3 s4 s5 s6 s7 s8 s9 s10 : Sl} (eg : g [s0, s1, s2, s3, s4, s5, s6, s7, s8, s9, s10] = .ok A [s0, s1, s2, s3, s4, s5, s6, s7, s8, s9, s10]) (eh : h [s0, s1, s2, s3, s4, s5, s6, s7, s8, s9, s10] = .ok B [s0, s1, s2, s3, s4, s5, s6, s7, s8, s9, s10]) (e1 : F__law_joined [.list A] = some x) (e2 : F__law_joined [.list B] = some y) (z : 2 ≤ sizeLine) : (sSetO 5 (eSeq (aCons (oE (eCall F__law_joined (aCons (oE (eL g)) aNil))) (aCons (oE (eCall F__law_joined (aCons (oE (eL h)) aNil))) aNil)))) [s0, s1, s2, s3, s4, s5, s6, s7, s8, s9, s10] = .nx [s0, s1, s2, s3, s4, .ow [x, y], s6, s7, s8, s9, s10] := by
  walk_at "evh"
theorem r_4e {i : Int} {t : D} {s0 s1 s2 s3 s4 s5 s6 s7 s8 s10 : Sl} (e : strD [.int i] = some t) : ce__law_right_4 [s0, s1, s2, s3, s4, s5, s6, s7, s8, .sh (.int i), s10] = .ok t [s0, s1, s2, s3, s4, s5, s6, s7, s8, .sh (.int i), s10] := by
  unfold ce__law_right_4
  walk_at "evh"
theorem r_3e {i : Int} {t : D} {s0 s1 s2 s3 s4 s5 s6 s7 s8 s9 : Sl} (e : strD [.int i] = some t) : ce__law_right_3 [s0, s1, s2, s3, s4, s5, s6, s7, s8, s9, .sh (.int i)] = .ok t [s0, s1, s2, s3, s4, s5, s6, s7, s8, s9, .sh (.int i)] := by
  unfold ce__law_right_3
  walk_at "evh"
theorem r_5e {o : Option Int} {s0 s1 s2 s3 s4 s5 s6 s7 s8 s10 : Sl} (h : ∀ i, o = some i → strD [.int i] = some (.str (toString i))) : ce__law_right_5 [s0, s1, s2, s3, s4, s5, s6, s7, s8, .sh (onD o), s10] = .ok (.str (wS o)) [s0, s1, s2, s3, s4, s5, s6, s7, s8, .sh (onD o), s10] := by
  unfold ce__law_right_5
  cases o with
  | none =>
    have k : isD .none .none = some (.bool true) := by rw [isD_none]; rfl
    clear h
    rw [show onD none = PyData.none from rfl, show wS none = "?" from rfl]
    walk_at "evh"
  | some i =>
    have k : isD (.int i) .none = some (.bool false) := by rw [isD_none]; rfl
    have h := h i rfl
    rw [show onD (some i) = PyData.int i from rfl, show wS (some i) = toString i from rfl]
    walk_at "evh"
theorem r_7g {g : GF} {A D' : List D} {x : D} {s0 s1 s2 s3 s4 s6 s7 s8 s9 s10 : Sl} (eg : g [s0, s1, s2, s3, s4, .ow D', s6, s7, s8, s9, s10] = .ok A [s0, s1, s2, s3, s4, .ow D', s6, s7, s8, s9, s10]) (e1 : F__law_joined [.list A] = some x) (z : D'.length < sizeLine) : (sApp 5 (eCall F__law_joined (aCons (oE (eL g)) aNil))) [s0, s1, s2, s3, s4, .ow D', s6, s7, s8, s9, s10] = .nx [s0, s1, s2, s3, s4, .ow (D' ++ [x]), s6, s7, s8, s9, s10] := by
  walk_at "evh"
theorem r_8 {L T H a b c : D} {s0 s4 s5 s6 s7 s8 s9 s10 : Sl} (e1 : F_row_text [L] = some a) (e2 : F_calls_text [T] = some b) (e3 : F_wish_text [H] = some c) (z : 3 ≤ sizeLine) : (sSet 6 (eL (eSeq (aCons (oE (eCall F_row_text (aCons (oE (eV 1)) aNil))) (aCons (oE (eCall F_calls_text (aCons (oE (eV 2)) aNil))) (aCons (oE (eCall F_wish_text (aCons (oE (eV 3)) aNil))) aNil)))))) [s0, .sh L, .sh T, .sh H, s4, s5, s6, s7, s8, s9, s10] = .nx [s0, .sh L, .sh T, .sh H, s4, s5, .sh (.list [a, b, c]), s7, s8, s9, s10] := by
  walk_at "evh"
theorem r_9 {L T H U X a b c N : D} {A C : List D} {s0 s4 s5 s7 s8 s9 s10 : Sl} (l1 : listD [L] = some A) (t2 : tupleD [T] = some U) (l3 : listD [H] = some C) (e1 : F_row_text [.list A] = some a) (e2 : F_calls_text [U] = some b) (e3 : F_wish_text [.list C] = some c) (ad : addU X (.list [a, b, c]) = some N) (z : 3 ≤ sizeLine) : (sSet 6 (eOp2 addU (oE (eV 6)) (oE (eL (eSeq (aCons (oE (eCallW F_row_text 1 @idL (aCons (oE (eL (eApp listD (aCons (oE (eV 1)) aNil)))) aNil))) (aCons (oE (eCallW F_calls_text 1 @idL (aCons (oE (eApp tupleD (aCons (oE (eV 2)) aNil))) aNil))) (aCons (oE (eCallW F_wish_text 1 @idL (aCons (oE (eL (eApp listD (aCons (oE (eV 3)) aNil)))) aNil))) aNil)))))))) [s0, .sh L, .sh T, .sh H, s4, s5, .sh X, s7, s8, s9, s10] = .nx [s0, .sh L, .sh T, .sh H, s4, s5, .sh N, s7, s8, s9, s10] := by
  walk_at "evh"
theorem r_10 {X N : D} {D' : List D} {s0 s1 s2 s3 s4 s7 s8 s9 s10 : Sl} (ad : addU (.list D') (.list D') = some N) (sm : F__law_same 6 [X, N] = some (.bool true)) : (sIf (tNotG (tstE (eCall (F__law_same 6) (aCons (oE (eV 6)) (aCons (oE (eOp2 addU (oV 5) (oV 5))) aNil))))) (sRet (eC (.bool false)))
    sNext) [s0, s1, s2, s3, s4, .ow D', .sh X, s7, s8, s9, s10] = .nx [s0, s1, s2, s3, s4, .ow D', .sh X, s7, s8, s9, s10] := by
  walk_at "evh"
theorem xn_ok {F : List D → RX D} {ga : GA} {ρ ρ1 : Rho} {x : D} {es : List D} (h1 : ga ρ = .ok [.val x] ρ1) (h2 : flatD x = true) (h3 : F [x] = .ok (.list es)) (h4 : es.all flatD = true) : eCallXN F ga ρ = .ok es ρ1 := by
  unfold eCallXN
  rw [h1]
  show (if [x].all flatD = true then (match F [x] with
    | .ok (.list es) => if es.all flatD = true then R.ok es ρ1 else .bad
    | _ => .bad) else .bad) = _
  rw [if_pos (by rw [List.all_cons, h2]; rfl), h3]
  show (if es.all flatD = true then R.ok es ρ1 else .bad) = _
  rw [if_pos h4]
theorem r_ga {D' : List D} {x : D} {s0 s1 s2 s3 s4 s6 s7 s8 s9 s10 : Sl} (ix : ixD (.list D') (.int 1) = some x) : (aCons (oE (eOp2 ixD (oV 5) (oE (eC (.int 1))))) aNil) [s0, s1, s2, s3, s4, .ow D', s6, s7, s8, s9, s10] = .ok [.val x] [s0, s1, s2, s3, s4, .ow D', s6, s7, s8, s9, s10] := by
  walk_at "evh"
theorem r_h1 {D' : List D} {x w u v : D} {es : List D} {g : GF} {s0 s1 s2 s3 s4 s6 s7 s8 s9 s10 : Sl} (i0 : ixD (.list D') (.int 0) = some x) (i2 : ixD (.list D') (.int 2) = some w) (e1 : F_row_in [x] = .ok u) (eg : g [s0, s1, s2, s3, s4, .ow D', s6, s7, s8, s9, s10] = .ok es [s0, s1, s2, s3, s4, .ow D', s6, s7, s8, s9, s10]) (e3 : F_wish_in [w] = .ok v) : (nlCons (nS (eCallX F_row_in (aCons (oE (eOp2 ixD (oV 5) (oE (eC (.int 0))))) aNil))) (nlCons (nF g) (nlCons (nS (eCallX F_wish_in (aCons (oE (eOp2 ixD (oV 5) (oE (eC (.int 2))))) aNil))) nlNil))) [s0, s1, s2, s3, s4, .ow D', s6, s7, s8, s9, s10] = .ok [.s u, .f es, .s v] [s0, s1, s2, s3, s4, .ow D', s6, s7, s8, s9, s10] := by
  walk_at "evh"
theorem r_h2 {L T H : D} {s0 s4 s5 s6 s7 s8 s9 s10 : Sl} (z : 3 ≤ sizeLine) : (eL (eSeq (aCons (oE (eV 1)) (aCons (oE (eV 2)) (aCons (oE (eV 3)) aNil))))) [s0, .sh L, .sh T, .sh H, s4, s5, s6, s7, s8, s9, s10] = .ok (.list [L, T, H]) [s0, .sh L, .sh T, .sh H, s4, s5, s6, s7, s8, s9, s10] := by
  walk_at "evh"
theorem q_1 {D' : List D} {x y w L T H : D} {s0 s4 s6 s7 s8 s9 s10 : Sl} (i0 : ixD (.list D') (.int 0) = some x) (i1 : ixD (.list D') (.int 1) = some y) (i2 : ixD (.list D') (.int 2) = some w) (e1 : F_row_in [x] = .ok L) (e2 : F_calls_in [y] = .ok T) (e3 : F_wish_in [w] = .ok H) (sm : F__law_same 6 [.list [L, T, H], .list [L, T, H]] = some (.bool true)) (z : 3 ≤ sizeLine) : (sIf (tNotG (tstE (eCall (F__law_same 6) (aCons (oE (eL (eSeq (aCons (oE (eCallWX F_row_in 1 @idL (aCons (oE (eOp2 ixD (oV 5) (oE (eC (.int 0))))) aNil))) (aCons (oE (eCallWX F_calls_in 1 @idL (aCons (oE (eOp2 ixD (oV 5) (oE (eC (.int 1))))) aNil))) (aCons (oE (eCallWX F_wish_in 1 @idL (aCons (oE (eOp2 ixD (oV 5) (oE (eC (.int 2))))) aNil))) aNil)))))) (aCons (oE (eL (eSeq (aCons (oE (eV 1)) (aCons (oE (eV 2)) (aCons (oE (eV 3)) aNil)))))) aNil))))) (sRet (eC (.bool false)))
    sNext) [s0, .sh L, .sh T, .sh H, s4, .ow D', s6, s7, s8, s9, s10] = .nx [s0, .sh L, .sh T, .sh H, s4, .ow D', s6, s7, s8, s9, s10] := by
  walk_at "evh"
theorem q_2s {box box1 M : List D} {k : Int} {s1 s2 s3 s4 s5 s6 s7 s8 s9 s10 : Sl} (e : F__law_draw 8 box [.int 44] = some (.int k, box1)) (rg : rng1 [.int (17 + k)] = some M) : (eCall rng1 (aCons (oE (eOp2 addU (oE (eC (.int 17))) (oE (eCallB (F__law_draw 8) 0 (aCons (oE (eC (.int 44))) aNil))))) aNil)) [.ow box, s1, s2, s3, s4, s5, s6, s7, s8, s9, s10] = .ok M [.ow box1, s1, s2, s3, s4, s5, s6, s7, s8, s9, s10] := by
  walk_at "evh"
theorem q_2e {i : Int} {s0 s1 s2 s3 s5 s6 s7 s8 s9 s10 : Sl} (m : mulV (.int 7) (.int i) = some (.int (7 * i))) (md : modD (.int (7 * i)) (.int 61) = some (.int (7 * i % 61))) : ce__law_right_6 [s0, s1, s2, s3, .sh (.int i), s5, s6, s7, s8, s9, s10] = .ok (.int (100 + 7 * i % 61)) [s0, s1, s2, s3, .sh (.int i), s5, s6, s7, s8, s9, s10] := by
  unfold ce__law_right_6
  walk_at "evh"
theorem q_2 {Y : List D} {g : GF} {b0 c0 s1 s2 s3 s4 s5 s6 s7 s8 s9 s10 : Sl} (eg : g [b0, s1, s2, s3, s4, s5, s6, s7, s8, s9, s10] = .ok Y [c0, s1, s2, s3, .no, s5, s6, s7, s8, s9, s10]) : sSet 7 (eApp tupleD (aCons (oE (eL g)) aNil)) [b0, s1, s2, s3, s4, s5, s6, s7, s8, s9, s10] = .nx [c0, s1, s2, s3, .no, s5, s6, .sh (.tuple Y), s8, s9, s10] := by
  have t : tupleD [.list Y] = some (.tuple Y) := rfl
  walk_at "evh"
theorem jn_go {j : Nat} {g : GF} {Y : List D} {ρ ρ1 : Rho} {d : D} (eg : g ρ = .ok Y ρ1) (jn : joinS (.str " ") (.list Y) = some d) : sSet j (eJoin (eC (.str " ")) (eL g)) ρ = .nx (ρ1.set j (.sh d)) := by
  refine sSet_ok ?_
  unfold eJoin
  show (eL g ρ).bind _ = _
  rw [eL_ok eg]
  show R.lift (joinS (.str " ") (.list Y)) ρ1 = _
  rw [jn]; rfl
theorem q_4 {W a b c t : D} {s0 s1 s2 s3 s4 s5 s6 s7 s9 s10 : Sl} (e1 : F_row_in [W] = .ok a) (e2 : F_calls_in [W] = .ok b) (e3 : F_wish_in [W] = .ok c) (e4 : F_row_text [.tuple []] = some t) (z0 : 0 ≤ sizeLine) (z : 4 ≤ sizeLine) : (sSet 6 (eL (eSeq (aCons (oE (eCallX F_row_in (aCons (oE (eV 8)) aNil))) (aCons (oE (eCallX F_calls_in (aCons (oE (eV 8)) aNil))) (aCons (oE (eCallX F_wish_in (aCons (oE (eV 8)) aNil))) (aCons (oE (eCall F_row_text (aCons (oE (eT (eSeq aNil))) aNil))) aNil))))))) [s0, s1, s2, s3, s4, s5, s6, s7, .sh W, s9, s10] = .nx [s0, s1, s2, s3, s4, s5, .sh (.list [a, b, c, t]), s7, .sh W, s9, s10] := by
  walk_at "evh"
theorem q_5 {X N t u a b c : D} {s0 s1 s2 s3 s4 s5 s7 s8 s9 s10 : Sl} (e1 : F_calls_text [.list []] = some t) (e2 : F_wish_text [.list []] = some u) (e3 : F_row_in [.str "-"] = .ok a) (e4 : F_calls_in [.str "-"] = .ok b) (e5 : F_wish_in [.str "-"] = .ok c) (ad : addU X (.list [t, u, a, b, c]) = some N) (z0 : 0 ≤ sizeLine) (z : 5 ≤ sizeLine) : (sSet 6 (eOp2 addU (oE (eV 6)) (oE (eL (eSeq (aCons (oE (eCall F_calls_text (aCons (oE (eL (eSeq aNil))) aNil))) (aCons (oE (eCall F_wish_text (aCons (oE (eL (eSeq aNil))) aNil))) (aCons (oE (eCallX F_row_in (aCons (oE (eC (.str "-"))) aNil))) (aCons (oE (eCallX F_calls_in (aCons (oE (eC (.str "-"))) aNil))) (aCons (oE (eCallX F_wish_in (aCons (oE (eC (.str "-"))) aNil))) aNil)))))))))) [s0, s1, s2, s3, s4, s5, .sh X, s7, s8, s9, s10] = .nx [s0, s1, s2, s3, s4, s5, .sh N, s7, s8, s9, s10] := by
  walk_at "evh"
theorem q_6 {X G : D} {l : List D} {s0 s1 s2 s3 s4 s5 s8 s9 s10 : Sl} (ls : listD [G] = some l) (sm : F__law_same 6 [X, .list [G, .list l, G, .str "-", .str "-", .str "-", .tuple [], .list [], .tuple []]] = some (.bool true)) (z0 : 0 ≤ sizeLine) (z : 9 ≤ sizeLine) : (sRet (eCall (F__law_same 6) (aCons (oE (eV 6)) (aCons (oE (eL (eSeq (aCons (oE (eV 7)) (aCons (oE (eL (eApp listD (aCons (oE (eV 7)) aNil)))) (aCons (oE (eV 7)) (aCons (oE (eC (.str "-"))) (aCons (oE (eC (.str "-"))) (aCons (oE (eC (.str "-"))) (aCons (oE (eT (eSeq aNil))) (aCons (oE (eL (eSeq aNil))) (aCons (oE (eT (eSeq aNil))) aNil)))))))))))) aNil)))) [s0, s1, s2, s3, s4, s5, .sh X, .sh G, s8, s9, s10] = .rt (.bool true) [s0, s1, s2, s3, s4, s5, .sh X, .sh G, s8, s9, s10] := by
  walk_at "evh"
theorem pl_on {n : Nat} (os : List (Option Int)) : ∀ d ∈ os.map onD, Pl n d := fun d hd => by
  obtain ⟨o, _, rfl⟩ := List.mem_map.mp hd
  cases o
  · exact .none _
  · exact .int _ _
theorem pl_tl {n : Nat} {os : List (Option Int)} (h : os.length ≤ 1000) : Pl (n + 1) (.tuple (os.map onD)) ∧ Pl (n + 1) (.list (os.map onD)) :=
  ⟨.tuple (by rw [List.length_map]; exact size_of (by omega)) (pl_on os), .list (by rw [List.length_map]; exact size_of (by omega)) (pl_on os)⟩
theorem on_some (ns : List Int) : (ns.map some).map onD = ns.map PyData.int := by rw [List.map_map]; rfl
theorem ok_some {k : Int} {ns : List Int} (hk : k ≠ 1) (h : ∀ i ∈ ns, i.natAbs < 10 ^ 50) : ∀ o ∈ ns.map some, OkO k o := fun o ho => by
  obtain ⟨i, hi, rfl⟩ := List.mem_map.mp ho
  exact ⟨fun z => absurd z hk, h i hi⟩
theorem ok_nn {k : Int} {ns : List Int} (h : ∀ i ∈ ns, 0 ≤ i ∧ i < 10 ^ 10) : ∀ o ∈ ns.map some, OkO k o := fun o ho => by
  obtain ⟨i, hi, rfl⟩ := List.mem_map.mp ho
  have := h i hi
  exact ⟨fun _ => this.1, by omega⟩
theorem in_of {k : Int} {os : List (Option Int)} (h : ∀ o ∈ os, OkO k o) : inR k (txO os) = .ok (outD k (os.map onD)) := by
  unfold inR
  rw [rd_tx h]
theorem flat_ints (ns : List Int) : (ns.map PyData.int).all flatD = true := List.all_eq_true.mpr fun d hd => by
  obtain ⟨i, _, rfl⟩ := List.mem_map.mp hd
  rfl
theorem right_eq {n : Int} {box : List D} (hb : GoodBox n box) (hn : n < 2 ^ 30) : ∃ box', F__law_right box [] = some (.bool true, box') ∧ GoodBox (n + 20000) box' := by
  obtain ⟨y, box1, e1, hy, g1⟩ := of_eq (xs := [.int 5, .int 300, .int 1000000000000000000000000000000000000000]) hb (by omega) (by decide) (by decide)
  obtain ⟨t, rfl, ht⟩ : ∃ t : Int, y = .int t ∧ 1 ≤ t ∧ t ≤ 10 ^ 40 := by
    simp only [List.mem_cons, List.not_mem_nil, or_false] at hy
    rcases hy with rfl | rfl | rfl
    · exact ⟨5, rfl, by omega, by omega⟩
    · exact ⟨300, rfl, by omega, by omega⟩
    · exact ⟨1000000000000000000000000000000000000000, rfl, by omega, by omega⟩
  obtain ⟨ns, box2, e2, nl, nr, g2⟩ := rline_eq (most := 16) g1 (by omega) (by omega) ht
  have e2 : F__law_line box1 [.int 16, .int t] = some (rowD ns, box2) := e2
  have nb : ∀ i ∈ ns, i.natAbs < 10 ^ 50 := fun i hi => Nat.lt_of_le_of_lt (nr i hi) (by decide)
  obtain ⟨k3, box3, e3, a0, a1, g3⟩ := take8 (span := 20) g2 (by omega) (by omega) (by omega)
  have rg3 : rng1 [.int k3] = some (rangeD 0 k3.toNat) := rng1_eq (by omega) (by omega)
  have rl3 := rangeD_len 0 k3.toNat
  obtain ⟨ts, box4, t4, f3, tl, tb, g4⟩ := t1_for (s1 := .sh (rowD ns)) (s3 := .ow []) (s5 := .no) (s6 := .no) (s7 := .no) (s8 := .no) (s9 := .no) (s10 := .no) (rangeD 0 k3.toNat) (F := []) (s4 := .no) g3 (by omega) (by rw [List.length_nil]; omega) (fun x hx => nomatch hx)
  obtain ⟨k5, box5, e5, b0, b1, g5⟩ := take8 (span := 17) g4 (by omega) (by omega) (by omega)
  have rg5 : rng1 [.int k5] = some (rangeD 0 k5.toNat) := rng1_eq (by omega) (by omega)
  have rl5 := rangeD_len 0 k5.toNat
  obtain ⟨os, box6, u4, f5, ol, ob, g6⟩ := t2_for (s1 := .sh (rowD ns)) (s2 := .ow (ts.map .int)) (s5 := .no) (s6 := .no) (s7 := .no) (s8 := .no) (s9 := .no) (s10 := .no) (rangeD 0 k5.toNat) (F := []) (s4 := t4) g5 (by omega) (by rw [List.length_nil]; omega) (fun x hx => nomatch hx)
  have okN := ok_some (k := 0) (by decide) nb
  have okT := ok_nn (k := 1) tb
  have tb2 : ∀ i ∈ ts, i.natAbs < 10 ^ 50 := fun i hi => by
    have := tb i hi
    omega
  have lN : (ns.map some).length ≤ 100 := by rw [List.length_map]; omega
  have lT : (ts.map some).length ≤ 100 := by rw [List.length_map]; omega
  have lc1 : lcL [9] (gN 9) gYes ce__law_right_4 (ns.map .int) [.ow box6, .sh (rowD ns), .sh (.list (ts.map .int)), .sh (.tuple (os.map onD)), u4, .no, .no, .no, .no, .no, .no] = .ok (((ns.map some).map wS).map .str) [.ow box6, .sh (rowD ns), .sh (.list (ts.map .int)), .sh (.tuple (os.map onD)), u4, .no, .no, .no, .no, .no, .no] := by
    rw [List.map_map, List.map_map]
    exact lc_emb1 (emb := PyData.int) fun i hi => ⟨_, rfl, rfl, r_4e (str_of (nb i hi))⟩
  have lc2 : lcL [10] (gN 10) gYes ce__law_right_3 (ts.map .int) [.ow box6, .sh (rowD ns), .sh (.list (ts.map .int)), .sh (.tuple (os.map onD)), u4, .no, .no, .no, .no, .no, .no] = .ok (((ts.map some).map wS).map .str) [.ow box6, .sh (rowD ns), .sh (.list (ts.map .int)), .sh (.tuple (os.map onD)), u4, .no, .no, .no, .no, .no, .no] := by
    rw [List.map_map, List.map_map]
    exact lc_emb1 (emb := PyData.int) fun i hi => ⟨_, rfl, rfl, r_3e (str_of (tb2 i hi))⟩
  have J1 := lj_eq okN lN
  have J2 := lj_eq okT lT
  have J3 := lj_eq (k := 2) ob (by omega)
  have S6 := r_6g (s5 := .no) (eLc_ok (vs := [9]) (gi := gSeq (eV 1)) (ρ := [.ow box6, .sh (rowD ns), .sh (.list (ts.map .int)), .sh (.tuple (os.map onD)), u4, .no, .no, .no, .no, .no, .no]) (ρ1 := [.ow box6, .sh (rowD ns), .sh (.list (ts.map .int)), .sh (.tuple (os.map onD)), u4, .no, .no, .no, .no, .no, .no]) rfl (by rw [List.length_map]; exact size_of (by omega)) lc1) (eLc_ok (vs := [10]) (gi := gSeq (eV 2)) (ρ := [.ow box6, .sh (rowD ns), .sh (.list (ts.map .int)), .sh (.tuple (os.map onD)), u4, .no, .no, .no, .no, .no, .no]) (ρ1 := [.ow box6, .sh (rowD ns), .sh (.list (ts.map .int)), .sh (.tuple (os.map onD)), u4, .no, .no, .no, .no, .no, .no]) rfl (by rw [List.length_map]; exact size_of (by omega)) lc2) J1 J2 (by decide)
  generalize hT1 : txO (ns.map some) = T1 at *
  generalize hT2 : txO (ts.map some) = T2 at *
  have lc3 : lcL [9] (gN 9) gYes ce__law_right_5 (os.map onD) [.ow box6, .sh (rowD ns), .sh (.list (ts.map .int)), .sh (.tuple (os.map onD)), u4, .ow [.str T1, .str T2], .no, .no, .no, .no, .no] = .ok ((os.map wS).map .str) [.ow box6, .sh (rowD ns), .sh (.list (ts.map .int)), .sh (.tuple (os.map onD)), u4, .ow [.str T1, .str T2], .no, .no, .no, .no, .no] := by
    rw [List.map_map]
    exact lc_emb1 (emb := onD) fun o ho => ⟨_, rfl, rfl, r_5e fun i e => str_of (by
      have := ob o ho
      rw [e] at this
      exact this.2)⟩
  have S7 := r_7g (eLc_ok (vs := [9]) (gi := gSeq (eV 3)) (ρ := [.ow box6, .sh (rowD ns), .sh (.list (ts.map .int)), .sh (.tuple (os.map onD)), u4, .ow [.str T1, .str T2], .no, .no, .no, .no, .no]) (ρ1 := [.ow box6, .sh (rowD ns), .sh (.list (ts.map .int)), .sh (.tuple (os.map onD)), u4, .ow [.str T1, .str T2], .no, .no, .no, .no, .no]) rfl (by rw [List.length_map]; exact size_of (by omega)) lc3) J3 (by show 2 < sizeLine; decide)
  have I3 := in_of (k := 2) ob
  have len3 := tx_len (k := 2) ob (by omega)
  generalize hT3 : txO os = T3 at *
  have R1 := fun {r : D} (hr : Sq r (ns.map .int)) => (rowt_eq hr nb (by omega)).trans (by rw [hT1])
  have R2 := fun {r : D} (hr : Sq r (ts.map .int)) => (callst_eq hr tb2 (by omega)).trans (by rw [hT2])
  have R3 := fun {r : D} (hr : Sq r (os.map onD)) => (wisht_eq hr ob (by omega)).trans (by rw [hT3])
  have I1 := in_of okN
  have I2 := in_of okT
  have len1 := tx_len okN lN
  have len2 := tx_len okT lT
  rw [hT1] at I1 len1
  rw [hT2] at I2 len2
  rw [on_some] at I1 I2
  have W1 := (rowin_eq (x := T1) (by omega)).trans I1
  have W2 := (callsin_eq (x := T2) (by omega)).trans I2
  have W3 := (wishin_eq (x := T3) (by omega)).trans I3
  have six : F__law_same 6 [.list ([.str T1, .str T2, .str T3] ++ [.str T1, .str T2, .str T3]), .list ([.str T1, .str T2, .str T3] ++ [.str T1, .str T2, .str T3])] = some (.bool true) := same_refl 5 (.list (by show 6 ≤ sizeLine; decide) fun d hd => by
    simp only [List.cons_append, List.nil_append, List.mem_cons, List.not_mem_nil, or_false] at hd
    rcases hd with rfl | rfl | rfl | rfl | rfl | rfl <;> exact .str _ _)
  have ad6 : addU (.list [.str T1, .str T2, .str T3]) (.list [.str T1, .str T2, .str T3]) = some (.list ([.str T1, .str T2, .str T3] ++ [.str T1, .str T2, .str T3])) := addLL (by show 3 + 3 ≤ 100000; decide)
  have plN : Pl 4 (rowD ns) := .tuple (by rw [List.length_map]; exact size_of (by omega)) fun d hd => by
    obtain ⟨i, _, rfl⟩ := List.mem_map.mp hd
    exact .int _ _
  have plT : Pl 4 (.list (ts.map .int)) := .list (by rw [List.length_map]; exact size_of (by omega)) fun d hd => by
    obtain ⟨i, _, rfl⟩ := List.mem_map.mp hd
    exact .int _ _
  have sm3 : F__law_same 6 [.list [rowD ns, .list (ts.map .int), .tuple (os.map onD)], .list [rowD ns, .list (ts.map .int), .tuple (os.map onD)]] = some (.bool true) := same_refl 5 (.list (by show 3 ≤ sizeLine; decide) fun d hd => by
    simp only [List.mem_cons, List.not_mem_nil, or_false] at hd
    rcases hd with rfl | rfl | rfl
    · exact plN
    · exact plT
    · exact (pl_tl (n := 3) (os := os) (by omega)).1)
  obtain ⟨k7, box7, e7, c0, c1, g7⟩ := take8 (span := 44) g6 (by omega) (by omega) (by omega)
  have rg7 : rng1 [.int (17 + k7)] = some ((rngI 0 (17 + k7).toNat).map .int) := by rw [rng1_eq (by omega) (by omega), rngI_d]
  have ll := rngI_len 0 (17 + k7).toNat
  have gl : ∀ i ∈ (rngI 0 (17 + k7).toNat).map fun i => 100 + 7 * i % 61, 0 ≤ i ∧ i < 10 ^ 10 := fun j hj => by
    obtain ⟨i, hi, rfl⟩ := List.mem_map.mp hj
    have := mem_rngI hi
    omega
  have lc4 : lcL [4] (gN 4) gYes ce__law_right_6 ((rngI 0 (17 + k7).toNat).map .int) [.ow box7, .sh (rowD ns), .sh (.list (ts.map .int)), .sh (.tuple (os.map onD)), .no, .ow [.str T1, .str T2, .str T3], .no, .no, .no, .no, .no] = .ok (((rngI 0 (17 + k7).toNat).map fun i => 100 + 7 * i % 61).map .int) [.ow box7, .sh (rowD ns), .sh (.list (ts.map .int)), .sh (.tuple (os.map onD)), .no, .ow [.str T1, .str T2, .str T3], .no, .no, .no, .no, .no] := by
    rw [List.map_map]
    exact lc_emb1 (emb := PyData.int) fun i hi => by
      have := mem_rngI hi
      exact ⟨_, rfl, rfl, q_2e (cmul_l (by omega)) (modD_int (by omega))⟩
  generalize hgs : ((rngI 0 (17 + k7).toNat).map fun i => 100 + 7 * i % 61) = gs at *
  have gln : gs.length ≤ 60 := by rw [← hgs, List.length_map, ll]; omega
  have S72 := q_2 (b0 := .ow box6) (c0 := .ow box7) (s1 := .sh (rowD ns)) (s2 := .sh (.list (ts.map .int))) (s3 := .sh (.tuple (os.map onD))) (s4 := u4) (s5 := .ow [.str T1, .str T2, .str T3]) (s6 := .no) (s7 := .no) (s8 := .no) (s9 := .no) (s10 := .no) (eLc_ok (vs := [4]) (q_2s e7 rg7) (by rw [List.length_map, ll]; exact size_of (by omega)) lc4)
  have okG := fun k => ok_nn (k := k) gl
  have lG : (gs.map some).length ≤ 100 := by rw [List.length_map]; omega
  have gb2 : ∀ i ∈ gs, i.natAbs < 10 ^ 50 := fun i hi => by
    have := gl i hi
    omega
  have gne : gs ≠ [] := fun z => by
    have := congrArg List.length hgs
    rw [z, List.length_map, ll, List.length_nil] at this
    omega
  have lc5 : lcL [9] (gN 9) gYes ce__law_right_4 (gs.map .int) [.ow box7, .sh (rowD ns), .sh (.list (ts.map .int)), .sh (.tuple (os.map onD)), .no, .ow [.str T1, .str T2, .str T3], .no, .sh (rowD gs), .no, .no, .no] = .ok (((gs.map some).map wS).map .str) [.ow box7, .sh (rowD ns), .sh (.list (ts.map .int)), .sh (.tuple (os.map onD)), .no, .ow [.str T1, .str T2, .str T3], .no, .sh (rowD gs), .no, .no, .no] := by
    rw [List.map_map, List.map_map]
    exact lc_emb1 (emb := PyData.int) fun i hi => ⟨_, rfl, rfl, r_4e (str_of (gb2 i hi))⟩
  have jn := (jn_eq (ys := (gs.map some).map wS) (fun y hy => by
    obtain ⟨o, ho, rfl⟩ := List.mem_map.mp hy
    exact wS_len (okG 0 o ho)) (by rw [List.length_map]; exact lG)).1
  have tg : Txt.join " " ((gs.map some).map wS) = txO (gs.map some) := by
    unfold txO
    rw [if_neg fun z => gne (List.map_eq_nil_iff.mp z)]
  rw [tg] at jn
  have S73 := jn_go (j := 8) (ρ := [.ow box7, .sh (rowD ns), .sh (.list (ts.map .int)), .sh (.tuple (os.map onD)), .no, .ow [.str T1, .str T2, .str T3], .no, .sh (rowD gs), .no, .no, .no]) (ρ1 := [.ow box7, .sh (rowD ns), .sh (.list (ts.map .int)), .sh (.tuple (os.map onD)), .no, .ow [.str T1, .str T2, .str T3], .no, .sh (rowD gs), .no, .no, .no]) (eLc_ok (vs := [9]) (gi := gSeq (eV 7)) (ds := gs.map .int) (ρ := [.ow box7, .sh (rowD ns), .sh (.list (ts.map .int)), .sh (.tuple (os.map onD)), .no, .ow [.str T1, .str T2, .str T3], .no, .sh (rowD gs), .no, .no, .no]) (ρ1 := [.ow box7, .sh (rowD ns), .sh (.list (ts.map .int)), .sh (.tuple (os.map onD)), .no, .ow [.str T1, .str T2, .str T3], .no, .sh (rowD gs), .no, .no, .no]) rfl (by rw [List.length_map]; exact size_of (by omega)) lc5) jn
  have V0 := in_of (okG 0)
  have V1 := in_of (okG 1)
  have V2 := in_of (okG 2)
  have lenG := tx_len (okG 0) lG
  rw [on_some] at V0 V1 V2
  generalize txO (gs.map some) = TG at *
  have X0 := (rowin_eq (x := TG) (by omega)).trans V0
  have X1 := (callsin_eq (x := TG) (by omega)).trans V1
  have X2 := (wishin_eq (x := TG) (by omega)).trans V2
  have txe : txO [] = "-" := if_pos rfl
  have em : ∀ k, inR k "-" = .ok (outD k []) := fun k => by
    have := in_of (k := k) (os := []) (fun o ho => nomatch ho)
    rw [txe] at this
    exact this
  have ml : ("-" : Str).length ≤ 50000 := by decide +kernel
  have Y0 := (rowin_eq ml).trans (em 0)
  have Y1 := (callsin_eq ml).trans (em 1)
  have Y2 := (wishin_eq ml).trans (em 2)
  have Z0 : F_row_text [.tuple []] = some (.str "-") := (rowt_eq (ns := []) (Sq.t []) (fun i hi => nomatch hi) (Nat.zero_le _)).trans (by rw [List.map_nil, txe])
  have Z1 : F_calls_text [.list []] = some (.str "-") := (callst_eq (ns := []) (Sq.l []) (fun i hi => nomatch hi) (Nat.zero_le _)).trans (by rw [List.map_nil, txe])
  have Z2 : F_wish_text [.list []] = some (.str "-") := (wisht_eq (os := []) (Sq.l []) (fun i hi => nomatch hi) (Nat.zero_le _)).trans (by rw [txe])
  have ad9 : addU (.list [rowD gs, .list (gs.map .int), rowD gs, .str "-"]) (.list [.str "-", .str "-", .tuple [], .list [], .tuple []]) = some (.list [rowD gs, .list (gs.map .int), rowD gs, .str "-", .str "-", .str "-", .tuple [], .list [], .tuple []]) := addLL (by show 4 + 5 ≤ 100000; decide)
  have plG : Pl 4 (rowD gs) ∧ Pl 4 (.list (gs.map .int)) := by
    have h : ∀ d ∈ gs.map PyData.int, Pl 3 d := fun d hd => by
      obtain ⟨i, _, rfl⟩ := List.mem_map.mp hd
      exact .int _ _
    exact ⟨.tuple (by rw [List.length_map]; exact size_of (by omega)) h, .list (by rw [List.length_map]; exact size_of (by omega)) h⟩
  have sm9 : F__law_same 6 [.list [rowD gs, .list (gs.map .int), rowD gs, .str "-", .str "-", .str "-", .tuple [], .list [], .tuple []], .list [rowD gs, .list (gs.map .int), rowD gs, .str "-", .str "-", .str "-", .tuple [], .list [], .tuple []]] = some (.bool true) := same_refl 5 (.list (by show 9 ≤ sizeLine; decide) fun d hd => by
    simp only [List.mem_cons, List.not_mem_nil, or_false] at hd
    have z : ([] : List D).length ≤ sizeLine := Nat.zero_le _
    rcases hd with rfl | rfl | rfl | rfl | rfl | rfl | rfl | rfl | rfl
    · exact plG.1
    · exact plG.2
    · exact plG.1
    · exact .str _ _
    · exact .str _ _
    · exact .str _ _
    · exact .tuple z fun x hx => nomatch hx
    · exact .list z fun x hx => nomatch hx
    · exact .tuple z fun x hx => nomatch hx)
  refine ⟨box7, ?_, g7.mono (by omega)⟩
  unfold F__law_right
  refine callB_rt rfl (ρ := [.ow box7, .sh (rowD ns), .sh (.list (ts.map .int)), .sh (.tuple (os.map onD)), .no, .ow [.str T1, .str T2, .str T3], .sh (.list [rowD gs, .list (gs.map .int), rowD gs, .str "-", .str "-", .str "-", .tuple [], .list [], .tuple []]), .sh (rowD gs), .sh (.str TG), .no, .no]) ?_ rfl
  show g__law_right [.ow box, .no, .no, .no, .no, .no, .no, .no, .no, .no, .no] = _
  unfold g__law_right
  refine seq_nx (r_1 e1 e2 (by decide)) (seq_nx (r_2 (Nat.zero_le _)) ?_)
  refine seq_nx (sFor_nx (r_3s e3 rg3) f3) (seq_nx (sFor_nx (r_4s e5 rg5) f5) ?_)
  refine seq_nx r_5 (seq_nx (show (sFz 2 _) _ = _ from S6) (seq_nx S7 ?_))
  refine seq_nx (r_8 (R1 (Sq.t _)) (R2 (Sq.l _)) (R3 (Sq.t _)) (by decide)) ?_
  refine seq_nx (r_9 rfl rfl rfl (R1 (Sq.l _)) (R2 (Sq.t _)) (R3 (Sq.l _)) (addLL (by show 3 + 3 ≤ 100000; decide)) (by decide)) ?_
  refine seq_nx (r_10 ad6 six) ?_
  refine heardT_ok (r_h1 rfl rfl W1 (xn_ok (r_ga rfl) rfl W2 (flat_ints ts)) W3) (by show 3 ≤ sizeLine; decide) (by show 6 < 11; decide) (by show 1 ≤ sizeLine; decide) (r_h2 (by decide)) sm3 (fun j hj => ⟨ts.map .int, by rw [List.mem_singleton.mp hj]; rfl, by rw [List.length_map]; show ts.length + 1 ≤ sizeLine; exact size_of (by omega)⟩) rfl ?_
  show gr__law_right_7 [.ow box6, .sh (rowD ns), .sh (.list (ts.map .int)), .sh (.tuple (os.map onD)), u4, .ow [.str T1, .str T2, .str T3], .no, .no, .no, .no, .no] = _
  unfold gr__law_right_7
  refine seq_nx (q_1 rfl rfl rfl W1 W2 W3 sm3 (by decide)) (seq_nx S72 (seq_nx S73 ?_))
  exact seq_nx (q_4 X0 X1 X2 Z0 (Nat.zero_le _) (by decide)) (seq_nx (q_5 Z1 Z2 Y0 Y1 Y2 ad9 (Nat.zero_le _) (by decide)) (q_6 rfl sm9 (Nat.zero_le _) (by decide)))
end W
namespace W
open PySem L2 DL
local macro_rules | `(tactic| walk_at "ev") => `(tactic| simp only [eC, eV, oE, oV, eL, eT, aNil, aCons, eOp2, eOp1, eApp, tstE, eB, tNotG, tAndG, tOrG, eAndG, eOrG, eNotG, eIf, eSeq, eCall, eCallO, eCallB, eCallBF, eCallBX, sSeq, sNext, sRet, sRetF, sRetO, sRetN, sDrop, sIf, sSet, sSetO, sBreak, sCont, sBad, sPar, sPar3, fz, sFz, eCallW, idL, sApp, sPutIx, sAug, sFor, gN, gT, gsCons, gsNil, gYes, eLc, gSeq, nS, nF, Nw.sl, R.ok_bind, R.ok_map, R.lift_some, to_ok, toX_ok, toX_ex, bind_nx, bind_rt, bind_rf, bind_ex, bind_bk, bind_ct, at_ok, at_ex, res_val, map_ex, rbind_ex, Op.res, resA, valA, isOw, box0, Option.map_some, Option.bind_some, sHeardT, nlCons, nlNil, Nw.dat, mSet, eChain, eRg1, eRg2, eSl, pNo, pSo,
  List.getElem?_cons_zero, List.getElem?_cons_succ, List.set_cons_zero, List.set_cons_succ, List.length_cons, List.length_nil, if_true, if_false, Bool.false_eq_true, ite_true, ite_false, reduceIte,
  addU_int, subD_int, ltD_int, leD_int, gtD_int, geD_int, negD_int, absD_int, intD_bool, intD_int, lenD_list, lenD_tuple, lenD_scr, pow10_7, pow10_18, pow10_40, eqW_ints, neW_ints, eqW_strs, neW_strs, eqW_none, eqW_in, eqW_ni, ixD_list, ixD_tuple, ixD_scr, atI_3_0, atI_3_1, atI_3_2, ixN_3_0, ixN_3_1, ixN_3_2, wipeR, zip2D, skOf, isiD_n, isiD_b, isiD_i, isiD_s, isiD_l, isiD_t, isiTD_n, isiTD_b, isiTD_i, isiTD_s, isiTD_l, isiTD_t, isiAny, eCallX, eCallWX, xE, xIf, xL, xCb1, sSetX, sRetX, sDropX, sRaise, sTo, eMk, isX_n, sKeep, kt_ll, kt_lt, kt_ls, kt_li, kt_lb, kt_tl, kt_tt, kt_ts, kt_ti, kt_tb, kt_sl, kt_st, kt_ss, kt_si, kt_sb, kt_il, kt_it, kt_is, kt_ii, kt_ib, kt_bl, kt_bt, kt_bs, kt_bi, kt_bb, kt_nl, kt_nt, kt_ns, kt_ni, kt_nb, eqW_bools, neW_bools, isD_none, isNotD_none, isNoneD, isNone_e, List.map_cons, List.map_nil, List.replicate, List.append_nil, List.cons_append, List.nil_append, nc0, nc1, nc2, nc3, nc4, nc5, nc6, nc7, nc8, nc9, nc10, nc11, nc12, nc13, nc14, nc15, nc16, nc17, nc18, nc19, nc20, Nat.reduceAdd, Nat.reduceSub, ne_eq, decide_true, decide_false, not_true_eq_false, not_false_eq_true, reduceCtorEq, Bool.and_true, Bool.true_and, Bool.and_false, Bool.false_and, Bool.or_true, Bool.true_or, Bool.or_false, Bool.false_or, Bool.not_true, Bool.not_false])
local macro_rules | `(tactic| walk_at "evh") => `(tactic| simp only [eC, eV, oE, oV, eL, eT, aNil, aCons, eOp2, eOp1, eApp, tstE, eB, tNotG, tAndG, tOrG, eAndG, eOrG, eNotG, eIf, eSeq, eCall, eCallO, eCallB, eCallBF, eCallBX, sSeq, sNext, sRet, sRetF, sRetO, sRetN, sDrop, sIf, sSet, sSetO, sBreak, sCont, sBad, sPar, sPar3, fz, sFz, eCallW, idL, sApp, sPutIx, sAug, sFor, gN, gT, gsCons, gsNil, gYes, eLc, gSeq, nS, nF, Nw.sl, R.ok_bind, R.ok_map, R.lift_some, to_ok, toX_ok, toX_ex, bind_nx, bind_rt, bind_rf, bind_ex, bind_bk, bind_ct, at_ok, at_ex, res_val, map_ex, rbind_ex, Op.res, resA, valA, isOw, box0, Option.map_some, Option.bind_some, sHeardT, nlCons, nlNil, Nw.dat, mSet, eChain, eRg1, eRg2, eSl, pNo, pSo,
  List.getElem?_cons_zero, List.getElem?_cons_succ, List.set_cons_zero, List.set_cons_succ, List.length_cons, List.length_nil, if_true, if_false, Bool.false_eq_true, ite_true, ite_false, reduceIte,
  addU_int, subD_int, ltD_int, leD_int, gtD_int, geD_int, negD_int, absD_int, intD_bool, intD_int, lenD_list, lenD_tuple, lenD_scr, pow10_7, pow10_18, pow10_40, eqW_ints, neW_ints, eqW_strs, neW_strs, eqW_none, eqW_in, eqW_ni, ixD_list, ixD_tuple, ixD_scr, atI_3_0, atI_3_1, atI_3_2, ixN_3_0, ixN_3_1, ixN_3_2, wipeR, zip2D, skOf, isiD_n, isiD_b, isiD_i, isiD_s, isiD_l, isiD_t, isiTD_n, isiTD_b, isiTD_i, isiTD_s, isiTD_l, isiTD_t, isiAny, eCallX, eCallWX, xE, xIf, xL, xCb1, sSetX, sRetX, sDropX, sRaise, sTo, eMk, isX_n, sKeep, kt_ll, kt_lt, kt_ls, kt_li, kt_lb, kt_tl, kt_tt, kt_ts, kt_ti, kt_tb, kt_sl, kt_st, kt_ss, kt_si, kt_sb, kt_il, kt_it, kt_is, kt_ii, kt_ib, kt_bl, kt_bt, kt_bs, kt_bi, kt_bb, kt_nl, kt_nt, kt_ns, kt_ni, kt_nb, eqW_bools, neW_bools, isD_none, isNotD_none, isNoneD, isNone_e, List.map_cons, List.map_nil, List.replicate, List.append_nil, List.cons_append, List.nil_append, nc0, nc1, nc2, nc3, nc4, nc5, nc6, nc7, nc8, nc9, nc10, nc11, nc12, nc13, nc14, nc15, nc16, nc17, nc18, nc19, nc20, Nat.reduceAdd, Nat.reduceSub, ne_eq, decide_true, decide_false, not_true_eq_false, not_false_eq_true, reduceCtorEq, Bool.and_true, Bool.true_and, Bool.and_false, Bool.false_and, Bool.or_true, Bool.true_or, Bool.or_false, Bool.false_or, Bool.not_true, Bool.not_false, *])
theorem paired_c {c : D} : ∀ {ds ys : List D}, Paired (fun _ y => y = c) ds ys → ys = ds.map fun _ => c
  | _, _, .nil => rfl
  | _, _, .cons h r => by rw [List.map_cons, ← paired_c r, h]
theorem law_turns (m : Nat) {box : List D} {s0 s1 s2 : Sl} (hb : GoodBox 0 box) (hm : m ≤ 100) : ∃ box', lcL [4] (gN 4) gYes ce_law_1 (rangeD 0 m) [s0, s1, s2, .ow box, .no] = .ok ((rangeD 0 m).map fun _ => PyData.bool true) [s0, s1, s2, .ow box', .no] := by
  obtain ⟨ys, ρ', e, ⟨box', rfl, _⟩, hp⟩ := lc_inv (vs := [4]) (k := gN 4) (t := gYes) (e := ce_law_1) (ds := rangeD 0 m) (fun i ρ => ∃ box, ρ = [s0, s1, s2, .ow box, .no] ∧ GoodBox (100000 * i) box) (fun _ y => y = .bool true)
    (fun i d ρ hd h => by
      obtain ⟨rfl, hi⟩ := rangeD_at hd
      obtain ⟨box, rfl, g⟩ := h
      obtain ⟨box', e, g'⟩ := right_eq g (by omega)
      refine ⟨[s0, s1, s2, .ow box, .sh (.int (i : Int))], rfl, _, rfl, .bool true, [s0, s1, s2, .ow box', .sh (.int (i : Int))], ?_, rfl, box', rfl, g'.mono (by omega)⟩
      clear g g'
      unfold ce_law_1
      walk_at "evh")
    (ρ := [s0, s1, s2, .ow box, .no]) ⟨box, rfl, hb.mono (by omega)⟩
  exact ⟨box', by rw [e, paired_c hp]⟩
theorem turn_go {c : D} {k : Int} {box box' Rg : List D} {s0 s3 : Sl} (e1 : F__law_stream [c, .int k] = some box) (rg : rng1 [.int 2] = some Rg) (hz : Rg.length ≤ sizeLine) (e2 : lcL [4] (gN 4) gYes ce_law_1 Rg [s0, .sh c, .sh (.int k), .ow box, .no] = .ok (Rg.map fun _ => PyData.bool true) [s0, .sh c, .sh (.int k), .ow box', .no]) (al : allD [.list (Rg.map fun _ => PyData.bool true)] = some (.bool true)) :
    gb_law_2 [s0, .sh c, .sh (.int k), s3, .no] = .nx [s0, .sh c, .sh (.int k), .ow box', .no] := by
  unfold gb_law_2
  refine seq_nx (ρ1 := [s0, .sh c, .sh (.int k), .ow box, .no]) ?_ ?_
  · clear e2 al rg hz
    walk_at "evh"
  · have lc := eLc_ok (vs := [4]) (gi := eCall rng1 (aCons (oE (eC (.int 2))) aNil)) (k := gN 4) (t := gYes) (e := ce_law_1) (ρ := [s0, .sh c, .sh (.int k), .ow box, .no]) (ρ1 := [s0, .sh c, .sh (.int k), .ow box, .no]) (by clear e2 al; walk_at "evh") hz e2
    generalize eLc [4] (eCall rng1 (aCons (oE (eC (.int 2))) aNil)) (gN 4) gYes ce_law_1 = g at lc
    generalize (Rg.map fun _ => PyData.bool true) = ys at *
    clear e2 rg hz e1
    walk_at "evh"
theorem lw_1 {r : D} {C : List D} {s2 s3 s4 : Sl} (e1 : F__law_folded [r, .int 3] = some C) : (sSet 1 (eL (eCall F__law_folded (aCons (oE (eV 0)) (aCons (oE (eC (.int 3))) aNil))))) [.sh r, .no, s2, s3, s4] = .nx [.sh r, .sh (.list C), s2, s3, s4] := by
  walk_at "evh"
theorem lw_s {r c : D} {j : Int} {Rg : List D} {s2 s3 s4 : Sl} (hj : lenD [c] = some (.int j)) (rg : rng1 [.int j] = some Rg) : (eCall rng1 (aCons (oE (eApp lenD (aCons (oE (eV 1)) aNil))) aNil)) [.sh r, .sh c, s2, s3, s4] = .ok Rg [.sh r, .sh c, s2, s3, s4] := by
  walk_at "evh"
theorem lw_r {ρ : Rho} : (sRet (eC (.bool true))) ρ = .rt (.bool true) ρ := by
  walk_at "evh"
theorem law_go {r : D} {C Rg : List D} {j : Int} {ρ : Rho} (e1 : F__law_folded [r, .int 3] = some C) (hj : lenD [.list C] = some (.int j)) (rg : rng1 [.int j] = some Rg) (e2 : forL (gN 2) gb_law_2 Rg [.sh r, .sh (.list C), .no, .no, .no] = .nx ρ) : F_law [r] = some (.bool true) := by
  unfold F_law
  exact callP_rt rfl (seq_nx (lw_1 e1) (seq_nx (sFor_nx (lw_s hj rg) e2) lw_r))
theorem law_true (ns : List Int) (hl : ns.length ≤ 63) : F_law [.dict [(.list (ns.map .int), .none)]] = some (.bool true) := by
  obtain ⟨ms, e1, m1, m2⟩ := cells_eq (ns := ns) (m := 3) (by decide)
  have rT : rng1 [.int 2] = some (rangeD 0 2) := rng1_eq (by omega) (by omega)
  obtain ⟨ρ', e3, _⟩ := for_inv (k := gN 2) (b := gb_law_2) (ds := rangeD 0 ms.length)
    (fun i ρ => ∃ s2 s3, ρ = [.sh (.dict [(.list (ns.map .int), .none)]), .sh (.list (ms.map .int)), s2, s3, .no])
    (fun i d ρ hd h => by
      obtain ⟨rfl, hi⟩ := rangeD_at hd
      obtain ⟨s2, s3, rfl⟩ := h
      obtain ⟨box, eb, g⟩ := box_eq (ns := ms) (k := i) (by omega)
      obtain ⟨box', el⟩ := law_turns 2 (s0 := .sh (.dict [(.list (ns.map .int), .none)])) (s1 := .sh (.list (ms.map .int))) (s2 := .sh (.int (i : Int))) g (by omega)
      exact ⟨[.sh (.dict [(.list (ns.map .int), .none)]), .sh (.list (ms.map .int)), .sh (.int (i : Int)), s3, .no], rfl, _, .inl (turn_go eb rT (by rw [rangeD_len]; decide) el (all_true _)), _, _, rfl⟩)
    (ρ := [.sh (.dict [(.list (ns.map .int), .none)]), .sh (.list (ms.map .int)), .no, .no, .no]) ⟨.no, .no, rfl⟩
  exact law_go e1 (j := (ms.length : Int)) (by rw [lenD_list, List.length_map]) (rng1_eq (by omega) (by omega)) e3
end W
namespace W
open PySem L2 DL
def FF (K : PySem.W.Frag) (name : Str) (st : Stmt) : Prop := ∃ (f : Addr) (fd : FuncData), PySem.W.nsIn K mainGlobals name = some (some (.ref f)) ∧ Fun K name name st f fd
theorem ff_mk {K : PySem.W.Frag} {name : Str} {st : Stmt} {f : Addr} {oc : Value} {od an : Option Addr} {osl : Array (Option Value)} {kV doc pm cdv ct : Value} (a : PySem.W.nsIn K mainGlobals name = some (some (.ref f)))
    (l : K.lookup f = some ⟨oc, od, .func (PySem.W.fnOf name name (defArgs st) (defBody st) (defScope st) .none kV doc pm an cdv ct), osl⟩) (c : PySem.W.codeIn K cdv name = true) (k : PySem.W.keepIn K (.ref f) = true) : FF K name st := ⟨f, _, a, fun_mk l c k⟩
theorem kwB_of {K : PySem.W.Frag} {x qual : Str} {st : Stmt} {f : Addr} {fd : FuncData} {ps ks : List Str} {g : {α : Type} → List α → List α} (F : Fun K x qual st f fd) (rel : ∀ {A C : Type} {rel : A → C → Prop} {zs : List A} {ws : List C}, Paired rel zs ws → Paired rel (g zs) (g ws))
    (h : ∀ (kV doc pm : Value) (an : Option Addr) (cdv ct : Value) (ws : List Value), ws.length = ks.length → bindArgs (PySem.W.fnOf x qual (defArgs st) (defBody st) (defScope st) .none kV doc pm an cdv ct) ⟨[], ks.zip ws⟩ = pure (ps.zip (g ws))) : KwB K fd ps ks g := by
  obtain ⟨oc, od, kV, doc, pm, an, cdv, ct, osl, rfl, lk, hcd⟩ := F.ex
  exact ⟨fun s ws _ hl => .of_eq (h kV doc pm an cdv ct ws hl), rel⟩
theorem all_mk {l : PySem.W.OpenLaw} {w : World} {K : PySem.W.Frag} {h : Heap} {mg : Str → Option Value} {fa : Addr} (X : K.In h) (G : h.Ns mainGlobals mg) (hfa : mg "law" = some (.ref fa))
    (f__law_folded : FF K "_law_folded" s__law_folded) (f__law_draw : FF K "_law_draw" s__law_draw) (f__law_joined : FF K "_law_joined" s__law_joined) (f__law_line : FF K "_law_line" s__law_line) (f__law_pick : FF K "_law_pick" s__law_pick) (f__law_same : FF K "_law_same" s__law_same) (f_all_or_none : FF K "all_or_none" s_all_or_none) (f_count_in : FF K "count_in" s_count_in) (f_words_of : FF K "words_of" s_words_of) (f_calls_or_none : FF K "calls_or_none" s_calls_or_none) (f_checked : FF K "checked" s_checked) (f_calls_in : FF K "calls_in" s_calls_in) (f_joined_text : FF K "joined_text" s_joined_text) (f_numbers_text : FF K "numbers_text" s_numbers_text) (f_calls_text : FF K "calls_text" s_calls_text) (f_integer_in : FF K "integer_in" s_integer_in) (f_row_or_none : FF K "row_or_none" s_row_or_none) (f_row_in : FF K "row_in" s_row_in) (f_row_text : FF K "row_text" s_row_text) (f_wish_or_none : FF K "wish_or_none" s_wish_or_none) (f_wish_in : FF K "wish_in" s_wish_in) (f_wish_text : FF K "wish_text" s_wish_text) (f__law_right : FF K "_law_right" s__law_right) (f__law_stream : FF K "_law_stream" s__law_stream) (f_law : FF K "law" s_law)
    (z_list : PySem.W.nsIn K mainGlobals "list" = some none) (z_enumerate : PySem.W.nsIn K mainGlobals "enumerate" = some none) (z_range : PySem.W.nsIn K mainGlobals "range" = some none) (z_tuple : PySem.W.nsIn K mainGlobals "tuple" = some none) (z_len : PySem.W.nsIn K mainGlobals "len" = some none) (z_isinstance : PySem.W.nsIn K mainGlobals "isinstance" = some none) (z_zip : PySem.W.nsIn K mainGlobals "zip" = some none) (z_all : PySem.W.nsIn K mainGlobals "all" = some none) (z_str : PySem.W.nsIn K mainGlobals "str" = some none) (z_bool : PySem.W.nsIn K mainGlobals "bool" = some none) (z_int : PySem.W.nsIn K mainGlobals "int" = some none) (z_ValueError : PySem.W.nsIn K mainGlobals "ValueError" = some none) (z_abs : PySem.W.nsIn K mainGlobals "abs" = some none) {u_MOST_DIGITS : Tok} (w_MOST_DIGITS : PySem.W.nsIn K mainGlobals "MOST_DIGITS" = some (some (.int 50 u_MOST_DIGITS))) {u_DIGITS : Tok} (w_DIGITS : PySem.W.nsIn K mainGlobals "DIGITS" = some (some (.str "0123456789" u_DIGITS))) {u_EMPTY : Tok} (w_EMPTY : PySem.W.nsIn K mainGlobals "EMPTY" = some (some (.str "-" u_EMPTY))) {u_BLANK : Tok} (w_BLANK : PySem.W.nsIn K mainGlobals "BLANK" = some (some (.str " " u_BLANK))) {u_MINUS : Tok} (w_MINUS : PySem.W.nsIn K mainGlobals "MINUS" = some (some (.str "-" u_MINUS))) {u_OPEN : Tok} (w_OPEN : PySem.W.nsIn K mainGlobals "OPEN" = some (some (.str "?" u_OPEN)))
        {C_BadText : Addr} (aC_BadText : PySem.W.nsIn K mainGlobals "BadText" = some (some (.ref C_BadText)))
    {f_iBadText N_BadText : Addr} {nm_BadText q_BadText : Str} {bs_BadText sub_BadText : List Value} {sn_BadText : List Str} {ab_BadText : Bool} {col_BadText : Option Bool} {dd_BadText : Option Addr} {k0_BadText k1_BadText k2_BadText k3_BadText k5_BadText : Option Value}
    {oc_BadText kV_BadText doc_BadText pm_BadText cdv_BadText ct_BadText : Value} {od_BadText an_BadText : Option Addr} {osl_BadText : Array (Option Value)}
    (xL_BadText : K.lookup C_BadText = some (excClassObj nm_BadText q_BadText C_BadText N_BadText bs_BadText tl_ValueError true sn_BadText sub_BadText ab_BadText col_BadText dd_BadText k0_BadText k1_BadText k2_BadText k3_BadText k5_BadText "ValueError.__new__"))
    (sa_BadText : PySem.W.findIn K (.ref C_BadText) "__setattr__" = some (some (.builtin "object.__setattr__"))) (ex_BadText : PySem.W.subIn K (.ref C_BadText) (.type "BaseException") = some true) (ty_BadText : PySem.W.typeIn K (.ref C_BadText) = some (.type "type")) (kp_BadText : PySem.W.keepIn K (.ref C_BadText) = true)
    (no_BadText : PySem.W.findIn K (.ref C_BadText) "text" = some none) (iC_BadText : PySem.W.findIn K (.ref C_BadText) "__init__" = some (some (.ref f_iBadText))) (ti_BadText : PySem.W.typeIn K (.ref f_iBadText) = some (.type "function"))
    (li_BadText : K.lookup f_iBadText = some ⟨oc_BadText, od_BadText, .func (PySem.W.fnOf "__init__" "BadText.__init__" (defArgs si_BadText) (defBody si_BadText) (defScope si_BadText) .none kV_BadText doc_BadText pm_BadText an_BadText cdv_BadText ct_BadText), osl_BadText⟩) (ci_BadText : PySem.W.codeIn K cdv_BadText "BadText.__init__" = true) (ki_BadText : PySem.W.keepIn K (.ref f_iBadText) = true)
    (vB_ValueError : PySem.W.findCls K (.type "ValueError") (.type "type") "__init__" = some (.val (.builtin "ValueError.__init__")))
    (et : etB K CsL UsL = true) :
    ∃ fd : FuncData, (∀ (s : Shared) (v : Value), BindsTo s fd ⟨[v], []⟩ [("_law_script", v)]) ∧ ∀ base : Heap, K.In base → base.Ns mainGlobals mg → FnOk l.prog w K mg base CX0 11 fa fd ["_law_script"] (spP K 1 F_law) := by
  obtain ⟨f__law_folded, d__law_folded, a__law_folded, F__law_folded⟩ := f__law_folded
  obtain ⟨f__law_draw, d__law_draw, a__law_draw, F__law_draw⟩ := f__law_draw
  obtain ⟨f__law_joined, d__law_joined, a__law_joined, F__law_joined⟩ := f__law_joined
  obtain ⟨f__law_line, d__law_line, a__law_line, F__law_line⟩ := f__law_line
  obtain ⟨f__law_pick, d__law_pick, a__law_pick, F__law_pick⟩ := f__law_pick
  obtain ⟨f__law_same, d__law_same, a__law_same, F__law_same⟩ := f__law_same
  obtain ⟨f_all_or_none, d_all_or_none, a_all_or_none, F_all_or_none⟩ := f_all_or_none
  obtain ⟨f_count_in, d_count_in, a_count_in, F_count_in⟩ := f_count_in
  obtain ⟨f_words_of, d_words_of, a_words_of, F_words_of⟩ := f_words_of
  obtain ⟨f_calls_or_none, d_calls_or_none, a_calls_or_none, F_calls_or_none⟩ := f_calls_or_none
  obtain ⟨f_checked, d_checked, a_checked, F_checked⟩ := f_checked
  obtain ⟨f_calls_in, d_calls_in, a_calls_in, F_calls_in⟩ := f_calls_in
  obtain ⟨f_joined_text, d_joined_text, a_joined_text, F_joined_text⟩ := f_joined_text
  obtain ⟨f_numbers_text, d_numbers_text, a_numbers_text, F_numbers_text⟩ := f_numbers_text
  obtain ⟨f_calls_text, d_calls_text, a_calls_text, F_calls_text⟩ := f_calls_text
  obtain ⟨f_integer_in, d_integer_in, a_integer_in, F_integer_in⟩ := f_integer_in
  obtain ⟨f_row_or_none, d_row_or_none, a_row_or_none, F_row_or_none⟩ := f_row_or_none
  obtain ⟨f_row_in, d_row_in, a_row_in, F_row_in⟩ := f_row_in
  obtain ⟨f_row_text, d_row_text, a_row_text, F_row_text⟩ := f_row_text
  obtain ⟨f_wish_or_none, d_wish_or_none, a_wish_or_none, F_wish_or_none⟩ := f_wish_or_none
  obtain ⟨f_wish_in, d_wish_in, a_wish_in, F_wish_in⟩ := f_wish_in
  obtain ⟨f_wish_text, d_wish_text, a_wish_text, F_wish_text⟩ := f_wish_text
  obtain ⟨f__law_right, d__law_right, a__law_right, F__law_right⟩ := f__law_right
  obtain ⟨f__law_stream, d__law_stream, a__law_stream, F__law_stream⟩ := f__law_stream
  obtain ⟨f_law, d_law, a_law, F_law⟩ := f_law
  have e := hfa.symm.trans (PySem.W.mg_of X G a_law)
  cases e
  let T : Tx K mg := {
    a__law_folded := f__law_folded, d__law_folded := d__law_folded, F__law_folded := F__law_folded, m__law_folded := PySem.W.mg_of X G a__law_folded, b__law_folded := (F__law_folded.binds fun _ _ _ _ _ _ us hl => match us, hl with | [_, _], _ => rfl),
    a__law_draw := f__law_draw, d__law_draw := d__law_draw, F__law_draw := F__law_draw, m__law_draw := PySem.W.mg_of X G a__law_draw, b__law_draw := (F__law_draw.binds fun _ _ _ _ _ _ us hl => match us, hl with | [_, _], _ => rfl),
    a__law_joined := f__law_joined, d__law_joined := d__law_joined, F__law_joined := F__law_joined, m__law_joined := PySem.W.mg_of X G a__law_joined, b__law_joined := (F__law_joined.binds fun _ _ _ _ _ _ us hl => match us, hl with | [_], _ => rfl),
    a__law_line := f__law_line, d__law_line := d__law_line, F__law_line := F__law_line, m__law_line := PySem.W.mg_of X G a__law_line, b__law_line := (F__law_line.binds fun _ _ _ _ _ _ us hl => match us, hl with | [_, _, _], _ => rfl),
    a__law_pick := f__law_pick, d__law_pick := d__law_pick, F__law_pick := F__law_pick, m__law_pick := PySem.W.mg_of X G a__law_pick, b__law_pick := (F__law_pick.binds fun _ _ _ _ _ _ us hl => match us, hl with | [_, _], _ => rfl),
    a__law_same := f__law_same, d__law_same := d__law_same, F__law_same := F__law_same, m__law_same := PySem.W.mg_of X G a__law_same, b__law_same := (F__law_same.binds fun _ _ _ _ _ _ us hl => match us, hl with | [_, _], _ => rfl),
    a_all_or_none := f_all_or_none, d_all_or_none := d_all_or_none, F_all_or_none := F_all_or_none, m_all_or_none := PySem.W.mg_of X G a_all_or_none, b_all_or_none := (F_all_or_none.binds fun _ _ _ _ _ _ us hl => match us, hl with | [_], _ => rfl),
    a_count_in := f_count_in, d_count_in := d_count_in, F_count_in := F_count_in, m_count_in := PySem.W.mg_of X G a_count_in, b_count_in := (F_count_in.binds fun _ _ _ _ _ _ us hl => match us, hl with | [_], _ => rfl),
    a_words_of := f_words_of, d_words_of := d_words_of, F_words_of := F_words_of, m_words_of := PySem.W.mg_of X G a_words_of, b_words_of := (F_words_of.binds fun _ _ _ _ _ _ us hl => match us, hl with | [_], _ => rfl),
    a_calls_or_none := f_calls_or_none, d_calls_or_none := d_calls_or_none, F_calls_or_none := F_calls_or_none, m_calls_or_none := PySem.W.mg_of X G a_calls_or_none, b_calls_or_none := (F_calls_or_none.binds fun _ _ _ _ _ _ us hl => match us, hl with | [_], _ => rfl),
    a_checked := f_checked, d_checked := d_checked, F_checked := F_checked, m_checked := PySem.W.mg_of X G a_checked, b_checked := (F_checked.binds fun _ _ _ _ _ _ us hl => match us, hl with | [_, _], _ => rfl),
    a_calls_in := f_calls_in, d_calls_in := d_calls_in, F_calls_in := F_calls_in, m_calls_in := PySem.W.mg_of X G a_calls_in, b_calls_in := (F_calls_in.binds fun _ _ _ _ _ _ us hl => match us, hl with | [_], _ => rfl),
    a_joined_text := f_joined_text, d_joined_text := d_joined_text, F_joined_text := F_joined_text, m_joined_text := PySem.W.mg_of X G a_joined_text, b_joined_text := (F_joined_text.binds fun _ _ _ _ _ _ us hl => match us, hl with | [_], _ => rfl),
    a_numbers_text := f_numbers_text, d_numbers_text := d_numbers_text, F_numbers_text := F_numbers_text, m_numbers_text := PySem.W.mg_of X G a_numbers_text, b_numbers_text := (F_numbers_text.binds fun _ _ _ _ _ _ us hl => match us, hl with | [_], _ => rfl),
    a_calls_text := f_calls_text, d_calls_text := d_calls_text, F_calls_text := F_calls_text, m_calls_text := PySem.W.mg_of X G a_calls_text, b_calls_text := (F_calls_text.binds fun _ _ _ _ _ _ us hl => match us, hl with | [_], _ => rfl),
    a_integer_in := f_integer_in, d_integer_in := d_integer_in, F_integer_in := F_integer_in, m_integer_in := PySem.W.mg_of X G a_integer_in, b_integer_in := (F_integer_in.binds fun _ _ _ _ _ _ us hl => match us, hl with | [_], _ => rfl),
    a_row_or_none := f_row_or_none, d_row_or_none := d_row_or_none, F_row_or_none := F_row_or_none, m_row_or_none := PySem.W.mg_of X G a_row_or_none, b_row_or_none := (F_row_or_none.binds fun _ _ _ _ _ _ us hl => match us, hl with | [_], _ => rfl),
    a_row_in := f_row_in, d_row_in := d_row_in, F_row_in := F_row_in, m_row_in := PySem.W.mg_of X G a_row_in, b_row_in := (F_row_in.binds fun _ _ _ _ _ _ us hl => match us, hl with | [_], _ => rfl),
    a_row_text := f_row_text, d_row_text := d_row_text, F_row_text := F_row_text, m_row_text := PySem.W.mg_of X G a_row_text, b_row_text := (F_row_text.binds fun _ _ _ _ _ _ us hl => match us, hl with | [_], _ => rfl),
    a_wish_or_none := f_wish_or_none, d_wish_or_none := d_wish_or_none, F_wish_or_none := F_wish_or_none, m_wish_or_none := PySem.W.mg_of X G a_wish_or_none, b_wish_or_none := (F_wish_or_none.binds fun _ _ _ _ _ _ us hl => match us, hl with | [_], _ => rfl),
    a_wish_in := f_wish_in, d_wish_in := d_wish_in, F_wish_in := F_wish_in, m_wish_in := PySem.W.mg_of X G a_wish_in, b_wish_in := (F_wish_in.binds fun _ _ _ _ _ _ us hl => match us, hl with | [_], _ => rfl),
    a_wish_text := f_wish_text, d_wish_text := d_wish_text, F_wish_text := F_wish_text, m_wish_text := PySem.W.mg_of X G a_wish_text, b_wish_text := (F_wish_text.binds fun _ _ _ _ _ _ us hl => match us, hl with | [_], _ => rfl),
    a__law_right := f__law_right, d__law_right := d__law_right, F__law_right := F__law_right, m__law_right := PySem.W.mg_of X G a__law_right, b__law_right := (F__law_right.binds fun _ _ _ _ _ _ us hl => match us, hl with | [_], _ => rfl),
    a__law_stream := f__law_stream, d__law_stream := d__law_stream, F__law_stream := F__law_stream, m__law_stream := PySem.W.mg_of X G a__law_stream, b__law_stream := (F__law_stream.binds fun _ _ _ _ _ _ us hl => match us, hl with | [_, _], _ => rfl),
    a_law := fa, d_law := d_law, F_law := F_law, m_law := PySem.W.mg_of X G a_law, b_law := (F_law.binds fun _ _ _ _ _ _ us hl => match us, hl with | [_], _ => rfl),
    k_wish_text_wish := (kwB_of F_wish_text kw_idL fun _ _ _ _ _ _ ws hl => match ws, hl with | [_], _ => rfl),
    k_calls_text_calls := (kwB_of F_calls_text kw_idL fun _ _ _ _ _ _ ws hl => match ws, hl with | [_], _ => rfl),
    k_row_text_row := (kwB_of F_row_text kw_idL fun _ _ _ _ _ _ ws hl => match ws, hl with | [_], _ => rfl),
    k_wish_in_text := (kwB_of F_wish_in kw_idL fun _ _ _ _ _ _ ws hl => match ws, hl with | [_], _ => rfl),
    k_calls_in_text := (kwB_of F_calls_in kw_idL fun _ _ _ _ _ _ ws hl => match ws, hl with | [_], _ => rfl),
    k_row_in_text := (kwB_of F_row_in kw_idL fun _ _ _ _ _ _ ws hl => match ws, hl with | [_], _ => rfl),
    n_list := PySem.W.mg_none_of X G z_list,
    n_enumerate := PySem.W.mg_none_of X G z_enumerate,
    n_range := PySem.W.mg_none_of X G z_range,
    n_tuple := PySem.W.mg_none_of X G z_tuple,
    n_len := PySem.W.mg_none_of X G z_len,
    n_isinstance := PySem.W.mg_none_of X G z_isinstance,
    n_zip := PySem.W.mg_none_of X G z_zip,
    n_all := PySem.W.mg_none_of X G z_all,
    n_str := PySem.W.mg_none_of X G z_str,
    n_bool := PySem.W.mg_none_of X G z_bool,
    n_int := PySem.W.mg_none_of X G z_int,
    n_ValueError := PySem.W.mg_none_of X G z_ValueError,
    n_abs := PySem.W.mg_none_of X G z_abs,
    t_MOST_DIGITS := u_MOST_DIGITS, c_MOST_DIGITS := PySem.W.mg_of X G w_MOST_DIGITS,
    t_DIGITS := u_DIGITS, c_DIGITS := PySem.W.mg_of X G w_DIGITS,
    t_EMPTY := u_EMPTY, c_EMPTY := PySem.W.mg_of X G w_EMPTY,
    t_BLANK := u_BLANK, c_BLANK := PySem.W.mg_of X G w_BLANK,
    t_MINUS := u_MINUS, c_MINUS := PySem.W.mg_of X G w_MINUS,
    t_OPEN := u_OPEN, c_OPEN := PySem.W.mg_of X G w_OPEN,
    c_BadText := C_BadText, cc_BadText := aC_BadText, m_BadText := PySem.W.mg_of X G aC_BadText,
    oc_BadText := ⟨⟨_, _, _, _, _, _, _, _, _, _, _, _, _, _, xL_BadText⟩, sa_BadText, ex_BadText, ty_BadText, kp_BadText⟩, no_BadText := no_BadText, fi_BadText := f_iBadText, fd_BadText := _, Fi_BadText := fun_mk (st := si_BadText) li_BadText ci_BadText ki_BadText, iC_BadText := iC_BadText, ti_BadText := ti_BadText, bi_BadText := ((fun_mk (st := si_BadText) li_BadText ci_BadText ki_BadText).binds fun _ _ _ _ _ _ us hl => match us, hl with | [_, _], _ => rfl),
    vB_ValueError := vB_ValueError,
    et := et }
  obtain ⟨oc, od, kV, doc, pm, an, cdv, ct, osl, ed, lk, hcd⟩ := F_law.ex
  refine ⟨d_law, fun s v => ?_, fun base _ _ => ok_law T⟩
  subst ed
  exact .of_eq rfl
end W
open PySem PySem.W PyProof.Rows
set_option maxHeartbeats 0 in
theorem PySem.Challenge.cw_middlecall_k64_texts_and_back_holds : PySem.Challenge.rw_middlecall_k64_texts_and_back.Holds := by
  w_on; o_law; k_head; (case hw => w_witness2)
  k_fill
  refine L2.walk_of (l := PySem.Challenge.rw_middlecall_k64_texts_and_back) (n := 63) (k := 11) (x := "_law_script") (CX := fun _ => L2.CX0) (sp := fun w => DL.spP _ 1 W.F_law) rfl (by decide) rfl ⟨rfl, by decide, by decide⟩ (fun w h Y => PySem.W.kIn_of Y) ?F (fun _ H a ns hl _ hS => ⟨rfl, H, _, _, L2.Same.refl H, DL.RpA.cons (DL.Rp.scr hS (DL.RpA.ints ns)) DL.RpA.nil, W.law_true ns hl, fun v H1 Z1 _ _ r => by cases r; rfl⟩) (fun _ _ _ _ _ h => h)
  case F =>
    intro w mg fa h KX G hmg
    refine' W.all_mk KX G hmg (W.ff_mk ?a0 ?l0 ?c0 ?k0) (W.ff_mk ?a1 ?l1 ?c1 ?k1) (W.ff_mk ?a2 ?l2 ?c2 ?k2) (W.ff_mk ?a3 ?l3 ?c3 ?k3) (W.ff_mk ?a4 ?l4 ?c4 ?k4) (W.ff_mk ?a5 ?l5 ?c5 ?k5) (W.ff_mk ?a6 ?l6 ?c6 ?k6) (W.ff_mk ?a7 ?l7 ?c7 ?k7) (W.ff_mk ?a8 ?l8 ?c8 ?k8) (W.ff_mk ?a9 ?l9 ?c9 ?k9) (W.ff_mk ?a10 ?l10 ?c10 ?k10) (W.ff_mk ?a11 ?l11 ?c11 ?k11) (W.ff_mk ?a12 ?l12 ?c12 ?k12) (W.ff_mk ?a13 ?l13 ?c13 ?k13) (W.ff_mk ?a14 ?l14 ?c14 ?k14) (W.ff_mk ?a15 ?l15 ?c15 ?k15) (W.ff_mk ?a16 ?l16 ?c16 ?k16) (W.ff_mk ?a17 ?l17 ?c17 ?k17) (W.ff_mk ?a18 ?l18 ?c18 ?k18) (W.ff_mk ?a19 ?l19 ?c19 ?k19) (W.ff_mk ?a20 ?l20 ?c20 ?k20) (W.ff_mk ?a21 ?l21 ?c21 ?k21) (W.ff_mk ?a22 ?l22 ?c22 ?k22) (W.ff_mk ?a23 ?l23 ?c23 ?k23) (W.ff_mk ?a24 ?l24 ?c24 ?k24) ?z0 ?z1 ?z2 ?z3 ?z4 ?z5 ?z6 ?z7 ?z8 ?z9 ?z10 ?z11 ?z12 ?w0 ?w1 ?w2 ?w3 ?w4 ?w5 ?aC_BadText ?xL_BadText ?sa_BadText ?ex_BadText ?ty_BadText ?kp_BadText ?no_BadText ?iC_BadText ?ti_BadText ?li_BadText ?ci_BadText ?ki_BadText ?vB_ValueError ?et
    (case a0 => k_is); (case l0 => k_is); (case c0 => k_is); (case k0 => k_is); (case a1 => k_is); (case l1 => k_is); (case c1 => k_is); (case k1 => k_is); (case a2 => k_is); (case l2 => k_is); (case c2 => k_is); (case k2 => k_is); (case a3 => k_is); (case l3 => k_is); (case c3 => k_is); (case k3 => k_is); (case a4 => k_is); (case l4 => k_is); (case c4 => k_is); (case k4 => k_is); (case a5 => k_is); (case l5 => k_is); (case c5 => k_is); (case k5 => k_is); (case a6 => k_is); (case l6 => k_is); (case c6 => k_is); (case k6 => k_is); (case a7 => k_is); (case l7 => k_is); (case c7 => k_is); (case k7 => k_is); (case a8 => k_is); (case l8 => k_is); (case c8 => k_is); (case k8 => k_is); (case a9 => k_is); (case l9 => k_is); (case c9 => k_is); (case k9 => k_is); (case a10 => k_is); (case l10 => k_is); (case c10 => k_is); (case k10 => k_is); (case a11 => k_is); (case l11 => k_is); (case c11 => k_is); (case k11 => k_is); (case a12 => k_is); (case l12 => k_is); (case c12 => k_is); (case k12 => k_is); (case a13 => k_is); (case l13 => k_is); (case c13 => k_is); (case k13 => k_is); (case a14 => k_is); (case l14 => k_is); (case c14 => k_is); (case k14 => k_is); (case a15 => k_is); (case l15 => k_is); (case c15 => k_is); (case k15 => k_is); (case a16 => k_is); (case l16 => k_is); (case c16 => k_is); (case k16 => k_is); (case a17 => k_is); (case l17 => k_is); (case c17 => k_is); (case k17 => k_is); (case a18 => k_is); (case l18 => k_is); (case c18 => k_is); (case k18 => k_is); (case a19 => k_is); (case l19 => k_is); (case c19 => k_is); (case k19 => k_is); (case a20 => k_is); (case l20 => k_is); (case c20 => k_is); (case k20 => k_is); (case a21 => k_is); (case l21 => k_is); (case c21 => k_is); (case k21 => k_is); (case a22 => k_is); (case l22 => k_is); (case c22 => k_is); (case k22 => k_is); (case a23 => k_is); (case l23 => k_is); (case c23 => k_is); (case k23 => k_is); (case a24 => k_is); (case l24 => k_is); (case c24 => k_is); (case k24 => k_is)
    (case z0 => k_is); (case z1 => k_is); (case z2 => k_is); (case z3 => k_is); (case z4 => k_is); (case z5 => k_is); (case z6 => k_is); (case z7 => k_is); (case z8 => k_is); (case z9 => k_is); (case z10 => k_is); (case z11 => k_is); (case z12 => k_is)
    (case w0 => k_is); (case w1 => k_is); (case w2 => k_is); (case w3 => k_is); (case w4 => k_is); (case w5 => k_is)
    (case aC_BadText => first | k_is | rfl)
    (case xL_BadText => first | k_is | rfl)
    (case sa_BadText => first | k_is | rfl)
    (case ex_BadText => first | k_is | rfl)
    (case ty_BadText => first | k_is | rfl)
    (case kp_BadText => first | k_is | rfl)
    (case no_BadText => first | k_is | rfl)
    (case iC_BadText => first | k_is | rfl)
    (case ti_BadText => first | k_is | rfl)
    (case li_BadText => first | k_is | rfl)
    (case ci_BadText => first | k_is | rfl)
    (case ki_BadText => first | k_is | rfl)
    (case vB_ValueError => first | k_is | rfl)
    (case et => first | kernel_rfl | rfl | k_is)
