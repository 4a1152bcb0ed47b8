import PyProof.Rows.All
import Wide.All
import OpenK.AllK
import Wide.FinOn
import HandS.ForMost
import HandS.Walk
import HandS.Zip
import HandS.Exc
import HandS.ExcInit
import KE.KDictKeyed
import KE.KDictCopyH
import HandS.TupAny
import HandS.TupMul
import HandS.Wide
import HandS.IsInst
import HandS.Style
import HandS.SortInts
import HandS.Conv
import KE.GoesNew
import HandS.Defaults
import HandS.ExcOwn
import HandS.ExcIs
import HandS.ExcField
import HandS.WordsExc
import KE.KExcInit
import KE.KExcIs
import KE.KTryMore
import HandS.ExcValue
import HandS.CallSlots
import HandS.RaiseMore
import KE.KDictZip
import KE.KRevSl
import PyProof.StrLawsRepr
import HandS.SetFor
import HandS.Strs
import HandS.TryOnly
import HandS.Dict
import KE.KDictDisplayH
import KE.KDictList
import KE.SortData
import KE.KDictSum
import HandS.SortOrd
import HandS.Iter
import PySem.Challenge.RW_middlecall_k40_following_rows_listed
set_option Elab.async false
set_option linter.all false
set_option maxRecDepth 100000
set_option maxHeartbeats 4000000
/-! DL: a layer of plain data over the hand layer. Rp: a value stands for data within the frozen heap Z; St: the slots stand for an environment. -/
namespace DL
open PySem L2
abbrev D := PyData
/-- at a: an exception of the class at C with its dict at d -/
def exk (a C d : Addr) : HO := .ext fun h => ∃ (oe : Obj) (vs : Array Value), h.get? a = some oe ∧ Zc (.ref C) (some d) oe ∧ oe.data = .fields vs
/-- the class that a module's name holds -/
def Cls (K : PySem.W.Frag) (c : Str) (C : Addr) : Prop := PySem.W.nsIn K mainGlobals c = some (some (.ref C))
/-- the one field of each error class -/
def fldT : List (Str × Str) := [("NoPerson", "person"), ("NoPlace", "place"), ("NoNumber", "number"), ("NoDeed", "many"), ("OtherPeople", "many"), ("NotWay", "calls"), ("BadDeed", "at"), ("BadText", "text"), ("BadLine", "at"), ("Barred", "reason"), ("TooMany", "many"), ("Full", "many")]
def fld (c : Str) : Str := (fldT.lookup c).getD ""
/-- an exception as data: its class, its field -/
abbrev excD (c : Str) (d : D) : D := .dict [(.none, .str c), (.none, d)]
/-! ### dicts: keys none, ints, tuples of none, ints, bools -/
inductive KK where
  | lf (l : Leaf)
  | tp (ls : List Leaf)
  deriving DecidableEq
def lfD : D → Option Leaf
  | .none => some .none
  | .int i => some (.num i)
  | .bool b => some (.num (if b then 1 else 0))
  | _ => none
def lfDs : List D → Option (List Leaf)
  | [] => some []
  | d :: ds => match lfD d, lfDs ds with
    | some l, some ls => some (l :: ls)
    | _, _ => none
/-- the key that data is -/
def kkD : D → Option KK
  | .tuple ds => (lfDs ds).map .tp
  | .none => some (.lf .none)
  | .int i => some (.lf (.num i))
  | _ => none
def hL : Leaf → Int
  | .none => reduceHash 0xFCA86420
  | .num i => hashInt i
  | .text _ => 0
def hK : KK → Int
  | .lf l => hL l
  | .tp ls => reduceHash (Builtin.Tuple.tupleHashOf (ls.map hL))
def ER (x : KK × V × V) (e : DictEntry) : Prop := e.hash = hK x.1 ∧ RelV x.2.1 e.key ∧ RelV x.2.2 e.val
/-- all keys of one sort, no key twice -/
def KGood (ks : List KK) : Prop := ks.Nodup ∧ ((∀ k ∈ ks, ∃ l, k = .lf l) ∨ ∀ k ∈ ks, ∃ ls, k = .tp ls)
/-- at a: a dict with these keys (as keys, as values) and values -/
def dcO (a : Addr) (kvs : List (KK × V × V)) : HO := .ext fun h => (∃ o es ep, h.get? a = some o ∧ o.ExactDict ∧ o.data = .dict es ep ∧ Paired ER kvs es.toList) ∧ (a == sysModules) = false ∧ kvs.length ≤ sizeLine ∧ KGood (kvs.map (·.1))
/-- a dict as data -/
abbrev dcD (kds : List (D × D)) : D := .dict ((.dict [], .none) :: kds)
mutual
/-- v stands for the data, by what the (frozen) heap Z tells -/
inductive Rp (K : PySem.W.Frag) (Z : Hp) : V → D → Prop
  | non : Rp K Z .non .none
  | bl (b : Bool) : Rp K Z (.bl b) (.bool b)
  | int (i : Int) : Rp K Z (.int i) (.int i)
  | str (x : Str) : Rp K Z (.str x) (.str x)
  | lst {a : Addr} {xs : List V} {ds : List D} : Z a = some (.lst xs) → RpA K Z xs ds → Rp K Z (.ref a) (.list ds)
  | scr {a : Addr} {xs : List V} {ds : List D} : SqL K Z a xs → RpA K Z xs ds → Rp K Z (.ref a) (.dict [(.list ds, .none)])
  | tup {a : Addr} {xs : List V} {ds : List D} : SqT K Z a xs → RpA K Z xs ds → Rp K Z (.ref a) (.tuple ds)
  | exc {a C dx : Addr} {c : Str} {v : V} {d : D} : Z a = some (exk a C dx) → Z dx = some (.xd [(fld c, v)]) → Cls K c C → Rp K Z v d → Rp K Z (.ref a) (.dict [(.none, .str c), (.none, d)])
  | dct {a : Addr} {kvs : List (KK × V × V)} {kds : List (D × D)} : Z a = some (dcO a kvs) → RpK K Z kvs kds → Rp K Z (.ref a) (.dict ((.dict [], .none) :: kds))
inductive RpA (K : PySem.W.Frag) (Z : Hp) : List V → List D → Prop
  | nil : RpA K Z [] []
  | cons {v : V} {vs : List V} {d : D} {ds : List D} : Rp K Z v d → RpA K Z vs ds → RpA K Z (v :: vs) (d :: ds)
inductive RpK (K : PySem.W.Frag) (Z : Hp) : List (KK × V × V) → List (D × D) → Prop
  | nil : RpK K Z [] []
  | cons {k : KK} {x v : V} {c d : D} {kvs : List (KK × V × V)} {kds : List (D × D)} : kkD c = some k → Rp K Z x c → Rp K Z v d → RpK K Z kvs kds → RpK K Z ((k, x, v) :: kvs) ((c, d) :: kds)
end
section
variable {K : PySem.W.Frag} {Z Z' H H' : Hp}
theorem same_rd {a : Addr} {u : HO} (e : Same Z Z') (h : Rd Z a u) : Rd Z' a u := by
  rcases h with h | ⟨o, h⟩
  · exact .inl (e _ _ h)
  · exact .inr ⟨o, e _ _ h⟩
theorem same_t {a : Addr} {xs : List V} (e : Same Z Z') (h : SqT K Z a xs) : SqT K Z' a xs := by
  rcases h with h | h
  · exact .inl (same_rd e h)
  · exact .inr h
theorem same_l {a : Addr} {xs : List V} (e : Same Z Z') (h : SqL K Z a xs) : SqL K Z' a xs := e.seq h
mutual
theorem Rp.mono (e : Same Z Z') : ∀ {v : V} {d : D}, Rp K Z v d → Rp K Z' v d
  | _, _, .non => .non
  | _, _, .bl b => .bl b
  | _, _, .int i => .int i
  | _, _, .str x => .str x
  | _, _, .lst h r => .lst (e _ _ h) (RpA.mono e r)
  | _, _, .scr h r => .scr (same_l e h) (RpA.mono e r)
  | _, _, .tup h r => .tup (same_t e h) (RpA.mono e r)
  | _, _, .exc h1 h2 h3 r => .exc (e _ _ h1) (e _ _ h2) h3 (Rp.mono e r)
  | _, _, .dct h r => .dct (e _ _ h) (RpK.mono e r)
theorem RpA.mono (e : Same Z Z') : ∀ {vs : List V} {ds : List D}, RpA K Z vs ds → RpA K Z' vs ds
  | _, _, .nil => .nil
  | _, _, .cons h r => .cons (Rp.mono e h) (RpA.mono e r)
theorem RpK.mono (e : Same Z Z') : ∀ {vs : List (KK × V × V)} {ds : List (D × D)}, RpK K Z vs ds → RpK K Z' vs ds
  | _, _, .nil => .nil
  | _, _, .cons hk h h2 r => .cons hk (Rp.mono e h) (Rp.mono e h2) (RpK.mono e r)
end
mutual
def noD : D → Bool
  | .none => true
  | .bool _ => true
  | .int _ => true
  | .str _ => true
  | .list xs => noDs xs
  | .tuple xs => noDs xs
  | .dict _ => false
def noDs : List D → Bool
  | [] => true
  | x :: xs => noD x && noDs xs
end
mutual
theorem Rp.dp : ∀ {v : V} {d : D}, Rp K Z v d → noD d = true → Dp K Z v d
  | _, _, .non, _ => .non
  | _, _, .bl b, _ => .bl b
  | _, _, .int i, _ => .int i
  | _, _, .str x, _ => .str x
  | _, _, .lst h r, n => .lst (.inl (.inl h)) (RpA.dp r (by unfold noD at n; exact n))
  | _, _, .tup h r, n => .tup h (RpA.dp r (by unfold noD at n; exact n))
  | _, _, .scr h r, n => by unfold noD at n; cases n
  | _, _, .exc h1 h2 h3 r, n => by unfold noD at n; cases n
  | _, _, .dct h r, n => by unfold noD at n; cases n
theorem RpA.dp : ∀ {vs : List V} {ds : List D}, RpA K Z vs ds → noDs ds = true → DpAll K Z vs ds
  | _, _, .nil, _ => .nil
  | _, _, .cons h r, n => by
    unfold noDs at n
    rw [Bool.and_eq_true] at n
    exact .cons (Rp.dp h n.1) (RpA.dp r n.2)
end
theorem RpA.length : ∀ {vs : List V} {ds : List D}, RpA K Z vs ds → vs.length = ds.length
  | _, _, .nil => rfl
  | _, _, .cons _ r => by rw [List.length_cons, List.length_cons, RpA.length r]
theorem RpA.get : ∀ {vs : List V} {ds : List D} {i : Nat} {d : D}, RpA K Z vs ds → ds[i]? = some d → ∃ v, vs[i]? = some v ∧ Rp K Z v d
  | _, _, _, _, .nil, h => by simp at h
  | _, _, 0, _, .cons (v := v) q _, h => ⟨v, rfl, by simp at h; subst h; exact q⟩
  | _, _, i + 1, _, .cons _ r, h => by
    obtain ⟨v, e, q⟩ := RpA.get (i := i) r (by simpa using h)
    exact ⟨v, by simpa using e, q⟩
theorem RpA.getV : ∀ {vs : List V} {ds : List D} {i : Nat} {v : V}, RpA K Z vs ds → vs[i]? = some v → ∃ d, ds[i]? = some d ∧ Rp K Z v d
  | _, _, _, _, .nil, h => by simp at h
  | _, _, 0, _, .cons (d := d) q _, h => ⟨d, rfl, by simp at h; subst h; exact q⟩
  | _, _, i + 1, _, .cons _ r, h => by
    obtain ⟨v, e, q⟩ := RpA.getV (i := i) r (by simpa using h)
    exact ⟨v, by simpa using e, q⟩
theorem RpA.append : ∀ {vs us : List V} {ds es : List D}, RpA K Z vs ds → RpA K Z us es → RpA K Z (vs ++ us) (ds ++ es)
  | _, _, _, _, .nil, s => s
  | _, _, _, _, .cons h r, s => .cons h (RpA.append r s)
theorem RpA.one {v : V} {d : D} (h : Rp K Z v d) : RpA K Z [v] [d] := .cons h .nil
theorem RpA.take : ∀ {vs : List V} {ds : List D} (n : Nat), RpA K Z vs ds → RpA K Z (vs.take n) (ds.take n)
  | _, _, 0, _ => .nil
  | _, _, _ + 1, .nil => .nil
  | _, _, n + 1, .cons h r => .cons h (RpA.take n r)
theorem RpA.drop : ∀ {vs : List V} {ds : List D} (n : Nat), RpA K Z vs ds → RpA K Z (vs.drop n) (ds.drop n)
  | _, _, 0, r => r
  | _, _, _ + 1, .nil => .nil
  | _, _, n + 1, .cons _ r => RpA.drop n r
theorem RpA.set {v : V} {d : D} (q : Rp K Z v d) : ∀ {vs : List V} {ds : List D} (n : Nat), RpA K Z vs ds → RpA K Z (vs.set n v) (ds.set n d)
  | _, _, _, .nil => .nil
  | _, _, 0, .cons _ r => .cons q r
  | _, _, n + 1, .cons h r => .cons h (RpA.set q n r)
theorem RpA.reverse : ∀ {vs : List V} {ds : List D}, RpA K Z vs ds → RpA K Z vs.reverse ds.reverse
  | _, _, .nil => .nil
  | _, _, .cons h r => by
    rw [List.reverse_cons, List.reverse_cons]
    exact (RpA.reverse r).append (.one h)
theorem RpA.ints : ∀ (ns : List Int), RpA K Z (ns.map V.int) (ns.map PyData.int)
  | [] => .nil
  | n :: r => .cons (.int n) (RpA.ints r)
theorem RpA.of_ints : ∀ {vs : List V} {ns : List Int}, RpA K Z vs (ns.map PyData.int) → vs = ns.map V.int
  | _, [], .nil => rfl
  | _, n :: r, .cons h t => by
    cases h
    rw [List.map_cons, RpA.of_ints t]
theorem RpA.of_bools : ∀ {vs : List V} {ns : List Bool}, RpA K Z vs (ns.map PyData.bool) → vs = ns.map V.bl
  | _, [], .nil => rfl
  | _, n :: r, .cons h t => by
    cases h
    rw [List.map_cons, RpA.of_bools t]
theorem RpA.of_strs : ∀ {vs : List V} {ns : List Str}, RpA K Z vs (ns.map PyData.str) → vs = ns.map V.str
  | _, [], .nil => rfl
  | _, n :: r, .cons h t => by
    cases h
    rw [List.map_cons, RpA.of_strs t]
theorem RpA.strs : ∀ (ns : List Str), RpA K Z (ns.map V.str) (ns.map PyData.str)
  | [] => .nil
  | n :: r => .cons (.str n) (RpA.strs r)
end

/-! ### environments -/
/-- a slot: nothing known, shared data, a list of one's own, a dict of one's own -/
inductive Sl where
  | no
  | sh (d : D)
  | ow (ds : List D)
  | od (kds : List (D × D))
def Sl.isO : Sl → Bool
  | .ow _ => true
  | .od _ => true
  | _ => false
abbrev Rho := List Sl
/-- what an owned slot says of its object -/
def OwR (K : PySem.W.Frag) (Z : Hp) (p : Addr) (o : HO) : Sl → Prop
  | .ow ds => ∃ vs, o = .lst vs ∧ RpA K Z vs ds
  | .od kds => ∃ kvs, o = dcO p kvs ∧ RpK K Z kvs kds
  | _ => False
theorem OwR.mono {K : PySem.W.Frag} {Z Z' : Hp} {p : Addr} {o : HO} {s : Sl} (e : Same Z Z') (h : OwR K Z p o s) : OwR K Z' p o s := by
  cases s with
  | no => exact h
  | sh d => exact h
  | ow ds => obtain ⟨vs, h1, h2⟩ := h; exact ⟨vs, h1, h2.mono e⟩
  | od kds => obtain ⟨vs, h1, h2⟩ := h; exact ⟨vs, h1, h2.mono e⟩
/-- B: what stood at the entry (and stays); Z0: what was frozen there; Z: what is frozen now -/
structure Ok (K : PySem.W.Frag) (b0 : Option Addr) (B Z0 Z H : Hp) (σ : L2.St) (ρ : Rho) : Prop where
  len : σ.length = ρ.length
  bh : Same B H
  zh : Same Z H
  zz : Same Z0 Z
  nb : ∀ p o, Z p = some o → Z0 p = some o ∨ B p = none
  sh : ∀ (i : Nat) (d : D), ρ[i]? = some (.sh d) → ∃ v, σ[i]? = some (some v) ∧ Rp K Z v d
  own : ∀ (i : Nat) (s : Sl), ρ[i]? = some s → s.isO = true → ∃ p o, σ[i]? = some (some (.ref p)) ∧ Z p = none ∧ B p = none ∧ H p = some o ∧ OwR K Z p o s
  fix : ∀ a, b0 = some a → ∀ ds, ρ[0]? = some (.ow ds) → σ[0]? = some (some (.ref a))
  sepS : ∀ (i j : Nat) (p : Addr) (s t : Sl), ρ[i]? = some s → ρ[j]? = some t → s.isO = true → t.isO = true → σ[i]? = some (some (.ref p)) → σ[j]? = some (some (.ref p)) → i = j
/-- p is none of the owned things -/
def Apart (σ : L2.St) (ρ : Rho) (p : Addr) : Prop := ∀ (i : Nat) (s : Sl), ρ[i]? = some s → s.isO = true → σ[i]? ≠ some (some (.ref p))
section
variable {K : PySem.W.Frag} {b0 : Option Addr} {B Z0 Z H : Hp} {σ : L2.St} {ρ : Rho} {p : Addr} {o : HO}
theorem Ok.ow (h : Ok K b0 B Z0 Z H σ ρ) : ∀ (i : Nat) (ds : List D), ρ[i]? = some (.ow ds) → ∃ p vs, σ[i]? = some (some (.ref p)) ∧ Z p = none ∧ B p = none ∧ H p = some (.lst vs) ∧ RpA K Z vs ds := fun i ds e => by
  obtain ⟨p, o, h1, h2, h3, h4, vs, rfl, h5⟩ := h.own i _ e rfl
  exact ⟨p, vs, h1, h2, h3, h4, h5⟩
theorem Ok.od (h : Ok K b0 B Z0 Z H σ ρ) : ∀ (i : Nat) (ds : List (D × D)), ρ[i]? = some (.od ds) → ∃ p vs, σ[i]? = some (some (.ref p)) ∧ Z p = none ∧ B p = none ∧ H p = some (dcO p vs) ∧ RpK K Z vs ds := fun i ds e => by
  obtain ⟨p, o, h1, h2, h3, h4, vs, rfl, h5⟩ := h.own i _ e rfl
  exact ⟨p, vs, h1, h2, h3, h4, h5⟩
theorem Ok.sep (h : Ok K b0 B Z0 Z H σ ρ) : ∀ (i j : Nat) (p : Addr) (ds es : List D), ρ[i]? = some (.ow ds) → ρ[j]? = some (.ow es) → σ[i]? = some (some (.ref p)) → σ[j]? = some (some (.ref p)) → i = j := fun i j p ds es h1 h2 => h.sepS i j p _ _ h1 h2 rfl rfl
/-- a new object, frozen at once -/
theorem Ok.new (h : Ok K b0 B Z0 Z H σ ρ) (hp : H p = none) : Ok K b0 B Z0 (upd Z p o) (upd H p o) σ ρ ∧ Same Z (upd Z p o) := by
  have zp : Z p = none := h.zh.free hp
  have bp : B p = none := h.bh.free hp
  have sz : Same Z (upd Z p o) := fun b x e => by rw [upd_ne (ne_of_none e zp)]; exact e
  refine ⟨⟨h.len, fun b x e => ?_, fun b x e => ?_, h.zz.trans sz, fun b x e => ?_, fun i d e => ?_, fun i s e eo => ?_, h.fix, h.sepS⟩, sz⟩
  · rw [upd_ne (ne_of_none e bp)]; exact h.bh b x e
  · by_cases hb : b = p
    · subst hb; rw [upd_same] at e ⊢; exact e
    · rw [upd_ne hb] at e ⊢; exact h.zh b x e
  · by_cases hb : b = p
    · subst hb; exact .inr bp
    · rw [upd_ne hb] at e; exact h.nb b x e
  · obtain ⟨v, e1, e2⟩ := h.sh i d e
    exact ⟨v, e1, e2.mono sz⟩
  · obtain ⟨q, x, e1, e2, e3, e4, e5⟩ := h.own i s e eo
    have nq : q ≠ p := ne_of_none e4 hp
    exact ⟨q, x, e1, by rw [upd_ne nq]; exact e2, e3, by rw [upd_ne nq]; exact e4, e5.mono sz⟩
/-- a new object, not frozen -/
theorem Ok.fresh (h : Ok K b0 B Z0 Z H σ ρ) (hp : H p = none) : Ok K b0 B Z0 Z (upd H p o) σ ρ ∧ Z p = none ∧ B p = none ∧ Apart σ ρ p := by
  have zp : Z p = none := h.zh.free hp
  have bp : B p = none := h.bh.free hp
  refine ⟨⟨h.len, fun b x e => ?_, fun b x e => ?_, h.zz, h.nb, h.sh, fun i s e eo => ?_, h.fix, h.sepS⟩, zp, bp, fun i s e eo q => ?_⟩
  · rw [upd_ne (ne_of_none e bp)]; exact h.bh b x e
  · rw [upd_ne (ne_of_none e zp)]; exact h.zh b x e
  · obtain ⟨q, x, e1, e2, e3, e4, e5⟩ := h.own i s e eo
    have nq : q ≠ p := ne_of_none e4 hp
    exact ⟨q, x, e1, e2, e3, by rw [upd_ne nq]; exact e4, e5⟩
  · obtain ⟨q', x, e1, e2, e3, e4, e5⟩ := h.own i s e eo
    rw [e1] at q
    cases q
    rw [hp] at e4
    cases e4
/-- an object that nobody else knows is frozen -/
theorem Ok.freeze (h : Ok K b0 B Z0 Z H σ ρ) (zp : Z p = none) (bp : B p = none) (ap : Apart σ ρ p) (hp : H p = some o) : Ok K b0 B Z0 (upd Z p o) H σ ρ ∧ Same Z (upd Z p o) := by
  have sz : Same Z (upd Z p o) := fun b x e => by rw [upd_ne (ne_of_none e zp)]; exact e
  refine ⟨⟨h.len, h.bh, fun b x e => ?_, h.zz.trans sz, fun b x e => ?_, fun i d e => ?_, fun i s e eo => ?_, h.fix, h.sepS⟩, sz⟩
  · by_cases hb : b = p
    · subst hb; rw [upd_same] at e; rw [← e]; exact hp
    · rw [upd_ne hb] at e; exact h.zh b x e
  · by_cases hb : b = p
    · subst hb; exact .inr bp
    · rw [upd_ne hb] at e; exact h.nb b x e
  · obtain ⟨v, e1, e2⟩ := h.sh i d e
    exact ⟨v, e1, e2.mono sz⟩
  · obtain ⟨q, x, e1, e2, e3, e4, e5⟩ := h.own i s e eo
    have nq : q ≠ p := fun z => ap i s e eo (by rw [e1, z])
    exact ⟨q, x, e1, by rw [upd_ne nq]; exact e2, e3, e4, e5.mono sz⟩
/-- an object that nobody else knows changes -/
theorem Ok.write (h : Ok K b0 B Z0 Z H σ ρ) (zp : Z p = none) (bp : B p = none) (ap : Apart σ ρ p) : Ok K b0 B Z0 Z (upd H p o) σ ρ := by
  refine ⟨h.len, fun b x e => ?_, fun b x e => ?_, h.zz, h.nb, h.sh, fun i s e eo => ?_, h.fix, h.sepS⟩
  · rw [upd_ne (ne_of_none e bp)]; exact h.bh b x e
  · rw [upd_ne (ne_of_none e zp)]; exact h.zh b x e
  · obtain ⟨q, x, e1, e2, e3, e4, e5⟩ := h.own i s e eo
    have nq : q ≠ p := fun z => ap i s e eo (by rw [e1, z])
    exact ⟨q, x, e1, e2, e3, by rw [upd_ne nq]; exact e4, e5⟩
theorem set_get {α : Type} {l : List α} {i j : Nat} {x y : α} (h : (l.set i x)[j]? = some y) : (i = j ∧ x = y) ∨ (i ≠ j ∧ l[j]? = some y) := by
  by_cases hij : i = j
  · subst hij
    by_cases hl : i < l.length
    · rw [List.getElem?_set_self hl] at h
      exact .inl ⟨rfl, Option.some.inj h⟩
    · rw [List.getElem?_eq_none (by simpa using hl)] at h
      cases h
  · rw [List.getElem?_set_ne hij] at h
    exact .inr ⟨hij, h⟩
/-- shared data goes into a slot -/
theorem Ok.put {i : Nat} {v : V} {d : D} (h : Ok K b0 B Z0 Z H σ ρ) (r : Rp K Z v d) : Ok K b0 B Z0 Z H (σ.set i (some v)) (ρ.set i (.sh d)) := by
  have hl := h.len
  refine ⟨by rw [List.length_set, List.length_set]; exact hl, h.bh, h.zh, h.zz, h.nb, fun j d' e => ?_, fun j s e eo => ?_, fun a ha ds e => ?_, fun j k q s t e1 e2 o1 o2 e3 e4 => ?_⟩
  · by_cases hij : i = j
    · subst hij
      have hi : i < ρ.length := by
        by_cases q : i < ρ.length
        · exact q
        · rw [List.getElem?_eq_none (by simpa using q)] at e; cases e
      rw [List.getElem?_set_self hi] at e
      cases e
      exact ⟨v, by rw [List.getElem?_set_self (by omega)], r⟩
    · rw [List.getElem?_set_ne hij] at e
      rw [List.getElem?_set_ne hij]
      exact h.sh j d' e
  · rcases set_get e with ⟨_, z⟩ | ⟨n, e⟩
    · subst z; cases eo
    · rw [List.getElem?_set_ne n]
      exact h.own j s e eo
  · rcases set_get e with ⟨_, z⟩ | ⟨n, e⟩
    · cases z
    · rw [List.getElem?_set_ne n]
      exact h.fix a ha ds e
  · rcases set_get e1 with ⟨_, z⟩ | ⟨n1, e1⟩
    · subst z; cases o1
    · rcases set_get e2 with ⟨_, z⟩ | ⟨n2, e2⟩
      · subst z; cases o2
      · rw [List.getElem?_set_ne n1] at e3
        rw [List.getElem?_set_ne n2] at e4
        exact h.sepS j k q s t e1 e2 o1 o2 e3 e4
/-- an own thing goes into a slot -/
theorem Ok.putS {i : Nat} {s0 : Sl} (h : Ok K b0 B Z0 Z H σ ρ) (zp : Z p = none) (bp : B p = none) (ap : Apart σ ρ p) (hp : H p = some o) (ho : s0.isO = true) (r : OwR K Z p o s0) (hf : ∀ a, b0 = some a → i = 0 → p = a) :
    Ok K b0 B Z0 Z H (σ.set i (some (.ref p))) (ρ.set i s0) := by
  have hl := h.len
  refine ⟨by rw [List.length_set, List.length_set]; exact hl, h.bh, h.zh, h.zz, h.nb, fun j d' e => ?_, fun j s e eo => ?_, fun a ha ds e => ?_, fun j k q s t e1 e2 o1 o2 e3 e4 => ?_⟩
  · rcases set_get e with ⟨_, z⟩ | ⟨n, e⟩
    · subst z; cases ho
    · rw [List.getElem?_set_ne n]
      exact h.sh j d' e
  · by_cases hij : i = j
    · subst hij
      have hi : i < ρ.length := by
        by_cases q : i < ρ.length
        · exact q
        · rw [List.getElem?_eq_none (by simpa using q)] at e; cases e
      rw [List.getElem?_set_self hi] at e
      cases e
      exact ⟨p, o, by rw [List.getElem?_set_self (by omega)], zp, bp, hp, r⟩
    · rw [List.getElem?_set_ne hij] at e
      rw [List.getElem?_set_ne hij]
      exact h.own j s e eo
  · by_cases hi0 : i = 0
    · subst hi0
      have hl0 : 0 < ρ.length := by
        by_cases q : 0 < ρ.length
        · exact q
        · rw [List.getElem?_eq_none (by rw [List.length_set]; omega)] at e; cases e
      rw [hf a ha rfl, List.getElem?_set_self (by omega)]
    · rw [List.getElem?_set_ne hi0] at e
      rw [List.getElem?_set_ne hi0]
      exact h.fix a ha ds e
  · rcases set_get e1 with ⟨i1, _⟩ | ⟨n1, e1⟩
    · rcases set_get e2 with ⟨i2, _⟩ | ⟨n2, e2⟩
      · rw [← i1, ← i2]
      · rw [List.getElem?_set_ne n2] at e4
        rcases set_get e3 with ⟨_, z⟩ | ⟨n, _⟩
        · cases z; exact absurd e4 (ap k t e2 o2)
        · exact absurd i1 n
    · rw [List.getElem?_set_ne n1] at e3
      rcases set_get e2 with ⟨i2, _⟩ | ⟨n2, e2⟩
      · rcases set_get e4 with ⟨_, z⟩ | ⟨n, _⟩
        · cases z; exact absurd e3 (ap j s e1 o1)
        · exact absurd i2 n
      · rw [List.getElem?_set_ne n2] at e4
        exact h.sepS j k q s t e1 e2 o1 o2 e3 e4
theorem Ok.putO {i : Nat} {vs : List V} {ds : List D} (h : Ok K b0 B Z0 Z H σ ρ) (zp : Z p = none) (bp : B p = none) (ap : Apart σ ρ p) (hp : H p = some (.lst vs)) (r : RpA K Z vs ds) (hf : ∀ a, b0 = some a → i = 0 → p = a) :
    Ok K b0 B Z0 Z H (σ.set i (some (.ref p))) (ρ.set i (.ow ds)) := h.putS zp bp ap hp rfl ⟨vs, rfl, r⟩ hf
theorem Ok.putD {i : Nat} {vs : List (KK × V × V)} {ds : List (D × D)} (h : Ok K b0 B Z0 Z H σ ρ) (zp : Z p = none) (bp : B p = none) (ap : Apart σ ρ p) (hp : H p = some (dcO p vs)) (r : RpK K Z vs ds) (hf : ∀ a, b0 = some a → i = 0 → p = a) :
    Ok K b0 B Z0 Z H (σ.set i (some (.ref p))) (ρ.set i (.od ds)) := h.putS zp bp ap hp rfl ⟨vs, rfl, r⟩ hf
/-- forgetting slots -/
theorem Ok.weak {σ' : L2.St} {ρ' : Rho} (h : Ok K b0 B Z0 Z H σ ρ) (hl : σ'.length = ρ'.length) (hs : ∀ (i : Nat) (s : Sl), ρ'[i]? = some s → s = .no ∨ (ρ[i]? = some s ∧ σ'[i]? = σ[i]?)) : Ok K b0 B Z0 Z H σ' ρ' := by
  refine ⟨hl, h.bh, h.zh, h.zz, h.nb, fun j d e => ?_, fun j s e eo => ?_, fun a ha ds e => ?_, fun j k q s t e1 e2 o1 o2 e3 e4 => ?_⟩
  · rcases hs j _ e with z | ⟨z, y⟩
    · cases z
    · rw [y]; exact h.sh j d z
  · rcases hs j _ e with z | ⟨z, y⟩
    · subst z; cases eo
    · rw [y]; exact h.own j s z eo
  · rcases hs 0 _ e with z | ⟨z, y⟩
    · cases z
    · rw [y]; exact h.fix a ha ds z
  · rcases hs j _ e1 with z | ⟨z1, y1⟩
    · subst z; cases o1
    · rcases hs k _ e2 with z | ⟨z2, y2⟩
      · subst z; cases o2
      · rw [y1] at e3
        rw [y2] at e4
        exact h.sepS j k q s t z1 z2 o1 o2 e3 e4
end
end DL

namespace DL
open PySem L2
/-- a result: a value and the environment behind it; an exception of a class by its name, with its one field; nothing that is told -/
inductive R (α : Type) where
  | ok (a : α) (ρ : Rho)
  | ex (c : Str) (d : D) (ρ : Rho)
  | bad
def R.bind {α β : Type} (r : R α) (f : α → Rho → R β) : R β := match r with
  | .ok a ρ => f a ρ
  | .ex c d ρ => .ex c d ρ
  | .bad => .bad
def R.map {α β : Type} (f : α → β) (r : R α) : R β := match r with
  | .ok a ρ => .ok (f a) ρ
  | .ex c d ρ => .ex c d ρ
  | .bad => .bad
def R.lift {α : Type} (x : Option α) (ρ : Rho) : R α := match x with
  | some a => .ok a ρ
  | none => .bad
theorem R.bind_ok {α β : Type} {r : R α} {f : α → Rho → R β} {b : β} {ρ' : Rho} (h : r.bind f = .ok b ρ') : ∃ a ρ1, r = .ok a ρ1 ∧ f a ρ1 = .ok b ρ' := by
  cases r with
  | ok a ρ1 => exact ⟨a, ρ1, rfl, h⟩
  | ex c d ρ1 => cases h
  | bad => cases h
theorem R.map_ok {α β : Type} {r : R α} {f : α → β} {b : β} {ρ' : Rho} (h : r.map f = .ok b ρ') : ∃ a, r = .ok a ρ' ∧ f a = b := by
  cases r with
  | ok a ρ1 => cases h; exact ⟨a, rfl, rfl⟩
  | ex c d ρ1 => cases h
  | bad => cases h
theorem R.lift_ok {α : Type} {x : Option α} {ρ ρ' : Rho} {a : α} (h : R.lift x ρ = .ok a ρ') : x = some a ∧ ρ = ρ' := by
  cases x with
  | some b => cases h; exact ⟨rfl, rfl⟩
  | none => cases h
@[simp] theorem R.ok_bind {α β : Type} (a : α) (ρ : Rho) (f : α → Rho → R β) : (R.ok a ρ).bind f = f a ρ := rfl
@[simp] theorem R.ok_map {α β : Type} (a : α) (ρ : Rho) (f : α → β) : (R.ok a ρ).map f = .ok (f a) ρ := rfl
@[simp] theorem R.lift_some {α : Type} (a : α) (ρ : Rho) : R.lift (some a) ρ = .ok a ρ := rfl
/-- an operand: data, or the list of one's own in a slot -/
inductive Op where
  | val (d : D)
  | own (i : Nat)
def Op.res (o : Op) (ρ : Rho) : Option D := match o with
  | .val d => some d
  | .own i => match ρ[i]? with
    | some (.ow ds) => some (.list ds)
    | some (.od kds) => some (.dict ((.dict [], .none) :: kds))
    | _ => none
abbrev GE := Rho → R D
abbrev GO := Rho → R Op
abbrev GT := Rho → R Bool
abbrev GF := Rho → R (List D)
abbrev GA := Rho → R (List Op)
/-- v stands for data by H, its items by Z -/
inductive Bd (K : PySem.W.Frag) (Z H : Hp) : V → D → Prop
  | non : Bd K Z H .non .none
  | bl (b : Bool) : Bd K Z H (.bl b) (.bool b)
  | int (i : Int) : Bd K Z H (.int i) (.int i)
  | str (x : Str) : Bd K Z H (.str x) (.str x)
  | lst {a : Addr} {xs : List V} {ds : List D} : H a = some (.lst xs) → RpA K Z xs ds → Bd K Z H (.ref a) (.list ds)
  | scr {a : Addr} {xs : List V} {ds : List D} : SqL K H a xs → RpA K Z xs ds → Bd K Z H (.ref a) (.dict [(.list ds, .none)])
  | tup {a : Addr} {xs : List V} {ds : List D} : SqT K Z a xs → RpA K Z xs ds → Bd K Z H (.ref a) (.tuple ds)
  | exc {a C dx : Addr} {c : Str} {v : V} {d : D} : Z a = some (exk a C dx) → Z dx = some (.xd [(fld c, v)]) → Cls K c C → Rp K Z v d → Bd K Z H (.ref a) (.dict [(.none, .str c), (.none, d)])
  | dct {a : Addr} {kvs : List (KK × V × V)} {kds : List (D × D)} : H a = some (dcO a kvs) → RpK K Z kvs kds → Bd K Z H (.ref a) (.dict ((.dict [], .none) :: kds))
inductive BdA (K : PySem.W.Frag) (Z H : Hp) : List V → List D → Prop
  | nil : BdA K Z H [] []
  | cons {v : V} {vs : List V} {d : D} {ds : List D} : Bd K Z H v d → BdA K Z H vs ds → BdA K Z H (v :: vs) (d :: ds)
def OpR' (K : PySem.W.Frag) (Z : Hp) (σ : L2.St) (v : V) : Op → Prop
  | .val d => Rp K Z v d
  | .own i => σ[i]? = some (some v)
section
variable {K : PySem.W.Frag} {b0 : Option Addr} {B Z0 Z Z' H : Hp} {σ : L2.St} {ρ : Rho} {v : V} {d : D}
theorem Rp.bd (r : Rp K Z v d) (e : Same Z H) : Bd K Z H v d := by
  cases r with
  | non => exact .non
  | bl b => exact .bl b
  | int i => exact .int i
  | str x => exact .str x
  | lst h r => exact .lst (e _ _ h) r
  | scr h r => exact .scr (same_l e h) r
  | tup h r => exact .tup h r
  | exc h1 h2 h3 r => exact .exc h1 h2 h3 r
  | dct h r => exact .dct (e _ _ h) r
theorem OpR'.mono (e : Same Z Z') {o : Op} (h : OpR' K Z σ v o) : OpR' K Z' σ v o := by
  cases o with
  | val d => exact Rp.mono e h
  | own i => exact h
theorem Ok.bd (h : Ok K b0 B Z0 Z H σ ρ) {o : Op} (ho : OpR' K Z σ v o) (e : o.res ρ = some d) : Bd K Z H v d := by
  cases o with
  | val d' => cases e; exact Rp.bd ho h.zh
  | own i =>
    unfold Op.res at e
    dsimp only at e
    split at e
    · rename_i ds hi
      cases e
      obtain ⟨p, vs, e1, e2, e3, e4, e5⟩ := h.ow i ds hi
      have e6 : σ[i]? = some (some v) := ho
      rw [e1] at e6
      cases e6
      exact .lst e4 e5
    · rename_i ds hi
      cases e
      obtain ⟨p, vs, e1, e2, e3, e4, e5⟩ := h.od i ds hi
      have e6 : σ[i]? = some (some v) := ho
      rw [e1] at e6
      cases e6
      exact .dct e4 e5
    · cases e
end
/-! ### judgements -/
/-- an expression that gives data -/
def DE (K : PySem.W.Frag) (t : TE) (g : GE) : Prop := ∀ b0 B Z0 Z H σ ρ d ρ' (Q : VK), Ok K b0 B Z0 Z H σ ρ → g ρ = .ok d ρ' → (∀ v H' Z', Ok K b0 B Z0 Z' H' σ ρ' → Same Z Z' → Rp K Z' v d → Q v H') → t σ H Q
/-- .. an operand -/
def DO (K : PySem.W.Frag) (t : TE) (g : GO) : Prop := ∀ b0 B Z0 Z H σ ρ o ρ' (Q : VK), Ok K b0 B Z0 Z H σ ρ → g ρ = .ok o ρ' → (∀ v H' Z', Ok K b0 B Z0 Z' H' σ ρ' → Same Z Z' → OpR' K Z' σ v o → Q v H') → t σ H Q
/-- .. a new list -/
def DF (K : PySem.W.Frag) (t : TE) (g : GF) : Prop := ∀ b0 B Z0 Z H σ ρ ds ρ' (Q : VK), Ok K b0 B Z0 Z H σ ρ → g ρ = .ok ds ρ' →
  (∀ p vs H' Z', Ok K b0 B Z0 Z' H' σ ρ' → Same Z Z' → Z' p = none → B p = none → Apart σ ρ' p → H' p = some (.lst vs) → RpA K Z' vs ds → Q (.ref p) H') → t σ H Q
/-- a test -/
def DT (K : PySem.W.Frag) (t : TT) (g : GT) : Prop := ∀ b0 B Z0 Z H σ ρ b ρ' (Q : Bool → Hp → Prop), Ok K b0 B Z0 Z H σ ρ → g ρ = .ok b ρ' → (∀ H' Z', Ok K b0 B Z0 Z' H' σ ρ' → Same Z Z' → Q b H') → t σ H Q
inductive OpA (K : PySem.W.Frag) (Z : Hp) (σ : L2.St) : List V → List Op → Prop
  | nil : OpA K Z σ [] []
  | cons {v : V} {vs : List V} {o : Op} {os : List Op} : OpR' K Z σ v o → OpA K Z σ vs os → OpA K Z σ (v :: vs) (o :: os)
/-- arguments -/
def DA (K : PySem.W.Frag) (t : TA) (g : GA) : Prop := ∀ b0 B Z0 Z H σ ρ os ρ' (Q : List V → Hp → Prop), Ok K b0 B Z0 Z H σ ρ → g ρ = .ok os ρ' → (∀ vs H' Z', Ok K b0 B Z0 Z' H' σ ρ' → Same Z Z' → OpA K Z' σ vs os → Q vs H') → t σ H Q
def resA : List Op → Rho → Option (List D)
  | [], _ => some []
  | o :: os, ρ => match o.res ρ, resA os ρ with
    | some d, some ds => some (d :: ds)
    | _, _ => none
/-! ### the data's combinators -/
def eC (d : D) (ρ : Rho) : R D := .ok d ρ
def eV (i : Nat) (ρ : Rho) : R D := match ρ[i]? with
  | some (.sh d) => .ok d ρ
  | _ => .bad
def oE (g : GE) (ρ : Rho) : R Op := (g ρ).map .val
def oV (i : Nat) (ρ : Rho) : R Op := match ρ[i]? with
  | some (.ow _) => .ok (.own i) ρ
  | some (.od _) => .ok (.own i) ρ
  | _ => .bad
def eL (g : GF) (ρ : Rho) : R D := (g ρ).map .list
def aNil (ρ : Rho) : R (List Op) := .ok [] ρ
def aCons (g : GO) (r : GA) (ρ : Rho) : R (List Op) := (g ρ).bind fun o ρ1 => (r ρ1).map (o :: ·)
def eOp2 {α : Type} (f : D → D → Option α) (a b : GO) (ρ : Rho) : R α := (a ρ).bind fun x ρ1 => (b ρ1).bind fun y ρ2 => match x.res ρ2, y.res ρ2 with
  | some d, some e => R.lift (f d e) ρ2
  | _, _ => .bad
def eOp1 {α : Type} (f : D → Option α) (a : GO) (ρ : Rho) : R α := (a ρ).bind fun x ρ1 => match x.res ρ1 with
  | some d => R.lift (f d) ρ1
  | _ => .bad
def eApp {α : Type} (f : List D → Option α) (as : GA) (ρ : Rho) : R α := (as ρ).bind fun os ρ1 => match resA os ρ1 with
  | some ds => R.lift (f ds) ρ1
  | none => .bad
def tstE (g : GE) (ρ : Rho) : R Bool := (g ρ).bind fun d ρ1 => match d with
  | .bool b => .ok b ρ1
  | _ => .bad
def eB (g : GT) (ρ : Rho) : R D := (g ρ).map .bool
def tNotG (g : GT) (ρ : Rho) : R Bool := (g ρ).map (!·)
def tAndG (a b : GT) (ρ : Rho) : R Bool := (a ρ).bind fun c ρ1 => if c then b ρ1 else .ok false ρ1
def tOrG (a b : GT) (ρ : Rho) : R Bool := (a ρ).bind fun c ρ1 => if c then .ok true ρ1 else b ρ1
def eAndG (a b : GE) (ρ : Rho) : R D := (a ρ).bind fun c ρ1 => match c with
  | .bool true => b ρ1
  | .bool false => .ok (.bool false) ρ1
  | _ => .bad
def eOrG (a b : GE) (ρ : Rho) : R D := (a ρ).bind fun c ρ1 => match c with
  | .bool true => .ok (.bool true) ρ1
  | .bool false => b ρ1
  | _ => .bad
def eNotG (a : GE) (ρ : Rho) : R D := (a ρ).bind fun c ρ1 => match c with
  | .bool c => .ok (.bool (!c)) ρ1
  | _ => .bad
def eIf {α : Type} (c : GT) (a b : Rho → R α) (ρ : Rho) : R α := (c ρ).bind fun k ρ1 => if k then a ρ1 else b ρ1
/-! ### a rule by values is sound for a function on data -/
def Sn2 (K : PySem.W.Frag) (r : R2) (f : D → D → Option D) : Prop := ∀ b0 B Z0 Z H σ ρ x y a b c (Q : VK), Ok K b0 B Z0 Z H σ ρ → Bd K Z H x a → Bd K Z H y b → f a b = some c → (∀ v H' Z', Ok K b0 B Z0 Z' H' σ ρ → Same Z Z' → Rp K Z' v c → Q v H') → r x y H Q
def Sn2F (K : PySem.W.Frag) (r : R2) (f : D → D → Option (List D)) : Prop := ∀ b0 B Z0 Z H σ ρ x y a b c (Q : VK), Ok K b0 B Z0 Z H σ ρ → Bd K Z H x a → Bd K Z H y b → f a b = some c →
  (∀ p vs H', Ok K b0 B Z0 Z H' σ ρ → Z p = none → B p = none → Apart σ ρ p → H' p = some (.lst vs) → RpA K Z vs c → Q (.ref p) H') → r x y H Q
def Sn1 (K : PySem.W.Frag) (r : V → Hp → VK → Prop) (f : D → Option D) : Prop := ∀ b0 B Z0 Z H σ ρ x a c (Q : VK), Ok K b0 B Z0 Z H σ ρ → Bd K Z H x a → f a = some c → (∀ v H' Z', Ok K b0 B Z0 Z' H' σ ρ → Same Z Z' → Rp K Z' v c → Q v H') → r x H Q
def SnA (K : PySem.W.Frag) (r : List V → Hp → VK → Prop) (f : List D → Option D) : Prop := ∀ b0 B Z0 Z H σ ρ xs as c (Q : VK), Ok K b0 B Z0 Z H σ ρ → BdA K Z H xs as → f as = some c → (∀ v H' Z', Ok K b0 B Z0 Z' H' σ ρ → Same Z Z' → Rp K Z' v c → Q v H') → r xs H Q
def SnAF (K : PySem.W.Frag) (r : List V → Hp → VK → Prop) (f : List D → Option (List D)) : Prop := ∀ b0 B Z0 Z H σ ρ xs as c (Q : VK), Ok K b0 B Z0 Z H σ ρ → BdA K Z H xs as → f as = some c →
  (∀ p vs H', Ok K b0 B Z0 Z H' σ ρ → Z p = none → B p = none → Apart σ ρ p → H' p = some (.lst vs) → RpA K Z vs c → Q (.ref p) H') → r xs H Q
section
variable {K : PySem.W.Frag} {ta tb te : TE} {tt tu : TT} {tas : TA}
theorem de_c {v : V} {d : D} (h : ∀ Z, Rp K Z v d) : DE K (tC v) (eC d) := fun b0 B Z0 Z H σ ρ d' ρ' Q ok e q => by
  cases e
  exact q v H Z ok (Same.refl Z) (h Z)
theorem de_int {i : Int} : DE K (tC (.int i)) (eC (.int i)) := de_c fun _ => .int i
theorem de_bl {b : Bool} : DE K (tC (.bl b)) (eC (.bool b)) := de_c fun _ => .bl b
theorem de_non : DE K (tC .non) (eC .none) := de_c fun _ => .non
theorem de_str {x : Str} : DE K (tC (.str x)) (eC (.str x)) := de_c fun _ => .str x
theorem de_v {i : Nat} : DE K (tVar i) (eV i) := fun b0 B Z0 Z H σ ρ d ρ' Q ok e q => by
  unfold eV at e
  split at e
  · rename_i d' hi
    cases e
    obtain ⟨v, e1, e2⟩ := ok.sh i _ hi
    exact ⟨v, e1, q v H Z ok (Same.refl Z) e2⟩
  · cases e
theorem do_e {g : GE} (h : DE K te g) : DO K te (oE g) := fun b0 B Z0 Z H σ ρ o ρ' Q ok e q => by
  obtain ⟨d, e1, rfl⟩ := R.map_ok e
  exact h b0 B Z0 Z H σ ρ d ρ' Q ok e1 fun v H' Z' ok' s r => q v H' Z' ok' s r
theorem do_v {i : Nat} : DO K (tVar i) (oV i) := fun b0 B Z0 Z H σ ρ o ρ' Q ok e q => by
  unfold oV at e
  split at e
  · rename_i ds hi
    cases e
    obtain ⟨p, vs, e1, _⟩ := ok.ow i ds hi
    exact ⟨.ref p, e1, q (.ref p) H Z ok (Same.refl Z) e1⟩
  · rename_i ds hi
    cases e
    obtain ⟨p, vs, e1, _⟩ := ok.od i ds hi
    exact ⟨.ref p, e1, q (.ref p) H Z ok (Same.refl Z) e1⟩
  · cases e
theorem de_l {g : GF} (h : DF K te g) : DE K te (eL g) := fun b0 B Z0 Z H σ ρ d ρ' Q ok e q => by
  obtain ⟨ds, e1, rfl⟩ := R.map_ok e
  refine h b0 B Z0 Z H σ ρ ds ρ' Q ok e1 fun p vs H' Z' ok' s zp bp ap hp r => ?_
  obtain ⟨ok2, s2⟩ := ok'.freeze zp bp ap hp
  exact q (.ref p) H' _ ok2 (s.trans s2) (.lst upd_same (r.mono s2))
theorem da_nil : DA K tNil aNil := fun b0 B Z0 Z H σ ρ os ρ' Q ok e q => by
  cases e
  exact q [] H Z ok (Same.refl Z) .nil
theorem OpA.mono {Z Z' : Hp} {σ : L2.St} (e : Same Z Z') : ∀ {vs : List V} {os : List Op}, OpA K Z σ vs os → OpA K Z' σ vs os
  | _, _, .nil => .nil
  | _, _, .cons h r => .cons (h.mono e) (OpA.mono e r)
theorem da_cons {g : GO} {r : GA} (h : DO K te g) (hr : DA K tas r) : DA K (tCons te tas) (aCons g r) := fun b0 B Z0 Z H σ ρ os ρ' Q ok e q => by
  obtain ⟨o, ρ1, e1, e2⟩ := R.bind_ok e
  obtain ⟨os', e3, rfl⟩ := R.map_ok e2
  refine h b0 B Z0 Z H σ ρ o ρ1 _ ok e1 fun v H1 Z1 ok1 s1 r1 => ?_
  exact hr b0 B Z0 Z1 H1 σ ρ1 os' ρ' _ ok1 e3 fun vs H2 Z2 ok2 s2 r2 => q (v :: vs) H2 Z2 ok2 (s1.trans s2) (.cons (r1.mono s2) r2)
theorem Ok.bdA {b0 : Option Addr} {B Z0 Z H : Hp} {σ : L2.St} {ρ : Rho} (ok : Ok K b0 B Z0 Z H σ ρ) : ∀ {vs : List V} {os : List Op} {ds : List D}, OpA K Z σ vs os → resA os ρ = some ds → BdA K Z H vs ds
  | _, _, _, .nil, e => by cases e; exact .nil
  | _, _, _, .cons h r, e => by
    unfold resA at e
    split at e
    · rename_i d ds' e1 e2
      cases e
      exact .cons (ok.bd h e1) (Ok.bdA ok r e2)
    · cases e
theorem op2_ok {α : Type} {f : D → D → Option α} {ga gb : GO} {ρ ρ' : Rho} {z : α} (e : eOp2 f ga gb ρ = .ok z ρ') : ∃ x ρ1 y a b, ga ρ = .ok x ρ1 ∧ gb ρ1 = .ok y ρ' ∧ x.res ρ' = some a ∧ y.res ρ' = some b ∧ f a b = some z := by
  obtain ⟨x, ρ1, e1, e2⟩ := R.bind_ok e
  obtain ⟨y, ρ2, e3, e4⟩ := R.bind_ok e2
  split at e4
  · rename_i d d' h1 h2
    obtain ⟨e5, rfl⟩ := R.lift_ok e4
    exact ⟨x, ρ1, y, d, d', e1, e3, h1, h2, e5⟩
  · cases e4
theorem de_op {r : R2} {f : D → D → Option D} {ga gb : GO} (sn : Sn2 K r f) (ha : DO K ta ga) (hb : DO K tb gb) : DE K (tOp r ta tb) (eOp2 f ga gb) := fun b0 B Z0 Z H σ ρ d ρ' Q ok e q => by
  obtain ⟨x, ρ1, y, a, b, e1, e2, e3, e4, e5⟩ := op2_ok e
  refine ha b0 B Z0 Z H σ ρ x ρ1 _ ok e1 fun v H1 Z1 ok1 s1 r1 => ?_
  refine hb b0 B Z0 Z1 H1 σ ρ1 y ρ' _ ok1 e2 fun u H2 Z2 ok2 s2 r2 => ?_
  exact sn b0 B Z0 Z2 H2 σ ρ' v u a b d Q ok2 (ok2.bd (r1.mono s2) e3) (ok2.bd r2 e4) e5 fun w H3 Z3 ok3 s3 r3 => q w H3 Z3 ok3 ((s1.trans s2).trans s3) r3
theorem df_op {r : R2} {f : D → D → Option (List D)} {ga gb : GO} (sn : Sn2F K r f) (ha : DO K ta ga) (hb : DO K tb gb) : DF K (tOp r ta tb) (eOp2 f ga gb) := fun b0 B Z0 Z H σ ρ d ρ' Q ok e q => by
  obtain ⟨x, ρ1, y, a, b, e1, e2, e3, e4, e5⟩ := op2_ok e
  refine ha b0 B Z0 Z H σ ρ x ρ1 _ ok e1 fun v H1 Z1 ok1 s1 r1 => ?_
  refine hb b0 B Z0 Z1 H1 σ ρ1 y ρ' _ ok1 e2 fun u H2 Z2 ok2 s2 r2 => ?_
  exact sn b0 B Z0 Z2 H2 σ ρ' v u a b d Q ok2 (ok2.bd (r1.mono s2) e3) (ok2.bd r2 e4) e5 fun p vs H3 ok3 zp bp ap hp r3 => q p vs H3 Z2 ok3 (s1.trans s2) zp bp ap hp r3
theorem op1_ok {α : Type} {f : D → Option α} {ga : GO} {ρ ρ' : Rho} {z : α} (e : eOp1 f ga ρ = .ok z ρ') : ∃ x a, ga ρ = .ok x ρ' ∧ x.res ρ' = some a ∧ f a = some z := by
  obtain ⟨x, ρ1, e1, e2⟩ := R.bind_ok e
  split at e2
  · rename_i d h1
    obtain ⟨e5, rfl⟩ := R.lift_ok e2
    exact ⟨x, d, e1, h1, e5⟩
  · cases e2
theorem de_un {r : V → Hp → VK → Prop} {f : D → Option D} {ga : GO} (sn : Sn1 K r f) (ha : DO K ta ga) : DE K (tUn r ta) (eOp1 f ga) := fun b0 B Z0 Z H σ ρ d ρ' Q ok e q => by
  obtain ⟨x, a, e1, e3, e5⟩ := op1_ok e
  refine ha b0 B Z0 Z H σ ρ x ρ' _ ok e1 fun v H1 Z1 ok1 s1 r1 => ?_
  exact sn b0 B Z0 Z1 H1 σ ρ' v a d Q ok1 (ok1.bd r1 e3) e5 fun w H3 Z3 ok3 s3 r3 => q w H3 Z3 ok3 (s1.trans s3) r3
theorem app_ok {α : Type} {f : List D → Option α} {ga : GA} {ρ ρ' : Rho} {z : α} (e : eApp f ga ρ = .ok z ρ') : ∃ os ds, ga ρ = .ok os ρ' ∧ resA os ρ' = some ds ∧ f ds = some z := by
  obtain ⟨x, ρ1, e1, e2⟩ := R.bind_ok e
  split at e2
  · rename_i d h1
    obtain ⟨e5, rfl⟩ := R.lift_ok e2
    exact ⟨x, d, e1, h1, e5⟩
  · cases e2
theorem de_cb {r : List V → Hp → VK → Prop} {f : List D → Option D} {ga : GA} (sn : SnA K r f) (ha : DA K tas ga) : DE K (tCB r tas) (eApp f ga) := fun b0 B Z0 Z H σ ρ d ρ' Q ok e q => by
  obtain ⟨x, a, e1, e3, e5⟩ := app_ok e
  refine ha b0 B Z0 Z H σ ρ x ρ' _ ok e1 fun v H1 Z1 ok1 s1 r1 => ?_
  exact sn b0 B Z0 Z1 H1 σ ρ' v a d Q ok1 (ok1.bdA r1 e3) e5 fun w H3 Z3 ok3 s3 r3 => q w H3 Z3 ok3 (s1.trans s3) r3
theorem df_cb {r : List V → Hp → VK → Prop} {f : List D → Option (List D)} {ga : GA} (sn : SnAF K r f) (ha : DA K tas ga) : DF K (tCB r tas) (eApp f ga) := fun b0 B Z0 Z H σ ρ d ρ' Q ok e q => by
  obtain ⟨x, a, e1, e3, e5⟩ := app_ok e
  refine ha b0 B Z0 Z H σ ρ x ρ' _ ok e1 fun v H1 Z1 ok1 s1 r1 => ?_
  exact sn b0 B Z0 Z1 H1 σ ρ' v a d Q ok1 (ok1.bdA r1 e3) e5 fun p vs H3 ok3 zp bp ap hp r3 => q p vs H3 Z1 ok3 s1 zp bp ap hp r3
/-! tests -/
theorem dt_B {g : GE} (h : DE K te g) : DT K (tB te) (tstE g) := fun b0 B Z0 Z H σ ρ b ρ' Q ok e q => by
  obtain ⟨d, ρ1, e1, e2⟩ := R.bind_ok e
  split at e2
  · cases e2
    refine h b0 B Z0 Z H σ ρ _ _ _ ok e1 fun v H' Z' ok' s r => ?_
    cases r
    exact ⟨_, rfl, q H' Z' ok' s⟩
  · cases e2
theorem dt_test {g : GE} (h : DE K te g) : DT K (tTest te) (tstE g) := fun b0 B Z0 Z H σ ρ b ρ' Q ok e q => by
  obtain ⟨d, ρ1, e1, e2⟩ := R.bind_ok e
  split at e2
  · cases e2
    refine h b0 B Z0 Z H σ ρ _ _ _ ok e1 fun v H' Z' ok' s r => ?_
    cases r
    exact ⟨_, rfl, q H' Z' ok' s⟩
  · cases e2
theorem dt_not {g : GT} (h : DT K tt g) : DT K (tNot tt) (tNotG g) := fun b0 B Z0 Z H σ ρ b ρ' Q ok e q => by
  obtain ⟨d, e1, rfl⟩ := R.map_ok e
  exact h b0 B Z0 Z H σ ρ d ρ' _ ok e1 fun H' Z' ok' s => q H' Z' ok' s
theorem dt_and {g k : GT} (h : DT K tt g) (h2 : DT K tu k) : DT K (tAnd tt tu) (tAndG g k) := fun b0 B Z0 Z H σ ρ b ρ' Q ok e q => by
  obtain ⟨c, ρ1, e1, e2⟩ := R.bind_ok e
  refine h b0 B Z0 Z H σ ρ c ρ1 _ ok e1 fun H1 Z1 ok1 s1 => ?_
  cases c with
  | true => exact h2 b0 B Z0 Z1 H1 σ ρ1 b ρ' Q ok1 e2 fun H2 Z2 ok2 s2 => q H2 Z2 ok2 (s1.trans s2)
  | false => cases e2; exact q H1 Z1 ok1 s1
theorem dt_or {g k : GT} (h : DT K tt g) (h2 : DT K tu k) : DT K (tOr tt tu) (tOrG g k) := fun b0 B Z0 Z H σ ρ b ρ' Q ok e q => by
  obtain ⟨c, ρ1, e1, e2⟩ := R.bind_ok e
  refine h b0 B Z0 Z H σ ρ c ρ1 _ ok e1 fun H1 Z1 ok1 s1 => ?_
  cases c with
  | true => cases e2; exact q H1 Z1 ok1 s1
  | false => exact h2 b0 B Z0 Z1 H1 σ ρ1 b ρ' Q ok1 e2 fun H2 Z2 ok2 s2 => q H2 Z2 ok2 (s1.trans s2)
theorem de_and {g k : GE} (h : DE K ta g) (h2 : DE K tb k) : DE K (tAndV ta tb) (eAndG g k) := fun b0 B Z0 Z H σ ρ d ρ' Q ok e q => by
  obtain ⟨c, ρ1, e1, e2⟩ := R.bind_ok e
  refine h b0 B Z0 Z H σ ρ c ρ1 _ ok e1 fun v H1 Z1 ok1 s1 r1 => ?_
  split at e2
  · cases r1
    exact ⟨true, rfl, h2 b0 B Z0 Z1 H1 σ ρ1 d ρ' Q ok1 e2 fun v H2 Z2 ok2 s2 r2 => q v H2 Z2 ok2 (s1.trans s2) r2⟩
  · cases r1; cases e2
    exact ⟨false, rfl, q _ H1 Z1 ok1 s1 (.bl false)⟩
  · cases e2
theorem de_or {g k : GE} (h : DE K ta g) (h2 : DE K tb k) : DE K (tOrV ta tb) (eOrG g k) := fun b0 B Z0 Z H σ ρ d ρ' Q ok e q => by
  obtain ⟨c, ρ1, e1, e2⟩ := R.bind_ok e
  refine h b0 B Z0 Z H σ ρ c ρ1 _ ok e1 fun v H1 Z1 ok1 s1 r1 => ?_
  split at e2
  · cases r1; cases e2
    exact ⟨true, rfl, q _ H1 Z1 ok1 s1 (.bl true)⟩
  · cases r1
    exact ⟨false, rfl, h2 b0 B Z0 Z1 H1 σ ρ1 d ρ' Q ok1 e2 fun v H2 Z2 ok2 s2 r2 => q v H2 Z2 ok2 (s1.trans s2) r2⟩
  · cases e2
theorem de_not {g : GE} (h : DE K ta g) : DE K (tNotV ta) (eNotG g) := fun b0 B Z0 Z H σ ρ d ρ' Q ok e q => by
  obtain ⟨c, ρ1, e1, e2⟩ := R.bind_ok e
  refine h b0 B Z0 Z H σ ρ c ρ1 _ ok e1 fun v H1 Z1 ok1 s1 r1 => ?_
  split at e2
  · cases r1; cases e2
    exact ⟨_, rfl, q _ H1 Z1 ok1 s1 (.bl _)⟩
  · cases e2
theorem de_if {c : GT} {g k : GE} (hc : DT K tt c) (h : DE K ta g) (h2 : DE K tb k) : DE K (tIf tt ta tb) (eIf c g k) := fun b0 B Z0 Z H σ ρ d ρ' Q ok e q => by
  obtain ⟨b, ρ1, e1, e2⟩ := R.bind_ok e
  refine hc b0 B Z0 Z H σ ρ b ρ1 _ ok e1 fun H1 Z1 ok1 s1 => ?_
  cases b with
  | true => exact h b0 B Z0 Z1 H1 σ ρ1 d ρ' Q ok1 e2 fun v H2 Z2 ok2 s2 r2 => q v H2 Z2 ok2 (s1.trans s2) r2
  | false => exact h2 b0 B Z0 Z1 H1 σ ρ1 d ρ' Q ok1 e2 fun v H2 Z2 ok2 s2 r2 => q v H2 Z2 ok2 (s1.trans s2) r2
theorem df_if {c : GT} {g k : GF} (hc : DT K tt c) (h : DF K ta g) (h2 : DF K tb k) : DF K (tIf tt ta tb) (eIf c g k) := fun b0 B Z0 Z H σ ρ d ρ' Q ok e q => by
  obtain ⟨b, ρ1, e1, e2⟩ := R.bind_ok e
  refine hc b0 B Z0 Z H σ ρ b ρ1 _ ok e1 fun H1 Z1 ok1 s1 => ?_
  cases b with
  | true => exact h b0 B Z0 Z1 H1 σ ρ1 d ρ' Q ok1 e2 fun p vs H2 Z2 ok2 s2 => q p vs H2 Z2 ok2 (s1.trans s2)
  | false => exact h2 b0 B Z0 Z1 H1 σ ρ1 d ρ' Q ok1 e2 fun p vs H2 Z2 ok2 s2 => q p vs H2 Z2 ok2 (s1.trans s2)
/-! displays -/
def valA : List Op → Option (List D)
  | [] => some []
  | .val d :: os => (valA os).map (d :: ·)
  | _ :: _ => none
theorem valA_ok {Z : Hp} {σ : L2.St} : ∀ {vs : List V} {os : List Op} {ds : List D}, OpA K Z σ vs os → valA os = some ds → RpA K Z vs ds
  | _, _, _, .nil, e => by cases e; exact .nil
  | _, _, _, .cons (o := .val d) h r, e => by
    unfold valA at e
    obtain ⟨ds', e1, rfl⟩ := Option.map_eq_some_iff.mp e
    exact .cons h (valA_ok r e1)
  | _, _, _, .cons (o := .own i) h r, e => by cases e
def eSeq (ga : GA) (ρ : Rho) : R (List D) := (ga ρ).bind fun os ρ1 => match valA os with
  | some ds => if ds.length ≤ sizeLine then .ok ds ρ1 else .bad
  | none => .bad
def eT (g : GF) (ρ : Rho) : R D := (g ρ).map .tuple
theorem seq_ok {ga : GA} {ρ ρ' : Rho} {ds : List D} (e : eSeq ga ρ = .ok ds ρ') : ∃ os, ga ρ = .ok os ρ' ∧ valA os = some ds ∧ ds.length ≤ sizeLine := by
  obtain ⟨os, ρ1, e1, e2⟩ := R.bind_ok e
  split at e2
  · split at e2
    · cases e2
      exact ⟨os, e1, by assumption, by assumption⟩
    · cases e2
  · cases e2
theorem df_lst {ga : GA} (ha : DA K tas ga) : DF K (tLst tas) (eSeq ga) := fun b0 B Z0 Z H σ ρ d ρ' Q ok e q => by
  obtain ⟨os, e1, e2, e3⟩ := seq_ok e
  refine ha b0 B Z0 Z H σ ρ os ρ' _ ok e1 fun vs H1 Z1 ok1 s1 r1 => ?_
  have ra := valA_ok r1 e2
  refine ⟨by rw [ra.length]; exact e3, fun p hp => ?_⟩
  obtain ⟨ok2, zp, bp, ap⟩ := ok1.fresh (o := .lst vs) hp
  exact q p vs _ Z1 ok2 s1 zp bp ap upd_same ra
theorem de_tup {ga : GA} (ha : DA K tas ga) : DE K (tTup tas) (eT (eSeq ga)) := fun b0 B Z0 Z H σ ρ d ρ' Q ok e q => by
  obtain ⟨ds, e0, rfl⟩ := R.map_ok e
  obtain ⟨os, e1, e2, e3⟩ := seq_ok e0
  refine ha b0 B Z0 Z H σ ρ os ρ' _ ok e1 fun vs H1 Z1 ok1 s1 r1 => ?_
  have ra := valA_ok r1 e2
  refine ⟨by rw [ra.length]; exact e3, fun p hp => ?_⟩
  obtain ⟨ok2, s2⟩ := ok1.new (o := .tup vs) hp
  exact q (.ref p) _ _ ok2 (s1.trans s2) (.tup (.inl (.inl upd_same)) (ra.mono s2))
end
end DL

namespace DL
open PySem L2
/-! ### statements -/
/-- how a block ends: next, return of data, return of a new list, break, continue, an exception, nothing that is told -/
inductive O where
  | nx (ρ : Rho)
  | rt (d : D) (ρ : Rho)
  | rf (ds : List D) (ρ : Rho)
  | bk (ρ : Rho)
  | ct (ρ : Rho)
  | ex (c : Str) (d : D) (ρ : Rho)
  | bad
abbrev GS := Rho → O
/-- what the end o promises, seen from the entry (B, Z0) -/
def Sat (K : PySem.W.Frag) (Wx : WX) (b0 : Option Addr) (B Z0 : Hp) (E : Ends) : O → Prop
  | .nx ρ => ∀ σ H Z, Ok K b0 B Z0 Z H σ ρ → E.nx σ H
  | .rt d ρ => ∀ v σ H Z, Ok K b0 B Z0 Z H σ ρ → Rp K Z v d → E.rt v H
  | .rf ds ρ => ∀ p vs σ H Z, Ok K b0 B Z0 Z H σ ρ → Z p = none → B p = none → Apart σ ρ p → H p = some (.lst vs) → RpA K Z vs ds → E.rt (.ref p) H
  | .bk ρ => ∀ σ H Z, Ok K b0 B Z0 Z H σ ρ → E.bk σ H
  | .ct ρ => ∀ σ H Z, Ok K b0 B Z0 Z H σ ρ → E.ct σ H
  | .ex c d ρ => ∀ σ H Z C dx v, Ok K b0 B Z0 Z H σ ρ → Cls K c C → Z dx = some (.xd [(fld c, v)]) → Rp K Z v d → Wx (.ref C) (some dx) σ H
  | .bad => False
def DS (K : PySem.W.Frag) (Wx : WX) (t : TS) (g : GS) : Prop := ∀ b0 B Z0 Z H σ ρ (E : Ends), Ok K b0 B Z0 Z H σ ρ → Sat K Wx b0 B Z0 E (g ρ) → t E σ H
def O.bind (o : O) (f : Rho → O) : O := match o with
  | .nx ρ => f ρ
  | o => o
def R.to {α : Type} (r : R α) (f : α → Rho → O) : O := match r with
  | .ok a ρ => f a ρ
  | .ex c d ρ => .bad
  | .bad => .bad
def sSeq (a b : GS) (ρ : Rho) : O := (a ρ).bind b
def sNext (ρ : Rho) : O := .nx ρ
def sRet (g : GE) (ρ : Rho) : O := (g ρ).to .rt
def sRetF (g : GF) (ρ : Rho) : O := (g ρ).to .rf
/-- return of the list of one's own in slot i -/
def sRetO (i : Nat) (ρ : Rho) : O := match ρ[i]? with
  | some (.ow ds) => .rf ds (ρ.set i .no)
  | _ => .bad
def sRetN (ρ : Rho) : O := .rt .none ρ
def sDrop (g : GE) (ρ : Rho) : O := (g ρ).to fun _ ρ => .nx ρ
def sIf (c : GT) (a b : GS) (ρ : Rho) : O := (c ρ).to fun k ρ1 => if k then a ρ1 else b ρ1
def sSet (i : Nat) (g : GE) (ρ : Rho) : O := (g ρ).to fun d ρ1 => .nx (ρ1.set i (.sh d))
def sSetO (i : Nat) (g : GF) (ρ : Rho) : O := (g ρ).to fun ds ρ1 => .nx (ρ1.set i (.ow ds))
def sBreak (ρ : Rho) : O := .bk ρ
def sCont (ρ : Rho) : O := .ct ρ
def sBad (ρ : Rho) : O := .bad
/-- the own list in slot i is frozen -/
def fz (i : Nat) (ρ : Rho) : Rho := match ρ[i]? with
  | some (.ow ds) => ρ.set i (.sh (.list ds))
  | some (.od kds) => ρ.set i (.sh (.dict ((.dict [], .none) :: kds)))
  | _ => ρ
def sFz (i : Nat) (g : GS) (ρ : Rho) : O := g (fz i ρ)
/-- slot i is forgotten -/
def sNo (i : Nat) (g : GS) (ρ : Rho) : O := g (ρ.set i .no)
section
variable {K : PySem.W.Frag} {Wx : WX} {ta tb te : TE} {tt tu : TT} {tas : TA} {t u : TS} {b0 : Option Addr} {B Z0 Z H : Hp} {σ : L2.St} {ρ : Rho} {E : Ends}
theorem Sat.to {α : Type} {r : R α} {f : α → Rho → O} (h : Sat K Wx b0 B Z0 E (r.to f)) : ∃ a ρ', r = .ok a ρ' ∧ Sat K Wx b0 B Z0 E (f a ρ') := by
  cases r with
  | ok a ρ' => exact ⟨a, ρ', rfl, h⟩
  | ex c d ρ' => exact h.elim
  | bad => exact h.elim
theorem Sat.bind {o : O} {f : Rho → O} {nx' : L2.St → Hp → Prop} (h : Sat K Wx b0 B Z0 E (o.bind f)) (hn : ∀ ρ' σ' H' Z', Ok K b0 B Z0 Z' H' σ' ρ' → Sat K Wx b0 B Z0 E (f ρ') → nx' σ' H') : Sat K Wx b0 B Z0 { E with nx := nx' } o := by
  cases o with
  | nx ρ' => exact fun σ' H' Z' ok => hn ρ' σ' H' Z' ok h
  | rt d ρ' => exact h
  | rf ds ρ' => exact h
  | bk ρ' => exact h
  | ct ρ' => exact h
  | ex c d ρ' => exact h
  | bad => exact h.elim
theorem ds_seq {g k : GS} (h : DS K Wx t g) (h2 : DS K Wx u k) : DS K Wx (tSeq t u) (sSeq g k) := fun b0 B Z0 Z H σ ρ E ok s =>
  h b0 B Z0 Z H σ ρ _ ok (Sat.bind s fun ρ' σ' H' Z' ok' s' => h2 b0 B Z0 Z' H' σ' ρ' E ok' s')
theorem ds_next : DS K Wx tNext sNext := fun b0 B Z0 Z H σ ρ E ok s => s σ H Z ok
theorem ds_break : DS K Wx tBreak sBreak := fun b0 B Z0 Z H σ ρ E ok s => s σ H Z ok
theorem ds_cont : DS K Wx tCont sCont := fun b0 B Z0 Z H σ ρ E ok s => s σ H Z ok
theorem ds_bad {t : TS} : DS K Wx t sBad := fun b0 B Z0 Z H σ ρ E ok s => s.elim
theorem ds_ret {g : GE} (h : DE K te g) : DS K Wx (tRet te) (sRet g) := fun b0 B Z0 Z H σ ρ E ok s => by
  obtain ⟨d, ρ', e, s⟩ := Sat.to s
  exact h b0 B Z0 Z H σ ρ d ρ' _ ok e fun v H' Z' ok' _ r => s v σ H' Z' ok' r
theorem ds_retF {g : GF} (h : DF K te g) : DS K Wx (tRet te) (sRetF g) := fun b0 B Z0 Z H σ ρ E ok s => by
  obtain ⟨d, ρ', e, s⟩ := Sat.to s
  exact h b0 B Z0 Z H σ ρ d ρ' _ ok e fun p vs H' Z' ok' _ zp bp ap hp r => s p vs σ H' Z' ok' zp bp ap hp r
theorem no_get {i j : Nat} {s : Sl} (h : (ρ.set i .no)[j]? = some s) : s = .no ∨ (i ≠ j ∧ ρ[j]? = some s) := by
  rcases set_get h with ⟨_, e⟩ | ⟨n, e⟩
  · exact .inl e.symm
  · exact .inr ⟨n, e⟩
theorem Ok.forget {i : Nat} (ok : Ok K b0 B Z0 Z H σ ρ) : Ok K b0 B Z0 Z H σ (ρ.set i .no) :=
  ok.weak (by rw [List.length_set]; exact ok.len) fun j s h => (no_get h).imp id fun z => ⟨z.2, rfl⟩
theorem Ok.release {i : Nat} {ds : List D} (ok : Ok K b0 B Z0 Z H σ ρ) (h : ρ[i]? = some (.ow ds)) : ∃ p vs, σ[i]? = some (some (.ref p)) ∧ Ok K b0 B Z0 Z H σ (ρ.set i .no) ∧ Z p = none ∧ B p = none ∧ Apart σ (ρ.set i .no) p ∧ H p = some (.lst vs) ∧ RpA K Z vs ds := by
  obtain ⟨p, vs, e1, e2, e3, e4, e5⟩ := ok.ow i ds h
  refine ⟨p, vs, e1, ok.forget, e2, e3, fun j s hj ho q => ?_, e4, e5⟩
  rcases no_get hj with z | ⟨n, z⟩
  · subst z; cases ho
  · exact n (ok.sepS i j p _ s h z rfl ho e1 q)
theorem Ok.releaseD {i : Nat} {ds : List (D × D)} (ok : Ok K b0 B Z0 Z H σ ρ) (h : ρ[i]? = some (.od ds)) : ∃ p vs, σ[i]? = some (some (.ref p)) ∧ Ok K b0 B Z0 Z H σ (ρ.set i .no) ∧ Z p = none ∧ B p = none ∧ Apart σ (ρ.set i .no) p ∧ H p = some (dcO p vs) ∧ RpK K Z vs ds := by
  obtain ⟨p, vs, e1, e2, e3, e4, e5⟩ := ok.od i ds h
  refine ⟨p, vs, e1, ok.forget, e2, e3, fun j s hj ho q => ?_, e4, e5⟩
  rcases no_get hj with z | ⟨n, z⟩
  · subst z; cases ho
  · exact n (ok.sepS i j p _ s h z rfl ho e1 q)
theorem set_own {i : Nat} {v : V} (e1 : σ[i]? = some (some v)) : σ.set i (some v) = σ := by
  apply List.ext_getElem?
  intro j
  by_cases hj : i = j
  · subst hj
    rw [List.getElem?_set_self (by
      by_cases z : i < σ.length
      · exact z
      · rw [List.getElem?_eq_none (by simpa using z)] at e1; cases e1), e1]
  · rw [List.getElem?_set_ne hj]
theorem ds_retO {i : Nat} : DS K Wx (tRet (tVar i)) (sRetO i) := fun b0 B Z0 Z H σ ρ E ok s => by
  unfold sRetO at s
  split at s
  · rename_i ds h
    obtain ⟨p, vs, e1, ok', zp, bp, ap, hp, r⟩ := ok.release h
    exact ⟨.ref p, e1, s p vs σ H Z ok' zp bp ap hp r⟩
  · exact s.elim
theorem ds_retN : DS K Wx tRetN sRetN := fun b0 B Z0 Z H σ ρ E ok s => s .non σ H Z ok .non
theorem ds_drop {g : GE} (h : DE K te g) : DS K Wx (tDrop te) (sDrop g) := fun b0 B Z0 Z H σ ρ E ok s => by
  obtain ⟨d, ρ', e, s⟩ := Sat.to s
  exact h b0 B Z0 Z H σ ρ d ρ' _ ok e fun v H' Z' ok' _ r => s σ H' Z' ok'
theorem ds_if {c : GT} {g k : GS} (hc : DT K tt c) (h : DS K Wx t g) (h2 : DS K Wx u k) : DS K Wx (tIfS tt t u) (sIf c g k) := fun b0 B Z0 Z H σ ρ E ok s => by
  obtain ⟨b, ρ', e, s⟩ := Sat.to s
  refine hc b0 B Z0 Z H σ ρ b ρ' _ ok e fun H' Z' ok' _ => ?_
  cases b with
  | true => exact h b0 B Z0 Z' H' σ ρ' E ok' s
  | false => exact h2 b0 B Z0 Z' H' σ ρ' E ok' s
theorem ds_set {i : Nat} {g : GE} (h : DE K te g) : DS K Wx (tAsg te (gName i)) (sSet i g) := fun b0 B Z0 Z H σ ρ E ok s => by
  obtain ⟨d, ρ', e, s⟩ := Sat.to s
  exact h b0 B Z0 Z H σ ρ d ρ' _ ok e fun v H' Z' ok' _ r => s _ H' Z' (ok'.put r)
theorem ds_setO {i : Nat} {g : GF} (h : DF K te g) (hi : i ≠ 0 := by decide) : DS K Wx (tAsg te (gName i)) (sSetO i g) := fun b0 B Z0 Z H σ ρ E ok s => by
  obtain ⟨d, ρ', e, s⟩ := Sat.to s
  exact h b0 B Z0 Z H σ ρ d ρ' _ ok e fun p vs H' Z' ok' _ zp bp ap hp r => s _ H' Z' (ok'.putO zp bp ap hp r fun _ _ z => absurd z hi)
theorem Ok.fz {i : Nat} (ok : Ok K b0 B Z0 Z H σ ρ) : ∃ Z', Ok K b0 B Z0 Z' H σ (fz i ρ) ∧ Same Z Z' := by
  unfold DL.fz
  split
  · rename_i ds h
    obtain ⟨p, vs, e1, ok', zp, bp, ap, hp, r⟩ := ok.release h
    obtain ⟨ok2, s2⟩ := ok'.freeze zp bp ap hp
    refine ⟨_, ?_, s2⟩
    have q := ok2.put (i := i) (v := .ref p) (d := .list ds) (.lst upd_same (r.mono s2))
    rw [List.set_set] at q
    have e : σ.set i (some (.ref p)) = σ := by
      apply List.ext_getElem?
      intro j
      by_cases hj : i = j
      · subst hj
        rw [List.getElem?_set_self (by
          by_cases z : i < σ.length
          · exact z
          · rw [List.getElem?_eq_none (by simpa using z)] at e1; cases e1), e1]
      · rw [List.getElem?_set_ne hj]
    rw [e] at q
    exact q
  · rename_i ds h
    obtain ⟨p, vs, e1, ok', zp, bp, ap, hp, r⟩ := ok.releaseD h
    obtain ⟨ok2, s2⟩ := ok'.freeze zp bp ap hp
    refine ⟨_, ?_, s2⟩
    have q := ok2.put (i := i) (v := .ref p) (d := dcD ds) (.dct upd_same (r.mono s2))
    rw [List.set_set, set_own e1] at q
    exact q
  · exact ⟨Z, ok, Same.refl Z⟩
theorem ds_fz {i : Nat} {g : GS} (h : DS K Wx t g) : DS K Wx t (sFz i g) := fun b0 B Z0 Z H σ ρ E ok s => by
  obtain ⟨Z', ok', _⟩ := ok.fz (i := i)
  exact h b0 B Z0 Z' H σ _ E ok' s
theorem ds_no {i : Nat} {g : GS} (h : DS K Wx t g) : DS K Wx t (sNo i g) := fun b0 B Z0 Z H σ ρ E ok s => h b0 B Z0 Z H σ _ E ok.forget s
/-- an expression with the own list in slot i frozen -/
def eFz {α : Type} (i : Nat) (g : Rho → R α) (ρ : Rho) : R α := g (fz i ρ)
theorem de_fz {i : Nat} {g : GE} (h : DE K te g) : DE K te (eFz i g) := fun b0 B Z0 Z H σ ρ d ρ' Q ok e q => by
  obtain ⟨Z', ok', s⟩ := ok.fz (i := i)
  exact h b0 B Z0 Z' H σ _ d ρ' Q ok' e fun v H2 Z2 ok2 s2 r => q v H2 Z2 ok2 (s.trans s2) r
/-! ### targets -/
/-- data goes to a target -/
abbrev GG := D → Rho → Option Rho
def DG (K : PySem.W.Frag) (ws : List Nat) (t : TG) (g : GG) : Prop := ∀ b0 B Z0 Z H σ ρ v d ρ' (Q : L2.St → Hp → Prop), Ok K b0 B Z0 Z H σ ρ → Rp K Z v d → g d ρ = some ρ' → (∀ σ', Ok K b0 B Z0 Z H σ' ρ' → wipe σ' ws = wipe σ ws → Q σ' H) → t v σ H Q
def DGs (K : PySem.W.Frag) (ws : List Nat) (t : TGs) (g : List D → Rho → Option Rho) : Prop := ∀ b0 B Z0 Z H σ ρ vs ds ρ' (Q : L2.St → Hp → Prop), Ok K b0 B Z0 Z H σ ρ → RpA K Z vs ds → g ds ρ = some ρ' → (∀ σ', Ok K b0 B Z0 Z H σ' ρ' → wipe σ' ws = wipe σ ws → Q σ' H) → t vs σ H Q
def gN (i : Nat) (d : D) (ρ : Rho) : Option Rho := some (ρ.set i (.sh d))
def gsNil (ds : List D) (ρ : Rho) : Option Rho := match ds with
  | [] => some ρ
  | _ => none
def gsCons (g : GG) (r : List D → Rho → Option Rho) (ds : List D) (ρ : Rho) : Option Rho := match ds with
  | [] => none
  | d :: ds => (g d ρ).bind (r ds)
def gT (n : Nat) (g : List D → Rho → Option Rho) (d : D) (ρ : Rho) : Option Rho := match d with
  | .tuple ds => if ds.length = n then g ds ρ else none
  | _ => none
theorem wipe_comm (σ : L2.St) (x : Option V) : ∀ (ws : List Nat) (i : Nat), i ∉ ws → wipe (σ.set i x) ws = (wipe σ ws).set i x
  | [], i, _ => rfl
  | w :: ws, i, h => by
    unfold wipe
    have n1 : i ≠ w := fun z => h (by rw [z]; exact List.mem_cons_self)
    rw [wipe_comm σ x ws i fun z => h (List.mem_cons_of_mem _ z), List.set_comm _ _ n1]
theorem wipe_set {σ : L2.St} {x : Option V} : ∀ {ws : List Nat} {i : Nat}, i ∈ ws → wipe (σ.set i x) ws = wipe σ ws
  | [], i, h => nomatch h
  | w :: ws, i, h => by
    unfold wipe
    by_cases hi : i ∈ ws
    · rw [wipe_set hi]
    · have e : i = w := by
        rcases List.mem_cons.mp h with z | z
        · exact z
        · exact absurd z hi
      subst e
      rw [wipe_comm σ x ws i hi, List.set_set]
variable {ws : List Nat}
theorem dg_name {i : Nat} (hi : i ∈ ws) : DG K ws (gName i) (gN i) := fun b0 B Z0 Z H σ ρ v d ρ' Q ok r e q => by
  cases e
  exact q _ (ok.put r) (wipe_set hi)
theorem dgs_nil : DGs K ws gNil gsNil := fun b0 B Z0 Z H σ ρ vs ds ρ' Q ok r e q => by
  cases r with
  | nil => cases e; exact ⟨rfl, q σ ok rfl⟩
  | cons h r => cases e
theorem dgs_cons {t : TG} {u : TGs} {g : GG} {k : List D → Rho → Option Rho} (h : DG K ws t g) (h2 : DGs K ws u k) : DGs K ws (gCons t u) (gsCons g k) := fun b0 B Z0 Z H σ ρ vs ds ρ' Q ok r e q => by
  cases r with
  | nil => cases e
  | cons h1 r =>
    obtain ⟨ρ1, e1, e2⟩ := Option.bind_eq_some_iff.mp e
    exact ⟨_, _, rfl, h b0 B Z0 Z H σ ρ _ _ ρ1 _ ok h1 e1 fun σ1 ok1 w1 => h2 b0 B Z0 Z H σ1 ρ1 _ _ ρ' Q ok1 r e2 fun σ2 ok2 w2 => q σ2 ok2 (w2.trans w1)⟩
theorem dg_tup {n : Nat} {u : TGs} {g : List D → Rho → Option Rho} (h : DGs K ws u g) : DG K ws (gTup K n u) (gT n g) := fun b0 B Z0 Z H σ ρ v d ρ' Q ok r e q => by
  unfold gT at e
  split at e
  · split at e
    · cases r with
      | tup hs ra => exact ⟨_, _, rfl, same_t ok.zh hs, by rw [ra.length]; assumption, h b0 B Z0 Z H σ ρ _ _ ρ' Q ok ra e q⟩
    · cases e
  · cases e
def sTo (g : GE) (k : GG) (ρ : Rho) : O := (g ρ).to fun d ρ1 => match k d ρ1 with
  | some ρ2 => .nx ρ2
  | none => .bad
theorem ds_to {tg : TG} {g : GE} {k : GG} (h : DE K te g) (h2 : DG K ws tg k) : DS K Wx (tAsg te tg) (sTo g k) := fun b0 B Z0 Z H σ ρ E ok s => by
  obtain ⟨d, ρ', e, s⟩ := Sat.to s
  refine h b0 B Z0 Z H σ ρ d ρ' _ ok e fun v H' Z' ok' _ r => ?_
  split at s
  · exact h2 b0 B Z0 Z' H' σ ρ' v d _ _ ok' r (by assumption) fun σ' ok2 _ => s σ' H' Z' ok2
  · exact s.elim
end
end DL

namespace DL
open PySem L2
section
variable {K : PySem.W.Frag} {Wx : WX} {ta tb te : TE} {tt tu : TT} {tas : TA} {t u : TS} {b0 : Option Addr} {B Z0 Z H : Hp} {σ : L2.St} {ρ : Rho} {E : Ends} {p : Addr} {o o' : HO}
/-! ### frames: what nobody knows stands in B for a while -/
theorem Ok.frame (ok : Ok K b0 B Z0 Z H σ ρ) (zp : Z p = none) (ap : Apart σ ρ p) (hp : H p = some o) : Ok K b0 (upd B p o) Z0 Z H σ ρ := by
  refine ⟨ok.len, fun b x e => ?_, ok.zh, ok.zz, fun b x e => ?_, ok.sh, fun i s e eo => ?_, ok.fix, ok.sepS⟩
  · by_cases hb : b = p
    · subst hb; rw [upd_same] at e; rw [← e]; exact hp
    · rw [upd_ne hb] at e; exact ok.bh b x e
  · rcases ok.nb b x e with z | z
    · exact .inl z
    · exact .inr (by rw [upd_ne (ne_of_none e zp)]; exact z)
  · obtain ⟨q, vs, e1, e2, e3, e4, e5⟩ := ok.own i s e eo
    have nq : q ≠ p := fun z => ap i s e eo (by rw [e1, z])
    exact ⟨q, vs, e1, e2, by rw [upd_ne nq]; exact e3, e4, e5⟩
theorem Ok.unframe (ok : Ok K b0 (upd B p o) Z0 Z H σ ρ) (zp : Z0 p = none) (bp : B p = none) : Ok K b0 B Z0 Z H σ ρ ∧ Z p = none ∧ Apart σ ρ p ∧ H p = some o := by
  have hz : Z p = none := by
    cases q : Z p with
    | none => rfl
    | some x =>
      rcases ok.nb p x q with z | z
      · rw [zp] at z; cases z
      · rw [upd_same] at z; cases z
  refine ⟨⟨ok.len, fun b x e => ok.bh b x (by rw [upd_ne (ne_of_none e bp)]; exact e), ok.zh, ok.zz, fun b x e => ?_, ok.sh, fun i s e eo => ?_, ok.fix, ok.sepS⟩, hz, fun i s e eo q => ?_, ok.bh p o upd_same⟩
  · rcases ok.nb b x e with z | z
    · exact .inl z
    · rw [upd_ne (ne_of_none e hz)] at z; exact .inr z
  · obtain ⟨q, vs, e1, e2, e3, e4, e5⟩ := ok.own i s e eo
    have nq : q ≠ p := fun z => by rw [z, upd_same] at e3; cases e3
    rw [upd_ne nq] at e3
    exact ⟨q, vs, e1, e2, e3, e4, e5⟩
  · obtain ⟨q', vs, e1, e2, e3, e4, e5⟩ := ok.own i s e eo
    rw [e1] at q
    cases q
    rw [upd_same] at e3
    cases e3
theorem Ok.reframe (ok : Ok K b0 (upd B p o) Z0 Z H σ ρ) (zp : Z0 p = none) (bp : B p = none) : Ok K b0 (upd B p o') Z0 Z (upd H p o') σ ρ := by
  obtain ⟨ok1, hz, ap, hp⟩ := ok.unframe zp bp
  exact (ok1.write (o := o') hz bp ap).frame hz ap upd_same
/-- all that is frozen joins what stays -/
def joinH (B Z : Hp) : Hp := fun p => match B p with
  | some o => some o
  | none => Z p
theorem Ok.enter (ok : Ok K b0 B Z0 Z H σ ρ) : Ok K b0 (joinH B Z) Z Z H σ ρ := by
  refine ⟨ok.len, fun b x e => ?_, ok.zh, Same.refl Z, fun b x e => .inl e, ok.sh, fun i s e eo => ?_, ok.fix, ok.sepS⟩
  · unfold joinH at e
    split at e
    · cases e; exact ok.bh b _ (by assumption)
    · exact ok.zh b x e
  · obtain ⟨q, vs, e1, e2, e3, e4, e5⟩ := ok.own i s e eo
    exact ⟨q, vs, e1, e2, by unfold joinH; rw [e3]; exact e2, e4, e5⟩
theorem Ok.leave {Z' H' : Hp} {σ' : L2.St} {ρ' : Rho} (ok : Ok K b0 B Z0 Z H σ ρ) (ok' : Ok K b0 (joinH B Z) Z Z' H' σ' ρ') : Ok K b0 B Z0 Z' H' σ' ρ' := by
  have jb : ∀ q, joinH B Z q = none → B q = none := fun q e => by
    unfold joinH at e
    split at e
    · cases e
    · assumption
  refine ⟨ok'.len, fun b x e => ok'.bh b x (by unfold joinH; rw [e]), ok'.zh, ok.zz.trans ok'.zz, fun b x e => ?_, ok'.sh, fun i s e eo => ?_, ok'.fix, ok'.sepS⟩
  · rcases ok'.nb b x e with z | z
    · exact ok.nb b x z
    · exact .inr (jb b z)
  · obtain ⟨q, vs, e1, e2, e3, e4, e5⟩ := ok'.own i s e eo
    exact ⟨q, vs, e1, e2, jb q e3, e4, e5⟩
theorem Sat.leave {o : O} (ok : Ok K b0 B Z0 Z H σ ρ) (s : Sat K Wx b0 B Z0 E o) : Sat K Wx b0 (joinH B Z) Z E o := by
  have jb : ∀ q, joinH B Z q = none → B q = none := fun q e => by
    unfold joinH at e
    split at e
    · cases e
    · assumption
  cases o with
  | nx ρ' => exact fun σ' H' Z' ok' => s σ' H' Z' (ok.leave ok')
  | rt d ρ' => exact fun v σ' H' Z' ok' r => s v σ' H' Z' (ok.leave ok') r
  | rf ds ρ' => exact fun p vs σ' H' Z' ok' zp bp ap hp r => s p vs σ' H' Z' (ok.leave ok') zp (jb p bp) ap hp r
  | bk ρ' => exact fun σ' H' Z' ok' => s σ' H' Z' (ok.leave ok')
  | ct ρ' => exact fun σ' H' Z' ok' => s σ' H' Z' (ok.leave ok')
  | ex c d ρ' => exact fun σ' H' Z' C dx v ok' => s σ' H' Z' C dx v (ok.leave ok')
  | bad => exact s.elim
/-! ### two names at once -/
/-- a value on the way into a slot: shared data, or a new list -/
inductive Nw where
  | s (d : D)
  | f (ds : List D)
def Nw.sl : Nw → Sl
  | .s d => .sh d
  | .f ds => .ow ds
def nS (g : GE) (ρ : Rho) : R Nw := (g ρ).map .s
def nF (g : GF) (ρ : Rho) : R Nw := (g ρ).map .f
def NwR (K : PySem.W.Frag) (B Z H : Hp) (σ : L2.St) (ρ : Rho) (v : V) : Nw → Prop
  | .s d => Rp K Z v d
  | .f ds => ∃ p vs, v = .ref p ∧ Z p = none ∧ B p = none ∧ Apart σ ρ p ∧ H p = some (.lst vs) ∧ RpA K Z vs ds
def DN (K : PySem.W.Frag) (t : TE) (g : Rho → R Nw) : Prop := ∀ b0 B Z0 Z H σ ρ n ρ' (Q : VK), Ok K b0 B Z0 Z H σ ρ → g ρ = .ok n ρ' → (∀ v H' Z', Ok K b0 B Z0 Z' H' σ ρ' → Same Z Z' → NwR K B Z' H' σ ρ' v n → Q v H') → t σ H Q
theorem dn_s {g : GE} (h : DE K te g) : DN K te (nS g) := fun b0 B Z0 Z H σ ρ n ρ' Q ok e q => by
  obtain ⟨d, e1, rfl⟩ := R.map_ok e
  exact h b0 B Z0 Z H σ ρ d ρ' Q ok e1 q
theorem dn_f {g : GF} (h : DF K te g) : DN K te (nF g) := fun b0 B Z0 Z H σ ρ n ρ' Q ok e q => by
  obtain ⟨d, e1, rfl⟩ := R.map_ok e
  exact h b0 B Z0 Z H σ ρ d ρ' Q ok e1 fun p vs H' Z' ok' s zp bp ap hp r => q _ H' Z' ok' s ⟨p, vs, rfl, zp, bp, ap, hp, r⟩
theorem Ok.putN {i : Nat} {v : V} {n : Nw} (ok : Ok K b0 B Z0 Z H σ ρ) (r : NwR K B Z H σ ρ v n) (hi : i ≠ 0) : Ok K b0 B Z0 Z H (σ.set i (some v)) (ρ.set i n.sl) := by
  cases n with
  | s d => exact ok.put r
  | f ds =>
    obtain ⟨p, vs, rfl, zp, bp, ap, hp, ra⟩ := r
    exact ok.putO zp bp ap hp ra fun _ _ z => absurd z hi
def sPar (i j : Nat) (a b : Rho → R Nw) (ρ : Rho) : O := (a ρ).to fun x ρ1 => (b ρ1).to fun y ρ2 => .nx ((ρ2.set i x.sl).set j y.sl)
theorem ds_par {i j : Nat} {a b : Rho → R Nw} (ha : DN K ta a) (hb : DN K tb b) (hi : i ≠ 0 := by decide) (hj0 : j ≠ 0 := by decide) : DS K Wx (tPar i j (tCons ta (tCons tb tNil))) (sPar i j a b) := fun b0 B Z0 Z H σ ρ E ok s => by
  obtain ⟨x, ρ1, e1, s⟩ := Sat.to s
  obtain ⟨y, ρ2, e2, s⟩ := Sat.to s
  refine ha b0 B Z0 Z H σ ρ x ρ1 _ ok e1 fun v H1 Z1 ok1 s1 r1 => ?_
  have pa : ∀ {q : Addr} {ds : List D} {H2 Z2 : Hp}, Ok K b0 B Z0 Z2 H2 σ ρ2 → B q = none → Z2 q = none → Apart σ ρ2 q → ∀ {k : Nat} {w : V} {m : Nw}, NwR K B Z2 H2 σ ρ2 w m → w ≠ .ref q → Apart (σ.set k (some w)) (ρ2.set k m.sl) q := by
    intro q ds H2 Z2 ok2 bq zq aq k w m rm hw j' es hj ho hq
    rcases set_get hj with ⟨ek, e⟩ | ⟨nk, e⟩
    · subst ek
      rcases set_get hq with ⟨_, e2⟩ | ⟨n2, _⟩
      · exact hw (Option.some.inj e2)
      · exact n2 rfl
    · rw [List.getElem?_set_ne nk] at hq
      exact aq j' es e ho hq
  cases x with
  | s d =>
    refine hb b0 B Z0 Z1 H1 σ ρ1 y ρ2 _ ok1 e2 fun w H2 Z2 ok2 s2 r2 => ⟨v, w, rfl, ?_⟩
    have okv := ok2.put (i := i) (Rp.mono s2 r1)
    refine s _ H2 Z2 ?_
    cases y with
    | s d2 => exact okv.put r2
    | f ds =>
      obtain ⟨q, vs, rfl, zq, bq, aq, hq, ra⟩ := r2
      refine okv.putO zq bq (fun j' es hj ho hqq => ?_) hq ra fun _ _ z => absurd z hj0
      rcases set_get hj with ⟨_, z⟩ | ⟨nk, e⟩
      · subst z; cases ho
      · rw [List.getElem?_set_ne nk] at hqq
        exact aq j' es e ho hqq
  | f ds =>
    obtain ⟨q, vs, rfl, zq, bq, aq, hq, ra⟩ := r1
    have okf := ok1.frame zq aq hq
    refine hb b0 (upd B q (.lst vs)) Z0 Z1 H1 σ ρ1 y ρ2 _ okf e2 fun w H2 Z2 ok2 s2 r2 => ⟨.ref q, w, rfl, ?_⟩
    obtain ⟨ok3, zq2, aq2, hq2⟩ := ok2.unframe (ok1.zz.free zq) bq
    have okv := ok3.putO (i := i) zq2 bq aq2 hq2 (ra.mono s2) fun _ _ z => absurd z hi
    refine s _ H2 Z2 ?_
    cases y with
    | s d2 => exact okv.put r2
    | f ds2 =>
      obtain ⟨q', vs', rfl, zq', bq', aq', hq', ra'⟩ := r2
      have nq : q' ≠ q := fun z => by rw [z, upd_same] at bq'; cases bq'
      rw [upd_ne nq] at bq'
      refine okv.putO zq' bq' (fun j' es hj ho hqq => ?_) hq' ra' fun _ _ z => absurd z hj0
      rcases set_get hj with ⟨ek, _⟩ | ⟨nk, e⟩
      · subst ek
        rcases set_get hqq with ⟨_, e2⟩ | ⟨n2, _⟩
        · have z := Option.some.inj e2
          injection z with z
          exact nq z.symm
        · exact n2 rfl
      · rw [List.getElem?_set_ne nk] at hqq
        exact aq' j' es e ho hqq
/-! ### a list of one's own changes -/
def isOw : Option Sl → Bool
  | some (.ow _) => true
  | _ => false
def sApp (i : Nat) (g : GE) (ρ : Rho) : O := if isOw ρ[i]? then (g ρ).to fun d ρ1 => match ρ1[i]? with
    | some (.ow ds) => if ds.length < sizeLine then .nx (ρ1.set i (.ow (ds ++ [d]))) else .bad
    | _ => .bad
  else .bad
theorem Ok.isOw {i : Nat} (ok : Ok K b0 B Z0 Z H σ ρ) (h : isOw ρ[i]? = true) : ∃ p vs, σ[i]? = some (some (.ref p)) ∧ H p = some (.lst vs) := by
  unfold DL.isOw at h
  split at h
  · rename_i ds e
    obtain ⟨p, vs, e1, _, _, e4, _⟩ := ok.ow i ds e
    exact ⟨p, vs, e1, e4⟩
  · cases h
theorem Ok.rewrite {i : Nat} {ds es : List D} {vs' : List V} (ok : Ok K b0 B Z0 Z H σ ρ) (h : ρ[i]? = some (.ow ds)) (hp : σ[i]? = some (some (.ref p))) (r : RpA K Z vs' es) : Ok K b0 B Z0 Z (upd H p (.lst vs')) σ (ρ.set i (.ow es)) := by
  obtain ⟨q, vs, e1, ok', zp, bp, ap, _, _⟩ := ok.release h
  rw [hp] at e1
  cases e1
  have ok2 := ok'.write (o := .lst vs') zp bp ap
  have ok3 := ok2.putO (i := i) zp bp ap upd_same r fun a ha hi0 => by
    subst hi0
    have z := ok.fix a ha ds h
    rw [hp] at z
    injection z with z
    injection z with z
    injection z
  rw [List.set_set] at ok3
  have e : σ.set i (some (.ref p)) = σ := by
    apply List.ext_getElem?
    intro j
    by_cases hj : i = j
    · subst hj
      rw [List.getElem?_set_self (by
        by_cases z : i < σ.length
        · exact z
        · rw [List.getElem?_eq_none (by simpa using z)] at hp; cases hp), hp]
    · rw [List.getElem?_set_ne hj]
  rw [e] at ok3
  exact ok3
theorem ds_app {i : Nat} {g : GE} (h : DE K te g) : DS K Wx (tDrop (tBM K "list" rAppend (tVar i) (tCons te tNil))) (sApp i g) := fun b0 B Z0 Z H σ ρ E ok s => by
  unfold sApp at s
  split at s
  · rename_i h0
    obtain ⟨p, vs0, e0, hp0⟩ := ok.isOw h0
    obtain ⟨d, ρ1, e1, s⟩ := Sat.to s
    split at s
    · rename_i ds hi
      split at s
      · rename_i hs
        refine ⟨.ref p, e0, .inl ⟨rfl, vs0, .inl (.inl hp0)⟩, ?_⟩
        refine h b0 B Z0 Z H σ ρ d ρ1 _ ok e1 fun v H1 Z1 ok1 s1 r1 => ?_
        obtain ⟨q, vs, f1, f2, f3, f4, f5⟩ := ok1.ow i ds hi
        rw [e0] at f1
        cases f1
        exact ⟨p, vs, v, rfl, rfl, f4, by rw [f5.length]; exact hs, s σ _ Z1 (ok1.rewrite hi e0 (f5.append (.one r1)))⟩
      · exact s.elim
    · exact s.elim
  · exact s.elim
def sExt (i : Nat) (g : GF) (ρ : Rho) : O := if isOw ρ[i]? then (g ρ).to fun es ρ1 => match ρ1[i]? with
    | some (.ow ds) => if ds.length + es.length ≤ sizeLine then .nx (ρ1.set i (.ow (ds ++ es))) else .bad
    | _ => .bad
  else .bad
theorem ds_ext {i : Nat} {g : GF} (h : DF K te g) : DS K Wx (tDrop (tBM K "list" rExtend (tVar i) (tCons te tNil))) (sExt i g) := fun b0 B Z0 Z H σ ρ E ok s => by
  unfold sExt at s
  split at s
  · rename_i h0
    obtain ⟨p, vs0, e0, hp0⟩ := ok.isOw h0
    obtain ⟨d, ρ1, e1, s⟩ := Sat.to s
    split at s
    · rename_i ds hi
      split at s
      · rename_i hs
        refine ⟨.ref p, e0, .inl ⟨rfl, vs0, .inl (.inl hp0)⟩, ?_⟩
        refine h b0 B Z0 Z H σ ρ d ρ1 _ ok e1 fun p2 vs2 H1 Z1 ok1 s1 zp bp ap hp r1 => ?_
        obtain ⟨q, vs, f1, f2, f3, f4, f5⟩ := ok1.ow i ds hi
        rw [e0] at f1
        cases f1
        exact ⟨p, p2, vs, vs2, rfl, rfl, f4, hp, by rw [f5.length, r1.length]; exact hs, s σ _ Z1 (ok1.rewrite hi e0 (f5.append r1))⟩
      · exact s.elim
    · exact s.elim
  · exact s.elim
def sPop (i : Nat) (ρ : Rho) : O := match ρ[i]? with
  | some (.ow ds) => if ds.isEmpty then .bad else .nx (ρ.set i (.ow ds.dropLast))
  | _ => .bad
theorem dropLast_take (vs : List V) : vs.dropLast = vs.take (vs.length - 1) := List.dropLast_eq_take
theorem ds_pop {i : Nat} : DS K Wx (tDrop (tBM0 K "list" rPop (tVar i))) (sPop i) := fun b0 B Z0 Z H σ ρ E ok s => by
  unfold sPop at s
  split at s
  · rename_i ds hi
    split at s
    · exact s.elim
    · rename_i he
      obtain ⟨p, vs, f1, f2, f3, f4, f5⟩ := ok.ow i ds hi
      have hl := f5.length
      have hn : 0 < vs.length := by
        rw [hl]
        cases ds with
        | nil => exact absurd rfl he
        | cons _ _ => exact Nat.succ_pos _
      have g : vs[vs.length - 1]? = some vs[vs.length - 1] := List.getElem?_eq_getElem (by omega)
      refine ⟨.ref p, f1, .inl ⟨rfl, vs, .inl (.inl f4)⟩, p, vs, _, rfl, rfl, f4, g, s σ _ Z (ok.rewrite hi f1 ?_)⟩
      rw [List.dropLast_eq_take, List.dropLast_eq_take, hl]
      exact f5.take _
  · exact s.elim
/-- x[k] = e -/
def sPutIx (i : Nat) (gk : GE) (g : GE) (ρ : Rho) : O := (g ρ).to fun d ρ1 => if isOw ρ1[i]? then (gk ρ1).to fun k ρ2 => match k, ρ2[i]? with
    | .int k, some (.ow ds) => (match ixN ds.length k with
      | some j => .nx (ρ2.set i (.ow (ds.set j d)))
      | none => .bad)
    | _, _ => .bad
  else .bad
theorem ds_putIx {i : Nat} {gk g : GE} (h : DE K te g) (hk : DE K tb gk) : DS K Wx (tAsg te (gSub (tVar i) tb rSetL)) (sPutIx i gk g) := fun b0 B Z0 Z H σ ρ E ok s => by
  unfold sPutIx at s
  obtain ⟨d, ρ1, e1, s⟩ := Sat.to s
  refine h b0 B Z0 Z H σ ρ d ρ1 _ ok e1 fun v H1 Z1 ok1 s1 r1 => ?_
  split at s
  · rename_i h0
    obtain ⟨p, vs0, e0, hp0⟩ := ok1.isOw h0
    obtain ⟨k, ρ2, e2, s⟩ := Sat.to s
    split at s
    · rename_i k' ds hi
      split at s
      · rename_i j hj
        refine ⟨.ref p, e0, ?_⟩
        refine hk b0 B Z0 Z1 H1 σ ρ1 _ ρ2 _ ok1 e2 fun w H2 Z2 ok2 s2 r2 => ?_
        cases r2
        obtain ⟨q, vs, f1, f2, f3, f4, f5⟩ := ok2.ow i ds hi
        rw [e0] at f1
        cases f1
        exact ⟨p, vs, k', j, rfl, rfl, f4, by rw [f5.length]; exact hj, s σ _ Z2 (ok2.rewrite hi e0 (f5.set (r1.mono s2) j))⟩
      · exact s.elim
    · exact s.elim
  · exact s.elim
/-! ### x op= e -/
def SnIp (K : PySem.W.Frag) (r : TIp) (f : D → D → Option D) : Prop := ∀ b0 B Z0 Z H σ ρ x y a b c (Q : VK), Ok K b0 B Z0 Z H σ ρ → Rp K Z x a → Rp K Z y b → f a b = some c → (∀ v H' Z', Ok K b0 B Z0 Z' H' σ ρ → Same Z Z' → Rp K Z' v c → Q v H') → r x y H Q
def sAug (i : Nat) (f : D → D → Option D) (g : GE) (ρ : Rho) : O := match ρ[i]? with
  | some (.sh a) => (g ρ).to fun b ρ1 => match f a b with
    | some c => .nx (ρ1.set i (.sh c))
    | none => .bad
  | _ => .bad
theorem ds_aug {i : Nat} {r : TIp} {f : D → D → Option D} {g : GE} (sn : SnIp K r f) (h : DE K te g) : DS K Wx (tAug i te r) (sAug i f g) := fun b0 B Z0 Z H σ ρ E ok s => by
  unfold sAug at s
  split at s
  · rename_i a hi
    obtain ⟨b, ρ1, e1, s⟩ := Sat.to s
    split at s
    · rename_i c hc
      obtain ⟨v, e0, r0⟩ := ok.sh i a hi
      refine ⟨v, e0, ?_⟩
      refine h b0 B Z0 Z H σ ρ b ρ1 _ ok e1 fun w H1 Z1 ok1 s1 r1 => ?_
      exact sn b0 B Z0 Z1 H1 σ ρ1 v w a b c _ ok1 (r0.mono s1) r1 hc fun u H2 Z2 ok2 s2 r2 => s _ H2 Z2 (ok2.put r2)
    · exact s.elim
  · exact s.elim
def iAdd : D → D → Option D
  | .int i, .int j => some (.int (i + j))
  | _, _ => none
def iSub : D → D → Option D
  | .int i, .int j => some (.int (i - j))
  | _, _ => none
theorem sn_ipAdd : SnIp K (ipI fun i j => i + j) iAdd := fun b0 B Z0 Z H σ ρ x y a b c Q ok ra rb e q => by
  unfold iAdd at e
  split at e
  · cases e; cases ra; cases rb
    exact ⟨_, _, rfl, rfl, q _ H Z ok (Same.refl Z) (.int _)⟩
  · cases e
theorem sn_ipSub : SnIp K (ipI fun i j => i - j) iSub := fun b0 B Z0 Z H σ ρ x y a b c Q ok ra rb e q => by
  unfold iSub at e
  split at e
  · cases e; cases ra; cases rb
    exact ⟨_, _, rfl, rfl, q _ H Z ok (Same.refl Z) (.int _)⟩
  · cases e
/-! ### loops -/
structure Wk (K : PySem.W.Frag) (J : It) (Z : Hp) (ds : List D) : Prop where
  goes : ∀ i H, i < ds.length → Same Z H → J.go i H
  stops : ∀ H, Same Z H → J.stop ds.length H
  yields : ∀ i H x H', i < ds.length → J.yld i H x H' → ∀ b0 B Z0 Z' σ ρ, Ok K b0 B Z0 Z' H σ ρ → Same Z Z' → ∃ Z'' d, Ok K b0 B Z0 Z'' H' σ ρ ∧ Same Z' Z'' ∧ ds[i]? = some d ∧ Rp K Z'' x d
def DI (K : PySem.W.Frag) (t : TI) (g : GF) : Prop := ∀ b0 B Z0 Z H σ ρ ds ρ' (R : It → Hp → Prop), Ok K b0 B Z0 Z H σ ρ → g ρ = .ok ds ρ' → (∀ J H' Z', Ok K b0 B Z0 Z' H' σ ρ' → Same Z Z' → Wk K J Z' ds → R J H') → t σ H R
def forL (k : GG) (b : GS) : List D → Rho → O
  | [], ρ => .nx ρ
  | d :: ds, ρ => match k d ρ with
    | none => .bad
    | some ρ1 => match b ρ1 with
      | .nx ρ2 => forL k b ds ρ2
      | .ct ρ2 => forL k b ds ρ2
      | .bk ρ2 => .nx ρ2
      | o => o
def sFor (gi : GF) (k : GG) (b : GS) (ρ : Rho) : O := (gi ρ).to fun ds ρ1 => forL k b ds ρ1
theorem ds_for {ti : TI} {tg : TG} {tb : TS} {ws : List Nat} {gi : GF} {k : GG} {b : GS} (hi : DI K ti gi) (hk : DG K ws tg k) (hb : DS K Wx tb b) : DS K Wx (tFor ti tg tb) (sFor gi k b) := fun b0 B Z0 Z H σ ρ E ok s => by
  obtain ⟨ds, ρ1, e1, s⟩ := Sat.to s
  refine hi b0 B Z0 Z H σ ρ ds ρ1 _ ok e1 fun J H1 Z1 ok1 s1 wk => ?_
  have W : Walk J ds.length (fun H => Same Z1 H) (fun i H x H' => J.yld i H x H') := ⟨wk.goes, wk.stops, fun _ _ _ _ _ _ y => y⟩
  refine for_it W (fun i σ H => ∃ Z ρ, Ok K b0 (joinH B Z1) Z1 Z H σ ρ ∧ Sat K Wx b0 (joinH B Z1) Z1 E (forL k b (ds.drop i) ρ)) ⟨Z1, ρ1, ok1.enter, ?_⟩ (fun i σ H _ h => ?_) (fun i x σ H H' hlt h y => ?_) (fun σ H h => ?_)
  · rw [List.drop_zero]
    exact Sat.leave ok1 s
  · obtain ⟨Z, ρ, ok, _⟩ := h
    exact ok.zz.trans ok.zh
  · obtain ⟨Z2, ρ2, ok2, sat⟩ := h
    obtain ⟨Z3, d, ok3, s3, hd, rd⟩ := wk.yields i H x H' hlt y _ _ _ _ _ _ ok2 ok2.zz
    have ed : ds.drop i = d :: ds.drop (i + 1) := by
      obtain ⟨hl, e⟩ := List.getElem?_eq_some_iff.mp hd
      rw [← e]
      exact List.drop_eq_getElem_cons hl
    rw [ed] at sat
    unfold forL at sat
    split at sat
    · exact sat.elim
    · rename_i ρ3 hk3
      refine hk _ _ _ Z3 H' σ ρ2 x d ρ3 _ ok3 rd hk3 fun σ3 ok4 _ => ?_
      refine hb _ _ _ Z3 H' σ3 ρ3 _ ok4 ?_
      split at sat
      · rename_i ρ4 e4; rw [e4]; exact fun σ4 H4 Z4 ok5 => ⟨Z4, ρ4, ok5, sat⟩
      · rename_i ρ4 e4; rw [e4]; exact fun σ4 H4 Z4 ok5 => ⟨Z4, ρ4, ok5, sat⟩
      · rename_i ρ4 e4; rw [e4]; exact sat
      · rename_i o h1 h2 h3
        generalize b ρ3 = o' at *
        cases o' with
        | nx ρ' => exact absurd rfl (h1 ρ')
        | ct ρ' => exact absurd rfl (h2 ρ')
        | bk ρ' => exact absurd rfl (h3 ρ')
        | rt d ρ' => exact sat
        | rf ds ρ' => exact sat
        | ex c d ρ' => exact sat
        | bad => exact sat.elim
  · obtain ⟨Z2, ρ2, ok2, sat⟩ := h
    rw [List.drop_length] at sat
    exact sat σ H Z2 ok2
def whileL (c : GT) (b : GS) : Nat → Rho → O
  | 0, _ => .bad
  | n + 1, ρ => (c ρ).to fun k ρ1 => if k then (match b ρ1 with
      | .nx ρ2 => whileL c b n ρ2
      | .ct ρ2 => whileL c b n ρ2
      | .bk ρ2 => .nx ρ2
      | o => o) else .nx ρ1
theorem ds_while {n : Nat} {tb : TS} {c : GT} {b : GS} (hc : DT K tt c) (hb : DS K Wx tb b) : DS K Wx (tWhile tt tb) (whileL c b n) := fun b0 B Z0 Z H σ ρ E ok s => by
  refine ⟨fun m σ H => ∃ Z ρ, Ok K b0 B Z0 Z H σ ρ ∧ Sat K Wx b0 B Z0 E (whileL c b m ρ), ⟨n, Z, ρ, ok, s⟩, fun m σ H h => ?_⟩
  obtain ⟨Z1, ρ1, ok1, sat⟩ := h
  cases m with
  | zero => exact sat.elim
  | succ m =>
    unfold whileL at sat
    obtain ⟨k, ρ2, e2, sat⟩ := Sat.to sat
    refine hc b0 B Z0 Z1 H σ ρ1 k ρ2 _ ok1 e2 fun H2 Z2 ok2 _ => ?_
    cases k with
    | false => exact sat σ H2 Z2 ok2
    | true =>
      refine ⟨fun σ H => ∃ Z ρ, Ok K b0 B Z0 Z H σ ρ ∧ Sat K Wx b0 B Z0 E (whileL c b m ρ), fun σ' H' h => ⟨m, Nat.lt_succ_self m, h⟩, ?_⟩
      refine hb _ _ _ Z2 H2 σ ρ2 _ ok2 ?_
      simp only [if_true] at sat
      split at sat
      · rename_i ρ4 e4; rw [e4]; exact fun σ4 H4 Z4 ok5 => ⟨Z4, ρ4, ok5, sat⟩
      · rename_i ρ4 e4; rw [e4]; exact fun σ4 H4 Z4 ok5 => ⟨Z4, ρ4, ok5, sat⟩
      · rename_i ρ4 e4; rw [e4]; exact sat
      · rename_i o h1 h2 h3
        generalize b ρ2 = o' at *
        cases o' with
        | nx ρ' => exact absurd rfl (h1 ρ')
        | ct ρ' => exact absurd rfl (h2 ρ')
        | bk ρ' => exact absurd rfl (h3 ρ')
        | rt d ρ' => exact sat
        | rf ds ρ' => exact sat
        | ex c d ρ' => exact sat
        | bad => exact sat.elim
end
end DL

namespace DL
open PySem L2
section
variable {K : PySem.W.Frag} {Wx : WX} {ta tb te : TE} {tt tu : TT} {tas : TA} {t u : TS} {b0 : Option Addr} {B Z0 Z H : Hp} {σ : L2.St} {ρ : Rho} {E : Ends} {p : Addr} {o o' : HO}
/-! ### comprehensions -/
def wipeR (ρ : Rho) : List Nat → Rho
  | [] => ρ
  | v :: vs => (wipeR ρ vs).set v .no
theorem wipeR_len : ∀ (vs : List Nat), (wipeR ρ vs).length = ρ.length
  | [] => rfl
  | v :: vs => by unfold wipeR; rw [List.length_set, wipeR_len vs]
theorem wipeR_get {i : Nat} {s : Sl} : ∀ {vs : List Nat}, (wipeR ρ vs)[i]? = some s → s = .no ∨ (i ∉ vs ∧ ρ[i]? = some s)
  | [], h => .inr ⟨by simp, h⟩
  | v :: vs, h => by
    unfold wipeR at h
    rcases set_get h with ⟨_, e⟩ | ⟨n, e⟩
    · exact .inl e.symm
    · rcases wipeR_get e with z | ⟨z1, z2⟩
      · exact .inl z
      · exact .inr ⟨fun z => (List.mem_cons.mp z).elim (fun y => n y.symm) z1, z2⟩
theorem wipe_get {i : Nat} : ∀ {vs : List Nat}, i ∉ vs → (wipe σ vs)[i]? = σ[i]?
  | [], _ => rfl
  | v :: vs, h => by
    unfold wipe
    rw [List.getElem?_set_ne (fun z => h (by rw [z]; exact List.mem_cons_self)), wipe_get fun z => h (List.mem_cons_of_mem _ z)]
theorem Ok.wipe (vs : List Nat) (ok : Ok K b0 B Z0 Z H σ ρ) : Ok K b0 B Z0 Z H (wipe σ vs) (wipeR ρ vs) :=
  ok.weak (by rw [wipe_length, wipeR_len]; exact ok.len) fun i s h => (wipeR_get h).imp id fun z => ⟨z.2, wipe_get z.1⟩
theorem Ok.unwipe (vs : List Nat) (ok : Ok K b0 B Z0 Z H (L2.wipe σ vs) ρ) : Ok K b0 B Z0 Z H σ (wipeR ρ vs) :=
  ok.weak (by rw [wipeR_len, ← ok.len, wipe_length]) fun i s h => (wipeR_get h).imp id fun z => ⟨z.2, (wipe_get z.1).symm⟩
theorem wipe_wipe (σ : L2.St) (vs : List Nat) : L2.wipe (L2.wipe σ vs) vs = L2.wipe σ vs := by
  apply List.ext_getElem?
  intro i
  by_cases h : i ∈ vs
  · have e : ∀ (τ : L2.St) (ws : List Nat), i ∈ ws → (L2.wipe τ ws)[i]? = if i < τ.length then some none else none := by
      intro τ ws
      induction ws with
      | nil => intro h; cases h
      | cons w ws ih =>
        intro h
        unfold L2.wipe
        by_cases hw : w = i
        · subst hw
          by_cases hl : w < τ.length
          · rw [List.getElem?_set_self (by rw [wipe_length]; exact hl), if_pos hl]
          · rw [if_neg hl, List.getElem?_eq_none (by rw [List.length_set, wipe_length]; omega)]
        · rw [List.getElem?_set_ne hw]
          exact ih ((List.mem_cons.mp h).resolve_left fun z => hw z.symm)
    rw [e _ _ h, e _ _ h, wipe_length]
  · rw [wipe_get h]
def gYes (ρ : Rho) : R Bool := .ok true ρ
theorem dt_yes : DT K tYes gYes := fun b0 B Z0 Z H σ ρ b ρ' Q ok e q => by
  cases e
  exact q H Z ok (Same.refl Z)
def lcL (vs : List Nat) (k : GG) (t : GT) (e : GE) : List D → Rho → R (List D)
  | [], ρ => .ok [] ρ
  | d :: ds, ρ => match k d ρ with
    | none => .bad
    | some ρ1 => (t ρ1).bind fun b ρ2 => if b then (e ρ2).bind fun y ρ3 => (lcL vs k t e ds (wipeR ρ3 vs)).map (y :: ·) else lcL vs k t e ds (wipeR ρ2 vs)
def eLc (vs : List Nat) (gi : GF) (k : GG) (t : GT) (e : GE) (ρ : Rho) : R (List D) := (gi ρ).bind fun ds ρ1 => if ds.length ≤ sizeLine then (lcL vs k t e ds (wipeR ρ1 vs)).bind fun ys ρ2 => .ok ys (wipeR ρ2 vs) else .bad
theorem df_lc {ti : TI} {tg : TG} {vs : List Nat} {gi : GF} {k : GG} {gt : GT} {ge : GE} (hi : DI K ti gi) (hk : DG K vs tg k) (ht : DT K tt gt) (he : DE K te ge) : DF K (tLc ti tg tt te vs) (eLc vs gi k gt ge) := fun b0 B Z0 Z H σ ρ ys ρ' Q ok e q => by
  obtain ⟨ds, ρ1, e1, e2⟩ := R.bind_ok e
  split at e2
  · rename_i hsz
    obtain ⟨ys', ρ2, e3, e4⟩ := R.bind_ok e2
    cases e4
    refine hi b0 B Z0 Z H σ ρ ds ρ1 _ ok e1 fun J H1 Z1 ok1 s1 wk => fun D hD => ?_
    have W : Walk J ds.length (fun H => Same Z1 H) (fun i H x H' => J.yld i H x H') := ⟨wk.goes, wk.stops, fun _ _ _ _ _ _ y => y⟩
    have bD : B D = none := ok1.bh.free hD
    have zD : Z0 D = none := ok1.zz.free (ok1.zh.free hD)
    refine lc_it W (fun i H => ∃ Z ρ acc da rest, Ok K b0 (upd B D (.lst acc)) Z0 Z H (wipe σ vs) ρ ∧ Same Z1 Z ∧ RpA K Z acc da ∧ acc.length ≤ i ∧ lcL vs k gt ge (ds.drop i) ρ = .ok rest ρ2 ∧ ys = da ++ rest) ?_ (fun i H _ h => ?_) (fun i x H H' hlt h y => ?_) (fun H h => ?_)
    · obtain ⟨okf, zf, bf, af⟩ := ok1.fresh (o := .lst []) hD
      have okw := okf.frame zf af upd_same
      refine ⟨Z1, wipeR ρ1 vs, [], [], ys, okw.wipe vs, Same.refl Z1, .nil, Nat.le_refl 0, ?_, rfl⟩
      rw [List.drop_zero]
      exact e3
    · obtain ⟨Z2, ρ2, acc, da, rest, ok2, s2, _⟩ := h
      exact s2.trans ok2.zh
    · obtain ⟨Z2, ρ2', acc, da, rest, ok2, s2, ra, hl, el, ey⟩ := h
      obtain ⟨Z3, d, ok3, s3, hd, rd⟩ := wk.yields i H x H' hlt y _ _ _ _ _ _ ok2 s2
      have ed : ds.drop i = d :: ds.drop (i + 1) := by
        obtain ⟨hl, e⟩ := List.getElem?_eq_some_iff.mp hd
        rw [← e]
        exact List.drop_eq_getElem_cons hl
      rw [ed] at el
      unfold lcL at el
      split at el
      · cases el
      · rename_i ρ3 hk3
        refine hk _ _ _ Z3 H' (wipe σ vs) ρ2' x d ρ3 _ ok3 rd hk3 fun σ3 ok4 w4 => ⟨w4.trans (wipe_wipe σ vs), ?_⟩
        obtain ⟨b, ρ4, e4, el⟩ := R.bind_ok el
        refine ht _ _ _ Z3 H' σ3 ρ3 b ρ4 _ ok4 e4 fun H5 Z5 ok5 s5 => ?_
        cases b with
        | false =>
          refine ⟨Z5, wipeR ρ4 vs, acc, da, rest, ?_, (s2.trans s3).trans s5, (ra.mono s3).mono s5, Nat.le_succ_of_le hl, el, ey⟩
          have := ok5.wipe vs
          rw [w4, wipe_wipe] at this
          exact this
        | true =>
          obtain ⟨yv, ρ5, e5, el⟩ := R.bind_ok el
          obtain ⟨rest', e6, rfl⟩ := R.map_ok el
          refine he _ _ _ Z5 H5 σ3 ρ4 yv ρ5 _ ok5 e5 fun v H6 Z6 ok6 s6 r6 => ?_
          obtain ⟨_, hz6, ap6, hp6⟩ := ok6.unframe zD bD
          refine ⟨acc, hp6, by omega, Z6, wipeR ρ5 vs, acc ++ [v], da ++ [yv], rest', ?_, ((s2.trans s3).trans s5).trans s6, (((ra.mono s3).mono s5).mono s6).append (.one r6), ?_, e6, ?_⟩
          · have := (ok6.reframe (o' := .lst (acc ++ [v])) zD bD).wipe vs
            rw [w4, wipe_wipe] at this
            exact this
          · rw [List.length_append, List.length_singleton]; omega
          · rw [ey, List.append_assoc]; rfl
    · obtain ⟨Z2, ρ2', acc, da, rest, ok2, s2, ra, hl, el, ey⟩ := h
      rw [List.drop_length] at el
      cases el
      obtain ⟨ok3, hz, ap, hp⟩ := ok2.unframe zD bD
      have ok4 := ok3.unwipe vs
      rw [List.append_nil] at ey
      subst ey
      refine q D acc H Z2 ok4 (s1.trans s2) hz bD (fun i es hi ho hq => ?_) hp ra
      rcases wipeR_get hi with z | ⟨z1, z2⟩
      · subst z; cases ho
      · exact ap i es z2 ho (by rw [wipe_get z1]; exact hq)
  · cases e2
end
end DL

namespace DL
open PySem L2
section
variable {K : PySem.W.Frag} {Wx : WX} {ta tb te : TE} {tt tu : TT} {tas : TA} {t u : TS} {b0 : Option Addr} {B Z0 Z H : Hp} {σ : L2.St} {ρ : Rho} {p : Addr} {o o' : HO}
/-! ### defs: promises about data -/
/-- what a caller hears of the frozen heap behind a call -/
def Grow (H Z Z' H' : Hp) : Prop := Same Z Z' ∧ Same Z' H' ∧ ∀ p o, Z' p = some o → Z p = some o ∨ H p = none
/-- a def that hands back data and changes nothing -/
def spP (K : PySem.W.Frag) (np : Nat) (F : List D → Option D) : Sp := fun vs H Q _ => vs.length = np ∧ ∃ Z ds d, Same Z H ∧ RpA K Z vs ds ∧ F ds = some d ∧ ∀ v H' Z', Same H H' → Grow H Z Z' H' → Rp K Z' v d → Q v H'
/-- .. a new list -/
def spF (K : PySem.W.Frag) (np : Nat) (F : List D → Option (List D)) : Sp := fun vs H Q _ => vs.length = np ∧ ∃ Z ds es, Same Z H ∧ RpA K Z vs ds ∧ F ds = some es ∧ ∀ p ws H' Z', Same H H' → Grow H Z Z' H' → H p = none → Z' p = none → H' p = some (.lst ws) → RpA K Z' ws es → Q (.ref p) H'
/-- a def whose first parameter is a list that it may change -/
def spB (K : PySem.W.Frag) (np : Nat) (F : List D → List D → Option (D × List D)) : Sp := fun vs H Q _ => vs.length = np ∧ ∃ Z b vb box rest ds d box', vs = .ref b :: rest ∧ Same Z H ∧ Z b = none ∧ H b = some (.lst vb) ∧ RpA K Z vb box ∧ RpA K Z rest ds ∧ F box ds = some (d, box') ∧
  ∀ v H' Z' vb', (∀ p o, p ≠ b → H p = some o → H' p = some o) → Grow H Z Z' H' → Z' b = none → H' b = some (.lst vb') → RpA K Z' vb' box' → Rp K Z' v d → Q v H'
def spBF (K : PySem.W.Frag) (np : Nat) (F : List D → List D → Option (List D × List D)) : Sp := fun vs H Q _ => vs.length = np ∧ ∃ Z b vb box rest ds es box', vs = .ref b :: rest ∧ Same Z H ∧ Z b = none ∧ H b = some (.lst vb) ∧ RpA K Z vb box ∧ RpA K Z rest ds ∧ F box ds = some (es, box') ∧
  ∀ p ws H' Z' vb', (∀ p o, p ≠ b → H p = some o → H' p = some o) → Grow H Z Z' H' → Z' b = none → H' b = some (.lst vb') → RpA K Z' vb' box' → H p = none → Z' p = none → H' p = some (.lst ws) → RpA K Z' ws es → Q (.ref p) H'
/-! the functions that a body computes: n slots -/
def env0 (n : Nat) (args : List D) : Rho := args.map .sh ++ List.replicate (n - args.length) .no
def envB (n : Nat) (box : List D) (args : List D) : Rho := .ow box :: (args.map .sh ++ List.replicate (n - (args.length + 1)) .no)
def callP (np n : Nat) (g : GS) : List D → Option D := fun args => if args.length ≠ np then none else match g (env0 n args) with
  | .rt d _ => some d
  | .nx _ => some .none
  | .rf ds _ => some (.list ds)
  | _ => none
def callF (np n : Nat) (g : GS) : List D → Option (List D) := fun args => if args.length ≠ np then none else match g (env0 n args) with
  | .rf ds _ => some ds
  | _ => none
def box0 (ρ : Rho) : Option (List D) := match (ρ[0]? : Option Sl) with
  | some (.ow b) => some b
  | _ => none
def callB (np n : Nat) (g : GS) : List D → List D → Option (D × List D) := fun box args => if args.length + 1 ≠ np then none else match g (envB n box args) with
  | .rt d ρ => (box0 ρ).map (d, ·)
  | .nx ρ => (box0 ρ).map (.none, ·)
  | .rf ds ρ => (box0 ρ).map (.list ds, ·)
  | _ => none
def callBF (np n : Nat) (g : GS) : List D → List D → Option (List D × List D) := fun box args => if args.length + 1 ≠ np then none else match g (envB n box args) with
  | .rf ds ρ => (box0 ρ).map (ds, ·)
  | _ => none
theorem args_get {vs : List V} {ds : List D} {n m i : Nat} {s : Sl} (r : RpA K Z vs ds) (h : (ds.map Sl.sh ++ List.replicate m .no)[i]? = some s) : s = .no ∨ ∃ d v, s = .sh d ∧ (vs.map some ++ List.replicate n none)[i]? = some (some v) ∧ Rp K Z v d := by
  by_cases hi : i < ds.length
  · rw [List.getElem?_append_left (by rw [List.length_map]; exact hi), List.getElem?_map] at h
    obtain ⟨d, hd, rfl⟩ := Option.map_eq_some_iff.mp h
    obtain ⟨v, hv, rv⟩ := r.get hd
    refine .inr ⟨d, v, rfl, ?_, rv⟩
    rw [List.getElem?_append_left (by rw [List.length_map, r.length]; exact hi), List.getElem?_map, hv]
    rfl
  · rw [List.getElem?_append_right (by rw [List.length_map]; omega), List.getElem?_replicate] at h
    split at h
    · exact .inl (Option.some.inj h).symm
    · cases h
theorem ok_start {N : List Str} {vs : List V} {ds : List D} (s : Same Z H) (r : RpA K Z vs ds) (hn : vs.length ≤ N.length) : Ok K none H Z Z H (L2.start N vs) (env0 N.length ds) := by
  unfold L2.start env0
  refine ⟨?_, Same.refl H, s, Same.refl Z, fun _ _ e => .inl e, fun i d h => ?_, fun i s h ho => ?_, (fun _ z => nomatch z), fun i j p s t h _ ho _ _ _ => ?_⟩
  · rw [List.length_append, List.length_append, List.length_map, List.length_map, List.length_replicate, List.length_replicate, r.length]
  · rcases args_get (n := N.length - vs.length) r h with z | ⟨d', v, e, e2, rv⟩
    · cases z
    · cases e; exact ⟨v, e2, rv⟩
  · rcases args_get (n := N.length - vs.length) r h with z | ⟨d', v, e, e2, rv⟩
    · subst z; cases ho
    · subst e; cases ho
  · rcases args_get (n := N.length - vs.length) r h with z | ⟨d', v, e, e2, rv⟩
    · subst z; cases ho
    · subst e; cases ho
/-- a body that reads as g keeps the promise -/
theorem run_P {N : List Str} {np : Nat} {g : GS} {vs : List V} {Q : VK} {E : XK} (h : DS K (fun _ _ _ _ => False) t g) (hk : np ≤ N.length) (hs : spP K np (callP np N.length g) vs H Q E) : t { nx := fun _ H' => Q .non H', rt := Q } (L2.start N vs) H := by
  obtain ⟨hl, Z, ds, d, sZ, ra, e, q⟩ := hs
  have ok := ok_start (N := N) sZ ra (by omega)
  refine h _ _ _ _ _ _ _ _ ok ?_
  unfold callP at e
  split at e
  · cases e
  split at e
  · rename_i d' ρ' e'
    cases e
    rw [e']
    exact fun v σ' H' Z' ok' r => q v H' Z' ok'.bh ⟨ok'.zz, ok'.zh, ok'.nb⟩ r
  · rename_i ρ' e'
    cases e
    rw [e']
    exact fun σ' H' Z' ok' => q .non H' Z' ok'.bh ⟨ok'.zz, ok'.zh, ok'.nb⟩ .non
  · rename_i ds' ρ' e'
    cases e
    rw [e']
    intro p ws σ' H' Z' ok' zp bp ap hp r
    obtain ⟨ok2, s2⟩ := ok'.freeze zp bp ap hp
    exact q (.ref p) H' _ ok2.bh ⟨ok2.zz, ok2.zh, ok2.nb⟩ (.lst upd_same (r.mono s2))
  · cases e
theorem run_F {N : List Str} {np : Nat} {g : GS} {vs : List V} {Q : VK} {E : XK} (h : DS K (fun _ _ _ _ => False) t g) (hk : np ≤ N.length) (hs : spF K np (callF np N.length g) vs H Q E) : t { nx := fun _ H' => Q .non H', rt := Q } (L2.start N vs) H := by
  obtain ⟨hl, Z, ds, d, sZ, ra, e, q⟩ := hs
  have ok := ok_start (N := N) sZ ra (by omega)
  refine h _ _ _ _ _ _ _ _ ok ?_
  unfold callF at e
  split at e
  · cases e
  split at e
  · rename_i ds' ρ' e'
    cases e
    rw [e']
    intro p ws σ' H' Z' ok' zp bp ap hp r
    exact q p ws H' Z' ok'.bh ⟨ok'.zz, ok'.zh, ok'.nb⟩ bp zp hp r
  · cases e
/-- H without b -/
def but (H : Hp) (b : Addr) : Hp := fun p => if p = b then none else H p
theorem but_same {b : Addr} : but H b b = none := if_pos rfl
theorem but_ne {b q : Addr} (h : q ≠ b) : but H b q = H q := if_neg h
theorem but_le {b : Addr} : Same (but H b) H := fun q o e => by
  by_cases hq : q = b
  · rw [hq, but_same] at e; cases e
  · rw [but_ne hq] at e; exact e
theorem ok_startB {N : List Str} {b : Addr} {vb rest : List V} {box ds : List D} (s : Same Z H) (zb : Z b = none) (hb : H b = some (.lst vb)) (rb : RpA K Z vb box) (r : RpA K Z rest ds) (hn : rest.length + 1 ≤ N.length) : Ok K (some b) (but H b) Z Z H (L2.start N (.ref b :: rest)) (envB N.length box ds) := by
  have len : (L2.start N (.ref b :: rest)) = some (.ref b) :: (rest.map some ++ List.replicate (N.length - (rest.length + 1)) none) := rfl
  rw [len]
  unfold envB
  have zb' : ∀ q o, Z q = some o → (Z q = some o ∨ but H b q = none) := fun q o e => .inl e
  have G : ∀ {i : Nat} {s : Sl}, (Sl.ow box :: (ds.map Sl.sh ++ List.replicate (N.length - (ds.length + 1)) .no))[i]? = some s → (i = 0 ∧ s = .ow box) ∨ s = .no ∨ ∃ j d v, i = j + 1 ∧ s = .sh d ∧ (rest.map some ++ List.replicate (N.length - (rest.length + 1)) none)[j]? = some (some v) ∧ Rp K Z v d := by
    intro i s h
    cases i with
    | zero => exact .inl ⟨rfl, (Option.some.inj h).symm⟩
    | succ j =>
      rw [List.getElem?_cons_succ] at h
      rcases args_get (n := N.length - (rest.length + 1)) r h with z | ⟨d', v, e, e2, rv⟩
      · exact .inr (.inl z)
      · exact .inr (.inr ⟨j, d', v, rfl, e, e2, rv⟩)
  refine ⟨?_, but_le, s, Same.refl Z, zb', fun i d h => ?_, fun i s h ho => ?_, fun a ha ds' h => by cases ha; rfl, fun i j p s t h h' ho ho' _ _ => ?_⟩
  · simp only [List.length_cons, List.length_append, List.length_map, List.length_replicate, r.length]
  · rcases G h with ⟨_, z⟩ | z | ⟨j, d', v, rfl, e, e2, rv⟩
    · cases z
    · cases z
    · cases e; exact ⟨v, by rw [List.getElem?_cons_succ]; exact e2, rv⟩
  · rcases G h with ⟨rfl, z⟩ | z | ⟨j, d', v, rfl, e, e2, rv⟩
    · subst z; exact ⟨b, _, rfl, zb, but_same, hb, vb, rfl, rb⟩
    · subst z; cases ho
    · subst e; cases ho
  · rcases G h with ⟨rfl, z⟩ | z | ⟨j, d', v, rfl, e, e2, rv⟩
    · rcases G h' with ⟨rfl, z⟩ | z | ⟨j, d', v, rfl, e, e2, rv⟩
      · rfl
      · subst z; cases ho'
      · subst e; cases ho'
    · subst z; cases ho
    · subst e; cases ho
theorem box0_ok {b : Addr} {Z' H' : Hp} {σ' : L2.St} {ρ' : Rho} {box' : List D} (ok : Ok K (some b) (but H b) Z0 Z' H' σ' ρ') (h : box0 ρ' = some box') : ∃ vb', Z' b = none ∧ H' b = some (.lst vb') ∧ RpA K Z' vb' box' := by
  unfold box0 at h
  split at h
  · rename_i b' e
    cases h
    obtain ⟨q, vs, e1, e2, e3, e4, e5⟩ := ok.ow 0 _ e
    have z := ok.fix b rfl _ e
    rw [e1] at z
    cases z
    exact ⟨vs, e2, e4, e5⟩
  · cases h
theorem but_nb {b : Addr} {Z' : Hp} (zb : Z' b = none) (h : ∀ p o, Z' p = some o → Z p = some o ∨ but H b p = none) : ∀ p o, Z' p = some o → Z p = some o ∨ H p = none := fun p o e => by
  rcases h p o e with z | z
  · exact .inl z
  · have n : p ≠ b := ne_of_none e zb
    rw [but_ne n] at z
    exact .inr z
theorem but_bh {b : Addr} {H' : Hp} (h : Same (but H b) H') : ∀ p o, p ≠ b → H p = some o → H' p = some o := fun p o n e => h p o (by rw [but_ne n]; exact e)
theorem run_B {N : List Str} {np : Nat} {g : GS} {vs : List V} {Q : VK} {E : XK} (h : DS K (fun _ _ _ _ => False) t g) (hk : np ≤ N.length) (hs : spB K np (callB np N.length g) vs H Q E) : t { nx := fun _ H' => Q .non H', rt := Q } (L2.start N vs) H := by
  obtain ⟨hl, Z, b, vb, box, rest, ds, d, box', rfl, sZ, zb, hb, rb, ra, e, q⟩ := hs
  have ok := ok_startB (N := N) sZ zb hb rb ra (by rw [List.length_cons] at hl; omega)
  refine h _ _ _ _ _ _ _ _ ok ?_
  unfold callB at e
  split at e
  · cases e
  split at e
  · rename_i d' ρ' e'
    obtain ⟨bx, e1, e2⟩ := Option.map_eq_some_iff.mp e
    cases e2
    rw [e']
    intro v σ' H' Z' ok' r
    obtain ⟨vb', z1, z2, z3⟩ := box0_ok ok' e1
    exact q v H' Z' vb' (but_bh ok'.bh) ⟨ok'.zz, ok'.zh, but_nb z1 ok'.nb⟩ z1 z2 z3 r
  · rename_i ρ' e'
    obtain ⟨bx, e1, e2⟩ := Option.map_eq_some_iff.mp e
    cases e2
    rw [e']
    intro σ' H' Z' ok'
    obtain ⟨vb', z1, z2, z3⟩ := box0_ok ok' e1
    exact q .non H' Z' vb' (but_bh ok'.bh) ⟨ok'.zz, ok'.zh, but_nb z1 ok'.nb⟩ z1 z2 z3 .non
  · rename_i ds' ρ' e'
    obtain ⟨bx, e1, e2⟩ := Option.map_eq_some_iff.mp e
    cases e2
    rw [e']
    intro p ws σ' H' Z' ok' zp bp ap hp r
    obtain ⟨ok2, s2⟩ := ok'.freeze zp bp ap hp
    obtain ⟨vb', z1, z2, z3⟩ := box0_ok ok2 e1
    exact q (.ref p) H' _ vb' (but_bh ok2.bh) ⟨ok2.zz, ok2.zh, but_nb z1 ok2.nb⟩ z1 z2 z3 (.lst upd_same (r.mono s2))
  · cases e
theorem run_BF {N : List Str} {np : Nat} {g : GS} {vs : List V} {Q : VK} {E : XK} (h : DS K (fun _ _ _ _ => False) t g) (hk : np ≤ N.length) (hs : spBF K np (callBF np N.length g) vs H Q E) : t { nx := fun _ H' => Q .non H', rt := Q } (L2.start N vs) H := by
  obtain ⟨hl, Z, b, vb, box, rest, ds, d, box', rfl, sZ, zb, hb, rb, ra, e, q⟩ := hs
  have ok := ok_startB (N := N) sZ zb hb rb ra (by rw [List.length_cons] at hl; omega)
  refine h _ _ _ _ _ _ _ _ ok ?_
  unfold callBF at e
  split at e
  · cases e
  split at e
  · rename_i ds' ρ' e'
    obtain ⟨bx, e1, e2⟩ := Option.map_eq_some_iff.mp e
    cases e2
    rw [e']
    intro p ws σ' H' Z' ok' zp bp ap hp r
    obtain ⟨vb', z1, z2, z3⟩ := box0_ok ok' e1
    have hpn : H p = none := by
      by_cases hpb : p = b
      · subst hpb
        -- p is the box itself: it is owned in slot 0, p is apart from it
        exfalso
        unfold box0 at e1
        split at e1
        · rename_i b' e0
          exact ap 0 _ e0 rfl (ok'.fix p rfl _ e0)
        · cases e1
      · rw [but_ne hpb] at bp; exact bp
    exact q p ws H' Z' vb' (but_bh ok'.bh) ⟨ok'.zz, ok'.zh, but_nb z1 ok'.nb⟩ z1 z2 z3 hpn zp hp r
  · cases e
/-! ### calls -/
def flatD : D → Bool
  | .none => true
  | .bool _ => true
  | .int _ => true
  | .str _ => true
  | _ => false
theorem flat_rp {v : V} {d : D} {Z Z' : Hp} (h : flatD d = true) (r : Rp K Z v d) : Rp K Z' v d := by
  cases r with
  | non => exact .non
  | bl b => exact .bl b
  | int i => exact .int i
  | str x => exact .str x
  | lst _ _ => cases h
  | scr _ _ => cases h
  | tup _ _ => cases h
  | exc _ _ _ _ => cases h
  | dct _ _ => cases h
/-- a call, its arguments data -/
def eCall {α : Type} (F : List D → Option α) (ga : GA) (ρ : Rho) : R α := (ga ρ).bind fun os ρ1 => match valA os with
  | some ds => R.lift (F ds) ρ1
  | none => .bad
theorem call_ok {α : Type} {F : List D → Option α} {ga : GA} {ρ ρ' : Rho} {z : α} (e : eCall F ga ρ = .ok z ρ') : ∃ os ds, ga ρ = .ok os ρ' ∧ valA os = some ds ∧ F ds = some z := by
  obtain ⟨x, ρ1, e1, e2⟩ := R.bind_ok e
  split at e2
  · rename_i d h1
    obtain ⟨e5, rfl⟩ := R.lift_ok e2
    exact ⟨x, d, e1, h1, e5⟩
  · cases e2
/-- behind a call that keeps all -/
theorem Ok.grow {Z' H' : Hp} (ok : Ok K b0 B Z0 Z H σ ρ) (hh : Same H H') (g : Grow H Z Z' H') : Ok K b0 B Z0 Z' H' σ ρ := by
  refine ⟨ok.len, ok.bh.trans hh, g.2.1, ok.zz.trans g.1, fun p o e => ?_, fun i d e => ?_, fun i s e eo => ?_, ok.fix, ok.sepS⟩
  · rcases g.2.2 p o e with z | z
    · exact ok.nb p o z
    · exact .inr (ok.bh.free z)
  · obtain ⟨v, e1, e2⟩ := ok.sh i d e
    exact ⟨v, e1, e2.mono g.1⟩
  · obtain ⟨q, vs, e1, e2, e3, e4, e5⟩ := ok.own i s e eo
    refine ⟨q, vs, e1, ?_, e3, hh _ _ e4, e5.mono g.1⟩
    cases z : Z' q with
    | none => rfl
    | some o =>
      rcases g.2.2 q o z with y | y
      · rw [e2] at y; cases y
      · rw [e4] at y; cases y
theorem OpA.length {Z : Hp} {σ : L2.St} : ∀ {vs : List V} {os : List Op}, OpA K Z σ vs os → vs.length = os.length
  | _, _, .nil => rfl
  | _, _, .cons _ r => by rw [List.length_cons, List.length_cons, OpA.length r]
theorem callP_len {np n : Nat} {g : GS} : ∀ ds d, callP np n g ds = some d → ds.length = np := fun ds d h => by
  unfold callP at h
  split at h
  · cases h
  · omega
theorem callF_len {np n : Nat} {g : GS} : ∀ ds d, callF np n g ds = some d → ds.length = np := fun ds d h => by
  unfold callF at h
  split at h
  · cases h
  · omega
theorem callB_len {np n : Nat} {g : GS} : ∀ b ds d, callB np n g b ds = some d → ds.length + 1 = np := fun b ds d h => by
  unfold callB at h
  split at h
  · cases h
  · omega
theorem callBF_len {np n : Nat} {g : GS} : ∀ b ds d, callBF np n g b ds = some d → ds.length + 1 = np := fun b ds d h => by
  unfold callBF at h
  split at h
  · cases h
  · omega
theorem de_call {np : Nat} {F : List D → Option D} {ga : GA} {E : XK} (hF : ∀ ds d, F ds = some d → ds.length = np) (ha : DA K tas ga) : DE K (tCall (spP K np F) [] E tas) (eCall F ga) := fun b0 B Z0 Z H σ ρ d ρ' Q ok e q => by
  obtain ⟨os, ds, e1, e2, e3⟩ := call_ok e
  refine ha b0 B Z0 Z H σ ρ os ρ' _ ok e1 fun vs H1 Z1 ok1 s1 r1 => ?_
  have rA := valA_ok r1 e2
  refine ⟨by rw [List.append_nil, rA.length]; exact hF _ _ e3, Z1, ds, d, ok1.zh, by rw [List.append_nil]; exact rA, e3, fun v H' Z' hh g r => ?_⟩
  exact q v H' Z' (ok1.grow hh g) (s1.trans g.1) r
theorem df_call {np : Nat} {F : List D → Option (List D)} {ga : GA} {E : XK} (hF : ∀ ds d, F ds = some d → ds.length = np) (ha : DA K tas ga) : DF K (tCall (spF K np F) [] E tas) (eCall F ga) := fun b0 B Z0 Z H σ ρ d ρ' Q ok e q => by
  obtain ⟨os, ds, e1, e2, e3⟩ := call_ok e
  refine ha b0 B Z0 Z H σ ρ os ρ' _ ok e1 fun vs H1 Z1 ok1 s1 r1 => ?_
  have rA := valA_ok r1 e2
  refine ⟨by rw [List.append_nil, rA.length]; exact hF _ _ e3, Z1, ds, d, ok1.zh, by rw [List.append_nil]; exact rA, e3, fun p ws H' Z' hh g hp zp hp' r => ?_⟩
  refine q p ws H' Z' (ok1.grow hh g) (s1.trans g.1) zp (ok1.bh.free hp) (fun i es hi ho hq => ?_) hp' r
  obtain ⟨q', vs', f1, _, _, f4, _⟩ := ok1.own i es hi ho
  rw [f1] at hq
  cases hq
  rw [hp] at f4
  cases f4
/-- a call whose answer is flat; its arguments may be lists of one's own -/
def eCallO (F : List D → Option D) (ga : GA) (ρ : Rho) : R D := (ga ρ).bind fun os ρ1 => match resA os ρ1 with
  | some ds => (match F ds with
    | some d => if flatD d then .ok d ρ1 else .bad
    | none => .bad)
  | none => .bad
theorem bdA_rp {vs : List V} {ds : List D} (s : Same Z H) (h : BdA K Z H vs ds) : RpA K H vs ds := by
  induction h with
  | nil => exact .nil
  | cons h _ ih =>
    refine .cons ?_ ih
    cases h with
    | non => exact .non
    | bl b => exact .bl b
    | int i => exact .int i
    | str x => exact .str x
    | lst h r => exact .lst h (r.mono s)
    | scr h r => exact .scr h (r.mono s)
    | tup h r => exact .tup (same_t s h) (r.mono s)
    | exc h1 h2 h3 r => exact .exc (s _ _ h1) (s _ _ h2) h3 (r.mono s)
    | dct h r => exact .dct h (r.mono s)
theorem Ok.later {H' : Hp} (ok : Ok K b0 B Z0 Z H σ ρ) (hh : Same H H') : Ok K b0 B Z0 Z H' σ ρ :=
  ok.grow hh ⟨Same.refl Z, ok.zh.trans hh, fun _ _ e => .inl e⟩
theorem BdA.length {Z H : Hp} : ∀ {vs : List V} {ds : List D}, BdA K Z H vs ds → vs.length = ds.length
  | _, _, .nil => rfl
  | _, _, .cons _ r => by rw [List.length_cons, List.length_cons, BdA.length r]
theorem de_callO {np : Nat} {F : List D → Option D} {ga : GA} {E : XK} (hF : ∀ ds d, F ds = some d → ds.length = np) (ha : DA K tas ga) : DE K (tCall (spP K np F) [] E tas) (eCallO F ga) := fun b0 B Z0 Z H σ ρ d ρ' Q ok e q => by
  obtain ⟨os, ρ1, e1, e2⟩ := R.bind_ok e
  split at e2
  · rename_i ds e3
    split at e2
    · rename_i d' e4
      split at e2
      · rename_i hf
        cases e2
        refine ha b0 B Z0 Z H σ ρ os ρ' _ ok e1 fun vs H1 Z1 ok1 s1 r1 => ?_
        have rA := ok1.bdA r1 e3
        refine ⟨by rw [List.append_nil, rA.length]; exact hF _ _ e4, H1, ds, d, Same.refl H1, by rw [List.append_nil]; exact bdA_rp ok1.zh rA, e4, fun v H' Z' hh g r => ?_⟩
        exact q v H' Z1 (ok1.later hh) s1 (flat_rp hf r)
      · cases e2
    · cases e2
  · cases e2
/-- a call of a def that may change the list in slot i -/
def eCallB (F : List D → List D → Option (D × List D)) (i : Nat) (ga : GA) (ρ : Rho) : R D := if isOw ρ[i]? then (ga ρ).bind fun os ρ1 => match ρ1[i]?, valA os with
    | some (.ow box), some ds => (match F box ds with
      | some (d, box') => .ok d (ρ1.set i (.ow box'))
      | none => .bad)
    | _, _ => .bad
  else .bad
theorem Ok.growB {Z' H' : Hp} {b : Addr} {vb' : List V} {i : Nat} {box box' : List D} (ok : Ok K b0 B Z0 Z H σ ρ) (hi : ρ[i]? = some (.ow box)) (hb : σ[i]? = some (some (.ref b))) (hh : ∀ p o, p ≠ b → H p = some o → H' p = some o) (g : Grow H Z Z' H')
    (zb : Z' b = none) (hb' : H' b = some (.lst vb')) (r : RpA K Z' vb' box') : Ok K b0 B Z0 Z' H' σ (ρ.set i (.ow box')) := by
  obtain ⟨b1, vb, f1, f2, f3, f4, f5⟩ := ok.ow i box hi
  rw [hb] at f1
  cases f1
  have hl : i < ρ.length := by
    by_cases z : i < ρ.length
    · exact z
    · rw [List.getElem?_eq_none (by simpa using z)] at hi; cases hi
  refine ⟨by rw [List.length_set]; exact ok.len, fun p o e => hh p o (ne_of_none e f3) (ok.bh p o e), g.2.1, ok.zz.trans g.1, fun p o e => ?_, fun j d e => ?_, fun j s e eo => ?_, fun a ha ds e => ?_, fun j k q s t e1 e2 o1 o2 e3 e4 => ?_⟩
  · rcases g.2.2 p o e with z | z
    · exact ok.nb p o z
    · exact .inr (ok.bh.free z)
  · rcases set_get e with ⟨_, z⟩ | ⟨n, e⟩
    · cases z
    · obtain ⟨v, e1, e2⟩ := ok.sh j d e
      exact ⟨v, e1, e2.mono g.1⟩
  · rcases set_get e with ⟨rfl, z⟩ | ⟨n, e⟩
    · subst z
      exact ⟨b, _, hb, zb, f3, hb', vb', rfl, r⟩
    · obtain ⟨q, vs, e1, e2, e3, e4, e5⟩ := ok.own j s e eo
      have nq : q ≠ b := fun z => n (ok.sepS i j b _ s hi e rfl eo hb (by rw [e1, z]))
      refine ⟨q, vs, e1, ?_, e3, hh _ _ nq e4, e5.mono g.1⟩
      cases z : Z' q with
      | none => rfl
      | some o =>
        rcases g.2.2 q o z with y | y
        · rw [e2] at y; cases y
        · rw [e4] at y; cases y
  · rcases set_get e with ⟨rfl, z⟩ | ⟨n, e⟩
    · exact ok.fix a ha box hi
    · exact ok.fix a ha ds e
  · have G : ∀ {j : Nat} {as : Sl}, (ρ.set i (.ow box'))[j]? = some as → as.isO = true → ∃ as', ρ[j]? = some as' ∧ as'.isO = true := fun {j as} e ho => by
      rcases set_get e with ⟨rfl, z⟩ | ⟨n, e⟩
      · exact ⟨.ow box, hi, rfl⟩
      · exact ⟨as, e, ho⟩
    obtain ⟨_, y1, z1⟩ := G e1 o1
    obtain ⟨_, y2, z2⟩ := G e2 o2
    exact ok.sepS j k q _ _ y1 y2 z1 z2 e3 e4
theorem de_callB {np : Nat} {F : List D → List D → Option (D × List D)} {i : Nat} {ga : GA} {E : XK} (hF0 : ∀ b ds d, F b ds = some d → ds.length + 1 = np) (ha : DA K tas ga) : DE K (tCall (spB K np F) [] E (tCons (tVar i) tas)) (eCallB F i ga) := fun b0 B Z0 Z H σ ρ d ρ' Q ok e q => by
  unfold eCallB at e
  split at e
  · rename_i h0
    obtain ⟨b, vb0, e0, hb0⟩ := ok.isOw h0
    obtain ⟨os, ρ1, e1, e⟩ := R.bind_ok e
    split at e
    · rename_i box ds hi hv
      split at e
      · rename_i d' box' hF
        cases e
        refine ⟨.ref b, e0, ?_⟩
        refine ha b0 B Z0 Z H σ ρ os ρ1 _ ok e1 fun vs H1 Z1 ok1 s1 r1 => ?_
        obtain ⟨b1, vb, f1, f2, f3, f4, f5⟩ := ok1.ow i box hi
        rw [e0] at f1
        cases f1
        have rA := valA_ok r1 hv
        refine ⟨by rw [List.append_nil, List.length_cons, rA.length]; exact hF0 _ _ _ hF, Z1, b, vb, box, vs, ds, d, box', by rw [List.append_nil], ok1.zh, f2, f4, f5, rA, hF, fun v H' Z' vb' hh g zb hb' rb r => ?_⟩
        exact q v H' Z' (ok1.growB hi e0 hh g zb hb' rb) (s1.trans g.1) r
      · cases e
    · cases e
  · cases e
end
end DL

namespace DL
open PySem L2
/-! ### operators on data -/
def sz (n : Nat) : Bool := decide (n ≤ sizeLine)
def addD : D → D → Option D
  | .int i, .int j => some (.int (i + j))
  | .str x, .str y => if x.length + y.length ≤ sizeLine then some (.str (x ++ y)) else none
  | .tuple xs, .tuple ys => if xs.length + ys.length ≤ sizeLine then some (.tuple (xs ++ ys)) else none
  | _, _ => none
def addL : D → D → Option (List D)
  | .list xs, .list ys => if xs.length + ys.length ≤ sizeLine then some (xs ++ ys) else none
  | _, _ => none
def subD : D → D → Option D
  | .int i, .int j => some (.int (i - j))
  | _, _ => none
instance (i j : Int) : Decidable (CMul i j) := inferInstanceAs (Decidable (_ ∨ _))
instance (i j : Int) : Decidable (CMulW i j) := inferInstanceAs (Decidable (_ < _))
/-- a small factor, or together less than a million bits -/
def CMulU (i j : Int) : Prop := CMul i j ∨ CMulW i j
instance (i j : Int) : Decidable (CMulU i j) := inferInstanceAs (Decidable (_ ∨ _))
theorem CMulU.ok {i j : Int} (h : CMulU i j) : _root_.PySem.IntMulOk i j := h.elim CMul.ok CMulW.ok
def mulD : D → D → Option D
  | .int i, .int j => if CMulU i j then some (.int (i * j)) else none
  | _, _ => none
def repL : D → D → Option (List D)
  | .list xs, .int k => if -(2 ^ 63) ≤ k ∧ k < 2 ^ 63 ∧ xs.length * k.toNat ≤ sizeLine then some (List.replicate k.toNat xs).flatten else none
  | _, _ => none
def fdivD : D → D → Option D
  | .int i, .int j => if 0 < j ∧ j.natAbs.log2 < 9000 then some (.int (i / j)) else none
  | _, _ => none
def modD : D → D → Option D
  | .int i, .int j => if 0 < j then some (.int (i % j)) else none
  | _, _ => none
def powD : D → D → Option D
  | .int i, .int j => if 0 ≤ j ∧ j ≤ 1000000 ∧ i.natAbs < 2 ^ 64 then some (.int (i ^ j.toNat)) else none
  | _, _ => none
def eqD (d e : D) : Option D := if SeqAt.shaped d = true ∧ SeqAt.shaped e = true then some (.bool (PyData.eqv d e)) else none
def neD (d e : D) : Option D := if SeqAt.shaped d = true ∧ SeqAt.shaped e = true then some (.bool (!PyData.eqv d e)) else none
def ltD : D → D → Option D
  | .int i, .int j => some (.bool (decide (i < j)))
  | _, _ => none
def leD : D → D → Option D
  | .int i, .int j => some (.bool (decide (i ≤ j)))
  | _, _ => none
def gtD : D → D → Option D
  | .int i, .int j => some (.bool (decide (j < i)))
  | _, _ => none
def geD : D → D → Option D
  | .int i, .int j => some (.bool (decide (j ≤ i)))
  | _, _ => none
def isNoneD : D → Bool
  | .none => true
  | _ => false
def isD : D → D → Option D
  | d, .none => some (.bool (isNoneD d))
  | _, _ => none
def isNotD : D → D → Option D
  | d, .none => some (.bool (!isNoneD d))
  | _, _ => none
def isBD : D → D → Option D
  | .bool a, .bool b => some (.bool (decide (a = b)))
  | _, _ => none
def isNotBD : D → D → Option D
  | .bool a, .bool b => some (.bool (!decide (a = b)))
  | _, _ => none
def negD : D → Option D
  | .int i => some (.int (-i))
  | _ => none
section
variable {X : Cx} {K : PySem.W.Frag}
theorem opr_or {f : Value → Value → Sem Value} {r r' : R2} (h : OpR X f r) (h' : OpR X f r') : OpR X f (fun x y H Q => r x y H Q ∨ r' x y H Q) := fun pins s σ H x y v u Q I rx ry q => by
  rcases q with q | q
  · exact h pins s σ H x y v u Q I rx ry q
  · exact h' pins s σ H x y v u Q I rx ry q
theorem sn_or1 {r r' : R2} {f : D → D → Option D} (h : Sn2 K r f) : Sn2 K (fun x y H Q => r x y H Q ∨ r' x y H Q) f := fun b0 B Z0 Z H σ ρ x y a b c Q ok ha hb e q => .inl (h b0 B Z0 Z H σ ρ x y a b c Q ok ha hb e q)
theorem sn2_mono {r r' : R2} {f : D → D → Option D} (h : Sn2 K r f) (m : ∀ x y H Q, r x y H Q → r' x y H Q) : Sn2 K r' f := fun b0 B Z0 Z H σ ρ x y a b c Q ok ha hb e q => m _ _ _ _ (h b0 B Z0 Z H σ ρ x y a b c Q ok ha hb e q)
/-- a rule on two ints -/
theorem sn_i0 {g : Int → Int → V} {f : D → D → Option D} (hf : ∀ a b c, f a b = some c → ∃ i j, a = .int i ∧ b = .int j ∧ ∀ Z, Rp K Z (g i j) c) : Sn2 K (rI0 g) f := fun b0 B Z0 Z H σ ρ x y a b c Q ok ha hb e q => by
  obtain ⟨i, j, rfl, rfl, r⟩ := hf a b c e
  cases ha
  cases hb
  exact ⟨i, j, rfl, rfl, q _ H Z ok (Same.refl Z) (r Z)⟩
theorem sn_iC {C : Int → Int → Prop} {g : Int → Int → V} {f : D → D → Option D} (hf : ∀ a b c, f a b = some c → ∃ i j, a = .int i ∧ b = .int j ∧ C i j ∧ ∀ Z, Rp K Z (g i j) c) : Sn2 K (rI C g) f := fun b0 B Z0 Z H σ ρ x y a b c Q ok ha hb e q => by
  obtain ⟨i, j, rfl, rfl, hc, r⟩ := hf a b c e
  cases ha
  cases hb
  exact ⟨i, j, rfl, rfl, hc, q _ H Z ok (Same.refl Z) (r Z)⟩
theorem sn_sub : Sn2 K (rI0 fun i j => .int (i - j)) subD := sn_i0 fun a b c e => by
  unfold subD at e; split at e <;> cases e; exact ⟨_, _, rfl, rfl, fun _ => .int _⟩
theorem sn_mulI : Sn2 K (rI CMulU fun i j => .int (i * j)) mulD := sn_iC fun a b c e => by
  unfold mulD at e
  split at e
  · split at e
    · cases e; exact ⟨_, _, rfl, rfl, by assumption, fun _ => .int _⟩
    · cases e
  · cases e
theorem sn_fdiv : Sn2 K (rI CDivW fun i j => .int (i / j)) fdivD := sn_iC fun a b c e => by
  unfold fdivD at e
  split at e
  · split at e
    · cases e; exact ⟨_, _, rfl, rfl, by assumption, fun _ => .int _⟩
    · cases e
  · cases e
theorem sn_mod : Sn2 K (rI (fun _ j => 0 < j) fun i j => .int (i % j)) modD := sn_iC fun a b c e => by
  unfold modD at e
  split at e
  · split at e
    · cases e; exact ⟨_, _, rfl, rfl, by assumption, fun _ => .int _⟩
    · cases e
  · cases e
theorem sn_pow : Sn2 K (rI CPow fun i j => .int (i ^ j.toNat)) powD := sn_iC fun a b c e => by
  unfold powD at e
  split at e
  · split at e
    · cases e; exact ⟨_, _, rfl, rfl, by assumption, fun _ => .int _⟩
    · cases e
  · cases e
theorem sn_lt : Sn2 K (rI0 fun i j => .bl (decide (i < j))) ltD := sn_i0 fun a b c e => by
  unfold ltD at e; split at e <;> cases e; exact ⟨_, _, rfl, rfl, fun _ => .bl _⟩
theorem sn_le : Sn2 K (rI0 fun i j => .bl (decide (i ≤ j))) leD := sn_i0 fun a b c e => by
  unfold leD at e; split at e <;> cases e; exact ⟨_, _, rfl, rfl, fun _ => .bl _⟩
theorem sn_gt : Sn2 K (rI0 fun i j => .bl (decide (j < i))) gtD := sn_i0 fun a b c e => by
  unfold gtD at e; split at e <;> cases e; exact ⟨_, _, rfl, rfl, fun _ => .bl _⟩
theorem sn_ge : Sn2 K (rI0 fun i j => .bl (decide (j ≤ i))) geD := sn_i0 fun a b c e => by
  unfold geD at e; split at e <;> cases e; exact ⟨_, _, rfl, rfl, fun _ => .bl _⟩
/-! + : ints, texts, tuples; lists -/
def rAddI : R2 := rI0 fun i j => .int (i + j)
def rAddS : R2 := fun x y H Q => ∃ i j, x = .str i ∧ y = .str j ∧ i.length + j.length ≤ sizeLine ∧ Q (.str (i ++ j)) H
def rAddU (K : PySem.W.Frag) : R2 := fun x y H Q => rAddI x y H Q ∨ rAddS x y H Q ∨ rCatA K x y H Q ∨ rCat x y H Q
theorem op_addU : OpR X (binaryOp .Add) (rAddU X.K) := opr_or op_add (opr_or op_add_str (opr_or op_catA op_cat))
theorem sn_add : Sn2 K (rAddU K) addD := fun b0 B Z0 Z H σ ρ x y a b c Q ok ha hb e q => by
  unfold addD at e
  split at e
  · cases e; cases ha; cases hb
    exact .inl ⟨_, _, rfl, rfl, q _ H Z ok (Same.refl Z) (.int _)⟩
  · split at e
    · cases e; cases ha; cases hb
      exact .inr (.inl ⟨_, _, rfl, rfl, by assumption, q _ H Z ok (Same.refl Z) (.str _)⟩)
    · cases e
  · split at e
    · rename_i hl
      cases e
      cases ha with
      | tup h1 r1 =>
      cases hb with
      | tup h2 r2 =>
      refine .inr (.inr (.inl ⟨_, _, _, _, rfl, rfl, same_t ok.zh h1, same_t ok.zh h2, by rw [r1.length, r2.length]; exact hl, fun z => ?_, fun _ z => ?_, fun _ _ p hp => ?_⟩))
      · subst z
        cases r1
        exact q _ H Z ok (Same.refl Z) (.tup h2 r2)
      · subst z
        cases r2
        rw [List.append_nil] at q
        exact q _ H Z ok (Same.refl Z) (.tup h1 r1)
      · obtain ⟨ok2, s2⟩ := ok.new (o := .tup _) hp
        exact q _ _ _ ok2 s2 (.tup (.inl (.inl upd_same)) ((r1.append r2).mono s2))
    · cases e
  · cases e
theorem sn_addL : Sn2F K (rAddU K) addL := fun b0 B Z0 Z H σ ρ x y a b c Q ok ha hb e q => by
  unfold addL at e
  split at e
  · split at e
    · rename_i hl
      cases e
      cases ha with
      | lst h1 r1 =>
      cases hb with
      | lst h2 r2 =>
      refine .inr (.inr (.inr ⟨_, _, _, _, rfl, rfl, h1, h2, by rw [r1.length, r2.length]; exact hl, fun p hp => ?_⟩))
      obtain ⟨ok2, zp, bp, ap⟩ := ok.fresh (o := .lst _) hp
      exact q p _ _ ok2 zp bp ap upd_same (r1.append r2)
    · cases e
  · cases e
/-! * : ints; a list times an int -/
theorem op_mulC : OpR X (binaryOp .Mult) (rI CMulU fun i j => .int (i * j)) := opI fun _ _ _ _ _ _ _ hc q => PyProof.Rows.mul_int q hc.ok
def rMulU : R2 := fun x y H Q => rI CMulU (fun i j => .int (i * j)) x y H Q ∨ rRep x y H Q
theorem op_mulU : OpR X (binaryOp .Mult) rMulU := opr_or op_mulC op_rep
theorem sn_mul : Sn2 K rMulU mulD := sn2_mono sn_mulI fun _ _ _ _ h => .inl h
theorem flat_rep {vs : List V} {ds : List D} {Z : Hp} (r : RpA K Z vs ds) : ∀ n : Nat, RpA K Z (List.replicate n vs).flatten (List.replicate n ds).flatten
  | 0 => .nil
  | n + 1 => by
    rw [List.replicate_succ, List.replicate_succ, List.flatten_cons, List.flatten_cons]
    exact r.append (flat_rep r n)
theorem sn_repL : Sn2F K rMulU repL := fun b0 B Z0 Z H σ ρ x y a b c Q ok ha hb e q => by
  unfold repL at e
  split at e
  · split at e
    · rename_i hl
      cases e
      cases hb
      cases ha with
      | lst h1 r1 =>
      refine .inr ⟨_, _, _, rfl, rfl, h1, hl.1, hl.2.1, by rw [r1.length]; exact hl.2.2, fun p hp => ?_⟩
      obtain ⟨ok2, zp, bp, ap⟩ := ok.fresh (o := .lst _) hp
      exact q p _ _ ok2 zp bp ap upd_same (flat_rep r1 _)
    · cases e
  · cases e
/-! ==, != -/
mutual
theorem noD_of : ∀ d : D, d.canLay0 = true → noD d = true
  | .none, _ => by simp [noD]
  | .bool _, _ => by simp [noD]
  | .int _, _ => by simp [noD]
  | .str _, _ => by simp [noD]
  | .list xs, h => by
    simp only [noD]
    exact noDs_of xs (by simpa [PyData.canLay0] using h)
  | .tuple xs, h => by
    simp only [noD]
    exact noDs_of xs (by simpa [PyData.canLay0] using h)
  | .dict _, h => by simp [PyData.canLay0] at h
theorem noDs_of : ∀ xs : List D, PyData.canLayAll0 xs = true → noDs xs = true
  | [], _ => by simp [noDs]
  | x :: xs, h => by
    have h' : x.canLay0 = true ∧ PyData.canLayAll0 xs = true := by simpa [PyData.canLayAll0] using h
    simp only [noDs, noD_of x h'.1, noDs_of xs h'.2, Bool.and_self]
end
theorem shaped_noD {d : D} (h : SeqAt.shaped d = true) : noD d = true := by
  unfold SeqAt.shaped at h
  rw [Bool.and_eq_true] at h
  exact noD_of d h.1
theorem bd_rp {Z H : Hp} {v : V} {d : D} (s : Same Z H) (h : Bd K Z H v d) : Rp K H v d := by
  cases h with
  | non => exact .non
  | bl b => exact .bl b
  | int i => exact .int i
  | str x => exact .str x
  | lst h r => exact .lst h (r.mono s)
  | scr h r => exact .scr h (r.mono s)
  | tup h r => exact .tup (same_t s h) (r.mono s)
  | exc h1 h2 h3 r => exact .exc (s _ _ h1) (s _ _ h2) h3 (r.mono s)
  | dct h r => exact .dct h (r.mono s)
theorem sn_eq : Sn2 K (rEqD K) eqD := fun b0 B Z0 Z H σ ρ x y a b c Q ok ha hb e q => by
  unfold eqD at e
  split at e
  · rename_i h
    cases e
    exact ⟨a, b, (bd_rp ok.zh ha).dp (shaped_noD h.1), (bd_rp ok.zh hb).dp (shaped_noD h.2), h.1, h.2, q _ H Z ok (Same.refl Z) (.bl _)⟩
  · cases e
theorem sn_ne : Sn2 K (rNeD K) neD := fun b0 B Z0 Z H σ ρ x y a b c Q ok ha hb e q => by
  unfold neD at e
  split at e
  · rename_i h
    cases e
    exact ⟨a, b, (bd_rp ok.zh ha).dp (shaped_noD h.1), (bd_rp ok.zh hb).dp (shaped_noD h.2), h.1, h.2, q _ H Z ok (Same.refl Z) (.bl _)⟩
  · cases e
/-! is -/
theorem non_iff {Z H : Hp} {v : V} {d : D} (h : Bd K Z H v d) : decide (v = V.non) = isNoneD d := by
  cases h <;> rfl
def rIsU : R2 := fun x y H Q => (y = .non ∧ Q (.bl (decide (x = .non))) H)
def rIsNotU : R2 := fun x y H Q => (y = .non ∧ Q (.bl (!decide (x = .non))) H)
theorem op_isU : OpR X (compareOp .Is) rIsU := op_isN
theorem op_isNotU : OpR X (compareOp .IsNot) rIsNotU := op_notN
theorem sn_is : Sn2 K rIsU isD := fun b0 B Z0 Z H σ ρ x y a b c Q ok ha hb e q => by
  unfold isD at e
  split at e
  · cases e; cases hb
    exact ⟨rfl, q _ H Z ok (Same.refl Z) (by rw [non_iff ha]; exact .bl _)⟩
  · cases e
theorem sn_isNot : Sn2 K rIsNotU isNotD := fun b0 B Z0 Z H σ ρ x y a b c Q ok ha hb e q => by
  unfold isNotD at e
  split at e
  · cases e; cases hb
    exact ⟨rfl, q _ H Z ok (Same.refl Z) (by rw [non_iff ha]; exact .bl _)⟩
  · cases e
theorem sn_isB : Sn2 K rIsB isBD := fun b0 B Z0 Z H σ ρ x y a b c Q ok ha hb e q => by
  unfold isBD at e
  split at e
  · cases e; cases ha; cases hb
    exact ⟨_, _, rfl, rfl, q _ H Z ok (Same.refl Z) (.bl _)⟩
  · cases e
theorem sn_isNotB : Sn2 K rNotB isNotBD := fun b0 B Z0 Z H σ ρ x y a b c Q ok ha hb e q => by
  unfold isNotBD at e
  split at e
  · cases e; cases ha; cases hb
    exact ⟨_, _, rfl, rfl, q _ H Z ok (Same.refl Z) (.bl _)⟩
  · cases e
theorem sn_neg : Sn1 K (rU fun i => .int (-i)) negD := fun b0 B Z0 Z H σ ρ x a c Q ok ha e q => by
  unfold negD at e
  split at e
  · cases e; cases ha
    exact ⟨_, rfl, q _ H Z ok (Same.refl Z) (.int _)⟩
  · cases e
/-! ### x[i] -/
def chr1 (c : Nat) : Str := ⟨#[c]⟩
def ixD : D → D → Option D
  | .list xs, .int i => atI xs i
  | .dict [(.list xs, .none)], .int i => atI xs i
  | .tuple xs, .int i => atI xs i
  | .str z, .int i => if z.length ≤ sizeLine then (atI z.cps.toList i).map fun c => .str ⟨#[c]⟩ else none
  | _, _ => none
theorem atI_rp {Z : Hp} {vs : List V} {ds : List D} {i : Int} {d : D} (r : RpA K Z vs ds) (h : atI ds i = some d) : ∃ v, atI vs i = some v ∧ Rp K Z v d := by
  unfold atI at h ⊢
  rw [r.length]
  obtain ⟨j, e1, e2⟩ := Option.bind_eq_some_iff.mp h
  obtain ⟨v, e3, rv⟩ := r.get e2
  exact ⟨v, by rw [e1]; exact e3, rv⟩
theorem sn_ix : Sn2 K (rIx K) ixD := fun b0 B Z0 Z H σ ρ x y a b c Q ok ha hb e q => by
  unfold ixD at e
  split at e
  · cases hb
    cases ha with
    | lst h r =>
    obtain ⟨v, e1, rv⟩ := atI_rp r e
    exact .inl ⟨_, _, _, v, rfl, rfl, .inl (.inl h), e1, q v H Z ok (Same.refl Z) rv⟩
  · cases hb
    cases ha with
    | scr h r =>
    obtain ⟨v, e1, rv⟩ := atI_rp r e
    exact .inl ⟨_, _, _, v, rfl, rfl, h, e1, q v H Z ok (Same.refl Z) rv⟩
  · cases hb
    cases ha with
    | tup h r =>
    obtain ⟨v, e1, rv⟩ := atI_rp r e
    exact .inr (.inl ⟨_, _, _, v, rfl, rfl, same_t ok.zh h, e1, q v H Z ok (Same.refl Z) rv⟩)
  · split at e
    · rename_i hz
      cases hb
      cases ha
      obtain ⟨c', e1, rfl⟩ := Option.map_eq_some_iff.mp e
      exact .inr (.inr ⟨_, _, c', rfl, rfl, hz, e1, q _ H Z ok (Same.refl Z) (.str _)⟩)
    · cases e
  · cases e
end
end DL

namespace DL
open PySem L2
section
variable {X : Cx} {K : PySem.W.Frag} {ta tb te tc : TE} {tas : TA}
/-! ### chains a < b < c -/
def eChain (f f' : D → D → Option D) (a b c : GO) (ρ : Rho) : R D := (a ρ).bind fun x ρ1 => (b ρ1).bind fun y ρ2 => match x.res ρ2, y.res ρ2 with
  | some d, some e => (match f d e with
    | some (.bool true) => (c ρ2).bind fun z ρ3 => (match y.res ρ3, z.res ρ3 with
      | some e', some k => R.lift (f' e' k) ρ3
      | _, _ => .bad)
    | some (.bool false) => .ok (.bool false) ρ2
    | _ => .bad)
  | _, _ => .bad
theorem de_chain {r r' : R2} {f f' : D → D → Option D} {ga gb gc : GO} (sn : Sn2 K r f) (sn' : Sn2 K r' f') (ha : DO K ta ga) (hb : DO K tb gb) (hc : DO K tc gc) : DE K (tChain r r' ta tb tc) (eChain f f' ga gb gc) := fun b0 B Z0 Z H σ ρ d ρ' Q ok e q => by
  obtain ⟨x, ρ1, e1, e⟩ := R.bind_ok e
  obtain ⟨y, ρ2, e2, e⟩ := R.bind_ok e
  refine ha b0 B Z0 Z H σ ρ x ρ1 _ ok e1 fun v H1 Z1 ok1 s1 r1 => ?_
  refine hb b0 B Z0 Z1 H1 σ ρ1 y ρ2 _ ok1 e2 fun u H2 Z2 ok2 s2 r2 => ?_
  split at e
  · rename_i d1 d2 h1 h2
    split at e
    · rename_i hf
      refine sn b0 B Z0 Z2 H2 σ ρ2 v u d1 d2 _ _ ok2 (ok2.bd (r1.mono s2) h1) (ok2.bd r2 h2) hf fun w H3 Z3 ok3 s3 r3 => ?_
      cases r3
      refine ⟨true, rfl, ?_⟩
      obtain ⟨z, ρ3, e3, e⟩ := R.bind_ok e
      refine hc b0 B Z0 Z3 H3 σ ρ2 z ρ3 _ ok3 e3 fun w4 H4 Z4 ok4 s4 r4 => ?_
      split at e
      · rename_i e' k h3 h4
        obtain ⟨e5, rfl⟩ := R.lift_ok e
        exact sn' b0 B Z0 Z4 H4 σ ρ3 u w4 e' k d Q ok4 (ok4.bd ((r2.mono s3).mono s4) h3) (ok4.bd r4 h4) e5 fun w5 H5 Z5 ok5 s5 r5 => q w5 H5 Z5 ok5 ((((s1.trans s2).trans s3).trans s4).trans s5) r5
      · cases e
    · rename_i hf
      cases e
      refine sn b0 B Z0 Z2 H2 σ _ v u d1 d2 _ _ ok2 (ok2.bd (r1.mono s2) h1) (ok2.bd r2 h2) hf fun w H3 Z3 ok3 s3 r3 => ?_
      cases r3
      exact ⟨false, rfl, q _ H3 Z3 ok3 ((s1.trans s2).trans s3) (.bl false)⟩
    · cases e
  · cases e
/-! ### slices -/
abbrev GP := Rho → R (Option Int)
def DP (K : PySem.W.Frag) (t : TO) (g : GP) : Prop := ∀ b0 B Z0 Z H σ ρ o ρ' (Q : Option Int → Hp → Prop), Ok K b0 B Z0 Z H σ ρ → g ρ = .ok o ρ' → (∀ H' Z', Ok K b0 B Z0 Z' H' σ ρ' → Same Z Z' → Q o H') → t σ H Q
def pNo (ρ : Rho) : R (Option Int) := .ok none ρ
def pSo (g : GE) (ρ : Rho) : R (Option Int) := (g ρ).bind fun d ρ1 => match d with
  | .int i => .ok (some i) ρ1
  | _ => .bad
theorem dp_no : DP K tNoPart pNo := fun b0 B Z0 Z H σ ρ o ρ' Q ok e q => by
  cases e
  exact q H Z ok (Same.refl Z)
theorem dp_so {g : GE} (h : DE K te g) : DP K (tPart te) (pSo g) := fun b0 B Z0 Z H σ ρ o ρ' Q ok e q => by
  obtain ⟨d, ρ1, e1, e⟩ := R.bind_ok e
  split at e
  · cases e
    refine h b0 B Z0 Z H σ ρ _ _ _ ok e1 fun v H1 Z1 ok1 s1 r1 => ?_
    cases r1
    exact ⟨_, rfl, q H1 Z1 ok1 s1⟩
  · cases e
def cutD {α : Type} (xs : List α) (lo hi : Option Int) : List α := (xs.drop (HT.sIx xs.length 0 lo)).take (HT.sIx xs.length xs.length hi - HT.sIx xs.length 0 lo)
theorem cut_rp {Z : Hp} {vs : List V} {ds : List D} {lo hi : Option Int} (r : RpA K Z vs ds) : RpA K Z (cutV vs lo hi) (cutD ds lo hi) := by
  unfold cutV cutD
  rw [r.length]
  exact (r.drop _).take _
def SnSl (K : PySem.W.Frag) (r : V → Option Int → Option Int → Hp → VK → Prop) (f : D → Option Int → Option Int → Option D) : Prop := ∀ b0 B Z0 Z H σ ρ x a lo hi c (Q : VK), Ok K b0 B Z0 Z H σ ρ → Bd K Z H x a → f a lo hi = some c → (∀ v H' Z', Ok K b0 B Z0 Z' H' σ ρ → Same Z Z' → Rp K Z' v c → Q v H') → r x lo hi H Q
def SnSlF (K : PySem.W.Frag) (r : V → Option Int → Option Int → Hp → VK → Prop) (f : D → Option Int → Option Int → Option (List D)) : Prop := ∀ b0 B Z0 Z H σ ρ x a lo hi c (Q : VK), Ok K b0 B Z0 Z H σ ρ → Bd K Z H x a → f a lo hi = some c →
  (∀ p vs H', Ok K b0 B Z0 Z H' σ ρ → Z p = none → B p = none → Apart σ ρ p → H' p = some (.lst vs) → RpA K Z vs c → Q (.ref p) H') → r x lo hi H Q
def rSlU (K : PySem.W.Frag) : V → Option Int → Option Int → Hp → VK → Prop := fun x lo hi H Q => rSlL K x lo hi H Q ∨ rSlA K x lo hi H Q
theorem sl_U : SlR X (rSlU X.K) := fun pins s σ H x v vl vu lo hi sl Q I rx hs pl pu h => by
  rcases h with h | h
  · exact sl_list pins s σ H x v vl vu lo hi sl Q I rx hs pl pu h
  · exact sl_tupA pins s σ H x v vl vu lo hi sl Q I rx hs pl pu h
def sliceL (d : D) (lo hi : Option Int) : Option (List D) := match d with
  | .list xs => some (cutD xs lo hi)
  | .dict [(.list xs, .none)] => some (cutD xs lo hi)
  | _ => none
def sliceT (d : D) (lo hi : Option Int) : Option D := match d with
  | .tuple xs => some (.tuple (cutD xs lo hi))
  | _ => none
theorem sn_sliceL : SnSlF K (rSlU K) sliceL := fun b0 B Z0 Z H σ ρ x a lo hi c Q ok ha e q => by
  unfold sliceL at e
  split at e
  · cases e
    cases ha with
    | lst h r =>
    refine .inl ⟨_, _, rfl, .inl (.inl h), fun p hp => ?_⟩
    obtain ⟨ok2, zp, bp, ap⟩ := ok.fresh (o := .lst _) hp
    exact q p _ _ ok2 zp bp ap upd_same (cut_rp r)
  · cases e
    cases ha with
    | scr h r =>
    refine .inl ⟨_, _, rfl, h, fun p hp => ?_⟩
    obtain ⟨ok2, zp, bp, ap⟩ := ok.fresh (o := .lst _) hp
    exact q p _ _ ok2 zp bp ap upd_same (cut_rp r)
  · cases e
theorem cut_all {α : Type} (xs : List α) {lo hi : Option Int} (h1 : HT.sIx xs.length 0 lo = 0) (h2 : HT.sIx xs.length xs.length hi = xs.length) : cutD xs lo hi = xs := by
  unfold cutD
  rw [h1, h2, List.drop_zero, Nat.sub_zero, List.take_length]
theorem sn_sliceT : SnSl K (rSlU K) sliceT := fun b0 B Z0 Z H σ ρ x a lo hi c Q ok ha e q => by
  unfold sliceT at e
  split at e
  · cases e
    cases ha with
    | tup h r =>
    refine .inr ⟨_, _, rfl, same_t ok.zh h, fun z => ?_, fun _ p hp => ?_⟩
    · have := r.length
      rw [this] at z
      rw [cut_all _ z.1 z.2] at q
      exact q _ H Z ok (Same.refl Z) (.tup h r)
    · obtain ⟨ok2, s2⟩ := ok.new (o := .tup _) hp
      exact q _ _ _ ok2 s2 (.tup (.inl (.inl upd_same)) ((cut_rp r).mono s2))
  · cases e
def eSl {α : Type} (f : D → Option Int → Option Int → Option α) (g : GO) (lo hi : GP) (ρ : Rho) : R α := (g ρ).bind fun x ρ1 => (lo ρ1).bind fun l ρ2 => (hi ρ2).bind fun u ρ3 => match x.res ρ3 with
  | some d => R.lift (f d l u) ρ3
  | none => .bad
theorem sl_ok {α : Type} {f : D → Option Int → Option Int → Option α} {g : GO} {lo hi : GP} {ρ ρ' : Rho} {z : α} (e : eSl f g lo hi ρ = .ok z ρ') : ∃ x ρ1 l ρ2 u d, g ρ = .ok x ρ1 ∧ lo ρ1 = .ok l ρ2 ∧ hi ρ2 = .ok u ρ' ∧ x.res ρ' = some d ∧ f d l u = some z := by
  obtain ⟨x, ρ1, e1, e⟩ := R.bind_ok e
  obtain ⟨l, ρ2, e2, e⟩ := R.bind_ok e
  obtain ⟨u, ρ3, e3, e⟩ := R.bind_ok e
  split at e
  · rename_i d h
    obtain ⟨e5, rfl⟩ := R.lift_ok e
    exact ⟨x, ρ1, l, ρ2, u, d, e1, e2, e3, h, e5⟩
  · cases e
theorem df_sl {r : V → Option Int → Option Int → Hp → VK → Prop} {f : D → Option Int → Option Int → Option (List D)} {g : GO} {lo hi : GP} {tl th : TO} (sn : SnSlF K r f) (hg : DO K te g) (hl : DP K tl lo) (hh : DP K th hi) : DF K (tSl r te tl th) (eSl f g lo hi) := fun b0 B Z0 Z H σ ρ d ρ' Q ok e q => by
  obtain ⟨x, ρ1, l, ρ2, u, d', e1, e2, e3, e4, e5⟩ := sl_ok e
  refine hg b0 B Z0 Z H σ ρ x ρ1 _ ok e1 fun v H1 Z1 ok1 s1 r1 => ?_
  refine hl b0 B Z0 Z1 H1 σ ρ1 l ρ2 _ ok1 e2 fun H2 Z2 ok2 s2 => ?_
  refine hh b0 B Z0 Z2 H2 σ ρ2 u ρ' _ ok2 e3 fun H3 Z3 ok3 s3 => ?_
  exact sn b0 B Z0 Z3 H3 σ ρ' v d' l u d Q ok3 (ok3.bd ((r1.mono s2).mono s3) e4) e5 fun p vs H4 ok4 zp bp ap hp r4 => q p vs H4 Z3 ok4 ((s1.trans s2).trans s3) zp bp ap hp r4
theorem de_sl {r : V → Option Int → Option Int → Hp → VK → Prop} {f : D → Option Int → Option Int → Option D} {g : GO} {lo hi : GP} {tl th : TO} (sn : SnSl K r f) (hg : DO K te g) (hl : DP K tl lo) (hh : DP K th hi) : DE K (tSl r te tl th) (eSl f g lo hi) := fun b0 B Z0 Z H σ ρ d ρ' Q ok e q => by
  obtain ⟨x, ρ1, l, ρ2, u, d', e1, e2, e3, e4, e5⟩ := sl_ok e
  refine hg b0 B Z0 Z H σ ρ x ρ1 _ ok e1 fun v H1 Z1 ok1 s1 r1 => ?_
  refine hl b0 B Z0 Z1 H1 σ ρ1 l ρ2 _ ok1 e2 fun H2 Z2 ok2 s2 => ?_
  refine hh b0 B Z0 Z2 H2 σ ρ2 u ρ' _ ok2 e3 fun H3 Z3 ok3 s3 => ?_
  exact sn b0 B Z0 Z3 H3 σ ρ' v d' l u d Q ok3 (ok3.bd ((r1.mono s2).mono s3) e4) e5 fun w H4 Z4 ok4 s4 r4 => q w H4 Z4 ok4 (((s1.trans s2).trans s3).trans s4) r4
/-! ### built-ins -/
theorem callr_or {f : Value} {r r' : List V → Hp → VK → Prop} (h : CallR X f r) (h' : CallR X f r') : CallR X f (fun xs H Q => r xs H Q ∨ r' xs H Q) := fun pins s σ H xs us Q I rx q => by
  rcases q with q | q
  · exact h pins s σ H xs us Q I rx q
  · exact h' pins s σ H xs us Q I rx q
def lenD : List D → Option D
  | [.list xs] => some (.int xs.length)
  | [.dict [(.list xs, .none)]] => some (.int xs.length)
  | [.tuple xs] => some (.int xs.length)
  | [.str z] => if z.length ≤ sizeLine then some (.int z.length) else none
  | _ => none
def rLen (K : PySem.W.Frag) : List V → Hp → VK → Prop := fun xs H Q => ∃ x n, xs = [x] ∧ LenV K x H n ∧ Q (.int n) H
theorem call_lenU : CallR X (.builtin "len") (rLen X.K) := call_len
theorem sn_len : SnA K (rLen K) lenD := fun b0 B Z0 Z H σ ρ xs as c Q ok ha e q => by
  unfold lenD at e
  split at e
  · cases e
    cases ha with
    | cons h h' =>
    cases h'
    cases h with
    | lst h r => exact ⟨_, _, rfl, .inl ⟨_, .inl (.inl h), rfl⟩, by rw [r.length]; exact q _ H Z ok (Same.refl Z) (.int _)⟩
  · cases e
    cases ha with
    | cons h h' =>
    cases h'
    cases h with
    | scr h r => exact ⟨_, _, rfl, .inl ⟨_, h, rfl⟩, by rw [r.length]; exact q _ H Z ok (Same.refl Z) (.int _)⟩
  · cases e
    cases ha with
    | cons h h' =>
    cases h'
    cases h with
    | tup h r => exact ⟨_, _, rfl, .inr ⟨_, same_t ok.zh h, rfl⟩, by rw [r.length]; exact q _ H Z ok (Same.refl Z) (.int _)⟩
  · split at e
    · rename_i hz
      cases e
      cases ha with
      | cons h h' =>
      cases h'
      cases h
      exact ⟨_, _, rfl, ⟨hz, rfl⟩, q _ H Z ok (Same.refl Z) (.int _)⟩
    · cases e
  · cases e
def absD : List D → Option D
  | [.int i] => some (.int (if i < 0 then -i else i))
  | _ => none
def rAbs : List V → Hp → VK → Prop := fun xs H Q => ∃ i, xs = [.int i] ∧ Q (.int (if i < 0 then -i else i)) H
theorem call_absU : CallR X (.builtin "abs") rAbs := call_abs
theorem sn_abs : SnA K rAbs absD := fun b0 B Z0 Z H σ ρ xs as c Q ok ha e q => by
  unfold absD at e
  split at e
  · cases e
    cases ha with
    | cons h h' =>
    cases h'; cases h
    exact ⟨_, rfl, q _ H Z ok (Same.refl Z) (.int _)⟩
  · cases e
def intD : List D → Option D
  | [.int i] => some (.int i)
  | [.bool k] => some (.int (if k then 1 else 0))
  | _ => none
def rInt1 : List V → Hp → VK → Prop := fun xs H Q => (∃ i, xs = [.int i] ∧ Q (.int i) H) ∨ ∃ k, xs = [.bl k] ∧ Q (.int (if k then 1 else 0)) H
theorem call_intU : CallR X (.type "int") rInt1 := call_int1
theorem sn_int : SnA K rInt1 intD := fun b0 B Z0 Z H σ ρ xs as c Q ok ha e q => by
  unfold intD at e
  split at e
  · cases e
    cases ha with
    | cons h h' =>
    cases h'; cases h
    exact .inl ⟨_, rfl, q _ H Z ok (Same.refl Z) (.int _)⟩
  · cases e
    cases ha with
    | cons h h' =>
    cases h'; cases h
    exact .inr ⟨_, rfl, q _ H Z ok (Same.refl Z) (.int _)⟩
  · cases e
def intsOf : List D → Option (List Int)
  | [] => some []
  | .int i :: ds => (intsOf ds).map (i :: ·)
  | _ :: _ => none
theorem intsOf_eq : ∀ {ds : List D} {ns : List Int}, intsOf ds = some ns → ds = ns.map PyData.int
  | [], ns, h => by cases h; rfl
  | .int i :: ds, ns, h => by
    unfold intsOf at h
    obtain ⟨ms, e, rfl⟩ := Option.map_eq_some_iff.mp h
    rw [intsOf_eq e]; rfl
theorem intsOf_map : ∀ (ns : List Int), intsOf (ns.map PyData.int) = some ns
  | [] => rfl
  | n :: r => by
    show (intsOf (r.map PyData.int)).map (n :: ·) = _
    rw [intsOf_map r]; rfl
def boolsOf : List D → Option (List Bool)
  | [] => some []
  | .bool i :: ds => (boolsOf ds).map (i :: ·)
  | _ :: _ => none
theorem boolsOf_eq : ∀ {ds : List D} {ns : List Bool}, boolsOf ds = some ns → ds = ns.map PyData.bool
  | [], ns, h => by cases h; rfl
  | .bool i :: ds, ns, h => by
    unfold boolsOf at h
    obtain ⟨ms, e, rfl⟩ := Option.map_eq_some_iff.mp h
    rw [boolsOf_eq e]; rfl
theorem boolsOf_map : ∀ (ns : List Bool), boolsOf (ns.map PyData.bool) = some ns
  | [] => rfl
  | n :: r => by
    show (boolsOf (r.map PyData.bool)).map (n :: ·) = _
    rw [boolsOf_map r]; rfl
def allD : List D → Option D
  | [.list ds] => (boolsOf ds).map fun bs => .bool (bs.all id)
  | _ => none
def anyD : List D → Option D
  | [.list ds] => (boolsOf ds).map fun bs => .bool (bs.any id)
  | _ => none
def sumD : List D → Option D
  | [.list ds] => (intsOf ds).map fun ns => .int ns.sum
  | _ => none
theorem sn_all : SnA K (rAll K) allD := fun b0 B Z0 Z H σ ρ xs as c Q ok ha e q => by
  unfold allD at e
  split at e
  · obtain ⟨bs, e1, rfl⟩ := Option.map_eq_some_iff.mp e
    cases boolsOf_eq e1
    cases ha with
    | cons h h' =>
    cases h'
    cases h with
    | lst h r =>
    cases r.of_bools
    exact ⟨_, bs, rfl, .inl (.inl h), q _ H Z ok (Same.refl Z) (.bl _)⟩
  · cases e
theorem sn_any : SnA K (rAny K) anyD := fun b0 B Z0 Z H σ ρ xs as c Q ok ha e q => by
  unfold anyD at e
  split at e
  · obtain ⟨bs, e1, rfl⟩ := Option.map_eq_some_iff.mp e
    cases boolsOf_eq e1
    cases ha with
    | cons h h' =>
    cases h'
    cases h with
    | lst h r =>
    cases r.of_bools
    exact ⟨_, bs, rfl, .inl (.inl h), q _ H Z ok (Same.refl Z) (.bl _)⟩
  · cases e
theorem sn_sum : SnA K (rSum K) sumD := fun b0 B Z0 Z H σ ρ xs as c Q ok ha e q => by
  unfold sumD at e
  split at e
  · obtain ⟨bs, e1, rfl⟩ := Option.map_eq_some_iff.mp e
    cases intsOf_eq e1
    cases ha with
    | cons h h' =>
    cases h'
    cases h with
    | lst h r =>
    cases r.of_ints
    exact ⟨_, bs, rfl, .inl (.inl h), q _ H Z ok (Same.refl Z) (.int _)⟩
  · cases e
def max2D : List D → Option D
  | [.int i, .int j] => some (.int (if j > i then j else i))
  | _ => none
def min2D : List D → Option D
  | [.int i, .int j] => some (.int (if j < i then j else i))
  | _ => none
def rMax2 : List V → Hp → VK → Prop := fun xs H Q => ∃ i j, xs = [.int i, .int j] ∧ Q (.int (if j > i then j else i)) H
def rMin2 : List V → Hp → VK → Prop := fun xs H Q => ∃ i j, xs = [.int i, .int j] ∧ Q (.int (if j < i then j else i)) H
theorem call_max2U (hc : X.calm = true) : CallR X (.builtin "max") rMax2 := call_max2 hc
theorem call_min2U (hc : X.calm = true) : CallR X (.builtin "min") rMin2 := call_min2 hc
theorem sn_max2 : SnA K rMax2 max2D := fun b0 B Z0 Z H σ ρ xs as c Q ok ha e q => by
  unfold max2D at e
  split at e
  · cases e
    cases ha with
    | cons h h' =>
    cases h' with
    | cons h2 h' =>
    cases h'; cases h; cases h2
    exact ⟨_, _, rfl, q _ H Z ok (Same.refl Z) (.int _)⟩
  · cases e
theorem sn_min2 : SnA K rMin2 min2D := fun b0 B Z0 Z H σ ρ xs as c Q ok ha e q => by
  unfold min2D at e
  split at e
  · cases e
    cases ha with
    | cons h h' =>
    cases h' with
    | cons h2 h' =>
    cases h'; cases h; cases h2
    exact ⟨_, _, rfl, q _ H Z ok (Same.refl Z) (.int _)⟩
  · cases e
def listD : List D → Option (List D)
  | [.list xs] => some xs
  | [.tuple xs] => some xs
  | [.dict [(.list xs, .none)]] => some xs
  | _ => none
def rList (K : PySem.W.Frag) : List V → Hp → VK → Prop := fun xs H Q => ∃ p ys, xs = [.ref p] ∧ (SqL K H p ys ∨ SqT K H p ys) ∧ ∀ l, H l = none → Q (.ref l) (upd H l (.lst ys))
theorem call_listU : CallR X (.type "list") (rList X.K) := call_list_of
theorem sn_list : SnAF K (rList K) listD := fun b0 B Z0 Z H σ ρ xs as c Q ok ha e q => by
  have fin : ∀ {a : Addr} {vs : List V} (p : Addr), (SqL K H a vs ∨ SqT K H a vs) → RpA K Z vs c → rList K [.ref a] H Q := fun {a vs} _ h r => by
    refine ⟨_, _, rfl, h, fun p hp => ?_⟩
    obtain ⟨ok2, zp, bp, ap⟩ := ok.fresh (o := .lst _) hp
    exact q p _ _ ok2 zp bp ap upd_same r
  unfold listD at e
  split at e
  · cases e
    cases ha with
    | cons h h' =>
    cases h'
    cases h with
    | lst h r => exact fin 0 (.inl (.inl (.inl h))) r
  · cases e
    cases ha with
    | cons h h' =>
    cases h'
    cases h with
    | tup h r => exact fin 0 (.inr (same_t ok.zh h)) r
  · cases e
    cases ha with
    | cons h h' =>
    cases h'
    cases h with
    | scr h r => exact fin 0 (.inl h) r
  · cases e
def tupleD : List D → Option D
  | [.list xs] => some (.tuple xs)
  | [.tuple xs] => some (.tuple xs)
  | [.dict [(.list xs, .none)]] => some (.tuple xs)
  | _ => none
def rTuple (K : PySem.W.Frag) : List V → Hp → VK → Prop := fun xs H Q => ∃ p ys, xs = [.ref p] ∧ ((SqL K H p ys ∧ ∀ l, H l = none → Q (.ref l) (upd H l (.tup ys))) ∨ (SqT K H p ys ∧ Q (.ref p) H))
theorem call_tupleU : CallR X (.type "tuple") (rTuple X.K) := call_tuple_of
theorem sn_tuple : SnA K (rTuple K) tupleD := fun b0 B Z0 Z H σ ρ xs as c Q ok ha e q => by
  have fin : ∀ {a : Addr} {vs : List V} {ds : List D} (p : Addr), c = .tuple ds → SqL K H a vs → RpA K Z vs ds → rTuple K [.ref a] H Q := fun {a vs ds} _ ec h r => by
    refine ⟨_, _, rfl, .inl ⟨h, fun p hp => ?_⟩⟩
    obtain ⟨ok2, s2⟩ := ok.new (o := .tup _) hp
    subst ec
    exact q _ _ _ ok2 s2 (.tup (.inl (.inl upd_same)) (r.mono s2))
  unfold tupleD at e
  split at e
  · cases e
    cases ha with
    | cons h h' =>
    cases h'
    cases h with
    | lst h r => exact fin 0 rfl (.inl (.inl h)) r
  · cases e
    cases ha with
    | cons h h' =>
    cases h'
    cases h with
    | tup h r => exact ⟨_, _, rfl, .inr ⟨same_t ok.zh h, q _ H Z ok (Same.refl Z) (.tup h r)⟩⟩
  · cases e
    cases ha with
    | cons h h' =>
    cases h'
    cases h with
    | scr h r => exact fin 0 rfl h r
  · cases e
end
end DL

namespace DL
open PySem L2
section
variable {X : Cx} {K : PySem.W.Frag} {ta tb te tc : TE} {tas : TA} {tg : Expr}
theorem pi_or {e : Expr} {w1 w2 : TI} (h1 : PI X tg e w1) (h2 : PI X tg e w2) : PI X tg e (fun σ H R => w1 σ H R ∨ w2 σ H R) := ⟨fun pins s σ H R I h => by
  rcases h with h | h
  · exact h1.run pins s σ H R I h
  · exact h2.run pins s σ H R I h⟩
def iSeqU (K : PySem.W.Frag) (te : TE) : TI := fun σ H R => iList K te σ H R ∨ iTup K te σ H R
theorem pi_seqU {e : Expr} (he : PE X e te) : PI X tg e (iSeqU X.K te) := pi_or (pi_list he) (pi_tup he)
def itemsD : D → Option (List D)
  | .list xs => some xs
  | .tuple xs => some xs
  | .dict [(.list xs, .none)] => some xs
  | _ => none
def gSeq (g : GE) (ρ : Rho) : R (List D) := (g ρ).bind fun d ρ1 => R.lift (itemsD d) ρ1
theorem wk_list {Z : Hp} {a : Addr} {xs : List V} {ds : List D} (h : SqL K Z a xs) (r : RpA K Z xs ds) : Wk K (Itl K a) Z ds where
  goes := fun i H hi s => ⟨xs, xs[i]'(by rw [r.length]; exact hi), same_l s h, List.getElem?_eq_getElem _⟩
  stops := fun H s => ⟨xs, same_l s h, by rw [r.length]; exact Nat.le_refl _⟩
  yields := fun i H x H' hi y b0 B Z0 Z' σ ρ ok s => by
    obtain ⟨rfl, y⟩ := y
    obtain ⟨d, e1, r1⟩ := r.getV (y xs (same_l (s.trans ok.zh) h))
    exact ⟨Z', d, ok, Same.refl Z', e1, r1.mono s⟩
theorem wk_tup {Z : Hp} {a : Addr} {xs : List V} {ds : List D} (h : SqT K Z a xs) (r : RpA K Z xs ds) : Wk K (Itt K a) Z ds where
  goes := fun i H hi s => ⟨xs, xs[i]'(by rw [r.length]; exact hi), same_t s h, List.getElem?_eq_getElem _⟩
  stops := fun H s => ⟨xs, same_t s h, by rw [r.length]; exact Nat.le_refl _⟩
  yields := fun i H x H' hi y b0 B Z0 Z' σ ρ ok s => by
    obtain ⟨rfl, y⟩ := y
    obtain ⟨d, e1, r1⟩ := r.getV (y xs (same_t (s.trans ok.zh) h))
    exact ⟨Z', d, ok, Same.refl Z', e1, r1.mono s⟩
theorem di_seq {g : GE} (h : DE K te g) : DI K (iSeqU K te) (gSeq g) := fun b0 B Z0 Z H σ ρ ds ρ' W ok e q => by
  obtain ⟨d, ρ1, e1, e⟩ := R.bind_ok e
  obtain ⟨e2, rfl⟩ := R.lift_ok e
  unfold itemsD at e2
  split at e2
  · cases e2
    refine .inl (h b0 B Z0 Z H σ ρ _ _ _ ok e1 fun v H1 Z1 ok1 s1 r1 => ?_)
    cases r1 with
    | lst hs ra => exact ⟨_, rfl, ⟨_, .inl (.inl (ok1.zh _ _ hs))⟩, q _ H1 Z1 ok1 s1 (wk_list (.inl (.inl hs)) ra)⟩
  · cases e2
    refine .inr (h b0 B Z0 Z H σ ρ _ _ _ ok e1 fun v H1 Z1 ok1 s1 r1 => ?_)
    cases r1 with
    | tup hs ra => exact ⟨_, rfl, ⟨_, same_t ok1.zh hs⟩, q _ H1 Z1 ok1 s1 (wk_tup hs ra)⟩
  · cases e2
    refine .inl (h b0 B Z0 Z H σ ρ _ _ _ ok e1 fun v H1 Z1 ok1 s1 r1 => ?_)
    cases r1 with
    | scr hs ra => exact ⟨_, rfl, ⟨_, same_l ok1.zh hs⟩, q _ H1 Z1 ok1 s1 (wk_list hs ra)⟩
  · cases e2
/-! ### range -/
def rangeD (lo : Int) (n : Nat) : List D := (List.range n).map fun (i : Nat) => PyData.int (lo + (i : Int))
theorem rangeD_len (lo : Int) (n : Nat) : (rangeD lo n).length = n := by unfold rangeD; rw [List.length_map, List.length_range]
theorem rangeD_get {lo : Int} {n i : Nat} (h : i < n) : (rangeD lo n)[i]? = some (.int (lo + (i : Int))) := by
  unfold rangeD
  rw [List.getElem?_map, List.getElem?_range h]; rfl
theorem wk_rng {Z : Hp} {lo : Int} {n : Nat} : Wk K (Itr lo n) Z (rangeD lo n) where
  goes := fun i H hi s => by rw [rangeD_len] at hi; exact hi
  stops := fun H s => by rw [rangeD_len]; exact Nat.le_refl _
  yields := fun i H x H' hi y b0 B Z0 Z' σ ρ ok s => by
    obtain ⟨rfl, rfl⟩ := y
    rw [rangeD_len] at hi
    exact ⟨Z', _, ok, Same.refl Z', rangeD_get hi, .int _⟩
def rng1 : List D → Option (List D)
  | [.int j] => if -(2 ^ 62) ≤ j ∧ j < 2 ^ 62 then some (rangeD 0 j.toNat) else none
  | _ => none
def rng2 : List D → Option (List D)
  | [.int i, .int j] => if -(2 ^ 62) ≤ i ∧ i < 2 ^ 62 ∧ -(2 ^ 62) ≤ j ∧ j < 2 ^ 62 then some (rangeD i (j - i).toNat) else none
  | _ => none
theorem di_rng1 {ga : GA} (h : DA K tas ga) : DI K (iRng1 tas) (eCall rng1 ga) := fun b0 B Z0 Z H σ ρ ds ρ' W ok e q => by
  obtain ⟨os, as, e1, e2, e3⟩ := call_ok e
  refine h b0 B Z0 Z H σ ρ os ρ' _ ok e1 fun vs H1 Z1 ok1 s1 r1 => ?_
  have ra := valA_ok r1 e2
  unfold rng1 at e3
  split at e3
  · split at e3
    · rename_i hb
      cases e3
      cases ra with
      | cons r ra =>
      cases r; cases ra
      exact ⟨_, rfl, hb.1, hb.2, q _ H1 Z1 ok1 s1 wk_rng⟩
    · cases e3
  · cases e3
theorem di_rng2 {ga : GA} (h : DA K tas ga) : DI K (iRng2 tas) (eCall rng2 ga) := fun b0 B Z0 Z H σ ρ ds ρ' W ok e q => by
  obtain ⟨os, as, e1, e2, e3⟩ := call_ok e
  refine h b0 B Z0 Z H σ ρ os ρ' _ ok e1 fun vs H1 Z1 ok1 s1 r1 => ?_
  have ra := valA_ok r1 e2
  unfold rng2 at e3
  split at e3
  · split at e3
    · rename_i hb
      cases e3
      cases ra with
      | cons r ra =>
      cases ra with
      | cons r' ra =>
      cases r; cases r'; cases ra
      exact ⟨_, _, rfl, hb, q _ H1 Z1 ok1 s1 wk_rng⟩
    · cases e3
  · cases e3
/-! ### zip and enumerate of lists and tuples in any mix -/
/-- what may be walked: a list, a tuple -/
inductive Sk where
  | L
  | T
def Sk.sq (K : PySem.W.Frag) (H : Hp) (a : Addr) (xs : List V) : Sk → Prop
  | .L => SqL K H a xs
  | .T => SqT K H a xs
def Sk.src (h : Heap) (a : Addr) (its : Array Value) : Sk → Prop
  | .L => h.IsList a its
  | .T => h.IsTuple a its
def Sk.itr (h : Heap) (it a : Addr) (i : Nat) : Sk → Prop
  | .L => h.IsListIter it a i
  | .T => h.IsTupleIter it a i
def Sk.obj (a : Addr) : Sk → Obj
  | .L => { cls := .type "list_iterator", data := .fields #[.ref a, .int 0 0] }
  | .T => { cls := .type "tuple_iterator", data := .fields #[.ref a, .int 0 0] }
theorem Sk.draws {prog : Program} {w : World} {A : Around} (k : Sk) (hh : A.handled = none) (it a : Addr) (hne : a ≠ it) (its : Array Value) : Draws prog w A it [it, a] its.size (fun i v => its[i]? = some v) (fun i h => k.itr h it a i ∧ k.src h a its) := by
  cases k with
  | L => exact Draws.list hh it a hne its
  | T => exact Draws.tuple hh it a hne its
theorem Sk.begins (k : Sk) (a : Addr) (its : Array Value) : Begins (.ref a) (k.obj a) (fun h => k.src h a its) := by
  cases k with
  | L => exact begins_list a its
  | T => exact begins_tuple a its
theorem Sk.first (k : Sk) {h : Heap} {it a : Addr} (e : h.get? it = some (k.obj a)) : k.itr h it a 0 := by
  cases k with
  | L => exact ⟨_, e, rfl, rfl⟩
  | T => exact ⟨_, e, rfl, rfl⟩
theorem Sk.there (k : Sk) {pins : List (Addr × Obj)} {σ : L2.St} {H : Hp} {s : Shared} {a : Addr} {xs : List V} (I : L2.Inv X pins σ H s) (h : k.sq X.K H a xs) : ∃ its, Vals xs its ∧ k.src s.heap a its.toArray := by
  cases k with
  | L =>
    obtain ⟨its, r, p, _⟩ := I.list h
    exact ⟨its, r, p.isList⟩
  | T =>
    obtain ⟨its, r, p, _⟩ := I.tuple h
    exact ⟨its, r, p⟩
theorem Sk.lt (k : Sk) {h : Heap} {a : Addr} {its : Array Value} (e : k.src h a its) : a < h.objs.size := by
  cases k with
  | L => obtain ⟨o, q, _⟩ := e; exact Heap.lt_size q
  | T => obtain ⟨o, q, _⟩ := e; exact Heap.lt_size q
theorem Sk.obj_of (k : Sk) {h : Heap} {it a : Addr} {i : Nat} (e : k.itr h it a i) : ∃ o, h.get? it = some o ∧ ∀ v, o.data ≠ .cell v := by
  cases k with
  | L => obtain ⟨o, q, _, d⟩ := e; exact ⟨o, q, fun v z => by rw [d] at z; cases z⟩
  | T => obtain ⟨o, q, _, d⟩ := e; exact ⟨o, q, fun v z => by rw [d] at z; cases z⟩
theorem Sk.keep (k : Sk) {h h' : Heap} {it a : Addr} {i : Nat} (e : k.itr h it a i) (kp : ∀ o, h.get? it = some o → h'.get? it = some o) : k.itr h' it a i := by
  cases k with
  | L => obtain ⟨o, q, r⟩ := e; exact ⟨o, kp o q, r⟩
  | T => obtain ⟨o, q, r⟩ := e; exact ⟨o, kp o q, r⟩
theorem Sk.mono (k : Sk) {Z H : Hp} {a : Addr} {xs : List V} (s : Same Z H) (h : k.sq K Z a xs) : k.sq K H a xs := by
  cases k with
  | L => exact same_l s h
  | T => exact same_t s h
/-- pairs, n of them, while S holds -/
def ItP (S : Hp → Prop) (n : Nat) (f g : Nat → Option V) : It :=
  ⟨fun i H => S H ∧ i < n, fun i H v H' => ∃ T x y, v = .ref T ∧ H T = none ∧ H' = upd H T (.tup [x, y]) ∧ f i = some x ∧ g i = some y, fun i H => S H ∧ i = n⟩
/-- a new pair goes into the heap, the iterators' own objects turn -/
theorem pair_inv {pins : List (Addr × Obj)} {σ : L2.St} {H : Hp} {s : Shared} {h' : Heap} {tk : Nat} {T : Addr} {x y : V} {u v : Value} {wr fp : List Addr} (I : L2.Inv X pins σ H s) (hf : ∀ b ∈ fp, FpOk X pins H b) (sub : ∀ b ∈ wr, b ∈ fp)
    (kp : ∀ b o, b ∉ wr → s.heap.get? b = some o → h'.get? b = some o) (hT : s.heap.objs.size ≤ T) (tup : h'.IsTuple T #[u, v]) (rx : RelV x u) (ry : RelV y v) (live : ∀ b ∈ fp, ∃ o, s.heap.get? b = some o) :
    L2.Inv X pins σ (upd H T (.tup [x, y])) { s with heap := h', toks := tk } ∧ H T = none ∧ ∀ b ∈ fp, upd H T (.tup [x, y]) b = none := by
  refine ⟨I.turnedNew (t' := tk) (ch := wr) kp (fun b hb => hf b (sub b hb)) hT ⟨by show 2 ≤ sizeLine; decide, [u, v], .cons rx (.cons ry .nil), tup⟩, I.hok.fresh hT, fun b hb => ?_⟩
  obtain ⟨o, e⟩ := live b hb
  rw [upd_ne (Nat.ne_of_lt (Nat.lt_of_lt_of_le (Heap.lt_size e) hT))]
  exact (hf b hb).1
def zipTn (k1 k2 : Sk) (a b N : Addr) : Nat → Heap → Prop := fun i h => IsZip h (N + 4) (N + 2) (N + 3) .none ∧ IsTupOf2 h (N + 2) (.ref N) (.ref (N + 1)) ∧ (∃ a1 a2, IsTupOf2 h (N + 3) a1 a2) ∧ k1.itr h N a i ∧ k2.itr h (N + 1) b i
def fp5 (N : Addr) : List Addr := [N + 4, N + 2, N + 3, N, N + 1]
theorem zip_live {k1 k2 : Sk} {a b N : Addr} {i : Nat} {h : Heap} (st : zipTn k1 k2 a b N i h) : ∀ c ∈ fp5 N, ∃ o, h.get? c = some o ∧ ∀ v, o.data ≠ .cell v := fun c hc => by
  obtain ⟨h1, h2, ⟨a1, a2, h3⟩, h4, h5⟩ := st
  have e : c = N + 4 ∨ c = N + 2 ∨ c = N + 3 ∨ c = N ∨ c = N + 1 := by simpa [fp5] using hc
  rcases e with e | e | e | e | e
  · rw [e]; exact ⟨_, h1, fun v z => nomatch z⟩
  · rw [e]; exact ⟨_, h2, fun v z => nomatch z⟩
  · rw [e]; exact ⟨_, h3, fun v z => nomatch z⟩
  · rw [e]; exact k1.obj_of h4
  · rw [e]; exact k2.obj_of h5
theorem turn_zipU {P : Program} {w : World} {elts : List Expr} {kk : Nat} {tpos : Pos} (k1 k2 : Sk) {a b N : Addr} (ha : a < N) (hb : b < N) (xs ys : List V) :
    Turn P w K (.Tuple elts kk tpos) (ItP (fun H => k1.sq K H a xs ∧ k2.sq K H b ys) (min xs.length ys.length) (fun i => xs[i]?) (fun i => ys[i]?)) (fp5 N) (N + 4) (zipTn k1 k2 a b N) where
  mem := by simp [fp5]
  obj := fun i h st => zip_live st
  keep := fun i h h' st kp => by
    obtain ⟨h1, h2, ⟨a1, a2, h3⟩, h4, h5⟩ := st
    exact ⟨kp _ (by simp [fp5]) _ h1, kp _ (by simp [fp5]) _ h2, ⟨a1, a2, kp _ (by simp [fp5]) _ h3⟩, k1.keep h4 fun o q => kp _ (by simp [fp5]) o q, k2.keep h5 fun o q => kp _ (by simp [fp5]) o q⟩
  item := by
    intro X hP hw hK hc i pins s σ H E I hf st hg
    subst hP hw hK
    obtain ⟨⟨q1, q2⟩, hi⟩ := hg
    obtain ⟨i1, r1, s1⟩ := k1.there I q1
    obtain ⟨i2, r2, s2⟩ := k2.there I q2
    have W := GoesN.zip2 (prog := X.prog) (w := X.w) (A := X.A) (elts := elts) (x1 := kk) (pos := tpos) (zip_sep2 (N := N) (fp1 := [a]) (fp2 := [b]) (by simpa using ha) (by simpa using hb))
      (k1.draws (A := X.A.in1) (I.ok.hd hc) N a (Nat.ne_of_lt ha) i1.toArray) (k2.draws (A := X.A.in1) (I.ok.hd hc) (N + 1) b (Nat.ne_of_lt (Nat.lt_succ_of_lt hb)) i2.toArray)
    have st0 := st
    obtain ⟨h1, h2, h3, h4, h5⟩ := st
    refine W.goes i s _ E (by rw [List.size_toArray, List.size_toArray, ← r1.length, ← r2.length]; exact hi) ⟨h1, h2, h3, ⟨h4, s1⟩, h5, s2⟩ fun v h' tk hY st' kp htk => ?_
    obtain ⟨T, x, y, rfl, hT, ex, ey, tup⟩ := hY
    have gx : xs[i]? = some (xs[i]'(by omega)) := List.getElem?_eq_getElem _
    have gy : ys[i]? = some (ys[i]'(by omega)) := List.getElem?_eq_getElem _
    obtain ⟨u, eu, ru⟩ := r1.get gx
    obtain ⟨v, ev, rv⟩ := r2.get gy
    have e1 : u = x := Option.some.inj (eu.symm.trans (by simpa using ex))
    have e2 : v = y := Option.some.inj (ev.symm.trans (by simpa using ey))
    subst e1 e2
    obtain ⟨I2, hn, fr⟩ := pair_inv (tk := tk) I hf (by simp [fp5]) kp hT tup ru rv fun b hb => let ⟨o, e, _⟩ := zip_live st0 b hb; ⟨o, e⟩
    obtain ⟨g1, g2, g3, ⟨g4, _⟩, g5, _⟩ := st'
    exact ⟨.ref T, _, I2, rfl, ⟨T, _, _, rfl, hn, rfl, gx, gy⟩, ⟨g1, g2, g3, g4, g5⟩, fr⟩
  done := by
    intro X hP hw hK hc i pins s σ H E I hf st hg
    subst hP hw hK
    obtain ⟨⟨q1, q2⟩, hi⟩ := hg
    obtain ⟨i1, r1, s1⟩ := k1.there I q1
    obtain ⟨i2, r2, s2⟩ := k2.there I q2
    have W := GoesN.zip2 (prog := X.prog) (w := X.w) (A := X.A) (elts := elts) (x1 := kk) (pos := tpos) (zip_sep2 (N := N) (fp1 := [a]) (fp2 := [b]) (by simpa using ha) (by simpa using hb))
      (k1.draws (A := X.A.in1) (I.ok.hd hc) N a (Nat.ne_of_lt ha) i1.toArray) (k2.draws (A := X.A.in1) (I.ok.hd hc) (N + 1) b (Nat.ne_of_lt (Nat.lt_succ_of_lt hb)) i2.toArray)
    obtain ⟨h1, h2, h3, h4, h5⟩ := st
    have hn : min i1.toArray.size i2.toArray.size = i := by rw [List.size_toArray, List.size_toArray, ← r1.length, ← r2.length]; exact hi.symm
    rw [hn] at W
    refine W.stops s _ E ⟨h1, h2, h3, ⟨h4, s1⟩, h5, s2⟩ fun h' tk kp htk => ?_
    exact I.turnedL (t' := tk) (ch := [N + 4, N + 3, N, N + 1]) kp fun b hb => hf b (by
      have : b = N + 4 ∨ b = N + 3 ∨ b = N ∨ b = N + 1 := by simpa using hb
      rcases this with e | e | e | e <;> simp [fp5, e])
  self := fun A i s Q E st h => wpAny_pyIter_zip st.1 h
def iZipU (K : PySem.W.Frag) (ta : TA) : TI := fun σ H R => ta σ H fun vs H1 => ∃ a b k1 k2 xs ys, vs = [.ref a, .ref b] ∧ Sk.sq K H1 a xs k1 ∧ Sk.sq K H1 b ys k2 ∧ R (ItP (fun H => k1.sq K H a xs ∧ k2.sq K H b ys) (min xs.length ys.length) (fun i => xs[i]?) (fun i => ys[i]?)) H1
theorem pi_zipU {e e2 : Expr} {ta : TA} {p pos tpos : Pos} {elts : List Expr} {kk : Nat} (hg : Gl X "zip") (hm : X.mg "zip" = none) (ha : PA X [e, e2] ta)
    (h1 : starEach [e, e2] X.env = (false, eval e X.env) :: starEach [e2] X.env := by rfl) (h2 : (backTo pos (starEach [e2] X.env)).any (·.1) = false := by rfl) :
    PI X (.Tuple elts kk tpos) (.Call (.Name "zip" p) [e, e2] [] pos) (iZipU X.K ta) := by
  refine ⟨fun pins s σ H R I h => PyProof.Rows.Call_ (ld_blt I hg hm PyProof.Rows.boot_zip (PyProof.Rows.callWith_type1 (thn (ha.run pos pins s σ H _ I h) fun us s1 ⟨vs, H1, I1, r1, q1⟩ => ?_) h1 h2))⟩
  obtain ⟨a, b, k1, k2, xs, ys, rfl, q1, q2, q⟩ := q1
  cases r1 with
  | cons r rr =>
  cases rr with
  | cons r' rr =>
  cases rr; cases r; cases r'
  obtain ⟨i1, r1, s1'⟩ := k1.there I1 q1
  obtain ⟨i2, r2, s2'⟩ := k2.there I1 q2
  refine zip_begins2 (k1.begins a i1.toArray) (k2.begins b i2.toArray) s1' s2' fun h' hz hTI hTO g1 g2 hsz hk => wpAny_pyIter_zip hz ?_
  refine ⟨s1.heap.objs.size + 4, fp5 s1.heap.objs.size, _, _, H1, rfl, I1.kept (t' := s1.toks) hk, turn_zipU k1 k2 (k1.lt s1') (k2.lt s2') xs ys, ⟨hz, hTI, ⟨_, _, hTO⟩, k1.first g1, k2.first g2⟩, fun c hc => ?_, q⟩
  have hle : s1.heap.objs.size ≤ c := by
    have : c = s1.heap.objs.size + 4 ∨ c = s1.heap.objs.size + 2 ∨ c = s1.heap.objs.size + 3 ∨ c = s1.heap.objs.size ∨ c = s1.heap.objs.size + 1 := by simpa [fp5] using hc
    rcases this with z | z | z | z | z <;> rw [z] <;> first | exact Nat.le_add_right _ _ | exact Nat.le_refl _
  exact I1.fpOk hle (I1.hok.fresh hle)
theorem wk_pair {Z : Hp} {S : Hp → Prop} {n : Nat} {f g : Nat → Option V} {ds : List D} (hS : ∀ H, Same Z H → S H) (hn : ds.length = n) (hd : ∀ i x y, i < n → f i = some x → g i = some y → ∃ a b, ds[i]? = some (.tuple [a, b]) ∧ Rp K Z x a ∧ Rp K Z y b) : Wk K (ItP S n f g) Z ds where
  goes := fun i H hi s => ⟨hS H s, by rw [← hn]; exact hi⟩
  stops := fun H s => ⟨hS H s, hn⟩
  yields := fun i H x H' hi y b0 B Z0 Z' σ ρ ok s => by
    obtain ⟨T, x, y, rfl, hT, rfl, e1, e2⟩ := y
    obtain ⟨a, b, ed, ra, rb⟩ := hd i x y (by omega) e1 e2
    obtain ⟨ok2, s2⟩ := ok.new (o := .tup [x, y]) hT
    exact ⟨_, _, ok2, s2, ed, .tup (.inl (.inl upd_same)) (.cons ((ra.mono s).mono s2) (.cons ((rb.mono s).mono s2) .nil))⟩
def skOf : D → Option (Sk × List D)
  | .list xs => some (.L, xs)
  | .tuple xs => some (.T, xs)
  | .dict [(.list xs, .none)] => some (.L, xs)
  | _ => none
theorem sk_rp {Z : Hp} {v : V} {d : D} {k : Sk} {ds : List D} (h : skOf d = some (k, ds)) (r : Rp K Z v d) : ∃ a xs, v = .ref a ∧ k.sq K Z a xs ∧ RpA K Z xs ds := by
  unfold skOf at h
  split at h
  · cases h
    cases r with
    | lst hs ra => exact ⟨_, _, rfl, .inl (.inl hs), ra⟩
  · cases h
    cases r with
    | tup hs ra => exact ⟨_, _, rfl, hs, ra⟩
  · cases h
    cases r with
    | scr hs ra => exact ⟨_, _, rfl, hs, ra⟩
  · cases h
def zipD (as bs : List D) : List D := List.zipWith (fun a b => .tuple [a, b]) as bs
def zip2D : List D → Option (List D)
  | [a, b] => match skOf a, skOf b with
    | some (_, xs), some (_, ys) => some (zipD xs ys)
    | _, _ => none
  | _ => none
theorem di_zip {ga : GA} (h : DA K tas ga) : DI K (iZipU K tas) (eCall zip2D ga) := fun b0 B Z0 Z H σ ρ ds ρ' W ok e q => by
  obtain ⟨os, as, e1, e2, e3⟩ := call_ok e
  refine h b0 B Z0 Z H σ ρ os ρ' _ ok e1 fun vs H1 Z1 ok1 s1 r1 => ?_
  have ra := valA_ok r1 e2
  unfold zip2D at e3
  split at e3
  · split at e3
    · rename_i k1 xs k2 ys f1 f2
      cases e3
      cases ra with
      | cons r ra =>
      cases ra with
      | cons r' ra =>
      cases ra
      obtain ⟨a, va, rfl, qa, rva⟩ := sk_rp f1 r
      obtain ⟨b, vb, rfl, qb, rvb⟩ := sk_rp f2 r'
      refine ⟨a, b, k1, k2, va, vb, rfl, k1.mono ok1.zh qa, k2.mono ok1.zh qb, q _ H1 Z1 ok1 s1 (wk_pair (fun H s => ⟨k1.mono s qa, k2.mono s qb⟩) ?_ fun i x y hi ex ey => ?_)⟩
      · unfold zipD; rw [List.length_zipWith, rva.length, rvb.length]
      · obtain ⟨d1, g1, rd1⟩ := rva.getV ex
        obtain ⟨d2, g2, rd2⟩ := rvb.getV ey
        refine ⟨d1, d2, ?_, rd1, rd2⟩
        unfold zipD
        rw [List.getElem?_zipWith, g1, g2]
    · cases e3
  · cases e3
end
end DL

namespace DL
open PySem L2
/-! ### enumerate(x), x a list or a tuple -/
theorem enum_new1 {v : Value} {o : Obj} {HH : Heap → Prop} (B : Begins v o HH) :
    Meets (Builtin.«enumerate.__new__» ⟨[.type "enumerate", v], []⟩) (fun _ R s => HH s.heap ∧
      R (.ok (.ret (.ref (s.heap.push o).objs.size))) { s with heap := (s.heap.push o).push { cls := .type "enumerate", data := .fields #[.none, .bool false, .ref s.heap.objs.size, rawInt 0, .none, .none] } }) :=
  .of_wp fun prog w A R s h => by
    obtain ⟨hp, gn, dr, tk, os⟩ := s
    obtain ⟨h1, h⟩ := h
    have hsub := sub_enumerate
    have q1 : ∀ {A' : Around} {E : Value → Shared → Prop} {Q : Value → Shared → Prop}, Q (.ref hp.objs.size) ⟨hp.push o, gn, dr, tk, os⟩ → wpAny (model prog w) A' (pyIter v) Q E ⟨hp, gn, dr, tk, os⟩ :=
      fun q => B.iter prog w _ _ ⟨hp, gn, dr, tk, os⟩ _ h1 q
    wp_walk using q1
    refine wpAny_stack_any fun st => wpAny_pure ?_
    split
    · rename_i c _ _ _ _ _
      cases (c == Value.type "enumerate") <;> (wp_walk using q1; exact ⟨_, rfl, h⟩)
    · wp_walk using q1
      exact ⟨_, rfl, h⟩
theorem enum_begins1 {prog : Program} {w : World} {A : Around} {E : Value → Shared → Prop} {s : Shared} {v : Value} {o : Obj} {HH : Heap → Prop} {Q : Value → Shared → Prop} (B : Begins v o HH) (h1 : HH s.heap)
    (h : ∀ h', IsEnum h' (s.heap.objs.size + 1) s.heap.objs.size 0 .none → h'.get? s.heap.objs.size = some o → (∀ b o, s.heap.get? b = some o → h'.get? b = some o) → Q (.ref (s.heap.objs.size + 1)) { s with heap := h' }) :
    wpAny (model prog w) A (call (.type "enumerate") [v]) Q E s := by
  refine callType_new F.called_enumerate (by decide) (F.typeCall_enumerate_1 _) (F.newCall_enumerate_1 _) (fun obj => F.args_object_init_2 obj _) F.entry_enumerate_new (enum_new1 B) ⟨h1, ?_⟩
  have hz : (s.heap.push o).objs.size = s.heap.objs.size + 1 := Heap.size_push ..
  show _ ∧ _
  rw [hz]
  have he : IsEnum ((s.heap.push o).push { cls := .type "enumerate", data := .fields #[.none, .bool false, .ref s.heap.objs.size, rawInt 0, .none, .none] }) (s.heap.objs.size + 1) s.heap.objs.size 0 .none := by
    have q := Heap.get?_push_size (s.heap.push o) (o := { cls := .type "enumerate", data := .fields #[.none, .bool false, .ref s.heap.objs.size, rawInt 0, .none, .none] }) rfl
    rw [hz] at q
    exact q
  exact ⟨⟨_, he, rfl⟩, h _ he (Heap.get?_push_of_some _ (Heap.get?_push_size _ B.free)) fun b o x => Heap.get?_push_of_some _ (Heap.get?_push_of_some _ x)⟩
section
variable {X : Cx} {K : PySem.W.Frag} {ta tb te tc : TE} {tas : TA} {tg : Expr}
def enumTn (k : Sk) (a N : Addr) : Nat → Heap → Prop := fun i h => (∃ old, IsEnum h (N + 1) N (0 + (i : Int)) old) ∧ k.itr h N a i
theorem enum_live {k : Sk} {a N : Addr} {i : Nat} {h : Heap} (st : enumTn k a N i h) : ∀ c ∈ [N + 1, N], ∃ o, h.get? c = some o ∧ ∀ v, o.data ≠ .cell v := fun c hc => by
  obtain ⟨⟨old, h1⟩, h2⟩ := st
  have e : c = N + 1 ∨ c = N := by simpa using hc
  rcases e with e | e
  · rw [e]; exact ⟨_, h1, fun v z => nomatch z⟩
  · rw [e]; exact k.obj_of h2
theorem turn_enumU {P : Program} {w : World} {elts : List Expr} {kk : Nat} {tpos : Pos} (k : Sk) {a N : Addr} (ha : a < N) (xs : List V) :
    Turn P w K (.Tuple elts kk tpos) (ItP (fun H => k.sq K H a xs) xs.length (fun i => some (.int (0 + (i : Int)))) (fun i => xs[i]?)) [N + 1, N] (N + 1) (enumTn k a N) where
  mem := by simp
  obj := fun i h st => enum_live st
  keep := fun i h h' st kp => by
    obtain ⟨⟨old, h1⟩, h2⟩ := st
    exact ⟨⟨old, kp _ (by simp) _ h1⟩, k.keep h2 fun o q => kp _ (by simp) o q⟩
  item := by
    intro X hP hw hK hc i pins s σ H E I hf st hg
    subst hP hw hK
    obtain ⟨q1, hi⟩ := hg
    obtain ⟨i1, r1, s1⟩ := k.there I q1
    have W := GoesN.enumFrom (prog := X.prog) (w := X.w) (A := X.A) (elts := elts) (x1 := kk) (pos := tpos) 0 (k.draws (A := X.A.in1) (I.ok.hd hc) N a (Nat.ne_of_lt ha) i1.toArray) (N + 1) (Nat.succ_ne_self _) (by
      intro z
      rcases List.mem_cons.mp z with z | z
      · exact Nat.succ_ne_self _ z
      · rcases List.mem_cons.mp z with z | z
        · exact Nat.lt_irrefl _ (Nat.lt_of_lt_of_le ha (by rw [← z]; exact Nat.le_succ N))
        · cases z) (by simp)
    have st0 := st
    obtain ⟨h1, h2⟩ := st
    refine W.goes i s _ E (by rw [List.size_toArray, ← r1.length]; exact hi) ⟨h1, h2, s1⟩ fun v h' tk hY st' kp htk => ?_
    obtain ⟨T, t, x, rfl, hT, ex, tup⟩ := hY
    have gx : xs[i]? = some xs[i] := List.getElem?_eq_getElem _
    obtain ⟨u, eu, ru⟩ := r1.get gx
    have e1 : u = x := Option.some.inj (eu.symm.trans (by simpa using ex))
    subst e1
    obtain ⟨I2, hn, fr⟩ := pair_inv (tk := tk) (x := .int (0 + (i : Int))) I hf (by simp) kp hT tup ⟨_, rfl⟩ ru fun b hb => let ⟨o, e, _⟩ := enum_live st0 b hb; ⟨o, e⟩
    obtain ⟨g1, g2, _⟩ := st'
    exact ⟨.ref T, _, I2, rfl, ⟨T, _, _, rfl, hn, rfl, rfl, gx⟩, ⟨g1, g2⟩, fr⟩
  done := by
    intro X hP hw hK hc i pins s σ H E I hf st hg
    subst hP hw hK
    obtain ⟨q1, hi⟩ := hg
    obtain ⟨i1, r1, s1⟩ := k.there I q1
    have W := GoesN.enumFrom (prog := X.prog) (w := X.w) (A := X.A) (elts := elts) (x1 := kk) (pos := tpos) 0 (k.draws (A := X.A.in1) (I.ok.hd hc) N a (Nat.ne_of_lt ha) i1.toArray) (N + 1) (Nat.succ_ne_self _) (by
      intro z
      rcases List.mem_cons.mp z with z | z
      · exact Nat.succ_ne_self _ z
      · rcases List.mem_cons.mp z with z | z
        · exact Nat.lt_irrefl _ (Nat.lt_of_lt_of_le ha (by rw [← z]; exact Nat.le_succ N))
        · cases z) (by simp)
    obtain ⟨h1, h2⟩ := st
    have hn : i1.toArray.size = i := by rw [List.size_toArray, ← r1.length]; exact hi.symm
    rw [hn] at W
    refine W.stops s _ E ⟨h1, h2, s1⟩ fun h' tk kp htk => ?_
    exact I.turnedL (t' := tk) (ch := [N + 1, N]) kp fun b hb => hf b hb
  self := fun A i s Q E st h => let ⟨⟨_, he⟩, _⟩ := st; wpAny_pyIter_enum he h
def iEnumU (K : PySem.W.Frag) (ta : TA) : TI := fun σ H R => ta σ H fun vs H1 => ∃ a k xs, vs = [.ref a] ∧ Sk.sq K H1 a xs k ∧ R (ItP (fun H => k.sq K H a xs) xs.length (fun i => some (.int (0 + (i : Int)))) (fun i => xs[i]?)) H1
theorem pi_enumU {e : Expr} {ta : TA} {p pos tpos : Pos} {elts : List Expr} {kk : Nat} (hg : Gl X "enumerate") (hm : X.mg "enumerate" = none) (ha : PA X [e] ta) (h1 : starEach [e] X.env = [(false, eval e X.env)] := by rfl) :
    PI X (.Tuple elts kk tpos) (.Call (.Name "enumerate" p) [e] [] pos) (iEnumU X.K ta) := by
  refine ⟨fun pins s σ H R I h => PyProof.Rows.Call_ (ld_blt I hg hm PyProof.Rows.boot_enumerate (PyProof.Rows.callWith_type1 (thn (ha.run pos pins s σ H _ I h) fun us s1 ⟨vs, H1, I1, r1, q1⟩ => ?_) h1 rfl))⟩
  obtain ⟨a, k, xs, rfl, q1, q⟩ := q1
  cases r1 with
  | cons r rr =>
  cases rr; cases r
  obtain ⟨i1, r1, s1'⟩ := k.there I1 q1
  refine enum_begins1 (k.begins a i1.toArray) s1' fun h' he g1 hk => wpAny_pyIter_enum he ?_
  refine ⟨s1.heap.objs.size + 1, [s1.heap.objs.size + 1, s1.heap.objs.size], _, _, H1, rfl, I1.kept (t' := s1.toks) hk, turn_enumU k (k.lt s1') xs, ⟨⟨_, he⟩, k.first g1⟩, fun c hc => ?_, q⟩
  have hle : s1.heap.objs.size ≤ c := by
    have : c = s1.heap.objs.size + 1 ∨ c = s1.heap.objs.size := by simpa using hc
    rcases this with z | z <;> rw [z] <;> first | exact Nat.le_add_right _ _ | exact Nat.le_refl _
  exact I1.fpOk hle (I1.hok.fresh hle)
def enumFrom (i : Nat) : List D → List D
  | [] => []
  | d :: ds => .tuple [.int (i : Int), d] :: enumFrom (i + 1) ds
theorem enumFrom_len : ∀ (ds : List D) (i : Nat), (enumFrom i ds).length = ds.length
  | [], _ => rfl
  | d :: ds, i => by
    show (enumFrom (i + 1) ds).length + 1 = ds.length + 1
    rw [enumFrom_len ds (i + 1)]
theorem enumFrom_get : ∀ (ds : List D) (i j : Nat) (d : D), ds[j]? = some d → (enumFrom i ds)[j]? = some (.tuple [.int ((i + j : Nat) : Int), d])
  | d :: ds, i, 0, e, h => by cases h; rfl
  | d :: ds, i, j + 1, e, h => by
    show (enumFrom (i + 1) ds)[j]? = _
    rw [enumFrom_get ds (i + 1) j e h, show i + 1 + j = i + (j + 1) by omega]
def enum1D : List D → Option (List D)
  | [a] => (skOf a).map fun q => enumFrom 0 q.2
  | _ => none
theorem di_enum {ga : GA} (h : DA K tas ga) : DI K (iEnumU K tas) (eCall enum1D ga) := fun b0 B Z0 Z H σ ρ ds ρ' W ok e q => by
  obtain ⟨os, as, e1, e2, e3⟩ := call_ok e
  refine h b0 B Z0 Z H σ ρ os ρ' _ ok e1 fun vs H1 Z1 ok1 s1 r1 => ?_
  have ra := valA_ok r1 e2
  unfold enum1D at e3
  split at e3
  · obtain ⟨⟨k, xs⟩, f1, rfl⟩ := Option.map_eq_some_iff.mp e3
    cases ra with
    | cons r ra =>
    cases ra
    obtain ⟨a, va, rfl, qa, rva⟩ := sk_rp f1 r
    refine ⟨a, k, va, rfl, k.mono ok1.zh qa, q _ H1 Z1 ok1 s1 (wk_pair (fun H s => k.mono s qa) (by rw [enumFrom_len, rva.length]) fun i x y hi ex ey => ?_)⟩
    cases ex
    obtain ⟨d1, g1, rd1⟩ := rva.getV ey
    exact ⟨_, d1, enumFrom_get xs 0 i d1 g1, by rw [show ((0 + i : Nat) : Int) = 0 + (i : Int) by omega]; exact .int _, rd1⟩
  · cases e3
/-! ### isinstance(x, T), T a built-in class or a written tuple of such -/
def tyName : D → String
  | .none => "NoneType"
  | .bool _ => "bool"
  | .int _ => "int"
  | .str _ => "str"
  | .list _ => "list"
  | .tuple _ => "tuple"
  | .dict [(.list _, .none)] => "list"
  | .dict _ => "?"
def plainT (d : D) : Bool := tyName d != "?"
def isiD (T : String) (d : D) : Option D := if plainT d then (kitB (tyName d) T).map .bool else none
def isiAny (a : String) : List String → Option Bool
  | [] => some false
  | T :: r => match kitB a T with
    | some true => some true
    | some false => isiAny a r
    | none => none
def isiTD (Ts : List String) (d : D) : Option D := if plainT d then (isiAny (tyName d) Ts).map .bool else none
theorem tyx_of {Z H : Hp} {v : V} {d : D} (s : Same Z H) (h : Bd K Z H v d) (hp : plainT d = true) : TyX K H v (.type (tyName d)) := by
  cases h with
  | non => exact .base .non
  | bl b => exact .base (.bl b)
  | int i => exact .base (.int i)
  | str x => exact .base (.str x)
  | lst h r => exact .base (.lst h)
  | scr h r =>
    rcases h with (h | ⟨o, h⟩) | ⟨o, its, n, h, c, _⟩
    · exact .base (.lst h)
    · exact .base (.frz h)
    · exact .kList h c
  | tup h r =>
    rcases same_t s h with (h | ⟨o, h⟩) | ⟨o, its, n, h, c, _⟩
    · exact .base (.tup h)
    · exact .fTuple h
    · exact .kTuple h c
  | exc h1 h2 h3 r => exact absurd (show false = true from hp) (by decide)
  | dct h r => exact absurd (show false = true from hp) (by decide)
theorem de_isi {T : String} {g : GO} (h : DO K te g) : DE K (tCB (rIsi K) (tCons te (tCons (tC (.ty T)) tNil))) (eOp1 (isiD T) g) := fun b0 B Z0 Z H σ ρ d ρ' Q ok e q => by
  obtain ⟨x, a, e1, e3, e5⟩ := op1_ok e
  unfold isiD at e5
  split at e5
  case isFalse => cases e5
  rename_i hp
  obtain ⟨b, e6, rfl⟩ := Option.map_eq_some_iff.mp e5
  refine h b0 B Z0 Z H σ ρ x ρ' _ ok e1 fun v H1 Z1 ok1 s1 r1 => ?_
  exact ⟨v, .ty T, _, _, b, rfl, .ty T, tyx_of ok1.zh (ok1.bd r1 e3) hp, kit_ty e6, q _ H1 Z1 ok1 s1 (.bl b)⟩
theorem kitAny_of {a : String} : ∀ {Ts : List String} {b : Bool}, isiAny a Ts = some b → PySem.W.kitAny K (.type a) (Ts.map Value.type) = some b
  | [], b, h => by cases h; rfl
  | T :: r, b, h => by
    unfold isiAny at h
    split at h
    · rename_i hk
      cases h
      exact kitAny_cons (kit_ty hk) (fun z => nomatch z) fun _ => rfl
    · rename_i hk
      exact kitAny_cons (kit_ty hk) (fun _ => kitAny_of h) fun z => nomatch z
    · cases h
def tTys : List String → TA
  | [] => tNil
  | T :: r => tCons (tC (.ty T)) (tTys r)
theorem tTys_run {σ : L2.St} {H : Hp} {Q : List V → Hp → Prop} : ∀ (Ts : List String), Q (Ts.map V.ty) H → tTys Ts σ H Q
  | [], h => h
  | T :: r, h => tTys_run (Q := fun xs H2 => Q (.ty T :: xs) H2) r h
theorem paired_ty : ∀ Ts : List String, Paired ClsV (Ts.map V.ty) (Ts.map Value.type)
  | [] => .nil
  | T :: r => .cons (.ty T) (paired_ty r)
theorem de_isiT {Ts : List String} {g : GO} (hl : Ts.length ≤ sizeLine) (h : DO K te g) : DE K (tCB (rIsiT K) (tCons te (tCons (tTup (tTys Ts)) tNil))) (eOp1 (isiTD Ts) g) := fun b0 B Z0 Z H σ ρ d ρ' Q ok e q => by
  obtain ⟨x, a, e1, e3, e5⟩ := op1_ok e
  unfold isiTD at e5
  split at e5
  case isFalse => cases e5
  rename_i hpl
  obtain ⟨b, e6, rfl⟩ := Option.map_eq_some_iff.mp e5
  refine h b0 B Z0 Z H σ ρ x ρ' _ ok e1 fun v H1 Z1 ok1 s1 r1 => ?_
  refine tTys_run (Q := fun xs H2 => xs.length ≤ sizeLine ∧ ∀ p, H2 p = none → _) Ts ⟨by rw [List.length_map]; exact hl, fun p hp => ?_⟩
  obtain ⟨ok2, zp, bp, ap⟩ := ok1.fresh (o := .tup (Ts.map V.ty)) hp
  exact ⟨v, p, Ts.map V.ty, _, _, b, rfl, upd_same, paired_ty Ts, tyx_of ok2.zh (ok2.bd r1 e3) hpl, kitAny_of e6, q _ _ Z1 ok2 s1 (.bl b)⟩
/-! ### x in xs -/
def flV : D → Option V
  | .none => some .non
  | .bool b => some (.bl b)
  | .int i => some (.int i)
  | .str x => some (.str x)
  | _ => none
def flVs : List D → Option (List V)
  | [] => some []
  | d :: ds => match flV d, flVs ds with
    | some v, some vs => some (v :: vs)
    | _, _ => none
theorem flV_rp {Z : Hp} {v w : V} {d : D} (h : flV d = some w) (r : Rp K Z v d) : v = w ∧ flatV v = true := by
  cases r <;> cases h <;> exact ⟨rfl, rfl⟩
theorem flVs_rp {Z : Hp} : ∀ {vs ws : List V} {ds : List D}, flVs ds = some ws → RpA K Z vs ds → vs = ws ∧ vs.all flatV = true
  | _, _, _, h, .nil => by cases h; exact ⟨rfl, rfl⟩
  | _, _, _, h, .cons r ra => by
    unfold flVs at h
    split at h
    · rename_i v' vs' e1 e2
      cases h
      obtain ⟨rfl, f1⟩ := flV_rp e1 r
      obtain ⟨rfl, f2⟩ := flVs_rp e2 ra
      exact ⟨rfl, by rw [List.all_cons, f1, f2]; rfl⟩
    · cases h
def inDb (x d : D) : Option Bool := match d with
  | .list ds => (match flV x, flVs ds with
    | some v, some vs => some (inV v vs)
    | _, _ => none)
  | .tuple ds => (match flV x, flVs ds with
    | some v, some vs => some (inV v vs)
    | _, _ => none)
  | _ => none
def inD (x d : D) : Option D := (inDb x d).map .bool
def notInD (x d : D) : Option D := (inDb x d).map fun b => .bool (!b)
theorem in_rp {Z H : Hp} {x y : V} {a b : D} {k : Bool} (s : Same Z H) (ha : Bd K Z H x a) (hb : Bd K Z H y b) (h : inDb a b = some k) : ∃ p xs, y = .ref p ∧ (SqL K H p xs ∨ SqT K H p xs) ∧ flatV x = true ∧ xs.all flatV = true ∧ k = inV x xs := by
  have fx : ∀ v, flV a = some v → x = v ∧ flatV x = true := fun v e => flV_rp e (bd_rp s ha)
  unfold inDb at h
  split at h
  · split at h
    · rename_i v vs e1 e2
      cases h
      cases hb with
      | lst h r =>
      obtain ⟨rfl, f1⟩ := fx v e1
      obtain ⟨rfl, f2⟩ := flVs_rp e2 r
      exact ⟨_, _, rfl, .inl (.inl (.inl h)), f1, f2, rfl⟩
    · cases h
  · split at h
    · rename_i v vs e1 e2
      cases h
      cases hb with
      | tup h r =>
      obtain ⟨rfl, f1⟩ := fx v e1
      obtain ⟨rfl, f2⟩ := flVs_rp e2 r
      exact ⟨_, _, rfl, .inr (same_t s h), f1, f2, rfl⟩
    · cases h
  · cases h
theorem sn_in : Sn2 K (rIn K false) inD := fun b0 B Z0 Z H σ ρ x y a b c Q ok ha hb e q => by
  obtain ⟨k, e1, rfl⟩ := Option.map_eq_some_iff.mp e
  obtain ⟨p, xs, rfl, h1, h2, h3, rfl⟩ := in_rp ok.zh ha hb e1
  exact ⟨p, xs, rfl, h1, h2, h3, q _ H Z ok (Same.refl Z) (.bl _)⟩
theorem sn_notIn : Sn2 K (rIn K true) notInD := fun b0 B Z0 Z H σ ρ x y a b c Q ok ha hb e q => by
  obtain ⟨k, e1, rfl⟩ := Option.map_eq_some_iff.mp e
  obtain ⟨p, xs, rfl, h1, h2, h3, rfl⟩ := in_rp ok.zh ha hb e1
  exact ⟨p, xs, rfl, h1, h2, h3, q _ H Z ok (Same.refl Z) (.bl _)⟩
end
end DL

namespace DL
open PySem L2
section
variable {X : Cx} {K : PySem.W.Frag} {ta tb te tc : TE} {tas tks : TA} {tg : Expr}
/-! ### rules that give lists, as data too -/
theorem sn2_of_f {r : R2} {f : D → D → Option (List D)} (h : Sn2F K r f) : Sn2 K r (fun a b => (f a b).map .list) := fun b0 B Z0 Z H σ ρ x y a b c Q ok ha hb e q => by
  obtain ⟨ds, e1, rfl⟩ := Option.map_eq_some_iff.mp e
  refine h b0 B Z0 Z H σ ρ x y a b ds Q ok ha hb e1 fun p vs H' ok' zp bp ap hp r => ?_
  obtain ⟨ok2, s2⟩ := ok'.freeze zp bp ap hp
  exact q (.ref p) H' _ ok2 s2 (.lst upd_same (r.mono s2))
theorem sn2_or {r : R2} {f g : D → D → Option D} (h : Sn2 K r f) (h' : Sn2 K r g) : Sn2 K r (fun a b => (f a b).orElse fun _ => g a b) := fun b0 B Z0 Z H σ ρ x y a b c Q ok ha hb e q => by
  dsimp only at e
  cases hf : f a b with
  | some d =>
    rw [hf] at e
    cases e
    exact h b0 B Z0 Z H σ ρ x y a b _ Q ok ha hb hf q
  | none =>
    rw [hf] at e
    exact h' b0 B Z0 Z H σ ρ x y a b c Q ok ha hb e q
def addU (a b : D) : Option D := (addD a b).orElse fun _ => (addL a b).map .list
def mulU (a b : D) : Option D := (mulD a b).orElse fun _ => (repL a b).map .list
theorem sn_addU : Sn2 K (rAddU K) addU := sn2_or sn_add (sn2_of_f sn_addL)
theorem sn_mulU : Sn2 K rMulU mulU := sn2_or sn_mul (sn2_of_f sn_repL)
def sliceU (d : D) (lo hi : Option Int) : Option D := (sliceT d lo hi).orElse fun _ => (sliceL d lo hi).map .list
theorem sn_sliceU : SnSl K (rSlU K) sliceU := fun b0 B Z0 Z H σ ρ x a lo hi c Q ok ha e q => by
  unfold sliceU at e
  cases hf : sliceT a lo hi with
  | some d =>
    rw [hf] at e
    cases e
    exact sn_sliceT b0 B Z0 Z H σ ρ x a lo hi _ Q ok ha hf q
  | none =>
    rw [hf] at e
    obtain ⟨ds, e1, rfl⟩ := Option.map_eq_some_iff.mp e
    refine sn_sliceL b0 B Z0 Z H σ ρ x a lo hi ds Q ok ha e1 fun p vs H' ok' zp bp ap hp r => ?_
    obtain ⟨ok2, s2⟩ := ok'.freeze zp bp ap hp
    exact q (.ref p) H' _ ok2 s2 (.lst upd_same (r.mono s2))
/-! ### a call that may change the list in slot i and gives a new list -/
def eCallBF (F : List D → List D → Option (List D × List D)) (i : Nat) (ga : GA) (ρ : Rho) : R (List D) := if isOw ρ[i]? then (ga ρ).bind fun os ρ1 => match ρ1[i]?, valA os with
    | some (.ow box), some ds => (match F box ds with
      | some (d, box') => .ok d (ρ1.set i (.ow box'))
      | none => .bad)
    | _, _ => .bad
  else .bad
theorem df_callBF {np : Nat} {F : List D → List D → Option (List D × List D)} {i : Nat} {ga : GA} {E : XK} (hF0 : ∀ b ds d, F b ds = some d → ds.length + 1 = np) (ha : DA K tas ga) : DF K (tCall (spBF K np F) [] E (tCons (tVar i) tas)) (eCallBF F i ga) := fun b0 B Z0 Z H σ ρ d ρ' Q ok e q => by
  unfold eCallBF at e
  split at e
  · rename_i h0
    obtain ⟨b, vb0, e0, hb0⟩ := ok.isOw h0
    obtain ⟨os, ρ1, e1, e⟩ := R.bind_ok e
    split at e
    · rename_i box ds hi hv
      split at e
      · rename_i d' box' hF
        cases e
        refine ⟨.ref b, e0, ?_⟩
        refine ha b0 B Z0 Z H σ ρ os ρ1 _ ok e1 fun vs H1 Z1 ok1 s1 r1 => ?_
        obtain ⟨b1, vb, f1, f2, f3, f4, f5⟩ := ok1.ow i box hi
        rw [e0] at f1
        cases f1
        have rA := valA_ok r1 hv
        refine ⟨by rw [List.append_nil, List.length_cons, rA.length]; exact hF0 _ _ _ hF, Z1, b, vb, box, vs, ds, d, box', by rw [List.append_nil], ok1.zh, f2, f4, f5, rA, hF, fun p ws H' Z' vb' hh g zb hb' rb hp zp hp' r => ?_⟩
        have ok2 := ok1.growB hi e0 hh g zb hb' rb
        refine q p ws H' Z' ok2 (s1.trans g.1) zp (ok1.bh.free hp) (fun j es hj ho hq => ?_) hp' r
        obtain ⟨q', vs', g1, g2, _, g4, _⟩ := ok2.own j es hj ho
        rw [g1] at hq
        cases hq
        -- p was free before the call; an owned list was there before
        have : ∃ es', ρ1[j]? = some es' ∧ es'.isO = true := by
          rcases set_get hj with ⟨rfl, _⟩ | ⟨_, z⟩
          · exact ⟨_, hi, rfl⟩
          · exact ⟨_, z, ho⟩
        obtain ⟨es', z, zo⟩ := this
        obtain ⟨q2, vs2, k1, _, _, k4, _⟩ := ok1.own j es' z zo
        rw [g1] at k1
        cases k1
        rw [hp] at k4
        cases k4
      · cases e
    · cases e
  · cases e
/-! ### a call with keywords alone -/
structure KwB (K : PySem.W.Frag) (fd : FuncData) (ps ks : List Str) (g : {α : Type} → List α → List α) : Prop where
  to : ∀ (s : Shared) (ws : List Value), K.In s.heap → ws.length = ks.length → BindsTo s fd ⟨[], ks.zip ws⟩ (ps.zip (g ws))
  rel : ∀ {A C : Type} {rel : A → C → Prop} {zs : List A} {ws : List C}, Paired rel zs ws → Paired rel (g zs) (g ws)
def tCallW (sp : Sp) (m : Nat) (g : {α : Type} → List α → List α) (E : XK) (tk : TA) : TE := fun σ H Q => tk σ H fun zs H2 => zs.length = m ∧ sp (g zs) H2 Q E
theorem pe_callW {CX : CXT} {k : Nat} {f : Addr} {fd : FuncData} {ps ks : List Str} {sp : Sp} {E : XK} {x : Str} {p pos : Pos} {kws : List Keyword} {g : {α : Type} → List α → List α} (F : FnOk X.prog X.w X.K X.mg X.base CX k f fd ps sp) (hr : Room k X.A) (hg : Gl X x) (hm : X.mg x = some (.ref f)) (hk : PySem.W.keepIn X.K (.ref f) = true) (hb : KwB X.K fd ps ks g) (hx : Passes CX X E) (hkw : PK X kws tks)
    (c1 : (backToKw pos (keywordEach kws X.env)).all (·.1.isSome) = true := by rfl) (c2 : (backToKw pos (keywordEach kws X.env)).filterMap (·.1) = ks := by rfl) (c3 : (x == ("__debug__" : Str)) = false := by decide)
    (c4 : ((backTo pos (starEach [] X.env)).any (·.1) || (backToKw pos (keywordEach kws X.env)).any (·.1.isNone)) = false := by rfl) : PE X (.Call (.Name x p) [] kws pos) (tCallW sp ks.length g E tks) := by
  refine ⟨fun pins s σ H Q I h => wpAny_Call_Name_kw (ld_glob I hg hm (PySem.W.callWith_KW0 (h₀ := X.base) I.ok.mod.kin hk c1 ?_ c4) c3)⟩
  refine thn (hkw.run pos pins s σ H _ I h) fun ws s2 ⟨zs, H2, I2, rz, l2, q2⟩ => ⟨I2.kIn, ?_⟩
  rw [c2]
  have r2 : Vals (g zs) (g ws) := hb.rel rz
  refine wpAny_call (codeAny_mono (F.run X.A X.stack s2 H2 ⟨[], ks.zip ws⟩ (g ws) (g zs) Q E hr I2.env0 (hb.to s2 ws I2.kIn (rz.length.symm.trans l2)) r2 q2) fun r s' hq => ?_)
  cases r with
  | error e => exact hx pins σ H2 s2 e s' I2 hq
  | ok fl => cases fl <;> first | exact I2.after hq | exact hq.elim
def eCallW {α : Type} (F : List D → Option α) (m : Nat) (g : {α : Type} → List α → List α) (ga : GA) (ρ : Rho) : R α := (ga ρ).bind fun os ρ1 => match valA os with
  | some ds => if ds.length = m then R.lift (F (g ds)) ρ1 else .bad
  | none => .bad
theorem RpA.paired {Z : Hp} : ∀ {vs : List V} {ds : List D}, RpA K Z vs ds → Paired (Rp K Z) vs ds
  | _, _, .nil => .nil
  | _, _, .cons h r => .cons h (RpA.paired r)
theorem RpA.of_paired {Z : Hp} : ∀ {vs : List V} {ds : List D}, Paired (Rp K Z) vs ds → RpA K Z vs ds
  | _, _, .nil => .nil
  | _, _, .cons h r => .cons h (RpA.of_paired r)
theorem callW_ok {α : Type} {F : List D → Option α} {m : Nat} {g : {α : Type} → List α → List α} {ga : GA} {ρ ρ' : Rho} {z : α} (e : eCallW F m g ga ρ = .ok z ρ') : ∃ os ds, ga ρ = .ok os ρ' ∧ valA os = some ds ∧ ds.length = m ∧ F (g ds) = some z := by
  obtain ⟨x, ρ1, e1, e2⟩ := R.bind_ok e
  split at e2
  · rename_i d h1
    split at e2
    · obtain ⟨e5, rfl⟩ := R.lift_ok e2
      exact ⟨x, d, e1, h1, by assumption, e5⟩
    · cases e2
  · cases e2
theorem de_callW {m np : Nat} {F : List D → Option D} {g : {α : Type} → List α → List α} {ga : GA} {E : XK} (hg : ∀ {A C : Type} {rel : A → C → Prop} {zs : List A} {ws : List C}, Paired rel zs ws → Paired rel (g zs) (g ws)) (hF : ∀ ds d, F ds = some d → ds.length = np) (ha : DA K tks ga) : DE K (tCallW (spP K np F) m g E tks) (eCallW F m g ga) := fun b0 B Z0 Z H σ ρ d ρ' Q ok e q => by
  obtain ⟨os, ds, e1, e2, hm, e3⟩ := callW_ok e
  refine ha b0 B Z0 Z H σ ρ os ρ' _ ok e1 fun vs H1 Z1 ok1 s1 r1 => ?_
  have ra := valA_ok r1 e2
  have rg : RpA K Z1 (g vs) (g ds) := RpA.of_paired (hg ra.paired)
  refine ⟨by rw [ra.length]; exact hm, by rw [rg.length]; exact hF _ _ e3, Z1, g ds, d, ok1.zh, rg, e3, fun v H' Z' hh g r => ?_⟩
  exact q v H' Z' (ok1.grow hh g) (s1.trans g.1) r
theorem df_callW {m np : Nat} {F : List D → Option (List D)} {g : {α : Type} → List α → List α} {ga : GA} {E : XK} (hg : ∀ {A C : Type} {rel : A → C → Prop} {zs : List A} {ws : List C}, Paired rel zs ws → Paired rel (g zs) (g ws)) (hF : ∀ ds d, F ds = some d → ds.length = np) (ha : DA K tks ga) : DF K (tCallW (spF K np F) m g E tks) (eCallW F m g ga) := fun b0 B Z0 Z H σ ρ d ρ' Q ok e q => by
  obtain ⟨os, ds, e1, e2, hm, e3⟩ := callW_ok e
  refine ha b0 B Z0 Z H σ ρ os ρ' _ ok e1 fun vs H1 Z1 ok1 s1 r1 => ?_
  have ra := valA_ok r1 e2
  have rg : RpA K Z1 (g vs) (g ds) := RpA.of_paired (hg ra.paired)
  refine ⟨by rw [ra.length]; exact hm, by rw [rg.length]; exact hF _ _ e3, Z1, g ds, d, ok1.zh, rg, e3, fun p ws H' Z' hh g hp zp hp' r => ?_⟩
  refine q p ws H' Z' (ok1.grow hh g) (s1.trans g.1) zp (ok1.bh.free hp) (fun i es hi ho hq => ?_) hp' r
  obtain ⟨q', vs', f1, _, _, f4, _⟩ := ok1.own i es hi ho
  rw [f1] at hq
  cases hq
  rw [hp] at f4
  cases f4
/-- one keyword for one parameter: nothing to put in order -/
theorem kw_id {A C : Type} {rel : A → C → Prop} {zs : List A} {ws : List C} (h : Paired rel zs ws) : Paired rel (id zs) (id ws) := h
/-! ### a def whose mirror says nothing -/
theorem fn_noneP {P : Program} {w : World} {mg : Str → Option Value} {base : Heap} {k np : Nat} {f : Addr} {fd : FuncData} {ps : List Str} (h : ps.length = np) : FnOk P w K mg base CX0 k f fd ps (spP K np fun _ => none) :=
  ⟨fun vs H Q E q => q.1.trans h.symm, fun A outer s H args us vs Q E hr he hb hv hs => by
    obtain ⟨_, Z, ds, d, _, _, e, _⟩ := hs
    cases e⟩
theorem fn_noneB {P : Program} {w : World} {mg : Str → Option Value} {base : Heap} {k np : Nat} {f : Addr} {fd : FuncData} {ps : List Str} (h : ps.length = np) : FnOk P w K mg base CX0 k f fd ps (spB K np fun _ _ => none) :=
  ⟨fun vs H Q E q => q.1.trans h.symm, fun A outer s H args us vs Q E hr he hb hv hs => by
    obtain ⟨_, Z, b, vb, box, rest, ds, d, box', _, _, _, _, _, _, e, _⟩ := hs
    cases e⟩
end
end DL

namespace DL
open PySem PySem.Spec PyProof.Rows L2
/-! ### defs that ask that no repr runs around them -/
structure FnG (P : Program) (w : World) (K : PySem.W.Frag) (mg : Str → Option Value) (base : Heap) (k : Nat) (f : Addr) (fd : FuncData) (ps : List Str) (sp : Sp) : Prop where
  len : ∀ vs H Q E, sp vs H Q E → vs.length = ps.length
  run : ∀ (A : Around) (out : List PySem.Env) (t : Shared) (H : Hp) (ar : Args) (us : List Value) (vs : List V) (Q : VK) (E : XK), Room k A → A.guards = some [] → Env0 P w K mg base A out t H → BindsTo t fd ar (ps.zip us) → Vals vs us → sp vs H Q E →
    codeAny (model P w) A (.call (.ref f) ar) (CR CX0 out P w H t Q E) t
section
variable {P : Program} {w : World} {K : PySem.W.Frag} {mg : Str → Option Value} {base : Heap} {X : Cx}
theorem FnG.of {k : Nat} {f : Addr} {fd : FuncData} {ps : List Str} {sp : Sp} (F : FnOk P w K mg base CX0 k f fd ps sp) : FnG P w K mg base k f fd ps sp :=
  ⟨F.len, fun A out t H ar us vs Q E hr _ e b r h => F.run A out t H ar us vs Q E hr e b r h⟩
theorem FnG.mono {j k : Nat} {f : Addr} {fd : FuncData} {ps : List Str} {sp : Sp} (F : FnG P w K mg base j f fd ps sp) (h : j ≤ k) : FnG P w K mg base k f fd ps sp :=
  ⟨F.len, fun A out t H ar us vs Q E hr => F.run A out t H ar us vs Q E (hr.mono h)⟩
theorem fun_okG {x qual : Str} {st : Stmt} {f : Addr} {fd : FuncData} {N ps : List Str} {k : Nat} {sp : Sp} (F : Fun K x qual st f fd) (S : FnScope N ps (defScope st)) (ln : ∀ vs H Q E, sp vs H Q E → vs.length = ps.length)
    (body : ∀ (cv : Value) (A : Around) (out : List PySem.Env) (t : Shared) (H : Hp) (vs : List V) (Q : VK) (E : XK), Room k (A.deeper (envOfC qual (defScope st) t.heap.objs.size f cv)) → A.guards = some [] → sp vs H Q E →
      ∃ rd, PSs (cxOf CX0 P w K mg base N qual (defScope st) f cv A out t H E).nox (defBody st) rd ∧ rd { nx := fun _ H' => Q .non H', rt := Q } (L2.start N vs) H) : FnG P w K mg base (k + 1) f fd ps sp := by
  obtain ⟨oc, od, kV, doc, pm, an, cv, ct, osl, rfl, lk, hcd⟩ := F.ex
  refine ⟨ln, fun A out t H ar us vs Q E hr hg e0 hb r hs => ?_⟩
  have hl := ln _ _ _ _ hs
  have kp : ∀ b o, base.get? b = some o → t.heap.get? b = some o := fun b o e => (e0.bs b o e).1
  have KX : K.In t.heap := e0.mod.kin.keeps kp
  have lim : t.heap.NoLimit := e0.mod.nolimit.keeps kp
  refine codeAny_call_function hr.depth (KX _ _ lk) rfl S.co S.gen rfl (PySem.W.codeRec_of KX hcd) (hb _ _ _ _ ?_)
  refine wpAny_newFunctionEnv_cells S.kind (fun y hy => ?_) fun env he t1 x => ?_
  · obtain ⟨n, v⟩ := y
    exact (S.par n (List.of_mem_zip hy).1).imp id fun q => ⟨q, PySem.W.cellsFrom_some _ _ _ (.inl q)⟩
  · subst he
    refine ⟨lim.keeps x.toInCall.keep, codeAny_func ?_⟩
    obtain ⟨rd, ht, hq⟩ := body cv A out t H vs Q E (hr.deeper _) hg hs
    have I : L2.Inv (cxOf CX0 P w K mg base N qual (defScope st) f cv A out t H E) [] (L2.start N vs) H t1 := inv_start S hr.hd e0 hl r x
    refine wpAny_mono (ht.nox.run [] t1 (L2.start N vs) H _ I hq) (fun fl t' hs => ?_) fun e t' hs => hs
    have fin : ∀ {σ' : L2.St} {H' : Hp} {v : V} {u : Value}, L2.Inv (cxOf CX0 P w K mg base N qual (defScope st) f cv A out t H E) [] σ' H' t' → RelV v u → Q v H' → CE out P w H t Q u t' :=
      fun {σ' H' v u} J rv z => ⟨v, H', J.os, J.bare, J.base, J.hok, rv, z⟩
    cases fl with
    | ret u => obtain ⟨v, σ', H', J, rv, z⟩ := hs; exact fin J rv z
    | next => obtain ⟨σ', H', J, z⟩ := hs; exact fin (v := V.non) (u := Value.none) J rfl z
    | brk => obtain ⟨_, _, _, z⟩ := hs; exact z.elim
    | cont => obtain ⟨_, _, _, z⟩ := hs; exact z.elim
theorem pe_callG {k : Nat} {f : Addr} {fd : FuncData} {ps : List Str} {sp : Sp} {E : XK} {x : Str} {p pos : Pos} {e : Expr} {es : List Expr} {t : TA} (F : FnG X.prog X.w X.K X.mg X.base k f fd ps sp) (hr : Room k X.A) (gd : X.A.guards = some []) (hg : Gl X x) (hm : X.mg x = some (.ref f)) (hk : PySem.W.keepIn X.K (.ref f) = true) (hb : Binds X.K fd ps [])
    (ha : PA X (e :: es) t) (c1 : (x == ("__debug__" : Str)) = false := by decide) (c2 : starEach (e :: es) X.env = (false, eval e X.env) :: starEach es X.env := by rfl) (c3 : (backTo pos (starEach es X.env)).any (·.1) = false := by rfl) :
    PE X (.Call (.Name x p) (e :: es) [] pos) (tCall sp [] E t) := by
  refine ⟨fun pins s σ H Q I h => wpAny_Call_Name_kw (ld_glob I hg hm ?_ c1)⟩
  refine PySem.W.callWith_K (h₀ := X.base) I.ok.mod.kin hk (thn (ha.run pos pins s σ H _ I h) fun us s1 ⟨vs, H1, I1, r, z⟩ => ⟨I1.kIn, ?_⟩) c2 c3
  have z' : sp vs H1 Q E := by
    have y : sp (vs ++ []) H1 Q E := z
    rw [List.append_nil] at y
    exact y
  have hl : (us ++ []).length = ps.length := by rw [List.append_nil, ← r.length]; exact F.len _ _ _ _ z'
  have b1 := hb s1 us I1.kIn hl
  rw [List.append_nil] at b1
  refine wpAny_call (codeAny_mono (F.run X.A X.stack s1 H1 ⟨us, []⟩ us vs Q E hr gd I1.env0 b1 r z') fun rr s' hq => ?_)
  cases rr with
  | error e => exact hq.elim
  | ok fl => cases fl <;> first | exact I1.after hq | exact hq.elim
/-! ### the law's own call -/
theorem law_runG {mb : Str → Option Value} {k : Nat} {fa a : Addr} {fd : FuncData} {x : Str} {sp : Sp} {t : Shared} {vs : List Value} {ns : List Int}
    (KX : K.In t.heap) (g1 : t.heap.Ns mainGlobals mg) (g2 : t.heap.Ns builtinsNs mb) (g3 : ∀ x : Str, x ≠ "__name__" → mb x = bootBuiltins x) (g4 : t.heap.NoLimit) (g5 : t.gens = #[])
    (ha : t.heap.get? a = some { cls := .type "list", data := .seq vs.toArray }) (hi : IntsAre vs ns) (hl : ns.length ≤ sizeLine) (hr : Room k callerA)
    (F : ∀ base : Heap, K.In base → base.Ns mainGlobals mg → FnG P w K mg base k fa fd [x] sp) (bd : ∀ (s : Shared) (u : Value), BindsTo s fd ⟨[u], []⟩ [(x, u)])
    (hsp : ∀ H : Hp, Only H → SqL K H a (ns.map V.int) → sp [.ref a] H (fun v _ => v = .bl true) fun _ _ _ => False) :
    codeAny (model P w) callerA (.call (.ref fa) ⟨[.ref a], []⟩) (fun r s' => r = .ok (.ret (.bool true)) ∧ OldK t.heap s'.heap ∧ s'.os = t.os ∧ AllBare s'.gens) t := by
  have rv := vals_ints hi
  have lv := hi.length
  have main : ∀ H : Hp, Only H → SqL K H a (ns.map V.int) → HOk P w H t.heap → (∀ b u, H b = some u → b = a ∧ K.lookup a = none) →
      codeAny (model P w) callerA (.call (.ref fa) ⟨[.ref a], []⟩) (fun r s' => r = .ok (.ret (.bool true)) ∧ OldK t.heap s'.heap ∧ s'.os = t.os ∧ AllBare s'.gens) t := by
    intro H hO hS hok hA
    have hid : ∀ {b : Addr} {o : Obj}, t.heap.get? b = some o → H b = none → (hidT t.heap H).get? b = some o := fun e n => hidT_get e n
    have noD : ∀ {b : Addr} {o : Obj} {es : Array DictEntry} {ep : Nat}, t.heap.get? b = some o → o.data = .dict es ep → H b = none := fun {b o es ep} e d => by
      cases z : H b with
      | none => rfl
      | some u =>
        have y := (hA b u z).1
        rw [y, ha] at e
        injection e with e
        rw [← e] at d
        cases d
    have ns1 : ∀ {b : Addr} {m : Str → Option Value}, t.heap.Ns b m → (hidT t.heap H).Ns b m := fun {b m} ⟨o, es, ep, e, d, r⟩ => ⟨o, es, ep, hid e (noD e d), d, r⟩
    have kb : K.In (hidT t.heap H) := fun b o e => hid (KX b o e) (by
      cases z : H b with
      | none => rfl
      | some u =>
        obtain ⟨y1, y2⟩ := hA b u z
        rw [y1, y2] at e
        cases e)
    obtain ⟨mc, l1, l2⟩ := g4
    have md : Mod K mg (hidT t.heap H) := ⟨kb, ns1 g1, ⟨mb, ns1 g2, g3⟩, ⟨mc, ns1 l1, l2⟩⟩
    have e0 : Env0 P w K mg (hidT t.heap H) callerA [] t H := ⟨rfl, md, fun b o e => of_hidT e, Nat.le_of_eq (hidT_size _ _), trivial, (fun b hb => nomatch hb), hok, .of_eq g5⟩
    refine codeAny_mono ((F _ kb (ns1 g1)).run callerA [] t H ⟨[.ref a], []⟩ [.ref a] [.ref a] _ _ hr rfl e0 (bd t (.ref a)) (.cons rfl .nil) (hsp H hO hS)) fun r s' h => ?_
    cases r with
    | error e => exact h.elim
    | ok fl =>
      cases fl with
      | next => exact h.elim
      | brk => exact h.elim
      | cont => exact h.elim
      | ret u =>
        obtain ⟨v, H', os, bare, un, hok', rr, z⟩ := h
        cases (show v = .bl true from z)
        cases (show u = Value.bool true from rr)
        refine ⟨rfl, OldK.of_keep fun b o e => ?_, os, bare⟩
        cases y : H b with
        | none => exact un.keep b o e y (fun c => nomatch c) (fun c => nomatch c)
        | some u =>
          rcases hO b with c | ⟨ob, xs, c⟩
          · rw [y] at c; cases c
          · obtain ⟨d1, _⟩ := hok b _ c
            obtain ⟨d2, _⟩ := hok' b _ (un.frzs b ob _ c)
            rw [e] at d1
            cases d1
            exact d2
  cases hk : K.lookup a with
  | some o =>
    have e := KX a o hk
    rw [ha] at e
    cases e
    exact main (fun _ => none) (fun _ => .inl rfl) (.inr ⟨_, vs.toArray, _, hk, rfl, rfl, rfl, by rw [List.size_toArray, lv]; exact hl, by simpa using rv⟩) (fun b u c => nomatch c) (fun b u c => nomatch c)
  | none =>
    have ev : ∀ {b : Addr} {u : HO}, (if b = a then some (HO.frz { cls := .type "list", data := .seq vs.toArray } (.lst (ns.map V.int))) else none) = some u → b = a ∧ u = HO.frz { cls := .type "list", data := .seq vs.toArray } (.lst (ns.map V.int)) := fun {b u} c => by
      split at c
      · cases c; exact ⟨by assumption, rfl⟩
      · cases c
    refine main (fun b => if b = a then some (.frz { cls := .type "list", data := .seq vs.toArray } (.lst (ns.map V.int))) else none) (fun b => ?_) (.inl (.inr ⟨_, if_pos rfl⟩)) (fun b u c => ?_) fun b u c => ⟨(ev c).1, hk⟩
    · by_cases hb : b = a
      · exact .inr ⟨_, _, if_pos hb⟩
      · exact .inl (if_neg hb)
    · obtain ⟨rfl, rfl⟩ := ev c
      exact ⟨ha, by rw [List.length_map]; exact hl, vs, _, rv, ha⟩
end
theorem walk_G {l : PySem.W.OpenLaw} {n k : Nat} {q : Program} {loose : List Str} {XP : (Str → Option Value) → Heap → Prop} {YP : World → Heap → Prop} {d : DefRec} {K : Params → PySem.W.Frag} {sp : World → Sp} {x : Str}
    (hn : l.most = some n) (hn2 : n ≤ sizeLine) (hdf : d.params.defaults = []) (hr : Room k callerA) (hY : ∀ (w : World) (h : Heap), YP w h → (K w.params).In h)
    (F : ∀ (w : World) (mg : Str → Option Value) (fa : Addr) (h : Heap), (K w.params).In h → h.Ns mainGlobals mg → mg d.name = some (.ref fa) →
      ∃ fd : FuncData, (∀ (s : Shared) (u : Value), BindsTo s fd ⟨[u], []⟩ [(x, u)]) ∧ ∀ base : Heap, (K w.params).In base → base.Ns mainGlobals mg → FnG l.prog w (K w.params) mg base k fa fd [x] (sp w))
    (hsp : ∀ (w : World) (H : Hp) (a : Addr) (ns : List Int), ns.length ≤ n → Only H → SqL (K w.params) H a (ns.map V.int) → sp w [.ref a] H (fun v _ => v = .bl true) fun _ _ _ => False) :
    PySem.W.WalkO q loose XP YP l.row.toRowW d [] (fun f vs => PySem.call f vs) := by
  refine Att.attach_call hn hdf fun w t0 t mg mb fa o pm cd doc a vs ns G Y ho hd hcd hmg hobj hints hlen hg => ?_
  have KX := hY w _ Y
  obtain ⟨fd, hb, hF⟩ := F w mg fa _ KX G.T.g hmg
  exact law_runG KX G.T.g G.T.b G.T.builtins G.T.nolimit hg hobj hints (Nat.le_trans hlen hn2) hr hF hb fun H hO hS => hsp w H a ns hlen hO hS
/-! ### repr of lists and tuples -/
section
variable {X : Cx} {K : PySem.W.Frag}
def isSq : D → Bool
  | .list _ => true
  | .tuple _ => true
  | _ => false
def rRepr (K : PySem.W.Frag) : List V → Hp → VK → Prop := fun xs H Q => ∃ x d, xs = [x] ∧ Dp K H x d ∧ isSq d = true ∧ d.showable = true ∧ d.hasDict = false ∧ d.depth ≤ 30 ∧ d.shown.length ≤ sizeLine ∧ Q (.str d.shown) H
theorem cr_repr {k : Nat} (gd : X.A.guards = some []) (hr : Room k X.A) : CallR X (.builtin "repr") (rRepr X.K) := by
  intro pins s σ H xs us Q I rx h
  obtain ⟨x, d, rfl, hd, sq, sh, nod, dp, sz, z⟩ := h
  cases rx with
  | cons r rr =>
  cases rr
  obtain ⟨as, rd⟩ := Dp.reads I d x _ hd r
  have hu := hr.un
  cases hd with
  | non => cases sq
  | bl => cases sq
  | int => cases sq
  | str => cases sq
  | lst h ra =>
    cases r
    exact repr_of_reads' rd sh (PyData.noDict_hsm nod) gd (by omega) (fun b o e => e) (fun h' u tk hk => ⟨.str _, H, I.kept (t' := tk) hk, ⟨_, rfl⟩, z⟩) sz
  | tup h ra =>
    cases r
    exact repr_of_reads' rd sh (PyData.noDict_hsm nod) gd (by omega) (fun b o e => e) (fun h' u tk hk => ⟨.str _, H, I.kept (t' := tk) hk, ⟨_, rfl⟩, z⟩) sz
def reprD : List D → Option D
  | [d] => if isSq d = true ∧ d.showable = true ∧ d.hasDict = false ∧ d.depth ≤ 30 ∧ d.shown.length ≤ sizeLine then some (.str d.shown) else none
  | _ => none
mutual
theorem noD_hd : ∀ d : D, d.hasDict = false → noD d = true
  | .none, _ => by simp [noD]
  | .bool _, _ => by simp [noD]
  | .int _, _ => by simp [noD]
  | .str _, _ => by simp [noD]
  | .list xs, h => by
    simp only [noD]
    exact noDs_hd xs (by simpa [PyData.hasDict] using h)
  | .tuple xs, h => by
    simp only [noD]
    exact noDs_hd xs (by simpa [PyData.hasDict] using h)
  | .dict _, h => by simp [PyData.hasDict] at h
theorem noDs_hd : ∀ xs : List D, PyData.hasDictAll xs = false → noDs xs = true
  | [], _ => by simp [noDs]
  | x :: xs, h => by
    have h' : x.hasDict = false ∧ PyData.hasDictAll xs = false := by simpa [PyData.hasDictAll] using h
    simp only [noDs, noD_hd x h'.1, noDs_hd xs h'.2, Bool.and_self]
end
theorem sn_repr : SnA K (rRepr K) reprD := fun b0 B Z0 Z H σ ρ xs as c Q ok ha e q => by
  unfold reprD at e
  split at e
  · split at e
    · rename_i hc
      obtain ⟨h1, h2, h3, h4, h5⟩ := hc
      cases e
      cases ha with
      | cons h h' =>
      cases h'
      exact ⟨_, _, rfl, (bd_rp ok.zh h).dp (noD_hd _ h3), h1, h2, h3, h4, h5, q _ H Z ok (Same.refl Z) (.str _)⟩
    · cases e
  · cases e
/-! ### list(range(..)), tuple(range(..)) -/
def rg2 (a b : D) : Option (List D) := match a, b with
  | .int i, .int j => if -(2 ^ 62) ≤ i ∧ i < 2 ^ 62 ∧ -(2 ^ 62) ≤ j ∧ j < 2 ^ 62 ∧ (j - i).toNat ≤ 2 ^ 24 then some (rangeD i (j - i).toNat) else none
  | _, _ => none
def eRg2 (a b : GE) (ρ : Rho) : R (List D) := (a ρ).bind fun x ρ1 => (b ρ1).bind fun y ρ2 => R.lift (rg2 x y) ρ2
def eRg1 (a : GE) (ρ : Rho) : R (List D) := (a ρ).bind fun x ρ1 => R.lift (rg2 (.int 0) x) ρ1
theorem rgV_rp {Z : Hp} (i j : Int) : RpA K Z (rgV i j) (rangeD i (j - i).toNat) := by
  unfold rgV rangeD
  generalize List.range (j - i).toNat = l
  induction l with
  | nil => exact .nil
  | cons n r ih => exact .cons (.int _) ih
theorem rg2_ok {x y : D} {ds : List D} (h : rg2 x y = some ds) : ∃ i j, x = .int i ∧ y = .int j ∧ RgOk i j ∧ ds = rangeD i (j - i).toNat := by
  unfold rg2 at h
  split at h
  · split at h
    · cases h; exact ⟨_, _, rfl, rfl, by assumption, rfl⟩
    · cases h
  · cases h
variable {ta tb : TE}
theorem df_listRg2 {a b : GE} (ha : DE K ta a) (hb : DE K tb b) : DF K (tLstRg (tRg2 ta tb)) (eRg2 a b) := fun b0 B Z0 Z H σ ρ d ρ' Q ok e q => by
  obtain ⟨x, ρ1, e1, e⟩ := R.bind_ok e
  obtain ⟨y, ρ2, e2, e⟩ := R.bind_ok e
  obtain ⟨e3, rfl⟩ := R.lift_ok e
  obtain ⟨i, j, rfl, rfl, ro, rfl⟩ := rg2_ok e3
  refine ha b0 B Z0 Z H σ ρ _ ρ1 _ ok e1 fun v H1 Z1 ok1 s1 r1 => ?_
  refine hb b0 B Z0 Z1 H1 σ ρ1 _ ρ2 _ ok1 e2 fun u H2 Z2 ok2 s2 r2 => ?_
  cases r1; cases r2
  refine ⟨i, j, rfl, rfl, ro, fun p hp => ?_⟩
  obtain ⟨ok3, zp, bp, ap⟩ := ok2.fresh (o := .lst (rgV i j)) hp
  exact q p _ _ Z2 ok3 (s1.trans s2) zp bp ap upd_same (rgV_rp i j)
theorem df_listRg1 {a : GE} (ha : DE K ta a) : DF K (tLstRg (tRg1 ta)) (eRg1 a) := fun b0 B Z0 Z H σ ρ d ρ' Q ok e q => by
  obtain ⟨x, ρ1, e1, e⟩ := R.bind_ok e
  obtain ⟨e3, rfl⟩ := R.lift_ok e
  obtain ⟨i, j, e4, rfl, ro, rfl⟩ := rg2_ok e3
  cases e4
  refine ha b0 B Z0 Z H σ ρ _ ρ1 _ ok e1 fun v H1 Z1 ok1 s1 r1 => ?_
  cases r1
  refine ⟨j, rfl, ro, fun p hp => ?_⟩
  obtain ⟨ok3, zp, bp, ap⟩ := ok1.fresh (o := .lst (rgV 0 j)) hp
  exact q p _ _ Z1 ok3 s1 zp bp ap upd_same (rgV_rp 0 j)
theorem de_tupRg2 {a b : GE} (ha : DE K ta a) (hb : DE K tb b) : DE K (tTupRg (tRg2 ta tb)) (eT (eRg2 a b)) := fun b0 B Z0 Z H σ ρ d ρ' Q ok e q => by
  obtain ⟨ds, e0, rfl⟩ := R.map_ok e
  obtain ⟨x, ρ1, e1, e⟩ := R.bind_ok e0
  obtain ⟨y, ρ2, e2, e⟩ := R.bind_ok e
  obtain ⟨e3, rfl⟩ := R.lift_ok e
  obtain ⟨i, j, rfl, rfl, ro, rfl⟩ := rg2_ok e3
  refine ha b0 B Z0 Z H σ ρ _ ρ1 _ ok e1 fun v H1 Z1 ok1 s1 r1 => ?_
  refine hb b0 B Z0 Z1 H1 σ ρ1 _ ρ2 _ ok1 e2 fun u H2 Z2 ok2 s2 r2 => ?_
  cases r1; cases r2
  refine ⟨i, j, rfl, rfl, ro, fun p hp => ?_⟩
  obtain ⟨ok3, s3⟩ := ok2.new (o := .tup (rgV i j)) hp
  exact q _ _ _ ok3 ((s1.trans s2).trans s3) (.tup (.inl (.inl upd_same)) ((rgV_rp i j).mono s3))
end
end DL

namespace DL
open PySem PySem.Spec PyProof.Rows L2
open AutoSeq1 (wpAny_loadPart')
/-! ### a tuple times 0 or 1 -/
theorem tup_mul1 (l : Addr) (its : Array Value) (n : Nat) (dd : Option Addr) (sl : Array (Option Value)) (u : Tok) :
    Meets (Builtin.«tuple.__mul__» ⟨[.ref l, .int 1 u], []⟩) (fun _ R s => s.heap.get? l = some { cls := .type "tuple", dict := dd, data := .seq its n, slots := sl } ∧ R (.ok (.ret (Value.ref l))) s) :=
  .of_wp fun prog w A R s h => by
    obtain ⟨hp, g, d, tk, os⟩ := s
    obtain ⟨hl, h⟩ := h
    have f1 := AutoSeq1.idx_int
    have c : (its.isEmpty || (1 : Int) == 1) = true := by cases its.isEmpty <;> rfl
    wp_walk using wpAny_loadPart' hl
    exact ⟨_, rfl, h⟩
theorem tup_mul0 (l : Addr) (its : Array Value) (n : Nat) (dd : Option Addr) (sl : Array (Option Value)) (u : Tok) (c : its.isEmpty = false) :
    Meets (Builtin.«tuple.__mul__» ⟨[.ref l, .int 0 u], []⟩) (fun _ R s => s.heap.get? l = some { cls := .type "tuple", dict := dd, data := .seq its n, slots := sl } ∧ R (.ok (.ret (Value.ref s.heap.objs.size))) { s with heap := s.heap.push { cls := Value.type "tuple", data := Data.seq #[] } }) :=
  .of_wp fun prog w A R s h => by
    obtain ⟨hp, g, d, tk, os⟩ := s
    obtain ⟨hl, h⟩ := h
    have f1 := AutoSeq1.idx_int
    have c1 : (its.isEmpty || (0 : Int) == 1) = false := by rw [c]; rfl
    have c2 : (decide ((0 : Int) ≤ 0) || its.isEmpty) = true := rfl
    wp_walk using wpAny_loadPart' hl
    exact ⟨_, rfl, h⟩
section
variable {X : Cx} {K : PySem.W.Frag}
def rRepT01 (K : PySem.W.Frag) : R2 := fun x y H Q => ∃ l k xs, x = .ref l ∧ y = .int k ∧ SqT K H l xs ∧ xs ≠ [] ∧ ((k = 0 ∧ ∀ p, H p = none → Q (.ref p) (upd H p (.tup []))) ∨ (k = 1 ∧ Q (.ref l) H))
theorem op_repT01 : OpR X (binaryOp .Mult) (rRepT01 X.K) := by
  intro pins s σ H x y v u Q I rx ry h
  obtain ⟨l, k, xs, rfl, rfl, hT, hne, h⟩ := h
  cases rx
  obtain ⟨t, rfl⟩ := ry
  obtain ⟨its, r, ⟨⟨cls, dd, data, sl⟩, ho, hc, n, hd⟩, hs⟩ := I.tuple hT
  simp only at hc hd
  subst hc hd
  have hi : its.toArray.isEmpty = false := by
    cases its with
    | nil => exact absurd (List.eq_nil_of_length_eq_zero (by rw [r.length]; rfl)) hne
    | cons a b => rfl
  refine wpAny_binaryOp_repeat_ref (T := "tuple") (U := "int") (by decide) ⟨_, ho, rfl⟩ (fun s' => typeIs_int s' k t) noFill_tuple_mul F.fills_int_mul F.slot_int_rmul repeat_tuple F.slot_int_index.lookup ?_
  refine call_meets F.slot_int_rmul (typeIs_int s k t) F.entry_int_rmul (F.args_int_rmul_2 _ _) (int_rmul_tuple k t l its.toArray n dd sl) ⟨ho, rfl, ⟨_, ho, rfl⟩, ?_⟩
  rcases h with ⟨rfl, q⟩ | ⟨rfl, q⟩
  · refine call_meets F.slot_tuple_mul ⟨_, ho, rfl⟩ F.entry_tuple_mul (F.args_tuple_mul_2 _ _) (tup_mul0 l its.toArray n dd sl t hi) ⟨ho, ?_⟩
    exact ⟨.ref s.heap.objs.size, _, I.laid (t' := s.toks) (o := .tup []) (fun b ob q => Heap.get?_push_of_some _ q) (Nat.le_refl _) ⟨Nat.zero_le _, [], .nil, IsTup.new _ _⟩, rfl, q _ (I.hok.fresh (Nat.le_refl _))⟩
  · refine call_meets F.slot_tuple_mul ⟨_, ho, rfl⟩ F.entry_tuple_mul (F.args_tuple_mul_2 _ _) (tup_mul1 l its.toArray n dd sl t) ⟨ho, ?_⟩
    exact ⟨.ref l, H, I, rfl, q⟩
/-- * : ints, a list or a tuple times an int -/
def rMulT (K : PySem.W.Frag) : R2 := fun x y H Q => rMulU x y H Q ∨ rRepT K x y H Q ∨ rRepT01 K x y H Q
theorem op_mulT : OpR X (binaryOp .Mult) (rMulT X.K) := opr_or op_mulU (opr_or op_repT op_repT01)
def repT : D → D → Option D
  | .tuple xs, .int k => if 0 ≤ k ∧ k ≤ 1000 ∧ xs.length ≤ 1000 ∧ xs ≠ [] then some (.tuple (List.replicate k.toNat xs).flatten) else none
  | _, _ => none
theorem sn_repT : Sn2 K (rMulT K) repT := fun b0 B Z0 Z H σ ρ x y a b c Q ok ha hb e q => by
  unfold repT at e
  split at e
  · split at e
    · rename_i hl
      obtain ⟨h0, h1, h2, h3⟩ := hl
      cases e
      cases hb
      cases ha with
      | tup hs ra =>
      have hne : ∀ {vs : List V} {ds : List D}, RpA K Z vs ds → ds ≠ [] → vs ≠ [] := fun r n z => by
        subst z
        cases r
        exact n rfl
      rename_i k _ _
      by_cases k0 : k = 0
      · subst k0
        refine .inr (.inr ⟨_, _, _, rfl, rfl, same_t ok.zh hs, hne ra h3, .inl ⟨rfl, fun p hp => ?_⟩⟩)
        obtain ⟨ok2, s2⟩ := ok.new (o := .tup []) hp
        exact q _ _ _ ok2 s2 (.tup (.inl (.inl upd_same)) .nil)
      · by_cases k1 : k = 1
        · subst k1
          refine .inr (.inr ⟨_, _, _, rfl, rfl, same_t ok.zh hs, hne ra h3, .inr ⟨rfl, q _ H Z ok (Same.refl Z) ?_⟩⟩)
          have := flat_rep ra 1
          rw [show (List.replicate 1 _).flatten = _ from List.append_nil _] at this
          exact .tup hs this
        · refine .inr (.inl ⟨_, _, _, rfl, rfl, same_t ok.zh hs, hne ra h3, by omega, h1, by rw [ra.length]; exact h2, fun p hp => ?_⟩)
          obtain ⟨ok2, s2⟩ := ok.new (o := .tup _) hp
          exact q _ _ _ ok2 s2 (.tup (.inl (.inl upd_same)) ((flat_rep ra _).mono s2))
    · cases e
  · cases e
def mulV (a b : D) : Option D := (mulU a b).orElse fun _ => repT a b
theorem sn_mulV : Sn2 K (rMulT K) mulV := sn2_or (sn2_mono sn_mulU fun _ _ _ _ h => .inl h) sn_repT
theorem sn_repLT : Sn2F K (rMulT K) repL := fun b0 B Z0 Z H σ ρ x y a b c Q ok ha hb e q => .inl (sn_repL b0 B Z0 Z H σ ρ x y a b c Q ok ha hb e q)
variable {te : TE} {tas : TA}
/-! ### a call whose changed list is new and goes away -/
def eCallBX (F : List D → List D → Option (D × List D)) (g0 : GF) (ga : GA) (ρ : Rho) : R D := (g0 ρ).bind fun box ρ1 => (ga ρ1).bind fun os ρ2 => match valA os with
  | some ds => (match F box ds with
    | some (d, _) => .ok d ρ2
    | none => .bad)
  | none => .bad
theorem de_callBX {np : Nat} {F : List D → List D → Option (D × List D)} {g0 : GF} {ga : GA} {E : XK} (hF0 : ∀ b ds d, F b ds = some d → ds.length + 1 = np) (h0 : DF K te g0) (ha : DA K tas ga) : DE K (tCall (spB K np F) [] E (tCons te tas)) (eCallBX F g0 ga) := fun b0 B Z0 Z H σ ρ d ρ' Q ok e q => by
  obtain ⟨box, ρ1, e1, e⟩ := R.bind_ok e
  obtain ⟨os, ρ2, e2, e⟩ := R.bind_ok e
  split at e
  · rename_i ds hv
    split at e
    · rename_i d' box' hF
      cases e
      refine h0 b0 B Z0 Z H σ ρ box ρ1 _ ok e1 fun p vb H1 Z1 ok1 s1 zp bp ap hp rb => ?_
      refine ha b0 (upd B p (.lst vb)) Z0 Z1 H1 σ ρ1 os ρ' _ (ok1.frame zp ap hp) e2 fun vs H2 Z2 ok2 s2 r2 => ?_
      obtain ⟨ok3, zp3, ap3, hp3⟩ := ok2.unframe (ok1.zz.free zp) bp
      have rA := valA_ok r2 hv
      refine ⟨by rw [List.append_nil, List.length_cons, rA.length]; exact hF0 _ _ _ hF, Z2, p, vb, box, vs, ds, d, box', by rw [List.append_nil], ok3.zh, zp3, hp3, rb.mono s2, rA, hF, fun v H' Z' vb' hh g zb hb' rb' r => ?_⟩
      refine q v H' Z' ⟨ok3.len, fun c o e => hh c o (ne_of_none e bp) (ok3.bh c o e), g.2.1, ok3.zz.trans g.1, fun c o e => ?_, fun i d e => ?_, fun i es e eo => ?_, ok3.fix, ok3.sepS⟩ ((s1.trans s2).trans g.1) r
      · rcases g.2.2 c o e with z | z
        · exact ok3.nb c o z
        · exact .inr (ok3.bh.free z)
      · obtain ⟨w, z1, z2⟩ := ok3.sh i d e
        exact ⟨w, z1, z2.mono g.1⟩
      · obtain ⟨c, ws, z1, z2, z3, z4, z5⟩ := ok3.own i es e eo
        have nc : c ≠ p := fun z => ap3 i es e eo (by rw [z1, z])
        refine ⟨c, ws, z1, ?_, z3, hh _ _ nc z4, z5.mono g.1⟩
        cases y : Z' c with
        | none => rfl
        | some o =>
          rcases g.2.2 c o y with z | z
          · rw [z2] at z; cases z
          · rw [z4] at z; cases z
    · cases e
  · cases e
end
end DL

namespace DL
open PySem L2
/-! ### data's operators on ints -/
theorem addU_int (i j : Int) : addU (.int i) (.int j) = some (.int (i + j)) := rfl
theorem subD_int (i j : Int) : subD (.int i) (.int j) = some (.int (i - j)) := rfl
theorem mulD_of {i j : Int} (h : CMulU i j) : mulV (.int i) (.int j) = some (.int (i * j)) := by
  have e : mulD (.int i) (.int j) = some (.int (i * j)) := if_pos h
  unfold mulV mulU
  rw [e]; rfl
theorem cmul_l {i j : Int} (h : -(2 ^ 64) < i ∧ i < 2 ^ 64) : mulV (.int i) (.int j) = some (.int (i * j)) := mulD_of (.inl (.inl h))
theorem cmul_r {i j : Int} (h : -(2 ^ 64) < j ∧ j < 2 ^ 64) : mulV (.int i) (.int j) = some (.int (i * j)) := mulD_of (.inl (.inr h))
theorem cmul_w {i j : Int} (hi : i.natAbs < 2 ^ 400) (hj : j.natAbs < 2 ^ 400) : mulV (.int i) (.int j) = some (.int (i * j)) := mulD_of (.inr (wide_mul hi hj (by decide) (by decide) (by decide)))
theorem modD_int {i j : Int} (h : 0 < j) : modD (.int i) (.int j) = some (.int (i % j)) := if_pos h
theorem fdivD_int {i j : Int} (h : 0 < j) (h2 : j < 2 ^ 300) : fdivD (.int i) (.int j) = some (.int (i / j)) := by
  have q : j.natAbs.log2 < 9000 := by
    have : j.natAbs < 2 ^ 300 := by omega
    have h0 : j.natAbs ≠ 0 := by omega
    exact Nat.lt_of_lt_of_le ((Nat.log2_lt h0).mpr this) (by decide)
  exact if_pos ⟨h, q⟩
theorem powD_int {i j : Int} (h0 : 0 ≤ j) (h1 : j ≤ 1000000) (h : i.natAbs < 2 ^ 64) : powD (.int i) (.int j) = some (.int (i ^ j.toNat)) := if_pos ⟨h0, h1, h⟩
theorem ltD_int (i j : Int) : ltD (.int i) (.int j) = some (.bool (decide (i < j))) := rfl
theorem leD_int (i j : Int) : leD (.int i) (.int j) = some (.bool (decide (i ≤ j))) := rfl
theorem gtD_int (i j : Int) : gtD (.int i) (.int j) = some (.bool (decide (j < i))) := rfl
theorem geD_int (i j : Int) : geD (.int i) (.int j) = some (.bool (decide (j ≤ i))) := rfl
theorem negD_int (i : Int) : negD (.int i) = some (.int (-i)) := rfl
theorem absD_int (i : Int) : absD [.int i] = some (.int (if i < 0 then -i else i)) := rfl
theorem intD_bool (k : Bool) : intD [.bool k] = some (.int (if k then 1 else 0)) := rfl
theorem intD_int (i : Int) : intD [.int i] = some (.int i) := rfl
theorem lenD_list (xs : List D) : lenD [.list xs] = some (.int xs.length) := rfl
theorem lenD_tuple (xs : List D) : lenD [.tuple xs] = some (.int xs.length) := rfl
theorem lenD_scr (xs : List D) : lenD [.dict [(.list xs, .none)]] = some (.int xs.length) := rfl
theorem pow10_7 : powD (.int 10) (.int 7) = some (.int 10000000) := rfl
theorem pow10_18 : powD (.int 10) (.int 18) = some (.int 1000000000000000000) := rfl
theorem pow10_40 : powD (.int 10) (.int 40) = some (.int 10000000000000000000000000000000000000000) := rfl
theorem isD_none (d : D) : isD d .none = some (.bool (isNoneD d)) := by cases d <;> rfl
theorem isNotD_none (d : D) : isNotD d .none = some (.bool (!isNoneD d)) := by cases d <;> rfl
/-! shaped data -/
theorem shaped_int (i : Int) : SeqAt.shaped (.int i) = true := rfl
theorem shaped_bool (b : Bool) : SeqAt.shaped (.bool b) = true := rfl
theorem shaped_none : SeqAt.shaped .none = true := rfl
theorem eqv_int (i j : Int) : PyData.eqv (.int i) (.int j) = decide (i = j) := by
  unfold PyData.eqv
  by_cases h : i = j
  · rw [decide_eq_true h, h]; exact beq_self_eq_true j
  · rw [decide_eq_false h]; exact beq_eq_false_iff_ne.mpr h
theorem eqv_bool (i j : Bool) : PyData.eqv (.bool i) (.bool j) = decide (i = j) := by
  unfold PyData.eqv
  cases i <;> cases j <;> rfl
theorem eqv_none : PyData.eqv .none .none = true := by unfold PyData.eqv; rfl
theorem eqD_ints (i j : Int) : eqD (.int i) (.int j) = some (.bool (decide (i = j))) := by
  rw [← eqv_int]; exact if_pos ⟨shaped_int i, shaped_int j⟩
theorem neD_ints (i j : Int) : neD (.int i) (.int j) = some (.bool (!decide (i = j))) := by
  rw [← eqv_int]; exact if_pos ⟨shaped_int i, shaped_int j⟩
theorem eqD_bools (i j : Bool) : eqD (.bool i) (.bool j) = some (.bool (decide (i = j))) := by
  rw [← eqv_bool]; exact if_pos ⟨shaped_bool i, shaped_bool j⟩
theorem neD_bools (i j : Bool) : neD (.bool i) (.bool j) = some (.bool (!decide (i = j))) := by
  rw [← eqv_bool]; exact if_pos ⟨shaped_bool i, shaped_bool j⟩
theorem eqD_of {a b : D} (ha : SeqAt.shaped a = true) (hb : SeqAt.shaped b = true) : eqD a b = some (.bool (PyData.eqv a b)) := if_pos ⟨ha, hb⟩
theorem neD_of {a b : D} (ha : SeqAt.shaped a = true) (hb : SeqAt.shaped b = true) : neD a b = some (.bool (!PyData.eqv a b)) := if_pos ⟨ha, hb⟩
/-! x[i] -/
theorem atI_nat0 {α : Type} (x : α) (xs : List α) : atI (x :: xs) 0 = some x := atI_nat (j := 0) rfl
theorem ixD_list (xs : List D) (i : Int) : ixD (.list xs) (.int i) = atI xs i := by unfold ixD; rfl
theorem ixD_tuple (xs : List D) (i : Int) : ixD (.tuple xs) (.int i) = atI xs i := by unfold ixD; rfl
theorem ixD_scr (xs : List D) (i : Int) : ixD (.dict [(.list xs, .none)]) (.int i) = atI xs i := by unfold ixD; rfl
theorem atI_3_0 {α : Type} (a b c : α) : atI [a, b, c] 0 = some a := rfl
theorem atI_3_1 {α : Type} (a b c : α) : atI [a, b, c] 1 = some b := rfl
theorem atI_3_2 {α : Type} (a b c : α) : atI [a, b, c] 2 = some c := rfl
theorem ixN_3_0 : ixN 3 0 = some 0 := rfl
theorem ixN_3_1 : ixN 3 1 = some 1 := rfl
theorem ixN_3_2 : ixN 3 2 = some 2 := rfl
theorem atI_of {α : Type} {xs : List α} {i : Int} {n : Nat} {x : α} (hi : i = (n : Int)) (h : xs[n]? = some x) : atI xs i = some x := by
  subst hi
  exact atI_nat h
/-- the box: three ints -/
def GoodBox (n : Int) (box : List D) : Prop := ∃ a b c : Int, box = [.int a, .int b, .int c] ∧ 0 ≤ a ∧ 0 ≤ b ∧ b < 2 ^ 62 ∧ 0 ≤ c ∧ c ≤ n
theorem GoodBox.mono {n m : Int} {box : List D} (h : GoodBox n box) (hm : n ≤ m) : GoodBox m box := by
  obtain ⟨a, b, c, e, h1, h2, h3, h4, h5⟩ := h
  exact ⟨a, b, c, e, h1, h2, h3, h4, by omega⟩
/-! ### loops over data -/
theorem for_inv {k : GG} {b : GS} {ds : List D} (I : Nat → Rho → Prop) (step : ∀ i d ρ, ds[i]? = some d → I i ρ → ∃ ρ1, k d ρ = some ρ1 ∧ ∃ ρ2, (b ρ1 = .nx ρ2 ∨ b ρ1 = .ct ρ2) ∧ I (i + 1) ρ2) :
    ∀ {ρ : Rho}, I 0 ρ → ∃ ρ', forL k b ds ρ = .nx ρ' ∧ I ds.length ρ' := by
  have main : ∀ (es : List D) (j : Nat) (ρ : Rho), ds.drop j = es → I j ρ → ∃ ρ', forL k b es ρ = .nx ρ' ∧ I (j + es.length) ρ' := by
    intro es
    induction es with
    | nil => intro j ρ _ h; exact ⟨ρ, rfl, h⟩
    | cons d es ih =>
      intro j ρ hd h
      have hj : ds[j]? = some d := by
        have := congrArg List.head? hd
        rw [List.head?_drop] at this
        exact this
      have hd2 : ds.drop (j + 1) = es := by
        rw [← List.tail_drop, hd]; rfl
      obtain ⟨ρ1, e1, ρ2, e2, h2⟩ := step j d ρ hj h
      obtain ⟨ρ', e3, h3⟩ := ih (j + 1) ρ2 hd2 h2
      refine ⟨ρ', ?_, by rw [List.length_cons, show j + (es.length + 1) = j + 1 + es.length by omega]; exact h3⟩
      unfold forL
      rw [e1]
      rcases e2 with e2 | e2 <;> (dsimp only; rw [e2]; exact e3)
  intro ρ h
  obtain ⟨ρ', e, h'⟩ := main ds 0 ρ rfl h
  rw [Nat.zero_add] at h'
  exact ⟨ρ', e, h'⟩
theorem lc_inv {vs : List Nat} {k : GG} {t : GT} {e : GE} {ds : List D} (I : Nat → Rho → Prop) (Pd : D → D → Prop) (step : ∀ i d ρ, ds[i]? = some d → I i ρ → ∃ ρ1, k d ρ = some ρ1 ∧ ∃ ρ2, t ρ1 = .ok true ρ2 ∧ ∃ y ρ3, e ρ2 = .ok y ρ3 ∧ Pd d y ∧ I (i + 1) (wipeR ρ3 vs)) :
    ∀ {ρ : Rho}, I 0 ρ → ∃ ys ρ', lcL vs k t e ds ρ = .ok ys ρ' ∧ I ds.length ρ' ∧ Paired Pd ds ys := by
  have main : ∀ (es : List D) (j : Nat) (ρ : Rho), ds.drop j = es → I j ρ → ∃ ys ρ', lcL vs k t e es ρ = .ok ys ρ' ∧ I (j + es.length) ρ' ∧ Paired Pd es ys := by
    intro es
    induction es with
    | nil => intro j ρ _ h; exact ⟨[], ρ, rfl, h, .nil⟩
    | cons d es ih =>
      intro j ρ hd h
      have hj : ds[j]? = some d := by
        have := congrArg List.head? hd
        rw [List.head?_drop] at this
        exact this
      have hd2 : ds.drop (j + 1) = es := by
        rw [← List.tail_drop, hd]; rfl
      obtain ⟨ρ1, e1, ρ2, e2, y, ρ3, e3, py, h3⟩ := step j d ρ hj h
      obtain ⟨ys, ρ', e4, h4, pp⟩ := ih (j + 1) _ hd2 h3
      refine ⟨y :: ys, ρ', ?_, by rw [List.length_cons, show j + (es.length + 1) = j + 1 + es.length by omega]; exact h4, .cons py pp⟩
      unfold lcL
      rw [e1]
      dsimp only
      rw [e2, R.ok_bind, if_pos rfl, e3, R.ok_bind, e4]
      rfl
  intro ρ h
  obtain ⟨ys, ρ', e, h', pp⟩ := main ds 0 ρ rfl h
  rw [Nat.zero_add] at h'
  exact ⟨ys, ρ', e, h', pp⟩
/-- a comprehension whose turns leave the environment as it is -/
theorem lc_fm {vs : List Nat} {k : GG} {t : GT} {e : GE} {ρ : Rho} (f : D → Option D) : ∀ {ds : List D}, (∀ d ∈ ds, ∃ ρ1, k d ρ = some ρ1 ∧ wipeR ρ1 vs = ρ ∧ ((∃ y, f d = some y ∧ t ρ1 = .ok true ρ1 ∧ e ρ1 = .ok y ρ1) ∨ (f d = none ∧ t ρ1 = .ok false ρ1))) → lcL vs k t e ds ρ = .ok (ds.filterMap f) ρ
  | [], _ => rfl
  | d :: ds, h => by
    obtain ⟨ρ1, e1, ew, h1⟩ := h d List.mem_cons_self
    have ih := lc_fm (ds := ds) f fun x hx => h x (List.mem_cons_of_mem _ hx)
    unfold lcL
    rw [e1]
    dsimp only
    rcases h1 with ⟨y, fy, et, ee⟩ | ⟨fn, et⟩
    · rw [et, R.ok_bind, if_pos rfl, ee, R.ok_bind, ew, ih, List.filterMap_cons, fy]
      rfl
    · rw [et, R.ok_bind, if_neg Bool.false_ne_true, ew, ih, List.filterMap_cons, fn]
theorem lc_map {vs : List Nat} {k : GG} {t : GT} {e : GE} {ρ : Rho} (f : D → D) {ds : List D} (h : ∀ d ∈ ds, ∃ ρ1, k d ρ = some ρ1 ∧ wipeR ρ1 vs = ρ ∧ t ρ1 = .ok true ρ1 ∧ e ρ1 = .ok (f d) ρ1) : lcL vs k t e ds ρ = .ok (ds.map f) ρ := by
  rw [lc_fm (fun d => some (f d)) fun d hd => ?_]
  · show R.ok (ds.filterMap (some ∘ f)) ρ = _
    rw [List.filterMap_eq_map]
  · obtain ⟨ρ1, e1, e2, e3, e4⟩ := h d hd
    exact ⟨ρ1, e1, e2, .inl ⟨f d, rfl, e3, e4⟩⟩
/-! ### isinstance, by the table -/
theorem kt_ll : kitB "list" "list" = some true := by decide +kernel
theorem kt_lt : kitB "list" "tuple" = some false := by decide +kernel
theorem kt_ls : kitB "list" "str" = some false := by decide +kernel
theorem kt_li : kitB "list" "int" = some false := by decide +kernel
theorem kt_lb : kitB "list" "bool" = some false := by decide +kernel
theorem kt_tl : kitB "tuple" "list" = some false := by decide +kernel
theorem kt_tt : kitB "tuple" "tuple" = some true := by decide +kernel
theorem kt_ts : kitB "tuple" "str" = some false := by decide +kernel
theorem kt_ti : kitB "tuple" "int" = some false := by decide +kernel
theorem kt_tb : kitB "tuple" "bool" = some false := by decide +kernel
theorem kt_sl : kitB "str" "list" = some false := by decide +kernel
theorem kt_st : kitB "str" "tuple" = some false := by decide +kernel
theorem kt_ss : kitB "str" "str" = some true := by decide +kernel
theorem kt_si : kitB "str" "int" = some false := by decide +kernel
theorem kt_sb : kitB "str" "bool" = some false := by decide +kernel
theorem kt_il : kitB "int" "list" = some false := by decide +kernel
theorem kt_it : kitB "int" "tuple" = some false := by decide +kernel
theorem kt_is : kitB "int" "str" = some false := by decide +kernel
theorem kt_ii : kitB "int" "int" = some true := by decide +kernel
theorem kt_ib : kitB "int" "bool" = some false := by decide +kernel
theorem kt_bl : kitB "bool" "list" = some false := by decide +kernel
theorem kt_bt : kitB "bool" "tuple" = some false := by decide +kernel
theorem kt_bs : kitB "bool" "str" = some false := by decide +kernel
theorem kt_bi : kitB "bool" "int" = some true := by decide +kernel
theorem kt_bb : kitB "bool" "bool" = some true := by decide +kernel
theorem kt_nl : kitB "NoneType" "list" = some false := by decide +kernel
theorem kt_nt : kitB "NoneType" "tuple" = some false := by decide +kernel
theorem kt_ns : kitB "NoneType" "str" = some false := by decide +kernel
theorem kt_ni : kitB "NoneType" "int" = some false := by decide +kernel
theorem kt_nb : kitB "NoneType" "bool" = some false := by decide +kernel
theorem zipD_self : ∀ xs : List D, zipD xs xs = xs.map fun x => .tuple [x, x]
  | [] => rfl
  | x :: xs => by
    show _ :: zipD xs xs = _
    rw [zipD_self xs]; rfl
end DL

namespace DL
open PySem L2
/-! ### == and != : texts too -/
section
variable {X : Cx} {K : PySem.W.Frag}
def rEqU (K : PySem.W.Frag) : R2 := fun x y H Q => rEqD K x y H Q ∨ rEq x y H Q
def rNeU (K : PySem.W.Frag) : R2 := fun x y H Q => rNeD K x y H Q ∨ rNe x y H Q
theorem op_eqU {k : Nat} (hr : Room k X.A) : OpR X (compareOp .Eq) (rEqU X.K) := opr_or (op_eqD hr.units) op_eq
theorem op_neU {k : Nat} (hr : Room k X.A) : OpR X (compareOp .NotEq) (rNeU X.K) := opr_or (op_neD hr.units) op_ne
def eqS : D → D → Option D
  | .str x, .str y => some (.bool (decide (x = y)))
  | _, _ => none
def neS : D → D → Option D
  | .str x, .str y => some (.bool (!decide (x = y)))
  | _, _ => none
def eqW (a b : D) : Option D := (eqS a b).orElse fun _ => eqD a b
def neW (a b : D) : Option D := (neS a b).orElse fun _ => neD a b
theorem str_inj (x y : Str) : decide (V.str x = V.str y) = decide (x = y) := by
  by_cases h : x = y
  · rw [decide_eq_true h, h]; exact decide_eq_true rfl
  · rw [decide_eq_false h]; exact decide_eq_false fun z => h (V.str.inj z)
theorem sn_eqS : Sn2 K (rEqU K) eqS := fun b0 B Z0 Z H σ ρ x y a b c Q ok ha hb e q => by
  unfold eqS at e
  split at e
  · cases e; cases ha; cases hb
    exact .inr ⟨rfl, by rw [str_inj]; exact q _ H Z ok (Same.refl Z) (.bl _)⟩
  · cases e
theorem sn_neS : Sn2 K (rNeU K) neS := fun b0 B Z0 Z H σ ρ x y a b c Q ok ha hb e q => by
  unfold neS at e
  split at e
  · cases e; cases ha; cases hb
    exact .inr ⟨rfl, by rw [str_inj]; exact q _ H Z ok (Same.refl Z) (.bl _)⟩
  · cases e
theorem sn_eqW : Sn2 K (rEqU K) eqW := sn2_or sn_eqS (sn2_mono sn_eq fun _ _ _ _ h => .inl h)
theorem sn_neW : Sn2 K (rNeU K) neW := sn2_or sn_neS (sn2_mono sn_ne fun _ _ _ _ h => .inl h)
theorem eqW_ints (i j : Int) : eqW (.int i) (.int j) = some (.bool (decide (i = j))) := eqD_ints i j
theorem neW_ints (i j : Int) : neW (.int i) (.int j) = some (.bool (!decide (i = j))) := neD_ints i j
theorem eqW_bools (i j : Bool) : eqW (.bool i) (.bool j) = some (.bool (decide (i = j))) := eqD_bools i j
theorem neW_bools (i j : Bool) : neW (.bool i) (.bool j) = some (.bool (!decide (i = j))) := neD_bools i j
theorem eqW_strs (x y : Str) : eqW (.str x) (.str y) = some (.bool (decide (x = y))) := rfl
theorem neW_strs (x y : Str) : neW (.str x) (.str y) = some (.bool (!decide (x = y))) := rfl
theorem eqW_none : eqW .none .none = some (.bool true) := by
  show eqD .none .none = _
  rw [eqD_of rfl rfl, eqv_none]
theorem eqW_in (i : Int) : eqW .none (.int i) = some (.bool false) := by
  show eqD .none (.int i) = _
  rw [eqD_of rfl rfl]; unfold PyData.eqv; rfl
theorem eqW_ni (i : Int) : eqW (.int i) .none = some (.bool false) := by
  show eqD (.int i) .none = _
  rw [eqD_of rfl rfl]; unfold PyData.eqv; rfl
theorem eqW_tt {xs ys : List D} (h1 : SeqAt.shaped (.tuple xs) = true) (h2 : SeqAt.shaped (.tuple ys) = true) : eqW (.tuple xs) (.tuple ys) = some (.bool (PyData.eqv (.tuple xs) (.tuple ys))) := eqD_of h1 h2
theorem neW_tt {xs ys : List D} (h1 : SeqAt.shaped (.tuple xs) = true) (h2 : SeqAt.shaped (.tuple ys) = true) : neW (.tuple xs) (.tuple ys) = some (.bool (!PyData.eqv (.tuple xs) (.tuple ys))) := neD_of h1 h2
theorem eqW_ll {xs ys : List D} (h1 : SeqAt.shaped (.list xs) = true) (h2 : SeqAt.shaped (.list ys) = true) : eqW (.list xs) (.list ys) = some (.bool (PyData.eqv (.list xs) (.list ys))) := eqD_of h1 h2
theorem neW_ll {xs ys : List D} (h1 : SeqAt.shaped (.list xs) = true) (h2 : SeqAt.shaped (.list ys) = true) : neW (.list xs) (.list ys) = some (.bool (!PyData.eqv (.list xs) (.list ys))) := neD_of h1 h2
end
/-! ### rows of ints are shaped; when they are equal -/
theorem canLay_ints : ∀ ns : List Int, PyData.canLayAll0 (ns.map PyData.int) = true
  | [] => by simp [PyData.canLayAll0]
  | n :: r => by simp [PyData.canLayAll0, PyData.canLay0, canLay_ints r]
theorem depth_ints : ∀ ns : List Int, PyData.depthAll (ns.map PyData.int) = 0
  | [] => by simp [PyData.depthAll]
  | n :: r => by simp [PyData.depthAll, PyData.depth, depth_ints r]
theorem shaped_li (ns : List Int) : SeqAt.shaped (.list (ns.map PyData.int)) = true := by
  unfold SeqAt.shaped
  simp [PyData.canLay0, canLay_ints, PyData.depth, depth_ints]
theorem shaped_ti (ns : List Int) : SeqAt.shaped (.tuple (ns.map PyData.int)) = true := by
  unfold SeqAt.shaped
  simp [PyData.canLay0, canLay_ints, PyData.depth, depth_ints]
theorem eqvAll_ints : ∀ ns ms : List Int, PyData.eqvAll (ns.map PyData.int) (ms.map PyData.int) = decide (ns = ms)
  | [], [] => by simp [PyData.eqvAll]
  | [], m :: ms => by simp [PyData.eqvAll]
  | n :: ns, [] => by simp [PyData.eqvAll]
  | n :: ns, m :: ms => by
    simp only [List.map_cons, PyData.eqvAll, eqv_int, eqvAll_ints ns ms, List.cons.injEq, Bool.decide_and]
theorem eqv_li (ns ms : List Int) : PyData.eqv (.list (ns.map PyData.int)) (.list (ms.map PyData.int)) = decide (ns = ms) := by
  rw [← eqvAll_ints]; simp [PyData.eqv]
theorem eqv_ti (ns ms : List Int) : PyData.eqv (.tuple (ns.map PyData.int)) (.tuple (ms.map PyData.int)) = decide (ns = ms) := by
  rw [← eqvAll_ints]; simp [PyData.eqv]
theorem eqW_ti (ns ms : List Int) : eqW (.tuple (ns.map PyData.int)) (.tuple (ms.map PyData.int)) = some (.bool (decide (ns = ms))) := by rw [eqW_tt (shaped_ti _) (shaped_ti _), eqv_ti]
theorem neW_ti (ns ms : List Int) : neW (.tuple (ns.map PyData.int)) (.tuple (ms.map PyData.int)) = some (.bool (!decide (ns = ms))) := by rw [neW_tt (shaped_ti _) (shaped_ti _), eqv_ti]
theorem eqW_li (ns ms : List Int) : eqW (.list (ns.map PyData.int)) (.list (ms.map PyData.int)) = some (.bool (decide (ns = ms))) := by rw [eqW_ll (shaped_li _) (shaped_li _), eqv_li]
theorem neW_li (ns ms : List Int) : neW (.list (ns.map PyData.int)) (.list (ms.map PyData.int)) = some (.bool (!decide (ns = ms))) := by rw [neW_ll (shaped_li _) (shaped_li _), eqv_li]
/-! ### repr fits -/
structure Shw (h L : Nat) (d : D) : Prop where
  sh : d.showable = true
  nd : d.hasDict = false
  dp : d.depth ≤ h
  ln : d.shown.length ≤ L
theorem Shw.mono {h h' L L' : Nat} {d : D} (s : Shw h L d) (a : h ≤ h') (b : L ≤ L') : Shw h' L' d := ⟨s.sh, s.nd, Nat.le_trans s.dp a, Nat.le_trans s.ln b⟩
theorem shw_int {i : Int} (h : i.natAbs < 10 ^ 60) : Shw 0 61 (.int i) := by
  refine ⟨?_, by simp [PyData.hasDict], by simp [PyData.depth], ?_⟩
  · simp only [PyData.showable, decide_eq_true_eq]
    by_cases h0 : i.natAbs = 0
    · rw [h0]; decide
    · exact Nat.lt_of_lt_of_le ((Nat.log2_lt h0).mpr (Nat.lt_of_lt_of_le h (by decide : 10 ^ 60 ≤ 2 ^ 200))) (by decide)
  · have := int_text_length_le10 (k := 60) (by decide) h
    have e : PyData.shown (.int i) = Str.ofString (toString i) := by simp only [PyData.shown]
    rw [e, ofString_length]
    exact this
theorem shw_none : Shw 0 61 .none := ⟨by simp [PyData.showable], by simp [PyData.hasDict], by simp [PyData.depth], by simp only [PyData.shown]; decide⟩
theorem textFrom_le : ∀ (ts : List Str) (L k : Nat) (acc : Str), (∀ t ∈ ts, t.length ≤ L) → (textFrom k acc ts).length ≤ acc.length + ts.length * (L + 2)
  | [], L, k, acc, _ => by show acc.length ≤ _; simp
  | t :: r, L, k, acc, h => by
    have ih := textFrom_le r L (k + 1) (acc ++ (if k > 0 then ", " else "" : String) ++ t) fun x hx => h x (List.mem_cons_of_mem _ hx)
    have ht := h t List.mem_cons_self
    have e : (acc ++ (if k > 0 then ", " else "" : String) ++ t : Str).length ≤ acc.length + 2 + L := by
      rw [Str.length_append, Str.length_append]
      have : (Str.ofString (if k > 0 then ", " else "")).length ≤ 2 := by split <;> decide
      omega
    show (textFrom (k + 1) _ r).length ≤ _
    rw [List.length_cons, Nat.succ_mul]
    omega
theorem shownAll_le : ∀ {xs : List D} {h L : Nat}, (∀ x ∈ xs, Shw h L x) → (∀ t ∈ PyData.shownAll xs, t.length ≤ L) ∧ (PyData.shownAll xs).length = xs.length ∧ PyData.showableAll xs = true ∧ PyData.hasDictAll xs = false ∧ PyData.depthAll xs ≤ h
  | [], h, L, _ => by simp [PyData.shownAll, PyData.showableAll, PyData.hasDictAll, PyData.depthAll]
  | x :: xs, h, L, hx => by
    obtain ⟨a, b, c, d, e⟩ := shownAll_le (xs := xs) fun y hy => hx y (List.mem_cons_of_mem _ hy)
    have q := hx x List.mem_cons_self
    have q1 := q.ln
    have q2 := q.dp
    refine ⟨?_, ?_, ?_, ?_, ?_⟩
    · intro t ht
      simp only [PyData.shownAll, List.mem_cons] at ht
      rcases ht with rfl | ht
      · exact q1
      · exact a t ht
    · simp [PyData.shownAll, b]
    · simp [PyData.showableAll, q.sh, c]
    · simp [PyData.hasDictAll, q.nd, d]
    · simp only [PyData.depthAll]; omega
theorem shw_list {xs : List D} {h L : Nat} (hx : ∀ x ∈ xs, Shw h L x) : Shw (h + 1) (2 + xs.length * (L + 2)) (.list xs) := by
  obtain ⟨a, b, c, d, e⟩ := shownAll_le hx
  refine ⟨by simpa [PyData.showable] using c, by simpa [PyData.hasDict] using d, by simp only [PyData.depth]; omega, ?_⟩
  simp only [PyData.shown, listText]
  have := textFrom_le (PyData.shownAll xs) L 0 "[" a
  rw [Str.length_append]
  rw [b] at this
  have h1 : (Str.ofString "[").length = 1 := by decide
  have h2 : (Str.ofString "]").length = 1 := by decide
  omega
theorem repr_of {d : D} {h L : Nat} (s : Shw h L d) (sq : isSq d = true) (hh : h ≤ 30) (hL : L ≤ sizeLine) : reprD [d] = some (.str d.shown) := if_pos ⟨sq, s.sh, s.nd, Nat.le_trans s.dp hh, Nat.le_trans s.ln hL⟩
theorem nc0 : ((0 : Nat) : Int) = 0 := rfl
theorem nc1 : ((1 : Nat) : Int) = 1 := rfl
theorem nc2 : ((2 : Nat) : Int) = 2 := rfl
theorem nc3 : ((3 : Nat) : Int) = 3 := rfl
theorem nc4 : ((4 : Nat) : Int) = 4 := rfl
theorem nc5 : ((5 : Nat) : Int) = 5 := rfl
theorem nc6 : ((6 : Nat) : Int) = 6 := rfl
theorem nc7 : ((7 : Nat) : Int) = 7 := rfl
theorem nc8 : ((8 : Nat) : Int) = 8 := rfl
theorem nc9 : ((9 : Nat) : Int) = 9 := rfl
theorem nc10 : ((10 : Nat) : Int) = 10 := rfl
theorem nc11 : ((11 : Nat) : Int) = 11 := rfl
theorem nc12 : ((12 : Nat) : Int) = 12 := rfl
theorem nc13 : ((13 : Nat) : Int) = 13 := rfl
theorem nc14 : ((14 : Nat) : Int) = 14 := rfl
theorem nc15 : ((15 : Nat) : Int) = 15 := rfl
theorem nc16 : ((16 : Nat) : Int) = 16 := rfl
theorem nc17 : ((17 : Nat) : Int) = 17 := rfl
theorem nc18 : ((18 : Nat) : Int) = 18 := rfl
theorem nc19 : ((19 : Nat) : Int) = 19 := rfl
theorem nc20 : ((20 : Nat) : Int) = 20 := rfl
end DL

namespace DL
open PySem L2
section
variable {K : PySem.W.Frag} {Wx : WX} {ta tb te td : TE} {tt tu : TT} {tas : TA} {t u rest : TS} {b0 : Option Addr} {B Bf Z0 Z H : Hp} {σ : L2.St} {ρ : Rho} {p : Addr} {o o' : HO}
/-! ### a list of new things, compared, then its own lists are changed -/
theorem Ok.shrink (ok : Ok K b0 Bf Z0 Z H σ ρ) (s : Same B Bf) : Ok K b0 B Z0 Z H σ ρ := by
  refine ⟨ok.len, s.trans ok.bh, ok.zh, ok.zz, fun q x e => ?_, ok.sh, fun i ds e eo => ?_, ok.fix, ok.sepS⟩
  · rcases ok.nb q x e with z | z
    · exact .inl z
    · exact .inr (s.free z)
  · obtain ⟨q, vs, e1, e2, e3, e4, e5⟩ := ok.own i ds e eo
    exact ⟨q, vs, e1, e2, s.free e3, e4, e5⟩
theorem Ok.reB (ok : Ok K b0 Bf Z0 Z H σ ρ) (hp : Bf p = some o) (zp : Z0 p = none) : Ok K b0 (upd Bf p o') Z0 Z (upd H p o') σ ρ := by
  have hz : Z p = none := by
    cases q : Z p with
    | none => rfl
    | some x =>
      rcases ok.nb p x q with z | z
      · rw [zp] at z; cases z
      · rw [hp] at z; cases z
  have ap : ∀ (q : Addr), Bf q = none → q ≠ p := fun q e z => by rw [z, hp] at e; cases e
  refine ⟨ok.len, fun q x e => ?_, fun q x e => ?_, ok.zz, fun q x e => ?_, ok.sh, fun i ds e eo => ?_, ok.fix, ok.sepS⟩
  · by_cases hq : q = p
    · subst hq; rw [upd_same] at e ⊢; exact e
    · rw [upd_ne hq] at e ⊢; exact ok.bh q x e
  · rw [upd_ne (ne_of_none e hz)]; exact ok.zh q x e
  · rcases ok.nb q x e with z | z
    · exact .inl z
    · exact .inr (by rw [upd_ne (ne_of_none e hz)]; exact z)
  · obtain ⟨q, vs, e1, e2, e3, e4, e5⟩ := ok.own i ds e eo
    have nq := ap q e3
    exact ⟨q, vs, e1, e2, by rw [upd_ne nq]; exact e3, by rw [upd_ne nq]; exact e4, e5⟩
theorem Ok.putAny {i : Nat} {x : Option V} (ok : Ok K b0 B Z0 Z H σ ρ) : Ok K b0 B Z0 Z H (σ.set i x) (ρ.set i .no) :=
  ok.weak (by rw [List.length_set, List.length_set]; exact ok.len) fun j s h => (no_get h).imp id fun z => ⟨z.2, by rw [List.getElem?_set_ne z.1]⟩
/-- the frames: new lists and what they hold -/
inductive NwA (K : PySem.W.Frag) (B Z0 Bf Z : Hp) : List V → List Nw → Prop
  | nil : NwA K B Z0 Bf Z [] []
  | s {v : V} {vs : List V} {d : D} {ns : List Nw} : Rp K Z v d → NwA K B Z0 Bf Z vs ns → NwA K B Z0 Bf Z (v :: vs) (.s d :: ns)
  | f {q : Addr} {ws vs : List V} {ds : List D} {ns : List Nw} : Bf q = some (.lst ws) → B q = none → Z0 q = none → RpA K Z ws ds → NwA K B Z0 Bf Z vs ns → NwA K B Z0 Bf Z (.ref q :: vs) (.f ds :: ns)
def Nw.dat : Nw → D
  | .s d => d
  | .f ds => .list ds
def DNL (K : PySem.W.Frag) (t : TA) (g : Rho → R (List Nw)) : Prop := ∀ b0 B Bf Z0 Z H σ ρ ns ρ' (Q : List V → Hp → Prop), Same B Bf → Ok K b0 Bf Z0 Z H σ ρ → g ρ = .ok ns ρ' →
  (∀ vs H' Z' Bf', Same Bf Bf' → Ok K b0 Bf' Z0 Z' H' σ ρ' → Same Z Z' → NwA K B Z0 Bf' Z' vs ns → Q vs H') → t σ H Q
def nlNil (ρ : Rho) : R (List Nw) := .ok [] ρ
def nlCons (g : Rho → R Nw) (r : Rho → R (List Nw)) (ρ : Rho) : R (List Nw) := (g ρ).bind fun n ρ1 => (r ρ1).map (n :: ·)
theorem dnl_nil : DNL K tNil nlNil := fun b0 B Bf Z0 Z H σ ρ ns ρ' Q sb ok e q => by
  cases e
  exact q [] H Z Bf (Same.refl Bf) ok (Same.refl Z) .nil
theorem dnl_s {g : GE} {r : Rho → R (List Nw)} (h : DE K te g) (hr : DNL K tas r) : DNL K (tCons te tas) (nlCons (nS g) r) := fun b0 B Bf Z0 Z H σ ρ ns ρ' Q sb ok e q => by
  obtain ⟨n, ρ1, e1, e2⟩ := R.bind_ok e
  obtain ⟨d, e3, rfl⟩ := R.map_ok e1
  obtain ⟨ms, e4, rfl⟩ := R.map_ok e2
  refine h b0 Bf Z0 Z H σ ρ d ρ1 _ ok e3 fun v H1 Z1 ok1 s1 r1 => ?_
  exact hr b0 B Bf Z0 Z1 H1 σ ρ1 ms ρ' _ sb ok1 e4 fun vs H2 Z2 Bf2 sb2 ok2 s2 r2 => q (v :: vs) H2 Z2 Bf2 sb2 ok2 (s1.trans s2) (.s (r1.mono s2) r2)
theorem dnl_f {g : GF} {r : Rho → R (List Nw)} (h : DF K te g) (hr : DNL K tas r) : DNL K (tCons te tas) (nlCons (nF g) r) := fun b0 B Bf Z0 Z H σ ρ ns ρ' Q sb ok e q => by
  obtain ⟨n, ρ1, e1, e2⟩ := R.bind_ok e
  obtain ⟨ds, e3, rfl⟩ := R.map_ok e1
  obtain ⟨ms, e4, rfl⟩ := R.map_ok e2
  refine h b0 Bf Z0 Z H σ ρ ds ρ1 _ ok e3 fun q1 ws H1 Z1 ok1 s1 zq bq aq hq r1 => ?_
  have sn : Same Bf (upd Bf q1 (.lst ws)) := fun c x ec => by rw [upd_ne (ne_of_none ec bq)]; exact ec
  refine hr b0 B (upd Bf q1 (.lst ws)) Z0 Z1 H1 σ ρ1 ms ρ' _ (sb.trans sn) (ok1.frame zq aq hq) e4 fun vs H2 Z2 Bf2 sb2 ok2 s2 r2 => ?_
  exact q (.ref q1 :: vs) H2 Z2 Bf2 (sn.trans sb2) ok2 (s1.trans s2) (.f (sb2 _ _ upd_same) (sb.free bq) (ok1.zz.free zq) (r1.mono s2) r2)
theorem NwA.mono {Z' Bf' : Hp} (s : Same Z Z') (b : Same Bf Bf') : ∀ {vs : List V} {ns : List Nw}, NwA K B Z0 Bf Z vs ns → NwA K B Z0 Bf' Z' vs ns
  | _, _, .nil => .nil
  | _, _, .s h r => .s (h.mono s) (NwA.mono s b r)
  | _, _, .f h1 h2 h3 h4 r => .f (b _ _ h1) h2 h3 (h4.mono s) (NwA.mono s b r)
theorem NwA.rp (sz : Same Z H) (sb : Same Bf H) : ∀ {vs : List V} {ns : List Nw}, NwA K B Z0 Bf Z vs ns → RpA K H vs (ns.map Nw.dat)
  | _, _, .nil => .nil
  | _, _, .s h r => .cons (h.mono sz) (NwA.rp sz sb r)
  | _, _, .f h1 _ _ h4 r => .cons (.lst (sb _ _ h1) (h4.mono sz)) (NwA.rp sz sb r)
theorem NwA.len : ∀ {vs : List V} {ns : List Nw}, NwA K B Z0 Bf Z vs ns → vs.length = ns.length
  | _, _, .nil => rfl
  | _, _, .s _ r => by rw [List.length_cons, List.length_cons, NwA.len r]
  | _, _, .f _ _ _ _ r => by rw [List.length_cons, List.length_cons, NwA.len r]
theorem NwA.get : ∀ {vs : List V} {ns : List Nw} {j : Nat} {ds : List D}, NwA K B Z0 Bf Z vs ns → ns[j]? = some (.f ds) → ∃ q ws, vs[j]? = some (.ref q) ∧ Bf q = some (.lst ws) ∧ B q = none ∧ Z0 q = none ∧ ws.length = ds.length
  | _, _, j, _, .nil, h => by simp at h
  | _, _, 0, _, .s _ _, h => by simp at h
  | _, _, 0, _, .f (q := q) (ws := ws) h1 h2 h3 h4 _, h => by
    simp at h
    subst h
    exact ⟨q, ws, rfl, h1, h2, h3, h4.length⟩
  | _, _, j + 1, ds, .s _ r, h => by
    obtain ⟨q, ws, e, z⟩ := NwA.get (j := j) (ds := ds) r (by simpa using h)
    exact ⟨q, ws, by simpa using e, z⟩
  | _, _, j + 1, ds, .f _ _ _ _ r, h => by
    obtain ⟨q, ws, e, z⟩ := NwA.get (j := j) (ds := ds) r (by simpa using h)
    exact ⟨q, ws, by simpa using e, z⟩
/-- heard[j].append(x) -/
abbrev tApp1 (K : PySem.W.Frag) (h : Nat) (j : Int) (x : Str) : TS := tDrop (tBM K "list" rAppend (tOp (rIx K) (tVar h) (tC (.int j))) (tCons (tC (.str x)) tNil))
def tApps (K : PySem.W.Frag) (h : Nat) (x : Str) (rest : TS) : List Nat → TS
  | [] => rest
  | j :: js => tSeq (tApp1 K h (j : Int) x) (tApps K h x rest js)
/-- each place holds a list that is framed, smaller than half the line -/
theorem apps_run {h : Nat} {x : Str} {E : Ends} {a : Addr} {vs : List V} (hσ : σ[h]? = some (some (.ref a))) (hrest : ∀ Bf H, Same B Bf → Ok K b0 Bf Z0 Z H σ ρ → rest E σ H) :
    ∀ (js : List Nat) {Bf H : Hp}, Same B Bf → Ok K b0 Bf Z0 Z H σ ρ → Bf a = some (.lst vs) → (∀ j ∈ js, ∃ q ws, vs[j]? = some (.ref q) ∧ q ≠ a ∧ Bf q = some (.lst ws) ∧ B q = none ∧ Z0 q = none ∧ ws.length + js.length ≤ sizeLine) → tApps K h x rest js E σ H
  | [], Bf, H, sb, ok, _, _ => hrest Bf H sb ok
  | j :: js, Bf, H, sb, ok, ha, hj => by
    obtain ⟨q, ws, e1, nq, e2, e3, e4, e5⟩ := hj j List.mem_cons_self
    have hH : H a = some (.lst vs) := ok.bh _ _ ha
    have hq : H q = some (.lst ws) := ok.bh _ _ e2
    rw [List.length_cons] at e5
    refine ⟨.ref a, hσ, .inl ⟨a, vs, (j : Int), .ref q, rfl, rfl, .inl (.inl hH), atI_nat e1, .inl ⟨rfl, ws, .inl (.inl hq)⟩, q, ws, .str x, rfl, rfl, hq, by omega, ?_⟩⟩
    have sn : Same B (upd Bf q (.lst (ws ++ [.str x]))) := fun c y ec => by rw [upd_ne (ne_of_none ec e3)]; exact sb c y ec
    refine apps_run hσ hrest js sn (ok.reB e2 e4) (by rw [upd_ne (Ne.symm nq)]; exact ha) fun j' hj' => ?_
    obtain ⟨q', ws', f1, nq', f2, f3, f4, f5⟩ := hj j' (List.mem_cons_of_mem _ hj')
    rw [List.length_cons] at f5
    by_cases hqq : q' = q
    · subst hqq
      refine ⟨q', ws ++ [.str x], f1, nq, upd_same, e3, e4, ?_⟩
      rw [List.length_append, List.length_singleton]
      omega
    · exact ⟨q', ws', f1, nq', by rw [upd_ne hqq]; exact f2, f3, f4, by omega⟩
def isF (k : Nat) : Option Nw → Bool
  | some (.f ds) => decide (ds.length + k ≤ sizeLine)
  | _ => false
/-- h = [..]; if not same(h, due): return False; h[j].append(x) ..; the rest -/
def sHeard (h : Nat) (gn : Rho → R (List Nw)) (Fs : List D → Option D) (gd : GE) (js : List Nat) (rest : GS) (ρ : Rho) : O := (gn ρ).to fun ns ρ1 => if ns.length ≤ sizeLine ∧ h < ρ1.length then (gd (ρ1.set h .no)).to fun due ρ2 => match Fs [.list (ns.map Nw.dat), due] with
    | some (.bool true) => if js.all (fun j => isF js.length ns[j]?) then rest (ρ2.set h .no) else .bad
    | some (.bool false) => .rt (.bool false) (ρ2.set h .no)
    | _ => .bad
  else .bad
theorem ds_heard {h : Nat} {x : Str} {gn : Rho → R (List Nw)} {Fs : List D → Option D} {gd : GE} {js : List Nat} {k : GS} {E0 : XK} (hn : DNL K tas gn) (hd : DE K td gd) (hr : DS K Wx rest k) :
    DS K Wx (tSeq (tAsg (tLst tas) (gName h)) (tSeq (tIfS (tNot (tB (tCall (spP K 2 Fs) [] E0 (tCons (tVar h) (tCons td tNil))))) (tRet (tC (.bl false))) tNext) (tApps K h x rest js))) (sHeard h gn Fs gd js k) := fun b0 B Z0 Z H σ ρ E ok s => by
  unfold sHeard at s
  obtain ⟨ns, ρ1, e1, s⟩ := Sat.to s
  refine hn b0 B B Z0 Z H σ ρ ns ρ1 _ (Same.refl B) ok e1 fun vs H1 Z1 Bf1 sb1 ok1 s1 nw => ?_
  split at s
  · rename_i hsz
    obtain ⟨hsz, hh⟩ := hsz
    refine ⟨by rw [nw.len]; exact hsz, fun a hp => ?_⟩
    obtain ⟨okf, zf, bf, af⟩ := ok1.fresh (o := .lst vs) hp
    have sn : Same Bf1 (upd Bf1 a (.lst vs)) := fun c y ec => by rw [upd_ne (ne_of_none ec bf)]; exact ec
    have ok2 := (okf.frame zf af upd_same).putAny (i := h) (x := some (.ref a))
    have hσ : (σ.set h (some (.ref a)))[h]? = some (some (.ref a)) := List.getElem?_set_self (by rw [ok1.len]; exact hh)
    obtain ⟨due, ρ2, e2, s⟩ := Sat.to s
    refine ⟨.ref a, hσ, ?_⟩
    refine hd b0 _ Z0 Z1 _ _ _ due ρ2 _ ok2 e2 fun vd H3 Z3 ok3 s3 r3 => ?_
    have nw3 := nw.mono s3 sn
    have ha3 : H3 a = some (.lst vs) := ok3.bh _ _ upd_same
    have rpA : RpA K H3 [.ref a, vd] [.list (ns.map Nw.dat), due] := .cons (.lst ha3 (nw3.rp ok3.zh ok3.bh)) (.cons (r3.mono ok3.zh) .nil)
    have fin : ∀ (b : Bool), Fs [.list (ns.map Nw.dat), due] = some (.bool b) → (∀ H4, Same H3 H4 → (tIfS (fun _ H Q => Q (!b) H) (tRet (tC (.bl false))) tNext) { E with nx := tApps K h x rest js E } (σ.set h (some (.ref a))) H4) →
        spP K 2 Fs [.ref a, vd] H3 (fun y H1 => ∃ c, y = V.bl c ∧ (if (!c) = true then tRet (tC (.bl false)) { E with nx := tApps K h x rest js E } (σ.set h (some (.ref a))) H1 else tNext { E with nx := tApps K h x rest js E } (σ.set h (some (.ref a))) H1)) E0 := by
      intro b eb hc
      refine ⟨rfl, H3, _, _, Same.refl H3, rpA, eb, fun v H' Z' hs g r => ?_⟩
      cases r
      exact ⟨b, rfl, hc H' hs⟩
    split at s
    · rename_i eF
      split at s
      · rename_i hjs
        refine fin true eF fun H4 hs => ?_
        have ok4 := ok3.later hs
        have ok5 := ok4.forget (i := h)
        refine apps_run (B := B) (vs := vs) hσ (fun Bf' H' sb' ok' => hr b0 B Z0 Z3 H' _ _ E (ok'.shrink sb') s) js (sb1.trans sn) ok5 upd_same fun j hj => ?_
        have hf := List.all_eq_true.mp hjs j hj
        unfold isF at hf
        split at hf
        · rename_i ds ej
          obtain ⟨q, ws, f1, f2, f3, f4, f5⟩ := nw.get ej
          have nq : q ≠ a := ne_of_none f2 bf
          exact ⟨q, ws, f1, nq, by rw [upd_ne nq]; exact f2, f3, f4, by rw [f5]; exact of_decide_eq_true hf⟩
        · cases hf
      · exact s.elim
    · rename_i eF
      refine fin false eF fun H4 hs => ?_
      exact s (.bl false) _ H4 Z3 ((ok3.later hs).forget.shrink (sb1.trans sn)) (.bl false)
    · exact s.elim
  · exact s.elim
end
end DL

namespace DL
open PySem L2
section
variable {K : PySem.W.Frag} {Wx : WX} {ta tb te td : TE} {tt tu : TT} {tas : TA} {t u rest tail : TS} {b0 : Option Addr} {B Bf Z0 Z H : Hp} {σ : L2.St} {ρ : Rho} {p : Addr} {o o' : HO}
/-- what follows the comparison: it changes the framed lists at js, then the rest runs -/
def HTail (K : PySem.W.Frag) (h : Nat) (js : List Nat) (m : Rho → Option Rho) (tail rest : TS) : Prop := ∀ (b0 : Option Addr) (B Bf Z0 Z H : Hp) (σ : L2.St) (ρ ρ' : Rho) (E : Ends) (a : Addr) (vs : List V), σ[h]? = some (some (.ref a)) → m ρ = some ρ' →
  (∀ Bf H σ', Same B Bf → Ok K b0 Bf Z0 Z H σ' ρ' → rest E σ' H) → Same B Bf → Ok K b0 Bf Z0 Z H σ ρ → Bf a = some (.lst vs) → js.length ≤ sizeLine →
  (∀ j ∈ js, ∃ q ws, vs[j]? = some (.ref q) ∧ q ≠ a ∧ Bf q = some (.lst ws) ∧ B q = none ∧ Z0 q = none ∧ ws.length + js.length ≤ sizeLine) → tail E σ H
theorem ht_apps {h : Nat} {x : Str} {js : List Nat} : HTail K h js some (tApps K h x rest js) rest := fun b0 B Bf Z0 Z H σ ρ ρ' E a vs hσ em hr sb ok ha hl hj => by
  cases em
  exact apps_run hσ (fun Bf H s o => hr Bf H σ s o) js sb ok ha hj
def tIxs (K : PySem.W.Frag) (h : Nat) : List Nat → TA
  | [] => tNil
  | j :: js => tCons (tOp (rIx K) (tVar h) (tC (.int (j : Int)))) (tIxs K h js)
theorem ixs_run {h : Nat} {a : Addr} {vs : List V} (hσ : σ[h]? = some (some (.ref a))) (ha : H a = some (.lst vs)) : ∀ (js : List Nat) (Q : List V → Hp → Prop), (∀ j ∈ js, ∃ v, vs[j]? = some v) → (∀ xs, xs.length = js.length → (∀ (k j : Nat), js[k]? = some j → xs[k]? = vs[j]?) → Q xs H) → tIxs K h js σ H Q
  | [], Q, _, q => q [] rfl fun k j e => by simp at e
  | j :: js, Q, hj, q => by
    obtain ⟨v, hv⟩ := hj j List.mem_cons_self
    refine ⟨.ref a, hσ, .inl ⟨a, vs, (j : Int), v, rfl, rfl, .inl (.inl ha), atI_nat hv, ?_⟩⟩
    refine ixs_run hσ ha js _ (fun j' h' => hj j' (List.mem_cons_of_mem _ h')) fun xs hl hk => q (v :: xs) (by rw [List.length_cons, List.length_cons, hl]) fun k j' e => ?_
    cases k with
    | zero => simp at e; subst e; simpa using hv.symm
    | succ k => simp at e; simpa using hk k j' e
/-- for x in (h[j], ..): x.append(s) -/
abbrev tAppLoop (K : PySem.W.Frag) (h i : Nat) (x : Str) (js : List Nat) (rest : TS) : TS := tSeq (tFor (iSeqU K (tTup (tIxs K h js))) (gName i) (tDrop (tBM K "list" rAppend (tVar i) (tCons (tC (.str x)) tNil)))) rest
def mSet (i : Nat) (ρ : Rho) : Option Rho := if i < ρ.length then some (ρ.set i .no) else none
theorem ht_loop {h i : Nat} {x : Str} {js : List Nat} : HTail K h js (mSet i) (tAppLoop K h i x js rest) rest := fun b0 B Bf Z0 Z H σ ρ ρ' E a vs hσ em hr sb ok ha hl hj => by
  unfold mSet at em
  split at em
  case isFalse => cases em
  rename_i hi
  cases em
  have hH : H a = some (.lst vs) := ok.bh _ _ ha
  refine .inr (ixs_run hσ hH js _ (fun j h' => ?_) fun xs hxl hxs => ⟨by rw [hxl]; exact hl, fun p hp => ⟨p, rfl, ⟨xs, .inl (.inl upd_same)⟩, ?_⟩⟩)
  · obtain ⟨q, ws, e, _⟩ := hj j h'
    exact ⟨_, e⟩
  obtain ⟨okf, zf, bf, af⟩ := ok.fresh (o := .tup xs) hp
  have sn : Same Bf (upd Bf p (.tup xs)) := fun c y ec => by rw [upd_ne (ne_of_none ec bf)]; exact ec
  have ok2 := (okf.frame zf af upd_same).forget (i := i)
  have W : Walk (Itt K p) js.length (fun H => H p = some (.tup xs)) (YAt xs) := by
    refine ⟨fun k H hk e => ⟨xs, xs[k]'(by rw [hxl]; exact hk), .inl (.inl e), List.getElem?_eq_getElem _⟩, fun H e => ⟨xs, .inl (.inl e), by rw [hxl]; exact Nat.le_refl _⟩, fun k H v H' hk e y => ?_⟩
    obtain ⟨rfl, y⟩ := y
    exact ⟨rfl, y xs (.inl (.inl e))⟩
  refine for_it W (fun k σ' H' => ∃ Bf', Same B Bf' ∧ Bf' p = some (.tup xs) ∧ Ok K b0 Bf' Z0 Z H' σ' (ρ.set i .no) ∧ ∀ m j, k ≤ m → js[m]? = some j → ∃ q ws, xs[m]? = some (.ref q) ∧ q ≠ p ∧ Bf' q = some (.lst ws) ∧ B q = none ∧ Z0 q = none ∧ ws.length + (js.length - k) ≤ sizeLine)
    ⟨_, sb.trans sn, upd_same, ok2, fun m j _ ej => ?_⟩ (fun k σ' H' _ ⟨Bf', _, e, o, _⟩ => o.bh _ _ e) (fun k v σ' H' H'' hk ⟨Bf', sb', ep, o, hq⟩ y => ?_) (fun σ' H' ⟨Bf', sb', ep, o, _⟩ => hr Bf' H' σ' sb' o)
  · obtain ⟨q, ws, e1, e2, e3, e4, e5, e6⟩ := hj j (List.mem_of_getElem? ej)
    have nq : q ≠ p := ne_of_none e3 bf
    exact ⟨q, ws, by rw [hxs m j ej]; exact e1, nq, by rw [upd_ne nq]; exact e3, e4, e5, by omega⟩
  · obtain ⟨rfl, y⟩ := y
    obtain ⟨q, ws, f1, f2, f3, f4, f5, f6⟩ := hq k (js[k]'hk) (Nat.le_refl _) (List.getElem?_eq_getElem hk)
    rw [y] at f1
    cases f1
    have hq2 : H'' q = some (.lst ws) := o.bh _ _ f3
    have hs : (σ'.set i (some (.ref q)))[i]? = some (some (.ref q)) := List.getElem?_set_self (by rw [o.len, List.length_set]; exact hi)
    refine ⟨.ref q, hs, .inl ⟨rfl, ws, .inl (.inl hq2)⟩, q, ws, .str x, rfl, rfl, hq2, by omega, ?_⟩
    have sn' : Same B (upd Bf' q (.lst (ws ++ [.str x]))) := fun c y ec => by rw [upd_ne (ne_of_none ec f4)]; exact sb' c y ec
    have o3 := (o.reB (o' := .lst (ws ++ [.str x])) f3 f5).putAny (i := i) (x := some (.ref q))
    rw [List.set_set] at o3
    refine ⟨_, sn', by rw [upd_ne (Ne.symm f2)]; exact ep, o3, fun m j hm ej => ?_⟩
    obtain ⟨q', ws', g1, g2, g3, g4, g5, g6⟩ := hq m j (by omega) ej
    by_cases hqq : q' = q
    · subst hqq
      refine ⟨q', ws ++ [.str x], g1, g2, upd_same, f4, f5, ?_⟩
      rw [List.length_append, List.length_singleton]
      omega
    · exact ⟨q', ws', g1, g2, by rw [upd_ne hqq]; exact g3, g4, g5, by omega⟩
/-- h = [..]; if not same(h, due): return False; the tail -/
def sHeardT (h : Nat) (gn : Rho → R (List Nw)) (Fs : List D → Option D) (gd : GE) (js : List Nat) (m : Rho → Option Rho) (rest : GS) (ρ : Rho) : O := (gn ρ).to fun ns ρ1 => if ns.length ≤ sizeLine ∧ h < ρ1.length ∧ js.length ≤ sizeLine then (gd (ρ1.set h .no)).to fun due ρ2 => match Fs [.list (ns.map Nw.dat), due] with
    | some (.bool true) => if js.all (fun j => isF js.length ns[j]?) then (match m (ρ2.set h .no) with | some ρ3 => rest ρ3 | none => .bad) else .bad
    | some (.bool false) => .rt (.bool false) (ρ2.set h .no)
    | _ => .bad
  else .bad
theorem ds_heardT {h : Nat} {gn : Rho → R (List Nw)} {Fs : List D → Option D} {gd : GE} {js : List Nat} {m : Rho → Option Rho} {k : GS} {E0 : XK} (hn : DNL K tas gn) (hd : DE K td gd) (ht : HTail K h js m tail rest) (hr : DS K Wx rest k) :
    DS K Wx (tSeq (tAsg (tLst tas) (gName h)) (tSeq (tIfS (tNot (tB (tCall (spP K 2 Fs) [] E0 (tCons (tVar h) (tCons td tNil))))) (tRet (tC (.bl false))) tNext) tail)) (sHeardT h gn Fs gd js m k) := fun b0 B Z0 Z H σ ρ E ok s => by
  unfold sHeardT at s
  obtain ⟨ns, ρ1, e1, s⟩ := Sat.to s
  refine hn b0 B B Z0 Z H σ ρ ns ρ1 _ (Same.refl B) ok e1 fun vs H1 Z1 Bf1 sb1 ok1 s1 nw => ?_
  split at s
  · rename_i hsz
    obtain ⟨hsz, hh, hlj⟩ := hsz
    refine ⟨by rw [nw.len]; exact hsz, fun a hp => ?_⟩
    obtain ⟨okf, zf, bf, af⟩ := ok1.fresh (o := .lst vs) hp
    have sn : Same Bf1 (upd Bf1 a (.lst vs)) := fun c y ec => by rw [upd_ne (ne_of_none ec bf)]; exact ec
    have ok2 := (okf.frame zf af upd_same).putAny (i := h) (x := some (.ref a))
    have hσ : (σ.set h (some (.ref a)))[h]? = some (some (.ref a)) := List.getElem?_set_self (by rw [ok1.len]; exact hh)
    obtain ⟨due, ρ2, e2, s⟩ := Sat.to s
    refine ⟨.ref a, hσ, ?_⟩
    refine hd b0 _ Z0 Z1 _ _ _ due ρ2 _ ok2 e2 fun vd H3 Z3 ok3 s3 r3 => ?_
    have nw3 := nw.mono s3 sn
    have ha3 : H3 a = some (.lst vs) := ok3.bh _ _ upd_same
    have rpA : RpA K H3 [.ref a, vd] [.list (ns.map Nw.dat), due] := .cons (.lst ha3 (nw3.rp ok3.zh ok3.bh)) (.cons (r3.mono ok3.zh) .nil)
    have fin : ∀ (b : Bool), Fs [.list (ns.map Nw.dat), due] = some (.bool b) → (∀ H4, Same H3 H4 → (tIfS (fun _ H Q => Q (!b) H) (tRet (tC (.bl false))) tNext) { E with nx := tail E } (σ.set h (some (.ref a))) H4) →
        spP K 2 Fs [.ref a, vd] H3 (fun y H1 => ∃ c, y = V.bl c ∧ (if (!c) = true then tRet (tC (.bl false)) { E with nx := tail E } (σ.set h (some (.ref a))) H1 else tNext { E with nx := tail E } (σ.set h (some (.ref a))) H1)) E0 := by
      intro b eb hc
      refine ⟨rfl, H3, _, _, Same.refl H3, rpA, eb, fun v H' Z' hs g r => ?_⟩
      cases r
      exact ⟨b, rfl, hc H' hs⟩
    split at s
    · rename_i eF
      split at s
      · rename_i hjs
        split at s
        · rename_i ρ3 em
          refine fin true eF fun H4 hs => ?_
          have ok5 := (ok3.later hs).forget (i := h)
          refine ht b0 B _ Z0 Z3 H4 _ _ ρ3 E a vs hσ em (fun Bf' H' σ' sb' ok' => hr b0 B Z0 Z3 H' _ _ E (ok'.shrink sb') s) (sb1.trans sn) ok5 upd_same hlj fun j hj => ?_
          have hf := List.all_eq_true.mp hjs j hj
          unfold isF at hf
          split at hf
          · rename_i ds ej
            obtain ⟨q, ws, f1, f2, f3, f4, f5⟩ := nw.get ej
            have nq : q ≠ a := ne_of_none f2 bf
            exact ⟨q, ws, f1, nq, by rw [upd_ne nq]; exact f2, f3, f4, by rw [f5]; exact of_decide_eq_true hf⟩
          · cases hf
        · exact s.elim
      · exact s.elim
    · rename_i eF
      refine fin false eF fun H4 hs => ?_
      exact s (.bl false) _ H4 Z3 ((ok3.later hs).forget.shrink (sb1.trans sn)) (.bl false)
    · exact s.elim
  · exact s.elim
end
end DL

namespace DL
open PySem L2
section
variable {K : PySem.W.Frag} {Wx : WX} {ta tb tc te td : TE} {tas : TA}
def idL {α : Type} (x : List α) : List α := x
theorem kw_idL {A C : Type} {rel : A → C → Prop} {zs : List A} {ws : List C} (h : Paired rel zs ws) : Paired rel (idL zs) (idL ws) := h
def sPar3 (i j l : Nat) (a b c : Rho → R Nw) (ρ : Rho) : O := (a ρ).to fun x ρ1 => (b ρ1).to fun y ρ2 => (c ρ2).to fun z ρ3 => .nx (((ρ3.set i x.sl).set j y.sl).set l z.sl)
theorem ds_par3s {i j l : Nat} {a b c : GE} (ha : DE K ta a) (hb : DE K tb b) (hc : DE K tc c) : DS K Wx (tPar3 i j l (tCons ta (tCons tb (tCons tc tNil)))) (sPar3 i j l (nS a) (nS b) (nS c)) := fun b0 B Z0 Z H σ ρ E ok s => by
  obtain ⟨x, ρ1, e1, s⟩ := Sat.to s
  obtain ⟨y, ρ2, e2, s⟩ := Sat.to s
  obtain ⟨z, ρ3, e3, s⟩ := Sat.to s
  obtain ⟨dx, f1, rfl⟩ := R.map_ok e1
  obtain ⟨dy, f2, rfl⟩ := R.map_ok e2
  obtain ⟨dz, f3, rfl⟩ := R.map_ok e3
  refine ha b0 B Z0 Z H σ ρ dx ρ1 _ ok f1 fun v H1 Z1 ok1 s1 r1 => ?_
  refine hb b0 B Z0 Z1 H1 σ ρ1 dy ρ2 _ ok1 f2 fun w H2 Z2 ok2 s2 r2 => ?_
  refine hc b0 B Z0 Z2 H2 σ ρ2 dz ρ3 _ ok2 f3 fun u H3 Z3 ok3 s3 r3 => ?_
  exact ⟨v, w, u, rfl, s _ H3 Z3 (((ok3.put (r1.mono (s2.trans s3))).put (r2.mono s3)).put r3)⟩
end
theorem join_le : ∀ (ts : List Str) (L : Nat), (∀ t ∈ ts, t.length ≤ L) → (Str.join ", " ts).length ≤ ts.length * (L + 2)
  | [], L, _ => by show (Str.ofString "").length ≤ _; exact Nat.le_trans (by decide : _ ≤ 0) (Nat.zero_le _)
  | [x], L, h => by
    have := h x List.mem_cons_self
    show x.length ≤ 1 * (L + 2)
    omega
  | x :: y :: r, L, h => by
    have ih := join_le (y :: r) L fun t ht => h t (List.mem_cons_of_mem _ ht)
    have := h x List.mem_cons_self
    show (x ++ ", " ++ Str.join ", " (y :: r)).length ≤ _
    have e2 : ((", " : String) : Str).length = 2 := rfl
    rw [Str.length_append, Str.length_append, e2, List.length_cons, Nat.succ_mul]
    omega
theorem shw_tuple {xs : List D} {h L : Nat} (hx : ∀ x ∈ xs, Shw h L x) : Shw (h + 1) (3 + xs.length * (L + 2)) (.tuple xs) := by
  obtain ⟨a, b, c, d, e⟩ := shownAll_le hx
  refine ⟨by simpa [PyData.showable] using c, by simpa [PyData.hasDict] using d, by simp only [PyData.depth]; omega, ?_⟩
  simp only [PyData.shown, tupleText]
  have := join_le (PyData.shownAll xs) L a
  rw [Str.length_append, Str.length_append]
  rw [b] at this
  have h1 : (Str.ofString "(").length = 1 := by decide
  have h2 : (Str.ofString (if (PyData.shownAll xs).length == 1 then ",)" else ")")).length ≤ 2 := by split <;> decide
  omega
end DL

namespace DL
open PySem L2
section
variable {K : PySem.W.Frag} {Wx : WX} {te : TE}
theorem RpA.snoc {Z : Hp} {v : V} {d : D} (r : Rp K Z v d) : ∀ {vs : List V} {ds : List D}, RpA K Z vs ds → RpA K Z (vs ++ [v]) (ds ++ [d])
  | _, _, .nil => .cons r .nil
  | _, _, .cons h t => .cons h (RpA.snoc r t)
theorem RpA.rev {Z : Hp} : ∀ {vs : List V} {ds : List D}, RpA K Z vs ds → RpA K Z vs.reverse ds.reverse
  | _, _, .nil => .nil
  | _, _, .cons h t => by rw [List.reverse_cons, List.reverse_cons]; exact RpA.snoc h (RpA.rev t)
/-- xs[::-1] of a list (or of the script) -/
def revL : D → Option (List D)
  | .list xs => some xs.reverse
  | .dict [(.list xs, .none)] => some xs.reverse
  | _ => none
def eRevL (g : GE) (ρ : Rho) : R (List D) := (g ρ).bind fun d ρ1 => R.lift (revL d) ρ1
theorem df_revL {g : GE} (h : DE K te g) : DF K (tRevL K te) (eRevL g) := fun b0 B Z0 Z H σ ρ ds ρ' Q ok e q => by
  obtain ⟨d, ρ1, e1, e⟩ := R.bind_ok e
  obtain ⟨e2, rfl⟩ := R.lift_ok e
  refine h b0 B Z0 Z H σ ρ d _ _ ok e1 fun v H1 Z1 ok1 s1 r1 => ?_
  unfold revL at e2
  split at e2
  · cases e2
    cases r1 with
    | lst hs ra =>
      refine ⟨_, _, rfl, .inl (.inl (ok1.zh _ _ hs)), fun p hp => ?_⟩
      obtain ⟨okf, zf, bf, af⟩ := ok1.fresh (o := .lst _) hp
      exact q p _ _ Z1 okf s1 zf bf af upd_same ra.rev
  · cases e2
    cases r1 with
    | scr hs ra =>
      refine ⟨_, _, rfl, same_l ok1.zh hs, fun p hp => ?_⟩
      obtain ⟨okf, zf, bf, af⟩ := ok1.fresh (o := .lst _) hp
      exact q p _ _ Z1 okf s1 zf bf af upd_same ra.rev
  · cases e2
end
end DL

/-! DLt: own exception classes straight over a built-in one, whose __init__ calls the base's and stores one field. -/
namespace DLX
open PySem PySem.W PySem.Calls PyProof.Rows PySem.HandSPX
open Builtin Builtin.ObjectAttr
/-- the built-in class B: what is asked of it -/
structure Bs (B nw ini : String) (tl : List Value) : Prop where
  f : ExcBaseFacts B nw ini tl
  s : StoreFacts B tl "object.__setattr__" "object"
  ty : typeOf (.type B) = pure (.type "type")
  ob : tl.contains (.type "object") = true
  st : Manifest.isStub B = false
  hi : PySem.W.handedIn (.builtin ini) = true
theorem bs_V : Bs "ValueError" "ValueError.__new__" "ValueError.__init__" [.type "ValueError", .type "Exception", .type "BaseException", .type "object"] := ⟨F.excBase_ValueError, F.store_ValueError, by kernel_rfl, by decide +kernel, by decide +kernel, by decide +kernel⟩
theorem bs_L : Bs "LookupError" "LookupError.__new__" "LookupError.__init__" [.type "LookupError", .type "Exception", .type "BaseException", .type "object"] := ⟨F.excBase_LookupError, F.store_LookupError, by kernel_rfl, by decide +kernel, by decide +kernel, by decide +kernel⟩
theorem bs_R : Bs "RuntimeError" "RuntimeError.__new__" "RuntimeError.__init__" [.type "RuntimeError", .type "Exception", .type "BaseException", .type "object"] := ⟨F.excBase_RuntimeError, F.store_RuntimeError, by kernel_rfl, by decide +kernel, by decide +kernel, by decide +kernel⟩
theorem bs_O : Bs "OverflowError" "OverflowError.__new__" "OverflowError.__init__" [.type "OverflowError", .type "ArithmeticError", .type "Exception", .type "BaseException", .type "object"] := ⟨F.excBase_OverflowError, F.store_OverflowError, by kernel_rfl, by decide +kernel, by decide +kernel, by decide +kernel⟩
section
variable {prog : Program} {w : World} {A : Around} {R : Result → Shared → Prop} {hp : Heap} {g : Array GenState} {d : Drawn} {t : Nat} {os : OsState} {B nw ini : String} {tl : List Value}
/-- the first field of an exception of an own class -/
theorem osa1 {K : W.Frag} {f : Str} {tk : Tok} {v : Value} {x C : Addr} {fv : Array Value} {cd : ClassData} (bs : Bs B nw ini tl) (KX : K.In hp) (hx : hp.get? x = some { cls := .ref C, data := .fields fv }) (hcd : W.clsIn K C = some cd) (hm : cd.mro = .ref C :: tl) (hh : cd.hasDict = true) (ha : W.findIn K (.ref C) f = some none)
    (hq : ∀ h' tk' dx, (∀ b o, b ≠ x → hp.get? b = some o → h'.get? b = some o) → hp.objs.size ≤ dx → dx ≠ x → h'.get? x = some { cls := .ref C, dict := some dx, data := .fields fv } → h'.Ns1 dx (fun y => if y = f then some v else none) → R (.ok (.ret .none)) ⟨h', g, d, tk', os⟩) :
    codeAny (model prog w) A (.call (.builtin "object.__setattr__") ⟨[.ref x, .str f tk, v], []⟩) R ⟨hp, g, d, t, os⟩ := by
  have J : W.InstAt hp x { cls := .ref C, data := .fields fv } C none := ⟨hx, rfl, rfl, trivial⟩
  have ne : cd.mro.isEmpty = false := by rw [hm]; rfl
  have hob : cd.mro.contains (.type "object") = true := by rw [hm, List.contains_cons, bs.ob, Bool.or_true]
  have hps : refuseLoop (.ref x) "__setattr__" cd.mro = pure () := by rw [hm, refuseLoop_ref]; exact bs.s.passes _
  have xlt : x ≠ hp.objs.size := Nat.ne_of_lt (Heap.lt_size hx)
  have sub : W.Looks (model prog w) hp (isInstance (.ref x) (.type "object")) true := J.type.andThen (W.looks_mroIn KX (by unfold W.mroIn; rw [hcd, Option.bind_some, if_neg (by rw [ne]; decide), hob]))
  have S0 := F.store_object
  refine codeAny_call_builtin S0.slot.plain S0.entry (@W.check_slot (model prog w) _ _ ⟨hp, g, d, t, os⟩ "object.__setattr__" "object" "__setattr__" (.ref x) [.str f tk, v] [] _ S0.kind S0.split sub (S0.args (.ref x) (.str f tk) v) ?_)
  have mr : W.Looks (model prog w) hp (mroOf (.ref C)) cd.mro := (W.looks_clsIn KX hcd).andThen .now
  have nt : W.Looks (model prog w) hp (storeTaker? none) none := .now
  have cl : W.Looks (model prog w) hp (classData C) cd := W.looks_clsIn KX hcd
  rw [W.osa_eq, refuse_eq]
  refine wpAny_bind (wpAny_bind (J.type.at (wpAny_bind (mr.at ?_))))
  rw [hps]
  refine wpAny_pure (wpAny_bind (J.type.at (wpAny_bind ((W.looks_findIn KX ha).at (wpAny_bind (nt.at ?_))))))
  show wpAny _ _ (storeInOwnDict (.ref x) (.ref C) (.str f tk) f v false) _ _ _
  obtain ⟨nm, bs', mro, ns, qn, hd, sn, sb, ab, col, del⟩ := cd
  dsimp only at hh
  subst hh
  unfold storeInOwnDict ownDictForStores
  repeat (first | with_reducible refine store_in_new ?_ ?_ | with_reducible refine wpAny_loadPart_at hx ?_ | with_reducible refine cl.at ?_ | wp_step)
  · exact ⟨_, #[], _, (Heap.get?_update_ne _ _ _ _ xlt.symm).trans (Heap.get?_push_at rfl rfl), rfl, fun e he => absurd he (by simp), fun _ => rfl⟩
  · intro h' tk' hn' hs
    have hx1 : (hp.push { cls := .type "dict", data := .dict #[] }).get? x = some { cls := .ref C, data := .fields fv } := Heap.get?_push_of_some _ hx
    exact hq h' tk' hp.objs.size (fun b o hb ho => (hs.2 b (Nat.ne_of_lt (Heap.lt_size ho))).trans ((Heap.get?_update_ne _ _ _ _ hb).trans (Heap.get?_push_of_some _ ho))) (Nat.le_refl _) xlt.symm ((hs.2 x xlt).trans (Heap.get?_update_self _ hx1 rfl)) hn'
end
end DLX
namespace DL
open PySem PySem.Spec PyProof.Rows L2 DLX
/-- what the written part says of an own class C straight over a built-in one -/
structure OxC (K : PySem.W.Frag) (nw : String) (tl : List Value) (C : Addr) : Prop where
  cls : ∃ nm q N bs sn sub ab col dd k0 k1 k2 k3 k5, K.lookup C = some (excClassObj nm q C N bs tl true sn sub ab col dd k0 k1 k2 k3 k5 nw)
  sa : PySem.W.findIn K (.ref C) "__setattr__" = some (some (.builtin "object.__setattr__"))
  ex : PySem.W.subIn K (.ref C) (.type "BaseException") = some true
  ty : PySem.W.typeIn K (.ref C) = some (.type "type")
  kp : PySem.W.keepIn K (.ref C) = true
section
variable {X : Cx} {pins : List (Addr × Obj)} {σ : L2.St} {H : Hp} {s : Shared} {a C dx : Addr} {f : Str} {y : V} {u : Value} {E : Value → Shared → Prop} {A : Around} {B nw ini : String} {tl : List Value}
theorem ox_store {Q : Unit → Shared → Prop} (bs : Bs B nw ini tl) (T : OxC X.K nw tl C) (I : Inv X pins σ H s) (e : H a = some (exo a C none)) (hno : PySem.W.findIn X.K (.ref C) f = some none) (ry : RelV y u)
    (h : ∀ dx s', H dx = none → dx ≠ a → Inv X pins σ (upd (upd H dx (exd dx [(f, y)])) a (exo a C (some dx))) s' → Q () s') : wpAny (model X.prog X.w) A (setAttr (.ref a) f u) Q E s := by
  obtain ⟨nm, q, N, bss, sn, sub, ab, col, dd, k0, k1, k2, k3, k5, hC⟩ := T.cls
  have hcl : PySem.W.clsIn X.K C = some { name := nm, bases := bss, mro := .ref C :: tl, ns := N, qualname := q, hasDict := true, slotNames := sn, subclasses := sub, abstract := ab, collection := col, hasDel := false } := by
    unfold PySem.W.clsIn
    rw [hC] <;> rfl
  obtain ⟨t1, ho⟩ := exo_at I.hok e
  obtain ⟨hp, g, d, t, os⟩ := s
  refine PySem.W.set_plain I.kIn (ox := { cls := .ref C, dict := none, data := .fields #[.ref t1, .none, .none, .none, .bool false, .none] }) (od := none) ⟨ho, rfl, rfl, trivial⟩ T.sa (osa1 bs I.kIn ho hcl rfl rfl hno fun h' tk' dx k dn dne hx hn => ?_)
  have fd : H dx = none := I.hok.fresh dn
  have nd : ∀ {b : Addr} {o : Obj}, hp.get? b = some o → b ≠ dx := fun q => Nat.ne_of_lt (Nat.lt_of_lt_of_le (Heap.lt_size q) dn)
  have na : ∀ {b : Addr}, H b = none → b ≠ a := fun n z => by rw [z, e] at n; cases n
  have U : Un X.fs [] H (upd (upd H dx (exd dx [(f, y)])) a (exo a C (some dx))) hp h' := by
    constructor
    · exact fun b o q n _ _ => k b o (na n) q
    · exact fun b o q n _ _ => ⟨o.slots, k b o (na n) q⟩
    · intro b o q n _
      rw [upd_ne (na n), upd_ne (nd q)]; exact n
    · intro b o q _
      by_cases hb : b = a
      · exact ⟨_, hb ▸ hx⟩
      · exact ⟨o, k b o hb q⟩
    · intro b xs q
      rw [upd_ne (at_ne e q exo_tup), upd_ne (ne_of_none q fd)]; exact q
    · intro b o v q
      rw [upd_ne (at_ne e q exo_frz), upd_ne (ne_of_none q fd)]; exact q
    · intro b ps q
      exact ⟨#[], by rw [upd_ne (at_ne e q exo_tbl), upd_ne (ne_of_none q fd), q]; simp⟩
  refine h dx _ fd dne (I.un (t' := tk') U fun b o q => ?_)
  by_cases hb : b = a
  · subst hb
    rw [upd_same] at q; cases q; exact exo_ok hx
  · rw [upd_ne hb] at q
    by_cases hd : b = dx
    · subst hd
      rw [upd_same] at q; cases q
      exact exd_ok hn (relO_put (fs := []) ry fun g => True.intro)
    · rw [upd_ne hd] at q
      refine (I.hok b o q).stay (fun c v hc z => k c v (hc.elim (fun hc => hc ▸ hb) fun hc => at_ne e hc exo_own) z) (fun c hc => ?_) fun c xs hc => ?_
      · rw [upd_ne (at_ne e hc exo_own), upd_ne (ne_of_none hc fd)]; exact hc
      · rw [upd_ne (at_ne e hc exo_tup), upd_ne (ne_of_none hc fd)]; exact hc
theorem ox_init {us : List Value} {Q : Value → Shared → Prop} (bs : Bs B nw ini tl) (T : OxC X.K nw tl C) (I : Inv X pins σ H s) (e : H a = some (exo a C none)) (hl : us.length ≤ sizeLine) (h : ∀ s', Inv X pins σ H s' → Q .none s') :
    wpAny (model X.prog X.w) A (call (.builtin ini) (.ref a :: us)) Q E s := by
  obtain ⟨nm, q, N, bss, sn, sub, ab, col, dd, k0, k1, k2, k3, k5, hC⟩ := T.cls
  obtain ⟨t1, ho⟩ := exo_at I.hok e
  obtain ⟨hp, g, d, t, os⟩ := s
  refine wpAny_call (PySem.HandSPX.init_base bs.f (fun Y => rfl) (I.kIn _ _ hC) ho hl fun h' t2 k hx => ?_)
  have J := I.write (t' := t) (x := a) (e := a) (o := exo a C none) (by rw [e]; exact True.intro) (.inl rfl) k ⟨_, hx⟩ (exo_ok hx)
  have eu : upd H a (exo a C none) = H := funext fun b => by
    by_cases hb : b = a
    · rw [hb, upd_same, e]
    · rw [upd_ne hb]
  exact h _ (eu ▸ J)
end
/-! ### readings -/
/-- B.__init__(self, x) -/
def tBIni (K : PySem.W.Frag) (nw : String) (tl : List Value) (ta : TA) : TE := fun σ H Q => ta σ H fun vs H1 => ∃ (a C : Addr) (ws : List V), vs = .ref a :: ws ∧ ws.length ≤ 1000 ∧ OxC K nw tl C ∧ H1 a = some (exo a C none) ∧ Q .non H1
/-- self.f = x -/
def tFld (K : PySem.W.Frag) (nw : String) (tl : List Value) (f : Str) (to te : TE) : TS := fun D σ H => te σ H fun y H1 => to σ H1 fun x H2 => ∃ a C : Addr, x = .ref a ∧ OxC K nw tl C ∧ PySem.W.findIn K (.ref C) f = some none ∧
  H2 a = some (exo a C none) ∧ ∀ dx, H2 dx = none → dx ≠ a → D.nx σ (upd (upd H2 dx (exd dx [(f, y)])) a (exo a C (some dx)))
section
variable {X : Cx} {o e : Expr} {es : List Expr} {to te : TE} {ta : TA} {f : Str} {p p' p1 p2 pos : Pos} {B nw ini : String} {tl : List Value}
theorem pe_bini {pl : Sem Bool} {BS : Str} (bs : Bs B nw ini tl) (hg : Gl X BS) (hm : X.mg BS = none) (hbt : bootBuiltins BS = some (.type B)) (hnn : BS ≠ "__name__") (hdb : (BS == ("__debug__" : Str)) = false) (vV : PySem.W.findCls X.K (.type B) (.type "type") "__init__" = some (.val (.builtin ini)))
    (ha : PA X (e :: es) ta)
    (hc : eval (.Call (.Attribute (.Name BS p1) "__init__" p2) (e :: es) [] pos) X.env = (do
      let ov ← eval (.Name BS p1) X.env
      standAt p2.atName
      let (fv, first) ← holding [ov] (getMethod ov "__init__" pl)
      callWith pos fv first (backTo pos (starEach (e :: es) X.env)) (backToKw pos (keywordEach [] X.env))) := by rfl)
    (he : starEach (e :: es) X.env = (false, eval e X.env) :: starEach es X.env := by rfl) (hpl : (backTo pos (starEach es X.env)).any (·.1) = false := by rfl) :
    PE X (.Call (.Attribute (.Name BS p1) "__init__" p2) (e :: es) [] pos) (tBIni X.K nw tl ta) := by
  refine ⟨fun pins s σ H Q I h => ?_⟩
  refine PySem.W.methodCall_KW (ld_blt I hg hm hbt ?_ hnn hdb) hc
  obtain ⟨m, fr⟩ := I.fr
  refine PySem.W.method_type fr I.ok.mod.kin bs.ty bs.st vV bs.hi ?_
  show wpAny _ _ (callWith pos (Value.builtin ini) [] (backTo pos (starEach (e :: es) X.env)) []) _ _ _
  refine PyProof.Rows.callWith_method1 (thn (ha.run pos pins _ σ H _ (I.tok _) h) fun us s1 hh => ?_) he hpl
  obtain ⟨vs, H1, I1, r1, a, C, ws, rfl, hl, T, ea, q⟩ := hh
  cases r1 with
  | @cons _ u0 _ ur ra rw' =>
    obtain rfl : u0 = Value.ref a := ra
    exact ox_init bs T I1 ea (by rw [← Paired.length rw', sizeLine_eq]; omega) fun s' J => ⟨.non, H1, J, rfl, q⟩
theorem ps_fld (bs : Bs B nw ini tl) (ho : PE X o to) (he : PE X e te) (hs : swapsWith e (some (.Attribute o f p')) pos.line X.env = pure false := by rfl) : PS X (.Assign [.Attribute o f p'] e pos) (tFld X.K nw tl f to te) := by
  refine ⟨fun pins s σ H D I h => plainObj_wpAny_Assign_Attribute (thn (he.run pins s σ H _ I h) fun v s1 hh => ?_) hs⟩
  obtain ⟨y, H1, I1, r1, q1⟩ := hh
  refine thn (ho.run pins s1 σ H1 _ I1 q1) fun u s2 hh => ?_
  obtain ⟨x, H2, I2, r2, a, C, rfl, T, hno, ea, q⟩ := hh
  obtain rfl : u = Value.ref a := r2
  exact ox_store bs T I2 ea hno r1 fun dx s' n ne J => ⟨σ, _, J, q dx n ne⟩
end
/-- the promise of such an __init__ -/
def spIni (K : PySem.W.Frag) (nw : String) (tl : List Value) (f : Str) : Sp := fun vs H Q _ => ∃ (a C : Addr) (v : V), vs = [.ref a, v] ∧ OxC K nw tl C ∧ PySem.W.findIn K (.ref C) f = some none ∧ H a = some (exo a C none) ∧ ∀ dx, H dx = none → dx ≠ a → Q .non (upd (upd H dx (exd dx [(f, v)])) a (exo a C (some dx)))
theorem ini_run {K : PySem.W.Frag} {nw : String} {tl : List Value} {f : Str} {N : List Str} {vs : List V} {H : Hp} {Q : VK} {E : XK} (h : spIni K nw tl f vs H Q E) (hN : N.length = 2) :
    tSeq (tDrop (tBIni K nw tl (tCons (tVar 0) (tCons (tVar 1) tNil)))) (tFld K nw tl f (tVar 0) (tVar 1)) { nx := fun _ H' => Q .non H', rt := Q } (L2.start N vs) H := by
  obtain ⟨a, C, v, rfl, T, hno, ea, q⟩ := h
  have e0 : (L2.start N [.ref a, v])[0]? = some (some (.ref a)) := rfl
  have e1 : (L2.start N [.ref a, v])[1]? = some (some v) := rfl
  exact ⟨_, e0, _, e1, a, C, [v], rfl, (by decide : 1 ≤ 1000), T, ea, _, e1, _, e0, a, C, rfl, T, hno, ea, q⟩
end DL

/-! DLu: C(e) of such a class, raised or kept as a value. -/
namespace DL
open PySem PySem.Spec PyProof.Rows L2 DLX
theorem exk_ok {P : Program} {w : World} {H : Hp} {h : Heap} {a C d : Addr} {oe : Obj} {vs : Array Value} (e : h.get? a = some oe) (z : Zc (.ref C) (some d) oe) (hd : oe.data = .fields vs) : ObjOk P w H h a (exk a C d) :=
  ⟨⟨oe, vs, e, z, hd⟩, ⟨_, e⟩, fun h1 h2 ⟨o, vs, e1, z1, d1⟩ k => ⟨o, vs, k _ e1, z1, d1⟩⟩
theorem exk_at {P : Program} {w : World} {H : Hp} {h : Heap} {a C d : Addr} (hok : HOk P w H h) (he : H a = some (exk a C d)) : ∃ (oe : Obj) (vs : Array Value), h.get? a = some oe ∧ Zc (.ref C) (some d) oe ∧ oe.data = .fields vs := by
  have x : ObjOk P w H h a (.ext fun h => ∃ (oe : Obj) (vs : Array Value), h.get? a = some oe ∧ Zc (.ref C) (some d) oe ∧ oe.data = .fields vs) := hok a _ he
  exact x.1
/-- raise C(e): what is wished -/
def tMk1 (C : Addr) (f : Str) (ta : TA) : L2.St → Hp → XK → Prop := fun σ H Q => ta σ H fun vs H1 => ∃ v, vs = [v] ∧ ∀ d, H1 d = none → Q (.ref C) (some d) (upd H1 d (.xd [(f, v)]))
/-- C(e) as a value -/
def tMkV (C : Addr) (f : Str) (ta : TA) : TE := fun σ H Q => ta σ H fun vs H1 => ∃ v, vs = [v] ∧ ∀ a d, H1 a = none → H1 d = none → d ≠ a → Q (.ref a) (upd (upd H1 d (.xd [(f, v)])) a (exk a C d))
/-- all that is asked of a class with its __init__ -/
structure OxI (P : Program) (w : World) (K : PySem.W.Frag) (mg : Str → Option Value) (base : Heap) (nw : String) (tl : List Value) (C : Addr) (f : Str) : Prop where
  c : OxC K nw tl C
  no : PySem.W.findIn K (.ref C) f = some none
  i : ∃ (fI : Addr) (fd : FuncData), PySem.W.findIn K (.ref C) "__init__" = some (some (.ref fI)) ∧ PySem.W.typeIn K (.ref fI) = some (.type "function") ∧ FnOk P w K mg base CX0 1 fI fd ["self", f] (spIni K nw tl f) ∧ Binds K fd ["self", f] []
section
variable {X : Cx} {e : Expr} {ta : TA} {f x : Str} {p pos : Pos} {C : Addr} {B nw ini : String} {tl : List Value}
/-- the making of C(u): the walk that both rules share -/
theorem ox_call {pins : List (Addr × Obj)} {σ : L2.St} {H1 : Hp} {s1 : Shared} {v : V} {u : Value} {Q : Value → Shared → Prop} {EE : Value → Shared → Prop} (bs : Bs B nw ini tl) (T : OxI X.prog X.w X.K X.mg X.base nw tl C f) (hr : Room 2 X.A) (I1 : Inv X pins σ H1 s1) (r : RelV v u)
    (h : ∀ (a d : Addr) (k2 : Heap) (H2 : Hp) (s2 : Shared), s1.heap.objs.size ≤ a → (∀ b o, s1.heap.get? b = some o → k2.get? b = some o) → H1 a = none → H1 d = none → d ≠ a → H2 = upd (upd (upd H1 a (exo a C none)) d (exd d [(f, v)])) a (exo a C (some d)) →
      Un (frs X.stack) [] (upd H1 a (exo a C none)) H2 k2 s2.heap → HOk X.prog X.w H2 s2.heap → s2.os = s1.os → AllBare s2.gens → Inv X pins σ H2 s2 → Q (.ref a) s2) :
    wpAny (model X.prog X.w) X.A (call (.ref C) [u]) Q EE s1 := by
  obtain ⟨nm, q, N, bss, sn, sub, ab, col, dd, k0, k1, k2, k3, k5, hC⟩ := T.c.cls
  obtain ⟨fI, fd, iC, tI, F1, hb⟩ := T.i
  obtain ⟨hp, g, dr, tk, os⟩ := s1
  have up1 : hp.objs.size ≤ hp.objs.size + 1 := Nat.le_succ _
  have fr1 : H1 (hp.objs.size + 1) = none := I1.hok.fresh up1
  have kk : ∀ b o, hp.get? b = some o → ((hp.push (PySem.W.kdv_tup [u])).push (PySem.HandSPX.excO C hp.objs.size)).get? b = some o := fun b o e => Heap.get?_push_of_some _ (Heap.get?_push_of_some _ e)
  have hget : ((hp.push (PySem.W.kdv_tup [u])).push (PySem.HandSPX.excO C hp.objs.size)).get? (hp.objs.size + 1) = some (PySem.HandSPX.excO C hp.objs.size) := by heap_get
  have I2 : Inv X pins σ (upd H1 (hp.objs.size + 1) (exo (hp.objs.size + 1) C none)) ⟨(hp.push (PySem.W.kdv_tup [u])).push (PySem.HandSPX.excO C hp.objs.size), g, dr, tk, os⟩ := I1.laid (t' := tk) kk up1 (exo_ok hget)
  have r2 : Vals [V.ref (hp.objs.size + 1), v] [Value.ref (hp.objs.size + 1), u] := .cons rfl (.cons r .nil)
  refine wpAny_call (PySem.HandSPX.call_own bs.f (fun Y => rfl) (I1.kIn _ _ hC) (PySem.W.looks_findIn I1.kIn iC) (fun self => PySem.W.bind_fn I1.kIn self tI) (by rw [sizeLine_eq]; show 1 ≤ 16777216; decide)
    (codeAny_mono (F1.run _ X.stack _ (upd H1 (hp.objs.size + 1) (exo (hp.objs.size + 1) C none)) ⟨[.ref (hp.objs.size + 1), u], []⟩ [.ref (hp.objs.size + 1), u] [.ref (hp.objs.size + 1), v]
      (fun v' H2 => v' = .non ∧ ∃ d, H1 d = none ∧ d ≠ hp.objs.size + 1 ∧ H2 = upd (upd (upd H1 (hp.objs.size + 1) (exo (hp.objs.size + 1) C none)) d (exd d [(f, v)])) (hp.objs.size + 1) (exo (hp.objs.size + 1) C (some d))) (fun _ _ _ => False)
      (hr.make C [u] []) (I2.env0.make C [u] []) (by have := hb _ [.ref (hp.objs.size + 1), u] I2.kIn rfl; rw [List.append_nil] at this; exact this) r2 ?_) fun r s' hq' => ?_))
  · refine ⟨_, C, v, rfl, T.c, T.no, upd_same, fun dx hdx hne => ⟨rfl, dx, ?_, hne, rfl⟩⟩
    rw [upd_ne hne] at hdx; exact hdx
  · cases r with
    | error er => exact hq'.elim
    | ok fl =>
      cases fl with
      | ret u' =>
        have J := I2.after hq'
        obtain ⟨v', H2, J2, _, _⟩ := J
        obtain ⟨v2, H3, os2, bare2, un2, hok2, rv, ev, d, hd, dne, eH⟩ := hq'
        subst ev
        refine ⟨rv, h _ d _ H3 s' up1 kk fr1 hd dne eH un2 hok2 os2 bare2 ?_⟩
        have K2 := I2.after (Q := fun v' H2 => v' = .non ∧ H2 = H3) ⟨.non, H3, os2, bare2, un2, hok2, rv, rfl, rfl⟩
        obtain ⟨_, _, J3, _, _, e3⟩ := K2
        rw [← e3]; exact J3
      | next => exact hq'.elim
      | brk => exact hq'.elim
      | cont => exact hq'.elim
theorem pmk_ox (bs : Bs B nw ini tl) (T : OxI X.prog X.w X.K X.mg X.base nw tl C f) (hr : Room 2 X.A) (hg : Gl X x) (hm : X.mg x = some (.ref C)) (ha : PA X [e] ta) (hdb : (x == ("__debug__" : Str)) = false := by decide)
    (he : starEach [e] X.env = (false, eval e X.env) :: starEach [] X.env := by rfl) (hpl : (backTo pos (starEach [] X.env)).any (·.1) = false := by rfl) : PMk X (.Call (.Name x p) [e] [] pos) (tMk1 C f ta) := by
  intro pins s σ H Q I h
  refine wpAny_Call_Name_kw (ld_glob I hg hm ?_ hdb)
  refine PySem.W.callWith_K (h₀ := X.base) I.ok.mod.kin T.c.kp (thn (ha.run pos pins s σ H _ I h) fun us s1 hh => ?_) he hpl
  obtain ⟨vs, H1, I1, r1, v, rfl, q1⟩ := hh
  refine ⟨I1.kIn, ?_⟩
  cases r1 with
  | cons rv rn =>
    cases rn
    refine ox_call bs T hr I1 rv fun a d k2 H2 s2 ha1 kk na nd ne eH un2 hok2 os2 bare2 _ => ?_
    have ea : H2 a = some (exo a C (some d)) := by rw [eH]; exact upd_same
    have ed : H2 d = some (exd d [(f, v)]) := by rw [eH, upd_ne ne]; exact upd_same
    have eq : upd (del H2 a) d (.xd [(f, v)]) = upd H1 d (.xd [(f, v)]) := funext fun b => by
      by_cases hb : b = d
      · rw [hb, upd_same, upd_same]
      · rw [upd_ne hb, upd_ne hb]
        by_cases hba : b = a
        · rw [hba, del_same, na]
        · rw [del_ne hba, eH, upd_ne hba, upd_ne hb, upd_ne hba]
    obtain ⟨hp, g1, d1, t1, os1⟩ := s1
    obtain ⟨h2, g2, d2, t2, os2'⟩ := s2
    exact mk_end (raises_own T.c.ex T.c.ty) I1 ha1 kk un2 hok2 os2 bare2 ea ed nd (by rw [eq]; exact q1 d nd)
theorem pe_ox (bs : Bs B nw ini tl) (T : OxI X.prog X.w X.K X.mg X.base nw tl C f) (hr : Room 2 X.A) (hg : Gl X x) (hm : X.mg x = some (.ref C)) (ha : PA X [e] ta) (hdb : (x == ("__debug__" : Str)) = false := by decide)
    (he : starEach [e] X.env = (false, eval e X.env) :: starEach [] X.env := by rfl) (hpl : (backTo pos (starEach [] X.env)).any (·.1) = false := by rfl) : PE X (.Call (.Name x p) [e] [] pos) (tMkV C f ta) := by
  refine ⟨fun pins s σ H Q I h => ?_⟩
  refine wpAny_Call_Name_kw (ld_glob I hg hm ?_ hdb)
  refine PySem.W.callWith_K (h₀ := X.base) I.ok.mod.kin T.c.kp (thn (ha.run pos pins s σ H _ I h) fun us s1 hh => ?_) he hpl
  obtain ⟨vs, H1, I1, r1, v, rfl, q1⟩ := hh
  refine ⟨I1.kIn, ?_⟩
  cases r1 with
  | cons rv rn =>
    cases rn
    refine ox_call bs T hr I1 rv fun a d k2 H2 s2 ha1 kk na nd ne eH un2 hok2 os2 bare2 J => ?_
    have ea : H2 a = some (exo a C (some d)) := by rw [eH]; exact upd_same
    have ed : H2 d = some (exd d [(f, v)]) := by rw [eH, upd_ne ne]; exact upd_same
    obtain ⟨t1, ho⟩ := exo_at hok2 ea
    obtain ⟨mA, hn, rel⟩ := exd_at hok2 ed
    obtain ⟨h2, g2, d2, t2, os2'⟩ := s2
    have J1 := J.write (t' := t2) (h' := h2) (x := a) (e := a) (o := exk a C d) (by rw [ea]; exact True.intro) (.inl rfl) (fun b u _ q => q) ⟨_, ho⟩ (exk_ok ho ⟨rfl, rfl⟩ rfl)
    have ed1 : upd H2 a (exk a C d) d = some (exd d [(f, v)]) := by rw [upd_ne ne]; exact ed
    obtain ⟨od, _, _, hod, _⟩ := id hn
    have J2 := J1.write (t' := t2) (h' := h2) (x := d) (e := d) (o := .xd [(f, v)]) (by rw [ed1]; exact True.intro) (.inl rfl) (fun b u _ q => q) ⟨_, hod⟩ ⟨mA, hn, rel⟩
    have eq : upd (upd H2 a (exk a C d)) d (.xd [(f, v)]) = upd (upd H1 d (.xd [(f, v)])) a (exk a C d) := funext fun b => by
      by_cases hba : b = a
      · rw [hba, upd_ne (Ne.symm ne), upd_same, upd_same]
      · rw [upd_ne hba]
        by_cases hb : b = d
        · rw [hb, upd_same, upd_same]
        · rw [upd_ne hb, upd_ne hb, upd_ne hba, eH, upd_ne hba, upd_ne hb, upd_ne hba]
    rw [eq] at J2
    exact ⟨.ref a, _, J2, rfl, q1 a d na nd ne⟩
end
end DL

/-! DLv: try: body, except (A, B, ..) as e: x = e. The exception is tracked behind it. -/
namespace DLX
open PySem PySem.W PySem.Spec PySem.Calls PyProof.Rows
section
variable {M : Model} {K : Frag}
theorem any_all {cls : Value} : ∀ (cs : List Value) (b : Bool), exmAny K cls cs = some b → (∀ c ∈ cs, exmOne K cls c = some ((exmOne K cls c).getD false)) ∧ b = cs.any fun c => (exmOne K cls c).getD false
  | [], b, e => by cases e; exact ⟨fun c h => (nomatch h), rfl⟩
  | c :: r, b, e => by
    obtain ⟨b1, d1, x1, y1, z1⟩ := exmAny_cons e
    obtain ⟨ih, e2⟩ := any_all r d1 y1
    refine ⟨fun x hx => ?_, by rw [List.any_cons, x1, z1, e2]; rfl⟩
    rcases List.mem_cons.mp hx with rfl | hx
    · rw [x1]; rfl
    · exact ih x hx
theorem for_all {A : Around} {E : Value → Shared → Prop} {s : Shared} {f : Value → PUnit → Sem (ForInStep PUnit)} {Q : PUnit → Shared → Prop} (q : Q ⟨⟩ s) : ∀ (cs : List Value), (∀ c ∈ cs, ∀ Q' : ForInStep PUnit → Shared → Prop, Q' (.yield ⟨⟩) s → wpAny M A (f c ⟨⟩) Q' E s) → wpAny M A (forIn cs ⟨⟩ f) Q E s
  | [], _ => by simp only [List.forIn_nil]; exact wpAny_pure q
  | c :: r, h => by
    simp only [List.forIn_cons]
    exact wpAny_bind (h c List.mem_cons_self _ (for_all q r fun x hx => h x (List.mem_cons_of_mem _ hx)))
theorem for_find {A : Around} {E : Value → Shared → Prop} {s : Shared} {f : Value → Option Bool × Unit → Sem (ForInStep (Option Bool × Unit))} {Q : Option Bool × Unit → Shared → Prop} (tab : Value → Bool) : ∀ (cs : List Value),
    (∀ c ∈ cs, ∀ Q' : ForInStep (Option Bool × Unit) → Shared → Prop, Q' (if tab c then .done (some true, ()) else .yield (none, ())) s → wpAny M A (f c (none, ())) Q' E s) → Q (if cs.any tab then some true else none, ()) s → wpAny M A (forIn cs (none, ()) f) Q E s
  | [], _, q => by simp only [List.forIn_nil]; exact wpAny_pure q
  | c :: r, h, q => by
    simp only [List.forIn_cons]
    refine wpAny_bind (h c List.mem_cons_self _ ?_)
    cases ht : tab c with
    | true => simp only [List.any_cons, ht, Bool.true_or, if_true] at q ⊢; exact wpAny_pure q
    | false =>
      simp only [List.any_cons, ht, Bool.false_or, Bool.false_eq_true, if_false] at q ⊢
      exact for_find tab r (fun x hx => h x (List.mem_cons_of_mem _ hx)) q
/-- except (c1, c2, ..): of any number of classes -/
theorem exm_tupN {cs : List Value} {cls : Value} {tp e : Addr} {b : Bool} {h : Heap} (KX : K.In h) (LT : Looks M h (typeOf (.ref e)) cls) (hp : h.get? tp = some { cls := .type "tuple", data := .seq cs.toArray }) (hx : exmAny K cls cs = some b) :
    Looks M h (excMatches (.ref e) (.ref tp)) b := by
  intro A Q E s k0 q
  obtain ⟨hh, g, d, tk, os⟩ := s
  have k : ∀ b o, h.get? b = some o → hh.get? b = some o := k0
  have T0 : Looks M h (isInstance (.ref tp) (.type "tuple")) true := ((Looks.ld hp).andThen .now).andThen (Looks.of_pure isSubtype_tuple_tuple)
  obtain ⟨al, eb⟩ := any_all cs b hx
  have hp' := k _ _ hp
  unfold excMatches
  refine wpAny_bind ((T0.keeps k).at ?_)
  dsimp only
  rw [if_pos rfl]
  first
    | refine wpAny_bind (wpAny_seqItems hp' rfl ?_)
    | refine wpAny_bind (wpAny_bind (wpAny_seqItems hp' rfl (wpAny_pure ?_)))
  dsimp only [Option.getD_some, Option.getD]
  refine wpAny_bind (wpAny_pure (wpAny_bind (for_all ?_ _ fun c hc Q' q' => ?_)))
  · refine wpAny_bind ((LT.keeps k).here ?_)
    refine wpAny_bind (for_find (fun c => (exmOne K cls c).getD false) _ (fun c hc Q' q' => ?_) ?_)
    · obtain ⟨_, e1⟩ := exm_cls (M := M) KX (al c hc)
      refine wpAny_bind ((e1.keeps k).here ?_)
      cases hq : (exmOne K cls c).getD false with
      | true => rw [hq] at q'; simp only [if_true] at q' ⊢; exact wpAny_pure q'
      | false => rw [hq] at q'; simp only [Bool.false_eq_true, if_false] at q' ⊢; exact wpAny_pure q'
    · dsimp only
      rw [← eb]
      cases b with
      | true => simp only [if_true]; exact wpAny_pure q
      | false => simp only [Bool.false_eq_true, if_false]; exact wpAny_pure q
  · obtain ⟨e1, _⟩ := exm_cls (M := M) KX (al c hc)
    refine wpAny_bind ((e1.keeps k).here ?_)
    simp only [Bool.not_true, Bool.false_eq_true, if_false]
    exact wpAny_pure q'
end
end DLX

/-! DLw: the rule of the try. -/
namespace DL
open PySem PySem.Spec PyProof.Rows L2 DLX
/-- names of classes, and what they hold -/
inductive NmL (X : Cx) : List Expr → List Value → Prop
  | nil : NmL X [] []
  | cons {x : Str} {c : Value} {p : Pos} {es : List Expr} {cs : List Value} (h : Names X x c) (r : NmL X es cs) : NmL X (.Name x p :: es) (c :: cs)
section
variable {X : Cx} {pins : List (Addr × Obj)} {σ : L2.St} {H : Hp} {s : Shared} {a : Addr} {o : HO}
theorem NmL.len {es : List Expr} {cs : List Value} (h : NmL X es cs) : es.length = cs.length := by
  induction h with
  | nil => rfl
  | cons _ _ ih => rw [List.length_cons, List.length_cons, ih]
/-- the names of the clause, read while an exception is handled -/
theorem NmL.run {b : Addr} {pn : List (Addr × Obj)} {E : Value → Shared → Prop} {M : Model} {pos : Pos} (I : Inv (X.suite b pn) pins σ H s) : ∀ {es : List Expr} {cs : List Value}, NmL X es cs → ∀ {Q : List Value → Shared → Prop}, Q cs s → wpAny (model X.prog X.w) (X.A.mark (some (.ref b))) (spliced (backTo pos (starEach es X.env))) Q E s
  | _, _, .nil, Q, q => wpAny_items_nil q
  | _, _, .cons (x := x) (c := c) h r, Q, q => by
    refine wpAny_items_cons ?_
    obtain ⟨hg, hdbg, hm | ⟨hm, hv, hnn⟩⟩ := h
    · exact ld_glob (X := X.suite b pn) I hg hm (NmL.run (M := M) I r q) hdbg
    · exact ld_blt (X := X.suite b pn) I hg hm hv (NmL.run (M := M) I r q) hnn hdbg
/-- an object that stood untracked, of this body's own time, is tracked -/
theorem Inv.track (I : Inv X pins σ H s) (n0 : X.s_0.heap.get? a = none) (hn : H a = none) (nP : ∀ p ∈ X.pn ++ pins, p.1 ≠ a) (nL : a ≠ X.env.locals) (nC : ∀ x c, X.env.cells.lookup x = some c → c ≠ a) (new : ObjOk X.prog X.w (upd H a o) s.heap a o) : Inv X pins σ (upd H a o) s := by
  have bn := I.base
  refine ⟨I.ok, I.os, I.bare, ⟨bn.keep, bn.slot, fun b u q n hx => ?_, bn.there, fun b xs q => ?_, fun b u v q => ?_, fun b ps q => ?_⟩, I.loc, I.cell, ?_, fun x c e => ?_, fun p hp => ?_, I.hok.laidN (fun _ _ q => q) hn new, I.len⟩
  · rw [upd_ne (fun z => by rw [z, n0] at q; cases q)]; exact bn.free b u q n hx
  · have := bn.tups b xs q
    rw [upd_ne (ne_of_none this hn)]; exact this
  · have := bn.frzs b u v q
    rw [upd_ne (ne_of_none this hn)]; exact this
  · obtain ⟨m, e⟩ := bn.tbls b ps q
    exact ⟨m, by rw [upd_ne (ne_of_none e hn)]; exact e⟩
  · rw [upd_ne nL.symm]; exact I.free
  · rw [upd_ne (nC x c e)]; exact I.freeC x c e
  · obtain ⟨h1, h2, h3⟩ := I.pin p hp
    exact ⟨h1, by rw [upd_ne (nP p hp)]; exact h2, h3⟩
end
/-- what the clause wishes: slot i is the clause's name, slot j keeps the exception -/
def wKeep (K : PySem.W.Frag) (cs : List Value) (i j : Nat) (Wout : WX) (D : Ends) : WX := fun cls d σ H =>
  ∃ b, PySem.W.exmAny K cls cs = some b ∧ (b = true → ∃ C dx, cls = .ref C ∧ d = some dx ∧ ∀ a, H a = none → D.nx (((σ.set i (some (.ref a))).set j (some (.ref a))).set i none) (upd H a (exk a C dx))) ∧ (b = false → Wout cls d σ H)
theorem flyZ_keeps {B h h' : Heap} {l : List Env} {e : Addr} {Z : Obj → Prop} (R : PySem.HandSPX.FlyingZ B l e Z h) (k : ∀ b o, h.get? b = some o → h'.get? b = some o) : PySem.HandSPX.FlyingZ B l e Z h' := by
  obtain ⟨f1, f2, f3, oe, ws, T, oT, ts, he, hz, hd, h1, hn, hne, hT, hdT, h3⟩ := R
  exact ⟨fun b o q => k b o (f1 b o q), f2, f3.of_keeps fun b o q _ => ⟨o, k b o q, rfl⟩, oe, ws, T, oT, ts, k _ _ he, hz, hd, h1, hn, hne, k _ _ hT, hdT, h3⟩
section
variable {X : Cx} {n x : Str} {i j : Nat} {body : List Stmt} {es : List Expr} {cs : List Value} {kk : Nat} {p1 p2 p3 tpos pos pos' : Pos} {tb : WX → TS} {Wout : WX}
theorem ps_keep (hs : X.stack = X.env :: X.outer) (hf : X.env.frame = some X.env.locals) (hex : X.ex = []) (hN : X.N.Nodup) (hi : X.N[i]? = some n) (hln : X.env.kindOf n = some .local) (hj : X.N[j]? = some x) (hlx : X.env.kindOf x = some .local) (hvis : Vis X.env.scope n) (hnd : (n == ("__debug__" : Str)) = false) (hncd : (n == ("__classdict__" : Str)) = false) (hc : NmL X es cs) (hcl : cs.length ≤ 1000) (tk : Takes X Wout)
    (hb : ∀ (W : WX) (pn : List (Addr × Obj)) (xe : Value → Shared → Prop), Takes (X.tr pn xe) W → PassesOwn (model X.prog X.w) X.A X.env xe → PSs (X.tr pn xe) body (tb W)) :
    PS X (.Try body [.ExceptHandler (some (.Tuple es kk tpos)) (some n) [.Assign [.Name x p1] (.Name n p2) p3] pos'] [] [] pos) (fun D σ H => tb (wKeep X.K cs i j Wout D) D σ H) := by
  refine ⟨fun pins s σ H D I h => ?_⟩
  have ok := I.ok
  have hfr : X.A.frames = some (X.env :: X.outer) := by rw [ok.frames, hs]
  refine wpAny_Try_except ?_
  refine wpAny_mono ((hb (wKeep X.K cs i j Wout D) (X.pn ++ pins) (fun e s₁ => wpAny (model X.prog X.w) X.A (noteFrame e X.env) (fun _ s₂ => wpAny (model X.prog X.w) X.A (setFlight e none) (fun _ s₃ =>
    wpAny (model X.prog X.w) X.A (handleBy e X.env [.ExceptHandler (some (.Tuple es kk tpos)) (some n) [.Assign [.Name x p1] (.Name n p2) p3] pos']) (SP X pins D) X.xe s₃) X.xe s₂) X.xe s₁) (fun u s' xx => ?_) PassesOwn.looking).run [] s σ H D (I.toTry _) h) (fun f s1 hsp => ?_) (fun e s1 he => he)
  · obtain ⟨a, B, sI, pins', σ', H', cls, d, rfl, J', nb, up, sky, na, os, ag, b, hb1, hyes, hno⟩ := xx
    have J : Inv X pins σ' H' sI := J'.ofTry ok
    rw [hs] at sky
    show wpAny (model X.prog X.w) X.A (noteFrame (.ref a) X.env) _ _ _
    refine Sky.land Zc.steady hfr hf sky fun h3 fl3 up3 => ?_
    have J3 : Inv X pins σ' H' { s' with heap := h3 } := J.landed nb fl3.1 (up.trans up3) os ag
    obtain ⟨oe3, vs3, he3, hz3, hd3⟩ := fl3.there
    have nfr : a ∉ frs (X.env :: X.outer) := fun hm => by
      obtain ⟨_, o', e', hnf⟩ := fl3.2.2.1.mem hm
      rw [he3] at e'; cases e'
      exact hnf _ hd3
    have nL : a ≠ X.env.locals := fun z => nfr (List.mem_filterMap.mpr ⟨X.env, List.mem_cons_self, by rw [hf, z]⟩)
    have nF : a ∉ X.fs := fun hm => by
      obtain ⟨e, he, q⟩ := List.mem_filterMap.mp hm
      exact nfr (List.mem_filterMap.mpr ⟨e, List.mem_cons_of_mem _ he, q⟩)
    have nI : sI.heap.get? a = none := by
      cases q : sI.heap.get? a with
      | none => rfl
      | some ob =>
        have z := nb a ob q (by rw [hs]; exact nfr)
        rw [fl3.2.1] at z; cases z
    have n0 : X.s_0.heap.get? a = none := by
      cases q : X.s_0.heap.get? a with
      | none => rfl
      | some ob =>
        obtain ⟨o', e'⟩ := J.base.there a ob q (by rw [hex]; exact fun z => nomatch z)
        rw [nI] at e'; cases e'
    have nC : ∀ y c, X.env.cells.lookup y = some c → c ≠ a := fun y c e z => by
      obtain ⟨v, o', ho, _⟩ := J.cell y c e
      rw [z, nI] at ho; cases ho
    have nP : ∀ p ∈ X.pn ++ pins, p.1 ≠ a := fun p hp z => by
      have := (J.pin p hp).1
      rw [z, nI] at this; cases this
    have S3 := J3.suite he3 hd3 na nL nF
    refine wpAny_handleBy_cons (codeAny_handlers_test ?_) (by intro q; cases q)
    refine wpAny_Tuple (NmL.run (M := model X.prog X.w) S3 hc ⟨Nat.le_trans hcl (by decide), ?_⟩)
    have kp : ∀ q ob, h3.get? q = some ob → (h3.push { cls := .type "tuple", data := .seq cs.toArray }).get? q = some ob := fun _ _ z => Heap.get?_push_of_some _ z
    have LT : PySem.W.Looks (model X.prog X.w) h3 (typeOf (.ref a)) cls := fun A Q E s k q => wpAny_typeOf_ref (k _ _ he3) (by rw [hz3.1]; exact q)
    refine (exm_tupN (J3.kIn.keeps kp) (LT.keeps kp) (Heap.get?_push_size h3 rfl) hb1).here ?_
    have fl3' := flyZ_keeps fl3 kp
    have up3' : s'.heap.UpToSlots (h3.push { cls := .type "tuple", data := .seq cs.toArray }) := up3.trans (Heap.UpToSlots.of_keeps kp)
    cases b with
    | true =>
      obtain ⟨C, dx, rfl, rfl, q6⟩ := hyes rfl
      refine codeAny_handlers_suite_as ?_
      refine HandSPX.lands_againZ fl3' fun h4 fl4 up4 => ?_
      have J4 : Inv X pins σ' H' { s' with heap := h4 } := J.landed nb fl4.1 ((up.trans up3').trans up4) os ag
      obtain ⟨oe4, vs4, he4, hz4, hd4⟩ := fl4.there
      have S4 := J4.suite he4 hd4 na nL nF
      refine store_ok (X := X.suite a ((a, oe4) :: (X.pn ++ pins))) (v := .ref a) S4 hN hi (.inl hln) rfl (fun s5 S5 => ?_) (.inr hln)
      have hlt : i < σ'.length := by
        rw [J4.len]
        exact (List.getElem?_eq_some_iff.mp hi).1
      have su : PSs (X.suite a ((a, oe4) :: (X.pn ++ pins))) [.Assign [.Name x p1] (.Name n p2) p3] (tAsg (tVar i) (gName j)) := pss_one (ps_set (i := j) (hf := Or.inr hlx) hN hj (Or.inl hlx) (pe_var hi hvis hnd hncd))
      refine wpAny_mono (su.run [] s5 _ H' { nx := fun σ6 H6 => σ6 = (σ'.set i (some (.ref a))).set j (some (.ref a)) ∧ H6 = H', rt := fun _ _ => False, bk := fun _ _ => False, ct := fun _ _ => False } S5 ⟨.ref a, List.getElem?_set_self hlt, rfl, rfl⟩) (fun f s6 hsp => ?_) (fun _ _ z => False.elim z)
      cases f with
      | next =>
        obtain ⟨σ6, H6, S6, rfl, rfl⟩ := hsp
        have p6 := (S6.pin (a, oe4) (List.mem_append_left _ List.mem_cons_self)).1
        have J6 := S6.unsuite ok
        have T6 := Inv.track (o := exk a C dx) J6 n0 na nP nL nC (exk_ok p6 hz4 hd4)
        exact gone_ok T6 hN hi hln fun s7 J7 => ⟨_, _, J7, q6 a na⟩
      | brk => obtain ⟨_, _, _, z⟩ := hsp; exact z.elim
      | cont => obtain ⟨_, _, _, z⟩ := hsp; exact z.elim
      | ret u => obtain ⟨_, _, _, _, _, z⟩ := hsp; exact z.elim
    | false =>
      show wpAny _ X.A (handleBy (.ref a) X.env []) _ _ _
      refine wpAny_handleBy_nil ?_
      obtain ⟨k1, k2, k3, oe, vs, T, oT, ts', he, hz, hd, h1, hr⟩ := id fl3'
      unfold PySem.passOn
      refine wpAny_bind (wpAny_field he hd h1 ?_)
      rw [if_neg (show ¬ ((Value.ref T == Value.none) = true) from by simp)]
      have fin : wpAny (model X.prog X.w) X.A (setFlight (.ref a) X.env.frame) (fun _ s4 => wpAny (model X.prog X.w) X.A (throw (.ref a) : Sem Flow) (SP X pins D) X.xe s4) X.xe { s' with heap := h3.push { cls := .type "tuple", data := .seq cs.toArray } } := by
        rw [hf]
        refine HandSPX.setFlight_upZ fl3' fun h4 hh4 up4 => wpAny_throw (tk _ _ ?_)
        exact ⟨a, B, sI, pins, σ', H', cls, d, rfl, J, nb, (up.trans up3').trans up4, .inr (.inr (by rw [hs]; exact hh4)), na, os, ag, hno rfl⟩
      first
        | exact wpAny_bind (wpAny_pure (wpAny_bind fin))
        | exact wpAny_bind fin
  · cases f with
    | next =>
      obtain ⟨σ', H', J', q⟩ := hsp
      exact wpAny_execs_nil ⟨σ', H', J'.ofTry ok, q⟩
    | brk => obtain ⟨σ', H', J', q⟩ := hsp; exact ⟨σ', H', J'.ofTry ok, q⟩
    | cont => obtain ⟨σ', H', J', q⟩ := hsp; exact ⟨σ', H', J'.ofTry ok, q⟩
    | ret u => obtain ⟨v, σ', H', J', r, q⟩ := hsp; exact ⟨v, σ', H', J'.ofTry ok, r, q⟩
end
end DL

/-! DLx: defs that may raise, over data. -/
namespace DL
open PySem L2
/-- what a def that may raise computes -/
inductive RX (α : Type) where
  | ok (a : α)
  | ex (c : Str) (d : D)
  | bad
section
variable {X : Cx} {K : PySem.W.Frag} {Wx : WX} {ta tb te : TE} {tt : TT} {tas tks : TA} {t u : TS} {b0 : Option Addr} {B Z0 Z H : Hp} {σ : L2.St} {ρ : Rho}
/-! ### promises -/
def ExO (K : PySem.W.Frag) (H Z : Hp) (E : XK) (c : Str) (d : D) : Prop := ∀ C dx v H' Z', Same H H' → Grow H Z Z' H' → Cls K c C → Z' dx = some (.xd [(fld c, v)]) → Rp K Z' v d → E (.ref C) (some dx) H'
def spX (K : PySem.W.Frag) (np : Nat) (F : List D → RX D) : Sp := fun vs H Q E => vs.length = np ∧ ∃ Z ds, Same Z H ∧ RpA K Z vs ds ∧ match F ds with
  | .ok d => ∀ v H' Z', Same H H' → Grow H Z Z' H' → Rp K Z' v d → Q v H'
  | .ex c d => ExO K H Z E c d
  | .bad => False
def spXF (K : PySem.W.Frag) (np : Nat) (F : List D → RX (List D)) : Sp := fun vs H Q E => vs.length = np ∧ ∃ Z ds, Same Z H ∧ RpA K Z vs ds ∧ match F ds with
  | .ok es => ∀ p ws H' Z', Same H H' → Grow H Z Z' H' → H p = none → Z' p = none → H' p = some (.lst ws) → RpA K Z' ws es → Q (.ref p) H'
  | .ex c d => ExO K H Z E c d
  | .bad => False
def callX (np n : Nat) (g : GS) : List D → RX D := fun args => if args.length ≠ np then .bad else match g (env0 n args) with
  | .rt d _ => .ok d
  | .nx _ => .ok .none
  | .rf ds _ => .ok (.list ds)
  | .ex c d _ => .ex c d
  | _ => .bad
def callXF (np n : Nat) (g : GS) : List D → RX (List D) := fun args => if args.length ≠ np then .bad else match g (env0 n args) with
  | .rf ds _ => .ok ds
  | .ex c d _ => .ex c d
  | _ => .bad
theorem callX_len {np n : Nat} {g : GS} : ∀ ds, callX np n g ds ≠ .bad → ds.length = np := fun ds h => by
  unfold callX at h
  split at h
  · exact absurd rfl h
  · omega
theorem callXF_len {np n : Nat} {g : GS} : ∀ ds, callXF np n g ds ≠ .bad → ds.length = np := fun ds h => by
  unfold callXF at h
  split at h
  · exact absurd rfl h
  · omega
theorem run_X {N : List Str} {np : Nat} {g : GS} {vs : List V} {Q : VK} {E : XK} (h : DS K (fun cls d _ H => E cls d H) t g) (hk : np ≤ N.length) (hs : spX K np (callX np N.length g) vs H Q E) : t { nx := fun _ H' => Q .non H', rt := Q } (L2.start N vs) H := by
  obtain ⟨hl, Z, ds, sZ, ra, q⟩ := hs
  have ok := ok_start (N := N) sZ ra (by omega)
  refine h _ _ _ _ _ _ _ _ ok ?_
  unfold callX at q
  rw [if_neg (by rw [← ra.length]; omega)] at q
  cases e' : g (env0 N.length ds) with
  | rt d ρ' => rw [e'] at q; exact fun v σ' H' Z' ok' r => q v H' Z' ok'.bh ⟨ok'.zz, ok'.zh, ok'.nb⟩ r
  | nx ρ' => rw [e'] at q; exact fun σ' H' Z' ok' => q .non H' Z' ok'.bh ⟨ok'.zz, ok'.zh, ok'.nb⟩ .non
  | rf ds' ρ' =>
    rw [e'] at q
    intro p ws σ' H' Z' ok' zp bp ap hp r
    obtain ⟨ok2, s2⟩ := ok'.freeze zp bp ap hp
    exact q (.ref p) H' _ ok2.bh ⟨ok2.zz, ok2.zh, ok2.nb⟩ (.lst upd_same (r.mono s2))
  | ex c d ρ' => rw [e'] at q; exact fun σ' H' Z' C dx v ok' hc hx r => q C dx v H' Z' ok'.bh ⟨ok'.zz, ok'.zh, ok'.nb⟩ hc hx r
  | bk ρ' => rw [e'] at q; exact q.elim
  | ct ρ' => rw [e'] at q; exact q.elim
  | bad => rw [e'] at q; exact q.elim
theorem run_XF {N : List Str} {np : Nat} {g : GS} {vs : List V} {Q : VK} {E : XK} (h : DS K (fun cls d _ H => E cls d H) t g) (hk : np ≤ N.length) (hs : spXF K np (callXF np N.length g) vs H Q E) : t { nx := fun _ H' => Q .non H', rt := Q } (L2.start N vs) H := by
  obtain ⟨hl, Z, ds, sZ, ra, q⟩ := hs
  have ok := ok_start (N := N) sZ ra (by omega)
  refine h _ _ _ _ _ _ _ _ ok ?_
  unfold callXF at q
  rw [if_neg (by rw [← ra.length]; omega)] at q
  cases e' : g (env0 N.length ds) with
  | rf ds' ρ' =>
    rw [e'] at q
    intro p ws σ' H' Z' ok' zp bp ap hp r
    exact q p ws H' Z' ok'.bh ⟨ok'.zz, ok'.zh, ok'.nb⟩ bp zp hp r
  | ex c d ρ' => rw [e'] at q; exact fun σ' H' Z' C dx v ok' hc hx r => q C dx v H' Z' ok'.bh ⟨ok'.zz, ok'.zh, ok'.nb⟩ hc hx r
  | rt d ρ' => rw [e'] at q; exact q.elim
  | nx ρ' => rw [e'] at q; exact q.elim
  | bk ρ' => rw [e'] at q; exact q.elim
  | ct ρ' => rw [e'] at q; exact q.elim
  | bad => rw [e'] at q; exact q.elim
/-! ### calls of such a def -/
def RX.at {α : Type} (r : RX α) (ρ : Rho) : R α := match r with
  | .ok a => .ok a ρ
  | .ex c d => .ex c d ρ
  | .bad => .bad
def eCallX {α : Type} (F : List D → RX α) (ga : GA) (ρ : Rho) : R α := match ga ρ with
  | .ok os ρ1 => (match valA os with
    | some ds => (F ds).at ρ1
    | none => .bad)
  | _ => .bad
def eCallWX {α : Type} (F : List D → RX α) (m : Nat) (g : {α : Type} → List α → List α) (ga : GA) (ρ : Rho) : R α := match ga ρ with
  | .ok os ρ1 => (match valA os with
    | some ds => if ds.length = m then (F (g ds)).at ρ1 else .bad
    | none => .bad)
  | _ => .bad
theorem RX.at_ok {α : Type} {r : RX α} {ρ ρ' : Rho} {a : α} (h : r.at ρ = .ok a ρ') : r = .ok a ∧ ρ = ρ' := by
  cases r with
  | ok b => cases h; exact ⟨rfl, rfl⟩
  | ex c d => cases h
  | bad => cases h
theorem callX_ok {α : Type} {F : List D → RX α} {ga : GA} {ρ ρ' : Rho} {z : α} (e : eCallX F ga ρ = .ok z ρ') : ∃ os ds, ga ρ = .ok os ρ' ∧ valA os = some ds ∧ F ds = .ok z := by
  unfold eCallX at e
  split at e
  · rename_i os ρ1 h1
    split at e
    · rename_i ds hv
      obtain ⟨e3, rfl⟩ := RX.at_ok e
      exact ⟨os, ds, h1, hv, e3⟩
    · cases e
  · cases e
theorem callWX_ok {α : Type} {F : List D → RX α} {m : Nat} {g : {α : Type} → List α → List α} {ga : GA} {ρ ρ' : Rho} {z : α} (e : eCallWX F m g ga ρ = .ok z ρ') : ∃ os ds, ga ρ = .ok os ρ' ∧ valA os = some ds ∧ ds.length = m ∧ F (g ds) = .ok z := by
  unfold eCallWX at e
  split at e
  · rename_i os ρ1 h1
    split at e
    · rename_i ds hv
      split at e
      · rename_i hm
        obtain ⟨e3, rfl⟩ := RX.at_ok e
        exact ⟨os, ds, h1, hv, hm, e3⟩
      · cases e
    · cases e
  · cases e
theorem apart_new {p : Addr} (ok : Ok K b0 B Z0 Z H σ ρ) (hp : H p = none) : Apart σ ρ p := fun i es hi ho hq => by
  obtain ⟨q', vs', f1, _, _, f4, _⟩ := ok.own i es hi ho
  rw [f1] at hq; cases hq
  rw [hp] at f4; cases f4
theorem de_callX {np : Nat} {F : List D → RX D} {ga : GA} {E : XK} (hF : ∀ ds, F ds ≠ .bad → ds.length = np) (ha : DA K tas ga) : DE K (tCall (spX K np F) [] E tas) (eCallX F ga) := fun b0 B Z0 Z H σ ρ d ρ' Q ok e q => by
  obtain ⟨os, ds, e1, hv, e3⟩ := callX_ok e
  refine ha b0 B Z0 Z H σ ρ os ρ' _ ok e1 fun vs H1 Z1 ok1 s1 r1 => ?_
  have rA := valA_ok r1 hv
  refine ⟨by rw [List.append_nil, rA.length]; exact hF _ (by rw [e3]; exact fun z => nomatch z), Z1, ds, ok1.zh, by rw [List.append_nil]; exact rA, ?_⟩
  rw [e3]
  exact fun v H' Z' hh g r => q v H' Z' (ok1.grow hh g) (s1.trans g.1) r
theorem df_callXF {np : Nat} {F : List D → RX (List D)} {ga : GA} {E : XK} (hF : ∀ ds, F ds ≠ .bad → ds.length = np) (ha : DA K tas ga) : DF K (tCall (spXF K np F) [] E tas) (eCallX F ga) := fun b0 B Z0 Z H σ ρ d ρ' Q ok e q => by
  obtain ⟨os, ds, e1, hv, e3⟩ := callX_ok e
  refine ha b0 B Z0 Z H σ ρ os ρ' _ ok e1 fun vs H1 Z1 ok1 s1 r1 => ?_
  have rA := valA_ok r1 hv
  refine ⟨by rw [List.append_nil, rA.length]; exact hF _ (by rw [e3]; exact fun z => nomatch z), Z1, ds, ok1.zh, by rw [List.append_nil]; exact rA, ?_⟩
  rw [e3]
  exact fun p ws H' Z' hh g hp zp hp' r => q p ws H' Z' (ok1.grow hh g) (s1.trans g.1) zp (ok1.bh.free hp) (apart_new ok1 hp) hp' r
theorem de_callWX {m np : Nat} {F : List D → RX D} {g : {α : Type} → List α → List α} {ga : GA} {E : XK} (hg : ∀ {A C : Type} {rel : A → C → Prop} {zs : List A} {ws : List C}, Paired rel zs ws → Paired rel (g zs) (g ws)) (hF : ∀ ds, F ds ≠ .bad → ds.length = np) (ha : DA K tks ga) : DE K (tCallW (spX K np F) m g E tks) (eCallWX F m g ga) := fun b0 B Z0 Z H σ ρ d ρ' Q ok e q => by
  obtain ⟨os, ds, e1, hv, hm, e3⟩ := callWX_ok e
  refine ha b0 B Z0 Z H σ ρ os ρ' _ ok e1 fun vs H1 Z1 ok1 s1 r1 => ?_
  have rA := valA_ok r1 hv
  have rG : RpA K Z1 (g vs) (g ds) := RpA.of_paired (hg rA.paired)
  refine ⟨by rw [rA.length]; exact hm, by rw [rG.length]; exact hF _ (by rw [e3]; exact fun z => nomatch z), Z1, g ds, ok1.zh, rG, ?_⟩
  rw [e3]
  exact fun v H' Z' hh g r => q v H' Z' (ok1.grow hh g) (s1.trans g.1) r
theorem df_callWXF {m np : Nat} {F : List D → RX (List D)} {g : {α : Type} → List α → List α} {ga : GA} {E : XK} (hg : ∀ {A C : Type} {rel : A → C → Prop} {zs : List A} {ws : List C}, Paired rel zs ws → Paired rel (g zs) (g ws)) (hF : ∀ ds, F ds ≠ .bad → ds.length = np) (ha : DA K tks ga) : DF K (tCallW (spXF K np F) m g E tks) (eCallWX F m g ga) := fun b0 B Z0 Z H σ ρ d ρ' Q ok e q => by
  obtain ⟨os, ds, e1, hv, hm, e3⟩ := callWX_ok e
  refine ha b0 B Z0 Z H σ ρ os ρ' _ ok e1 fun vs H1 Z1 ok1 s1 r1 => ?_
  have rA := valA_ok r1 hv
  have rG : RpA K Z1 (g vs) (g ds) := RpA.of_paired (hg rA.paired)
  refine ⟨by rw [rA.length]; exact hm, by rw [rG.length]; exact hF _ (by rw [e3]; exact fun z => nomatch z), Z1, g ds, ok1.zh, rG, ?_⟩
  rw [e3]
  exact fun p ws H' Z' hh g hp zp hp' r => q p ws H' Z' (ok1.grow hh g) (s1.trans g.1) zp (ok1.bh.free hp) (apart_new ok1 hp) hp' r
/-! ### expressions that may raise -/
def SatE (K : PySem.W.Frag) (Wx : WX) (b0 : Option Addr) (B Z0 Z : Hp) (σ : L2.St) (Q : VK) : R D → Prop
  | .ok d ρ => ∀ v H' Z', Ok K b0 B Z0 Z' H' σ ρ → Same Z Z' → Rp K Z' v d → Q v H'
  | .ex c d ρ => ∀ H' Z' C dx v, Ok K b0 B Z0 Z' H' σ ρ → Same Z Z' → Cls K c C → Z' dx = some (.xd [(fld c, v)]) → Rp K Z' v d → Wx (.ref C) (some dx) σ H'
  | .bad => False
def XD (K : PySem.W.Frag) (Wx : WX) (t : TE) (g : GE) : Prop := ∀ b0 B Z0 Z H σ ρ (Q : VK), Ok K b0 B Z0 Z H σ ρ → SatE K Wx b0 B Z0 Z σ Q (g ρ) → t σ H Q
/-- an expression that raises nothing -/
def xE (g : GE) (ρ : Rho) : R D := match g ρ with
  | .ok d ρ' => .ok d ρ'
  | _ => .bad
theorem xd_e {g : GE} (h : DE K te g) : XD K Wx te (xE g) := fun b0 B Z0 Z H σ ρ Q ok s => by
  unfold xE at s
  cases e : g ρ with
  | ok d ρ' => rw [e] at s; exact h b0 B Z0 Z H σ ρ d ρ' Q ok e s
  | ex c d ρ' => rw [e] at s; exact s.elim
  | bad => rw [e] at s; exact s.elim
theorem callX_run {np : Nat} {F : List D → RX D} {b0 : Option Addr} {B Z0 Z Z1 H H1 : Hp} {σ : L2.St} {ρ1 : Rho} {Q : VK} {vs : List V} {ds : List D} (hF : ∀ ds, F ds ≠ .bad → ds.length = np) (ok1 : Ok K b0 B Z0 Z1 H1 σ ρ1) (s1 : Same Z Z1) (rA : RpA K Z1 vs ds) (s : SatE K Wx b0 B Z0 Z σ Q ((F ds).at ρ1)) : spX K np F vs H1 Q (WE Wx σ) := by
  cases e : F ds with
  | ok d =>
    rw [e] at s
    refine ⟨by rw [rA.length]; exact hF _ (by rw [e]; exact fun z => nomatch z), Z1, ds, ok1.zh, rA, ?_⟩
    rw [e]
    exact fun v H' Z' hh g r => s v H' Z' (ok1.grow hh g) (s1.trans g.1) r
  | ex c d =>
    rw [e] at s
    refine ⟨by rw [rA.length]; exact hF _ (by rw [e]; exact fun z => nomatch z), Z1, ds, ok1.zh, rA, ?_⟩
    rw [e]
    exact fun C dx v H' Z' hh g hc hx r => s H' Z' C dx v (ok1.grow hh g) (s1.trans g.1) hc hx r
  | bad => rw [e] at s; exact s.elim
theorem callXF_run {np : Nat} {F : List D → RX (List D)} {b0 : Option Addr} {B Z0 Z Z1 H H1 : Hp} {σ : L2.St} {ρ1 : Rho} {Q : VK} {vs : List V} {ds : List D} (hF : ∀ ds, F ds ≠ .bad → ds.length = np) (ok1 : Ok K b0 B Z0 Z1 H1 σ ρ1) (s1 : Same Z Z1) (rA : RpA K Z1 vs ds) (s : SatE K Wx b0 B Z0 Z σ Q (((F ds).at ρ1).map .list)) : spXF K np F vs H1 Q (WE Wx σ) := by
  cases e : F ds with
  | ok d =>
    rw [e] at s
    refine ⟨by rw [rA.length]; exact hF _ (by rw [e]; exact fun z => nomatch z), Z1, ds, ok1.zh, rA, ?_⟩
    rw [e]
    intro p ws H' Z' hh g hp zp hp' r
    have ok2 := ok1.grow hh g
    obtain ⟨ok3, s3⟩ := ok2.freeze zp (ok1.bh.free hp) (apart_new ok1 hp) hp'
    exact s (.ref p) H' _ ok3 ((s1.trans g.1).trans s3) (.lst upd_same (r.mono s3))
  | ex c d =>
    rw [e] at s
    refine ⟨by rw [rA.length]; exact hF _ (by rw [e]; exact fun z => nomatch z), Z1, ds, ok1.zh, rA, ?_⟩
    rw [e]
    exact fun C dx v H' Z' hh g hc hx r => s H' Z' C dx v (ok1.grow hh g) (s1.trans g.1) hc hx r
  | bad => rw [e] at s; exact s.elim
def xL (g : GF) (ρ : Rho) : R D := (g ρ).map .list
theorem satE_call {α : Type} {F : List D → RX α} {ga : GA} {m : α → D} {b0 : Option Addr} {B Z0 Z : Hp} {Q : VK} (s : SatE K Wx b0 B Z0 Z σ Q ((eCallX F ga ρ).map m)) : ∃ os ds ρ1, ga ρ = .ok os ρ1 ∧ valA os = some ds ∧ SatE K Wx b0 B Z0 Z σ Q (((F ds).at ρ1).map m) := by
  unfold eCallX at s
  split at s
  · rename_i os ρ1 h1
    split at s
    · rename_i ds hv
      exact ⟨os, ds, ρ1, h1, hv, s⟩
    · exact s.elim
  · exact s.elim
theorem satE_callW {α : Type} {F : List D → RX α} {n : Nat} {g : {α : Type} → List α → List α} {ga : GA} {m : α → D} {b0 : Option Addr} {B Z0 Z : Hp} {Q : VK} (s : SatE K Wx b0 B Z0 Z σ Q ((eCallWX F n g ga ρ).map m)) : ∃ os ds ρ1, ga ρ = .ok os ρ1 ∧ valA os = some ds ∧ ds.length = n ∧ SatE K Wx b0 B Z0 Z σ Q (((F (g ds)).at ρ1).map m) := by
  unfold eCallWX at s
  split at s
  · rename_i os ρ1 h1
    split at s
    · rename_i ds hv
      split at s
      · rename_i hm; exact ⟨os, ds, ρ1, h1, hv, hm, s⟩
      · exact s.elim
    · exact s.elim
  · exact s.elim
theorem R.map_id {α : Type} (r : R α) : r.map (fun x => x) = r := by cases r <;> rfl
theorem xd_callX {np : Nat} {F : List D → RX D} {ga : GA} (hF : ∀ ds, F ds ≠ .bad → ds.length = np) (ha : DA K tas ga) : XD K Wx (tCallS (spX K np F) (WE Wx) tas) (eCallX F ga) := fun b0 B Z0 Z H σ ρ Q ok s => by
  rw [← R.map_id (eCallX F ga ρ)] at s
  obtain ⟨os, ds, ρ1, e1, hv, s⟩ := satE_call s
  rw [R.map_id] at s
  exact ha b0 B Z0 Z H σ ρ os ρ1 _ ok e1 fun vs H1 Z1 ok1 s1 r1 => callX_run (H := H) hF ok1 s1 (valA_ok r1 hv) s
theorem xd_callXF {np : Nat} {F : List D → RX (List D)} {ga : GA} (hF : ∀ ds, F ds ≠ .bad → ds.length = np) (ha : DA K tas ga) : XD K Wx (tCallS (spXF K np F) (WE Wx) tas) (xL (eCallX F ga)) := fun b0 B Z0 Z H σ ρ Q ok s => by
  obtain ⟨os, ds, ρ1, e1, hv, s⟩ := satE_call s
  exact ha b0 B Z0 Z H σ ρ os ρ1 _ ok e1 fun vs H1 Z1 ok1 s1 r1 => callXF_run (H := H) hF ok1 s1 (valA_ok r1 hv) s
/-! keywords -/
def tCallWS (sp : Sp) (m : Nat) (g : {α : Type} → List α → List α) (E : L2.St → XK) (tk : TA) : TE := fun σ H Q => tk σ H fun zs H2 => zs.length = m ∧ sp (g zs) H2 Q (E σ)
theorem pe_callWS {CX : CXT} {k : Nat} {f : Addr} {fd : FuncData} {ps ks : List Str} {sp : Sp} {E : L2.St → XK} {x : Str} {p pos : Pos} {kws : List Keyword} {g : {α : Type} → List α → List α} (F : FnOk X.prog X.w X.K X.mg X.base CX k f fd ps sp) (hr : Room k X.A) (hg : Gl X x) (hm : X.mg x = some (.ref f)) (hk : PySem.W.keepIn X.K (.ref f) = true) (hb : KwB X.K fd ps ks g) (hx : ∀ σ, PassesAt CX X σ (E σ)) (hkw : PK X kws tks)
    (c1 : (backToKw pos (keywordEach kws X.env)).all (·.1.isSome) = true := by rfl) (c2 : (backToKw pos (keywordEach kws X.env)).filterMap (·.1) = ks := by rfl) (c3 : (x == ("__debug__" : Str)) = false := by decide)
    (c4 : ((backTo pos (starEach [] X.env)).any (·.1) || (backToKw pos (keywordEach kws X.env)).any (·.1.isNone)) = false := by rfl) : PE X (.Call (.Name x p) [] kws pos) (tCallWS sp ks.length g E tks) := by
  refine ⟨fun pins s σ H Q I h => wpAny_Call_Name_kw (ld_glob I hg hm (PySem.W.callWith_KW0 (h₀ := X.base) I.ok.mod.kin hk c1 ?_ c4) c3)⟩
  refine thn (hkw.run pos pins s σ H _ I h) fun ws s2 ⟨zs, H2, I2, rz, l2, q2⟩ => ⟨I2.kIn, ?_⟩
  rw [c2]
  refine wpAny_call (codeAny_mono (F.run X.A X.stack s2 H2 ⟨[], ks.zip ws⟩ (g ws) (g zs) Q (E σ) hr I2.env0 (hb.to s2 ws I2.kIn (rz.length.symm.trans l2)) (hb.rel rz) q2) fun r s' hq => ?_)
  cases r with
  | error e => exact hx σ pins H2 s2 e s' I2 hq
  | ok fl => cases fl <;> first | exact I2.after hq | exact hq.elim
theorem xd_callWX {m np : Nat} {F : List D → RX D} {g : {α : Type} → List α → List α} {ga : GA} (hg : ∀ {A C : Type} {rel : A → C → Prop} {zs : List A} {ws : List C}, Paired rel zs ws → Paired rel (g zs) (g ws)) (hF : ∀ ds, F ds ≠ .bad → ds.length = np) (ha : DA K tks ga) : XD K Wx (tCallWS (spX K np F) m g (WE Wx) tks) (eCallWX F m g ga) := fun b0 B Z0 Z H σ ρ Q ok s => by
  rw [← R.map_id (eCallWX F m g ga ρ)] at s
  obtain ⟨os, ds, ρ1, e1, hv, hm, s⟩ := satE_callW s
  rw [R.map_id] at s
  refine ha b0 B Z0 Z H σ ρ os ρ1 _ ok e1 fun vs H1 Z1 ok1 s1 r1 => ?_
  have rA := valA_ok r1 hv
  exact ⟨by rw [rA.length]; exact hm, callX_run (H := H) hF ok1 s1 (RpA.of_paired (hg rA.paired)) s⟩
theorem xd_callWXF {m np : Nat} {F : List D → RX (List D)} {g : {α : Type} → List α → List α} {ga : GA} (hg : ∀ {A C : Type} {rel : A → C → Prop} {zs : List A} {ws : List C}, Paired rel zs ws → Paired rel (g zs) (g ws)) (hF : ∀ ds, F ds ≠ .bad → ds.length = np) (ha : DA K tks ga) : XD K Wx (tCallWS (spXF K np F) m g (WE Wx) tks) (xL (eCallWX F m g ga)) := fun b0 B Z0 Z H σ ρ Q ok s => by
  obtain ⟨os, ds, ρ1, e1, hv, hm, s⟩ := satE_callW s
  refine ha b0 B Z0 Z H σ ρ os ρ1 _ ok e1 fun vs H1 Z1 ok1 s1 r1 => ?_
  have rA := valA_ok r1 hv
  exact ⟨by rw [rA.length]; exact hm, callXF_run (H := H) hF ok1 s1 (RpA.of_paired (hg rA.paired)) s⟩
/-! x if t else y -/
def xIf (c : GT) (a b : GE) (ρ : Rho) : R D := match c ρ with
  | .ok k ρ1 => if k then a ρ1 else b ρ1
  | _ => .bad
theorem SatE.mono {Z1 : Hp} {Q : VK} {r : R D} (s1 : Same Z Z1) (s : SatE K Wx b0 B Z0 Z σ Q r) : SatE K Wx b0 B Z0 Z1 σ Q r := by
  cases r with
  | ok d ρ => exact fun v H' Z' ok' s' r => s v H' Z' ok' (s1.trans s') r
  | ex c d ρ => exact fun H' Z' C dx v ok' s' => s H' Z' C dx v ok' (s1.trans s')
  | bad => exact s
theorem xd_if {c : GT} {g k : GE} (hc : DT K tt c) (h : XD K Wx ta g) (h2 : XD K Wx tb k) : XD K Wx (tIf tt ta tb) (xIf c g k) := fun b0 B Z0 Z H σ ρ Q ok s => by
  unfold xIf at s
  split at s
  · rename_i b ρ1 e1
    refine hc b0 B Z0 Z H σ ρ b ρ1 _ ok e1 fun H1 Z1 ok1 s1 => ?_
    cases b with
    | true => exact h b0 B Z0 Z1 H1 σ ρ1 Q ok1 (s.mono s1)
    | false => exact h2 b0 B Z0 Z1 H1 σ ρ1 Q ok1 (s.mono s1)
  · exact s.elim
/-- f(x), x raising, f a built-in of data -/
def xCb1 (f : List D → Option D) (g : GE) (ρ : Rho) : R D := (g ρ).bind fun d ρ1 => R.lift (f [d]) ρ1
theorem xd_cb1 {r : List V → Hp → VK → Prop} {f : List D → Option D} {g : GE} (sn : SnA K r f) (h : XD K Wx te g) : XD K Wx (tCB r (tCons te tNil)) (xCb1 f g) := fun b0 B Z0 Z H σ ρ Q ok s => by
  refine h b0 B Z0 Z H σ ρ _ ok ?_
  unfold xCb1 at s
  cases e : g ρ with
  | ok d ρ1 =>
    rw [e] at s
    intro v H1 Z1 ok1 s1 r1
    cases e2 : f [d] with
    | none => rw [R.ok_bind, e2] at s; exact s.elim
    | some c =>
      rw [R.ok_bind, e2] at s
      exact sn b0 B Z0 Z1 H1 σ ρ1 [v] [d] c Q ok1 (.cons (r1.bd ok1.zh) .nil) e2 fun w H2 Z2 ok2 s2 r2 => s w H2 Z2 ok2 (s1.trans s2) r2
  | ex c d ρ1 => rw [e] at s; exact s
  | bad => rw [e] at s; exact s
/-! ### statements -/
def R.toX {α : Type} (r : R α) (f : α → Rho → O) : O := match r with
  | .ok a ρ => f a ρ
  | .ex c d ρ => .ex c d ρ
  | .bad => .bad
theorem Sat.toX {r : R D} {f : D → Rho → O} {E : Ends} {Q : VK} (s : Sat K Wx b0 B Z0 E (r.toX f)) (ok : Ok K b0 B Z0 Z H σ ρ) (h : ∀ d ρ', r = .ok d ρ' → Sat K Wx b0 B Z0 E (f d ρ') → ∀ v H' Z', Ok K b0 B Z0 Z' H' σ ρ' → Rp K Z' v d → Q v H') : SatE K Wx b0 B Z0 Z σ Q r := by
  cases r with
  | ok d ρ' => exact fun v H' Z' ok' _ r => h d ρ' rfl s v H' Z' ok' r
  | ex c d ρ' => exact fun H' Z' C dx v ok' _ hc hx r => s σ H' Z' C dx v ok' hc hx r
  | bad => exact s
def sSetX (i : Nat) (g : GE) (ρ : Rho) : O := (g ρ).toX fun d ρ1 => .nx (ρ1.set i (.sh d))
def sRetX (g : GE) (ρ : Rho) : O := (g ρ).toX .rt
def sDropX (g : GE) (ρ : Rho) : O := (g ρ).toX fun _ ρ => .nx ρ
theorem ds_setX {i : Nat} {g : GE} (h : XD K Wx te g) : DS K Wx (tAsg te (gName i)) (sSetX i g) := fun b0 B Z0 Z H σ ρ E ok s =>
  h b0 B Z0 Z H σ ρ _ ok (Sat.toX s ok fun d ρ' _ s v H' Z' ok' r => s _ H' Z' (ok'.put r))
theorem ds_retX {g : GE} (h : XD K Wx te g) : DS K Wx (tRet te) (sRetX g) := fun b0 B Z0 Z H σ ρ E ok s =>
  h b0 B Z0 Z H σ ρ _ ok (Sat.toX s ok fun d ρ' _ s v H' Z' ok' r => s v σ H' Z' ok' r)
theorem ds_dropX {g : GE} (h : XD K Wx te g) : DS K Wx (tDrop te) (sDropX g) := fun b0 B Z0 Z H σ ρ E ok s =>
  h b0 B Z0 Z H σ ρ _ ok (Sat.toX s ok fun d ρ' _ s v H' Z' ok' r => s σ H' Z' ok')
def sRaise (c : Str) (g : GE) (ρ : Rho) : O := (g ρ).to fun d ρ1 => .ex c d ρ1
theorem ds_raise {c f : Str} {C : Addr} {g : GE} (hc : Cls K c C) (hf : f = fld c) (h : DE K te g) : DS K Wx (fun _ σ H => tMk1 C f (tCons te tNil) σ H fun cls d H' => Wx cls d σ H') (sRaise c g) := fun b0 B Z0 Z H σ ρ E ok s => by
  obtain ⟨d, ρ', e, s⟩ := Sat.to s
  subst hf
  refine h b0 B Z0 Z H σ ρ d ρ' _ ok e fun v H1 Z1 ok1 s1 r1 => ⟨v, rfl, fun dx hdx => ?_⟩
  obtain ⟨ok2, s2⟩ := ok1.new (o := .xd [(fld c, v)]) hdx
  exact s σ _ _ C dx v ok2 hc upd_same (r1.mono s2)
end
end DL

/-! DLy: the try over data; isinstance, fields and making of exceptions. -/
namespace DL
open PySem PySem.Spec PyProof.Rows L2
/-! ### the table of classes -/
def baseT : List (Str × List Str) := [("NoPerson", ["LookupError"]), ("NoPlace", ["LookupError"]), ("NoNumber", ["LookupError"]), ("NoDeed", ["LookupError"]), ("OtherPeople", ["ValueError"]), ("NotWay", ["ValueError"]), ("BadDeed", ["ValueError"]), ("BadText", ["ValueError"]), ("BadLine", ["ValueError"]), ("Barred", ["RuntimeError"]), ("TooMany", ["OverflowError", "ArithmeticError"]), ("Full", ["OverflowError", "ArithmeticError"])]
def subC (c t : Str) : Bool := t == c || ((baseT.lookup c).getD []).contains t || t == "Exception" || t == "BaseException"
def valOf (K : PySem.W.Frag) (T : Str) : Option Value := match PySem.W.nsIn K mainGlobals T with
  | some (some u) => some u
  | some none => bootBuiltins T
  | none => none
def exB (K : PySem.W.Frag) (c : Str) : Bool := match PySem.W.nsIn K mainGlobals c with
  | some (some (.ref C)) => (PySem.W.clsIn K C).isSome && (decide (PySem.W.findIn K (.ref C) "__getattribute__" = some (some (.builtin "BaseException.__getattribute__"))) && (decide (PySem.W.findIn K (.ref C) "__getattr__" = some none) && (decide (PySem.W.subIn K (.ref C) (.type "BaseException") = some true) &&
    (decide (PySem.W.findIn K (.ref C) "__class__" = some (some (.builtin "object.__class__"))) && (decide (PySem.W.specialIn K (.builtin "object.__class__") "__get__" = some (some (.builtin "getset_descriptor.__get__"))) && (decide (PySem.W.takesIn K (.builtin "object.__class__") = some true) &&
    (decide (PySem.W.mroIn K C (.type "object") = some true) && (PySem.W.hasDictIn K C && decide (PySem.W.findIn K (.ref C) (fld c) = some none)))))))))
  | _ => false
structure ExF (K : PySem.W.Frag) (c : Str) (C : Addr) : Prop where
  cl : (PySem.W.clsIn K C).isSome = true
  ga : PySem.W.findIn K (.ref C) "__getattribute__" = some (some (.builtin "BaseException.__getattribute__"))
  gg : PySem.W.findIn K (.ref C) "__getattr__" = some none
  sb : PySem.W.subIn K (.ref C) (.type "BaseException") = some true
  fc : PySem.W.findIn K (.ref C) "__class__" = some (some (.builtin "object.__class__"))
  sp : PySem.W.specialIn K (.builtin "object.__class__") "__get__" = some (some (.builtin "getset_descriptor.__get__"))
  tk : PySem.W.takesIn K (.builtin "object.__class__") = some true
  mr : PySem.W.mroIn K C (.type "object") = some true
  hd : PySem.W.hasDictIn K C = true
  no : PySem.W.findIn K (.ref C) (fld c) = some none
theorem exB_ok {K : PySem.W.Frag} {c : Str} {C : Addr} (h : exB K c = true) (hc : Cls K c C) : ExF K c C := by
  unfold exB at h
  rw [show PySem.W.nsIn K mainGlobals c = some (some (.ref C)) from hc] at h
  simp only [Bool.and_eq_true, decide_eq_true_eq] at h
  obtain ⟨a, b, c, d, e, f, g, i, j, k⟩ := h
  exact ⟨a, b, c, d, e, f, g, i, j, k⟩
def etB (K : PySem.W.Frag) (Cs Ts : List Str) : Bool := Cs.all (exB K) && Ts.all fun T => match valOf K T with
  | some u => decide (PySem.W.kitOne K (.type "NoneType") u = some false) && Cs.all fun c => match PySem.W.nsIn K mainGlobals c with
    | some (some (.ref C)) => decide (PySem.W.kitOne K (.ref C) u = some (subC c T)) && decide (PySem.W.exmOne K (.ref C) u = some (subC c T))
    | _ => false
  | none => false
section
variable {K : PySem.W.Frag} {Cs Ts : List Str}
theorem et_cls {c : Str} {C : Addr} (h : etB K Cs Ts = true) (hc : c ∈ Cs) (hC : Cls K c C) : ExF K c C := by
  unfold etB at h
  rw [Bool.and_eq_true] at h
  exact exB_ok (List.all_eq_true.mp h.1 c hc) hC
theorem et_non {T : Str} {u : Value} (h : etB K Cs Ts = true) (hT : T ∈ Ts) (hu : valOf K T = some u) : PySem.W.kitOne K (.type "NoneType") u = some false := by
  unfold etB at h
  rw [Bool.and_eq_true] at h
  have := List.all_eq_true.mp h.2 T hT
  rw [hu] at this
  simp only [Bool.and_eq_true, decide_eq_true_eq] at this
  exact this.1
theorem et_sub {T c : Str} {u : Value} {C : Addr} (h : etB K Cs Ts = true) (hT : T ∈ Ts) (hu : valOf K T = some u) (hc : c ∈ Cs) (hC : Cls K c C) : PySem.W.kitOne K (.ref C) u = some (subC c T) ∧ PySem.W.exmOne K (.ref C) u = some (subC c T) := by
  unfold etB at h
  rw [Bool.and_eq_true] at h
  have := List.all_eq_true.mp h.2 T hT
  rw [hu] at this
  simp only [Bool.and_eq_true] at this
  have := List.all_eq_true.mp this.2 c hc
  rw [show PySem.W.nsIn K mainGlobals c = some (some (.ref C)) from hC] at this
  simp only [Bool.and_eq_true, decide_eq_true_eq] at this
  exact this
end
/-- the values of classes by their names -/
inductive VTs (K : PySem.W.Frag) : List Str → List V → List Value → Prop
  | nil : VTs K [] [] []
  | cons {T : Str} {cv : V} {u : Value} {Ts : List Str} {cvs : List V} {us : List Value} (h : ClsV cv u) (e : valOf K T = some u) (r : VTs K Ts cvs us) : VTs K (T :: Ts) (cv :: cvs) (u :: us)
theorem vt_own {K : PySem.W.Frag} {c : Str} {C : Addr} {Ts : List Str} {cvs : List V} {us : List Value} (h : Cls K c C) (r : VTs K Ts cvs us) : VTs K (c :: Ts) (.ref C :: cvs) (.ref C :: us) :=
  .cons (.own C) (by unfold valOf; rw [show PySem.W.nsIn K mainGlobals c = some (some (.ref C)) from h]) r
theorem vt_ty {K : PySem.W.Frag} {T : Str} {n : String} {Ts : List Str} {cvs : List V} {us : List Value} (h : PySem.W.nsIn K mainGlobals T = some none) (hb : bootBuiltins T = some (.type n)) (r : VTs K Ts cvs us) : VTs K (T :: Ts) (.ty n :: cvs) (.type n :: us) :=
  .cons (.ty n) (by unfold valOf; rw [h]; exact hb) r
section
variable {X : Cx} {K : PySem.W.Frag} {Wx : WX} {ta tb te : TE} {tt : TT} {tas tks : TA} {t u : TS} {b0 : Option Addr} {B Z0 Z H : Hp} {σ : L2.St} {ρ : Rho} {Cs Ts Us : List Str}
theorem VTs.paired : ∀ {Ts : List Str} {cvs : List V} {us : List Value}, VTs K Ts cvs us → Paired ClsV cvs us
  | _, _, _, .nil => .nil
  | _, _, _, .cons h _ r => .cons h (VTs.paired r)
theorem VTs.len : ∀ {Ts : List Str} {cvs : List V} {us : List Value}, VTs K Ts cvs us → cvs.length = Ts.length
  | _, _, _, .nil => rfl
  | _, _, _, .cons h _ r => by rw [List.length_cons, List.length_cons, VTs.len r]
theorem VTs.non (et : etB K Cs Us = true) : ∀ {Ts : List Str} {cvs : List V} {us : List Value}, VTs K Ts cvs us → (∀ T ∈ Ts, T ∈ Us) → PySem.W.kitAny K (.type "NoneType") us = some false
  | _, _, _, .nil, _ => rfl
  | _, _, _, .cons h e r, s => kitAny_cons (et_non et (s _ List.mem_cons_self) e) (fun _ => VTs.non et r fun T hT => s T (List.mem_cons_of_mem _ hT)) fun z => nomatch z
theorem VTs.any (et : etB K Cs Us = true) {c : Str} {C : Addr} (hc : c ∈ Cs) (hC : Cls K c C) : ∀ {Ts : List Str} {cvs : List V} {us : List Value}, VTs K Ts cvs us → (∀ T ∈ Ts, T ∈ Us) → PySem.W.kitAny K (.ref C) us = some (Ts.any (subC c)) ∧ PySem.W.exmAny K (.ref C) us = some (Ts.any (subC c))
  | _, _, _, .nil, _ => ⟨rfl, rfl⟩
  | _, _, _, .cons (T := T) (Ts := Ts) h e r, s => by
    obtain ⟨e1, e2⟩ := et_sub et (s _ List.mem_cons_self) e hc hC
    obtain ⟨i1, i2⟩ := VTs.any et hc hC r fun T hT => s T (List.mem_cons_of_mem _ hT)
    rw [List.any_cons]
    refine ⟨?_, ?_⟩
    · cases q : subC c T with
      | true => rw [q] at e1; exact kitAny_cons e1 (fun z => nomatch z) fun _ => rfl
      | false => rw [q] at e1; exact kitAny_cons e1 (fun _ => by rw [Bool.false_or]; exact i1) fun z => nomatch z
    · unfold PySem.W.exmAny
      rw [e2, i2]
/-! ### isinstance -/
inductive TyE (K : PySem.W.Frag) (H : Hp) : V → Value → Prop
  | non : TyE K H .non (.type "NoneType")
  | exc {a C d : Addr} {c : Str} {fs : List (Str × V)} (e : H a = some (exk a C d)) (ed : H d = some (.xd fs)) (f : ExF K c C) : TyE K H (.ref a) (.ref C)
def rIsX (K : PySem.W.Frag) : List V → Hp → VK → Prop := fun xs H Q => ∃ (x c : V) (t u : Value) (b : Bool), xs = [x, c] ∧ ClsV c u ∧ TyE K H x t ∧ PySem.W.kitOne K t u = some b ∧ Q (.bl b) H
def rIsXT (K : PySem.W.Frag) : List V → Hp → VK → Prop := fun xs H Q => ∃ (x : V) (tp : Addr) (cs : List V) (t : Value) (us : List Value) (b : Bool), xs = [x, .ref tp] ∧ H tp = some (.tup cs) ∧ Paired ClsV cs us ∧ TyE K H x t ∧ PySem.W.kitAny K t us = some b ∧ Q (.bl b) H
theorem kitE_of {pins : List (Addr × Obj)} {s : Shared} {x : V} {u t : Value} (I : Inv X pins σ H s) (rx : RelV x u) (ty : TyE X.K H x t) : ∃ P : Heap → Prop, PySem.W.KitX X.K u t P ∧ P s.heap ∧ u ≠ .builtin "__main__.__loader__#opaque" := by
  cases ty with
  | non => cases (show u = Value.none from rx); exact ⟨_, PySem.W.kitx_none, True.intro, fun z => nomatch z⟩
  | @exc a C d c fs ea ed f =>
    cases (show u = Value.ref a from rx)
    obtain ⟨oe, vs, h1, h2, h3⟩ := exk_at I.hok ea
    obtain ⟨mA, ⟨o, es, ep, ho, _⟩, _⟩ := (show ObjOk X.prog X.w H s.heap d (.xd fs) from I.hok d _ ed)
    have J : PySem.W.InstAt s.heap a oe C (some o) := ⟨h1, h2.1, by unfold PySem.W.notCls; rw [h3] <;> rfl, by rw [h2.2]; exact ho⟩
    exact ⟨_, PySem.W.kitx_exc f.cl f.ga f.gg f.sb f.fc f.sp f.tk f.mr, J, fun z => nomatch z⟩
theorem call_isX : CallR X (.builtin "isinstance") (rIsX X.K) := by
  intro pins s σ H xs us Q I r h
  obtain ⟨x, c, t, u, b, rfl, k, ty, e, q⟩ := h
  obtain ⟨u1, u2, rfl, r1, r2⟩ := vals2 r
  have e2 := k.eq r2
  subst e2
  obtain ⟨P, Zk, p, hx⟩ := kitE_of I r1 ty
  exact PySem.W.kia_one Zk I.kIn p e hx fun tk => ⟨.bl b, H, I.tok tk, rfl, q⟩
theorem call_isXT : CallR X (.builtin "isinstance") (rIsXT X.K) := by
  intro pins s σ H xs us Q I r h
  obtain ⟨x, tp, cs, t, ws, b, rfl, hT, k, ty, e, q⟩ := h
  obtain ⟨u1, u2, rfl, r1, r2⟩ := vals2 r
  cases (show u2 = Value.ref tp from r2)
  obtain ⟨P, Zk, p, hx⟩ := kitE_of I r1 ty
  obtain ⟨_, its, rv, o, h1, h2, n, h3⟩ := (show ObjOk X.prog X.w H s.heap tp (.tup cs) from I.hok tp _ hT)
  have e3 := ClsV.all k rv
  subst e3
  obtain ⟨oc, od, dt, sl⟩ := o
  simp only at h2 h3
  subst h2 h3
  exact PySem.W.kia_tup Zk I.kIn p h1 e hx fun tk => ⟨.bl b, H, I.tok tk, rfl, q⟩
/-- isinstance(x, one of Ts), x None or an exception of a class in Cs -/
def isX (Cs Ts : List Str) : D → Option D
  | .none => some (.bool false)
  | .dict [(.none, .str c), (.none, _)] => if Cs.contains c then some (.bool (Ts.any (subC c))) else none
  | _ => none
theorem isX_ty {us : List Value} {cvs : List V} {v : V} {d c : D} {b : Option D} (et : etB K Cs Us = true) (vt : VTs K Ts cvs us) (sub : ∀ T ∈ Ts, T ∈ Us) (s : Same Z H) (h : Bd K Z H v d) (e : isX Cs Ts d = some c) : ∃ t b, c = .bool b ∧ TyE K H v t ∧ PySem.W.kitAny K t us = some b := by
  unfold isX at e
  split at e
  · cases e; cases h
    exact ⟨_, false, rfl, .non, vt.non et sub⟩
  · rename_i c' p
    split at e
    · rename_i hc
      cases e
      cases h with
      | exc h1 h2 h3 r =>
        have hm : c' ∈ Cs := List.elem_iff.mp hc
        exact ⟨_, _, rfl, .exc (s _ _ h1) (s _ _ h2) (et_cls et hm h3), (vt.any et hm h3 sub).1⟩
    · cases e
  · cases e
theorem de_isX {T : Str} {cv : V} {us : List Value} {g : GO} (et : etB K Cs Us = true) (vt : VTs K [T] [cv] us) (sub : ∀ T' ∈ [T], T' ∈ Us) (h : DO K te g) : DE K (tCB (rIsX K) (tCons te (tCons (tC cv) tNil))) (eOp1 (isX Cs [T]) g) := fun b0 B Z0 Z H σ ρ d ρ' Q ok e q => by
  obtain ⟨x, a, e1, e3, e5⟩ := op1_ok e
  refine h b0 B Z0 Z H σ ρ x ρ' _ ok e1 fun v H1 Z1 ok1 s1 r1 => ?_
  obtain ⟨t, b, rfl, ty, ka⟩ := isX_ty (b := none) et vt sub ok1.zh (ok1.bd r1 e3) e5
  cases vt with
  | @cons _ _ u0 _ _ _ hc _ r =>
    cases r
    have k1 : PySem.W.kitOne K t u0 = some b := by
      unfold PySem.W.kitAny at ka
      split at ka
      · rename_i hk; cases ka; exact hk
      · rename_i hk; cases ka; exact hk
      · cases ka
    exact ⟨v, cv, t, u0, b, rfl, hc, ty, k1, q _ H1 Z1 ok1 s1 (.bl b)⟩
def tVs : List V → TA
  | [] => tNil
  | v :: r => tCons (tC v) (tVs r)
theorem tVs_run {Q : List V → Hp → Prop} : ∀ (cvs : List V), Q cvs H → tVs cvs σ H Q
  | [], h => h
  | v :: r, h => tVs_run (Q := fun xs H2 => Q (v :: xs) H2) r h
theorem de_isXT {cvs : List V} {us : List Value} {g : GO} (et : etB K Cs Us = true) (vt : VTs K Ts cvs us) (sub : ∀ T ∈ Ts, T ∈ Us) (hl : Ts.length ≤ sizeLine) (h : DO K te g) : DE K (tCB (rIsXT K) (tCons te (tCons (tTup (tVs cvs)) tNil))) (eOp1 (isX Cs Ts) g) := fun b0 B Z0 Z H σ ρ d ρ' Q ok e q => by
  obtain ⟨x, a, e1, e3, e5⟩ := op1_ok e
  refine h b0 B Z0 Z H σ ρ x ρ' _ ok e1 fun v H1 Z1 ok1 s1 r1 => ?_
  refine tVs_run (Q := fun xs H2 => xs.length ≤ sizeLine ∧ ∀ p, H2 p = none → _) cvs ⟨by rw [vt.len]; exact hl, fun p hp => ?_⟩
  obtain ⟨ok2, zp, bp, ap⟩ := ok1.fresh (o := .tup cvs) hp
  obtain ⟨t, b, rfl, ty, ka⟩ := isX_ty (b := none) et vt sub ok2.zh (ok2.bd r1 e3) e5
  exact ⟨v, p, cvs, t, us, b, rfl, upd_same, vt.paired, ty, ka, q _ _ Z1 ok2 s1 (.bl b)⟩
/-! ### e.f -/
def tXF (K : PySem.W.Frag) (f : Str) (te : TE) : TE := fun σ H Q => te σ H fun x H1 => ∃ (a C d : Addr) (c : Str) (v : V), x = .ref a ∧ ExF K c C ∧ fld c = f ∧ H1 a = some (exk a C d) ∧ H1 d = some (.xd [(f, v)]) ∧ Q v H1
theorem pe_xF {e : Expr} {n : Str} {pos : Pos} (he : PE X e te) (hb : attributeBase e n X.env (eval e X.env) = eval e X.env := by rfl) : PE X (.Attribute e n pos) (tXF X.K n te) := by
  refine ⟨fun pins s σ H Q I h => attr_of hb (thn (he.run pins s σ H _ I h) fun u s1 hh => ?_)⟩
  obtain ⟨x, H1, I1, rx, a, C, d, c, v, rfl, f, rfl, ea, ed, q⟩ := hh
  obtain rfl : u = Value.ref a := rx
  obtain ⟨oe, vs, h1, h2, h3⟩ := exk_at I1.hok ea
  obtain ⟨mA, hns, hr⟩ := (show ObjOk X.prog X.w H1 s1.heap d (.xd [(fld c, v)]) from I1.hok d _ ed)
  obtain ⟨od, ho, hl⟩ := lookIn_ns hns
  have l : List.lookup (fld c) [(fld c, v)] = some v := by simp [List.lookup]
  obtain ⟨u, hu, ru⟩ := RelO.some_of (v := v) (o := mA (fld c)) (by rw [← l]; exact hr (fld c))
  have J : PySem.W.InstAt s1.heap a oe C (some od) := ⟨h1, h2.1, by unfold PySem.W.notCls; rw [h3] <;> rfl, by rw [h2.2]; exact ho⟩
  exact HandSPX.exc_get I1.kIn J f.ga f.gg f.sb (PySem.W.findObj_own f.hd f.no rfl (by rw [hl, hu])) (handed_of ru) ⟨v, H1, I1.tok _, ru, q⟩
def fldD (Cs : List Str) (f : Str) : D → Option D
  | .dict [(.none, .str c), (.none, p)] => if Cs.contains c && fld c == f then some p else none
  | _ => none
theorem de_xF {f : Str} {g : GO} (et : etB K Cs Us = true) (h : DO K te g) : DE K (tXF K f te) (eOp1 (fldD Cs f) g) := fun b0 B Z0 Z H σ ρ d ρ' Q ok e q => by
  obtain ⟨x, a, e1, e3, e5⟩ := op1_ok e
  refine h b0 B Z0 Z H σ ρ x ρ' _ ok e1 fun v H1 Z1 ok1 s1 r1 => ?_
  have bd := ok1.bd r1 e3
  unfold fldD at e5
  split at e5
  · rename_i c p
    split at e5
    · rename_i hc
      cases e5
      rw [Bool.and_eq_true] at hc
      cases bd with
      | exc h1 h2 h3 r =>
        have ef : fld c = f := by simpa using hc.2
        subst ef
        exact ⟨_, _, _, c, _, rfl, et_cls et (List.elem_iff.mp hc.1) h3, rfl, ok1.zh _ _ h1, ok1.zh _ _ h2, q _ H1 Z1 ok1 s1 r⟩
    · cases e5
  · cases e5
/-! ### C(e) as a value -/
def eMk (c : Str) (g : GE) (ρ : Rho) : R D := (g ρ).map fun d => excD c d
theorem de_mk {c f : Str} {C : Addr} {g : GE} (hc : Cls K c C) (hf : f = fld c) (h : DE K te g) : DE K (tMkV C f (tCons te tNil)) (eMk c g) := fun b0 B Z0 Z H σ ρ d ρ' Q ok e q => by
  obtain ⟨p, e1, rfl⟩ := R.map_ok e
  subst hf
  refine h b0 B Z0 Z H σ ρ p ρ' _ ok e1 fun v H1 Z1 ok1 s1 r1 => ⟨v, rfl, fun a dx ha hd ne => ?_⟩
  obtain ⟨ok2, s2⟩ := ok1.new (o := .xd [(fld c, v)]) hd
  obtain ⟨ok3, s3⟩ := ok2.new (o := exk a C dx) (show upd H1 dx _ a = none by rw [upd_ne ne.symm]; exact ha)
  exact q _ _ _ ok3 ((s1.trans s2).trans s3) (.exc upd_same (s3 _ _ upd_same) hc ((r1.mono s2).mono s3))
/-! ### the try -/
def sKeep (Cs Ts : List Str) (i j : Nat) (g : GS) (ρ : Rho) : O := match g ρ with
  | .ex c d ρ1 => if Cs.contains c then (if Ts.any (subC c) then .nx ((ρ1.set j (.sh (excD c d))).set i .no) else .ex c d ρ1) else .bad
  | o => o
theorem ds_keep {cvs : List V} {us : List Value} {i j : Nat} {tb : WX → TS} {g : GS} (et : etB K Cs Us = true) (vt : VTs K Ts cvs us) (sub : ∀ T ∈ Ts, T ∈ Us) (hij : i ≠ j) (h : ∀ W, DS K W (tb W) g) : DS K Wx (fun D σ H => tb (wKeep K us i j Wx D) D σ H) (sKeep Cs Ts i j g) := fun b0 B Z0 Z H σ ρ E ok s => by
  refine h _ b0 B Z0 Z H σ ρ E ok ?_
  unfold sKeep at s
  cases e : g ρ with
  | ex c d ρ1 =>
    rw [e] at s
    dsimp only at s
    split at s
    · rename_i hc
      intro σ' H' Z' C dx v ok' hC hx r
      have hm : c ∈ Cs := List.elem_iff.mp hc
      refine ⟨_, (vt.any et hm hC sub).2, fun hb => ⟨C, dx, rfl, rfl, fun a ha => ?_⟩, fun hb => ?_⟩
      · rw [hb] at s
        simp only [if_true] at s
        obtain ⟨ok2, s2⟩ := ok'.new (o := exk a C dx) ha
        have ok3 := ok2.put (i := j) (v := .ref a) (d := excD c d) (.exc upd_same (s2 _ _ hx) hC (r.mono s2))
        have ok4 := Ok.putAny (i := i) (x := none) ok3
        have es : ((σ'.set i (some (.ref a))).set j (some (.ref a))).set i none = (σ'.set j (some (.ref a))).set i none := by
          rw [List.set_comm _ _ hij, List.set_set]
        rw [es]
        exact s _ _ _ ok4
      · rw [hb] at s
        simp only [Bool.false_eq_true, if_false] at s
        exact s σ' H' Z' C dx v ok' hC hx r
    · exact s.elim
  | nx ρ1 => rw [e] at s; exact s
  | rt d ρ1 => rw [e] at s; exact s
  | rf ds ρ1 => rw [e] at s; exact s
  | bk ρ1 => rw [e] at s; exact s
  | ct ρ1 => rw [e] at s; exact s
  | bad => rw [e] at s; exact s
end
end DL

/-! DLz: sorted of a list or tuple of ints. -/
namespace DLX
open PySem PyProof.Rows Srt SrtO
section
variable {prog : Program} {w : World} {A : Around} {E : Value → Shared → Prop} {s : Shared}
theorem collect_tup {l : Addr} {vs : List Value} {Q : List Value → Shared → Prop} (hl : s.heap.IsTuple l vs.toArray)
    (h : Q vs { s with heap := (s.heap.push (seqObj "list" #[] 0)).update s.heap.objs.size (Obj.mapSeq (· ++ vs.toArray)) }) (hsz : vs.length ≤ sizeLine) : wpAny (model prog w) A (collect (.ref l)) Q E s := by
  obtain ⟨o, ho, hc, n, hd⟩ := id hl
  unfold collect
  refine wpAny_bind (wpAny_runValue (codeAny_builtin entry_proto_collect' ?_))
  show wpAny _ _ (do again (.builtin "list.__iadd__" ⟨[← newList [], .ref l], []⟩)) _ _ s
  refine wpAny_bind (wpAny_newList (wpAny_pure ⟨Code.quiet_builtin _ (by decide +kernel), codeAny_builtin entry_list_iadd' ?_⟩))
  show wpAny _ _ (Builtin.List.listExtendWith (.ref s.heap.objs.size) (.ref l) (.ref s.heap.objs.size)) _ _ { s with heap := s.heap.push (seqObj "list" #[] 0) }
  unfold Builtin.List.listExtendWith
  have ho' : (s.heap.push (seqObj "list" #[] 0)).get? l = some o := Heap.get?_push_of_some _ ho
  refine wpAny_bind (wpAny_typeOf (T := "tuple") ⟨o, ho', hc⟩ ?_)
  rw [if_pos (by rw [show (Value.type "tuple" == Value.type "tuple") = true from rfl]; simp)]
  refine wpAny_bind (listItems_at ho' hd (wpAny_bind (listItems_at (xs := #[]) (n := 0) (Heap.get?_push_size _ rfl) rfl ?_)))
  rw [if_neg (by simp)]
  refine wpAny_bind (listUpdate_at (xs := #[]) (n := 0) (Heap.get?_push_size _ rfl) rfl (wpAny_pure ?_) (Nat.zero_le _) (by show (#[] ++ vs.toArray).size ≤ sizeLine + 1; simp only [Array.size_append, List.size_toArray, List.length_nil]; omega))
  show wpAny (model prog w) A (do
      let o ← load s.heap.objs.size
      match o.data with
      | .seq xs _ => pure xs.toList
      | _ => unsupported "internal:collect") Q E { s with heap := (s.heap.push (seqObj "list" #[] 0)).update s.heap.objs.size (Obj.mapSeq (· ++ vs.toArray)) }
  refine wpAny_bind (wpAny_load (get?_update_seq (Heap.get?_push_size _ rfl) _) ?_)
  show wpAny _ _ (pure ((#[] : Array Value) ++ vs.toArray).toList) Q E _
  rw [show ((#[] : Array Value) ++ vs.toArray).toList = vs by simp]
  exact wpAny_pure h
/-- sorted(t), t a tuple -/
theorem sorted_tup {l : Addr} {vs : List Value} {ltv : Value → Value → Bool} {Q : Value → Shared → Prop} (O : Swo ltv) (hl : s.heap.IsTuple l vs.toArray) (hz : vs.length ≤ sizeLine)
    (hS : 2 ≤ vs.length → ∀ (h₁ : Heap) (a : Addr), h₁.get? a = some (seqObj "list" vs.toArray 0) → (∀ b o, s.heap.get? b = some o → b ≠ a ∧ h₁.get? b = some o) → SortableO prog w A.in1.in1 { s with heap := h₁ } a vs ltv)
    (h : ∀ out : List Value, Srtd ltv out → Stb ltv out vs → Q (.ref (s.heap.objs.size + 1)) { s with heap := sortedAll s.heap vs out.toArray }) : wpAny (model prog w) A (call (.builtin "sorted") [.ref l]) Q E s := by
  refine Calls.call_function_entry kind_sorted plain_sorted entry_sorted (args_sorted1 _) ?_
  unfold Builtin.«sorted»
  refine wpAny_bind (m := checkCount "sorted" 1 1 _) (wpAny_pure (wpAny_bind (collect_tup hl (wpAny_bind (wpAny_newList ?_ hz)) hz)))
  have hsz : ((s.heap.push (seqObj "list" #[] 0)).update s.heap.objs.size (Obj.mapSeq (· ++ vs.toArray))).objs.size = s.heap.objs.size + 1 := by rw [Heap.size_update, size_push']
  have hoL : (((s.heap.push (seqObj "list" #[] 0)).update s.heap.objs.size (Obj.mapSeq (· ++ vs.toArray))).push (seqObj "list" vs.toArray 0)).get? (s.heap.objs.size + 1) = some (seqObj "list" vs.toArray 0) := by rw [← hsz]; exact Heap.get?_push_size _ rfl
  have keep : ∀ b o, s.heap.get? b = some o → b ≠ s.heap.objs.size + 1 ∧ (((s.heap.push (seqObj "list" #[] 0)).update s.heap.objs.size (Obj.mapSeq (· ++ vs.toArray))).push (seqObj "list" vs.toArray 0)).get? b = some o := fun b o q => by
    have hlt : b < s.heap.objs.size := Heap.lt_size q
    exact ⟨Nat.ne_of_lt (Nat.lt_succ_of_lt hlt), Heap.get?_push_of_some _ (by rw [Heap.get?_update_ne _ _ _ _ (Nat.ne_of_lt hlt)]; exact Heap.get?_push_of_some _ q)⟩
  show wpAny _ _ _ _ _ { s with heap := ((s.heap.push (seqObj "list" #[] 0)).update s.heap.objs.size (Obj.mapSeq (· ++ vs.toArray))).push (seqObj "list" vs.toArray 0) }
  rw [hsz]
  refine wpAny_bind (wpAny_holding (wpAny_call_entry slot_list_sort ⟨_, hoL, rfl⟩ entry_list_sort (list_sort_ord O hoL hz (fun h2 => hS h2 _ _ hoL keep) fun out hs hb => ⟨_, rfl, ?_⟩) (args_list_sort _)))
  exact wpAny_pure ⟨_, rfl, h out hs hb⟩
end
end DLX
namespace DL
open PySem PySem.Spec PyProof.Rows L2
def rSortQ (K : PySem.W.Frag) : List V → Hp → VK → Prop := fun vs H Q => ∃ (a : Addr) (ns : List Int), vs = [V.ref a] ∧ (SqL K H a (ns.map V.int) ∨ SqT K H a (ns.map V.int)) ∧
  ∀ (ns' : List Int) (p : Addr), ns'.Perm ns → ns'.Pairwise (· ≤ ·) → H p = none → Q (.ref p) (upd H p (.lst (ns'.map V.int)))
section
variable {X : Cx} {K : PySem.W.Frag}
theorem cr_sortedU : CallR X (.builtin "sorted") (rSortQ X.K) := by
  intro pins s σ H vs us Q I r h
  obtain ⟨a, ns, rfl, hs | hs, q⟩ := h
  · exact cr_sortedI pins s σ H [.ref a] us Q I r ⟨a, ns, rfl, hs, q⟩
  · obtain ⟨its, rv, hl, hz⟩ := I.tuple hs
    rw [Vals.ref1 r]
    have hi := rv.ints
    have hT : s.heap.IsTuple a its.toArray := hl
    refine DLX.sorted_tup SrtO.swo_int hT (by rw [← rv.length]; exact hz) (fun h2 h₁ a' _ _ => SrtO.ints_sortable hi h2) fun out h1 h2 => ?_
    obtain ⟨k1, k2, k3⟩ := SrtO.ints_out hi h1 h2
    obtain ⟨ep, he'⟩ := PyProof.Rows.sortedAll_at s.heap its out.toArray
    have hlen : ((out.map SrtO.iv).map V.int).length ≤ sizeLine := by
      rw [List.length_map, k2.length_eq]
      rw [List.length_map] at hz; exact hz
    exact ⟨.ref _, upd H (s.heap.objs.size + 1) (.lst ((out.map SrtO.iv).map V.int)), I.laid (t' := s.toks) (fun _ _ => PyProof.Rows.sortedAll_old) (Nat.le_succ _) ⟨hlen, out, ep, vals_of_ints k1, he'⟩, rfl, q _ _ k2 k3 (I.hok.fresh (Nat.le_succ _))⟩
/-! ints in order -/
def insI (x : Int) : List Int → List Int
  | [] => [x]
  | y :: r => if x ≤ y then x :: y :: r else y :: insI x r
def srtI : List Int → List Int
  | [] => []
  | x :: r => insI x (srtI r)
theorem insI_perm (x : Int) : ∀ l : List Int, (insI x l).Perm (x :: l)
  | [] => .refl _
  | y :: r => by
    unfold insI
    split
    · exact .refl _
    · exact ((insI_perm x r).cons y).trans (.swap x y r)
theorem srtI_perm : ∀ l : List Int, (srtI l).Perm l
  | [] => .refl _
  | x :: r => (insI_perm x _).trans ((srtI_perm r).cons x)
theorem insI_pw (x : Int) : ∀ {l : List Int}, l.Pairwise (· ≤ ·) → (insI x l).Pairwise (· ≤ ·)
  | [], _ => by simp [insI]
  | y :: r, h => by
    unfold insI
    have h' := List.pairwise_cons.mp h
    split
    · rename_i hx
      refine List.pairwise_cons.mpr ⟨fun z hz => ?_, h⟩
      rcases List.mem_cons.mp hz with rfl | hz
      · exact hx
      · exact Int.le_trans hx (h'.1 z hz)
    · rename_i hx
      refine List.pairwise_cons.mpr ⟨fun z hz => ?_, insI_pw x h'.2⟩
      rcases List.mem_cons.mp ((insI_perm x r).mem_iff.mp hz) with rfl | hz
      · omega
      · exact h'.1 z hz
theorem srtI_pw : ∀ l : List Int, (srtI l).Pairwise (· ≤ ·)
  | [] => .nil
  | x :: r => insI_pw x (srtI_pw r)
theorem pw_eq : ∀ {l m : List Int}, l.Perm m → l.Pairwise (· ≤ ·) → m.Pairwise (· ≤ ·) → l = m
  | [], m, p, _, _ => (List.nil_perm.mp p).symm
  | x :: l, [], p, _, _ => by simp at p
  | x :: l, y :: m, p, h1, h2 => by
    have a := List.pairwise_cons.mp h1
    have b := List.pairwise_cons.mp h2
    have e : x = y := by
      have hx : x ∈ y :: m := p.mem_iff.mp List.mem_cons_self
      have hy : y ∈ x :: l := p.mem_iff.mpr List.mem_cons_self
      rcases List.mem_cons.mp hx with e | hx
      · exact e
      · rcases List.mem_cons.mp hy with e | hy
        · exact e.symm
        · exact Int.le_antisymm (a.1 y hy) (b.1 x hx)
    subst e
    rw [pw_eq (List.Perm.cons_inv p) a.2 b.2]
theorem srt_unique {l m : List Int} (p : m.Perm l) (h : m.Pairwise (· ≤ ·)) : m = srtI l := pw_eq (p.trans (srtI_perm l).symm) h (srtI_pw l)
def sortedD : List D → Option (List D)
  | [.list ds] => (intsOf ds).map fun ns => (srtI ns).map .int
  | [.tuple ds] => (intsOf ds).map fun ns => (srtI ns).map .int
  | _ => none
theorem sn_sorted : SnAF K (rSortQ K) sortedD := fun b0 B Z0 Z H σ ρ xs as c Q ok ra e q => by
  have fin : ∀ {a : Addr} {vs : List V} {ds : List D}, (SqL K H a vs ∨ SqT K H a vs) → RpA K Z vs ds → (intsOf ds).map (fun ns => (srtI ns).map PyData.int) = some c → rSortQ K [.ref a] H Q := fun {a vs ds} hs r e => by
    obtain ⟨ns, e1, rfl⟩ := Option.map_eq_some_iff.mp e
    rw [intsOf_eq e1] at r
    rw [RpA.of_ints r] at hs
    refine ⟨a, ns, rfl, hs, fun ns' p hp hw hn => ?_⟩
    rw [srt_unique hp hw]
    obtain ⟨ok2, zp, bp, ap⟩ := ok.fresh (o := .lst ((srtI ns).map V.int)) hn
    exact q p _ _ ok2 zp bp ap upd_same (RpA.ints _)
  unfold sortedD at e
  split at e
  · cases ra with
    | cons h r =>
      cases r
      cases h with
      | lst h1 r1 => exact fin (.inl (.inl (.inl h1))) r1 e
  · cases ra with
    | cons h r =>
      cases r
      cases h with
      | tup h1 r1 => exact fin (.inr (same_t ok.zh h1)) r1 e
  · cases e
end
end DL

/-! DMa: equations for the evaluation of the mirrors. -/
namespace DL
open PySem L2
section
variable {α β : Type} {a : α} {ρ ρ1 : Rho} {c : Str} {d e : D} {x : Str} {i : Int} {b : Bool} {xs : List D} {T : String} {Ts : List String}
theorem to_ok (f : α → Rho → O) : (R.ok a ρ).to f = f a ρ := rfl
theorem toX_ok (f : α → Rho → O) : (R.ok a ρ).toX f = f a ρ := rfl
theorem toX_ex (f : α → Rho → O) : (R.ex c d ρ : R α).toX f = .ex c d ρ := rfl
theorem bind_nx (f : Rho → O) : (O.nx ρ).bind f = f ρ := rfl
theorem bind_rt (f : Rho → O) : (O.rt d ρ).bind f = .rt d ρ := rfl
theorem bind_rf (f : Rho → O) : (O.rf xs ρ).bind f = .rf xs ρ := rfl
theorem bind_ex (f : Rho → O) : (O.ex c d ρ).bind f = .ex c d ρ := rfl
theorem bind_bk (f : Rho → O) : (O.bk ρ).bind f = .bk ρ := rfl
theorem bind_ct (f : Rho → O) : (O.ct ρ).bind f = .ct ρ := rfl
theorem at_ok : (RX.ok a).at ρ = .ok a ρ := rfl
theorem at_ex : (RX.ex c d : RX α).at ρ = .ex c d ρ := rfl
theorem res_val : (Op.val d).res ρ = some d := rfl
theorem map_ex (f : α → β) : (R.ex c d ρ : R α).map f = .ex c d ρ := rfl
theorem rbind_ex (f : α → Rho → R β) : (R.ex c d ρ : R α).bind f = .ex c d ρ := rfl
theorem isiD_n : isiD T .none = (kitB "NoneType" T).map .bool := rfl
theorem isiD_b : isiD T (.bool b) = (kitB "bool" T).map .bool := rfl
theorem isiD_i : isiD T (.int i) = (kitB "int" T).map .bool := rfl
theorem isiD_s : isiD T (.str x) = (kitB "str" T).map .bool := rfl
theorem isiD_l : isiD T (.list xs) = (kitB "list" T).map .bool := rfl
theorem isiD_t : isiD T (.tuple xs) = (kitB "tuple" T).map .bool := rfl
theorem isiTD_n : isiTD Ts .none = (isiAny "NoneType" Ts).map .bool := rfl
theorem isiTD_b : isiTD Ts (.bool b) = (isiAny "bool" Ts).map .bool := rfl
theorem isiTD_i : isiTD Ts (.int i) = (isiAny "int" Ts).map .bool := rfl
theorem isiTD_s : isiTD Ts (.str x) = (isiAny "str" Ts).map .bool := rfl
theorem isiTD_l : isiTD Ts (.list xs) = (isiAny "list" Ts).map .bool := rfl
theorem isiTD_t : isiTD Ts (.tuple xs) = (isiAny "tuple" Ts).map .bool := rfl
theorem isNone_e : isNoneD (excD c d) = false := rfl
theorem isNone_s : isNoneD (.str x) = false := rfl
theorem isX_n {Cs Us : List Str} : isX Cs Us .none = some (.bool false) := rfl
theorem isX_e {Cs Us : List Str} (h : Cs.contains c = true) : isX Cs Us (excD c d) = some (.bool (Us.any (subC c))) := by
  show (if Cs.contains c then _ else _) = _
  rw [if_pos h]
theorem fldD_e {Cs : List Str} {f : Str} (h : (Cs.contains c && fld c == f) = true) : fldD Cs f (excD c d) = some d := by
  show (if Cs.contains c && fld c == f then some d else none) = _
  rw [if_pos h]
theorem sKeep_nx {Cs Us : List Str} {j k : Nat} {g : GS} (h : g ρ = .nx ρ1) : sKeep Cs Us j k g ρ = .nx ρ1 := by unfold sKeep; rw [h]
theorem sKeep_ex {Cs Us : List Str} {j k : Nat} {g : GS} (h : g ρ = .ex c d ρ1) (h1 : Cs.contains c = true) (h2 : Us.any (subC c) = true) : sKeep Cs Us j k g ρ = .nx ((ρ1.set k (.sh (excD c d))).set j .no) := by
  unfold sKeep
  rw [h]
  show (if Cs.contains c then (if Us.any (subC c) then _ else _) else _) = _
  rw [if_pos h1, if_pos h2]
theorem callP_rt {np n : Nat} {g : GS} {as : List D} (hl : as.length = np) (h : g (env0 n as) = .rt d ρ) : callP np n g as = some d := by unfold callP; rw [if_neg (fun z => z hl), h]
theorem callP_nx {np n : Nat} {g : GS} {as : List D} (hl : as.length = np) (h : g (env0 n as) = .nx ρ) : callP np n g as = some .none := by unfold callP; rw [if_neg (fun z => z hl), h]
theorem callF_rf {np n : Nat} {g : GS} {as : List D} (hl : as.length = np) (h : g (env0 n as) = .rf xs ρ) : callF np n g as = some xs := by unfold callF; rw [if_neg (fun z => z hl), h]
theorem callX_rt {np n : Nat} {g : GS} {as : List D} (hl : as.length = np) (h : g (env0 n as) = .rt d ρ) : callX np n g as = .ok d := by unfold callX; rw [if_neg (fun z => z hl), h]
theorem callX_nx {np n : Nat} {g : GS} {as : List D} (hl : as.length = np) (h : g (env0 n as) = .nx ρ) : callX np n g as = .ok .none := by unfold callX; rw [if_neg (fun z => z hl), h]
theorem callX_ex {np n : Nat} {g : GS} {as : List D} (hl : as.length = np) (h : g (env0 n as) = .ex c d ρ) : callX np n g as = .ex c d := by unfold callX; rw [if_neg (fun z => z hl), h]
theorem callXF_rf {np n : Nat} {g : GS} {as : List D} (hl : as.length = np) (h : g (env0 n as) = .rf xs ρ) : callXF np n g as = .ok xs := by unfold callXF; rw [if_neg (fun z => z hl), h]
theorem callXF_ex {np n : Nat} {g : GS} {as : List D} (hl : as.length = np) (h : g (env0 n as) = .ex c d ρ) : callXF np n g as = .ex c d := by unfold callXF; rw [if_neg (fun z => z hl), h]
end
/-! ### plain data: None, bools, ints, texts, lists and tuples of such, n deep -/
inductive Pl : Nat → D → Prop
  | none (n : Nat) : Pl n .none
  | bool (n : Nat) (b : Bool) : Pl n (.bool b)
  | int (n : Nat) (i : Int) : Pl n (.int i)
  | str (n : Nat) (x : Str) : Pl n (.str x)
  | list {n : Nat} {xs : List D} (hl : xs.length ≤ sizeLine) (h : ∀ x ∈ xs, Pl n x) : Pl (n + 1) (.list xs)
  | tuple {n : Nat} {xs : List D} (hl : xs.length ≤ sizeLine) (h : ∀ x ∈ xs, Pl n x) : Pl (n + 1) (.tuple xs)
theorem Pl.up {n : Nat} {d : D} (h : Pl n d) : Pl (n + 1) d := by
  induction h with
  | none n => exact .none _
  | bool n b => exact .bool _ b
  | int n i => exact .int _ i
  | str n x => exact .str _ x
  | list hl h ih => exact .list hl ih
  | tuple hl h ih => exact .tuple hl ih
end DL

/-! DMb: general lemmas for the plain parts. -/
namespace DL
open PySem L2
theorem eLc_ok {vs : List Nat} {gi : GF} {k : GG} {t : GT} {e : GE} {ρ ρ1 ρ2 : Rho} {ds ys : List D} (h1 : gi ρ = .ok ds ρ1) (h2 : ds.length ≤ sizeLine) (h3 : lcL vs k t e ds (wipeR ρ1 vs) = .ok ys ρ2) : eLc vs gi k t e ρ = .ok ys (wipeR ρ2 vs) := by
  unfold eLc
  rw [h1]
  show (if ds.length ≤ sizeLine then (lcL vs k t e ds (wipeR ρ1 vs)).bind fun ys ρ2 => R.ok ys (wipeR ρ2 vs) else .bad) = _
  rw [if_pos h2, h3]; rfl
theorem eL_ok {g : GF} {ρ ρ1 : Rho} {ds : List D} (h : g ρ = .ok ds ρ1) : eL g ρ = .ok (.list ds) ρ1 := by unfold eL; rw [h]; rfl
theorem sSet_ok {i : Nat} {g : GE} {ρ ρ1 : Rho} {d : D} (h : g ρ = .ok d ρ1) : sSet i g ρ = .nx (ρ1.set i (.sh d)) := by unfold sSet; rw [h]; rfl
theorem sRet_ok {g : GE} {ρ ρ1 : Rho} {d : D} (h : g ρ = .ok d ρ1) : sRet g ρ = .rt d ρ1 := by unfold sRet; rw [h]; rfl
theorem sRetF_ok {g : GF} {ρ ρ1 : Rho} {ds : List D} (h : g ρ = .ok ds ρ1) : sRetF g ρ = .rf ds ρ1 := by unfold sRetF; rw [h]; rfl
theorem seq_nx {a b : GS} {ρ ρ1 : Rho} {o : O} (h : a ρ = .nx ρ1) (h2 : b ρ1 = o) : sSeq a b ρ = o := by unfold sSeq; rw [h]; exact h2
theorem seq_rt {a b : GS} {ρ ρ1 : Rho} {d : D} (h : a ρ = .rt d ρ1) : sSeq a b ρ = .rt d ρ1 := by unfold sSeq; rw [h]; rfl
theorem seq_ex {a b : GS} {ρ ρ1 : Rho} {c : Str} {d : D} (h : a ρ = .ex c d ρ1) : sSeq a b ρ = .ex c d ρ1 := by unfold sSeq; rw [h]; rfl
theorem sFor_nx {gi : GF} {k : GG} {b : GS} {ρ ρ1 ρ2 : Rho} {ds : List D} (h : gi ρ = .ok ds ρ1) (h2 : forL k b ds ρ1 = .nx ρ2) : sFor gi k b ρ = .nx ρ2 := by unfold sFor; rw [h]; exact h2
theorem sIf_t {c : GT} {a b : GS} {ρ ρ1 : Rho} {o : O} (h : c ρ = .ok true ρ1) (h2 : a ρ1 = o) : sIf c a b ρ = o := by unfold sIf; rw [h]; exact h2
theorem sIf_f {c : GT} {a b : GS} {ρ ρ1 : Rho} {o : O} (h : c ρ = .ok false ρ1) (h2 : b ρ1 = o) : sIf c a b ρ = o := by unfold sIf; rw [h]; exact h2
/-- if not e: return False, and e is True -/
theorem skip_not {g : GE} {a : GS} {ρ ρ1 : Rho} (h : g ρ = .ok (.bool true) ρ1) : sIf (tNotG (tstE g)) a sNext ρ = .nx ρ1 := by
  refine sIf_f (ρ1 := ρ1) ?_ rfl
  unfold tNotG tstE; rw [h]; rfl
theorem lc_filter {vs : List Nat} {k : GG} {t : GT} {e : GE} {ρ : Rho} (p : Int → Bool) {is : List Int} (h : ∀ i ∈ is, ∃ ρ1, k (.int i) ρ = some ρ1 ∧ wipeR ρ1 vs = ρ ∧ t ρ1 = .ok (p i) ρ1 ∧ e ρ1 = .ok (.int i) ρ1) : lcL vs k t e (is.map .int) ρ = .ok ((is.filter p).map .int) ρ := by
  have := lc_fm (vs := vs) (k := k) (t := t) (e := e) (ρ := ρ) (fun d => match d with | .int i => if p i then some (.int i) else none | _ => none) (ds := is.map PyData.int) (fun d hd => by
    obtain ⟨i, hi, rfl⟩ := List.mem_map.mp hd
    obtain ⟨ρ1, a, b, c, d⟩ := h i hi
    refine ⟨ρ1, a, b, ?_⟩
    cases hp : p i with
    | true => exact .inl ⟨.int i, by simp [hp], by rw [c, hp], d⟩
    | false => exact .inr ⟨by simp [hp], by rw [c, hp]⟩)
  rw [this]
  congr 1
  rw [List.filterMap_map]
  clear this h
  induction is with
  | nil => rfl
  | cons i r ih =>
    simp only [List.filterMap_cons, List.filter_cons, Function.comp]
    cases p i with
    | true => simp only [if_true, List.map_cons]; rw [← ih]
    | false => simp only [Bool.false_eq_true, if_false]; rw [← ih]
/-- the number at a place -/
def nat (ns : List Int) (i : Int) : Int := ns[i.toNat]?.getD 0
theorem atI_of' {α : Type} {xs : List α} {i : Int} {x : α} (h0 : 0 ≤ i) (h : xs[i.toNat]? = some x) : atI xs i = some x := atI_of (n := i.toNat) (by omega) h
theorem atI_at {ns : List Int} {i : Int} (h0 : 0 ≤ i) (h1 : i < ns.length) : atI (ns.map PyData.int) i = some (.int (nat ns i)) := by
  have hk : i.toNat < ns.length := by omega
  refine atI_of (n := i.toNat) (by omega) ?_
  rw [List.getElem?_map]
  unfold nat
  rw [List.getElem?_eq_getElem hk]; rfl
def rngI (lo : Int) (n : Nat) : List Int := (List.range n).map fun i : Nat => lo + (i : Int)
theorem rngI_d (lo : Int) (n : Nat) : rangeD lo n = (rngI lo n).map .int := by unfold rangeD rngI; rw [List.map_map]; rfl
theorem mem_rngI {lo i : Int} {n : Nat} (h : i ∈ rngI lo n) : lo ≤ i ∧ i < lo + n := by
  obtain ⟨k, hk, rfl⟩ := List.mem_map.mp h
  have := List.mem_range.mp hk
  omega
theorem in_rngI {lo i : Int} {n : Nat} (h0 : lo ≤ i) (h1 : i < lo + n) : i ∈ rngI lo n := List.mem_map.mpr ⟨(i - lo).toNat, List.mem_range.mpr (by omega), by omega⟩
theorem rngI_len (lo : Int) (n : Nat) : (rngI lo n).length = n := by unfold rngI; rw [List.length_map, List.length_range]
theorem rngI_succ (lo : Int) (n : Nat) : rngI lo (n + 1) = rngI lo n ++ [lo + (n : Int)] := by unfold rngI; rw [List.range_succ, List.map_append]; rfl
theorem rng1_eq {m : Int} (h0 : 0 ≤ m) (h1 : m < 2 ^ 62) : rng1 [.int m] = some (rangeD 0 m.toNat) := if_pos ⟨by omega, h1⟩
theorem rangeD_at {m i : Nat} {d : D} (h : (rangeD 0 m)[i]? = some d) : d = .int (i : Int) ∧ i < m := by
  have hl : i < m := by
    have := (List.getElem?_eq_some_iff.mp h).1
    rw [rangeD_len] at this
    exact this
  rw [rangeD_get hl] at h
  exact ⟨by rw [← Option.some.inj h, Int.zero_add], hl⟩
theorem rangeD_at1 {m i : Nat} {d : D} (h : (rangeD 1 m)[i]? = some d) : d = .int (1 + (i : Int)) ∧ i < m := by
  have hl : i < m := by
    have := (List.getElem?_eq_some_iff.mp h).1
    rw [rangeD_len] at this
    exact this
  rw [rangeD_get hl] at h
  exact ⟨(Option.some.inj h).symm, hl⟩
def Sq (d : D) (xs : List D) : Prop := d = .list xs ∨ d = .tuple xs
theorem Sq.l (xs : List D) : Sq (.list xs) xs := .inl rfl
theorem Sq.t (xs : List D) : Sq (.tuple xs) xs := .inr rfl
theorem Sq.len {r : D} {xs : List D} (h : Sq r xs) : ∃ j : Int, lenD [r] = some (.int j) ∧ j = (xs.length : Int) := by rcases h with rfl | rfl <;> exact ⟨_, rfl, rfl⟩
theorem Sq.leni {r : D} {ns : List Int} (h : Sq r (ns.map .int)) : lenD [r] = some (.int (ns.length : Int)) := by
  obtain ⟨j, e, ej⟩ := h.len
  rw [e, ej, List.length_map]
theorem Sq.ix {r : D} {ns : List Int} {i : Int} (hr : Sq r (ns.map .int)) (h0 : 0 ≤ i) (h1 : i < ns.length) : ixD r (.int i) = some (.int (nat ns i)) := by
  rcases hr with rfl | rfl
  · rw [ixD_list]; exact atI_at h0 h1
  · rw [ixD_tuple]; exact atI_at h0 h1
theorem atI_last {α : Type} (l : List α) (x : α) : atI (l ++ [x]) (-1) = some x := by
  unfold atI ixN
  rw [if_neg (by omega), if_pos (by rw [List.length_append]; simp; omega)]
  show (l ++ [x])[_]? = _
  rw [List.length_append, show ((-1 : Int) + ((l.length + [x].length : Nat) : Int)).toNat = l.length by simp; omega]
  simp
theorem ixN_last {α : Type} (l : List α) (x : α) : ixN (l ++ [x]).length (-1) = some l.length := by
  unfold ixN
  rw [if_neg (by omega), if_pos (by rw [List.length_append]; simp; omega), List.length_append, show ((-1 : Int) + ((l.length + [x].length : Nat) : Int)).toNat = l.length by simp; omega]
theorem size_of {n : Nat} (h : n ≤ 100000) : n ≤ sizeLine := Nat.le_trans h (by decide)
theorem size_lt {n : Nat} (h : n < 100000) : n < sizeLine := Nat.lt_of_lt_of_le h (by decide)
/-! membership of ints -/
theorem flVs_ints : ∀ ns : List Int, flVs (ns.map PyData.int) = some (ns.map V.int)
  | [] => rfl
  | n :: r => by
    show (match flV (PyData.int n), flVs (r.map PyData.int) with | some v, some vs => some (v :: vs) | _, _ => none) = _
    rw [flVs_ints r]; rfl
theorem inV_ints (i : Int) (ns : List Int) : inV (.int i) (ns.map V.int) = decide (i ∈ ns) := by
  induction ns with
  | nil => rfl
  | cons n r ih =>
    unfold inV at ih ⊢
    rw [List.map_cons, List.any_cons, ih]
    show ((n == i) || _) = _
    by_cases h : n = i
    · rw [decide_eq_true (List.mem_cons.mpr (.inl h.symm)), beq_iff_eq.mpr h]; rfl
    · have e : (n == i) = false := by simpa using h
      rw [e, Bool.false_or]
      exact decide_eq_decide.mpr ⟨fun z => List.mem_cons_of_mem _ z, fun z => (List.mem_cons.mp z).resolve_left fun y => h y.symm⟩
theorem inD_t (i : Int) (ns : List Int) : inD (.int i) (.tuple (ns.map .int)) = some (.bool (decide (i ∈ ns))) := by
  unfold inD inDb
  show Option.map _ (match flV (PyData.int i), flVs (ns.map PyData.int) with | some v, some vs => some (inV v vs) | _, _ => none) = _
  rw [flVs_ints]
  show some (PyData.bool (inV (.int i) (ns.map V.int))) = _
  rw [inV_ints]
theorem inD_l (i : Int) (ns : List Int) : inD (.int i) (.list (ns.map .int)) = some (.bool (decide (i ∈ ns))) := inD_t i ns
theorem notInD_l (i : Int) (ns : List Int) : notInD (.int i) (.list (ns.map .int)) = some (.bool (!decide (i ∈ ns))) := by
  unfold notInD inDb
  show Option.map _ (match flV (PyData.int i), flVs (ns.map PyData.int) with | some v, some vs => some (inV v vs) | _, _ => none) = _
  rw [flVs_ints]
  show some (PyData.bool (!inV (.int i) (ns.map V.int))) = _
  rw [inV_ints]
theorem cut_map {α β : Type} (f : α → β) (xs : List α) (lo hi : Option Int) : cutD (xs.map f) lo hi = (cutD xs lo hi).map f := by
  unfold cutD
  rw [List.length_map, List.map_take, List.map_drop]
theorem cut_to {α : Type} (xs : List α) (m : Nat) : cutD xs none (some (m : Int)) = xs.take m := by
  unfold cutD
  rw [HT.sIx_nat]
  show (xs.drop 0).take (min m xs.length - 0) = _
  rw [List.drop_zero, Nat.sub_zero, List.take_eq_take_iff]
  omega
theorem cut_from {α : Type} (xs : List α) (m : Nat) : cutD xs (some (m : Int)) none = xs.drop m := by
  unfold cutD
  rw [HT.sIx_nat]
  show (xs.drop (min m xs.length)).take (xs.length - min m xs.length) = _
  rw [List.take_of_length_le (by rw [List.length_drop]; omega)]
  by_cases h : m ≤ xs.length
  · rw [Nat.min_eq_left h]
  · rw [Nat.min_eq_right (by omega), List.drop_length, List.drop_of_length_le (by omega)]
theorem cut_ft_len {α : Type} (xs : List α) (m u : Nat) : (cutD xs (some (m : Int)) (some (u : Int))).length ≤ xs.length - m := by
  unfold cutD
  rw [HT.sIx_nat, HT.sIx_nat, List.length_take, List.length_drop]
  omega
/-! enumerate -/
theorem map_nat (ns : List Int) : (List.range ns.length).map (fun k : Nat => nat ns (k : Int)) = ns := by
  apply List.ext_getElem?
  intro k
  by_cases h : k < ns.length
  · rw [List.getElem?_map, List.getElem?_range h, Option.map_some, nat, Int.toNat_natCast, List.getElem?_eq_getElem h]; rfl
  · rw [List.getElem?_eq_none (by simpa using h), List.getElem?_eq_none (by simpa using h)]
theorem enum_range (ns : List Int) : enumFrom 0 (ns.map .int) = (List.range ns.length).map fun k : Nat => .tuple [.int (k : Int), .int (nat ns (k : Int))] := by
  apply List.ext_getElem?
  intro k
  by_cases h : k < ns.length
  · rw [enumFrom_get _ 0 k (.int (nat ns k)), List.getElem?_map, List.getElem?_range h, Option.map_some, Nat.zero_add]
    rw [List.getElem?_map, nat, Int.toNat_natCast, List.getElem?_eq_getElem h]; rfl
  · rw [List.getElem?_eq_none (by rw [enumFrom_len, List.length_map]; omega), List.getElem?_eq_none (by simpa using h)]
theorem set_range (ns : List Int) (i : Nat) (m : Int) : ns.set i m = (List.range ns.length).map fun k : Nat => if k = i then m else nat ns (k : Int) := by
  apply List.ext_getElem?
  intro k
  by_cases h : k < ns.length
  · rw [List.getElem?_map, List.getElem?_range h, Option.map_some, List.getElem?_set]
    by_cases e : i = k
    · rw [if_pos e, if_pos (by omega : i < ns.length), if_pos e.symm]
    · rw [if_neg e, if_neg fun z => e z.symm, nat, Int.toNat_natCast, List.getElem?_eq_getElem h]; rfl
  · rw [List.getElem?_eq_none (by simpa using h), List.getElem?_eq_none (by simpa using h)]
theorem nat_set {ns : List Int} {i : Nat} {m k : Int} (h0 : 0 ≤ k) : nat (ns.set i m) k = if k = (i : Int) ∧ i < ns.length then m else nat ns k := by
  unfold nat
  rw [List.getElem?_set]
  by_cases e : i = k.toNat
  · rw [if_pos e]
    by_cases h : i < ns.length
    · rw [if_pos h, if_pos ⟨by omega, h⟩]; rfl
    · rw [if_neg h, if_neg fun z => h z.2, List.getElem?_eq_none (by omega)]
  · rw [if_neg e, if_neg fun z => e (by omega)]
theorem set_cut (ns : List Int) (i : Nat) (m : Int) (h : i < ns.length) : ns.take i ++ [m] ++ ns.drop (i + 1) = ns.set i m := by
  rw [List.set_eq_take_append_cons_drop, if_pos h, List.append_assoc]; rfl
theorem Sq.enum {r : D} {ns : List Int} (h : Sq r (ns.map .int)) : enum1D [r] = some ((List.range ns.length).map fun k : Nat => .tuple [.int (k : Int), .int (nat ns (k : Int))]) := by
  rw [← enum_range]
  rcases h with rfl | rfl <;> rfl
theorem cut3 (ns : List Int) (i : Int) (h1 : 1 ≤ i) (h2 : i + 1 < ns.length) : cutD ns (some (i - 1)) (some (i + 2)) = [nat ns (i - 1), nat ns i, nat ns (i + 1)] := by
  obtain ⟨k, rfl⟩ : ∃ k : Nat, i = (k : Int) + 1 := ⟨(i - 1).toNat, by omega⟩
  rw [show (k : Int) + 1 - 1 = ((k : Nat) : Int) by omega, show (k : Int) + 1 + 2 = ((k + 3 : Nat) : Int) by omega, show (k : Int) + 1 + 1 = ((k + 2 : Nat) : Int) by omega, show (k : Int) + 1 = ((k + 1 : Nat) : Int) by omega]
  unfold cutD
  rw [HT.sIx_nat, HT.sIx_nat, Nat.min_eq_left (by omega), Nat.min_eq_left (by omega), show k + 3 - k = 3 by omega]
  apply List.ext_getElem?
  intro j
  rw [List.getElem?_take]
  unfold nat
  rcases j with _ | _ | _ | j
  · rw [if_pos (by omega), List.getElem?_drop, Int.toNat_natCast, List.getElem?_eq_getElem (by omega : k + 0 < ns.length)]
    simp [List.getElem?_eq_getElem (by omega : k < ns.length)]
  · rw [if_pos (by omega), List.getElem?_drop, List.getElem?_eq_getElem (by omega : k + (0 + 1) < ns.length)]
    simp [List.getElem?_eq_getElem (by omega : k + 1 < ns.length)]
  · rw [if_pos (by omega), List.getElem?_drop, List.getElem?_eq_getElem (by omega : k + (0 + 1 + 1) < ns.length)]
    rw [show (((k + 2 : Nat) : Int)).toNat = k + 2 by omega]
    simp [List.getElem?_eq_getElem (by omega : k + 2 < ns.length)]
  · rw [if_neg (by omega)]; rfl
/-! the middle one of three -/
def mid3 (a b c : Int) : Int := (srtI [a, b, c])[1]?.getD 0
theorem srt3 (a b c : Int) : ∃ x z, srtI [a, b, c] = [x, mid3 a b c, z] := by
  have h := (srtI_perm [a, b, c]).length_eq
  unfold mid3
  match e : srtI [a, b, c], h with
  | [x, y, z], _ => exact ⟨x, z, rfl⟩
/-- the number after a call -/
def midN (ns : List Int) (i : Int) : Int := if i = 0 ∨ i = (ns.length : Int) - 1 then nat ns i else mid3 (nat ns (i - 1)) (nat ns i) (nat ns (i + 1))
def callN (ns : List Int) (i : Int) : List Int := ns.set i.toNat (midN ns i)
theorem callN_len (ns : List Int) (i : Int) : (callN ns i).length = ns.length := List.length_set
theorem mid3_mem (a b c : Int) : mid3 a b c = a ∨ mid3 a b c = b ∨ mid3 a b c = c := by
  obtain ⟨x, z, e⟩ := srt3 a b c
  have : mid3 a b c ∈ [a, b, c] := (srtI_perm _).mem_iff.mp (by rw [e]; simp)
  simpa using this
theorem addT {xs ys : List D} (h : xs.length + ys.length ≤ 100000) : addU (.tuple xs) (.tuple ys) = some (.tuple (xs ++ ys)) := by
  have e : addD (.tuple xs) (.tuple ys) = some (.tuple (xs ++ ys)) := if_pos (size_of h)
  unfold addU
  rw [e]; rfl
theorem addLL {xs ys : List D} (h : xs.length + ys.length ≤ 100000) : addU (.list xs) (.list ys) = some (.list (xs ++ ys)) := by
  have e : addL (.list xs) (.list ys) = some (xs ++ ys) := if_pos (size_of h)
  unfold addU
  rw [e]; rfl
theorem sliceU_t {xs : List D} {lo hi : Option Int} : sliceU (.tuple xs) lo hi = some (.tuple (cutD xs lo hi)) := rfl
theorem sliceU_l {xs : List D} {lo hi : Option Int} : sliceU (.list xs) lo hi = some (.list (cutD xs lo hi)) := rfl
theorem repLk {xs : List D} {k : Nat} (hk : k ≤ 1000) (h : xs.length * k ≤ 100000) : mulV (.list xs) (.int (k : Int)) = some (.list (List.replicate k xs).flatten) := by
  have e : repL (.list xs) (.int (k : Int)) = some (List.replicate k xs).flatten := by
    unfold repL
    dsimp only
    rw [Int.toNat_natCast, if_pos ⟨by omega, by omega, size_of h⟩]
  have e2 : mulD (.list xs) (.int (k : Int)) = none := rfl
  unfold mulV mulU
  rw [e2, e]; rfl
theorem rep_2 {x : D} : mulV (.list [x]) (.int 2) = some (.list [x, x]) := repLk (k := 2) (by decide) (by show 1 * 2 ≤ 100000; decide)
theorem rep_3 {x : D} : mulV (.list [x]) (.int 3) = some (.list [x, x, x]) := repLk (k := 3) (by decide) (by show 1 * 3 ≤ 100000; decide)
theorem rep_4 {x : D} : mulV (.list [x]) (.int 4) = some (.list [x, x, x, x]) := repLk (k := 4) (by decide) (by show 1 * 4 ≤ 100000; decide)
end DL

/-! DMc: more general lemmas for the plain parts. -/
namespace DL
open PySem L2
/-- if not e: return False, and e is True, and on -/
theorem seq_skip {g : GE} {a b : GS} {ρ : Rho} {o : O} (h : g ρ = .ok (.bool true) ρ) (h2 : b ρ = o) : sSeq (sIf (tNotG (tstE g)) a sNext) b ρ = o := seq_nx (skip_not h) h2
theorem skip1 {g : GE} {a : GS} {ρ : Rho} (h : g ρ = .ok (.bool true) ρ) : sIf (tNotG (tstE g)) a sNext ρ = .nx ρ := skip_not h
theorem lc_nil {vs : List Nat} {k : GG} {t : GT} {e : GE} {ρ : Rho} : lcL vs k t e [] ρ = .ok [] ρ := rfl
theorem lc_cons {vs : List Nat} {k : GG} {t : GT} {e : GE} {ρ ρ1 ρ2 ρ3 ρ4 : Rho} {d y : D} {ds ys : List D} (h1 : k d ρ = some ρ1) (h2 : t ρ1 = .ok true ρ2) (h3 : e ρ2 = .ok y ρ3) (h4 : lcL vs k t e ds (wipeR ρ3 vs) = .ok ys ρ4) : lcL vs k t e (d :: ds) ρ = .ok (y :: ys) ρ4 := by
  show (match k d ρ with | none => R.bad | some ρ1 => (t ρ1).bind fun b ρ2 => if b then (e ρ2).bind fun y ρ3 => (lcL vs k t e ds (wipeR ρ3 vs)).map (y :: ·) else lcL vs k t e ds (wipeR ρ2 vs)) = _
  rw [h1]
  show (t ρ1).bind _ = _
  rw [h2, R.ok_bind, if_pos rfl, h3, R.ok_bind, h4]; rfl
theorem for_nil {k : GG} {b : GS} {ρ : Rho} : forL k b [] ρ = .nx ρ := rfl
theorem for_cons {k : GG} {b : GS} {ρ ρ1 ρ2 : Rho} {d : D} {ds : List D} {o : O} (h1 : k d ρ = some ρ1) (h2 : b ρ1 = .nx ρ2) (h3 : forL k b ds ρ2 = o) : forL k b (d :: ds) ρ = o := by
  show (match k d ρ with | none => O.bad | some ρ1 => match b ρ1 with | .nx ρ2 => forL k b ds ρ2 | .ct ρ2 => forL k b ds ρ2 | .bk ρ2 => .nx ρ2 | o => o) = _
  rw [h1]
  show (match b ρ1 with | .nx ρ2 => forL k b ds ρ2 | .ct ρ2 => forL k b ds ρ2 | .bk ρ2 => .nx ρ2 | o => o) = _
  rw [h2]; exact h3
/-- a loop whose body leaves the environment but the loop's name -/
theorem for_all {k : GG} {b : GS} {ds : List D} (I : Rho → Prop) (h : ∀ d ∈ ds, ∀ ρ, I ρ → ∃ ρ1, k d ρ = some ρ1 ∧ ∃ ρ2, b ρ1 = .nx ρ2 ∧ I ρ2) {ρ : Rho} (h0 : I ρ) : ∃ ρ', forL k b ds ρ = .nx ρ' ∧ I ρ' := by
  induction ds generalizing ρ with
  | nil => exact ⟨ρ, rfl, h0⟩
  | cons d ds ih =>
    obtain ⟨ρ1, e1, ρ2, e2, i2⟩ := h d List.mem_cons_self ρ h0
    obtain ⟨ρ', e3, i3⟩ := ih (fun x hx => h x (List.mem_cons_of_mem _ hx)) i2
    exact ⟨ρ', for_cons e1 e2 e3, i3⟩
end DL

/-! DMd: a, b, c, d = .., with new lists among them. -/
namespace DL
open PySem L2
inductive NwP (K : PySem.W.Frag) (B Z H : Hp) (σ : L2.St) (ρ : Rho) : List V → List Nw → List Addr → Prop
  | nil : NwP K B Z H σ ρ [] [] []
  | s {v : V} {vs : List V} {d : D} {ns : List Nw} {qs : List Addr} : Rp K Z v d → NwP K B Z H σ ρ vs ns qs → NwP K B Z H σ ρ (v :: vs) (.s d :: ns) qs
  | f {q : Addr} {ws vs : List V} {ds : List D} {ns : List Nw} {qs : List Addr} : Z q = none → B q = none → Apart σ ρ q → H q = some (.lst ws) → RpA K Z ws ds → q ∉ qs → NwP K B Z H σ ρ vs ns qs → NwP K B Z H σ ρ (.ref q :: vs) (.f ds :: ns) (q :: qs)
section
variable {K : PySem.W.Frag} {Wx : WX} {te : TE} {tas : TA} {b0 : Option Addr} {B Z0 Z H : Hp} {σ : L2.St} {ρ : Rho}
theorem NwP.len {vs : List V} {ns : List Nw} {qs : List Addr} (h : NwP K B Z H σ ρ vs ns qs) : vs.length = ns.length := by
  induction h with
  | nil => rfl
  | s _ _ ih => rw [List.length_cons, List.length_cons, ih]
  | f _ _ _ _ _ _ _ ih => rw [List.length_cons, List.length_cons, ih]
theorem NwP.none {vs : List V} {ns : List Nw} {qs : List Addr} (h : NwP K B Z H σ ρ vs ns qs) : ∀ q ∈ qs, B q = Option.none := by
  induction h with
  | nil => exact fun q hq => nomatch hq
  | s _ _ ih => exact ih
  | f _ hb _ _ _ _ _ ih =>
    intro q hq
    rcases List.mem_cons.mp hq with rfl | hq
    · exact hb
    · exact ih q hq
def DNP (K : PySem.W.Frag) (t : TA) (g : Rho → R (List Nw)) : Prop := ∀ b0 B Z0 Z H σ ρ ns ρ' (Q : List V → Hp → Prop), Ok K b0 B Z0 Z H σ ρ → g ρ = .ok ns ρ' →
  (∀ vs H' Z' qs, Ok K b0 B Z0 Z' H' σ ρ' → Same Z Z' → NwP K B Z' H' σ ρ' vs ns qs → Q vs H') → t σ H Q
theorem dnp_nil : DNP K tNil nlNil := fun b0 B Z0 Z H σ ρ ns ρ' Q ok e q => by
  cases e
  exact q [] H Z [] ok (Same.refl Z) .nil
theorem dnp_s {g : GE} {r : Rho → R (List Nw)} (h : DE K te g) (hr : DNP K tas r) : DNP K (tCons te tas) (nlCons (nS g) r) := fun b0 B Z0 Z H σ ρ ns ρ' Q ok e q => by
  obtain ⟨n, ρ1, e1, e2⟩ := R.bind_ok e
  obtain ⟨d, e3, rfl⟩ := R.map_ok e1
  obtain ⟨ms, e4, rfl⟩ := R.map_ok e2
  refine h b0 B Z0 Z H σ ρ d ρ1 _ ok e3 fun v H1 Z1 ok1 s1 r1 => ?_
  exact hr b0 B Z0 Z1 H1 σ ρ1 ms ρ' _ ok1 e4 fun vs H2 Z2 qs ok2 s2 r2 => q (v :: vs) H2 Z2 qs ok2 (s1.trans s2) (.s (r1.mono s2) r2)
theorem NwP.back {p : Addr} {o : HO} (bp : B p = Option.none) {vs : List V} {ns : List Nw} {qs : List Addr} (h : NwP K (upd B p o) Z H σ ρ vs ns qs) : NwP K B Z H σ ρ vs ns qs ∧ p ∉ qs := by
  induction h with
  | nil => exact ⟨.nil, fun z => nomatch z⟩
  | s r _ ih => exact ⟨.s r ih.1, ih.2⟩
  | @f q ws vs ds ns qs hz hb ha hh hr hn _ ih =>
    have ne : q ≠ p := fun z => by rw [z, upd_same] at hb; cases hb
    rw [upd_ne ne] at hb
    exact ⟨.f hz hb ha hh hr hn ih.1, fun z => (List.mem_cons.mp z).elim (fun y => ne y.symm) ih.2⟩
theorem dnp_f {g : GF} {r : Rho → R (List Nw)} (h : DF K te g) (hr : DNP K tas r) : DNP K (tCons te tas) (nlCons (nF g) r) := fun b0 B Z0 Z H σ ρ ns ρ' Q ok e q => by
  obtain ⟨n, ρ1, e1, e2⟩ := R.bind_ok e
  obtain ⟨ds, e3, rfl⟩ := R.map_ok e1
  obtain ⟨ms, e4, rfl⟩ := R.map_ok e2
  refine h b0 B Z0 Z H σ ρ ds ρ1 _ ok e3 fun q1 ws H1 Z1 ok1 s1 zq bq aq hq r1 => ?_
  refine hr b0 (upd B q1 (.lst ws)) Z0 Z1 H1 σ ρ1 ms ρ' _ (ok1.frame zq aq hq) e4 fun vs H2 Z2 qs ok2 s2 r2 => ?_
  obtain ⟨ok3, z3, a3, h3⟩ := ok2.unframe (ok1.zz.free zq) bq
  obtain ⟨r3, n3⟩ := NwP.back bq r2
  exact q (.ref q1 :: vs) H2 Z2 (q1 :: qs) ok3 (s1.trans s2) (.f z3 bq a3 h3 (r1.mono s2) n3 r3)
def setV : List Nat → List V → L2.St → L2.St
  | i :: is, v :: vs, σ => setV is vs (σ.set i (some v))
  | _, _, σ => σ
def setN : List Nat → List Nw → Rho → Rho
  | i :: is, n :: ns, ρ => setN is ns (ρ.set i n.sl)
  | _, _, ρ => ρ
theorem apart_set {i : Nat} {v : V} {n : Nw} {q : Addr} (h : Apart σ ρ q) (hv : ∀ ds, n = .f ds → v ≠ .ref q) : Apart (σ.set i (some v)) (ρ.set i n.sl) q := fun j es hj ho hq => by
  rcases set_get hj with ⟨ek, e⟩ | ⟨nk, e⟩
  · subst ek
    cases n with
    | s d => subst e; cases ho
    | f ds =>
      rcases set_get hq with ⟨_, e2⟩ | ⟨n2, _⟩
      · exact hv ds rfl (Option.some.inj e2)
      · exact n2 rfl
  · rw [List.getElem?_set_ne nk] at hq
    exact h j es e ho hq
theorem NwP.set {i : Nat} {v : V} {n : Nw} {vs : List V} {ns : List Nw} {qs : List Addr} (hv : ∀ q ∈ qs, ∀ ds, n = .f ds → v ≠ .ref q) (h : NwP K B Z H σ ρ vs ns qs) : NwP K B Z H (σ.set i (some v)) (ρ.set i n.sl) vs ns qs := by
  induction h with
  | nil => exact .nil
  | s r _ ih => exact .s r (ih hv)
  | f hz hb ha hh hr hn _ ih => exact .f hz hb (apart_set ha (hv _ List.mem_cons_self)) hh hr hn (ih fun q hq => hv q (List.mem_cons_of_mem _ hq))
theorem Ok.setN : ∀ {is : List Nat} {vs : List V} {ns : List Nw} {qs : List Addr} {σ : L2.St} {ρ : Rho}, Ok K b0 B Z0 Z H σ ρ → NwP K B Z H σ ρ vs ns qs → (∀ i ∈ is, i ≠ 0) → is.length = ns.length → Ok K b0 B Z0 Z H (setV is vs σ) (setN is ns ρ)
  | [], _, _, _, _, _, ok, .nil, _, _ => ok
  | [], _, _, _, _, _, ok, .s _ _, _, h => nomatch h
  | [], _, _, _, _, _, ok, .f _ _ _ _ _ _ _, _, h => nomatch h
  | i :: is, _, _, _, _, _, ok, .nil, _, h => nomatch h
  | i :: is, _, _, _, _, _, ok, .s (v := v) (d := d) r h, hi, hl => by
    have ok1 := ok.put (i := i) r
    exact Ok.setN (is := is) ok1 (NwP.set (n := .s d) (fun _ _ _ z => nomatch z) h) (fun j hj => hi j (List.mem_cons_of_mem _ hj)) (by simpa using hl)
  | i :: is, _, _, _, _, _, ok, .f (q := q) (ds := ds) hz hb ha hh hr hn h, hi, hl => by
    have ok1 := ok.putO (i := i) hz hb ha hh hr fun _ _ z => absurd z (hi i List.mem_cons_self)
    exact Ok.setN (is := is) ok1 (NwP.set (n := .f ds) (fun q' hq' _ _ z => hn (by injection z with z; rw [z]; exact hq')) h) (fun j hj => hi j (List.mem_cons_of_mem _ hj)) (by simpa using hl)
def tgN : List Nat → TGs
  | [] => gNil
  | i :: is => gCons (gName i) (tgN is)
theorem tgN_run {H : Hp} {Q : L2.St → Hp → Prop} : ∀ {is : List Nat} {vs : List V} {σ : L2.St}, is.length = vs.length → Q (setV is vs σ) H → tgN is vs σ H Q
  | [], [], _, _, q => ⟨rfl, q⟩
  | [], _ :: _, _, h, _ => nomatch h
  | _ :: _, [], _, h, _ => nomatch h
  | i :: is, v :: vs, σ, h, q => ⟨v, vs, rfl, tgN_run (is := is) (vs := vs) (by simpa using h) q⟩
def sTupN (is : List Nat) (gn : Rho → R (List Nw)) (ρ : Rho) : O := (gn ρ).to fun ns ρ1 => if ns.length = is.length then .nx (setN is ns ρ1) else .bad
theorem ds_tupN {n : Nat} {is : List Nat} {gn : Rho → R (List Nw)} (h : DNP K tas gn) (hn : is.length = n := by rfl) (h0 : ∀ i ∈ is, i ≠ 0 := by decide) (hz : is.length ≤ sizeLine := by decide) : DS K Wx (tAsg (tTup tas) (gTup K n (tgN is))) (sTupN is gn) := fun b0 B Z0 Z H σ ρ E ok s => by
  subst hn
  obtain ⟨ns, ρ1, e1, s⟩ := Sat.to s
  split at s
  · rename_i hl
    refine h b0 B Z0 Z H σ ρ ns ρ1 _ ok e1 fun vs H1 Z1 qs ok1 s1 r1 => ?_
    have lv : vs.length = is.length := r1.len.trans hl
    refine ⟨by rw [lv]; exact hz, fun p hp => ⟨p, vs, rfl, .inl (.inl upd_same), lv, tgN_run lv.symm (s _ _ Z1 ?_)⟩⟩
    have nep : ∀ {q : Addr} {o : HO}, H1 q = some o → q ≠ p := fun hq z => by rw [z, hp] at hq; cases hq
    have r2 : NwP K B Z1 (upd H1 p (.tup vs)) σ ρ1 vs ns qs := by
      clear lv hl s e1
      generalize HO.tup vs = o
      induction r1 with
      | nil => exact .nil
      | s r _ ih => exact .s r ih
      | f hz hb ha hh hr hn _ ih => exact .f hz hb ha (by rw [upd_ne (nep hh)]; exact hh) hr hn ih
    exact Ok.setN (ok1.fresh hp).1 r2 h0 hl.symm
  · exact s.elim
end
/-! ### more for the plain parts -/
theorem for_ex {k : GG} {b : GS} {ρ ρ1 ρ2 : Rho} {d x : D} {c : Str} {ds : List D} (h1 : k d ρ = some ρ1) (h2 : b ρ1 = .ex c x ρ2) : forL k b (d :: ds) ρ = .ex c x ρ2 := by
  show (match k d ρ with | none => O.bad | some ρ1 => match b ρ1 with | .nx ρ2 => forL k b ds ρ2 | .ct ρ2 => forL k b ds ρ2 | .bk ρ2 => .nx ρ2 | o => o) = _
  rw [h1]
  show (match b ρ1 with | .nx ρ2 => forL k b ds ρ2 | .ct ρ2 => forL k b ds ρ2 | .bk ρ2 => .nx ρ2 | o => o) = _
  rw [h2]
theorem for_rt {k : GG} {b : GS} {ρ ρ1 ρ2 : Rho} {d x : D} {ds : List D} (h1 : k d ρ = some ρ1) (h2 : b ρ1 = .rt x ρ2) : forL k b (d :: ds) ρ = .rt x ρ2 := by
  show (match k d ρ with | none => O.bad | some ρ1 => match b ρ1 with | .nx ρ2 => forL k b ds ρ2 | .ct ρ2 => forL k b ds ρ2 | .bk ρ2 => .nx ρ2 | o => o) = _
  rw [h1]
  show (match b ρ1 with | .nx ρ2 => forL k b ds ρ2 | .ct ρ2 => forL k b ds ρ2 | .bk ρ2 => .nx ρ2 | o => o) = _
  rw [h2]
theorem sFor_to {gi : GF} {k : GG} {b : GS} {ρ ρ1 : Rho} {ds : List D} {o : O} (h : gi ρ = .ok ds ρ1) (h2 : forL k b ds ρ1 = o) : sFor gi k b ρ = o := by unfold sFor; rw [h]; exact h2
theorem sFor_ex {gi : GF} {k : GG} {b : GS} {ρ ρ1 ρ2 : Rho} {ds : List D} {c : Str} {x : D} (h : gi ρ = .ok ds ρ1) (h2 : forL k b ds ρ1 = .ex c x ρ2) : sFor gi k b ρ = .ex c x ρ2 := sFor_to h h2
theorem Sq.tup {r : D} {xs : List D} (h : Sq r xs) : tupleD [r] = some (.tuple xs) := by rcases h with rfl | rfl <;> rfl
theorem Sq.lst {r : D} {xs : List D} (h : Sq r xs) : listD [r] = some xs := by rcases h with rfl | rfl <;> rfl
theorem Sq.items {r : D} {xs : List D} (h : Sq r xs) : itemsD r = some xs := by rcases h with rfl | rfl <;> rfl
/-- the row after calls -/
def runN (ns : List Int) (tape : List Int) : List Int := tape.foldl callN ns
theorem runN_len : ∀ (tape ns : List Int), (runN ns tape).length = ns.length
  | [], _ => rfl
  | i :: tape, ns => (runN_len tape (callN ns i)).trans (callN_len ns i)
/-- the places of the idle calls, from k on -/
def idleL (ns : List Int) (k : Nat) : List Int → List Int
  | [] => []
  | i :: tape => (if callN ns i = ns then [(k : Int)] else []) ++ idleL (callN ns i) (k + 1) tape
theorem idleL_len : ∀ (tape ns : List Int) (k : Nat), (idleL ns k tape).length ≤ tape.length
  | [], _, _ => Nat.le_refl 0
  | i :: tape, ns, k => by
    unfold idleL
    have := idleL_len tape (callN ns i) (k + 1)
    rw [List.length_append, List.length_cons]
    split <;> simp <;> omega
theorem callN_iff {ns : List Int} {i : Int} (h0 : 0 ≤ i) (h1 : i < ns.length) : callN ns i = ns ↔ midN ns i = nat ns i := by
  unfold callN
  have hk : i.toNat < ns.length := by omega
  constructor
  · intro h
    have : (ns.set i.toNat (midN ns i))[i.toNat]? = ns[i.toNat]? := by rw [h]
    rw [List.getElem?_set_self hk] at this
    unfold nat
    rw [← this]; rfl
  · intro h
    rw [h]
    unfold nat
    rw [List.getElem?_eq_getElem hk]
    exact List.set_getElem_self hk
theorem heardT_ok {h : Nat} {gn : Rho → R (List Nw)} {Fs : List D → Option D} {gd : GE} {js : List Nat} {m : Rho → Option Rho} {rest : GS} {ρ ρ1 ρ2 ρ3 : Rho} {ns : List Nw} {due : D} {o : O} (h1 : gn ρ = .ok ns ρ1) (h2 : ns.length ≤ sizeLine) (h3 : h < ρ1.length) (h4 : js.length ≤ sizeLine) (h5 : gd (ρ1.set h .no) = .ok due ρ2)
    (h6 : Fs [.list (ns.map Nw.dat), due] = some (.bool true)) (h7 : ∀ j ∈ js, ∃ T, ns[j]? = some (.f T) ∧ T.length + js.length ≤ sizeLine) (h8 : m (ρ2.set h .no) = some ρ3) (h9 : rest ρ3 = o) : sHeardT h gn Fs gd js m rest ρ = o := by
  have h7 : js.all (fun j => isF js.length ns[j]?) = true := List.all_eq_true.mpr fun j hj => by
    obtain ⟨T, e, z⟩ := h7 j hj
    rw [e]
    exact decide_eq_true z
  unfold sHeardT
  rw [h1]
  show (if ns.length ≤ sizeLine ∧ h < ρ1.length ∧ js.length ≤ sizeLine then (gd (ρ1.set h .no)).to _ else .bad) = _
  rw [if_pos ⟨h2, h3, h4⟩, h5]
  show (match Fs [.list (ns.map Nw.dat), due] with
    | some (.bool true) => if js.all (fun j => isF js.length ns[j]?) then (match m (ρ2.set h .no) with | some ρ3 => rest ρ3 | none => .bad) else .bad
    | some (.bool false) => .rt (.bool false) (ρ2.set h .no)
    | _ => .bad) = _
  rw [h6]
  show (if js.all (fun j => isF js.length ns[j]?) = true then (match m (ρ2.set h .no) with | some ρ3 => rest ρ3 | none => .bad) else .bad) = _
  rw [if_pos h7, h8]
  exact h9
end DL

/-! DMe: [f, g, ..][i](..); tests that may raise. -/
namespace DL
open PySem PySem.Spec PyProof.Rows L2
section
variable {X : Cx} {K : PySem.W.Frag} {Wx : WX} {ta tb te ti : TE} {tt : TT} {tas : TA} {t u : TS} {P : Program} {w : World} {mg : Str → Option Value} {base : Heap} {k : Nat} {f : Addr} {fd : FuncData} {ps : List Str}
/-! ### one promise for all kinds -/
def RX.mapL (F : List D → RX (List D)) (ds : List D) : RX D := match F ds with
  | .ok es => .ok (.list es)
  | .ex c d => .ex c d
  | .bad => .bad
def RX.ofO (F : List D → Option D) (ds : List D) : RX D := match F ds with
  | some d => .ok d
  | none => .bad
theorem spX_XF {np : Nat} {F : List D → RX (List D)} {vs : List V} {H : Hp} {Q : VK} {E : XK} (h : spX K np (RX.mapL F) vs H Q E) : spXF K np F vs H Q E := by
  obtain ⟨hl, Z, ds, s, r, q⟩ := h
  refine ⟨hl, Z, ds, s, r, ?_⟩
  unfold RX.mapL at q
  cases e : F ds with
  | ok es =>
    rw [e] at q
    intro p ws H' Z' hh g hp zp hp' ra
    have sz : Same Z' (upd Z' p (.lst ws)) := fun b x eb => by rw [upd_ne (ne_of_none eb zp)]; exact eb
    refine q (.ref p) H' (upd Z' p (.lst ws)) hh ⟨g.1.trans sz, fun b x eb => ?_, fun b x eb => ?_⟩ (.lst upd_same (ra.mono sz))
    · by_cases hb : b = p
      · subst hb; rw [upd_same] at eb; rw [← eb]; exact hp'
      · rw [upd_ne hb] at eb; exact g.2.1 b x eb
    · by_cases hb : b = p
      · subst hb; exact .inr hp
      · rw [upd_ne hb] at eb; exact g.2.2 b x eb
  | ex c d => rw [e] at q; exact q
  | bad => rw [e] at q; exact q
theorem spX_P {np : Nat} {F : List D → Option D} {vs : List V} {H : Hp} {Q : VK} {E : XK} (h : spX K np (RX.ofO F) vs H Q E) : spP K np F vs H Q E := by
  obtain ⟨hl, Z, ds, s, r, q⟩ := h
  unfold RX.ofO at q
  cases e : F ds with
  | some d => rw [e] at q; exact ⟨hl, Z, ds, d, s, r, e, q⟩
  | none => rw [e] at q; exact q.elim
theorem fn_XF {np : Nat} {F : List D → RX (List D)} (h : FnOk P w K mg base (L2.CX P w) k f fd ps (spXF K np F)) : FnOk P w K mg base (L2.CX P w) k f fd ps (spX K np (RX.mapL F)) := h.imp fun _ _ _ _ z => spX_XF z
theorem fn_P {np : Nat} {F : List D → Option D} (h : FnOk P w K mg base CX0 k f fd ps (spP K np F)) : FnOk P w K mg base (L2.CX P w) k f fd ps (spX K np (RX.ofO F)) :=
  ⟨fun vs H Q E q => h.len vs H Q E (spX_P q), fun A outer s H args us vs Q E hr he hb hv hs => codeAny_mono (h.run A outer s H args us vs Q E hr he hb hv (spX_P hs)) fun r s' hq => by
    cases r with
    | error e => exact hq.elim
    | ok fl => cases fl <;> exact hq⟩
structure HeldX (P : Program) (w : World) (K : PySem.W.Frag) (mg : Str → Option Value) (base : Heap) (k : Nat) (f : Addr) (sp : Sp) : Prop where
  ex : ∃ (fd : FuncData) (ps : List Str), FnOk P w K mg base (L2.CX P w) k f fd ps sp ∧ PySem.W.keepIn K (.ref f) = true ∧ Binds K fd ps []
/-! ### the call of a value -/
def tCallF (R : Addr → Sp → Prop) (E : L2.St → XK) (tf : TE) (t : TA) : TE := fun σ H Q => tf σ H fun v H1 => ∃ f sp, v = .ref f ∧ R f sp ∧ t σ H1 fun vs H2 => sp vs H2 Q (E σ)
theorem pe_callF {R : Addr → Sp → Prop} {E : L2.St → XK} {tf : TE} {fe e : Expr} {es : List Expr} {pos : Pos} (A : ∀ f sp, R f sp → HeldX X.prog X.w X.K X.mg X.base k f sp) (hr : Room k X.A) (hx : ∀ σ, PassesAt (L2.CX X.prog X.w) X σ (E σ)) (hf : PE X fe tf) (ha : PA X (e :: es) tas)
    (hc : eval (.Call fe (e :: es) [] pos) X.env = (do callWith pos (← eval fe X.env) [] (backTo pos (starEach (e :: es) X.env)) (backToKw pos (keywordEach [] X.env))) := by rfl)
    (he : starEach (e :: es) X.env = (false, eval e X.env) :: starEach es X.env := by rfl) (hpl : (backTo pos (starEach es X.env)).any (·.1) = false := by rfl) : PE X (.Call fe (e :: es) [] pos) (tCallF R E tf tas) := by
  refine ⟨fun pins s σ H Q I h => ?_⟩
  rw [hc]
  refine wpAny_bind (thn (hf.run pins s σ H _ I h) fun u s1 hh => ?_)
  obtain ⟨v, H1, I1, r1, f, sp, rfl, hR, ht⟩ := hh
  obtain rfl : u = Value.ref f := r1
  obtain ⟨fd, ps, F, hk, hb⟩ := (A f sp hR).ex
  refine PySem.W.callWith_K (h₀ := X.base) I1.ok.mod.kin hk (thn (ha.run pos pins s1 σ H1 _ I1 ht) fun us s2 hh => ?_) he hpl
  obtain ⟨vs, H2, I2, r, q⟩ := hh
  exact ⟨I2.kIn, run_fnS F hr hb (hx σ) I2 r q⟩
/-- the defs of a written list -/
inductive FnL (K : PySem.W.Frag) (np : Nat) : List V → List (List D → RX D) → (Addr → Sp → Prop) → Prop
  | mk {fs : List V} {Fs : List (List D → RX D)} {R : Addr → Sp → Prop} (h : ∀ (j : Nat) (F : List D → RX D), Fs[j]? = some F → ∃ a, fs[j]? = some (.ref a) ∧ R a (spX K np F)) (hl : fs.length = Fs.length) : FnL K np fs Fs R
def eCallIx (Fs : List (List D → RX D)) (gi : GE) (ga : GA) (ρ : Rho) : R D := match gi ρ with
  | .ok (.int i) ρ1 => (match ixN Fs.length i with
    | some j => (match Fs[j]? with
      | some F => eCallX F ga ρ1
      | none => .bad)
    | none => .bad)
  | _ => .bad
theorem xd_callIx {np : Nat} {fs : List V} {Fs : List (List D → RX D)} {R : Addr → Sp → Prop} {gi : GE} {ga : GA} (fl : FnL K np fs Fs R) (hz : Fs.length ≤ sizeLine) (hF : ∀ F ∈ Fs, ∀ ds, F ds ≠ .bad → ds.length = np) (hi : DE K ti gi) (ha : DA K tas ga) :
    XD K Wx (tCallF R (WE Wx) (tOp (rIx K) (tLst (tVs fs)) ti) tas) (eCallIx Fs gi ga) := fun b0 B Z0 Z H σ ρ Q ok s => by
  obtain ⟨h, hl⟩ := fl
  unfold eCallIx at s
  split at s
  case h_2 => exact s.elim
  rename_i i ρ1 e1
  split at s
  case h_2 => exact s.elim
  rename_i j hj
  split at s
  case h_2 => exact s.elim
  rename_i F hF1
  rw [← DL.R.map_id (eCallX F ga ρ1)] at s
  obtain ⟨os, ds, ρ2, e2, hv, s⟩ := satE_call s
  rw [DL.R.map_id] at s
  refine tVs_run (Q := fun xs H2 => xs.length ≤ sizeLine ∧ ∀ p, H2 p = none → _) fs ⟨by rw [hl]; exact hz, fun p hp => ?_⟩
  obtain ⟨okf, zp, bp, ap⟩ := ok.fresh (o := .lst fs) hp
  have okw := okf.frame zp ap upd_same
  have z0 : Z0 p = none := ok.zz.free zp
  refine hi b0 _ Z0 Z _ σ ρ (.int i) ρ1 _ okw e1 fun v H1 Z1 ok1 s1 r1 => ?_
  cases r1
  obtain ⟨a, ea, hR⟩ := h j F hF1
  have hp1 : H1 p = some (.lst fs) := ok1.bh p _ upd_same
  obtain ⟨ok2, _, _, _⟩ := ok1.unframe z0 bp
  refine .inl ⟨p, fs, i, .ref a, rfl, rfl, .inl (.inl hp1), ?_, a, _, rfl, hR, ?_⟩
  · show (ixN fs.length i).bind (fs[·]?) = _
    rw [hl, hj]; exact ea
  · refine ha b0 B Z0 Z1 H1 σ ρ1 os ρ2 _ ok2 e2 fun vs H2 Z2 ok3 s3 r3 => ?_
    exact callX_run (H := H1) (hF F (List.mem_of_getElem? hF1)) ok3 (s1.trans s3) (valA_ok r3 hv) s
/-! ### a test that may raise -/
def xOpL (f : D → D → Option D) (g : GE) (b : GE) (ρ : Rho) : R D := (g ρ).bind fun d ρ1 => match b ρ1 with
  | .ok e ρ2 => R.lift (f d e) ρ2
  | _ => .bad
theorem xd_opL {r : R2} {f : D → D → Option D} {g b : GE} (sn : Sn2 K r f) (h : XD K Wx ta g) (hb : DE K tb b) : XD K Wx (tOp r ta tb) (xOpL f g b) := fun b0 B Z0 Z H σ ρ Q ok s => by
  refine h b0 B Z0 Z H σ ρ _ ok ?_
  unfold xOpL at s
  cases e : g ρ with
  | ok d ρ1 =>
    rw [e, R.ok_bind] at s
    intro v H1 Z1 ok1 s1 r1
    split at s
    · rename_i e' ρ2 e2
      refine hb b0 B Z0 Z1 H1 σ ρ1 e' ρ2 _ ok1 e2 fun v2 H2 Z2 ok2 s2 r2 => ?_
      cases e3 : f d e' with
      | none => rw [e3] at s; exact s.elim
      | some c =>
        rw [e3] at s
        exact sn b0 B Z0 Z2 H2 σ ρ2 v v2 d e' c Q ok2 ((r1.mono s2).bd ok2.zh) (r2.bd ok2.zh) e3 fun w H3 Z3 ok3 s3 r3 => s w H3 Z3 ok3 ((s1.trans s2).trans s3) r3
    · exact s.elim
  | ex c d ρ1 => rw [e] at s; exact s
  | bad => rw [e] at s; exact s
def sIfX (g : GE) (a b : GS) (ρ : Rho) : O := (g ρ).toX fun d ρ1 => match d with
  | .bool true => a ρ1
  | .bool false => b ρ1
  | _ => .bad
theorem ds_ifX {g : GE} {a b : GS} (h : XD K Wx te g) (ha : DS K Wx t a) (hb : DS K Wx u b) : DS K Wx (tIfS (tTest te) t u) (sIfX g a b) := fun b0 B Z0 Z H σ ρ E ok s => by
  refine h b0 B Z0 Z H σ ρ _ ok (Sat.toX s ok fun d ρ' _ s v H' Z' ok' r => ?_)
  split at s
  · cases r; exact ⟨true, rfl, ha b0 B Z0 Z' H' σ ρ' E ok' s⟩
  · cases r; exact ⟨false, rfl, hb b0 B Z0 Z' H' σ ρ' E ok' s⟩
  · exact s.elim
end
theorem mapL_len {F : List D → RX (List D)} {np : Nat} (h : ∀ ds, F ds ≠ .bad → ds.length = np) (ds : List D) (hb : RX.mapL F ds ≠ .bad) : ds.length = np := h ds fun e => hb (by unfold RX.mapL; rw [e])
theorem ofO_len {F : List D → Option D} {np : Nat} (h : ∀ ds d, F ds = some d → ds.length = np) (ds : List D) (hb : RX.ofO F ds ≠ .bad) : ds.length = np := by
  unfold RX.ofO at hb
  cases e : F ds with
  | some d => exact h ds d e
  | none => rw [e] at hb; exact absurd rfl hb
end DL

/-! DMf: own exception classes made by keyword. -/
namespace DLX
open PySem PySem.W PySem.Calls PyProof.Rows PySem.HandSPX
open Builtin Builtin.ObjectAttr
section
variable {M : Model} {A : Around} {E : Value → Shared → Prop} {h : Heap} {g : Array GenState} {d : Drawn} {t : Nat} {os : OsState}
variable {nm q : Str} {C N : Addr} {bs bm bmB : List Value} {hdct : Bool} {sn : List Str} {sub : List Value} {ab : Bool} {col : Option Bool} {dd : Option Addr} {k0 k1 k2 k3 k5 : Option Value} {B newId initId : String}
theorem check_new_kw (F : ExcBaseFacts B newId initId bmB) {f : Str} {u : Value} {Q : Unit → Shared → Prop}
    (hC : h.get? C = some (excClassObj nm q C N bs bmB hdct sn sub ab col dd k0 k1 k2 k3 k5 newId)) (hq : Q () ⟨h, g, d, t, os⟩) : wpAny M A (checkBuiltinCall newId ⟨[.ref C], [(f, u)]⟩) Q E ⟨h, g, d, t, os⟩ := by
  have hcont : (Value.ref C :: bmB).contains (.type B) = true := by rw [List.contains_cons, F.hasB, Bool.or_true]
  have hstar := F.noStar
  simp only [checkBuiltinCall, F.newKind, F.newSplit, F.newRow]
  repeat (first | refine wpAny_loadPart_at hC ?_ | (refine wpAny_isSubtype_exc hC ?_; rw [hcont]) | refine wpAny_staticBase_exc hC ?_ | refine wpAny_madeBy_exc hC ?_ | simp only [bne_self_eq_false, Bool.false_eq_true, if_false] | wp_step)
  exact hq
end
section
variable {prog : Program} {w : World} {A : Around} {E : Value → Shared → Prop} {R : Result → Shared → Prop} {h : Heap} {g : Array GenState} {d : Drawn} {t : Nat} {os : OsState}
variable {nm q : Str} {C N : Addr} {bs bmB : List Value} {hdct : Bool} {sn : List Str} {sub : List Value} {ab : Bool} {col : Option Bool} {dd : Option Addr} {k0 k1 k2 k3 k5 : Option Value} {B newId initId : String}
theorem new_kw (F : ExcBaseFacts B newId initId bmB) {f : Str} {u : Value}
    (hC : h.get? C = some (excClassObj nm q C N bs bmB hdct sn sub ab col dd k0 k1 k2 k3 k5 newId))
    (hq : R (.ok (.ret (.ref (h.objs.size + 1)))) ⟨(h.push { cls := .type "tuple", data := .seq #[] }).push
      { cls := .ref C, data := .fields #[.ref h.objs.size, .none, .none, .none, .bool false, .none] }, g, d, t, os⟩) :
    codeAny (model prog w) A (.builtin newId ⟨[.ref C], [(f, u)]⟩) R ⟨h, g, d, t, os⟩ := by
  have hends := F.ends
  have hcB : (Value.ref C :: bmB).contains (.type B) = true := by rw [List.contains_cons, F.hasB, Bool.or_true]
  have hcA : (Value.ref C :: bmB).contains (.type "AttributeError") = false := by rw [List.contains_cons, F.noAttr]; rfl
  have hcN : (Value.ref C :: bmB).contains (.type "NameError") = false := by rw [List.contains_cons, F.noName]; rfl
  refine codeAny_builtinAt F.entry ?_
  unfold Builtin.«BaseException.__new__»
  refine PySem.wpAt_bind ?_
  show PySem.wpAt _ _ _ (stack >>= _) _ _ _
  refine PySem.wpAt_bind (PySem.wpAt_stack fun p below => PySem.wpAt_of_wpAny ?_)
  wp_walk
  refine PySem.wpAt_of_wpAny ?_
  rw [F.owner]
  repeat (first | with_reducible refine wpAny_madeHere_exc F.canon hC ?_ | with_reducible refine wpAny_loadPart_at hC ?_ | (with_reducible refine wpAny_isSubtype_exc hC ?_; first | rw [hcB] | rw [hcA] | rw [hcN]) | wp_step)
  show R _ _
  rw [Heap.size_push]
  exact hq
theorem type_call_kw (F : ExcBaseFacts B newId initId bmB) {f : Str} {u : Value} {fI : Addr} {Q : Fin → Shared → Prop}
    (hC : h.get? C = some (excClassObj nm q C N bs bmB hdct sn sub ab col dd k0 k1 k2 k3 k5 newId))
    (hi : W.Looks (model prog w) h (typeLookup (.ref C) "__init__") (some (.ref fI))) (hb : ∀ self, W.Looks (model prog w) h (bindSpecial (.ref fI) self) (.ref fI, [self]))
    (hq : codeAny (model prog w) A (.call (.ref fI) ⟨[.ref (h.objs.size + 1)], [(f, u)]⟩)
      (fun r s' => match r with | .ok (.ret v) => v = .none ∧ Q (.done (.ret (.ref (h.objs.size + 1)))) s' | .ok _ => False | .error e => E e s')
      ⟨(h.push (W.kdv_tup [])).push (excO C h.objs.size), g, d, t, os⟩) :
    wpAny (model prog w) A (Builtin.«type.__call__» ⟨[.ref C], [(f, u)]⟩) Q E ⟨h, g, d, t, os⟩ := by
  repeat (first | with_reducible refine wpAny_loadPart_at hC ?_ | with_reducible refine wpAny_madeBy_exc hC ?_ | wp_step)
  refine codeAny_call_builtin_code (Code.quiet_builtin _ F.quiet) (check_new_kw F hC ?_)
  refine new_kw F hC ?_
  show wpAny _ _ _ _ _ _
  have k : ∀ b o, h.get? b = some o → ((h.push (W.kdv_tup [])).push (excO C h.objs.size)).get? b = some o := fun b o e => Heap.get?_push_of_some _ (Heap.get?_push_of_some _ e)
  have hC₁ := k _ _ hC
  have hget : ((h.push (W.kdv_tup [])).push (excO C h.objs.size)).get? (h.objs.size + 1) = some (excO C h.objs.size) := by heap_get
  have hcC : (Value.ref C :: bmB).contains (.ref C) = true := by simp
  have i1 := hi.keeps k
  have b1 := (hb (.ref (h.objs.size + 1))).keeps k
  unfold isInstance
  repeat (first | with_reducible refine wpAny_loadPart_at hget ?_ | (with_reducible refine wpAny_isSubtype_exc hC₁ ?_; rw [hcC]) | wp_step)
  show wpAny _ _ (typeLookup (.ref C) _) _ _ _
  refine i1.at ?_
  refine wpAny_holding (wpAny_bind (b1.at ?_))
  refine wpAny_bind (wpAny_call (codeAny_mono hq fun r s' z => ?_))
  rcases r with e | (v | _ | _ | _) <;> first | exact z | exact z.elim | skip
  obtain ⟨rfl, z⟩ := z
  first
    | exact wpAny_pure (wpAny_pure z)
    | (wp_walk; exact z)
theorem check_tc_kw {M : Model} {f : Str} {u : Value} {Q : Unit → Shared → Prop} (hC : h.get? C = some (excClassObj nm q C N bs bmB hdct sn sub ab col dd k0 k1 k2 k3 k5 newId))
    (hq : Q () ⟨h, g, d, t, os⟩) : wpAny M A (checkBuiltinCall "type.__call__" ⟨[.ref C], [(f, u)]⟩) Q E ⟨h, g, d, t, os⟩ := by
  have f3 := tc_sub
  have hT : (⟨h, g, d, t, os⟩ : Shared).TypeIs (.ref C) "type" := ⟨_, hC, rfl⟩
  simp only [checkBuiltinCall, tc_kind, tc_split]
  repeat (any_goals (first | assumption | with_reducible refine wpAny_loadPart_at hC ?_ | with_reducible refine wpAny_onRaise ?_ | with_reducible refine wpAny_map ?_ | wp_step))
theorem call_kw (F : ExcBaseFacts B newId initId bmB) {f : Str} {u : Value} {fI : Addr}
    (hC : h.get? C = some (excClassObj nm q C N bs bmB hdct sn sub ab col dd k0 k1 k2 k3 k5 newId))
    (hi : W.Looks (model prog w) h (typeLookup (.ref C) "__init__") (some (.ref fI))) (hb : ∀ self, W.Looks (model prog w) h (bindSpecial (.ref fI) self) (.ref fI, [self]))
    (hq : codeAny (model prog w) (A.under (.builtin "type.__call__" ⟨[.ref C], [(f, u)]⟩)) (.call (.ref fI) ⟨[.ref (h.objs.size + 1)], [(f, u)]⟩) (W.InitBack (h.objs.size + 1) R)
      ⟨(h.push (W.kdv_tup [])).push (excO C h.objs.size), g, d, t, os⟩) :
    codeAny (model prog w) A (.call (.ref C) ⟨[], [(f, u)]⟩) R ⟨h, g, d, t, os⟩ := by
  have f1 := tc_lookup
  have f2 := tc_bind (.ref C)
  have hTy : (⟨h, g, d, t, os⟩ : Shared).TypeIs (.ref C) "type" := ⟨_, hC, rfl⟩
  refine codeAny_of_tree ?_
  show wpAny _ _ (callAny (.ref C) _) _ _ _
  repeat (any_goals (first | assumption | with_reducible refine wpAny_loadPart_at hC ?_ | wp_step))
  refine ⟨rfl, ?_⟩
  refine codeAny_call_builtin_at (Code.quiet_builtin _ (by decide +kernel)) entry_typeCall (check_tc_kw hC (type_call_kw F hC hi hb ?_))
  refine codeAny_mono hq fun r s' z => ?_
  rcases r with e | (v | _ | _ | _) <;> exact z
end
end DLX
namespace DL
open PySem PySem.Spec PyProof.Rows L2 DLX
/-- the keyword of an __init__ -/
def KwI (K : PySem.W.Frag) (fd : FuncData) (f : Str) : Prop := ∀ (s : Shared) (a u : Value), K.In s.heap → BindsTo s fd ⟨[a], [(f, u)]⟩ ((["self", f] : List Str).zip [a, u])
structure OxK (P : Program) (w : World) (K : PySem.W.Frag) (mg : Str → Option Value) (base : Heap) (nw : String) (tl : List Value) (C : Addr) (f : Str) : Prop where
  c : OxC K nw tl C
  no : PySem.W.findIn K (.ref C) f = some none
  i : ∃ (fI : Addr) (fd : FuncData), PySem.W.findIn K (.ref C) "__init__" = some (some (.ref fI)) ∧ PySem.W.typeIn K (.ref fI) = some (.type "function") ∧ FnOk P w K mg base CX0 1 fI fd ["self", f] (spIni K nw tl f) ∧ KwI K fd f
section
variable {X : Cx} {ta : TA} {f x : Str} {p pos : Pos} {C : Addr} {B nw ini : String} {tl : List Value}
theorem ox_callK {pins : List (Addr × Obj)} {σ : L2.St} {H1 : Hp} {s1 : Shared} {v : V} {u : Value} {Q : Value → Shared → Prop} {EE : Value → Shared → Prop} (bs : Bs B nw ini tl) (T : OxK X.prog X.w X.K X.mg X.base nw tl C f) (hr : Room 2 X.A) (I1 : Inv X pins σ H1 s1) (r : RelV v u)
    (h : ∀ (a d : Addr) (k2 : Heap) (H2 : Hp) (s2 : Shared), s1.heap.objs.size ≤ a → (∀ b o, s1.heap.get? b = some o → k2.get? b = some o) → H1 a = none → H1 d = none → d ≠ a → H2 = upd (upd (upd H1 a (exo a C none)) d (exd d [(f, v)])) a (exo a C (some d)) →
      Un (frs X.stack) [] (upd H1 a (exo a C none)) H2 k2 s2.heap → HOk X.prog X.w H2 s2.heap → s2.os = s1.os → AllBare s2.gens → Inv X pins σ H2 s2 → Q (.ref a) s2) :
    wpAny (model X.prog X.w) X.A (call (.ref C) [] [(f, u)]) Q EE s1 := by
  obtain ⟨nm, q, N, bss, sn, sub, ab, col, dd, k0, k1, k2, k3, k5, hC⟩ := T.c.cls
  obtain ⟨fI, fd, iC, tI, F1, hb⟩ := T.i
  obtain ⟨hp, g, dr, tk, os⟩ := s1
  have up1 : hp.objs.size ≤ hp.objs.size + 1 := Nat.le_succ _
  have fr1 : H1 (hp.objs.size + 1) = none := I1.hok.fresh up1
  have kk : ∀ b o, hp.get? b = some o → ((hp.push (PySem.W.kdv_tup [])).push (PySem.HandSPX.excO C hp.objs.size)).get? b = some o := fun b o e => Heap.get?_push_of_some _ (Heap.get?_push_of_some _ e)
  have hget : ((hp.push (PySem.W.kdv_tup [])).push (PySem.HandSPX.excO C hp.objs.size)).get? (hp.objs.size + 1) = some (PySem.HandSPX.excO C hp.objs.size) := by heap_get
  have I2 : Inv X pins σ (upd H1 (hp.objs.size + 1) (exo (hp.objs.size + 1) C none)) ⟨(hp.push (PySem.W.kdv_tup [])).push (PySem.HandSPX.excO C hp.objs.size), g, dr, tk, os⟩ := I1.laid (t' := tk) kk up1 (exo_ok hget)
  have r2 : Vals [V.ref (hp.objs.size + 1), v] [Value.ref (hp.objs.size + 1), u] := .cons rfl (.cons r .nil)
  refine wpAny_call (DLX.call_kw bs.f (I1.kIn _ _ hC) (PySem.W.looks_findIn I1.kIn iC) (fun self => PySem.W.bind_fn I1.kIn self tI)
    (codeAny_mono (F1.run _ X.stack _ (upd H1 (hp.objs.size + 1) (exo (hp.objs.size + 1) C none)) ⟨[.ref (hp.objs.size + 1)], [(f, u)]⟩ [.ref (hp.objs.size + 1), u] [.ref (hp.objs.size + 1), v]
      (fun v' H2 => v' = .non ∧ ∃ d, H1 d = none ∧ d ≠ hp.objs.size + 1 ∧ H2 = upd (upd (upd H1 (hp.objs.size + 1) (exo (hp.objs.size + 1) C none)) d (exd d [(f, v)])) (hp.objs.size + 1) (exo (hp.objs.size + 1) C (some d))) (fun _ _ _ => False)
      (hr.make C [] [(f, u)]) (I2.env0.make C [] [(f, u)]) (hb _ (.ref (hp.objs.size + 1)) u I2.kIn) r2 ?_) fun r s' hq' => ?_))
  · refine ⟨_, C, v, rfl, T.c, T.no, upd_same, fun dx hdx hne => ⟨rfl, dx, ?_, hne, rfl⟩⟩
    rw [upd_ne hne] at hdx; exact hdx
  · cases r with
    | error er => exact hq'.elim
    | ok fl =>
      cases fl with
      | ret u' =>
        have J := I2.after hq'
        obtain ⟨v', H2, J2, _, _⟩ := J
        obtain ⟨v2, H3, os2, bare2, un2, hok2, rv, ev, d, hd, dne, eH⟩ := hq'
        subst ev
        refine ⟨rv, h _ d _ H3 s' up1 kk fr1 hd dne eH un2 hok2 os2 bare2 ?_⟩
        have K2 := I2.after (Q := fun v' H2 => v' = .non ∧ H2 = H3) ⟨.non, H3, os2, bare2, un2, hok2, rv, rfl, rfl⟩
        obtain ⟨_, _, J3, _, _, e3⟩ := K2
        rw [← e3]; exact J3
      | next => exact hq'.elim
      | brk => exact hq'.elim
      | cont => exact hq'.elim
theorem pe_oxK {kws : List Keyword} (bs : Bs B nw ini tl) (T : OxK X.prog X.w X.K X.mg X.base nw tl C f) (hr : Room 2 X.A) (hg : Gl X x) (hm : X.mg x = some (.ref C)) (ha : PK X kws ta) (hdb : (x == ("__debug__" : Str)) = false := by decide)
    (c1 : (backToKw pos (keywordEach kws X.env)).all (·.1.isSome) = true := by rfl) (c2 : (backToKw pos (keywordEach kws X.env)).filterMap (·.1) = [f] := by rfl)
    (c4 : ((backTo pos (starEach [] X.env)).any (·.1) || (backToKw pos (keywordEach kws X.env)).any (·.1.isNone)) = false := by rfl) : PE X (.Call (.Name x p) [] kws pos) (tMkV C f ta) := by
  refine ⟨fun pins s σ H Q I h => wpAny_Call_Name_kw (ld_glob I hg hm (PySem.W.callWith_KW0 (h₀ := X.base) I.ok.mod.kin T.c.kp c1 ?_ c4) hdb)⟩
  refine thn (ha.run pos pins s σ H _ I h) fun us s1 hh => ?_
  obtain ⟨vs, H1, I1, r1, v, rfl, q1⟩ := hh
  refine ⟨I1.kIn, ?_⟩
  rw [c2]
  cases r1 with
  | cons rv rn =>
    cases rn
    refine ox_callK bs T hr I1 rv fun a d k2 H2 s2 ha1 kk na nd ne eH un2 hok2 os2 bare2 J => ?_
    have ea : H2 a = some (exo a C (some d)) := by rw [eH]; exact upd_same
    have ed : H2 d = some (exd d [(f, v)]) := by rw [eH, upd_ne ne]; exact upd_same
    obtain ⟨t1, ho⟩ := exo_at hok2 ea
    obtain ⟨mA, hn, rel⟩ := exd_at hok2 ed
    obtain ⟨h2, g2, d2, t2, os2'⟩ := s2
    have J1 := J.write (t' := t2) (h' := h2) (x := a) (e := a) (o := exk a C d) (by rw [ea]; exact True.intro) (.inl rfl) (fun b u _ q => q) ⟨_, ho⟩ (exk_ok ho ⟨rfl, rfl⟩ rfl)
    have ed1 : upd H2 a (exk a C d) d = some (exd d [(f, v)]) := by rw [upd_ne ne]; exact ed
    obtain ⟨od, _, _, hod, _⟩ := id hn
    have J2 := J1.write (t' := t2) (h' := h2) (x := d) (e := d) (o := .xd [(f, v)]) (by rw [ed1]; exact True.intro) (.inl rfl) (fun b u _ q => q) ⟨_, hod⟩ ⟨mA, hn, rel⟩
    have eq : upd (upd H2 a (exk a C d)) d (.xd [(f, v)]) = upd (upd H1 d (.xd [(f, v)])) a (exk a C d) := funext fun b => by
      by_cases hba : b = a
      · rw [hba, upd_ne (Ne.symm ne), upd_same, upd_same]
      · rw [upd_ne hba]
        by_cases hb : b = d
        · rw [hb, upd_same, upd_same]
        · rw [upd_ne hb, upd_ne hb, upd_ne hba, eH, upd_ne hba, upd_ne hb, upd_ne hba]
    rw [eq] at J2
    exact ⟨.ref a, _, J2, rfl, q1 a d na nd ne⟩
end
end DL

/-! DMg: str of an int or a text. -/
namespace DL
open PySem PySem.Spec PyProof.Rows L2
def strD : List D → Option D
  | [.int i] => if i.natAbs.log2 < 1920 then some (.str (toString i)) else none
  | [.str a] => some (.str a)
  | _ => none
def rStr1 : List V → Hp → VK → Prop := fun xs H Q => (∃ i, xs = [.int i] ∧ i.natAbs.log2 < 1920 ∧ Q (.str (toString i)) H) ∨ ∃ a, xs = [.str a] ∧ Q (.str a) H
theorem call_strU {X : Cx} : CallR X (.type "str") rStr1 := by
  intro pins s σ H xs us Q I r h
  rcases h with h | h
  · exact call_str_int pins s σ H xs us Q I r h
  · exact SkE.call_str_str pins s σ H xs us Q I r h
theorem sn_str {K : PySem.W.Frag} : SnA K rStr1 strD := fun b0 B Z0 Z H σ ρ xs as c Q ok ha e q => by
  unfold strD at e
  split at e
  · split at e
    · cases e
      cases ha with
      | cons h h' =>
      cases h'; cases h
      exact .inl ⟨_, rfl, ‹_›, q _ H Z ok (Same.refl Z) (.str _)⟩
    · cases e
  · cases e
    cases ha with
    | cons h h' =>
    cases h'; cases h
    exact .inr ⟨_, rfl, q _ H Z ok (Same.refl Z) (.str _)⟩
  · cases e
end DL

/-! DMh: enumerate(zip(a, b)): a zip whose tuples are kept by another, enumerate over it. -/
namespace DLZ
open PySem
abbrev ZipP (h : Heap) (z TI TO : Addr) (p : Value) (f : Bool) : Prop := h.get? z = some { cls := .type "zip", dict := none, data := .fields #[p, .bool f, .bool false, .ref TI, .ref TO], slots := #[] }
/-- a zip, whatever became of its tuple -/
def ZipA (h : Heap) (z TI TO : Addr) : Prop := ∃ p f, ZipP h z TI TO p f ∧ (p = .none ∨ ∃ T : Nat, p = rawInt (T : Int))
section
variable {prog : Program} {w : World} {A : Around} {E : Value → Shared → Prop} {s : Shared} {z TI TO i1 i2 : Addr} {fp1 fp2 : List Addr} {n1 n2 i : Nat} {P1 P2 : Nat → Value → Prop} {St1 St2 : Nat → Heap → Prop} {a1 a2 : Value}
theorem alive_any {a : Addr} {Q : Option Obj → Shared → Prop} (h : Q (s.heap.get? a) s) : wpAny (model prog w) A (loadIfAlive a) Q E s := fun _ _ _ => h
theorem zip_free {p : Value} {f : Bool} {Q : Bool → Shared → Prop} (hz : ZipP s.heap z TI TO p f) (hp : p = .none ∨ ∃ T : Nat, p = rawInt (T : Int)) (h1 : Q true s)
    (h2 : ∀ h' f', ZipP h' z TI TO p f' → Heap.SameBut z s.heap h' → Q false { s with heap := h' }) : wpAny (model prog w) A (Builtin.SmallTypes.ownedTupleIsFree (.ref z)) Q E s := by
  unfold Builtin.SmallTypes.ownedTupleIsFree
  rcases hp with rfl | ⟨T, rfl⟩
  · exact wpAny_bind (wpAny_field hz rfl (x := .none) rfl (wpAny_pure h1))
  · refine wpAny_bind (wpAny_field hz rfl (x := rawInt (T : Int)) rfl ?_)
    show wpAny _ _ (loadIfAlive ((T : Int).toNat) >>= _) _ _ _
    rw [Int.toNat_natCast]
    refine wpAny_bind (alive_any ?_)
    cases s.heap.get? T with
    | none =>
      simp only [Option.isNone_none, if_true]
      exact wpAny_pure h1
    | some oT =>
      simp only [Option.isNone_some, Bool.false_eq_true, if_false]
      refine wpAny_bind (wpAny_field hz rfl (x := .bool f) rfl ?_)
      cases f with
      | true =>
        rw [if_neg (show ¬ ((Value.bool true != Value.bool true) = true) from Bool.false_ne_true)]
        exact wpAny_pure (h2 s.heap _ hz (Heap.SameBut.refl _ _))
      | false =>
        rw [if_pos (show (Value.bool false != Value.bool true) = true from rfl)]
        exact wpAny_bind (wpAny_setField_rec hz (by simp) fun h₁ hz₁ hs₁ => wpAny_pure (h2 h₁ true hz₁ hs₁))
theorem zipX_item {Q : Value → Shared → Prop} (S : ZipSep2 z TI TO i1 i2 fp1 fp2) (D1 : Draws prog w A i1 fp1 n1 P1 St1) (D2 : Draws prog w A i2 fp2 n2 P2 St2)
    (hz : ZipA s.heap z TI TO) (hTI : IsTupOf2 s.heap TI (.ref i1) (.ref i2)) (hTO : IsTupOf2 s.heap TO a1 a2) (st1 : St1 i s.heap) (st2 : St2 i s.heap) (hlt1 : i < n1) (hlt2 : i < n2)
    (hQ : ∀ x1 x2 h' tk, P1 i x1 → P2 i x2 → ZipA h' z TI TO → (∃ b1 b2, IsTupOf2 h' TO b1 b2) → St1 (i + 1) h' → St2 (i + 1) h' → IsTupOf2 h' s.heap.objs.size x1 x2 → h'.objs.size = s.heap.objs.size + 1 →
      (∀ c o, c ≠ z → c ≠ TO → c ≠ i1 → c ≠ i2 → s.heap.get? c = some o → h'.get? c = some o) → Q (.ref s.heap.objs.size) { s with heap := h', toks := tk }) :
    wpAny (model prog w) A (Builtin.«zip.__next__» ⟨[.ref z], []⟩) (fun fin s' => ∃ v, fin = .done (.ret v) ∧ Q v s') E s := by
  obtain ⟨hp, g, d, tk0, os⟩ := s
  obtain ⟨p, f, hz, hpp⟩ := hz
  show wpAny _ _ (field (.ref z) 2 >>= _) _ _ _
  refine wpAny_bind (wpAny_field hz rfl (x := .bool false) rfl ?_)
  show wpAny _ _ (field (.ref z) 3 >>= _) _ _ _
  refine wpAny_bind (wpAny_field hz rfl (x := .ref TI) rfl ?_)
  refine wpAny_bind (wpAny_seqItems hTI rfl ?_)
  show wpAny _ _ (Builtin.SmallTypes.ownedTupleIsFree (.ref z) >>= _) _ _ _
  refine wpAny_bind (zip_free hz hpp ?_ fun g0 f' hz0 hs0 => ?_)
  · simp only [if_true]
    refine wpAny_bind (wpAny_rule ?_)
    refine wpAny_bind (wpAny_field hz rfl (x := .ref TO) rfl ?_)
    refine wpAny_bind (wpAny_setField_rec hz (by simp) fun g0 hz0 hs0 => ?_)
    replace hz0 : ZipP g0 z TI TO .ellipsis f := hz0
    replace hs0 : Heap.SameBut z hp g0 := hs0
    refine wpAny_bind ?_
    simp only [List.zipIdx_cons, List.zipIdx_nil, List.forIn_cons, List.forIn_nil]
    refine wpAny_bind (wpAny_bind (wpAny_onRaise ?_))
    show wpAny _ _ (Builtin.SmallTypes.nextOf (.ref i1) >>= _) _ _ ⟨g0, g, d, tk0, os⟩
    refine wpAny_bind (D1.item i _ _ _ hlt1 (D1.over st1 hs0 S.zf1) fun x1 p1 tk1 hx1 sn1 hp1 => wpAny_pure ?_)
    replace hp1 : Heap.SameBut i1 g0 p1 := hp1
    have hU1 : IsTupOf2 p1 TO a1 a2 := hp1.extBut _ _ S.Ti1 (hs0.extBut _ _ S.TOz hTO)
    refine wpAny_bind (wpAny_seqItems (s := ⟨p1, g, d, tk1, os⟩) hU1 rfl ?_)
    refine wpAny_bind (updateSeq_IsTupOf2 (s := ⟨p1, g, d, tk1, os⟩) hU1 fun g1 hT1 hs1 => ?_)
    replace hT1 : IsTupOf2 g1 TO x1 a2 := hT1
    replace hs1 : Heap.SameBut TO p1 g1 := hs1
    refine wpAny_bind (wpAny_letGo (wpAny_pure ?_))
    refine wpAny_bind (wpAny_bind (wpAny_onRaise ?_))
    show wpAny _ _ (Builtin.SmallTypes.nextOf (.ref i2) >>= _) _ _ ⟨g1, g, d, tk1, os⟩
    refine wpAny_bind (D2.item i _ _ _ hlt2 (D2.over (D2.over (D2.over st2 hs0 S.zf2) hp1 S.sep1_2) hs1 S.Tf2) fun x2 p2 tk2 hx2 sn2 hp2 => wpAny_pure ?_)
    replace hp2 : Heap.SameBut i2 g1 p2 := hp2
    have hU2 : IsTupOf2 p2 TO x1 a2 := hp2.extBut _ _ S.Ti2 hT1
    refine wpAny_bind (wpAny_seqItems (s := ⟨p2, g, d, tk2, os⟩) hU2 rfl ?_)
    refine wpAny_bind (updateSeq_IsTupOf2 (s := ⟨p2, g, d, tk2, os⟩) hU2 fun g2 hT2 hs2 => ?_)
    replace hT2 : IsTupOf2 g2 TO x1 x2 := hT2
    replace hs2 : Heap.SameBut TO p2 g2 := hs2
    refine wpAny_bind (wpAny_letGo (wpAny_pure (wpAny_pure ?_)))
    refine wpAny_bind (wpAny_seqItems (s := ⟨g2, g, d, tk2, os⟩) hT2 rfl ?_)
    refine wpAny_bind (wpAny_newTuple ?_)
    have hsz : g2.objs.size = hp.objs.size := by rw [hs2.1, hp2.1, hs1.1, hp1.1, hs0.1]
    have hzz : ZipP g2 z TI TO .ellipsis f := (hs2.extBut _ _ S.TOz.symm (hp2.extBut _ _ S.zi2 (hs1.extBut _ _ S.TOz.symm (hp1.extBut _ _ S.zi1 hz0))))
    have hkk : ∀ c o, c ≠ z → c ≠ TO → c ≠ i1 → c ≠ i2 → hp.get? c = some o → g2.get? c = some o := fun c o cz cT c1 c2 e =>
      (hs2.extBut _ _ cT (hp2.extBut _ _ c2 (hs1.extBut _ _ cT (hp1.extBut _ _ c1 (hs0.extBut _ _ cz e)))))
    have hj1 : St1 (i + 1) g2 := (D1.over (D1.over (D1.over sn1 hs1 S.Tf1) hp2 S.sep2_1) hs2 S.Tf1)
    have hj2 : St2 (i + 1) g2 := (D2.over sn2 hs2 S.Tf2)
    have hzlt : z < g2.objs.size := Heap.lt_size hzz
    show wpAny _ _ (Builtin.SmallTypes.ownedTupleHandOut (.ref z) (.ref g2.objs.size) >>= _) _ _ ⟨g2.push { cls := .type "tuple", data := .seq #[x1, x2] }, g, d, tk2, os⟩
    refine wpAny_bind ?_
    unfold Builtin.SmallTypes.ownedTupleHandOut
    have hz₆ : ZipP (g2.push { cls := .type "tuple", data := .seq #[x1, x2] }) z TI TO .ellipsis f := Heap.get?_push_of_some _ hzz
    refine wpAny_bind (wpAny_setField_rec hz₆ (by simp) fun h₇ hz₇ hs₇ => ?_)
    replace hz₇ : ZipP h₇ z TI TO (rawInt g2.objs.size) f := hz₇
    refine wpAny_setField_rec hz₇ (by simp) fun h₈ hz₈ hs₈ => ?_
    replace hz₈ : ZipP h₈ z TI TO (rawInt g2.objs.size) false := hz₈
    replace hs₇ : Heap.SameBut z (g2.push { cls := .type "tuple", data := .seq #[x1, x2] }) h₇ := hs₇
    replace hs₈ : Heap.SameBut z h₇ h₈ := hs₈
    have up : ∀ c o, c ≠ z → g2.get? c = some o → h₈.get? c = some o := fun c o c1 e => hs₈.extBut _ _ c1 (hs₇.extBut _ _ c1 (Heap.get?_push_of_some _ e))
    have hT₈ : IsTupOf2 h₈ g2.objs.size x1 x2 := hs₈.extBut _ _ (Nat.ne_of_gt hzlt) (hs₇.extBut _ _ (Nat.ne_of_gt hzlt) (Heap.get?_push_size _ rfl))
    have hz8 : h₈.objs.size = g2.objs.size + 1 := by rw [hs₈.1, hs₇.1, Heap.size_push]
    rw [hsz] at hz₈ hT₈ hz8
    refine wpAny_pure ⟨_, rfl, ?_⟩
    show Q (.ref g2.objs.size) ⟨h₈, g, d, tk2, os⟩
    rw [hsz]
    exact hQ x1 x2 h₈ tk2 hx1 hx2 ⟨_, _, hz₈, .inr ⟨_, rfl⟩⟩ ⟨_, _, up _ _ S.TOz hT2⟩ (D1.frame _ _ _ hj1 fun b hb o e => up b o (fun q => S.zf1 (q ▸ hb)) e) (D2.frame _ _ _ hj2 fun b hb o e => up b o (fun q => S.zf2 (q ▸ hb)) e) hT₈ hz8 fun c o cz cT c1 c2 e => up c o cz (hkk c o cz cT c1 c2 e)
  · simp only [Bool.false_eq_true, if_false]
    replace hs0 : Heap.SameBut z hp g0 := hs0
    refine wpAny_bind ?_
    rw [← Array.forIn_toList]
    simp only [List.forIn_cons, List.forIn_nil]
    refine wpAny_bind (wpAny_bind (wpAny_holding ?_))
    show wpAny _ _ (Builtin.SmallTypes.nextOf (.ref i1) >>= _) _ _ ⟨g0, g, d, tk0, os⟩
    refine wpAny_bind (D1.item i _ _ _ hlt1 (D1.over st1 hs0 S.zf1) fun x1 p1 tk1 hx1 sn1 hp1 => wpAny_pure ?_)
    replace hp1 : Heap.SameBut i1 g0 p1 := hp1
    refine wpAny_pure ?_
    refine wpAny_bind (wpAny_bind (wpAny_holding ?_))
    show wpAny _ _ (Builtin.SmallTypes.nextOf (.ref i2) >>= _) _ _ ⟨p1, g, d, tk1, os⟩
    refine wpAny_bind (D2.item i _ _ _ hlt2 (D2.over (D2.over st2 hs0 S.zf2) hp1 S.sep1_2) fun x2 p2 tk2 hx2 sn2 hp2 => wpAny_pure ?_)
    replace hp2 : Heap.SameBut i2 p1 p2 := hp2
    refine wpAny_pure (wpAny_pure ?_)
    show wpAny _ _ (newTuple [x1, x2] >>= _) _ _ _
    refine wpAny_bind (wpAny_newTuple ?_)
    have hsz : p2.objs.size = hp.objs.size := by rw [hp2.1, hp1.1, hs0.1]
    have hzz : ZipP p2 z TI TO p f' := hp2.extBut _ _ S.zi2 (hp1.extBut _ _ S.zi1 hz0)
    have hTO2 : IsTupOf2 p2 TO a1 a2 := hp2.extBut _ _ S.Ti2 (hp1.extBut _ _ S.Ti1 (hs0.extBut _ _ S.TOz hTO))
    have hkk : ∀ c o, c ≠ z → c ≠ TO → c ≠ i1 → c ≠ i2 → hp.get? c = some o → p2.get? c = some o := fun c o cz cT c1 c2 e => hp2.extBut _ _ c2 (hp1.extBut _ _ c1 (hs0.extBut _ _ cz e))
    have hj1 : St1 (i + 1) p2 := D1.over sn1 hp2 S.sep2_1
    refine wpAny_pure ⟨_, rfl, ?_⟩
    show Q (.ref p2.objs.size) ⟨p2.push { cls := .type "tuple", data := .seq #[x1, x2] }, g, d, tk2, os⟩
    have hT : IsTupOf2 (p2.push { cls := .type "tuple", data := .seq #[x1, x2] }) p2.objs.size x1 x2 := Heap.get?_push_size _ rfl
    have hz4 : (p2.push { cls := .type "tuple", data := .seq #[x1, x2] }).objs.size = p2.objs.size + 1 := Heap.size_push ..
    rw [hsz] at hT hz4 ⊢
    exact hQ x1 x2 _ tk2 hx1 hx2 ⟨_, _, Heap.get?_push_of_some _ hzz, hpp⟩ ⟨_, _, Heap.get?_push_of_some _ hTO2⟩ (D1.frame _ _ _ hj1 fun b hb o e => Heap.get?_push_of_some _ e) (D2.frame _ _ _ sn2 fun b hb o e => Heap.get?_push_of_some _ e) hT hz4 fun c o cz cT c1 c2 e => Heap.get?_push_of_some _ (hkk c o cz cT c1 c2 e)
theorem zipX_end {Q : Fin → Shared → Prop} (S : ZipSep2 z TI TO i1 i2 fp1 fp2) (D1 : Draws prog w A i1 fp1 n1 P1 St1) (D2 : Draws prog w A i2 fp2 n2 P2 St2)
    (hz : ZipA s.heap z TI TO) (hTI : IsTupOf2 s.heap TI (.ref i1) (.ref i2)) (hTO : IsTupOf2 s.heap TO a1 a2) (st1 : St1 i s.heap) (st2 : St2 i s.heap) (hle1 : i ≤ n1) (hle2 : i ≤ n2) (hend : i = n1 ∨ i = n2)
    (hE : ∀ h' tk e, (∀ c o, c ≠ z → c ≠ TO → c ≠ i1 → c ≠ i2 → s.heap.get? c = some o → h'.get? c = some o) → (∃ o, h'.get? e = some o ∧ o.cls = .type "StopIteration") → E (.ref e) { s with heap := h', toks := tk }) :
    wpAny (model prog w) A (Builtin.«zip.__next__» ⟨[.ref z], []⟩) Q E s := by
  obtain ⟨hp, g, d, tk0, os⟩ := s
  obtain ⟨p, f, hz, hpp⟩ := hz
  show wpAny _ _ (field (.ref z) 2 >>= _) _ _ _
  refine wpAny_bind (wpAny_field hz rfl (x := .bool false) rfl ?_)
  show wpAny _ _ (field (.ref z) 3 >>= _) _ _ _
  refine wpAny_bind (wpAny_field hz rfl (x := .ref TI) rfl ?_)
  refine wpAny_bind (wpAny_seqItems hTI rfl ?_)
  show wpAny _ _ (Builtin.SmallTypes.ownedTupleIsFree (.ref z) >>= _) _ _ _
  refine wpAny_bind (zip_free hz hpp ?_ fun g0 f' hz0 hs0 => ?_)
  · simp only [if_true]
    refine wpAny_bind (wpAny_rule ?_)
    refine wpAny_bind (wpAny_field hz rfl (x := .ref TO) rfl ?_)
    refine wpAny_bind (wpAny_setField_rec hz (by simp) fun g0 hz0 hs0 => ?_)
    replace hz0 : ZipP g0 z TI TO .ellipsis f := hz0
    replace hs0 : Heap.SameBut z hp g0 := hs0
    refine wpAny_bind ?_
    simp only [List.zipIdx_cons, List.zipIdx_nil, List.forIn_cons, List.forIn_nil]
    refine wpAny_bind (wpAny_bind (wpAny_onRaise ?_))
    show wpAny _ _ (Builtin.SmallTypes.nextOf (.ref i1) >>= _) _ _ ⟨g0, g, d, tk0, os⟩
    by_cases hlt1 : i < n1
    · refine wpAny_bind (D1.item i _ _ _ hlt1 (D1.over st1 hs0 S.zf1) fun x1 p1 tk1 hx1 sn1 hp1 => wpAny_pure ?_)
      replace hp1 : Heap.SameBut i1 g0 p1 := hp1
      have hU1 : IsTupOf2 p1 TO a1 a2 := hp1.extBut _ _ S.Ti1 (hs0.extBut _ _ S.TOz hTO)
      refine wpAny_bind (wpAny_seqItems (s := ⟨p1, g, d, tk1, os⟩) hU1 rfl ?_)
      refine wpAny_bind (updateSeq_IsTupOf2 (s := ⟨p1, g, d, tk1, os⟩) hU1 fun g1 hT1 hs1 => ?_)
      replace hT1 : IsTupOf2 g1 TO x1 a2 := hT1
      replace hs1 : Heap.SameBut TO p1 g1 := hs1
      refine wpAny_bind (wpAny_letGo (wpAny_pure ?_))
      have hi2 : i = n2 := by omega
      refine wpAny_bind (wpAny_bind (wpAny_onRaise ?_))
      show wpAny _ _ (Builtin.SmallTypes.nextOf (.ref i2) >>= _) _ _ ⟨g1, g, d, tk1, os⟩
      refine wpAny_bind (D2.done ⟨g1, g, d, tk1, os⟩ _ _ (by rw [← hi2]; exact (D2.over (D2.over (D2.over st2 hs0 S.zf2) hp1 S.sep1_2) hs1 S.Tf2)) fun q e hq he => ?_)
      replace hq : Heap.ExtBut i2 g1 q := hq
      obtain ⟨oe, hoe, hce⟩ := he
      replace hoe : q.get? e = some oe := hoe
      have hzq : ZipP q z TI TO .ellipsis f := hq _ _ S.zi2 (hs1.extBut _ _ S.TOz.symm (hp1.extBut _ _ S.zi1 hz0))
      have hez : e ≠ z := fun x => by subst x; rw [hzq] at hoe; cases hoe; simp at hce
      refine wpAny_setField_rec (s := ⟨q, g, d, tk1, os⟩) hzq (by simp) fun q' _ hq' => ?_
      replace hq' : Heap.SameBut z q q' := hq'
      exact hE q' tk1 e (fun c o cz cT c1 c2 x => hq'.extBut _ _ cz (hq _ _ c2 (hs1.extBut _ _ cT (hp1.extBut _ _ c1 (hs0.extBut _ _ cz x))))) ⟨oe, hq'.extBut _ _ hez hoe, hce⟩
    · have hi1 : i = n1 := by omega
      refine wpAny_bind (D1.done ⟨g0, g, d, tk0, os⟩ _ _ (by rw [← hi1]; exact (D1.over st1 hs0 S.zf1)) fun q e hq he => ?_)
      replace hq : Heap.ExtBut i1 g0 q := hq
      obtain ⟨oe, hoe, hce⟩ := he
      replace hoe : q.get? e = some oe := hoe
      have hzq : ZipP q z TI TO .ellipsis f := hq _ _ S.zi1 hz0
      have hez : e ≠ z := fun x => by subst x; rw [hzq] at hoe; cases hoe; simp at hce
      refine wpAny_setField_rec (s := ⟨q, g, d, tk0, os⟩) hzq (by simp) fun q' _ hq' => ?_
      replace hq' : Heap.SameBut z q q' := hq'
      exact hE q' tk0 e (fun c o cz cT c1 c2 x => hq'.extBut _ _ cz (hq _ _ c1 (hs0.extBut _ _ cz x))) ⟨oe, hq'.extBut _ _ hez hoe, hce⟩
  · simp only [Bool.false_eq_true, if_false]
    replace hs0 : Heap.SameBut z hp g0 := hs0
    refine wpAny_bind ?_
    rw [← Array.forIn_toList]
    simp only [List.forIn_cons, List.forIn_nil]
    refine wpAny_bind (wpAny_bind (wpAny_holding ?_))
    show wpAny _ _ (Builtin.SmallTypes.nextOf (.ref i1) >>= _) _ _ ⟨g0, g, d, tk0, os⟩
    by_cases hlt1 : i < n1
    · refine wpAny_bind (D1.item i _ _ _ hlt1 (D1.over st1 hs0 S.zf1) fun x1 p1 tk1 hx1 sn1 hp1 => wpAny_pure ?_)
      replace hp1 : Heap.SameBut i1 g0 p1 := hp1
      refine wpAny_pure ?_
      have hi2 : i = n2 := by omega
      refine wpAny_bind (wpAny_bind (wpAny_holding ?_))
      show wpAny _ _ (Builtin.SmallTypes.nextOf (.ref i2) >>= _) _ _ ⟨p1, g, d, tk1, os⟩
      refine wpAny_bind (D2.done ⟨p1, g, d, tk1, os⟩ _ _ (by rw [← hi2]; exact (D2.over (D2.over st2 hs0 S.zf2) hp1 S.sep1_2)) fun q e hq he => ?_)
      replace hq : Heap.ExtBut i2 p1 q := hq
      exact hE q tk1 e (fun c o cz cT c1 c2 x => hq _ _ c2 (hp1.extBut _ _ c1 (hs0.extBut _ _ cz x))) he
    · have hi1 : i = n1 := by omega
      refine wpAny_bind (D1.done ⟨g0, g, d, tk0, os⟩ _ _ (by rw [← hi1]; exact (D1.over st1 hs0 S.zf1)) fun q e hq he => ?_)
      replace hq : Heap.ExtBut i1 g0 q := hq
      exact hE q tk0 e (fun c o cz cT c1 c2 x => hq _ _ c1 (hs0.extBut _ _ cz x)) he
end
end DLZ

/-! DMi: enumerate over such a zip: next, the turn, the loop's rule, the data. -/
namespace DLZ
open PySem
/-- the state of the inner zip -/
def ZSt (z TI TO i1 i2 : Addr) (St1 St2 : Nat → Heap → Prop) : Nat → Heap → Prop := fun i h => ZipA h z TI TO ∧ IsTupOf2 h TI (.ref i1) (.ref i2) ∧ (∃ a1 a2, IsTupOf2 h TO a1 a2) ∧ St1 i h ∧ St2 i h
section
variable {prog : Program} {w : World} {A : Around} {E : Value → Shared → Prop} {s : Shared} {z TI TO i1 i2 : Addr} {fp1 fp2 : List Addr} {n1 n2 i : Nat} {P1 P2 : Nat → Value → Prop} {St1 St2 : Nat → Heap → Prop} {a1 a2 : Value}
theorem zst_frame (S : ZipSep2 z TI TO i1 i2 fp1 fp2) (D1 : Draws prog w A i1 fp1 n1 P1 St1) (D2 : Draws prog w A i2 fp2 n2 P2 St2) {h h' : Heap} (st : ZSt z TI TO i1 i2 St1 St2 i h)
    (k : ∀ b, b = z ∨ b = TI ∨ b = TO ∨ b ∈ fp1 ∨ b ∈ fp2 → ∀ o, h.get? b = some o → h'.get? b = some o) : ZSt z TI TO i1 i2 St1 St2 i h' := by
  obtain ⟨⟨p, f, hz, hp⟩, hTI, ⟨b1, b2, hTO⟩, s1, s2⟩ := st
  exact ⟨⟨p, f, k z (.inl rfl) _ hz, hp⟩, k TI (.inr (.inl rfl)) _ hTI, ⟨b1, b2, k TO (.inr (.inr (.inl rfl))) _ hTO⟩, D1.frame _ _ _ s1 fun b hb o e => k b (.inr (.inr (.inr (.inl hb)))) o e, D2.frame _ _ _ s2 fun b hb o e => k b (.inr (.inr (.inr (.inr hb)))) o e⟩
theorem zip_nextOf_item {Q : Value → Shared → Prop} (S : ZipSep2 z TI TO i1 i2 fp1 fp2) (D1 : Draws prog w A.in1 i1 fp1 n1 P1 St1) (D2 : Draws prog w A.in1 i2 fp2 n2 P2 St2)
    (st : ZSt z TI TO i1 i2 St1 St2 i s.heap) (hlt1 : i < n1) (hlt2 : i < n2)
    (hQ : ∀ x1 x2 h' tk, P1 i x1 → P2 i x2 → ZSt z TI TO i1 i2 St1 St2 (i + 1) h' → IsTupOf2 h' s.heap.objs.size x1 x2 → h'.objs.size = s.heap.objs.size + 1 →
      (∀ c o, c ≠ z → c ≠ TO → c ≠ i1 → c ≠ i2 → s.heap.get? c = some o → h'.get? c = some o) → Q (.ref s.heap.objs.size) { s with heap := h', toks := tk }) :
    wpAny (model prog w) A (Builtin.SmallTypes.nextOf (.ref z)) Q E s := by
  obtain ⟨hz, hTI, ⟨b1, b2, hTO⟩, s1, s2⟩ := st
  obtain ⟨p, f, hz0, hp⟩ := id hz
  have hT : s.TypeIs (.ref z) "zip" := ⟨_, hz0, rfl⟩
  unfold Builtin.SmallTypes.nextOf
  exact wpAny_bind (wpAny_callSpecial?_slot (name := Str.ofString "__next__") hT F.slot_zip_next
    (wpAny_call_entry F.slot_zip_next hT F.entry_zip_next
      (zipX_item S D1 D2 hz hTI hTO s1 s2 hlt1 hlt2 fun x1 x2 h' tk y1 y2 c1 c2 d1 d2 c5 c6 c7 => wpAny_pure (hQ x1 x2 h' tk y1 y2 ⟨c1, c7 TI _ S.TIz S.TITO S.TIi1 S.TIi2 hTI, c2, d1, d2⟩ c5 c6 c7)) (F.args_zip_next_1 _)))
theorem zip_nextOf_end {Q : Value → Shared → Prop} (S : ZipSep2 z TI TO i1 i2 fp1 fp2) (D1 : Draws prog w A.in1 i1 fp1 n1 P1 St1) (D2 : Draws prog w A.in1 i2 fp2 n2 P2 St2)
    (st : ZSt z TI TO i1 i2 St1 St2 i s.heap) (hle1 : i ≤ n1) (hle2 : i ≤ n2) (hend : i = n1 ∨ i = n2)
    (hE : ∀ h' tk e, (∀ c o, c ≠ z → c ≠ TO → c ≠ i1 → c ≠ i2 → s.heap.get? c = some o → h'.get? c = some o) → (∃ o, h'.get? e = some o ∧ o.cls = .type "StopIteration") → E (.ref e) { s with heap := h', toks := tk }) :
    wpAny (model prog w) A (Builtin.SmallTypes.nextOf (.ref z)) Q E s := by
  obtain ⟨hz, hTI, ⟨b1, b2, hTO⟩, s1, s2⟩ := st
  obtain ⟨p, f, hz0, hp⟩ := id hz
  have hT : s.TypeIs (.ref z) "zip" := ⟨_, hz0, rfl⟩
  unfold Builtin.SmallTypes.nextOf
  exact wpAny_bind (wpAny_callSpecial?_slot (name := Str.ofString "__next__") hT F.slot_zip_next
    (wpAny_call_entry F.slot_zip_next hT F.entry_zip_next (zipX_end S D1 D2 hz hTI hTO s1 s2 hle1 hle2 hend hE) (F.args_zip_next_1 _)))
theorem ez_item {e : Addr} {c : Int} {old : Value} {Q : Value → Shared → Prop} (S : ZipSep2 z TI TO i1 i2 fp1 fp2) (D1 : Draws prog w A.in1 i1 fp1 n1 P1 St1) (D2 : Draws prog w A.in1 i2 fp2 n2 P2 St2)
    (he : IsEnum s.heap e z c old) (st : ZSt z TI TO i1 i2 St1 St2 i s.heap) (hlt1 : i < n1) (hlt2 : i < n2) (hne : e ≠ z ∧ e ≠ TI ∧ e ≠ TO ∧ e ∉ fp1 ∧ e ∉ fp2)
    (hQ : ∀ x1 x2 h' tk, P1 i x1 → P2 i x2 → IsEnumOut h' e z (c + 1) (.ref s.heap.objs.size) (s.heap.objs.size + 1) → ZSt z TI TO i1 i2 St1 St2 (i + 1) h' → IsTupOf2 h' s.heap.objs.size x1 x2 →
      h'.get? (s.heap.objs.size + 1) = some { cls := .type "tuple", data := .seq #[.int c tk, .ref s.heap.objs.size] } →
      (∀ b o, b ≠ e → b ≠ z → b ≠ TO → b ≠ i1 → b ≠ i2 → s.heap.get? b = some o → h'.get? b = some o) → Q (.ref (s.heap.objs.size + 1)) { s with heap := h', toks := tk + 1 }) :
    wpAny (model prog w) A (Builtin.«enumerate.__next__» ⟨[.ref e], []⟩) (fun fin s' => ∃ v, fin = .done (.ret v) ∧ Q v s') E s := by
  obtain ⟨hp, g, d, tk₀, os⟩ := s
  obtain ⟨ez, eI, eO, e1, e2⟩ := hne
  show wpAny _ _ (field (.ref e) 2 >>= _) _ _ _
  refine wpAny_bind (wpAny_field he rfl (x := .ref z) rfl ?_)
  refine wpAny_bind (zip_nextOf_item S D1 D2 st hlt1 hlt2 fun x1 x2 h₁ tk hx1 hx2 st₁ hT₁ hz₁ hk₁ => ?_)
  replace hT₁ : IsTupOf2 h₁ hp.objs.size x1 x2 := hT₁
  replace hz₁ : h₁.objs.size = hp.objs.size + 1 := hz₁
  replace hk₁ : ∀ c o, c ≠ z → c ≠ TO → c ≠ i1 → c ≠ i2 → hp.get? c = some o → h₁.get? c = some o := hk₁
  have he₁ : IsEnum h₁ e z c old := hk₁ e _ ez eO (fun q => e1 (q ▸ S.mem1)) (fun q => e2 (q ▸ S.mem2)) he
  show wpAny _ _ (field (.ref e) 3 >>= _) _ _ ⟨h₁, g, d, tk, os⟩
  refine wpAny_bind (wpAny_field he₁ rfl (x := rawInt c) rfl ?_)
  show wpAny _ _ (field (.ref e) 4 >>= _) _ _ ⟨h₁, g, d, tk, os⟩
  refine wpAny_bind (wpAny_field he₁ rfl (x := .none) rfl ?_)
  show wpAny _ _ (mkInt c >>= _) _ _ ⟨h₁, g, d, tk, os⟩
  refine wpAny_bind (wpAny_mkInt ?_)
  show wpAny _ _ (setField (.ref e) 3 (rawInt (c + 1)) >>= _) _ _ ⟨h₁, g, d, tk + 1, os⟩
  refine wpAny_bind (wpAny_setField_rec he₁ (by simp) fun h₂ he₂ hs₂ => ?_)
  replace hs₂ : Heap.SameBut e h₁ h₂ := hs₂
  replace he₂ : IsEnum h₂ e z (c + 1) old := he₂
  show wpAny _ _ (setField (.ref e) 4 .none >>= _) _ _ ⟨h₂, g, d, tk + 1, os⟩
  refine wpAny_bind (wpAny_setField_rec he₂ (by simp) fun h₃ he₃ hs₃ => ?_)
  replace hs₃ : Heap.SameBut e h₂ h₃ := hs₃
  replace he₃ : IsEnum h₃ e z (c + 1) old := he₃
  show wpAny _ _ (newTuple [.int c tk, .ref hp.objs.size] >>= _) _ _ ⟨h₃, g, d, tk + 1, os⟩
  refine wpAny_bind (wpAny_newTuple ?_)
  have he₄ : IsEnum (h₃.push { cls := .type "tuple", data := .seq #[.int c tk, .ref hp.objs.size] }) e z (c + 1) old := Heap.get?_push_of_some _ he₃
  generalize hh₄ : h₃.push { cls := .type "tuple", data := .seq #[.int c tk, .ref hp.objs.size] } = h₄ at he₄
  have hsz : h₃.objs.size = hp.objs.size + 1 := by rw [hs₃.1, hs₂.1, hz₁]
  have hel : e < hp.objs.size := Heap.lt_size he
  have ht₄ : h₄.get? (hp.objs.size + 1) = some { cls := .type "tuple", data := .seq #[.int c tk, .ref hp.objs.size] } := by rw [← hh₄, ← hsz]; exact Heap.get?_push_size _ rfl
  have up₄ : ∀ b o, b ≠ e → h₁.get? b = some o → h₄.get? b = some o := fun b o hbe hb => by
    rw [← hh₄]; exact Heap.get?_push_of_some _ (hs₃.extBut b o hbe (hs₂.extBut b o hbe hb))
  show wpAny _ _ (Builtin.SmallTypes.ownedTupleIsFree (.ref e) >>= _) _ _ ⟨h₄, g, d, tk + 1, os⟩
  rw [hsz]
  refine wpAny_bind ?_
  · unfold Builtin.SmallTypes.ownedTupleIsFree
    refine wpAny_bind (wpAny_field he₄ rfl (x := .none) rfl (wpAny_pure ?_))
    simp only [if_true]
    refine wpAny_bind (wpAny_rule ?_)
    refine wpAny_bind (wpAny_field he₄ rfl (x := old) rfl ?_)
    refine wpAny_bind (wpAny_setField_rec he₄ (by simp) fun h₅ he₅ hs₅ => ?_)
    replace hs₅ : Heap.SameBut e h₄ h₅ := hs₅
    replace he₅ : IsEnum h₅ e z (c + 1) (.ref hp.objs.size) := he₅
    show wpAny _ _ (Builtin.SmallTypes.ownedTupleHandOut (.ref e) (.ref (hp.objs.size + 1)) >>= _) _ _ ⟨h₅, g, d, tk + 1, os⟩
    refine wpAny_bind ?_
    · unfold Builtin.SmallTypes.ownedTupleHandOut
      refine wpAny_bind (wpAny_setField_rec he₅ (by simp) fun h₆ he₆ hs₆ => ?_)
      replace hs₆ : Heap.SameBut e h₅ h₆ := hs₆
      replace he₆ : IsEnumOut h₆ e z (c + 1) (.ref hp.objs.size) (hp.objs.size + 1) := he₆
      refine wpAny_setField_rec he₆ (by simp) fun h₇ he₇ hs₇ => ?_
      replace hs₇ : Heap.SameBut e h₆ h₇ := hs₇
      replace he₇ : IsEnumOut h₇ e z (c + 1) (.ref hp.objs.size) (hp.objs.size + 1) := he₇
      have up : ∀ b o, b ≠ e → h₄.get? b = some o → h₇.get? b = some o := fun b o hbe y => hs₇.extBut b o hbe (hs₆.extBut b o hbe (hs₅.extBut b o hbe y))
      refine wpAny_bind (wpAny_letGo (wpAny_pure ⟨_, rfl, hQ x1 x2 h₇ tk hx1 hx2 he₇ ?_ ?_ ?_ ?_⟩))
      · refine zst_frame S D1 D2 st₁ fun b hb o y => ?_
        have hbe : b ≠ e := by
          rcases hb with q | q | q | q | q
          · rw [q]; exact Ne.symm ez
          · rw [q]; exact Ne.symm eI
          · rw [q]; exact Ne.symm eO
          · exact fun q' => e1 (q' ▸ q)
          · exact fun q' => e2 (q' ▸ q)
        exact up b o hbe (up₄ b o hbe y)
      · exact up _ _ (Nat.ne_of_gt hel) (up₄ _ _ (Nat.ne_of_gt hel) hT₁)
      · exact up _ _ (Nat.ne_of_gt (Nat.lt_succ_of_lt hel)) ht₄
      · exact fun b o hbe hbz hbT hb1 hb2 hb => up b o hbe (up₄ b o hbe (hk₁ b o hbz hbT hb1 hb2 hb))
theorem pyNext_ez_item {e : Addr} {c : Int} {old : Value} {Q : Option Value → Shared → Prop} (S : ZipSep2 z TI TO i1 i2 fp1 fp2) (D1 : Draws prog w A.in1.in1 i1 fp1 n1 P1 St1) (D2 : Draws prog w A.in1.in1 i2 fp2 n2 P2 St2)
    (he : IsEnum s.heap e z c old) (st : ZSt z TI TO i1 i2 St1 St2 i s.heap) (hlt1 : i < n1) (hlt2 : i < n2) (hne : e ≠ z ∧ e ≠ TI ∧ e ≠ TO ∧ e ∉ fp1 ∧ e ∉ fp2)
    (hQ : ∀ x1 x2 h' tk, P1 i x1 → P2 i x2 → IsEnumOut h' e z (c + 1) (.ref s.heap.objs.size) (s.heap.objs.size + 1) → ZSt z TI TO i1 i2 St1 St2 (i + 1) h' → IsTupOf2 h' s.heap.objs.size x1 x2 →
      h'.get? (s.heap.objs.size + 1) = some { cls := .type "tuple", data := .seq #[.int c tk, .ref s.heap.objs.size] } →
      (∀ b o, b ≠ e → b ≠ z → b ≠ TO → b ≠ i1 → b ≠ i2 → s.heap.get? b = some o → h'.get? b = some o) → Q (some (.ref (s.heap.objs.size + 1))) { s with heap := h', toks := tk + 1 }) :
    wpAny (model prog w) A (pyNext (.ref e)) Q E s := by
  have hT : s.TypeIs (.ref e) "enumerate" := ⟨_, he, rfl⟩
  unfold pyNext
  exact wpAny_bind (wpAny_attempt (wpAny_callSpecial?_slot (name := Str.ofString "__next__") hT F.slot_enumerate_next
    (wpAny_call_entry F.slot_enumerate_next hT F.entry_enumerate_next
      (ez_item S D1 D2 he st hlt1 hlt2 hne fun x1 x2 h' tk a b c d k q r => wpAny_pure (hQ x1 x2 h' tk a b c d k q r)) (F.args_enumerate_next_1 _))))
theorem pyNext_ez_end {e : Addr} {c : Int} {old : Value} {Q : Option Value → Shared → Prop} (S : ZipSep2 z TI TO i1 i2 fp1 fp2) (D1 : Draws prog w A.in1.in1 i1 fp1 n1 P1 St1) (D2 : Draws prog w A.in1.in1 i2 fp2 n2 P2 St2)
    (he : IsEnum s.heap e z c old) (st : ZSt z TI TO i1 i2 St1 St2 i s.heap) (hle1 : i ≤ n1) (hle2 : i ≤ n2) (hend : i = n1 ∨ i = n2)
    (hQ : ∀ h' tk, (∀ c o, c ≠ z → c ≠ TO → c ≠ i1 → c ≠ i2 → s.heap.get? c = some o → h'.get? c = some o) → Q none { s with heap := h', toks := tk }) : wpAny (model prog w) A (pyNext (.ref e)) Q E s := by
  have hT : s.TypeIs (.ref e) "enumerate" := ⟨_, he, rfl⟩
  unfold pyNext
  refine wpAny_bind (wpAny_attempt (wpAny_callSpecial?_slot (name := Str.ofString "__next__") hT F.slot_enumerate_next
    (wpAny_call_entry F.slot_enumerate_next hT F.entry_enumerate_next ?_ (F.args_enumerate_next_1 _))))
  show wpAny _ _ (field (.ref e) 2 >>= _) _ _ _
  refine wpAny_bind (wpAny_field he rfl (x := .ref z) rfl ?_)
  refine wpAny_bind (zip_nextOf_end S D1 D2 st hle1 hle2 hend fun h' tk x hk hx' => ?_)
  obtain ⟨o, ho, hc⟩ := hx'
  refine wpAny_bind (wpAny_isInstance (T := "StopIteration") (b := true) ⟨o, ho, hc⟩ isSubtype_stop ?_)
  exact wpAny_pure (hQ _ _ hk)
/-- enumerate(x), x a zip -/
theorem enum_newZ {z TI TO : Addr} :
    Meets (Builtin.«enumerate.__new__» ⟨[.type "enumerate", .ref z], []⟩) (fun _ R s => IsZip s.heap z TI TO .none ∧
      R (.ok (.ret (.ref s.heap.objs.size))) { s with heap := s.heap.push { cls := .type "enumerate", data := .fields #[.none, .bool false, .ref z, rawInt 0, .none, .none] } }) :=
  .of_wp fun prog w A R s h => by
    obtain ⟨hp, gn, dr, tk, os⟩ := s
    obtain ⟨h1, h⟩ := h
    have hsub := sub_enumerate
    have q1 : ∀ {A' : Around} {E : Value → Shared → Prop} {Q : Value → Shared → Prop}, Q (.ref z) ⟨hp, gn, dr, tk, os⟩ → wpAny (model prog w) A' (pyIter (.ref z)) Q E ⟨hp, gn, dr, tk, os⟩ :=
      fun q => wpAny_pyIter_zip h1 q
    wp_walk using q1
    refine wpAny_stack_any fun st => wpAny_pure ?_
    split
    · rename_i c _ _ _ _ _
      cases (c == Value.type "enumerate") <;> (wp_walk using q1; exact ⟨_, rfl, h⟩)
    · wp_walk using q1
      exact ⟨_, rfl, h⟩
theorem enum_beginsZ {z TI TO : Addr} {Q : Value → Shared → Prop} (hz : IsZip s.heap z TI TO .none)
    (h : ∀ h', IsEnum h' s.heap.objs.size z 0 .none → (∀ b o, s.heap.get? b = some o → h'.get? b = some o) → Q (.ref s.heap.objs.size) { s with heap := h' }) :
    wpAny (model prog w) A (call (.type "enumerate") [.ref z]) Q E s := by
  refine callType_new F.called_enumerate (by decide) (F.typeCall_enumerate_1 _) (F.newCall_enumerate_1 _) (fun obj => F.args_object_init_2 obj _) F.entry_enumerate_new (enum_newZ (TI := TI) (TO := TO)) ⟨hz, ?_⟩
  have he : IsEnum (s.heap.push { cls := .type "enumerate", data := .fields #[.none, .bool false, .ref z, rawInt 0, .none, .none] }) s.heap.objs.size z 0 .none := Heap.get?_push_size s.heap (o := { cls := .type "enumerate", data := .fields #[.none, .bool false, .ref z, rawInt 0, .none, .none] }) rfl
  exact ⟨⟨_, he, rfl⟩, h _ he fun b o x => Heap.get?_push_of_some _ x⟩
end
end DLZ
namespace DL
open PySem PySem.Spec PyProof.Rows L2 DLZ
section
variable {X : Cx} {K : PySem.W.Frag} {tas : TA} {pins : List (Addr × Obj)} {σ : L2.St} {H : Hp} {s : Shared} {h' : Heap}
/-- several records of ours have turned, two new objects are laid -/
theorem turned2 {t' : Nat} {ch : List Addr} {T1 T2 : Addr} {o1 o2 : HO} (I : L2.Inv X pins σ H s) (k : ∀ b o, b ∉ ch → s.heap.get? b = some o → h'.get? b = some o) (hf : ∀ b ∈ ch, FpOk X pins H b) (hT1 : s.heap.objs.size ≤ T1) (hT2 : s.heap.objs.size ≤ T2)
    (new1 : ObjOk X.prog X.w (upd (upd H T1 o1) T2 o2) h' T1 o1) (new2 : ObjOk X.prog X.w (upd (upd H T1 o1) T2 o2) h' T2 o2) : L2.Inv X pins σ (upd (upd H T1 o1) T2 o2) { s with heap := h', toks := t' } := by
  have n1 : H T1 = none := I.hok.fresh hT1
  have n2 : H T2 = none := I.hok.fresh hT2
  have same : ∀ b u, H b = some u → upd (upd H T1 o1) T2 o2 b = some u := fun b u e => by rw [upd_ne (ne_of_none e n2), upd_ne (ne_of_none e n1)]; exact e
  have nit : ∀ b u, H b = some u → b ∉ ch := fun b u e z => by
    have q := (hf b z).1
    rw [q] at e; cases e
  refine I.step (g' := s.gens) (d' := s.drawn) (ch := ch) (fun b hb => ⟨(hf b hb).2.2.2.1, (hf b hb).2.1, (hf b hb).2.2.2.2.1, (hf b hb).2.2.2.2.2⟩) (fun b o _ _ hc e _ => k b o hc e) (fun b o _ _ hc e _ => ⟨o.slots, k b o hc e⟩)
    (fun b o _ e n => ?_) (fun b o hc e => ⟨o, k b o hc e⟩) (fun b xs e => same b _ e) (fun b o u e => same b _ e) (fun b ps e => ⟨#[], ?_⟩) (fun m hm => ?_) (fun b u e => ?_) I.bare
  · rw [upd_ne (Nat.ne_of_lt (Nat.lt_of_lt_of_le (Heap.lt_size e) hT2)), upd_ne (Nat.ne_of_lt (Nat.lt_of_lt_of_le (Heap.lt_size e) hT1))]; exact n
  · rw [same b _ e]; simp
  · obtain ⟨o, es, ep, ho, r⟩ := hm
    exact ⟨o, es, ep, k _ o (fun z => (hf _ z).2.1 rfl) ho, r⟩
  · by_cases hb : b = T2
    · subst hb
      rw [upd_same] at e
      cases e
      exact new2
    · by_cases hb1 : b = T1
      · subst hb1
        rw [upd_ne hb, upd_same] at e
        cases e
        exact new1
      · rw [upd_ne hb, upd_ne hb1] at e
        refine (I.hok b u e).stay (fun c v hc q => k c v ?_ q) (fun c q => same c _ q) fun c xs q => same c _ q
        rcases hc with z | z
        · rw [z]; exact nit b u e
        · exact nit c _ z
/-- pairs within pairs -/
def ItQ (S : Hp → Prop) (n : Nat) (f g : Nat → Option V) : It :=
  ⟨fun i H => S H ∧ i < n, fun i H v H' => ∃ T1 T2 x y, v = .ref T2 ∧ H T1 = none ∧ H T2 = none ∧ T2 ≠ T1 ∧ H' = upd (upd H T1 (.tup [x, y])) T2 (.tup [.int (0 + (i : Int)), .ref T1]) ∧ f i = some x ∧ g i = some y, fun i H => S H ∧ i = n⟩
def fp6 (N : Addr) : List Addr := [N + 5, N + 4, N + 2, N + 3, N, N + 1]
theorem fp6_cases {N c : Addr} (hc : c ∈ fp6 N) : c = N + 5 ∨ c = N + 4 ∨ c = N + 2 ∨ c = N + 3 ∨ c = N ∨ c = N + 1 := by simpa [fp6] using hc
def ezTn (k1 k2 : Sk) (a b N : Addr) : Nat → Heap → Prop := fun i h => (∃ old, IsEnum h (N + 5) (N + 4) (0 + (i : Int)) old) ∧ ZipA h (N + 4) (N + 2) (N + 3) ∧ IsTupOf2 h (N + 2) (.ref N) (.ref (N + 1)) ∧ (∃ a1 a2, IsTupOf2 h (N + 3) a1 a2) ∧ k1.itr h N a i ∧ k2.itr h (N + 1) b i
theorem ez_live {k1 k2 : Sk} {a b N : Addr} {i : Nat} {h : Heap} (st : ezTn k1 k2 a b N i h) : ∀ c ∈ fp6 N, ∃ o, h.get? c = some o ∧ ∀ v, o.data ≠ .cell v := fun c hc => by
  obtain ⟨⟨old, h0⟩, ⟨p, f, h1, _⟩, h2, ⟨a1, a2, h3⟩, h4, h5⟩ := st
  rcases fp6_cases hc with e | e | e | e | e | e
  · rw [e]; exact ⟨_, h0, fun v z => nomatch z⟩
  · rw [e]; exact ⟨_, h1, fun v z => nomatch z⟩
  · rw [e]; exact ⟨_, h2, fun v z => nomatch z⟩
  · rw [e]; exact ⟨_, h3, fun v z => nomatch z⟩
  · rw [e]; exact k1.obj_of h4
  · rw [e]; exact k2.obj_of h5
theorem ad_ne (N : Nat) : N + 4 ≠ N + 5 ∧ N + 2 ≠ N + 5 ∧ N + 3 ≠ N + 5 ∧ N ≠ N + 5 ∧ N + 1 ≠ N + 5 := by omega
theorem ez_ne' (N a b : Nat) (ha : a < N) (hb : b < N) : N + 5 ≠ N + 4 ∧ N + 5 ≠ N + 2 ∧ N + 5 ≠ N + 3 ∧ N + 5 ∉ [N, a] ∧ N + 5 ∉ [N + 1, b] := by
  refine ⟨by omega, by omega, by omega, fun z => ?_, fun z => ?_⟩
  · rcases List.mem_cons.mp z with z | z
    · omega
    · rcases List.mem_cons.mp z with z | z
      · omega
      · cases z
  · rcases List.mem_cons.mp z with z | z
    · omega
    · rcases List.mem_cons.mp z with z | z
      · omega
      · cases z
theorem ez_ne {N a b : Addr} (ha : a < N) (hb : b < N) : N + 5 ≠ N + 4 ∧ N + 5 ≠ N + 2 ∧ N + 5 ≠ N + 3 ∧ N + 5 ∉ [N, a] ∧ N + 5 ∉ [N + 1, b] := ez_ne' N a b ha hb
theorem turn_ez {P : Program} {w : World} {elts : List Expr} {kk : Nat} {tpos : Pos} (k1 k2 : Sk) {a b N : Addr} (ha : a < N) (hb : b < N) (xs ys : List V) :
    Turn P w K (.Tuple elts kk tpos) (ItQ (fun H => k1.sq K H a xs ∧ k2.sq K H b ys) (min xs.length ys.length) (fun i => xs[i]?) (fun i => ys[i]?)) (fp6 N) (N + 5) (ezTn k1 k2 a b N) where
  mem := by simp [fp6]
  obj := fun i h st => ez_live st
  keep := fun i h h' st kp => by
    obtain ⟨⟨old, h0⟩, ⟨p, f, h1, hp⟩, h2, ⟨a1, a2, h3⟩, h4, h5⟩ := st
    exact ⟨⟨old, kp _ (by simp [fp6]) _ h0⟩, ⟨p, f, kp _ (by simp [fp6]) _ h1, hp⟩, kp _ (by simp [fp6]) _ h2, ⟨a1, a2, kp _ (by simp [fp6]) _ h3⟩, k1.keep h4 fun o q => kp _ (by simp [fp6]) o q, k2.keep h5 fun o q => kp _ (by simp [fp6]) o q⟩
  item := by
    intro X hP hw hK hc i pins s σ H E I hf st hg
    subst hP hw hK
    obtain ⟨⟨q1, q2⟩, hi⟩ := hg
    obtain ⟨i1, r1, s1⟩ := k1.there I q1
    obtain ⟨i2, r2, s2⟩ := k2.there I q2
    have st0 := st
    obtain ⟨⟨old, h0⟩, h1, h2, h3, h4, h5⟩ := st
    refine pyNext_ez_item (zip_sep2 (N := N) (fp1 := [a]) (fp2 := [b]) (by simpa using ha) (by simpa using hb)) (k1.draws (A := X.A.in1.in1) (I.ok.hd hc) N a (Nat.ne_of_lt ha) i1.toArray) (k2.draws (A := X.A.in1.in1) (I.ok.hd hc) (N + 1) b (Nat.ne_of_lt (Nat.lt_succ_of_lt hb)) i2.toArray)
      h0 (i := i) ⟨h1, h2, h3, ⟨h4, s1⟩, h5, s2⟩ (by rw [List.size_toArray, ← r1.length]; omega) (by rw [List.size_toArray, ← r2.length]; omega) (ez_ne ha hb) fun x y h' tk ex ey eo st' t1 t2 kp => ⟨_, rfl, ?_⟩
    refine wpAny_letOwnedTupleGo_enum eo fun h2' he2 hs2 => ?_
    have hel : N + 5 < s.heap.objs.size := Heap.lt_size h0
    have gx : xs[i]? = some (xs[i]'(by omega)) := List.getElem?_eq_getElem _
    have gy : ys[i]? = some (ys[i]'(by omega)) := List.getElem?_eq_getElem _
    obtain ⟨u, eu, ru⟩ := r1.get gx
    obtain ⟨v, ev, rv⟩ := r2.get gy
    have e1 : u = x := Option.some.inj (eu.symm.trans (by simpa using ex))
    have e2 : v = y := Option.some.inj (ev.symm.trans (by simpa using ey))
    subst e1 e2
    obtain ⟨g1, g2, g3, ⟨g4, _⟩, g5, _⟩ := st'
    replace hs2 : Heap.SameBut (N + 5) h' h2' := hs2
    have up : ∀ c o, c ≠ N + 5 → h'.get? c = some o → h2'.get? c = some o := fun c o hc e => hs2.extBut c o hc e
    have t1' : h2'.IsTuple s.heap.objs.size #[u, v] := ⟨_, up _ _ (Nat.ne_of_gt hel) t1, rfl, _, rfl⟩
    have t2' : h2'.IsTuple (s.heap.objs.size + 1) #[.int (0 + (i : Int)) tk, .ref s.heap.objs.size] := ⟨_, up _ _ (Nat.ne_of_gt (Nat.lt_succ_of_lt hel)) t2, rfl, _, rfl⟩
    have frT1 : H s.heap.objs.size = none := I.hok.fresh (Nat.le_refl _)
    have frT2 : H (s.heap.objs.size + 1) = none := I.hok.fresh (Nat.le_succ _)
    have J := turned2 (t' := tk + 1) (h' := h2') (ch := fp6 N) (T1 := s.heap.objs.size) (T2 := s.heap.objs.size + 1) (o1 := .tup [xs[i]'(by omega), ys[i]'(by omega)]) (o2 := .tup [.int (0 + (i : Int)), .ref s.heap.objs.size]) I
      (fun c o hc e => up c o (fun z => hc (by simp [fp6, z])) (kp c o (fun z => hc (by simp [fp6, z])) (fun z => hc (by simp [fp6, z])) (fun z => hc (by simp [fp6, z])) (fun z => hc (by simp [fp6, z])) (fun z => hc (by simp [fp6, z])) e)) hf (Nat.le_refl _) (Nat.le_succ _)
      ⟨by show 2 ≤ sizeLine; decide, [u, v], .cons ru (.cons rv .nil), t1'⟩ ⟨by show 2 ≤ sizeLine; decide, [.int (0 + (i : Int)) tk, .ref s.heap.objs.size], .cons ⟨_, rfl⟩ (.cons rfl .nil), t2'⟩
    refine ⟨.ref (s.heap.objs.size + 1), _, J, rfl, ⟨_, _, _, _, rfl, frT1, frT2, Nat.succ_ne_self _, rfl, gx, gy⟩, ⟨⟨.ref s.heap.objs.size, ?_⟩, ?_, ?_, ?_, ?_, ?_⟩, fun c hc => ?_⟩
    · have e1 : (0 : Int) + ((i + 1 : Nat) : Int) = 0 + (i : Int) + 1 := by omega
      rw [e1]
      exact he2
    · obtain ⟨p, f, w1, w2⟩ := g1
      exact ⟨p, f, up _ _ (ad_ne N).1 w1, w2⟩
    · exact up _ _ (ad_ne N).2.1 g2
    · obtain ⟨b1, b2, w⟩ := g3
      exact ⟨b1, b2, up _ _ (ad_ne N).2.2.1 w⟩
    · exact k1.keep g4 fun o q => up _ _ (ad_ne N).2.2.2.1 q
    · exact k2.keep g5 fun o q => up _ _ (ad_ne N).2.2.2.2 q
    · obtain ⟨o, e, _⟩ := ez_live st0 c hc
      have l := Heap.lt_size e
      rw [upd_ne (Nat.ne_of_lt (Nat.lt_succ_of_lt l)), upd_ne (Nat.ne_of_lt l)]
      exact (hf c hc).1
  done := by
    intro X hP hw hK hc i pins s σ H E I hf st hg
    subst hP hw hK
    obtain ⟨⟨q1, q2⟩, hi⟩ := hg
    obtain ⟨i1, r1, s1⟩ := k1.there I q1
    obtain ⟨i2, r2, s2⟩ := k2.there I q2
    obtain ⟨⟨old, h0⟩, h1, h2, h3, h4, h5⟩ := st
    have z1 : i1.toArray.size = xs.length := by rw [List.size_toArray, ← r1.length]
    have z2 : i2.toArray.size = ys.length := by rw [List.size_toArray, ← r2.length]
    refine pyNext_ez_end (zip_sep2 (N := N) (fp1 := [a]) (fp2 := [b]) (by simpa using ha) (by simpa using hb)) (k1.draws (A := X.A.in1.in1) (I.ok.hd hc) N a (Nat.ne_of_lt ha) i1.toArray) (k2.draws (A := X.A.in1.in1) (I.ok.hd hc) (N + 1) b (Nat.ne_of_lt (Nat.lt_succ_of_lt hb)) i2.toArray)
      h0 (i := i) ⟨h1, h2, h3, ⟨h4, s1⟩, h5, s2⟩ (by omega) (by omega) (by omega) fun h' tk kp => ⟨rfl, ?_⟩
    exact I.turnedL (t' := tk) (ch := fp6 N) (fun c o hc e => kp c o (fun z => hc (by simp [fp6, z])) (fun z => hc (by simp [fp6, z])) (fun z => hc (by simp [fp6, z])) (fun z => hc (by simp [fp6, z])) e) hf
  self := fun A i s Q E st h => let ⟨⟨_, he⟩, _⟩ := st; wpAny_pyIter_enum he h
def iEZ (K : PySem.W.Frag) (ta : TA) : TI := fun σ H R => ta σ H fun vs H1 => ∃ a b k1 k2 xs ys, vs = [.ref a, .ref b] ∧ Sk.sq K H1 a xs k1 ∧ Sk.sq K H1 b ys k2 ∧ R (ItQ (fun H => k1.sq K H a xs ∧ k2.sq K H b ys) (min xs.length ys.length) (fun i => xs[i]?) (fun i => ys[i]?)) H1
theorem pi_enumZip {e e2 : Expr} {ta : TA} {p pos p2 pos2 tpos : Pos} {elts : List Expr} {kk : Nat} (hg : Gl X "enumerate") (hm : X.mg "enumerate" = none) (hg2 : Gl X "zip") (hm2 : X.mg "zip" = none) (ha : PA X [e, e2] ta)
    (h0 : starEach [.Call (.Name "zip" p2) [e, e2] [] pos2] X.env = (false, eval (.Call (.Name "zip" p2) [e, e2] [] pos2) X.env) :: starEach [] X.env := by rfl)
    (h1 : starEach [e, e2] X.env = (false, eval e X.env) :: starEach [e2] X.env := by rfl) (h2 : (backTo pos2 (starEach [e2] X.env)).any (·.1) = false := by rfl) :
    PI X (.Tuple elts kk tpos) (.Call (.Name "enumerate" p) [.Call (.Name "zip" p2) [e, e2] [] pos2] [] pos) (iEZ X.K ta) := by
  refine ⟨fun pins s σ H R I h => PyProof.Rows.Call_ (ld_blt I hg hm PyProof.Rows.boot_enumerate (PyProof.Rows.callWith_type1 ?_ h0 rfl))⟩
  rw [h0]
  show wpAny _ _ (spliced ((false, eval (.Call (.Name "zip" p2) [e, e2] [] pos2) X.env) :: backTo pos (starEach [] X.env))) _ _ s
  refine Calls.spliced_cons (PyProof.Rows.Call_ (ld_blt I hg2 hm2 PyProof.Rows.boot_zip (PyProof.Rows.callWith_type1 (thn (ha.run pos2 pins s σ H _ I h) fun us s1 ⟨vs, H1, I1, r1, q1⟩ => ?_) h1 h2)))
  obtain ⟨a, b, k1, k2, xs, ys, rfl, q1, q2, q⟩ := q1
  cases r1 with
  | cons r rr =>
  cases rr with
  | cons r' rr =>
  cases rr; cases r; cases r'
  obtain ⟨i1, r1, s1'⟩ := k1.there I1 q1
  obtain ⟨i2, r2, s2'⟩ := k2.there I1 q2
  refine zip_begins2 (k1.begins a i1.toArray) (k2.begins b i2.toArray) s1' s2' fun h' hz hTI hTO g1 g2 hsz hk => ?_
  refine Calls.spliced_nil ?_
  refine enum_beginsZ (s := { s1 with heap := h' }) hz fun h'' he hk2 => wpAny_pyIter_enum he ?_
  have ez : h'.objs.size = s1.heap.objs.size + 5 := hsz
  have he' : IsEnum h'' (s1.heap.objs.size + 5) (s1.heap.objs.size + 4) 0 .none := by rw [← ez]; exact he
  refine ⟨s1.heap.objs.size + 5, fp6 s1.heap.objs.size, _, _, H1, (by show Value.ref h'.objs.size = _; rw [ez]), I1.kept (t' := s1.toks) fun c o e => hk2 c o (hk c o e), turn_ez k1 k2 (k1.lt s1') (k2.lt s2') xs ys,
    ⟨⟨_, he'⟩, ⟨_, _, hk2 _ _ hz, .inl rfl⟩, hk2 _ _ hTI, ⟨_, _, hk2 _ _ hTO⟩, k1.first (hk2 _ _ g1), k2.first (hk2 _ _ g2)⟩, fun c hc => ?_, q⟩
  have hle : s1.heap.objs.size ≤ c := by
    rcases fp6_cases hc with z | z | z | z | z | z <;> rw [z] <;> first | exact Nat.le_add_right _ _ | exact Nat.le_refl _
  exact I1.fpOk hle (I1.hok.fresh hle)
theorem wk_quad {Z : Hp} {S : Hp → Prop} {n : Nat} {f g : Nat → Option V} {ds : List D} (hS : ∀ H, Same Z H → S H) (hn : ds.length = n) (hd : ∀ i x y, i < n → f i = some x → g i = some y → ∃ a b, ds[i]? = some (.tuple [.int (i : Int), .tuple [a, b]]) ∧ Rp K Z x a ∧ Rp K Z y b) : Wk K (ItQ S n f g) Z ds where
  goes := fun i H hi s => ⟨hS H s, by rw [← hn]; exact hi⟩
  stops := fun H s => ⟨hS H s, hn⟩
  yields := fun i H x H' hi y b0 B Z0 Z' σ ρ ok s => by
    obtain ⟨T1, T2, x, y, rfl, n1, n2, ne, rfl, e1, e2⟩ := y
    obtain ⟨a, b, ed, ra, rb⟩ := hd i x y (by omega) e1 e2
    obtain ⟨ok2, s2⟩ := ok.new (o := .tup [x, y]) n1
    obtain ⟨ok3, s3⟩ := ok2.new (o := .tup [.int (0 + (i : Int)), .ref T1]) (show upd H T1 _ T2 = none by rw [upd_ne ne]; exact n2)
    refine ⟨_, _, ok3, s2.trans s3, ed, .tup (.inl (.inl upd_same)) (.cons (by rw [Int.zero_add]; exact .int _) (.cons ?_ .nil))⟩
    exact .tup (.inl (.inl (s3 _ _ upd_same))) (.cons (((ra.mono s).mono s2).mono s3) (.cons (((rb.mono s).mono s2).mono s3) .nil))
def enumZipD : List D → Option (List D)
  | [a, b] => (zip2D [a, b]).map (enumFrom 0)
  | _ => none
theorem di_enumZip {ga : GA} (h : DA K tas ga) : DI K (iEZ K tas) (eCall enumZipD ga) := fun b0 B Z0 Z H σ ρ ds ρ' W ok e q => by
  obtain ⟨os, as, e1, e2, e3⟩ := call_ok e
  refine h b0 B Z0 Z H σ ρ os ρ' _ ok e1 fun vs H1 Z1 ok1 s1 r1 => ?_
  have ra := valA_ok r1 e2
  unfold enumZipD at e3
  split at e3
  · obtain ⟨zs, e4, rfl⟩ := Option.map_eq_some_iff.mp e3
    unfold zip2D at e4
    dsimp only at e4
    split at e4
    · rename_i k1 xs k2 ys f1 f2
      cases e4
      cases ra with
      | cons r ra =>
      cases ra with
      | cons r' ra =>
      cases ra
      obtain ⟨a, va, rfl, qa, rva⟩ := sk_rp f1 r
      obtain ⟨b, vb, rfl, qb, rvb⟩ := sk_rp f2 r'
      refine ⟨a, b, k1, k2, va, vb, rfl, k1.mono ok1.zh qa, k2.mono ok1.zh qb, q _ H1 Z1 ok1 s1 (wk_quad (fun H s => ⟨k1.mono s qa, k2.mono s qb⟩) ?_ fun i x y hi ex ey => ?_)⟩
      · rw [enumFrom_len]; unfold zipD; rw [List.length_zipWith, rva.length, rvb.length]
      · obtain ⟨d1, g1, rd1⟩ := rva.getV ex
        obtain ⟨d2, g2, rd2⟩ := rvb.getV ey
        refine ⟨d1, d2, ?_, rd1, rd2⟩
        have := enumFrom_get (zipD xs ys) 0 i (.tuple [d1, d2]) (by unfold zipD; rw [List.getElem?_zipWith, g1, g2])
        rw [this, Nat.zero_add]
    · cases e4
  · cases e3
end
end DL

/-! DMj: t[::-1] of a tuple or a list; xs.pop(i) as an expression. -/
namespace DLV
open PySem PySem.Spec PyProof.Rows HT
section
variable {prog : Program} {w : World} {A : Around} {E : Value → Shared → Prop} {s : Shared}
theorem adjust_rev (n : Nat) : Builtin.Slice.sliceAdjust none none (-1) (n : Int) = ((n : Int) - 1, -1) := rfl
theorem places_rev (n : Nat) : Builtin.Slice.slicePlaces ((n : Int) - 1) (-1) (-1) = n := by
  unfold Builtin.Slice.slicePlaces
  have h1 : ¬ ((-1 : Int) > 0) := by decide
  simp only [h1, if_false]
  by_cases h : (n : Int) - 1 > -1
  · rw [if_pos h, show (- -1 : Int) = 1 by decide, Int.ediv_one]
    omega
  · rw [if_neg h]
    have : n = 0 := by omega
    subst this
    rfl
theorem sliceApplied_rev {sl : Addr} {vl vu vs : Value} {n : Nat} {Q : Int × Int × Nat → Shared → Prop} (hs : s.heap.IsSliceOf sl vl vu vs) (pl : IsPart vl none) (pu : IsPart vu none) (ps : IsPart vs (some (-1)))
    (h : Q ((n : Int) - 1, -1, n) s) : wpAny (model prog w) A (Builtin.Slice.sliceApplied (.ref sl) (pure (n : Int))) Q E s := by
  obtain ⟨os, hos, hcs, hds⟩ := id hs
  unfold Builtin.Slice.sliceApplied Builtin.Slice.sliceFields
  refine wpAny_bind (wpAny_bind (wpAny_field hos hds (x := vl) rfl (wpAny_bind (wpAny_field hos hds (x := vu) rfl (wpAny_bind (wpAny_field hos hds (x := vs) rfl (wpAny_pure ?_)))))))
  refine wpAny_bind (slicePart_ ps ?_)
  show wpAny _ _ (if ((-1 : Int) == 0) = true then _ else _) _ _ s
  rw [if_neg (by decide)]
  refine wpAny_bind (slicePart_ pl (wpAny_bind (slicePart_ pu (wpAny_bind (wpAny_pure ?_)))))
  show wpAny _ _ (match Builtin.Slice.sliceAdjust none none (-1) (n : Int) with | (lo, hi) => pure (lo, (-1 : Int), Builtin.Slice.slicePlaces lo hi (-1))) _ _ s
  rw [adjust_rev n]
  show wpAny _ _ (pure ((n : Int) - 1, (-1 : Int), Builtin.Slice.slicePlaces ((n : Int) - 1) (-1) (-1))) _ _ s
  rw [places_rev]
  exact wpAny_pure h
theorem pick_rev (xs : Array Value) : ((List.range xs.size).filterMap fun (m : Nat) => xs[(((xs.size : Int) - 1) + (m : Int) * (-1)).toNat]?).toArray = xs.toList.reverse.toArray := by
  have e := PySem.W.krv_pick xs
  unfold slicePick at e
  rw [PySem.W.krv_bounds] at e
  have e2 : ((sliceRange ((xs.size : Int) - 1) (-1) (-1)).filterMap (xs[·]?)).toArray = xs.toList.reverse.toArray := e
  rw [PySem.W.krv_sliceRange, List.filterMap_map] at e2
  rw [← e2]
  congr 2
  funext m
  have : (((xs.size : Int) - 1) + (m : Int) * (-1)).toNat = xs.size - 1 - m := by omega
  rw [this]
  rfl
theorem getItem_tuple_rev {t sl : Addr} {items : Array Value} {vl vu vs : Value} {Q : Value → Shared → Prop} (ht : IsTup s.heap t items) (hs : s.heap.IsSliceOf sl vl vu vs) (pl : IsPart vl none) (pu : IsPart vu none) (ps : IsPart vs (some (-1)))
    (h : Q (.ref s.heap.objs.size) { s with heap := s.heap.push { cls := .type "tuple", data := .seq items.toList.reverse.toArray } })
    (hsz : items.size ≤ sizeLine) : wpAny (model prog w) A (getItem (.ref t) (.ref sl)) Q E s := by
  have htake : sizeOk (.seq items.toList.reverse.toArray) := by
    show items.toList.reverse.toArray.size ≤ sizeLine
    rw [List.size_toArray, List.length_reverse, Array.length_toList]
    exact hsz
  obtain ⟨os, hos, hcs, hds⟩ := id hs
  have hTs : s.TypeIs (.ref sl) "slice" := ⟨os, hos, hcs⟩
  unfold getItem
  try with_reducible refine wpAny_holding ?_
  first | refine wpAny_bind (wpAny_pure ?_) | skip
  refine wpAny_bind (wpAny_sequenceKey ht.typeIs (by decide) ?_)
  refine wpAny_bind (wpAny_callSpecial?_slot (name := Str.ofString "__getitem__") ht.typeIs PyProof.Rows.slot_tuple_getitem
    (wpAny_call_entry PyProof.Rows.slot_tuple_getitem ht.typeIs entry_tuple_getitem ?_ (args_tuple_getitem _ _)))
  show wpAny _ _ (Builtin.Tuple.tupleItemsOf (.ref t) >>= _) _ _ s
  refine wpAny_bind (tupleItemsOf_ ht ?_)
  refine wpAny_bind (wpAny_typeOf hTs ?_)
  rw [if_pos (by decide)]
  refine wpAny_bind (sliceApplied_rev hs pl pu ps ?_)
  have hno : ¬ ((((items.size : Int) - 1) == 0 && (-1 : Int) == 1 && items.size == items.size) = true) := by
    intro q
    rw [Bool.and_eq_true, Bool.and_eq_true] at q
    exact absurd q.1.2 (by decide)
  show wpAny _ _ (if (((items.size : Int) - 1) == 0 && (-1 : Int) == 1 && items.size == items.size) = true then _ else _) _ _ s
  rw [if_neg hno, pick_rev]
  first
    | exact wpAny_bind (m := Builtin.Tuple.tupleExact _) (wpAny_newObj_type (wpAny_pure ⟨_, rfl, wpAny_pure h⟩) htake)
    | exact wpAny_bind (m := Builtin.Tuple.tupleExact _) (wpAny_newObj_type (wpAny_bind (wpAny_pure (wpAny_pure ⟨_, rfl, wpAny_pure h⟩))) htake)
    | exact wpAny_bind (wpAny_bind (m := Builtin.Tuple.tupleExact _) (wpAny_newObj_type (wpAny_pure (wpAny_pure ⟨_, rfl, wpAny_pure h⟩)) htake))
    | exact wpAny_bind (wpAny_bind (m := Builtin.Tuple.tupleExact _) (wpAny_newObj_type (wpAny_pure ⟨_, rfl, wpAny_pure h⟩) htake))
end
end DLV
namespace DL
open PySem PySem.Spec PyProof.Rows L2 DLV
section
variable {X : Cx} {K : PySem.W.Frag} {te : TE} {Wx : WX}
def tRevT (K : PySem.W.Frag) (te : TE) : TE := fun σ H Q => te σ H fun x H1 => ∃ a xs, x = .ref a ∧ SqT K H1 a xs ∧ ∀ p, H1 p = none → Q (.ref p) (upd H1 p (.tup xs.reverse))
theorem pe_revT {e : Expr} {te : TE} {k : Nat} {p1 p2 p3 pos : Pos} (he : PE X e te) : PE X (.Subscript e (.Slice none none (some (.UnaryOp .USub (.Constant (.int 1) k p1) p2)) p3) pos) (tRevT X.K te) := by
  refine ⟨fun pins s σ H Q I h => ?_⟩
  refine Subscript_ (thn (he.run pins s σ H _ I h) fun v s1 ⟨x, H1, I1, r1, q1⟩ => ?_)
  obtain ⟨a, xs, ex, hx, q⟩ := q1
  subst ex
  cases r1
  have hst : PO X (some (.UnaryOp .USub (.Constant (.int 1) k p1) p2)) (tPart (tUn (rU fun i => .int (-i)) (tC (.int 1)))) := po_some (pe_un un_neg pe_int)
  refine wpAny_Slice (thn (po_none.run pins s1 σ H1 (fun o H2 => o = none ∧ H2 = H1) I1 ⟨rfl, rfl⟩) fun vl s2 ⟨l, H2, I2, pl, el, e2⟩ => ?_)
  subst el e2
  refine thn (po_none.run pins s2 σ H2 (fun o H3 => o = none ∧ H3 = H2) I2 ⟨rfl, rfl⟩) fun vu s3 ⟨u, H3, I3, pu, eu, e3⟩ => ?_
  subst eu e3
  refine thn (hst.run pins s3 σ H3 (fun o H4 => o = some (-1) ∧ H4 = H3) I3 ⟨1, rfl, -1, rfl, rfl, rfl⟩) fun vs s4 ⟨o, H4, I4, ps, eo, e4⟩ => ?_
  subst eo e4
  have I5 : L2.Inv X pins σ H4 { s4 with heap := s4.heap.push { cls := .type "slice", data := .fields #[vl, vu, vs] } } := I4.kept (t' := s4.toks) fun b ob q => Heap.get?_push_of_some _ q
  obtain ⟨its, r, ht, hz⟩ := I5.tuple hx
  have hlen := r.length
  show wpAny (model X.prog X.w) X.A (subscriptTail e (.Slice none none (some (.UnaryOp .USub (.Constant (.int 1) k p1) p2)) p3) (.ref a) (.ref s4.heap.objs.size)) (EP X pins σ Q) X.xe { s4 with heap := s4.heap.push { cls := .type "slice", data := .fields #[vl, vu, vs] } }
  refine tail_any (ops := [.ref a, .ref s4.heap.objs.size]) ht.typeIs (PyProof.Rows.slot_tuple_getitem.lookup) ?_ (by with_unfolding_all rfl)
  refine getItem_tuple_rev ht (Heap.IsSliceOf.new _ vl vu vs) pl pu ps ?_ (by rw [List.size_toArray]; omega)
  refine ⟨.ref _, _, I5.laid (t' := s4.toks) (o := .tup xs.reverse) (fun b ob q => Heap.get?_push_of_some _ q) (Nat.le_refl _) ?_, rfl, q _ (I5.hok.fresh (Nat.le_refl _))⟩
  exact ⟨by rw [List.length_reverse]; exact hz, _, r.reverse, IsTup.new _ _⟩
def tRevU (K : PySem.W.Frag) (te : TE) : TE := fun σ H Q => tRevL K te σ H Q ∨ tRevT K te σ H Q
theorem pe_revU {e : Expr} {te : TE} {k : Nat} {p1 p2 p3 pos : Pos} (he : PE X e te) : PE X (.Subscript e (.Slice none none (some (.UnaryOp .USub (.Constant (.int 1) k p1) p2)) p3) pos) (tRevU X.K te) :=
  ⟨fun pins s σ H Q I h => h.elim ((pe_revL he).run pins s σ H Q I) ((pe_revT he).run pins s σ H Q I)⟩
/-- x[::-1] -/
def revU : D → Option D
  | .list xs => some (.list xs.reverse)
  | .dict [(.list xs, .none)] => some (.list xs.reverse)
  | .tuple xs => some (.tuple xs.reverse)
  | _ => none
def eRevU (g : GE) (ρ : Rho) : R D := (g ρ).bind fun d ρ1 => R.lift (revU d) ρ1
theorem de_revU {g : GE} (h : DE K te g) : DE K (tRevU K te) (eRevU g) := fun b0 B Z0 Z H σ ρ ds ρ' Q ok e q => by
  obtain ⟨d, ρ1, e1, e⟩ := R.bind_ok e
  obtain ⟨e2, rfl⟩ := R.lift_ok e
  unfold revU at e2
  split at e2
  · cases e2
    refine .inl (h b0 B Z0 Z H σ ρ _ _ _ ok e1 fun v H1 Z1 ok1 s1 r1 => ?_)
    cases r1 with
    | lst hs ra =>
      refine ⟨_, _, rfl, .inl (.inl (ok1.zh _ _ hs)), fun p hp => ?_⟩
      obtain ⟨ok2, s2⟩ := ok1.new (o := .lst _) hp
      exact q (.ref p) _ _ ok2 (s1.trans s2) (.lst upd_same (ra.rev.mono s2))
  · cases e2
    refine .inl (h b0 B Z0 Z H σ ρ _ _ _ ok e1 fun v H1 Z1 ok1 s1 r1 => ?_)
    cases r1 with
    | scr hs ra =>
      refine ⟨_, _, rfl, same_l ok1.zh hs, fun p hp => ?_⟩
      obtain ⟨ok2, s2⟩ := ok1.new (o := .lst _) hp
      exact q (.ref p) _ _ ok2 (s1.trans s2) (.lst upd_same (ra.rev.mono s2))
  · cases e2
    refine .inr (h b0 B Z0 Z H σ ρ _ _ _ ok e1 fun v H1 Z1 ok1 s1 r1 => ?_)
    cases r1 with
    | tup hs ra =>
      refine ⟨_, _, rfl, same_t ok1.zh hs, fun p hp => ?_⟩
      obtain ⟨ok2, s2⟩ := ok1.new (o := .tup _) hp
      exact q (.ref p) _ _ ok2 (s1.trans s2) (.tup (.inl (.inl upd_same)) (ra.rev.mono s2))
  · cases e2
/-! ### xs.pop(i) -/
def ePopAt (i : Nat) (g : GE) (ρ : Rho) : R D := if isOw ρ[i]? then (g ρ).bind fun d ρ1 => match d, ρ1[i]? with
    | .int k, some (.ow ds) => (if -(2 ^ 63) ≤ k ∧ k < 2 ^ 63 then (match seqIndex? k ds.length with
      | some j => (match ds[j]? with
        | some y => .ok y (ρ1.set i (.ow (ds.eraseIdx j)))
        | none => .bad)
      | none => .bad) else .bad)
    | _, _ => .bad
  else .bad
theorem RpA.erase {Z : Hp} : ∀ {vs : List V} {ds : List D} (j : Nat), RpA K Z vs ds → RpA K Z (vs.eraseIdx j) (ds.eraseIdx j)
  | _, _, _, .nil => .nil
  | _, _, 0, .cons h t => t
  | _, _, j + 1, .cons h t => .cons h (RpA.erase j t)
theorem RpA.getD {Z : Hp} : ∀ {vs : List V} {ds : List D} {j : Nat} {d : D}, RpA K Z vs ds → ds[j]? = some d → ∃ v, vs[j]? = some v ∧ Rp K Z v d
  | _, _, 0, _, .cons h t, e => by cases e; exact ⟨_, rfl, h⟩
  | _, _, j + 1, _, .cons h t, e => RpA.getD (j := j) t e
theorem de_popAt {i : Nat} {g : GE} (h : DE K te g) : DE K (tBM K "list" rPopAt (tVar i) (tCons te tNil)) (ePopAt i g) := fun b0 B Z0 Z H σ ρ d ρ' Q ok e q => by
  unfold ePopAt at e
  split at e
  · rename_i h0
    obtain ⟨p, vs0, e0, hp0⟩ := ok.isOw h0
    obtain ⟨k, ρ1, e1, e⟩ := R.bind_ok e
    split at e
    · rename_i k ds hi
      split at e
      · rename_i hk
        split at e
        · rename_i j hj
          split at e
          · rename_i y hy
            cases e
            refine ⟨.ref p, e0, .inl ⟨rfl, vs0, .inl (.inl hp0)⟩, ?_⟩
            refine h b0 B Z0 Z H σ ρ _ ρ1 _ ok e1 fun v H1 Z1 ok1 s1 r1 => ?_
            obtain ⟨q', vs, f1, f2, f3, f4, f5⟩ := ok1.ow i ds hi
            rw [e0] at f1
            cases f1
            cases r1
            obtain ⟨v, gv, rv⟩ := f5.getD hy
            exact ⟨p, vs, k, j, v, rfl, rfl, f4, hk.1, hk.2, by rw [f5.length]; exact hj, gv, q v _ Z1 (ok1.rewrite hi e0 (f5.erase j)) s1 rv⟩
          · cases e
        · cases e
      · cases e
    · cases e
  · cases e
end
end DL

/-! DMk: a, b, c = x, y, [..]. -/
namespace DL
open PySem L2
section
variable {K : PySem.W.Frag} {Wx : WX} {ta tb tc : TE} {b0 : Option Addr} {B Z0 Z H : Hp} {σ : L2.St} {ρ : Rho}
theorem apart_put {i : Nat} {v : V} {d : D} {q : Addr} (aq : Apart σ ρ q) : Apart (σ.set i (some v)) (ρ.set i (.sh d)) q := fun j' es hj ho hqq => by
  rcases set_get hj with ⟨_, z⟩ | ⟨nk, e⟩
  · subst z; cases ho
  · rw [List.getElem?_set_ne nk] at hqq
    exact aq j' es e ho hqq
theorem ds_par3f {i j l : Nat} {a b : GE} {c : GF} (ha : DE K ta a) (hb : DE K tb b) (hc : DF K tc c) (hl : l ≠ 0 := by decide) : DS K Wx (tPar3 i j l (tCons ta (tCons tb (tCons tc tNil)))) (sPar3 i j l (nS a) (nS b) (nF c)) := fun b0 B Z0 Z H σ ρ E ok s => by
  obtain ⟨x, ρ1, e1, s⟩ := Sat.to s
  obtain ⟨y, ρ2, e2, s⟩ := Sat.to s
  obtain ⟨z, ρ3, e3, s⟩ := Sat.to s
  obtain ⟨dx, f1, rfl⟩ := R.map_ok e1
  obtain ⟨dy, f2, rfl⟩ := R.map_ok e2
  obtain ⟨dz, f3, rfl⟩ := R.map_ok e3
  refine ha b0 B Z0 Z H σ ρ dx ρ1 _ ok f1 fun v H1 Z1 ok1 s1 r1 => ?_
  refine hb b0 B Z0 Z1 H1 σ ρ1 dy ρ2 _ ok1 f2 fun w H2 Z2 ok2 s2 r2 => ?_
  refine hc b0 B Z0 Z2 H2 σ ρ2 dz ρ3 _ ok2 f3 fun p vs H3 Z3 ok3 s3 zp bp ap hp ra => ?_
  exact ⟨v, w, .ref p, rfl, s _ H3 Z3 (((ok3.put (r1.mono (s2.trans s3))).put (r2.mono s3)).putO zp bp (apart_put (apart_put ap)) hp ra fun _ _ z => absurd z hl)⟩
end
end DL

/-! DMl: repr of any plain value; sizes of what repr shows. -/
namespace DL
open PySem L2
section
variable {X : Cx} {K : PySem.W.Frag}
def rReprU (K : PySem.W.Frag) : List V → Hp → VK → Prop := fun xs H Q => ∃ x d, xs = [x] ∧ Dp K H x d ∧ d.showable = true ∧ d.hasDict = false ∧ d.depth ≤ 30 ∧ d.shown.length ≤ sizeLine ∧ Q (.str d.shown) H
theorem cr_reprU {k : Nat} (gd : X.A.guards = some []) (hr : Room k X.A) : CallR X (.builtin "repr") (rReprU X.K) := by
  intro pins s σ H xs us Q I rx h
  obtain ⟨x, d, rfl, hd, sh, nod, dp, sz, z⟩ := h
  have base : isSq d = true → CallR X (.builtin "repr") (rRepr X.K) → wpAny (model X.prog X.w) X.A (call (.builtin "repr") us) (EP X pins σ Q) X.xe s := fun sq c => c pins s σ H [x] us Q I rx ⟨x, d, rfl, hd, sq, sh, nod, dp, sz, z⟩
  have cr := cr_repr gd hr
  cases rx with
  | cons r rr =>
  cases rr
  cases hd with
  | non =>
    cases (show _ = Value.none from r)
    exact P.repr_of_none ⟨.str _, H, I.tok _, ⟨_, rfl⟩, by simpa only [PyData.shown] using z⟩
  | bl b =>
    cases (show _ = Value.bool b from r)
    exact P.repr_of_bool ⟨.str _, H, I.tok _, ⟨_, rfl⟩, by simpa only [PyData.shown] using z⟩
  | int i =>
    obtain ⟨t, rfl⟩ := r
    exact P.repr_of_int (by simpa [PyData.showable] using sh) ⟨.str _, H, I.tok _, ⟨_, rfl⟩, by simpa only [PyData.shown] using z⟩
  | str x =>
    obtain ⟨t, rfl⟩ := r
    exact P.repr_of_str ⟨.str _, H, I.tok _, ⟨_, rfl⟩, by simpa only [PyData.shown] using z⟩ (by simpa only [PyData.shown] using sz)
  | lst h ra => exact base rfl cr
  | tup h ra => exact base rfl cr
def reprU : List D → Option D
  | [d] => if d.showable = true ∧ d.hasDict = false ∧ d.depth ≤ 30 ∧ d.shown.length ≤ sizeLine then some (.str d.shown) else none
  | _ => none
theorem sn_reprU : SnA K (rReprU K) reprU := fun b0 B Z0 Z H σ ρ xs as c Q ok ha e q => by
  unfold reprU at e
  split at e
  · split at e
    · rename_i hc
      obtain ⟨h2, h3, h4, h5⟩ := hc
      cases e
      cases ha with
      | cons h h' =>
      cases h'
      exact ⟨_, _, rfl, (bd_rp ok.zh h).dp (noD_hd _ h3), h2, h3, h4, h5, q _ H Z ok (Same.refl Z) (.str _)⟩
    · cases e
  · cases e
end
theorem reprU_of {d : D} {h L : Nat} (s : Shw h L d) (hh : h ≤ 30) (hL : L ≤ sizeLine) : reprU [d] = some (.str d.shown) := if_pos ⟨s.sh, s.nd, Nat.le_trans s.dp hh, Nat.le_trans s.ln hL⟩
/-! ### the size of what repr shows -/
mutual
def szZ : D → Nat
  | .list xs => 3 + szZs xs
  | .tuple xs => 3 + szZs xs
  | .none => 5
  | .bool _ => 5
  | .int i => (PyData.int i).shown.length
  | .str x => (PyData.str x).shown.length
  | .dict _ => 0
def szZs : List D → Nat
  | [] => 0
  | x :: xs => szZ x + 2 + szZs xs
end
mutual
def okB (B : Nat) : D → Bool
  | .list xs => okBs B xs
  | .tuple xs => okBs B xs
  | .none => true
  | .bool _ => true
  | .int i => decide (i.natAbs ≤ B)
  | .str _ => true
  | .dict _ => false
def okBs (B : Nat) : List D → Bool
  | [] => true
  | x :: xs => okB B x && okBs B xs
end
theorem okBs_iff {B : Nat} : ∀ {xs : List D}, okBs B xs = true ↔ ∀ x ∈ xs, okB B x = true
  | [] => by simp [okBs]
  | x :: xs => by simp [okBs, okBs_iff (xs := xs)]
theorem szs_append : ∀ xs ys : List D, szZs (xs ++ ys) = szZs xs + szZs ys
  | [], ys => by simp [szZs]
  | x :: xs, ys => by simp only [List.cons_append, szZs, szs_append xs ys]; omega
theorem szs_take : ∀ (xs : List D) (k : Nat), szZs (xs.take k) ≤ szZs xs
  | [], k => by simp [szZs]
  | x :: xs, 0 => by simp [szZs]
  | x :: xs, k + 1 => by
    have := szs_take xs k
    simp only [List.take_succ_cons, szZs]
    omega
theorem szs_drop : ∀ (xs : List D) (k : Nat), szZs (xs.drop k) ≤ szZs xs
  | [], k => by simp [szZs]
  | x :: xs, 0 => by simp
  | x :: xs, k + 1 => by
    have := szs_drop xs k
    simp only [List.drop_succ_cons, szZs]
    omega
theorem szs_set : ∀ (xs : List D) (k : Nat) (x y : D), xs[k]? = some x → szZs (xs.set k y) + szZ x = szZs xs + szZ y
  | [], k, x, y, h => by simp at h
  | z :: xs, 0, x, y, h => by
    cases h
    simp only [List.set_cons_zero, szZs]; omega
  | z :: xs, k + 1, x, y, h => by
    have := szs_set xs k x y (by simpa using h)
    simp only [List.set_cons_succ, szZs]
    omega
theorem szs_mem : ∀ {xs : List D} {x : D}, x ∈ xs → szZ x + 2 ≤ szZs xs
  | y :: xs, x, h => by
    rcases List.mem_cons.mp h with rfl | h
    · simp only [szZs]; omega
    · have := szs_mem h
      simp only [szZs]; omega
theorem szs_rev (xs : List D) : szZs xs.reverse = szZs xs := by
  induction xs with
  | nil => rfl
  | cons x xs ih => rw [List.reverse_cons, szs_append, ih]; simp only [szZs]; omega
theorem szs_len : ∀ xs : List D, 2 * xs.length ≤ szZs xs
  | [] => by simp [szZs]
  | x :: xs => by
    have := szs_len xs
    simp only [List.length_cons, szZs]; omega
theorem szs_le : ∀ {xs : List D} {L : Nat}, (∀ x ∈ xs, szZ x ≤ L) → szZs xs ≤ xs.length * (L + 2)
  | [], L, _ => by simp [szZs]
  | x :: xs, L, h => by
    have := szs_le fun y hy => h y (List.mem_cons_of_mem _ hy)
    have := h x List.mem_cons_self
    simp only [szZs, List.length_cons, Nat.succ_mul]; omega
theorem textFrom_szs : ∀ (xs : List D) (k : Nat) (acc : Str), (∀ x ∈ xs, x.shown.length ≤ szZ x) → (textFrom k acc (PyData.shownAll xs)).length ≤ acc.length + szZs xs
  | [], k, acc, _ => by simp [PyData.shownAll, textFrom, szZs]
  | x :: xs, k, acc, h => by
    have ih := textFrom_szs xs (k + 1) (acc ++ (if k > 0 then ", " else "" : String) ++ x.shown) fun y hy => h y (List.mem_cons_of_mem _ hy)
    have hx := h x List.mem_cons_self
    have e : (acc ++ (if k > 0 then ", " else "" : String) ++ x.shown : Str).length ≤ acc.length + 2 + x.shown.length := by
      rw [Str.length_append, Str.length_append]
      have : (Str.ofString (if k > 0 then ", " else "")).length ≤ 2 := by split <;> decide
      omega
    simp only [PyData.shownAll, szZs]
    show (textFrom (k + 1) _ (PyData.shownAll xs)).length ≤ _
    omega
theorem join_szs : ∀ xs : List D, (∀ x ∈ xs, x.shown.length ≤ szZ x) → (Str.join ", " (PyData.shownAll xs)).length ≤ szZs xs
  | [], _ => by show (Str.ofString "").length ≤ _; exact Nat.le_trans (by decide : _ ≤ 0) (Nat.zero_le _)
  | [x], h => by
    have := h x List.mem_cons_self
    simp only [PyData.shownAll, szZs]; show x.shown.length ≤ _; omega
  | x :: y :: r, h => by
    have ih := join_szs (y :: r) fun z hz => h z (List.mem_cons_of_mem _ hz)
    have hx := h x List.mem_cons_self
    simp only [PyData.shownAll] at ih ⊢
    show (x.shown ++ ", " ++ Str.join ", " (y.shown :: PyData.shownAll r)).length ≤ _
    have e2 : ((", " : String) : Str).length = 2 := rfl
    rw [Str.length_append, Str.length_append, e2]
    simp only [szZs] at ih ⊢
    omega
theorem shown_list {xs : List D} (h : ∀ x ∈ xs, x.shown.length ≤ szZ x) : (PyData.list xs).shown.length ≤ szZ (.list xs) := by
  simp only [PyData.shown, listText, szZ]
  have := textFrom_szs xs 0 "[" h
  rw [Str.length_append]
  have h1 : (Str.ofString "[").length = 1 := by decide
  have h2 : (Str.ofString "]").length = 1 := by decide
  omega
theorem shown_tuple {xs : List D} (h : ∀ x ∈ xs, x.shown.length ≤ szZ x) : (PyData.tuple xs).shown.length ≤ szZ (.tuple xs) := by
  simp only [PyData.shown, tupleText, szZ]
  have := join_szs xs h
  rw [Str.length_append, Str.length_append]
  have h1 : (Str.ofString "(").length = 1 := by decide
  have h2 : (Str.ofString (if (PyData.shownAll xs).length == 1 then ",)" else ")")).length ≤ 2 := by split <;> decide
  omega
mutual
theorem shown_sz {B : Nat} : ∀ d : D, okB B d = true → d.shown.length ≤ szZ d
  | .none, _ => by simp only [PyData.shown, szZ]; decide
  | .bool b, _ => by simp only [PyData.shown, szZ]; cases b <;> decide
  | .int i, _ => by simp only [szZ]; exact Nat.le_refl _
  | .str x, _ => by simp only [szZ]; exact Nat.le_refl _
  | .list xs, h => shown_list (shown_szs xs (by simpa only [okB] using h))
  | .tuple xs, h => shown_tuple (shown_szs xs (by simpa only [okB] using h))
  | .dict _, h => by simp [okB] at h
theorem shown_szs {B : Nat} : ∀ xs : List D, okBs B xs = true → ∀ x ∈ xs, x.shown.length ≤ szZ x
  | [], _ => fun x h => nomatch h
  | y :: xs, h => fun x hx => by
    have h' : okB B y = true ∧ okBs B xs = true := by simpa [okBs] using h
    rcases List.mem_cons.mp hx with e | hx
    · rw [e]; exact shown_sz y h'.1
    · exact shown_szs xs h'.2 x hx
end
theorem log_B {B n : Nat} (hB : B ≤ 10 ^ 70) (h : n ≤ B) : n.log2 < 1920 := by
  by_cases h0 : n = 0
  · subst h0; decide
  · exact Nat.lt_of_lt_of_le ((Nat.log2_lt h0).mpr (Nat.lt_of_le_of_lt (Nat.le_trans h hB) (by decide : 10 ^ 70 < 2 ^ 300))) (by decide)
mutual
theorem ok_sh {B : Nat} (hB : B ≤ 10 ^ 70) : ∀ d : D, okB B d = true → d.showable = true ∧ d.hasDict = false
  | .none, _ => by simp [PyData.showable, PyData.hasDict]
  | .bool b, _ => by simp [PyData.showable, PyData.hasDict]
  | .int i, h => by
    have h' : i.natAbs ≤ B := by simpa [okB] using h
    simpa [PyData.showable, PyData.hasDict] using log_B hB h'
  | .str x, _ => by simp [PyData.showable, PyData.hasDict]
  | .list xs, h => by simpa [PyData.showable, PyData.hasDict] using ok_shs hB xs (by simpa only [okB] using h)
  | .tuple xs, h => by simpa [PyData.showable, PyData.hasDict] using ok_shs hB xs (by simpa only [okB] using h)
  | .dict _, h => by simp [okB] at h
theorem ok_shs {B : Nat} (hB : B ≤ 10 ^ 70) : ∀ xs : List D, okBs B xs = true → PyData.showableAll xs = true ∧ PyData.hasDictAll xs = false
  | [], _ => by simp [PyData.showableAll, PyData.hasDictAll]
  | y :: xs, h => by
    have h' : okB B y = true ∧ okBs B xs = true := by simpa [okBs] using h
    have a := ok_sh hB y h'.1
    have b := ok_shs hB xs h'.2
    simp [PyData.showableAll, PyData.hasDictAll, a.1, a.2, b.1, b.2]
end
theorem depthAll_iff {n : Nat} : ∀ {xs : List D}, PyData.depthAll xs ≤ n ↔ ∀ x ∈ xs, x.depth ≤ n
  | [] => by simp [PyData.depthAll]
  | x :: xs => by
    have := depthAll_iff (n := n) (xs := xs)
    simp only [PyData.depthAll, List.mem_cons, forall_eq_or_imp, ← this]
    omega
/-- a plain value: whole numbers up to B, depth up to n, size up to L -/
structure Vv (B n L : Nat) (d : D) : Prop where
  ok : okB B d = true
  dp : d.depth ≤ n
  sz : szZ d ≤ L
theorem Vv.mono {B n L B' n' L' : Nat} {d : D} (v : Vv B n L d) (b : ∀ d, okB B d = true → okB B' d = true) (hn : n ≤ n') (hL : L ≤ L') : Vv B' n' L' d := ⟨b d v.ok, Nat.le_trans v.dp hn, Nat.le_trans v.sz hL⟩
mutual
theorem okB_mono {B B' : Nat} (h : B ≤ B') : ∀ d : D, okB B d = true → okB B' d = true
  | .none, _ => rfl
  | .bool b, _ => rfl
  | .int i, e => by simp only [okB, decide_eq_true_eq] at e ⊢; omega
  | .str x, _ => rfl
  | .list xs, e => by simp only [okB] at e ⊢; exact okBs_mono h xs e
  | .tuple xs, e => by simp only [okB] at e ⊢; exact okBs_mono h xs e
  | .dict _, e => by simp [okB] at e
theorem okBs_mono {B B' : Nat} (h : B ≤ B') : ∀ xs : List D, okBs B xs = true → okBs B' xs = true
  | [], _ => rfl
  | x :: xs, e => by
    simp only [okBs, Bool.and_eq_true] at e ⊢
    exact ⟨okB_mono h x e.1, okBs_mono h xs e.2⟩
end
theorem Vv.repr {B n L : Nat} {d : D} (v : Vv B n L d) (hB : B ≤ 10 ^ 70) (hn : n ≤ 30) (hL : L ≤ sizeLine) : reprU [d] = some (.str d.shown) := by
  have a := ok_sh hB d v.ok
  exact if_pos ⟨a.1, a.2, Nat.le_trans v.dp hn, Nat.le_trans (shown_sz d v.ok) (Nat.le_trans v.sz hL)⟩
theorem vv_list {B n L : Nat} {xs : List D} : Vv B (n + 1) L (.list xs) ↔ (∀ x ∈ xs, okB B x = true ∧ x.depth ≤ n) ∧ 3 + szZs xs ≤ L := by
  constructor
  · intro ⟨a, b, c⟩
    simp only [okB, PyData.depth, szZ] at a b c
    exact ⟨fun x hx => ⟨okBs_iff.mp a x hx, depthAll_iff.mp (by omega) x hx⟩, c⟩
  · intro ⟨a, c⟩
    have := depthAll_iff.mpr fun x hx => (a x hx).2
    exact ⟨by simp only [okB]; exact okBs_iff.mpr fun x hx => (a x hx).1, by simp only [PyData.depth]; omega, by simp only [szZ]; exact c⟩
theorem vv_tuple {B n L : Nat} {xs : List D} : Vv B (n + 1) L (.tuple xs) ↔ (∀ x ∈ xs, okB B x = true ∧ x.depth ≤ n) ∧ 3 + szZs xs ≤ L := by
  constructor
  · intro ⟨a, b, c⟩
    simp only [okB, PyData.depth, szZ] at a b c
    exact ⟨fun x hx => ⟨okBs_iff.mp a x hx, depthAll_iff.mp (by omega) x hx⟩, c⟩
  · intro ⟨a, c⟩
    have := depthAll_iff.mpr fun x hx => (a x hx).2
    exact ⟨by simp only [okB]; exact okBs_iff.mpr fun x hx => (a x hx).1, by simp only [PyData.depth]; omega, by simp only [szZ]; exact c⟩
end DL

/-! DMm: sorted(set(xs)), xs a list of whole numbers. The walk of set(list) follows the kit's for a tuple (HandS.SetFor). -/
namespace DLS
open PySem PySem.Spec PyProof.Rows L2
section
variable {P : Program} {w : World} {A : Around} {E : Value → Shared → Prop} {s : Shared}
theorem set_listI {l : Addr} {items : Array Value} (ns : List Int) {Q : Value → Shared → Prop} (hh : A.handled = none) (hl : s.heap.IsList l items) (hit : IntsAre items.toList ns) (hb : ns.length + 1 < scanBound)
    (h : ∀ (h' : Heap) (tk c : Nat), SetR w h' s.heap.objs.size (fun j => decide (j ∈ ns)) c → c ≤ ns.length → (∀ b o, s.heap.get? b = some o → h'.get? b = some o) → Q (.ref s.heap.objs.size) { s with heap := h', toks := tk }) :
    wpAny (model P w) A (call (.type "set") [.ref l]) Q E s := by
  have hisz : items.size = ns.length := by
    have q := IntsAre.length hit
    rw [Array.length_toList] at q
    exact q
  obtain ⟨c, tl, hmro⟩ := F.called_set.mro
  have hmade := F.called_set.made
  have hsub := F.called_set.sub
  refine wpAny_call (codeAny_of_tree ?_)
  show wpAny _ _ (callAny (.type "set") _) _ _ _
  refine wpAny_pure ⟨Code.quiet_builtin _ (by decide +kernel), codeAny_builtin F.entry_type_call ?_⟩
  rw [Around.under_plain (weight_type_call_type "set" [.ref l] []) rfl]
  have h1 := F.called_set.notType
  have h2 := F.called_set.canCreate
  have hct := F.typeCall_set_1 (.ref l)
  repeat (any_goals (first | assumption | wp_step))

  refine codeAny_mono (code_set_led1 (.ref l) (E := E) (Q₁ := fun obj s₁ => obj = .ref s.heap.objs.size ∧ s₁ = { s with heap := s.heap.push { cls := .type "set", dict := none, data := .set #[] 0 (.fresh 0 0 (!w.params.followText "set-order")) } }) ⟨rfl, rfl⟩) fun r s₁ hr => ?_
  cases r with
  | error e => exact hr
  | ok fl =>
    cases fl with
    | ret obj =>
      obtain ⟨rfl, rfl⟩ := hr
      have hS : (s.heap.push { cls := .type "set", dict := none, data := .set #[] 0 (.fresh 0 0 (!w.params.followText "set-order")) }).get? s.heap.objs.size = some { cls := .type "set", dict := none, data := .set #[] 0 (.fresh 0 0 (!w.params.followText "set-order")) } := Heap.get?_push_size _ rfl
      have hT : Shared.TypeIs { s with heap := s.heap.push { cls := .type "set", dict := none, data := .set #[] 0 (.fresh 0 0 (!w.params.followText "set-order")) } } (.ref s.heap.objs.size) "set" := ⟨_, hS, rfl⟩
      have hli := F.called_set.init.lookup
      have hbi := F.called_set.init.bind (.ref s.heap.objs.size)
      repeat (any_goals (first | assumption | wp_step))

      refine codeAny_mono (codeAny_call_builtin (R := wants (fun r s₂ => r = .none ∧ ∃ h' tk c, s₂ = { s with heap := h', toks := tk } ∧ SetR w h' s.heap.objs.size (fun j => decide (j ∈ ns)) c ∧ c ≤ ns.length ∧
          (∀ b o, s.heap.get? b = some o → h'.get? b = some o)) E) F.called_set.init.plain F.entry_set_init (check_set_init_1 hT ?_)) fun r₂ s₂ hr₂ => ?_
      · obtain ⟨ol, hol, hcl, nl, hdl⟩ := hl
        obtain ⟨ocls, odict, odata, oslots⟩ := ol
        simp only at hcl hdl
        subst hcl; subst hdl
        have hol' : (s.heap.push { cls := .type "set", dict := none, data := .set #[] 0 (.fresh 0 0 (!w.params.followText "set-order")) }).get? l = some { cls := .type "list", dict := odict, data := .seq items nl, slots := oslots } := Heap.get?_push_of_some _ hol
        have hsls := F.sub_list_set
        have hslf := F.sub_list_frozenset
        have hne : (Value.type "list" == Value.type "dict") = false := by decide
        have hl1 : (s.heap.push { cls := .type "set", dict := none, data := .set #[] 0 (.fresh 0 0 (!w.params.followText "set-order")) }).IsList l items := ⟨_, hol', rfl, nl, rfl⟩
        unfold Builtin.«set.__init__» noKeywords Builtin.Frozenset.updateFrom
        generalize hPI : pyIter = PI
        wp_walk
        subst hPI

        refine wpAny_pyIter_list hl1 ?_
        refine wpAny_bind (wpAny_runValue ?_)
        have hlS : l < s.heap.objs.size := Heap.lt_size hol
        have hh3 : A.in1.in1.in1.handled = none := by simp [hh]
        have hz1 : (s.heap.push { cls := .type "set", dict := none, data := .set #[] 0 (.fresh 0 0 (!w.params.followText "set-order")) }).objs.size = s.heap.objs.size + 1 := Heap.size_push ..
        have hneI : l ≠ (s.heap.push { cls := .type "set", dict := none, data := .set #[] 0 (.fresh 0 0 (!w.params.followText "set-order")) }).objs.size := by
          rw [Heap.size_push]; exact Nat.ne_of_lt (Nat.lt_succ_of_lt hlS)
        have hSf : s.heap.objs.size ∉ [(s.heap.push { cls := .type "set", dict := none, data := .set #[] 0 (.fresh 0 0 (!w.params.followText "set-order")) }).objs.size, l] := by
          rw [Heap.size_push]; simp only [List.mem_cons, List.mem_singleton, List.not_mem_nil, or_false, not_or]
          exact ⟨Nat.ne_of_lt (Nat.lt_succ_self _), Nat.ne_of_gt hlS⟩
        have hval : ∀ (i : Nat) (v : Value), items[i]? = some v → ∃ k t, ns[i]? = some k ∧ v = .int k t := fun i v hv => by
          have hi : i < ns.length := by rw [← hisz]; exact (Array.getElem?_eq_some_iff.mp hv).1
          obtain ⟨t, e⟩ := PyProof.Rows.IntsAre.int_at hit i v (by rw [Array.getElem?_toList]; exact hv)
          refine ⟨ns[i], t, List.getElem?_eq_getElem hi, ?_⟩
          rw [e, List.getD_eq_getElem?_getD, List.getElem?_eq_getElem hi] <;> rfl
        refine set_update_ints ((Walks.list hh3 _ l hneI items).toS) s.heap.objs.size
          hSf ns hisz hb hval (items.size - 0) 0 _ (by omega) (Nat.zero_le _)
          ⟨⟨_, Heap.get?_push_size _ rfl, rfl, rfl⟩, (hl1.push _)⟩ ?hS0 ?hR
        case hS0 =>
          have hget : ((s.heap.push { cls := .type "set", dict := none, data := .set #[] 0 (.fresh 0 0 (!w.params.followText "set-order")) }).push { cls := .type "list_iterator", data := .fields #[.ref l, .int 0 0] }).get? s.heap.objs.size
              = some { cls := .type "set", dict := none, data := .set #[] 0 (.fresh 0 0 (!w.params.followText "set-order")) } := Heap.get?_push_of_some _ hS
          exact ⟨0, Nat.le_refl 0, setR_new_at hget⟩
        case hR =>
          intro s' c' hm hc' hS'
          obtain ⟨h', g2, d', tk', os'⟩ := s'
          have eg : g2 = s.gens := hm.gens
          have ed : d' = s.drawn := hm.drawn
          have eo : os' = s.os := hm.os
          subst eg; subst ed; subst eo
          show wpAny _ _ _ _ _ _
          refine wpAny_pure ?_
          show wpAny _ _ (ret Value.none) _ _ _
          rw [hisz] at hc'
          refine wpAny_pure ⟨rfl, h', tk', c', rfl, hS', hc', fun b o e => ?_⟩
          have hb0 : b < s.heap.objs.size := Heap.lt_size e
          have hb1 : b ≠ s.heap.objs.size := Nat.ne_of_lt hb0
          have hb2 : b ≠ (s.heap.push { cls := .type "set", dict := none, data := .set #[] 0 (.fresh 0 0 (!w.params.followText "set-order")) }).objs.size := by
            rw [Heap.size_push]; exact Nat.ne_of_lt (Nat.lt_succ_of_lt hb0)
          exact hm.heap b o (by simp only [List.mem_cons, List.mem_singleton, List.not_mem_nil, or_false, not_or]; exact ⟨hb1, hb2⟩) (Heap.get?_push_of_some _ (Heap.get?_push_of_some _ e))

      · cases r₂ with
        | error e => exact hr₂
        | ok fl₂ =>
          cases fl₂ with
          | ret r =>
            obtain ⟨rfl, h', tk, c', rfl, hS', hc', hk'⟩ := hr₂
            repeat (any_goals (first | assumption | wp_step))
            exact h _ _ _ hS' hc' hk'
          | _ => exact hr₂.elim
    | _ => exact hr.elim

end
end DLS

/-! DMn: sorted(set(xs)) as a rule and over data. -/
namespace DL
open PySem PySem.Spec PyProof.Rows L2
def insU (k : Int) : List Int → List Int
  | [] => [k]
  | x :: xs => if k < x then k :: x :: xs else if k = x then x :: xs else x :: insU k xs
def srtU (ns : List Int) : List Int := ns.foldr insU []
theorem mem_insU {k j : Int} : ∀ {xs : List Int}, j ∈ insU k xs ↔ j = k ∨ j ∈ xs
  | [] => by simp [insU]
  | x :: xs => by
    have ih := mem_insU (k := k) (j := j) (xs := xs)
    unfold insU
    split
    · simp
    · split
      · rename_i h; subst h; simp
      · simp only [List.mem_cons, ih]
        constructor
        · rintro (h | h | h)
          · exact .inr (.inl h)
          · exact .inl h
          · exact .inr (.inr h)
        · rintro (h | h | h)
          · exact .inr (.inl h)
          · exact .inl h
          · exact .inr (.inr h)
theorem asc_insU {k : Int} : ∀ {xs : List Int}, xs.Pairwise (· < ·) → (insU k xs).Pairwise (· < ·)
  | [], _ => by simp [insU]
  | x :: xs, h => by
    obtain ⟨h1, h2⟩ := List.pairwise_cons.mp h
    unfold insU
    split
    · rename_i hk
      refine List.pairwise_cons.mpr ⟨fun y hy => ?_, h⟩
      rcases List.mem_cons.mp hy with e | hy
      · rw [e]; exact hk
      · exact Int.lt_trans hk (h1 y hy)
    · split
      · exact h
      · rename_i h3 h4
        refine List.pairwise_cons.mpr ⟨fun y hy => ?_, asc_insU h2⟩
        rcases mem_insU.mp hy with e | hy
        · rw [e]; omega
        · exact h1 y hy
theorem mem_srtU {j : Int} : ∀ {ns : List Int}, j ∈ srtU ns ↔ j ∈ ns
  | [] => by simp [srtU]
  | n :: ns => by
    show j ∈ insU n (srtU ns) ↔ _
    rw [mem_insU, mem_srtU, List.mem_cons]
theorem asc_srtU : ∀ {ns : List Int}, (srtU ns).Pairwise (· < ·)
  | [] => by simp [srtU]
  | n :: ns => asc_insU (asc_srtU (ns := ns))
/-- there is just one ascending list with these members -/
theorem asc_unique : ∀ {xs ys : List Int}, xs.Pairwise (· < ·) → ys.Pairwise (· < ·) → (∀ k, k ∈ xs ↔ k ∈ ys) → xs = ys
  | [], [], _, _, _ => rfl
  | [], y :: ys, _, _, h => absurd ((h y).mpr List.mem_cons_self) (by simp)
  | x :: xs, [], _, _, h => absurd ((h x).mp List.mem_cons_self) (by simp)
  | x :: xs, y :: ys, hx, hy, h => by
    obtain ⟨x1, x2⟩ := List.pairwise_cons.mp hx
    obtain ⟨y1, y2⟩ := List.pairwise_cons.mp hy
    have e : x = y := by
      rcases List.mem_cons.mp ((h x).mp List.mem_cons_self) with e | e
      · exact e
      · rcases List.mem_cons.mp ((h y).mpr List.mem_cons_self) with e' | e'
        · exact e'.symm
        · have := y1 x e
          have := x1 y e'
          omega
    subst e
    rw [asc_unique x2 y2 fun k => ?_]
    constructor
    · intro hk
      rcases List.mem_cons.mp ((h k).mp (List.mem_cons_of_mem _ hk)) with e | e
      · have := x1 k hk
        omega
      · exact e
    · intro hk
      rcases List.mem_cons.mp ((h k).mpr (List.mem_cons_of_mem _ hk)) with e | e
      · have := y1 k hk
        omega
      · exact e
section
variable {X : Cx} {K : PySem.W.Frag} {te : TE} {a : Expr}
def tSrtSet (K : PySem.W.Frag) (te : TE) : TE := fun σ H Q => te σ H fun x H1 => ∃ l ns, x = .ref l ∧ (SqL K H1 l (ns.map V.int) ∨ SqT K H1 l (ns.map V.int)) ∧ ns.length < 64 ∧ ∀ p, H1 p = none → Q (.ref p) (upd H1 p (.lst ((srtU ns).map V.int)))
theorem pe_srtSet {p p2 q pos : Pos} (hg : Gl X "sorted") (hm : X.mg "sorted" = none) (hg2 : Gl X "set") (hm2 : X.mg "set" = none) (ha : PE X a te) (hc : X.calm = true := by rfl)
    (hbt : bootBuiltins "sorted" = some (.builtin "sorted") := by decide +kernel) (na : starEach [a] X.env = (false, eval a X.env) :: starEach [] X.env := by rfl) : PE X (.Call (.Name "sorted" p) [.Call (.Name "set" p2) [a] [] q] [] pos) (tSrtSet X.K te) := by
  refine ⟨fun pins s σ H Q I h => ?_⟩
  refine Call_ (ld_blt I hg hm hbt ?_)
  refine PyProof.Rows.callWith_builtin1 (PyProof.Rows.args_cons ?_ rfl) rfl rfl
  refine Call_ (ld_blt I hg2 hm2 boot_set ?_)
  refine PyProof.Rows.callWith_type1 (PyProof.Rows.args_cons (thn (ha.run pins s σ H _ I h) fun v s1 ⟨x, H1, I1, r1, q1⟩ => PyProof.Rows.args_nil ?_) na) na rfl
  obtain ⟨l, ns, rfl, hq, hl, q1⟩ := q1
  cases r1
  have st : ∀ {Q' : Value → Shared → Prop}, (∀ (h' : Heap) (tk c : Nat), SetR X.w h' s1.heap.objs.size (fun j => decide (j ∈ ns)) c → c ≤ ns.length → (∀ b o, s1.heap.get? b = some o → h'.get? b = some o) → Q' (.ref s1.heap.objs.size) { s1 with heap := h', toks := tk }) → wpAny (model X.prog X.w) X.A (call (.type "set") [.ref l]) Q' X.xe s1 := fun {Q'} hq' => by
    rcases hq with hq | hq
    · obtain ⟨its, r, pl, hz⟩ := I1.list hq
      exact DLS.set_listI ns (I1.ok.hd hc) pl.isList (by simpa using RZ.intsAre_vals r) (by unfold scanBound; omega) hq'
    · obtain ⟨its, r, pl, hz⟩ := I1.tuple hq
      exact call_set_tupI ns (I1.ok.hd hc) pl (by simpa using RZ.intsAre_vals r) (by unfold scanBound; omega) hq'
  refine st fun h' tk c hS hcn hk => ?_
  refine PyProof.Rows.args_nil ?_
  have I2 : L2.Inv X pins σ H1 { s1 with heap := h', toks := tk } := I1.kept hk
  refine sorted_set hS (I1.ok.hd hc) (by omega) fun s' p out c' ms k g o hp hg' hi hs hm' hl' => ?_
  have em : ms = srtU ns := asc_unique hs asc_srtU fun j => by rw [hm' j, mem_srtU]; simp
  subst em
  have hlen : ((srtU ns).map V.int).length ≤ sizeLine := by rw [List.length_map, hl', sizeLine_eq]; omega
  have hn : H1 p = none := I2.hok.fresh hp
  generalize hs2 : ({ s1 with heap := h', toks := tk } : Shared) = s2 at *
  have J : L2.Inv X pins σ (upd H1 p (.lst ((srtU ns).map V.int))) { s2 with heap := s'.heap, gens := s'.gens, drawn := s'.drawn, toks := s'.toks } :=
    I2.call (ch := []) (Un.laid k hp hn) (I2.hok.laid k hp ⟨hlen, out.toList, c', vals_of_ints hi, hg'⟩) (by rw [g]; exact I2.bare) (fun _ z => nomatch z)
  have e : s' = { s2 with heap := s'.heap, gens := s'.gens, drawn := s'.drawn, toks := s'.toks } := by
    cases s'
    cases s2
    cases o
    rfl
  rw [e]
  exact ⟨.ref p, _, J, rfl, q1 p hn⟩
/-- sorted(set(xs)) -/
def eSrtSet (g : GE) (ρ : Rho) : R (List D) := (g ρ).bind fun d ρ1 => match d with
  | .list ds => (match intsOf ds with
    | some ns => if ns.length < 64 then .ok ((srtU ns).map .int) ρ1 else .bad
    | none => .bad)
  | .tuple ds => (match intsOf ds with
    | some ns => if ns.length < 64 then .ok ((srtU ns).map .int) ρ1 else .bad
    | none => .bad)
  | _ => .bad
theorem df_srtSet {g : GE} (h : DE K te g) : DF K (tSrtSet K te) (eSrtSet g) := fun b0 B Z0 Z H σ ρ ds ρ' Q ok e q => by
  obtain ⟨d, ρ1, e1, e⟩ := R.bind_ok e
  split at e
  · split at e
    · rename_i ds' ns hn
      split at e
      · rename_i hl
        cases e
        refine h b0 B Z0 Z H σ ρ _ _ _ ok e1 fun v H1 Z1 ok1 s1 r1 => ?_
        rw [intsOf_eq hn] at r1
        cases r1 with
        | lst hs ra =>
          rw [RpA.of_ints ra] at hs
          refine ⟨_, ns, rfl, .inl (.inl (.inl (ok1.zh _ _ hs))), hl, fun p hp => ?_⟩
          obtain ⟨okf, zf, bf, af⟩ := ok1.fresh (o := .lst _) hp
          exact q p _ _ Z1 okf s1 zf bf af upd_same (RpA.ints _)
      · cases e
    · cases e
  · split at e
    · rename_i ds' ns hn
      split at e
      · rename_i hl
        cases e
        refine h b0 B Z0 Z H σ ρ _ _ _ ok e1 fun v H1 Z1 ok1 s1 r1 => ?_
        rw [intsOf_eq hn] at r1
        cases r1 with
        | tup hs ra =>
          rw [RpA.of_ints ra] at hs
          refine ⟨_, ns, rfl, .inr (same_t ok1.zh hs), hl, fun p hp => ?_⟩
          obtain ⟨okf, zf, bf, af⟩ := ok1.fresh (o := .lst _) hp
          exact q p _ _ Z1 okf s1 zf bf af upd_same (RpA.ints _)
      · cases e
    · cases e
  · cases e
end
end DL

/-! DMo: x *= e of ints. -/
namespace DL
open PySem L2
section
variable {X : Cx} {K : PySem.W.Frag}
theorem ip_mulU : PIp X .Mult (rI CMul fun i j => .int (i * j)) := fun pins s σ H x y v u Q I r1 r2 h => iop_mul pins s σ H x y v u Q I r1 r2 h
def iMul : D → D → Option D
  | .int i, .int j => if CMul i j then some (.int (i * j)) else none
  | _, _ => none
theorem sn_ipMul : SnIp K (rI CMul fun i j => .int (i * j)) iMul := fun b0 B Z0 Z H σ ρ x y a b c Q ok ra rb e q => by
  unfold iMul at e
  split at e
  · split at e
    · rename_i hc
      cases e; cases ra; cases rb
      exact ⟨_, _, rfl, rfl, hc, q _ H Z ok (Same.refl Z) (.int _)⟩
    · cases e
  · cases e
end
end DL

/-! DMp: a, b = a new list of two. -/
namespace DL
open PySem L2
section
variable {K : PySem.W.Frag} {ws : List Nat}
def gL (n : Nat) (g : List D → Rho → Option Rho) (d : D) (ρ : Rho) : Option Rho := match d with
  | .list ds => if ds.length = n then g ds ρ else none
  | _ => none
theorem dg_lst {n : Nat} {u : TGs} {g : List D → Rho → Option Rho} (h : DGs K ws u g) : DG K ws (gLst K n u) (gL n g) := fun b0 B Z0 Z H σ ρ v d ρ' Q ok r e q => by
  unfold gL at e
  split at e
  · split at e
    · cases r with
      | lst hs ra => exact ⟨_, _, rfl, .inl (.inl (ok.zh _ _ hs)), by rw [ra.length]; assumption, h b0 B Z0 Z H σ ρ _ _ ρ' Q ok ra e q⟩
    · cases e
  · cases e
end
end DL

/-! DMq: xs.count(True) of bools. -/
namespace DL
open PySem PySem.Spec PyProof.Rows L2
def eqb (k : Bool) (v : Value) : Bool := match v with
  | .bool n => n == k
  | _ => false
section
variable {X : Cx} {K : PySem.W.Frag} {te ta : TE}
theorem eqb_count {k : Bool} : ∀ {us : List Value} {ns : List Bool}, us = ns.map Value.bool → us.countP (eqb k) = ns.count k
  | _, [], rfl => rfl
  | _, n :: ns, rfl => by
    have ih := eqb_count (k := k) (ns := ns) rfl
    rw [List.map_cons, List.countP_cons, List.count_cons, ih] <;> rfl
theorem bools_vals : ∀ {us : List Value} {ns : List Bool}, Vals (ns.map V.bl) us → us = ns.map Value.bool
  | _, [], .nil => rfl
  | _, n :: ns, .cons r t => by
    cases r
    rw [List.map_cons, ← bools_vals t]
def rCntB (K : PySem.W.Frag) : V → List V → Hp → VK → Prop := fun x xs H Q => ∃ (p : Addr) (ns : List Bool) (k : Bool), x = .ref p ∧ xs = [.bl k] ∧ SqL K H p (ns.map V.bl) ∧ Q (.int (ns.count k : Nat)) H
theorem mt_lcountB : MtR X "list.count" (rCntB X.K) := by
  intro pins s σ H x xs v us Q I rx rxs h
  obtain ⟨p, ns, k, rfl, rfl, hs, q⟩ := h
  cases rx
  obtain ⟨u, rfl, ru⟩ := rxs.one
  cases ru
  obtain ⟨its, rv, ⟨⟨cls, dd, data, sl⟩, n, ho, hc, hdn, hd⟩, hlen⟩ := I.list hs
  simp only at hc hd
  subst hc hd
  have hi := bools_vals rv
  refine call_meets PySem.F.slot_list_count ⟨_, ho, rfl⟩ PySem.F.entry_list_count (PySem.F.args_list_count_2 _ _)
    (SeqAt.list_countAt p its.toArray n dd sl (.bool k) (eqb k)) ⟨ho, fun y hy => ?_, ?_⟩
  · have hy : y ∈ its := by simpa using hy
    rw [hi] at hy
    obtain ⟨b, _, rfl⟩ := List.mem_map.mp hy
    exact PySem.SeqAt.EqAt.bool_bool b k
  · have ec : its.toArray.toList.countP (eqb k) = ns.count k := eqb_count hi
    refine ⟨.int (ns.count k : Nat), H, I.tok _, ⟨s.toks, ?_⟩, q⟩
    show Value.int ((its.toArray.toList.countP (eqb k) : Nat) : Int) s.toks = Value.int ((ns.count k : Nat) : Int) s.toks
    rw [ec]
/-- x.count(b) of a list of bools -/
def cntB : D → D → Option D
  | .list ds, .bool k => (boolsOf ds).map fun bs => .int (bs.count k : Nat)
  | _, _ => none
def eCntB (a b : GE) (ρ : Rho) : R D := (a ρ).bind fun x ρ1 => (b ρ1).bind fun y ρ2 => R.lift (cntB x y) ρ2
theorem de_cntB {a b : GE} (ha : DE K ta a) (hb : DE K te b) : DE K (tBM K "list" (rCntB K) ta (tCons te tNil)) (eCntB a b) := fun b0 B Z0 Z H σ ρ d ρ' Q ok e q => by
  obtain ⟨x, ρ1, e1, e⟩ := R.bind_ok e
  obtain ⟨y, ρ2, e2, e⟩ := R.bind_ok e
  obtain ⟨e3, rfl⟩ := R.lift_ok e
  unfold cntB at e3
  split at e3
  · obtain ⟨bs, e4, rfl⟩ := Option.map_eq_some_iff.mp e3
    refine ha b0 B Z0 Z H σ ρ _ _ _ ok e1 fun v H1 Z1 ok1 s1 r1 => ?_
    cases boolsOf_eq e4
    cases r1 with
    | lst hs ra =>
      refine ⟨.inl ⟨rfl, _, .inl (.inl (ok1.zh _ _ hs))⟩, ?_⟩
      refine hb b0 B Z0 Z1 H1 σ ρ1 _ _ _ ok1 e2 fun w H2 Z2 ok2 s2 r2 => ?_
      cases r2
      cases ra.of_bools
      exact ⟨_, bs, _, rfl, rfl, .inl (.inl (ok2.zh _ _ (s2 _ _ hs))), q _ H2 Z2 ok2 (s1.trans s2) (.int _)⟩
  · cases e3
end
end DL

/-! DMr: h = [..]; if not same(h, due): return False; a, b = ..; the tail. -/
namespace DL
open PySem L2
section
variable {K : PySem.W.Frag} {Wx : WX} {ta tb te td : TE} {tt tu : TT} {tas : TA} {t u rest tail : TS} {b0 : Option Addr} {B Bf Z0 Z H : Hp} {σ : L2.St} {ρ : Rho} {p : Addr} {o o' : HO}
def sHeardTA (h : Nat) (gn : Rho → R (List Nw)) (Fs : List D → Option D) (gd : GE) (i j : Nat) (ga gb : GE) (js : List Nat) (m : Rho → Option Rho) (rest : GS) (ρ : Rho) : O := (gn ρ).to fun ns ρ1 => if ns.length ≤ sizeLine ∧ h < ρ1.length ∧ js.length ≤ sizeLine then (gd (ρ1.set h .no)).to fun due ρ2 => match Fs [.list (ns.map Nw.dat), due] with
    | some (.bool true) => if js.all (fun j => isF js.length ns[j]?) then (match ga (ρ2.set h .no) with
      | .ok d ρa => (match gb ρa with
        | .ok e ρb => (match m ((ρb.set i (.sh d)).set j (.sh e)) with | some ρ3 => rest ρ3 | none => .bad)
        | _ => .bad)
      | _ => .bad) else .bad
    | some (.bool false) => .rt (.bool false) (ρ2.set h .no)
    | _ => .bad
  else .bad
theorem ds_heardTA {h i j : Nat} {ga gb : GE} {gn : Rho → R (List Nw)} {Fs : List D → Option D} {gd : GE} {js : List Nat} {m : Rho → Option Rho} {k : GS} {E0 : XK} (hn : DNL K tas gn) (hd : DE K td gd) (hA : DE K ta ga) (hG : DE K tb gb) (hi : i ≠ h) (hj : j ≠ h) (ht : HTail K h js m tail rest) (hr : DS K Wx rest k) :
    DS K Wx (tSeq (tAsg (tLst tas) (gName h)) (tSeq (tIfS (tNot (tB (tCall (spP K 2 Fs) [] E0 (tCons (tVar h) (tCons td tNil))))) (tRet (tC (.bl false))) tNext) (tSeq (tPar i j (tCons ta (tCons tb tNil))) tail))) (sHeardTA h gn Fs gd i j ga gb js m k) := fun b0 B Z0 Z H σ ρ E ok s => by
  unfold sHeardTA at s
  obtain ⟨ns, ρ1, e1, s⟩ := Sat.to s
  refine hn b0 B B Z0 Z H σ ρ ns ρ1 _ (Same.refl B) ok e1 fun vs H1 Z1 Bf1 sb1 ok1 s1 nw => ?_
  split at s
  · rename_i hsz
    obtain ⟨hsz, hh, hlj⟩ := hsz
    refine ⟨by rw [nw.len]; exact hsz, fun a hp => ?_⟩
    obtain ⟨okf, zf, bf, af⟩ := ok1.fresh (o := .lst vs) hp
    have sn : Same Bf1 (upd Bf1 a (.lst vs)) := fun c y ec => by rw [upd_ne (ne_of_none ec bf)]; exact ec
    have ok2 := (okf.frame zf af upd_same).putAny (i := h) (x := some (.ref a))
    have hσ : (σ.set h (some (.ref a)))[h]? = some (some (.ref a)) := List.getElem?_set_self (by rw [ok1.len]; exact hh)
    obtain ⟨due, ρ2, e2, s⟩ := Sat.to s
    refine ⟨.ref a, hσ, ?_⟩
    refine hd b0 _ Z0 Z1 _ _ _ due ρ2 _ ok2 e2 fun vd H3 Z3 ok3 s3 r3 => ?_
    have nw3 := nw.mono s3 sn
    have ha3 : H3 a = some (.lst vs) := ok3.bh _ _ upd_same
    have rpA : RpA K H3 [.ref a, vd] [.list (ns.map Nw.dat), due] := .cons (.lst ha3 (nw3.rp ok3.zh ok3.bh)) (.cons (r3.mono ok3.zh) .nil)
    have fin : ∀ (b : Bool), Fs [.list (ns.map Nw.dat), due] = some (.bool b) → (∀ H4, Same H3 H4 → (tIfS (fun _ H Q => Q (!b) H) (tRet (tC (.bl false))) tNext) { E with nx := tSeq (tPar i j (tCons ta (tCons tb tNil))) tail E } (σ.set h (some (.ref a))) H4) →
        spP K 2 Fs [.ref a, vd] H3 (fun y H1 => ∃ c, y = V.bl c ∧ (if (!c) = true then tRet (tC (.bl false)) { E with nx := tSeq (tPar i j (tCons ta (tCons tb tNil))) tail E } (σ.set h (some (.ref a))) H1 else tNext { E with nx := tSeq (tPar i j (tCons ta (tCons tb tNil))) tail E } (σ.set h (some (.ref a))) H1)) E0 := by
      intro b eb hc
      refine ⟨rfl, H3, _, _, Same.refl H3, rpA, eb, fun v H' Z' hs g r => ?_⟩
      cases r
      exact ⟨b, rfl, hc H' hs⟩
    split at s
    · rename_i eF
      split at s
      · rename_i hjs
        split at s
        · rename_i da ρa eA
          split at s
          · rename_i db ρb eG
            split at s
            · rename_i ρ3 em
              refine fin true eF fun H4 hs => ?_
              have ok5 := (ok3.later hs).forget (i := h)
              refine hA b0 _ Z0 Z3 H4 _ _ da ρa _ ok5 eA fun va H5 Z5 ok6 s6 r6 => ?_
              refine hG b0 _ Z0 Z5 H5 _ ρa db ρb _ ok6 eG fun vb H6 Z6 ok7 s7 r7 => ⟨va, vb, rfl, ?_⟩
              have ok8 := (ok7.put (i := i) (r6.mono s7)).put (i := j) r7
              have hσ6 : (((σ.set h (some (.ref a))).set i (some va)).set j (some vb))[h]? = some (some (.ref a)) := by
                rw [List.getElem?_set_ne hj, List.getElem?_set_ne hi]; exact hσ
              refine ht b0 B _ Z0 Z6 H6 _ _ ρ3 E a vs hσ6 em (fun Bf' H' σ' sb' ok' => hr b0 B Z0 Z6 H' _ _ E (ok'.shrink sb') s) (sb1.trans sn) ok8 upd_same hlj fun j hj => ?_
              have hf := List.all_eq_true.mp hjs j hj
              unfold isF at hf
              split at hf
              · rename_i ds ej
                obtain ⟨q, ws, f1, f2, f3, f4, f5⟩ := nw.get ej
                have nq : q ≠ a := ne_of_none f2 bf
                exact ⟨q, ws, f1, nq, by rw [upd_ne nq]; exact f2, f3, f4, by rw [f5]; exact of_decide_eq_true hf⟩
              · cases hf
            · exact s.elim
          · exact s.elim
        · exact s.elim
      · exact s.elim
    · rename_i eF
      refine fin false eF fun H4 hs => ?_
      exact s (.bl false) _ H4 Z3 ((ok3.later hs).forget.shrink (sb1.trans sn)) (.bl false)
    · exact s.elim
  · exact s.elim
end
theorem heardTA_ok {h i j : Nat} {gn : Rho → R (List Nw)} {Fs : List D → Option D} {gd ga gb : GE} {js : List Nat} {m : Rho → Option Rho} {rest : GS} {ρ ρ1 ρ2 ρ3 ρa ρb : Rho} {ns : List Nw} {due da db : D} {o : O} (h1 : gn ρ = .ok ns ρ1) (h2 : ns.length ≤ sizeLine) (h3 : h < ρ1.length) (h4 : js.length ≤ sizeLine) (h5 : gd (ρ1.set h .no) = .ok due ρ2)
    (h6 : Fs [.list (ns.map Nw.dat), due] = some (.bool true)) (h7 : ∀ j ∈ js, ∃ T, ns[j]? = some (.f T) ∧ T.length + js.length ≤ sizeLine) (ha : ga (ρ2.set h .no) = .ok da ρa) (hk : gb ρa = .ok db ρb) (h8 : m ((ρb.set i (.sh da)).set j (.sh db)) = some ρ3) (h9 : rest ρ3 = o) : sHeardTA h gn Fs gd i j ga gb js m rest ρ = o := by
  have h7 : js.all (fun j => isF js.length ns[j]?) = true := List.all_eq_true.mpr fun j hj => by
    obtain ⟨T, e, z⟩ := h7 j hj
    rw [e]
    exact decide_eq_true z
  unfold sHeardTA
  rw [h1]
  show (if ns.length ≤ sizeLine ∧ h < ρ1.length ∧ js.length ≤ sizeLine then (gd (ρ1.set h .no)).to _ else .bad) = _
  rw [if_pos ⟨h2, h3, h4⟩, h5]
  show (match Fs [.list (ns.map Nw.dat), due] with
    | some (.bool true) => if js.all (fun j => isF js.length ns[j]?) then (match ga (ρ2.set h .no) with | .ok d ρa => (match gb ρa with | .ok e ρb => (match m ((ρb.set i (.sh d)).set j (.sh e)) with | some ρ3 => rest ρ3 | none => .bad) | _ => .bad) | _ => .bad) else .bad
    | some (.bool false) => .rt (.bool false) (ρ2.set h .no)
    | _ => .bad) = _
  rw [h6]
  show (if js.all (fun j => isF js.length ns[j]?) = true then (match ga (ρ2.set h .no) with | .ok d ρa => (match gb ρa with | .ok e ρb => (match m ((ρb.set i (.sh d)).set j (.sh e)) with | some ρ3 => rest ρ3 | none => .bad) | _ => .bad) | _ => .bad) else .bad) = _
  rw [if_pos h7, ha]
  show (match gb ρa with | .ok e ρb => (match m ((ρb.set i (.sh da)).set j (.sh e)) with | some ρ3 => rest ρ3 | none => .bad) | _ => .bad) = _
  rw [hk]
  show (match m ((ρb.set i (.sh da)).set j (.sh db)) with | some ρ3 => rest ρ3 | none => .bad) = _
  rw [h8]
  exact h9
end DL

/-! DNa: dicts, keys None, ints, tuples of None, ints, bools: the ground. -/
namespace DL
open PySem PySem.Spec PyProof.Rows L2
/-! ### keys by value -/
def xIs : Leaf → Value → Bool
  | .none, .none => true
  | .num i, .int j _ => decide (j = i)
  | _, _ => false
theorem xIs_leaf {k : Leaf} {v : Value} (h : xIs k v = true) : Leaf.isOf k v = true := by
  cases k <;> cases v <;> first | exact h | rfl | cases h
def xKind (prog : Program) (w : World) : KeyKind prog w Leaf where
  is := xIs
  hash := fun k => k.key.hash w
  inj := fun v a b ha hb => (leafKind prog w).inj v a b (xIs_leaf ha) (xIs_leaf hb)
  byValue := fun k v h => (leafKind prog w).byValue k v (xIs_leaf h)
  pyHash := fun hv h => (leafKind prog w).pyHash (xIs_leaf hv) h
  eqBool := fun hu hv h => (leafKind prog w).eqBool (xIs_leaf hu) (xIs_leaf hv) h
  «strs» := fun k x t v h => by cases k <;> cases h
def lfT : V → Option Leaf
  | .non => some .none
  | .int i => some (.num i)
  | _ => none
def lfV : V → Option Leaf
  | .non => some .none
  | .int i => some (.num i)
  | .bl b => some (.num (if b then 1 else 0))
  | _ => none
def lfVs : List V → Option (List Leaf)
  | [] => some []
  | v :: vs => match lfV v, lfVs vs with
    | some l, some ls => some (l :: ls)
    | _, _ => none
theorem lfT_is {x : V} {u : Value} {l : Leaf} (r : RelV x u) (h : lfT x = some l) : xIs l u = true := by
  cases x <;> cases h
  · cases r; rfl
  · obtain ⟨t, rfl⟩ := r; exact decide_eq_true rfl
theorem is_rel {x : V} {u : Value} {l : Leaf} (h : lfT x = some l) (hi : xIs l u = true) : RelV x u := by
  cases x <;> cases h
  · cases u <;> cases hi; rfl
  · rename_i i
    cases u with
    | int j t =>
      have e : j = i := of_decide_eq_true hi
      subst e
      exact ⟨t, rfl⟩
    | _ => cases hi
theorem lfV_is {x : V} {u : Value} {l : Leaf} (r : RelV x u) (h : lfV x = some l) : Leaf.isOf l u = true := by
  cases x <;> cases h
  · cases r; rfl
  · cases r; exact decide_eq_true rfl
  · obtain ⟨t, rfl⟩ := r; exact decide_eq_true rfl
theorem lfT_hash {x : V} {l : Leaf} {w : World} (h : lfT x = some l) : l.key.hash w = hL l := by
  cases x <;> cases h <;> rfl
theorem lfV_hash {x : V} {l : Leaf} {w : World} (h : lfV x = some l) : l.key.hash w = hL l := by
  cases x <;> cases h <;> rfl
section
variable {P : Program} {w : World}
theorem lfVs_are : ∀ {xs : List V} {us : List Value} {ls : List Leaf}, Vals xs us → lfVs xs = some ls → ItemsAre (leafKind P w) ls us
  | [], _, _, .nil, e => by cases e; exact .nil
  | x :: xs, _, ls, .cons h t, e => by
    unfold lfVs at e
    split at e
    · rename_i l ls' e1 e2
      cases e
      exact .cons (lfV_is h e1) (lfVs_are t e2)
    · cases e
theorem lfVs_hash : ∀ {xs : List V} {ls : List Leaf}, lfVs xs = some ls → ls.map (fun l => l.key.hash w) = ls.map hL
  | [], _, e => by cases e; rfl
  | x :: xs, ls, e => by
    unfold lfVs at e
    split at e
    · rename_i l ls' e1 e2
      cases e
      rw [List.map_cons, List.map_cons, lfV_hash e1, lfVs_hash e2]
    · cases e
end
/-- x is the key k -/
def KeyV (K : PySem.W.Frag) (H : Hp) (x : V) (k : KK) : Prop := (∃ l, k = .lf l ∧ lfT x = some l) ∨ ∃ b xs ls, k = .tp ls ∧ x = .ref b ∧ SqT K H b xs ∧ lfVs xs = some ls
def KeysV (K : PySem.W.Frag) (H : Hp) (kvs : List (KK × V × V)) : Prop := ∀ y ∈ kvs, KeyV K H y.2.1 y.1
theorem KeyV.mono {K : PySem.W.Frag} {H H' : Hp} {x : V} {k : KK} (s : ∀ b xs, SqT K H b xs → SqT K H' b xs) (h : KeyV K H x k) : KeyV K H' x k := by
  rcases h with h | ⟨b, xs, ls, h1, h2, h3, h4⟩
  · exact .inl h
  · exact .inr ⟨b, xs, ls, h1, h2, s _ _ h3, h4⟩
/-! ### tables -/
def getK (kvs : List (KK × V × V)) (k : KK) : Option V := (kvs.find? fun z => decide (z.1 = k)).map (·.2.2)
def put3 (kvs : List (KK × V × V)) (k : KK) (y v : V) : List (KK × V × V) := if (getK kvs k).isSome = true then kvs.map (fun z => if z.1 = k then (z.1, z.2.1, v) else z) else kvs ++ [(k, y, v)]
theorem getK_cons_eq {p : KK × V × V} {r : List (KK × V × V)} {k : KK} (e : p.1 = k) : getK (p :: r) k = some p.2.2 := by simp [getK, List.find?_cons, e]
theorem getK_cons_ne {p : KK × V × V} {r : List (KK × V × V)} {k : KK} (e : ¬ p.1 = k) : getK (p :: r) k = getK r k := by simp [getK, List.find?_cons, e]
theorem put3_len (kvs : List (KK × V × V)) (k : KK) (y v : V) : (put3 kvs k y v).length ≤ kvs.length + 1 := by
  unfold put3
  split
  · rw [List.length_map]; omega
  · rw [List.length_append, List.length_singleton]; omega
theorem map_keys (kvs : List (KK × V × V)) (k : KK) (v : V) : (kvs.map (fun z => if z.1 = k then (z.1, z.2.1, v) else z)).map (·.1) = kvs.map (·.1) := by
  rw [List.map_map]
  refine List.map_congr_left fun z _ => ?_
  show (if z.1 = k then (z.1, z.2.1, v) else z).1 = z.1
  split <;> rfl
theorem getK_none {kvs : List (KK × V × V)} {k : KK} : getK kvs k = none ↔ k ∉ kvs.map (·.1) := by
  induction kvs with
  | nil => exact ⟨fun _ h => (nomatch h), fun _ => rfl⟩
  | cons p r ih =>
    by_cases e : p.1 = k
    · rw [getK_cons_eq e]
      have hm : k ∈ (p :: r).map (·.1) := by rw [List.map_cons, e]; exact List.mem_cons_self
      exact ⟨fun h => (nomatch h), fun h => absurd hm h⟩
    · rw [getK_cons_ne e, ih, List.map_cons, List.mem_cons]
      exact ⟨fun h z => z.elim (fun z => e z.symm) h, fun h z => h (.inr z)⟩
/-- the sort of a key fits the sort of the table -/
def SortOk (k : KK) (kvs : List (KK × V × V)) : Prop := ((∃ l, k = .lf l) ∧ ∀ y ∈ kvs, ∃ l, y.1 = .lf l) ∨ ((∃ ls, k = .tp ls) ∧ ∀ y ∈ kvs, ∃ ls, y.1 = .tp ls)
theorem good_put {kvs : List (KK × V × V)} {k : KK} {y v : V} (g : KGood (kvs.map (·.1))) (s : SortOk k kvs) : KGood ((put3 kvs k y v).map (·.1)) := by
  unfold put3
  split
  · rw [map_keys]; exact g
  · rename_i hn
    have hn : k ∉ kvs.map (·.1) := getK_none.mp (by
      cases e : getK kvs k with
      | none => rfl
      | some x => rw [e] at hn; exact absurd rfl hn)
    rw [List.map_append, List.map_singleton]
    refine ⟨List.nodup_append.mpr ⟨g.1, List.pairwise_singleton _ _, fun a ha b hb e => ?_⟩, ?_⟩
    · rw [List.mem_singleton.mp hb] at e
      exact hn (by rw [show k = a from e.symm]; exact ha)
    · rcases s with ⟨s1, s2⟩ | ⟨s1, s2⟩
      · refine .inl fun j hj => ?_
        rcases List.mem_append.mp hj with hj | hj
        · obtain ⟨y, hy, rfl⟩ := List.mem_map.mp hj
          exact s2 y hy
        · rw [List.mem_singleton.mp hj]; exact s1
      · refine .inr fun j hj => ?_
        rcases List.mem_append.mp hj with hj | hj
        · obtain ⟨y, hy, rfl⟩ := List.mem_map.mp hj
          exact s2 y hy
        · rw [List.mem_singleton.mp hj]; exact s1
/-! ### the heap's dict and the table -/
section
variable {P : Program} {w : World} {K : PySem.W.Frag} {H : Hp} {h : Heap}
def RL (y : KK × V × V) (v : Leaf × Value) : Prop := y.1 = .lf v.1 ∧ lfT y.2.1 = some v.1 ∧ RelV y.2.2 v.2
def RT (y : KK × V × V) (x : List Leaf × Addr × Value) : Prop := y.1 = .tp x.1 ∧ y.2.1 = .ref x.2.1 ∧ RelV y.2.2 x.2.2
theorem to_lf : ∀ {kvs : List (KK × V × V)} {es : List DictEntry}, Paired ER kvs es → (∀ y ∈ kvs, ∃ l, y.1 = .lf l ∧ lfT y.2.1 = some l) → ∃ vs, Paired RL kvs vs ∧ Pairs (xKind P w) es vs ∧ ∀ e ∈ es, ∃ k, xIs k e.key = true ∧ e.hash = (xKind P w).hash k
  | _, _, .nil, _ => ⟨[], .nil, .nil, fun e he => nomatch he⟩
  | _, _, .cons (a := y) (b := e) r t, h => by
    obtain ⟨l, h1, h2⟩ := h y List.mem_cons_self
    obtain ⟨vs, p1, p2, p3⟩ := to_lf t fun z hz => h z (List.mem_cons_of_mem _ hz)
    obtain ⟨r1, r2, r3⟩ := r
    have hi := lfT_is r2 h2
    refine ⟨(l, e.val) :: vs, .cons ⟨h1, h2, r3⟩ p1, .cons hi rfl p2, fun e' he => ?_⟩
    rcases List.mem_cons.mp he with rfl | he
    · refine ⟨l, hi, ?_⟩
      rw [r1, h1]
      exact (lfT_hash h2).symm
    · exact p3 e' he
theorem of_lf : ∀ {kvs : List (KK × V × V)} {vs : List (Leaf × Value)} {es : List DictEntry}, Paired RL kvs vs → Pairs (xKind P w) es vs → (∀ e ∈ es, ∃ k, xIs k e.key = true ∧ e.hash = (xKind P w).hash k) → Paired ER kvs es
  | _, _, _, .nil, .nil, _ => .nil
  | _, _, _, .cons r t, .cons (e := e) h1 h2 q, hk => by
    refine .cons ?_ (of_lf t q fun z hz => hk z (List.mem_cons_of_mem _ hz))
    obtain ⟨r1, r2, r3⟩ := r
    obtain ⟨k, k1, k2⟩ := hk e List.mem_cons_self
    have ek := (xKind P w).inj e.key _ _ k1 h1
    refine ⟨?_, is_rel r2 h1, by rw [h2]; exact r3⟩
    rw [k2, ek, r1]
    exact lfT_hash r2
theorem to_tp : ∀ {kvs : List (KK × V × V)} {es : List DictEntry}, Paired ER kvs es → (∀ y ∈ kvs, ∃ ls b, y.1 = .tp ls ∧ y.2.1 = .ref b ∧ (tupleKind (leafKind P w)).is h ls b ∧ (tupleKind (leafKind P w)).hash ls = hK (.tp ls)) →
    ∃ xs, Paired RT kvs xs ∧ es = xs.map (entryOfKey (tupleKind (leafKind P w))) ∧ ∀ x ∈ xs, (tupleKind (leafKind P w)).is h x.1 x.2.1
  | _, _, .nil, _ => ⟨[], .nil, rfl, fun e he => nomatch he⟩
  | _, _, .cons (a := y) (b := e) r t, hh => by
    obtain ⟨ls, b, h1, h2, h3, h4⟩ := hh y List.mem_cons_self
    obtain ⟨xs, p1, p2, p3⟩ := to_tp t fun z hz => hh z (List.mem_cons_of_mem _ hz)
    obtain ⟨r1, r2, r3⟩ := r
    rw [h2] at r2
    refine ⟨(ls, b, e.val) :: xs, .cons ⟨h1, h2, r3⟩ p1, ?_, fun x hx => ?_⟩
    · rw [List.map_cons, ← p2]
      congr 1
      obtain ⟨eh, ek, ev⟩ := e
      show DictEntry.mk eh ek ev = ⟨_, .ref b, ev⟩
      have a1 : eh = hK y.1 := r1
      have a2 : ek = Value.ref b := r2
      rw [a1, a2, h1, h4]
    · rcases List.mem_cons.mp hx with rfl | hx
      · exact h3
      · exact p3 x hx
theorem of_tp : ∀ {kvs : List (KK × V × V)} {xs : List (List Leaf × Addr × Value)}, Paired RT kvs xs → (∀ y ∈ kvs, ∀ ls, y.1 = .tp ls → (tupleKind (leafKind P w)).hash ls = hK (.tp ls)) → Paired ER kvs (xs.map (entryOfKey (tupleKind (leafKind P w))))
  | _, _, .nil, _ => .nil
  | _, _, .cons (a := y) (b := x) r t, hh => by
    rw [List.map_cons]
    obtain ⟨r1, r2, r3⟩ := r
    refine .cons ⟨?_, by rw [r2]; rfl, r3⟩ (of_tp t fun z hz => hh z (List.mem_cons_of_mem _ hz))
    show (tupleKind (leafKind P w)).hash x.1 = hK y.1
    rw [r1]
    exact hh y List.mem_cons_self x.1 r1
theorem get_lf : ∀ {kvs : List (KK × V × V)} {vs : List (Leaf × Value)} (l : Leaf), Paired RL kvs vs → RelO (getK kvs (.lf l)) (valueAt vs l)
  | _, _, l, .nil => True.intro
  | _, _, l, .cons (a := y) (b := v) r t => by
    by_cases e : v.1 = l
    · rw [getK_cons_eq (r.1.trans (by rw [e]))]
      have b : ∀ qs, valueAt (v :: qs) l = some v.2 := fun qs => by simp [valueAt, List.find?_cons, e]
      rw [b]
      exact r.2.2
    · rw [getK_cons_ne (fun z => e (by rw [r.1] at z; injection z))]
      have b : ∀ qs, valueAt (v :: qs) l = valueAt qs l := fun qs => by simp [valueAt, List.find?_cons, e]
      rw [b]
      exact get_lf l t
theorem get_tp : ∀ {kvs : List (KK × V × V)} {xs : List (List Leaf × Addr × Value)} (ls : List Leaf), Paired RT kvs xs → RelO (getK kvs (.tp ls)) ((atKey xs ls).map (·.2))
  | _, _, l, .nil => True.intro
  | _, _, l, .cons (a := y) (b := v) r t => by
    by_cases e : v.1 = l
    · rw [getK_cons_eq (r.1.trans (by rw [e]))]
      have b : ∀ qs, atKey (v :: qs) l = some v.2 := fun qs => by simp [atKey, List.find?_cons, e]
      rw [b]
      exact r.2.2
    · rw [getK_cons_ne (fun z => e (by rw [r.1] at z; injection z))]
      have b : ∀ qs, atKey (v :: qs) l = atKey qs l := fun qs => by simp [atKey, List.find?_cons, e]
      rw [b]
      exact get_tp l t
theorem any_val : ∀ (vs : List (Leaf × Value)) (l : Leaf), (vs.any fun kv => decide (kv.1 = l)) = (valueAt vs l).isSome
  | [], _ => rfl
  | p :: r, l => by
    rw [List.any_cons]
    by_cases e : p.1 = l
    · simp [valueAt, List.find?_cons, e]
    · rw [decide_eq_false e, Bool.false_or, any_val r l]
      simp [valueAt, List.find?_cons, e]
theorem put_lf {kvs : List (KK × V × V)} {vs : List (Leaf × Value)} {l : Leaf} {y v : V} {u : Value} (p : Paired RL kvs vs) (hy : lfT y = some l) (hv : RelV v u) : Paired RL (put3 kvs (.lf l) y v) (stored vs l u) := by
  unfold put3 stored
  rw [any_val, (get_lf l p).isSome_eq]
  split
  · rename_i hs
    clear hs
    induction p with
    | nil => exact .nil
    | @cons a b as bs r t ih =>
      rw [List.map_cons, List.map_cons]
      refine .cons ?_ ih
      by_cases e : b.1 = l
      · rw [if_pos (r.1.trans (by rw [e])), if_pos e]
        exact ⟨r.1, r.2.1, hv⟩
      · rw [if_neg (fun z => e (by rw [r.1] at z; injection z)), if_neg e]
        exact r
  · exact Paired.snoc p ⟨rfl, hy, hv⟩
theorem put_tp {kvs : List (KK × V × V)} {xs : List (List Leaf × Addr × Value)} {ls : List Leaf} {b : Addr} {v : V} {u : Value} (p : Paired RT kvs xs) (hv : RelV v u) : Paired RT (put3 kvs (.tp ls) (.ref b) v) (storedH xs ls b u) := by
  unfold put3 storedH
  have q := (get_tp ls p).isSome_eq
  rw [Option.isSome_map] at q
  rw [q]
  split
  · rename_i hs
    clear hs q
    induction p with
    | nil => exact .nil
    | @cons a c as bs r t ih =>
      rw [List.map_cons, List.map_cons]
      refine .cons ?_ ih
      unfold putAt
      by_cases e : c.1 = ls
      · rw [if_pos (r.1.trans (by rw [e])), if_pos e]
        exact ⟨r.1, r.2.1, hv⟩
      · rw [if_neg (fun z => e (by rw [r.1] at z; injection z)), if_neg e]
        exact r
  · exact Paired.snoc p ⟨rfl, rfl, hv⟩
theorem rl_keys : ∀ {kvs : List (KK × V × V)} {vs : List (Leaf × Value)}, Paired RL kvs vs → kvs.map (·.1) = (vs.map (·.1)).map KK.lf
  | _, _, .nil => rfl
  | _, _, .cons r t => by rw [List.map_cons, List.map_cons, List.map_cons, rl_keys t, r.1]
theorem rt_keys : ∀ {kvs : List (KK × V × V)} {vs : List (List Leaf × Addr × Value)}, Paired RT kvs vs → kvs.map (·.1) = (vs.map (·.1)).map KK.tp
  | _, _, .nil => rfl
  | _, _, .cons r t => by rw [List.map_cons, List.map_cons, List.map_cons, rt_keys t, r.1]
theorem nodup_of {α β : Type} {f : α → β} {l : List α} (h : (l.map f).Nodup) : l.Nodup := by
  unfold List.Nodup at *
  rw [List.pairwise_map] at h
  exact h.imp fun hn e => hn (by rw [e])
end
end DL

/-! DNb: d[k], k in d, d[k] = v, {}, {k: v}: by values. -/
namespace DL
open PySem PySem.Spec PyProof.Rows L2
/-- what the dict at a holds at the key y -/
def NGet (K : PySem.W.Frag) (H : Hp) (a : Addr) (y : V) (r : Option V) : Prop := ∃ kvs k, H a = some (dcO a kvs) ∧ KeysV K H kvs ∧ KeyV K H y k ∧ SortOk k kvs ∧ r = getK kvs k
/-- a[y] = v, and the table then -/
def NPut (K : PySem.W.Frag) (H : Hp) (a : Addr) (y v : V) (new : List (KK × V × V)) : Prop := ∃ kvs k, H a = some (dcO a kvs) ∧ KeysV K H kvs ∧ KeyV K H y k ∧ SortOk k kvs ∧ kvs.length < sizeLine ∧ new = put3 kvs k y v
section
variable {X : Cx} {pins : List (Addr × Obj)} {σ : L2.St} {H : Hp} {s : Shared} {a : Addr} {kvs : List (KK × V × V)} {y v : V} {k : KK} {u r : Value} {A : Around} {E : Value → Shared → Prop} {o : Option V}
abbrev tKind (P : Program) (w : World) := tupleKind (leafKind P w)
theorem dc_at {P : Program} {w : World} {h : Heap} (ok : HOk P w H h) (e : H a = some (dcO a kvs)) : (∃ ob es ep, h.get? a = some ob ∧ ob.ExactDict ∧ ob.data = .dict es ep ∧ Paired ER kvs es.toList) ∧ (a == sysModules) = false ∧ kvs.length ≤ sizeLine ∧ KGood (kvs.map (·.1)) :=
  (show ObjOk P w H h a (dcO a kvs) from ok a _ e).1
theorem dc_obj {P : Program} {w : World} {h : Heap} (c : (∃ ob es ep, h.get? a = some ob ∧ ob.ExactDict ∧ ob.data = .dict es ep ∧ Paired ER kvs es.toList) ∧ (a == sysModules) = false ∧ kvs.length ≤ sizeLine ∧ KGood (kvs.map (·.1))) : ObjOk P w H h a (dcO a kvs) := by
  refine ⟨c, ?_, fun h1 h2 c1 st => ?_⟩
  · obtain ⟨⟨ob, _, _, e, _⟩, _⟩ := c
    exact ⟨ob, e⟩
  · obtain ⟨⟨ob, es, ep, e, q⟩, c2⟩ := c1
    exact ⟨⟨ob, es, ep, st _ e, q⟩, c2⟩
theorem tk_is {b : Addr} {xs : List V} {ls : List Leaf} (I : Inv X pins σ H s) (hk : SqT X.K H b xs) (hl : lfVs xs = some ls) : (tKind X.prog X.w).is s.heap ls b := by
  obtain ⟨its, r, ⟨ob, h1, h2, n, h3⟩, _⟩ := I.tuple hk
  exact ⟨ob, its.toArray, n, h1, h2, h3, by simpa using lfVs_are r hl⟩
theorem tk_hash {xs : List V} {ls : List Leaf} {P : Program} {w : World} (hl : lfVs xs = some ls) : (tKind P w).hash ls = hK (.tp ls) := by
  show reduceHash (Builtin.Tuple.tupleHashOf (ls.map fun l => l.key.hash w)) = reduceHash (Builtin.Tuple.tupleHashOf (ls.map hL))
  rw [lfVs_hash hl]
theorem KeyV.lf {K : PySem.W.Frag} {l : Leaf} (h : KeyV K H y (.lf l)) : lfT y = some l := by
  rcases h with ⟨l', e, h⟩ | ⟨b, xs, ls, e, _⟩
  · cases e; exact h
  · cases e
theorem KeyV.tp {K : PySem.W.Frag} {ls : List Leaf} (h : KeyV K H y (.tp ls)) : ∃ b xs, y = .ref b ∧ SqT K H b xs ∧ lfVs xs = some ls := by
  rcases h with ⟨l', e, h⟩ | ⟨b, xs, ls', e, h1, h2, h3⟩
  · cases e
  · cases e; exact ⟨b, xs, h1, h2, h3⟩
theorem dict_lf (I : Inv X pins σ H s) (e : H a = some (dcO a kvs)) (kv : KeysV X.K H kvs) (hs : ∀ z ∈ kvs, ∃ l, z.1 = .lf l) : ∃ vs, Paired RL kvs vs ∧ s.heap.DictOf (xKind X.prog X.w) a vs := by
  obtain ⟨⟨ob, es, ep, h1, h2, h3, h4⟩, _, _, hg⟩ := dc_at I.hok e
  obtain ⟨vs, p1, p2, p3⟩ := to_lf (P := X.prog) (w := X.w) h4 fun z hz => by
    obtain ⟨l, el⟩ := hs z hz
    have := kv z hz
    rw [el] at this
    exact ⟨l, el, this.lf⟩
  refine ⟨vs, p1, ob, es, ep, h1, h2, h3, fun x hx => p3 x (by simpa using hx), p2, ?_⟩
  have n := hg.1
  rw [rl_keys p1] at n
  exact nodup_of n
theorem dict_tp (I : Inv X pins σ H s) (e : H a = some (dcO a kvs)) (kv : KeysV X.K H kvs) (hs : ∀ z ∈ kvs, ∃ ls, z.1 = .tp ls) : ∃ xs, Paired RT kvs xs ∧ s.heap.DictOfH (tKind X.prog X.w) a xs := by
  obtain ⟨⟨ob, es, ep, h1, h2, h3, h4⟩, _, _, hg⟩ := dc_at I.hok e
  obtain ⟨xs, p1, p2, p3⟩ := to_tp (P := X.prog) (w := X.w) (h := s.heap) h4 fun z hz => by
    obtain ⟨ls, el⟩ := hs z hz
    have := kv z hz
    rw [el] at this
    obtain ⟨b, ys, k1, k2, k3⟩ := this.tp
    exact ⟨ls, b, el, k1, tk_is I k2 k3, tk_hash k3⟩
  refine ⟨xs, p1, ob, es, ep, h1, h2, h3, p2, p3, ?_⟩
  have n := hg.1
  rw [rt_keys p1] at n
  exact nodup_of n
theorem dc_type (I : Inv X pins σ H s) (e : H a = some (dcO a kvs)) : s.TypeIs (.ref a) "dict" := by
  obtain ⟨⟨ob, es, ep, h1, h2, _⟩, _⟩ := dc_at I.hok e
  exact ⟨ob, h1, h2.1⟩
theorem n_get {Q : Value → Shared → Prop} (hu : A.units + 1 < cLine) (I : Inv X pins σ H s) (g : NGet X.K H a y (some v)) (ry : RelV y u) (h : ∀ w' s', Inv X pins σ H s' → RelV v w' → Q w' s') : wpAny (model X.prog X.w) A (getItem (.ref a) u) Q E s := by
  obtain ⟨kvs, k, e, kv, ky, so, l⟩ := g
  rcases so with ⟨⟨lf, rfl⟩, so⟩ | ⟨⟨ls, rfl⟩, so⟩
  · obtain ⟨vs, p, dd⟩ := dict_lf I e kv so
    obtain ⟨w', hw, rw'⟩ := RelO.some_of (v := v) (o := valueAt vs lf) (by rw [l]; exact get_lf lf p)
    exact wpAny_getItem_of (lfT_is ry ky.lf) dd.mapOf hw (h w' _ (I.tok _) rw')
  · obtain ⟨xs, p, dd⟩ := dict_tp I e kv so
    obtain ⟨b, ys, rfl, k2, k3⟩ := ky.tp
    cases (show u = Value.ref b from ry)
    obtain ⟨w', hw, rw'⟩ := RelO.some_of (v := v) (o := (atKey xs ls).map (·.2)) (by rw [l]; exact get_tp ls p)
    obtain ⟨q, hq, hq2⟩ := Option.map_eq_some_iff.mp hw
    refine wpAny_getItem_heap (tupleKind_room_in1 hu) (tk_is I k2 k3) dd hq ?_
    rw [hq2]
    exact h w' _ (I.tok _) rw'
theorem n_in {Q : Value → Shared → Prop} (hu : A.units + 1 < cLine) (I : Inv X pins σ H s) (g : NGet X.K H a y o) (ry : RelV y u) (h : ∀ s', Inv X pins σ H s' → Q (.bool o.isSome) s') : wpAny (model X.prog X.w) A (compareOp .In u (.ref a)) Q E s := by
  obtain ⟨kvs, k, e, kv, ky, so, l⟩ := g
  have hd := (dc_at I.hok e).2.1
  rcases so with ⟨⟨lf, rfl⟩, so⟩ | ⟨⟨ls, rfl⟩, so⟩
  · obtain ⟨vs, p, dd⟩ := dict_lf I e kv so
    refine wpAny_in_of (lfT_is ry ky.lf) hd dd.mapOf ?_
    rw [← (get_lf lf p).isSome_eq, ← l]
    exact h _ (I.tok _)
  · obtain ⟨xs, p, dd⟩ := dict_tp I e kv so
    obtain ⟨b, ys, rfl, k2, k3⟩ := ky.tp
    cases (show u = Value.ref b from ry)
    refine wpAny_in_heap (tupleKind_room_in1 hu) (tk_is I k2 k3) hd dd ?_
    have q := (get_tp ls p).isSome_eq
    rw [Option.isSome_map] at q
    rw [← q, ← l]
    exact h _ (I.tok _)
theorem n_notIn {Q : Value → Shared → Prop} (hu : A.units + 1 < cLine) (I : Inv X pins σ H s) (g : NGet X.K H a y o) (ry : RelV y u) (h : ∀ s', Inv X pins σ H s' → Q (.bool (!o.isSome)) s') : wpAny (model X.prog X.w) A (compareOp .NotIn u (.ref a)) Q E s := by
  obtain ⟨kvs, k, e, kv, ky, so, l⟩ := g
  have hd := (dc_at I.hok e).2.1
  rcases so with ⟨⟨lf, rfl⟩, so⟩ | ⟨⟨ls, rfl⟩, so⟩
  · obtain ⟨vs, p, dd⟩ := dict_lf I e kv so
    refine wpAny_notIn_of (lfT_is ry ky.lf) hd dd.mapOf ?_
    rw [← (get_lf lf p).isSome_eq, ← l]
    exact h _ (I.tok _)
  · obtain ⟨xs, p, dd⟩ := dict_tp I e kv so
    obtain ⟨b, ys, rfl, k2, k3⟩ := ky.tp
    cases (show u = Value.ref b from ry)
    refine wpAny_notIn_heap (tupleKind_room_in1 hu) (tk_is I k2 k3) hd dd ?_
    have q := (get_tp ls p).isSome_eq
    rw [Option.isSome_map] at q
    rw [← q, ← l]
    exact h _ (I.tok _)
theorem put3_hash {K : PySem.W.Frag} (kv : KeysV K H kvs) (ky : KeyV K H y k) {P : Program} {w : World} : ∀ z ∈ put3 kvs k y v, ∀ ls, z.1 = .tp ls → (tKind P w).hash ls = hK (.tp ls) := by
  intro z hz ls el
  have go : ∀ {x : V} {j : KK}, KeyV K H x j → j = .tp ls → (tKind P w).hash ls = hK (.tp ls) := fun hx ej => by
    rw [ej] at hx
    obtain ⟨b, xs, _, _, h3⟩ := hx.tp
    exact tk_hash h3
  unfold put3 at hz
  split at hz
  · obtain ⟨z0, h0, rfl⟩ := List.mem_map.mp hz
    refine go (kv z0 h0) ?_
    rw [← el]
    split <;> rfl
  · rcases List.mem_append.mp hz with hz | hz
    · exact go (kv z hz) el
    · rw [List.mem_singleton.mp hz] at el
      exact go ky el
theorem n_set {Q : Unit → Shared → Prop} {new : List (KK × V × V)} (hu : A.units + 1 < cLine) (I : Inv X pins σ H s) (g : NPut X.K H a y v new) (ry : RelV y u) (rv : RelV v r) (h : ∀ s', Inv X pins σ (upd H a (dcO a new)) s' → Q () s') : wpAny (model X.prog X.w) A (setItem (.ref a) u r) Q E s := by
  obtain ⟨kvs, k, e, kv, ky, so, hl, rfl⟩ := g
  obtain ⟨_, hd, hz, hg⟩ := dc_at I.hok e
  have hg2 := good_put (y := y) (v := v) hg so
  have hl2 : (put3 kvs k y v).length ≤ sizeLine := by have := put3_len kvs k y v; omega
  rcases so with ⟨⟨lf, rfl⟩, so⟩ | ⟨⟨ls, rfl⟩, so⟩
  · obtain ⟨vs, p, dd⟩ := dict_lf I e kv so
    refine wpAny_setItem_pairs (hsz := by rw [← Paired.length p]; exact hz) (lfT_is ry ky.lf) dd fun h' dd' hs => h _ ?_
    obtain ⟨ob, es, ep, q1, q2, q3, q4, q5, _⟩ := dd'
    exact d_write I (by rw [e]; exact True.intro) hs ⟨ob, q1⟩ (dc_obj ⟨⟨ob, es, ep, q1, q2, q3, of_lf (put_lf p ky.lf rv) q5 fun x hx => q4 x (by simpa using hx)⟩, hd, hl2, hg2⟩)
  · obtain ⟨xs, p, dd⟩ := dict_tp I e kv so
    obtain ⟨b, ys, rfl, k2, k3⟩ := id ky.tp
    cases (show u = Value.ref b from ry)
    refine wpAny_setItem_heap (hsz := by rw [← Paired.length p]; exact hz) (tupleKind_room_in1 hu) (tk_is I k2 k3) dd fun h' dd' hs => h _ ?_
    obtain ⟨ob, es, ep, q1, q2, q3, q4, _⟩ := dd'
    refine d_write I (by rw [e]; exact True.intro) hs ⟨ob, q1⟩ (dc_obj ⟨⟨ob, es, ep, q1, q2, q3, ?_⟩, hd, hl2, hg2⟩)
    rw [q4]
    exact of_tp (put_tp p rv) (put3_hash kv ky)
theorem n_empty {P : Program} {w : World} (h : Heap) (hb : sysModules < h.objs.size) : ObjOk P w H (h.push { cls := .type "dict", data := .dict #[] }) h.objs.size (dcO h.objs.size []) :=
  dc_obj ⟨⟨_, #[], 0, Heap.get?_push_size _ rfl, ⟨rfl, rfl, rfl⟩, rfl, .nil⟩, beq_eq_false_iff_ne.mpr (Ne.symm (Nat.ne_of_lt hb)), Nat.zero_le _, List.nodup_nil, .inl fun _ hz => nomatch hz⟩
/-! ### readings -/
def rNGet (K : PySem.W.Frag) : R2 := fun x y H Q => ∃ a v, x = .ref a ∧ NGet K H a y (some v) ∧ Q v H
theorem ix_dict {n : Nat} (hr : Room n X.A) : IxR X (rNGet X.K) := by
  intro value slice pins s σ H x y v u Q I rx ry h hs
  obtain ⟨a, z, rfl, g, q⟩ := h
  cases rx
  have hu := hr.un
  obtain ⟨kvs, k, e, g2⟩ := id g
  exact tail_any (dc_type I e) PySem.F.slot_dict_getitem.lookup (n_get (by omega) I g ry fun w' s' I' rw' => ⟨z, H, I', rw', q⟩) hs
def rNIn (K : PySem.W.Frag) : R2 := fun y x H Q => ∃ a o, x = .ref a ∧ NGet K H a y o ∧ Q (.bl o.isSome) H
def rNNotIn (K : PySem.W.Frag) : R2 := fun y x H Q => ∃ a o, x = .ref a ∧ NGet K H a y o ∧ Q (.bl (!o.isSome)) H
theorem op_nIn {n : Nat} (hr : Room n X.A) : OpR X (compareOp .In) (rNIn X.K) := by
  intro pins s σ H y x u v Q I ry rx h
  obtain ⟨a, o, rfl, g, q⟩ := h
  cases rx
  have hu := hr.un
  exact n_in (by omega) I g ry fun s' I' => ⟨.bl o.isSome, H, I', rfl, q⟩
theorem op_nNotIn {n : Nat} (hr : Room n X.A) : OpR X (compareOp .NotIn) (rNNotIn X.K) := by
  intro pins s σ H y x u v Q I ry rx h
  obtain ⟨a, o, rfl, g, q⟩ := h
  cases rx
  have hu := hr.un
  exact n_notIn (by omega) I g ry fun s' I' => ⟨.bl (!o.isSome), H, I', rfl, q⟩
def sNPut (K : PySem.W.Frag) (td ty tv : TE) : TS := fun D σ H => tv σ H fun v H1 => td σ H1 fun x H2 => ty σ H2 fun y H3 => ∃ a new, x = .ref a ∧ NPut K H3 a y v new ∧ D.nx σ (upd H3 a (dcO a new))
theorem ps_nput {n : Nat} {ob i value : Expr} {pos pos' : Pos} {td ty tv : TE} (hr : Room n X.A) (ho : PE X ob td) (hi : PE X i ty) (hv : PE X value tv) (hs : swapsWith value (some (.Subscript ob i pos')) pos.line X.env = pure false := by rfl) : PS X (.Assign [.Subscript ob i pos'] value pos) (sNPut X.K td ty tv) := by
  have hu := hr.un
  refine ⟨fun pins s σ H D I h => ?_⟩
  refine wpAny_Assign_Subscript ?_ hs
  refine thn (hv.run pins s σ H _ I h) fun r s1 ⟨v, H1, I1, rv, q1⟩ => ?_
  refine thn (ho.run pins s1 σ H1 _ I1 q1) fun u s2 ⟨x, H2, I2, rx, q2⟩ => ?_
  refine thn (hi.run pins s2 σ H2 _ I2 q2) fun iv s3 ⟨y, H3, I3, ry, a, new, ex, g, q3⟩ => ?_
  subst ex
  obtain rfl : u = Value.ref a := rx
  exact n_set (by omega) I3 g ry rv fun s4 I4 => ⟨σ, _, I4, q3⟩
def tNNew : TE := fun _ H Q => ∀ p, H p = none → Q (.ref p) (upd H p (dcO p []))
theorem pe_nnew {pos : Pos} : PE X (.Dict [] [] pos) tNNew := ⟨fun pins s σ H Q I h => by
  have I1 := I.laid (a := s.heap.objs.size) (o := dcO s.heap.objs.size []) (t' := s.toks) (h' := s.heap.push { cls := .type "dict", data := .dict #[] }) (fun _ _ q => Heap.get?_push_of_some _ q) (Nat.le_refl _) (n_empty s.heap I.big)
  exact wpAny_Dict_empty ⟨.ref s.heap.objs.size, _, I1, rfl, h _ (I.hok.fresh (Nat.le_refl _))⟩⟩
end
end DL

/-! DNc: d[k], k in d, d[k] = v, {}: by data. -/
namespace DL
open PySem L2
/-! ### tables of data -/
def isLf : D → Bool
  | .none => true
  | .int _ => true
  | _ => false
def isTp : D → Bool
  | .tuple ds => (lfDs ds).isSome
  | _ => false
/-- c may be looked up: it is a key, and all keys are of its sort -/
def sortB (c : D) (kds : List (D × D)) : Bool := (isLf c && kds.all fun p => isLf p.1) || (isTp c && kds.all fun p => isTp p.1)
def dFind (kds : List (D × D)) (c : D) : Option D := (kds.find? fun p => decide (kkD p.1 = kkD c)).map (·.2)
def dPut (kds : List (D × D)) (c d : D) : List (D × D) := if (dFind kds c).isSome = true then kds.map (fun p => if kkD p.1 = kkD c then (p.1, d) else p) else kds ++ [(c, d)]
def dGetD : D → D → Option D
  | .dict ((.dict [], .none) :: kds), c => if sortB c kds = true then dFind kds c else none
  | _, _ => none
def dInD : D → D → Option D
  | c, .dict ((.dict [], .none) :: kds) => if sortB c kds = true then some (.bool (dFind kds c).isSome) else none
  | _, _ => none
def dNotInD : D → D → Option D
  | c, .dict ((.dict [], .none) :: kds) => if sortB c kds = true then some (.bool (!(dFind kds c).isSome)) else none
  | _, _ => none
section
variable {K : PySem.W.Frag} {Wx : WX} {ta tb te : TE} {b0 : Option Addr} {B Z0 Z H : Hp} {σ : L2.St} {ρ : Rho} {p : Addr}
theorem rp_lf {v : V} {d : D} (r : Rp K Z v d) (h : isLf d = true) : ∃ l, kkD d = some (.lf l) ∧ lfT v = some l := by
  cases r with
  | non => exact ⟨_, rfl, rfl⟩
  | int i => exact ⟨_, rfl, rfl⟩
  | _ => cases h
theorem rpA_lf : ∀ {vs : List V} {ds : List D} {ls : List Leaf}, RpA K Z vs ds → lfDs ds = some ls → lfVs vs = some ls
  | _, _, _, .nil, e => by cases e; rfl
  | _, _, _, .cons (v := v) h r, e => by
    unfold lfDs at e
    split at e
    · rename_i l ls' e1 e2
      cases e
      have hv : lfV v = some l := by
        cases h <;> cases e1 <;> rfl
      unfold lfVs
      rw [hv, rpA_lf r e2]
    · cases e
theorem rp_tp {v : V} {d : D} (r : Rp K Z v d) (h : isTp d = true) : ∃ ls b xs, kkD d = some (.tp ls) ∧ v = .ref b ∧ SqT K Z b xs ∧ lfVs xs = some ls := by
  cases r with
  | tup hs ra =>
    rename_i a xs ds
    obtain ⟨ls, e⟩ := Option.isSome_iff_exists.mp (show (lfDs ds).isSome = true from h)
    refine ⟨ls, a, xs, ?_, rfl, hs, rpA_lf ra e⟩
    show (lfDs ds).map KK.tp = _
    rw [e]; rfl
  | _ => cases h
theorem rp_key {v : V} {d : D} {k : KK} (r : Rp K Z v d) (e : kkD d = some k) : KeyV K Z v k := by
  cases r with
  | non => cases e; exact .inl ⟨_, rfl, rfl⟩
  | int i => cases e; exact .inl ⟨_, rfl, rfl⟩
  | tup hs ra =>
    rename_i a xs ds
    obtain ⟨ls, e1, rfl⟩ := Option.map_eq_some_iff.mp (show (lfDs ds).map KK.tp = some k from e)
    exact .inr ⟨a, xs, ls, rfl, rfl, hs, rpA_lf ra e1⟩
  | _ => cases e
theorem rpK_keys : ∀ {kvs : List (KK × V × V)} {kds : List (D × D)}, RpK K Z kvs kds → KeysV K Z kvs
  | _, _, .nil => fun y hy => nomatch hy
  | _, _, .cons h1 h2 h3 r => fun y hy => by
    rcases List.mem_cons.mp hy with rfl | hy
    · exact rp_key h2 h1
    · exact rpK_keys r y hy
theorem rpK_sort {c : D} {k : KK} : ∀ {kvs : List (KK × V × V)} {kds : List (D × D)}, RpK K Z kvs kds → (isLf c = true → (kds.all fun p => isLf p.1) = true → ∀ y ∈ kvs, ∃ l, y.1 = .lf l) ∧ (isTp c = true → (kds.all fun p => isTp p.1) = true → ∀ y ∈ kvs, ∃ ls, y.1 = .tp ls)
  | _, _, .nil => ⟨fun _ _ y hy => (nomatch hy), fun _ _ y hy => nomatch hy⟩
  | _, _, .cons h1 h2 h3 r => by
    obtain ⟨i1, i2⟩ := rpK_sort (c := c) (k := k) r
    refine ⟨fun hc ha y hy => ?_, fun hc ha y hy => ?_⟩
    · rw [List.all_cons, Bool.and_eq_true] at ha
      rcases List.mem_cons.mp hy with rfl | hy
      · obtain ⟨l, e, _⟩ := rp_lf h2 ha.1
        rw [h1] at e
        exact ⟨l, Option.some.inj e⟩
      · exact i1 hc ha.2 y hy
    · rw [List.all_cons, Bool.and_eq_true] at ha
      rcases List.mem_cons.mp hy with rfl | hy
      · obtain ⟨ls, _, _, e, _⟩ := rp_tp h2 ha.1
        rw [h1] at e
        exact ⟨ls, Option.some.inj e⟩
      · exact i2 hc ha.2 y hy
theorem sortB_ok {c : D} {x : V} {kvs : List (KK × V × V)} {kds : List (D × D)} (r : RpK K Z kvs kds) (rc : Rp K Z x c) (h : sortB c kds = true) : ∃ k, kkD c = some k ∧ KeyV K Z x k ∧ SortOk k kvs := by
  unfold sortB at h
  rw [Bool.or_eq_true, Bool.and_eq_true, Bool.and_eq_true] at h
  rcases h with ⟨h1, h2⟩ | ⟨h1, h2⟩
  · obtain ⟨l, e1, e2⟩ := rp_lf rc h1
    exact ⟨_, e1, .inl ⟨l, rfl, e2⟩, .inl ⟨⟨l, rfl⟩, (rpK_sort (k := .lf l) r).1 h1 h2⟩⟩
  · obtain ⟨ls, b, xs, e1, e2, e3, e4⟩ := rp_tp rc h1
    exact ⟨_, e1, .inr ⟨b, xs, ls, rfl, e2, e3, e4⟩, .inr ⟨⟨ls, rfl⟩, (rpK_sort (k := .tp ls) r).2 h1 h2⟩⟩
def OrR (K : PySem.W.Frag) (Z : Hp) : Option V → Option D → Prop
  | some v, some d => Rp K Z v d
  | none, none => True
  | _, _ => False
theorem OrR.isSome {v : Option V} {d : Option D} (h : OrR K Z v d) : v.isSome = d.isSome := by
  cases v <;> cases d <;> first | rfl | exact h.elim
theorem rpK_find {c : D} {k : KK} (ec : kkD c = some k) : ∀ {kvs : List (KK × V × V)} {kds : List (D × D)}, RpK K Z kvs kds → OrR K Z (getK kvs k) (dFind kds c)
  | _, _, .nil => True.intro
  | _, _, .cons (k := j) (x := x) (v := v) (c := a) (d := d) h1 h2 h3 r => by
    by_cases e : j = k
    · rw [getK_cons_eq e]
      have b : ∀ qs, dFind ((a, d) :: qs) c = some d := fun qs => by simp [dFind, List.find?_cons, h1, ec, e]
      rw [b]
      exact h3
    · rw [getK_cons_ne e]
      have b : ∀ qs, dFind ((a, d) :: qs) c = dFind qs c := fun qs => by simp [dFind, List.find?_cons, h1, ec, e]
      rw [b]
      exact rpK_find ec r
theorem rpK_put {c d : D} {k : KK} {x v : V} (ec : kkD c = some k) (rx : Rp K Z x c) (rv : Rp K Z v d) {kvs : List (KK × V × V)} {kds : List (D × D)} (r : RpK K Z kvs kds) : RpK K Z (put3 kvs k x v) (dPut kds c d) := by
  unfold put3 dPut
  rw [(rpK_find ec r).isSome]
  split
  · rename_i hs
    clear hs
    have go : ∀ {kvs : List (KK × V × V)} {kds : List (D × D)}, RpK K Z kvs kds → RpK K Z (kvs.map (fun z => if z.1 = k then (z.1, z.2.1, v) else z)) (kds.map (fun p => if kkD p.1 = kkD c then (p.1, d) else p)) := by
      intro kvs
      induction kvs with
      | nil => intro kds r; cases r; exact .nil
      | cons z zs ih =>
        intro kds r
        cases r with
        | cons h1 h2 h3 r =>
          rename_i j x' v' a d' kds'
          rw [List.map_cons, List.map_cons]
          by_cases e : j = k
          · rw [if_pos e, if_pos (by rw [h1, ec, e])]
            exact .cons h1 h2 rv (ih r)
          · rw [if_neg e, if_neg (by rw [h1, ec]; exact fun z => e (Option.some.inj z))]
            exact .cons h1 h2 h3 (ih r)
    exact go r
  · have go : ∀ {kvs : List (KK × V × V)} {kds : List (D × D)}, RpK K Z kvs kds → RpK K Z (kvs ++ [(k, x, v)]) (kds ++ [(c, d)]) := by
      intro kvs
      induction kvs with
      | nil => intro kds r; cases r; exact .cons ec rx rv .nil
      | cons z zs ih =>
        intro kds r
        cases r with
        | cons h1 h2 h3 r => exact .cons h1 h2 h3 (ih r)
    exact go r
theorem KeyV.same {x : V} {k : KK} (s : Same Z H) (h : KeyV K Z x k) : KeyV K H x k := h.mono fun _ _ q => same_t s q
/-- a table that is known, and a key -/
theorem ngot {v x : V} {c : D} {kds : List (D × D)} (s : Same Z H) (hd : Bd K Z H v (dcD kds)) (rx : Rp K Z x c) (h : sortB c kds = true) : ∃ a r, v = .ref a ∧ NGet K H a x r ∧ OrR K Z r (dFind kds c) := by
  cases hd with
  | dct e r =>
    obtain ⟨k, e1, e2, e3⟩ := sortB_ok r rx h
    exact ⟨_, _, rfl, ⟨_, k, e, fun y hy => (rpK_keys r y hy).same s, e2.same s, e3, rfl⟩, rpK_find e1 r⟩
theorem bd_key {v : V} {d : D} (h : Bd K Z H v d) (hl : isLf d = true ∨ isTp d = true) : Rp K Z v d := by
  cases h with
  | non => exact .non
  | int i => exact .int i
  | tup h r => exact .tup h r
  | _ => rcases hl with h | h <;> cases h
theorem sort_key {c : D} {kds : List (D × D)} (h : sortB c kds = true) : isLf c = true ∨ isTp c = true := by
  unfold sortB at h
  rw [Bool.or_eq_true, Bool.and_eq_true, Bool.and_eq_true] at h
  exact h.imp (·.1) (·.1)
theorem sn_nget : Sn2 K (rNGet K) dGetD := fun b0 B Z0 Z H σ ρ x y a b c Q ok ha hb e q => by
  unfold dGetD at e
  split at e
  · split at e
    · rename_i hs
      obtain ⟨p, r, rfl, g, o⟩ := ngot ok.zh ha (bd_key hb (sort_key hs)) hs
      rw [e] at o
      cases r with
      | none => exact o.elim
      | some v => exact ⟨p, v, rfl, g, q v H Z ok (Same.refl Z) o⟩
    · cases e
  · cases e
theorem sn_nin : Sn2 K (rNIn K) dInD := fun b0 B Z0 Z H σ ρ x y a b c Q ok ha hb e q => by
  unfold dInD at e
  split at e
  · split at e
    · rename_i hs
      cases e
      obtain ⟨p, r, rfl, g, o⟩ := ngot ok.zh hb (bd_key ha (sort_key hs)) hs
      refine ⟨p, r, rfl, g, q _ H Z ok (Same.refl Z) ?_⟩
      rw [o.isSome]
      exact .bl _
    · cases e
  · cases e
theorem sn_nnotin : Sn2 K (rNNotIn K) dNotInD := fun b0 B Z0 Z H σ ρ x y a b c Q ok ha hb e q => by
  unfold dNotInD at e
  split at e
  · split at e
    · rename_i hs
      cases e
      obtain ⟨p, r, rfl, g, o⟩ := ngot ok.zh hb (bd_key ha (sort_key hs)) hs
      refine ⟨p, r, rfl, g, q _ H Z ok (Same.refl Z) ?_⟩
      rw [o.isSome]
      exact .bl _
    · cases e
  · cases e
/-! ### own dicts -/
/-- {} goes to slot i -/
def sNewD (i : Nat) (ρ : Rho) : O := .nx (ρ.set i (.od []))
theorem ds_newD {i : Nat} (hi : i ≠ 0 := by decide) : DS K Wx (tAsg tNNew (gName i)) (sNewD i) := fun b0 B Z0 Z H σ ρ E ok s => fun p hp => by
  obtain ⟨ok2, zp, bp, ap⟩ := ok.fresh (o := dcO p []) hp
  exact s _ _ Z (ok2.putD zp bp ap upd_same .nil fun _ _ z => absurd z hi)
def isOd : Option Sl → Bool
  | some (.od _) => true
  | _ => false
theorem Ok.isOd {i : Nat} (ok : Ok K b0 B Z0 Z H σ ρ) (h : isOd ρ[i]? = true) : ∃ p, σ[i]? = some (some (.ref p)) := by
  unfold DL.isOd at h
  split at h
  · rename_i ds e
    obtain ⟨p, vs, e1, _⟩ := ok.od i ds e
    exact ⟨p, e1⟩
  · cases h
theorem Ok.rewriteD {i : Nat} {ds es : List (D × D)} {vs' : List (KK × V × V)} (ok : Ok K b0 B Z0 Z H σ ρ) (h : ρ[i]? = some (.od ds)) (hp : σ[i]? = some (some (.ref p))) (r : RpK K Z vs' es) (hi : i ≠ 0) : Ok K b0 B Z0 Z (upd H p (dcO p vs')) σ (ρ.set i (.od es)) := by
  obtain ⟨q, vs, e1, ok', zp, bp, ap, _, _⟩ := ok.releaseD h
  rw [hp] at e1
  cases e1
  have ok3 := (ok'.write (o := dcO p vs') zp bp ap).putD (i := i) zp bp ap upd_same r fun _ _ z => absurd z hi
  rw [List.set_set, set_own hp] at ok3
  exact ok3
/-- x[k] = e, x a dict of one's own -/
def sPutD (i : Nat) (gk g : GE) (ρ : Rho) : O := (g ρ).to fun d ρ1 => if isOd ρ1[i]? then (gk ρ1).to fun c ρ2 => match ρ2[i]? with
    | some (.od kds) => if sortB c kds = true ∧ kds.length < sizeLine then .nx (ρ2.set i (.od (dPut kds c d))) else .bad
    | _ => .bad
  else .bad
theorem RpK.length : ∀ {kvs : List (KK × V × V)} {kds : List (D × D)}, RpK K Z kvs kds → kvs.length = kds.length
  | _, _, .nil => rfl
  | _, _, .cons _ _ _ r => by rw [List.length_cons, List.length_cons, RpK.length r]
theorem ds_putD {i : Nat} {gk g : GE} (h : DE K te g) (hk : DE K tb gk) (hi : i ≠ 0 := by decide) : DS K Wx (sNPut K (tVar i) tb te) (sPutD i gk g) := fun b0 B Z0 Z H σ ρ E ok s => by
  unfold sPutD at s
  obtain ⟨d, ρ1, e1, s⟩ := Sat.to s
  refine h b0 B Z0 Z H σ ρ d ρ1 _ ok e1 fun v H1 Z1 ok1 s1 r1 => ?_
  split at s
  · rename_i h0
    obtain ⟨p, e0⟩ := ok1.isOd h0
    obtain ⟨c, ρ2, e2, s⟩ := Sat.to s
    refine ⟨.ref p, e0, ?_⟩
    refine hk b0 B Z0 Z1 H1 σ ρ1 _ ρ2 _ ok1 e2 fun x H2 Z2 ok2 s2 r2 => ?_
    split at s
    · rename_i kds hd
      split at s
      · rename_i hs
        obtain ⟨q, vs, f1, f2, f3, f4, f5⟩ := ok2.od i kds hd
        rw [e0] at f1
        cases f1
        obtain ⟨k, k1, k2, k3⟩ := sortB_ok f5 r2 hs.1
        refine ⟨p, _, rfl, ⟨vs, k, f4, fun y hy => (rpK_keys f5 y hy).same ok2.zh, k2.same ok2.zh, k3, by rw [f5.length]; exact hs.2, rfl⟩, ?_⟩
        exact s σ _ Z2 (ok2.rewriteD hd e0 (rpK_put k1 r2 (r1.mono s2) f5) hi)
      · exact s.elim
    · exact s.elim
  · exact s.elim
end
end DL

/-! DNd: list(d), dict(pairs), {k: v}, len(d), d.get(k, x). -/
namespace DL
open PySem PySem.Spec PyProof.Rows L2
section
variable {X : Cx} {K : PySem.W.Frag}
/-! ### list(d) -/
def rNKeys : List V → Hp → VK → Prop := fun xs H Q => ∃ a kvs, xs = [.ref a] ∧ H a = some (dcO a kvs) ∧ ∀ p, H p = none → Q (.ref p) (upd H p (.lst (kvs.map fun z => z.2.1)))
theorem er_keys : ∀ {kvs : List (KK × V × V)} {es : List DictEntry} {vs : List Value}, Paired ER kvs es → vs.length = es.length → (∀ (j : Nat) v, vs[j]? = some v → ∃ e, es[j]? = some e ∧ v = e.key) → Vals (kvs.map fun z => z.2.1) vs
  | _, _, [], .nil, _, _ => .nil
  | _, _, _ :: _, .nil, h, _ => by cases h
  | _, _, [], .cons _ _, h, _ => by cases h
  | _, _, v :: vs, .cons (b := e) r t, h, hk => by
    rw [List.map_cons]
    refine .cons ?_ (er_keys t (by simpa using h) fun j u hj => ?_)
    · obtain ⟨e', h1, h2⟩ := hk 0 v rfl
      cases h1
      rw [h2]
      exact r.2.1
    · obtain ⟨e', h1, h2⟩ := hk (j + 1) u (by simpa using hj)
      exact ⟨e', by simpa using h1, h2⟩
theorem call_listN (hc : X.calm = true) : CallR X (.type "list") rNKeys := by
  intro pins s σ H xs us Q I r h
  obtain ⟨a, kvs, rfl, e, q⟩ := h
  obtain ⟨u, rfl, rx⟩ := vals1 r
  cases rx
  obtain ⟨⟨ob, es, ep, h1, h2, h3, h4⟩, hd, hz, _⟩ := dc_at I.hok e
  have hl : kvs.length = es.size := by rw [Paired.length h4, Array.length_toList]
  refine PySem.W.kdl_call (PySem.KdlSrc.rawDict (es := es) (ep := ep) hd) (I.ok.hd hc) ⟨ob, h1, h2, h3⟩ (by omega) fun h' tk acc' c' kp e' hacc => ?_
  have hv : Vals (kvs.map fun z => z.2.1) acc'.toList := er_keys h4 (by rw [Array.length_toList, Array.length_toList]; exact hacc.1) fun j v hj => by
    obtain ⟨hi, ev⟩ := hacc.2 j v (by simpa using hj)
    exact ⟨es[j], by simpa using hi, ev⟩
  exact ⟨.ref s.heap.objs.size, _, I.laid (t' := tk) kp (Nat.le_refl _) (show ObjOk X.prog X.w _ h' _ (.lst (kvs.map fun z => z.2.1)) from ⟨by rw [List.length_map]; exact hz, acc'.toList, c', hv, by simpa using e'⟩), rfl, q _ (I.hok.fresh (Nat.le_refl _))⟩
/-- the keys -/
def dKeysD : List D → Option (List D)
  | [.dict ((.dict [], .none) :: kds)] => some (kds.map (·.1))
  | _ => none
theorem rpK_k {Z : Hp} : ∀ {kvs : List (KK × V × V)} {kds : List (D × D)}, RpK K Z kvs kds → RpA K Z (kvs.map fun z => z.2.1) (kds.map (·.1))
  | _, _, .nil => .nil
  | _, _, .cons _ h2 _ r => .cons h2 (rpK_k r)
theorem sn_nkeys : SnAF K rNKeys dKeysD := fun b0 B Z0 Z H σ ρ xs as c Q ok ha e q => by
  unfold dKeysD at e
  split at e
  · cases e
    cases ha with
    | cons h r =>
      cases r
      cases h with
      | dct hd rk =>
        refine ⟨_, _, rfl, hd, fun p hp => ?_⟩
        obtain ⟨ok2, zp, bp, ap⟩ := ok.fresh (o := .lst _) hp
        exact q p _ _ ok2 zp bp ap upd_same (rpK_k rk)
  · cases e
/-! ### len(d) -/
def rNLen : List V → Hp → VK → Prop := fun xs H Q => ∃ a kvs, xs = [.ref a] ∧ H a = some (dcO a kvs) ∧ Q (.int (kvs.length : Nat)) H
theorem call_lenN : CallR X (.builtin "len") rNLen := by
  intro pins s σ H xs us Q I r h
  obtain ⟨a, kvs, rfl, e, q⟩ := h
  obtain ⟨u, rfl, rx⟩ := vals1 r
  cases rx
  obtain ⟨⟨ob, es, ep, h1, h2, h3, h4⟩, hd, hz, _⟩ := dc_at I.hok e
  have hl : kvs.length = es.size := by rw [Paired.length h4, Array.length_toList]
  have hs := sizeLine_eq
  refine PyProof.Rows.call_len_slot (n := es.size) (dc_type I e) PySem.F.slot_dict_len (fun Q' hq => call_len_raw hd ⟨ob, h1, h2, h3⟩ hq) (by omega) (by omega) ?_
  exact ⟨.int (kvs.length : Nat), H, I.tok _, ⟨_, by rw [hl]⟩, q⟩
def dLenD : List D → Option D
  | [.dict ((.dict [], .none) :: kds)] => some (.int (kds.length : Nat))
  | _ => none
theorem sn_nlen : SnA K rNLen dLenD := fun b0 B Z0 Z H σ ρ xs as c Q ok ha e q => by
  unfold dLenD at e
  split at e
  · cases e
    cases ha with
    | cons h r =>
      cases r
      cases h with
      | dct hd rk => exact ⟨_, _, rfl, hd, q _ H Z ok (Same.refl Z) (by rw [rk.length]; exact .int _)⟩
  · cases e
/-! ### dict(pairs), no key twice -/
def rNDict (K : PySem.W.Frag) : List V → Hp → VK → Prop := fun xs H Q => ∃ a rs kvs, xs = [.ref a] ∧ SqL K H a (rs.map V.ref) ∧ Paired (fun (p : Addr) (y : KK × V × V) => SqT K H p [y.2.1, y.2.2]) rs kvs ∧ KeysV K H kvs ∧ KGood (kvs.map (·.1)) ∧ ∀ p, H p = none → Q (.ref p) (upd H p (dcO p kvs))
theorem rp_refs : ∀ {ps : List Addr} {us : List Value}, Vals (ps.map V.ref) us → us = ps.map Value.ref
  | [], _, r => by cases r; rfl
  | p :: ps, _, r => by
    rw [List.map_cons] at r
    cases r with
    | cons h t => rw [List.map_cons, ← rp_refs t, show _ = Value.ref p from h]
theorem pairs3 {pins : List (Addr × Obj)} {σ : L2.St} {H : Hp} {s : Shared} (I : L2.Inv X pins σ H s) : ∀ {rs : List Addr} {kvs : List (KK × V × V)}, Paired (fun (p : Addr) (y : KK × V × V) => SqT X.K H p [y.2.1, y.2.2]) rs kvs →
    ∃ ps : List (Value × Value), ps.length = rs.length ∧ Paired (fun (y : KK × V × V) (q : Value × Value) => RelV y.2.1 q.1 ∧ RelV y.2.2 q.2) kvs ps ∧ ∀ (j : Nat) k v, ps[j]? = some (k, v) → ∃ b, rs[j]? = some b ∧ s.heap.IsTuple b #[k, v]
  | _, _, .nil => ⟨[], rfl, .nil, fun j k v h => by simp at h⟩
  | _, _, .cons (a := b) (b := y) h t => by
    obtain ⟨ps, l, p1, p2⟩ := pairs3 I t
    obtain ⟨its, r, tp, _⟩ := I.tuple h
    cases r with
    | cons r1 r =>
      cases r with
      | cons r2 r =>
        cases r
        rename_i u1 u2
        refine ⟨(u1, u2) :: ps, by rw [List.length_cons, List.length_cons, l], .cons ⟨r1, r2⟩ p1, fun j k v hj => ?_⟩
        cases j with
        | zero => cases hj; exact ⟨b, rfl, tp⟩
        | succ j =>
          obtain ⟨c, c1, c2⟩ := p2 j k v (by simpa using hj)
          exact ⟨c, by simpa using c1, c2⟩
theorem have_lf {P : Program} {w : World} : ∀ {kvs : List (KK × V × V)} {ps : List (Value × Value)}, Paired (fun (y : KK × V × V) (q : Value × Value) => RelV y.2.1 q.1 ∧ RelV y.2.2 q.2) kvs ps → (∀ y ∈ kvs, ∃ l, y.1 = .lf l ∧ lfT y.2.1 = some l) →
    ∃ vs, Paired RL kvs vs ∧ vs.length = ps.length ∧ ∀ (i : Nat) key v, ps[i]? = some (key, v) → ∃ k, vs[i]? = some (k, v) ∧ (xKind P w).is k key = true
  | _, _, .nil, _ => ⟨[], .nil, rfl, fun i key v h => by simp at h⟩
  | _, _, .cons (a := y) (b := q) r t, hk => by
    obtain ⟨l, h1, h2⟩ := hk y List.mem_cons_self
    obtain ⟨vs, p1, p2, p3⟩ := have_lf (P := P) (w := w) t fun z hz => hk z (List.mem_cons_of_mem _ hz)
    refine ⟨(l, q.2) :: vs, .cons ⟨h1, h2, r.2⟩ p1, by rw [List.length_cons, List.length_cons, p2], fun i key v hi => ?_⟩
    cases i with
    | zero => cases hi; exact ⟨l, rfl, lfT_is r.1 h2⟩
    | succ i =>
      obtain ⟨k, c1, c2⟩ := p3 i key v (by simpa using hi)
      exact ⟨k, by simpa using c1, c2⟩
theorem have_tp : ∀ {kvs : List (KK × V × V)} {ps : List (Value × Value)}, Paired (fun (y : KK × V × V) (q : Value × Value) => RelV y.2.1 q.1 ∧ RelV y.2.2 q.2) kvs ps → (∀ y ∈ kvs, ∃ ls b, y.1 = .tp ls ∧ y.2.1 = .ref b) →
    ∃ xs : List (List Leaf × Addr × Value), Paired RT kvs xs ∧ xs.length = ps.length ∧ ∀ (i : Nat) key v, ps[i]? = some (key, v) → ∃ k b, xs[i]? = some (k, b, v) ∧ key = .ref b
  | _, _, .nil, _ => ⟨[], .nil, rfl, fun i key v h => by simp at h⟩
  | _, _, .cons (a := y) (b := q) r t, hk => by
    obtain ⟨ls, b, h1, h2⟩ := hk y List.mem_cons_self
    obtain ⟨xs, p1, p2, p3⟩ := have_tp t fun z hz => hk z (List.mem_cons_of_mem _ hz)
    have hr := r.1
    rw [h2] at hr
    refine ⟨(ls, b, q.2) :: xs, .cons ⟨h1, h2, r.2⟩ p1, by rw [List.length_cons, List.length_cons, p2], fun i key v hi => ?_⟩
    cases i with
    | zero => cases hi; exact ⟨ls, b, rfl, hr⟩
    | succ i =>
      obtain ⟨k, c, c1, c2⟩ := p3 i key v (by simpa using hi)
      exact ⟨k, c, by simpa using c1, c2⟩
theorem merged_nodup {vs : List (Leaf × Value)} (h : (vs.map (·.1)).Nodup) : merged [] vs = vs := by
  have go : ∀ (more acc : List (Leaf × Value)), ((acc ++ more).map (·.1)).Nodup → merged acc more = acc ++ more := fun more => by
    induction more with
    | nil => intro acc _; rw [List.append_nil]; rfl
    | cons p r ih =>
      intro acc hn
      show merged (stored acc p.1 p.2) r = _
      have e : stored acc p.1 p.2 = acc ++ [p] := by
        unfold stored
        rw [if_neg]
        intro ha
        obtain ⟨z, hz, ez⟩ := List.any_eq_true.mp ha
        have ez : z.1 = p.1 := of_decide_eq_true ez
        rw [List.map_append, List.nodup_append] at hn
        exact hn.2.2 z.1 (List.mem_map.mpr ⟨z, hz, rfl⟩) p.1 (by rw [List.map_cons]; exact List.mem_cons_self) ez
      rw [e, ih _ (by rw [List.append_assoc]; exact hn), List.append_assoc]; rfl
  exact go vs [] h
theorem call_dictN {n : Nat} (hr : Room n X.A) (hc : X.calm = true) : CallR X (.type "dict") (rNDict X.K) := by
  intro pins s σ H xs us Q I r h
  obtain ⟨a, rs, kvs, rfl, hq, hp, kv, hg, q⟩ := h
  obtain ⟨u, rfl, rx⟩ := vals1 r
  cases rx
  obtain ⟨its, rv, pl, hz⟩ := I.list hq
  cases rp_refs rv
  rw [List.length_map] at hz
  obtain ⟨ps, lp, p1, p2⟩ := pairs3 I hp
  have lk : kvs.length = ps.length := Paired.length p1
  have hu := hr.un
  have hm : (s.heap.objs.size == sysModules) = false := beq_eq_false_iff_ne.mpr (Nat.ne_of_gt I.big)
  have ok : PlainSeq "list" s.heap a (rs.map Value.ref).toArray ∧ PairItems s.heap (rs.map Value.ref).toArray (fun j => rs[j]?.getD 0) ps := by
    refine ⟨pl, by simp [lp], fun j k v hj => ?_⟩
    obtain ⟨b, h1, h2⟩ := p2 j k v hj
    refine ⟨?_, ?_⟩
    · simp [h1]
    · show PairAt s.heap (rs[j]?.getD 0) k v
      rw [h1]; exact .inl h2
  have P := PairArg.list (prog := X.prog) (w := X.w) a (rs.map Value.ref).toArray (fun j => rs[j]?.getD 0) ps
  have fin : ∀ (h' : Heap) tk, (∃ ob es ep, h'.get? s.heap.objs.size = some ob ∧ ob.ExactDict ∧ ob.data = .dict es ep ∧ Paired ER kvs es.toList) → (∀ b o, b ∉ ([] : List Addr) → s.heap.get? b = some o → h'.get? b = some o) → EP X pins σ Q (.ref s.heap.objs.size) { s with heap := h', toks := tk } := fun h' tk hd' hk =>
    ⟨.ref s.heap.objs.size, _, I.laid (t' := tk) (fun b o e => hk b o (fun z => nomatch z) e) (Nat.le_refl _) (dc_obj ⟨hd', hm, by omega, hg⟩), rfl, q _ (I.hok.fresh (Nat.le_refl _))⟩
  rcases hg.2 with so | so
  · obtain ⟨vs, v1, v2, v3⟩ := have_lf (P := X.prog) (w := X.w) p1 fun y hy => by
      obtain ⟨l, el⟩ := so y.1 (List.mem_map.mpr ⟨y, hy, rfl⟩)
      have := kv y hy
      rw [el] at this
      exact ⟨l, el, this.lf⟩
    have nd : (vs.map (·.1)).Nodup := nodup_of (f := KK.lf) (by rw [← rl_keys v1]; exact hg.1)
    refine call_dict_pairs (knd := xKind X.prog X.w) (kvs := vs) P (I.ok.hd hc) ok ⟨v2, fun i key v hi => v3 i key v hi⟩ (by omega) fun h' tk hd' hk => fin h' tk ?_ hk
    rw [merged_nodup nd] at hd'
    obtain ⟨ob, es, ep, q1, q2, q3, q4, q5, _⟩ := hd'
    exact ⟨ob, es, ep, q1, q2, q3, of_lf v1 q5 fun x hx => q4 x (by simpa using hx)⟩
  · have kt : ∀ y ∈ kvs, ∃ ls b ys, y.1 = .tp ls ∧ y.2.1 = .ref b ∧ SqT X.K H b ys ∧ lfVs ys = some ls := fun y hy => by
      obtain ⟨ls, el⟩ := so y.1 (List.mem_map.mpr ⟨y, hy, rfl⟩)
      have := kv y hy
      rw [el] at this
      obtain ⟨b, ys, k1, k2, k3⟩ := this.tp
      exact ⟨ls, b, ys, el, k1, k2, k3⟩
    obtain ⟨vs, v1, v2, v3⟩ := have_tp p1 fun y hy => by
      obtain ⟨ls, b, _, k1, k2, _⟩ := kt y hy
      exact ⟨ls, b, k1, k2⟩
    have his : ∀ x ∈ vs, (tKind X.prog X.w).is s.heap x.1 x.2.1 := fun x hx => by
      have go : ∀ {kvs : List (KK × V × V)} {vs : List (List Leaf × Addr × Value)}, Paired RT kvs vs → (∀ y ∈ kvs, ∃ ls b ys, y.1 = .tp ls ∧ y.2.1 = .ref b ∧ SqT X.K H b ys ∧ lfVs ys = some ls) → ∀ x ∈ vs, (tKind X.prog X.w).is s.heap x.1 x.2.1 := by
        intro kvs vs p
        induction p with
        | nil => intro _ x hx; exact nomatch hx
        | @cons y z ys zs r t ih =>
          intro kt x hx
          rcases List.mem_cons.mp hx with e | hx
          · subst e
            obtain ⟨ls, b, ws, k1, k2, k3, k4⟩ := kt y List.mem_cons_self
            have e1 : x.1 = ls := by have := r.1.symm.trans k1; injection this
            have e2 : x.2.1 = b := by have := r.2.1.symm.trans k2; injection this
            rw [e1, e2]
            exact tk_is I k3 k4
          · exact ih (fun y hy => kt y (List.mem_cons_of_mem _ hy)) x hx
      exact go v1 kt x hx
    have nd : (vs.map (·.1)).Nodup := nodup_of (f := KK.tp) (by rw [← rt_keys v1]; exact hg.1)
    refine call_dict_pairsH (knd := tKind X.prog X.w) (ps := vs) P (I.ok.hd hc) (show X.A.units + 1 + 1 < cLine by omega) ok ⟨v2, fun i key v hi => v3 i key v hi⟩ (fun h' hk x hx => tupleKind_stays.stays (fun b o vs' n e1 _ => hk b o (Nat.ne_of_lt (Heap.lt_size e1)) (fun z => nomatch z) e1) (his x hx)) (by omega) fun h' tk hd' hk => fin h' tk ?_ hk
    rw [storedAllH_nil_of_nodup _ nd] at hd'
    obtain ⟨ob, es, ep, q1, q2, q3, q4, _⟩ := hd'
    refine ⟨ob, es, ep, q1, q2, q3, ?_⟩
    rw [q4]
    refine of_tp v1 fun y hy ls el => ?_
    obtain ⟨ls', b, ys, k1, k2, k3, k4⟩ := kt y hy
    rw [el] at k1
    cases k1
    exact tk_hash k4
/-- the pairs of a list -/
def pairsD : List D → Option (List (D × D))
  | [] => some []
  | .tuple [c, d] :: r => (pairsD r).map ((c, d) :: ·)
  | _ => none
/-- keys of one sort, none twice -/
def goodB (kds : List (D × D)) : Bool := ((kds.all fun p => isLf p.1) || (kds.all fun p => isTp p.1)) && decide ((kds.map fun p => kkD p.1).Nodup)
def dDictD : List D → Option D
  | [.list ds] => match pairsD ds with
    | some kds => if goodB kds = true then some (dcD kds) else none
    | none => none
  | _ => none
theorem pairs_rp {Z : Hp} : ∀ {vs : List V} {ds : List D} {kds : List (D × D)}, RpA K Z vs ds → pairsD ds = some kds → (kds.all fun p => (kkD p.1).isSome) = true → ∃ rs kvs, vs = rs.map V.ref ∧ Paired (fun (p : Addr) (y : KK × V × V) => SqT K Z p [y.2.1, y.2.2]) rs kvs ∧ RpK K Z kvs kds
  | _, _, _, .nil, e, _ => by cases e; exact ⟨[], [], rfl, .nil, .nil⟩
  | _, _, _, .cons h r, e, ha => by
    unfold pairsD at e
    split at e
    · rename_i heq
      cases heq
    · rename_i c d r' heq
      cases heq
      obtain ⟨kds', e1, rfl⟩ := Option.map_eq_some_iff.mp e
      rw [List.all_cons, Bool.and_eq_true] at ha
      obtain ⟨rs, kvs, h1, h2, h3⟩ := pairs_rp r e1 ha.2
      obtain ⟨k, ek⟩ := Option.isSome_iff_exists.mp ha.1
      cases h with
      | tup hs ra =>
        cases ra with
        | cons a1 ra =>
          cases ra with
          | cons a2 ra =>
            cases ra
            exact ⟨_ :: rs, (k, _, _) :: kvs, by rw [List.map_cons, h1], .cons hs h2, .cons ek a1 a2 h3⟩
    · cases e
theorem rpK_kk {Z : Hp} : ∀ {kvs : List (KK × V × V)} {kds : List (D × D)}, RpK K Z kvs kds → (kds.map fun p => kkD p.1) = (kvs.map (·.1)).map some
  | _, _, .nil => rfl
  | _, _, .cons h1 _ _ r => by rw [List.map_cons, List.map_cons, List.map_cons, rpK_kk r, h1]
theorem lf_some {d : D} (h : isLf d = true) : (kkD d).isSome = true := by cases d <;> first | rfl | cases h
theorem tp_some {d : D} (h : isTp d = true) : (kkD d).isSome = true := by
  cases d with
  | tuple ds => show ((lfDs ds).map KK.tp).isSome = true; rw [Option.isSome_map]; exact h
  | _ => cases h
theorem goodB_some {kds : List (D × D)} (h : goodB kds = true) : (kds.all fun p => (kkD p.1).isSome) = true := by
  unfold goodB at h
  rw [Bool.and_eq_true, Bool.or_eq_true] at h
  rw [List.all_eq_true]
  intro p hp
  rcases h.1 with h | h
  · exact lf_some (List.all_eq_true.mp h p hp)
  · exact tp_some (List.all_eq_true.mp h p hp)
theorem goodB_ok {Z : Hp} {kvs : List (KK × V × V)} {kds : List (D × D)} (r : RpK K Z kvs kds) (h : goodB kds = true) : KGood (kvs.map (·.1)) := by
  unfold goodB at h
  rw [Bool.and_eq_true, Bool.or_eq_true] at h
  refine ⟨nodup_of (f := some) (by rw [← rpK_kk r]; exact of_decide_eq_true h.2), ?_⟩
  rcases h.1 with h | h
  · refine .inl fun k hk => ?_
    obtain ⟨y, hy, rfl⟩ := List.mem_map.mp hk
    exact (rpK_sort (c := .none) (k := .lf .none) r).1 rfl h y hy
  · refine .inr fun k hk => ?_
    obtain ⟨y, hy, rfl⟩ := List.mem_map.mp hk
    exact (rpK_sort (c := .tuple []) (k := .lf .none) r).2 rfl h y hy
theorem paired_same {Z H : Hp} (s : Same Z H) : ∀ {rs : List Addr} {kvs : List (KK × V × V)}, Paired (fun (p : Addr) (y : KK × V × V) => SqT K Z p [y.2.1, y.2.2]) rs kvs → Paired (fun (p : Addr) (y : KK × V × V) => SqT K H p [y.2.1, y.2.2]) rs kvs
  | _, _, .nil => .nil
  | _, _, .cons h t => .cons (same_t s h) (paired_same s t)
theorem sn_ndict : SnA K (rNDict K) dDictD := fun b0 B Z0 Z H σ ρ xs as c Q ok ha e q => by
  unfold dDictD at e
  split at e
  · split at e
    · rename_i kds ep
      split at e
      · rename_i hg
        cases e
        cases ha with
        | cons h r =>
          cases r
          cases h with
          | lst hl ra =>
            obtain ⟨rs, kvs, h1, h2, h3⟩ := pairs_rp ra ep (goodB_some hg)
            subst h1
            refine ⟨_, rs, kvs, rfl, .inl (.inl hl), paired_same ok.zh h2, fun y hy => (rpK_keys h3 y hy).same ok.zh, goodB_ok h3 hg, fun p hp => ?_⟩
            obtain ⟨ok2, s2⟩ := ok.new (o := dcO p kvs) hp
            exact q (.ref p) _ _ ok2 s2 (.dct upd_same (h3.mono s2))
      · cases e
    · cases e
  · cases e
end
end DL

/-! DNe: {k: v}, d.get(k, x). -/
namespace DL
open PySem PySem.Spec PyProof.Rows L2
section
variable {prog : Program} {w : World} {A : Around} {E : Value → Shared → Prop} {s : Shared}
/-- a display of one pair -/
theorem disp1 {ek ev : Expr} {pos : Pos} {env : Env} {Q : Value → Shared → Prop}
    (h : wpAny (model prog w) A (evalPairs (pairTrees [some ek] [ev] env pos)) (fun vs s₁ => ∃ key val, vs = [(key, val)] ∧ wpAny (model prog w) A (dictSet s.heap.objs.size key val) (fun _ s₂ => Q (.ref s.heap.objs.size) s₂) E s₁) E
      { s with heap := s.heap.push { cls := .type "dict", data := .dict #[] } }) : wpAny (model prog w) A (eval (.Dict [some ek] [ev] pos) env) Q E s := by
  have z := zip_pairTrees [some ek] [ev] env pos rfl rfl
  rw [arm_eval_Dict, z, dictDisplay_pairs _ (by intro q; cases q) (by show 1 < 17; decide)]
  refine wpAny_bind (wpAny_standAt (wpAny_bind ?_))
  unfold subDict
  refine wpAny_bind (wpAny_alloc (wpAny_bind (wpAny_holding ?_)))
  rw [if_pos (by show 1 ≤ 15; decide)]
  refine wpAny_bind (wpAny_mono h (fun vs s₁ h₁ => ?_) fun _ _ e => e)
  obtain ⟨key, val, rfl, h₁⟩ := h₁
  refine wpAny_holding (wpAny_bind ?_)
  rw [List.forIn_cons]
  refine wpAny_bind (wpAny_bind (wpAny_mono h₁ (fun _ s₂ h₂ => wpAny_pure ?_) fun _ _ e => e))
  dsimp only
  rw [List.forIn_nil]
  exact wpAny_pure (wpAny_pure (wpAny_pure (wpAny_pure h₂)))
end
section
variable {X : Cx} {K : PySem.W.Frag} {Wx : WX} {ta tb te tk tv : TE}
def tNDisp (K : PySem.W.Frag) (tk tv : TE) : TE := fun σ H Q => ∀ p, H p = none → tk σ (upd H p (dcO p [])) fun x H1 => tv σ H1 fun y H2 => H2 p = some (dcO p []) ∧ ∃ k, KeyV K H2 x k ∧ Q (.ref p) (upd H2 p (dcO p [(k, x, y)]))
theorem n_set0 {pins : List (Addr × Obj)} {σ : L2.St} {H : Hp} {s : Shared} {a : Addr} {y v : V} {k : KK} {u r : Value} {A : Around} {E : Value → Shared → Prop} {Q : Unit → Shared → Prop} (hu : A.units + 1 < cLine) (I : L2.Inv X pins σ H s) (e : H a = some (dcO a [])) (ky : KeyV X.K H y k) (ry : RelV y u) (rv : RelV v r)
    (h : ∀ s', L2.Inv X pins σ (upd H a (dcO a [(k, y, v)])) s' → Q () s') : wpAny (model X.prog X.w) A (dictSet a u r) Q E s := by
  obtain ⟨_, hd, hz, hg⟩ := dc_at I.hok e
  have kv : KeysV X.K H [] := fun z hz => nomatch hz
  have pe : put3 [] k y v = [(k, y, v)] := rfl
  cases k with
  | lf l =>
    obtain ⟨vs, p, dd⟩ := dict_lf I e kv fun z hz => nomatch hz
    cases p
    refine wpAny_dictSet_pairs (hsz := Nat.zero_le _) (lfT_is ry ky.lf) dd fun h' dd' hs => h _ ?_
    obtain ⟨ob, es, ep, q1, q2, q3, q4, q5, _⟩ := dd'
    exact d_write I (by rw [e]; exact True.intro) hs ⟨ob, q1⟩ (dc_obj ⟨⟨ob, es, ep, q1, q2, q3, of_lf (put_lf .nil ky.lf rv) q5 fun x hx => q4 x (by simpa using hx)⟩, hd, by show 1 ≤ sizeLine; decide, List.pairwise_singleton _ _, .inl fun z hz => ⟨l, List.mem_singleton.mp hz⟩⟩)
  | tp ls =>
    obtain ⟨xs, p, dd⟩ := dict_tp I e kv fun z hz => nomatch hz
    cases p
    obtain ⟨b, ys, rfl, k2, k3⟩ := id ky.tp
    cases (show u = Value.ref b from ry)
    refine wpAny_dictSet_heap (hsz := Nat.zero_le _) (show A.units < cLine by omega) (tk_is I k2 k3) dd fun h' dd' hs => h _ ?_
    obtain ⟨ob, es, ep, q1, q2, q3, q4, _⟩ := dd'
    refine d_write I (by rw [e]; exact True.intro) hs ⟨ob, q1⟩ (dc_obj ⟨⟨ob, es, ep, q1, q2, q3, ?_⟩, hd, by show 1 ≤ sizeLine; decide, List.pairwise_singleton _ _, .inr fun z hz => ⟨ls, List.mem_singleton.mp hz⟩⟩)
    rw [q4]
    exact of_tp (put_tp .nil rv) (put3_hash kv ky)
theorem pe_ndisp {n : Nat} {ek ev : Expr} {pos : Pos} (hr : Room n X.A) (hk : PE X ek tk) (hv : PE X ev tv) : PE X (.Dict [some ek] [ev] pos) (tNDisp X.K tk tv) := by
  have hu := hr.un
  refine ⟨fun pins s σ H Q I q => ?_⟩
  have I1 := I.laid (a := s.heap.objs.size) (o := dcO s.heap.objs.size []) (t' := s.toks) (h' := s.heap.push { cls := .type "dict", data := .dict #[] }) (fun _ _ q => Heap.get?_push_of_some _ q) (Nat.le_refl _) (n_empty s.heap I.big)
  refine disp1 (pairTrees_cons_walk ?_)
  refine thn (hk.run pins _ σ _ _ I1 (q _ (I.hok.fresh (Nat.le_refl _)))) fun u s1 ⟨x, H1, I2, rx, q1⟩ => ?_
  refine thn (hv.run pins s1 σ H1 _ I2 q1) fun r s2 ⟨y, H2, I3, ry, e, k, ky, q2⟩ => ?_
  exact pairTrees_nil_walk ⟨u, r, rfl, n_set0 (by omega) I3 e ky rx ry fun s' I4 => ⟨.ref s.heap.objs.size, _, I4, rfl, q2⟩⟩
/-- {k: v}: a new dict -/
def DD (K : PySem.W.Frag) (t : TE) (g : Rho → R (List (D × D))) : Prop := ∀ b0 B Z0 Z H σ ρ ds ρ' (Q : VK), Ok K b0 B Z0 Z H σ ρ → g ρ = .ok ds ρ' →
  (∀ p vs H' Z', Ok K b0 B Z0 Z' H' σ ρ' → Same Z Z' → Z' p = none → B p = none → Apart σ ρ' p → H' p = some (dcO p vs) → RpK K Z' vs ds → Q (.ref p) H') → t σ H Q
def eDisp (gk gv : GE) (ρ : Rho) : R (List (D × D)) := (gk ρ).bind fun c ρ1 => (gv ρ1).bind fun d ρ2 => if (isLf c || isTp c) = true then .ok [(c, d)] ρ2 else .bad
theorem key_any {Z : Hp} {v : V} {d : D} (r : Rp K Z v d) (h : (isLf d || isTp d) = true) : ∃ k, kkD d = some k := by
  rw [Bool.or_eq_true] at h
  exact Option.isSome_iff_exists.mp (h.elim lf_some tp_some)
theorem dd_disp {gk gv : GE} (hk : DE K tk gk) (hv : DE K tv gv) : DD K (tNDisp K tk tv) (eDisp gk gv) := fun b0 B Z0 Z H σ ρ ds ρ' Q ok e q => fun p hp => by
  obtain ⟨c, ρ1, e1, e⟩ := R.bind_ok e
  obtain ⟨d, ρ2, e2, e⟩ := R.bind_ok e
  split at e
  · rename_i hs
    cases e
    obtain ⟨okf, zp, bp, ap⟩ := ok.fresh (o := dcO p []) hp
    have okw := okf.frame zp ap upd_same
    refine hk b0 _ Z0 Z _ σ ρ c ρ1 _ okw e1 fun x H1 Z1 ok1 s1 r1 => ?_
    refine hv b0 _ Z0 Z1 H1 σ ρ1 d ρ' _ ok1 e2 fun v H2 Z2 ok2 s2 r2 => ?_
    obtain ⟨ok3, zp3, ap3, hp3⟩ := ok2.unframe (ok.zz.free zp) bp
    obtain ⟨k, ek⟩ := key_any (r1.mono s2) hs
    refine ⟨hp3, k, (rp_key (r1.mono s2) ek).same ok2.zh, ?_⟩
    exact q p _ _ Z2 (ok3.write zp3 bp ap3) (s1.trans s2) zp3 bp ap3 upd_same (.cons ek (r1.mono s2) r2 .nil)
  · cases e
theorem dd_new : DD K tNNew (fun ρ => .ok [] ρ) := fun b0 B Z0 Z H σ ρ ds ρ' Q ok e q => fun p hp => by
  cases e
  obtain ⟨ok2, zp, bp, ap⟩ := ok.fresh (o := dcO p []) hp
  exact q p [] _ Z ok2 (Same.refl Z) zp bp ap upd_same .nil
/-- a new dict as data -/
def eD (g : Rho → R (List (D × D))) (ρ : Rho) : R D := (g ρ).map fun kds => dcD kds
theorem de_d {g : Rho → R (List (D × D))} (h : DD K te g) : DE K te (eD g) := fun b0 B Z0 Z H σ ρ d ρ' Q ok e q => by
  obtain ⟨ds, e1, rfl⟩ := R.map_ok e
  refine h b0 B Z0 Z H σ ρ ds ρ' Q ok e1 fun p vs H' Z' ok' s zp bp ap hp r => ?_
  obtain ⟨ok2, s2⟩ := ok'.freeze zp bp ap hp
  exact q (.ref p) H' _ ok2 (s.trans s2) (.dct upd_same (r.mono s2))
def sSetD (i : Nat) (g : Rho → R (List (D × D))) (ρ : Rho) : O := (g ρ).to fun kds ρ1 => .nx (ρ1.set i (.od kds))
theorem ds_setD {i : Nat} {g : Rho → R (List (D × D))} (h : DD K te g) (hi : i ≠ 0 := by decide) : DS K Wx (tAsg te (gName i)) (sSetD i g) := fun b0 B Z0 Z H σ ρ E ok s => by
  obtain ⟨d, ρ', e, s⟩ := Sat.to s
  exact h b0 B Z0 Z H σ ρ d ρ' _ ok e fun p vs H' Z' ok' _ zp bp ap hp r => s _ H' Z' (ok'.putD zp bp ap hp r fun _ _ z => absurd z hi)
/-! ### a, b = {..}, x -/
def sParD (i j : Nat) (g : Rho → R (List (D × D))) (b : Rho → R Nw) (ρ : Rho) : O := (g ρ).to fun kds ρ1 => (b ρ1).to fun y ρ2 => .nx ((ρ2.set i (.od kds)).set j y.sl)
theorem ds_parD {i j : Nat} {g : Rho → R (List (D × D))} {b : Rho → R Nw} (ha : DD K ta g) (hb : DN K tb b) (hi : i ≠ 0 := by decide) (hj0 : j ≠ 0 := by decide) : DS K Wx (tPar i j (tCons ta (tCons tb tNil))) (sParD i j g b) := fun b0 B Z0 Z H σ ρ E ok s => by
  obtain ⟨kds, ρ1, e1, s⟩ := Sat.to s
  obtain ⟨y, ρ2, e2, s⟩ := Sat.to s
  refine ha b0 B Z0 Z H σ ρ kds ρ1 _ ok e1 fun q vs H1 Z1 ok1 s1 zq bq aq hq ra => ?_
  have okf := ok1.frame zq aq hq
  refine hb b0 _ Z0 Z1 H1 σ ρ1 y ρ2 _ okf e2 fun w H2 Z2 ok2 s2 r2 => ⟨.ref q, w, rfl, ?_⟩
  obtain ⟨ok3, zq2, aq2, hq2⟩ := ok2.unframe (ok1.zz.free zq) bq
  have okv := ok3.putD (i := i) zq2 bq aq2 hq2 (ra.mono s2) fun _ _ z => absurd z hi
  refine s _ H2 Z2 ?_
  cases y with
  | s d2 => exact okv.put r2
  | f ds2 =>
    obtain ⟨q', vs', rfl, zq', bq', aq', hq', ra'⟩ := r2
    have nq : q' ≠ q := fun z => by rw [z, upd_same] at bq'; cases bq'
    rw [upd_ne nq] at bq'
    refine okv.putO zq' bq' (fun j' es hj ho hqq => ?_) hq' ra' fun _ _ z => absurd z hj0
    rcases set_get hj with ⟨ek, _⟩ | ⟨nk, e⟩
    · subst ek
      rcases set_get hqq with ⟨_, e2⟩ | ⟨n2, _⟩
      · have z := Option.some.inj e2
        injection z with z
        exact nq z.symm
      · exact n2 rfl
    · rw [List.getElem?_set_ne nk] at hqq
      exact aq' j' es e ho hqq
/-! ### d.get(k, x) -/
def rNGet2 (K : PySem.W.Frag) : V → List V → Hp → VK → Prop := fun x xs H Q => ∃ a y z o, x = .ref a ∧ xs = [y, z] ∧ NGet K H a y o ∧ Q (o.getD z) H
theorem mt_nget {n : Nat} (hr : Room n X.A) : MtR X "dict.get" (rNGet2 X.K) := by
  intro pins s σ H x xs v us Q I rx rxs h
  obtain ⟨a, y, z, o, rfl, rfl, g, q⟩ := h
  cases rx
  have hu := hr.un
  obtain ⟨u1, u2, rfl, r1, r2⟩ := vals2 rxs
  obtain ⟨kvs, k, e, kv, ky, so, l⟩ := g
  have hd := (dc_at I.hok e).2.1
  rcases so with ⟨⟨lf, rfl⟩, so⟩ | ⟨⟨ls, rfl⟩, so⟩
  · obtain ⟨vs, p, dd⟩ := dict_lf I e kv so
    refine call_meetsIn PySem.F.slot_dict_get dd.typeIs PySem.F.entry_dict_get (PySem.F.args_dict_get_3 _ _ _) (meets_dict_get_default (xKind X.prog X.w) a (lfT_is r1 ky.lf) hd u2) ⟨_, dd.mapOf, ?_⟩
    refine ⟨o.getD z, H, I.tok _, ?_, q⟩
    rw [l]
    exact (get_lf lf p).getD r2
  · obtain ⟨xs, p, dd⟩ := dict_tp I e kv so
    obtain ⟨b, ys, rfl, k2, k3⟩ := ky.tp
    cases (show u1 = Value.ref b from r1)
    refine call_meetsIn PySem.F.slot_dict_get dd.typeIs PySem.F.entry_dict_get (PySem.F.args_dict_get_3 _ _ _) (meetsH_dict_get_default (tKind X.prog X.w) a b hd u2) ⟨tupleKind_room_in1 (by omega), ls, xs, tk_is I k2 k3, dd, ?_⟩
    refine ⟨o.getD z, H, I.tok _, ?_, q⟩
    rw [l]
    exact (get_tp ls p).getD r2
end
end DL

/-! DNf: sorted of a list or of a dict, the items data (ints, bools, texts, tuples of these). -/
namespace DLX
open PySem PyProof.Rows PySem.W
mutual
theorem reads_there {h : Heap} : ∀ {v : Value} {d : PyData} {as : List Addr}, Reads h v d as → ∀ a ∈ as, ∃ o, h.get? a = some o
  | _, _, _, .none, a, ha => nomatch ha
  | _, _, _, .bool _, a, ha => nomatch ha
  | _, _, _, .int _ _, a, ha => nomatch ha
  | _, _, _, .str _ _, a, ha => nomatch ha
  | _, _, _, .list h1 _ _ r, a, ha => by
    rcases List.mem_cons.mp ha with e | ha
    · subst e; exact ⟨_, h1⟩
    · exact readsAll_there r a ha
  | _, _, _, .tuple _ _ _ r, a, ha => readsAll_there r a ha
  | _, _, _, .dict h1 _ _ r r2, a, ha => by
    rcases List.mem_append.mp ha with ha | ha
    · rcases List.mem_cons.mp ha with e | ha
      · subst e; exact ⟨_, h1⟩
      · exact readsAll_there r a ha
    · exact readsAll_there r2 a ha
theorem readsAll_there {h : Heap} : ∀ {vs : List Value} {ds : List PyData} {as : List Addr}, ReadsAll h vs ds as → ∀ a ∈ as, ∃ o, h.get? a = some o
  | _, _, _, .nil, a, ha => nomatch ha
  | _, _, _, .cons r t, a, ha => by
    rcases List.mem_append.mp ha with ha | ha
    · exact reads_there r a ha
    · exact readsAll_there t a ha
end
section
variable {prog : Program} {w : World} {A : Around} {E : Value → Shared → Prop} {s : Shared} {β : Type} {R : Value → β → Prop} {enc : β → PyData}
theorem each_one {vs : List Value} {bs : List β} (e : EachIs R vs bs) (h : bs.length ≤ 1) : bs.mergeSort (dataLe false enc) = bs := by
  match bs, h with
  | [], _ => exact List.mergeSort_nil
  | [x], _ => exact List.mergeSort_singleton x
theorem swo_no : SrtO.Swo (fun (_ _ : Value) => false) := ⟨fun _ _ h => (nomatch h), fun _ _ _ _ _ => rfl⟩
theorem sort_step {h1 : Heap} {tk : Nat} {vs : List Value} {bs : List β} {Q : Value → Shared → Prop} (e : EachIs R vs bs) (er : EachIs (fun v b => ∃ as, Reads h1 v (enc b) as) vs bs) (hc : bs.length ≤ 1 ∨ (AllAlike (bs.map enc) ∧ Sortable (bs.map enc))) (hL : bs.length ≤ sizeLine) (hu : ∀ b, b ∈ bs → A.units + 1 + (enc b).depth < cLine)
    (h : ∀ (h' : Heap) (out : List Value), (∀ b o, h1.get? b = some o → h'.get? b = some o) → (∃ n, h'.get? h1.objs.size = some (seqObj "list" out.toArray n)) → EachIs R out (bs.mergeSort (dataLe false enc)) → Q .none { s with heap := h', toks := tk }) :
    wpAny (model prog w) A (call (.builtin "list.sort") [.ref h1.objs.size]) Q E { s with heap := h1.push (seqObj "list" vs.toArray 0), toks := tk } := by
  have ho : (h1.push (seqObj "list" vs.toArray 0)).get? h1.objs.size = some (seqObj "list" vs.toArray 0) := Heap.get?_push_size _ rfl
  have old : ∀ (out : List Value) b o, h1.get? b = some o → (sortedHeap (h1.push (seqObj "list" vs.toArray 0)) h1.objs.size vs out.toArray).get? b = some o := fun out b o q => by
    have hlt := Heap.lt_size q
    rw [sortedHeap_old (Nat.ne_of_lt hlt) (by rw [size_push']; exact Nat.lt_succ_of_lt hlt)]
    exact Heap.get?_push_of_some _ q
  have lv : vs.length = bs.length := e.length
  rcases hc with hc | ⟨hal, hk⟩
  · refine wpAny_call_entry slot_list_sort ⟨_, ho, rfl⟩ entry_list_sort (SrtO.list_sort_ord swo_no ho (by omega) (fun h2 => absurd h2 (by omega)) fun out h1' h2' => ⟨_, rfl, ?_⟩) (args_list_sort _)
    have eo : out = vs := by
      have p := SrtO.Stb.perm h2'
      match vs, (show vs.length ≤ 1 by omega), p with
      | [], _, p => exact List.perm_nil.mp p
      | [x], _, p => exact List.perm_singleton.mp p
    subst eo
    exact h _ out (old out) (sortedHeap_at ho) (by rw [each_one e hc]; exact e)
  · refine list_sort_data (n := 0) ho e (er.mono fun v b ⟨as, r⟩ => ⟨as, PyProof.Rows.Reads.keeps (fun _ _ q => Heap.get?_push_of_some _ q) r, fun hm => ?_⟩) hal hk hL hu fun out _ eo => h _ out (old out) (sortedHeap_at ho) eo
    obtain ⟨o, q⟩ := reads_there r _ hm
    exact absurd (Heap.lt_size q) (Nat.lt_irrefl _)
/-- sorted(r), by what collect gives -/
theorem sorted_gen {r : Addr} {vs : List Value} {bs : List β} {Q : Value → Shared → Prop} (e : EachIs R vs bs) (er : EachIs (fun v b => ∃ as, Reads s.heap v (enc b) as) vs bs) (hc : bs.length ≤ 1 ∨ (AllAlike (bs.map enc) ∧ Sortable (bs.map enc))) (hL : bs.length ≤ sizeLine) (hu : ∀ b, b ∈ bs → A.units + 3 + (enc b).depth < cLine)
    (hcol : ∀ (Q' : List Value → Shared → Prop) (E' : Value → Shared → Prop), (∀ h' tk, (∀ b o, s.heap.get? b = some o → h'.get? b = some o) → Q' vs { s with heap := h', toks := tk }) → wpAny (model prog w) A.in1 (collect (.ref r)) Q' E' s)
    (h : ∀ (h' : Heap) (tk : Nat) (p : Addr) (out : List Value), s.heap.get? p = none → (∀ b o, s.heap.get? b = some o → h'.get? b = some o) → (∃ n, h'.get? p = some (seqObj "list" out.toArray n)) → EachIs R out (bs.mergeSort (dataLe false enc)) → Q (.ref p) { s with heap := h', toks := tk }) :
    wpAny (model prog w) A (call (.builtin "sorted") [.ref r]) Q E s := by
  have lv : vs.length = bs.length := e.length
  refine Calls.call_function_entry kind_sorted plain_sorted entry_sorted (args_sorted1 _) ?_
  unfold Builtin.«sorted»
  refine wpAny_bind (m := checkCount "sorted" 1 1 _) (wpAny_pure (wpAny_bind (hcol _ _ fun h1 tk kp => wpAny_bind (wpAny_newList ?_ (by omega)))))
  have le : s.heap.get? h1.objs.size = none := by
    cases q : s.heap.get? h1.objs.size with
    | none => rfl
    | some o => exact absurd (Heap.lt_size (kp _ _ q)) (Nat.lt_irrefl _)
  have er1 : EachIs (fun v b => ∃ as, Reads h1 v (enc b) as) vs bs := er.mono fun v b ⟨as, r⟩ => ⟨as, PyProof.Rows.Reads.keeps kp r⟩
  have st := sort_step (prog := prog) (w := w) (A := A.in1) (s := s) (tk := tk) (E := E) (Q := fun _ s' => Q (.ref h1.objs.size) s') e er1 hc hL (fun b hb => by have := hu b hb; show A.units + 1 + 1 + (enc b).depth < cLine; omega) fun h' out k1 k2 k3 => h h' tk h1.objs.size out le (fun b o q => k1 b o (kp b o q)) k2 k3
  refine wpAny_bind (wpAny_holding (wpAny_mono st (fun _ s' x => ?_) fun _ _ e => e))
  exact wpAny_pure ⟨_, rfl, x⟩
end
end DLX
namespace DL
open PySem PySem.Spec PyProof.Rows L2
open PySem.W (dataLe AllAlike Sortable EachIs)
def rNSort (K : PySem.W.Frag) : List V → Hp → VK → Prop := fun xs H Q => ∃ (a : Addr) (bs : List (D × V)), xs = [.ref a] ∧ (SqL K H a (bs.map (·.2)) ∨ ∃ kvs, H a = some (dcO a kvs) ∧ (kvs.map fun z => z.2.1) = bs.map (·.2)) ∧ (∀ b ∈ bs, Dp K H b.2 b.1 ∧ b.1.depth ≤ 50) ∧
  (bs.length ≤ 1 ∨ (AllAlike (bs.map (·.1)) ∧ Sortable (bs.map (·.1)))) ∧ ∀ p, H p = none → Q (.ref p) (upd H p (.lst ((bs.mergeSort (dataLe false (·.1))).map (·.2))))
section
variable {X : Cx} {K : PySem.W.Frag} {te : TE}
theorem each_of {H : Hp} {pins : List (Addr × Obj)} {σ : L2.St} {s : Shared} (I : L2.Inv X pins σ H s) : ∀ {bs : List (D × V)} {us : List Value}, Vals (bs.map (·.2)) us → (∀ b ∈ bs, Dp X.K H b.2 b.1 ∧ b.1.depth ≤ 50) → EachIs (fun u (b : D × V) => RelV b.2 u) us bs ∧ EachIs (fun u (b : D × V) => ∃ as, Reads s.heap u b.1 as) us bs
  | [], _, r, _ => by cases r; exact ⟨.nil, .nil⟩
  | b :: bs, _, r, h => by
    rw [List.map_cons] at r
    cases r with
    | cons r1 t =>
      obtain ⟨e1, e2⟩ := each_of I t fun x hx => h x (List.mem_cons_of_mem _ hx)
      exact ⟨.cons r1 e1, .cons (Dp.reads I b.1 b.2 _ (h b List.mem_cons_self).1 r1) e2⟩
theorem vals_of : ∀ {us : List Value} {bs : List (D × V)}, EachIs (fun u (b : D × V) => RelV b.2 u) us bs → Vals (bs.map (·.2)) us
  | _, _, .nil => .nil
  | _, _, .cons h t => by rw [List.map_cons]; exact .cons h (vals_of t)
theorem obj_there {P : Program} {w : World} {H : Hp} {h : Heap} {a : Addr} {o : HO} (x : ObjOk P w H h a o) : ∃ ob, h.get? a = some ob := by
  cases o with
  | lst xs => obtain ⟨_, _, _, _, e⟩ := x; exact ⟨_, e⟩
  | tup xs => obtain ⟨_, _, _, ob, e, _⟩ := x; exact ⟨_, e⟩
  | dK kvs => obtain ⟨_, _, _, _, ob, _, _, e, _⟩ := x; exact ⟨_, e⟩
  | dT kvs => obtain ⟨_, _, _, _, ob, _, _, e, _⟩ := x; exact ⟨_, e⟩
  | set S n => obtain ⟨ob, _, _, _, e, _⟩ := x; exact ⟨_, e⟩
  | ins C dx fs => obtain ⟨_, _, _, e, _⟩ := x; exact ⟨_, e⟩
  | own y => exact x
  | xd fs => obtain ⟨_, ⟨_, _, _, e, _⟩, _⟩ := x; exact ⟨_, e⟩
  | rng lo hi => obtain ⟨_, _, _, e⟩ := x; exact ⟨_, e⟩
  | frz ob u => obtain ⟨e, _⟩ := x; exact ⟨_, e⟩
  | tbl ps => exact ⟨_, (show h.get? a = some _ from x)⟩
  | met f y => exact ⟨_, (show h.get? a = some _ from x)⟩
  | ext φ => obtain ⟨_, e, _⟩ := x; exact e
theorem hok_none {P : Program} {w : World} {H : Hp} {h : Heap} {a : Addr} (x : HOk P w H h) (e : h.get? a = none) : H a = none := by
  cases q : H a with
  | none => rfl
  | some o =>
    obtain ⟨ob, e2⟩ := obj_there (x a o q)
    rw [e] at e2
    cases e2
theorem cr_sortN {n : Nat} (hr : Room n X.A) (hc : X.calm = true) : CallR X (.builtin "sorted") (rNSort X.K) := by
  intro pins s σ H xs us Q I r h
  obtain ⟨a, bs, rfl, hsrc, hb, cond, q⟩ := h
  obtain ⟨u, rfl, rx⟩ := vals1 r
  cases rx
  have hu := hr.un
  have fin : ∀ (vs : List Value), Vals (bs.map (·.2)) vs → (bs.map (·.2)).length ≤ sizeLine → (∀ (Q' : List Value → Shared → Prop) (E' : Value → Shared → Prop), (∀ h' tk, (∀ b o, s.heap.get? b = some o → h'.get? b = some o) → Q' vs { s with heap := h', toks := tk }) → wpAny (model X.prog X.w) X.A.in1 (collect (.ref a)) Q' E' s) →
      wpAny (model X.prog X.w) X.A (call (.builtin "sorted") [.ref a]) (EP X pins σ Q) X.xe s := fun vs rv hz hcol => by
    rw [List.length_map] at hz
    obtain ⟨e1, e2⟩ := each_of I rv hb
    refine DLX.sorted_gen (enc := fun b : D × V => b.1) e1 e2 cond hz (fun b hm => by have := (hb b hm).2; show X.A.units + 3 + b.1.depth < cLine; omega) hcol fun h' tk p out hp kp ⟨m, hm⟩ eo => ?_
    have hl : ((bs.mergeSort (dataLe false (·.1))).map (·.2)).length ≤ sizeLine := by rw [List.length_map, (List.mergeSort_perm _ _).length_eq]; exact hz
    exact ⟨.ref p, _, I.laidN (t' := tk) kp hp (hok_none I.hok hp) (show ObjOk X.prog X.w _ h' _ (.lst ((bs.mergeSort (dataLe false (·.1))).map (·.2))) from ⟨hl, out, m, vals_of eo, hm⟩), rfl, q _ (hok_none I.hok hp)⟩
  rcases hsrc with hs | ⟨kvs, hd, ek⟩
  · obtain ⟨its, rv, pl, hz⟩ := I.list hs
    refine fin its rv hz fun Q' E' hq => PyProof.Rows.collect_list pl.isList (hq _ s.toks fun b o e => ?_) (by rw [← rv.length]; exact hz)
    rw [Heap.get?_update_ne _ _ _ _ (Nat.ne_of_lt (Heap.lt_size e))]
    exact Heap.get?_push_of_some _ e
  · obtain ⟨⟨ob, es, ep, h1, h2, h3, h4⟩, hm, hz, _⟩ := dc_at I.hok hd
    have hl : kvs.length = es.size := by rw [Paired.length h4, Array.length_toList]
    have ent : Vals (kvs.map fun z => z.2.1) (es.toList.map (·.key)) := er_keys h4 (by rw [List.length_map]) fun j v hj => by
      rw [List.getElem?_map] at hj
      obtain ⟨e, he, rfl⟩ := Option.map_eq_some_iff.mp hj
      exact ⟨e, he, rfl⟩
    refine fin (es.toList.map (·.key)) (by rw [← ek]; exact ent) (by rw [← ek, List.length_map]; exact hz) fun Q' E' hq => PySem.W.kdu_collect (A := X.A.in1) (PySem.KdlSrc.rawDict (es := es) (ep := ep) hm) (I.ok.hd hc) ⟨ob, h1, h2, h3⟩ (by omega) fun h' tk acc kp hacc => ?_
    have ea : acc.toList = es.toList.map (·.key) := by
      apply List.ext_getElem?
      intro j
      rw [List.getElem?_map]
      by_cases hj : j < es.size
      · have hj2 : j < acc.size := by rw [hacc.1]; exact hj
        obtain ⟨hi, ev⟩ := hacc.2 j acc[j] (by simp [hj2])
        simp [hj, hj2, ev]
      · have hj2 : ¬ j < acc.size := by rw [hacc.1]; exact hj
        simp [hj, hj2]
    rw [ea]
    exact hq h' tk kp
/-- may be sorted -/
def sortableB (ds : List D) : Bool := decide (ds.length ≤ 1) || ((ds.all fun d => ds.all fun e => PySem.W.alike d e) && ds.all fun d => match d with | .tuple (_ :: _) => true | _ => false)
def itemsSD : D → Option (List D)
  | .list ds => some ds
  | .dict ((.dict [], .none) :: kds) => some (kds.map (·.1))
  | _ => none
def sortDD : List D → Option (List D)
  | [x] => match itemsSD x with
    | some ds => if sortableB ds = true ∧ (ds.all fun d => noD d && decide (d.depth ≤ 50)) = true then some (ds.mergeSort (dataLe false id)) else none
    | none => none
  | _ => none
theorem sortable_ok {ds : List D} (h : sortableB ds = true) : ds.length ≤ 1 ∨ (AllAlike ds ∧ Sortable ds) := by
  unfold sortableB at h
  rw [Bool.or_eq_true, Bool.and_eq_true] at h
  rcases h with h | ⟨h1, h2⟩
  · exact .inl (of_decide_eq_true h)
  · refine .inr ⟨fun d hd e he => List.all_eq_true.mp (List.all_eq_true.mp h1 d hd) e he, .inl fun d hd => ?_⟩
    have := List.all_eq_true.mp h2 d hd
    split at this
    · exact ⟨_, _, rfl⟩
    · cases this
theorem rpA_zip {Z : Hp} : ∀ {vs : List V} {ds : List D}, RpA K Z vs ds → ∃ bs : List (D × V), bs.map (·.1) = ds ∧ bs.map (·.2) = vs ∧ ∀ b ∈ bs, Rp K Z b.2 b.1
  | _, _, .nil => ⟨[], rfl, rfl, fun b hb => nomatch hb⟩
  | _, _, .cons (v := v) (d := d) h r => by
    obtain ⟨bs, h1, h2, h3⟩ := rpA_zip r
    refine ⟨(d, v) :: bs, by rw [List.map_cons, h1], by rw [List.map_cons, h2], fun b hb => ?_⟩
    rcases List.mem_cons.mp hb with e | hb
    · subst e; exact h
    · exact h3 b hb
theorem zip_rpA {Z : Hp} : ∀ {bs : List (D × V)}, (∀ b ∈ bs, Rp K Z b.2 b.1) → RpA K Z (bs.map (·.2)) (bs.map (·.1))
  | [], _ => .nil
  | b :: bs, h => .cons (h b List.mem_cons_self) (zip_rpA fun x hx => h x (List.mem_cons_of_mem _ hx))
theorem Dp.same {Z H : Hp} {v : V} {d : D} (s : Same Z H) (r : Rp K Z v d) (h : noD d = true) : Dp K H v d := (r.mono s).dp h
theorem sn_sortN : SnAF K (rNSort K) sortDD := fun b0 B Z0 Z H σ ρ xs as c Q ok ha e q => by
  unfold sortDD at e
  split at e
  · rename_i x
    split at e
    · rename_i ds ei
      split at e
      · rename_i hc
        cases e
        have go : ∀ {a : Addr} {vs : List V}, RpA K Z vs ds → (∀ bs : List (D × V), bs.map (·.2) = vs → (SqL K H a (bs.map (·.2)) ∨ ∃ kvs, H a = some (dcO a kvs) ∧ (kvs.map fun z => z.2.1) = bs.map (·.2))) → rNSort K [.ref a] H Q := fun {a vs} r hsrc => by
          obtain ⟨bs, h1, h2, h3⟩ := rpA_zip r
          refine ⟨a, bs, rfl, hsrc bs h2, fun b hb => ?_, ?_, fun p hp => ?_⟩
          · have hd : b.1 ∈ ds := by rw [← h1]; exact List.mem_map.mpr ⟨b, hb, rfl⟩
            have := List.all_eq_true.mp hc.2 b.1 hd
            rw [Bool.and_eq_true] at this
            exact ⟨Dp.same ok.zh (h3 b hb) this.1, of_decide_eq_true this.2⟩
          · have := sortable_ok hc.1
            rw [← h1, List.length_map] at this
            exact this
          · obtain ⟨ok2, zp, bp, ap⟩ := ok.fresh (o := .lst ((bs.mergeSort (dataLe false (·.1))).map (·.2))) hp
            refine q p _ _ ok2 zp bp ap upd_same ?_
            have es : ds.mergeSort (dataLe false id) = (bs.mergeSort (dataLe false (·.1))).map (·.1) := by
              have sm := PySem.W.sort_maps (r := dataLe false fun x : D × V => x.1) (s := dataLe false id) (fun x : D × V => x.1) (l := bs) (fun _ _ _ _ => rfl)
              rw [sm, h1]
            rw [es]
            exact zip_rpA fun b hb => h3 b ((List.mergeSort_perm _ _).mem_iff.mp hb)
        cases ha with
        | cons h r =>
          cases r
          cases h with
          | lst hl ra =>
            cases ei
            exact go ra fun bs hb => .inl (by rw [hb]; exact .inl (.inl hl))
          | dct hd rk =>
            cases ei
            exact go (rpK_k rk) fun bs hb => .inr ⟨_, hd, hb.symm⟩
          | _ => cases ei
      · cases e
    · cases e
  · cases e
end
end DL

/-! DNg: range downwards, d.get(k, x) by data. -/
namespace DL
open PySem L2
section
variable {K : PySem.W.Frag} {Wx : WX} {ta tb te td : TE} {tas : TA}
/-- i, i - 1, .. -/
def downD (i : Int) (n : Nat) : List D := (List.range n).map fun k => .int (i + (k : Nat) * (-1))
theorem downD_len (i : Int) (n : Nat) : (downD i n).length = n := by unfold downD; rw [List.length_map, List.length_range]
theorem downD_get {i : Int} {n k : Nat} (h : k < n) : (downD i n)[k]? = some (.int (i + (k : Nat) * (-1))) := by
  unfold downD
  rw [List.getElem?_map, List.getElem?_range h]; rfl
theorem wk_down {Z : Hp} {i : Int} {n : Nat} : Wk K (Itc i (-1) n) Z (downD i n) where
  goes := fun k H hk s => by rw [downD_len] at hk; exact hk
  stops := fun H s => by rw [downD_len]; exact Nat.le_refl _
  yields := fun k H x H' hk y b0 B Z0 Z' σ ρ ok s => by
    obtain ⟨rfl, rfl⟩ := y
    rw [downD_len] at hk
    exact ⟨Z', _, ok, Same.refl Z', downD_get hk, .int _⟩
def rng3 : List D → Option (List D)
  | [.int i, .int j, .int (-1)] => if -(2 ^ 62) ≤ i ∧ i < 2 ^ 62 ∧ -(2 ^ 62) ≤ j ∧ j < 2 ^ 62 then some (downD i (i - j).toNat) else none
  | _ => none
theorem di_rng3 {ga : GA} (h : DA K tas ga) : DI K (iRng3 tas) (eCall rng3 ga) := fun b0 B Z0 Z H σ ρ ds ρ' W ok e q => by
  obtain ⟨os, as, e1, e2, e3⟩ := call_ok e
  refine h b0 B Z0 Z H σ ρ os ρ' _ ok e1 fun vs H1 Z1 ok1 s1 r1 => ?_
  have ra := valA_ok r1 e2
  unfold rng3 at e3
  split at e3
  · split at e3
    · rename_i hb
      cases e3
      cases ra with
      | cons r ra =>
      cases ra with
      | cons r' ra =>
      cases ra with
      | cons r'' ra =>
      cases r; cases r'; cases r''; cases ra
      exact ⟨_, _, _, _, rfl, RgC.neg hb.1 hb.2.1 hb.2.2.1 hb.2.2.2, q _ H1 Z1 ok1 s1 wk_down⟩
    · cases e3
  · cases e3
/-! ### d.get(k, x) -/
def eNGet (gd : GO) (gk gx : GE) (ρ : Rho) : R D := (gd ρ).bind fun o ρ1 => (gk ρ1).bind fun c ρ2 => (gx ρ2).bind fun x ρ3 => match o.res ρ3 with
  | some (.dict ((.dict [], .none) :: kds)) => if sortB c kds = true then .ok ((dFind kds c).getD x) ρ3 else .bad
  | _ => .bad
end
end DL

/-! DNh: which rows calls lead to. -/
namespace DL
open PySem L2
theorem mid3_top {l m r : Int} (h1 : l < m) (h2 : r < m) : (mid3 l m r = l ∨ mid3 l m r = r) ∧ l ≤ mid3 l m r ∧ r ≤ mid3 l m r := by
  simp only [mid3, srtI, insI]
  split <;> simp only [insI] <;> (repeat' split) <;> simp only [List.getElem?_cons_succ, List.getElem?_cons_zero, Option.getD_some, true_or, or_true, true_and] <;> omega
theorem mid3_dip {l m r : Int} (h1 : m < l) (h2 : m < r) : (mid3 l m r = l ∨ mid3 l m r = r) ∧ mid3 l m r ≤ l ∧ mid3 l m r ≤ r := by
  simp only [mid3, srtI, insI]
  split <;> simp only [insI] <;> (repeat' split) <;> simp only [List.getElem?_cons_succ, List.getElem?_cons_zero, Option.getD_some, true_or, or_true, true_and] <;> omega
theorem mid3_idle {l m r : Int} (h1 : ¬ (l < m ∧ r < m)) (h2 : ¬ (m < l ∧ m < r)) : mid3 l m r = m := by
  simp only [mid3, srtI, insI]
  split <;> simp only [insI] <;> (repeat' split) <;> simp only [List.getElem?_cons_succ, List.getElem?_cons_zero, Option.getD_some, true_or, or_true, true_and] <;> omega
def IsT (a : List Int) (p : Int) : Prop := 0 < p ∧ p + 1 < a.length ∧ nat a (p - 1) < nat a p ∧ nat a (p + 1) < nat a p
def IsD (a : List Int) (p : Int) : Prop := 0 < p ∧ p + 1 < a.length ∧ nat a p < nat a (p - 1) ∧ nat a p < nat a (p + 1)
/-- what a call does -/
theorem call_cases {b : List Int} {i : Int} (h0 : 0 ≤ i) (h1 : i < b.length) : callN b i = b ∨ (IsT b i ∧ (midN b i = nat b (i - 1) ∨ midN b i = nat b (i + 1)) ∧ nat b (i - 1) ≤ midN b i ∧ nat b (i + 1) ≤ midN b i) ∨ (IsD b i ∧ (midN b i = nat b (i - 1) ∨ midN b i = nat b (i + 1)) ∧ midN b i ≤ nat b (i - 1) ∧ midN b i ≤ nat b (i + 1)) := by
  by_cases he : i = 0 ∨ i = (b.length : Int) - 1
  · refine .inl ((callN_iff h0 h1).mpr ?_)
    unfold midN
    rw [if_pos he]
  · have em : midN b i = mid3 (nat b (i - 1)) (nat b i) (nat b (i + 1)) := by unfold midN; rw [if_neg he]
    by_cases ht : nat b (i - 1) < nat b i ∧ nat b (i + 1) < nat b i
    · have := mid3_top ht.1 ht.2
      rw [← em] at this
      exact .inr (.inl ⟨⟨by omega, by omega, ht⟩, this⟩)
    · by_cases hd : nat b i < nat b (i - 1) ∧ nat b i < nat b (i + 1)
      · have := mid3_dip hd.1 hd.2
        rw [← em] at this
        exact .inr (.inr ⟨⟨by omega, by omega, hd⟩, this⟩)
      · exact .inl ((callN_iff h0 h1).mpr (em.trans (mid3_idle ht hd)))
theorem nat_call {b : List Int} {i p : Int} (h0 : 0 ≤ i) (h1 : i < b.length) (hp : 0 ≤ p) : nat (callN b i) p = if p = i then midN b i else nat b p := by
  unfold callN
  rw [nat_set hp]
  by_cases e : p = i
  · rw [if_pos ⟨by omega, by omega⟩, if_pos e]
  · rw [if_neg (fun z => e (by omega)), if_neg e]
def Btw (p q r : Int) : Prop := (p ≤ r ∧ r ≤ q) ∨ (q ≤ r ∧ r ≤ p)
/-- a leads to b -/
structure Keep (a b : List Int) : Prop where
  len : b.length = a.length
  chg : ∀ p : Int, 0 ≤ p → p < a.length → nat a p = nat b p ∨ (IsT a p ∧ nat b p < nat a p) ∨ (IsD a p ∧ nat a p < nat b p)
  ord : ∀ p : Int, 0 ≤ p → p + 1 < a.length → (nat a p < nat a (p + 1) → nat b p ≤ nat b (p + 1)) ∧ (nat a (p + 1) < nat a p → nat b (p + 1) ≤ nat b p) ∧ (nat a p = nat a (p + 1) → nat b p = nat b (p + 1))
  run : ∀ p : Int, 0 ≤ p → p < a.length → ∃ q : Int, 0 ≤ q ∧ q < a.length ∧ nat a q = nat b q ∧ ∀ r, Btw p q r → nat b r = nat b p
theorem Keep.refl (a : List Int) : Keep a a := ⟨rfl, fun _ _ _ => .inl rfl, fun p _ _ => ⟨fun h => by omega, fun h => by omega, fun h => h⟩, fun p h0 h1 => ⟨p, h0, h1, rfl, fun r hr => by rw [show r = p by unfold Btw at hr; omega]⟩⟩
theorem Keep.runs {a b : List Int} {i m : Int} {c : List Int} (h : Keep a b) (h0 : 0 < i) (h1 : i + 1 < a.length) (n1 : nat b (i - 1) ≠ nat b i) (n2 : nat b (i + 1) ≠ nat b i) (hm : m = nat b (i - 1) ∨ m = nat b (i + 1)) (hc : ∀ p : Int, 0 ≤ p → nat c p = if p = i then m else nat b p) :
    ∀ p : Int, 0 ≤ p → p < a.length → ∃ q : Int, 0 ≤ q ∧ q < a.length ∧ nat a q = nat c q ∧ ∀ r, Btw p q r → nat c r = nat c p := by
  intro p hp0 hp1
  have cut : ∀ p q : Int, p ≠ i → (∀ r, Btw p q r → nat b r = nat b p) → ¬ Btw p q i := fun p q hp hr hb => by
    have e := hr i hb
    unfold Btw at hb
    rcases hb with hb | hb
    · have := hr (i - 1) (by unfold Btw; omega)
      exact n1 (by rw [this, e])
    · have := hr (i + 1) (by unfold Btw; omega)
      exact n2 (by rw [this, e])
  have go : ∀ j : Int, 0 ≤ j → j < a.length → j ≠ i → ∃ q : Int, 0 ≤ q ∧ q < a.length ∧ q ≠ i ∧ ¬ Btw j q i ∧ nat a q = nat c q ∧ ∀ r, Btw j q r → nat c r = nat b j := fun j j0 j1 ji => by
    obtain ⟨q, q0, q1, qs, qr⟩ := h.run j j0 j1
    have nb := cut j q ji qr
    have qi : q ≠ i := fun z => nb (by unfold Btw; omega)
    refine ⟨q, q0, q1, qi, nb, by rw [hc q q0, if_neg qi]; exact qs, fun r hr => ?_⟩
    have ri : r ≠ i := fun z => nb (z ▸ hr)
    rw [hc r (by unfold Btw at hr; omega), if_neg ri]
    exact qr r hr
  by_cases hp : p = i
  · subst hp
    rcases hm with hm | hm
    · obtain ⟨q, q0, q1, qi, nb, qs, qr⟩ := go (p - 1) (by omega) (by omega) (by omega)
      have ql : q ≤ p - 1 := by unfold Btw at nb; omega
      refine ⟨q, q0, q1, qs, fun r hr => ?_⟩
      rw [hc p (by omega), if_pos rfl]
      by_cases e : r = p
      · rw [e, hc p (by omega), if_pos rfl]
      · rw [hm]
        exact qr r (by unfold Btw at hr ⊢; omega)
    · obtain ⟨q, q0, q1, qi, nb, qs, qr⟩ := go (p + 1) (by omega) (by omega) (by omega)
      have ql : p + 1 ≤ q := by unfold Btw at nb; omega
      refine ⟨q, q0, q1, qs, fun r hr => ?_⟩
      rw [hc p (by omega), if_pos rfl]
      by_cases e : r = p
      · rw [e, hc p (by omega), if_pos rfl]
      · rw [hm]
        exact qr r (by unfold Btw at hr ⊢; omega)
  · obtain ⟨q, q0, q1, qi, nb, qs, qr⟩ := go p hp0 hp1 hp
    refine ⟨q, q0, q1, qs, fun r hr => ?_⟩
    rw [qr r hr, hc p hp0, if_neg hp]
theorem Keep.alone {a b : List Int} {i : Int} (h : Keep a b) (h0 : 0 < i) (h1 : i + 1 < a.length) (n1 : nat b (i - 1) ≠ nat b i) (n2 : nat b (i + 1) ≠ nat b i) : nat a i = nat b i := by
  obtain ⟨q, q0, q1, qs, qr⟩ := h.run i (by omega) (by omega)
  rcases Int.lt_trichotomy q i with hq | hq | hq
  · exact absurd (qr (i - 1) (by unfold Btw; omega)) n1
  · rw [← hq]; exact qs
  · exact absurd (qr (i + 1) (by unfold Btw; omega)) n2
theorem Keep.top {a b : List Int} {i : Int} (h : Keep a b) (t : IsT b i) : IsT a i ∧ nat a i = nat b i := by
  obtain ⟨t0, t1, t2, t3⟩ := t
  have hl := h.len
  have o1 := h.ord (i - 1) (by omega) (by omega)
  rw [show i - 1 + 1 = i by omega] at o1
  have o2 := h.ord i (by omega) (by omega)
  refine ⟨⟨t0, by omega, ?_, ?_⟩, h.alone t0 (by omega) (by omega) (by omega)⟩
  · rcases Int.lt_trichotomy (nat a (i - 1)) (nat a i) with e | e | e
    · exact e
    · have := o1.2.2 e; omega
    · have := o1.2.1 e; omega
  · rcases Int.lt_trichotomy (nat a (i + 1)) (nat a i) with e | e | e
    · exact e
    · have := o2.2.2 e.symm; omega
    · have := o2.1 e; omega
theorem Keep.dip {a b : List Int} {i : Int} (h : Keep a b) (t : IsD b i) : IsD a i ∧ nat a i = nat b i := by
  obtain ⟨t0, t1, t2, t3⟩ := t
  have hl := h.len
  have o1 := h.ord (i - 1) (by omega) (by omega)
  rw [show i - 1 + 1 = i by omega] at o1
  have o2 := h.ord i (by omega) (by omega)
  refine ⟨⟨t0, by omega, ?_, ?_⟩, h.alone t0 (by omega) (by omega) (by omega)⟩
  · rcases Int.lt_trichotomy (nat a i) (nat a (i - 1)) with e | e | e
    · exact e
    · have := o1.2.2 e.symm; omega
    · have := o1.1 e; omega
  · rcases Int.lt_trichotomy (nat a i) (nat a (i + 1)) with e | e | e
    · exact e
    · have := o2.2.2 e; omega
    · have := o2.2.1 e; omega
theorem Keep.call {a b : List Int} {i : Int} (h : Keep a b) (h0 : 0 ≤ i) (h1 : i < a.length) : Keep a (callN b i) := by
  have hl := h.len
  have hc := fun p (hp : (0 : Int) ≤ p) => nat_call (b := b) (p := p) h0 (by omega) hp
  rcases call_cases (b := b) h0 (by omega) with e | ⟨t, tm, t1, t2⟩ | ⟨t, tm, t1, t2⟩
  · rw [e]; exact h
  · obtain ⟨ta, es⟩ := h.top t
    obtain ⟨u0, u1, u2, u3⟩ := id t
    obtain ⟨v0, v1, v2, v3⟩ := id ta
    refine ⟨by rw [callN_len]; exact hl, fun p p0 p1 => ?_, fun p p0 p1 => ?_, h.runs u0 (by omega) (by omega) (by omega) tm hc⟩
    · rw [hc p p0]
      by_cases e : p = i
      · subst e
        rw [if_pos rfl]
        exact .inr (.inl ⟨ta, by omega⟩)
      · rw [if_neg e]; exact h.chg p p0 p1
    · rw [hc p p0, hc (p + 1) (by omega)]
      have o := h.ord p p0 p1
      by_cases e : p = i
      · subst e
        rw [if_pos rfl, if_neg (by omega)]
        omega
      · rw [if_neg e]
        by_cases e2 : p + 1 = i
        · subst e2
          rw [if_pos rfl]
          rw [show p + 1 - 1 = p by omega] at *
          omega
        · rw [if_neg e2]; exact o
  · obtain ⟨ta, es⟩ := h.dip t
    obtain ⟨u0, u1, u2, u3⟩ := id t
    obtain ⟨v0, v1, v2, v3⟩ := id ta
    refine ⟨by rw [callN_len]; exact hl, fun p p0 p1 => ?_, fun p p0 p1 => ?_, h.runs u0 (by omega) (by omega) (by omega) tm hc⟩
    · rw [hc p p0]
      by_cases e : p = i
      · subst e
        rw [if_pos rfl]
        exact .inr (.inr ⟨ta, by omega⟩)
      · rw [if_neg e]; exact h.chg p p0 p1
    · rw [hc p p0, hc (p + 1) (by omega)]
      have o := h.ord p p0 p1
      by_cases e : p = i
      · subst e
        rw [if_pos rfl, if_neg (by omega)]
        omega
      · rw [if_neg e]
        by_cases e2 : p + 1 = i
        · subst e2
          rw [if_pos rfl]
          rw [show p + 1 - 1 = p by omega] at *
          omega
        · rw [if_neg e2]; exact o
theorem Keep.more {a : List Int} : ∀ (tape : List Int) {b : List Int}, Keep a b → (∀ i ∈ tape, 0 ≤ i ∧ i < a.length) → Keep a (runN b tape)
  | [], _, h, _ => h
  | i :: tape, b, h, ht => by
    have hi := ht i List.mem_cons_self
    exact Keep.more tape (h.call hi.1 hi.2) fun j hj => ht j (List.mem_cons_of_mem _ hj)
theorem keep_run {a tape : List Int} (h : ∀ i ∈ tape, 0 ≤ i ∧ i < a.length) : Keep a (runN a tape) := (Keep.refl a).more tape h
end DL

/-! DNi: a row that is not barred is led to, by as many calls as people changed. -/
namespace DL
open PySem L2
def cgB (ns ms : List Int) (p : Int) : Bool := !decide (nat ns p = nat ms p)
def cgL (ns ms : List Int) : List Int := (rngI 0 ns.length).filter (cgB ns ms)
theorem cg_mem {a b : List Int} {p : Int} : p ∈ cgL a b ↔ (0 ≤ p ∧ p < a.length) ∧ nat a p ≠ nat b p := by
  unfold cgL cgB
  rw [List.mem_filter]
  constructor
  · intro ⟨h1, h2⟩
    have := mem_rngI h1
    exact ⟨⟨by omega, by omega⟩, by simpa using h2⟩
  · intro ⟨h1, h2⟩
    exact ⟨in_rngI h1.1 (by omega), by simpa using h2⟩
theorem row_eq {a b : List Int} (hl : b.length = a.length) (h : ∀ p : Int, 0 ≤ p → p < a.length → nat a p = nat b p) : a = b := by
  apply List.ext_getElem?
  intro k
  by_cases hk : k < a.length
  · have := h (k : Int) (by omega) (by omega)
    unfold nat at this
    rw [Int.toNat_natCast, List.getElem?_eq_getElem hk, List.getElem?_eq_getElem (show k < b.length by omega)] at this
    rw [List.getElem?_eq_getElem hk, List.getElem?_eq_getElem (show k < b.length by omega)]
    simpa using this
  · rw [List.getElem?_eq_none (by omega), List.getElem?_eq_none (by omega)]
theorem cg_nil {a b : List Int} (hl : b.length = a.length) : cgL a b = [] ↔ a = b := by
  constructor
  · intro h
    refine row_eq hl fun p h0 h1 => ?_
    by_cases e : nat a p = nat b p
    · exact e
    · have : p ∈ cgL a b := cg_mem.mpr ⟨⟨h0, h1⟩, e⟩
      rw [h] at this
      cases this
  · intro h
    subst h
    refine List.filter_eq_nil_iff.mpr fun p _ => ?_
    unfold cgB
    simp
/-- somebody who has to change beside one who stays, both of the same number in the end -/
theorem Keep.beside {a b : List Int} (h : Keep a b) (ne : a ≠ b) : ∃ p s : Int, (s = 1 ∨ s = -1) ∧ 0 ≤ p ∧ p < a.length ∧ 0 ≤ p + s ∧ p + s < a.length ∧ nat a p ≠ nat b p ∧ nat a (p + s) = nat b (p + s) ∧ nat b (p + s) = nat b p := by
  have hx : ∃ p ∈ cgL a b, True := by
    cases e : cgL a b with
    | nil => exact absurd ((cg_nil h.len).mp e) ne
    | cons x r => exact ⟨x, List.mem_cons_self, True.intro⟩
  obtain ⟨p, hp, _⟩ := hx
  obtain ⟨⟨p0, p1⟩, pn⟩ := cg_mem.mp hp
  obtain ⟨q, q0, q1, qs, qr⟩ := h.run p p0 p1
  have go : ∀ (k : Nat) (p : Int), 0 ≤ p → p < a.length → nat a p ≠ nat b p → (∀ r, Btw p q r → nat b r = nat b p) → (p - q).natAbs ≤ k → ∃ p s : Int, (s = 1 ∨ s = -1) ∧ 0 ≤ p ∧ p < a.length ∧ 0 ≤ p + s ∧ p + s < a.length ∧ nat a p ≠ nat b p ∧ nat a (p + s) = nat b (p + s) ∧ nat b (p + s) = nat b p := by
    intro k
    induction k with
    | zero =>
      intro p p0 p1 pn qr hk
      have e : p = q := by omega
      rw [e] at pn
      exact absurd qs pn
    | succ k ih =>
      intro p p0 p1 pn qr hk
      rcases Int.lt_trichotomy q p with hq | hq | hq
      · have e1 := qr (p + -1) (by unfold Btw; omega)
        by_cases e : nat a (p + -1) = nat b (p + -1)
        · exact ⟨p, -1, .inr rfl, p0, p1, by omega, by omega, pn, e, e1⟩
        · exact ih (p + -1) (by omega) (by omega) e (fun r hr => by rw [e1]; exact qr r (by unfold Btw at hr ⊢; omega)) (by omega)
      · rw [← hq] at pn
        exact absurd qs pn
      · have e1 := qr (p + 1) (by unfold Btw; omega)
        by_cases e : nat a (p + 1) = nat b (p + 1)
        · exact ⟨p, 1, .inl rfl, p0, p1, by omega, by omega, pn, e, e1⟩
        · exact ih (p + 1) (by omega) (by omega) e (fun r hr => by rw [e1]; exact qr r (by unfold Btw at hr ⊢; omega)) (by omega)
  exact go (p - q).natAbs p p0 p1 pn qr (Nat.le_refl _)
/-- what is near a top that has to fall -/
theorem Keep.near_top {a b : List Int} {p x : Int} (h : Keep a b) (t : IsT a p) (hb : nat b p < nat a p) (hx : x = p + 1 ∨ x = p - 1) : nat a x < nat a p ∧ nat b x ≤ nat b p ∧ (nat a x = nat b x ∨ (IsD a x ∧ nat a x < nat b x)) := by
  obtain ⟨t0, t1, t2, t3⟩ := t
  have hl := h.len
  have ha : nat a x < nat a p := by rcases hx with rfl | rfl <;> assumption
  have hbx : nat b x ≤ nat b p := by
    rcases hx with rfl | rfl
    · exact (h.ord p (by omega) (by omega)).2.1 t3
    · have := (h.ord (p - 1) (by omega) (by omega)).1
      rw [show p - 1 + 1 = p by omega] at this
      exact this t2
  refine ⟨ha, hbx, ?_⟩
  rcases h.chg x (by omega) (by omega) with c | ⟨⟨u0, u1, u2, u3⟩, c⟩ | c
  · exact .inl c
  · exfalso
    rcases hx with rfl | rfl
    · rw [show p + 1 - 1 = p by omega] at u2; omega
    · rw [show p - 1 + 1 = p by omega] at u3; omega
  · exact .inr c
theorem Keep.near_dip {a b : List Int} {p x : Int} (h : Keep a b) (t : IsD a p) (hb : nat a p < nat b p) (hx : x = p + 1 ∨ x = p - 1) : nat a p < nat a x ∧ nat b p ≤ nat b x ∧ (nat a x = nat b x ∨ (IsT a x ∧ nat b x < nat a x)) := by
  obtain ⟨t0, t1, t2, t3⟩ := t
  have hl := h.len
  have ha : nat a p < nat a x := by rcases hx with rfl | rfl <;> assumption
  have hbx : nat b p ≤ nat b x := by
    rcases hx with rfl | rfl
    · exact (h.ord p (by omega) (by omega)).1 t3
    · have := (h.ord (p - 1) (by omega) (by omega)).2.1
      rw [show p - 1 + 1 = p by omega] at this
      exact this t2
  refine ⟨ha, hbx, ?_⟩
  rcases h.chg x (by omega) (by omega) with c | c | ⟨⟨u0, u1, u2, u3⟩, c⟩
  · exact .inl c
  · exact .inr c
  · exfalso
    rcases hx with rfl | rfl
    · rw [show p + 1 - 1 = p by omega] at u2; omega
    · rw [show p - 1 + 1 = p by omega] at u3; omega
/-- a call of somebody whose number is then the one of the end -/
theorem Keep.step {a b : List Int} {p : Int} (h : Keep a b) (h0 : 0 < p) (h1 : p + 1 < a.length) (hc : nat a p ≠ nat b p) (hm : midN a p = nat b p) (hle : ∀ x : Int, x = p + 1 ∨ x = p - 1 → (IsT a p → nat a x ≤ nat b p) ∧ (IsD a p → nat b p ≤ nat a x)) : Keep (callN a p) b := by
  have hl := h.len
  have nc := fun x (hx : (0 : Int) ≤ x) => nat_call (b := a) (p := x) (i := p) (by omega) (by omega) hx
  have hk := h.chg p (by omega) (by omega)
  refine ⟨by rw [callN_len]; exact hl, fun x x0 x1 => ?_, fun x x0 x1 => ?_, fun x x0 x1 => ?_⟩
  · rw [callN_len] at x1
    by_cases e : x = p
    · subst e
      rw [nc x x0, if_pos rfl]
      exact .inl hm
    · rw [nc x x0, if_neg e]
      rcases h.chg x x0 x1 with c | ⟨⟨u0, u1, u2, u3⟩, c⟩ | ⟨⟨u0, u1, u2, u3⟩, c⟩
      · exact .inl c
      · refine .inr (.inl ⟨⟨u0, by rw [callN_len]; exact u1, ?_, ?_⟩, c⟩)
        · rw [nc x x0, if_neg e, nc (x - 1) (by omega)]
          by_cases e2 : x - 1 = p
          · rw [if_pos e2, hm]
            have ex : x = p + 1 := by omega
            rcases hk with z | ⟨t, z⟩ | ⟨t, z⟩
            · exact absurd z hc
            · have := (h.near_top t z (.inl ex)).1; rw [e2] at u2; omega
            · have := h.near_dip t z (.inl ex)
              omega
          · rw [if_neg e2]; exact u2
        · rw [nc x x0, if_neg e, nc (x + 1) (by omega)]
          by_cases e2 : x + 1 = p
          · rw [if_pos e2, hm]
            have ex : x = p - 1 := by omega
            rcases hk with z | ⟨t, z⟩ | ⟨t, z⟩
            · exact absurd z hc
            · have := (h.near_top t z (.inr ex)).1; rw [e2] at u3; omega
            · have := h.near_dip t z (.inr ex)
              omega
          · rw [if_neg e2]; exact u3
      · refine .inr (.inr ⟨⟨u0, by rw [callN_len]; exact u1, ?_, ?_⟩, c⟩)
        · rw [nc x x0, if_neg e, nc (x - 1) (by omega)]
          by_cases e2 : x - 1 = p
          · rw [if_pos e2, hm]
            have ex : x = p + 1 := by omega
            rcases hk with z | ⟨t, z⟩ | ⟨t, z⟩
            · exact absurd z hc
            · have := h.near_top t z (.inl ex)
              omega
            · have := (h.near_dip t z (.inl ex)).1; rw [e2] at u2; omega
          · rw [if_neg e2]; exact u2
        · rw [nc x x0, if_neg e, nc (x + 1) (by omega)]
          by_cases e2 : x + 1 = p
          · rw [if_pos e2, hm]
            have ex : x = p - 1 := by omega
            rcases hk with z | ⟨t, z⟩ | ⟨t, z⟩
            · exact absurd z hc
            · have := h.near_top t z (.inr ex)
              omega
            · have := (h.near_dip t z (.inr ex)).1; rw [e2] at u3; omega
          · rw [if_neg e2]; exact u3
  · rw [callN_len] at x1
    rw [nc x x0, nc (x + 1) (by omega)]
    have o := h.ord x x0 x1
    by_cases e : x = p
    · subst e
      rw [if_pos rfl, if_neg (by omega), hm]
      have hl1 := hle (x + 1) (.inl rfl)
      rcases hk with z | ⟨t, z⟩ | ⟨t, z⟩
      · exact absurd z hc
      · have n1 := h.near_top t z (.inl rfl)
        have := hl1.1 t
        omega
      · have n1 := h.near_dip t z (.inl rfl)
        have := hl1.2 t
        omega
    · rw [if_neg e]
      by_cases e2 : x + 1 = p
      · rw [if_pos e2, hm]
        have ex : x = p - 1 := by omega
        have hl1 := hle x (.inr ex)
        rw [e2]
        rcases hk with z | ⟨t, z⟩ | ⟨t, z⟩
        · exact absurd z hc
        · have n1 := h.near_top t z (.inr ex)
          have := hl1.1 t
          omega
        · have n1 := h.near_dip t z (.inr ex)
          have := hl1.2 t
          omega
      · rw [if_neg e2]; exact o
  · rw [callN_len] at x1
    obtain ⟨q, q0, q1, qs, qr⟩ := h.run x x0 x1
    refine ⟨q, q0, by rw [callN_len]; exact q1, ?_, qr⟩
    rw [nc q q0]
    by_cases e : q = p
    · rw [if_pos e, hm, e]
    · rw [if_neg e]; exact qs
/-- who is beside one who stays may be called, and takes the number of the end -/
theorem Keep.can {a b : List Int} {p s : Int} (h : Keep a b) (hs : s = 1 ∨ s = -1) (p0 : 0 ≤ p) (p1 : p < a.length) (q0 : 0 ≤ p + s) (q1 : p + s < a.length) (pn : nat a p ≠ nat b p) (qs : nat a (p + s) = nat b (p + s)) (qe : nat b (p + s) = nat b p) : 0 < p ∧ p + 1 < a.length ∧ midN a p = nat b p ∧ Keep (callN a p) b := by
  have hk := h.chg p p0 p1
  have inn : 0 < p ∧ p + 1 < a.length := by
    rcases hk with z | ⟨⟨t0, t1, _⟩, _⟩ | ⟨⟨t0, t1, _⟩, _⟩
    · exact absurd z pn
    · exact ⟨t0, t1⟩
    · exact ⟨t0, t1⟩
  have em : midN a p = mid3 (nat a (p - 1)) (nat a p) (nat a (p + 1)) := by
    unfold midN
    rw [if_neg (by omega)]
  have fin : midN a p = nat b p ∧ ∀ x : Int, x = p + 1 ∨ x = p - 1 → (IsT a p → nat a x ≤ nat b p) ∧ (IsD a p → nat b p ≤ nat a x) := by
    rcases hk with z | ⟨t, z⟩ | ⟨t, z⟩
    · exact absurd z pn
    · have n1 := h.near_top t z (x := p + 1) (.inl rfl)
      have n2 := h.near_top t z (x := p - 1) (.inr rfl)
      have m := mid3_top (l := nat a (p - 1)) (m := nat a p) (r := nat a (p + 1)) n2.1 n1.1
      rw [← em] at m
      refine ⟨?_, fun x hx => ⟨fun _ => ?_, fun d => ?_⟩⟩
      · rcases hs with rfl | rfl
        · omega
        · rw [show p + -1 = p - 1 by omega] at *; omega
      · rcases hx with rfl | rfl <;> omega
      · have := d.2.2.1; have := t.2.2.1; omega
    · have n1 := h.near_dip t z (x := p + 1) (.inl rfl)
      have n2 := h.near_dip t z (x := p - 1) (.inr rfl)
      have m := mid3_dip (l := nat a (p - 1)) (m := nat a p) (r := nat a (p + 1)) n2.1 n1.1
      rw [← em] at m
      refine ⟨?_, fun x hx => ⟨fun d => ?_, fun _ => ?_⟩⟩
      · rcases hs with rfl | rfl
        · omega
        · rw [show p + -1 = p - 1 by omega] at *; omega
      · have := d.2.2.1; have := t.2.2.1; omega
      · rcases hx with rfl | rfl <;> omega
  exact ⟨inn.1, inn.2, fin.1, h.step inn.1 inn.2 pn fin.1 fin.2⟩
theorem cg_call {a b : List Int} {p : Int} (p0 : 0 ≤ p) (p1 : p < a.length) (pn : nat a p ≠ nat b p) (hm : midN a p = nat b p) : cgL (callN a p) b = (cgL a b).filter fun x => decide (x ≠ p) := by
  unfold cgL
  rw [callN_len, List.filter_filter]
  refine List.filter_congr fun x hx => ?_
  have hx := mem_rngI hx
  unfold cgB
  rw [nat_call p0 p1 (by omega)]
  by_cases e : x = p
  · subst e
    rw [if_pos rfl, hm]
    simp
  · rw [if_neg e]
    simp [e]
theorem len_drop {p : Int} : ∀ {l : List Int}, l.Pairwise (· < ·) → p ∈ l → (l.filter fun x => decide (x ≠ p)).length + 1 = l.length
  | x :: l, hw, hp => by
    have hw := List.pairwise_cons.mp hw
    rw [List.filter_cons]
    by_cases e : x = p
    · subst e
      have : (l.filter fun y => decide (y ≠ x)) = l := List.filter_eq_self.mpr fun y hy => decide_eq_true (by have := hw.1 y hy; omega)
      rw [if_neg (by simp), this]; rfl
    · rcases List.mem_cons.mp hp with z | z
      · exact absurd z.symm e
      · have := len_drop hw.2 z
        rw [if_pos (by simpa using e)]
        simp only [List.length_cons]
        omega
theorem rng_pw (lo : Int) (n : Nat) : (rngI lo n).Pairwise (· < ·) := by
  unfold rngI
  rw [List.pairwise_map]
  exact List.pairwise_lt_range.imp fun h => by omega
theorem cg_pw (a b : List Int) : (cgL a b).Pairwise (· < ·) := (rng_pw 0 _).filter _
/-- b is led to by as many calls as people changed -/
theorem Keep.way : ∀ (k : Nat) {a b : List Int}, Keep a b → (cgL a b).length = k → ∃ tape : List Int, tape.length = k ∧ (∀ i ∈ tape, 0 < i ∧ i + 1 < a.length) ∧ runN a tape = b
  | 0, a, b, h, hk => ⟨[], rfl, fun i hi => (nomatch hi), (cg_nil h.len).mp (List.length_eq_zero_iff.mp hk)⟩
  | k + 1, a, b, h, hk => by
    have ne : a ≠ b := fun e => by
      rw [(cg_nil h.len).mpr e] at hk
      cases hk
    obtain ⟨p, s, hs, p0, p1, q0, q1, pn, qs, qe⟩ := h.beside ne
    obtain ⟨c1, c2, c3, c4⟩ := h.can hs p0 p1 q0 q1 pn qs qe
    have hd := len_drop (cg_pw a b) (cg_mem.mpr ⟨⟨p0, p1⟩, pn⟩)
    obtain ⟨tape, t1, t2, t3⟩ := Keep.way k c4 (by rw [cg_call p0 p1 pn c3]; omega)
    refine ⟨p :: tape, by rw [List.length_cons, t1], fun i hi => ?_, t3⟩
    rcases List.mem_cons.mp hi with rfl | hi
    · exact ⟨c1, c2⟩
    · have := t2 i hi
      rw [callN_len] at this
      exact this
/-- a call that changes something changes one who had not changed yet -/
theorem Keep.more1 {a b : List Int} {i : Int} (h : Keep a b) (h0 : 0 ≤ i) (h1 : i < a.length) (hc : callN b i ≠ b) : (cgL a (callN b i)).length = (cgL a b).length + 1 ∧ 0 < i ∧ i + 1 < a.length ∧ nat a i = nat b i := by
  have hl := h.len
  have inn : (0 < i ∧ i + 1 < a.length) ∧ nat a i = nat b i ∧ midN b i ≠ nat b i := by
    have ni : midN b i ≠ nat b i := fun e => hc ((callN_iff h0 (by omega)).mpr e)
    rcases call_cases (b := b) h0 (by omega) with e | ⟨t, _⟩ | ⟨t, _⟩
    · exact absurd e hc
    · have := h.top t
      exact ⟨⟨t.1, by have := t.2.1; omega⟩, this.2, ni⟩
    · have := h.dip t
      exact ⟨⟨t.1, by have := t.2.1; omega⟩, this.2, ni⟩
  refine ⟨?_, inn.1.1, inn.1.2, inn.2.1⟩
  have e : cgL a b = (cgL a (callN b i)).filter fun x => decide (x ≠ i) := by
    unfold cgL
    rw [List.filter_filter]
    refine List.filter_congr fun x hx => ?_
    have hx := mem_rngI hx
    unfold cgB
    rw [nat_call h0 (by omega) (by omega)]
    by_cases e : x = i
    · subst e
      rw [if_pos rfl, inn.2.1]
      simp
    · rw [if_neg e]
      simp [e]
  have hm : i ∈ cgL a (callN b i) := cg_mem.mpr ⟨⟨h0, h1⟩, by rw [nat_call h0 (by omega) h0, if_pos rfl, inn.2.1]; exact fun z => inn.2.2 z.symm⟩
  have := len_drop (cg_pw a (callN b i)) hm
  rw [← e] at this
  omega
theorem runN_app (a : List Int) (s t : List Int) : runN a (s ++ t) = runN (runN a s) t := List.foldl_append
theorem dist_run {a : List Int} : ∀ (tape : List Int) {b : List Int}, Keep a b → (∀ i ∈ tape, 0 ≤ i ∧ i < a.length) → (cgL a (runN b tape)).length ≤ (cgL a b).length + tape.length
  | [], b, _, _ => Nat.le_refl _
  | i :: tape, b, h, ht => by
    have hi := ht i List.mem_cons_self
    have ih := dist_run tape (h.call hi.1 hi.2) fun j hj => ht j (List.mem_cons_of_mem _ hj)
    show (cgL a (runN (callN b i) tape)).length ≤ _
    rw [List.length_cons]
    by_cases e : callN b i = b
    · rw [e] at ih ⊢; omega
    · have := (h.more1 hi.1 hi.2 e).1; omega
/-- the row before -/
theorem Keep.back {a b : List Int} {k : Nat} (h : Keep a b) (hk : (cgL a b).length = k + 1) : ∃ (c : List Int) (i : Int), Keep a c ∧ (cgL a c).length = k ∧ 0 < i ∧ i + 1 < a.length ∧ callN c i = b := by
  obtain ⟨tape, t1, t2, t3⟩ := Keep.way (k + 1) h hk
  have t2' : ∀ i ∈ tape, 0 ≤ i ∧ i < a.length := fun i hi => by have := t2 i hi; omega
  rcases List.eq_nil_or_concat tape with e | ⟨s, i, e⟩
  · rw [e] at t1; cases t1
  · rw [List.concat_eq_append] at e
    subst e
    have hs : ∀ j ∈ s, 0 ≤ j ∧ j < a.length := fun j hj => t2' j (List.mem_append_left _ hj)
    have hi := t2 i (List.mem_append_right _ List.mem_cons_self)
    have kc := keep_run hs
    rw [runN_app] at t3
    have t3 : callN (runN a s) i = b := t3
    rw [List.length_append] at t1
    have d1 := dist_run s (Keep.refl a) hs
    have d0 : (cgL a a).length = 0 := by rw [(cg_nil rfl).mpr rfl]; rfl
    have d2 := dist_run [i] kc (fun j hj => by rw [List.mem_singleton.mp hj]; omega)
    have d2 : (cgL a (callN (runN a s) i)).length ≤ (cgL a (runN a s)).length + 1 := d2
    rw [t3, hk] at d2
    simp at t1
    exact ⟨runN a s, i, kc, by omega, hi.1, hi.2, t3⟩
end DL

/-! DNj: rows person by person: states, rows, how many. -/
namespace DL
open PySem L2
structure Sta where
  num : Int
  st : Bool
  came : Int
  wide : Bool
  deriving DecidableEq
abbrev Stt := Option Sta
def stD : Stt → D
  | none => .none
  | some s => .tuple [.int s.num, .bool s.st, .int s.came, .bool s.wide]
abbrev Opt := Int × Bool
def opt2D (o : Opt) : D := .tuple [.int o.1, .bool o.2]
def partN (a : List Int) (p : Int) (s : Sta) (o : Opt) (calm : Bool) : Stt :=
  if s.st = false ∨ nat a (p - 1) = nat a p ∨ decide (nat a (p - 1) < nat a p) ≠ decide (s.num < o.1) then none
  else if calm = true ∧ s.wide = false ∧ ¬ (s.came = 0 ∨ s.came = if s.num < o.1 then 1 else -1) then none
  else some ⟨o.1, !o.2, if calm then (if s.num < o.1 then 1 else -1) else 0, false⟩
def nxN (a : List Int) (p : Int) (s : Stt) (o : Opt) (calm : Bool) : Stt := match s with
  | none => some ⟨o.1, !o.2, 0, false⟩
  | some s => if o.1 = s.num then some ⟨s.num, s.st || !o.2, s.came, calm⟩ else partN a p s o calm
theorem part_num {a : List Int} {p : Int} {s : Sta} {o : Opt} {calm : Bool} {t : Sta} (h : partN a p s o calm = some t) : t.num = o.1 := by
  unfold partN at h
  by_cases c1 : s.st = false ∨ nat a (p - 1) = nat a p ∨ decide (nat a (p - 1) < nat a p) ≠ decide (s.num < o.1)
  · rw [if_pos c1] at h; cases h
  · rw [if_neg c1] at h
    by_cases c2 : calm = true ∧ s.wide = false ∧ ¬ (s.came = 0 ∨ s.came = if s.num < o.1 then 1 else -1)
    · rw [if_pos c2] at h; cases h
    · rw [if_neg c2] at h
      injection h with h
      rw [← h]
theorem nx_num {a : List Int} {p : Int} {s : Stt} {o : Opt} {calm : Bool} {t : Sta} (h : nxN a p s o calm = some t) : t.num = o.1 := by
  cases s with
  | none => injection h with h; rw [← h]
  | some s =>
    unfold nxN at h
    dsimp only at h
    by_cases e : o.1 = s.num
    · rw [if_pos e] at h
      injection h with h
      rw [← h]; exact e.symm
    · rw [if_neg e] at h
      exact part_num h
/-- the states after one more person -/
def nxL (a : List Int) (op : List Opt) (p : Int) (s : Stt) (calm : Bool) : List Sta := op.filterMap fun o => nxN a p s o calm
def accB : Stt → Bool
  | none => true
  | some s => s.st
/-- how many ways to go on, r people left, the next one p -/
def cntF (a : List Int) (ops : Int → List Opt) (calm : Bool) : Nat → Int → Stt → Nat
  | 0, _, s => if accB s then 1 else 0
  | r + 1, p, s => ((nxL a (ops p) p s calm).map fun t => cntF a ops calm r (p + 1) (some t)).sum
/-- the numbers that go on so -/
def rowF (a : List Int) (ops : Int → List Opt) (calm : Bool) : Nat → Int → Stt → List (List Int)
  | 0, _, s => if accB s then [[]] else []
  | r + 1, p, s => (nxL a (ops p) p s calm).flatMap fun t => (rowF a ops calm r (p + 1) (some t)).map (t.num :: ·)
theorem row_len (a : List Int) (ops : Int → List Opt) (calm : Bool) : ∀ (r : Nat) (p : Int) (s : Stt), (rowF a ops calm r p s).length = cntF a ops calm r p s
  | 0, p, s => by unfold rowF cntF; split <;> rfl
  | r + 1, p, s => by
    unfold rowF cntF
    rw [List.length_flatMap]
    congr 1
    refine List.map_congr_left fun t _ => ?_
    rw [List.length_map, row_len a ops calm r]
theorem row_each {a : List Int} {ops : Int → List Opt} {calm : Bool} : ∀ {r : Nat} {p : Int} {s : Stt} {c : List Int}, c ∈ rowF a ops calm r p s → c.length = r
  | 0, p, s, c, h => by
    unfold rowF at h
    split at h
    · rw [List.mem_singleton.mp h]; rfl
    · cases h
  | r + 1, p, s, c, h => by
    unfold rowF at h
    obtain ⟨t, _, h1⟩ := List.mem_flatMap.mp h
    obtain ⟨c', h2, rfl⟩ := List.mem_map.mp h1
    rw [List.length_cons, row_each h2]
/-! in ascending order -/
def AscO (op : List Opt) : Prop := op.Pairwise fun x y => x.1 < y.1
theorem nxL_pw {a : List Int} {op : List Opt} {p : Int} {s : Stt} {calm : Bool} (h : AscO op) : (nxL a op p s calm).Pairwise fun x y => x.num < y.num := by
  unfold nxL
  rw [List.pairwise_filterMap]
  exact h.imp fun {x y} hxy t ht u hu => by rw [nx_num ht, nx_num hu]; exact hxy
theorem cons_lt {x y : Int} {c d : List Int} : x :: c < y :: d ↔ x < y ∨ (x = y ∧ c < d) := List.cons_lt_cons_iff
theorem row_asc {a : List Int} {ops : Int → List Opt} {calm : Bool} (h : ∀ p, AscO (ops p)) : ∀ (r : Nat) (p : Int) (s : Stt), (rowF a ops calm r p s).Pairwise (· < ·)
  | 0, p, s => by
    unfold rowF
    split
    · exact List.pairwise_singleton _ _
    · exact .nil
  | r + 1, p, s => by
    unfold rowF
    rw [List.flatMap_def, List.pairwise_flatten]
    refine ⟨fun l hl => ?_, ?_⟩
    · obtain ⟨t, _, rfl⟩ := List.mem_map.mp hl
      rw [List.pairwise_map]
      exact (row_asc h r (p + 1) (some t)).imp fun hc => cons_lt.mpr (.inr ⟨rfl, hc⟩)
    · rw [List.pairwise_map]
      refine (nxL_pw (h p)).imp fun {t u} htu c hc d hd => ?_
      obtain ⟨c', _, rfl⟩ := List.mem_map.mp hc
      obtain ⟨d', _, rfl⟩ := List.mem_map.mp hd
      exact cons_lt.mpr (.inl htu)
theorem lt_irr (c : List Int) : ¬ c < c := List.lt_irrefl c
theorem row_nodup {a : List Int} {ops : Int → List Opt} {calm : Bool} (h : ∀ p, AscO (ops p)) (r : Nat) (p : Int) (s : Stt) : (rowF a ops calm r p s).Nodup := (row_asc h r p s).imp fun {x y} hxy e => by rw [e] at hxy; exact lt_irr y hxy
/-- two ascending lists of the same members are one -/
theorem asc_rows : ∀ {xs ys : List (List Int)}, xs.Pairwise (· < ·) → ys.Pairwise (· < ·) → (∀ c, c ∈ xs ↔ c ∈ ys) → xs = ys
  | [], [], _, _, _ => rfl
  | [], y :: ys, _, _, h => absurd ((h y).mpr List.mem_cons_self) (fun z => nomatch z)
  | x :: xs, [], _, _, h => absurd ((h x).mp List.mem_cons_self) (fun z => nomatch z)
  | x :: xs, y :: ys, hx, hy, h => by
    have hx := List.pairwise_cons.mp hx
    have hy := List.pairwise_cons.mp hy
    have as : ∀ {c d : List Int}, c < d → ¬ d < c := fun h1 h2 => lt_irr _ (List.lt_trans h1 h2)
    have e : x = y := by
      rcases List.mem_cons.mp ((h x).mp List.mem_cons_self) with e | e
      · exact e
      · rcases List.mem_cons.mp ((h y).mpr List.mem_cons_self) with e2 | e2
        · exact e2.symm
        · exact absurd (hx.1 y e2) (as (hy.1 x e))
    subst e
    congr 1
    refine asc_rows hx.2 hy.2 fun c => ⟨fun hc => ?_, fun hc => ?_⟩
    · rcases List.mem_cons.mp ((h c).mp (List.mem_cons_of_mem _ hc)) with e | e
      · subst e; exact absurd (hx.1 c hc) (lt_irr c)
      · exact e
    · rcases List.mem_cons.mp ((h c).mpr (List.mem_cons_of_mem _ hc)) with e | e
      · subst e; exact absurd (hy.1 c hc) (lt_irr c)
      · exact e
/-! the row with a number -/
theorem flat_at {α : Type} (f : α → List (List Int)) : ∀ (ts : List α) (k : Nat) (c : List Int), (ts.flatMap f)[k]? = some c → ∃ pre t post, ts = pre ++ t :: post ∧ (pre.map fun t => (f t).length).sum ≤ k ∧ k < (pre.map fun t => (f t).length).sum + (f t).length ∧ (f t)[k - (pre.map fun t => (f t).length).sum]? = some c
  | [], k, c, h => by simp at h
  | t :: ts, k, c, h => by
    rw [List.flatMap_cons] at h
    by_cases hk : k < (f t).length
    · rw [List.getElem?_append_left hk] at h
      exact ⟨[], t, ts, rfl, Nat.zero_le _, by simpa using hk, by simpa using h⟩
    · rw [List.getElem?_append_right (by omega)] at h
      obtain ⟨pre, u, post, e, h1, h2, h3⟩ := flat_at f ts (k - (f t).length) c h
      refine ⟨t :: pre, u, post, by rw [e]; rfl, ?_, ?_, ?_⟩
      · simp only [List.map_cons, List.sum_cons]; omega
      · simp only [List.map_cons, List.sum_cons]; omega
      · simp only [List.map_cons, List.sum_cons]
        rw [show k - ((f t).length + (pre.map fun t => (f t).length).sum) = k - (f t).length - (pre.map fun t => (f t).length).sum by omega]
        exact h3
/-! how many rows are less -/
def lessF (a : List Int) (ops : Int → List Opt) (calm : Bool) : List Int → Int → Stt → Nat
  | [], _, _ => 0
  | x :: c, p, s => (((nxL a (ops p) p s calm).filter fun t => decide (t.num < x)).map fun t => cntF a ops calm c.length (p + 1) (some t)).sum + match (nxL a (ops p) p s calm).filter fun t => decide (t.num = x) with
    | t :: _ => lessF a ops calm c (p + 1) (some t)
    | [] => 0
theorem less_at {a : List Int} {ops : Int → List Opt} {calm : Bool} (h : ∀ p, AscO (ops p)) : ∀ {c : List Int} {p : Int} {s : Stt}, c ∈ rowF a ops calm c.length p s → (rowF a ops calm c.length p s)[lessF a ops calm c p s]? = some c
  | [], p, s, hc => by
    have r0 : rowF a ops calm ([] : List Int).length p s = if accB s then [[]] else [] := rfl
    have l0 : lessF a ops calm [] p s = 0 := rfl
    rw [r0] at hc ⊢
    rw [l0]
    by_cases e : accB s = true
    · rw [if_pos e]; rfl
    · rw [if_neg e] at hc; cases hc
  | x :: c, p, s, hc => by
    have r1 : rowF a ops calm (x :: c).length p s = (nxL a (ops p) p s calm).flatMap fun t => (rowF a ops calm c.length (p + 1) (some t)).map (t.num :: ·) := rfl
    rw [r1] at hc ⊢
    obtain ⟨t, ht, hc1⟩ := List.mem_flatMap.mp hc
    obtain ⟨c', hc2, e⟩ := List.mem_map.mp hc1
    injection e with e1 e2
    rw [e2] at hc2
    have ih := less_at h hc2
    obtain ⟨pre, post, e3⟩ := List.append_of_mem ht
    have pw := nxL_pw (a := a) (p := p) (s := s) (calm := calm) (h p)
    unfold lessF
    rw [e3] at pw ⊢
    rw [List.pairwise_append] at pw
    obtain ⟨w1, w2, w3⟩ := pw
    have w2 := List.pairwise_cons.mp w2
    have g1 : (pre.filter fun u => decide (u.num < x)) = pre := List.filter_eq_self.mpr fun u hu => decide_eq_true (by have := w3 u hu t List.mem_cons_self; omega)
    have g2 : ((t :: post).filter fun u => decide (u.num < x)) = [] := List.filter_eq_nil_iff.mpr fun u hu => by
      simp only [decide_eq_true_eq]
      rcases List.mem_cons.mp hu with e | hu
      · rw [e]; omega
      · have := w2.1 u hu; omega
    have g3 : (pre.filter fun u => decide (u.num = x)) = [] := List.filter_eq_nil_iff.mpr fun u hu => by
      simp only [decide_eq_true_eq]; have := w3 u hu t List.mem_cons_self; omega
    have g4 : (post.filter fun u => decide (u.num = x)) = [] := List.filter_eq_nil_iff.mpr fun u hu => by
      simp only [decide_eq_true_eq]; have := w2.1 u hu; omega
    have f1 : ((pre ++ t :: post).filter fun u => decide (u.num < x)) = pre := by rw [List.filter_append, g1, g2, List.append_nil]
    have f2 : ((pre ++ t :: post).filter fun u => decide (u.num = x)) = [t] := by rw [List.filter_append, g3, List.nil_append, List.filter_cons, if_pos (decide_eq_true e1), g4]
    rw [f1, f2]
    dsimp only
    rw [List.flatMap_append, List.flatMap_cons]
    have lp : (pre.flatMap fun t => (rowF a ops calm c.length (p + 1) (some t)).map (t.num :: ·)).length = (pre.map fun t => cntF a ops calm c.length (p + 1) (some t)).sum := by
      rw [List.length_flatMap]
      congr 1
      refine List.map_congr_left fun u _ => ?_
      rw [List.length_map, row_len]
    rw [List.getElem?_append_right (by omega), lp, Nat.add_sub_cancel_left, List.getElem?_append_left (by
      rw [List.length_map]
      exact (List.getElem?_eq_some_iff.mp ih).1), List.getElem?_map, ih, Option.map_some, e1]
end DL

/-! DNk: the rows person by person are those that calls lead to. -/
namespace DL
open PySem L2
instance (a : List Int) (p : Int) : Decidable (IsT a p) := by unfold IsT; infer_instance
instance (a : List Int) (p : Int) : Decidable (IsD a p) := by unfold IsD; infer_instance
def optA (a : List Int) (p : Int) : List Opt :=
  if IsT a p then (((srtU a).filter fun x => decide (x < nat a p)).map fun x => (x, true)) ++ [(nat a p, false)]
  else if IsD a p then (nat a p, false) :: ((srtU a).filter fun x => decide (nat a p < x)).map fun x => (x, true)
  else [(nat a p, false)]
theorem not_td {a : List Int} {p : Int} (t : IsT a p) (d : IsD a p) : False := by have := t.2.2.1; have := d.2.2.1; omega
theorem optA_mem {a : List Int} {p x : Int} {c : Bool} : (x, c) ∈ optA a p ↔ (c = false ∧ x = nat a p) ∨ (c = true ∧ x ∈ a ∧ ((IsT a p ∧ x < nat a p) ∨ (IsD a p ∧ nat a p < x))) := by
  unfold optA
  by_cases t : IsT a p
  · rw [if_pos t, List.mem_append, List.mem_map, List.mem_singleton]
    constructor
    · rintro (⟨y, hy, e⟩ | e)
      · cases e
        obtain ⟨h1, h2⟩ := List.mem_filter.mp hy
        exact .inr ⟨rfl, mem_srtU.mp h1, .inl ⟨t, of_decide_eq_true h2⟩⟩
      · cases e; exact .inl ⟨rfl, rfl⟩
    · rintro (⟨rfl, rfl⟩ | ⟨rfl, h1, ⟨_, h2⟩ | ⟨d, _⟩⟩)
      · exact .inr rfl
      · exact .inl ⟨x, List.mem_filter.mpr ⟨mem_srtU.mpr h1, decide_eq_true h2⟩, rfl⟩
      · exact (not_td t d).elim
  · rw [if_neg t]
    by_cases d : IsD a p
    · rw [if_pos d, List.mem_cons, List.mem_map]
      constructor
      · rintro (e | ⟨y, hy, e⟩)
        · cases e; exact .inl ⟨rfl, rfl⟩
        · cases e
          obtain ⟨h1, h2⟩ := List.mem_filter.mp hy
          exact .inr ⟨rfl, mem_srtU.mp h1, .inr ⟨d, of_decide_eq_true h2⟩⟩
      · rintro (⟨rfl, rfl⟩ | ⟨rfl, h1, ⟨z, _⟩ | ⟨_, h2⟩⟩)
        · exact .inl rfl
        · exact (t z).elim
        · exact .inr ⟨x, List.mem_filter.mpr ⟨mem_srtU.mpr h1, decide_eq_true h2⟩, rfl⟩
    · rw [if_neg d, List.mem_singleton]
      constructor
      · intro e; cases e; exact .inl ⟨rfl, rfl⟩
      · rintro (⟨rfl, rfl⟩ | ⟨rfl, _, ⟨z, _⟩ | ⟨z, _⟩⟩)
        · rfl
        · exact (t z).elim
        · exact (d z).elim
theorem optA_asc (a : List Int) (p : Int) : AscO (optA a p) := by
  unfold AscO optA
  have s1 : ∀ f : Int → Bool, (((srtU a).filter f).map fun x => ((x, true) : Opt)).Pairwise fun x y => x.1 < y.1 := fun f => by
    rw [List.pairwise_map]
    exact asc_srtU.filter _
  split
  · rw [List.pairwise_append]
    refine ⟨s1 _, List.pairwise_singleton _ _, fun x hx y hy => ?_⟩
    obtain ⟨z, hz, rfl⟩ := List.mem_map.mp hx
    rw [List.mem_singleton.mp hy]
    exact of_decide_eq_true (List.mem_filter.mp hz).2
  · split
    · rw [List.pairwise_cons]
      refine ⟨fun x hx => ?_, s1 _⟩
      obtain ⟨z, hz, rfl⟩ := List.mem_map.mp hx
      exact of_decide_eq_true (p := nat a p < z) (List.mem_filter.mp hz).2
    · exact List.pairwise_singleton _ _
/-! along a row -/
def OptOk (a b : List Int) (k : Nat) : Prop := (nat b k, !decide (nat a k = nat b k)) ∈ optA a k
def stayB (a b : List Int) : Nat → Bool
  | 0 => decide (nat a (0 : Nat) = nat b (0 : Nat))
  | k + 1 => if nat b ((k + 1 : Nat) : Int) = nat b (k : Nat) then stayB a b k || decide (nat a ((k + 1 : Nat) : Int) = nat b ((k + 1 : Nat) : Int)) else decide (nat a ((k + 1 : Nat) : Int) = nat b ((k + 1 : Nat) : Int))
def stAt (a b : List Int) : Nat → Stt
  | 0 => none
  | k + 1 => some ⟨nat b (k : Nat), stayB a b k, 0, false⟩
/-- the step to person k + 1 is fine -/
def PartOk (a b : List Int) (k : Nat) : Prop := nat b (k : Nat) ≠ nat b ((k + 1 : Nat) : Int) → nat a (k : Nat) ≠ nat a ((k + 1 : Nat) : Int) ∧ (nat a (k : Nat) < nat a ((k + 1 : Nat) : Int) ↔ nat b (k : Nat) < nat b ((k + 1 : Nat) : Int)) ∧ stayB a b k = true
def StepOk (a b : List Int) : Nat → Prop
  | 0 => True
  | k + 1 => PartOk a b k
theorem dec_iff {p q : Prop} [Decidable p] [Decidable q] : decide p = decide q ↔ (p ↔ q) := decide_eq_decide
theorem nx_at {a b : List Int} : ∀ (k : Nat), (StepOk a b k → nxN a k (stAt a b k) (nat b k, !decide (nat a k = nat b k)) false = stAt a b (k + 1)) ∧ (¬ StepOk a b k → nxN a k (stAt a b k) (nat b k, !decide (nat a k = nat b k)) false = none)
  | 0 => by
    refine ⟨fun _ => ?_, fun h => absurd True.intro h⟩
    show some (Sta.mk _ _ 0 false) = some (Sta.mk _ _ 0 false)
    unfold stayB
    simp
  | k + 1 => by
    have e : nxN a ((k + 1 : Nat) : Int) (stAt a b (k + 1)) (nat b ((k + 1 : Nat) : Int), !decide (nat a ((k + 1 : Nat) : Int) = nat b ((k + 1 : Nat) : Int))) false = if nat b ((k + 1 : Nat) : Int) = nat b (k : Nat) then some ⟨nat b (k : Nat), stayB a b k || !!decide (nat a ((k + 1 : Nat) : Int) = nat b ((k + 1 : Nat) : Int)), 0, false⟩ else partN a ((k + 1 : Nat) : Int) ⟨nat b (k : Nat), stayB a b k, 0, false⟩ (nat b ((k + 1 : Nat) : Int), !decide (nat a ((k + 1 : Nat) : Int) = nat b ((k + 1 : Nat) : Int))) false := rfl
    rw [e]
    have ek : ((k + 1 : Nat) : Int) - 1 = (k : Nat) := by omega
    by_cases c : nat b ((k + 1 : Nat) : Int) = nat b (k : Nat)
    · rw [if_pos c]
      refine ⟨fun _ => ?_, fun h => absurd (fun z => absurd c.symm z) h⟩
      show some _ = some (Sta.mk (nat b ((k + 1 : Nat) : Int)) (stayB a b (k + 1)) 0 false)
      have s1 : stayB a b (k + 1) = (stayB a b k || decide (nat a ((k + 1 : Nat) : Int) = nat b ((k + 1 : Nat) : Int))) := by
        show (if nat b ((k + 1 : Nat) : Int) = nat b (k : Nat) then _ else _) = _
        rw [if_pos c]
      rw [s1, Bool.not_not, c]
    · rw [if_neg c]
      unfold partN
      dsimp only
      rw [ek]
      refine ⟨fun h => ?_, fun h => ?_⟩
      · obtain ⟨h1, h2, h3⟩ := h fun z => c z.symm
        rw [if_neg (by
          rintro (z | z | z)
          · rw [h3] at z; cases z
          · exact h1 z
          · exact z (dec_iff.mpr h2)), if_neg (by rintro ⟨z, _⟩; cases z)]
        show some _ = some (Sta.mk (nat b ((k + 1 : Nat) : Int)) (stayB a b (k + 1)) 0 false)
        have s1 : stayB a b (k + 1) = decide (nat a ((k + 1 : Nat) : Int) = nat b ((k + 1 : Nat) : Int)) := by
          show (if nat b ((k + 1 : Nat) : Int) = nat b (k : Nat) then _ else _) = _
          rw [if_neg c]
        rw [s1, Bool.not_not]
        rfl
      · rw [if_pos]
        by_cases z1 : stayB a b k = false
        · exact .inl z1
        · by_cases z2 : nat a (k : Nat) = nat a ((k + 1 : Nat) : Int)
          · exact .inr (.inl z2)
          · refine .inr (.inr fun z => h fun _ => ⟨z2, dec_iff.mp z, ?_⟩)
            cases e2 : stayB a b k with
            | true => rfl
            | false => exact absurd e2 z1
theorem opt_flag {a : List Int} {p x : Int} {c : Bool} (h : (x, c) ∈ optA a p) : c = !decide (nat a p = x) := by
  rcases optA_mem.mp h with ⟨rfl, rfl⟩ | ⟨rfl, _, ⟨_, h⟩ | ⟨_, h⟩⟩
  · simp
  · rw [decide_eq_false (by omega)]; rfl
  · rw [decide_eq_false (by omega)]; rfl
theorem drop_at {b : List Int} {k : Nat} (h : k < b.length) : b.drop k = nat b k :: b.drop (k + 1) := by
  rw [List.drop_eq_getElem_cons h]
  congr 1
  unfold nat
  rw [Int.toNat_natCast, List.getElem?_eq_getElem h]; rfl
theorem row_path {a b : List Int} : ∀ (r k : Nat), k + r = b.length → (b.drop k ∈ rowF a (optA a) false r k (stAt a b k) ↔ (∀ p, k ≤ p → p < b.length → OptOk a b p ∧ StepOk a b p) ∧ accB (stAt a b b.length) = true)
  | 0, k, h => by
    have e : k = b.length := by omega
    subst e
    rw [List.drop_length]
    show [] ∈ (if accB (stAt a b b.length) then [[]] else []) ↔ _
    constructor
    · intro hm
      refine ⟨fun p h1 h2 => absurd h1 (by omega), ?_⟩
      by_cases z : accB (stAt a b b.length) = true
      · exact z
      · rw [if_neg z] at hm; cases hm
    · intro ⟨_, z⟩
      rw [if_pos z]; exact List.mem_singleton.mpr rfl
  | r + 1, k, h => by
    have hk : k < b.length := by omega
    have ih := row_path (a := a) (b := b) r (k + 1) (by omega)
    rw [drop_at hk]
    have rs : rowF a (optA a) false (r + 1) k (stAt a b k) = (nxL a (optA a k) k (stAt a b k) false).flatMap fun t => (rowF a (optA a) false r ((k + 1 : Nat) : Int) (some t)).map (t.num :: ·) := rfl
    rw [rs, List.mem_flatMap]
    obtain ⟨n1, n2⟩ := nx_at (a := a) (b := b) k
    constructor
    · rintro ⟨t, ht, hm⟩
      obtain ⟨c, hc, e⟩ := List.mem_map.mp hm
      injection e with e1 e2
      subst e2
      obtain ⟨o, ho, hn⟩ := List.mem_filterMap.mp ht
      have en := nx_num hn
      obtain ⟨x, f⟩ := o
      have ex : x = nat b k := by rw [← e1, en]
      subst ex
      have ef := opt_flag ho
      subst ef
      have so : StepOk a b k := by
        by_cases z : StepOk a b k
        · exact z
        · rw [n2 z] at hn; cases hn
      rw [n1 so] at hn
      rw [← hn] at hc
      obtain ⟨i1, i2⟩ := ih.mp hc
      refine ⟨fun p h1 h2 => ?_, i2⟩
      by_cases e : p = k
      · subst e; exact ⟨ho, so⟩
      · exact i1 p (by omega) h2
    · intro ⟨h1, h2⟩
      obtain ⟨ho, so⟩ := h1 k (Nat.le_refl _) hk
      have hm := ih.mpr ⟨fun p h3 h4 => h1 p (by omega) h4, h2⟩
      exact ⟨⟨nat b (k : Nat), stayB a b k, 0, false⟩, List.mem_filterMap.mpr ⟨_, ho, n1 so⟩, List.mem_map.mpr ⟨_, hm, rfl⟩⟩
/-- somebody of the run up to k stayed -/
theorem stay_iff {a b : List Int} : ∀ (k : Nat), stayB a b k = true ↔ ∃ q : Nat, q ≤ k ∧ nat a (q : Nat) = nat b (q : Nat) ∧ ∀ r : Nat, q ≤ r → r ≤ k → nat b (r : Nat) = nat b (k : Nat)
  | 0 => by
    unfold stayB
    rw [decide_eq_true_eq]
    constructor
    · intro h; exact ⟨0, Nat.le_refl 0, h, fun r h1 h2 => by rw [show r = 0 by omega]⟩
    · rintro ⟨q, h1, h2, _⟩
      rw [show q = 0 by omega] at h2; exact h2
  | k + 1 => by
    have ih := stay_iff (a := a) (b := b) k
    show (if nat b ((k + 1 : Nat) : Int) = nat b (k : Nat) then _ else _) = true ↔ _
    by_cases c : nat b ((k + 1 : Nat) : Int) = nat b (k : Nat)
    · rw [if_pos c, Bool.or_eq_true, decide_eq_true_eq, ih]
      constructor
      · rintro (⟨q, h1, h2, h3⟩ | h)
        · refine ⟨q, by omega, h2, fun r h4 h5 => ?_⟩
          by_cases e : r = k + 1
          · rw [e]
          · rw [c]; exact h3 r h4 (by omega)
        · exact ⟨k + 1, Nat.le_refl _, h, fun r h1 h2 => by rw [show r = k + 1 by omega]⟩
      · rintro ⟨q, h1, h2, h3⟩
        by_cases e : q = k + 1
        · subst e; exact .inr h2
        · refine .inl ⟨q, by omega, h2, fun r h4 h5 => ?_⟩
          rw [h3 r h4 (by omega), c]
    · rw [if_neg c, decide_eq_true_eq]
      constructor
      · intro h; exact ⟨k + 1, Nat.le_refl _, h, fun r h1 h2 => by rw [show r = k + 1 by omega]⟩
      · rintro ⟨q, h1, h2, h3⟩
        by_cases e : q = k + 1
        · subst e; exact h2
        · exact absurd (h3 k (by omega) (by omega)).symm c
theorem nat_mem {a : List Int} {p : Int} (h0 : 0 ≤ p) (h1 : p < a.length) : nat a p ∈ a := by
  unfold nat
  have : p.toNat < a.length := by omega
  rw [List.getElem?_eq_getElem this]
  exact List.getElem_mem this
theorem keep_path {a b : List Int} (hl : b.length = a.length) : Keep a b ↔ (∀ p, 0 ≤ p → p < b.length → OptOk a b p ∧ StepOk a b p) ∧ accB (stAt a b b.length) = true := by
  constructor
  · intro h
    have stay : ∀ k : Nat, k < a.length → (k + 1 = a.length ∨ nat b ((k + 1 : Nat) : Int) ≠ nat b (k : Nat)) → stayB a b k = true := fun k hk hn => by
      obtain ⟨q, q0, q1, qs, qr⟩ := h.run k (by omega) (by omega)
      have hq : q ≤ k := by
        by_cases z : q ≤ k
        · exact z
        · rcases hn with hn | hn
          · omega
          · exact absurd (qr ((k + 1 : Nat) : Int) (by unfold Btw; omega)) hn
      refine (stay_iff k).mpr ⟨q.toNat, by omega, by rw [show ((q.toNat : Nat) : Int) = q by omega]; exact qs, fun r h1 h2 => qr r (by unfold Btw; omega)⟩
    refine ⟨fun p _ hp => ⟨?_, ?_⟩, ?_⟩
    · unfold OptOk
      rw [optA_mem]
      rcases h.chg p (by omega) (by omega) with c | ⟨t, c⟩ | ⟨t, c⟩
      · exact .inl ⟨by rw [decide_eq_true c]; rfl, c.symm⟩
      · obtain ⟨q, q0, q1, qs, qr⟩ := h.run p (by omega) (by omega)
        have hb : nat b p ∈ a := by
          have : nat b q = nat b p := qr q (by unfold Btw; omega)
          rw [← this, ← qs]; exact nat_mem q0 q1
        exact .inr ⟨by rw [decide_eq_false (by omega)]; rfl, hb, .inl ⟨t, c⟩⟩
      · obtain ⟨q, q0, q1, qs, qr⟩ := h.run p (by omega) (by omega)
        have hb : nat b p ∈ a := by
          have : nat b q = nat b p := qr q (by unfold Btw; omega)
          rw [← this, ← qs]; exact nat_mem q0 q1
        exact .inr ⟨by rw [decide_eq_false (by omega)]; rfl, hb, .inr ⟨t, c⟩⟩
    · cases p with
      | zero => exact True.intro
      | succ k =>
        intro hn
        have o := h.ord k (by omega) (by omega)
        rw [show (k : Int) + 1 = ((k + 1 : Nat) : Int) by omega] at o
        exact ⟨by omega, by omega, stay k (by omega) (.inr fun z => hn z.symm)⟩
    · rw [hl]
      cases e : a.length with
      | zero => rfl
      | succ k => exact stay k (by omega) (.inl e.symm)
  · intro ⟨h1, h2⟩
    refine ⟨hl, fun p p0 p1 => ?_, fun p p0 p1 => ?_, fun p p0 p1 => ?_⟩
    · obtain ⟨ho, _⟩ := h1 p.toNat (Nat.zero_le _) (by omega)
      unfold OptOk at ho
      rw [show ((p.toNat : Nat) : Int) = p by omega] at ho
      rcases optA_mem.mp ho with ⟨_, z⟩ | ⟨_, _, z | z⟩
      · exact .inl z.symm
      · exact .inr (.inl z)
      · exact .inr (.inr z)
    · obtain ⟨_, so⟩ := h1 (p.toNat + 1) (Nat.zero_le _) (by omega)
      have so : PartOk a b p.toNat := so
      unfold PartOk at so
      rw [show ((p.toNat + 1 : Nat) : Int) = p + 1 by omega, show ((p.toNat : Nat) : Int) = p by omega] at so
      by_cases e : nat b p = nat b (p + 1)
      · omega
      · have := so e; omega
    · -- the end of the run of p
      have go : ∀ (m k : Nat), k + m + 1 = a.length → ∃ e : Nat, k ≤ e ∧ e < a.length ∧ stayB a b e = true ∧ ∀ r : Nat, k ≤ r → r ≤ e → nat b (r : Nat) = nat b (k : Nat) := by
        intro m
        induction m with
        | zero =>
          intro k hk
          refine ⟨k, Nat.le_refl _, by omega, ?_, fun r h3 h4 => by rw [show r = k by omega]⟩
          rw [hl, show a.length = k + 1 by omega] at h2
          exact h2
        | succ m ih =>
          intro k hk
          by_cases c : nat b (k : Nat) = nat b ((k + 1 : Nat) : Int)
          · obtain ⟨e, h3, h4, h5, h6⟩ := ih (k + 1) (by omega)
            refine ⟨e, by omega, h4, h5, fun r h7 h8 => ?_⟩
            by_cases e2 : r = k
            · rw [e2]
            · rw [h6 r (by omega) h8, c]
          · obtain ⟨_, so⟩ := h1 (k + 1) (Nat.zero_le _) (by omega)
            exact ⟨k, Nat.le_refl _, by omega, (so c).2.2, fun r h3 h4 => by rw [show r = k by omega]⟩
      obtain ⟨e, h3, h4, h5, h6⟩ := go (a.length - 1 - p.toNat) p.toNat (by omega)
      obtain ⟨q, g1, g2, g3⟩ := (stay_iff e).mp h5
      refine ⟨q, by omega, by omega, g2, fun r hr => ?_⟩
      have ep : ((p.toNat : Nat) : Int) = p := by omega
      have he : nat b (e : Nat) = nat b p := by rw [← ep]; exact h6 e h3 (Nat.le_refl _)
      have r0 : 0 ≤ r := by unfold Btw at hr; omega
      have er : ((r.toNat : Nat) : Int) = r := by omega
      rw [← er]
      by_cases c : r.toNat ≤ e ∧ p.toNat ≤ r.toNat
      · rw [h6 r.toNat c.2 c.1, ep]
      · rw [g3 r.toNat (by unfold Btw at hr; omega) (by unfold Btw at hr; omega), he]
theorem row_keep {a b : List Int} : b ∈ rowF a (optA a) false a.length 0 none ↔ Keep a b := by
  constructor
  · intro h
    have hl : b.length = a.length := row_each h
    refine (keep_path hl).mpr ?_
    have := (row_path (a := a) (b := b) a.length 0 (by omega)).mp (by rw [List.drop_zero]; exact h)
    exact this
  · intro h
    have hl := h.len
    have := (row_path (a := a) (b := b) a.length 0 (by omega)).mpr ((keep_path hl).mp h)
    rw [List.drop_zero] at this
    exact this
end DL

/-! DNl: general lemmas for the plain parts: comprehensions over typed lists. -/
namespace DL
open PySem L2
theorem lc_emb {α : Type} {vs : List Nat} {k : GG} {t : GT} {e : GE} {ρ : Rho} {emb out : α → D} (p : α → Bool) : ∀ {as : List α}, (∀ a ∈ as, ∃ ρ1, k (emb a) ρ = some ρ1 ∧ wipeR ρ1 vs = ρ ∧ t ρ1 = .ok (p a) ρ1 ∧ (p a = true → e ρ1 = .ok (out a) ρ1)) → lcL vs k t e (as.map emb) ρ = .ok ((as.filter p).map out) ρ
  | [], _ => rfl
  | a :: as, h => by
    obtain ⟨ρ1, e1, ew, et, ee⟩ := h a List.mem_cons_self
    have ih := lc_emb (as := as) p fun x hx => h x (List.mem_cons_of_mem _ hx)
    rw [List.map_cons]
    unfold lcL
    rw [e1]
    dsimp only
    cases hp : p a with
    | true => rw [et, R.ok_bind, hp, if_pos rfl, ee hp, R.ok_bind, ew, ih, List.filter_cons, if_pos hp]; rfl
    | false => rw [et, R.ok_bind, hp, if_neg Bool.false_ne_true, ew, ih, List.filter_cons, if_neg (by rw [hp]; simp)]
theorem lc_emb1 {α : Type} {vs : List Nat} {k : GG} {e : GE} {ρ : Rho} {emb out : α → D} {as : List α} (h : ∀ a ∈ as, ∃ ρ1, k (emb a) ρ = some ρ1 ∧ wipeR ρ1 vs = ρ ∧ e ρ1 = .ok (out a) ρ1) : lcL vs k gYes e (as.map emb) ρ = .ok (as.map out) ρ := by
  have := lc_emb (vs := vs) (k := k) (t := gYes) (e := e) (ρ := ρ) (emb := emb) (out := out) (fun _ => true) (as := as) fun a ha => by
    obtain ⟨ρ1, e1, e2, e3⟩ := h a ha
    exact ⟨ρ1, e1, e2, rfl, fun _ => e3⟩
  rw [this, List.filter_eq_self.mpr fun _ _ => rfl]
theorem seq_rt' {a b : GS} {ρ ρ1 : Rho} {d : D} (h : a ρ = .rt d ρ1) : sSeq a b ρ = .rt d ρ1 := by unfold sSeq; rw [h]; rfl
end DL

/-! DNm: sorted of options, of rows. -/
namespace DL
open PySem L2
open PySem.W (dataLe AllAlike Sortable alike alikeAll dataLt)
theorem sort_all {β : Type} {enc : β → D} {l m : List β} {x : D} (lt : β → β → Prop) (ei : itemsSD x = some (l.map enc)) (hs : sortableB (l.map enc) = true) (hn : ∀ b ∈ l, noD (enc b) = true ∧ (enc b).depth ≤ 50) (hp : l.Perm m) (hm : m.Pairwise lt) (hle : ∀ b c, dataLe false enc b c = true → ¬ lt c b) :
    sortDD [x] = some (m.map enc) := by
  show (match itemsSD x with
    | some ds => if sortableB ds = true ∧ (ds.all fun d => noD d && decide (d.depth ≤ 50)) = true then some (ds.mergeSort (dataLe false id)) else none
    | none => none) = _
  rw [ei]
  dsimp only
  rw [if_pos ⟨hs, List.all_eq_true.mpr fun d hd => by
    obtain ⟨b, hb, rfl⟩ := List.mem_map.mp hd
    obtain ⟨h1, h2⟩ := hn b hb
    rw [h1, decide_eq_true h2]; rfl⟩]
  congr 1
  have sm := PySem.W.sort_maps (r := dataLe false enc) (s := dataLe false id) enc (l := l) (fun _ _ _ _ => rfl)
  rw [← sm]
  congr 1
  have pp : (l.mergeSort (dataLe false enc)).Perm m := (List.mergeSort_perm _ _).trans hp
  have pw := PySem.W.sort_pairwise (PySem.W.sortLe_total (PyProof.Rows.listOrd PyProof.Rows.itemOrd) false fun b => PySem.W.keyToks (enc b)) l
  have pw : (l.mergeSort (dataLe false enc)).Pairwise fun b c => dataLe false enc b c = true := pw
  have go : ∀ {xs ys : List β}, xs.Perm ys → xs.Pairwise (fun b c => dataLe false enc b c = true) → ys.Pairwise lt → xs = ys := by
    intro xs
    induction xs with
    | nil => intro ys h _ _; exact (List.nil_perm.mp h).symm
    | cons b bs ih =>
      intro ys h1 h2 h3
      cases ys with
      | nil => exact absurd h1.length_eq (by simp)
      | cons c cs =>
        have h2 := List.pairwise_cons.mp h2
        have h3' := List.pairwise_cons.mp h3
        have e : b = c := by
          have hb : b ∈ c :: cs := h1.mem_iff.mp List.mem_cons_self
          have hc : c ∈ b :: bs := h1.mem_iff.mpr List.mem_cons_self
          rcases List.mem_cons.mp hb with e | hb
          · exact e
          · rcases List.mem_cons.mp hc with e | hc
            · exact e.symm
            · exact absurd (h3'.1 b hb) (hle b c (h2.1 c hc))
        subst e
        rw [ih h1.cons_inv h2.2 h3'.2]
  exact go pp pw hm
/-! options -/
theorem opt_alike (o q : Opt) : alike (opt2D o) (opt2D q) = true := by simp [opt2D, alike, alikeAll]
theorem dataLt_opt (o q : Opt) (h : o.1 < q.1) : dataLt (opt2D o) (opt2D q) = true := by
  unfold opt2D
  rw [PySem.W.dataLt_pair (by simp [alike]) (by simp [alike])]
  rw [if_neg (by simp [PyData.eqv]; omega), PySem.W.dataLt_int]
  exact decide_eq_true h
theorem sort_opts {os ms : List Opt} (hp : os.Perm ms) (hm : AscO ms) : sortDD [.list (os.map opt2D)] = some (ms.map opt2D) := by
  refine sort_all (enc := opt2D) (fun x y : Opt => x.1 < y.1) rfl ?_ (fun o _ => ⟨rfl, by simp [opt2D, PyData.depth, PyData.depthAll]⟩) hp hm fun o q h hlt => ?_
  · unfold sortableB
    rw [Bool.or_eq_true]
    refine .inr ?_
    rw [Bool.and_eq_true, List.all_eq_true, List.all_eq_true]
    refine ⟨fun d hd => List.all_eq_true.mpr fun e he => ?_, fun d hd => ?_⟩
    · obtain ⟨o, _, rfl⟩ := List.mem_map.mp hd
      obtain ⟨q, _, rfl⟩ := List.mem_map.mp he
      exact opt_alike o q
    · obtain ⟨o, _, rfl⟩ := List.mem_map.mp hd
      rfl
  · have h : (!dataLt (opt2D q) (opt2D o)) = true := h
    rw [dataLt_opt q o hlt] at h
    cases h
/-! rows -/
def rowD (b : List Int) : D := .tuple (b.map .int)
theorem dataLt_row (b c : List Int) : dataLt (rowD b) (rowD c) = decide (b < c) := by
  unfold rowD
  rw [PySem.W.dataLt_tuple]
  exact PySem.W.dataLt_ints b c
theorem row_noD : ∀ b : List Int, noDs (b.map PyData.int) = true
  | [] => rfl
  | x :: b => by
    show (noD (.int x) && noDs (b.map PyData.int)) = true
    rw [row_noD b]; rfl
theorem row_depth (b : List Int) : (rowD b).depth ≤ 50 := by
  unfold rowD
  have := PySem.W.depth_ints b
  simp only [PyData.depth]
  omega
theorem sort_rows {x : D} {bs ms : List (List Int)} (ei : itemsSD x = some (bs.map rowD)) (hc : bs.length ≤ 1 ∨ ∀ b ∈ bs, b ≠ []) (hp : bs.Perm ms) (hm : ms.Pairwise (· < ·)) : sortDD [x] = some (ms.map rowD) := by
  refine sort_all (enc := rowD) (fun x y : List Int => x < y) ei ?_ (fun b _ => ⟨row_noD b, row_depth b⟩) hp hm fun b c h hlt => ?_
  · unfold sortableB
    rw [Bool.or_eq_true]
    rcases hc with hc | hc
    · exact .inl (decide_eq_true (by rw [List.length_map]; exact hc))
    · refine .inr ?_
      rw [Bool.and_eq_true, List.all_eq_true, List.all_eq_true]
      refine ⟨fun d hd => List.all_eq_true.mpr fun e he => ?_, fun d hd => ?_⟩
      · obtain ⟨b, _, rfl⟩ := List.mem_map.mp hd
        obtain ⟨c, _, rfl⟩ := List.mem_map.mp he
        show alike (.tuple (b.map .int)) (.tuple (c.map .int)) = true
        simp only [alike]
        exact PySem.W.alike_ints b c
      · obtain ⟨b, hb, rfl⟩ := List.mem_map.mp hd
        cases b with
        | nil => exact absurd rfl (hc _ hb)
        | cons y b => rfl
  · have h : (!dataLt (rowD c) (rowD b)) = true := h
    rw [dataLt_row, decide_eq_true hlt] at h
    cases h
end DL

/-! DNn: a, b, c = .. with any of them new lists. -/
namespace DL
open PySem PySem.Spec PyProof.Rows L2
section
variable {X : Cx} {K : PySem.W.Frag} {Wx : WX} {ta tb te td : TE} {tas : TA}
theorem ds_par3N {i j l : Nat} {gn : Rho → R (List Nw)} (h : DNP K tas gn) (h0 : ∀ k ∈ [i, j, l], k ≠ 0 := by decide) : DS K Wx (tPar3 i j l tas) (sTupN [i, j, l] gn) := fun b0 B Z0 Z H σ ρ E ok s => by
  obtain ⟨ns, ρ1, e1, s⟩ := Sat.to s
  split at s
  · rename_i hl
    refine h b0 B Z0 Z H σ ρ ns ρ1 _ ok e1 fun vs H1 Z1 qs ok1 s1 r1 => ?_
    have lv : vs.length = 3 := r1.len.trans hl
    match vs, lv, r1 with
    | [u, v, w], _, r1 => exact ⟨u, v, w, rfl, s _ _ Z1 (Ok.setN ok1 r1 h0 hl.symm)⟩
  · exact s.elim
end
end DL

/-! DNo: dicts keyed by states; layers of states. -/
namespace DL
open PySem L2
theorem b2i_inj {a b : Bool} (h : (if a = true then (1 : Int) else 0) = if b = true then 1 else 0) : a = b := by
  cases a <;> cases b <;> simp at h <;> rfl
theorem kk_st : ∀ {s t : Stt}, kkD (stD s) = kkD (stD t) → s = t
  | none, none, _ => rfl
  | none, some t, h => by cases h
  | some s, none, h => by cases h
  | some s, some t, h => by
    obtain ⟨a, b, c, d⟩ := s
    obtain ⟨a', b', c', d'⟩ := t
    have h : some (KK.tp [.num a, .num (if b then 1 else 0), .num c, .num (if d then 1 else 0)]) = some (KK.tp [.num a', .num (if b' then 1 else 0), .num c', .num (if d' then 1 else 0)]) := h
    simp only [Option.some.injEq, KK.tp.injEq, List.cons.injEq, Leaf.num.injEq, and_true] at h
    obtain ⟨h1, h2, h3, h4⟩ := h
    rw [h1, b2i_inj h2, h3, b2i_inj h4]
theorem lf_none : isLf (stD none) = true := rfl
theorem tp_st (s : Sta) : isTp (stD (some s)) = true := rfl
/-- all none, or all states -/
def Hom (l : List Stt) : Prop := (∀ s ∈ l, s = none) ∨ ∀ s ∈ l, s ≠ none
def tabD (f : Stt → D) (l : List Stt) : List (D × D) := l.map fun s => (stD s, f s)
theorem sort_st {f : Stt → D} {l : List Stt} {x : Stt} (h : Hom (x :: l)) : sortB (stD x) (tabD f l) = true := by
  unfold sortB tabD
  rw [Bool.or_eq_true, Bool.and_eq_true, Bool.and_eq_true, List.all_eq_true, List.all_eq_true]
  rcases h with h | h
  · refine .inl ⟨by rw [h x List.mem_cons_self]; rfl, fun p hp => ?_⟩
    obtain ⟨s, hs, rfl⟩ := List.mem_map.mp hp
    rw [h s (List.mem_cons_of_mem _ hs)]; rfl
  · have go : ∀ s : Stt, s ≠ none → isTp (stD s) = true := fun s hs => by
      cases s with
      | none => exact absurd rfl hs
      | some s => rfl
    refine .inr ⟨go x (h x List.mem_cons_self), fun p hp => ?_⟩
    obtain ⟨s, hs, rfl⟩ := List.mem_map.mp hp
    exact go s (h s (List.mem_cons_of_mem _ hs))
theorem find_st {f : Stt → D} {x : Stt} : ∀ {l : List Stt}, (x ∈ l → dFind (tabD f l) (stD x) = some (f x)) ∧ (x ∉ l → dFind (tabD f l) (stD x) = none)
  | [] => ⟨fun h => (nomatch h), fun _ => rfl⟩
  | s :: l => by
    have ih := find_st (f := f) (x := x) (l := l)
    by_cases e : s = x
    · subst e
      refine ⟨fun _ => ?_, fun h => absurd List.mem_cons_self h⟩
      simp [dFind, tabD, List.find?_cons]
    · have b : dFind (tabD f (s :: l)) (stD x) = dFind (tabD f l) (stD x) := by
        have ne : ¬ kkD (stD s) = kkD (stD x) := fun z => e (kk_st z)
        simp [dFind, tabD, List.find?_cons, ne]
      rw [b]
      refine ⟨fun h => ih.1 ?_, fun h => ih.2 fun z => h (List.mem_cons_of_mem _ z)⟩
      rcases List.mem_cons.mp h with z | z
      · exact absurd z.symm e
      · exact z
theorem get_st {f : Stt → D} {l : List Stt} {x : Stt} (h : Hom l) (hx : x ∈ l) : dGetD (dcD (tabD f l)) (stD x) = some (f x) := by
  have hs : sortB (stD x) (tabD f l) = true := sort_st (by
    rcases h with h | h
    · exact .inl fun s hs => (List.mem_cons.mp hs).elim (fun e => by rw [e]; exact h x hx) (h s)
    · exact .inr fun s hs => (List.mem_cons.mp hs).elim (fun e => by rw [e]; exact h x hx) (h s))
  show (if sortB (stD x) (tabD f l) = true then dFind (tabD f l) (stD x) else none) = _
  rw [if_pos hs]
  exact find_st.1 hx
def insS (l : List Stt) (x : Stt) : List Stt := if x ∈ l then l else l ++ [x]
theorem put_st {f : Stt → D} {l : List Stt} {x : Stt} {d : D} (hd : d = f x) : dPut (tabD f l) (stD x) d = tabD f (insS l x) := by
  subst hd
  unfold dPut insS
  by_cases h : x ∈ l
  · rw [find_st.1 h, if_pos (show (some (f x)).isSome = true from rfl), if_pos h]
    unfold tabD
    rw [List.map_map]
    refine List.map_congr_left fun s _ => ?_
    show (if kkD (stD s) = kkD (stD x) then (stD s, f x) else (stD s, f s)) = (stD s, f s)
    by_cases e : kkD (stD s) = kkD (stD x)
    · rw [if_pos e, kk_st e]
    · rw [if_neg e]
  · rw [find_st.2 h, if_neg (by simp), if_neg h]
    unfold tabD
    rw [List.map_append]; rfl
theorem keys_st {f : Stt → D} {l : List Stt} : (tabD f l).map (·.1) = l.map stD := by
  unfold tabD
  rw [List.map_map]; rfl
theorem good_st {f : Stt → D} {l : List Stt} (h : Hom l) (hn : l.Nodup) : goodB (tabD f l) = true := by
  unfold goodB
  rw [Bool.and_eq_true, Bool.or_eq_true, List.all_eq_true, List.all_eq_true]
  refine ⟨?_, decide_eq_true ?_⟩
  · rcases h with h | h
    · refine .inl fun p hp => ?_
      obtain ⟨s, hs, rfl⟩ := List.mem_map.mp hp
      rw [h s hs]; rfl
    · refine .inr fun p hp => ?_
      obtain ⟨s, hs, rfl⟩ := List.mem_map.mp hp
      cases s with
      | none => exact absurd rfl (h _ hs)
      | some s => rfl
  · unfold tabD
    rw [List.map_map]
    unfold List.Nodup at *
    rw [List.pairwise_map]
    exact hn.imp fun hne e => hne (kk_st e)
theorem pairs_st {f : Stt → D} : ∀ {l : List Stt}, pairsD (l.map fun s => .tuple [stD s, f s]) = some (tabD f l)
  | [] => rfl
  | s :: l => by
    rw [List.map_cons]
    show (pairsD (l.map fun s => .tuple [stD s, f s])).map ((stD s, f s) :: ·) = _
    rw [pairs_st]; rfl
theorem dict_st {f : Stt → D} {l : List Stt} (h : Hom l) (hn : l.Nodup) : dDictD [.list (l.map fun s => .tuple [stD s, f s])] = some (dcD (tabD f l)) := by
  show (match pairsD (l.map fun s => .tuple [stD s, f s]) with
    | some kds => if goodB kds = true then some (dcD kds) else none
    | none => none) = _
  rw [pairs_st]
  dsimp only
  rw [if_pos (good_st h hn)]
/-! ### layers -/
theorem ins_mem {l : List Stt} {x y : Stt} : y ∈ insS l x ↔ y ∈ l ∨ y = x := by
  unfold insS
  split
  · exact ⟨.inl, fun h => h.elim id fun e => by rw [e]; assumption⟩
  · rw [List.mem_append, List.mem_singleton]
theorem ins_nodup {l : List Stt} {x : Stt} (h : l.Nodup) : (insS l x).Nodup := by
  unfold insS
  split
  · exact h
  · rename_i hx
    exact List.nodup_append.mpr ⟨h, List.pairwise_singleton _ _, fun a ha b hb e => by rw [List.mem_singleton.mp hb] at e; exact hx (by rw [← e]; exact ha)⟩
def insL (acc : List Stt) (ts : List Sta) : List Stt := ts.foldl (fun acc t => insS acc (some t)) acc
theorem insL_mem : ∀ {ts : List Sta} {acc : List Stt} {y : Stt}, y ∈ insL acc ts ↔ y ∈ acc ∨ ∃ t ∈ ts, y = some t
  | [], acc, y => ⟨.inl, fun h => h.elim id fun ⟨t, ht, _⟩ => nomatch ht⟩
  | t :: ts, acc, y => by
    show y ∈ insL (insS acc (some t)) ts ↔ _
    rw [insL_mem, ins_mem]
    constructor
    · rintro ((h | h) | ⟨u, hu, h⟩)
      · exact .inl h
      · exact .inr ⟨t, List.mem_cons_self, h⟩
      · exact .inr ⟨u, List.mem_cons_of_mem _ hu, h⟩
    · rintro (h | ⟨u, hu, h⟩)
      · exact .inl (.inl h)
      · rcases List.mem_cons.mp hu with e | hu
        · subst e; exact .inl (.inr h)
        · exact .inr ⟨u, hu, h⟩
theorem insL_nodup : ∀ {ts : List Sta} {acc : List Stt}, acc.Nodup → (insL acc ts).Nodup
  | [], acc, h => h
  | t :: ts, acc, h => insL_nodup (ts := ts) (ins_nodup h)
def insLL (a : List Int) (op : List Opt) (p : Int) (calm : Bool) (acc : List Stt) (ss : List Stt) : List Stt := ss.foldl (fun acc s => insL acc (nxL a op p s calm)) acc
theorem insLL_mem {a : List Int} {op : List Opt} {p : Int} {calm : Bool} : ∀ {ss acc : List Stt} {y : Stt}, y ∈ insLL a op p calm acc ss ↔ y ∈ acc ∨ ∃ s ∈ ss, ∃ t ∈ nxL a op p s calm, y = some t
  | [], acc, y => ⟨.inl, fun h => h.elim id fun ⟨t, ht, _⟩ => nomatch ht⟩
  | s :: ss, acc, y => by
    show y ∈ insLL a op p calm (insL acc (nxL a op p s calm)) ss ↔ _
    rw [insLL_mem, insL_mem]
    constructor
    · rintro ((h | ⟨t, ht, h⟩) | ⟨u, hu, h⟩)
      · exact .inl h
      · exact .inr ⟨s, List.mem_cons_self, t, ht, h⟩
      · exact .inr ⟨u, List.mem_cons_of_mem _ hu, h⟩
    · rintro (h | ⟨u, hu, h⟩)
      · exact .inl (.inl h)
      · rcases List.mem_cons.mp hu with e | hu
        · subst e; exact .inl (.inr h)
        · exact .inr ⟨u, hu, h⟩
theorem insLL_nodup {a : List Int} {op : List Opt} {p : Int} {calm : Bool} : ∀ {ss acc : List Stt}, acc.Nodup → (insLL a op p calm acc ss).Nodup
  | [], acc, h => h
  | s :: ss, acc, h => insLL_nodup (ss := ss) (insL_nodup h)
def layN (a : List Int) (ops : Int → List Opt) (calm : Bool) : Nat → List Stt
  | 0 => [none]
  | k + 1 => insLL a (ops k) k calm [] (layN a ops calm k)
section
variable {a : List Int} {ops : Int → List Opt} {calm : Bool}
theorem lay_nodup : ∀ k, (layN a ops calm k).Nodup
  | 0 => List.pairwise_singleton _ _
  | k + 1 => insLL_nodup List.nodup_nil
theorem lay_next {k : Nat} {s : Stt} {t : Sta} (hs : s ∈ layN a ops calm k) (ht : t ∈ nxL a (ops k) k s calm) : some t ∈ layN a ops calm (k + 1) := insLL_mem.mpr (.inr ⟨s, hs, t, ht, rfl⟩)
theorem lay_some {k : Nat} {s : Stt} (hs : s ∈ layN a ops calm (k + 1)) : ∃ t, s = some t ∧ ∃ u ∈ layN a ops calm k, t ∈ nxL a (ops k) k u calm := by
  rcases insLL_mem.mp hs with h | ⟨u, hu, t, ht, h⟩
  · cases h
  · exact ⟨t, h, u, hu, ht⟩
theorem lay_hom : ∀ k, Hom (layN a ops calm k)
  | 0 => .inl fun s hs => List.mem_singleton.mp hs
  | k + 1 => .inr fun s hs e => by
    obtain ⟨t, h, _⟩ := lay_some hs
    rw [e] at h; cases h
def cameOk (s : Stt) : Prop := ∀ t, s = some t → t.came = 0 ∨ t.came = 1 ∨ t.came = -1
theorem part_came {p : Int} {s t : Sta} {o : Opt} (h : partN a p s o calm = some t) : t.came = 0 ∨ t.came = 1 ∨ t.came = -1 := by
  unfold partN at h
  by_cases c1 : s.st = false ∨ nat a (p - 1) = nat a p ∨ decide (nat a (p - 1) < nat a p) ≠ decide (s.num < o.1)
  · rw [if_pos c1] at h; cases h
  · rw [if_neg c1] at h
    by_cases c2 : calm = true ∧ s.wide = false ∧ ¬ (s.came = 0 ∨ s.came = if s.num < o.1 then 1 else -1)
    · rw [if_pos c2] at h; cases h
    · rw [if_neg c2] at h
      injection h with h
      rw [← h]
      dsimp only
      split
      · split
        · exact .inr (.inl rfl)
        · exact .inr (.inr rfl)
      · exact .inl rfl
theorem nx_came {p : Int} {s : Stt} {t : Sta} {o : Opt} (hs : cameOk s) (h : nxN a p s o calm = some t) : t.came = 0 ∨ t.came = 1 ∨ t.came = -1 := by
  cases s with
  | none => injection h with h; rw [← h]; exact .inl rfl
  | some s =>
    unfold nxN at h
    dsimp only at h
    by_cases e : o.1 = s.num
    · rw [if_pos e] at h
      injection h with h
      rw [← h]; exact hs s rfl
    · rw [if_neg e] at h
      exact part_came h
theorem lay_came : ∀ (k : Nat) (s : Stt), s ∈ layN a ops calm k → cameOk s
  | 0, s, hs => fun t e => by rw [List.mem_singleton.mp hs] at e; cases e
  | k + 1, s, hs => fun t e => by
    obtain ⟨u, h, v, hv, hu⟩ := lay_some hs
    rw [e] at h
    cases h
    obtain ⟨o, _, hn⟩ := List.mem_filterMap.mp hu
    exact nx_came (lay_came k v hv) hn
theorem sub_len {α : Type} [DecidableEq α] : ∀ {l m : List α}, l.Nodup → (∀ x ∈ l, x ∈ m) → l.length ≤ m.length
  | [], m, _, _ => Nat.zero_le _
  | x :: l, m, hn, h => by
    have hn := List.nodup_cons.mp hn
    have hx := h x List.mem_cons_self
    have := sub_len (l := l) (m := m.erase x) hn.2 fun y hy => (List.mem_erase_of_ne (fun e => hn.1 (by rw [← e]; exact hy))).mpr (h y (List.mem_cons_of_mem _ hy))
    rw [List.length_erase_of_mem hx] at this
    have : 0 < m.length := List.length_pos_of_mem hx
    rw [List.length_cons]; omega
def allSt (n : Int) : List Stt := [0, 1, -1].flatMap fun c => [false, true].flatMap fun b => [false, true].map fun w => some ⟨n, b, c, w⟩
theorem lay_len (k : Nat) : (layN a ops calm (k + 1)).length ≤ 12 * (ops k).length := by
  have h := sub_len (lay_nodup (a := a) (ops := ops) (calm := calm) (k + 1)) (m := (ops k).flatMap fun o => allSt o.1) fun s hs => by
    obtain ⟨t, rfl, u, hu, ht⟩ := lay_some hs
    obtain ⟨o, ho, hn⟩ := List.mem_filterMap.mp ht
    have hc := lay_came (k + 1) (some t) hs t rfl
    have en := nx_num hn
    obtain ⟨n, b, c, w⟩ := t
    refine List.mem_flatMap.mpr ⟨o, ho, ?_⟩
    have en : n = o.1 := en
    subst en
    unfold allSt
    refine List.mem_flatMap.mpr ⟨c, ?_, List.mem_flatMap.mpr ⟨b, by cases b <;> simp, List.mem_map.mpr ⟨w, by cases w <;> simp, rfl⟩⟩⟩
    have hc : c = 0 ∨ c = 1 ∨ c = -1 := hc
    rcases hc with rfl | rfl | rfl <;> simp
  refine Nat.le_trans h ?_
  rw [List.length_flatMap]
  have go : ∀ os : List Opt, (os.map fun o => (allSt o.1).length).sum = 12 * os.length := fun os => by
    induction os with
    | nil => rfl
    | cons o os ih => rw [List.map_cons, List.sum_cons, ih, List.length_cons, show (allSt o.1).length = 12 from rfl]; omega
  rw [go]; exact Nat.le_refl _
theorem lay_len' (h : ∀ p, (ops p).length ≤ 100) (k : Nat) : (layN a ops calm k).length ≤ 1200 := by
  cases k with
  | zero => show 1 ≤ 1200; omega
  | succ k => have := lay_len (a := a) (ops := ops) (calm := calm) k; have := h k; omega
end
end DL

/-! DNp: dicts keyed by rows; the rows that follow, layer by layer; how many at most. -/
namespace DL
open PySem L2
theorem lf_ints : ∀ b : List Int, lfDs (b.map PyData.int) = some (b.map Leaf.num)
  | [] => rfl
  | x :: b => by
    rw [List.map_cons]
    show (match lfD (.int x), lfDs (b.map PyData.int) with
      | some l, some ls => some (l :: ls)
      | _, _ => none) = _
    rw [lf_ints b]; rfl
theorem kk_row (b : List Int) : kkD (rowD b) = some (.tp (b.map Leaf.num)) := by
  show (lfDs (b.map PyData.int)).map KK.tp = _
  rw [lf_ints]; rfl
theorem kk_row_inj {b c : List Int} (h : kkD (rowD b) = kkD (rowD c)) : b = c := by
  rw [kk_row, kk_row] at h
  simp only [Option.some.injEq, KK.tp.injEq] at h
  exact List.map_inj_right (fun x y e => by injection e) |>.mp h
theorem tp_row (b : List Int) : isTp (rowD b) = true := by
  show (lfDs (b.map PyData.int)).isSome = true
  rw [lf_ints]; rfl
def tabR (f : List Int → D) (l : List (List Int)) : List (D × D) := l.map fun b => (rowD b, f b)
theorem tabR_len (f : List Int → D) (l : List (List Int)) : (tabR f l).length = l.length := List.length_map _
theorem sort_row {f : List Int → D} {l : List (List Int)} (x : List Int) : sortB (rowD x) (tabR f l) = true := by
  unfold sortB tabR
  rw [Bool.or_eq_true, Bool.and_eq_true, Bool.and_eq_true, List.all_eq_true, List.all_eq_true]
  refine .inr ⟨tp_row x, fun p hp => ?_⟩
  obtain ⟨s, hs, rfl⟩ := List.mem_map.mp hp
  exact tp_row s
theorem find_row {f : List Int → D} {x : List Int} : ∀ {l : List (List Int)}, (x ∈ l → dFind (tabR f l) (rowD x) = some (f x)) ∧ (x ∉ l → dFind (tabR f l) (rowD x) = none)
  | [] => ⟨fun h => (nomatch h), fun _ => rfl⟩
  | s :: l => by
    have ih := find_row (f := f) (x := x) (l := l)
    by_cases e : s = x
    · subst e
      refine ⟨fun _ => ?_, fun h => absurd List.mem_cons_self h⟩
      simp [dFind, tabR, List.find?_cons]
    · have b : dFind (tabR f (s :: l)) (rowD x) = dFind (tabR f l) (rowD x) := by
        have ne : ¬ kkD (rowD s) = kkD (rowD x) := fun z => e (kk_row_inj z)
        simp [dFind, tabR, List.find?_cons, ne]
      rw [b]
      refine ⟨fun h => ih.1 ?_, fun h => ih.2 fun z => h (List.mem_cons_of_mem _ z)⟩
      rcases List.mem_cons.mp h with z | z
      · exact absurd z.symm e
      · exact z
theorem get_row {f : List Int → D} {l : List (List Int)} {x : List Int} (hx : x ∈ l) : dGetD (dcD (tabR f l)) (rowD x) = some (f x) := by
  show (if sortB (rowD x) (tabR f l) = true then dFind (tabR f l) (rowD x) else none) = _
  rw [if_pos (sort_row x)]
  exact find_row.1 hx
theorem ni_row {f : List Int → D} {l : List (List Int)} {x : List Int} : dNotInD (rowD x) (dcD (tabR f l)) = some (.bool (!decide (x ∈ l))) := by
  show (if sortB (rowD x) (tabR f l) = true then some (PyData.bool (!(dFind (tabR f l) (rowD x)).isSome)) else none) = _
  rw [if_pos (sort_row x)]
  by_cases h : x ∈ l
  · rw [find_row.1 h, decide_eq_true h]; rfl
  · rw [find_row.2 h, decide_eq_false h]; rfl
theorem in_row {f : List Int → D} {l : List (List Int)} {x : List Int} : dInD (rowD x) (dcD (tabR f l)) = some (.bool (decide (x ∈ l))) := by
  show (if sortB (rowD x) (tabR f l) = true then some (PyData.bool (dFind (tabR f l) (rowD x)).isSome) else none) = _
  rw [if_pos (sort_row x)]
  by_cases h : x ∈ l
  · rw [find_row.1 h, decide_eq_true h]; rfl
  · rw [find_row.2 h, decide_eq_false h]; rfl
theorem put_row {f : List Int → D} {l : List (List Int)} {x : List Int} {d : D} (hd : d = f x) (h : x ∉ l) : dPut (tabR f l) (rowD x) d = tabR f (l ++ [x]) := by
  subst hd
  unfold dPut
  rw [find_row.2 h, if_neg (by simp)]
  unfold tabR
  rw [List.map_append]; rfl
theorem keys_row {f : List Int → D} {l : List (List Int)} : itemsSD (dcD (tabR f l)) = some (l.map rowD) := by
  show some ((tabR f l).map (·.1)) = _
  unfold tabR
  rw [List.map_map]; rfl
theorem len_row {f : List Int → D} {l : List (List Int)} : dLenD [dcD (tabR f l)] = some (.int (l.length : Nat)) := by
  show some (PyData.int ((tabR f l).length : Nat)) = _
  rw [tabR_len]
theorem canLay_rows : ∀ l : List (List Int), PyData.canLayAll0 (l.map rowD) = true
  | [] => by simp [PyData.canLayAll0]
  | b :: l => by simp [PyData.canLayAll0, rowD, PyData.canLay0, canLay_ints, canLay_rows l]
theorem depth_rows : ∀ l : List (List Int), PyData.depthAll (l.map rowD) ≤ 1
  | [] => by simp [PyData.depthAll]
  | b :: l => by
    have := depth_rows l
    simp [PyData.depthAll, rowD, PyData.depth, depth_ints]
    omega
theorem shaped_rows (l : List (List Int)) : SeqAt.shaped (.list (l.map rowD)) = true := by
  have := depth_rows l
  unfold SeqAt.shaped
  simp [PyData.canLay0, canLay_rows, PyData.depth]
  omega
theorem ne_rows (l : List (List Int)) : neW (.list (l.map rowD)) (.list []) = some (.bool (!decide (l = []))) := by
  rw [neW_ll (shaped_rows l) (by have := shaped_rows []; exact this)]
  cases l with
  | nil => simp [PyData.eqv, PyData.eqvAll]
  | cons b l => simp [PyData.eqv, PyData.eqvAll]
/-! ### how many rows follow, at most -/
theorem sum_le {ns : List Nat} {m : Nat} (h : ∀ n ∈ ns, n ≤ m) : ns.sum ≤ ns.length * m := by
  induction ns with
  | nil => simp
  | cons n ns ih =>
    have h1 := h n List.mem_cons_self
    have h2 := ih fun x hx => h x (List.mem_cons_of_mem _ hx)
    rw [List.sum_cons, List.length_cons, Nat.succ_mul]; omega
theorem optA_end {a : List Int} {p : Int} (h : p ≤ 0 ∨ (a.length : Int) - 1 ≤ p) : optA a p = [(nat a p, false)] := by
  have t : ¬ IsT a p := fun t => by have := t.1; have := t.2.1; omega
  have d : ¬ IsD a p := fun t => by have := t.1; have := t.2.1; omega
  unfold optA
  simp [t, d]
theorem nx_len (a : List Int) (op : List Opt) (p : Int) (s : Stt) (calm : Bool) : (nxL a op p s calm).length ≤ op.length := List.length_filterMap_le _ _
theorem cnt_in {a : List Int} {calm : Bool} {m : Nat} (hm : ∀ p, (optA a p).length ≤ m) : ∀ (r : Nat) (p : Int) (s : Stt), p + ((r + 1 : Nat) : Int) = a.length → cntF a (optA a) calm (r + 1) p s ≤ m ^ r
  | 0, p, s, h => by
    have h1 : (optA a p).length = 1 := by rw [optA_end (.inr (by omega))]; rfl
    have h2 := nx_len a (optA a p) p s calm
    show ((nxL a (optA a p) p s calm).map fun t => cntF a (optA a) calm 0 (p + 1) (some t)).sum ≤ m ^ 0
    refine Nat.le_trans (sum_le (m := 1) fun n hn => ?_) ?_
    · obtain ⟨t, _, rfl⟩ := List.mem_map.mp hn
      unfold cntF
      split <;> omega
    · rw [List.length_map, Nat.pow_zero]; omega
  | r + 1, p, s, h => by
    have h2 := nx_len a (optA a p) p s calm
    show ((nxL a (optA a p) p s calm).map fun t => cntF a (optA a) calm (r + 1) (p + 1) (some t)).sum ≤ m ^ (r + 1)
    refine Nat.le_trans (sum_le (m := m ^ r) fun n hn => ?_) ?_
    · obtain ⟨t, _, rfl⟩ := List.mem_map.mp hn
      exact cnt_in hm r (p + 1) (some t) (by omega)
    · rw [List.length_map, Nat.pow_succ, Nat.mul_comm (m ^ r)]
      exact Nat.mul_le_mul_right _ (Nat.le_trans h2 (hm p))
theorem cnt_top {a : List Int} {calm : Bool} {m : Nat} (hm : ∀ p, (optA a p).length ≤ m) (m0 : 1 ≤ m) : cntF a (optA a) calm a.length 0 none ≤ m ^ (a.length - 2) := by
  cases e : a.length with
  | zero =>
    show (if accB none then 1 else 0) ≤ m ^ (0 - 2)
    simp [accB]
  | succ n =>
    cases n with
    | zero =>
      have := cnt_in (calm := calm) hm 0 0 none (by rw [e]; rfl)
      simpa using this
    | succ n =>
      have h1 : (optA a 0).length = 1 := by rw [optA_end (.inl (Int.le_refl 0))]; rfl
      have h2 := nx_len a (optA a 0) 0 none calm
      show ((nxL a (optA a 0) 0 none calm).map fun t => cntF a (optA a) calm (n + 1) (0 + 1) (some t)).sum ≤ m ^ n
      refine Nat.le_trans (sum_le (m := m ^ n) fun x hx => ?_) ?_
      · obtain ⟨t, _, rfl⟩ := List.mem_map.mp hx
        exact cnt_in hm n (0 + 1) (some t) (by omega)
      · rw [List.length_map]
        have := Nat.mul_le_mul_right (m ^ n) (Nat.le_trans h2 (Nat.le_of_eq h1))
        rw [Nat.one_mul] at this
        exact this
/-! ### the rows that follow -/
def folR (a : List Int) : List (List Int) := rowF a (optA a) false a.length 0 none
theorem fol_mem {a b : List Int} : b ∈ folR a ↔ Keep a b := row_keep
theorem fol_len (a : List Int) : (folR a).length = cntF a (optA a) false a.length 0 none := row_len ..
theorem fol_nodup (a : List Int) : (folR a).Nodup := row_nodup (fun p => optA_asc a p) ..
theorem fol_asc (a : List Int) : (folR a).Pairwise (· < ·) := row_asc (fun p => optA_asc a p) ..
theorem fol_ne (a : List Int) : 0 < (folR a).length := List.length_pos_of_mem (fol_mem.mpr (Keep.refl a))
def dst (a b : List Int) : Nat := (cgL a b).length
theorem dst_le (a b : List Int) : dst a b ≤ a.length := by
  unfold dst cgL
  exact Nat.le_trans (List.length_filter_le _ _) (by rw [rngI_len]; exact Nat.le_refl _)
theorem dst_self (a : List Int) : dst a a = 0 := by
  unfold dst
  rw [(cg_nil rfl).mpr rfl]; rfl
theorem dst_zero {a b : List Int} (h : Keep a b) (hd : dst a b = 0) : b = a := ((cg_nil h.len).mp (List.length_eq_zero_iff.mp hd)).symm
/-- what has been found: all rows of at most i calls; and the layer: those of i calls -/
structure Lay (a : List Int) (i : Nat) (acc lay : List (List Int)) : Prop where
  nd : acc.Nodup
  inn : ∀ b, b ∈ acc ↔ Keep a b ∧ dst a b ≤ i
  last : ∀ b, b ∈ lay ↔ Keep a b ∧ dst a b = i
theorem Lay.start (a : List Int) : Lay a 0 [a] [a] where
  nd := List.pairwise_singleton _ a
  inn := fun b => by
    rw [List.mem_singleton]
    exact ⟨fun h => by rw [h]; exact ⟨Keep.refl a, Nat.le_of_eq (dst_self a)⟩, fun ⟨h1, h2⟩ => dst_zero h1 (by omega)⟩
  last := fun b => by
    rw [List.mem_singleton]
    exact ⟨fun h => by rw [h]; exact ⟨Keep.refl a, dst_self a⟩, fun ⟨h1, h2⟩ => dst_zero h1 h2⟩
theorem Lay.done {a : List Int} {i : Nat} {acc : List (List Int)} (h : Lay a i acc []) : ∀ b, b ∈ acc ↔ Keep a b := by
  have none : ∀ (j : Nat) (b : List Int), Keep a b → dst a b ≠ i + j := by
    intro j
    induction j with
    | zero =>
      intro b hb he
      have := (h.last b).mpr ⟨hb, by omega⟩
      cases this
    | succ j ih =>
      intro b hb he
      obtain ⟨c, p, hc, hd, _, _, _⟩ := hb.back (k := i + j) (by unfold dst at he; omega)
      exact ih c hc hd
  intro b
  rw [h.inn]
  refine ⟨fun z => z.1, fun z => ⟨z, ?_⟩⟩
  by_cases e : dst a b ≤ i
  · exact e
  · exact absurd (show dst a b = i + (dst a b - i) by omega) (none _ b z)
theorem Lay.far {a : List Int} {i : Nat} {acc lay : List (List Int)} (h : Lay a i acc lay) (hi : a.length < i) : lay = [] := by
  cases e : lay with
  | nil => rfl
  | cons b l =>
    have := (h.last b).mp (by rw [e]; exact List.mem_cons_self)
    have := dst_le a b
    omega
theorem Lay.many {a : List Int} {i : Nat} {acc lay : List (List Int)} (h : Lay a i acc lay) : acc.length ≤ (folR a).length := sub_len h.nd fun b hb => fol_mem.mpr ((h.inn b).mp hb).1
/-- a call of one of the layer -/
theorem Lay.call {a c : List Int} {i : Nat} {acc lay : List (List Int)} {p : Int} (h : Lay a i acc lay) (hc : c ∈ lay) (h0 : 0 < p) (h1 : p + 1 < a.length) (hn : callN c p ∉ acc) : Keep a (callN c p) ∧ dst a (callN c p) = i + 1 := by
  obtain ⟨k, hd⟩ := (h.last c).mp hc
  have k2 := k.call (i := p) (by omega) (by omega)
  refine ⟨k2, ?_⟩
  by_cases e : callN c p = c
  · exact absurd ((h.inn _).mpr ⟨k2, by rw [e]; omega⟩) hn
  · have := (k.more1 (i := p) (by omega) (by omega) e).1
    unfold dst at hd ⊢
    omega
/-- the next layer: fur are the new ones, each by a call of one of the layer, and all such calls are found -/
theorem Lay.next {a : List Int} {i : Nat} {acc lay fur : List (List Int)} (h : Lay a i acc lay) (nd : (acc ++ fur).Nodup) (hf : ∀ b ∈ fur, ∃ c ∈ lay, ∃ p : Int, 0 < p ∧ p + 1 < a.length ∧ b = callN c p) (ha : ∀ c ∈ lay, ∀ p : Int, 0 < p → p + 1 < a.length → callN c p ∈ acc ++ fur) : Lay a (i + 1) (acc ++ fur) fur := by
  have hd := (List.nodup_append.mp nd).2.2
  have l1 : ∀ b, b ∈ fur ↔ Keep a b ∧ dst a b = i + 1 := fun b => by
    constructor
    · intro hb
      obtain ⟨c, hc, p, p0, p1, rfl⟩ := hf b hb
      exact h.call hc p0 p1 fun z => hd _ z _ hb rfl
    · intro ⟨k, e⟩
      obtain ⟨c, p, hc, he, p0, p1, rfl⟩ := k.back (k := i) (by unfold dst at e; exact e)
      have := ha c ((h.last c).mpr ⟨hc, he⟩) p p0 p1
      rcases List.mem_append.mp this with z | z
      · have := ((h.inn _).mp z).2
        omega
      · exact z
  refine ⟨nd, fun b => ?_, l1⟩
  rw [List.mem_append, h.inn, l1]
  constructor
  · rintro (⟨k, e⟩ | ⟨k, e⟩)
    · exact ⟨k, by omega⟩
    · exact ⟨k, by omega⟩
  · intro ⟨k, e⟩
    by_cases z : dst a b ≤ i
    · exact .inl ⟨k, z⟩
    · exact .inr ⟨k, by omega⟩
/-- what the search finds, sorted, are the rows that follow -/
theorem sort_fol {x : D} {a : List Int} {acc : List (List Int)} {f : List Int → D} (hx : x = dcD (tabR f acc)) (nd : acc.Nodup) (h : ∀ b, b ∈ acc ↔ Keep a b) : sortDD [x] = some ((folR a).map rowD) := by
  subst hx
  have hp : acc.Perm (folR a) := (List.perm_ext_iff_of_nodup nd (fol_nodup a)).mpr fun b => by rw [h, fol_mem]
  refine sort_rows keys_row ?_ hp (fol_asc a)
  cases a with
  | nil =>
    left
    have e : ∀ b ∈ acc, b ∈ [([] : List Int)] := fun b hb => by
      have := ((h b).mp hb).len
      rw [List.eq_nil_of_length_eq_zero this]; simp
    have := sub_len nd e
    simpa using this
  | cons x a =>
    right
    intro b hb e
    have := ((h b).mp hb).len
    rw [e] at this
    cases this
end DL

/-! DNq: rows at rest among those that follow; rows that meet a wish; lists of rows compared. -/
namespace DL
open PySem L2
/-! ### any way to walk along a row -/
theorem row_pathG {a b : List Int} {calm : Bool} {ops : Int → List Opt} {S : Nat → Stt} {P : Nat → Prop} {st : Nat → Sta} (h1 : ∀ k, S (k + 1) = some (st k)) (hn : ∀ k, (st k).num = nat b (k : Nat)) (hf : ∀ (k : Nat) c, (nat b (k : Nat), c) ∈ ops k → c = !decide (nat a (k : Nat) = nat b (k : Nat)))
    (hS : ∀ k : Nat, (P k → nxN a k (S k) (nat b k, !decide (nat a k = nat b k)) calm = S (k + 1)) ∧ (¬ P k → nxN a k (S k) (nat b k, !decide (nat a k = nat b k)) calm = none)) : ∀ (r k : Nat), k + r = b.length → (b.drop k ∈ rowF a ops calm r k (S k) ↔ (∀ p : Nat, k ≤ p → p < b.length → (nat b (p : Nat), !decide (nat a (p : Nat) = nat b (p : Nat))) ∈ ops p ∧ P p) ∧ accB (S b.length) = true)
  | 0, k, h => by
    have e : k = b.length := by omega
    subst e
    rw [List.drop_length]
    show [] ∈ (if accB (S b.length) then [[]] else []) ↔ _
    constructor
    · intro hm
      refine ⟨fun p h1 h2 => absurd h1 (by omega), ?_⟩
      by_cases z : accB (S b.length) = true
      · exact z
      · rw [if_neg z] at hm; cases hm
    · intro ⟨_, z⟩
      rw [if_pos z]; exact List.mem_singleton.mpr rfl
  | r + 1, k, h => by
    have hk : k < b.length := by omega
    have ih := row_pathG h1 hn hf hS r (k + 1) (by omega)
    rw [drop_at hk]
    have rs : rowF a ops calm (r + 1) k (S k) = (nxL a (ops k) k (S k) calm).flatMap fun t => (rowF a ops calm r ((k + 1 : Nat) : Int) (some t)).map (t.num :: ·) := rfl
    rw [rs, List.mem_flatMap]
    obtain ⟨n1, n2⟩ := hS k
    constructor
    · rintro ⟨t, ht, hm⟩
      obtain ⟨c, hc, e⟩ := List.mem_map.mp hm
      injection e with e1 e2
      subst e2
      obtain ⟨o, ho, hx⟩ := List.mem_filterMap.mp ht
      have en := nx_num hx
      obtain ⟨x, f⟩ := o
      have ex : x = nat b k := by rw [← e1, en]
      subst ex
      have ef := hf k f ho
      subst ef
      have so : P k := by
        by_cases z : P k
        · exact z
        · rw [n2 z] at hx; cases hx
      rw [n1 so] at hx
      rw [← hx] at hc
      obtain ⟨i1, i2⟩ := ih.mp hc
      refine ⟨fun p h1 h2 => ?_, i2⟩
      by_cases e : p = k
      · subst e; exact ⟨ho, so⟩
      · exact i1 p (by omega) h2
    · intro ⟨g1, g2⟩
      obtain ⟨ho, so⟩ := g1 k (Nat.le_refl _) hk
      have hm := ih.mpr ⟨fun p h3 h4 => g1 p (by omega) h4, g2⟩
      have e1 := n1 so
      rw [h1 k] at e1 hm
      exact ⟨st k, List.mem_filterMap.mpr ⟨_, ho, e1⟩, List.mem_map.mpr ⟨_, hm, by rw [hn k]⟩⟩
/-! ### rows that meet a wish -/
def wOk (w : Int → Int → Bool) (b : List Int) : Prop := ∀ p : Nat, p < b.length → w p (nat b (p : Nat)) = true
theorem row_wish {a b : List Int} {w : Int → Int → Bool} : b ∈ rowF a (fun p => (optA a p).filter fun o => w p o.1) false a.length 0 none ↔ Keep a b ∧ wOk w b := by
  have key := fun (hl : b.length = a.length) => row_pathG (a := a) (b := b) (calm := false) (ops := fun p => (optA a p).filter fun o => w p o.1) (S := stAt a b) (P := StepOk a b) (st := fun k => ⟨nat b (k : Nat), stayB a b k, 0, false⟩) (fun _ => rfl) (fun _ => rfl) (fun k c hc => opt_flag (List.mem_filter.mp hc).1) (fun k => nx_at k) a.length 0 (by omega)
  constructor
  · intro h
    have hl : b.length = a.length := row_each h
    have := (key hl).mp (by rw [List.drop_zero]; exact h)
    refine ⟨(keep_path hl).mpr ⟨fun p p0 p1 => ?_, this.2⟩, fun p hp => (List.mem_filter.mp (this.1 p (Nat.zero_le _) hp).1).2⟩
    obtain ⟨z1, z2⟩ := this.1 p p0 p1
    exact ⟨(List.mem_filter.mp z1).1, z2⟩
  · intro ⟨h, hw⟩
    have hl := h.len
    obtain ⟨k1, k2⟩ := (keep_path hl).mp h
    have := (key hl).mpr ⟨fun p p0 p1 => ⟨List.mem_filter.mpr ⟨(k1 p p0 p1).1, hw p p1⟩, (k1 p p0 p1).2⟩, k2⟩
    rw [List.drop_zero] at this
    exact this
/-! ### rows at rest -/
def cameB (b : List Int) : Nat → Int
  | 0 => 0
  | k + 1 => if nat b ((k + 1 : Nat) : Int) = nat b (k : Nat) then cameB b k else if nat b (k : Nat) < nat b ((k + 1 : Nat) : Int) then 1 else -1
def wideB (b : List Int) : Nat → Bool
  | 0 => false
  | k + 1 => decide (nat b ((k + 1 : Nat) : Int) = nat b (k : Nat))
def stC (a b : List Int) (k : Nat) : Sta := ⟨nat b (k : Nat), stayB a b k, cameB b k, wideB b k⟩
def stCt (a b : List Int) : Nat → Stt
  | 0 => none
  | k + 1 => some (stC a b k)
def CalmOk (b : List Int) (k : Nat) : Prop := nat b (k : Nat) ≠ nat b ((k + 1 : Nat) : Int) → wideB b k = true ∨ cameB b k = 0 ∨ cameB b k = if nat b (k : Nat) < nat b ((k + 1 : Nat) : Int) then 1 else -1
def StepC (a b : List Int) : Nat → Prop
  | 0 => True
  | k + 1 => PartOk a b k ∧ CalmOk b k
theorem nxC_at {a b : List Int} : ∀ (k : Nat), (StepC a b k → nxN a k (stCt a b k) (nat b k, !decide (nat a k = nat b k)) true = stCt a b (k + 1)) ∧ (¬ StepC a b k → nxN a k (stCt a b k) (nat b k, !decide (nat a k = nat b k)) true = none)
  | 0 => by
    refine ⟨fun _ => ?_, fun h => absurd True.intro h⟩
    show some (Sta.mk _ _ 0 false) = some (Sta.mk _ _ 0 false)
    unfold stayB
    simp
  | k + 1 => by
    have e : nxN a ((k + 1 : Nat) : Int) (stCt a b (k + 1)) (nat b ((k + 1 : Nat) : Int), !decide (nat a ((k + 1 : Nat) : Int) = nat b ((k + 1 : Nat) : Int))) true = if nat b ((k + 1 : Nat) : Int) = nat b (k : Nat) then some ⟨nat b (k : Nat), stayB a b k || !!decide (nat a ((k + 1 : Nat) : Int) = nat b ((k + 1 : Nat) : Int)), cameB b k, true⟩ else partN a ((k + 1 : Nat) : Int) (stC a b k) (nat b ((k + 1 : Nat) : Int), !decide (nat a ((k + 1 : Nat) : Int) = nat b ((k + 1 : Nat) : Int))) true := rfl
    rw [e]
    have ek : ((k + 1 : Nat) : Int) - 1 = (k : Nat) := by omega
    by_cases c : nat b ((k + 1 : Nat) : Int) = nat b (k : Nat)
    · rw [if_pos c]
      refine ⟨fun _ => ?_, fun h => absurd ⟨fun z => absurd c.symm z, fun z => absurd c.symm z⟩ h⟩
      show some _ = some (Sta.mk (nat b ((k + 1 : Nat) : Int)) (stayB a b (k + 1)) (cameB b (k + 1)) (wideB b (k + 1)))
      have s1 : stayB a b (k + 1) = (stayB a b k || decide (nat a ((k + 1 : Nat) : Int) = nat b ((k + 1 : Nat) : Int))) := by
        show (if nat b ((k + 1 : Nat) : Int) = nat b (k : Nat) then _ else _) = _
        rw [if_pos c]
      have s2 : cameB b (k + 1) = cameB b k := by
        show (if nat b ((k + 1 : Nat) : Int) = nat b (k : Nat) then _ else _) = _
        rw [if_pos c]
      have s3 : wideB b (k + 1) = true := decide_eq_true c
      rw [s1, s2, s3, Bool.not_not, c]
    · rw [if_neg c]
      unfold partN stC
      dsimp only
      rw [ek]
      refine ⟨fun h => ?_, fun h => ?_⟩
      · obtain ⟨hp, hc⟩ := h
        obtain ⟨h1, h2, h3⟩ := hp fun z => c z.symm
        have h4 := hc fun z => c z.symm
        rw [if_neg (by
          rintro (z | z | z)
          · rw [h3] at z; cases z
          · exact h1 z
          · exact z (dec_iff.mpr h2)), if_neg (by
          rintro ⟨_, z1, z2⟩
          rcases h4 with y | y | y
          · rw [y] at z1; cases z1
          · exact z2 (.inl y)
          · exact z2 (.inr y))]
        show some _ = some (Sta.mk (nat b ((k + 1 : Nat) : Int)) (stayB a b (k + 1)) (cameB b (k + 1)) (wideB b (k + 1)))
        have s1 : stayB a b (k + 1) = decide (nat a ((k + 1 : Nat) : Int) = nat b ((k + 1 : Nat) : Int)) := by
          show (if nat b ((k + 1 : Nat) : Int) = nat b (k : Nat) then _ else _) = _
          rw [if_neg c]
        have s2 : cameB b (k + 1) = if nat b (k : Nat) < nat b ((k + 1 : Nat) : Int) then 1 else -1 := by
          show (if nat b ((k + 1 : Nat) : Int) = nat b (k : Nat) then _ else _) = _
          rw [if_neg c]
        have s3 : wideB b (k + 1) = false := decide_eq_false c
        rw [s1, s2, s3, Bool.not_not]
        rfl
      · by_cases hp : PartOk a b k
        · obtain ⟨h1, h2, h3⟩ := hp fun z => c z.symm
          rw [if_neg (by
            rintro (z | z | z)
            · rw [h3] at z; cases z
            · exact h1 z
            · exact z (dec_iff.mpr h2)), if_pos]
          refine ⟨rfl, ?_, fun z => h ⟨hp, fun _ => .inr z⟩⟩
          cases e2 : wideB b k with
          | true => exact absurd ⟨hp, fun _ => .inl e2⟩ h
          | false => rfl
        · rw [if_pos]
          by_cases z1 : stayB a b k = false
          · exact .inl z1
          · by_cases z2 : nat a (k : Nat) = nat a ((k + 1 : Nat) : Int)
            · exact .inr (.inl z2)
            · refine .inr (.inr fun z => hp fun _ => ⟨z2, dec_iff.mp z, ?_⟩)
              cases e2 : stayB a b k with
              | true => rfl
              | false => exact absurd e2 z1
def Rest (b : List Int) : Prop := ∀ p : Int, ¬ IsT b p ∧ ¬ IsD b p
theorem calm_iff {b : List Int} {k : Nat} (hk : k + 1 < b.length) : CalmOk b k ↔ ¬ IsT b (k : Nat) ∧ ¬ IsD b (k : Nat) := by
  cases k with
  | zero =>
    exact ⟨fun _ => ⟨fun h => absurd h.1 (by omega), fun h => absurd h.1 (by omega)⟩, fun _ _ => .inr (.inl rfl)⟩
  | succ k =>
    have e1 : ((k + 1 : Nat) : Int) - 1 = (k : Nat) := by omega
    have e2 : ((k + 1 : Nat) : Int) + 1 = ((k + 1 + 1 : Nat) : Int) := by omega
    have w : wideB b (k + 1) = decide (nat b ((k + 1 : Nat) : Int) = nat b (k : Nat)) := rfl
    have cm : cameB b (k + 1) = if nat b ((k + 1 : Nat) : Int) = nat b (k : Nat) then cameB b k else if nat b (k : Nat) < nat b ((k + 1 : Nat) : Int) then 1 else -1 := rfl
    unfold CalmOk IsT IsD
    rw [w, cm, e1, e2]
    constructor
    · intro h
      refine ⟨?_, ?_⟩
      · rintro ⟨_, _, t1, t2⟩
        have := h (by omega)
        rw [decide_eq_false (by omega), if_neg (by omega), if_pos t1, if_neg (by omega)] at this
        rcases this with z | z | z
        · cases z
        · omega
        · omega
      · rintro ⟨_, _, t1, t2⟩
        have := h (by omega)
        rw [decide_eq_false (by omega), if_neg (by omega), if_neg (by omega), if_pos t2] at this
        rcases this with z | z | z
        · cases z
        · omega
        · omega
    · rintro ⟨h1, h2⟩ hne
      by_cases c : nat b ((k + 1 : Nat) : Int) = nat b (k : Nat)
      · exact .inl (decide_eq_true c)
      · right; right
        rw [if_neg c]
        by_cases d : nat b (k : Nat) < nat b ((k + 1 : Nat) : Int)
        · rw [if_pos d, if_pos]
          by_cases z : nat b ((k + 1 : Nat) : Int) < nat b ((k + 1 + 1 : Nat) : Int)
          · exact z
          · exact absurd ⟨by omega, by omega, d, by omega⟩ h1
        · rw [if_neg d, if_neg]
          intro z
          exact h2 ⟨by omega, by omega, by omega, z⟩
theorem row_rest {a b : List Int} : b ∈ rowF a (optA a) true a.length 0 none ↔ Keep a b ∧ Rest b := by
  have key := fun (hl : b.length = a.length) => row_pathG (a := a) (b := b) (calm := true) (ops := optA a) (S := stCt a b) (P := StepC a b) (st := stC a b) (fun _ => rfl) (fun _ => rfl) (fun k c hc => opt_flag hc) (fun k => nxC_at k) a.length 0 (by omega)
  have acc : accB (stCt a b b.length) = accB (stAt a b b.length) := by
    cases b.length with
    | zero => rfl
    | succ n => rfl
  constructor
  · intro h
    have hl : b.length = a.length := row_each h
    have := (key hl).mp (by rw [List.drop_zero]; exact h)
    rw [acc] at this
    refine ⟨(keep_path hl).mpr ⟨fun p p0 p1 => ?_, this.2⟩, fun p => ?_⟩
    · obtain ⟨z1, z2⟩ := this.1 p p0 p1
      refine ⟨z1, ?_⟩
      cases p with
      | zero => exact True.intro
      | succ p => exact z2.1
    · by_cases hp : 0 < p ∧ p + 1 < b.length
      · have z2 := (this.1 (p.toNat + 1) (Nat.zero_le _) (by omega)).2.2
        have := (calm_iff (b := b) (k := p.toNat) (by omega)).mp z2
        rw [show ((p.toNat : Nat) : Int) = p by omega] at this
        exact this
      · exact ⟨fun t => hp ⟨t.1, t.2.1⟩, fun t => hp ⟨t.1, t.2.1⟩⟩
  · intro ⟨h, hw⟩
    have hl := h.len
    obtain ⟨k1, k2⟩ := (keep_path hl).mp h
    have := (key hl).mpr ⟨fun p p0 p1 => ⟨(k1 p p0 p1).1, ?_⟩, by rw [acc]; exact k2⟩
    · rw [List.drop_zero] at this
      exact this
    · have z := (k1 p p0 p1).2
      cases p with
      | zero => exact True.intro
      | succ p => exact ⟨z, (calm_iff (by omega)).mpr (hw _)⟩
theorem rest_call {b : List Int} : Rest b ↔ ∀ i : Int, 0 ≤ i → i < b.length → callN b i = b := by
  constructor
  · intro h i h0 h1
    rcases call_cases h0 h1 with e | ⟨t, _⟩ | ⟨t, _⟩
    · exact e
    · exact absurd t (h i).1
    · exact absurd t (h i).2
  · intro h p
    have go : 0 < p → p + 1 < b.length → midN b p = mid3 (nat b (p - 1)) (nat b p) (nat b (p + 1)) := fun h0 h1 => by
      unfold midN
      rw [if_neg (by omega)]
    refine ⟨fun t => ?_, fun t => ?_⟩
    · obtain ⟨t0, t1, t2, t3⟩ := t
      have e := (callN_iff (by omega) (by omega)).mp (h p (by omega) (by omega))
      rw [go t0 t1] at e
      have := mid3_top t2 t3
      omega
    · obtain ⟨t0, t1, t2, t3⟩ := t
      have e := (callN_iff (by omega) (by omega)).mp (h p (by omega) (by omega))
      rw [go t0 t1] at e
      have := mid3_dip t2 t3
      omega
/-- there is always one at rest -/
theorem rest_some (a : List Int) : ∃ b, Keep a b ∧ Rest b := by
  have go : ∀ (m : Nat) (b : List Int), Keep a b → a.length ≤ dst a b + m → ∃ b, Keep a b ∧ Rest b := by
    intro m
    induction m with
    | zero =>
      intro b hb hd
      refine ⟨b, hb, rest_call.mpr fun i h0 h1 => ?_⟩
      by_cases e : callN b i = b
      · exact e
      · have hl := hb.len
        have := (hb.more1 h0 (by omega) e).1
        have := dst_le a (callN b i)
        unfold dst at *
        omega
    | succ m ih =>
      intro b hb hd
      by_cases z : ∀ i : Int, 0 ≤ i → i < b.length → callN b i = b
      · exact ⟨b, hb, rest_call.mpr z⟩
      · have ⟨i, hi⟩ := Classical.not_forall.mp z
        have ⟨h0, hi⟩ := Classical.not_forall.mp hi
        have ⟨h1, hi⟩ := Classical.not_forall.mp hi
        have hl := hb.len
        have := (hb.more1 h0 (by omega) hi).1
        exact ih (callN b i) (hb.call h0 (by omega)) (by unfold dst at *; omega)
  exact go a.length a (Keep.refl a) (by omega)
/-! ### lists of rows compared -/
theorem eqv_row (b c : List Int) : PyData.eqv (rowD b) (rowD c) = decide (b = c) := eqv_ti b c
theorem eqvAll_rows : ∀ l m : List (List Int), PyData.eqvAll (l.map rowD) (m.map rowD) = decide (l = m)
  | [], [] => by simp [PyData.eqvAll]
  | [], m :: ms => by simp [PyData.eqvAll]
  | n :: ns, [] => by simp [PyData.eqvAll]
  | n :: ns, m :: ms => by
    simp only [List.map_cons, PyData.eqvAll, eqv_row, eqvAll_rows ns ms, List.cons.injEq, Bool.decide_and]
theorem eq_rows (l m : List (List Int)) : eqW (.list (l.map rowD)) (.list (m.map rowD)) = some (.bool (decide (l = m))) := by
  rw [eqW_ll (shaped_rows l) (shaped_rows m)]
  congr 2
  rw [← eqvAll_rows]; simp [PyData.eqv]
theorem neq_rows (l m : List (List Int)) : neW (.list (l.map rowD)) (.list (m.map rowD)) = some (.bool (!decide (l = m))) := by
  rw [neW_ll (shaped_rows l) (shaped_rows m)]
  congr 2
  rw [← eqvAll_rows]; simp [PyData.eqv]
end DL

/-! DNr: at most three to the inner people rows follow; the rows listed person by person. -/
namespace DL
open PySem L2
/-- somebody at p or to the left stayed, and all from there to p are equal -/
def Lft (a b : List Int) (p : Int) : Prop := ∃ q : Int, 0 ≤ q ∧ q ≤ p ∧ nat a q = nat b q ∧ ∀ r : Int, q ≤ r → r ≤ p → nat b r = nat b p
open Classical in
noncomputable def codeN (a b : List Int) (p : Int) : Nat := if nat a p = nat b p then 0 else if Lft a b p then 1 else 2
theorem codeN_lt (a b : List Int) (p : Int) : codeN a b p < 3 := by
  unfold codeN
  split
  · omega
  · split <;> omega
theorem code_0 {a b : List Int} {p : Int} : codeN a b p = 0 ↔ nat a p = nat b p := by
  unfold codeN
  by_cases h : nat a p = nat b p
  · rw [if_pos h]; exact ⟨fun _ => h, fun _ => rfl⟩
  · rw [if_neg h]
    refine ⟨fun z => ?_, fun z => absurd z h⟩
    split at z <;> cases z
theorem code_1 {a b : List Int} {p : Int} : codeN a b p = 1 ↔ nat a p ≠ nat b p ∧ Lft a b p := by
  unfold codeN
  by_cases h : nat a p = nat b p
  · rw [if_pos h]; exact ⟨fun z => (nomatch z), fun z => absurd h z.1⟩
  · rw [if_neg h]
    by_cases l : Lft a b p
    · rw [if_pos l]; exact ⟨fun _ => ⟨h, l⟩, fun _ => rfl⟩
    · rw [if_neg l]; exact ⟨fun z => (nomatch z), fun z => absurd z.2 l⟩
/-- one step to the left within the run -/
theorem Lft.step {a b : List Int} {p : Int} (h : Lft a b p) (hn : nat a p ≠ nat b p) : 0 ≤ p - 1 ∧ nat b (p - 1) = nat b p ∧ Lft a b (p - 1) := by
  obtain ⟨q, q0, q1, qs, qr⟩ := h
  have ne : q ≠ p := fun z => hn (by rw [← z]; exact qs)
  have e := qr (p - 1) (by omega) (by omega)
  exact ⟨by omega, e, q, q0, by omega, qs, fun r h1 h2 => by rw [e]; exact qr r h1 (by omega)⟩
theorem Keep.end0 {a b : List Int} (h : Keep a b) {p : Int} (h0 : 0 ≤ p) (h1 : p < a.length) (he : p = 0 ∨ p + 1 = a.length) : nat a p = nat b p := by
  rcases h.chg p h0 h1 with z | ⟨t, _⟩ | ⟨t, _⟩
  · exact z
  · have := t.1; have := t.2.1; omega
  · have := t.1; have := t.2.1; omega
theorem code_left {a b c : List Int} (hb : Keep a b) (hc : Keep a c) (hk : ∀ p : Int, 0 < p → p + 1 < a.length → codeN a b p = codeN a c p) : ∀ (k : Nat), (k : Int) < a.length → Lft a b (k : Nat) → nat c (k : Nat) = nat b (k : Nat)
  | 0, h, _ => by
    rw [← hc.end0 (p := (0 : Nat)) (by omega) (by omega) (.inl rfl), ← hb.end0 (p := (0 : Nat)) (by omega) (by omega) (.inl rfl)]
  | k + 1, h, hl => by
    by_cases he : ((k + 1 : Nat) : Int) + 1 = a.length
    · rw [← hc.end0 (p := ((k + 1 : Nat) : Int)) (by omega) (by omega) (.inr he), ← hb.end0 (p := ((k + 1 : Nat) : Int)) (by omega) (by omega) (.inr he)]
    · have e := hk ((k + 1 : Nat) : Int) (by omega) (by omega)
      by_cases hs : nat a ((k + 1 : Nat) : Int) = nat b ((k + 1 : Nat) : Int)
      · rw [code_0.mpr hs] at e
        rw [← code_0.mp e.symm]; exact hs
      · rw [code_1.mpr ⟨hs, hl⟩] at e
        obtain ⟨c1, c2⟩ := code_1.mp e.symm
        have s1 := hl.step hs
        have s2 := c2.step c1
        have ek : ((k + 1 : Nat) : Int) - 1 = (k : Nat) := by omega
        rw [ek] at s1 s2
        have ih := code_left hb hc hk k (by omega) s1.2.2
        rw [← s1.2.1, ← s2.2.1]; exact ih
theorem Keep.right {a b : List Int} (h : Keep a b) {p : Int} (h0 : 0 ≤ p) (h1 : p < a.length) (hl : ¬ Lft a b p) : p + 1 < a.length ∧ nat b (p + 1) = nat b p := by
  obtain ⟨q, q0, q1, qs, qr⟩ := h.run p h0 h1
  have hq : p < q := by
    by_cases z : p < q
    · exact z
    · exact absurd ⟨q, q0, by omega, qs, fun r r1 r2 => qr r (by unfold Btw; omega)⟩ hl
  exact ⟨by omega, qr (p + 1) (by unfold Btw; omega)⟩
theorem code_inj {a b c : List Int} (hb : Keep a b) (hc : Keep a c) (hk : ∀ p : Int, 0 < p → p + 1 < a.length → codeN a b p = codeN a c p) : b = c := by
  have main : ∀ (m k : Nat), k + m = a.length → k < a.length → nat c (k : Nat) = nat b (k : Nat) := by
    intro m
    induction m with
    | zero => intro k h h1; omega
    | succ m ih =>
      intro k h h1
      by_cases hl : Lft a b (k : Nat)
      · exact code_left hb hc hk k (by omega) hl
      · obtain ⟨b1, b2⟩ := hb.right (p := (k : Nat)) (by omega) (by omega) hl
        by_cases k0 : k = 0
        · subst k0
          rw [← hc.end0 (p := (0 : Nat)) (by omega) (by omega) (.inl rfl), ← hb.end0 (p := (0 : Nat)) (by omega) (by omega) (.inl rfl)]
        · have e := hk (k : Nat) (by omega) b1
          have hs : nat a (k : Nat) ≠ nat b (k : Nat) := fun z => hl ⟨(k : Nat), by omega, by omega, z, fun r r1 r2 => by rw [show r = ((k : Nat) : Int) by omega]⟩
          have hl2 : ¬ Lft a c (k : Nat) := fun z => by
            by_cases y : nat a (k : Nat) = nat c (k : Nat)
            · rw [code_0.mpr y] at e
              exact hs (code_0.mp e)
            · rw [code_1.mpr ⟨y, z⟩] at e
              exact hl (code_1.mp e).2
          obtain ⟨_, c2⟩ := hc.right (p := (k : Nat)) (by omega) (by omega) hl2
          have := ih (k + 1) (by omega) (by omega)
          rw [show ((k + 1 : Nat) : Int) = (k : Nat) + 1 by omega] at this
          rw [← b2, ← c2]; exact this
  refine row_eq (by rw [hc.len, hb.len]) fun p h0 h1 => ?_
  rw [hb.len] at h1
  have := main (a.length - p.toNat) p.toNat (by omega) (by omega)
  rw [show ((p.toNat : Nat) : Int) = p by omega] at this
  exact this.symm
def allC : Nat → List (List Nat)
  | 0 => [[]]
  | m + 1 => (allC m).flatMap fun c => [0 :: c, 1 :: c, 2 :: c]
theorem allC_len : ∀ m, (allC m).length = 3 ^ m
  | 0 => rfl
  | m + 1 => by
    unfold allC
    rw [List.length_flatMap]
    have : ((allC m).map fun c => [0 :: c, 1 :: c, 2 :: c].length) = List.replicate (allC m).length 3 := by
      rw [List.eq_replicate_iff]
      exact ⟨by rw [List.length_map], fun x hx => by obtain ⟨c, _, rfl⟩ := List.mem_map.mp hx; rfl⟩
    rw [this, List.sum_replicate_nat, allC_len m, Nat.pow_succ]
theorem allC_mem : ∀ {c : List Nat}, (∀ x ∈ c, x < 3) → c ∈ allC c.length
  | [], _ => List.mem_singleton.mpr rfl
  | x :: c, h => by
    rw [List.length_cons]
    unfold allC
    rw [List.mem_flatMap]
    refine ⟨c, allC_mem fun y hy => h y (List.mem_cons_of_mem _ hy), ?_⟩
    have := h x List.mem_cons_self
    rcases x with _ | _ | _ | x
    · simp
    · simp
    · simp
    · omega
theorem fol_3 (a : List Int) : (folR a).length ≤ 3 ^ (a.length - 2) := by
  have nd : ((folR a).map fun b => (rngI 1 (a.length - 2)).map (codeN a b)).Nodup := by
    unfold List.Nodup
    rw [List.pairwise_map]
    refine (fol_nodup a).imp_of_mem fun {b c} hb hc hne e => hne (code_inj (fol_mem.mp hb) (fol_mem.mp hc) fun p p0 p1 => ?_)
    exact (List.map_inj_left.mp e) p (in_rngI (by omega) (by omega))
  have := sub_len nd (m := allC (a.length - 2)) fun x hx => by
    obtain ⟨b, _, rfl⟩ := List.mem_map.mp hx
    have := allC_mem (c := (rngI 1 (a.length - 2)).map (codeN a b)) fun y hy => by
      obtain ⟨p, _, rfl⟩ := List.mem_map.mp hy
      exact codeN_lt a b p
    rw [List.length_map, rngI_len] at this
    exact this
  rw [List.length_map, allC_len] at this
  exact this
theorem fol_243 {a : List Int} (hl : a.length ≤ 7) : (folR a).length ≤ 243 := by
  have h := fol_3 a
  have : (3 : Nat) ^ (a.length - 2) ≤ 3 ^ 5 := Nat.pow_le_pow_right (by omega) (by omega)
  exact Nat.le_trans h (Nat.le_trans this (by decide))
/-! ### the rows listed, person by person -/
abbrev Pth := List Int × Stt
def goOn (a : List Int) (ops : Int → List Opt) (i : Nat) (s : Stt) : List Sta := (nxL a (ops i) i s false).filter fun t => decide (0 < cntF a ops false (a.length - (i + 1)) ((i + 1 : Nat) : Int) (some t))
def pthL (a : List Int) (ops : Int → List Opt) : Nat → List Pth
  | 0 => [([], none)]
  | i + 1 => (pthL a ops i).flatMap fun x => (goOn a ops i x.2).map fun t => (x.1 ++ [t.num], some t)
theorem flatMap_drop {α β : Type} {f : α → List β} {p : α → Bool} : ∀ {l : List α}, (∀ x ∈ l, p x = false → f x = []) → (l.filter p).flatMap f = l.flatMap f
  | [], _ => rfl
  | x :: l, h => by
    have ih := flatMap_drop (f := f) (p := p) (l := l) fun y hy => h y (List.mem_cons_of_mem _ hy)
    rw [List.filter_cons, List.flatMap_cons]
    by_cases e : p x = true
    · rw [if_pos e, List.flatMap_cons, ih]
    · rw [if_neg e, ih, h x List.mem_cons_self (by simpa using e)]; rfl
theorem pth_rows {a : List Int} {ops : Int → List Opt} : ∀ i, i ≤ a.length → ((pthL a ops i).flatMap fun x => (rowF a ops false (a.length - i) i x.2).map (x.1 ++ ·)) = rowF a ops false a.length 0 none
  | 0, _ => by
    unfold pthL
    rw [List.flatMap_cons, List.flatMap_nil, List.append_nil]
    show (rowF a ops false (a.length - 0) 0 none).map (fun x => x) = _
    rw [Nat.sub_zero, List.map_id']
  | i + 1, h => by
    rw [← pth_rows i (by omega)]
    show (((pthL a ops i).flatMap fun x => (goOn a ops i x.2).map fun t => (x.1 ++ [t.num], some t)).flatMap fun x => (rowF a ops false (a.length - (i + 1)) ((i + 1 : Nat) : Int) x.2).map (x.1 ++ ·)) = _
    rw [List.flatMap_assoc]
    congr 1
    funext x
    rw [List.flatMap_map]
    have e : a.length - i = (a.length - (i + 1)) + 1 := by omega
    have r : rowF a ops false (a.length - i) i x.2 = (nxL a (ops i) i x.2 false).flatMap fun t => (rowF a ops false (a.length - (i + 1)) ((i + 1 : Nat) : Int) (some t)).map (t.num :: ·) := by rw [e]; rfl
    rw [r, List.map_flatMap]
    unfold goOn
    rw [flatMap_drop]
    · congr 1
      funext t
      rw [List.map_map]
      refine List.map_congr_left fun c _ => ?_
      show (x.1 ++ [t.num]) ++ c = x.1 ++ (t.num :: c)
      rw [List.append_assoc]; rfl
    · intro t _ hz
      have : rowF a ops false (a.length - (i + 1)) ((i + 1 : Nat) : Int) (some t) = [] := List.eq_nil_of_length_eq_zero (by rw [row_len]; simpa using hz)
      rw [this]; rfl
theorem pth_pos {a : List Int} {ops : Int → List Opt} (h0 : 0 < cntF a ops false a.length 0 none) : ∀ i, i ≤ a.length → ∀ x ∈ pthL a ops i, 0 < cntF a ops false (a.length - i) i x.2
  | 0, _, x, hx => by
    rw [List.mem_singleton.mp hx]
    exact h0
  | i + 1, h, x, hx => by
    obtain ⟨y, _, hy⟩ := List.mem_flatMap.mp hx
    obtain ⟨t, ht, rfl⟩ := List.mem_map.mp hy
    have := (List.mem_filter.mp ht).2
    simpa using this
theorem len_le_flat {α β : Type} {f : α → List β} : ∀ {l : List α}, (∀ x ∈ l, 0 < (f x).length) → l.length ≤ (l.flatMap f).length
  | [], _ => Nat.le_refl _
  | x :: l, h => by
    have ih := len_le_flat (f := f) (l := l) fun y hy => h y (List.mem_cons_of_mem _ hy)
    have := h x List.mem_cons_self
    rw [List.flatMap_cons, List.length_append, List.length_cons]; omega
theorem pth_len {a : List Int} {ops : Int → List Opt} (h0 : 0 < cntF a ops false a.length 0 none) {i : Nat} (h : i ≤ a.length) : (pthL a ops i).length ≤ cntF a ops false a.length 0 none := by
  rw [← row_len, ← pth_rows i h]
  exact len_le_flat fun x hx => by rw [List.length_map, row_len]; exact pth_pos h0 i h x hx
theorem pth_end {a : List Int} {ops : Int → List Opt} (h0 : 0 < cntF a ops false a.length 0 none) : (pthL a ops a.length).map (·.1) = rowF a ops false a.length 0 none := by
  rw [← pth_rows a.length (Nat.le_refl _)]
  have hp := pth_pos h0 a.length (Nat.le_refl _)
  generalize pthL a ops a.length = l at hp
  rw [Nat.sub_self] at *
  induction l with
  | nil => rfl
  | cons x l ih =>
    rw [List.map_cons, List.flatMap_cons, ih fun y hy => hp y (List.mem_cons_of_mem _ hy)]
    have := hp x List.mem_cons_self
    have ac : accB x.2 = true := by
      cases e : accB x.2 with
      | true => rfl
      | false =>
        have z : cntF a ops false 0 (a.length : Nat) x.2 = 0 := by
          show (if accB x.2 then 1 else 0) = 0
          rw [e]; rfl
        omega
    have r : rowF a ops false 0 (a.length : Nat) x.2 = [[]] := by
      show (if accB x.2 then [[]] else []) = [[]]
      rw [if_pos ac]
    rw [r]
    show x.1 :: _ = (x.1 ++ []) :: _
    rw [List.append_nil]; rfl
/-- the state of each is one that is reached -/
theorem pth_lay {a : List Int} {ops : Int → List Opt} : ∀ i, ∀ x ∈ pthL a ops i, x.2 ∈ layN a ops false i ∧ x.1.length = i
  | 0, x, hx => by rw [List.mem_singleton.mp hx]; exact ⟨List.mem_singleton.mpr rfl, rfl⟩
  | i + 1, x, hx => by
    obtain ⟨y, hy, h⟩ := List.mem_flatMap.mp hx
    obtain ⟨t, ht, rfl⟩ := List.mem_map.mp h
    obtain ⟨y1, y2⟩ := pth_lay i y hy
    exact ⟨lay_next y1 (List.mem_filter.mp ht).1, by rw [List.length_append, y2]; rfl⟩
end DL

namespace W
open PySem L2 DL
def topS (i : Nat) : Stmt := PySem.Challenge.pw_middlecall_k40_following_rows_listed.main.body.getD i (.Pass ⟨0, 0, 0, 0⟩)
abbrev CsL : List Str := ["TooMany"]
abbrev UsL : List Str := []
abbrev tl_OverflowError : List Value := [.type "OverflowError", .type "ArithmeticError", .type "Exception", .type "BaseException", .type "object"]
abbrev si_TooMany : Stmt := inClass (topS 1) 0
theorem sci_TooMany : FnScope ["self", "many"] ["self", "many"] (defScope si_TooMany) := ⟨rfl, rfl, rfl, by decide +kernel, rfl, by decide +kernel, by decide +kernel⟩
abbrev s__law_box : Stmt := topS 21
abbrev N__law_box : List Str := ["_law_script", "_law_k", "_law_cell"]
theorem sc__law_box : FnScope N__law_box ["_law_script", "_law_k"] (defScope s__law_box) := ⟨rfl, rfl, rfl, by decide +kernel, rfl, by decide +kernel, by decide +kernel⟩
def g__law_box : GS :=
    (sSeq (sSet 2 (eIf (tstE (eOp2 ltD (oE (eV 1)) (oE (eApp lenD (aCons (oE (eV 0)) aNil))))) (eOp2 ixD (oE (eV 0)) (oE (eV 1))) (eC (.int 0))))
    (sRetF (eSeq (aCons (oE (eOp2 mulV (oE (eApp absD (aCons (oE (eV 2)) aNil))) (oE (eApp intD (aCons (oE (eOp2 geD (oE (eApp absD (aCons (oE (eV 2)) aNil))) (oE (eOp2 powD (oE (eC (.int 10))) (oE (eC (.int 18))))))) aNil))))) (aCons (oE (eOp2 addU (oE (eOp2 addU (oE (eOp2 modD (oE (eV 2)) (oE (eC (.int 2147483629))))) (oE (eOp2 mulV (oE (eC (.int 7919))) (oE (eV 1)))))) (oE (eC (.int 65))))) (aCons (oE (eC (.int 0))) aNil))))))
def F__law_box : List D → Option (List D) := callF 2 3 g__law_box
abbrev s__law_call : Stmt := topS 25
abbrev N__law_call : List Str := ["_law_line", "_law_who"]
theorem sc__law_call : FnScope N__law_call ["_law_line", "_law_who"] (defScope s__law_call) := ⟨rfl, rfl, rfl, by decide +kernel, rfl, by decide +kernel, by decide +kernel⟩
def g__law_call : GS :=
    (sSeq (sIf (tstE (eOp2 inD (oE (eV 1)) (oE (eT (eSeq (aCons (oE (eC (.int 0))) (aCons (oE (eOp2 subD (oE (eApp lenD (aCons (oE (eV 0)) aNil))) (oE (eC (.int 1))))) aNil))))))) (sRet (eV 0))
    sNext)
    (sRet (eOp2 addU (oE (eOp2 addU (oE (eSl sliceU (oE (eV 0)) pNo (pSo (eV 1)))) (oE (eT (eSeq (aCons (oE (eOp2 ixD (oE (eL (eApp sortedD (aCons (oE (eSl sliceU (oE (eV 0)) (pSo (eOp2 subD (oE (eV 1)) (oE (eC (.int 1))))) (pSo (eOp2 addU (oE (eV 1)) (oE (eC (.int 2))))))) aNil)))) (oE (eC (.int 1))))) aNil)))))) (oE (eSl sliceU (oE (eV 0)) (pSo (eOp2 addU (oE (eV 1)) (oE (eC (.int 1))))) pNo)))))
def F__law_call : List D → Option D := callP 2 2 g__law_call
abbrev s__law_far : Stmt := topS 26
abbrev N__law_far : List Str := ["_law_line", "_law_found", "_law_layer", "_law_further", "_law_here", "_law_who", "_law_there"]
theorem sc__law_far : FnScope N__law_far ["_law_line"] (defScope s__law_far) := ⟨rfl, rfl, rfl, by decide +kernel, rfl, by decide +kernel, by decide +kernel⟩
def gb__law_far_1 : GS :=
    (sSeq (sSet 6 (eCall F__law_call (aCons (oE (eV 4)) (aCons (oE (eV 5)) aNil))))
    (sIf (tstE (eOp2 dNotInD (oE (eV 6)) (oV 1))) (sSeq (sPutD 1 (eV 6) (eOp2 addU (oE (eOp2 dGetD (oV 1) (oE (eV 4)))) (oE (eC (.int 1)))))
    (sApp 3 (eV 6)))
    sNext))
def gb__law_far_2 : GS :=
    (sFor (eCall rng1 (aCons (oE (eApp lenD (aCons (oE (eV 0)) aNil))) aNil)) (gN 5) gb__law_far_1)
def wt__law_far_3 : GT :=
    (tstE (eOp2 neW (oE (eV 2)) (oE (eL (eSeq aNil)))))
def gb__law_far_4 : GS :=
    (sSeq (sSetO 3 (eSeq aNil))
    (sSeq (sFor (gSeq (eV 2)) (gN 4) gb__law_far_2)
    (sFz 3 (sSet 2 (eV 3)))))
def g__law_far : GS :=
    (sSeq (sParD 1 2 (eDisp (eV 0) (eC (.int 0))) (nS (eL (eSeq (aCons (oE (eV 0)) aNil)))))
    (sSeq (whileL wt__law_far_3 gb__law_far_4 1000)
    (sFz 1 (sRet (eV 1)))))
def F__law_far : List D → Option D := callP 1 7 g__law_far
abbrev s__law_same : Stmt := topS 23
abbrev N__law_same : List Str := ["_law_found", "_law_due", "_law_mine", "_law_its"]
theorem sc__law_same : FnScope N__law_same ["_law_found", "_law_due"] (defScope s__law_same) := ⟨rfl, rfl, rfl, by decide +kernel, rfl, by decide +kernel, by decide +kernel⟩
def ce__law_same_1 (Frec : List D → Option D) : GE :=
    (eCall Frec (aCons (oE (eV 2)) (aCons (oE (eV 3)) aNil)))
def g__law_same (Frec : List D → Option D) : GS :=
    (sSeq (sIf (tstE (eOp1 (isiTD ["list", "tuple"]) (oE (eV 1)))) (sSeq (sIf (tOrG (tstE (eOp2 neW (oE (eOp1 (isiD "list") (oE (eV 0)))) (oE (eOp1 (isiD "list") (oE (eV 1)))))) (tstE (eOp2 neW (oE (eOp1 (isiD "tuple") (oE (eV 0)))) (oE (eOp1 (isiD "tuple") (oE (eV 1))))))) (sRet (eC (.bool false)))
    sNext)
    (sRet (eAndG (eOp2 eqW (oE (eApp lenD (aCons (oE (eV 0)) aNil))) (oE (eApp lenD (aCons (oE (eV 1)) aNil)))) (eApp allD (aCons (oE (eL (eLc [2, 3] (eCall zip2D (aCons (oE (eV 0)) (aCons (oE (eV 1)) aNil))) (gT 2 (gsCons (gN 2) (gsCons (gN 3) gsNil))) gYes (ce__law_same_1 Frec)))) aNil)))))
    sNext)
    (sSeq (sIf (tOrG (tstE (eOp2 isD (oE (eV 1)) (oE (eC .none)))) (tstE (eOp1 (isiD "str") (oE (eV 1))))) (sRet (eAndG (eOp2 eqW (oE (eV 0)) (oE (eV 1))) (eOp2 eqW (oE (eOp1 (isiD "str") (oE (eV 0)))) (oE (eOp1 (isiD "str") (oE (eV 1)))))))
    sNext)
    (sRet (eAndG (eOp1 (isiD "int") (oE (eV 0))) (eAndG (eOp2 eqW (oE (eOp1 (isiD "bool") (oE (eV 0)))) (oE (eOp1 (isiD "bool") (oE (eV 1))))) (eOp2 eqW (oE (eV 0)) (oE (eV 1))))))))
def F__law_same : Nat → List D → Option D
  | 0 => fun _ => none
  | n + 1 => callP 2 4 (g__law_same (F__law_same n))
theorem Fl__law_same : ∀ (n : Nat) ds d, F__law_same n ds = some d → ds.length = 2
  | 0, ds, d, h => nomatch h
  | n + 1, ds, d, h => callP_len ds d h
abbrev s__law_take : Stmt := topS 22
abbrev N__law_take : List Str := ["_law_box_here", "_law_below", "_law_once", "_law_found"]
theorem sc__law_take : FnScope N__law_take ["_law_box_here", "_law_below"] (defScope s__law_take) := ⟨rfl, rfl, rfl, by decide +kernel, rfl, by decide +kernel, by decide +kernel⟩
def g__law_take (Frec : List D → List D → Option (D × List D)) : GS :=
    (sSeq (sIf (tstE (eOp2 gtD (oE (eOp2 ixD (oV 0) (oE (eC (.int 0))))) (oE (eC (.int 0))))) (sSeq (sSet 3 (eOp2 modD (oE (eOp2 ixD (oV 0) (oE (eC (.int 0))))) (oE (eV 1))))
    (sSeq (sPutIx 0 (eC (.int 0)) (eOp2 fdivD (oE (eOp2 ixD (oV 0) (oE (eC (.int 0))))) (oE (eV 1))))
    (sRet (eV 3))))
    sNext)
    (sSeq (sIf (tstE (eOp2 gtD (oE (eV 1)) (oE (eOp2 powD (oE (eC (.int 10))) (oE (eC (.int 7))))))) (sRet (eOp2 modD (oE (eOp2 addU (oE (eCallB Frec 0 (aCons (oE (eOp2 powD (oE (eC (.int 10))) (oE (eC (.int 7))))) aNil))) (oE (eOp2 mulV (oE (eOp2 powD (oE (eC (.int 10))) (oE (eC (.int 7))))) (oE (eCallB Frec 0 (aCons (oE (eOp2 addU (oE (eOp2 fdivD (oE (eOp2 subD (oE (eV 1)) (oE (eC (.int 1))))) (oE (eOp2 powD (oE (eC (.int 10))) (oE (eC (.int 7))))))) (oE (eC (.int 1))))) aNil))))))) (oE (eV 1))))
    sNext)
    (sSeq (sPutIx 0 (eC (.int 2)) (eOp2 addU (oE (eOp2 ixD (oV 0) (oE (eC (.int 2))))) (oE (eC (.int 1)))))
    (sSeq (sSet 2 (eOp2 modD (oE (eOp2 powD (oE (eOp2 addU (oE (eOp2 ixD (oV 0) (oE (eC (.int 1))))) (oE (eOp2 mulV (oE (eC (.int 48271))) (oE (eOp2 ixD (oV 0) (oE (eC (.int 2))))))))) (oE (eC (.int 5))))) (oE (eC (.int 2147483647)))))
    (sRet (eOp2 modD (oE (eOp2 fdivD (oE (eOp2 modD (oE (eOp2 addU (oE (eOp2 mulV (oE (eV 2)) (oE (eOp2 addU (oE (eOp2 modD (oE (eV 2)) (oE (eC (.int 30011))))) (oE (eC (.int 7))))))) (oE (eOp2 mulV (oE (eOp2 ixD (oV 0) (oE (eC (.int 2))))) (oE (eC (.int 7919))))))) (oE (eC (.int 2147483629))))) (oE (eC (.int 64))))) (oE (eV 1))))))))
def F__law_take : Nat → List D → List D → Option (D × List D)
  | 0 => fun _ _ => none
  | n + 1 => callB 2 4 (g__law_take (F__law_take n))
theorem Fl__law_take : ∀ (n : Nat) b ds d, F__law_take n b ds = some d → ds.length + 1 = 2
  | 0, b, ds, d, h => nomatch h
  | n + 1, b, ds, d, h => callB_len b ds d h
abbrev s__law_some_line : Stmt := topS 24
abbrev N__law_some_line : List Str := ["_law_box_here", "_law_most", "_law_kind", "_law_found", "_law_who"]
theorem sc__law_some_line : FnScope N__law_some_line ["_law_box_here", "_law_most"] (defScope s__law_some_line) := ⟨rfl, rfl, rfl, by decide +kernel, rfl, by decide +kernel, by decide +kernel⟩
def gb__law_some_line_1 : GS :=
    (sIf (tstE (eOp2 eqW (oE (eV 2)) (oE (eC (.int 0))))) (sSet 3 (eOp2 addU (oE (eV 3)) (oE (eL (eSeq (aCons (oE (eOp2 subD (oE (eCallB (F__law_take 8) 0 (aCons (oE (eC (.int 6))) aNil))) (oE (eC (.int 2))))) aNil))))))
    (sIf (tstE (eOp2 eqW (oE (eV 2)) (oE (eC (.int 1))))) (sSet 3 (eOp2 addU (oE (eV 3)) (oE (eL (eSeq (aCons (oE (eOp2 subD (oE (eOp2 addU (oE (eOp2 mulV (oE (eC (.int 10))) (oE (eOp2 modD (oE (eV 4)) (oE (eC (.int 2))))))) (oE (eCallB (F__law_take 8) 0 (aCons (oE (eC (.int 7))) aNil))))) (oE (eC (.int 5))))) aNil))))))
    (sSet 3 (eOp2 addU (oE (eV 3)) (oE (eL (eSeq (aCons (oE (eOp2 subD (oE (eCallB (F__law_take 8) 0 (aCons (oE (eOp2 addU (oE (eOp2 mulV (oE (eC (.int 2))) (oE (eOp2 powD (oE (eC (.int 10))) (oE (eC (.int 40))))))) (oE (eC (.int 1))))) aNil))) (oE (eOp2 powD (oE (eC (.int 10))) (oE (eC (.int 40))))))) aNil))))))))
def g__law_some_line : GS :=
    (sSeq (sPar 2 3 (nS (eCallB (F__law_take 8) 0 (aCons (oE (eC (.int 3))) aNil))) (nS (eL (eSeq aNil))))
    (sSeq (sFor (eCall rng1 (aCons (oE (eCallB (F__law_take 8) 0 (aCons (oE (eOp2 addU (oE (eV 1)) (oE (eC (.int 1))))) aNil))) aNil)) (gN 4) gb__law_some_line_1)
    (sRet (eApp tupleD (aCons (oE (eV 3)) aNil)))))
def F__law_some_line : List D → List D → Option (D × List D) := callB 2 5 g__law_some_line
abbrev s_parted : Stmt := topS 8
abbrev N_parted : List Str := ["row", "place", "state", "option", "calm", "before", "stays", "came", "wide", "number", "changes", "turn"]
theorem sc_parted : FnScope N_parted ["row", "place", "state", "option", "calm"] (defScope s_parted) := ⟨rfl, rfl, rfl, by decide +kernel, rfl, by decide +kernel, by decide +kernel⟩
def g_parted : GS :=
    (sSeq (sTo (eT (eSeq (aCons (oE (eV 2)) (aCons (oE (eV 3)) aNil)))) (gT 2 (gsCons (gT 4 (gsCons (gN 5) (gsCons (gN 6) (gsCons (gN 7) (gsCons (gN 8) gsNil))))) (gsCons (gT 2 (gsCons (gN 9) (gsCons (gN 10) gsNil))) gsNil))))
    (sSeq (sIf (tOrG (tNotG (tstE (eV 6))) (tOrG (tstE (eOp2 eqW (oE (eOp2 ixD (oE (eV 0)) (oE (eOp2 subD (oE (eV 1)) (oE (eC (.int 1))))))) (oE (eOp2 ixD (oE (eV 0)) (oE (eV 1)))))) (tstE (eOp2 neW (oE (eOp2 ltD (oE (eOp2 ixD (oE (eV 0)) (oE (eOp2 subD (oE (eV 1)) (oE (eC (.int 1))))))) (oE (eOp2 ixD (oE (eV 0)) (oE (eV 1)))))) (oE (eOp2 ltD (oE (eV 5)) (oE (eV 9)))))))) (sRet (eC .none))
    sNext)
    (sSeq (sSet 11 (eIf (tstE (eOp2 ltD (oE (eV 5)) (oE (eV 9)))) (eC (.int 1)) (eOp1 negD (oE (eC (.int 1))))))
    (sSeq (sIf (tAndG (tstE (eV 4)) (tAndG (tNotG (tstE (eV 8))) (tstE (eOp2 notInD (oE (eV 7)) (oE (eT (eSeq (aCons (oE (eC (.int 0))) (aCons (oE (eV 11)) aNil))))))))) (sRet (eC .none))
    sNext)
    (sRet (eT (eSeq (aCons (oE (eV 9)) (aCons (oE (eNotG (eV 10))) (aCons (oE (eIf (tstE (eV 4)) (eV 11) (eC (.int 0)))) (aCons (oE (eC (.bool false))) aNil)))))))))))
def F_parted : List D → Option D := callP 5 12 g_parted
abbrev s_next_state : Stmt := topS 9
abbrev N_next_state : List Str := ["row", "place", "state", "option", "calm"]
theorem sc_next_state : FnScope N_next_state ["row", "place", "state", "option", "calm"] (defScope s_next_state) := ⟨rfl, rfl, rfl, by decide +kernel, rfl, by decide +kernel, by decide +kernel⟩
def g_next_state : GS :=
    (sSeq (sIf (tstE (eOp2 isD (oE (eV 2)) (oE (eC .none)))) (sRet (eT (eSeq (aCons (oE (eOp2 ixD (oE (eV 3)) (oE (eC (.int 0))))) (aCons (oE (eNotG (eOp2 ixD (oE (eV 3)) (oE (eC (.int 1)))))) (aCons (oE (eC (.int 0))) (aCons (oE (eC (.bool false))) aNil)))))))
    sNext)
    (sSeq (sIf (tstE (eOp2 eqW (oE (eOp2 ixD (oE (eV 3)) (oE (eC (.int 0))))) (oE (eOp2 ixD (oE (eV 2)) (oE (eC (.int 0))))))) (sRet (eT (eSeq (aCons (oE (eOp2 ixD (oE (eV 2)) (oE (eC (.int 0))))) (aCons (oE (eOrG (eOp2 ixD (oE (eV 2)) (oE (eC (.int 1)))) (eNotG (eOp2 ixD (oE (eV 3)) (oE (eC (.int 1))))))) (aCons (oE (eOp2 ixD (oE (eV 2)) (oE (eC (.int 2))))) (aCons (oE (eV 4)) aNil)))))))
    sNext)
    (sRet (eCall F_parted (aCons (oE (eV 0)) (aCons (oE (eV 1)) (aCons (oE (eV 2)) (aCons (oE (eV 3)) (aCons (oE (eV 4)) aNil)))))))))
def F_next_state : List D → Option D := callP 5 5 g_next_state
abbrev s_next_states : Stmt := topS 10
abbrev N_next_states : List Str := ["row", "place", "state", "options", "calm", "found", "option", "later"]
theorem sc_next_states : FnScope N_next_states ["row", "place", "state", "options", "calm"] (defScope s_next_states) := ⟨rfl, rfl, rfl, by decide +kernel, rfl, by decide +kernel, by decide +kernel⟩
def ce_next_states_1 : GE :=
    (eCall F_next_state (aCons (oE (eV 0)) (aCons (oE (eV 1)) (aCons (oE (eV 2)) (aCons (oE (eV 6)) (aCons (oE (eV 4)) aNil))))))
def ct_next_states_2 : GT :=
    (tstE (eOp2 isNotD (oE (eV 7)) (oE (eC .none))))
def ce_next_states_3 : GE :=
    (eV 7)
def g_next_states : GS :=
    (sSeq (sSet 5 (eL (eLc [6] (gSeq (eOp2 ixD (oE (eV 3)) (oE (eV 1)))) (gN 6) gYes ce_next_states_1)))
    (sRetF (eLc [7] (gSeq (eV 5)) (gN 7) ct_next_states_2 ce_next_states_3)))
def F_next_states : List D → Option (List D) := callF 5 8 g_next_states
abbrev s_endings : Stmt := topS 11
abbrev N_endings : List Str := ["row", "options", "calm", "layers", "place", "tables", "found", "state", "here", "later", "some"]
theorem sc_endings : FnScope N_endings ["row", "options", "calm"] (defScope s_endings) := ⟨rfl, rfl, rfl, by decide +kernel, rfl, by decide +kernel, by decide +kernel⟩
def gb_endings_1 : GS :=
    (sPutD 6 (eV 9) (eC (.bool true)))
def gb_endings_2 : GS :=
    (sFor (gSeq (eL (eCall F_next_states (aCons (oE (eV 0)) (aCons (oE (eV 4)) (aCons (oE (eV 7)) (aCons (oE (eV 1)) (aCons (oE (eV 2)) aNil)))))))) (gN 9) gb_endings_1)
def gb_endings_3 : GS :=
    (sSeq (sSetD 6 (fun ρ => .ok [] ρ))
    (sSeq (sFor (gSeq (eOp2 ixD (oV 3) (oE (eOp1 negD (oE (eC (.int 1))))))) (gN 7) gb_endings_2)
    (sApp 3 (eL (eApp dKeysD (aCons (oV 6) aNil))))))
def ce_endings_4 : GE :=
    (eT (eSeq (aCons (oE (eV 7)) (aCons (oE (eApp intD (aCons (oE (eOrG (eOp2 isD (oE (eV 7)) (oE (eC .none))) (eOp2 ixD (oE (eV 7)) (oE (eC (.int 1)))))) aNil))) aNil))))
def ce_endings_5 : GE :=
    (eOp2 dGetD (oE (eOp2 ixD (oE (eV 5)) (oE (eC (.int 0))))) (oE (eV 10)))
def gb_endings_6 : GS :=
    (sSeq (sSet 9 (eL (eCall F_next_states (aCons (oE (eV 0)) (aCons (oE (eV 4)) (aCons (oE (eV 7)) (aCons (oE (eV 1)) (aCons (oE (eV 2)) aNil))))))))
    (sPutD 8 (eV 7) (eApp sumD (aCons (oE (eL (eLc [10] (gSeq (eV 9)) (gN 10) gYes ce_endings_5))) aNil))))
def gb_endings_7 : GS :=
    (sSeq (sSetD 8 (fun ρ => .ok [] ρ))
    (sSeq (sFor (gSeq (eOp2 ixD (oV 3) (oE (eV 4)))) (gN 7) gb_endings_6)
    (sFz 8 (sSet 5 (eOp2 addU (oE (eL (eSeq (aCons (oE (eV 8)) aNil)))) (oE (eV 5)))))))
def g_endings : GS :=
    (sSeq (sSetO 3 (eSeq (aCons (oE (eL (eSeq (aCons (oE (eC .none)) aNil)))) aNil)))
    (sSeq (sFor (eCall rng1 (aCons (oE (eApp lenD (aCons (oE (eV 0)) aNil))) aNil)) (gN 4) gb_endings_3)
    (sSeq (sSet 5 (eL (eSeq (aCons (oE (eApp dDictD (aCons (oE (eL (eLc [7] (gSeq (eOp2 ixD (oV 3) (oE (eOp1 negD (oE (eC (.int 1))))))) (gN 7) gYes ce_endings_4))) aNil))) aNil))))
    (sSeq (sFor (eCall rng3 (aCons (oE (eOp2 subD (oE (eApp lenD (aCons (oE (eV 0)) aNil))) (oE (eC (.int 1))))) (aCons (oE (eOp1 negD (oE (eC (.int 1))))) (aCons (oE (eOp1 negD (oE (eC (.int 1))))) aNil)))) (gN 4) gb_endings_7)
    (sRet (eV 5))))))
def F_endings : List D → Option D := callP 3 11 g_endings
abbrev s_free_wish : Stmt := topS 14
abbrev N_free_wish : List Str := ["row"]
theorem sc_free_wish : FnScope N_free_wish ["row"] (defScope s_free_wish) := ⟨rfl, rfl, rfl, by decide +kernel, rfl, by decide +kernel, by decide +kernel⟩
def g_free_wish : GS :=
    (sRetF (eOp2 repL (oE (eL (eSeq (aCons (oE (eC .none)) aNil)))) (oE (eApp lenD (aCons (oE (eV 0)) aNil)))))
def F_free_wish : List D → Option (List D) := callF 1 1 g_free_wish
abbrev s_inner : Stmt := topS 3
abbrev N_inner : List Str := ["row"]
theorem sc_inner : FnScope N_inner ["row"] (defScope s_inner) := ⟨rfl, rfl, rfl, by decide +kernel, rfl, by decide +kernel, by decide +kernel⟩
def g_inner : GS :=
    (sRetF (eRg2 (eC (.int 1)) (eOp2 subD (oE (eApp lenD (aCons (oE (eV 0)) aNil))) (oE (eC (.int 1))))))
def F_inner : List D → Option (List D) := callF 1 1 g_inner
abbrev s_dips : Stmt := topS 5
abbrev N_dips : List Str := ["row", "person"]
theorem sc_dips : FnScope N_dips ["row"] (defScope s_dips) := ⟨rfl, rfl, rfl, by decide +kernel, rfl, by decide +kernel, by decide +kernel⟩
def ct_dips_1 : GT :=
    (tstE (eChain gtD ltD (oE (eOp2 ixD (oE (eV 0)) (oE (eOp2 subD (oE (eV 1)) (oE (eC (.int 1))))))) (oE (eOp2 ixD (oE (eV 0)) (oE (eV 1)))) (oE (eOp2 ixD (oE (eV 0)) (oE (eOp2 addU (oE (eV 1)) (oE (eC (.int 1)))))))))
def ce_dips_2 : GE :=
    (eV 1)
def g_dips : GS :=
    (sRetF (eLc [1] (gSeq (eL (eCall F_inner (aCons (oE (eV 0)) aNil)))) (gN 1) ct_dips_1 ce_dips_2))
def F_dips : List D → Option (List D) := callF 1 2 g_dips
abbrev s_tops : Stmt := topS 4
abbrev N_tops : List Str := ["row", "person"]
theorem sc_tops : FnScope N_tops ["row"] (defScope s_tops) := ⟨rfl, rfl, rfl, by decide +kernel, rfl, by decide +kernel, by decide +kernel⟩
def ct_tops_1 : GT :=
    (tstE (eChain ltD gtD (oE (eOp2 ixD (oE (eV 0)) (oE (eOp2 subD (oE (eV 1)) (oE (eC (.int 1))))))) (oE (eOp2 ixD (oE (eV 0)) (oE (eV 1)))) (oE (eOp2 ixD (oE (eV 0)) (oE (eOp2 addU (oE (eV 1)) (oE (eC (.int 1)))))))))
def ce_tops_2 : GE :=
    (eV 1)
def g_tops : GS :=
    (sRetF (eLc [1] (gSeq (eL (eCall F_inner (aCons (oE (eV 0)) aNil)))) (gN 1) ct_tops_1 ce_tops_2))
def F_tops : List D → Option (List D) := callF 1 2 g_tops
abbrev s_options_of : Stmt := topS 7
abbrev N_options_of : List Str := ["row", "wish", "high", "low", "found", "person", "own", "some", "number", "option"]
theorem sc_options_of : FnScope N_options_of ["row", "wish"] (defScope s_options_of) := ⟨rfl, rfl, rfl, by decide +kernel, rfl, by decide +kernel, by decide +kernel⟩
def ct_options_of_1 : GT :=
    (tstE (eOp2 ltD (oE (eV 8)) (oE (eV 6))))
def ce_options_of_2 : GE :=
    (eT (eSeq (aCons (oE (eV 8)) (aCons (oE (eC (.bool true))) aNil))))
def ct_options_of_3 : GT :=
    (tstE (eOp2 gtD (oE (eV 8)) (oE (eV 6))))
def ct_options_of_4 : GT :=
    (tOrG (tstE (eOp2 isD (oE (eOp2 ixD (oE (eV 1)) (oE (eV 5)))) (oE (eC .none)))) (tstE (eOp2 eqW (oE (eOp2 ixD (oE (eV 1)) (oE (eV 5)))) (oE (eOp2 ixD (oE (eV 9)) (oE (eC (.int 0))))))))
def ce_options_of_5 : GE :=
    (eV 9)
def gb_options_of_6 : GS :=
    (sSeq (sSetO 7 (eSeq (aCons (oE (eT (eSeq (aCons (oE (eV 6)) (aCons (oE (eC (.bool false))) aNil))))) aNil)))
    (sSeq (sIf (tstE (eOp2 inD (oE (eV 5)) (oE (eV 2)))) (sExt 7 (eLc [8] (gSeq (eL (eSrtSet (eV 0)))) (gN 8) ct_options_of_1 ce_options_of_2))
    sNext)
    (sSeq (sIf (tstE (eOp2 inD (oE (eV 5)) (oE (eV 3)))) (sExt 7 (eLc [8] (gSeq (eL (eSrtSet (eV 0)))) (gN 8) ct_options_of_3 ce_options_of_2))
    sNext)
    (sFz 7 (sApp 4 (eL (eApp sortDD (aCons (oE (eL (eLc [9] (gSeq (eV 7)) (gN 9) ct_options_of_4 ce_options_of_5))) aNil))))))))
def g_options_of : GS :=
    (sSeq (sPar3 2 3 4 (nS (eL (eCall F_tops (aCons (oE (eV 0)) aNil)))) (nS (eL (eCall F_dips (aCons (oE (eV 0)) aNil)))) (nF (eSeq aNil)))
    (sSeq (sFor (eCall enum1D (aCons (oE (eV 0)) aNil)) (gT 2 (gsCons (gN 5) (gsCons (gN 6) gsNil))) gb_options_of_6)
    (sRetO 4)))
def F_options_of : List D → Option (List D) := callF 2 10 g_options_of
abbrev s_rows_many : Stmt := topS 12
abbrev N_rows_many : List Str := ["row", "wish", "calm"]
theorem sc_rows_many : FnScope N_rows_many ["row", "wish", "calm"] (defScope s_rows_many) := ⟨rfl, rfl, rfl, by decide +kernel, rfl, by decide +kernel, by decide +kernel⟩
def g_rows_many : GS :=
    (sRet (eOp2 dGetD (oE (eOp2 ixD (oE (eCall F_endings (aCons (oE (eV 0)) (aCons (oE (eL (eCall F_options_of (aCons (oE (eV 0)) (aCons (oE (eV 1)) aNil))))) (aCons (oE (eV 2)) aNil))))) (oE (eC (.int 0))))) (oE (eC .none))))
def F_rows_many : List D → Option D := callP 3 3 g_rows_many
abbrev s_futures_many : Stmt := topS 15
abbrev N_futures_many : List Str := ["row"]
theorem sc_futures_many : FnScope N_futures_many ["row"] (defScope s_futures_many) := ⟨rfl, rfl, rfl, by decide +kernel, rfl, by decide +kernel, by decide +kernel⟩
def g_futures_many : GS :=
    (sRet (eCall F_rows_many (aCons (oE (eV 0)) (aCons (oE (eL (eCall F_free_wish (aCons (oE (eV 0)) aNil)))) (aCons (oE (eC (.bool false))) aNil)))))
def F_futures_many : List D → Option D := callP 1 1 g_futures_many
abbrev s_look_few : Stmt := topS 18
abbrev N_look_few : List Str := ["row", "many"]
theorem sc_look_few : FnScope N_look_few ["row"] (defScope s_look_few) := ⟨rfl, rfl, rfl, by decide +kernel, rfl, by decide +kernel, by decide +kernel⟩
def g_look_few : GS :=
    (sSeq (sSet 1 (eCall F_futures_many (aCons (oE (eV 0)) aNil)))
    (sIf (tstE (eOp2 gtD (oE (eV 1)) (oE (eC (.int 300))))) (sRaise "TooMany" (eV 1))
    sNext))
def F_look_few : List D → RX D := callX 1 2 g_look_few
abbrev s_all_futures : Stmt := topS 19
abbrev N_all_futures : List Str := ["row", "options", "tables", "found", "place", "longer", "begun", "state", "some", "later"]
theorem sc_all_futures : FnScope N_all_futures ["row"] (defScope s_all_futures) := ⟨rfl, rfl, rfl, by decide +kernel, rfl, by decide +kernel, by decide +kernel⟩
def ct_all_futures_1 : GT :=
    (tstE (eOp2 gtD (oE (eOp2 dGetD (oE (eOp2 ixD (oE (eV 2)) (oE (eOp2 addU (oE (eV 4)) (oE (eC (.int 1))))))) (oE (eV 9)))) (oE (eC (.int 0)))))
def ce_all_futures_2 : GE :=
    (eV 9)
def ce_all_futures_3 : GE :=
    (eT (eSeq (aCons (oE (eOp2 addU (oE (eV 6)) (oE (eT (eSeq (aCons (oE (eOp2 ixD (oE (eV 9)) (oE (eC (.int 0))))) aNil)))))) (aCons (oE (eV 9)) aNil))))
def gb_all_futures_4 : GS :=
    (sSeq (sSet 8 (eL (eLc [9] (gSeq (eL (eCall F_next_states (aCons (oE (eV 0)) (aCons (oE (eV 4)) (aCons (oE (eV 7)) (aCons (oE (eV 1)) (aCons (oE (eC (.bool false))) aNil)))))))) (gN 9) ct_all_futures_1 ce_all_futures_2)))
    (sExt 5 (eLc [9] (gSeq (eV 8)) (gN 9) gYes ce_all_futures_3)))
def gb_all_futures_5 : GS :=
    (sSeq (sSetO 5 (eSeq aNil))
    (sSeq (sFor (gSeq (eV 3)) (gT 2 (gsCons (gN 6) (gsCons (gN 7) gsNil))) gb_all_futures_4)
    (sFz 5 (sSet 3 (eV 5)))))
def ce_all_futures_6 : GE :=
    (eV 6)
def g_all_futures : GS :=
    (sSeq (sDropX (eCallX F_look_few (aCons (oE (eV 0)) aNil)))
    (sSeq (sSet 1 (eL (eCall F_options_of (aCons (oE (eV 0)) (aCons (oE (eL (eCall F_free_wish (aCons (oE (eV 0)) aNil)))) aNil)))))
    (sSeq (sTo (eT (eSeq (aCons (oE (eCall F_endings (aCons (oE (eV 0)) (aCons (oE (eV 1)) (aCons (oE (eC (.bool false))) aNil))))) (aCons (oE (eL (eSeq (aCons (oE (eT (eSeq (aCons (oE (eT (eSeq aNil))) (aCons (oE (eC .none)) aNil))))) aNil)))) aNil)))) (gT 2 (gsCons (gN 2) (gsCons (gN 3) gsNil))))
    (sSeq (sFor (eCall rng1 (aCons (oE (eApp lenD (aCons (oE (eV 0)) aNil))) aNil)) (gN 4) gb_all_futures_5)
    (sRetF (eLc [6, 7] (gSeq (eV 3)) (gT 2 (gsCons (gN 6) (gsCons (gN 7) gsNil))) gYes ce_all_futures_6))))))
def F_all_futures : List D → RX (List D) := callXF 1 10 g_all_futures
abbrev s__law_right : Stmt := topS 27
abbrev N__law_right : List Str := ["_law_box_here", "_law_turn", "_law_line", "_law_due", "_law_soft", "_law_told"]
theorem sc__law_right : FnScope N__law_right ["_law_box_here"] (defScope s__law_right) := ⟨rfl, rfl, rfl, by decide +kernel, rfl, by decide +kernel, by decide +kernel⟩
def gr__law_right_1 : GS :=
    (sIf (tOrG (tNotG (tstE (eCall (F__law_same 6) (aCons (oE (eL (eCallX F_all_futures (aCons (oE (eV 2)) aNil)))) (aCons (oE (eV 3)) aNil))))) (tstE (eOp2 neW (oE (eV 4)) (oE (eL (eApp listD (aCons (oE (eV 2)) aNil))))))) (sRet (eC (.bool false)))
    sNext)
def gb__law_right_2 : GS :=
    (sSeq (sSet 2 (eCallB F__law_some_line 0 (aCons (oE (eC (.int 7))) aNil)))
    (sSeq (sPar 3 4 (nS (eL (eApp sortDD (aCons (oE (eCall F__law_far (aCons (oE (eV 2)) aNil))) aNil)))) (nS (eL (eApp listD (aCons (oE (eV 2)) aNil)))))
    (sHeardT 5 (nlCons (nF (eCallX F_all_futures (aCons (oE (eV 2)) aNil))) (nlCons (nF (eCallWX F_all_futures 1 @idL (aCons (oE (eV 4)) aNil))) nlNil)) (F__law_same 6) (eL (eSeq (aCons (oE (eV 3)) (aCons (oE (eV 3)) aNil)))) [0] some
    gr__law_right_1)))
def g__law_right : GS :=
    (sSeq (sFor (eCall rng1 (aCons (oE (eC (.int 3))) aNil)) (gN 1) gb__law_right_2)
    (sRet (eC (.bool true))))
def F__law_right : List D → List D → Option (D × List D) := callB 1 6 g__law_right
abbrev s_law : Stmt := topS 28
abbrev N_law : List Str := ["_law_script", "_law_k"]
theorem sc_law : FnScope N_law ["_law_script"] (defScope s_law) := ⟨rfl, rfl, rfl, by decide +kernel, rfl, by decide +kernel, by decide +kernel⟩
def ce_law_1 : GE :=
    (eCallBX F__law_right (eCall F__law_box (aCons (oE (eV 0)) (aCons (oE (eV 1)) aNil))) aNil)
def g_law : GS :=
    (sRet (eApp allD (aCons (oE (eL (eLc [1] (eCall rng1 (aCons (oE (eOp2 addU (oE (eC (.int 1))) (oE (eApp min2D (aCons (oE (eC (.int 3))) (aCons (oE (eApp lenD (aCons (oE (eV 0)) aNil))) aNil)))))) aNil)) (gN 1) gYes ce_law_1))) aNil)))
def F_law : List D → Option D := callP 1 2 g_law
structure Tx (K : PySem.W.Frag) (mg : Str → Option Value) where
  a__law_box : Addr
  d__law_box : FuncData
  F__law_box : Fun K "_law_box" "_law_box" s__law_box a__law_box d__law_box
  m__law_box : mg "_law_box" = some (.ref a__law_box)
  b__law_box : Binds K d__law_box ["_law_script", "_law_k"] []
  a__law_call : Addr
  d__law_call : FuncData
  F__law_call : Fun K "_law_call" "_law_call" s__law_call a__law_call d__law_call
  m__law_call : mg "_law_call" = some (.ref a__law_call)
  b__law_call : Binds K d__law_call ["_law_line", "_law_who"] []
  a__law_far : Addr
  d__law_far : FuncData
  F__law_far : Fun K "_law_far" "_law_far" s__law_far a__law_far d__law_far
  m__law_far : mg "_law_far" = some (.ref a__law_far)
  b__law_far : Binds K d__law_far ["_law_line"] []
  a__law_same : Addr
  d__law_same : FuncData
  F__law_same : Fun K "_law_same" "_law_same" s__law_same a__law_same d__law_same
  m__law_same : mg "_law_same" = some (.ref a__law_same)
  b__law_same : Binds K d__law_same ["_law_found", "_law_due"] []
  a__law_take : Addr
  d__law_take : FuncData
  F__law_take : Fun K "_law_take" "_law_take" s__law_take a__law_take d__law_take
  m__law_take : mg "_law_take" = some (.ref a__law_take)
  b__law_take : Binds K d__law_take ["_law_box_here", "_law_below"] []
  a__law_some_line : Addr
  d__law_some_line : FuncData
  F__law_some_line : Fun K "_law_some_line" "_law_some_line" s__law_some_line a__law_some_line d__law_some_line
  m__law_some_line : mg "_law_some_line" = some (.ref a__law_some_line)
  b__law_some_line : Binds K d__law_some_line ["_law_box_here", "_law_most"] []
  a_parted : Addr
  d_parted : FuncData
  F_parted : Fun K "parted" "parted" s_parted a_parted d_parted
  m_parted : mg "parted" = some (.ref a_parted)
  b_parted : Binds K d_parted ["row", "place", "state", "option", "calm"] []
  a_next_state : Addr
  d_next_state : FuncData
  F_next_state : Fun K "next_state" "next_state" s_next_state a_next_state d_next_state
  m_next_state : mg "next_state" = some (.ref a_next_state)
  b_next_state : Binds K d_next_state ["row", "place", "state", "option", "calm"] []
  a_next_states : Addr
  d_next_states : FuncData
  F_next_states : Fun K "next_states" "next_states" s_next_states a_next_states d_next_states
  m_next_states : mg "next_states" = some (.ref a_next_states)
  b_next_states : Binds K d_next_states ["row", "place", "state", "options", "calm"] []
  a_endings : Addr
  d_endings : FuncData
  F_endings : Fun K "endings" "endings" s_endings a_endings d_endings
  m_endings : mg "endings" = some (.ref a_endings)
  b_endings : Binds K d_endings ["row", "options", "calm"] []
  a_free_wish : Addr
  d_free_wish : FuncData
  F_free_wish : Fun K "free_wish" "free_wish" s_free_wish a_free_wish d_free_wish
  m_free_wish : mg "free_wish" = some (.ref a_free_wish)
  b_free_wish : Binds K d_free_wish ["row"] []
  a_inner : Addr
  d_inner : FuncData
  F_inner : Fun K "inner" "inner" s_inner a_inner d_inner
  m_inner : mg "inner" = some (.ref a_inner)
  b_inner : Binds K d_inner ["row"] []
  a_dips : Addr
  d_dips : FuncData
  F_dips : Fun K "dips" "dips" s_dips a_dips d_dips
  m_dips : mg "dips" = some (.ref a_dips)
  b_dips : Binds K d_dips ["row"] []
  a_tops : Addr
  d_tops : FuncData
  F_tops : Fun K "tops" "tops" s_tops a_tops d_tops
  m_tops : mg "tops" = some (.ref a_tops)
  b_tops : Binds K d_tops ["row"] []
  a_options_of : Addr
  d_options_of : FuncData
  F_options_of : Fun K "options_of" "options_of" s_options_of a_options_of d_options_of
  m_options_of : mg "options_of" = some (.ref a_options_of)
  b_options_of : Binds K d_options_of ["row", "wish"] []
  a_rows_many : Addr
  d_rows_many : FuncData
  F_rows_many : Fun K "rows_many" "rows_many" s_rows_many a_rows_many d_rows_many
  m_rows_many : mg "rows_many" = some (.ref a_rows_many)
  b_rows_many : Binds K d_rows_many ["row", "wish", "calm"] []
  a_futures_many : Addr
  d_futures_many : FuncData
  F_futures_many : Fun K "futures_many" "futures_many" s_futures_many a_futures_many d_futures_many
  m_futures_many : mg "futures_many" = some (.ref a_futures_many)
  b_futures_many : Binds K d_futures_many ["row"] []
  a_look_few : Addr
  d_look_few : FuncData
  F_look_few : Fun K "look_few" "look_few" s_look_few a_look_few d_look_few
  m_look_few : mg "look_few" = some (.ref a_look_few)
  b_look_few : Binds K d_look_few ["row"] []
  a_all_futures : Addr
  d_all_futures : FuncData
  F_all_futures : Fun K "all_futures" "all_futures" s_all_futures a_all_futures d_all_futures
  m_all_futures : mg "all_futures" = some (.ref a_all_futures)
  b_all_futures : Binds K d_all_futures ["row"] []
  a__law_right : Addr
  d__law_right : FuncData
  F__law_right : Fun K "_law_right" "_law_right" s__law_right a__law_right d__law_right
  m__law_right : mg "_law_right" = some (.ref a__law_right)
  b__law_right : Binds K d__law_right ["_law_box_here"] []
  a_law : Addr
  d_law : FuncData
  F_law : Fun K "law" "law" s_law a_law d_law
  m_law : mg "law" = some (.ref a_law)
  b_law : Binds K d_law ["_law_script"] []
  k_all_futures_row : KwB K d_all_futures ["row"] ["row"] @idL
  n_len : mg "len" = none
  n_abs : mg "abs" = none
  n_int : mg "int" = none
  n_sorted : mg "sorted" = none
  n_range : mg "range" = none
  n_isinstance : mg "isinstance" = none
  n_tuple : mg "tuple" = none
  n_list : mg "list" = none
  n_zip : mg "zip" = none
  n_all : mg "all" = none
  n_str : mg "str" = none
  n_bool : mg "bool" = none
  n_dict : mg "dict" = none
  n_sum : mg "sum" = none
  n_enumerate : mg "enumerate" = none
  n_set : mg "set" = none
  n_OverflowError : mg "OverflowError" = none
  n_min : mg "min" = none
  c_TooMany : Addr
  cc_TooMany : Cls K "TooMany" c_TooMany
  m_TooMany : mg "TooMany" = some (.ref c_TooMany)
  oc_TooMany : OxC K "OverflowError.__new__" tl_OverflowError c_TooMany
  no_TooMany : PySem.W.findIn K (.ref c_TooMany) "many" = some none
  fi_TooMany : Addr
  fd_TooMany : FuncData
  Fi_TooMany : Fun K "__init__" "TooMany.__init__" si_TooMany fi_TooMany fd_TooMany
  iC_TooMany : PySem.W.findIn K (.ref c_TooMany) "__init__" = some (some (.ref fi_TooMany))
  ti_TooMany : PySem.W.typeIn K (.ref fi_TooMany) = some (.type "function")
  bi_TooMany : Binds K fd_TooMany ["self", "many"] []
  vB_OverflowError : PySem.W.findCls K (.type "OverflowError") (.type "type") "__init__" = some (.val (.builtin "OverflowError.__init__"))
  et : etB K CsL UsL = true
  t_MOST : Tok
  c_MOST : mg "MOST" = some (.int 300 t_MOST)
section
variable {P : Program} {w : World} {K : PySem.W.Frag} {mg : Str → Option Value} {base : Heap}
theorem oki_TooMany (T : Tx K mg) : FnOk P w K mg base CX0 1 T.fi_TooMany T.fd_TooMany ["self", "many"] (spIni K "OverflowError.__new__" tl_OverflowError "many") := by
  refine T.Fi_TooMany.ok sci_TooMany (fun vs H Q E h => ?_) (fun cdv A outer s H vs Q E hr h => ⟨_, pss_cons (ps_expr (pe_bini DLX.bs_O (by rfl) T.n_OverflowError (by decide +kernel) (by decide) (by decide) T.vB_OverflowError (pa_cons (pv 0) (pa_cons (pv 1) pa_nil)))) (pss_one (ps_fld DLX.bs_O (pv 0) (pv 1))), ini_run h rfl⟩)
  obtain ⟨a, C, v, rfl, _⟩ := h
  rfl
theorem ox_TooMany (T : Tx K mg) : OxI P w K mg base "OverflowError.__new__" tl_OverflowError T.c_TooMany "many" := ⟨T.oc_TooMany, T.no_TooMany, T.fi_TooMany, T.fd_TooMany, T.iC_TooMany, T.ti_TooMany, oki_TooMany T, T.bi_TooMany⟩
theorem ok__law_box (T : Tx K mg) : FnOk P w K mg base CX0 1 T.a__law_box T.d__law_box ["_law_script", "_law_k"] (spF K 2 F__law_box) := by
    refine T.F__law_box.ok sc__law_box (fun vs H Q E h => h.1) (fun cdv A outer s H vs Q E hr h => ?_)
    have nd := sc__law_box.nd
    exact ⟨_, (pss_cons (ps_set (i := 2) nd rfl (Or.inl rfl) (pe_ifExp (pt_cmpR op_lt (pv 1) (pe_callB call_lenU (by rfl) T.n_len (by decide +kernel) (pa_cons (pv 0) pa_nil)) (nomark _)) (pe_ix ix_seq (pv 0) (pv 1) (fun _ _ => rfl)) pe_int)) (pss_one (ps_ret (pe_lst (pa_cons (pe_op op_mulT (pe_callB call_absU (by rfl) T.n_abs (by decide +kernel) (pa_cons (pv 2) pa_nil)) (pe_callTy call_intU (by rfl) T.n_int (by decide +kernel) (pa_cons (pe_cmpR op_ge (pe_callB call_absU (by rfl) T.n_abs (by decide +kernel) (pa_cons (pv 2) pa_nil)) (pe_op op_pow pe_int pe_int) (nomark _)) pa_nil))) (pa_cons (pe_op op_addU (pe_op op_addU (pe_op op_mod (pv 2) pe_int) (pe_op op_mulT pe_int (pv 1))) pe_int) (pa_cons pe_int pa_nil))))))),
      run_F (N := N__law_box) (ds_seq (ds_set (i := 2) (de_if (dt_test (de_op sn_lt (do_e de_v) (do_e (de_cb sn_len (da_cons (do_e de_v) da_nil))))) (de_op sn_ix (do_e de_v) (do_e de_v)) de_int)) (ds_retF (df_lst (da_cons (do_e (de_op sn_mulV (do_e (de_cb sn_abs (da_cons (do_e de_v) da_nil))) (do_e (de_cb sn_int (da_cons (do_e (de_op sn_ge (do_e (de_cb sn_abs (da_cons (do_e de_v) da_nil))) (do_e (de_op sn_pow (do_e de_int) (do_e de_int))))) da_nil))))) (da_cons (do_e (de_op sn_addU (do_e (de_op sn_addU (do_e (de_op sn_mod (do_e de_v) (do_e de_int))) (do_e (de_op sn_mulV (do_e de_int) (do_e de_v))))) (do_e de_int))) (da_cons (do_e de_int) da_nil)))))) (by decide) h⟩
theorem ok__law_call (T : Tx K mg) : FnOk P w K mg base CX0 1 T.a__law_call T.d__law_call ["_law_line", "_law_who"] (spP K 2 F__law_call) := by
    refine T.F__law_call.ok sc__law_call (fun vs H Q E h => h.1) (fun cdv A outer s H vs Q E hr h => ?_)
    have nd := sc__law_call.nd
    exact ⟨_, (pss_cons (ps_if (pt_cmpR op_in_seq (pv 1) (pe_tup (pa_cons pe_int (pa_cons (pe_op op_sub (pe_callB call_lenU (by rfl) T.n_len (by decide +kernel) (pa_cons (pv 0) pa_nil)) pe_int) pa_nil))) (by rfl)) (pss_one (ps_ret (pv 0))) pss_nil) (pss_one (ps_ret (pe_op op_addU (pe_op op_addU (pe_slice sl_U (pv 0) po_none (po_some (pv 1))) (pe_tup (pa_cons (pe_ix ix_seq (pe_callB cr_sortedU (by rfl) T.n_sorted (by decide +kernel) (pa_cons (pe_slice sl_U (pv 0) (po_some (pe_op op_sub (pv 1) pe_int)) (po_some (pe_op op_addU (pv 1) pe_int))) pa_nil)) pe_int (fun _ _ => rfl)) pa_nil))) (pe_slice sl_U (pv 0) (po_some (pe_op op_addU (pv 1) pe_int)) po_none))))),
      run_P (N := N__law_call) (ds_seq (ds_if (dt_test (de_op sn_in (do_e de_v) (do_e (de_tup (da_cons (do_e de_int) (da_cons (do_e (de_op sn_sub (do_e (de_cb sn_len (da_cons (do_e de_v) da_nil))) (do_e de_int))) da_nil)))))) (ds_ret de_v) ds_next) (ds_ret (de_op sn_addU (do_e (de_op sn_addU (do_e (de_sl sn_sliceU (do_e de_v) dp_no (dp_so de_v))) (do_e (de_tup (da_cons (do_e (de_op sn_ix (do_e (de_l (df_cb sn_sorted (da_cons (do_e (de_sl sn_sliceU (do_e de_v) (dp_so (de_op sn_sub (do_e de_v) (do_e de_int))) (dp_so (de_op sn_addU (do_e de_v) (do_e de_int))))) da_nil)))) (do_e de_int))) da_nil))))) (do_e (de_sl sn_sliceU (do_e de_v) (dp_so (de_op sn_addU (do_e de_v) (do_e de_int))) dp_no))))) (by decide) h⟩
theorem ok__law_far (T : Tx K mg) : FnOk P w K mg base CX0 2 T.a__law_far T.d__law_far ["_law_line"] (spP K 1 F__law_far) := by
    refine T.F__law_far.ok sc__law_far (fun vs H Q E h => h.1) (fun cdv A outer s H vs Q E hr h => ?_)
    have nd := sc__law_far.nd
    exact ⟨_, (pss_cons (ps_par (i := 1) (j := 2) (by rfl) nd rfl rfl (by decide) rfl rfl (pa_cons (pe_ndisp hr (pv 0) pe_int) (pa_cons (pe_lst (pa_cons (pv 0) pa_nil)) pa_nil)) (by rfl)) (pss_cons (ps_while PassesOwn.never (pt_cmpR (op_neU hr) (pv 2) (pe_lst pa_nil) (nomark _)) (pss_cons (ps_set (i := 3) nd rfl (Or.inl rfl) (pe_lst pa_nil)) (pss_cons (ps_for PassesOwn.never rfl (pi_seqU (pv 2)) (pg_name (i := 4) nd rfl (Or.inl rfl)) (pss_one (ps_for PassesOwn.never rfl (pi_range1 (by rfl) T.n_range (pa_cons (pe_callB call_lenU (by rfl) T.n_len (by decide +kernel) (pa_cons (pv 0) pa_nil)) pa_nil)) (pg_name (i := 5) nd rfl (Or.inl rfl)) (pss_cons (ps_set (i := 6) nd rfl (Or.inl rfl) (pe_call (ok__law_call T) (hr.mono (by decide)) (by rfl) T.m__law_call T.F__law_call.kp T.b__law_call .nil pass0 (pa_cons (pv 4) (pa_cons (pv 5) pa_nil)))) (pss_one (ps_if (pt_cmpR (op_nNotIn hr) (pv 6) (pv 1) (by rfl)) (pss_cons (ps_nput hr (pv 1) (pv 6) (pe_op op_addU (pe_ix (ix_dict hr) (pv 1) (pv 4) (fun _ _ => rfl)) pe_int)) (pss_one (ps_expr (pe_bm PySem.F.plainAttrs_list PySem.F.slot_list_append PySem.F.type_list_append mt_append (pv 3) (pa_cons (pv 6) pa_nil))))) pss_nil)))))) (pss_one (ps_set (i := 2) nd rfl (Or.inl rfl) (pv 3)))))) (pss_one (ps_ret (pv 1))))),
      run_P (N := N__law_far) (ds_seq (ds_parD (dd_disp de_v de_int) (dn_s (de_l (df_lst (da_cons (do_e de_v) da_nil))))) (ds_seq (ds_while (n := 1000) (dt_test (de_op sn_neW (do_e de_v) (do_e (de_l (df_lst da_nil))))) (ds_seq (ds_setO (i := 3) (df_lst da_nil)) (ds_seq (ds_for (ws := [4]) (di_seq de_v) (dg_name (by decide)) (ds_for (ws := [5]) (di_rng1 (da_cons (do_e (de_cb sn_len (da_cons (do_e de_v) da_nil))) da_nil)) (dg_name (by decide)) (ds_seq (ds_set (i := 6) (de_call callP_len (da_cons (do_e de_v) (da_cons (do_e de_v) da_nil)))) (ds_if (dt_test (de_op sn_nnotin (do_e de_v) do_v)) (ds_seq (ds_putD (de_op sn_addU (do_e (de_op sn_nget do_v (do_e de_v))) (do_e de_int)) de_v) (ds_app de_v)) ds_next)))) (ds_fz (i := 3) (ds_set (i := 2) de_v))))) (ds_fz (i := 1) (ds_ret de_v)))) (by decide) h⟩
theorem ok__law_same (T : Tx K mg) : ∀ n : Nat, FnOk P w K mg base CX0 (0 + n) T.a__law_same T.d__law_same ["_law_found", "_law_due"] (spP K 2 (F__law_same n))
  | 0 => fn_noneP rfl
  | n + 1 => by
    have ih := ok__law_same T n
    have hFl := Fl__law_same n
    refine T.F__law_same.ok sc__law_same (fun vs H Q E h => h.1) (fun cdv A outer s H vs Q E hr h => ?_)
    have nd := sc__law_same.nd
    exact ⟨_, (pss_cons (ps_if (pt_val (pe_callB call_isiT (by rfl) T.n_isinstance (by decide +kernel) (pa_cons (pv 1) (pa_cons (pe_tup (pa_cons (pe_bltn (v := .ty "list") (by rfl) T.n_list (by decide +kernel) rfl) (pa_cons (pe_bltn (v := .ty "tuple") (by rfl) T.n_tuple (by decide +kernel) rfl) pa_nil))) pa_nil)))) (pss_cons (ps_if (PW.pt (pw_or (pt_cmpR (op_neU hr) (pe_callB call_isi (by rfl) T.n_isinstance (by decide +kernel) (pa_cons (pv 0) (pa_cons (pe_bltn (v := .ty "list") (by rfl) T.n_list (by decide +kernel) rfl) pa_nil))) (pe_callB call_isi (by rfl) T.n_isinstance (by decide +kernel) (pa_cons (pv 1) (pa_cons (pe_bltn (v := .ty "list") (by rfl) T.n_list (by decide +kernel) rfl) pa_nil))) (nomark _)) (pw_or1 (pt_cmpR (op_neU hr) (pe_callB call_isi (by rfl) T.n_isinstance (by decide +kernel) (pa_cons (pv 0) (pa_cons (pe_bltn (v := .ty "tuple") (by rfl) T.n_tuple (by decide +kernel) rfl) pa_nil))) (pe_callB call_isi (by rfl) T.n_isinstance (by decide +kernel) (pa_cons (pv 1) (pa_cons (pe_bltn (v := .ty "tuple") (by rfl) T.n_tuple (by decide +kernel) rfl) pa_nil))) (nomark _))))) (pss_one (ps_ret pe_bl)) pss_nil) (pss_one (ps_ret (pe_and (pe_cmpR (op_eqU hr) (pe_callB call_lenU (by rfl) T.n_len (by decide +kernel) (pa_cons (pv 0) pa_nil)) (pe_callB call_lenU (by rfl) T.n_len (by decide +kernel) (pa_cons (pv 1) pa_nil)) (nomark _)) (pe_one (pe_callB (cr_all rfl) (by rfl) T.n_all (by decide +kernel) (pa_cons (pe_lc (own := [("_law_mine", 2), ("_law_its", 3)]) (by rfl) nd (pi_zipU (by rfl) T.n_zip (pa_cons (pv 0) (pa_cons (pv 1) pa_nil))) (blkOk_by (own := [("_law_mine", 2), ("_law_its", 3)]) (N := N__law_same) (sc := defScope s__law_same) (by decide +kernel)) (fun _ _ _ _ _ => (pg_tup rfl (pgs_cons (pg_name (i := 2) nd rfl (Or.inl rfl)) (pgs_cons (pg_name (i := 3) nd rfl (Or.inl rfl)) pgs_nil)))) (fun _ _ _ _ _ => pts_nil) (fun _ _ _ _ _ => (pe_call ih (hr.mono (Nat.le_refl _)) (by rfl) T.m__law_same T.F__law_same.kp T.b__law_same .nil pass0 (pa_cons (pv 2) (pa_cons (pv 3) pa_nil))))) pa_nil))))))) pss_nil) (pss_cons (ps_if (PW.pt (pw_or (pt_cmpR op_isU (pv 1) pe_non (nomark _)) (pw_or1 (pt_val (pe_callB call_isi (by rfl) T.n_isinstance (by decide +kernel) (pa_cons (pv 1) (pa_cons (pe_bltn (v := .ty "str") (by rfl) T.n_str (by decide +kernel) rfl) pa_nil))))))) (pss_one (ps_ret (pe_and (pe_cmpR (op_eqU hr) (pv 0) (pv 1) (nomark _)) (pe_one (pe_cmpR (op_eqU hr) (pe_callB call_isi (by rfl) T.n_isinstance (by decide +kernel) (pa_cons (pv 0) (pa_cons (pe_bltn (v := .ty "str") (by rfl) T.n_str (by decide +kernel) rfl) pa_nil))) (pe_callB call_isi (by rfl) T.n_isinstance (by decide +kernel) (pa_cons (pv 1) (pa_cons (pe_bltn (v := .ty "str") (by rfl) T.n_str (by decide +kernel) rfl) pa_nil))) (nomark _)))))) pss_nil) (pss_one (ps_ret (pe_and (pe_callB call_isi (by rfl) T.n_isinstance (by decide +kernel) (pa_cons (pv 0) (pa_cons (pe_bltn (v := .ty "int") (by rfl) T.n_int (by decide +kernel) rfl) pa_nil))) (pe_and (pe_cmpR (op_eqU hr) (pe_callB call_isi (by rfl) T.n_isinstance (by decide +kernel) (pa_cons (pv 0) (pa_cons (pe_bltn (v := .ty "bool") (by rfl) T.n_bool (by decide +kernel) rfl) pa_nil))) (pe_callB call_isi (by rfl) T.n_isinstance (by decide +kernel) (pa_cons (pv 1) (pa_cons (pe_bltn (v := .ty "bool") (by rfl) T.n_bool (by decide +kernel) rfl) pa_nil))) (nomark _)) (pe_one (pe_cmpR (op_eqU hr) (pv 0) (pv 1) (nomark _))))))))),
      run_P (N := N__law_same) (ds_seq (ds_if (dt_B (de_isiT (Ts := ["list", "tuple"]) (by decide) (do_e de_v))) (ds_seq (ds_if (dt_or (dt_test (de_op sn_neW (do_e (de_isi (do_e de_v))) (do_e (de_isi (do_e de_v))))) (dt_test (de_op sn_neW (do_e (de_isi (do_e de_v))) (do_e (de_isi (do_e de_v)))))) (ds_ret de_bl) ds_next) (ds_ret (de_and (de_op sn_eqW (do_e (de_cb sn_len (da_cons (do_e de_v) da_nil))) (do_e (de_cb sn_len (da_cons (do_e de_v) da_nil)))) (de_cb sn_all (da_cons (do_e (de_l (df_lc (di_zip (da_cons (do_e de_v) (da_cons (do_e de_v) da_nil))) (dg_tup (dgs_cons (dg_name (by decide)) (dgs_cons (dg_name (by decide)) dgs_nil))) dt_yes (de_call hFl (da_cons (do_e de_v) (da_cons (do_e de_v) da_nil)))))) da_nil))))) ds_next) (ds_seq (ds_if (dt_or (dt_test (de_op sn_is (do_e de_v) (do_e de_non))) (dt_B (de_isi (do_e de_v)))) (ds_ret (de_and (de_op sn_eqW (do_e de_v) (do_e de_v)) (de_op sn_eqW (do_e (de_isi (do_e de_v))) (do_e (de_isi (do_e de_v)))))) ds_next) (ds_ret (de_and (de_isi (do_e de_v)) (de_and (de_op sn_eqW (do_e (de_isi (do_e de_v))) (do_e (de_isi (do_e de_v)))) (de_op sn_eqW (do_e de_v) (do_e de_v))))))) (by decide) h⟩
theorem ok__law_take (T : Tx K mg) : ∀ n : Nat, FnOk P w K mg base CX0 (0 + n) T.a__law_take T.d__law_take ["_law_box_here", "_law_below"] (spB K 2 (F__law_take n))
  | 0 => fn_noneB rfl
  | n + 1 => by
    have ih := ok__law_take T n
    have hFl := Fl__law_take n
    refine T.F__law_take.ok sc__law_take (fun vs H Q E h => h.1) (fun cdv A outer s H vs Q E hr h => ?_)
    have nd := sc__law_take.nd
    exact ⟨_, (pss_cons (ps_if (pt_cmpR op_gt (pe_ix ix_seq (pv 0) pe_int (fun _ _ => rfl)) pe_int (nomark _)) (pss_cons (ps_set (i := 3) nd rfl (Or.inl rfl) (pe_op op_mod (pe_ix ix_seq (pv 0) pe_int (fun _ _ => rfl)) (pv 1))) (pss_cons (ps_asg (pe_op op_fdivW (pe_ix ix_seq (pv 0) pe_int (fun _ _ => rfl)) (pv 1)) (pg_sub (pv 0) pe_int set_list)) (pss_one (ps_ret (pv 3))))) pss_nil) (pss_cons (ps_if (pt_cmpR op_gt (pv 1) (pe_op op_pow pe_int pe_int) (nomark _)) (pss_one (ps_ret (pe_op op_mod (pe_op op_addU (pe_call ih (hr.mono (Nat.le_refl _)) (by rfl) T.m__law_take T.F__law_take.kp T.b__law_take .nil pass0 (pa_cons (pv 0) (pa_cons (pe_op op_pow pe_int pe_int) pa_nil))) (pe_op op_mulT (pe_op op_pow pe_int pe_int) (pe_call ih (hr.mono (Nat.le_refl _)) (by rfl) T.m__law_take T.F__law_take.kp T.b__law_take .nil pass0 (pa_cons (pv 0) (pa_cons (pe_op op_addU (pe_op op_fdivW (pe_op op_sub (pv 1) pe_int) (pe_op op_pow pe_int pe_int)) pe_int) pa_nil))))) (pv 1)))) pss_nil) (pss_cons (ps_asg (pe_op op_addU (pe_ix ix_seq (pv 0) pe_int (fun _ _ => rfl)) pe_int) (pg_sub (pv 0) pe_int set_list)) (pss_cons (ps_set (i := 2) nd rfl (Or.inl rfl) (pe_op op_mod (pe_op op_pow (pe_op op_addU (pe_ix ix_seq (pv 0) pe_int (fun _ _ => rfl)) (pe_op op_mulT pe_int (pe_ix ix_seq (pv 0) pe_int (fun _ _ => rfl)))) pe_int) pe_int)) (pss_one (ps_ret (pe_op op_mod (pe_op op_fdivW (pe_op op_mod (pe_op op_addU (pe_op op_mulT (pv 2) (pe_op op_addU (pe_op op_mod (pv 2) pe_int) pe_int)) (pe_op op_mulT (pe_ix ix_seq (pv 0) pe_int (fun _ _ => rfl)) pe_int)) pe_int) pe_int) (pv 1)))))))),
      run_B (N := N__law_take) (ds_seq (ds_if (dt_test (de_op sn_gt (do_e (de_op sn_ix do_v (do_e de_int))) (do_e de_int))) (ds_seq (ds_set (i := 3) (de_op sn_mod (do_e (de_op sn_ix do_v (do_e de_int))) (do_e de_v))) (ds_seq (ds_putIx (de_op sn_fdiv (do_e (de_op sn_ix do_v (do_e de_int))) (do_e de_v)) de_int) (ds_ret de_v))) ds_next) (ds_seq (ds_if (dt_test (de_op sn_gt (do_e de_v) (do_e (de_op sn_pow (do_e de_int) (do_e de_int))))) (ds_ret (de_op sn_mod (do_e (de_op sn_addU (do_e (de_callB hFl (da_cons (do_e (de_op sn_pow (do_e de_int) (do_e de_int))) da_nil))) (do_e (de_op sn_mulV (do_e (de_op sn_pow (do_e de_int) (do_e de_int))) (do_e (de_callB hFl (da_cons (do_e (de_op sn_addU (do_e (de_op sn_fdiv (do_e (de_op sn_sub (do_e de_v) (do_e de_int))) (do_e (de_op sn_pow (do_e de_int) (do_e de_int))))) (do_e de_int))) da_nil))))))) (do_e de_v))) ds_next) (ds_seq (ds_putIx (de_op sn_addU (do_e (de_op sn_ix do_v (do_e de_int))) (do_e de_int)) de_int) (ds_seq (ds_set (i := 2) (de_op sn_mod (do_e (de_op sn_pow (do_e (de_op sn_addU (do_e (de_op sn_ix do_v (do_e de_int))) (do_e (de_op sn_mulV (do_e de_int) (do_e (de_op sn_ix do_v (do_e de_int))))))) (do_e de_int))) (do_e de_int))) (ds_ret (de_op sn_mod (do_e (de_op sn_fdiv (do_e (de_op sn_mod (do_e (de_op sn_addU (do_e (de_op sn_mulV (do_e de_v) (do_e (de_op sn_addU (do_e (de_op sn_mod (do_e de_v) (do_e de_int))) (do_e de_int))))) (do_e (de_op sn_mulV (do_e (de_op sn_ix do_v (do_e de_int))) (do_e de_int))))) (do_e de_int))) (do_e de_int))) (do_e de_v))))))) (by decide) h⟩
theorem ok__law_some_line (T : Tx K mg) : FnOk P w K mg base CX0 9 T.a__law_some_line T.d__law_some_line ["_law_box_here", "_law_most"] (spB K 2 F__law_some_line) := by
    refine T.F__law_some_line.ok sc__law_some_line (fun vs H Q E h => h.1) (fun cdv A outer s H vs Q E hr h => ?_)
    have nd := sc__law_some_line.nd
    exact ⟨_, (pss_cons (ps_par (i := 2) (j := 3) (by rfl) nd rfl rfl (by decide) rfl rfl (pa_cons (pe_call (ok__law_take T 8) (hr.mono (by decide)) (by rfl) T.m__law_take T.F__law_take.kp T.b__law_take .nil pass0 (pa_cons (pv 0) (pa_cons pe_int pa_nil))) (pa_cons (pe_lst pa_nil) pa_nil)) (by rfl)) (pss_cons (ps_for PassesOwn.never rfl (pi_range1 (by rfl) T.n_range (pa_cons (pe_call (ok__law_take T 8) (hr.mono (by decide)) (by rfl) T.m__law_take T.F__law_take.kp T.b__law_take .nil pass0 (pa_cons (pv 0) (pa_cons (pe_op op_addU (pv 1) pe_int) pa_nil))) pa_nil)) (pg_name (i := 4) nd rfl (Or.inl rfl)) (pss_one (ps_if (pt_cmpR (op_eqU hr) (pv 2) pe_int (nomark _)) (pss_one (ps_set (i := 3) nd rfl (Or.inl rfl) (pe_op op_addU (pv 3) (pe_lst (pa_cons (pe_op op_sub (pe_call (ok__law_take T 8) (hr.mono (by decide)) (by rfl) T.m__law_take T.F__law_take.kp T.b__law_take .nil pass0 (pa_cons (pv 0) (pa_cons pe_int pa_nil))) pe_int) pa_nil))))) (pss_one (ps_if (pt_cmpR (op_eqU hr) (pv 2) pe_int (nomark _)) (pss_one (ps_set (i := 3) nd rfl (Or.inl rfl) (pe_op op_addU (pv 3) (pe_lst (pa_cons (pe_op op_sub (pe_op op_addU (pe_op op_mulT pe_int (pe_op op_mod (pv 4) pe_int)) (pe_call (ok__law_take T 8) (hr.mono (by decide)) (by rfl) T.m__law_take T.F__law_take.kp T.b__law_take .nil pass0 (pa_cons (pv 0) (pa_cons pe_int pa_nil)))) pe_int) pa_nil))))) (pss_one (ps_set (i := 3) nd rfl (Or.inl rfl) (pe_op op_addU (pv 3) (pe_lst (pa_cons (pe_op op_sub (pe_call (ok__law_take T 8) (hr.mono (by decide)) (by rfl) T.m__law_take T.F__law_take.kp T.b__law_take .nil pass0 (pa_cons (pv 0) (pa_cons (pe_op op_addU (pe_op op_mulT pe_int (pe_op op_pow pe_int pe_int)) pe_int) pa_nil))) (pe_op op_pow pe_int pe_int)) pa_nil)))))))))) (pss_one (ps_ret (pe_callTy call_tupleU (by rfl) T.n_tuple (by decide +kernel) (pa_cons (pv 3) pa_nil)))))),
      run_B (N := N__law_some_line) (ds_seq (ds_par (dn_s (de_callB (Fl__law_take _) (da_cons (do_e de_int) da_nil))) (dn_s (de_l (df_lst da_nil)))) (ds_seq (ds_for (ws := [4]) (di_rng1 (da_cons (do_e (de_callB (Fl__law_take _) (da_cons (do_e (de_op sn_addU (do_e de_v) (do_e de_int))) da_nil))) da_nil)) (dg_name (by decide)) (ds_if (dt_test (de_op sn_eqW (do_e de_v) (do_e de_int))) (ds_set (i := 3) (de_op sn_addU (do_e de_v) (do_e (de_l (df_lst (da_cons (do_e (de_op sn_sub (do_e (de_callB (Fl__law_take _) (da_cons (do_e de_int) da_nil))) (do_e de_int))) da_nil)))))) (ds_if (dt_test (de_op sn_eqW (do_e de_v) (do_e de_int))) (ds_set (i := 3) (de_op sn_addU (do_e de_v) (do_e (de_l (df_lst (da_cons (do_e (de_op sn_sub (do_e (de_op sn_addU (do_e (de_op sn_mulV (do_e de_int) (do_e (de_op sn_mod (do_e de_v) (do_e de_int))))) (do_e (de_callB (Fl__law_take _) (da_cons (do_e de_int) da_nil))))) (do_e de_int))) da_nil)))))) (ds_set (i := 3) (de_op sn_addU (do_e de_v) (do_e (de_l (df_lst (da_cons (do_e (de_op sn_sub (do_e (de_callB (Fl__law_take _) (da_cons (do_e (de_op sn_addU (do_e (de_op sn_mulV (do_e de_int) (do_e (de_op sn_pow (do_e de_int) (do_e de_int))))) (do_e de_int))) da_nil))) (do_e (de_op sn_pow (do_e de_int) (do_e de_int))))) da_nil))))))))) (ds_ret (de_cb sn_tuple (da_cons (do_e de_v) da_nil))))) (by decide) h⟩
theorem ok_parted (T : Tx K mg) : FnOk P w K mg base CX0 1 T.a_parted T.d_parted ["row", "place", "state", "option", "calm"] (spP K 5 F_parted) := by
    refine T.F_parted.ok sc_parted (fun vs H Q E h => h.1) (fun cdv A outer s H vs Q E hr h => ?_)
    have nd := sc_parted.nd
    exact ⟨_, (pss_cons (ps_asg (pe_tup (pa_cons (pv 2) (pa_cons (pv 3) pa_nil))) (pg_tup rfl (pgs_cons (pg_tup rfl (pgs_cons (pg_name (i := 5) nd rfl (Or.inl rfl)) (pgs_cons (pg_name (i := 6) nd rfl (Or.inl rfl)) (pgs_cons (pg_name (i := 7) nd rfl (Or.inl rfl)) (pgs_cons (pg_name (i := 8) nd rfl (Or.inl rfl)) pgs_nil))))) (pgs_cons (pg_tup rfl (pgs_cons (pg_name (i := 9) nd rfl (Or.inl rfl)) (pgs_cons (pg_name (i := 10) nd rfl (Or.inl rfl)) pgs_nil))) pgs_nil)))) (pss_cons (ps_if (PW.pt (pw_or (pt_not (pt_val (pv 6))) (pw_or (pt_cmpR (op_eqU hr) (pe_ix ix_seq (pv 0) (pe_op op_sub (pv 1) pe_int) (fun _ _ => rfl)) (pe_ix ix_seq (pv 0) (pv 1) (fun _ _ => rfl)) (nomark _)) (pw_or1 (pt_cmpR (op_neU hr) (pe_cmpR op_lt (pe_ix ix_seq (pv 0) (pe_op op_sub (pv 1) pe_int) (fun _ _ => rfl)) (pe_ix ix_seq (pv 0) (pv 1) (fun _ _ => rfl)) (nomark _)) (pe_cmpR op_lt (pv 5) (pv 9) (nomark _)) (nomark _)))))) (pss_one (ps_ret pe_non)) pss_nil) (pss_cons (ps_set (i := 11) nd rfl (Or.inl rfl) (pe_ifExp (pt_cmpR op_lt (pv 5) (pv 9) (nomark _)) pe_int (pe_un un_neg pe_int))) (pss_cons (ps_if (PW.pt (pw_and (pt_val (pv 4)) (pw_and (pt_not (pt_val (pv 8))) (pw_and1 (pt_cmpR op_notIn_seq (pv 7) (pe_tup (pa_cons pe_int (pa_cons (pv 11) pa_nil))) (by rfl)))))) (pss_one (ps_ret pe_non)) pss_nil) (pss_one (ps_ret (pe_tup (pa_cons (pv 9) (pa_cons (pe_not (pv 10)) (pa_cons (pe_ifExp (pt_val (pv 4)) (pv 11) pe_int) (pa_cons pe_bl pa_nil))))))))))),
      run_P (N := N_parted) (ds_seq (ds_to (ws := [5, 6, 7, 8, 9, 10]) (de_tup (da_cons (do_e de_v) (da_cons (do_e de_v) da_nil))) (dg_tup (dgs_cons (dg_tup (dgs_cons (dg_name (by decide)) (dgs_cons (dg_name (by decide)) (dgs_cons (dg_name (by decide)) (dgs_cons (dg_name (by decide)) dgs_nil))))) (dgs_cons (dg_tup (dgs_cons (dg_name (by decide)) (dgs_cons (dg_name (by decide)) dgs_nil))) dgs_nil)))) (ds_seq (ds_if (dt_or (dt_not (dt_B de_v)) (dt_or (dt_test (de_op sn_eqW (do_e (de_op sn_ix (do_e de_v) (do_e (de_op sn_sub (do_e de_v) (do_e de_int))))) (do_e (de_op sn_ix (do_e de_v) (do_e de_v))))) (dt_test (de_op sn_neW (do_e (de_op sn_lt (do_e (de_op sn_ix (do_e de_v) (do_e (de_op sn_sub (do_e de_v) (do_e de_int))))) (do_e (de_op sn_ix (do_e de_v) (do_e de_v))))) (do_e (de_op sn_lt (do_e de_v) (do_e de_v))))))) (ds_ret de_non) ds_next) (ds_seq (ds_set (i := 11) (de_if (dt_test (de_op sn_lt (do_e de_v) (do_e de_v))) de_int (de_un sn_neg (do_e de_int)))) (ds_seq (ds_if (dt_and (dt_B de_v) (dt_and (dt_not (dt_B de_v)) (dt_test (de_op sn_notIn (do_e de_v) (do_e (de_tup (da_cons (do_e de_int) (da_cons (do_e de_v) da_nil)))))))) (ds_ret de_non) ds_next) (ds_ret (de_tup (da_cons (do_e de_v) (da_cons (do_e (de_not de_v)) (da_cons (do_e (de_if (dt_B de_v) de_v de_int)) (da_cons (do_e de_bl) da_nil)))))))))) (by decide) h⟩
theorem ok_next_state (T : Tx K mg) : FnOk P w K mg base CX0 2 T.a_next_state T.d_next_state ["row", "place", "state", "option", "calm"] (spP K 5 F_next_state) := by
    refine T.F_next_state.ok sc_next_state (fun vs H Q E h => h.1) (fun cdv A outer s H vs Q E hr h => ?_)
    have nd := sc_next_state.nd
    exact ⟨_, (pss_cons (ps_if (pt_cmpR op_isU (pv 2) pe_non (nomark _)) (pss_one (ps_ret (pe_tup (pa_cons (pe_ix ix_seq (pv 3) pe_int (fun _ _ => rfl)) (pa_cons (pe_not (pe_ix ix_seq (pv 3) pe_int (fun _ _ => rfl))) (pa_cons pe_int (pa_cons pe_bl pa_nil))))))) pss_nil) (pss_cons (ps_if (pt_cmpR (op_eqU hr) (pe_ix ix_seq (pv 3) pe_int (fun _ _ => rfl)) (pe_ix ix_seq (pv 2) pe_int (fun _ _ => rfl)) (nomark _)) (pss_one (ps_ret (pe_tup (pa_cons (pe_ix ix_seq (pv 2) pe_int (fun _ _ => rfl)) (pa_cons (pe_or (pe_ix ix_seq (pv 2) pe_int (fun _ _ => rfl)) (pe_one (pe_not (pe_ix ix_seq (pv 3) pe_int (fun _ _ => rfl))))) (pa_cons (pe_ix ix_seq (pv 2) pe_int (fun _ _ => rfl)) (pa_cons (pv 4) pa_nil))))))) pss_nil) (pss_one (ps_ret (pe_call (ok_parted T) (hr.mono (by decide)) (by rfl) T.m_parted T.F_parted.kp T.b_parted .nil pass0 (pa_cons (pv 0) (pa_cons (pv 1) (pa_cons (pv 2) (pa_cons (pv 3) (pa_cons (pv 4) pa_nil)))))))))),
      run_P (N := N_next_state) (ds_seq (ds_if (dt_test (de_op sn_is (do_e de_v) (do_e de_non))) (ds_ret (de_tup (da_cons (do_e (de_op sn_ix (do_e de_v) (do_e de_int))) (da_cons (do_e (de_not (de_op sn_ix (do_e de_v) (do_e de_int)))) (da_cons (do_e de_int) (da_cons (do_e de_bl) da_nil)))))) ds_next) (ds_seq (ds_if (dt_test (de_op sn_eqW (do_e (de_op sn_ix (do_e de_v) (do_e de_int))) (do_e (de_op sn_ix (do_e de_v) (do_e de_int))))) (ds_ret (de_tup (da_cons (do_e (de_op sn_ix (do_e de_v) (do_e de_int))) (da_cons (do_e (de_or (de_op sn_ix (do_e de_v) (do_e de_int)) (de_not (de_op sn_ix (do_e de_v) (do_e de_int))))) (da_cons (do_e (de_op sn_ix (do_e de_v) (do_e de_int))) (da_cons (do_e de_v) da_nil)))))) ds_next) (ds_ret (de_call callP_len (da_cons (do_e de_v) (da_cons (do_e de_v) (da_cons (do_e de_v) (da_cons (do_e de_v) (da_cons (do_e de_v) da_nil))))))))) (by decide) h⟩
theorem ok_next_states (T : Tx K mg) : FnOk P w K mg base CX0 3 T.a_next_states T.d_next_states ["row", "place", "state", "options", "calm"] (spF K 5 F_next_states) := by
    refine T.F_next_states.ok sc_next_states (fun vs H Q E h => h.1) (fun cdv A outer s H vs Q E hr h => ?_)
    have nd := sc_next_states.nd
    exact ⟨_, (pss_cons (ps_setLc (i := 5) (own := [("option", 6)]) (by rfl) nd rfl rfl (sw_true rfl rfl rfl (by decide +kernel)) (pi_seqU (pe_ix ix_seq (pv 3) (pv 1) (fun _ _ => rfl))) (blkOk_by (own := [("option", 6)]) (N := N_next_states) (sc := defScope s_next_states) (by decide +kernel)) (fun _ _ _ _ _ => (pg_name (i := 6) nd rfl (Or.inl rfl))) (fun _ _ _ _ _ => pts_nil) (fun _ _ _ _ _ => (pe_call (ok_next_state T) (hr.mono (by decide)) (by rfl) T.m_next_state T.F_next_state.kp T.b_next_state .nil pass0 (pa_cons (pv 0) (pa_cons (pv 1) (pa_cons (pv 2) (pa_cons (pv 6) (pa_cons (pv 4) pa_nil)))))))) (pss_one (ps_ret (pe_lc (own := [("later", 7)]) (by rfl) nd (pi_seqU (pv 5)) (blkOk_by (own := [("later", 7)]) (N := N_next_states) (sc := defScope s_next_states) (by decide +kernel)) (fun _ _ _ _ _ => (pg_name (i := 7) nd rfl (Or.inl rfl))) (fun _ _ _ _ _ => (pts_one (pt_cmpR op_isNotU (pv 7) pe_non (nomark _)))) (fun _ _ _ _ _ => (pv 7)))))),
      run_F (N := N_next_states) (ds_seq (ds_set (i := 5) (de_l (df_lc (di_seq (de_op sn_ix (do_e de_v) (do_e de_v))) (dg_name (by decide)) dt_yes (de_call callP_len (da_cons (do_e de_v) (da_cons (do_e de_v) (da_cons (do_e de_v) (da_cons (do_e de_v) (da_cons (do_e de_v) da_nil))))))))) (ds_retF (df_lc (di_seq de_v) (dg_name (by decide)) (dt_test (de_op sn_isNot (do_e de_v) (do_e de_non))) de_v))) (by decide) h⟩
theorem ok_endings (T : Tx K mg) : FnOk P w K mg base CX0 4 T.a_endings T.d_endings ["row", "options", "calm"] (spP K 3 F_endings) := by
    refine T.F_endings.ok sc_endings (fun vs H Q E h => h.1) (fun cdv A outer s H vs Q E hr h => ?_)
    have nd := sc_endings.nd
    exact ⟨_, (pss_cons (ps_set (i := 3) nd rfl (Or.inl rfl) (pe_lst (pa_cons (pe_lst (pa_cons pe_non pa_nil)) pa_nil))) (pss_cons (ps_for PassesOwn.never rfl (pi_range1 (by rfl) T.n_range (pa_cons (pe_callB call_lenU (by rfl) T.n_len (by decide +kernel) (pa_cons (pv 0) pa_nil)) pa_nil)) (pg_name (i := 4) nd rfl (Or.inl rfl)) (pss_cons (ps_set (i := 6) nd rfl (Or.inl rfl) pe_nnew) (pss_cons (ps_for PassesOwn.never rfl (pi_seqU (pe_ix ix_seq (pv 3) (pe_un un_neg pe_int) (fun _ _ => rfl))) (pg_name (i := 7) nd rfl (Or.inl rfl)) (pss_one (ps_for PassesOwn.never rfl (pi_seqU (pe_call (ok_next_states T) (hr.mono (by decide)) (by rfl) T.m_next_states T.F_next_states.kp T.b_next_states .nil pass0 (pa_cons (pv 0) (pa_cons (pv 4) (pa_cons (pv 7) (pa_cons (pv 1) (pa_cons (pv 2) pa_nil))))))) (pg_name (i := 9) nd rfl (Or.inl rfl)) (pss_one (ps_nput hr (pv 6) (pv 9) pe_bl))))) (pss_one (ps_expr (pe_bm PySem.F.plainAttrs_list PySem.F.slot_list_append PySem.F.type_list_append mt_append (pv 3) (pa_cons (pe_callTy (call_listN rfl) (by rfl) T.n_list (by decide +kernel) (pa_cons (pv 6) pa_nil)) pa_nil))))))) (pss_cons (ps_set (i := 5) nd rfl (Or.inr rfl) (pe_lst (pa_cons (pe_callTy (call_dictN hr rfl) (by rfl) T.n_dict (by decide +kernel) (pa_cons (pe_lc (own := [("state", 7)]) (by rfl) nd (pi_seqU (pe_ix ix_seq (pv 3) (pe_un un_neg pe_int) (fun _ _ => rfl))) (blkOk_by (own := [("state", 7)]) (N := N_endings) (sc := defScope s_endings) (by decide +kernel)) (fun _ _ _ _ _ => (pg_name (i := 7) nd rfl (Or.inl rfl))) (fun _ _ _ _ _ => pts_nil) (fun _ _ _ _ _ => (pe_tup (pa_cons (pv 7) (pa_cons (pe_callTy call_intU (by rfl) T.n_int (by decide +kernel) (pa_cons (pe_or (pe_cmpR op_isU (pv 7) pe_non (nomark _)) (pe_one (pe_ix ix_seq (pv 7) pe_int (fun _ _ => rfl)))) pa_nil)) pa_nil))))) pa_nil)) pa_nil))) (pss_cons (ps_for PassesOwn.never rfl (pi_range3 (by rfl) T.n_range (pa_cons (pe_op op_sub (pe_callB call_lenU (by rfl) T.n_len (by decide +kernel) (pa_cons (pv 0) pa_nil)) pe_int) (pa_cons (pe_un un_neg pe_int) (pa_cons (pe_un un_neg pe_int) pa_nil)))) (pg_name (i := 4) nd rfl (Or.inl rfl)) (pss_cons (ps_set (i := 8) nd rfl (Or.inl rfl) pe_nnew) (pss_cons (ps_for PassesOwn.never rfl (pi_seqU (pe_ix ix_seq (pv 3) (pv 4) (fun _ _ => rfl))) (pg_name (i := 7) nd rfl (Or.inl rfl)) (pss_cons (ps_set (i := 9) nd rfl (Or.inl rfl) (pe_call (ok_next_states T) (hr.mono (by decide)) (by rfl) T.m_next_states T.F_next_states.kp T.b_next_states .nil pass0 (pa_cons (pv 0) (pa_cons (pv 4) (pa_cons (pv 7) (pa_cons (pv 1) (pa_cons (pv 2) pa_nil))))))) (pss_one (ps_nput hr (pv 8) (pv 7) (pe_callB (cr_sum rfl) (by rfl) T.n_sum (by decide +kernel) (pa_cons (pe_lc (own := [("some", 10)]) (by rfl) nd (pi_seqU (pv 9)) (blkOk_by (own := [("some", 10)]) (N := N_endings) (sc := defScope s_endings) (by decide +kernel)) (fun _ _ _ _ _ => (pg_name (i := 10) nd rfl (Or.inl rfl))) (fun _ _ _ _ _ => pts_nil) (fun _ _ _ _ _ => (pe_ix (ix_dict hr) (pe_ix ix_seq (pv 5) pe_int (fun _ _ => rfl)) (pv 10) (fun _ _ => rfl)))) pa_nil)))))) (pss_one (ps_set (i := 5) nd rfl (Or.inr rfl) (pe_op op_addU (pe_lst (pa_cons (pv 8) pa_nil)) (pv 5))))))) (pss_one (ps_ret (pv 5))))))),
      run_P (N := N_endings) (ds_seq (ds_setO (i := 3) (df_lst (da_cons (do_e (de_l (df_lst (da_cons (do_e de_non) da_nil)))) da_nil))) (ds_seq (ds_for (ws := [4]) (di_rng1 (da_cons (do_e (de_cb sn_len (da_cons (do_e de_v) da_nil))) da_nil)) (dg_name (by decide)) (ds_seq (ds_setD (i := 6) dd_new) (ds_seq (ds_for (ws := [7]) (di_seq (de_op sn_ix do_v (do_e (de_un sn_neg (do_e de_int))))) (dg_name (by decide)) (ds_for (ws := [9]) (di_seq (de_l (df_call callF_len (da_cons (do_e de_v) (da_cons (do_e de_v) (da_cons (do_e de_v) (da_cons (do_e de_v) (da_cons (do_e de_v) da_nil)))))))) (dg_name (by decide)) (ds_putD de_bl de_v))) (ds_app (de_l (df_cb sn_nkeys (da_cons do_v da_nil))))))) (ds_seq (ds_set (i := 5) (de_l (df_lst (da_cons (do_e (de_cb sn_ndict (da_cons (do_e (de_l (df_lc (di_seq (de_op sn_ix do_v (do_e (de_un sn_neg (do_e de_int))))) (dg_name (by decide)) dt_yes (de_tup (da_cons (do_e de_v) (da_cons (do_e (de_cb sn_int (da_cons (do_e (de_or (de_op sn_is (do_e de_v) (do_e de_non)) (de_op sn_ix (do_e de_v) (do_e de_int)))) da_nil))) da_nil)))))) da_nil))) da_nil)))) (ds_seq (ds_for (ws := [4]) (di_rng3 (da_cons (do_e (de_op sn_sub (do_e (de_cb sn_len (da_cons (do_e de_v) da_nil))) (do_e de_int))) (da_cons (do_e (de_un sn_neg (do_e de_int))) (da_cons (do_e (de_un sn_neg (do_e de_int))) da_nil)))) (dg_name (by decide)) (ds_seq (ds_setD (i := 8) dd_new) (ds_seq (ds_for (ws := [7]) (di_seq (de_op sn_ix do_v (do_e de_v))) (dg_name (by decide)) (ds_seq (ds_set (i := 9) (de_l (df_call callF_len (da_cons (do_e de_v) (da_cons (do_e de_v) (da_cons (do_e de_v) (da_cons (do_e de_v) (da_cons (do_e de_v) da_nil)))))))) (ds_putD (de_cb sn_sum (da_cons (do_e (de_l (df_lc (di_seq de_v) (dg_name (by decide)) dt_yes (de_op sn_nget (do_e (de_op sn_ix (do_e de_v) (do_e de_int))) (do_e de_v))))) da_nil)) de_v))) (ds_fz (i := 8) (ds_set (i := 5) (de_op sn_addU (do_e (de_l (df_lst (da_cons (do_e de_v) da_nil)))) (do_e de_v))))))) (ds_ret de_v))))) (by decide) h⟩
theorem ok_free_wish (T : Tx K mg) : FnOk P w K mg base CX0 1 T.a_free_wish T.d_free_wish ["row"] (spF K 1 F_free_wish) := by
    refine T.F_free_wish.ok sc_free_wish (fun vs H Q E h => h.1) (fun cdv A outer s H vs Q E hr h => ?_)
    have nd := sc_free_wish.nd
    exact ⟨_, (pss_one (ps_ret (pe_op op_mulT (pe_lst (pa_cons pe_non pa_nil)) (pe_callB call_lenU (by rfl) T.n_len (by decide +kernel) (pa_cons (pv 0) pa_nil))))),
      run_F (N := N_free_wish) (ds_retF (df_op sn_repLT (do_e (de_l (df_lst (da_cons (do_e de_non) da_nil)))) (do_e (de_cb sn_len (da_cons (do_e de_v) da_nil))))) (by decide) h⟩
theorem ok_inner (T : Tx K mg) : FnOk P w K mg base CX0 1 T.a_inner T.d_inner ["row"] (spF K 1 F_inner) := by
    refine T.F_inner.ok sc_inner (fun vs H Q E h => h.1) (fun cdv A outer s H vs Q E hr h => ?_)
    have nd := sc_inner.nd
    exact ⟨_, (pss_one (ps_ret (pe_listRg (by rfl) (by rfl) T.n_list (prg_2 (by rfl) T.n_range pe_int (pe_op op_sub (pe_callB call_lenU (by rfl) T.n_len (by decide +kernel) (pa_cons (pv 0) pa_nil)) pe_int))))),
      run_F (N := N_inner) (ds_retF (df_listRg2 de_int (de_op sn_sub (do_e (de_cb sn_len (da_cons (do_e de_v) da_nil))) (do_e de_int)))) (by decide) h⟩
theorem ok_dips (T : Tx K mg) : FnOk P w K mg base CX0 2 T.a_dips T.d_dips ["row"] (spF K 1 F_dips) := by
    refine T.F_dips.ok sc_dips (fun vs H Q E h => h.1) (fun cdv A outer s H vs Q E hr h => ?_)
    have nd := sc_dips.nd
    exact ⟨_, (pss_one (ps_ret (pe_lc (own := [("person", 1)]) (by rfl) nd (pi_seqU (pe_call (ok_inner T) (hr.mono (by decide)) (by rfl) T.m_inner T.F_inner.kp T.b_inner .nil pass0 (pa_cons (pv 0) pa_nil))) (blkOk_by (own := [("person", 1)]) (N := N_dips) (sc := defScope s_dips) (by decide +kernel)) (fun _ _ _ _ _ => (pg_name (i := 1) nd rfl (Or.inl rfl))) (fun _ _ _ _ _ => (pts_one (pt_chain op_gt op_lt (pe_ix ix_seq (pv 0) (pe_op op_sub (pv 1) pe_int) (fun _ _ => rfl)) (pe_ix ix_seq (pv 0) (pv 1) (fun _ _ => rfl)) (pe_ix ix_seq (pv 0) (pe_op op_addU (pv 1) pe_int) (fun _ _ => rfl))))) (fun _ _ _ _ _ => (pv 1))))),
      run_F (N := N_dips) (ds_retF (df_lc (di_seq (de_l (df_call callF_len (da_cons (do_e de_v) da_nil)))) (dg_name (by decide)) (dt_test (de_chain sn_gt sn_lt (do_e (de_op sn_ix (do_e de_v) (do_e (de_op sn_sub (do_e de_v) (do_e de_int))))) (do_e (de_op sn_ix (do_e de_v) (do_e de_v))) (do_e (de_op sn_ix (do_e de_v) (do_e (de_op sn_addU (do_e de_v) (do_e de_int))))))) de_v)) (by decide) h⟩
theorem ok_tops (T : Tx K mg) : FnOk P w K mg base CX0 2 T.a_tops T.d_tops ["row"] (spF K 1 F_tops) := by
    refine T.F_tops.ok sc_tops (fun vs H Q E h => h.1) (fun cdv A outer s H vs Q E hr h => ?_)
    have nd := sc_tops.nd
    exact ⟨_, (pss_one (ps_ret (pe_lc (own := [("person", 1)]) (by rfl) nd (pi_seqU (pe_call (ok_inner T) (hr.mono (by decide)) (by rfl) T.m_inner T.F_inner.kp T.b_inner .nil pass0 (pa_cons (pv 0) pa_nil))) (blkOk_by (own := [("person", 1)]) (N := N_tops) (sc := defScope s_tops) (by decide +kernel)) (fun _ _ _ _ _ => (pg_name (i := 1) nd rfl (Or.inl rfl))) (fun _ _ _ _ _ => (pts_one (pt_chain op_lt op_gt (pe_ix ix_seq (pv 0) (pe_op op_sub (pv 1) pe_int) (fun _ _ => rfl)) (pe_ix ix_seq (pv 0) (pv 1) (fun _ _ => rfl)) (pe_ix ix_seq (pv 0) (pe_op op_addU (pv 1) pe_int) (fun _ _ => rfl))))) (fun _ _ _ _ _ => (pv 1))))),
      run_F (N := N_tops) (ds_retF (df_lc (di_seq (de_l (df_call callF_len (da_cons (do_e de_v) da_nil)))) (dg_name (by decide)) (dt_test (de_chain sn_lt sn_gt (do_e (de_op sn_ix (do_e de_v) (do_e (de_op sn_sub (do_e de_v) (do_e de_int))))) (do_e (de_op sn_ix (do_e de_v) (do_e de_v))) (do_e (de_op sn_ix (do_e de_v) (do_e (de_op sn_addU (do_e de_v) (do_e de_int))))))) de_v)) (by decide) h⟩
theorem ok_options_of (T : Tx K mg) : FnOk P w K mg base CX0 3 T.a_options_of T.d_options_of ["row", "wish"] (spF K 2 F_options_of) := by
    refine T.F_options_of.ok sc_options_of (fun vs H Q E h => h.1) (fun cdv A outer s H vs Q E hr h => ?_)
    have nd := sc_options_of.nd
    exact ⟨_, (pss_cons (ps_par3 (i := 2) (j := 3) (l := 4) (by rfl) nd rfl rfl rfl (by decide) (by decide) (by decide) rfl rfl rfl (pa_cons (pe_call (ok_tops T) (hr.mono (by decide)) (by rfl) T.m_tops T.F_tops.kp T.b_tops .nil pass0 (pa_cons (pv 0) pa_nil)) (pa_cons (pe_call (ok_dips T) (hr.mono (by decide)) (by rfl) T.m_dips T.F_dips.kp T.b_dips .nil pass0 (pa_cons (pv 0) pa_nil)) (pa_cons (pe_lst pa_nil) pa_nil))) (by rfl)) (pss_cons (ps_for PassesOwn.never rfl (pi_enumU (by rfl) T.n_enumerate (pa_cons (pv 0) pa_nil)) (pg_tup rfl (pgs_cons (pg_name (i := 5) nd rfl (Or.inr rfl)) (pgs_cons (pg_name (i := 6) nd rfl (Or.inr rfl)) pgs_nil))) (pss_cons (ps_set (i := 7) nd rfl (Or.inl rfl) (pe_lst (pa_cons (pe_tup (pa_cons (pv 6) (pa_cons pe_bl pa_nil))) pa_nil))) (pss_cons (ps_if (pt_cmpR op_in_seq (pv 5) (pv 2) (by rfl)) (pss_one (ps_expr (pe_bm PySem.F.plainAttrs_list PySem.F.slot_list_extend PySem.F.type_list_extend mt_extend (pv 7) (pa_cons (pe_lc (own := [("number", 8)]) (by rfl) nd (pi_seqU (pe_srtSet (by rfl) T.n_sorted (by rfl) T.n_set (pv 0))) (blkOk_by (own := [("number", 8)]) (N := N_options_of) (sc := defScope s_options_of) (by decide +kernel)) (fun _ _ _ _ _ => (pg_name (i := 8) nd rfl (Or.inl rfl))) (fun _ _ _ _ _ => (pts_one (pt_cmpR op_lt (pv 8) (pv 6) (nomark _)))) (fun _ _ _ _ _ => (pe_tup (pa_cons (pv 8) (pa_cons pe_bl pa_nil))))) pa_nil)))) pss_nil) (pss_cons (ps_if (pt_cmpR op_in_seq (pv 5) (pv 3) (by rfl)) (pss_one (ps_expr (pe_bm PySem.F.plainAttrs_list PySem.F.slot_list_extend PySem.F.type_list_extend mt_extend (pv 7) (pa_cons (pe_lc (own := [("number", 8)]) (by rfl) nd (pi_seqU (pe_srtSet (by rfl) T.n_sorted (by rfl) T.n_set (pv 0))) (blkOk_by (own := [("number", 8)]) (N := N_options_of) (sc := defScope s_options_of) (by decide +kernel)) (fun _ _ _ _ _ => (pg_name (i := 8) nd rfl (Or.inl rfl))) (fun _ _ _ _ _ => (pts_one (pt_cmpR op_gt (pv 8) (pv 6) (nomark _)))) (fun _ _ _ _ _ => (pe_tup (pa_cons (pv 8) (pa_cons pe_bl pa_nil))))) pa_nil)))) pss_nil) (pss_one (ps_expr (pe_bm PySem.F.plainAttrs_list PySem.F.slot_list_append PySem.F.type_list_append mt_append (pv 4) (pa_cons (pe_callB (cr_sortN hr rfl) (by rfl) T.n_sorted (by decide +kernel) (pa_cons (pe_lc (own := [("option", 9)]) (by rfl) nd (pi_seqU (pv 7)) (blkOk_by (own := [("option", 9)]) (N := N_options_of) (sc := defScope s_options_of) (by decide +kernel)) (fun _ _ _ _ _ => (pg_name (i := 9) nd rfl (Or.inl rfl))) (fun _ _ _ _ _ => (pts_one (PW.pt (pw_or (pt_cmpR op_isU (pe_ix ix_seq (pv 1) (pv 5) (fun _ _ => rfl)) pe_non (nomark _)) (pw_or1 (pt_cmpR (op_eqU hr) (pe_ix ix_seq (pv 1) (pv 5) (fun _ _ => rfl)) (pe_ix ix_seq (pv 9) pe_int (fun _ _ => rfl)) (nomark _))))))) (fun _ _ _ _ _ => (pv 9))) pa_nil)) pa_nil)))))))) (pss_one (ps_ret (pv 4))))),
      run_F (N := N_options_of) (ds_seq (ds_par3f (de_l (df_call callF_len (da_cons (do_e de_v) da_nil))) (de_l (df_call callF_len (da_cons (do_e de_v) da_nil))) (df_lst da_nil)) (ds_seq (ds_for (ws := [5, 6]) (di_enum (da_cons (do_e de_v) da_nil)) (dg_tup (dgs_cons (dg_name (by decide)) (dgs_cons (dg_name (by decide)) dgs_nil))) (ds_seq (ds_setO (i := 7) (df_lst (da_cons (do_e (de_tup (da_cons (do_e de_v) (da_cons (do_e de_bl) da_nil)))) da_nil))) (ds_seq (ds_if (dt_test (de_op sn_in (do_e de_v) (do_e de_v))) (ds_ext (df_lc (di_seq (de_l (df_srtSet de_v))) (dg_name (by decide)) (dt_test (de_op sn_lt (do_e de_v) (do_e de_v))) (de_tup (da_cons (do_e de_v) (da_cons (do_e de_bl) da_nil))))) ds_next) (ds_seq (ds_if (dt_test (de_op sn_in (do_e de_v) (do_e de_v))) (ds_ext (df_lc (di_seq (de_l (df_srtSet de_v))) (dg_name (by decide)) (dt_test (de_op sn_gt (do_e de_v) (do_e de_v))) (de_tup (da_cons (do_e de_v) (da_cons (do_e de_bl) da_nil))))) ds_next) (ds_fz (i := 7) (ds_app (de_l (df_cb sn_sortN (da_cons (do_e (de_l (df_lc (di_seq de_v) (dg_name (by decide)) (dt_or (dt_test (de_op sn_is (do_e (de_op sn_ix (do_e de_v) (do_e de_v))) (do_e de_non))) (dt_test (de_op sn_eqW (do_e (de_op sn_ix (do_e de_v) (do_e de_v))) (do_e (de_op sn_ix (do_e de_v) (do_e de_int)))))) de_v))) da_nil))))))))) ds_retO)) (by decide) h⟩
theorem ok_rows_many (T : Tx K mg) : FnOk P w K mg base CX0 5 T.a_rows_many T.d_rows_many ["row", "wish", "calm"] (spP K 3 F_rows_many) := by
    refine T.F_rows_many.ok sc_rows_many (fun vs H Q E h => h.1) (fun cdv A outer s H vs Q E hr h => ?_)
    have nd := sc_rows_many.nd
    exact ⟨_, (pss_one (ps_ret (pe_ix (ix_dict hr) (pe_ix ix_seq (pe_call (ok_endings T) (hr.mono (by decide)) (by rfl) T.m_endings T.F_endings.kp T.b_endings .nil pass0 (pa_cons (pv 0) (pa_cons (pe_call (ok_options_of T) (hr.mono (by decide)) (by rfl) T.m_options_of T.F_options_of.kp T.b_options_of .nil pass0 (pa_cons (pv 0) (pa_cons (pv 1) pa_nil))) (pa_cons (pv 2) pa_nil)))) pe_int (fun _ _ => rfl)) pe_non (fun _ _ => rfl)))),
      run_P (N := N_rows_many) (ds_ret (de_op sn_nget (do_e (de_op sn_ix (do_e (de_call callP_len (da_cons (do_e de_v) (da_cons (do_e (de_l (df_call callF_len (da_cons (do_e de_v) (da_cons (do_e de_v) da_nil))))) (da_cons (do_e de_v) da_nil))))) (do_e de_int))) (do_e de_non))) (by decide) h⟩
theorem ok_futures_many (T : Tx K mg) : FnOk P w K mg base CX0 6 T.a_futures_many T.d_futures_many ["row"] (spP K 1 F_futures_many) := by
    refine T.F_futures_many.ok sc_futures_many (fun vs H Q E h => h.1) (fun cdv A outer s H vs Q E hr h => ?_)
    have nd := sc_futures_many.nd
    exact ⟨_, (pss_one (ps_ret (pe_call (ok_rows_many T) (hr.mono (by decide)) (by rfl) T.m_rows_many T.F_rows_many.kp T.b_rows_many .nil pass0 (pa_cons (pv 0) (pa_cons (pe_call (ok_free_wish T) (hr.mono (by decide)) (by rfl) T.m_free_wish T.F_free_wish.kp T.b_free_wish .nil pass0 (pa_cons (pv 0) pa_nil)) (pa_cons pe_bl pa_nil)))))),
      run_P (N := N_futures_many) (ds_ret (de_call callP_len (da_cons (do_e de_v) (da_cons (do_e (de_l (df_call callF_len (da_cons (do_e de_v) da_nil)))) (da_cons (do_e de_bl) da_nil))))) (by decide) h⟩
theorem ok_look_few (T : Tx K mg) : FnOk P w K mg base (L2.CX P w) 7 T.a_look_few T.d_look_few ["row"] (spX K 1 F_look_few) := by
    refine T.F_look_few.okX sc_look_few (fun vs H Q E h => h.1) (fun cdv A outer s H vs Q E hr h => ?_)
    have nd := sc_look_few.nd
    exact ⟨_, (pss_cons (ps_set (i := 1) nd rfl (Or.inl rfl) (pe_call (ok_futures_many T) (hr.mono (by decide)) (by rfl) T.m_futures_many T.F_futures_many.kp T.b_futures_many .nil pass0 (pa_cons (pv 0) pa_nil))) (pss_one (ps_if (pt_cmpR op_gt (pv 1) (pe_glob (v := .int 300) (by rfl) T.c_MOST ⟨_, rfl⟩) (nomark _)) (pss_one (ps_raise rfl (takes_of rfl rfl rfl rfl) (pmk_ox DLX.bs_O (ox_TooMany T) (hr.mono (by decide)) (by rfl) T.m_TooMany (pa_cons (pv 1) pa_nil)))) pss_nil))),
      run_X (N := N_look_few) (ds_seq (ds_set (i := 1) (de_call callP_len (da_cons (do_e de_v) da_nil))) (ds_if (dt_test (de_op sn_gt (do_e de_v) (do_e de_int))) (ds_raise T.cc_TooMany rfl de_v) ds_next)) (by decide) h⟩
theorem ok_all_futures (T : Tx K mg) : FnOk P w K mg base (L2.CX P w) 8 T.a_all_futures T.d_all_futures ["row"] (spXF K 1 F_all_futures) := by
    refine T.F_all_futures.okX sc_all_futures (fun vs H Q E h => h.1) (fun cdv A outer s H vs Q E hr h => ?_)
    have nd := sc_all_futures.nd
    exact ⟨_, (pss_cons (ps_expr (pe_callS (ok_look_few T) (hr.mono (by decide)) (by rfl) T.m_look_few T.F_look_few.kp T.b_look_few (fun σ => passAt (takes_of rfl rfl rfl rfl) σ) (pa_cons (pv 0) pa_nil))) (pss_cons (ps_set (i := 1) nd rfl (Or.inl rfl) (pe_call (ok_options_of T) (hr.mono (by decide)) (by rfl) T.m_options_of T.F_options_of.kp T.b_options_of .nil pass0 (pa_cons (pv 0) (pa_cons (pe_call (ok_free_wish T) (hr.mono (by decide)) (by rfl) T.m_free_wish T.F_free_wish.kp T.b_free_wish .nil pass0 (pa_cons (pv 0) pa_nil)) pa_nil)))) (pss_cons (ps_asg (pe_tup (pa_cons (pe_call (ok_endings T) (hr.mono (by decide)) (by rfl) T.m_endings T.F_endings.kp T.b_endings .nil pass0 (pa_cons (pv 0) (pa_cons (pv 1) (pa_cons pe_bl pa_nil)))) (pa_cons (pe_lst (pa_cons (pe_tup (pa_cons (pe_tup pa_nil) (pa_cons pe_non pa_nil))) pa_nil)) pa_nil))) (pg_tup rfl (pgs_cons (pg_name (i := 2) nd rfl (Or.inr rfl)) (pgs_cons (pg_name (i := 3) nd rfl (Or.inl rfl)) pgs_nil)))) (pss_cons (ps_for (passes_of rfl) rfl (pi_range1 (by rfl) T.n_range (pa_cons (pe_callB call_lenU (by rfl) T.n_len (by decide +kernel) (pa_cons (pv 0) pa_nil)) pa_nil)) (pg_name (i := 4) nd rfl (Or.inr rfl)) (pss_cons (ps_set (i := 5) nd rfl (Or.inl rfl) (pe_lst pa_nil)) (pss_cons (ps_for (passes_of rfl) rfl (pi_seqU (pv 3)) (pg_tup rfl (pgs_cons (pg_name (i := 6) nd rfl (Or.inr rfl)) (pgs_cons (pg_name (i := 7) nd rfl (Or.inl rfl)) pgs_nil))) (pss_cons (ps_setLc (i := 8) (own := [("later", 9)]) (by rfl) nd rfl rfl (sw_true rfl rfl rfl (by decide +kernel)) (pi_seqU (pe_call (ok_next_states T) (hr.mono (by decide)) (by rfl) T.m_next_states T.F_next_states.kp T.b_next_states .nil pass0 (pa_cons (pv 0) (pa_cons (pv 4) (pa_cons (pv 7) (pa_cons (pv 1) (pa_cons pe_bl pa_nil))))))) (blkOk_by (own := [("later", 9)]) (N := N_all_futures) (sc := defScope s_all_futures) (by decide +kernel)) (fun _ _ _ _ _ => (pg_name (i := 9) nd rfl (Or.inl rfl))) (fun _ _ _ _ _ => (pts_one (pt_cmpR op_gt (pe_ix (ix_dict hr) (pe_ix ix_seq (pv 2) (pe_op op_addU (pv 4) pe_int) (fun _ _ => rfl)) (pv 9) (fun _ _ => rfl)) pe_int (nomark _)))) (fun _ _ _ _ _ => (pv 9))) (pss_one (ps_expr (pe_bm PySem.F.plainAttrs_list PySem.F.slot_list_extend PySem.F.type_list_extend mt_extend (pv 5) (pa_cons (pe_lc (own := [("later", 9)]) (by rfl) nd (pi_seqU (pv 8)) (blkOk_by (own := [("later", 9)]) (N := N_all_futures) (sc := defScope s_all_futures) (by decide +kernel)) (fun _ _ _ _ _ => (pg_name (i := 9) nd rfl (Or.inl rfl))) (fun _ _ _ _ _ => pts_nil) (fun _ _ _ _ _ => (pe_tup (pa_cons (pe_op op_addU (pv 6) (pe_tup (pa_cons (pe_ix ix_seq (pv 9) pe_int (fun _ _ => rfl)) pa_nil))) (pa_cons (pv 9) pa_nil))))) pa_nil)))))) (pss_one (ps_set (i := 3) nd rfl (Or.inl rfl) (pv 5)))))) (pss_one (ps_ret (pe_lc (own := [("begun", 6), ("state", 7)]) (by rfl) nd (pi_seqU (pv 3)) (blkOk_by (own := [("begun", 6), ("state", 7)]) (N := N_all_futures) (sc := defScope s_all_futures) (by decide +kernel)) (fun _ _ _ _ _ => (pg_tup rfl (pgs_cons (pg_name (i := 6) nd rfl (Or.inl rfl)) (pgs_cons (pg_name (i := 7) nd rfl (Or.inl rfl)) pgs_nil)))) (fun _ _ _ _ _ => pts_nil) (fun _ _ _ _ _ => (pv 6))))))))),
      run_XF (N := N_all_futures) (ds_seq (ds_dropX (xd_callX callX_len (da_cons (do_e de_v) da_nil))) (ds_seq (ds_set (i := 1) (de_l (df_call callF_len (da_cons (do_e de_v) (da_cons (do_e (de_l (df_call callF_len (da_cons (do_e de_v) da_nil)))) da_nil))))) (ds_seq (ds_to (ws := [2, 3]) (de_tup (da_cons (do_e (de_call callP_len (da_cons (do_e de_v) (da_cons (do_e de_v) (da_cons (do_e de_bl) da_nil))))) (da_cons (do_e (de_l (df_lst (da_cons (do_e (de_tup (da_cons (do_e (de_tup da_nil)) (da_cons (do_e de_non) da_nil)))) da_nil)))) da_nil))) (dg_tup (dgs_cons (dg_name (by decide)) (dgs_cons (dg_name (by decide)) dgs_nil)))) (ds_seq (ds_for (ws := [4]) (di_rng1 (da_cons (do_e (de_cb sn_len (da_cons (do_e de_v) da_nil))) da_nil)) (dg_name (by decide)) (ds_seq (ds_setO (i := 5) (df_lst da_nil)) (ds_seq (ds_for (ws := [6, 7]) (di_seq de_v) (dg_tup (dgs_cons (dg_name (by decide)) (dgs_cons (dg_name (by decide)) dgs_nil))) (ds_seq (ds_set (i := 8) (de_l (df_lc (di_seq (de_l (df_call callF_len (da_cons (do_e de_v) (da_cons (do_e de_v) (da_cons (do_e de_v) (da_cons (do_e de_v) (da_cons (do_e de_bl) da_nil)))))))) (dg_name (by decide)) (dt_test (de_op sn_gt (do_e (de_op sn_nget (do_e (de_op sn_ix (do_e de_v) (do_e (de_op sn_addU (do_e de_v) (do_e de_int))))) (do_e de_v))) (do_e de_int))) de_v))) (ds_ext (df_lc (di_seq de_v) (dg_name (by decide)) dt_yes (de_tup (da_cons (do_e (de_op sn_addU (do_e de_v) (do_e (de_tup (da_cons (do_e (de_op sn_ix (do_e de_v) (do_e de_int))) da_nil))))) (da_cons (do_e de_v) da_nil))))))) (ds_fz (i := 5) (ds_set (i := 3) de_v))))) (ds_retF (df_lc (di_seq de_v) (dg_tup (dgs_cons (dg_name (by decide)) (dgs_cons (dg_name (by decide)) dgs_nil))) dt_yes de_v)))))) (by decide) h⟩
theorem ok__law_right (T : Tx K mg) : FnOk P w K mg base CX0 10 T.a__law_right T.d__law_right ["_law_box_here"] (spB K 1 F__law_right) := by
    refine T.F__law_right.ok sc__law_right (fun vs H Q E h => h.1) (fun cdv A outer s H vs Q E hr h => ?_)
    have nd := sc__law_right.nd
    exact ⟨_, (pss_cons (ps_for PassesOwn.never rfl (pi_range1 (by rfl) T.n_range (pa_cons pe_int pa_nil)) (pg_name (i := 1) nd rfl (Or.inl rfl)) (pss_cons (ps_set (i := 2) nd rfl (Or.inl rfl) (pe_call (ok__law_some_line T) (hr.mono (by decide)) (by rfl) T.m__law_some_line T.F__law_some_line.kp T.b__law_some_line .nil pass0 (pa_cons (pv 0) (pa_cons pe_int pa_nil)))) (pss_cons (ps_par (i := 3) (j := 4) (by rfl) nd rfl rfl (by decide) rfl rfl (pa_cons (pe_callB (cr_sortN hr rfl) (by rfl) T.n_sorted (by decide +kernel) (pa_cons (pe_call (ok__law_far T) (hr.mono (by decide)) (by rfl) T.m__law_far T.F__law_far.kp T.b__law_far .nil pass0 (pa_cons (pv 2) pa_nil)) pa_nil)) (pa_cons (pe_callTy call_listU (by rfl) T.n_list (by decide +kernel) (pa_cons (pv 2) pa_nil)) pa_nil)) (by rfl)) (pss_cons (ps_set (i := 5) nd rfl (Or.inl rfl) (pe_lst (pa_cons (pe_call (ok_all_futures T) (hr.mono (by decide)) (by rfl) T.m_all_futures T.F_all_futures.kp T.b_all_futures .nil passL (pa_cons (pv 2) pa_nil)) (pa_cons (pe_callW (ok_all_futures T) (hr.mono (by decide)) (by rfl) T.m_all_futures T.F_all_futures.kp T.k_all_futures_row passL (pk_cons (pv 4) pk_nil)) pa_nil)))) (pss_cons (ps_if (pt_not (pt_val (pe_call (ok__law_same T 6) (hr.mono (by decide)) (by rfl) T.m__law_same T.F__law_same.kp T.b__law_same .nil pass0 (pa_cons (pv 5) (pa_cons (pe_lst (pa_cons (pv 3) (pa_cons (pv 3) pa_nil))) pa_nil))))) (pss_one (ps_ret pe_bl)) pss_nil) (pss_cons (ps_expr (pe_bm PySem.F.plainAttrs_list PySem.F.slot_list_append PySem.F.type_list_append mt_append (pe_ix ix_seq (pv 5) pe_int (fun _ _ => rfl)) (pa_cons pe_str pa_nil))) (pss_one (ps_if (PW.pt (pw_or (pt_not (pt_val (pe_call (ok__law_same T 6) (hr.mono (by decide)) (by rfl) T.m__law_same T.F__law_same.kp T.b__law_same .nil pass0 (pa_cons (pe_call (ok_all_futures T) (hr.mono (by decide)) (by rfl) T.m_all_futures T.F_all_futures.kp T.b_all_futures .nil passL (pa_cons (pv 2) pa_nil)) (pa_cons (pv 3) pa_nil))))) (pw_or1 (pt_cmpR (op_neU hr) (pv 4) (pe_callTy call_listU (by rfl) T.n_list (by decide +kernel) (pa_cons (pv 2) pa_nil)) (nomark _))))) (pss_one (ps_ret pe_bl)) pss_nil)))))))) (pss_one (ps_ret pe_bl))),
      run_B (N := N__law_right) (ds_seq (ds_for (ws := [1]) (di_rng1 (da_cons (do_e de_int) da_nil)) (dg_name (by decide)) (ds_seq (ds_set (i := 2) (de_callB callB_len (da_cons (do_e de_int) da_nil))) (ds_seq (ds_par (dn_s (de_l (df_cb sn_sortN (da_cons (do_e (de_call callP_len (da_cons (do_e de_v) da_nil))) da_nil)))) (dn_s (de_l (df_cb sn_list (da_cons (do_e de_v) da_nil))))) (ds_heardT (h := 5) (dnl_f (df_callXF callXF_len (da_cons (do_e de_v) da_nil)) (dnl_f (df_callWXF kw_idL callXF_len (da_cons (do_e de_v) da_nil)) dnl_nil)) (de_l (df_lst (da_cons (do_e de_v) (da_cons (do_e de_v) da_nil)))) (by exact (ht_apps (x := "more") (js := [0]))) (ds_if (dt_or (dt_not (dt_B (de_call (Fl__law_same _) (da_cons (do_e (de_l (df_callXF callXF_len (da_cons (do_e de_v) da_nil)))) (da_cons (do_e de_v) da_nil))))) (dt_test (de_op sn_neW (do_e de_v) (do_e (de_l (df_cb sn_list (da_cons (do_e de_v) da_nil))))))) (ds_ret de_bl) ds_next))))) (ds_ret de_bl)) (by decide) h⟩
theorem ok_law (T : Tx K mg) : FnOk P w K mg base CX0 11 T.a_law T.d_law ["_law_script"] (spP K 1 F_law) := by
    refine T.F_law.ok sc_law (fun vs H Q E h => h.1) (fun cdv A outer s H vs Q E hr h => ?_)
    have nd := sc_law.nd
    exact ⟨_, (pss_one (ps_ret (pe_callB (cr_all rfl) (by rfl) T.n_all (by decide +kernel) (pa_cons (pe_lc (own := [("_law_k", 1)]) (by rfl) nd (pi_range1 (by rfl) T.n_range (pa_cons (pe_op op_addU pe_int (pe_callB (call_min2U rfl) (by rfl) T.n_min (by decide +kernel) (pa_cons pe_int (pa_cons (pe_callB call_lenU (by rfl) T.n_len (by decide +kernel) (pa_cons (pv 0) pa_nil)) pa_nil)))) pa_nil)) (blkOk_by (own := [("_law_k", 1)]) (N := N_law) (sc := defScope s_law) (by decide +kernel)) (fun _ _ _ _ _ => (pg_name (i := 1) nd rfl (Or.inl rfl))) (fun _ _ _ _ _ => pts_nil) (fun _ _ _ _ _ => (pe_call (ok__law_right T) (hr.mono (by decide)) (by rfl) T.m__law_right T.F__law_right.kp T.b__law_right .nil pass0 (pa_cons (pe_call (ok__law_box T) (hr.mono (by decide)) (by rfl) T.m__law_box T.F__law_box.kp T.b__law_box .nil pass0 (pa_cons (pv 0) (pa_cons (pv 1) pa_nil))) pa_nil)))) pa_nil)))),
      run_P (N := N_law) (ds_ret (de_cb sn_all (da_cons (do_e (de_l (df_lc (di_rng1 (da_cons (do_e (de_op sn_addU (do_e de_int) (do_e (de_cb sn_min2 (da_cons (do_e de_int) (da_cons (do_e (de_cb sn_len (da_cons (do_e de_v) da_nil))) da_nil)))))) da_nil)) (dg_name (by decide)) dt_yes (de_callBX callB_len (df_call callF_len (da_cons (do_e de_v) (da_cons (do_e de_v) da_nil))) da_nil)))) da_nil))) (by decide) h⟩
end
end W

namespace W
open PySem L2 DL
local macro_rules | `(tactic| walk_at "ev") => `(tactic| simp only [eC, eV, oE, oV, eL, eT, aNil, aCons, eOp2, eOp1, eApp, tstE, eB, tNotG, tAndG, tOrG, eAndG, eOrG, eNotG, eIf, eSeq, eCall, eCallO, eCallB, eCallBF, eCallBX, sSeq, sNext, sRet, sRetF, sRetO, sRetN, sDrop, sIf, sSet, sSetO, sBreak, sCont, sBad, sPar, sPar3, fz, sFz, eCallW, idL, sApp, sPutIx, sAug, sFor, gN, gT, gsCons, gsNil, gYes, eLc, gSeq, nS, nF, Nw.sl, R.ok_bind, R.ok_map, R.lift_some, to_ok, toX_ok, toX_ex, bind_nx, bind_rt, bind_rf, bind_ex, bind_bk, bind_ct, at_ok, at_ex, res_val, map_ex, rbind_ex, Op.res, resA, valA, isOw, box0, Option.map_some, Option.bind_some, sHeardT, nlCons, nlNil, Nw.dat, mSet, eChain, eRg1, eRg2, eSl, pNo, pSo,
  List.getElem?_cons_zero, List.getElem?_cons_succ, List.set_cons_zero, List.set_cons_succ, List.length_cons, List.length_nil, if_true, if_false, Bool.false_eq_true, ite_true, ite_false, reduceIte,
  addU_int, subD_int, ltD_int, leD_int, gtD_int, geD_int, negD_int, absD_int, intD_bool, intD_int, lenD_list, lenD_tuple, lenD_scr, pow10_7, pow10_18, pow10_40, eqW_ints, neW_ints, eqW_strs, neW_strs, eqW_none, eqW_in, eqW_ni, ixD_list, ixD_tuple, ixD_scr, atI_3_0, atI_3_1, atI_3_2, ixN_3_0, ixN_3_1, ixN_3_2, wipeR, zip2D, skOf, isiD_n, isiD_b, isiD_i, isiD_s, isiD_l, isiD_t, isiTD_n, isiTD_b, isiTD_i, isiTD_s, isiTD_l, isiTD_t, isiAny, eCallX, eCallWX, xE, xIf, xL, xCb1, sSetX, sRetX, sDropX, sRaise, sTo, eMk, isX_n, sKeep, kt_ll, kt_lt, kt_ls, kt_li, kt_lb, kt_tl, kt_tt, kt_ts, kt_ti, kt_tb, kt_sl, kt_st, kt_ss, kt_si, kt_sb, kt_il, kt_it, kt_is, kt_ii, kt_ib, kt_bl, kt_bt, kt_bs, kt_bi, kt_bb, kt_nl, kt_nt, kt_ns, kt_ni, kt_nb, eqW_bools, neW_bools, isD_none, isNotD_none, isNoneD, isNone_e, List.map_cons, List.map_nil, List.replicate, List.append_nil, List.cons_append, List.nil_append, nc0, nc1, nc2, nc3, nc4, nc5, nc6, nc7, nc8, nc9, nc10, nc11, nc12, nc13, nc14, nc15, nc16, nc17, nc18, nc19, nc20, Nat.reduceAdd, Nat.reduceSub, ne_eq, decide_true, decide_false, not_true_eq_false, not_false_eq_true, reduceCtorEq, Bool.and_true, Bool.true_and, Bool.and_false, Bool.false_and, Bool.or_true, Bool.true_or, Bool.or_false, Bool.false_or, Bool.not_true, Bool.not_false])
local macro_rules | `(tactic| walk_at "evh") => `(tactic| simp only [eC, eV, oE, oV, eL, eT, aNil, aCons, eOp2, eOp1, eApp, tstE, eB, tNotG, tAndG, tOrG, eAndG, eOrG, eNotG, eIf, eSeq, eCall, eCallO, eCallB, eCallBF, eCallBX, sSeq, sNext, sRet, sRetF, sRetO, sRetN, sDrop, sIf, sSet, sSetO, sBreak, sCont, sBad, sPar, sPar3, fz, sFz, eCallW, idL, sApp, sPutIx, sAug, sFor, gN, gT, gsCons, gsNil, gYes, eLc, gSeq, nS, nF, Nw.sl, R.ok_bind, R.ok_map, R.lift_some, to_ok, toX_ok, toX_ex, bind_nx, bind_rt, bind_rf, bind_ex, bind_bk, bind_ct, at_ok, at_ex, res_val, map_ex, rbind_ex, Op.res, resA, valA, isOw, box0, Option.map_some, Option.bind_some, sHeardT, nlCons, nlNil, Nw.dat, mSet, eChain, eRg1, eRg2, eSl, pNo, pSo,
  List.getElem?_cons_zero, List.getElem?_cons_succ, List.set_cons_zero, List.set_cons_succ, List.length_cons, List.length_nil, if_true, if_false, Bool.false_eq_true, ite_true, ite_false, reduceIte,
  addU_int, subD_int, ltD_int, leD_int, gtD_int, geD_int, negD_int, absD_int, intD_bool, intD_int, lenD_list, lenD_tuple, lenD_scr, pow10_7, pow10_18, pow10_40, eqW_ints, neW_ints, eqW_strs, neW_strs, eqW_none, eqW_in, eqW_ni, ixD_list, ixD_tuple, ixD_scr, atI_3_0, atI_3_1, atI_3_2, ixN_3_0, ixN_3_1, ixN_3_2, wipeR, zip2D, skOf, isiD_n, isiD_b, isiD_i, isiD_s, isiD_l, isiD_t, isiTD_n, isiTD_b, isiTD_i, isiTD_s, isiTD_l, isiTD_t, isiAny, eCallX, eCallWX, xE, xIf, xL, xCb1, sSetX, sRetX, sDropX, sRaise, sTo, eMk, isX_n, sKeep, kt_ll, kt_lt, kt_ls, kt_li, kt_lb, kt_tl, kt_tt, kt_ts, kt_ti, kt_tb, kt_sl, kt_st, kt_ss, kt_si, kt_sb, kt_il, kt_it, kt_is, kt_ii, kt_ib, kt_bl, kt_bt, kt_bs, kt_bi, kt_bb, kt_nl, kt_nt, kt_ns, kt_ni, kt_nb, eqW_bools, neW_bools, isD_none, isNotD_none, isNoneD, isNone_e, List.map_cons, List.map_nil, List.replicate, List.append_nil, List.cons_append, List.nil_append, nc0, nc1, nc2, nc3, nc4, nc5, nc6, nc7, nc8, nc9, nc10, nc11, nc12, nc13, nc14, nc15, nc16, nc17, nc18, nc19, nc20, Nat.reduceAdd, Nat.reduceSub, ne_eq, decide_true, decide_false, not_true_eq_false, not_false_eq_true, reduceCtorEq, Bool.and_true, Bool.true_and, Bool.and_false, Bool.false_and, Bool.or_true, Bool.true_or, Bool.or_false, Bool.false_or, Bool.not_true, Bool.not_false, *])
theorem take1 {a b c span : Int} (Fr : List D → List D → Option (D × List D)) (ha : 0 < a) (hs : 0 < span) (hs2 : span < 2 ^ 300) : callB 2 4 (g__law_take Fr) [.int a, .int b, .int c] [.int span] = some (.int (a % span), [.int (a / span), .int b, .int c]) := by
  have d1 : decide ((0:Int) < a) = true := decide_eq_true ha
  have e1 : modD (.int a) (.int span) = some (.int (a % span)) := modD_int hs
  have e2 : fdivD (.int a) (.int span) = some (.int (a / span)) := fdivD_int hs hs2
  unfold callB g__law_take envB
  walk_at "evh"
theorem take2 {b c span : Int} (Fr : List D → List D → Option (D × List D)) (hb : 0 ≤ b ∧ b < 2 ^ 62) (hc : 0 ≤ c ∧ c < 2 ^ 40) (hs : 0 < span) (hs2 : span ≤ 10000000) : ∃ r, callB 2 4 (g__law_take Fr) [.int 0, .int b, .int c] [.int span] = some (.int r, [.int 0, .int b, .int (c + 1)]) ∧ 0 ≤ r ∧ r < span := by
  have d2 : decide ((10000000:Int) < span) = false := decide_eq_false (by omega)
  have m1 : mulV (.int 48271) (.int (c + 1)) = some (.int (48271 * (c + 1))) := cmul_l (by omega)
  have m2 : ∀ y : Int, powD (.int (b + 48271 * (c + 1))) (.int 5) = some (.int ((b + 48271 * (c + 1)) ^ 5)) := fun _ => powD_int (by omega) (by omega) (by omega)
  have m2 := m2 0
  generalize hx : (b + 48271 * (c + 1)) ^ 5 = x at m2
  have m3 : modD (.int x) (.int 2147483647) = some (.int (x % 2147483647)) := modD_int (by omega)
  generalize hy : x % 2147483647 = y at m3
  have hy0 : 0 ≤ y ∧ y < 2147483647 := by omega
  have m4 : modD (.int y) (.int 30011) = some (.int (y % 30011)) := modD_int (by omega)
  have m5 : mulV (.int y) (.int (y % 30011 + 7)) = some (.int (y * (y % 30011 + 7))) := cmul_l (by omega)
  have m6 : mulV (.int (c + 1)) (.int 7919) = some (.int ((c + 1) * 7919)) := cmul_r (by omega)
  generalize hz : y * (y % 30011 + 7) + (c + 1) * 7919 = z
  have m7 : modD (.int z) (.int 2147483629) = some (.int (z % 2147483629)) := modD_int (by omega)
  have m8 : fdivD (.int (z % 2147483629)) (.int 64) = some (.int (z % 2147483629 / 64)) := fdivD_int (by omega) (by omega)
  have m9 : modD (.int (z % 2147483629 / 64)) (.int span) = some (.int (z % 2147483629 / 64 % span)) := modD_int hs
  refine ⟨z % 2147483629 / 64 % span, ?_, Int.emod_nonneg _ (by omega), Int.emod_lt_of_pos _ hs⟩
  have d1 : decide ((0:Int) < 0) = false := rfl
  unfold callB g__law_take envB
  clear hx hy
  walk_at "evh"
theorem take_small (k : Nat) {span n : Int} {box : List D} (hb : GoodBox n box) (hn : n < 2 ^ 40) (hs : 0 < span) (hs2 : span ≤ 10000000) : ∃ r box', F__law_take (k + 1) box [.int span] = some (.int r, box') ∧ 0 ≤ r ∧ r < span ∧ GoodBox (n + 1) box' := by
  obtain ⟨a, b, c, rfl, h1, h2, h3, h4, h5⟩ := hb
  by_cases ha : 0 < a
  · refine ⟨_, _, take1 _ ha hs (by omega), Int.emod_nonneg _ (by omega), Int.emod_lt_of_pos _ hs, _, _, _, rfl, ?_, h2, h3, h4, by omega⟩
    exact Int.ediv_nonneg h1 (by omega)
  · have e : a = 0 := by omega
    subst e
    obtain ⟨r, e, r1, r2⟩ := take2 (F__law_take k) ⟨h2, h3⟩ ⟨h4, by omega⟩ hs hs2
    exact ⟨r, _, e, r1, r2, _, _, _, rfl, by omega, h2, h3, by omega, by omega⟩
theorem take3 {b c span : Int} (Fr : List D → List D → Option (D × List D)) {r1 r2 : Int} {box1 box2 : List D} (hs : 10000000 < span) (hs2 : span < 2 ^ 300)
    (e1 : Fr [.int 0, .int b, .int c] [.int 10000000] = some (.int r1, box1)) (e2 : Fr box1 [.int ((span - 1) / 10000000 + 1)] = some (.int r2, box2)) :
    callB 2 4 (g__law_take Fr) [.int 0, .int b, .int c] [.int span] = some (.int ((r1 + 10000000 * r2) % span), box2) := by
  have d1 : decide ((0:Int) < 0) = false := rfl
  have d2 : decide ((10000000:Int) < span) = true := decide_eq_true hs
  have m1 : fdivD (.int (span - 1)) (.int 10000000) = some (.int ((span - 1) / 10000000)) := fdivD_int (by omega) (by omega)
  have m2 : mulV (.int 10000000) (.int r2) = some (.int (10000000 * r2)) := cmul_l (by omega)
  have m3 : modD (.int (r1 + 10000000 * r2)) (.int span) = some (.int ((r1 + 10000000 * r2) % span)) := modD_int (by omega)
  unfold callB g__law_take envB
  walk_at "evh"
def spB : Nat → Int
  | 0 => 10000000
  | k + 1 => spB k * 10000000
theorem spB_lt : ∀ k : Nat, k ≤ 7 → spB k < 2 ^ 300
  | 0, _ => by decide
  | 1, _ => by decide
  | 2, _ => by decide
  | 3, _ => by decide
  | 4, _ => by decide
  | 5, _ => by decide
  | 6, _ => by decide
  | 7, _ => by decide
  | k + 8, h => by omega
theorem spB_ge : ∀ k : Nat, 10000000 ≤ spB k
  | 0 => by decide
  | k + 1 => by
    have := spB_ge k
    show 10000000 ≤ spB k * 10000000
    omega
theorem take_spec : ∀ (k : Nat) {span n : Int} {box : List D}, GoodBox n box → n + k < 2 ^ 40 → 0 < span → span ≤ spB k → k ≤ 7 → ∃ r box', F__law_take (k + 1) box [.int span] = some (.int r, box') ∧ 0 ≤ r ∧ r < span ∧ GoodBox (n + k + 1) box'
  | 0, span, n, box, hb, hn, hs, hs2, hk => by
    obtain ⟨r, box', e, r1, r2, g⟩ := take_small 0 hb (by omega) hs hs2
    exact ⟨r, box', e, r1, r2, g.mono (by omega)⟩
  | k + 1, span, n, box, hb, hn, hs, hs2, hk => by
    by_cases hsm : span ≤ 10000000
    · obtain ⟨r, box', e, r1, r2, g⟩ := take_small (k + 1) hb (by omega) hs hsm
      exact ⟨r, box', e, r1, r2, g.mono (by omega)⟩
    · have hlt : span < 2 ^ 300 := by
        have := spB_lt (k + 1) hk
        omega
      obtain ⟨a, b, c, rfl, h1, h2, h3, h4, h5⟩ := id hb
      by_cases ha : 0 < a
      · refine ⟨_, _, take1 _ ha hs hlt, Int.emod_nonneg _ (by omega), Int.emod_lt_of_pos _ hs, _, _, _, rfl, ?_, h2, h3, h4, by omega⟩
        exact Int.ediv_nonneg h1 (by omega)
      · have e : a = 0 := by omega
        subst e
        have hX : span ≤ spB k * 10000000 := hs2
        obtain ⟨r1, box1, e1, q1, q2, g1⟩ := take_small k (span := 10000000) hb (by omega) (by omega) (by omega)
        obtain ⟨r2, box2, e2, q3, q4, g2⟩ := take_spec k (span := (span - 1) / 10000000 + 1) g1 (by omega) (by omega) (by omega) (by omega)
        exact ⟨_, _, take3 (F__law_take (k + 1)) (by omega) hlt e1 e2, Int.emod_nonneg _ (by omega), Int.emod_lt_of_pos _ hs, g2.mono (by omega)⟩
/-- the draw that the law's defs use -/
theorem take8 {span n : Int} {box : List D} (hb : GoodBox n box) (hn : n < 2 ^ 39) (hs : 0 < span) (hs2 : span ≤ 10 ^ 50) : ∃ r box', F__law_take 8 box [.int span] = some (.int r, box') ∧ 0 ≤ r ∧ r < span ∧ GoodBox (n + 8) box' := by
  obtain ⟨r, box', e, r1, r2, g⟩ := take_spec 7 hb (by omega) hs (by
    have : (10:Int) ^ 50 ≤ spB 7 := by decide
    omega) (by omega)
  exact ⟨r, box', e, r1, r2, g.mono (by omega)⟩
theorem all_true : ∀ xs : List D, allD [.list (xs.map fun _ => PyData.bool true)] = some (.bool true) := fun xs => by
  have e : boolsOf (xs.map fun _ => PyData.bool true) = some (xs.map fun _ => true) := by
    rw [← boolsOf_map (xs.map fun _ => true), List.map_map]; rfl
  unfold allD
  dsimp only
  rw [e]
  show some (PyData.bool _) = _
  congr 2
  rw [List.all_map]
  exact List.all_eq_true.mpr fun _ _ => rfl
theorem same_refl : ∀ (n : Nat) {d : D}, Pl n d → F__law_same (n + 1) [d, d] = some (.bool true)
  | n, _, .none _ => by
    show callP 2 4 _ _ = _
    unfold callP g__law_same env0

    walk_at "evh"
  | n, _, .bool _ b => by
    show callP 2 4 _ _ = _
    unfold callP g__law_same env0
    walk_at "evh"
  | n, _, .int _ i => by
    show callP 2 4 _ _ = _
    unfold callP g__law_same env0
    walk_at "evh"
  | n, _, .str _ x => by
    show callP 2 4 _ _ = _
    unfold callP g__law_same env0
    have e : decide (x = x) = true := decide_eq_true rfl
    walk_at "evh"
  | n + 1, _, .list (xs := xs) hl h => by
    show callP 2 4 _ _ = _
    unfold callP g__law_same env0
    have hz : (zipD xs xs).length ≤ sizeLine := by rw [zipD_self, List.length_map]; exact hl
    have a := all_true xs
    have e : lcL [2, 3] (gT 2 (gsCons (gN 2) (gsCons (gN 3) gsNil))) gYes (ce__law_same_1 (F__law_same (n + 1))) (zipD xs xs) [.sh (.list xs), .sh (.list xs), .no, .no] = .ok (xs.map fun _ => PyData.bool true) [.sh (.list xs), .sh (.list xs), .no, .no] := by
      rw [zipD_self, lc_map (fun _ => PyData.bool true), List.map_map]
      · rfl
      · intro d hd
        obtain ⟨x, hx, rfl⟩ := List.mem_map.mp hd
        have ih := same_refl n (h x hx)
        refine ⟨[.sh (.list xs), .sh (.list xs), .sh x, .sh x], rfl, rfl, rfl, ?_⟩
        clear a hz
        unfold ce__law_same_1
        walk_at "evh"
    walk_at "evh"
  | n + 1, _, .tuple (xs := xs) hl h => by
    show callP 2 4 _ _ = _
    unfold callP g__law_same env0
    have hz : (zipD xs xs).length ≤ sizeLine := by rw [zipD_self, List.length_map]; exact hl
    have a := all_true xs
    have e : lcL [2, 3] (gT 2 (gsCons (gN 2) (gsCons (gN 3) gsNil))) gYes (ce__law_same_1 (F__law_same (n + 1))) (zipD xs xs) [.sh (.tuple xs), .sh (.tuple xs), .no, .no] = .ok (xs.map fun _ => PyData.bool true) [.sh (.tuple xs), .sh (.tuple xs), .no, .no] := by
      rw [zipD_self, lc_map (fun _ => PyData.bool true), List.map_map]
      · rfl
      · intro d hd
        obtain ⟨x, hx, rfl⟩ := List.mem_map.mp hd
        have ih := same_refl n (h x hx)
        refine ⟨[.sh (.tuple xs), .sh (.tuple xs), .sh x, .sh x], rfl, rfl, rfl, ?_⟩
        clear a hz
        unfold ce__law_same_1
        walk_at "evh"
    walk_at "evh"
end W

namespace W
open PySem L2 DL
local macro_rules | `(tactic| walk_at "ev") => `(tactic| simp only [eC, eV, oE, oV, eL, eT, aNil, aCons, eOp2, eOp1, eApp, tstE, eB, tNotG, tAndG, tOrG, eAndG, eOrG, eNotG, eIf, eSeq, eCall, eCallO, eCallB, eCallBF, eCallBX, sSeq, sNext, sRet, sRetF, sRetO, sRetN, sDrop, sIf, sSet, sSetO, sBreak, sCont, sBad, sPar, sPar3, fz, sFz, eCallW, idL, sApp, sPutIx, sAug, sFor, gN, gT, gsCons, gsNil, gYes, eLc, gSeq, nS, nF, Nw.sl, R.ok_bind, R.ok_map, R.lift_some, to_ok, toX_ok, toX_ex, bind_nx, bind_rt, bind_rf, bind_ex, bind_bk, bind_ct, at_ok, at_ex, res_val, map_ex, rbind_ex, Op.res, resA, valA, isOw, box0, Option.map_some, Option.bind_some, sHeardT, nlCons, nlNil, Nw.dat, mSet, eChain, eRg1, eRg2, eSl, pNo, pSo,
  List.getElem?_cons_zero, List.getElem?_cons_succ, List.set_cons_zero, List.set_cons_succ, List.length_cons, List.length_nil, if_true, if_false, Bool.false_eq_true, ite_true, ite_false, reduceIte,
  addU_int, subD_int, ltD_int, leD_int, gtD_int, geD_int, negD_int, absD_int, intD_bool, intD_int, lenD_list, lenD_tuple, lenD_scr, pow10_7, pow10_18, pow10_40, eqW_ints, neW_ints, eqW_strs, neW_strs, eqW_none, eqW_in, eqW_ni, ixD_list, ixD_tuple, ixD_scr, atI_3_0, atI_3_1, atI_3_2, ixN_3_0, ixN_3_1, ixN_3_2, wipeR, zip2D, skOf, isiD_n, isiD_b, isiD_i, isiD_s, isiD_l, isiD_t, isiTD_n, isiTD_b, isiTD_i, isiTD_s, isiTD_l, isiTD_t, isiAny, eCallX, eCallWX, xE, xIf, xL, xCb1, sSetX, sRetX, sDropX, sRaise, sTo, eMk, isX_n, sKeep, kt_ll, kt_lt, kt_ls, kt_li, kt_lb, kt_tl, kt_tt, kt_ts, kt_ti, kt_tb, kt_sl, kt_st, kt_ss, kt_si, kt_sb, kt_il, kt_it, kt_is, kt_ii, kt_ib, kt_bl, kt_bt, kt_bs, kt_bi, kt_bb, kt_nl, kt_nt, kt_ns, kt_ni, kt_nb, eqW_bools, neW_bools, isD_none, isNotD_none, isNoneD, isNone_e, List.map_cons, List.map_nil, List.replicate, List.append_nil, List.cons_append, List.nil_append, nc0, nc1, nc2, nc3, nc4, nc5, nc6, nc7, nc8, nc9, nc10, nc11, nc12, nc13, nc14, nc15, nc16, nc17, nc18, nc19, nc20, Nat.reduceAdd, Nat.reduceSub, ne_eq, decide_true, decide_false, not_true_eq_false, not_false_eq_true, reduceCtorEq, Bool.and_true, Bool.true_and, Bool.and_false, Bool.false_and, Bool.or_true, Bool.true_or, Bool.or_false, Bool.false_or, Bool.not_true, Bool.not_false])
local macro_rules | `(tactic| walk_at "evh") => `(tactic| simp only [eC, eV, oE, oV, eL, eT, aNil, aCons, eOp2, eOp1, eApp, tstE, eB, tNotG, tAndG, tOrG, eAndG, eOrG, eNotG, eIf, eSeq, eCall, eCallO, eCallB, eCallBF, eCallBX, sSeq, sNext, sRet, sRetF, sRetO, sRetN, sDrop, sIf, sSet, sSetO, sBreak, sCont, sBad, sPar, sPar3, fz, sFz, eCallW, idL, sApp, sPutIx, sAug, sFor, gN, gT, gsCons, gsNil, gYes, eLc, gSeq, nS, nF, Nw.sl, R.ok_bind, R.ok_map, R.lift_some, to_ok, toX_ok, toX_ex, bind_nx, bind_rt, bind_rf, bind_ex, bind_bk, bind_ct, at_ok, at_ex, res_val, map_ex, rbind_ex, Op.res, resA, valA, isOw, box0, Option.map_some, Option.bind_some, sHeardT, nlCons, nlNil, Nw.dat, mSet, eChain, eRg1, eRg2, eSl, pNo, pSo,
  List.getElem?_cons_zero, List.getElem?_cons_succ, List.set_cons_zero, List.set_cons_succ, List.length_cons, List.length_nil, if_true, if_false, Bool.false_eq_true, ite_true, ite_false, reduceIte,
  addU_int, subD_int, ltD_int, leD_int, gtD_int, geD_int, negD_int, absD_int, intD_bool, intD_int, lenD_list, lenD_tuple, lenD_scr, pow10_7, pow10_18, pow10_40, eqW_ints, neW_ints, eqW_strs, neW_strs, eqW_none, eqW_in, eqW_ni, ixD_list, ixD_tuple, ixD_scr, atI_3_0, atI_3_1, atI_3_2, ixN_3_0, ixN_3_1, ixN_3_2, wipeR, zip2D, skOf, isiD_n, isiD_b, isiD_i, isiD_s, isiD_l, isiD_t, isiTD_n, isiTD_b, isiTD_i, isiTD_s, isiTD_l, isiTD_t, isiAny, eCallX, eCallWX, xE, xIf, xL, xCb1, sSetX, sRetX, sDropX, sRaise, sTo, eMk, isX_n, sKeep, kt_ll, kt_lt, kt_ls, kt_li, kt_lb, kt_tl, kt_tt, kt_ts, kt_ti, kt_tb, kt_sl, kt_st, kt_ss, kt_si, kt_sb, kt_il, kt_it, kt_is, kt_ii, kt_ib, kt_bl, kt_bt, kt_bs, kt_bi, kt_bb, kt_nl, kt_nt, kt_ns, kt_ni, kt_nb, eqW_bools, neW_bools, isD_none, isNotD_none, isNoneD, isNone_e, List.map_cons, List.map_nil, List.replicate, List.append_nil, List.cons_append, List.nil_append, nc0, nc1, nc2, nc3, nc4, nc5, nc6, nc7, nc8, nc9, nc10, nc11, nc12, nc13, nc14, nc15, nc16, nc17, nc18, nc19, nc20, Nat.reduceAdd, Nat.reduceSub, ne_eq, decide_true, decide_false, not_true_eq_false, not_false_eq_true, reduceCtorEq, Bool.and_true, Bool.true_and, Bool.and_false, Bool.false_and, Bool.or_true, Bool.true_or, Bool.or_false, Bool.false_or, Bool.not_true, Bool.not_false, *])
/-- a row of ints, none beyond 10 ** 41 -/
def Row (ns : List Int) : Prop := ∀ x ∈ ns, x.natAbs ≤ 10 ^ 41
theorem addL_ints {xs : List D} {y : D} (h : xs.length < 1000) : addU (.list xs) (.list [y]) = some (.list (xs ++ [y])) := by
  have e : addL (.list xs) (.list [y]) = some (xs ++ [y]) := if_pos (by
    show xs.length + 1 ≤ sizeLine
    exact Nat.le_trans (by omega : xs.length + 1 ≤ 1000) (by decide))
  unfold addU
  rw [e]; rfl
theorem line_step {n : Int} {i : Nat} {box : List D} {most kd : D} {ns : List Int} {s4 : Sl} (hb : GoodBox n box) (hn : n < 2 ^ 38) (hl : ns.length < 900) (hr : Row ns) (k : Int) (ek : kd = .int k) :
    ∃ y box', gb__law_some_line_1
      [.ow box, .sh most, .sh kd, .sh (.list (ns.map .int)), .sh (.int (i : Int))] = .nx [.ow box', .sh most, .sh kd, .sh (.list ((ns ++ [y]).map .int)), .sh (.int (i : Int))] ∧ GoodBox (n + 8) box' ∧ Row (ns ++ [y]) := by
  subst ek
  unfold gb__law_some_line_1
  have row : ∀ {y : Int}, y.natAbs ≤ 10 ^ 41 → Row (ns ++ [y]) := fun {y} hy x hx => by
    rcases List.mem_append.mp hx with h | h
    · exact hr x h
    · rw [List.mem_singleton.mp h]; exact hy
  have ap : ∀ y : Int, addU (.list (ns.map .int)) (.list [.int y]) = some (.list ((ns ++ [y]).map .int)) := fun y => by
    rw [addL_ints (by rw [List.length_map]; omega), List.map_append]; rfl
  by_cases k0 : k = 0
  · obtain ⟨r, box', e, r1, r2, g⟩ := take8 (span := 6) hb (by omega) (by omega) (by omega)
    refine ⟨r - 2, box', ?_, g, row (by omega)⟩
    have d : decide (k = 0) = true := decide_eq_true k0
    have sz : (1 : Nat) ≤ sizeLine := by decide
    have ap := ap (r - 2)
    clear g hb row k0 r1 r2 hr hl hn
    walk_at "evh"
  · by_cases k1 : k = 1
    · obtain ⟨r, box', e, r1, r2, g⟩ := take8 (span := 7) hb (by omega) (by omega) (by omega)
      have m1 : modD (.int (i : Int)) (.int 2) = some (.int ((i : Int) % 2)) := modD_int (by omega)
      have m2 : mulV (.int 10) (.int ((i : Int) % 2)) = some (.int (10 * ((i : Int) % 2))) := cmul_l (by omega)
      refine ⟨10 * ((i : Int) % 2) + r - 5, box', ?_, g, row (by omega)⟩
      have d : decide (k = 0) = false := decide_eq_false k0
      have d1 : decide (k = 1) = true := decide_eq_true k1
      have sz : (1 : Nat) ≤ sizeLine := by decide
      have ap := ap (10 * ((i : Int) % 2) + r - 5)
      clear g hb row k0 k1 r1 r2 hr hl hn
      walk_at "evh"
    · obtain ⟨r, box', e, r1, r2, g⟩ := take8 (span := 2 * 10000000000000000000000000000000000000000 + 1) hb (by omega) (by omega) (by omega)
      have m2 : mulV (.int 2) (.int 10000000000000000000000000000000000000000) = some (.int (2 * 10000000000000000000000000000000000000000)) := cmul_l (by omega)
      refine ⟨r - 10000000000000000000000000000000000000000, box', ?_, g, row (by omega)⟩
      have d : decide (k = 0) = false := decide_eq_false k0
      have d1 : decide (k = 1) = false := decide_eq_false k1
      have sz : (1 : Nat) ≤ sizeLine := by decide
      have ap := ap (r - 10000000000000000000000000000000000000000)
      clear g hb row k0 k1 r1 r2 hr hl hn
      walk_at "evh"
theorem some_line_eq {n : Int} {box : List D} (most : Nat) (hm : most ≤ 800) (hb : GoodBox n box) (hn : n < 2 ^ 37) : ∃ ns box', F__law_some_line box [.int (most : Int)] = some (.tuple (ns.map .int), box') ∧ ns.length ≤ most ∧ Row ns ∧ GoodBox (n + 16 + 8 * most) box' := by
  obtain ⟨k, box1, e1, k1, k2, g1⟩ := take8 (span := 3) hb (by omega) (by omega) (by omega)
  obtain ⟨m, box2, e2, m1, m2, g2⟩ := take8 (span := (most : Int) + 1) g1 (by omega) (by omega) (by omega)
  have rg := rng1_eq m1 (by omega)
  obtain ⟨ρ', e3, box3, ns, s4, rfl, g3, hl, hr⟩ := for_inv (k := gN 4) (b := gb__law_some_line_1) (ds := rangeD 0 m.toNat)
    (fun i ρ => ∃ box ns s4, ρ = [.ow box, .sh (.int (most : Int)), .sh (.int k), .sh (.list (ns.map .int)), s4] ∧ GoodBox (n + 16 + 8 * i) box ∧ ns.length = i ∧ Row ns)
    (fun i d ρ hd h => by
      obtain ⟨rfl, hi⟩ := rangeD_at hd
      obtain ⟨box, ns, s4, rfl, g, hl, hr⟩ := h
      obtain ⟨y, box', e, g', hr'⟩ := line_step (i := i) (most := .int (most : Int)) (s4 := s4) g (by omega) (by omega) hr k rfl
      exact ⟨_, rfl, _, .inl e, box', ns ++ [y], _, rfl, g'.mono (by omega), by rw [List.length_append, hl]; rfl, hr'⟩)
    (ρ := [.ow box2, .sh (.int (most : Int)), .sh (.int k), .sh (.list []), .no]) ⟨box2, [], .no, rfl, g2.mono (by omega), rfl, fun x hx => nomatch hx⟩
  rw [rangeD_len] at hl g3
  refine ⟨ns, box3, ?_, by omega, hr, g3.mono (by omega)⟩
  have t : tupleD [.list (ns.map .int)] = some (.tuple (ns.map .int)) := rfl
  have sz : (0 : Nat) ≤ sizeLine := by decide
  clear g3 g2 g1 hb hr hl
  unfold F__law_some_line callB g__law_some_line envB
  walk_at "evh"
theorem box_eq {ns : List Int} {k : Nat} (hk : k ≤ 100) : ∃ box, F__law_box [.dict [(.list (ns.map .int), .none)], .int (k : Int)] = some box ∧ GoodBox 0 box := by
  have m1 := fun c : Int => modD_int (i := c) (j := 2147483629) (by omega)
  have m2 : mulV (.int 7919) (.int (k : Int)) = some (.int (7919 * (k : Int))) := cmul_l (by omega)
  have m3 : ∀ c : Int, mulV (.int (if c < 0 then -c else c)) (.int (if decide (1000000000000000000 ≤ if c < 0 then -c else c) = true then 1 else 0)) = some (.int ((if c < 0 then -c else c) * (if decide (1000000000000000000 ≤ if c < 0 then -c else c) = true then 1 else 0))) := fun c =>
    cmul_r (by
      generalize (decide (1000000000000000000 ≤ if c < 0 then -c else c)) = b
      cases b <;> decide)
  have sz : (3 : Nat) ≤ sizeLine := by decide
  have good : ∀ c : Int, GoodBox 0 [.int ((if c < 0 then -c else c) * (if decide (1000000000000000000 ≤ if c < 0 then -c else c) = true then 1 else 0)), .int (c % 2147483629 + 7919 * (k : Int) + 65), .int 0] := by
    intro c
    refine ⟨_, _, _, rfl, ?_, by omega, by omega, by omega, by omega⟩
    exact Int.mul_nonneg (by split <;> omega) (by split <;> omega)
  by_cases hi : k < ns.length
  · refine ⟨_, ?_, good ns[k]⟩
    have ix : atI (ns.map PyData.int) (k : Int) = some (.int ns[k]) := atI_nat (by rw [List.getElem?_map, List.getElem?_eq_getElem hi]; rfl)
    have d : decide ((k : Int) < ((ns.map PyData.int).length : Int)) = true := decide_eq_true (by rw [List.length_map]; omega)
    have m3 := m3 ns[k]
    have m1 := m1 ns[k]
    clear good hk
    unfold F__law_box callF g__law_box env0
    walk_at "evh"
  · refine ⟨_, ?_, good 0⟩
    have d : decide ((k : Int) < ((ns.map PyData.int).length : Int)) = false := decide_eq_false (by rw [List.length_map]; omega)
    have m3 := m3 0
    have m1 := m1 0
    clear good hk hi
    unfold F__law_box callF g__law_box env0
    walk_at "evh"
end W

namespace W
open PySem L2 DL
local macro_rules | `(tactic| walk_at "ev") => `(tactic| simp only [eC, eV, oE, oV, eL, eT, aNil, aCons, eOp2, eOp1, eApp, tstE, eB, tNotG, tAndG, tOrG, eAndG, eOrG, eNotG, eIf, eSeq, eCall, eCallO, eCallB, eCallBF, eCallBX, sSeq, sNext, sRet, sRetF, sRetO, sRetN, sDrop, sIf, sSet, sSetO, sBreak, sCont, sBad, sPar, sPar3, fz, sFz, eCallW, idL, sApp, sPutIx, sAug, sFor, gN, gT, gsCons, gsNil, gYes, eLc, gSeq, nS, nF, Nw.sl, R.ok_bind, R.ok_map, R.lift_some, to_ok, toX_ok, toX_ex, bind_nx, bind_rt, bind_rf, bind_ex, bind_bk, bind_ct, at_ok, at_ex, res_val, map_ex, rbind_ex, Op.res, resA, valA, isOw, box0, Option.map_some, Option.bind_some, sHeardT, nlCons, nlNil, Nw.dat, mSet, eChain, eRg1, eRg2, eSl, pNo, pSo,
  List.getElem?_cons_zero, List.getElem?_cons_succ, List.set_cons_zero, List.set_cons_succ, List.length_cons, List.length_nil, if_true, if_false, Bool.false_eq_true, ite_true, ite_false, reduceIte,
  addU_int, subD_int, ltD_int, leD_int, gtD_int, geD_int, negD_int, absD_int, intD_bool, intD_int, lenD_list, lenD_tuple, lenD_scr, pow10_7, pow10_18, pow10_40, eqW_ints, neW_ints, eqW_strs, neW_strs, eqW_none, eqW_in, eqW_ni, ixD_list, ixD_tuple, ixD_scr, atI_3_0, atI_3_1, atI_3_2, ixN_3_0, ixN_3_1, ixN_3_2, wipeR, zip2D, skOf, isiD_n, isiD_b, isiD_i, isiD_s, isiD_l, isiD_t, isiTD_n, isiTD_b, isiTD_i, isiTD_s, isiTD_l, isiTD_t, isiAny, eCallX, eCallWX, xE, xIf, xL, xCb1, sSetX, sRetX, sDropX, sRaise, sTo, eMk, isX_n, sKeep, kt_ll, kt_lt, kt_ls, kt_li, kt_lb, kt_tl, kt_tt, kt_ts, kt_ti, kt_tb, kt_sl, kt_st, kt_ss, kt_si, kt_sb, kt_il, kt_it, kt_is, kt_ii, kt_ib, kt_bl, kt_bt, kt_bs, kt_bi, kt_bb, kt_nl, kt_nt, kt_ns, kt_ni, kt_nb, eqW_bools, neW_bools, isD_none, isNotD_none, isNoneD, isNone_e, List.map_cons, List.map_nil, List.replicate, List.append_nil, List.cons_append, List.nil_append, nc0, nc1, nc2, nc3, nc4, nc5, nc6, nc7, nc8, nc9, nc10, nc11, nc12, nc13, nc14, nc15, nc16, nc17, nc18, nc19, nc20, Nat.reduceAdd, Nat.reduceSub, ne_eq, decide_true, decide_false, not_true_eq_false, not_false_eq_true, reduceCtorEq, Bool.and_true, Bool.true_and, Bool.and_false, Bool.false_and, Bool.or_true, Bool.true_or, Bool.or_false, Bool.false_or, Bool.not_true, Bool.not_false])
local macro_rules | `(tactic| walk_at "evh") => `(tactic| simp only [eC, eV, oE, oV, eL, eT, aNil, aCons, eOp2, eOp1, eApp, tstE, eB, tNotG, tAndG, tOrG, eAndG, eOrG, eNotG, eIf, eSeq, eCall, eCallO, eCallB, eCallBF, eCallBX, sSeq, sNext, sRet, sRetF, sRetO, sRetN, sDrop, sIf, sSet, sSetO, sBreak, sCont, sBad, sPar, sPar3, fz, sFz, eCallW, idL, sApp, sPutIx, sAug, sFor, gN, gT, gsCons, gsNil, gYes, eLc, gSeq, nS, nF, Nw.sl, R.ok_bind, R.ok_map, R.lift_some, to_ok, toX_ok, toX_ex, bind_nx, bind_rt, bind_rf, bind_ex, bind_bk, bind_ct, at_ok, at_ex, res_val, map_ex, rbind_ex, Op.res, resA, valA, isOw, box0, Option.map_some, Option.bind_some, sHeardT, nlCons, nlNil, Nw.dat, mSet, eChain, eRg1, eRg2, eSl, pNo, pSo,
  List.getElem?_cons_zero, List.getElem?_cons_succ, List.set_cons_zero, List.set_cons_succ, List.length_cons, List.length_nil, if_true, if_false, Bool.false_eq_true, ite_true, ite_false, reduceIte,
  addU_int, subD_int, ltD_int, leD_int, gtD_int, geD_int, negD_int, absD_int, intD_bool, intD_int, lenD_list, lenD_tuple, lenD_scr, pow10_7, pow10_18, pow10_40, eqW_ints, neW_ints, eqW_strs, neW_strs, eqW_none, eqW_in, eqW_ni, ixD_list, ixD_tuple, ixD_scr, atI_3_0, atI_3_1, atI_3_2, ixN_3_0, ixN_3_1, ixN_3_2, wipeR, zip2D, skOf, isiD_n, isiD_b, isiD_i, isiD_s, isiD_l, isiD_t, isiTD_n, isiTD_b, isiTD_i, isiTD_s, isiTD_l, isiTD_t, isiAny, eCallX, eCallWX, xE, xIf, xL, xCb1, sSetX, sRetX, sDropX, sRaise, sTo, eMk, isX_n, sKeep, kt_ll, kt_lt, kt_ls, kt_li, kt_lb, kt_tl, kt_tt, kt_ts, kt_ti, kt_tb, kt_sl, kt_st, kt_ss, kt_si, kt_sb, kt_il, kt_it, kt_is, kt_ii, kt_ib, kt_bl, kt_bt, kt_bs, kt_bi, kt_bb, kt_nl, kt_nt, kt_ns, kt_ni, kt_nb, eqW_bools, neW_bools, isD_none, isNotD_none, isNoneD, isNone_e, List.map_cons, List.map_nil, List.replicate, List.append_nil, List.cons_append, List.nil_append, nc0, nc1, nc2, nc3, nc4, nc5, nc6, nc7, nc8, nc9, nc10, nc11, nc12, nc13, nc14, nc15, nc16, nc17, nc18, nc19, nc20, Nat.reduceAdd, Nat.reduceSub, ne_eq, decide_true, decide_false, not_true_eq_false, not_false_eq_true, reduceCtorEq, Bool.and_true, Bool.true_and, Bool.and_false, Bool.false_and, Bool.or_true, Bool.true_or, Bool.or_false, Bool.false_or, Bool.not_true, Bool.not_false, *])
def inn (ns : List Int) : List Int := rngI 1 (ns.length - 2)
theorem mem_inn {ns : List Int} {i : Int} (h : i ∈ inn ns) : 1 ≤ i ∧ i + 1 < ns.length := by
  have := mem_rngI h
  omega
def isTop (ns : List Int) (i : Int) : Bool := decide (nat ns (i - 1) < nat ns i) && decide (nat ns (i + 1) < nat ns i)
def isDip (ns : List Int) (i : Int) : Bool := decide (nat ns i < nat ns (i - 1)) && decide (nat ns i < nat ns (i + 1))
theorem inner_eq {r : D} {ns : List Int} (hr : Sq r (ns.map .int)) (hl : ns.length ≤ 1000) : F_inner [r] = some ((inn ns).map .int) := by
  have e : rg2 (.int 1) (.int (((ns.map PyData.int).length : Int) - 1)) = some ((inn ns).map .int) := by
    unfold rg2
    dsimp only
    rw [if_pos (by rw [List.length_map]; omega), rngI_d]
    unfold inn
    rw [List.length_map, show ((ns.length : Int) - 1 - 1).toNat = ns.length - 2 by omega]
  clear hl
  unfold F_inner callF g_inner env0
  rcases hr with rfl | rfl <;> walk_at "evh"
theorem len_inn {ns : List Int} (hl : ns.length ≤ 1000) : ((inn ns).map PyData.int).length ≤ sizeLine := by
  rw [List.length_map]
  unfold inn
  rw [rngI_len]
  exact Nat.le_trans (by omega : ns.length - 2 ≤ 1000) (by decide)
theorem tops_lc {r : D} {ns : List Int} (hr : Sq r (ns.map .int)) : lcL [1] (gN 1) ct_tops_1 ce_tops_2 ((inn ns).map .int) [.sh r, .no] = .ok (((inn ns).filter (isTop ns)).map .int) [.sh r, .no] := by
  refine lc_filter _ fun i hi => ⟨[.sh r, .sh (.int i)], rfl, rfl, ?_, rfl⟩
  obtain ⟨h1, h2⟩ := mem_inn hi
  have a1 := atI_at (ns := ns) (i := i - 1) (by omega) (by omega)
  have a2 := atI_at (ns := ns) (i := i) (by omega) (by omega)
  have a3 := atI_at (ns := ns) (i := i + 1) (by omega) (by omega)
  clear hi h1 h2
  unfold ct_tops_1 isTop
  cases d1 : decide (nat ns (i - 1) < nat ns i) <;> cases d2 : decide (nat ns (i + 1) < nat ns i) <;> rcases hr with rfl | rfl <;> walk_at "evh"
theorem dips_lc {r : D} {ns : List Int} (hr : Sq r (ns.map .int)) : lcL [1] (gN 1) ct_dips_1 ce_dips_2 ((inn ns).map .int) [.sh r, .no] = .ok (((inn ns).filter (isDip ns)).map .int) [.sh r, .no] := by
  refine lc_filter _ fun i hi => ⟨[.sh r, .sh (.int i)], rfl, rfl, ?_, rfl⟩
  obtain ⟨h1, h2⟩ := mem_inn hi
  have a1 := atI_at (ns := ns) (i := i - 1) (by omega) (by omega)
  have a2 := atI_at (ns := ns) (i := i) (by omega) (by omega)
  have a3 := atI_at (ns := ns) (i := i + 1) (by omega) (by omega)
  clear hi h1 h2
  unfold ct_dips_1 isDip
  cases d1 : decide (nat ns i < nat ns (i - 1)) <;> cases d2 : decide (nat ns i < nat ns (i + 1)) <;> rcases hr with rfl | rfl <;> walk_at "evh"
def topsL (ns : List Int) : List Int := (inn ns).filter (isTop ns)
def dipsL (ns : List Int) : List Int := (inn ns).filter (isDip ns)
theorem tops_eq {r : D} {ns : List Int} (hr : Sq r (ns.map .int)) (hl : ns.length ≤ 1000) : F_tops [r] = some ((topsL ns).map .int) := by
  have e1 := inner_eq hr hl
  have e2 := tops_lc hr
  have e3 := len_inn hl
  have it : itemsD (.list ((inn ns).map .int)) = some ((inn ns).map .int) := rfl
  clear hl hr
  unfold F_tops callF g_tops env0 topsL
  walk_at "evh"
theorem dips_eq {r : D} {ns : List Int} (hr : Sq r (ns.map .int)) (hl : ns.length ≤ 1000) : F_dips [r] = some ((dipsL ns).map .int) := by
  have e1 := inner_eq hr hl
  have e2 := dips_lc hr
  have e3 := len_inn hl
  have it : itemsD (.list ((inn ns).map .int)) = some ((inn ns).map .int) := rfl
  clear hl hr
  unfold F_dips callF g_dips env0 dipsL
  walk_at "evh"
end W

namespace W
open PySem L2 DL
local macro_rules | `(tactic| walk_at "ev") => `(tactic| simp only [eC, eV, oE, oV, eL, eT, aNil, aCons, eOp2, eOp1, eApp, tstE, eB, tNotG, tAndG, tOrG, eAndG, eOrG, eNotG, eIf, eSeq, eCall, eCallO, eCallB, eCallBF, eCallBX, sSeq, sNext, sRet, sRetF, sRetO, sRetN, sDrop, sIf, sSet, sSetO, sBreak, sCont, sBad, sPar, sPar3, fz, sFz, eCallW, idL, sApp, sPutIx, sAug, sFor, gN, gT, gsCons, gsNil, gYes, eLc, gSeq, nS, nF, Nw.sl, R.ok_bind, R.ok_map, R.lift_some, to_ok, toX_ok, toX_ex, bind_nx, bind_rt, bind_rf, bind_ex, bind_bk, bind_ct, at_ok, at_ex, res_val, map_ex, rbind_ex, Op.res, resA, valA, isOw, box0, Option.map_some, Option.bind_some, sHeardT, nlCons, nlNil, Nw.dat, mSet, eChain, eRg1, eRg2, eSl, pNo, pSo,
  List.getElem?_cons_zero, List.getElem?_cons_succ, List.set_cons_zero, List.set_cons_succ, List.length_cons, List.length_nil, if_true, if_false, Bool.false_eq_true, ite_true, ite_false, reduceIte,
  addU_int, subD_int, ltD_int, leD_int, gtD_int, geD_int, negD_int, absD_int, intD_bool, intD_int, lenD_list, lenD_tuple, lenD_scr, pow10_7, pow10_18, pow10_40, eqW_ints, neW_ints, eqW_strs, neW_strs, eqW_none, eqW_in, eqW_ni, ixD_list, ixD_tuple, ixD_scr, atI_3_0, atI_3_1, atI_3_2, ixN_3_0, ixN_3_1, ixN_3_2, wipeR, zip2D, skOf, isiD_n, isiD_b, isiD_i, isiD_s, isiD_l, isiD_t, isiTD_n, isiTD_b, isiTD_i, isiTD_s, isiTD_l, isiTD_t, isiAny, eCallX, eCallWX, xE, xIf, xL, xCb1, sSetX, sRetX, sDropX, sRaise, sTo, eMk, isX_n, sKeep, kt_ll, kt_lt, kt_ls, kt_li, kt_lb, kt_tl, kt_tt, kt_ts, kt_ti, kt_tb, kt_sl, kt_st, kt_ss, kt_si, kt_sb, kt_il, kt_it, kt_is, kt_ii, kt_ib, kt_bl, kt_bt, kt_bs, kt_bi, kt_bb, kt_nl, kt_nt, kt_ns, kt_ni, kt_nb, eqW_bools, neW_bools, isD_none, isNotD_none, isNoneD, isNone_e, List.map_cons, List.map_nil, List.replicate, List.append_nil, List.cons_append, List.nil_append, nc0, nc1, nc2, nc3, nc4, nc5, nc6, nc7, nc8, nc9, nc10, nc11, nc12, nc13, nc14, nc15, nc16, nc17, nc18, nc19, nc20, Nat.reduceAdd, Nat.reduceSub, ne_eq, decide_true, decide_false, not_true_eq_false, not_false_eq_true, reduceCtorEq, Bool.and_true, Bool.true_and, Bool.and_false, Bool.false_and, Bool.or_true, Bool.true_or, Bool.or_false, Bool.false_or, Bool.not_true, Bool.not_false])
local macro_rules | `(tactic| walk_at "evh") => `(tactic| simp only [eC, eV, oE, oV, eL, eT, aNil, aCons, eOp2, eOp1, eApp, tstE, eB, tNotG, tAndG, tOrG, eAndG, eOrG, eNotG, eIf, eSeq, eCall, eCallO, eCallB, eCallBF, eCallBX, sSeq, sNext, sRet, sRetF, sRetO, sRetN, sDrop, sIf, sSet, sSetO, sBreak, sCont, sBad, sPar, sPar3, fz, sFz, eCallW, idL, sApp, sPutIx, sAug, sFor, gN, gT, gsCons, gsNil, gYes, eLc, gSeq, nS, nF, Nw.sl, R.ok_bind, R.ok_map, R.lift_some, to_ok, toX_ok, toX_ex, bind_nx, bind_rt, bind_rf, bind_ex, bind_bk, bind_ct, at_ok, at_ex, res_val, map_ex, rbind_ex, Op.res, resA, valA, isOw, box0, Option.map_some, Option.bind_some, sHeardT, nlCons, nlNil, Nw.dat, mSet, eChain, eRg1, eRg2, eSl, pNo, pSo,
  List.getElem?_cons_zero, List.getElem?_cons_succ, List.set_cons_zero, List.set_cons_succ, List.length_cons, List.length_nil, if_true, if_false, Bool.false_eq_true, ite_true, ite_false, reduceIte,
  addU_int, subD_int, ltD_int, leD_int, gtD_int, geD_int, negD_int, absD_int, intD_bool, intD_int, lenD_list, lenD_tuple, lenD_scr, pow10_7, pow10_18, pow10_40, eqW_ints, neW_ints, eqW_strs, neW_strs, eqW_none, eqW_in, eqW_ni, ixD_list, ixD_tuple, ixD_scr, atI_3_0, atI_3_1, atI_3_2, ixN_3_0, ixN_3_1, ixN_3_2, wipeR, zip2D, skOf, isiD_n, isiD_b, isiD_i, isiD_s, isiD_l, isiD_t, isiTD_n, isiTD_b, isiTD_i, isiTD_s, isiTD_l, isiTD_t, isiAny, eCallX, eCallWX, xE, xIf, xL, xCb1, sSetX, sRetX, sDropX, sRaise, sTo, eMk, isX_n, sKeep, kt_ll, kt_lt, kt_ls, kt_li, kt_lb, kt_tl, kt_tt, kt_ts, kt_ti, kt_tb, kt_sl, kt_st, kt_ss, kt_si, kt_sb, kt_il, kt_it, kt_is, kt_ii, kt_ib, kt_bl, kt_bt, kt_bs, kt_bi, kt_bb, kt_nl, kt_nt, kt_ns, kt_ni, kt_nb, eqW_bools, neW_bools, isD_none, isNotD_none, isNoneD, isNone_e, List.map_cons, List.map_nil, List.replicate, List.append_nil, List.cons_append, List.nil_append, nc0, nc1, nc2, nc3, nc4, nc5, nc6, nc7, nc8, nc9, nc10, nc11, nc12, nc13, nc14, nc15, nc16, nc17, nc18, nc19, nc20, Nat.reduceAdd, Nat.reduceSub, ne_eq, decide_true, decide_false, not_true_eq_false, not_false_eq_true, reduceCtorEq, Bool.and_true, Bool.true_and, Bool.and_false, Bool.false_and, Bool.or_true, Bool.true_or, Bool.or_false, Bool.false_or, Bool.not_true, Bool.not_false, *])
/-! states, person by person -/
theorem notInD_t (i : Int) (ns : List Int) : notInD (.int i) (.tuple (ns.map .int)) = some (.bool (!decide (i ∈ ns))) := notInD_l i ns
theorem part_a {r : D} {p l m n x c : Int} {ch w calm : Bool} {s11 : Sl} (st k1 k2 k3 : Bool) (x1 : ixD r (.int (p - 1)) = some (.int l)) (x2 : ixD r (.int p) = some (.int m)) (h1 : decide (l = m) = k1) (h2 : decide (l < m) = k2) (h3 : decide (n < x) = k3) (hb : (!st || (k1 || !decide (k2 = k3))) = true) :
    (sIf (tOrG (tNotG (tstE (eV 6))) (tOrG (tstE (eOp2 eqW (oE (eOp2 ixD (oE (eV 0)) (oE (eOp2 subD (oE (eV 1)) (oE (eC (.int 1))))))) (oE (eOp2 ixD (oE (eV 0)) (oE (eV 1)))))) (tstE (eOp2 neW (oE (eOp2 ltD (oE (eOp2 ixD (oE (eV 0)) (oE (eOp2 subD (oE (eV 1)) (oE (eC (.int 1))))))) (oE (eOp2 ixD (oE (eV 0)) (oE (eV 1)))))) (oE (eOp2 ltD (oE (eV 5)) (oE (eV 9)))))))) (sRet (eC .none))
    sNext) [.sh r, .sh (.int p), .sh (.tuple [.int n, .bool st, .int c, .bool w]), .sh (.tuple [.int x, .bool ch]), .sh (.bool calm), .sh (.int n), .sh (.bool st), .sh (.int c), .sh (.bool w), .sh (.int x), .sh (.bool ch), s11] = .rt .none [.sh r, .sh (.int p), .sh (.tuple [.int n, .bool st, .int c, .bool w]), .sh (.tuple [.int x, .bool ch]), .sh (.bool calm), .sh (.int n), .sh (.bool st), .sh (.int c), .sh (.bool w), .sh (.int x), .sh (.bool ch), s11] := by
  cases st with
  | false => clear hb; walk_at "evh"
  | true =>
    cases k1 with
    | true => clear hb; walk_at "evh"
    | false =>
      have hb : decide (k2 = k3) = false := by simpa using hb
      walk_at "evh"
theorem part_b {r : D} {p l m n x c : Int} {ch w calm : Bool} {s11 : Sl} (k2 k3 : Bool) (x1 : ixD r (.int (p - 1)) = some (.int l)) (x2 : ixD r (.int p) = some (.int m)) (h1 : decide (l = m) = false) (h2 : decide (l < m) = k2) (h3 : decide (n < x) = k3) (hb : decide (k2 = k3) = true) :
    (sIf (tOrG (tNotG (tstE (eV 6))) (tOrG (tstE (eOp2 eqW (oE (eOp2 ixD (oE (eV 0)) (oE (eOp2 subD (oE (eV 1)) (oE (eC (.int 1))))))) (oE (eOp2 ixD (oE (eV 0)) (oE (eV 1)))))) (tstE (eOp2 neW (oE (eOp2 ltD (oE (eOp2 ixD (oE (eV 0)) (oE (eOp2 subD (oE (eV 1)) (oE (eC (.int 1))))))) (oE (eOp2 ixD (oE (eV 0)) (oE (eV 1)))))) (oE (eOp2 ltD (oE (eV 5)) (oE (eV 9)))))))) (sRet (eC .none))
    sNext) [.sh r, .sh (.int p), .sh (.tuple [.int n, .bool true, .int c, .bool w]), .sh (.tuple [.int x, .bool ch]), .sh (.bool calm), .sh (.int n), .sh (.bool true), .sh (.int c), .sh (.bool w), .sh (.int x), .sh (.bool ch), s11] = .nx [.sh r, .sh (.int p), .sh (.tuple [.int n, .bool true, .int c, .bool w]), .sh (.tuple [.int x, .bool ch]), .sh (.bool calm), .sh (.int n), .sh (.bool true), .sh (.int c), .sh (.bool w), .sh (.int x), .sh (.bool ch), s11] := by
  walk_at "evh"
theorem part_c {s0 s1 s2 s3 s4 s6 s7 s8 s10 s11 : Sl} {n x : Int} (k3 : Bool) (h3 : decide (n < x) = k3) :
    (sSet 11 (eIf (tstE (eOp2 ltD (oE (eV 5)) (oE (eV 9)))) (eC (.int 1)) (eOp1 negD (oE (eC (.int 1)))))) [s0, s1, s2, s3, s4, .sh (.int n), s6, s7, s8, .sh (.int x), s10, s11] = .nx [s0, s1, s2, s3, s4, .sh (.int n), s6, s7, s8, .sh (.int x), s10, .sh (.int (if k3 = true then 1 else -1))] := by
  cases k3 <;> walk_at "evh"
theorem part_d {s0 s1 s2 s3 s5 s6 s9 s10 : Sl} {c t : Int} (calm w k4 : Bool) (h4 : notInD (.int c) (.tuple [.int 0, .int t]) = some (.bool k4)) (z : 2 ≤ sizeLine) :
    (sIf (tAndG (tstE (eV 4)) (tAndG (tNotG (tstE (eV 8))) (tstE (eOp2 notInD (oE (eV 7)) (oE (eT (eSeq (aCons (oE (eC (.int 0))) (aCons (oE (eV 11)) aNil))))))))) (sRet (eC .none))
    sNext) [s0, s1, s2, s3, .sh (.bool calm), s5, s6, .sh (.int c), .sh (.bool w), s9, s10, .sh (.int t)] = if (calm && (!w && k4)) = true then .rt .none [s0, s1, s2, s3, .sh (.bool calm), s5, s6, .sh (.int c), .sh (.bool w), s9, s10, .sh (.int t)] else .nx [s0, s1, s2, s3, .sh (.bool calm), s5, s6, .sh (.int c), .sh (.bool w), s9, s10, .sh (.int t)] := by
  cases calm with
  | false => clear h4; walk_at "evh"
  | true =>
    cases w with
    | true => clear h4; walk_at "evh"
    | false => cases k4 <;> walk_at "evh"
theorem part_e {s0 s1 s2 s3 s5 s6 s7 s8 : Sl} {x t : Int} {ch : Bool} (calm : Bool) (z : 4 ≤ sizeLine) :
    (sRet (eT (eSeq (aCons (oE (eV 9)) (aCons (oE (eNotG (eV 10))) (aCons (oE (eIf (tstE (eV 4)) (eV 11) (eC (.int 0)))) (aCons (oE (eC (.bool false))) aNil))))))) [s0, s1, s2, s3, .sh (.bool calm), s5, s6, s7, s8, .sh (.int x), .sh (.bool ch), .sh (.int t)] = .rt (.tuple [.int x, .bool (!ch), .int (if calm = true then t else 0), .bool false]) [s0, s1, s2, s3, .sh (.bool calm), s5, s6, s7, s8, .sh (.int x), .sh (.bool ch), .sh (.int t)] := by
  cases calm <;> walk_at "ev" <;> rw [if_pos z] <;> rfl
theorem part_0 {r : D} {p n x c : Int} {st ch w calm : Bool} {s5 s6 s7 s8 s9 s10 s11 : Sl} (z : 2 ≤ sizeLine) :
    (sTo (eT (eSeq (aCons (oE (eV 2)) (aCons (oE (eV 3)) aNil)))) (gT 2 (gsCons (gT 4 (gsCons (gN 5) (gsCons (gN 6) (gsCons (gN 7) (gsCons (gN 8) gsNil))))) (gsCons (gT 2 (gsCons (gN 9) (gsCons (gN 10) gsNil))) gsNil)))) [.sh r, .sh (.int p), .sh (.tuple [.int n, .bool st, .int c, .bool w]), .sh (.tuple [.int x, .bool ch]), .sh (.bool calm), s5, s6, s7, s8, s9, s10, s11] = .nx [.sh r, .sh (.int p), .sh (.tuple [.int n, .bool st, .int c, .bool w]), .sh (.tuple [.int x, .bool ch]), .sh (.bool calm), .sh (.int n), .sh (.bool st), .sh (.int c), .sh (.bool w), .sh (.int x), .sh (.bool ch), s11] := by
  walk_at "evh"
theorem parted_eq {r : D} {a : List Int} {p : Int} {s : Sta} {o : Opt} {calm : Bool} (hr : Sq r (a.map .int)) (h0 : 1 ≤ p) (h1 : p < a.length) : F_parted [r, .int p, stD (some s), opt2D o, .bool calm] = some (stD (partN a p s o calm)) := by
  obtain ⟨n, st, c, w⟩ := s
  obtain ⟨x, ch⟩ := o
  have x1 := hr.ix (i := p - 1) (by omega) (by omega)
  have x2 := hr.ix (i := p) (by omega) h1
  have P0 := part_0 (r := r) (p := p) (n := n) (x := x) (c := c) (st := st) (ch := ch) (w := w) (calm := calm) (s5 := .no) (s6 := .no) (s7 := .no) (s8 := .no) (s9 := .no) (s10 := .no) (s11 := .no) (by decide)
  unfold partN
  dsimp only
  generalize nat a (p - 1) = l at *
  generalize nat a p = m at *
  by_cases c1 : st = false ∨ l = m ∨ decide (l < m) ≠ decide (n < x)
  · rw [if_pos c1]
    refine callP_rt rfl (ρ := _) (seq_nx P0 (seq_rt (part_a (calm := calm) (w := w) (c := c) (ch := ch) (s11 := .no) st _ _ _ x1 x2 rfl rfl rfl ?_)))
    rcases c1 with e | e | e
    · rw [e]; rfl
    · rw [decide_eq_true e]; simp
    · rw [decide_eq_false e]; simp
  · rw [if_neg c1]
    have e1 : st = true := by
      cases st with
      | true => rfl
      | false => exact absurd (.inl rfl) c1
    subst e1
    have e2 : decide (l = m) = false := decide_eq_false fun e => c1 (.inr (.inl e))
    have e3 : decide (decide (l < m) = decide (n < x)) = true := by
      by_cases e : decide (l < m) = decide (n < x)
      · exact decide_eq_true e
      · exact absurd (.inr (.inr e)) c1
    have h4 := notInD_t c [0, if decide (n < x) = true then 1 else -1]
    have h4 : notInD (.int c) (.tuple [.int 0, .int (if decide (n < x) = true then 1 else -1)]) = some (.bool (!decide (c ∈ [0, if decide (n < x) = true then 1 else -1]))) := h4
    have P1 := part_b (calm := calm) (w := w) (c := c) (ch := ch) (s11 := .no) _ _ x1 x2 e2 rfl rfl e3
    have P2 := part_c (s0 := .sh r) (s1 := .sh (.int p)) (s2 := .sh (.tuple [.int n, .bool true, .int c, .bool w])) (s3 := .sh (.tuple [.int x, .bool ch])) (s4 := .sh (.bool calm)) (s6 := .sh (.bool true)) (s7 := .sh (.int c)) (s8 := .sh (.bool w)) (s10 := .sh (.bool ch)) (s11 := .no) (n := n) (x := x) _ rfl
    have P3 := part_d (s0 := .sh r) (s1 := .sh (.int p)) (s2 := .sh (.tuple [.int n, .bool true, .int c, .bool w])) (s3 := .sh (.tuple [.int x, .bool ch])) (s5 := .sh (.int n)) (s6 := .sh (.bool true)) (s9 := .sh (.int x)) (s10 := .sh (.bool ch)) calm w _ h4 (by decide)
    have ei : (if decide (n < x) = true then (1 : Int) else -1) = if n < x then 1 else -1 := by
      by_cases e : n < x
      · rw [decide_eq_true e, if_pos rfl, if_pos e]
      · rw [decide_eq_false e, if_neg Bool.false_ne_true, if_neg e]
    by_cases c2 : calm = true ∧ w = false ∧ ¬ (c = 0 ∨ c = if n < x then 1 else -1)
    · rw [if_pos c2]
      have hb : (calm && (!w && !decide (c ∈ [0, if decide (n < x) = true then 1 else -1]))) = true := by
        rw [c2.1, c2.2.1, ei, decide_eq_false (by simpa using c2.2.2)]; rfl
      rw [if_pos hb] at P3
      exact callP_rt rfl (ρ := _) (seq_nx P0 (seq_nx P1 (seq_nx P2 (seq_rt P3))))
    · rw [if_neg c2]
      have hb : ¬ (calm && (!w && !decide (c ∈ [0, if decide (n < x) = true then 1 else -1]))) = true := fun z => by
        rw [Bool.and_eq_true, Bool.and_eq_true, ei] at z
        obtain ⟨z1, z2, z3⟩ := z
        refine c2 ⟨z1, by simpa using z2, ?_⟩
        simpa using z3
      rw [if_neg hb] at P3
      have P4 := part_e (s0 := .sh r) (s1 := .sh (.int p)) (s2 := .sh (.tuple [.int n, .bool true, .int c, .bool w])) (s3 := .sh (.tuple [.int x, .bool ch])) (s5 := .sh (.int n)) (s6 := .sh (.bool true)) (s7 := .sh (.int c)) (s8 := .sh (.bool w)) (x := x) (ch := ch) (t := if decide (n < x) = true then 1 else -1) calm (by decide)
      rw [ei] at P4
      rw [ei] at P3 P2
      exact callP_rt rfl (ρ := _) (seq_nx P0 (seq_nx P1 (seq_nx P2 (seq_nx P3 P4))))
/-! next_state -/
theorem ns_0 {r : D} {p x : Int} {ch calm : Bool} (z : 4 ≤ sizeLine) : F_next_state [r, .int p, .none, .tuple [.int x, .bool ch], .bool calm] = some (.tuple [.int x, .bool (!ch), .int 0, .bool false]) := by
  have i0 : atI [.int x, .bool ch] 0 = some (PyData.int x) := rfl
  have i1 : atI [.int x, .bool ch] 1 = some (PyData.bool ch) := rfl
  unfold F_next_state callP g_next_state env0
  walk_at "evh"
theorem ns_1 {r : D} {p x n c : Int} {ch calm st w : Bool} (z : 4 ≤ sizeLine) (k : Bool) (hk : decide (x = n) = k) {v : D} (h : k = false → F_parted [r, .int p, .tuple [.int n, .bool st, .int c, .bool w], .tuple [.int x, .bool ch], .bool calm] = some v) : F_next_state [r, .int p, .tuple [.int n, .bool st, .int c, .bool w], .tuple [.int x, .bool ch], .bool calm] = some (if k = true then .tuple [.int n, .bool (st || !ch), .int c, .bool calm] else v) := by
  have i0 : atI [.int x, .bool ch] 0 = some (PyData.int x) := rfl
  have i1 : atI [.int x, .bool ch] 1 = some (PyData.bool ch) := rfl
  have j0 : atI [.int n, .bool st, .int c, .bool w] 0 = some (PyData.int n) := rfl
  have j1 : atI [.int n, .bool st, .int c, .bool w] 1 = some (PyData.bool st) := rfl
  have j2 : atI [.int n, .bool st, .int c, .bool w] 2 = some (PyData.int c) := rfl
  unfold F_next_state callP g_next_state env0
  cases k with
  | true => clear h; cases st <;> walk_at "evh"
  | false =>
    have h := h rfl
    walk_at "evh"
theorem next_eq {r : D} {a : List Int} {p : Int} {s : Stt} {o : Opt} {calm : Bool} (hr : Sq r (a.map .int)) (h0 : s = none ∨ 1 ≤ p) (h1 : p < a.length) : F_next_state [r, .int p, stD s, opt2D o, .bool calm] = some (stD (nxN a p s o calm)) := by
  cases s with
  | none => exact ns_0 (by decide)
  | some s =>
    have hp : 1 ≤ p := h0.resolve_left (fun z => nomatch z)
    have := parted_eq (s := s) (o := o) (calm := calm) hr hp h1
    obtain ⟨n, st, c, w⟩ := s
    obtain ⟨x, ch⟩ := o
    have e := ns_1 (r := r) (p := p) (x := x) (n := n) (c := c) (ch := ch) (calm := calm) (st := st) (w := w) (by decide) _ rfl (fun _ => this)
    refine e.trans ?_
    unfold nxN
    dsimp only
    by_cases k : x = n
    · rw [if_pos (decide_eq_true k), if_pos k]; rfl
    · rw [if_neg (by simpa using k), if_neg k]
/-! next_states -/
theorem nn_e {r op : D} {p : Int} {s v o : D} {calm : Bool} {s5 s7 : Sl} (e : F_next_state [r, .int p, s, o, .bool calm] = some v) : ce_next_states_1 [.sh r, .sh (.int p), .sh s, .sh op, .sh (.bool calm), s5, .sh o, s7] = .ok v [.sh r, .sh (.int p), .sh s, .sh op, .sh (.bool calm), s5, .sh o, s7] := by
  unfold ce_next_states_1
  walk_at "evh"
theorem nn_src {r op X : D} {p : Int} {s : D} {calm : Bool} {s5 s6 s7 : Sl} {E : List D} (ix : ixD op (.int p) = some X) (it : itemsD X = some E) : (gSeq (eOp2 ixD (oE (eV 3)) (oE (eV 1)))) [.sh r, .sh (.int p), .sh s, .sh op, .sh (.bool calm), s5, s6, s7] = .ok E [.sh r, .sh (.int p), .sh s, .sh op, .sh (.bool calm), s5, s6, s7] := by
  walk_at "evh"
theorem nn_src2 {s0 s1 s2 s3 s4 s6 s7 : Sl} {E : List D} : (gSeq (eV 5)) [s0, s1, s2, s3, s4, .sh (.list E), s6, s7] = .ok E [s0, s1, s2, s3, s4, .sh (.list E), s6, s7] := by
  have it : itemsD (.list E) = some E := rfl
  walk_at "evh"
theorem nn_t {s0 s1 s2 s3 s4 s5 s6 : Sl} {v : Stt} : ct_next_states_2 [s0, s1, s2, s3, s4, s5, s6, .sh (stD v)] = .ok v.isSome [s0, s1, s2, s3, s4, s5, s6, .sh (stD v)] := by
  have h : isNotD (stD v) .none = some (.bool v.isSome) := by cases v <;> rfl
  generalize stD v = x at *
  unfold ct_next_states_2
  walk_at "evh"
theorem fm_eq {a : List Int} {op : List Opt} {p : Int} {s : Stt} {calm : Bool} : ((op.map fun o => nxN a p s o calm).filter fun v => v.isSome).map stD = (nxL a op p s calm).map fun t => stD (some t) := by
  unfold nxL
  induction op with
  | nil => rfl
  | cons o op ih =>
    rw [List.map_cons, List.filter_cons, List.filterMap_cons]
    cases e : nxN a p s o calm with
    | none => rw [if_neg (by simp)]; exact ih
    | some t => rw [if_pos (show (some t).isSome = true from rfl), List.map_cons, ih]; rfl
theorem nexts_eq {r op X : D} {a : List Int} {os : List Opt} {p : Int} {s : Stt} {calm : Bool} (hr : Sq r (a.map .int)) (h0 : s = none ∨ 1 ≤ p) (h1 : p < a.length) (ix : ixD op (.int p) = some X) (it : itemsD X = some (os.map opt2D)) (hz : os.length ≤ 10000) :
    F_next_states [r, .int p, stD s, op, .bool calm] = some ((nxL a os p s calm).map fun t => stD (some t)) := by
  have l1 : lcL [6] (gN 6) gYes ce_next_states_1 (os.map opt2D) [.sh r, .sh (.int p), .sh (stD s), .sh op, .sh (.bool calm), .no, .no, .no] = .ok ((os.map fun o => nxN a p s o calm).map stD) [.sh r, .sh (.int p), .sh (stD s), .sh op, .sh (.bool calm), .no, .no, .no] := by
    rw [List.map_map]
    exact lc_emb1 fun o _ => ⟨[.sh r, .sh (.int p), .sh (stD s), .sh op, .sh (.bool calm), .no, .sh (opt2D o), .no], rfl, rfl, nn_e (next_eq hr h0 h1)⟩
  have S1 := sSet_ok (i := 5) (eL_ok (eLc_ok (ρ1 := [.sh r, .sh (.int p), .sh (stD s), .sh op, .sh (.bool calm), .no, .no, .no]) (nn_src ix it) (by rw [List.length_map]; exact size_of (by omega)) l1))
  have l2 : lcL [7] (gN 7) ct_next_states_2 ce_next_states_3 ((os.map fun o => nxN a p s o calm).map stD) [.sh r, .sh (.int p), .sh (stD s), .sh op, .sh (.bool calm), .sh (.list ((os.map fun o => nxN a p s o calm).map stD)), .no, .no] = .ok (((os.map fun o => nxN a p s o calm).filter fun v => v.isSome).map stD) [.sh r, .sh (.int p), .sh (stD s), .sh op, .sh (.bool calm), .sh (.list ((os.map fun o => nxN a p s o calm).map stD)), .no, .no] :=
    lc_emb (fun v : Stt => v.isSome) fun v _ => ⟨[.sh r, .sh (.int p), .sh (stD s), .sh op, .sh (.bool calm), .sh (.list ((os.map fun o => nxN a p s o calm).map stD)), .no, .sh (stD v)], rfl, rfl, nn_t, fun _ => rfl⟩
  rw [← fm_eq]
  exact callF_rf rfl (seq_nx S1 (sRetF_ok (eLc_ok (ρ1 := [.sh r, .sh (.int p), .sh (stD s), .sh op, .sh (.bool calm), .sh (.list ((os.map fun o => nxN a p s o calm).map stD)), .no, .no]) nn_src2 (by rw [List.length_map, List.length_map]; exact size_of (by omega)) l2)))
end W

namespace W
open PySem L2 DL
local macro_rules | `(tactic| walk_at "ev") => `(tactic| simp only [eC, eV, oE, oV, eL, eT, aNil, aCons, eOp2, eOp1, eApp, tstE, eB, tNotG, tAndG, tOrG, eAndG, eOrG, eNotG, eIf, eSeq, eCall, eCallO, eCallB, eCallBF, eCallBX, sSeq, sNext, sRet, sRetF, sRetO, sRetN, sDrop, sIf, sSet, sSetO, sBreak, sCont, sBad, sPar, sPar3, fz, sFz, eCallW, idL, sApp, sPutIx, sAug, sFor, gN, gT, gsCons, gsNil, gYes, eLc, gSeq, nS, nF, Nw.sl, R.ok_bind, R.ok_map, R.lift_some, to_ok, toX_ok, toX_ex, bind_nx, bind_rt, bind_rf, bind_ex, bind_bk, bind_ct, at_ok, at_ex, res_val, map_ex, rbind_ex, Op.res, resA, valA, isOw, box0, Option.map_some, Option.bind_some, sHeardT, nlCons, nlNil, Nw.dat, mSet, eChain, eRg1, eRg2, eSl, pNo, pSo,
  List.getElem?_cons_zero, List.getElem?_cons_succ, List.set_cons_zero, List.set_cons_succ, List.length_cons, List.length_nil, if_true, if_false, Bool.false_eq_true, ite_true, ite_false, reduceIte,
  addU_int, subD_int, ltD_int, leD_int, gtD_int, geD_int, negD_int, absD_int, intD_bool, intD_int, lenD_list, lenD_tuple, lenD_scr, pow10_7, pow10_18, pow10_40, eqW_ints, neW_ints, eqW_strs, neW_strs, eqW_none, eqW_in, eqW_ni, ixD_list, ixD_tuple, ixD_scr, atI_3_0, atI_3_1, atI_3_2, ixN_3_0, ixN_3_1, ixN_3_2, wipeR, zip2D, skOf, isiD_n, isiD_b, isiD_i, isiD_s, isiD_l, isiD_t, isiTD_n, isiTD_b, isiTD_i, isiTD_s, isiTD_l, isiTD_t, isiAny, eCallX, eCallWX, xE, xIf, xL, xCb1, sSetX, sRetX, sDropX, sRaise, sTo, eMk, isX_n, sKeep, kt_ll, kt_lt, kt_ls, kt_li, kt_lb, kt_tl, kt_tt, kt_ts, kt_ti, kt_tb, kt_sl, kt_st, kt_ss, kt_si, kt_sb, kt_il, kt_it, kt_is, kt_ii, kt_ib, kt_bl, kt_bt, kt_bs, kt_bi, kt_bb, kt_nl, kt_nt, kt_ns, kt_ni, kt_nb, eqW_bools, neW_bools, isD_none, isNotD_none, isNoneD, isNone_e, List.map_cons, List.map_nil, List.replicate, List.append_nil, List.cons_append, List.nil_append, nc0, nc1, nc2, nc3, nc4, nc5, nc6, nc7, nc8, nc9, nc10, nc11, nc12, nc13, nc14, nc15, nc16, nc17, nc18, nc19, nc20, Nat.reduceAdd, Nat.reduceSub, ne_eq, decide_true, decide_false, not_true_eq_false, not_false_eq_true, reduceCtorEq, Bool.and_true, Bool.true_and, Bool.and_false, Bool.false_and, Bool.or_true, Bool.true_or, Bool.or_false, Bool.false_or, Bool.not_true, Bool.not_false])
local macro_rules | `(tactic| walk_at "evh") => `(tactic| simp only [eC, eV, oE, oV, eL, eT, aNil, aCons, eOp2, eOp1, eApp, tstE, eB, tNotG, tAndG, tOrG, eAndG, eOrG, eNotG, eIf, eSeq, eCall, eCallO, eCallB, eCallBF, eCallBX, sSeq, sNext, sRet, sRetF, sRetO, sRetN, sDrop, sIf, sSet, sSetO, sBreak, sCont, sBad, sPar, sPar3, fz, sFz, eCallW, idL, sApp, sPutIx, sAug, sFor, gN, gT, gsCons, gsNil, gYes, eLc, gSeq, nS, nF, Nw.sl, R.ok_bind, R.ok_map, R.lift_some, to_ok, toX_ok, toX_ex, bind_nx, bind_rt, bind_rf, bind_ex, bind_bk, bind_ct, at_ok, at_ex, res_val, map_ex, rbind_ex, Op.res, resA, valA, isOw, box0, Option.map_some, Option.bind_some, sHeardT, nlCons, nlNil, Nw.dat, mSet, eChain, eRg1, eRg2, eSl, pNo, pSo,
  List.getElem?_cons_zero, List.getElem?_cons_succ, List.set_cons_zero, List.set_cons_succ, List.length_cons, List.length_nil, if_true, if_false, Bool.false_eq_true, ite_true, ite_false, reduceIte,
  addU_int, subD_int, ltD_int, leD_int, gtD_int, geD_int, negD_int, absD_int, intD_bool, intD_int, lenD_list, lenD_tuple, lenD_scr, pow10_7, pow10_18, pow10_40, eqW_ints, neW_ints, eqW_strs, neW_strs, eqW_none, eqW_in, eqW_ni, ixD_list, ixD_tuple, ixD_scr, atI_3_0, atI_3_1, atI_3_2, ixN_3_0, ixN_3_1, ixN_3_2, wipeR, zip2D, skOf, isiD_n, isiD_b, isiD_i, isiD_s, isiD_l, isiD_t, isiTD_n, isiTD_b, isiTD_i, isiTD_s, isiTD_l, isiTD_t, isiAny, eCallX, eCallWX, xE, xIf, xL, xCb1, sSetX, sRetX, sDropX, sRaise, sTo, eMk, isX_n, sKeep, kt_ll, kt_lt, kt_ls, kt_li, kt_lb, kt_tl, kt_tt, kt_ts, kt_ti, kt_tb, kt_sl, kt_st, kt_ss, kt_si, kt_sb, kt_il, kt_it, kt_is, kt_ii, kt_ib, kt_bl, kt_bt, kt_bs, kt_bi, kt_bb, kt_nl, kt_nt, kt_ns, kt_ni, kt_nb, eqW_bools, neW_bools, isD_none, isNotD_none, isNoneD, isNone_e, List.map_cons, List.map_nil, List.replicate, List.append_nil, List.cons_append, List.nil_append, nc0, nc1, nc2, nc3, nc4, nc5, nc6, nc7, nc8, nc9, nc10, nc11, nc12, nc13, nc14, nc15, nc16, nc17, nc18, nc19, nc20, Nat.reduceAdd, Nat.reduceSub, ne_eq, decide_true, decide_false, not_true_eq_false, not_false_eq_true, reduceCtorEq, Bool.and_true, Bool.true_and, Bool.and_false, Bool.false_and, Bool.or_true, Bool.true_or, Bool.or_false, Bool.false_or, Bool.not_true, Bool.not_false, *])
/-! options: which numbers a person can have -/
theorem top_iff {a : List Int} {p : Int} : p ∈ topsL a ↔ IsT a p := by
  unfold topsL isTop DL.IsT inn
  rw [List.mem_filter, Bool.and_eq_true, decide_eq_true_eq, decide_eq_true_eq]
  constructor
  · intro ⟨h1, h2⟩
    have := mem_rngI h1
    exact ⟨by omega, by omega, h2.1, h2.2⟩
  · intro ⟨h0, h1, h2, h3⟩
    exact ⟨in_rngI (by omega) (by omega), h2, h3⟩
theorem dip_iff {a : List Int} {p : Int} : p ∈ dipsL a ↔ IsD a p := by
  unfold dipsL isDip DL.IsD inn
  rw [List.mem_filter, Bool.and_eq_true, decide_eq_true_eq, decide_eq_true_eq]
  constructor
  · intro ⟨h1, h2⟩
    have := mem_rngI h1
    exact ⟨by omega, by omega, h2.1, h2.2⟩
  · intro ⟨h0, h1, h2, h3⟩
    exact ⟨in_rngI (by omega) (by omega), h2, h3⟩
def wD : Option Int → D
  | none => .none
  | some x => .int x
def wB (w : Option Int) (x : Int) : Bool := match w with
  | none => true
  | some y => decide (y = x)
def wAt (W : List (Option Int)) (p : Int) : Option Int := W[p.toNat]?.getD none
def optW (a : List Int) (W : List (Option Int)) (p : Int) : List Opt := (optA a p).filter fun o => wB (wAt W p) o.1
def lessL (a : List Int) (p : Int) : List Opt := ((srtU a).filter fun x => decide (x < nat a p)).map fun x => (x, true)
def moreL (a : List Int) (p : Int) : List Opt := ((srtU a).filter fun x => decide (nat a p < x)).map fun x => (x, true)
def someL (a : List Int) (p : Int) : List Opt := [(nat a p, false)] ++ (if IsT a p then lessL a p else []) ++ (if IsD a p then moreL a p else [])
theorem some_perm (a : List Int) (p : Int) : (someL a p).Perm (optA a p) := by
  unfold someL optA lessL moreL
  by_cases t : IsT a p
  · rw [if_pos t, if_pos t, if_neg fun d => not_td t d, List.append_nil]
    exact List.perm_append_comm
  · rw [if_neg t, if_neg t, List.append_nil]
    by_cases d : IsD a p
    · rw [if_pos d, if_pos d]; exact .refl _
    · rw [if_neg d, if_neg d]; exact .refl _
theorem optW_asc (a : List Int) (W : List (Option Int)) (p : Int) : AscO (optW a W p) := (optA_asc a p).filter _
theorem len_insU (k : Int) : ∀ xs : List Int, (insU k xs).length ≤ xs.length + 1
  | [] => Nat.le_refl _
  | x :: xs => by
    have := len_insU k xs
    unfold insU
    split
    · simp
    · split
      · simp
      · simp only [List.length_cons]; omega
theorem len_srtU : ∀ xs : List Int, (srtU xs).length ≤ xs.length
  | [] => Nat.le_refl _
  | x :: xs => by
    have h1 := len_srtU xs
    have h2 := len_insU x (srtU xs)
    show (insU x (srtU xs)).length ≤ _
    rw [List.length_cons]; omega
theorem optA_len (a : List Int) (p : Int) : (optA a p).length ≤ a.length + 1 := by
  have h := len_srtU a
  have f : ∀ g : Int → Bool, ((srtU a).filter g).length ≤ a.length := fun g => Nat.le_trans (List.length_filter_le _ _) h
  unfold optA
  split
  · rw [List.length_append, List.length_map]; have := f fun x => decide (x < nat a p); simp; omega
  · split
    · rw [List.length_cons, List.length_map]; have := f fun x => decide (nat a p < x); omega
    · simp
/-! the walk -/
theorem oo_src {r : D} {s1 s2 s3 s4 s5 s6 s7 s8 s9 : Sl} {E : List Int} (io : itemsD r = some (E.map .int)) (hr : r = .list (E.map .int) ∨ r = .tuple (E.map .int)) (hz : E.length < 64) : (gSeq (eL (eSrtSet (eV 0)))) [.sh r, s1, s2, s3, s4, s5, s6, s7, s8, s9] = .ok ((srtU E).map .int) [.sh r, s1, s2, s3, s4, s5, s6, s7, s8, s9] := by
  have e : eSrtSet (eV 0) [.sh r, s1, s2, s3, s4, s5, s6, s7, s8, s9] = .ok ((srtU E).map .int) [.sh r, s1, s2, s3, s4, s5, s6, s7, s8, s9] := by
    have h : eV 0 [.sh r, s1, s2, s3, s4, s5, s6, s7, s8, s9] = .ok r [.sh r, s1, s2, s3, s4, s5, s6, s7, s8, s9] := rfl
    unfold eSrtSet
    rw [h, R.ok_bind]
    rcases hr with rfl | rfl <;> dsimp only <;> rw [intsOf_map] <;> dsimp only <;> rw [if_pos hz]
  have it : itemsD (.list ((srtU E).map PyData.int)) = some ((srtU E).map .int) := rfl
  unfold gSeq
  rw [eL_ok e, R.ok_bind, it]; rfl
theorem oo_lc1 {s0 s1 s2 s3 s4 s5 s7 : Sl} {m : Int} {E : List Int} : lcL [8] (gN 8) ct_options_of_1 ce_options_of_2 (E.map .int) [s0, s1, s2, s3, s4, s5, .sh (.int m), s7, .no, .no] = .ok (((E.filter fun x => decide (x < m)).map fun x => ((x, true) : Opt)).map opt2D) [s0, s1, s2, s3, s4, s5, .sh (.int m), s7, .no, .no] := by
  rw [List.map_map]
  exact lc_emb (fun x : Int => decide (x < m)) fun x _ => ⟨[s0, s1, s2, s3, s4, s5, .sh (.int m), s7, .sh (.int x), .no], rfl, rfl, by unfold ct_options_of_1; walk_at "ev", fun _ => by
    have z : 2 ≤ sizeLine := by decide
    show ce_options_of_2 _ = .ok (opt2D (x, true)) _
    unfold ce_options_of_2 opt2D
    walk_at "evh"⟩
theorem oo_lc2 {s0 s1 s2 s3 s4 s5 s7 : Sl} {m : Int} {E : List Int} : lcL [8] (gN 8) ct_options_of_3 ce_options_of_2 (E.map .int) [s0, s1, s2, s3, s4, s5, .sh (.int m), s7, .no, .no] = .ok (((E.filter fun x => decide (m < x)).map fun x => ((x, true) : Opt)).map opt2D) [s0, s1, s2, s3, s4, s5, .sh (.int m), s7, .no, .no] := by
  rw [List.map_map]
  exact lc_emb (fun x : Int => decide (m < x)) fun x _ => ⟨[s0, s1, s2, s3, s4, s5, .sh (.int m), s7, .sh (.int x), .no], rfl, rfl, by unfold ct_options_of_3; walk_at "ev", fun _ => by
    have z : 2 ≤ sizeLine := by decide
    show ce_options_of_2 _ = .ok (opt2D (x, true)) _
    unfold ce_options_of_2 opt2D
    walk_at "evh"⟩
theorem oo_t {s0 s2 s3 s4 s6 s7 s8 : Sl} {q : D} {p : Int} {w : Option Int} {o : Opt} (ix : ixD q (.int p) = some (wD w)) : ct_options_of_4 [s0, .sh q, s2, s3, s4, .sh (.int p), s6, s7, s8, .sh (opt2D o)] = .ok (wB w o.1) [s0, .sh q, s2, s3, s4, .sh (.int p), s6, s7, s8, .sh (opt2D o)] := by
  have i0 : ixD (opt2D o) (.int 0) = some (.int o.1) := rfl
  generalize opt2D o = y at *
  obtain ⟨x, _⟩ := o
  unfold ct_options_of_4
  cases w with
  | none =>
    have ix' : ixD q (.int p) = some .none := ix
    clear ix
    show _ = R.ok true _
    walk_at "evh"
  | some v =>
    have ix' : ixD q (.int p) = some (.int v) := ix
    clear ix
    show _ = R.ok (decide (v = x)) _
    walk_at "evh"
theorem oo_if {s0 s1 s3 s4 s6 s8 s9 : Sl} {p : Int} {T : List Int} {g : GF} {S E : List D} (k : Bool) (hk : decide (p ∈ T) = k) (hg : k = true → g [s0, s1, .sh (.list (T.map .int)), s3, s4, .sh (.int p), s6, .ow S, s8, s9] = .ok E [s0, s1, .sh (.list (T.map .int)), s3, s4, .sh (.int p), s6, .ow S, s8, s9]) (hz : S.length + E.length ≤ sizeLine) :
    (sIf (tstE (eOp2 inD (oE (eV 5)) (oE (eV 2)))) (sExt 7 g) sNext) [s0, s1, .sh (.list (T.map .int)), s3, s4, .sh (.int p), s6, .ow S, s8, s9] = .nx [s0, s1, .sh (.list (T.map .int)), s3, s4, .sh (.int p), s6, .ow (S ++ if k = true then E else []), s8, s9] := by
  have hi := inD_l p T
  rw [hk] at hi
  generalize PyData.list (T.map .int) = L at *
  have ht : (tstE (eOp2 inD (oE (eV 5)) (oE (eV 2)))) [s0, s1, .sh L, s3, s4, .sh (.int p), s6, .ow S, s8, s9] = .ok k [s0, s1, .sh L, s3, s4, .sh (.int p), s6, .ow S, s8, s9] := by
    clear hg hz
    walk_at "evh"
  cases k with
  | false => exact sIf_f ht (by rw [if_neg Bool.false_ne_true, List.append_nil]; rfl)
  | true =>
    refine sIf_t ht ?_
    have hg := hg rfl
    unfold sExt
    show (if isOw (some (Sl.ow S)) then _ else _) = _
    rw [if_pos rfl, hg]
    show (if S.length + E.length ≤ sizeLine then O.nx _ else .bad) = _
    rw [if_pos hz]; rfl
theorem oo_if2 {s0 s1 s2 s4 s6 s8 s9 : Sl} {p : Int} {T : List Int} {g : GF} {S E : List D} (k : Bool) (hk : decide (p ∈ T) = k) (hg : k = true → g [s0, s1, s2, .sh (.list (T.map .int)), s4, .sh (.int p), s6, .ow S, s8, s9] = .ok E [s0, s1, s2, .sh (.list (T.map .int)), s4, .sh (.int p), s6, .ow S, s8, s9]) (hz : S.length + E.length ≤ sizeLine) :
    (sIf (tstE (eOp2 inD (oE (eV 5)) (oE (eV 3)))) (sExt 7 g) sNext) [s0, s1, s2, .sh (.list (T.map .int)), s4, .sh (.int p), s6, .ow S, s8, s9] = .nx [s0, s1, s2, .sh (.list (T.map .int)), s4, .sh (.int p), s6, .ow (S ++ if k = true then E else []), s8, s9] := by
  have hi := inD_l p T
  rw [hk] at hi
  generalize PyData.list (T.map .int) = L at *
  have ht : (tstE (eOp2 inD (oE (eV 5)) (oE (eV 3)))) [s0, s1, s2, .sh L, s4, .sh (.int p), s6, .ow S, s8, s9] = .ok k [s0, s1, s2, .sh L, s4, .sh (.int p), s6, .ow S, s8, s9] := by
    clear hg hz
    walk_at "evh"
  cases k with
  | false => exact sIf_f ht (by rw [if_neg Bool.false_ne_true, List.append_nil]; rfl)
  | true =>
    refine sIf_t ht ?_
    have hg := hg rfl
    unfold sExt
    show (if isOw (some (Sl.ow S)) then _ else _) = _
    rw [if_pos rfl, hg]
    show (if S.length + E.length ≤ sizeLine then O.nx _ else .bad) = _
    rw [if_pos hz]; rfl
theorem oo_own {s0 s1 s2 s3 s4 s5 s7 s8 s9 : Sl} {m : Int} (z1 : 1 ≤ sizeLine) (z2 : 2 ≤ sizeLine) : (sSetO 7 (eSeq (aCons (oE (eT (eSeq (aCons (oE (eV 6)) (aCons (oE (eC (.bool false))) aNil))))) aNil))) [s0, s1, s2, s3, s4, s5, .sh (.int m), s7, s8, s9] = .nx [s0, s1, s2, s3, s4, s5, .sh (.int m), .ow [.tuple [.int m, .bool false]], s8, s9] := by
  walk_at "evh"
theorem oo_last {s0 s1 s2 s3 s5 s6 : Sl} {S F L M : List D} (g : GF) (hg : g [s0, s1, s2, s3, .ow F, s5, s6, .sh (.list S), .no, .no] = .ok L [s0, s1, s2, s3, .ow F, s5, s6, .sh (.list S), .no, .no]) (hs : sortDD [.list L] = some M) (hz : F.length < sizeLine) :
    (sFz 7 (sApp 4 (eL (eApp sortDD (aCons (oE (eL g)) aNil))))) [s0, s1, s2, s3, .ow F, s5, s6, .ow S, .no, .no] = .nx [s0, s1, s2, s3, .ow (F ++ [.list M]), s5, s6, .sh (.list S), .no, .no] := by
  show sApp 4 _ [s0, s1, s2, s3, .ow F, s5, s6, .sh (.list S), .no, .no] = _
  walk_at "evh"
theorem oo_step {r q : D} {a : List Int} {W : List (Option Int)} {p : Int} {F : List D} {s7 : Sl} (hr : Sq r (a.map .int)) (hq : ixD q (.int p) = some (wD (wAt W p))) (hl : a.length < 60) (hz : F.length < sizeLine) :
    ∃ t7, gb_options_of_6 [.sh r, .sh q, .sh (.list ((topsL a).map .int)), .sh (.list ((dipsL a).map .int)), .ow F, .sh (.int p), .sh (.int (nat a p)), s7, .no, .no] = .nx [.sh r, .sh q, .sh (.list ((topsL a).map .int)), .sh (.list ((dipsL a).map .int)), .ow (F ++ [.list ((optW a W p).map opt2D)]), .sh (.int p), .sh (.int (nat a p)), t7, .no, .no] := by
  have hr2 : r = .list (a.map .int) ∨ r = .tuple (a.map .int) := hr.elim (fun e => .inl e) fun e => .inr e
  have ls := len_srtU a
  have l1 : (lessL a p).length ≤ a.length := by unfold lessL; rw [List.length_map]; exact Nat.le_trans (List.length_filter_le _ _) ls
  have l2 : (moreL a p).length ≤ a.length := by unfold moreL; rw [List.length_map]; exact Nat.le_trans (List.length_filter_le _ _) ls
  have zs : ((srtU a).map PyData.int).length ≤ sizeLine := by rw [List.length_map]; exact size_of (by omega)
  have S1 := oo_own (s0 := .sh r) (s1 := .sh q) (s2 := .sh (.list ((topsL a).map .int))) (s3 := .sh (.list ((dipsL a).map .int))) (s4 := .ow F) (s5 := .sh (.int p)) (s7 := s7) (s8 := .no) (s9 := .no) (m := nat a p) (by decide) (by decide)
  have S2 := oo_if (s0 := .sh r) (s1 := .sh q) (s3 := .sh (.list ((dipsL a).map .int))) (s4 := .ow F) (s6 := .sh (.int (nat a p))) (s8 := .no) (s9 := .no) (p := p) (T := topsL a) (S := [.tuple [.int (nat a p), .bool false]]) (E := (lessL a p).map opt2D) (g := eLc [8] (gSeq (eL (eSrtSet (eV 0)))) (gN 8) ct_options_of_1 ce_options_of_2) _ rfl
    (fun _ => eLc_ok (ρ1 := [.sh r, .sh q, .sh (.list ((topsL a).map .int)), .sh (.list ((dipsL a).map .int)), .ow F, .sh (.int p), .sh (.int (nat a p)), .ow [.tuple [.int (nat a p), .bool false]], .no, .no]) (oo_src hr.items hr2 (by omega)) zs oo_lc1) (by rw [List.length_map]; exact size_of (by simp; omega))
  have S3 := oo_if2 (s0 := .sh r) (s1 := .sh q) (s2 := .sh (.list ((topsL a).map .int))) (s4 := .ow F) (s6 := .sh (.int (nat a p))) (s8 := .no) (s9 := .no) (p := p) (T := dipsL a) (S := [.tuple [.int (nat a p), .bool false]] ++ if decide (p ∈ topsL a) = true then (lessL a p).map opt2D else []) (E := (moreL a p).map opt2D) (g := eLc [8] (gSeq (eL (eSrtSet (eV 0)))) (gN 8) ct_options_of_3 ce_options_of_2) _ rfl
    (fun _ => eLc_ok (ρ1 := [.sh r, .sh q, .sh (.list ((topsL a).map .int)), .sh (.list ((dipsL a).map .int)), .ow F, .sh (.int p), .sh (.int (nat a p)), .ow ([.tuple [.int (nat a p), .bool false]] ++ if decide (p ∈ topsL a) = true then (lessL a p).map opt2D else []), .no, .no]) (oo_src hr.items hr2 (by omega)) zs oo_lc2) (by
      rw [List.length_map, List.length_append]
      refine size_of ?_
      split
      · rw [List.length_map]; simp; omega
      · simp; omega)
  have es : ([.tuple [.int (nat a p), .bool false]] ++ if decide (p ∈ topsL a) = true then (lessL a p).map opt2D else []) ++ (if decide (p ∈ dipsL a) = true then (moreL a p).map opt2D else []) = (someL a p).map opt2D := by
    unfold someL
    rw [List.map_append, List.map_append]
    have c1 : (decide (p ∈ topsL a) = true) = IsT a p := by rw [decide_eq_true_eq]; exact propext top_iff
    have c2 : (decide (p ∈ dipsL a) = true) = IsD a p := by rw [decide_eq_true_eq]; exact propext dip_iff
    simp only [c1, c2]
    congr 1
    · congr 1
      split <;> rfl
    · split <;> rfl
  rw [es] at S3
  have ll : (someL a p).length ≤ a.length + 1 := by rw [(some_perm a p).length_eq]; exact optA_len a p
  have lc : lcL [9] (gN 9) ct_options_of_4 ce_options_of_5 ((someL a p).map opt2D) [.sh r, .sh q, .sh (.list ((topsL a).map .int)), .sh (.list ((dipsL a).map .int)), .ow F, .sh (.int p), .sh (.int (nat a p)), .sh (.list ((someL a p).map opt2D)), .no, .no] = .ok (((someL a p).filter fun o => wB (wAt W p) o.1).map opt2D) [.sh r, .sh q, .sh (.list ((topsL a).map .int)), .sh (.list ((dipsL a).map .int)), .ow F, .sh (.int p), .sh (.int (nat a p)), .sh (.list ((someL a p).map opt2D)), .no, .no] :=
    lc_emb (fun o : Opt => wB (wAt W p) o.1) fun o _ => ⟨[.sh r, .sh q, .sh (.list ((topsL a).map .int)), .sh (.list ((dipsL a).map .int)), .ow F, .sh (.int p), .sh (.int (nat a p)), .sh (.list ((someL a p).map opt2D)), .no, .sh (opt2D o)], rfl, rfl, oo_t hq, fun _ => rfl⟩
  have it : gSeq (eV 7) [.sh r, .sh q, .sh (.list ((topsL a).map .int)), .sh (.list ((dipsL a).map .int)), .ow F, .sh (.int p), .sh (.int (nat a p)), .sh (.list ((someL a p).map opt2D)), .no, .no] = .ok ((someL a p).map opt2D) [.sh r, .sh q, .sh (.list ((topsL a).map .int)), .sh (.list ((dipsL a).map .int)), .ow F, .sh (.int p), .sh (.int (nat a p)), .sh (.list ((someL a p).map opt2D)), .no, .no] := by
    have i : itemsD (.list ((someL a p).map opt2D)) = some ((someL a p).map opt2D) := rfl
    generalize (someL a p).map opt2D = Y at *
    clear lc S1 S2 S3 es zs
    walk_at "evh"
  have S4 := oo_last (s0 := .sh r) (s1 := .sh q) (s2 := .sh (.list ((topsL a).map .int))) (s3 := .sh (.list ((dipsL a).map .int))) (s5 := .sh (.int p)) (s6 := .sh (.int (nat a p))) (S := (someL a p).map opt2D) (F := F) _ (eLc_ok it (by rw [List.length_map]; exact size_of (by omega)) lc) (sort_opts ((some_perm a p).filter _) (optW_asc a W p)) hz
  exact ⟨_, seq_nx S1 (seq_nx S2 (seq_nx S3 S4))⟩
theorem en_map {r : D} {a : List Int} (hr : Sq r (a.map .int)) : enum1D [r] = some ((rngI 0 a.length).map fun p => .tuple [.int p, .int (nat a p)]) := by
  have e : enum1D [r] = some (enumFrom 0 (a.map PyData.int)) := by rcases hr with rfl | rfl <;> rfl
  rw [e]
  congr 1
  apply List.ext_getElem?
  intro k
  by_cases hk : k < a.length
  · have eg : (a.map PyData.int)[k]? = some (.int (nat a k)) := by
      rw [List.getElem?_map, List.getElem?_eq_getElem hk]
      unfold nat
      rw [Int.toNat_natCast, List.getElem?_eq_getElem hk]; rfl
    rw [enumFrom_get _ _ _ _ eg]
    unfold rngI
    rw [List.map_map, List.getElem?_map, List.getElem?_range hk, Option.map_some]
    simp
  · rw [List.getElem?_eq_none (by rw [enumFrom_len, List.length_map]; omega), List.getElem?_eq_none (by rw [List.length_map, rngI_len]; omega)]
theorem oo_go {r q : D} {T E F : List D} {L M : D} {s5 s6 s7 : Sl} (e1 : F_tops [r] = some T) (e2 : F_dips [r] = some E) (en : enum1D [r] = some F) {C : List D} (z : 0 ≤ sizeLine) (f : forL (gT 2 (gsCons (gN 5) (gsCons (gN 6) gsNil))) gb_options_of_6 F [.sh r, .sh q, .sh (.list T), .sh (.list E), .ow [], .no, .no, .no, .no, .no] = .nx [.sh r, .sh q, .sh (.list T), .sh (.list E), .ow C, s5, s6, s7, .no, .no]) : F_options_of [r, q] = some C := by
  unfold F_options_of callF g_options_of env0
  walk_at "evh"
theorem opts_eq {r q : D} {a : List Int} {W : List (Option Int)} (hr : Sq r (a.map .int)) (hq : Sq q (W.map wD)) (hw : W.length = a.length) (hl : a.length < 60) : F_options_of [r, q] = some ((rngI 0 a.length).map fun p => .list ((optW a W p).map opt2D)) := by
  have ixq : ∀ p : Int, 0 ≤ p → p < a.length → ixD q (.int p) = some (wD (wAt W p)) := fun p h0 h1 => by
    have e : (W.map wD)[p.toNat]? = some (wD (wAt W p)) := by
      rw [List.getElem?_map]
      unfold wAt
      rw [List.getElem?_eq_getElem (show p.toNat < W.length by omega)]; rfl
    have := atI_of (xs := W.map wD) (n := p.toNat) (i := p) (by omega) e
    rcases hq with rfl | rfl <;> exact this
  obtain ⟨ρ', e, s5, s6, s7, rfl⟩ := for_inv (k := gT 2 (gsCons (gN 5) (gsCons (gN 6) gsNil))) (b := gb_options_of_6) (ds := (rngI 0 a.length).map fun p => .tuple [.int p, .int (nat a p)])
    (fun i ρ => ∃ s5 s6 s7, ρ = [.sh r, .sh q, .sh (.list ((topsL a).map .int)), .sh (.list ((dipsL a).map .int)), .ow ((rngI 0 i).map fun p => .list ((optW a W p).map opt2D)), s5, s6, s7, .no, .no])
    (fun i d ρ hd hh => by
      obtain ⟨s5, s6, s7, rfl⟩ := hh
      rw [List.getElem?_map] at hd
      obtain ⟨p, hp, rfl⟩ := Option.map_eq_some_iff.mp hd
      have hi : i < a.length := by
        have := (List.getElem?_eq_some_iff.mp hp).1
        rw [rngI_len] at this; exact this
      have ep : p = (i : Int) := by
        unfold rngI at hp
        rw [List.getElem?_map, List.getElem?_range hi, Option.map_some] at hp
        injection hp with hp
        omega
      subst ep
      obtain ⟨t7, e⟩ := oo_step (s7 := s7) (F := (rngI 0 i).map fun p => .list ((optW a W p).map opt2D)) hr (ixq (i : Int) (by omega) (by omega)) hl (by rw [List.length_map, rngI_len]; exact size_lt (by omega))
      refine ⟨_, rfl, _, .inl e, .sh (.int (i : Int)), .sh (.int (nat a (i : Int))), t7, ?_⟩
      rw [rngI_succ, List.map_append]
      simp)
    (ρ := [.sh r, .sh q, .sh (.list ((topsL a).map .int)), .sh (.list ((dipsL a).map .int)), .ow [], .no, .no, .no, .no, .no]) ⟨.no, .no, .no, rfl⟩
  rw [List.length_map, rngI_len] at e
  exact oo_go (L := .none) (M := .none) (tops_eq hr (by omega)) (dips_eq hr (by omega)) (en_map hr) (by decide) e
end W

namespace W
open PySem L2 DL
local macro_rules | `(tactic| walk_at "ev") => `(tactic| simp only [eC, eV, oE, oV, eL, eT, aNil, aCons, eOp2, eOp1, eApp, tstE, eB, tNotG, tAndG, tOrG, eAndG, eOrG, eNotG, eIf, eSeq, eCall, eCallO, eCallB, eCallBF, eCallBX, sSeq, sNext, sRet, sRetF, sRetO, sRetN, sDrop, sIf, sSet, sSetO, sBreak, sCont, sBad, sPar, sPar3, fz, sFz, eCallW, idL, sApp, sPutIx, sAug, sFor, gN, gT, gsCons, gsNil, gYes, eLc, gSeq, nS, nF, Nw.sl, R.ok_bind, R.ok_map, R.lift_some, to_ok, toX_ok, toX_ex, bind_nx, bind_rt, bind_rf, bind_ex, bind_bk, bind_ct, at_ok, at_ex, res_val, map_ex, rbind_ex, Op.res, resA, valA, isOw, box0, Option.map_some, Option.bind_some, sHeardT, nlCons, nlNil, Nw.dat, mSet, eChain, eRg1, eRg2, eSl, pNo, pSo,
  List.getElem?_cons_zero, List.getElem?_cons_succ, List.set_cons_zero, List.set_cons_succ, List.length_cons, List.length_nil, if_true, if_false, Bool.false_eq_true, ite_true, ite_false, reduceIte,
  addU_int, subD_int, ltD_int, leD_int, gtD_int, geD_int, negD_int, absD_int, intD_bool, intD_int, lenD_list, lenD_tuple, lenD_scr, pow10_7, pow10_18, pow10_40, eqW_ints, neW_ints, eqW_strs, neW_strs, eqW_none, eqW_in, eqW_ni, ixD_list, ixD_tuple, ixD_scr, atI_3_0, atI_3_1, atI_3_2, ixN_3_0, ixN_3_1, ixN_3_2, wipeR, zip2D, skOf, isiD_n, isiD_b, isiD_i, isiD_s, isiD_l, isiD_t, isiTD_n, isiTD_b, isiTD_i, isiTD_s, isiTD_l, isiTD_t, isiAny, eCallX, eCallWX, xE, xIf, xL, xCb1, sSetX, sRetX, sDropX, sRaise, sTo, eMk, isX_n, sKeep, kt_ll, kt_lt, kt_ls, kt_li, kt_lb, kt_tl, kt_tt, kt_ts, kt_ti, kt_tb, kt_sl, kt_st, kt_ss, kt_si, kt_sb, kt_il, kt_it, kt_is, kt_ii, kt_ib, kt_bl, kt_bt, kt_bs, kt_bi, kt_bb, kt_nl, kt_nt, kt_ns, kt_ni, kt_nb, eqW_bools, neW_bools, isD_none, isNotD_none, isNoneD, isNone_e, List.map_cons, List.map_nil, List.replicate, List.append_nil, List.cons_append, List.nil_append, nc0, nc1, nc2, nc3, nc4, nc5, nc6, nc7, nc8, nc9, nc10, nc11, nc12, nc13, nc14, nc15, nc16, nc17, nc18, nc19, nc20, Nat.reduceAdd, Nat.reduceSub, ne_eq, decide_true, decide_false, not_true_eq_false, not_false_eq_true, reduceCtorEq, Bool.and_true, Bool.true_and, Bool.and_false, Bool.false_and, Bool.or_true, Bool.true_or, Bool.or_false, Bool.false_or, Bool.not_true, Bool.not_false])
local macro_rules | `(tactic| walk_at "evh") => `(tactic| simp only [eC, eV, oE, oV, eL, eT, aNil, aCons, eOp2, eOp1, eApp, tstE, eB, tNotG, tAndG, tOrG, eAndG, eOrG, eNotG, eIf, eSeq, eCall, eCallO, eCallB, eCallBF, eCallBX, sSeq, sNext, sRet, sRetF, sRetO, sRetN, sDrop, sIf, sSet, sSetO, sBreak, sCont, sBad, sPar, sPar3, fz, sFz, eCallW, idL, sApp, sPutIx, sAug, sFor, gN, gT, gsCons, gsNil, gYes, eLc, gSeq, nS, nF, Nw.sl, R.ok_bind, R.ok_map, R.lift_some, to_ok, toX_ok, toX_ex, bind_nx, bind_rt, bind_rf, bind_ex, bind_bk, bind_ct, at_ok, at_ex, res_val, map_ex, rbind_ex, Op.res, resA, valA, isOw, box0, Option.map_some, Option.bind_some, sHeardT, nlCons, nlNil, Nw.dat, mSet, eChain, eRg1, eRg2, eSl, pNo, pSo,
  List.getElem?_cons_zero, List.getElem?_cons_succ, List.set_cons_zero, List.set_cons_succ, List.length_cons, List.length_nil, if_true, if_false, Bool.false_eq_true, ite_true, ite_false, reduceIte,
  addU_int, subD_int, ltD_int, leD_int, gtD_int, geD_int, negD_int, absD_int, intD_bool, intD_int, lenD_list, lenD_tuple, lenD_scr, pow10_7, pow10_18, pow10_40, eqW_ints, neW_ints, eqW_strs, neW_strs, eqW_none, eqW_in, eqW_ni, ixD_list, ixD_tuple, ixD_scr, atI_3_0, atI_3_1, atI_3_2, ixN_3_0, ixN_3_1, ixN_3_2, wipeR, zip2D, skOf, isiD_n, isiD_b, isiD_i, isiD_s, isiD_l, isiD_t, isiTD_n, isiTD_b, isiTD_i, isiTD_s, isiTD_l, isiTD_t, isiAny, eCallX, eCallWX, xE, xIf, xL, xCb1, sSetX, sRetX, sDropX, sRaise, sTo, eMk, isX_n, sKeep, kt_ll, kt_lt, kt_ls, kt_li, kt_lb, kt_tl, kt_tt, kt_ts, kt_ti, kt_tb, kt_sl, kt_st, kt_ss, kt_si, kt_sb, kt_il, kt_it, kt_is, kt_ii, kt_ib, kt_bl, kt_bt, kt_bs, kt_bi, kt_bb, kt_nl, kt_nt, kt_ns, kt_ni, kt_nb, eqW_bools, neW_bools, isD_none, isNotD_none, isNoneD, isNone_e, List.map_cons, List.map_nil, List.replicate, List.append_nil, List.cons_append, List.nil_append, nc0, nc1, nc2, nc3, nc4, nc5, nc6, nc7, nc8, nc9, nc10, nc11, nc12, nc13, nc14, nc15, nc16, nc17, nc18, nc19, nc20, Nat.reduceAdd, Nat.reduceSub, ne_eq, decide_true, decide_false, not_true_eq_false, not_false_eq_true, reduceCtorEq, Bool.and_true, Bool.true_and, Bool.and_false, Bool.false_and, Bool.or_true, Bool.true_or, Bool.or_false, Bool.false_or, Bool.not_true, Bool.not_false, *])
/-! endings: layers of states, tables of numbers -/
def kT : Stt → D := fun _ => .bool true
theorem en_put {s0 s1 s2 s3 s4 s5 s7 s8 s10 : Sl} {acc : List Stt} {t : Sta} (hh : Hom (some t :: acc)) (hz : acc.length < sizeLine) :
    gb_endings_1 [s0, s1, s2, s3, s4, s5, .od (tabD kT acc), s7, s8, .sh (stD (some t)), s10] = .nx [s0, s1, s2, s3, s4, s5, .od (tabD kT (insS acc (some t))), s7, s8, .sh (stD (some t)), s10] := by
  show (if sortB (stD (some t)) (tabD kT acc) = true ∧ (tabD kT acc).length < sizeLine then O.nx [s0, s1, s2, s3, s4, s5, .od (dPut (tabD kT acc) (stD (some t)) (.bool true)), s7, s8, .sh (stD (some t)), s10] else .bad) = _
  rw [if_pos ⟨sort_st hh, by unfold tabD; rw [List.length_map]; exact hz⟩, put_st (f := kT) (x := some t) (d := .bool true) rfl]
theorem size_m {n : Nat} (h : n ≤ 1000000) : n < sizeLine := Nat.lt_of_le_of_lt h (by decide)
theorem en_in {s0 s1 s2 s3 s4 s5 s7 s8 s10 : Sl} : ∀ (ts : List Sta) {acc : List Stt} {s9 : Sl}, (∀ s ∈ acc, s ≠ none) → acc.length + ts.length ≤ 1000000 → ∃ t9, forL (gN 9) gb_endings_1 (ts.map fun t => stD (some t)) [s0, s1, s2, s3, s4, s5, .od (tabD kT acc), s7, s8, s9, s10] = .nx [s0, s1, s2, s3, s4, s5, .od (tabD kT (insL acc ts)), s7, s8, t9, s10]
  | [], acc, s9, _, _ => ⟨s9, rfl⟩
  | t :: ts, acc, s9, ha, hz => by
    rw [List.length_cons] at hz
    have h1 : ∀ s ∈ insS acc (some t), s ≠ none := fun s hs => by
      rcases ins_mem.mp hs with h | h
      · exact ha s h
      · rw [h]; exact fun z => nomatch z
    have l1 : (insS acc (some t)).length ≤ acc.length + 1 := by
      unfold insS
      split
      · omega
      · rw [List.length_append, List.length_singleton]; omega
    obtain ⟨t9, e⟩ := en_in ts (acc := insS acc (some t)) (s9 := .sh (stD (some t))) h1 (by omega)
    refine ⟨t9, for_cons (ρ1 := [s0, s1, s2, s3, s4, s5, .od (tabD kT acc), s7, s8, .sh (stD (some t)), s10]) rfl (en_put (.inr fun s hs => ?_) (size_m (by omega))) e⟩
    rcases List.mem_cons.mp hs with h | h
    · rw [h]; exact fun z => nomatch z
    · exact ha s h
theorem en_src {r op : D} {p : Int} {s : D} {calm : Bool} {E : List D} {s3 s5 s6 s8 s9 s10 : Sl} (e : F_next_states [r, .int p, s, op, .bool calm] = some E) : (gSeq (eL (eCall F_next_states (aCons (oE (eV 0)) (aCons (oE (eV 4)) (aCons (oE (eV 7)) (aCons (oE (eV 1)) (aCons (oE (eV 2)) aNil)))))))) [.sh r, .sh op, .sh (.bool calm), s3, .sh (.int p), s5, s6, .sh s, s8, s9, s10] = .ok E [.sh r, .sh op, .sh (.bool calm), s3, .sh (.int p), s5, s6, .sh s, s8, s9, s10] := by
  have it : itemsD (.list E) = some E := rfl
  walk_at "evh"
structure OpsOk (a : List Int) (ops : Int → List Opt) (op : D) : Prop where
  ix : ∀ p : Int, 0 ≤ p → p < a.length → ixD op (.int p) = some (.list ((ops p).map opt2D))
  few : ∀ p, (ops p).length ≤ 100
theorem nexts_at {r op : D} {a : List Int} {ops : Int → List Opt} {k : Nat} {s : Stt} {calm : Bool} (hr : Sq r (a.map .int)) (ho : OpsOk a ops op) (hk : k < a.length) (hs : s ∈ layN a ops calm k) : F_next_states [r, .int k, stD s, op, .bool calm] = some ((nxL a (ops k) k s calm).map fun t => stD (some t)) :=
  nexts_eq hr (by
    cases k with
    | zero => exact .inl (List.mem_singleton.mp hs)
    | succ k => exact .inr (by omega)) (by omega) (ho.ix k (by omega) (by omega)) rfl (by have := ho.few k; omega)
theorem nxL_len (a : List Int) (op : List Opt) (p : Int) (s : Stt) (calm : Bool) : (nxL a op p s calm).length ≤ op.length := List.length_filterMap_le _ _
theorem en_mid {r op : D} {a : List Int} {ops : Int → List Opt} {calm : Bool} {k : Nat} {s3 s5 s8 s10 : Sl} (hr : Sq r (a.map .int)) (ho : OpsOk a ops op) (hk : k < a.length) : ∀ (ss : List Stt) {acc : List Stt} {s7 s9 : Sl}, (∀ s ∈ ss, s ∈ layN a ops calm k) → (∀ s ∈ acc, s ≠ none) → acc.length + 100 * ss.length ≤ 900000 →
    ∃ t7 t9, forL (gN 7) gb_endings_2 (ss.map stD) [.sh r, .sh op, .sh (.bool calm), s3, .sh (.int k), s5, .od (tabD kT acc), s7, s8, s9, s10] = .nx [.sh r, .sh op, .sh (.bool calm), s3, .sh (.int k), s5, .od (tabD kT (insLL a (ops k) k calm acc ss)), t7, s8, t9, s10]
  | [], acc, s7, s9, _, _, _ => ⟨s7, s9, rfl⟩
  | s :: ss, acc, s7, s9, hs, ha, hz => by
    rw [List.length_cons] at hz
    have hn := nxL_len a (ops k) k s calm
    have hf := ho.few k
    obtain ⟨t9, e1⟩ := en_in (s0 := .sh r) (s1 := .sh op) (s2 := .sh (.bool calm)) (s3 := s3) (s4 := .sh (.int k)) (s5 := s5) (s7 := .sh (stD s)) (s8 := s8) (s10 := s10) (nxL a (ops k) k s calm) (acc := acc) (s9 := s9) ha (by omega)
    have li : (insL acc (nxL a (ops k) k s calm)).length ≤ acc.length + (nxL a (ops k) k s calm).length := by
      generalize nxL a (ops k) k s calm = ts
      clear e1 hn hz hs ha
      induction ts generalizing acc with
      | nil => exact Nat.le_refl _
      | cons t ts ih =>
        show (insL (insS acc (some t)) ts).length ≤ _
        have := ih (acc := insS acc (some t))
        have l1 : (insS acc (some t)).length ≤ acc.length + 1 := by
          unfold insS
          split
          · omega
          · rw [List.length_append, List.length_singleton]; omega
        rw [List.length_cons]; omega
    obtain ⟨u7, u9, e2⟩ := en_mid hr ho hk ss (acc := insL acc (nxL a (ops k) k s calm)) (s7 := .sh (stD s)) (s9 := t9) (fun x hx => hs x (List.mem_cons_of_mem _ hx)) (fun x hx => by
      rcases insL_mem.mp hx with h | ⟨t, _, h⟩
      · exact ha x h
      · rw [h]; exact fun z => nomatch z) (by omega)
    exact ⟨u7, u9, for_cons (ρ1 := [.sh r, .sh op, .sh (.bool calm), s3, .sh (.int k), s5, .od (tabD kT acc), .sh (stD s), s8, s9, s10]) rfl (sFor_nx (en_src (nexts_at hr ho hk (hs s List.mem_cons_self))) e1) e2⟩
def layD (a : List Int) (ops : Int → List Opt) (calm : Bool) (k : Nat) : D := .list ((layN a ops calm k).map stD)
theorem ow_src {s0 s1 s2 s4 s5 s6 s7 s8 s9 s10 : Sl} {L E : List D} (h : atI L (-1) = some (.list E)) : (gSeq (eOp2 ixD (oV 3) (oE (eOp1 negD (oE (eC (.int 1))))))) [s0, s1, s2, .ow L, s4, s5, s6, s7, s8, s9, s10] = .ok E [s0, s1, s2, .ow L, s4, s5, s6, s7, s8, s9, s10] := by
  have it : itemsD (.list E) = some E := rfl
  walk_at "evh"
theorem ow_app {s0 s1 s2 s4 s5 s7 s8 s9 s10 : Sl} {L : List D} {l : List Stt} (hz : L.length < sizeLine) : (sApp 3 (eL (eApp dKeysD (aCons (oV 6) aNil)))) [s0, s1, s2, .ow L, s4, s5, .od (tabD kT l), s7, s8, s9, s10] = .nx [s0, s1, s2, .ow (L ++ [.list (l.map stD)]), s4, s5, .od (tabD kT l), s7, s8, s9, s10] := by
  show (if L.length < sizeLine then O.nx [s0, s1, s2, .ow (L ++ [.list ((tabD kT l).map (·.1))]), s4, s5, .od (tabD kT l), s7, s8, s9, s10] else .bad) = _
  rw [if_pos hz, keys_st]
theorem en_lay {r op : D} {a : List Int} {ops : Int → List Opt} {calm : Bool} {s4 s5 s6 s7 s8 s9 s10 : Sl} (hr : Sq r (a.map .int)) (ho : OpsOk a ops op) (hl : a.length ≤ 60) :
    ∃ t4 t6 t7 t9, forL (gN 4) gb_endings_3 (rangeD 0 a.length) [.sh r, .sh op, .sh (.bool calm), .ow [layD a ops calm 0], s4, s5, s6, s7, s8, s9, s10] = .nx [.sh r, .sh op, .sh (.bool calm), .ow ((List.range (a.length + 1)).map (layD a ops calm)), t4, s5, t6, t7, s8, t9, s10] := by
  obtain ⟨ρ', e, t4, t6, t7, t9, rfl⟩ := for_inv (k := gN 4) (b := gb_endings_3) (ds := rangeD 0 a.length)
    (fun i ρ => ∃ t4 t6 t7 t9, ρ = [.sh r, .sh op, .sh (.bool calm), .ow ((List.range (i + 1)).map (layD a ops calm)), t4, s5, t6, t7, s8, t9, s10])
    (fun i d ρ hd hh => by
      obtain ⟨rfl, hi⟩ := rangeD_at hd
      obtain ⟨t4, t6, t7, t9, rfl⟩ := hh
      have hll := lay_len' (a := a) (calm := calm) ho.few i
      obtain ⟨u7, u9, e⟩ := en_mid (s3 := .ow ((List.range (i + 1)).map (layD a ops calm))) (s5 := s5) (s8 := s8) (s10 := s10) hr ho hi (layN a ops calm i) (acc := []) (s7 := t7) (s9 := t9) (fun s hs => hs) (fun s hs => nomatch hs) (by simp; omega)
      have la : atI ((List.range (i + 1)).map (layD a ops calm)) (-1) = some (.list ((layN a ops calm i).map stD)) := by
        rw [List.range_succ, List.map_append]
        exact DL.atI_last _ _
      refine ⟨[.sh r, .sh op, .sh (.bool calm), .ow ((List.range (i + 1)).map (layD a ops calm)), .sh (.int (i : Int)), s5, t6, t7, s8, t9, s10], rfl, _, .inl (seq_nx (ρ1 := [.sh r, .sh op, .sh (.bool calm), .ow ((List.range (i + 1)).map (layD a ops calm)), .sh (.int (i : Int)), s5, .od (tabD kT []), t7, s8, t9, s10]) rfl (seq_nx (sFor_nx (ow_src la) e) (ow_app (by rw [List.length_map, List.length_range]; exact size_lt (by omega))))), .sh (.int (i : Int)), .od (tabD kT (layN a ops calm (i + 1))), u7, u9, ?_⟩
      rw [List.range_succ (n := i + 1), List.map_append]; rfl)
    (ρ := [.sh r, .sh op, .sh (.bool calm), .ow [layD a ops calm 0], s4, s5, s6, s7, s8, s9, s10]) ⟨s4, s6, s7, s9, rfl⟩
  rw [rangeD_len] at e
  exact ⟨t4, t6, t7, t9, e⟩
/-! tables -/
def cD (a : List Int) (ops : Int → List Opt) (calm : Bool) (k : Nat) : Stt → D := fun s => .int (cntF a ops calm (a.length - k) k s : Nat)
def tabK (a : List Int) (ops : Int → List Opt) (calm : Bool) (k : Nat) : D := dcD (tabD (cD a ops calm k) (layN a ops calm k))
theorem en_e4 {s0 s1 s2 s3 s4 s5 s6 s8 s9 s10 : Sl} {a : List Int} {ops : Int → List Opt} {calm : Bool} {s : Stt} : ce_endings_4 [s0, s1, s2, s3, s4, s5, s6, .sh (stD s), s8, s9, s10] = .ok (.tuple [stD s, cD a ops calm a.length s]) [s0, s1, s2, s3, s4, s5, s6, .sh (stD s), s8, s9, s10] := by
  have z : 2 ≤ sizeLine := by decide
  have ec : cD a ops calm a.length s = .int (if accB s then 1 else 0) := by
    unfold cD
    rw [Nat.sub_self]
    show PyData.int ((if accB s then 1 else 0 : Nat) : Int) = _
    congr 1
    split <;> rfl
  rw [ec]
  cases s with
  | none =>
    show ce_endings_4 [s0, s1, s2, s3, s4, s5, s6, .sh .none, s8, s9, s10] = R.ok (PyData.tuple [.none, .int 1]) [s0, s1, s2, s3, s4, s5, s6, .sh .none, s8, s9, s10]
    have ih : isD .none .none = some (.bool true) := rfl
    have ii : intD [.bool true] = some (.int 1) := rfl
    unfold ce_endings_4
    walk_at "evh"
  | some t =>
    have ix : ixD (stD (some t)) (.int 1) = some (.bool t.st) := rfl
    have hn : isD (stD (some t)) .none = some (.bool false) := rfl
    generalize stD (some t) = y at *
    show ce_endings_4 [s0, s1, s2, s3, s4, s5, s6, .sh y, s8, s9, s10] = R.ok (PyData.tuple [y, .int (if t.st then 1 else 0)]) [s0, s1, s2, s3, s4, s5, s6, .sh y, s8, s9, s10]
    generalize t.st = b at *
    unfold ce_endings_4
    clear ec
    have ib : intD [.bool b] = some (.int (if b then 1 else 0)) := by cases b <;> rfl
    cases b <;> walk_at "evh" <;> rfl
theorem en_e5 {s0 s1 s2 s3 s4 s6 s7 s8 s9 : Sl} {T x v : D} {Ts : List D} (h0 : atI Ts 0 = some T) (hg : dGetD T x = some v) : ce_endings_5 [s0, s1, s2, s3, s4, .sh (.list Ts), s6, s7, s8, s9, .sh x] = .ok v [s0, s1, s2, s3, s4, .sh (.list Ts), s6, s7, s8, s9, .sh x] := by
  unfold ce_endings_5
  walk_at "evh"
theorem cast_sum : ∀ ns : List Nat, (ns.map fun n => ((n : Nat) : Int)).sum = ((ns.sum : Nat) : Int)
  | [] => rfl
  | n :: ns => by
    have := cast_sum ns
    simp only [List.map_cons, List.sum_cons]
    omega
theorem en_sum {ns : List Nat} : sumD [.list (ns.map fun n => .int (n : Nat))] = some (.int (ns.sum : Nat)) := by
  have e : (ns.map fun n => PyData.int (n : Nat)) = (ns.map fun n => ((n : Nat) : Int)).map .int := by rw [List.map_map]; rfl
  show (intsOf (ns.map fun n => PyData.int (n : Nat))).map _ = _
  rw [e, intsOf_map, Option.map_some, cast_sum]
theorem tab_at {a : List Int} {ops : Int → List Opt} {calm : Bool} {k : Nat} {s : Stt} (h : s ∈ layN a ops calm k) : dGetD (tabK a ops calm k) (stD s) = some (cD a ops calm k s) := get_st (lay_hom k) h
/-- the tables from k on -/
def tabsF (a : List Int) (ops : Int → List Opt) (calm : Bool) (k : Nat) : List D := (List.range (a.length + 1 - k)).map fun j => tabK a ops calm (k + j)
theorem tabs_cons {a : List Int} {ops : Int → List Opt} {calm : Bool} {k : Nat} (h : k ≤ a.length) : tabsF a ops calm k = tabK a ops calm k :: tabsF a ops calm (k + 1) := by
  unfold tabsF
  rw [show a.length + 1 - k = (a.length + 1 - (k + 1)) + 1 by omega, List.range_succ_eq_map, List.map_cons, List.map_map]
  congr 1
  refine List.map_congr_left fun j _ => ?_
  show tabK a ops calm (k + (j + 1)) = tabK a ops calm (k + 1 + j)
  rw [show k + (j + 1) = k + 1 + j by omega]
theorem cnt_step {a : List Int} {ops : Int → List Opt} {calm : Bool} {k : Nat} (h : k < a.length) (s : Stt) : cntF a ops calm (a.length - k) k s = ((nxL a (ops k) k s calm).map fun t => cntF a ops calm (a.length - (k + 1)) ((k + 1 : Nat) : Int) (some t)).sum := by
  rw [show a.length - k = (a.length - (k + 1)) + 1 by omega]; rfl
theorem en_b6 {r op : D} {a : List Int} {ops : Int → List Opt} {calm : Bool} {k : Nat} {acc : List Stt} {s : Stt} {s3 s6 s9 : Sl} (hr : Sq r (a.map .int)) (ho : OpsOk a ops op) (hk : k < a.length) (hs : s ∈ layN a ops calm k) (ha : ∀ x ∈ acc, x ∈ layN a ops calm k) (hn : s ∉ acc) (hz : acc.length < sizeLine) :
    ∃ t9, gb_endings_6 [.sh r, .sh op, .sh (.bool calm), s3, .sh (.int k), .sh (.list (tabsF a ops calm (k + 1))), s6, .sh (stD s), .od (tabD (cD a ops calm k) acc), s9, .no] = .nx [.sh r, .sh op, .sh (.bool calm), s3, .sh (.int k), .sh (.list (tabsF a ops calm (k + 1))), s6, .sh (stD s), .od (tabD (cD a ops calm k) (acc ++ [s])), t9, .no] := by
  have hnx := nxL_len a (ops k) k s calm
  have hf := ho.few k
  have e1 := nexts_at (calm := calm) hr ho hk hs
  have h0 : atI (tabsF a ops calm (k + 1)) 0 = some (tabK a ops calm (k + 1)) := by
    rw [tabs_cons (by omega)]
    exact atI_of (n := 0) rfl rfl
  refine ⟨.sh (.list ((nxL a (ops k) k s calm).map fun t => stD (some t))), ?_⟩
  unfold gb_endings_6
  have S1 : (sSet 9 (eL (eCall F_next_states (aCons (oE (eV 0)) (aCons (oE (eV 4)) (aCons (oE (eV 7)) (aCons (oE (eV 1)) (aCons (oE (eV 2)) aNil)))))))) [.sh r, .sh op, .sh (.bool calm), s3, .sh (.int k), .sh (.list (tabsF a ops calm (k + 1))), s6, .sh (stD s), .od (tabD (cD a ops calm k) acc), s9, .no] = .nx [.sh r, .sh op, .sh (.bool calm), s3, .sh (.int k), .sh (.list (tabsF a ops calm (k + 1))), s6, .sh (stD s), .od (tabD (cD a ops calm k) acc), .sh (.list ((nxL a (ops k) k s calm).map fun t => stD (some t))), .no] := by
    generalize tabsF a ops calm (k + 1) = Ts at *
    generalize stD s = y at *
    generalize (nxL a (ops k) k s calm).map (fun t => stD (some t)) = E at *
    generalize tabD (cD a ops calm k) acc = kd at *
    clear h0
    walk_at "evh"
  refine seq_nx S1 ?_
  have lc : lcL [10] (gN 10) gYes ce_endings_5 ((nxL a (ops k) k s calm).map fun t => stD (some t)) [.sh r, .sh op, .sh (.bool calm), s3, .sh (.int k), .sh (.list (tabsF a ops calm (k + 1))), s6, .sh (stD s), .od (tabD (cD a ops calm k) acc), .sh (.list ((nxL a (ops k) k s calm).map fun t => stD (some t))), .no] = .ok ((nxL a (ops k) k s calm).map fun t => cD a ops calm (k + 1) (some t)) [.sh r, .sh op, .sh (.bool calm), s3, .sh (.int k), .sh (.list (tabsF a ops calm (k + 1))), s6, .sh (stD s), .od (tabD (cD a ops calm k) acc), .sh (.list ((nxL a (ops k) k s calm).map fun t => stD (some t))), .no] :=
    lc_emb1 fun t ht => ⟨[.sh r, .sh op, .sh (.bool calm), s3, .sh (.int k), .sh (.list (tabsF a ops calm (k + 1))), s6, .sh (stD s), .od (tabD (cD a ops calm k) acc), .sh (.list ((nxL a (ops k) k s calm).map fun t => stD (some t))), .sh (stD (some t))], rfl, rfl, en_e5 h0 (tab_at (lay_next hs ht))⟩
  have it : gSeq (eV 9) [.sh r, .sh op, .sh (.bool calm), s3, .sh (.int k), .sh (.list (tabsF a ops calm (k + 1))), s6, .sh (stD s), .od (tabD (cD a ops calm k) acc), .sh (.list ((nxL a (ops k) k s calm).map fun t => stD (some t))), .no] = .ok ((nxL a (ops k) k s calm).map fun t => stD (some t)) [.sh r, .sh op, .sh (.bool calm), s3, .sh (.int k), .sh (.list (tabsF a ops calm (k + 1))), s6, .sh (stD s), .od (tabD (cD a ops calm k) acc), .sh (.list ((nxL a (ops k) k s calm).map fun t => stD (some t))), .no] := rfl
  have ev := eL_ok (eLc_ok it (by rw [List.length_map]; exact size_of (by omega)) lc)
  have es : sumD [.list ((nxL a (ops k) k s calm).map fun t => cD a ops calm (k + 1) (some t))] = some (cD a ops calm k s) := by
    have := en_sum (ns := (nxL a (ops k) k s calm).map fun t => cntF a ops calm (a.length - (k + 1)) ((k + 1 : Nat) : Int) (some t))
    rw [List.map_map] at this
    rw [← cnt_step hk s] at this
    exact this
  have hom : Hom (s :: acc) := by
    have hh := lay_hom (a := a) (ops := ops) (calm := calm) k
    rcases hh with hh | hh
    · exact .inl fun x hx => (List.mem_cons.mp hx).elim (fun e => by rw [e]; exact hh s hs) fun h => hh x (ha x h)
    · exact .inr fun x hx => (List.mem_cons.mp hx).elim (fun e => by rw [e]; exact hh s hs) fun h => hh x (ha x h)
  have ef : (eApp sumD (aCons (oE (eL (eLc [10] (gSeq (eV 9)) (gN 10) gYes ce_endings_5))) aNil)) [.sh r, .sh op, .sh (.bool calm), s3, .sh (.int k), .sh (.list (tabsF a ops calm (k + 1))), s6, .sh (stD s), .od (tabD (cD a ops calm k) acc), .sh (.list ((nxL a (ops k) k s calm).map fun t => stD (some t))), .no] = .ok (cD a ops calm k s) [.sh r, .sh op, .sh (.bool calm), s3, .sh (.int k), .sh (.list (tabsF a ops calm (k + 1))), s6, .sh (stD s), .od (tabD (cD a ops calm k) acc), .sh (.list ((nxL a (ops k) k s calm).map fun t => stD (some t))), .no] := by
    generalize eL (eLc [10] (gSeq (eV 9)) (gN 10) gYes ce_endings_5) = g at *
    generalize (nxL a (ops k) k s calm).map (fun t => cD a ops calm (k + 1) (some t)) = E at *
    generalize cD a ops calm k s = c at *
    unfold eApp
    have ea : (aCons (oE g) aNil) [.sh r, .sh op, .sh (.bool calm), s3, .sh (.int k), .sh (.list (tabsF a ops calm (k + 1))), s6, .sh (stD s), .od (tabD (cD a ops calm k) acc), .sh (.list ((nxL a (ops k) k s calm).map fun t => stD (some t))), .no] = .ok [.val (.list E)] [.sh r, .sh op, .sh (.bool calm), s3, .sh (.int k), .sh (.list (tabsF a ops calm (k + 1))), s6, .sh (stD s), .od (tabD (cD a ops calm k) acc), .sh (.list ((nxL a (ops k) k s calm).map fun t => stD (some t))), .no] := by
      unfold aCons oE
      rw [ev]; rfl
    rw [ea, R.ok_bind]
    show R.lift (sumD [.list E]) _ = _
    rw [es]; rfl
  unfold sPutD
  rw [ef]
  show (if sortB (stD s) (tabD (cD a ops calm k) acc) = true ∧ (tabD (cD a ops calm k) acc).length < sizeLine then O.nx [.sh r, .sh op, .sh (.bool calm), s3, .sh (.int k), .sh (.list (tabsF a ops calm (k + 1))), s6, .sh (stD s), .od (dPut (tabD (cD a ops calm k) acc) (stD s) (cD a ops calm k s)), .sh (.list ((nxL a (ops k) k s calm).map fun t => stD (some t))), .no] else .bad) = _
  rw [if_pos ⟨sort_st hom, by unfold tabD; rw [List.length_map]; exact hz⟩, put_st (f := cD a ops calm k) (x := s) (d := cD a ops calm k s) rfl]
  unfold insS
  rw [if_neg hn]
theorem en_f6 {r op : D} {a : List Int} {ops : Int → List Opt} {calm : Bool} {k : Nat} {s3 s6 : Sl} (hr : Sq r (a.map .int)) (ho : OpsOk a ops op) (hk : k < a.length) : ∀ (ss : List Stt) {acc : List Stt} {s7 s9 : Sl}, acc ++ ss = layN a ops calm k →
    ∃ t7 t9, forL (gN 7) gb_endings_6 (ss.map stD) [.sh r, .sh op, .sh (.bool calm), s3, .sh (.int k), .sh (.list (tabsF a ops calm (k + 1))), s6, s7, .od (tabD (cD a ops calm k) acc), s9, .no] = .nx [.sh r, .sh op, .sh (.bool calm), s3, .sh (.int k), .sh (.list (tabsF a ops calm (k + 1))), s6, t7, .od (tabD (cD a ops calm k) (acc ++ ss)), t9, .no]
  | [], acc, s7, s9, _ => ⟨s7, s9, by rw [List.append_nil]; rfl⟩
  | s :: ss, acc, s7, s9, he => by
    have nd := lay_nodup (a := a) (ops := ops) (calm := calm) k
    have ll := lay_len' (a := a) (calm := calm) ho.few k
    rw [← he] at nd ll
    rw [List.length_append, List.length_cons] at ll
    have nn := List.nodup_append.mp nd
    have hn : s ∉ acc := fun z => nn.2.2 s z s List.mem_cons_self rfl
    obtain ⟨t9, e1⟩ := en_b6 (s3 := s3) (s6 := s6) (s9 := s9) (acc := acc) (s := s) hr ho hk (by rw [← he]; simp) (fun x hx => by rw [← he]; exact List.mem_append_left _ hx) hn (size_lt (by omega))
    obtain ⟨u7, u9, e2⟩ := en_f6 hr ho hk ss (acc := acc ++ [s]) (s7 := .sh (stD s)) (s9 := t9) (by rw [List.append_assoc]; exact he)
    refine ⟨u7, u9, for_cons (ρ1 := [.sh r, .sh op, .sh (.bool calm), s3, .sh (.int k), .sh (.list (tabsF a ops calm (k + 1))), s6, .sh (stD s), .od (tabD (cD a ops calm k) acc), s9, .no]) rfl e1 (e2.trans ?_)⟩
    rw [List.append_assoc]; rfl
theorem lay_ix {a : List Int} {ops : Int → List Opt} {calm : Bool} {m k : Nat} (h : k < m) : atI ((List.range m).map (layD a ops calm)) (k : Int) = some (layD a ops calm k) := by
  refine atI_of (n := k) (by omega) ?_
  rw [List.getElem?_map, List.getElem?_range h]; rfl
theorem ow_src2 {s0 s1 s2 s5 s6 s7 s8 s9 s10 : Sl} {L E : List D} {p : Int} (h : atI L p = some (.list E)) : (gSeq (eOp2 ixD (oV 3) (oE (eV 4)))) [s0, s1, s2, .ow L, .sh (.int p), s5, s6, s7, s8, s9, s10] = .ok E [s0, s1, s2, .ow L, .sh (.int p), s5, s6, s7, s8, s9, s10] := by
  have it : itemsD (.list E) = some E := rfl
  walk_at "evh"
theorem en_b7 {r op : D} {a : List Int} {ops : Int → List Opt} {calm : Bool} {k : Nat} {s6 s7 s8 s9 : Sl} (hr : Sq r (a.map .int)) (ho : OpsOk a ops op) (hk : k < a.length) (hl : a.length ≤ 60) :
    ∃ t7 t8 t9, gb_endings_7 [.sh r, .sh op, .sh (.bool calm), .ow ((List.range (a.length + 1)).map (layD a ops calm)), .sh (.int k), .sh (.list (tabsF a ops calm (k + 1))), s6, s7, s8, s9, .no] = .nx [.sh r, .sh op, .sh (.bool calm), .ow ((List.range (a.length + 1)).map (layD a ops calm)), .sh (.int k), .sh (.list (tabsF a ops calm k)), s6, t7, t8, t9, .no] := by
  obtain ⟨t7, t9, e⟩ := en_f6 (s3 := .ow ((List.range (a.length + 1)).map (layD a ops calm))) (s6 := s6) hr ho hk (layN a ops calm k) (acc := []) (s7 := s7) (s9 := s9) rfl
  refine ⟨t7, .sh (tabK a ops calm k), t9, ?_⟩
  unfold gb_endings_7
  refine seq_nx (ρ1 := [.sh r, .sh op, .sh (.bool calm), .ow ((List.range (a.length + 1)).map (layD a ops calm)), .sh (.int k), .sh (.list (tabsF a ops calm (k + 1))), s6, s7, .od (tabD (cD a ops calm k) []), s9, .no]) rfl (seq_nx (sFor_nx (ow_src2 (lay_ix (by omega))) e) ?_)
  rw [List.nil_append]
  show sSet 5 _ [.sh r, .sh op, .sh (.bool calm), .ow ((List.range (a.length + 1)).map (layD a ops calm)), .sh (.int k), .sh (.list (tabsF a ops calm (k + 1))), s6, t7, .sh (tabK a ops calm k), t9, .no] = _
  have ad : addU (.list [tabK a ops calm k]) (.list (tabsF a ops calm (k + 1))) = some (.list (tabsF a ops calm k)) := by
    rw [tabs_cons (show k ≤ a.length by omega)]
    rw [addLL (by
      have : (tabsF a ops calm (k + 1)).length = a.length + 1 - (k + 1) := by unfold tabsF; rw [List.length_map, List.length_range]
      rw [this]; simp; omega)]; rfl
  have z : 1 ≤ sizeLine := by decide
  generalize tabsF a ops calm (k + 1) = Ts at *
  generalize tabsF a ops calm k = Us at *
  generalize tabK a ops calm k = T at *
  generalize (List.range (a.length + 1)).map (layD a ops calm) = L at *
  clear e
  walk_at "evh"
end W

namespace W
open PySem L2 DL
local macro_rules | `(tactic| walk_at "ev") => `(tactic| simp only [eC, eV, oE, oV, eL, eT, aNil, aCons, eOp2, eOp1, eApp, tstE, eB, tNotG, tAndG, tOrG, eAndG, eOrG, eNotG, eIf, eSeq, eCall, eCallO, eCallB, eCallBF, eCallBX, sSeq, sNext, sRet, sRetF, sRetO, sRetN, sDrop, sIf, sSet, sSetO, sBreak, sCont, sBad, sPar, sPar3, fz, sFz, eCallW, idL, sApp, sPutIx, sAug, sFor, gN, gT, gsCons, gsNil, gYes, eLc, gSeq, nS, nF, Nw.sl, R.ok_bind, R.ok_map, R.lift_some, to_ok, toX_ok, toX_ex, bind_nx, bind_rt, bind_rf, bind_ex, bind_bk, bind_ct, at_ok, at_ex, res_val, map_ex, rbind_ex, Op.res, resA, valA, isOw, box0, Option.map_some, Option.bind_some, sHeardT, nlCons, nlNil, Nw.dat, mSet, eChain, eRg1, eRg2, eSl, pNo, pSo,
  List.getElem?_cons_zero, List.getElem?_cons_succ, List.set_cons_zero, List.set_cons_succ, List.length_cons, List.length_nil, if_true, if_false, Bool.false_eq_true, ite_true, ite_false, reduceIte,
  addU_int, subD_int, ltD_int, leD_int, gtD_int, geD_int, negD_int, absD_int, intD_bool, intD_int, lenD_list, lenD_tuple, lenD_scr, pow10_7, pow10_18, pow10_40, eqW_ints, neW_ints, eqW_strs, neW_strs, eqW_none, eqW_in, eqW_ni, ixD_list, ixD_tuple, ixD_scr, atI_3_0, atI_3_1, atI_3_2, ixN_3_0, ixN_3_1, ixN_3_2, wipeR, zip2D, skOf, isiD_n, isiD_b, isiD_i, isiD_s, isiD_l, isiD_t, isiTD_n, isiTD_b, isiTD_i, isiTD_s, isiTD_l, isiTD_t, isiAny, eCallX, eCallWX, xE, xIf, xL, xCb1, sSetX, sRetX, sDropX, sRaise, sTo, eMk, isX_n, sKeep, kt_ll, kt_lt, kt_ls, kt_li, kt_lb, kt_tl, kt_tt, kt_ts, kt_ti, kt_tb, kt_sl, kt_st, kt_ss, kt_si, kt_sb, kt_il, kt_it, kt_is, kt_ii, kt_ib, kt_bl, kt_bt, kt_bs, kt_bi, kt_bb, kt_nl, kt_nt, kt_ns, kt_ni, kt_nb, eqW_bools, neW_bools, isD_none, isNotD_none, isNoneD, isNone_e, List.map_cons, List.map_nil, List.replicate, List.append_nil, List.cons_append, List.nil_append, nc0, nc1, nc2, nc3, nc4, nc5, nc6, nc7, nc8, nc9, nc10, nc11, nc12, nc13, nc14, nc15, nc16, nc17, nc18, nc19, nc20, Nat.reduceAdd, Nat.reduceSub, ne_eq, decide_true, decide_false, not_true_eq_false, not_false_eq_true, reduceCtorEq, Bool.and_true, Bool.true_and, Bool.and_false, Bool.false_and, Bool.or_true, Bool.true_or, Bool.or_false, Bool.false_or, Bool.not_true, Bool.not_false])
local macro_rules | `(tactic| walk_at "evh") => `(tactic| simp only [eC, eV, oE, oV, eL, eT, aNil, aCons, eOp2, eOp1, eApp, tstE, eB, tNotG, tAndG, tOrG, eAndG, eOrG, eNotG, eIf, eSeq, eCall, eCallO, eCallB, eCallBF, eCallBX, sSeq, sNext, sRet, sRetF, sRetO, sRetN, sDrop, sIf, sSet, sSetO, sBreak, sCont, sBad, sPar, sPar3, fz, sFz, eCallW, idL, sApp, sPutIx, sAug, sFor, gN, gT, gsCons, gsNil, gYes, eLc, gSeq, nS, nF, Nw.sl, R.ok_bind, R.ok_map, R.lift_some, to_ok, toX_ok, toX_ex, bind_nx, bind_rt, bind_rf, bind_ex, bind_bk, bind_ct, at_ok, at_ex, res_val, map_ex, rbind_ex, Op.res, resA, valA, isOw, box0, Option.map_some, Option.bind_some, sHeardT, nlCons, nlNil, Nw.dat, mSet, eChain, eRg1, eRg2, eSl, pNo, pSo,
  List.getElem?_cons_zero, List.getElem?_cons_succ, List.set_cons_zero, List.set_cons_succ, List.length_cons, List.length_nil, if_true, if_false, Bool.false_eq_true, ite_true, ite_false, reduceIte,
  addU_int, subD_int, ltD_int, leD_int, gtD_int, geD_int, negD_int, absD_int, intD_bool, intD_int, lenD_list, lenD_tuple, lenD_scr, pow10_7, pow10_18, pow10_40, eqW_ints, neW_ints, eqW_strs, neW_strs, eqW_none, eqW_in, eqW_ni, ixD_list, ixD_tuple, ixD_scr, atI_3_0, atI_3_1, atI_3_2, ixN_3_0, ixN_3_1, ixN_3_2, wipeR, zip2D, skOf, isiD_n, isiD_b, isiD_i, isiD_s, isiD_l, isiD_t, isiTD_n, isiTD_b, isiTD_i, isiTD_s, isiTD_l, isiTD_t, isiAny, eCallX, eCallWX, xE, xIf, xL, xCb1, sSetX, sRetX, sDropX, sRaise, sTo, eMk, isX_n, sKeep, kt_ll, kt_lt, kt_ls, kt_li, kt_lb, kt_tl, kt_tt, kt_ts, kt_ti, kt_tb, kt_sl, kt_st, kt_ss, kt_si, kt_sb, kt_il, kt_it, kt_is, kt_ii, kt_ib, kt_bl, kt_bt, kt_bs, kt_bi, kt_bb, kt_nl, kt_nt, kt_ns, kt_ni, kt_nb, eqW_bools, neW_bools, isD_none, isNotD_none, isNoneD, isNone_e, List.map_cons, List.map_nil, List.replicate, List.append_nil, List.cons_append, List.nil_append, nc0, nc1, nc2, nc3, nc4, nc5, nc6, nc7, nc8, nc9, nc10, nc11, nc12, nc13, nc14, nc15, nc16, nc17, nc18, nc19, nc20, Nat.reduceAdd, Nat.reduceSub, ne_eq, decide_true, decide_false, not_true_eq_false, not_false_eq_true, reduceCtorEq, Bool.and_true, Bool.true_and, Bool.and_false, Bool.false_and, Bool.or_true, Bool.true_or, Bool.or_false, Bool.false_or, Bool.not_true, Bool.not_false, *])
/-! endings, whole; rows_many, row_with, lesser_rows -/
theorem en_t {r op : D} {a : List Int} {ops : Int → List Opt} {calm : Bool} {L E : List D} {s4 s6 s7 s8 s9 : Sl} {T : D} (h : atI L (-1) = some (.list E)) {Y : List D}
    (hz : E.length ≤ sizeLine) (lc : lcL [7] (gN 7) gYes ce_endings_4 E [.sh r, .sh op, .sh (.bool calm), .ow L, s4, .no, s6, .no, s8, s9, .no] = .ok Y [.sh r, .sh op, .sh (.bool calm), .ow L, s4, .no, s6, .no, s8, s9, .no]) (hd : dDictD [.list Y] = some T) :
    (sSet 5 (eL (eSeq (aCons (oE (eApp dDictD (aCons (oE (eL (eLc [7] (gSeq (eOp2 ixD (oV 3) (oE (eOp1 negD (oE (eC (.int 1))))))) (gN 7) gYes ce_endings_4))) aNil))) aNil)))) [.sh r, .sh op, .sh (.bool calm), .ow L, s4, .no, s6, s7, s8, s9, .no] = .nx [.sh r, .sh op, .sh (.bool calm), .ow L, s4, .sh (.list [T]), s6, .no, s8, s9, .no] := by
  have ev := eL_ok (eLc_ok (ow_src (s0 := .sh r) (s1 := .sh op) (s2 := .sh (.bool calm)) (s4 := s4) (s5 := .no) (s6 := s6) (s7 := s7) (s8 := s8) (s9 := s9) (s10 := .no) h) hz lc)
  have z : 1 ≤ sizeLine := by decide
  generalize eL (eLc [7] (gSeq (eOp2 ixD (oV 3) (oE (eOp1 negD (oE (eC (.int 1))))))) (gN 7) gYes ce_endings_4) = g at *
  clear lc h
  have e2 : g [.sh r, .sh op, .sh (.bool calm), .ow L, s4, .no, s6, s7, s8, s9, .no] = .ok (.list Y) [.sh r, .sh op, .sh (.bool calm), .ow L, s4, .no, s6, .no, s8, s9, .no] := ev
  clear ev
  walk_at "evh"
theorem en_down {r op : D} {a : List Int} {ops : Int → List Opt} {calm : Bool} {s4 s6 s7 s8 s9 : Sl} (hr : Sq r (a.map .int)) (ho : OpsOk a ops op) (hl : a.length ≤ 60) :
    ∃ t4 t7 t8 t9, forL (gN 4) gb_endings_7 (downD ((a.length : Int) - 1) a.length) [.sh r, .sh op, .sh (.bool calm), .ow ((List.range (a.length + 1)).map (layD a ops calm)), s4, .sh (.list (tabsF a ops calm a.length)), s6, s7, s8, s9, .no] = .nx [.sh r, .sh op, .sh (.bool calm), .ow ((List.range (a.length + 1)).map (layD a ops calm)), t4, .sh (.list (tabsF a ops calm 0)), s6, t7, t8, t9, .no] := by
  obtain ⟨ρ', e, t4, t7, t8, t9, rfl⟩ := for_inv (k := gN 4) (b := gb_endings_7) (ds := downD ((a.length : Int) - 1) a.length)
    (fun i ρ => ∃ t4 t7 t8 t9, ρ = [.sh r, .sh op, .sh (.bool calm), .ow ((List.range (a.length + 1)).map (layD a ops calm)), t4, .sh (.list (tabsF a ops calm (a.length - i))), s6, t7, t8, t9, .no])
    (fun i d ρ hd hh => by
      have hi : i < a.length := by
        have := (List.getElem?_eq_some_iff.mp hd).1
        rw [downD_len] at this; exact this
      rw [downD_get hi] at hd
      injection hd with hd
      subst hd
      obtain ⟨t4, t7, t8, t9, rfl⟩ := hh
      have ek : (a.length : Int) - 1 + (i : Nat) * (-1) = ((a.length - (i + 1) : Nat) : Int) := by omega
      rw [ek]
      have e1 : a.length - i = a.length - (i + 1) + 1 := by omega
      rw [e1]
      obtain ⟨u7, u8, u9, e⟩ := en_b7 (k := a.length - (i + 1)) (calm := calm) (s6 := s6) (s7 := t7) (s8 := t8) (s9 := t9) hr ho (by omega) hl
      exact ⟨[.sh r, .sh op, .sh (.bool calm), .ow ((List.range (a.length + 1)).map (layD a ops calm)), .sh (.int ((a.length - (i + 1) : Nat) : Int)), .sh (.list (tabsF a ops calm (a.length - (i + 1) + 1))), s6, t7, t8, t9, .no], rfl, _, .inl e, .sh (.int ((a.length - (i + 1) : Nat) : Int)), u7, u8, u9, rfl⟩)
    (ρ := [.sh r, .sh op, .sh (.bool calm), .ow ((List.range (a.length + 1)).map (layD a ops calm)), s4, .sh (.list (tabsF a ops calm a.length)), s6, s7, s8, s9, .no]) ⟨s4, s7, s8, s9, rfl⟩
  rw [downD_len, Nat.sub_self] at e
  exact ⟨t4, t7, t8, t9, e⟩
theorem en_r1 {r x : D} {n : Int} {M : List D} {s1 s2 s3 s4 s5 s6 s7 s8 s9 s10 : Sl} (hl : lenD [r] = some (.int n)) (hm : rng1 [.int n] = some M) : (eCall rng1 (aCons (oE (eApp lenD (aCons (oE (eV 0)) aNil))) aNil)) [.sh r, s1, s2, s3, s4, s5, s6, s7, s8, s9, s10] = .ok M [.sh r, s1, s2, s3, s4, s5, s6, s7, s8, s9, s10] := by
  walk_at "evh"
theorem en_r3 {r x : D} {n : Int} {M : List D} {s1 s2 s3 s4 s5 s6 s7 s8 s9 s10 : Sl} (hl : lenD [r] = some (.int n)) (hm : rng3 [.int (n - 1), .int (-1), .int (-1)] = some M) : (eCall rng3 (aCons (oE (eOp2 subD (oE (eApp lenD (aCons (oE (eV 0)) aNil))) (oE (eC (.int 1))))) (aCons (oE (eOp1 negD (oE (eC (.int 1))))) (aCons (oE (eOp1 negD (oE (eC (.int 1))))) aNil)))) [.sh r, s1, s2, s3, s4, s5, s6, s7, s8, s9, s10] = .ok M [.sh r, s1, s2, s3, s4, s5, s6, s7, s8, s9, s10] := by
  walk_at "evh"
theorem en_1 {r op : D} {calm : Bool} : (sSetO 3 (eSeq (aCons (oE (eL (eSeq (aCons (oE (eC .none)) aNil)))) aNil))) [.sh r, .sh op, .sh (.bool calm), .no, .no, .no, .no, .no, .no, .no, .no] = .nx [.sh r, .sh op, .sh (.bool calm), .ow [.list [.none]], .no, .no, .no, .no, .no, .no, .no] := by
  have z : 1 ≤ sizeLine := by decide
  walk_at "evh"
theorem en_eq {r op : D} {a : List Int} {ops : Int → List Opt} {calm : Bool} (hr : Sq r (a.map .int)) (ho : OpsOk a ops op) (hl : a.length ≤ 60) : F_endings [r, op, .bool calm] = some (.list (tabsF a ops calm 0)) := by
  obtain ⟨t4, t6, t7, t9, e1⟩ := en_lay (calm := calm) (s4 := .no) (s5 := .no) (s6 := .no) (s7 := .no) (s8 := .no) (s9 := .no) (s10 := .no) hr ho hl
  obtain ⟨u4, u7, u8, u9, e2⟩ := en_down (calm := calm) (s4 := t4) (s6 := t6) (s7 := .no) (s8 := .no) (s9 := t9) hr ho hl
  have rl := hr.leni
  have m1 : rng1 [.int (a.length : Int)] = some (rangeD 0 a.length) := by
    have := rng1_eq (m := (a.length : Int)) (by omega) (by omega)
    rw [this, Int.toNat_natCast]
  have m3 : rng3 [.int ((a.length : Int) - 1), .int (-1), .int (-1)] = some (downD ((a.length : Int) - 1) a.length) := by
    show (if -(2 ^ 62) ≤ (a.length : Int) - 1 ∧ (a.length : Int) - 1 < 2 ^ 62 ∧ -(2 ^ 62) ≤ (-1 : Int) ∧ (-1 : Int) < 2 ^ 62 then some (downD ((a.length : Int) - 1) ((a.length : Int) - 1 - (-1)).toNat) else none) = _
    rw [if_pos (by omega), show ((a.length : Int) - 1 - (-1)).toNat = a.length by omega]
  have la : atI ((List.range (a.length + 1)).map (layD a ops calm)) (-1) = some (.list ((layN a ops calm a.length).map stD)) := by
    rw [List.range_succ, List.map_append]
    exact DL.atI_last _ _
  have ll := lay_len' (a := a) (calm := calm) ho.few a.length
  have lc : lcL [7] (gN 7) gYes ce_endings_4 ((layN a ops calm a.length).map stD) [.sh r, .sh op, .sh (.bool calm), .ow ((List.range (a.length + 1)).map (layD a ops calm)), t4, .no, t6, .no, .no, t9, .no] = .ok ((layN a ops calm a.length).map fun s => .tuple [stD s, cD a ops calm a.length s]) [.sh r, .sh op, .sh (.bool calm), .ow ((List.range (a.length + 1)).map (layD a ops calm)), t4, .no, t6, .no, .no, t9, .no] :=
    lc_emb1 fun s _ => ⟨[.sh r, .sh op, .sh (.bool calm), .ow ((List.range (a.length + 1)).map (layD a ops calm)), t4, .no, t6, .sh (stD s), .no, t9, .no], rfl, rfl, en_e4⟩
  have hd := dict_st (f := cD a ops calm a.length) (lay_hom (a := a) (ops := ops) (calm := calm) a.length) (lay_nodup a.length)
  have S3 := en_t (s7 := t7) (a := a) (ops := ops) la (by rw [List.length_map]; exact size_of (by omega)) lc hd
  have et : tabsF a ops calm a.length = [tabK a ops calm a.length] := by
    rw [tabs_cons (Nat.le_refl _)]
    unfold tabsF
    rw [Nat.sub_self]; rfl
  rw [et] at e2
  exact callP_rt rfl (seq_nx en_1 (seq_nx (sFor_nx (en_r1 (x := .none) rl m1) e1) (seq_nx S3 (seq_nx (sFor_nx (en_r3 (x := .none) rl m3) e2) rfl))))
theorem tabs_ix {a : List Int} {ops : Int → List Opt} {calm : Bool} {k : Nat} (h : k ≤ a.length) : ixD (.list (tabsF a ops calm 0)) (.int (k : Int)) = some (tabK a ops calm k) := by
  show atI (tabsF a ops calm 0) (k : Int) = _
  refine atI_of (n := k) rfl ?_
  unfold tabsF
  rw [List.getElem?_map, List.getElem?_range (by omega), Option.map_some, Nat.zero_add]
theorem many_eq {r w : D} {a : List Int} {ops : Int → List Opt} {calm : Bool} {O : List D} (hr : Sq r (a.map .int)) (hF : F_options_of [r, w] = some O) (ho : OpsOk a ops (.list O)) (hl : a.length ≤ 60) : F_rows_many [r, w, .bool calm] = some (.int (cntF a ops calm a.length 0 none : Nat)) := by
  have e := en_eq (calm := calm) hr ho hl
  have i0 : atI (tabsF a ops calm 0) 0 = some (tabK a ops calm 0) := tabs_ix (k := 0) (by omega)
  have g0 : dGetD (tabK a ops calm 0) .none = some (.int (cntF a ops calm a.length 0 none : Nat)) := tab_at (k := 0) (s := none) (List.mem_singleton.mpr rfl)
  generalize tabsF a ops calm 0 = Ts at *
  generalize tabK a ops calm 0 = T at *
  generalize (PyData.int (cntF a ops calm a.length 0 none : Nat)) = c at *
  clear ho
  unfold F_rows_many callP g_rows_many env0
  walk_at "evh"
end W

namespace W
open PySem L2 DL
local macro_rules | `(tactic| walk_at "ev") => `(tactic| simp only [eC, eV, oE, oV, eL, eT, aNil, aCons, eOp2, eOp1, eApp, tstE, eB, tNotG, tAndG, tOrG, eAndG, eOrG, eNotG, eIf, eSeq, eCall, eCallO, eCallB, eCallBF, eCallBX, sSeq, sNext, sRet, sRetF, sRetO, sRetN, sDrop, sIf, sSet, sSetO, sBreak, sCont, sBad, sPar, sPar3, fz, sFz, eCallW, idL, sApp, sPutIx, sAug, sFor, gN, gT, gsCons, gsNil, gYes, eLc, gSeq, nS, nF, Nw.sl, R.ok_bind, R.ok_map, R.lift_some, to_ok, toX_ok, toX_ex, bind_nx, bind_rt, bind_rf, bind_ex, bind_bk, bind_ct, at_ok, at_ex, res_val, map_ex, rbind_ex, Op.res, resA, valA, isOw, box0, Option.map_some, Option.bind_some, sHeardT, nlCons, nlNil, Nw.dat, mSet, eChain, eRg1, eRg2, eSl, pNo, pSo,
  List.getElem?_cons_zero, List.getElem?_cons_succ, List.set_cons_zero, List.set_cons_succ, List.length_cons, List.length_nil, if_true, if_false, Bool.false_eq_true, ite_true, ite_false, reduceIte,
  addU_int, subD_int, ltD_int, leD_int, gtD_int, geD_int, negD_int, absD_int, intD_bool, intD_int, lenD_list, lenD_tuple, lenD_scr, pow10_7, pow10_18, pow10_40, eqW_ints, neW_ints, eqW_strs, neW_strs, eqW_none, eqW_in, eqW_ni, ixD_list, ixD_tuple, ixD_scr, atI_3_0, atI_3_1, atI_3_2, ixN_3_0, ixN_3_1, ixN_3_2, wipeR, zip2D, skOf, isiD_n, isiD_b, isiD_i, isiD_s, isiD_l, isiD_t, isiTD_n, isiTD_b, isiTD_i, isiTD_s, isiTD_l, isiTD_t, isiAny, eCallX, eCallWX, xE, xIf, xL, xCb1, sSetX, sRetX, sDropX, sRaise, sTo, eMk, isX_n, sKeep, kt_ll, kt_lt, kt_ls, kt_li, kt_lb, kt_tl, kt_tt, kt_ts, kt_ti, kt_tb, kt_sl, kt_st, kt_ss, kt_si, kt_sb, kt_il, kt_it, kt_is, kt_ii, kt_ib, kt_bl, kt_bt, kt_bs, kt_bi, kt_bb, kt_nl, kt_nt, kt_ns, kt_ni, kt_nb, eqW_bools, neW_bools, isD_none, isNotD_none, isNoneD, isNone_e, List.map_cons, List.map_nil, List.replicate, List.append_nil, List.cons_append, List.nil_append, nc0, nc1, nc2, nc3, nc4, nc5, nc6, nc7, nc8, nc9, nc10, nc11, nc12, nc13, nc14, nc15, nc16, nc17, nc18, nc19, nc20, Nat.reduceAdd, Nat.reduceSub, ne_eq, decide_true, decide_false, not_true_eq_false, not_false_eq_true, reduceCtorEq, Bool.and_true, Bool.true_and, Bool.and_false, Bool.false_and, Bool.or_true, Bool.true_or, Bool.or_false, Bool.false_or, Bool.not_true, Bool.not_false])
local macro_rules | `(tactic| walk_at "evh") => `(tactic| simp only [eC, eV, oE, oV, eL, eT, aNil, aCons, eOp2, eOp1, eApp, tstE, eB, tNotG, tAndG, tOrG, eAndG, eOrG, eNotG, eIf, eSeq, eCall, eCallO, eCallB, eCallBF, eCallBX, sSeq, sNext, sRet, sRetF, sRetO, sRetN, sDrop, sIf, sSet, sSetO, sBreak, sCont, sBad, sPar, sPar3, fz, sFz, eCallW, idL, sApp, sPutIx, sAug, sFor, gN, gT, gsCons, gsNil, gYes, eLc, gSeq, nS, nF, Nw.sl, R.ok_bind, R.ok_map, R.lift_some, to_ok, toX_ok, toX_ex, bind_nx, bind_rt, bind_rf, bind_ex, bind_bk, bind_ct, at_ok, at_ex, res_val, map_ex, rbind_ex, Op.res, resA, valA, isOw, box0, Option.map_some, Option.bind_some, sHeardT, nlCons, nlNil, Nw.dat, mSet, eChain, eRg1, eRg2, eSl, pNo, pSo,
  List.getElem?_cons_zero, List.getElem?_cons_succ, List.set_cons_zero, List.set_cons_succ, List.length_cons, List.length_nil, if_true, if_false, Bool.false_eq_true, ite_true, ite_false, reduceIte,
  addU_int, subD_int, ltD_int, leD_int, gtD_int, geD_int, negD_int, absD_int, intD_bool, intD_int, lenD_list, lenD_tuple, lenD_scr, pow10_7, pow10_18, pow10_40, eqW_ints, neW_ints, eqW_strs, neW_strs, eqW_none, eqW_in, eqW_ni, ixD_list, ixD_tuple, ixD_scr, atI_3_0, atI_3_1, atI_3_2, ixN_3_0, ixN_3_1, ixN_3_2, wipeR, zip2D, skOf, isiD_n, isiD_b, isiD_i, isiD_s, isiD_l, isiD_t, isiTD_n, isiTD_b, isiTD_i, isiTD_s, isiTD_l, isiTD_t, isiAny, eCallX, eCallWX, xE, xIf, xL, xCb1, sSetX, sRetX, sDropX, sRaise, sTo, eMk, isX_n, sKeep, kt_ll, kt_lt, kt_ls, kt_li, kt_lb, kt_tl, kt_tt, kt_ts, kt_ti, kt_tb, kt_sl, kt_st, kt_ss, kt_si, kt_sb, kt_il, kt_it, kt_is, kt_ii, kt_ib, kt_bl, kt_bt, kt_bs, kt_bi, kt_bb, kt_nl, kt_nt, kt_ns, kt_ni, kt_nb, eqW_bools, neW_bools, isD_none, isNotD_none, isNoneD, isNone_e, List.map_cons, List.map_nil, List.replicate, List.append_nil, List.cons_append, List.nil_append, nc0, nc1, nc2, nc3, nc4, nc5, nc6, nc7, nc8, nc9, nc10, nc11, nc12, nc13, nc14, nc15, nc16, nc17, nc18, nc19, nc20, Nat.reduceAdd, Nat.reduceSub, ne_eq, decide_true, decide_false, not_true_eq_false, not_false_eq_true, reduceCtorEq, Bool.and_true, Bool.true_and, Bool.and_false, Bool.false_and, Bool.or_true, Bool.true_or, Bool.or_false, Bool.false_or, Bool.not_true, Bool.not_false, *])
/-! futures_many, future_at, future_number -/
theorem rep_n {n : Nat} {x : D} (h : n ≤ 1000) : mulV (.list [x]) (.int (n : Nat)) = some (.list (List.replicate n x)) := by
  have := repLk (xs := [x]) (k := n) (by omega) (by rw [List.length_singleton]; omega)
  rw [List.flatten_replicate_singleton] at this
  exact this
theorem repL_n {n : Nat} {x : D} (h : n ≤ 100000) : repL (.list [x]) (.int (n : Nat)) = some (List.replicate n x) := by
  unfold repL
  dsimp only
  rw [Int.toNat_natCast, if_pos ⟨by omega, by omega, by rw [List.length_singleton, Nat.one_mul]; exact size_of h⟩, List.flatten_replicate_singleton]
theorem fw_go {r : D} {n : Int} {w : List D} (hl : lenD [r] = some (.int n)) (h : repL (.list [.none]) (.int n) = some w) : F_free_wish [r] = some w := by
  have z : 1 ≤ sizeLine := by decide
  unfold F_free_wish callF g_free_wish env0
  walk_at "evh"
theorem fw_eq {r : D} {a : List Int} (hr : Sq r (a.map .int)) (hl : a.length < 60) : F_free_wish [r] = some (List.replicate a.length .none) := fw_go hr.leni (repL_n (by omega))
def freeO (a : List Int) : List D := (rngI 0 a.length).map fun p => .list ((optA a p).map opt2D)
theorem wAt_none (n : Nat) (p : Int) : wAt (List.replicate n none) p = none := by
  unfold wAt
  rw [List.getElem?_replicate]
  split <;> rfl
theorem optW_free (a : List Int) (n : Nat) (p : Int) : optW a (List.replicate n none) p = optA a p := by
  unfold optW
  rw [wAt_none]
  exact List.filter_eq_self.mpr fun _ _ => rfl
theorem free_opts {r : D} {a : List Int} (hr : Sq r (a.map .int)) (hl : a.length < 60) : F_options_of [r, .list (List.replicate a.length .none)] = some (freeO a) := by
  have := opts_eq (q := .list (List.replicate a.length .none)) (W := List.replicate a.length none) hr (by rw [List.map_replicate]; exact Sq.l _) List.length_replicate hl
  rw [this]
  congr 1
  refine List.map_congr_left fun p _ => ?_
  rw [optW_free]
theorem free_ok {a : List Int} (hl : a.length < 60) : OpsOk a (optA a) (.list (freeO a)) where
  ix := fun p h0 h1 => by
    show atI (freeO a) p = _
    refine atI_of' h0 ?_
    unfold freeO rngI
    rw [List.getElem?_map, List.getElem?_map, List.getElem?_range (by omega), Option.map_some, Option.map_some]
    rw [show (0 : Int) + (p.toNat : Int) = p by omega]
  few := fun p => by have := optA_len a p; omega
theorem fm_go {r : D} {w : List D} {m : D} (e1 : F_free_wish [r] = some w) (e2 : F_rows_many [r, .list w, .bool false] = some m) : F_futures_many [r] = some m := by
  unfold F_futures_many callP g_futures_many env0
  walk_at "evh"
theorem fut_many {r : D} {a : List Int} (hr : Sq r (a.map .int)) (hl : a.length < 60) : F_futures_many [r] = some (.int ((folR a).length : Nat)) := by
  rw [fol_len]
  exact fm_go (fw_eq hr hl) (many_eq hr (free_opts hr hl) (free_ok hl) (by omega))
end W

namespace W
open PySem L2 DL
local macro_rules | `(tactic| walk_at "ev") => `(tactic| simp only [eC, eV, oE, oV, eL, eT, aNil, aCons, eOp2, eOp1, eApp, tstE, eB, tNotG, tAndG, tOrG, eAndG, eOrG, eNotG, eIf, eSeq, eCall, eCallO, eCallB, eCallBF, eCallBX, sSeq, sNext, sRet, sRetF, sRetO, sRetN, sDrop, sIf, sSet, sSetO, sBreak, sCont, sBad, sPar, sPar3, fz, sFz, eCallW, idL, sApp, sPutIx, sAug, sFor, gN, gT, gsCons, gsNil, gYes, eLc, gSeq, nS, nF, Nw.sl, R.ok_bind, R.ok_map, R.lift_some, to_ok, toX_ok, toX_ex, bind_nx, bind_rt, bind_rf, bind_ex, bind_bk, bind_ct, at_ok, at_ex, res_val, map_ex, rbind_ex, Op.res, resA, valA, isOw, box0, Option.map_some, Option.bind_some, sHeardT, nlCons, nlNil, Nw.dat, mSet, eChain, eRg1, eRg2, eSl, pNo, pSo,
  List.getElem?_cons_zero, List.getElem?_cons_succ, List.set_cons_zero, List.set_cons_succ, List.length_cons, List.length_nil, if_true, if_false, Bool.false_eq_true, ite_true, ite_false, reduceIte,
  addU_int, subD_int, ltD_int, leD_int, gtD_int, geD_int, negD_int, absD_int, intD_bool, intD_int, lenD_list, lenD_tuple, lenD_scr, pow10_7, pow10_18, pow10_40, eqW_ints, neW_ints, eqW_strs, neW_strs, eqW_none, eqW_in, eqW_ni, ixD_list, ixD_tuple, ixD_scr, atI_3_0, atI_3_1, atI_3_2, ixN_3_0, ixN_3_1, ixN_3_2, wipeR, zip2D, skOf, isiD_n, isiD_b, isiD_i, isiD_s, isiD_l, isiD_t, isiTD_n, isiTD_b, isiTD_i, isiTD_s, isiTD_l, isiTD_t, isiAny, eCallX, eCallWX, xE, xIf, xL, xCb1, sSetX, sRetX, sDropX, sRaise, sTo, eMk, isX_n, sKeep, kt_ll, kt_lt, kt_ls, kt_li, kt_lb, kt_tl, kt_tt, kt_ts, kt_ti, kt_tb, kt_sl, kt_st, kt_ss, kt_si, kt_sb, kt_il, kt_it, kt_is, kt_ii, kt_ib, kt_bl, kt_bt, kt_bs, kt_bi, kt_bb, kt_nl, kt_nt, kt_ns, kt_ni, kt_nb, eqW_bools, neW_bools, isD_none, isNotD_none, isNoneD, isNone_e, List.map_cons, List.map_nil, List.replicate, List.append_nil, List.cons_append, List.nil_append, nc0, nc1, nc2, nc3, nc4, nc5, nc6, nc7, nc8, nc9, nc10, nc11, nc12, nc13, nc14, nc15, nc16, nc17, nc18, nc19, nc20, Nat.reduceAdd, Nat.reduceSub, ne_eq, decide_true, decide_false, not_true_eq_false, not_false_eq_true, reduceCtorEq, Bool.and_true, Bool.true_and, Bool.and_false, Bool.false_and, Bool.or_true, Bool.true_or, Bool.or_false, Bool.false_or, Bool.not_true, Bool.not_false])
local macro_rules | `(tactic| walk_at "evh") => `(tactic| simp only [eC, eV, oE, oV, eL, eT, aNil, aCons, eOp2, eOp1, eApp, tstE, eB, tNotG, tAndG, tOrG, eAndG, eOrG, eNotG, eIf, eSeq, eCall, eCallO, eCallB, eCallBF, eCallBX, sSeq, sNext, sRet, sRetF, sRetO, sRetN, sDrop, sIf, sSet, sSetO, sBreak, sCont, sBad, sPar, sPar3, fz, sFz, eCallW, idL, sApp, sPutIx, sAug, sFor, gN, gT, gsCons, gsNil, gYes, eLc, gSeq, nS, nF, Nw.sl, R.ok_bind, R.ok_map, R.lift_some, to_ok, toX_ok, toX_ex, bind_nx, bind_rt, bind_rf, bind_ex, bind_bk, bind_ct, at_ok, at_ex, res_val, map_ex, rbind_ex, Op.res, resA, valA, isOw, box0, Option.map_some, Option.bind_some, sHeardT, nlCons, nlNil, Nw.dat, mSet, eChain, eRg1, eRg2, eSl, pNo, pSo,
  List.getElem?_cons_zero, List.getElem?_cons_succ, List.set_cons_zero, List.set_cons_succ, List.length_cons, List.length_nil, if_true, if_false, Bool.false_eq_true, ite_true, ite_false, reduceIte,
  addU_int, subD_int, ltD_int, leD_int, gtD_int, geD_int, negD_int, absD_int, intD_bool, intD_int, lenD_list, lenD_tuple, lenD_scr, pow10_7, pow10_18, pow10_40, eqW_ints, neW_ints, eqW_strs, neW_strs, eqW_none, eqW_in, eqW_ni, ixD_list, ixD_tuple, ixD_scr, atI_3_0, atI_3_1, atI_3_2, ixN_3_0, ixN_3_1, ixN_3_2, wipeR, zip2D, skOf, isiD_n, isiD_b, isiD_i, isiD_s, isiD_l, isiD_t, isiTD_n, isiTD_b, isiTD_i, isiTD_s, isiTD_l, isiTD_t, isiAny, eCallX, eCallWX, xE, xIf, xL, xCb1, sSetX, sRetX, sDropX, sRaise, sTo, eMk, isX_n, sKeep, kt_ll, kt_lt, kt_ls, kt_li, kt_lb, kt_tl, kt_tt, kt_ts, kt_ti, kt_tb, kt_sl, kt_st, kt_ss, kt_si, kt_sb, kt_il, kt_it, kt_is, kt_ii, kt_ib, kt_bl, kt_bt, kt_bs, kt_bi, kt_bb, kt_nl, kt_nt, kt_ns, kt_ni, kt_nb, eqW_bools, neW_bools, isD_none, isNotD_none, isNoneD, isNone_e, List.map_cons, List.map_nil, List.replicate, List.append_nil, List.cons_append, List.nil_append, nc0, nc1, nc2, nc3, nc4, nc5, nc6, nc7, nc8, nc9, nc10, nc11, nc12, nc13, nc14, nc15, nc16, nc17, nc18, nc19, nc20, Nat.reduceAdd, Nat.reduceSub, ne_eq, decide_true, decide_false, not_true_eq_false, not_false_eq_true, reduceCtorEq, Bool.and_true, Bool.true_and, Bool.and_false, Bool.false_and, Bool.or_true, Bool.true_or, Bool.or_false, Bool.false_or, Bool.not_true, Bool.not_false, *])
/-! _law_call and _law_far of the 3x family -/
theorem rc_1 {r : D} {i j : Int} (hj : lenD [r] = some (.int j)) (hi : inD (.int i) (.tuple [.int 0, .int (j - 1)]) = some (.bool true)) (z : 2 ≤ sizeLine) : F__law_call [r, .int i] = some r := by
  unfold F__law_call callP g__law_call env0
  walk_at "evh"
theorem rc_2 {r t : D} {i j : Int} {s : List D} {m a b c d : D} (hj : lenD [r] = some (.int j)) (hi : inD (.int i) (.tuple [.int 0, .int (j - 1)]) = some (.bool false)) (z : 2 ≤ sizeLine) (s1 : sliceU r none (some i) = some a) (sl : sliceU r (some (i - 1)) (some (i + 2)) = some t) (hs : sortedD [t] = some s) (hm : atI s 1 = some m) (s2 : sliceU r (some (i + 1)) none = some b) (a1 : addU a (.tuple [m]) = some c) (a2 : addU c b = some d) (sz : 1 ≤ sizeLine) : F__law_call [r, .int i] = some d := by
  unfold F__law_call callP g__law_call env0
  walk_at "evh"
theorem lcall_eq {ns : List Int} {i : Int} (h0 : 0 ≤ i) (h1 : i < ns.length) (hl : ns.length ≤ 1000) : F__law_call [.tuple (ns.map .int), .int i] = some (.tuple ((callN ns i).map .int)) := by
  have hr := Sq.t (ns.map PyData.int)
  have hj := hr.leni
  have hi := inD_t i [0, (ns.length : Int) - 1]
  by_cases h : i = 0 ∨ i = (ns.length : Int) - 1
  · have e : callN ns i = ns := (callN_iff h0 h1).mpr (by unfold midN; rw [if_pos h])
    rw [e]
    rw [decide_eq_true (by simpa using h)] at hi
    exact rc_1 hj hi (by decide)
  · rw [decide_eq_false (by simpa using h)] at hi
    obtain ⟨k, rfl⟩ : ∃ k : Nat, i = (k : Int) := ⟨i.toNat, by omega⟩
    obtain ⟨x, z, e⟩ := srt3 (nat ns ((k : Int) - 1)) (nat ns (k : Int)) (nat ns ((k : Int) + 1))
    refine rc_2 (s := (srtI [nat ns ((k : Int) - 1), nat ns (k : Int), nat ns ((k : Int) + 1)]).map .int) (m := .int (midN ns (k : Int))) hj hi (by decide) sliceU_t sliceU_t ?_ ?_ sliceU_t (addT ?_) ?_ (by decide)
    · rw [cut_map, cut3 ns (k : Int) (by omega) (by omega)]; rfl
    · rw [e]
      unfold midN
      rw [if_neg h]; rfl
    · rw [cut_to, List.length_take, List.length_map]; simp; omega
    · rw [show (k : Int) + 1 = ((k + 1 : Nat) : Int) by omega, cut_from, cut_to, addT]
      · congr 2
        unfold callN
        rw [Int.toNat_natCast, ← set_cut ns k _ (by omega)]
        simp
      · rw [List.length_append, List.length_take, List.length_drop, List.length_map]; simp; omega
def dD (a : List Int) : List Int → D := fun b => .int (dst a b : Nat)
theorem ly_set {s0 s1 s2 s3 s6 : Sl} {c b : D} {p : Int} (e : F__law_call [c, .int p] = some b) : (sSet 6 (eCall F__law_call (aCons (oE (eV 4)) (aCons (oE (eV 5)) aNil)))) [s0, s1, s2, s3, .sh c, .sh (.int p), s6] = .nx [s0, s1, s2, s3, .sh c, .sh (.int p), .sh b] := by
  walk_at "evh"
theorem ly_t {s0 s2 s3 s4 s5 : Sl} {kds : List (D × D)} {b : D} {v : Bool} (e : dNotInD b (dcD kds) = some (.bool v)) : (tstE (eOp2 dNotInD (oE (eV 6)) (oV 1))) [s0, .od kds, s2, s3, s4, s5, .sh b] = .ok v [s0, .od kds, s2, s3, s4, s5, .sh b] := by
  walk_at "evh"
theorem ly_v {s0 s2 s3 s5 s6 : Sl} {kds : List (D × D)} {c x y : D} (e : dGetD (dcD kds) c = some x) (ea : addU x (.int 1) = some y) : (eOp2 addU (oE (eOp2 dGetD (oV 1) (oE (eV 4)))) (oE (eC (.int 1)))) [s0, .od kds, s2, s3, .sh c, s5, s6] = .ok y [s0, .od kds, s2, s3, .sh c, s5, s6] := by
  walk_at "evh"
theorem ly_b {a c : List Int} {s0 s2 s6 : Sl} {p : Int} {A F : List (List Int)} (h0 : 0 ≤ p) (h1 : p < c.length) (hl : c.length ≤ 1000) (hc : c ∈ A) (hd : callN c p ∉ A → dst a (callN c p) = dst a c + 1) (hz : callN c p ∉ A → A.length < sizeLine ∧ F.length < sizeLine) :
    gb__law_far_1 [s0, .od (tabR (dD a) A), s2, .ow (F.map rowD), .sh (rowD c), .sh (.int p), s6] = .nx (if callN c p ∈ A then [s0, .od (tabR (dD a) A), s2, .ow (F.map rowD), .sh (rowD c), .sh (.int p), .sh (rowD (callN c p))] else [s0, .od (tabR (dD a) (A ++ [callN c p])), s2, .ow ((F ++ [callN c p]).map rowD), .sh (rowD c), .sh (.int p), .sh (rowD (callN c p))]) := by
  have e := lcall_eq (ns := c) (i := p) h0 h1 hl
  refine seq_nx (ly_set e) ?_
  by_cases h : callN c p ∈ A
  · rw [if_pos h]
    have t := ni_row (f := dD a) (l := A) (x := callN c p)
    rw [decide_eq_true h] at t
    exact sIf_f (ly_t t) rfl
  · rw [if_neg h]
    have t := ni_row (f := dD a) (l := A) (x := callN c p)
    rw [decide_eq_false h] at t
    refine sIf_t (ly_t t) ?_
    obtain ⟨z1, z2⟩ := hz h
    have ea : addU (dD a c) (.int 1) = some (dD a (callN c p)) := by
      unfold dD
      rw [hd h]; rfl
    have ev := ly_v (s0 := s0) (s2 := s2) (s3 := .ow (F.map rowD)) (s5 := .sh (.int p)) (s6 := .sh (rowD (callN c p))) (get_row (f := dD a) hc) ea
    refine seq_nx (ρ1 := [s0, .od (tabR (dD a) (A ++ [callN c p])), s2, .ow (F.map rowD), .sh (rowD c), .sh (.int p), .sh (rowD (callN c p))]) ?_ ?_
    · unfold sPutD
      have ev2 : (eOp2 addU (oE (eOp2 dGetD (oV 1) (oE (eV 4)))) (oE (eC (.int 1)))) [s0, .od (tabR (dD a) A), s2, .ow (F.map rowD), .sh (rowD c), .sh (.int p), .sh (.tuple ((callN c p).map .int))] = .ok (dD a (callN c p)) [s0, .od (tabR (dD a) A), s2, .ow (F.map rowD), .sh (rowD c), .sh (.int p), .sh (rowD (callN c p))] := ev
      rw [ev2]
      show (if sortB (rowD (callN c p)) (tabR (dD a) A) = true ∧ (tabR (dD a) A).length < sizeLine then O.nx [s0, .od (dPut (tabR (dD a) A) (rowD (callN c p)) (dD a (callN c p))), s2, .ow (F.map rowD), .sh (rowD c), .sh (.int p), .sh (rowD (callN c p))] else .bad) = _
      rw [if_pos ⟨sort_row _, by rw [tabR_len]; exact z1⟩, put_row (f := dD a) (x := callN c p) (d := dD a (callN c p)) rfl h]
    · show (if (F.map rowD).length < sizeLine then O.nx [s0, .od (tabR (dD a) (A ++ [callN c p])), s2, .ow (F.map rowD ++ [rowD (callN c p)]), .sh (rowD c), .sh (.int p), .sh (rowD (callN c p))] else .bad) = _
      rw [if_pos (by rw [List.length_map]; exact z2), List.map_append]; rfl
/-- what is new while a layer is gone through -/
structure Nww (a : List Int) (acc lay F : List (List Int)) : Prop where
  nd : (acc ++ F).Nodup
  from' : ∀ b ∈ F, ∃ c ∈ lay, ∃ p : Int, 0 < p ∧ p + 1 < a.length ∧ b = callN c p
theorem Nww.keep {a : List Int} {i : Nat} {acc lay F : List (List Int)} (hL : Lay a i acc lay) (h : Nww a acc lay F) : ∀ b ∈ acc ++ F, Keep a b := fun b hb => by
  rcases List.mem_append.mp hb with z | z
  · exact ((hL.inn b).mp z).1
  · obtain ⟨c, hc, p, p0, p1, rfl⟩ := h.from' b z
    exact ((hL.last c).mp hc).1.call (by omega) (by omega)
theorem Nww.len {a : List Int} {i : Nat} {acc lay F : List (List Int)} (hL : Lay a i acc lay) (h : Nww a acc lay F) : (acc ++ F).length ≤ (folR a).length := sub_len h.nd fun b hb => fol_mem.mpr (h.keep hL b hb)
theorem ly_in {a c : List Int} {i : Nat} {acc lay : List (List Int)} {s0 s2 : Sl} (hL : Lay a i acc lay) (hc : c ∈ lay) (hl : a.length ≤ 1000) (hz : (folR a).length < sizeLine) : ∀ (ps : List Int) {F : List (List Int)} {s5 s6 : Sl}, (∀ p ∈ ps, 0 ≤ p ∧ p < a.length) → Nww a acc lay F →
    ∃ F' t5 t6, forL (gN 5) gb__law_far_1 (ps.map .int) [s0, .od (tabR (dD a) (acc ++ F)), s2, .ow (F.map rowD), .sh (rowD c), s5, s6] = .nx [s0, .od (tabR (dD a) (acc ++ F')), s2, .ow (F'.map rowD), .sh (rowD c), t5, t6] ∧ Nww a acc lay F' ∧ (∀ b ∈ F, b ∈ F') ∧ ∀ p ∈ ps, callN c p ∈ acc ++ F'
  | [], F, s5, s6, _, hn => ⟨F, s5, s6, rfl, hn, fun b hb => hb, fun p hp => (nomatch hp)⟩
  | p :: ps, F, s5, s6, hp, hn => by
    obtain ⟨p0, p1⟩ := hp p List.mem_cons_self
    obtain ⟨kc, dc⟩ := (hL.last c).mp hc
    have cl := kc.len
    have cA : c ∈ acc := (hL.inn c).mpr ⟨kc, by omega⟩
    have nl := hn.len hL
    rw [List.length_append] at nl
    have inner : callN c p ∉ acc ++ F → 0 < p ∧ p + 1 < a.length := fun hni => by
      have ne : callN c p ≠ c := fun z => hni (by rw [z]; exact List.mem_append_left _ cA)
      have := kc.more1 p0 p1 ne
      exact ⟨this.2.1, this.2.2.1⟩
    have e := ly_b (a := a) (c := c) (p := p) (A := acc ++ F) (F := F) (s0 := s0) (s2 := s2) (s6 := s6) (by omega) (by omega) (by omega) (List.mem_append_left _ cA)
      (fun hni => by rw [dc]; exact (hL.call hc (inner hni).1 (inner hni).2 fun z => hni (List.mem_append_left _ z)).2)
      (fun hni => by rw [List.length_append]; exact ⟨by omega, by omega⟩)
    by_cases h : callN c p ∈ acc ++ F
    · rw [if_pos h] at e
      obtain ⟨F', t5, t6, e2, g1, g2, g3⟩ := ly_in hL hc hl hz ps (F := F) (s5 := .sh (.int p)) (s6 := .sh (rowD (callN c p))) (fun x hx => hp x (List.mem_cons_of_mem _ hx)) hn
      refine ⟨F', t5, t6, for_cons (ρ1 := [s0, .od (tabR (dD a) (acc ++ F)), s2, .ow (F.map rowD), .sh (rowD c), .sh (.int p), s6]) rfl e e2, g1, g2, fun x hx => ?_⟩
      rcases List.mem_cons.mp hx with z | z
      · rw [z]
        rcases List.mem_append.mp h with y | y
        · exact List.mem_append_left _ y
        · exact List.mem_append_right _ (g2 _ y)
      · exact g3 x z
    · rw [if_neg h, List.append_assoc] at e
      have hn2 : Nww a acc lay (F ++ [callN c p]) := by
        refine ⟨?_, fun b hb => ?_⟩
        · rw [← List.append_assoc]
          refine List.nodup_append.mpr ⟨hn.nd, List.pairwise_singleton _ _, fun x hx y hy e => h ?_⟩
          rw [← List.mem_singleton.mp hy, ← e]; exact hx
        · rcases List.mem_append.mp hb with z | z
          · exact hn.from' b z
          · rw [List.mem_singleton.mp z]
            exact ⟨c, hc, p, (inner h).1, (inner h).2, rfl⟩
      obtain ⟨F', t5, t6, e2, g1, g2, g3⟩ := ly_in hL hc hl hz ps (F := F ++ [callN c p]) (s5 := .sh (.int p)) (s6 := .sh (rowD (callN c p))) (fun x hx => hp x (List.mem_cons_of_mem _ hx)) hn2
      refine ⟨F', t5, t6, for_cons (ρ1 := [s0, .od (tabR (dD a) (acc ++ F)), s2, .ow (F.map rowD), .sh (rowD c), .sh (.int p), s6]) rfl e e2, g1, fun b hb => g2 b (List.mem_append_left _ hb), fun x hx => ?_⟩
      rcases List.mem_cons.mp hx with z | z
      · rw [z]
        exact List.mem_append_right _ (g2 _ (List.mem_append_right _ (List.mem_singleton.mpr rfl)))
      · exact g3 x z
theorem ly_rg {s1 s2 s3 s4 s5 s6 : Sl} {c : D} {n : Int} {M : List D} (hl : lenD [c] = some (.int n)) (hm : rng1 [.int n] = some M) : (eCall rng1 (aCons (oE (eApp lenD (aCons (oE (eV 0)) aNil))) aNil)) [.sh c, s1, s2, s3, s4, s5, s6] = .ok M [.sh c, s1, s2, s3, s4, s5, s6] := by
  walk_at "evh"
theorem rng1_in {n : Nat} (hn : n ≤ 1000) : rng1 [.int (n : Int)] = some ((rngI 0 n).map .int) := by
  rw [rng1_eq (by omega) (by omega), Int.toNat_natCast]
  unfold rngI rangeD
  rw [List.map_map]
  rfl
theorem ly_mid {a : List Int} {i : Nat} {acc lay : List (List Int)} {s2 : Sl} (hL : Lay a i acc lay) (hl : a.length ≤ 1000) (hz : (folR a).length < sizeLine) : ∀ (cs : List (List Int)) {F : List (List Int)} {s4 s5 s6 : Sl}, (∀ c ∈ cs, c ∈ lay) → Nww a acc lay F →
    ∃ F' t4 t5 t6, forL (gN 4) gb__law_far_2 (cs.map rowD) [.sh (rowD a), .od (tabR (dD a) (acc ++ F)), s2, .ow (F.map rowD), s4, s5, s6] = .nx [.sh (rowD a), .od (tabR (dD a) (acc ++ F')), s2, .ow (F'.map rowD), t4, t5, t6] ∧ Nww a acc lay F' ∧ (∀ b ∈ F, b ∈ F') ∧ ∀ c ∈ cs, ∀ p : Int, 0 < p → p + 1 < a.length → callN c p ∈ acc ++ F'
  | [], F, s4, s5, s6, _, hn => ⟨F, s4, s5, s6, rfl, hn, fun b hb => hb, fun c hc => (nomatch hc)⟩
  | c :: cs, F, s4, s5, s6, hcs, hn => by
    have hc := hcs c List.mem_cons_self
    have cl := ((hL.last c).mp hc).1.len
    obtain ⟨F1, t5, t6, e1, g1, g2, g3⟩ := ly_in (s0 := .sh (rowD a)) (s2 := s2) hL hc hl hz (rngI 0 a.length) (F := F) (s5 := s5) (s6 := s6) (fun p hp => by have := mem_rngI hp; omega) hn
    have rg := ly_rg (s1 := .od (tabR (dD a) (acc ++ F))) (s2 := s2) (s3 := .ow (F.map rowD)) (s4 := .sh (rowD c)) (s5 := s5) (s6 := s6) (c := rowD a) (n := (a.length : Nat)) (Sq.t (a.map PyData.int)).leni (rng1_in hl)
    obtain ⟨F', u4, u5, u6, e2, h1, h2, h3⟩ := ly_mid hL hl hz cs (F := F1) (s4 := .sh (rowD c)) (s5 := t5) (s6 := t6) (fun x hx => hcs x (List.mem_cons_of_mem _ hx)) g1
    refine ⟨F', u4, u5, u6, for_cons (ρ1 := [.sh (rowD a), .od (tabR (dD a) (acc ++ F)), s2, .ow (F.map rowD), .sh (rowD c), s5, s6]) rfl (sFor_nx rg e1) e2, h1, fun b hb => h2 b (g2 b hb), fun x hx p p0 p1 => ?_⟩
    rcases List.mem_cons.mp hx with z | z
    · rw [z]
      rcases List.mem_append.mp (g3 p (in_rngI (by omega) (by omega))) with y | y
      · exact List.mem_append_left _ y
      · exact List.mem_append_right _ (h2 _ y)
    · exact h3 x z p p0 p1
theorem lwhile_f {c : GT} {b : GS} {n : Nat} {ρ ρ1 : Rho} (h : c ρ = .ok false ρ1) : whileL c b (n + 1) ρ = .nx ρ1 := by
  unfold whileL
  rw [h]; rfl
theorem lwhile_t {c : GT} {b : GS} {n : Nat} {ρ ρ1 ρ2 : Rho} {o : O} (h : c ρ = .ok true ρ1) (h2 : b ρ1 = .nx ρ2) (h3 : whileL c b n ρ2 = o) : whileL c b (n + 1) ρ = o := by
  unfold whileL
  rw [h]
  show (match b ρ1 with | .nx ρ2 => whileL c b n ρ2 | .ct ρ2 => whileL c b n ρ2 | .bk ρ2 => .nx ρ2 | o => o) = _
  rw [h2]; exact h3
theorem ly_wt {s0 s1 s3 s4 s5 s6 : Sl} {L : List D} {v : Bool} (z : 0 ≤ sizeLine) (e : neW (.list L) (.list []) = some (.bool v)) : wt__law_far_3 [s0, s1, .sh (.list L), s3, s4, s5, s6] = .ok v [s0, s1, .sh (.list L), s3, s4, s5, s6] := by
  unfold wt__law_far_3
  walk_at "evh"
theorem ly_while {a : List Int} (hl : a.length ≤ 1000) (hz : (folR a).length < sizeLine) : ∀ (m : Nat) {f i : Nat} {acc lay : List (List Int)} {s3 s4 s5 s6 : Sl}, Lay a i acc lay → a.length < i + m → m < f →
    ∃ accE t2 t3 t4 t5 t6, whileL wt__law_far_3 gb__law_far_4 f [.sh (rowD a), .od (tabR (dD a) acc), .sh (.list (lay.map rowD)), s3, s4, s5, s6] = .nx [.sh (rowD a), .od (tabR (dD a) accE), t2, t3, t4, t5, t6] ∧ accE.Nodup ∧ ∀ b, b ∈ accE ↔ Keep a b
  | m, f + 1, i, acc, lay, s3, s4, s5, s6, hL, hm, hf => by
    have t := ne_rows lay
    by_cases he : lay = []
    · rw [decide_eq_true he] at t
      refine ⟨acc, .sh (.list (lay.map rowD)), s3, s4, s5, s6, lwhile_f (ly_wt (Nat.zero_le _) t), hL.nd, ?_⟩
      rw [he] at hL
      exact hL.done
    · rw [decide_eq_false he] at t
      cases m with
      | zero => exact absurd (hL.far (by omega)) he
      | succ m =>
        obtain ⟨F', t4, t5, t6, e1, g1, g2, g3⟩ := ly_mid (s2 := .sh (.list (lay.map rowD))) hL hl hz lay (F := []) (s4 := s4) (s5 := s5) (s6 := s6) (fun c hc => hc) ⟨by rw [List.append_nil]; exact hL.nd, fun b hb => (nomatch hb)⟩
        rw [List.append_nil] at e1
        have L2 : Lay a (i + 1) (acc ++ F') F' := hL.next g1.nd g1.from' g3
        obtain ⟨accE, u2, u3, u4, u5, u6, e2, h1, h2⟩ := ly_while hl hz m (f := f) (s3 := .sh (.list (F'.map rowD))) (s4 := t4) (s5 := t5) (s6 := t6) L2 (by omega) (by omega)
        refine ⟨accE, u2, u3, u4, u5, u6, lwhile_t (ly_wt (Nat.zero_le _) t) (seq_nx (ρ1 := [.sh (rowD a), .od (tabR (dD a) acc), .sh (.list (lay.map rowD)), .ow (([] : List (List Int)).map rowD), s4, s5, s6]) rfl (seq_nx (sFor_nx (ρ1 := [.sh (rowD a), .od (tabR (dD a) acc), .sh (.list (lay.map rowD)), .ow (([] : List (List Int)).map rowD), s4, s5, s6]) rfl e1) rfl)) e2, h1, h2⟩
theorem fol_small {a : List Int} (hl : a.length ≤ 9) : (folR a).length ≤ 10000000 := by
  rw [fol_len]
  have h := cnt_top (a := a) (calm := false) (m := 10) (fun p => by have := optA_len a p; omega) (by omega)
  have : (10 : Nat) ^ (a.length - 2) ≤ 10 ^ 7 := Nat.pow_le_pow_right (by omega) (by omega)
  exact Nat.le_trans h (Nat.le_trans this (by decide))
theorem size_10 {n : Nat} (h : n ≤ 10000000) : n < sizeLine := Nat.lt_of_le_of_lt h (by decide)
theorem ly_eq {a : List Int} (hl : a.length ≤ 9) : ∃ acc : List (List Int), F__law_far [rowD a] = some (dcD (tabR (dD a) acc)) ∧ acc.Nodup ∧ ∀ b, b ∈ acc ↔ Keep a b := by
  obtain ⟨accE, t2, t3, t4, t5, t6, e, h1, h2⟩ := ly_while (a := a) (by omega) (size_10 (fol_small hl)) (a.length + 1) (f := 1000) (s3 := .no) (s4 := .no) (s5 := .no) (s6 := .no) (Lay.start a) (by omega) (by omega)
  refine ⟨accE, ?_, h1, h2⟩
  have S1 : (sParD 1 2 (eDisp (eV 0) (eC (.int 0))) (nS (eL (eSeq (aCons (oE (eV 0)) aNil))))) [.sh (rowD a), .no, .no, .no, .no, .no, .no] = .nx [.sh (rowD a), .od (tabR (dD a) [a]), .sh (.list ([a].map rowD)), .no, .no, .no, .no] := by
    have tp := tp_row a
    have ed : tabR (dD a) [a] = [(rowD a, .int 0)] := by
      show [(rowD a, PyData.int (dst a a : Nat))] = _
      rw [dst_self]; rfl
    rw [ed]
    have z : 1 ≤ sizeLine := by decide
    show _ = O.nx [.sh (rowD a), .od [(rowD a, .int 0)], .sh (.list [rowD a]), .no, .no, .no, .no]
    have tq : (isLf (rowD a) || isTp (rowD a)) = true := by rw [tp, Bool.or_true]
    generalize rowD a = y at *
    unfold sParD eDisp
    clear e ed tp
    walk_at "evh"
  exact callP_rt (ρ := [.sh (rowD a), .sh (dcD (tabR (dD a) accE)), t2, t3, t4, t5, t6]) rfl (seq_nx S1 (seq_nx e rfl))
end W

namespace W
open PySem L2 DL
local macro_rules | `(tactic| walk_at "ev") => `(tactic| simp only [eC, eV, oE, oV, eL, eT, aNil, aCons, eOp2, eOp1, eApp, tstE, eB, tNotG, tAndG, tOrG, eAndG, eOrG, eNotG, eIf, eSeq, eCall, eCallO, eCallB, eCallBF, eCallBX, sSeq, sNext, sRet, sRetF, sRetO, sRetN, sDrop, sIf, sSet, sSetO, sBreak, sCont, sBad, sPar, sPar3, fz, sFz, eCallW, idL, sApp, sPutIx, sAug, sFor, gN, gT, gsCons, gsNil, gYes, eLc, gSeq, nS, nF, Nw.sl, R.ok_bind, R.ok_map, R.lift_some, to_ok, toX_ok, toX_ex, bind_nx, bind_rt, bind_rf, bind_ex, bind_bk, bind_ct, at_ok, at_ex, res_val, map_ex, rbind_ex, Op.res, resA, valA, isOw, box0, Option.map_some, Option.bind_some, sHeardT, nlCons, nlNil, Nw.dat, mSet, eChain, eRg1, eRg2, eSl, pNo, pSo,
  List.getElem?_cons_zero, List.getElem?_cons_succ, List.set_cons_zero, List.set_cons_succ, List.length_cons, List.length_nil, if_true, if_false, Bool.false_eq_true, ite_true, ite_false, reduceIte,
  addU_int, subD_int, ltD_int, leD_int, gtD_int, geD_int, negD_int, absD_int, intD_bool, intD_int, lenD_list, lenD_tuple, lenD_scr, pow10_7, pow10_18, pow10_40, eqW_ints, neW_ints, eqW_strs, neW_strs, eqW_none, eqW_in, eqW_ni, ixD_list, ixD_tuple, ixD_scr, atI_3_0, atI_3_1, atI_3_2, ixN_3_0, ixN_3_1, ixN_3_2, wipeR, zip2D, skOf, isiD_n, isiD_b, isiD_i, isiD_s, isiD_l, isiD_t, isiTD_n, isiTD_b, isiTD_i, isiTD_s, isiTD_l, isiTD_t, isiAny, eCallX, eCallWX, xE, xIf, xL, xCb1, sSetX, sRetX, sDropX, sRaise, sTo, eMk, isX_n, sKeep, kt_ll, kt_lt, kt_ls, kt_li, kt_lb, kt_tl, kt_tt, kt_ts, kt_ti, kt_tb, kt_sl, kt_st, kt_ss, kt_si, kt_sb, kt_il, kt_it, kt_is, kt_ii, kt_ib, kt_bl, kt_bt, kt_bs, kt_bi, kt_bb, kt_nl, kt_nt, kt_ns, kt_ni, kt_nb, eqW_bools, neW_bools, isD_none, isNotD_none, isNoneD, isNone_e, List.map_cons, List.map_nil, List.replicate, List.append_nil, List.cons_append, List.nil_append, nc0, nc1, nc2, nc3, nc4, nc5, nc6, nc7, nc8, nc9, nc10, nc11, nc12, nc13, nc14, nc15, nc16, nc17, nc18, nc19, nc20, Nat.reduceAdd, Nat.reduceSub, ne_eq, decide_true, decide_false, not_true_eq_false, not_false_eq_true, reduceCtorEq, Bool.and_true, Bool.true_and, Bool.and_false, Bool.false_and, Bool.or_true, Bool.true_or, Bool.or_false, Bool.false_or, Bool.not_true, Bool.not_false, sExt])
local macro_rules | `(tactic| walk_at "evh") => `(tactic| simp only [eC, eV, oE, oV, eL, eT, aNil, aCons, eOp2, eOp1, eApp, tstE, eB, tNotG, tAndG, tOrG, eAndG, eOrG, eNotG, eIf, eSeq, eCall, eCallO, eCallB, eCallBF, eCallBX, sSeq, sNext, sRet, sRetF, sRetO, sRetN, sDrop, sIf, sSet, sSetO, sBreak, sCont, sBad, sPar, sPar3, fz, sFz, eCallW, idL, sApp, sPutIx, sAug, sFor, gN, gT, gsCons, gsNil, gYes, eLc, gSeq, nS, nF, Nw.sl, R.ok_bind, R.ok_map, R.lift_some, to_ok, toX_ok, toX_ex, bind_nx, bind_rt, bind_rf, bind_ex, bind_bk, bind_ct, at_ok, at_ex, res_val, map_ex, rbind_ex, Op.res, resA, valA, isOw, box0, Option.map_some, Option.bind_some, sHeardT, nlCons, nlNil, Nw.dat, mSet, eChain, eRg1, eRg2, eSl, pNo, pSo,
  List.getElem?_cons_zero, List.getElem?_cons_succ, List.set_cons_zero, List.set_cons_succ, List.length_cons, List.length_nil, if_true, if_false, Bool.false_eq_true, ite_true, ite_false, reduceIte,
  addU_int, subD_int, ltD_int, leD_int, gtD_int, geD_int, negD_int, absD_int, intD_bool, intD_int, lenD_list, lenD_tuple, lenD_scr, pow10_7, pow10_18, pow10_40, eqW_ints, neW_ints, eqW_strs, neW_strs, eqW_none, eqW_in, eqW_ni, ixD_list, ixD_tuple, ixD_scr, atI_3_0, atI_3_1, atI_3_2, ixN_3_0, ixN_3_1, ixN_3_2, wipeR, zip2D, skOf, isiD_n, isiD_b, isiD_i, isiD_s, isiD_l, isiD_t, isiTD_n, isiTD_b, isiTD_i, isiTD_s, isiTD_l, isiTD_t, isiAny, eCallX, eCallWX, xE, xIf, xL, xCb1, sSetX, sRetX, sDropX, sRaise, sTo, eMk, isX_n, sKeep, kt_ll, kt_lt, kt_ls, kt_li, kt_lb, kt_tl, kt_tt, kt_ts, kt_ti, kt_tb, kt_sl, kt_st, kt_ss, kt_si, kt_sb, kt_il, kt_it, kt_is, kt_ii, kt_ib, kt_bl, kt_bt, kt_bs, kt_bi, kt_bb, kt_nl, kt_nt, kt_ns, kt_ni, kt_nb, eqW_bools, neW_bools, isD_none, isNotD_none, isNoneD, isNone_e, List.map_cons, List.map_nil, List.replicate, List.append_nil, List.cons_append, List.nil_append, nc0, nc1, nc2, nc3, nc4, nc5, nc6, nc7, nc8, nc9, nc10, nc11, nc12, nc13, nc14, nc15, nc16, nc17, nc18, nc19, nc20, Nat.reduceAdd, Nat.reduceSub, ne_eq, decide_true, decide_false, not_true_eq_false, not_false_eq_true, reduceCtorEq, Bool.and_true, Bool.true_and, Bool.and_false, Bool.false_and, Bool.or_true, Bool.true_or, Bool.or_false, Bool.false_or, Bool.not_true, Bool.not_false, sExt, *])
/-! look_few, all_futures -/
theorem lf_ok {r : D} {m : Int} (e : F_futures_many [r] = some (.int m)) (d : decide (300 < m) = false) : F_look_few [r] = .ok .none := by
  unfold F_look_few callX g_look_few env0
  walk_at "evh"
def pthD (x : Pth) : D := .tuple [rowD x.1, stD x.2]
def stpP (a : List Int) (ops : Int → List Opt) (i : Nat) (x : Pth) : List Pth := (goOn a ops i x.2).map fun t => (x.1 ++ [t.num], some t)
theorem af_t {s0 s1 s3 s5 s6 s7 s8 : Sl} {Ts : List D} {T y : D} {p : Int} {n : Nat} (hT : atI Ts (p + 1) = some T) (hg : dGetD T y = some (.int (n : Nat))) : ct_all_futures_1 [s0, s1, .sh (.list Ts), s3, .sh (.int p), s5, s6, s7, s8, .sh y] = .ok (decide (0 < n)) [s0, s1, .sh (.list Ts), s3, .sh (.int p), s5, s6, s7, s8, .sh y] := by
  have d : decide (0 < n) = decide ((0 : Int) < (n : Int)) := decide_eq_decide.mpr (by omega)
  rw [d]
  unfold ct_all_futures_1
  clear d
  walk_at "evh"
theorem af_e {s0 s1 s2 s3 s4 s5 s7 s8 : Sl} {c d : List D} {x y : D} (ix : ixD y (.int 0) = some x) (ad : addU (.tuple c) (.tuple [x]) = some (.tuple d)) (z1 : 1 ≤ sizeLine) (z2 : 2 ≤ sizeLine) : ce_all_futures_3 [s0, s1, s2, s3, s4, s5, .sh (.tuple c), s7, s8, .sh y] = .ok (.tuple [.tuple d, y]) [s0, s1, s2, s3, s4, s5, .sh (.tuple c), s7, s8, .sh y] := by
  unfold ce_all_futures_3
  walk_at "evh"
theorem af_src {r op s : D} {p : Int} {E : List D} {s2 s3 s5 s6 s8 s9 : Sl} (e : F_next_states [r, .int p, s, op, .bool false] = some E) : (gSeq (eL (eCall F_next_states (aCons (oE (eV 0)) (aCons (oE (eV 4)) (aCons (oE (eV 7)) (aCons (oE (eV 1)) (aCons (oE (eC (.bool false))) aNil)))))))) [.sh r, .sh op, s2, s3, .sh (.int p), s5, s6, .sh s, s8, s9] = .ok E [.sh r, .sh op, s2, s3, .sh (.int p), s5, s6, .sh s, s8, s9] := by
  have it : itemsD (.list E) = some E := rfl
  walk_at "evh"
theorem ext_ok {g : GF} {s0 s1 s2 s3 s4 s6 s7 s8 s9 : Sl} {L E : List D} (e : g [s0, s1, s2, s3, s4, .ow L, s6, s7, s8, s9] = .ok E [s0, s1, s2, s3, s4, .ow L, s6, s7, s8, s9]) (hz : L.length + E.length ≤ sizeLine) : sExt 5 g [s0, s1, s2, s3, s4, .ow L, s6, s7, s8, s9] = .nx [s0, s1, s2, s3, s4, .ow (L ++ E), s6, s7, s8, s9] := by
  unfold sExt
  show (g [s0, s1, s2, s3, s4, .ow L, s6, s7, s8, s9]).to _ = _
  rw [e]
  show (if L.length + E.length ≤ sizeLine then O.nx [s0, s1, s2, s3, s4, .ow (L ++ E), s6, s7, s8, s9] else .bad) = _
  rw [if_pos hz]
theorem af_b {r op : D} {a : List Int} {ops : Int → List Opt} {i : Nat} {x : Pth} {L : List D} {s3 s8 : Sl} (hr : Sq r (a.map .int)) (ho : OpsOk a ops op) (hi : i < a.length) (hs : x.2 ∈ layN a ops false i) (hx : x.1.length ≤ 1000) (hz : L.length + (stpP a ops i x).length ≤ 100000) :
    ∃ t8, gb_all_futures_4 [.sh r, .sh op, .sh (.list (tabsF a ops false 0)), s3, .sh (.int (i : Nat)), .ow L, .sh (rowD x.1), .sh (stD x.2), s8, .no] = .nx [.sh r, .sh op, .sh (.list (tabsF a ops false 0)), s3, .sh (.int (i : Nat)), .ow (L ++ (stpP a ops i x).map pthD), .sh (rowD x.1), .sh (stD x.2), t8, .no] := by
  have hn := nxL_len a (ops i) i x.2 false
  have hf := ho.few i
  have hT : atI (tabsF a ops false 0) ((i : Int) + 1) = some (tabK a ops false (i + 1)) := tabs_ix (k := i + 1) (by omega)
  have hg : ∀ t ∈ nxL a (ops i) i x.2 false, dGetD (tabK a ops false (i + 1)) (stD (some t)) = some (.int (cntF a ops false (a.length - (i + 1)) ((i + 1 : Nat) : Int) (some t) : Nat)) := fun t ht => tab_at (lay_next hs ht)
  have l1 : lcL [9] (gN 9) ct_all_futures_1 ce_all_futures_2 ((nxL a (ops i) i x.2 false).map fun t => stD (some t)) [.sh r, .sh op, .sh (.list (tabsF a ops false 0)), s3, .sh (.int (i : Nat)), .ow L, .sh (rowD x.1), .sh (stD x.2), s8, .no] = .ok ((goOn a ops i x.2).map fun t => stD (some t)) [.sh r, .sh op, .sh (.list (tabsF a ops false 0)), s3, .sh (.int (i : Nat)), .ow L, .sh (rowD x.1), .sh (stD x.2), s8, .no] :=
    lc_emb (fun t : Sta => decide (0 < cntF a ops false (a.length - (i + 1)) ((i + 1 : Nat) : Int) (some t))) fun t ht => ⟨[.sh r, .sh op, .sh (.list (tabsF a ops false 0)), s3, .sh (.int (i : Nat)), .ow L, .sh (rowD x.1), .sh (stD x.2), s8, .sh (stD (some t))], rfl, rfl, af_t hT (hg t ht), fun _ => rfl⟩
  have S1 := sSet_ok (i := 8) (eL_ok (eLc_ok (af_src (s2 := .sh (.list (tabsF a ops false 0))) (s3 := s3) (s5 := .ow L) (s6 := .sh (rowD x.1)) (s8 := s8) (s9 := .no) (nexts_at hr ho hi hs)) (by rw [List.length_map]; exact size_of (by omega)) l1))
  have gl : (goOn a ops i x.2).length ≤ 100 := Nat.le_trans (List.length_filter_le _ _) (by omega)
  have l2 : lcL [9] (gN 9) gYes ce_all_futures_3 ((goOn a ops i x.2).map fun t => stD (some t)) [.sh r, .sh op, .sh (.list (tabsF a ops false 0)), s3, .sh (.int (i : Nat)), .ow L, .sh (rowD x.1), .sh (stD x.2), .sh (.list ((goOn a ops i x.2).map fun t => stD (some t))), .no] = .ok ((goOn a ops i x.2).map fun t => pthD (x.1 ++ [t.num], some t)) [.sh r, .sh op, .sh (.list (tabsF a ops false 0)), s3, .sh (.int (i : Nat)), .ow L, .sh (rowD x.1), .sh (stD x.2), .sh (.list ((goOn a ops i x.2).map fun t => stD (some t))), .no] :=
    lc_emb1 fun t _ => ⟨[.sh r, .sh op, .sh (.list (tabsF a ops false 0)), s3, .sh (.int (i : Nat)), .ow L, .sh (rowD x.1), .sh (stD x.2), .sh (.list ((goOn a ops i x.2).map fun t => stD (some t))), .sh (stD (some t))], rfl, rfl, af_e (x := .int t.num) (d := (x.1 ++ [t.num]).map .int) rfl (by rw [addT (by rw [List.length_map]; simp; omega), List.map_append]; rfl) (by decide) (by decide)⟩
  refine ⟨.sh (.list ((goOn a ops i x.2).map fun t => stD (some t))), seq_nx S1 ?_⟩
  have e2 := eLc_ok (vs := [9]) (gi := gSeq (eV 8)) (ρ := [.sh r, .sh op, .sh (.list (tabsF a ops false 0)), s3, .sh (.int (i : Nat)), .ow L, .sh (rowD x.1), .sh (stD x.2), .sh (.list ((goOn a ops i x.2).map fun t => stD (some t))), .no]) (ρ1 := [.sh r, .sh op, .sh (.list (tabsF a ops false 0)), s3, .sh (.int (i : Nat)), .ow L, .sh (rowD x.1), .sh (stD x.2), .sh (.list ((goOn a ops i x.2).map fun t => stD (some t))), .no]) rfl (by rw [List.length_map]; exact size_of (by omega)) l2
  have em : ((goOn a ops i x.2).map fun t => pthD (x.1 ++ [t.num], some t)) = (stpP a ops i x).map pthD := by unfold stpP; rw [List.map_map]; rfl
  rw [em] at e2
  generalize eLc [9] (gSeq (eV 8)) (gN 9) gYes ce_all_futures_3 = g at *
  have e3 : g [.sh r, .sh op, .sh (.list (tabsF a ops false 0)), s3, .sh (.int (i : Nat)), .ow L, .sh (rowD x.1), .sh (stD x.2), .sh (.list ((goOn a ops i x.2).map fun t => stD (some t))), .no] = .ok ((stpP a ops i x).map pthD) [.sh r, .sh op, .sh (.list (tabsF a ops false 0)), s3, .sh (.int (i : Nat)), .ow L, .sh (rowD x.1), .sh (stD x.2), .sh (.list ((goOn a ops i x.2).map fun t => stD (some t))), .no] := e2
  exact ext_ok e3 (by rw [List.length_map]; exact size_of hz)
theorem af_in {r op : D} {a : List Int} {ops : Int → List Opt} {i : Nat} {s3 : Sl} (hr : Sq r (a.map .int)) (ho : OpsOk a ops op) (hi : i < a.length) (hl : a.length ≤ 60) : ∀ (xs : List Pth) {L : List D} {s6 s7 s8 : Sl}, (∀ x ∈ xs, x.2 ∈ layN a ops false i ∧ x.1.length = i) → L.length + (xs.flatMap (stpP a ops i)).length ≤ 100000 →
    ∃ t6 t7 t8, forL (gT 2 (gsCons (gN 6) (gsCons (gN 7) gsNil))) gb_all_futures_4 (xs.map pthD) [.sh r, .sh op, .sh (.list (tabsF a ops false 0)), s3, .sh (.int (i : Nat)), .ow L, s6, s7, s8, .no] = .nx [.sh r, .sh op, .sh (.list (tabsF a ops false 0)), s3, .sh (.int (i : Nat)), .ow (L ++ (xs.flatMap (stpP a ops i)).map pthD), t6, t7, t8, .no]
  | [], L, s6, s7, s8, _, _ => ⟨s6, s7, s8, by rw [List.flatMap_nil, List.map_nil, List.append_nil]; rfl⟩
  | x :: xs, L, s6, s7, s8, hx, hz => by
    rw [List.flatMap_cons, List.length_append] at hz
    obtain ⟨h1, h2⟩ := hx x List.mem_cons_self
    obtain ⟨t8, e1⟩ := af_b (s3 := s3) (s8 := s8) (L := L) (x := x) hr ho hi h1 (by omega) (by omega)
    obtain ⟨u6, u7, u8, e2⟩ := af_in hr ho hi hl xs (L := L ++ (stpP a ops i x).map pthD) (s6 := .sh (rowD x.1)) (s7 := .sh (stD x.2)) (s8 := t8) (fun y hy => hx y (List.mem_cons_of_mem _ hy)) (by rw [List.length_append, List.length_map]; omega)
    refine ⟨u6, u7, u8, for_cons (ρ1 := [.sh r, .sh op, .sh (.list (tabsF a ops false 0)), s3, .sh (.int (i : Nat)), .ow L, .sh (rowD x.1), .sh (stD x.2), s8, .no]) rfl e1 (e2.trans ?_)⟩
    rw [List.flatMap_cons, List.map_append, List.append_assoc]
theorem af_for {r op : D} {a : List Int} {ops : Int → List Opt} (hr : Sq r (a.map .int)) (ho : OpsOk a ops op) (hl : a.length ≤ 60) (h0 : 0 < cntF a ops false a.length 0 none) (hm : cntF a ops false a.length 0 none ≤ 10000) :
    ∃ t4 t5 t6 t7 t8, forL (gN 4) gb_all_futures_5 (rangeD 0 a.length) [.sh r, .sh op, .sh (.list (tabsF a ops false 0)), .sh (.list [.tuple [.tuple [], .none]]), .no, .no, .no, .no, .no, .no] = .nx [.sh r, .sh op, .sh (.list (tabsF a ops false 0)), .sh (.list ((pthL a ops a.length).map pthD)), t4, t5, t6, t7, t8, .no] := by
  obtain ⟨ρ', e, t4, t5, t6, t7, t8, rfl⟩ := for_inv (k := gN 4) (b := gb_all_futures_5) (ds := rangeD 0 a.length)
    (fun i ρ => ∃ t4 t5 t6 t7 t8, ρ = [.sh r, .sh op, .sh (.list (tabsF a ops false 0)), .sh (.list ((pthL a ops i).map pthD)), t4, t5, t6, t7, t8, .no])
    (fun i d ρ hd hh => by
      obtain ⟨rfl, hi⟩ := rangeD_at hd
      obtain ⟨t4, t5, t6, t7, t8, rfl⟩ := hh
      have pl := pth_len h0 (i := i + 1) (by omega)
      have pe : pthL a ops (i + 1) = (pthL a ops i).flatMap (stpP a ops i) := rfl
      rw [pe] at pl
      obtain ⟨u6, u7, u8, e1⟩ := af_in (s3 := .sh (.list ((pthL a ops i).map pthD))) hr ho hi hl (pthL a ops i) (L := []) (s6 := t6) (s7 := t7) (s8 := t8) (pth_lay i) (by rw [List.length_nil]; omega)
      rw [List.nil_append, ← pe] at e1
      exact ⟨[.sh r, .sh op, .sh (.list (tabsF a ops false 0)), .sh (.list ((pthL a ops i).map pthD)), .sh (.int (i : Int)), t5, t6, t7, t8, .no], rfl, _, .inl (seq_nx (ρ1 := [.sh r, .sh op, .sh (.list (tabsF a ops false 0)), .sh (.list ((pthL a ops i).map pthD)), .sh (.int (i : Int)), .ow [], t6, t7, t8, .no]) rfl (seq_nx (sFor_nx (ρ1 := [.sh r, .sh op, .sh (.list (tabsF a ops false 0)), .sh (.list ((pthL a ops i).map pthD)), .sh (.int (i : Int)), .ow [], t6, t7, t8, .no]) rfl e1) rfl)), .sh (.int (i : Int)), .sh (.list ((pthL a ops (i + 1)).map pthD)), u6, u7, u8, rfl⟩)
    (ρ := [.sh r, .sh op, .sh (.list (tabsF a ops false 0)), .sh (.list [.tuple [.tuple [], .none]]), .no, .no, .no, .no, .no, .no]) ⟨.no, .no, .no, .no, .no, rfl⟩
  rw [rangeD_len] at e
  exact ⟨t4, t5, t6, t7, t8, e⟩
theorem af_go {r : D} {n : Int} {w O Ts M P Y : List D} {t4 t5 t6 t7 t8 : Sl} (e0 : F_look_few [r] = .ok .none) (e1 : F_free_wish [r] = some w) (e2 : F_options_of [r, .list w] = some O) (e3 : F_endings [r, .list O, .bool false] = some (.list Ts)) (hl : lenD [r] = some (.int n)) (rg : rng1 [.int n] = some M)
    (f : forL (gN 4) gb_all_futures_5 M [.sh r, .sh (.list O), .sh (.list Ts), .sh (.list [.tuple [.tuple [], .none]]), .no, .no, .no, .no, .no, .no] = .nx [.sh r, .sh (.list O), .sh (.list Ts), .sh (.list P), t4, t5, t6, t7, t8, .no]) (hz : P.length ≤ sizeLine)
    (lc : lcL [6, 7] (gT 2 (gsCons (gN 6) (gsCons (gN 7) gsNil))) gYes ce_all_futures_6 P [.sh r, .sh (.list O), .sh (.list Ts), .sh (.list P), t4, t5, .no, .no, t8, .no] = .ok Y [.sh r, .sh (.list O), .sh (.list Ts), .sh (.list P), t4, t5, .no, .no, t8, .no]) : F_all_futures [r] = .ok Y := by
  have z1 : 1 ≤ sizeLine := by decide
  have z2 : 2 ≤ sizeLine := by decide
  have z0 : 0 ≤ sizeLine := by decide
  refine callXF_rf (ρ := [.sh r, .sh (.list O), .sh (.list Ts), .sh (.list P), t4, t5, .no, .no, t8, .no]) rfl (seq_nx (ρ1 := [.sh r, .no, .no, .no, .no, .no, .no, .no, .no, .no]) ?_ (seq_nx (ρ1 := [.sh r, .sh (.list O), .no, .no, .no, .no, .no, .no, .no, .no]) ?_ (seq_nx (ρ1 := [.sh r, .sh (.list O), .sh (.list Ts), .sh (.list [.tuple [.tuple [], .none]]), .no, .no, .no, .no, .no, .no]) ?_ (seq_nx (sFor_nx (ρ1 := [.sh r, .sh (.list O), .sh (.list Ts), .sh (.list [.tuple [.tuple [], .none]]), .no, .no, .no, .no, .no, .no]) ?_ f) (sRetF_ok (eLc_ok (ρ1 := [.sh r, .sh (.list O), .sh (.list Ts), .sh (.list P), t4, t5, t6, t7, t8, .no]) rfl hz lc))))))
  · clear f lc
    show (sDropX (eCallX F_look_few (aCons (oE (eV 0)) aNil))) [.sh r, .no, .no, .no, .no, .no, .no, .no, .no, .no] = _
    walk_at "evh"
  · clear f lc
    walk_at "evh"
  · clear f lc
    walk_at "evh"
  · clear f lc
    walk_at "evh"
theorem all_fut {r : D} {a : List Int} (hr : Sq r (a.map .int)) (hl : a.length < 60) (hm : (folR a).length ≤ 300) : F_all_futures [r] = .ok ((folR a).map rowD) := by
  have fp := fol_ne a
  have fl := fol_len a
  obtain ⟨t4, t5, t6, t7, t8, f⟩ := af_for (ops := optA a) hr (free_ok hl) (by omega) (by omega) (by omega)
  have pl := pth_len (a := a) (ops := optA a) (by omega) (i := a.length) (Nat.le_refl _)
  have pe := pth_end (a := a) (ops := optA a) (by omega)
  have m1 : rng1 [.int (a.length : Int)] = some (rangeD 0 a.length) := by
    have := rng1_eq (m := (a.length : Int)) (by omega) (by omega)
    rw [this, Int.toNat_natCast]
  have er : (folR a).map rowD = (pthL a (optA a) a.length).map fun x => rowD x.1 := by
    show (rowF a (optA a) false a.length 0 none).map rowD = _
    rw [← pe, List.map_map]; rfl
  rw [er]
  refine af_go (lf_ok (fut_many hr hl) (decide_eq_false (by omega))) (fw_eq hr hl) (free_opts hr hl) (en_eq (calm := false) hr (free_ok hl) (by omega)) hr.leni m1 f (by rw [List.length_map]; exact size_of (by omega)) ?_
  exact lc_emb1 fun x _ => ⟨[.sh r, .sh (.list (freeO a)), .sh (.list (tabsF a (optA a) false 0)), .sh (.list ((pthL a (optA a) a.length).map pthD)), t4, t5, .sh (rowD x.1), .sh (stD x.2), t8, .no], rfl, rfl, rfl⟩
end W

namespace W
open PySem L2 DL
local macro_rules | `(tactic| walk_at "ev") => `(tactic| simp only [eC, eV, oE, oV, eL, eT, aNil, aCons, eOp2, eOp1, eApp, tstE, eB, tNotG, tAndG, tOrG, eAndG, eOrG, eNotG, eIf, eSeq, eCall, eCallO, eCallB, eCallBF, eCallBX, sSeq, sNext, sRet, sRetF, sRetO, sRetN, sDrop, sIf, sSet, sSetO, sBreak, sCont, sBad, sPar, sPar3, fz, sFz, eCallW, idL, sApp, sPutIx, sAug, sFor, gN, gT, gsCons, gsNil, gYes, eLc, gSeq, nS, nF, Nw.sl, R.ok_bind, R.ok_map, R.lift_some, to_ok, toX_ok, toX_ex, bind_nx, bind_rt, bind_rf, bind_ex, bind_bk, bind_ct, at_ok, at_ex, res_val, map_ex, rbind_ex, Op.res, resA, valA, isOw, box0, Option.map_some, Option.bind_some, sHeardT, nlCons, nlNil, Nw.dat, mSet, eChain, eRg1, eRg2, eSl, pNo, pSo,
  List.getElem?_cons_zero, List.getElem?_cons_succ, List.set_cons_zero, List.set_cons_succ, List.length_cons, List.length_nil, if_true, if_false, Bool.false_eq_true, ite_true, ite_false, reduceIte,
  addU_int, subD_int, ltD_int, leD_int, gtD_int, geD_int, negD_int, absD_int, intD_bool, intD_int, lenD_list, lenD_tuple, lenD_scr, pow10_7, pow10_18, pow10_40, eqW_ints, neW_ints, eqW_strs, neW_strs, eqW_none, eqW_in, eqW_ni, ixD_list, ixD_tuple, ixD_scr, atI_3_0, atI_3_1, atI_3_2, ixN_3_0, ixN_3_1, ixN_3_2, wipeR, zip2D, skOf, isiD_n, isiD_b, isiD_i, isiD_s, isiD_l, isiD_t, isiTD_n, isiTD_b, isiTD_i, isiTD_s, isiTD_l, isiTD_t, isiAny, eCallX, eCallWX, xE, xIf, xL, xCb1, sSetX, sRetX, sDropX, sRaise, sTo, eMk, isX_n, sKeep, kt_ll, kt_lt, kt_ls, kt_li, kt_lb, kt_tl, kt_tt, kt_ts, kt_ti, kt_tb, kt_sl, kt_st, kt_ss, kt_si, kt_sb, kt_il, kt_it, kt_is, kt_ii, kt_ib, kt_bl, kt_bt, kt_bs, kt_bi, kt_bb, kt_nl, kt_nt, kt_ns, kt_ni, kt_nb, eqW_bools, neW_bools, isD_none, isNotD_none, isNoneD, isNone_e, List.map_cons, List.map_nil, List.replicate, List.append_nil, List.cons_append, List.nil_append, nc0, nc1, nc2, nc3, nc4, nc5, nc6, nc7, nc8, nc9, nc10, nc11, nc12, nc13, nc14, nc15, nc16, nc17, nc18, nc19, nc20, Nat.reduceAdd, Nat.reduceSub, ne_eq, decide_true, decide_false, not_true_eq_false, not_false_eq_true, reduceCtorEq, Bool.and_true, Bool.true_and, Bool.and_false, Bool.false_and, Bool.or_true, Bool.true_or, Bool.or_false, Bool.false_or, Bool.not_true, Bool.not_false, and_self, if_true])
local macro_rules | `(tactic| walk_at "evh") => `(tactic| simp only [eC, eV, oE, oV, eL, eT, aNil, aCons, eOp2, eOp1, eApp, tstE, eB, tNotG, tAndG, tOrG, eAndG, eOrG, eNotG, eIf, eSeq, eCall, eCallO, eCallB, eCallBF, eCallBX, sSeq, sNext, sRet, sRetF, sRetO, sRetN, sDrop, sIf, sSet, sSetO, sBreak, sCont, sBad, sPar, sPar3, fz, sFz, eCallW, idL, sApp, sPutIx, sAug, sFor, gN, gT, gsCons, gsNil, gYes, eLc, gSeq, nS, nF, Nw.sl, R.ok_bind, R.ok_map, R.lift_some, to_ok, toX_ok, toX_ex, bind_nx, bind_rt, bind_rf, bind_ex, bind_bk, bind_ct, at_ok, at_ex, res_val, map_ex, rbind_ex, Op.res, resA, valA, isOw, box0, Option.map_some, Option.bind_some, sHeardT, nlCons, nlNil, Nw.dat, mSet, eChain, eRg1, eRg2, eSl, pNo, pSo,
  List.getElem?_cons_zero, List.getElem?_cons_succ, List.set_cons_zero, List.set_cons_succ, List.length_cons, List.length_nil, if_true, if_false, Bool.false_eq_true, ite_true, ite_false, reduceIte,
  addU_int, subD_int, ltD_int, leD_int, gtD_int, geD_int, negD_int, absD_int, intD_bool, intD_int, lenD_list, lenD_tuple, lenD_scr, pow10_7, pow10_18, pow10_40, eqW_ints, neW_ints, eqW_strs, neW_strs, eqW_none, eqW_in, eqW_ni, ixD_list, ixD_tuple, ixD_scr, atI_3_0, atI_3_1, atI_3_2, ixN_3_0, ixN_3_1, ixN_3_2, wipeR, zip2D, skOf, isiD_n, isiD_b, isiD_i, isiD_s, isiD_l, isiD_t, isiTD_n, isiTD_b, isiTD_i, isiTD_s, isiTD_l, isiTD_t, isiAny, eCallX, eCallWX, xE, xIf, xL, xCb1, sSetX, sRetX, sDropX, sRaise, sTo, eMk, isX_n, sKeep, kt_ll, kt_lt, kt_ls, kt_li, kt_lb, kt_tl, kt_tt, kt_ts, kt_ti, kt_tb, kt_sl, kt_st, kt_ss, kt_si, kt_sb, kt_il, kt_it, kt_is, kt_ii, kt_ib, kt_bl, kt_bt, kt_bs, kt_bi, kt_bb, kt_nl, kt_nt, kt_ns, kt_ni, kt_nb, eqW_bools, neW_bools, isD_none, isNotD_none, isNoneD, isNone_e, List.map_cons, List.map_nil, List.replicate, List.append_nil, List.cons_append, List.nil_append, nc0, nc1, nc2, nc3, nc4, nc5, nc6, nc7, nc8, nc9, nc10, nc11, nc12, nc13, nc14, nc15, nc16, nc17, nc18, nc19, nc20, Nat.reduceAdd, Nat.reduceSub, ne_eq, decide_true, decide_false, not_true_eq_false, not_false_eq_true, reduceCtorEq, Bool.and_true, Bool.true_and, Bool.and_false, Bool.false_and, Bool.or_true, Bool.true_or, Bool.or_false, Bool.false_or, Bool.not_true, Bool.not_false, and_self, if_true, *])
theorem pl_rows (l : List (List Int)) (hl : l.length ≤ 1000) (hb : ∀ b ∈ l, b.length ≤ 1000) : Pl 4 (.list (l.map rowD)) := .list (by rw [List.length_map]; exact size_of (by omega)) fun x hx => by
  obtain ⟨b, h, rfl⟩ := List.mem_map.mp hx
  refine .tuple (by rw [List.length_map]; exact size_of (by have := hb b h; omega)) fun y hy => ?_
  obtain ⟨i, _, rfl⟩ := List.mem_map.mp hy
  exact .int _ i
theorem w_1 {box box1 : List D} {s1 s2 s3 s4 : Sl} {L : D} (e : F__law_some_line box [.int 7] = some (L, box1)) : (sSet 2 (eCallB F__law_some_line 0 (aCons (oE (eC (.int 7))) aNil))) [.ow box, s1, s2, s3, s4, .no] = .nx [.ow box1, s1, .sh L, s3, s4, .no] := by
  walk_at "evh"
theorem w_2 {b0 s1 s3 s4 : Sl} {L Y : D} {E ms : List D} (ly : F__law_far [L] = some Y) (so : sortDD [Y] = some E) (li : listD [L] = some ms) : (sPar 3 4 (nS (eL (eApp sortDD (aCons (oE (eCall F__law_far (aCons (oE (eV 2)) aNil))) aNil)))) (nS (eL (eApp listD (aCons (oE (eV 2)) aNil))))) [b0, s1, .sh L, s3, s4, .no] = .nx [b0, s1, .sh L, .sh (.list E), .sh (.list ms), .no] := by
  walk_at "evh"
theorem w_3 {b0 s1 s3 : Sl} {L S : D} {E : List D} (e1 : F_all_futures [L] = .ok E) (e2 : F_all_futures [S] = .ok E) : (nlCons (nF (eCallX F_all_futures (aCons (oE (eV 2)) aNil))) (nlCons (nF (eCallWX F_all_futures 1 @idL (aCons (oE (eV 4)) aNil))) nlNil)) [b0, s1, .sh L, s3, .sh S, .no] = .ok [.f E, .f E] [b0, s1, .sh L, s3, .sh S, .no] := by
  walk_at "evh"
theorem w_4 {b0 s1 s2 s4 : Sl} {E : D} (z : 2 ≤ sizeLine) : (eL (eSeq (aCons (oE (eV 3)) (aCons (oE (eV 3)) aNil)))) [b0, s1, s2, .sh E, s4, .no] = .ok (.list [E, E]) [b0, s1, s2, .sh E, s4, .no] := by
  walk_at "evh"
theorem w_5 {b0 s1 : Sl} {L S : D} {E ms : List D} (e1 : F_all_futures [L] = .ok E) (sm : F__law_same 6 [.list E, .list E] = some (.bool true)) (li : listD [L] = some ms) (ne : neW S (.list ms) = some (.bool false)) : gr__law_right_1 [b0, s1, .sh L, .sh (.list E), .sh S, .no] = .nx [b0, s1, .sh L, .sh (.list E), .sh S, .no] := by
  unfold gr__law_right_1
  walk_at "evh"
theorem turn_eq {box : List D} {n : Int} {s1 s2 s3 s4 : Sl} (g : GoodBox n box) (hn : n < 2 ^ 36) : ∃ box' t2 t3 t4, gb__law_right_2 [.ow box, s1, s2, s3, s4, .no] = .nx [.ow box', s1, t2, t3, t4, .no] ∧ GoodBox (n + 100) box' := by
  obtain ⟨a, box1, e1, h7, hr, g1⟩ := some_line_eq (n := n) (box := box) 7 (by decide) g (by omega)
  obtain ⟨acc, ly, nd, hk⟩ := ly_eq (a := a) (by omega)
  have so := sort_fol (f := dD a) rfl nd hk
  have fs := fol_243 h7
  have T := Sq.t (a.map PyData.int)
  have Lq := Sq.l (a.map PyData.int)
  have f1 := all_fut (r := rowD a) T (by omega) (by omega)
  have f2 := all_fut Lq (by omega) (by omega)
  have pl := pl_rows (folR a) (by omega) fun b hb => by have := (fol_mem.mp hb).len; omega
  have sm1 : F__law_same 6 [.list [.list ((folR a).map rowD), .list ((folR a).map rowD)], .list [.list ((folR a).map rowD), .list ((folR a).map rowD)]] = some (.bool true) := same_refl 5 (.list (by show 2 ≤ sizeLine; decide) fun x hx => by
    simp only [List.mem_cons, List.not_mem_nil, or_false] at hx
    rcases hx with rfl | rfl <;> exact pl)
  have sm2 : F__law_same 6 [.list ((folR a).map rowD), .list ((folR a).map rowD)] = some (.bool true) := same_refl 5 (.list (by rw [List.length_map]; exact size_of (by omega)) fun x hx => by
    obtain ⟨b, hb, rfl⟩ := List.mem_map.mp hx
    have := (fol_mem.mp hb).len
    refine .tuple (by rw [List.length_map]; exact size_of (by omega)) fun y hy => ?_
    obtain ⟨i, _, rfl⟩ := List.mem_map.mp hy
    exact .int _ i)
  have ne : neW (.list (a.map .int)) (.list (a.map .int)) = some (.bool false) := by rw [neW_li, decide_eq_true rfl]; rfl
  refine ⟨box1, .sh (rowD a), .sh (.list ((folR a).map rowD)), .sh (.list (a.map .int)), seq_nx (w_1 e1) (seq_nx (w_2 ly so T.lst) (heardT_ok (w_3 f1 f2) (by show 2 ≤ sizeLine; decide) (by show 5 < 6; decide) (by show 1 ≤ sizeLine; decide) (w_4 (by decide)) sm1 ?_ rfl (w_5 f1 sm2 T.lst ne))), g1.mono (by omega)⟩
  intro j hj
  rw [List.mem_singleton.mp hj]
  exact ⟨(folR a).map rowD, rfl, by rw [List.length_map]; exact size_of (by simp; omega)⟩
theorem w_for : ∀ (k : Nat) {ds box : List D} {n : Int} {s1 s2 s3 s4 : Sl}, ds.length = k → GoodBox n box → n + 100 * k < 2 ^ 36 → ∃ box' t1 t2 t3 t4, forL (gN 1) gb__law_right_2 ds [.ow box, s1, s2, s3, s4, .no] = .nx [.ow box', t1, t2, t3, t4, .no] ∧ GoodBox (n + 100 * k) box'
  | 0, ds, box, n, s1, s2, s3, s4, hk, g, hn => by
    rw [List.eq_nil_of_length_eq_zero hk]
    exact ⟨box, s1, s2, s3, s4, rfl, g.mono (by omega)⟩
  | k + 1, ds, box, n, s1, s2, s3, s4, hk, g, hn => by
    cases ds with
    | nil => cases hk
    | cons d ds =>
      obtain ⟨box1, t2, t3, t4, e, g1⟩ := turn_eq (s1 := .sh d) (s2 := s2) (s3 := s3) (s4 := s4) g (by omega)
      obtain ⟨box', u1, u2, u3, u4, e2, g2⟩ := w_for k (ds := ds) (s1 := .sh d) (s2 := t2) (s3 := t3) (s4 := t4) (by simpa using hk) g1 (by omega)
      exact ⟨box', u1, u2, u3, u4, for_cons rfl e e2, g2.mono (by omega)⟩
theorem w_r {b0 s1 s2 s3 s4 s5 : Sl} {M : List D} (rg : rng1 [.int 3] = some M) : (eCall rng1 (aCons (oE (eC (.int 3))) aNil)) [b0, s1, s2, s3, s4, s5] = .ok M [b0, s1, s2, s3, s4, s5] := by
  walk_at "evh"
theorem right_eq {n : Int} {box : List D} (hb : GoodBox n box) (hn : n < 2 ^ 30) : ∃ box', F__law_right box [] = some (.bool true, box') ∧ GoodBox (n + 2000) box' := by
  obtain ⟨box2, t1, t2, t3, t4, e2, g2⟩ := w_for 3 (ds := rangeD 0 3) (box := box) (s1 := .no) (s2 := .no) (s3 := .no) (s4 := .no) rfl hb (by omega)
  have r3 : rng1 [.int 3] = some (rangeD 0 3) := rng1_eq (by omega) (by omega)
  have st : g__law_right [.ow box, .no, .no, .no, .no, .no] = .rt (.bool true) [.ow box2, t1, t2, t3, t4, .no] := seq_nx (sFor_nx (w_r r3) e2) rfl
  refine ⟨box2, ?_, g2.mono (by omega)⟩
  unfold F__law_right callB envB
  show (match g__law_right [.ow box, .no, .no, .no, .no, .no] with
    | .rt d ρ => (box0 ρ).map (d, ·)
    | .nx ρ => (box0 ρ).map (.none, ·)
    | .rf ds ρ => (box0 ρ).map (.list ds, ·)
    | _ => none) = _
  rw [st]; rfl
end W

namespace W
open PySem L2 DL
local macro_rules | `(tactic| walk_at "ev") => `(tactic| simp only [eC, eV, oE, oV, eL, eT, aNil, aCons, eOp2, eOp1, eApp, tstE, eB, tNotG, tAndG, tOrG, eAndG, eOrG, eNotG, eIf, eSeq, eCall, eCallO, eCallB, eCallBF, eCallBX, sSeq, sNext, sRet, sRetF, sRetO, sRetN, sDrop, sIf, sSet, sSetO, sBreak, sCont, sBad, sPar, sPar3, fz, sFz, eCallW, idL, sApp, sPutIx, sAug, sFor, gN, gT, gsCons, gsNil, gYes, eLc, gSeq, nS, nF, Nw.sl, R.ok_bind, R.ok_map, R.lift_some, to_ok, toX_ok, toX_ex, bind_nx, bind_rt, bind_rf, bind_ex, bind_bk, bind_ct, at_ok, at_ex, res_val, map_ex, rbind_ex, Op.res, resA, valA, isOw, box0, Option.map_some, Option.bind_some, sHeardT, nlCons, nlNil, Nw.dat, mSet, eChain, eRg1, eRg2, eSl, pNo, pSo,
  List.getElem?_cons_zero, List.getElem?_cons_succ, List.set_cons_zero, List.set_cons_succ, List.length_cons, List.length_nil, if_true, if_false, Bool.false_eq_true, ite_true, ite_false, reduceIte,
  addU_int, subD_int, ltD_int, leD_int, gtD_int, geD_int, negD_int, absD_int, intD_bool, intD_int, lenD_list, lenD_tuple, lenD_scr, pow10_7, pow10_18, pow10_40, eqW_ints, neW_ints, eqW_strs, neW_strs, eqW_none, eqW_in, eqW_ni, ixD_list, ixD_tuple, ixD_scr, atI_3_0, atI_3_1, atI_3_2, ixN_3_0, ixN_3_1, ixN_3_2, wipeR, zip2D, skOf, isiD_n, isiD_b, isiD_i, isiD_s, isiD_l, isiD_t, isiTD_n, isiTD_b, isiTD_i, isiTD_s, isiTD_l, isiTD_t, isiAny, eCallX, eCallWX, xE, xIf, xL, xCb1, sSetX, sRetX, sDropX, sRaise, sTo, eMk, isX_n, sKeep, kt_ll, kt_lt, kt_ls, kt_li, kt_lb, kt_tl, kt_tt, kt_ts, kt_ti, kt_tb, kt_sl, kt_st, kt_ss, kt_si, kt_sb, kt_il, kt_it, kt_is, kt_ii, kt_ib, kt_bl, kt_bt, kt_bs, kt_bi, kt_bb, kt_nl, kt_nt, kt_ns, kt_ni, kt_nb, eqW_bools, neW_bools, isD_none, isNotD_none, isNoneD, isNone_e, List.map_cons, List.map_nil, List.replicate, List.append_nil, List.cons_append, List.nil_append, nc0, nc1, nc2, nc3, nc4, nc5, nc6, nc7, nc8, nc9, nc10, nc11, nc12, nc13, nc14, nc15, nc16, nc17, nc18, nc19, nc20, Nat.reduceAdd, Nat.reduceSub, ne_eq, decide_true, decide_false, not_true_eq_false, not_false_eq_true, reduceCtorEq, Bool.and_true, Bool.true_and, Bool.and_false, Bool.false_and, Bool.or_true, Bool.true_or, Bool.or_false, Bool.false_or, Bool.not_true, Bool.not_false])
local macro_rules | `(tactic| walk_at "evh") => `(tactic| simp only [eC, eV, oE, oV, eL, eT, aNil, aCons, eOp2, eOp1, eApp, tstE, eB, tNotG, tAndG, tOrG, eAndG, eOrG, eNotG, eIf, eSeq, eCall, eCallO, eCallB, eCallBF, eCallBX, sSeq, sNext, sRet, sRetF, sRetO, sRetN, sDrop, sIf, sSet, sSetO, sBreak, sCont, sBad, sPar, sPar3, fz, sFz, eCallW, idL, sApp, sPutIx, sAug, sFor, gN, gT, gsCons, gsNil, gYes, eLc, gSeq, nS, nF, Nw.sl, R.ok_bind, R.ok_map, R.lift_some, to_ok, toX_ok, toX_ex, bind_nx, bind_rt, bind_rf, bind_ex, bind_bk, bind_ct, at_ok, at_ex, res_val, map_ex, rbind_ex, Op.res, resA, valA, isOw, box0, Option.map_some, Option.bind_some, sHeardT, nlCons, nlNil, Nw.dat, mSet, eChain, eRg1, eRg2, eSl, pNo, pSo,
  List.getElem?_cons_zero, List.getElem?_cons_succ, List.set_cons_zero, List.set_cons_succ, List.length_cons, List.length_nil, if_true, if_false, Bool.false_eq_true, ite_true, ite_false, reduceIte,
  addU_int, subD_int, ltD_int, leD_int, gtD_int, geD_int, negD_int, absD_int, intD_bool, intD_int, lenD_list, lenD_tuple, lenD_scr, pow10_7, pow10_18, pow10_40, eqW_ints, neW_ints, eqW_strs, neW_strs, eqW_none, eqW_in, eqW_ni, ixD_list, ixD_tuple, ixD_scr, atI_3_0, atI_3_1, atI_3_2, ixN_3_0, ixN_3_1, ixN_3_2, wipeR, zip2D, skOf, isiD_n, isiD_b, isiD_i, isiD_s, isiD_l, isiD_t, isiTD_n, isiTD_b, isiTD_i, isiTD_s, isiTD_l, isiTD_t, isiAny, eCallX, eCallWX, xE, xIf, xL, xCb1, sSetX, sRetX, sDropX, sRaise, sTo, eMk, isX_n, sKeep, kt_ll, kt_lt, kt_ls, kt_li, kt_lb, kt_tl, kt_tt, kt_ts, kt_ti, kt_tb, kt_sl, kt_st, kt_ss, kt_si, kt_sb, kt_il, kt_it, kt_is, kt_ii, kt_ib, kt_bl, kt_bt, kt_bs, kt_bi, kt_bb, kt_nl, kt_nt, kt_ns, kt_ni, kt_nb, eqW_bools, neW_bools, isD_none, isNotD_none, isNoneD, isNone_e, List.map_cons, List.map_nil, List.replicate, List.append_nil, List.cons_append, List.nil_append, nc0, nc1, nc2, nc3, nc4, nc5, nc6, nc7, nc8, nc9, nc10, nc11, nc12, nc13, nc14, nc15, nc16, nc17, nc18, nc19, nc20, Nat.reduceAdd, Nat.reduceSub, ne_eq, decide_true, decide_false, not_true_eq_false, not_false_eq_true, reduceCtorEq, Bool.and_true, Bool.true_and, Bool.and_false, Bool.false_and, Bool.or_true, Bool.true_or, Bool.or_false, Bool.false_or, Bool.not_true, Bool.not_false, *])
theorem law_true (ns : List Int) (hl : ns.length ≤ 63) : F_law [.dict [(.list (ns.map .int), .none)]] = some (.bool true) := by
  have mi : min2D [.int 3, .int ((ns.map PyData.int).length : Int)] = some (.int (if ((ns.map PyData.int).length : Int) < 3 then ((ns.map PyData.int).length : Int) else 3)) := rfl
  generalize hm : (if ((ns.map PyData.int).length : Int) < 3 then ((ns.map PyData.int).length : Int) else 3) = m at mi
  have hm3 : 0 ≤ m ∧ m ≤ 3 := by
    rw [← hm]
    split <;> omega
  have rg : rng1 [.int (1 + m)] = some (rangeD 0 (1 + m).toNat) := rng1_eq (by omega) (by omega)
  have sz : (rangeD 0 (1 + m).toNat).length ≤ sizeLine := by rw [rangeD_len]; exact Nat.le_trans (by omega : (1 + m).toNat ≤ 4) (by decide)
  have e : lcL [1] (gN 1) gYes ce_law_1 (rangeD 0 (1 + m).toNat) [.sh (.dict [(.list (ns.map .int), .none)]), .no] = .ok ((rangeD 0 (1 + m).toNat).map fun _ => PyData.bool true) [.sh (.dict [(.list (ns.map .int), .none)]), .no] := by
    refine lc_map _ fun d hd => ?_
    obtain ⟨i, hi, ed⟩ := List.mem_iff_getElem.mp hd
    obtain ⟨rfl, hi⟩ := rangeD_at (List.getElem?_eq_some_iff.mpr ⟨hi, ed⟩)
    obtain ⟨box, e1, g⟩ := box_eq (ns := ns) (k := i) (by omega)
    obtain ⟨box', e2, _⟩ := right_eq g (by decide)
    refine ⟨[.sh (.dict [(.list (ns.map .int), .none)]), .sh (.int (i : Int))], rfl, rfl, rfl, ?_⟩
    clear g hd ed sz rg mi hm hm3 hl
    unfold ce_law_1
    walk_at "evh"
  have al := all_true (rangeD 0 (1 + m).toNat)
  clear hm hm3 hl
  unfold F_law callP g_law env0
  walk_at "evh"
end W

namespace W
open PySem L2 DL
def FF (K : PySem.W.Frag) (name : Str) (st : Stmt) : Prop := ∃ (f : Addr) (fd : FuncData), PySem.W.nsIn K mainGlobals name = some (some (.ref f)) ∧ Fun K name name st f fd
theorem ff_mk {K : PySem.W.Frag} {name : Str} {st : Stmt} {f : Addr} {oc : Value} {od an : Option Addr} {osl : Array (Option Value)} {kV doc pm cdv ct : Value} (a : PySem.W.nsIn K mainGlobals name = some (some (.ref f)))
    (l : K.lookup f = some ⟨oc, od, .func (PySem.W.fnOf name name (defArgs st) (defBody st) (defScope st) .none kV doc pm an cdv ct), osl⟩) (c : PySem.W.codeIn K cdv name = true) (k : PySem.W.keepIn K (.ref f) = true) : FF K name st := ⟨f, _, a, fun_mk l c k⟩
theorem kwB_of {K : PySem.W.Frag} {x qual : Str} {st : Stmt} {f : Addr} {fd : FuncData} {ps ks : List Str} {g : {α : Type} → List α → List α} (F : Fun K x qual st f fd) (rel : ∀ {A C : Type} {rel : A → C → Prop} {zs : List A} {ws : List C}, Paired rel zs ws → Paired rel (g zs) (g ws))
    (h : ∀ (kV doc pm : Value) (an : Option Addr) (cdv ct : Value) (ws : List Value), ws.length = ks.length → bindArgs (PySem.W.fnOf x qual (defArgs st) (defBody st) (defScope st) .none kV doc pm an cdv ct) ⟨[], ks.zip ws⟩ = pure (ps.zip (g ws))) : KwB K fd ps ks g := by
  obtain ⟨oc, od, kV, doc, pm, an, cdv, ct, osl, rfl, lk, hcd⟩ := F.ex
  exact ⟨fun s ws _ hl => .of_eq (h kV doc pm an cdv ct ws hl), rel⟩
theorem kwI_of {K : PySem.W.Frag} {x qual : Str} {st : Stmt} {f : Addr} {fd : FuncData} {n : Str} (F : Fun K x qual st f fd)
    (h : ∀ (kV doc pm : Value) (an : Option Addr) (cdv ct : Value) (a u : Value), bindArgs (PySem.W.fnOf x qual (defArgs st) (defBody st) (defScope st) .none kV doc pm an cdv ct) ⟨[a], [(n, u)]⟩ = pure ((["self", n] : List Str).zip [a, u])) : KwI K fd n := by
  obtain ⟨oc, od, kV, doc, pm, an, cdv, ct, osl, rfl, lk, hcd⟩ := F.ex
  exact fun s a u _ => .of_eq (h kV doc pm an cdv ct a u)
theorem all_mk {l : PySem.W.OpenLaw} {w : World} {K : PySem.W.Frag} {h : Heap} {mg : Str → Option Value} {fa : Addr} (X : K.In h) (G : h.Ns mainGlobals mg) (hfa : mg "law" = some (.ref fa))
    (f__law_box : FF K "_law_box" s__law_box) (f__law_call : FF K "_law_call" s__law_call) (f__law_far : FF K "_law_far" s__law_far) (f__law_same : FF K "_law_same" s__law_same) (f__law_take : FF K "_law_take" s__law_take) (f__law_some_line : FF K "_law_some_line" s__law_some_line) (f_parted : FF K "parted" s_parted) (f_next_state : FF K "next_state" s_next_state) (f_next_states : FF K "next_states" s_next_states) (f_endings : FF K "endings" s_endings) (f_free_wish : FF K "free_wish" s_free_wish) (f_inner : FF K "inner" s_inner) (f_dips : FF K "dips" s_dips) (f_tops : FF K "tops" s_tops) (f_options_of : FF K "options_of" s_options_of) (f_rows_many : FF K "rows_many" s_rows_many) (f_futures_many : FF K "futures_many" s_futures_many) (f_look_few : FF K "look_few" s_look_few) (f_all_futures : FF K "all_futures" s_all_futures) (f__law_right : FF K "_law_right" s__law_right) (f_law : FF K "law" s_law)
    (z_len : PySem.W.nsIn K mainGlobals "len" = some none) (z_abs : PySem.W.nsIn K mainGlobals "abs" = some none) (z_int : PySem.W.nsIn K mainGlobals "int" = some none) (z_sorted : PySem.W.nsIn K mainGlobals "sorted" = some none) (z_range : PySem.W.nsIn K mainGlobals "range" = some none) (z_isinstance : PySem.W.nsIn K mainGlobals "isinstance" = some none) (z_tuple : PySem.W.nsIn K mainGlobals "tuple" = some none) (z_list : PySem.W.nsIn K mainGlobals "list" = some none) (z_zip : PySem.W.nsIn K mainGlobals "zip" = some none) (z_all : PySem.W.nsIn K mainGlobals "all" = some none) (z_str : PySem.W.nsIn K mainGlobals "str" = some none) (z_bool : PySem.W.nsIn K mainGlobals "bool" = some none) (z_dict : PySem.W.nsIn K mainGlobals "dict" = some none) (z_sum : PySem.W.nsIn K mainGlobals "sum" = some none) (z_enumerate : PySem.W.nsIn K mainGlobals "enumerate" = some none) (z_set : PySem.W.nsIn K mainGlobals "set" = some none) (z_OverflowError : PySem.W.nsIn K mainGlobals "OverflowError" = some none) (z_min : PySem.W.nsIn K mainGlobals "min" = some none) {u_MOST : Tok} (w_MOST : PySem.W.nsIn K mainGlobals "MOST" = some (some (.int 300 u_MOST)))
        {C_TooMany : Addr} (aC_TooMany : PySem.W.nsIn K mainGlobals "TooMany" = some (some (.ref C_TooMany)))
    {f_iTooMany N_TooMany : Addr} {nm_TooMany q_TooMany : Str} {bs_TooMany sub_TooMany : List Value} {sn_TooMany : List Str} {ab_TooMany : Bool} {col_TooMany : Option Bool} {dd_TooMany : Option Addr} {k0_TooMany k1_TooMany k2_TooMany k3_TooMany k5_TooMany : Option Value}
    {oc_TooMany kV_TooMany doc_TooMany pm_TooMany cdv_TooMany ct_TooMany : Value} {od_TooMany an_TooMany : Option Addr} {osl_TooMany : Array (Option Value)}
    (xL_TooMany : K.lookup C_TooMany = some (excClassObj nm_TooMany q_TooMany C_TooMany N_TooMany bs_TooMany tl_OverflowError true sn_TooMany sub_TooMany ab_TooMany col_TooMany dd_TooMany k0_TooMany k1_TooMany k2_TooMany k3_TooMany k5_TooMany "OverflowError.__new__"))
    (sa_TooMany : PySem.W.findIn K (.ref C_TooMany) "__setattr__" = some (some (.builtin "object.__setattr__"))) (ex_TooMany : PySem.W.subIn K (.ref C_TooMany) (.type "BaseException") = some true) (ty_TooMany : PySem.W.typeIn K (.ref C_TooMany) = some (.type "type")) (kp_TooMany : PySem.W.keepIn K (.ref C_TooMany) = true)
    (no_TooMany : PySem.W.findIn K (.ref C_TooMany) "many" = some none) (iC_TooMany : PySem.W.findIn K (.ref C_TooMany) "__init__" = some (some (.ref f_iTooMany))) (ti_TooMany : PySem.W.typeIn K (.ref f_iTooMany) = some (.type "function"))
    (li_TooMany : K.lookup f_iTooMany = some ⟨oc_TooMany, od_TooMany, .func (PySem.W.fnOf "__init__" "TooMany.__init__" (defArgs si_TooMany) (defBody si_TooMany) (defScope si_TooMany) .none kV_TooMany doc_TooMany pm_TooMany an_TooMany cdv_TooMany ct_TooMany), osl_TooMany⟩) (ci_TooMany : PySem.W.codeIn K cdv_TooMany "TooMany.__init__" = true) (ki_TooMany : PySem.W.keepIn K (.ref f_iTooMany) = true)
    (vB_OverflowError : PySem.W.findCls K (.type "OverflowError") (.type "type") "__init__" = some (.val (.builtin "OverflowError.__init__")))
    (et : etB K CsL UsL = true) :
    ∃ fd : FuncData, (∀ (s : Shared) (v : Value), BindsTo s fd ⟨[v], []⟩ [("_law_script", v)]) ∧ ∀ base : Heap, K.In base → base.Ns mainGlobals mg → FnOk l.prog w K mg base CX0 11 fa fd ["_law_script"] (spP K 1 F_law) := by
  obtain ⟨f__law_box, d__law_box, a__law_box, F__law_box⟩ := f__law_box
  obtain ⟨f__law_call, d__law_call, a__law_call, F__law_call⟩ := f__law_call
  obtain ⟨f__law_far, d__law_far, a__law_far, F__law_far⟩ := f__law_far
  obtain ⟨f__law_same, d__law_same, a__law_same, F__law_same⟩ := f__law_same
  obtain ⟨f__law_take, d__law_take, a__law_take, F__law_take⟩ := f__law_take
  obtain ⟨f__law_some_line, d__law_some_line, a__law_some_line, F__law_some_line⟩ := f__law_some_line
  obtain ⟨f_parted, d_parted, a_parted, F_parted⟩ := f_parted
  obtain ⟨f_next_state, d_next_state, a_next_state, F_next_state⟩ := f_next_state
  obtain ⟨f_next_states, d_next_states, a_next_states, F_next_states⟩ := f_next_states
  obtain ⟨f_endings, d_endings, a_endings, F_endings⟩ := f_endings
  obtain ⟨f_free_wish, d_free_wish, a_free_wish, F_free_wish⟩ := f_free_wish
  obtain ⟨f_inner, d_inner, a_inner, F_inner⟩ := f_inner
  obtain ⟨f_dips, d_dips, a_dips, F_dips⟩ := f_dips
  obtain ⟨f_tops, d_tops, a_tops, F_tops⟩ := f_tops
  obtain ⟨f_options_of, d_options_of, a_options_of, F_options_of⟩ := f_options_of
  obtain ⟨f_rows_many, d_rows_many, a_rows_many, F_rows_many⟩ := f_rows_many
  obtain ⟨f_futures_many, d_futures_many, a_futures_many, F_futures_many⟩ := f_futures_many
  obtain ⟨f_look_few, d_look_few, a_look_few, F_look_few⟩ := f_look_few
  obtain ⟨f_all_futures, d_all_futures, a_all_futures, F_all_futures⟩ := f_all_futures
  obtain ⟨f__law_right, d__law_right, a__law_right, F__law_right⟩ := f__law_right
  obtain ⟨f_law, d_law, a_law, F_law⟩ := f_law
  have e := hfa.symm.trans (PySem.W.mg_of X G a_law)
  cases e
  let T : Tx K mg := {
    a__law_box := f__law_box, d__law_box := d__law_box, F__law_box := F__law_box, m__law_box := PySem.W.mg_of X G a__law_box, b__law_box := (F__law_box.binds fun _ _ _ _ _ _ us hl => match us, hl with | [_, _], _ => rfl),
    a__law_call := f__law_call, d__law_call := d__law_call, F__law_call := F__law_call, m__law_call := PySem.W.mg_of X G a__law_call, b__law_call := (F__law_call.binds fun _ _ _ _ _ _ us hl => match us, hl with | [_, _], _ => rfl),
    a__law_far := f__law_far, d__law_far := d__law_far, F__law_far := F__law_far, m__law_far := PySem.W.mg_of X G a__law_far, b__law_far := (F__law_far.binds fun _ _ _ _ _ _ us hl => match us, hl with | [_], _ => rfl),
    a__law_same := f__law_same, d__law_same := d__law_same, F__law_same := F__law_same, m__law_same := PySem.W.mg_of X G a__law_same, b__law_same := (F__law_same.binds fun _ _ _ _ _ _ us hl => match us, hl with | [_, _], _ => rfl),
    a__law_take := f__law_take, d__law_take := d__law_take, F__law_take := F__law_take, m__law_take := PySem.W.mg_of X G a__law_take, b__law_take := (F__law_take.binds fun _ _ _ _ _ _ us hl => match us, hl with | [_, _], _ => rfl),
    a__law_some_line := f__law_some_line, d__law_some_line := d__law_some_line, F__law_some_line := F__law_some_line, m__law_some_line := PySem.W.mg_of X G a__law_some_line, b__law_some_line := (F__law_some_line.binds fun _ _ _ _ _ _ us hl => match us, hl with | [_, _], _ => rfl),
    a_parted := f_parted, d_parted := d_parted, F_parted := F_parted, m_parted := PySem.W.mg_of X G a_parted, b_parted := (F_parted.binds fun _ _ _ _ _ _ us hl => match us, hl with | [_, _, _, _, _], _ => rfl),
    a_next_state := f_next_state, d_next_state := d_next_state, F_next_state := F_next_state, m_next_state := PySem.W.mg_of X G a_next_state, b_next_state := (F_next_state.binds fun _ _ _ _ _ _ us hl => match us, hl with | [_, _, _, _, _], _ => rfl),
    a_next_states := f_next_states, d_next_states := d_next_states, F_next_states := F_next_states, m_next_states := PySem.W.mg_of X G a_next_states, b_next_states := (F_next_states.binds fun _ _ _ _ _ _ us hl => match us, hl with | [_, _, _, _, _], _ => rfl),
    a_endings := f_endings, d_endings := d_endings, F_endings := F_endings, m_endings := PySem.W.mg_of X G a_endings, b_endings := (F_endings.binds fun _ _ _ _ _ _ us hl => match us, hl with | [_, _, _], _ => rfl),
    a_free_wish := f_free_wish, d_free_wish := d_free_wish, F_free_wish := F_free_wish, m_free_wish := PySem.W.mg_of X G a_free_wish, b_free_wish := (F_free_wish.binds fun _ _ _ _ _ _ us hl => match us, hl with | [_], _ => rfl),
    a_inner := f_inner, d_inner := d_inner, F_inner := F_inner, m_inner := PySem.W.mg_of X G a_inner, b_inner := (F_inner.binds fun _ _ _ _ _ _ us hl => match us, hl with | [_], _ => rfl),
    a_dips := f_dips, d_dips := d_dips, F_dips := F_dips, m_dips := PySem.W.mg_of X G a_dips, b_dips := (F_dips.binds fun _ _ _ _ _ _ us hl => match us, hl with | [_], _ => rfl),
    a_tops := f_tops, d_tops := d_tops, F_tops := F_tops, m_tops := PySem.W.mg_of X G a_tops, b_tops := (F_tops.binds fun _ _ _ _ _ _ us hl => match us, hl with | [_], _ => rfl),
    a_options_of := f_options_of, d_options_of := d_options_of, F_options_of := F_options_of, m_options_of := PySem.W.mg_of X G a_options_of, b_options_of := (F_options_of.binds fun _ _ _ _ _ _ us hl => match us, hl with | [_, _], _ => rfl),
    a_rows_many := f_rows_many, d_rows_many := d_rows_many, F_rows_many := F_rows_many, m_rows_many := PySem.W.mg_of X G a_rows_many, b_rows_many := (F_rows_many.binds fun _ _ _ _ _ _ us hl => match us, hl with | [_, _, _], _ => rfl),
    a_futures_many := f_futures_many, d_futures_many := d_futures_many, F_futures_many := F_futures_many, m_futures_many := PySem.W.mg_of X G a_futures_many, b_futures_many := (F_futures_many.binds fun _ _ _ _ _ _ us hl => match us, hl with | [_], _ => rfl),
    a_look_few := f_look_few, d_look_few := d_look_few, F_look_few := F_look_few, m_look_few := PySem.W.mg_of X G a_look_few, b_look_few := (F_look_few.binds fun _ _ _ _ _ _ us hl => match us, hl with | [_], _ => rfl),
    a_all_futures := f_all_futures, d_all_futures := d_all_futures, F_all_futures := F_all_futures, m_all_futures := PySem.W.mg_of X G a_all_futures, b_all_futures := (F_all_futures.binds fun _ _ _ _ _ _ us hl => match us, hl with | [_], _ => rfl),
    a__law_right := f__law_right, d__law_right := d__law_right, F__law_right := F__law_right, m__law_right := PySem.W.mg_of X G a__law_right, b__law_right := (F__law_right.binds fun _ _ _ _ _ _ us hl => match us, hl with | [_], _ => rfl),
    a_law := fa, d_law := d_law, F_law := F_law, m_law := PySem.W.mg_of X G a_law, b_law := (F_law.binds fun _ _ _ _ _ _ us hl => match us, hl with | [_], _ => rfl),
    k_all_futures_row := (kwB_of F_all_futures kw_idL fun _ _ _ _ _ _ ws hl => match ws, hl with | [_], _ => rfl),
    n_len := PySem.W.mg_none_of X G z_len,
    n_abs := PySem.W.mg_none_of X G z_abs,
    n_int := PySem.W.mg_none_of X G z_int,
    n_sorted := PySem.W.mg_none_of X G z_sorted,
    n_range := PySem.W.mg_none_of X G z_range,
    n_isinstance := PySem.W.mg_none_of X G z_isinstance,
    n_tuple := PySem.W.mg_none_of X G z_tuple,
    n_list := PySem.W.mg_none_of X G z_list,
    n_zip := PySem.W.mg_none_of X G z_zip,
    n_all := PySem.W.mg_none_of X G z_all,
    n_str := PySem.W.mg_none_of X G z_str,
    n_bool := PySem.W.mg_none_of X G z_bool,
    n_dict := PySem.W.mg_none_of X G z_dict,
    n_sum := PySem.W.mg_none_of X G z_sum,
    n_enumerate := PySem.W.mg_none_of X G z_enumerate,
    n_set := PySem.W.mg_none_of X G z_set,
    n_OverflowError := PySem.W.mg_none_of X G z_OverflowError,
    n_min := PySem.W.mg_none_of X G z_min,
    t_MOST := u_MOST, c_MOST := PySem.W.mg_of X G w_MOST,
    c_TooMany := C_TooMany, cc_TooMany := aC_TooMany, m_TooMany := PySem.W.mg_of X G aC_TooMany,
    oc_TooMany := ⟨⟨_, _, _, _, _, _, _, _, _, _, _, _, _, _, xL_TooMany⟩, sa_TooMany, ex_TooMany, ty_TooMany, kp_TooMany⟩, no_TooMany := no_TooMany, fi_TooMany := f_iTooMany, fd_TooMany := _, Fi_TooMany := fun_mk (st := si_TooMany) li_TooMany ci_TooMany ki_TooMany, iC_TooMany := iC_TooMany, ti_TooMany := ti_TooMany, bi_TooMany := ((fun_mk (st := si_TooMany) li_TooMany ci_TooMany ki_TooMany).binds fun _ _ _ _ _ _ us hl => match us, hl with | [_, _], _ => rfl),
    vB_OverflowError := vB_OverflowError,
    et := et }
  obtain ⟨oc, od, kV, doc, pm, an, cdv, ct, osl, ed, lk, hcd⟩ := F_law.ex
  refine ⟨d_law, fun s v => ?_, fun base _ _ => ok_law T⟩
  subst ed
  exact .of_eq rfl
end W
open PySem PySem.W PyProof.Rows
set_option maxHeartbeats 0 in
theorem PySem.Challenge.cw_middlecall_k40_following_rows_listed_holds : PySem.Challenge.rw_middlecall_k40_following_rows_listed.Holds := by
  w_on; o_law; k_head; (case hw => w_witness2)
  k_fill
  refine L2.walk_of (l := PySem.Challenge.rw_middlecall_k40_following_rows_listed) (n := 63) (k := 11) (x := "_law_script") (CX := fun _ => L2.CX0) (sp := fun w => DL.spP _ 1 W.F_law) rfl (by decide) rfl ⟨rfl, by decide, by decide⟩ (fun w h Y => PySem.W.kIn_of Y) ?F (fun _ H a ns hl _ hS => ⟨rfl, H, _, _, L2.Same.refl H, DL.RpA.cons (DL.Rp.scr hS (DL.RpA.ints ns)) DL.RpA.nil, W.law_true ns hl, fun v H1 Z1 _ _ r => by cases r; rfl⟩) (fun _ _ _ _ _ h => h)
  case F =>
    intro w mg fa h KX G hmg
    refine' W.all_mk KX G hmg (W.ff_mk ?a0 ?l0 ?c0 ?k0) (W.ff_mk ?a1 ?l1 ?c1 ?k1) (W.ff_mk ?a2 ?l2 ?c2 ?k2) (W.ff_mk ?a3 ?l3 ?c3 ?k3) (W.ff_mk ?a4 ?l4 ?c4 ?k4) (W.ff_mk ?a5 ?l5 ?c5 ?k5) (W.ff_mk ?a6 ?l6 ?c6 ?k6) (W.ff_mk ?a7 ?l7 ?c7 ?k7) (W.ff_mk ?a8 ?l8 ?c8 ?k8) (W.ff_mk ?a9 ?l9 ?c9 ?k9) (W.ff_mk ?a10 ?l10 ?c10 ?k10) (W.ff_mk ?a11 ?l11 ?c11 ?k11) (W.ff_mk ?a12 ?l12 ?c12 ?k12) (W.ff_mk ?a13 ?l13 ?c13 ?k13) (W.ff_mk ?a14 ?l14 ?c14 ?k14) (W.ff_mk ?a15 ?l15 ?c15 ?k15) (W.ff_mk ?a16 ?l16 ?c16 ?k16) (W.ff_mk ?a17 ?l17 ?c17 ?k17) (W.ff_mk ?a18 ?l18 ?c18 ?k18) (W.ff_mk ?a19 ?l19 ?c19 ?k19) (W.ff_mk ?a20 ?l20 ?c20 ?k20) ?z0 ?z1 ?z2 ?z3 ?z4 ?z5 ?z6 ?z7 ?z8 ?z9 ?z10 ?z11 ?z12 ?z13 ?z14 ?z15 ?z16 ?z17 ?w0 ?aC_TooMany ?xL_TooMany ?sa_TooMany ?ex_TooMany ?ty_TooMany ?kp_TooMany ?no_TooMany ?iC_TooMany ?ti_TooMany ?li_TooMany ?ci_TooMany ?ki_TooMany ?vB_OverflowError ?et
    (case a0 => k_is); (case l0 => k_is); (case c0 => k_is); (case k0 => k_is); (case a1 => k_is); (case l1 => k_is); (case c1 => k_is); (case k1 => k_is); (case a2 => k_is); (case l2 => k_is); (case c2 => k_is); (case k2 => k_is); (case a3 => k_is); (case l3 => k_is); (case c3 => k_is); (case k3 => k_is); (case a4 => k_is); (case l4 => k_is); (case c4 => k_is); (case k4 => k_is); (case a5 => k_is); (case l5 => k_is); (case c5 => k_is); (case k5 => k_is); (case a6 => k_is); (case l6 => k_is); (case c6 => k_is); (case k6 => k_is); (case a7 => k_is); (case l7 => k_is); (case c7 => k_is); (case k7 => k_is); (case a8 => k_is); (case l8 => k_is); (case c8 => k_is); (case k8 => k_is); (case a9 => k_is); (case l9 => k_is); (case c9 => k_is); (case k9 => k_is); (case a10 => k_is); (case l10 => k_is); (case c10 => k_is); (case k10 => k_is); (case a11 => k_is); (case l11 => k_is); (case c11 => k_is); (case k11 => k_is); (case a12 => k_is); (case l12 => k_is); (case c12 => k_is); (case k12 => k_is); (case a13 => k_is); (case l13 => k_is); (case c13 => k_is); (case k13 => k_is); (case a14 => k_is); (case l14 => k_is); (case c14 => k_is); (case k14 => k_is); (case a15 => k_is); (case l15 => k_is); (case c15 => k_is); (case k15 => k_is); (case a16 => k_is); (case l16 => k_is); (case c16 => k_is); (case k16 => k_is); (case a17 => k_is); (case l17 => k_is); (case c17 => k_is); (case k17 => k_is); (case a18 => k_is); (case l18 => k_is); (case c18 => k_is); (case k18 => k_is); (case a19 => k_is); (case l19 => k_is); (case c19 => k_is); (case k19 => k_is); (case a20 => k_is); (case l20 => k_is); (case c20 => k_is); (case k20 => k_is)
    (case z0 => k_is); (case z1 => k_is); (case z2 => k_is); (case z3 => k_is); (case z4 => k_is); (case z5 => k_is); (case z6 => k_is); (case z7 => k_is); (case z8 => k_is); (case z9 => k_is); (case z10 => k_is); (case z11 => k_is); (case z12 => k_is); (case z13 => k_is); (case z14 => k_is); (case z15 => k_is); (case z16 => k_is); (case z17 => k_is)
    (case w0 => k_is)
    (case aC_TooMany => first | k_is | rfl)
    (case xL_TooMany => first | k_is | rfl)
    (case sa_TooMany => first | k_is | rfl)
    (case ex_TooMany => first | k_is | rfl)
    (case ty_TooMany => first | k_is | rfl)
    (case kp_TooMany => first | k_is | rfl)
    (case no_TooMany => first | k_is | rfl)
    (case iC_TooMany => first | k_is | rfl)
    (case ti_TooMany => first | k_is | rfl)
    (case li_TooMany => first | k_is | rfl)
    (case ci_TooMany => first | k_is | rfl)
    (case ki_TooMany => first | k_is | rfl)
    (case vB_OverflowError => first | k_is | rfl)
    (case et => first | kernel_rfl | rfl | k_is)

