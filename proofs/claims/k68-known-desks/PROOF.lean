import PyProof.Rows.All
import Wide.All
import OpenK.AllK
import Wide.FinOn
import HandS.ForMost
import HandS.Walk
import HandS.Zip
import HandS.Exc
import HandS.ExcInit
import KE.KDictKeyed
import KE.KDictCopyH
import HandS.TupAny
import HandS.TupMul
import HandS.Wide
import HandS.IsInst
import HandS.Style
import HandS.SortInts
import HandS.Conv
import KE.GoesNew
import HandS.Defaults
import HandS.ExcOwn
import HandS.ExcIs
import HandS.ExcField
import HandS.WordsExc
import KE.KExcInit
import KE.KExcIs
import KE.KTryMore
import HandS.ExcValue
import HandS.CallSlots
import HandS.RaiseMore
import KE.KDictZip
import KE.KRevSl
import PyProof.StrLawsRepr
import HandS.SetFor
import HandS.Strs
import HandS.TryOnly
import HandS.Dict
import KE.KDictDisplayH
import KE.KDictList
import KE.SortData
import KE.KDictSum
import HandS.SortOrd
import HandS.Iter
import KE.DataMinMax
import KE.DataCmp
import KE.KDictWalk
import KE.KTupSum
import HandS.TupSets
import HandS.Deep
import HandS.Flow
import HandS.Text
import HandS.Steps
import PyProof.ListStr
import PyProof.StrOps2
import KE.IntTextLaws
import PyProof.Rows.StrSplitAre
import PyProof.Rows.StrItems
import KE.KDictItemsList
import KE.KUnpackStar
import HandS.TryMany
import PySem.Challenge.RW_middlecall_k68_known_desks
set_option Elab.async false
set_option linter.all false
set_option maxRecDepth 100000
set_option maxHeartbeats 4000000
namespace DL
open PySem L2
abbrev D := PyData
/-- at a: an exception of the class at C with its dict at d -/
def exk (a C d : Addr) : HO := .ext fun h => ∃ (oe : Obj) (vs : Array Value), h.get? a = some oe ∧ Zc (.ref C) (some d) oe ∧ oe.data = .fields vs
/-- the class that a module's name holds -/
def Cls (K : PySem.W.Frag) (c : Str) (C : Addr) : Prop := PySem.W.nsIn K mainGlobals c = some (some (.ref C))
/-- the one field of each error class -/
def fldT : List (Str × Str) := [("NoPerson", "person"), ("NoPlace", "place"), ("NoNumber", "number"), ("NoDeed", "many"), ("OtherPeople", "many"), ("NotWay", "calls"), ("BadDeed", "at"), ("BadText", "text"), ("BadLine", "at"), ("Barred", "reason"), ("TooMany", "many"), ("Full", "many")]
def fld (c : Str) : Str := (fldT.lookup c).getD ""
/-- an exception as data: its class, its field -/
abbrev excD (c : Str) (d : D) : D := .dict [(.none, .str c), (.none, d)]
inductive KK where
  | lf (l : Leaf)
  | tp (ls : List Leaf)
  deriving DecidableEq
def lfD : D → Option Leaf
  | .none => some .none
  | .int i => some (.num i)
  | .bool b => some (.num (if b then 1 else 0))
  | _ => none
def lfDs : List D → Option (List Leaf)
  | [] => some []
  | d :: ds => match lfD d, lfDs ds with
    | some l, some ls => some (l :: ls)
    | _, _ => none
/-- the key that data is -/
def kkD : D → Option KK
  | .tuple ds => (lfDs ds).map .tp
  | .none => some (.lf .none)
  | .int i => some (.lf (.num i))
  | _ => none
def hL : Leaf → Int
  | .none => reduceHash 0xFCA86420
  | .num i => hashInt i
  | .text _ => 0
def hK : KK → Int
  | .lf l => hL l
  | .tp ls => reduceHash (Builtin.Tuple.tupleHashOf (ls.map hL))
def ER (x : KK × V × V) (e : DictEntry) : Prop := e.hash = hK x.1 ∧ RelV x.2.1 e.key ∧ RelV x.2.2 e.val
/-- all keys of one sort, no key twice -/
def KGood (ks : List KK) : Prop := ks.Nodup ∧ ((∀ k ∈ ks, ∃ l, k = .lf l) ∨ ∀ k ∈ ks, ∃ ls, k = .tp ls)
/-- at a: a dict with these keys (as keys, as values) and values -/
def dcO (a : Addr) (kvs : List (KK × V × V)) (dt : Array DictEntry × Nat) : HO := .ext fun h => (∃ o, h.get? a = some o ∧ o.ExactDict ∧ o.data = .dict dt.1 dt.2 ∧ Paired ER kvs dt.1.toList) ∧ (a == sysModules) = false ∧ kvs.length ≤ sizeLine ∧ KGood (kvs.map (·.1))
/-- .. whatever its entries are -/
abbrev IsDc (H : Hp) (a : Addr) (kvs : List (KK × V × V)) : Prop := ∃ dt, H a = some (dcO a kvs dt)
/-- a dict as data -/
abbrev dcD (kds : List (D × D)) : D := .dict ((.dict [], .none) :: kds)
mutual
/-- v stands for the data, by what the (frozen) heap Z tells -/
inductive Rp (K : PySem.W.Frag) (Z : Hp) : V → D → Prop
  | non : Rp K Z .non .none
  | bl (b : Bool) : Rp K Z (.bl b) (.bool b)
  | int (i : Int) : Rp K Z (.int i) (.int i)
  | str (x : Str) : Rp K Z (.str x) (.str x)
  | lst {a : Addr} {xs : List V} {ds : List D} : Z a = some (.lst xs) → RpA K Z xs ds → Rp K Z (.ref a) (.list ds)
  | scr {a : Addr} {xs : List V} {ds : List D} : SqL K Z a xs → RpA K Z xs ds → Rp K Z (.ref a) (.dict [(.list ds, .none)])
  | tup {a : Addr} {xs : List V} {ds : List D} : SqT K Z a xs → RpA K Z xs ds → Rp K Z (.ref a) (.tuple ds)
  | exc {a C dx : Addr} {c : Str} {v : V} {d : D} : Z a = some (exk a C dx) → Z dx = some (.xd [(fld c, v)]) → Cls K c C → Rp K Z v d → Rp K Z (.ref a) (.dict [(.none, .str c), (.none, d)])
  | dct {a : Addr} {kvs : List (KK × V × V)} {dt : Array DictEntry × Nat} {kds : List (D × D)} : Z a = some (dcO a kvs dt) → RpK K Z kvs kds → Rp K Z (.ref a) (.dict ((.dict [], .none) :: kds))
inductive RpA (K : PySem.W.Frag) (Z : Hp) : List V → List D → Prop
  | nil : RpA K Z [] []
  | cons {v : V} {vs : List V} {d : D} {ds : List D} : Rp K Z v d → RpA K Z vs ds → RpA K Z (v :: vs) (d :: ds)
inductive RpK (K : PySem.W.Frag) (Z : Hp) : List (KK × V × V) → List (D × D) → Prop
  | nil : RpK K Z [] []
  | cons {k : KK} {x v : V} {c d : D} {kvs : List (KK × V × V)} {kds : List (D × D)} : kkD c = some k → Rp K Z x c → Rp K Z v d → RpK K Z kvs kds → RpK K Z ((k, x, v) :: kvs) ((c, d) :: kds)
end
section
variable {K : PySem.W.Frag} {Z Z' H H' : Hp}
theorem same_rd {a : Addr} {u : HO} (e : Same Z Z') (h : Rd Z a u) : Rd Z' a u := by
  rcases h with h | ⟨o, h⟩
  · exact .inl (e _ _ h)
  · exact .inr ⟨o, e _ _ h⟩
theorem same_t {a : Addr} {xs : List V} (e : Same Z Z') (h : SqT K Z a xs) : SqT K Z' a xs := by
  rcases h with h | h
  · exact .inl (same_rd e h)
  · exact .inr h
theorem same_l {a : Addr} {xs : List V} (e : Same Z Z') (h : SqL K Z a xs) : SqL K Z' a xs := e.seq h
mutual
theorem Rp.mono (e : Same Z Z') : ∀ {v : V} {d : D}, Rp K Z v d → Rp K Z' v d
  | _, _, .non => .non
  | _, _, .bl b => .bl b
  | _, _, .int i => .int i
  | _, _, .str x => .str x
  | _, _, .lst h r => .lst (e _ _ h) (RpA.mono e r)
  | _, _, .scr h r => .scr (same_l e h) (RpA.mono e r)
  | _, _, .tup h r => .tup (same_t e h) (RpA.mono e r)
  | _, _, .exc h1 h2 h3 r => .exc (e _ _ h1) (e _ _ h2) h3 (Rp.mono e r)
  | _, _, .dct h r => .dct (e _ _ h) (RpK.mono e r)
theorem RpA.mono (e : Same Z Z') : ∀ {vs : List V} {ds : List D}, RpA K Z vs ds → RpA K Z' vs ds
  | _, _, .nil => .nil
  | _, _, .cons h r => .cons (Rp.mono e h) (RpA.mono e r)
theorem RpK.mono (e : Same Z Z') : ∀ {vs : List (KK × V × V)} {ds : List (D × D)}, RpK K Z vs ds → RpK K Z' vs ds
  | _, _, .nil => .nil
  | _, _, .cons hk h h2 r => .cons hk (Rp.mono e h) (Rp.mono e h2) (RpK.mono e r)
end
mutual
def noD : D → Bool
  | .none => true
  | .bool _ => true
  | .int _ => true
  | .str _ => true
  | .list xs => noDs xs
  | .tuple xs => noDs xs
  | .dict _ => false
def noDs : List D → Bool
  | [] => true
  | x :: xs => noD x && noDs xs
end
mutual
theorem Rp.dp : ∀ {v : V} {d : D}, Rp K Z v d → noD d = true → Dp K Z v d
  | _, _, .non, _ => .non
  | _, _, .bl b, _ => .bl b
  | _, _, .int i, _ => .int i
  | _, _, .str x, _ => .str x
  | _, _, .lst h r, n => .lst (.inl (.inl h)) (RpA.dp r (by unfold noD at n; exact n))
  | _, _, .tup h r, n => .tup h (RpA.dp r (by unfold noD at n; exact n))
  | _, _, .scr h r, n => by unfold noD at n; cases n
  | _, _, .exc h1 h2 h3 r, n => by unfold noD at n; cases n
  | _, _, .dct h r, n => by unfold noD at n; cases n
theorem RpA.dp : ∀ {vs : List V} {ds : List D}, RpA K Z vs ds → noDs ds = true → DpAll K Z vs ds
  | _, _, .nil, _ => .nil
  | _, _, .cons h r, n => by
    unfold noDs at n
    rw [Bool.and_eq_true] at n
    exact .cons (Rp.dp h n.1) (RpA.dp r n.2)
end
theorem RpA.length : ∀ {vs : List V} {ds : List D}, RpA K Z vs ds → vs.length = ds.length
  | _, _, .nil => rfl
  | _, _, .cons _ r => by rw [List.length_cons, List.length_cons, RpA.length r]
theorem RpA.get : ∀ {vs : List V} {ds : List D} {i : Nat} {d : D}, RpA K Z vs ds → ds[i]? = some d → ∃ v, vs[i]? = some v ∧ Rp K Z v d
  | _, _, _, _, .nil, h => by simp at h
  | _, _, 0, _, .cons (v := v) q _, h => ⟨v, rfl, by simp at h; subst h; exact q⟩
  | _, _, i + 1, _, .cons _ r, h => by
    obtain ⟨v, e, q⟩ := RpA.get (i := i) r (by simpa using h)
    exact ⟨v, by simpa using e, q⟩
theorem RpA.getV : ∀ {vs : List V} {ds : List D} {i : Nat} {v : V}, RpA K Z vs ds → vs[i]? = some v → ∃ d, ds[i]? = some d ∧ Rp K Z v d
  | _, _, _, _, .nil, h => by simp at h
  | _, _, 0, _, .cons (d := d) q _, h => ⟨d, rfl, by simp at h; subst h; exact q⟩
  | _, _, i + 1, _, .cons _ r, h => by
    obtain ⟨v, e, q⟩ := RpA.getV (i := i) r (by simpa using h)
    exact ⟨v, by simpa using e, q⟩
theorem RpA.append : ∀ {vs us : List V} {ds es : List D}, RpA K Z vs ds → RpA K Z us es → RpA K Z (vs ++ us) (ds ++ es)
  | _, _, _, _, .nil, s => s
  | _, _, _, _, .cons h r, s => .cons h (RpA.append r s)
theorem RpA.one {v : V} {d : D} (h : Rp K Z v d) : RpA K Z [v] [d] := .cons h .nil
theorem RpA.take : ∀ {vs : List V} {ds : List D} (n : Nat), RpA K Z vs ds → RpA K Z (vs.take n) (ds.take n)
  | _, _, 0, _ => .nil
  | _, _, _ + 1, .nil => .nil
  | _, _, n + 1, .cons h r => .cons h (RpA.take n r)
theorem RpA.drop : ∀ {vs : List V} {ds : List D} (n : Nat), RpA K Z vs ds → RpA K Z (vs.drop n) (ds.drop n)
  | _, _, 0, r => r
  | _, _, _ + 1, .nil => .nil
  | _, _, n + 1, .cons _ r => RpA.drop n r
theorem RpA.set {v : V} {d : D} (q : Rp K Z v d) : ∀ {vs : List V} {ds : List D} (n : Nat), RpA K Z vs ds → RpA K Z (vs.set n v) (ds.set n d)
  | _, _, _, .nil => .nil
  | _, _, 0, .cons _ r => .cons q r
  | _, _, n + 1, .cons h r => .cons h (RpA.set q n r)
theorem RpA.ints : ∀ (ns : List Int), RpA K Z (ns.map V.int) (ns.map PyData.int)
  | [] => .nil
  | n :: r => .cons (.int n) (RpA.ints r)
theorem RpA.of_ints : ∀ {vs : List V} {ns : List Int}, RpA K Z vs (ns.map PyData.int) → vs = ns.map V.int
  | _, [], .nil => rfl
  | _, n :: r, .cons h t => by
    cases h
    rw [List.map_cons, RpA.of_ints t]
theorem RpA.of_bools : ∀ {vs : List V} {ns : List Bool}, RpA K Z vs (ns.map PyData.bool) → vs = ns.map V.bl
  | _, [], .nil => rfl
  | _, n :: r, .cons h t => by
    cases h
    rw [List.map_cons, RpA.of_bools t]
theorem RpA.strs : ∀ (ns : List Str), RpA K Z (ns.map V.str) (ns.map PyData.str)
  | [] => .nil
  | n :: r => .cons (.str n) (RpA.strs r)
end
/-- a slot: nothing known, shared data, a list of one's own, a dict of one's own -/
inductive Sl where
  | no
  | sh (d : D)
  | ow (ds : List D)
  | od (kds : List (D × D))
  /-- a list that an instance in another slot holds (the slot's name stands nowhere in the def) -/
  | gw (ds : List D)
  /-- a Hall; its two lists are in the slots j and j + 1 -/
  | hl (j : Nat)
def Sl.isO : Sl → Bool
  | .ow _ => true
  | .od _ => true
  | .gw _ => true
  | _ => false
def Sl.isG : Sl → Bool
  | .gw _ => true
  | _ => false
/-- an instance of Hall -/
abbrev hallO (C dx l g : Addr) : HO := .ins C dx [("own_rows", .ref l), ("own_log", .ref g)]
def HallAt (K : PySem.W.Frag) (Z : Hp) (a l g : Addr) : Prop := ∃ C dx, Cls K "Hall" C ∧ Z a = some (hallO C dx l g)
/-- the list that slot 0 is, the Halls that slot 0 and slot 1 are -/
abbrev Bx := Option Addr × Option Addr × Option Addr
abbrev noB : Bx := (none, none, none)
abbrev inB (b : Addr) : Bx := (some b, none, none)
/-- the Hall that the parameter i is -/
def hAt (b : Bx) : Nat → Option Addr
  | 0 => b.2.1
  | 1 => b.2.2
  | _ => none
theorem hAt_no {b : Option Addr} {i : Nat} {a : Addr} : hAt (b, none, none) i ≠ some a := by
  cases i with
  | zero => exact fun z => nomatch z
  | succ i =>
    cases i with
    | zero => exact fun z => nomatch z
    | succ i => exact fun z => nomatch z
abbrev Rho := List Sl
/-- what an owned slot says of its object -/
def OwR (K : PySem.W.Frag) (Z : Hp) (p : Addr) (o : HO) : Sl → Prop
  | .ow ds => ∃ vs, o = .lst vs ∧ RpA K Z vs ds
  | .od kds => ∃ kvs dt, o = dcO p kvs dt ∧ RpK K Z kvs kds
  | .gw ds => ∃ vs, o = .lst vs ∧ RpA K Z vs ds
  | _ => False
theorem OwR.mono {K : PySem.W.Frag} {Z Z' : Hp} {p : Addr} {o : HO} {s : Sl} (e : Same Z Z') (h : OwR K Z p o s) : OwR K Z' p o s := by
  cases s with
  | no => exact h
  | sh d => exact h
  | ow ds => obtain ⟨vs, h1, h2⟩ := h; exact ⟨vs, h1, h2.mono e⟩
  | od kds => obtain ⟨vs, dt, h1, h2⟩ := h; exact ⟨vs, dt, h1, h2.mono e⟩
  | gw ds => obtain ⟨vs, h1, h2⟩ := h; exact ⟨vs, h1, h2.mono e⟩
  | hl j => exact h
theorem HallAt.mono {K : PySem.W.Frag} {Z Z' : Hp} {a l g : Addr} (e : Same Z Z') (h : HallAt K Z a l g) : HallAt K Z' a l g := by
  obtain ⟨C, dx, h1, h2⟩ := h
  exact ⟨C, dx, h1, e _ _ h2⟩
/-- the Hall in slot i has its lists in the slots j, j + 1 -/
def LinkR (K : PySem.W.Frag) (Z : Hp) (σ : L2.St) (ρ : Rho) (i j : Nat) : Prop := ∃ a l g, σ[i]? = some (some (.ref a)) ∧ HallAt K Z a l g ∧ (∀ ds, ρ[j]? = some (.gw ds) → σ[j]? = some (some (.ref l))) ∧ (∀ ds, ρ[j + 1]? = some (.gw ds) → σ[j + 1]? = some (some (.ref g)))
theorem LinkR.mono {K : PySem.W.Frag} {Z Z' : Hp} {σ : L2.St} {ρ : Rho} {i j : Nat} (e : Same Z Z') (h : LinkR K Z σ ρ i j) : LinkR K Z' σ ρ i j := by
  obtain ⟨a, l, g, h1, h2, h3, h4⟩ := h
  exact ⟨a, l, g, h1, h2.mono e, h3, h4⟩
theorem LinkR.of {K : PySem.W.Frag} {Z : Hp} {σ σ' : L2.St} {ρ ρ' : Rho} {i j : Nat} (h : LinkR K Z σ ρ i j) (hi : σ'[i]? = σ[i]?) (hg : ∀ (k : Nat) (ds : List D), ρ'[k]? = some (Sl.gw ds) → (∃ es, ρ[k]? = some (Sl.gw es)) ∧ σ'[k]? = σ[k]?) : LinkR K Z σ' ρ' i j := by
  obtain ⟨a, l, g, h1, h2, h3, h4⟩ := h
  refine ⟨a, l, g, hi.trans h1, h2, fun ds e => ?_, fun ds e => ?_⟩
  · obtain ⟨⟨es, e1⟩, e2⟩ := hg j ds e
    exact e2.trans (h3 es e1)
  · obtain ⟨⟨es, e1⟩, e2⟩ := hg (j + 1) ds e
    exact e2.trans (h4 es e1)
/-- B: what stood at the entry (and stays); Z0: what was frozen there; Z: what is frozen now -/
structure Ok (K : PySem.W.Frag) (b0 : Bx) (B Z0 Z H : Hp) (σ : L2.St) (ρ : Rho) : Prop where
  len : σ.length = ρ.length
  bh : Same B H
  zh : Same Z H
  zz : Same Z0 Z
  nb : ∀ p o, Z p = some o → Z0 p = some o ∨ B p = none
  sh : ∀ (i : Nat) (d : D), ρ[i]? = some (.sh d) → ∃ v, σ[i]? = some (some v) ∧ Rp K Z v d
  own : ∀ (i : Nat) (s : Sl), ρ[i]? = some s → s.isO = true → ∃ p o, σ[i]? = some (some (.ref p)) ∧ Z p = none ∧ B p = none ∧ H p = some o ∧ OwR K Z p o s
  fix : ∀ a, b0.1 = some a → ∀ ds, ρ[0]? = some (.ow ds) → σ[0]? = some (some (.ref a))
  sepS : ∀ (i j : Nat) (p : Addr) (s t : Sl), ρ[i]? = some s → ρ[j]? = some t → s.isO = true → t.isO = true → σ[i]? = some (some (.ref p)) → σ[j]? = some (some (.ref p)) → i = j
  fixG : ∀ (i : Nat) (a : Addr), hAt b0 i = some a → ∀ j, ρ[i]? = some (.hl j) → σ[i]? = some (some (.ref a))
  lnk : ∀ i j, ρ[i]? = some (.hl j) → LinkR K Z σ ρ i j
/-- p is none of the owned things -/
def Apart (σ : L2.St) (ρ : Rho) (p : Addr) : Prop := ∀ (i : Nat) (s : Sl), ρ[i]? = some s → s.isO = true → σ[i]? ≠ some (some (.ref p))
section
variable {K : PySem.W.Frag} {b0 : Bx} {B Z0 Z H : Hp} {σ : L2.St} {ρ : Rho} {p : Addr} {o : HO}
theorem Ok.ow (h : Ok K b0 B Z0 Z H σ ρ) : ∀ (i : Nat) (ds : List D), ρ[i]? = some (.ow ds) → ∃ p vs, σ[i]? = some (some (.ref p)) ∧ Z p = none ∧ B p = none ∧ H p = some (.lst vs) ∧ RpA K Z vs ds := fun i ds e => by
  obtain ⟨p, o, h1, h2, h3, h4, vs, rfl, h5⟩ := h.own i _ e rfl
  exact ⟨p, vs, h1, h2, h3, h4, h5⟩
theorem Ok.od (h : Ok K b0 B Z0 Z H σ ρ) : ∀ (i : Nat) (ds : List (D × D)), ρ[i]? = some (.od ds) → ∃ p vs, σ[i]? = some (some (.ref p)) ∧ Z p = none ∧ B p = none ∧ IsDc H p vs ∧ RpK K Z vs ds := fun i ds e => by
  obtain ⟨p, o, h1, h2, h3, h4, vs, dt, rfl, h5⟩ := h.own i _ e rfl
  exact ⟨p, vs, h1, h2, h3, ⟨dt, h4⟩, h5⟩
/-- a new object, frozen at once -/
theorem Ok.new (h : Ok K b0 B Z0 Z H σ ρ) (hp : H p = none) : Ok K b0 B Z0 (upd Z p o) (upd H p o) σ ρ ∧ Same Z (upd Z p o) := by
  have zp : Z p = none := h.zh.free hp
  have bp : B p = none := h.bh.free hp
  have sz : Same Z (upd Z p o) := fun b x e => by rw [upd_ne (ne_of_none e zp)]; exact e
  refine ⟨⟨h.len, fun b x e => ?_, fun b x e => ?_, h.zz.trans sz, fun b x e => ?_, fun i d e => ?_, fun i s e eo => ?_, h.fix, h.sepS, h.fixG, fun i j e => (h.lnk i j e).mono sz⟩, sz⟩
  · rw [upd_ne (ne_of_none e bp)]; exact h.bh b x e
  · by_cases hb : b = p
    · subst hb; rw [upd_same] at e ⊢; exact e
    · rw [upd_ne hb] at e ⊢; exact h.zh b x e
  · by_cases hb : b = p
    · subst hb; exact .inr bp
    · rw [upd_ne hb] at e; exact h.nb b x e
  · obtain ⟨v, e1, e2⟩ := h.sh i d e
    exact ⟨v, e1, e2.mono sz⟩
  · obtain ⟨q, x, e1, e2, e3, e4, e5⟩ := h.own i s e eo
    have nq : q ≠ p := ne_of_none e4 hp
    exact ⟨q, x, e1, by rw [upd_ne nq]; exact e2, e3, by rw [upd_ne nq]; exact e4, e5.mono sz⟩
/-- a new object, not frozen -/
theorem Ok.fresh (h : Ok K b0 B Z0 Z H σ ρ) (hp : H p = none) : Ok K b0 B Z0 Z (upd H p o) σ ρ ∧ Z p = none ∧ B p = none ∧ Apart σ ρ p := by
  have zp : Z p = none := h.zh.free hp
  have bp : B p = none := h.bh.free hp
  refine ⟨⟨h.len, fun b x e => ?_, fun b x e => ?_, h.zz, h.nb, h.sh, fun i s e eo => ?_, h.fix, h.sepS, h.fixG, h.lnk⟩, zp, bp, fun i s e eo q => ?_⟩
  · rw [upd_ne (ne_of_none e bp)]; exact h.bh b x e
  · rw [upd_ne (ne_of_none e zp)]; exact h.zh b x e
  · obtain ⟨q, x, e1, e2, e3, e4, e5⟩ := h.own i s e eo
    have nq : q ≠ p := ne_of_none e4 hp
    exact ⟨q, x, e1, e2, e3, by rw [upd_ne nq]; exact e4, e5⟩
  · obtain ⟨q', x, e1, e2, e3, e4, e5⟩ := h.own i s e eo
    rw [e1] at q
    cases q
    rw [hp] at e4
    cases e4
/-- an object that nobody else knows is frozen -/
theorem Ok.freeze (h : Ok K b0 B Z0 Z H σ ρ) (zp : Z p = none) (bp : B p = none) (ap : Apart σ ρ p) (hp : H p = some o) : Ok K b0 B Z0 (upd Z p o) H σ ρ ∧ Same Z (upd Z p o) := by
  have sz : Same Z (upd Z p o) := fun b x e => by rw [upd_ne (ne_of_none e zp)]; exact e
  refine ⟨⟨h.len, h.bh, fun b x e => ?_, h.zz.trans sz, fun b x e => ?_, fun i d e => ?_, fun i s e eo => ?_, h.fix, h.sepS, h.fixG, fun i j e => (h.lnk i j e).mono sz⟩, sz⟩
  · by_cases hb : b = p
    · subst hb; rw [upd_same] at e; rw [← e]; exact hp
    · rw [upd_ne hb] at e; exact h.zh b x e
  · by_cases hb : b = p
    · subst hb; exact .inr bp
    · rw [upd_ne hb] at e; exact h.nb b x e
  · obtain ⟨v, e1, e2⟩ := h.sh i d e
    exact ⟨v, e1, e2.mono sz⟩
  · obtain ⟨q, x, e1, e2, e3, e4, e5⟩ := h.own i s e eo
    have nq : q ≠ p := fun z => ap i s e eo (by rw [e1, z])
    exact ⟨q, x, e1, by rw [upd_ne nq]; exact e2, e3, e4, e5.mono sz⟩
/-- an object that nobody else knows changes -/
theorem Ok.write (h : Ok K b0 B Z0 Z H σ ρ) (zp : Z p = none) (bp : B p = none) (ap : Apart σ ρ p) : Ok K b0 B Z0 Z (upd H p o) σ ρ := by
  refine ⟨h.len, fun b x e => ?_, fun b x e => ?_, h.zz, h.nb, h.sh, fun i s e eo => ?_, h.fix, h.sepS, h.fixG, h.lnk⟩
  · rw [upd_ne (ne_of_none e bp)]; exact h.bh b x e
  · rw [upd_ne (ne_of_none e zp)]; exact h.zh b x e
  · obtain ⟨q, x, e1, e2, e3, e4, e5⟩ := h.own i s e eo
    have nq : q ≠ p := fun z => ap i s e eo (by rw [e1, z])
    exact ⟨q, x, e1, e2, e3, by rw [upd_ne nq]; exact e4, e5⟩
theorem set_get {α : Type} {l : List α} {i j : Nat} {x y : α} (h : (l.set i x)[j]? = some y) : (i = j ∧ x = y) ∨ (i ≠ j ∧ l[j]? = some y) := by
  by_cases hij : i = j
  · subst hij
    by_cases hl : i < l.length
    · rw [List.getElem?_set_self hl] at h
      exact .inl ⟨rfl, Option.some.inj h⟩
    · rw [List.getElem?_eq_none (by simpa using hl)] at h
      cases h
  · rw [List.getElem?_set_ne hij] at h
    exact .inr ⟨hij, h⟩
/-- shared data goes into a slot -/
theorem Ok.put {i : Nat} {v : V} {d : D} (h : Ok K b0 B Z0 Z H σ ρ) (r : Rp K Z v d) : Ok K b0 B Z0 Z H (σ.set i (some v)) (ρ.set i (.sh d)) := by
  have hl := h.len
  refine ⟨by rw [List.length_set, List.length_set]; exact hl, h.bh, h.zh, h.zz, h.nb, fun j d' e => ?_, fun j s e eo => ?_, fun a ha ds e => ?_, fun j k q s t e1 e2 o1 o2 e3 e4 => ?_, fun j a ha ds e => ?_, fun j k e => ?_⟩
  · by_cases hij : i = j
    · subst hij
      have hi : i < ρ.length := by
        by_cases q : i < ρ.length
        · exact q
        · rw [List.getElem?_eq_none (by simpa using q)] at e; cases e
      rw [List.getElem?_set_self hi] at e
      cases e
      exact ⟨v, by rw [List.getElem?_set_self (by omega)], r⟩
    · rw [List.getElem?_set_ne hij] at e
      rw [List.getElem?_set_ne hij]
      exact h.sh j d' e
  · rcases set_get e with ⟨_, z⟩ | ⟨n, e⟩
    · subst z; cases eo
    · rw [List.getElem?_set_ne n]
      exact h.own j s e eo
  · rcases set_get e with ⟨_, z⟩ | ⟨n, e⟩
    · cases z
    · rw [List.getElem?_set_ne n]
      exact h.fix a ha ds e
  · rcases set_get e1 with ⟨_, z⟩ | ⟨n1, e1⟩
    · subst z; cases o1
    · rcases set_get e2 with ⟨_, z⟩ | ⟨n2, e2⟩
      · subst z; cases o2
      · rw [List.getElem?_set_ne n1] at e3
        rw [List.getElem?_set_ne n2] at e4
        exact h.sepS j k q s t e1 e2 o1 o2 e3 e4
  · rcases set_get e with ⟨_, z⟩ | ⟨n, e⟩
    · cases z
    · rw [List.getElem?_set_ne n]
      exact h.fixG j a ha ds e
  · rcases set_get e with ⟨_, z⟩ | ⟨n, e⟩
    · cases z
    · refine (h.lnk j k e).of (by rw [List.getElem?_set_ne n]) fun m ds e2 => ?_
      rcases set_get e2 with ⟨_, z⟩ | ⟨n2, e2⟩
      · cases z
      · exact ⟨⟨ds, e2⟩, by rw [List.getElem?_set_ne n2]⟩
/-- an own thing goes into a slot -/
theorem Ok.putS {i : Nat} {s0 : Sl} (h : Ok K b0 B Z0 Z H σ ρ) (zp : Z p = none) (bp : B p = none) (ap : Apart σ ρ p) (hp : H p = some o) (ho : s0.isO = true) (r : OwR K Z p o s0) (hf : ∀ a, b0.1 = some a → i = 0 → p = a) (hg : s0.isG = false := by rfl) :
    Ok K b0 B Z0 Z H (σ.set i (some (.ref p))) (ρ.set i s0) := by
  have hl := h.len
  refine ⟨by rw [List.length_set, List.length_set]; exact hl, h.bh, h.zh, h.zz, h.nb, fun j d' e => ?_, fun j s e eo => ?_, fun a ha ds e => ?_, fun j k q s t e1 e2 o1 o2 e3 e4 => ?_, fun j a ha ds e => ?_, fun j k e => ?_⟩
  · rcases set_get e with ⟨_, z⟩ | ⟨n, e⟩
    · subst z; cases ho
    · rw [List.getElem?_set_ne n]
      exact h.sh j d' e
  · by_cases hij : i = j
    · subst hij
      have hi : i < ρ.length := by
        by_cases q : i < ρ.length
        · exact q
        · rw [List.getElem?_eq_none (by simpa using q)] at e; cases e
      rw [List.getElem?_set_self hi] at e
      cases e
      exact ⟨p, o, by rw [List.getElem?_set_self (by omega)], zp, bp, hp, r⟩
    · rw [List.getElem?_set_ne hij] at e
      rw [List.getElem?_set_ne hij]
      exact h.own j s e eo
  · by_cases hi0 : i = 0
    · subst hi0
      have hl0 : 0 < ρ.length := by
        by_cases q : 0 < ρ.length
        · exact q
        · rw [List.getElem?_eq_none (by rw [List.length_set]; omega)] at e; cases e
      rw [hf a ha rfl, List.getElem?_set_self (by omega)]
    · rw [List.getElem?_set_ne hi0] at e
      rw [List.getElem?_set_ne hi0]
      exact h.fix a ha ds e
  · rcases set_get e1 with ⟨i1, _⟩ | ⟨n1, e1⟩
    · rcases set_get e2 with ⟨i2, _⟩ | ⟨n2, e2⟩
      · rw [← i1, ← i2]
      · rw [List.getElem?_set_ne n2] at e4
        rcases set_get e3 with ⟨_, z⟩ | ⟨n, _⟩
        · cases z; exact absurd e4 (ap k t e2 o2)
        · exact absurd i1 n
    · rw [List.getElem?_set_ne n1] at e3
      rcases set_get e2 with ⟨i2, _⟩ | ⟨n2, e2⟩
      · rcases set_get e4 with ⟨_, z⟩ | ⟨n, _⟩
        · cases z; exact absurd e3 (ap j s e1 o1)
        · exact absurd i2 n
      · rw [List.getElem?_set_ne n2] at e4
        exact h.sepS j k q s t e1 e2 o1 o2 e3 e4
  · rcases set_get e with ⟨_, z⟩ | ⟨n, e⟩
    · subst z; cases ho
    · rw [List.getElem?_set_ne n]
      exact h.fixG j a ha ds e
  · rcases set_get e with ⟨_, z⟩ | ⟨n, e⟩
    · subst z; cases ho
    · refine (h.lnk j k e).of (by rw [List.getElem?_set_ne n]) fun m ds e2 => ?_
      rcases set_get e2 with ⟨_, z⟩ | ⟨n2, e2⟩
      · subst z; cases hg
      · exact ⟨⟨ds, e2⟩, by rw [List.getElem?_set_ne n2]⟩
theorem Ok.putO {i : Nat} {vs : List V} {ds : List D} (h : Ok K b0 B Z0 Z H σ ρ) (zp : Z p = none) (bp : B p = none) (ap : Apart σ ρ p) (hp : H p = some (.lst vs)) (r : RpA K Z vs ds) (hf : ∀ a, b0.1 = some a → i = 0 → p = a) :
    Ok K b0 B Z0 Z H (σ.set i (some (.ref p))) (ρ.set i (.ow ds)) := h.putS zp bp ap hp rfl ⟨vs, rfl, r⟩ hf
theorem Ok.putD {i : Nat} {vs : List (KK × V × V)} {ds : List (D × D)} (h : Ok K b0 B Z0 Z H σ ρ) (zp : Z p = none) (bp : B p = none) (ap : Apart σ ρ p) (hp : IsDc H p vs) (r : RpK K Z vs ds) (hf : ∀ a, b0.1 = some a → i = 0 → p = a) :
    Ok K b0 B Z0 Z H (σ.set i (some (.ref p))) (ρ.set i (.od ds)) := by
  obtain ⟨dt, hp⟩ := hp
  exact h.putS zp bp ap hp rfl ⟨vs, dt, rfl, r⟩ hf
/-- forgetting slots -/
theorem Ok.weak {σ' : L2.St} {ρ' : Rho} (h : Ok K b0 B Z0 Z H σ ρ) (hl : σ'.length = ρ'.length) (hs : ∀ (i : Nat) (s : Sl), ρ'[i]? = some s → s = .no ∨ (ρ[i]? = some s ∧ σ'[i]? = σ[i]?)) : Ok K b0 B Z0 Z H σ' ρ' := by
  refine ⟨hl, h.bh, h.zh, h.zz, h.nb, fun j d e => ?_, fun j s e eo => ?_, fun a ha ds e => ?_, fun j k q s t e1 e2 o1 o2 e3 e4 => ?_, fun j a ha ds e => ?_, fun j k e => ?_⟩
  · rcases hs j _ e with z | ⟨z, y⟩
    · cases z
    · rw [y]; exact h.sh j d z
  · rcases hs j _ e with z | ⟨z, y⟩
    · subst z; cases eo
    · rw [y]; exact h.own j s z eo
  · rcases hs 0 _ e with z | ⟨z, y⟩
    · cases z
    · rw [y]; exact h.fix a ha ds z
  · rcases hs j _ e1 with z | ⟨z1, y1⟩
    · subst z; cases o1
    · rcases hs k _ e2 with z | ⟨z2, y2⟩
      · subst z; cases o2
      · rw [y1] at e3
        rw [y2] at e4
        exact h.sepS j k q s t z1 z2 o1 o2 e3 e4
  · rcases hs j _ e with z | ⟨z, y⟩
    · cases z
    · rw [y]; exact h.fixG j a ha ds z
  · rcases hs j _ e with z | ⟨z, y⟩
    · cases z
    · refine (h.lnk j k z).of y fun m ds e2 => ?_
      rcases hs m _ e2 with z | ⟨z, y⟩
      · cases z
      · exact ⟨⟨ds, z⟩, y⟩
end
end DL
namespace DL
open PySem L2
/-- a result: a value and the environment behind it; an exception of a class by its name, with its one field; nothing that is told -/
inductive R (α : Type) where
  | ok (a : α) (ρ : Rho)
  | ex (c : Str) (d : D) (ρ : Rho)
  | bad
def R.bind {α β : Type} (r : R α) (f : α → Rho → R β) : R β := match r with
  | .ok a ρ => f a ρ
  | .ex c d ρ => .ex c d ρ
  | .bad => .bad
def R.map {α β : Type} (f : α → β) (r : R α) : R β := match r with
  | .ok a ρ => .ok (f a) ρ
  | .ex c d ρ => .ex c d ρ
  | .bad => .bad
def R.lift {α : Type} (x : Option α) (ρ : Rho) : R α := match x with
  | some a => .ok a ρ
  | none => .bad
theorem R.bind_ok {α β : Type} {r : R α} {f : α → Rho → R β} {b : β} {ρ' : Rho} (h : r.bind f = .ok b ρ') : ∃ a ρ1, r = .ok a ρ1 ∧ f a ρ1 = .ok b ρ' := by
  cases r with
  | ok a ρ1 => exact ⟨a, ρ1, rfl, h⟩
  | ex c d ρ1 => cases h
  | bad => cases h
theorem R.map_ok {α β : Type} {r : R α} {f : α → β} {b : β} {ρ' : Rho} (h : r.map f = .ok b ρ') : ∃ a, r = .ok a ρ' ∧ f a = b := by
  cases r with
  | ok a ρ1 => cases h; exact ⟨a, rfl, rfl⟩
  | ex c d ρ1 => cases h
  | bad => cases h
theorem R.lift_ok {α : Type} {x : Option α} {ρ ρ' : Rho} {a : α} (h : R.lift x ρ = .ok a ρ') : x = some a ∧ ρ = ρ' := by
  cases x with
  | some b => cases h; exact ⟨rfl, rfl⟩
  | none => cases h
@[simp] theorem R.ok_bind {α β : Type} (a : α) (ρ : Rho) (f : α → Rho → R β) : (R.ok a ρ).bind f = f a ρ := rfl
@[simp] theorem R.ok_map {α β : Type} (a : α) (ρ : Rho) (f : α → β) : (R.ok a ρ).map f = .ok (f a) ρ := rfl
@[simp] theorem R.lift_some {α : Type} (a : α) (ρ : Rho) : R.lift (some a) ρ = .ok a ρ := rfl
/-- an operand: data, or the list of one's own in a slot -/
inductive Op where
  | val (d : D)
  | own (i : Nat)
def Op.res (o : Op) (ρ : Rho) : Option D := match o with
  | .val d => some d
  | .own i => match ρ[i]? with
    | some (.ow ds) => some (.list ds)
    | some (.od kds) => some (.dict ((.dict [], .none) :: kds))
    | some (.gw ds) => some (.list ds)
    | _ => none
abbrev GE := Rho → R D
abbrev GO := Rho → R Op
abbrev GT := Rho → R Bool
abbrev GF := Rho → R (List D)
abbrev GA := Rho → R (List Op)
/-- v stands for data by H, its items by Z -/
inductive Bd (K : PySem.W.Frag) (Z H : Hp) : V → D → Prop
  | non : Bd K Z H .non .none
  | bl (b : Bool) : Bd K Z H (.bl b) (.bool b)
  | int (i : Int) : Bd K Z H (.int i) (.int i)
  | str (x : Str) : Bd K Z H (.str x) (.str x)
  | lst {a : Addr} {xs : List V} {ds : List D} : H a = some (.lst xs) → RpA K Z xs ds → Bd K Z H (.ref a) (.list ds)
  | scr {a : Addr} {xs : List V} {ds : List D} : SqL K H a xs → RpA K Z xs ds → Bd K Z H (.ref a) (.dict [(.list ds, .none)])
  | tup {a : Addr} {xs : List V} {ds : List D} : SqT K Z a xs → RpA K Z xs ds → Bd K Z H (.ref a) (.tuple ds)
  | exc {a C dx : Addr} {c : Str} {v : V} {d : D} : Z a = some (exk a C dx) → Z dx = some (.xd [(fld c, v)]) → Cls K c C → Rp K Z v d → Bd K Z H (.ref a) (.dict [(.none, .str c), (.none, d)])
  | dct {a : Addr} {kvs : List (KK × V × V)} {dt : Array DictEntry × Nat} {kds : List (D × D)} : H a = some (dcO a kvs dt) → RpK K Z kvs kds → Bd K Z H (.ref a) (.dict ((.dict [], .none) :: kds))
inductive BdA (K : PySem.W.Frag) (Z H : Hp) : List V → List D → Prop
  | nil : BdA K Z H [] []
  | cons {v : V} {vs : List V} {d : D} {ds : List D} : Bd K Z H v d → BdA K Z H vs ds → BdA K Z H (v :: vs) (d :: ds)
def OpR' (K : PySem.W.Frag) (Z : Hp) (σ : L2.St) (v : V) : Op → Prop
  | .val d => Rp K Z v d
  | .own i => σ[i]? = some (some v)
section
variable {K : PySem.W.Frag} {b0 : Bx} {B Z0 Z Z' H : Hp} {σ : L2.St} {ρ : Rho} {v : V} {d : D}
theorem Rp.bd (r : Rp K Z v d) (e : Same Z H) : Bd K Z H v d := by
  cases r with
  | non => exact .non
  | bl b => exact .bl b
  | int i => exact .int i
  | str x => exact .str x
  | lst h r => exact .lst (e _ _ h) r
  | scr h r => exact .scr (same_l e h) r
  | tup h r => exact .tup h r
  | exc h1 h2 h3 r => exact .exc h1 h2 h3 r
  | dct h r => exact .dct (e _ _ h) r
theorem OpR'.mono (e : Same Z Z') {o : Op} (h : OpR' K Z σ v o) : OpR' K Z' σ v o := by
  cases o with
  | val d => exact Rp.mono e h
  | own i => exact h
theorem Ok.bd (h : Ok K b0 B Z0 Z H σ ρ) {o : Op} (ho : OpR' K Z σ v o) (e : o.res ρ = some d) : Bd K Z H v d := by
  cases o with
  | val d' => cases e; exact Rp.bd ho h.zh
  | own i =>
    unfold Op.res at e
    dsimp only at e
    split at e
    · rename_i ds hi
      cases e
      obtain ⟨p, vs, e1, e2, e3, e4, e5⟩ := h.ow i ds hi
      have e6 : σ[i]? = some (some v) := ho
      rw [e1] at e6
      cases e6
      exact .lst e4 e5
    · rename_i ds hi
      cases e
      obtain ⟨p, vs, e1, e2, e3, ⟨dt, e4⟩, e5⟩ := h.od i ds hi
      have e6 : σ[i]? = some (some v) := ho
      rw [e1] at e6
      cases e6
      exact .dct e4 e5
    · rename_i ds hi
      cases e
      obtain ⟨p, o, e1, e2, e3, e4, vs, rfl, e5⟩ := h.own i _ hi rfl
      have e6 : σ[i]? = some (some v) := ho
      rw [e1] at e6
      cases e6
      exact .lst e4 e5
    · cases e
end
/-- an expression that gives data -/
def DE (K : PySem.W.Frag) (t : TE) (g : GE) : Prop := ∀ b0 B Z0 Z H σ ρ d ρ' (Q : VK), Ok K b0 B Z0 Z H σ ρ → g ρ = .ok d ρ' → (∀ v H' Z', Ok K b0 B Z0 Z' H' σ ρ' → Same Z Z' → Rp K Z' v d → Q v H') → t σ H Q
/-- .. an operand -/
def DO (K : PySem.W.Frag) (t : TE) (g : GO) : Prop := ∀ b0 B Z0 Z H σ ρ o ρ' (Q : VK), Ok K b0 B Z0 Z H σ ρ → g ρ = .ok o ρ' → (∀ v H' Z', Ok K b0 B Z0 Z' H' σ ρ' → Same Z Z' → OpR' K Z' σ v o → Q v H') → t σ H Q
/-- .. a new list -/
def DF (K : PySem.W.Frag) (t : TE) (g : GF) : Prop := ∀ b0 B Z0 Z H σ ρ ds ρ' (Q : VK), Ok K b0 B Z0 Z H σ ρ → g ρ = .ok ds ρ' →
  (∀ p vs H' Z', Ok K b0 B Z0 Z' H' σ ρ' → Same Z Z' → Z' p = none → B p = none → Apart σ ρ' p → H' p = some (.lst vs) → RpA K Z' vs ds → Q (.ref p) H') → t σ H Q
/-- a test -/
def DT (K : PySem.W.Frag) (t : TT) (g : GT) : Prop := ∀ b0 B Z0 Z H σ ρ b ρ' (Q : Bool → Hp → Prop), Ok K b0 B Z0 Z H σ ρ → g ρ = .ok b ρ' → (∀ H' Z', Ok K b0 B Z0 Z' H' σ ρ' → Same Z Z' → Q b H') → t σ H Q
inductive OpA (K : PySem.W.Frag) (Z : Hp) (σ : L2.St) : List V → List Op → Prop
  | nil : OpA K Z σ [] []
  | cons {v : V} {vs : List V} {o : Op} {os : List Op} : OpR' K Z σ v o → OpA K Z σ vs os → OpA K Z σ (v :: vs) (o :: os)
/-- arguments -/
def DA (K : PySem.W.Frag) (t : TA) (g : GA) : Prop := ∀ b0 B Z0 Z H σ ρ os ρ' (Q : List V → Hp → Prop), Ok K b0 B Z0 Z H σ ρ → g ρ = .ok os ρ' → (∀ vs H' Z', Ok K b0 B Z0 Z' H' σ ρ' → Same Z Z' → OpA K Z' σ vs os → Q vs H') → t σ H Q
def resA : List Op → Rho → Option (List D)
  | [], _ => some []
  | o :: os, ρ => match o.res ρ, resA os ρ with
    | some d, some ds => some (d :: ds)
    | _, _ => none
def eC (d : D) (ρ : Rho) : R D := .ok d ρ
def eV (i : Nat) (ρ : Rho) : R D := match ρ[i]? with
  | some (.sh d) => .ok d ρ
  | _ => .bad
def oE (g : GE) (ρ : Rho) : R Op := (g ρ).map .val
def oV (i : Nat) (ρ : Rho) : R Op := match ρ[i]? with
  | some (.ow _) => .ok (.own i) ρ
  | some (.od _) => .ok (.own i) ρ
  | _ => .bad
def eL (g : GF) (ρ : Rho) : R D := (g ρ).map .list
def aNil (ρ : Rho) : R (List Op) := .ok [] ρ
def aCons (g : GO) (r : GA) (ρ : Rho) : R (List Op) := (g ρ).bind fun o ρ1 => (r ρ1).map (o :: ·)
def eOp2 {α : Type} (f : D → D → Option α) (a b : GO) (ρ : Rho) : R α := (a ρ).bind fun x ρ1 => (b ρ1).bind fun y ρ2 => match x.res ρ2, y.res ρ2 with
  | some d, some e => R.lift (f d e) ρ2
  | _, _ => .bad
def eOp1 {α : Type} (f : D → Option α) (a : GO) (ρ : Rho) : R α := (a ρ).bind fun x ρ1 => match x.res ρ1 with
  | some d => R.lift (f d) ρ1
  | _ => .bad
def eApp {α : Type} (f : List D → Option α) (as : GA) (ρ : Rho) : R α := (as ρ).bind fun os ρ1 => match resA os ρ1 with
  | some ds => R.lift (f ds) ρ1
  | none => .bad
def tstE (g : GE) (ρ : Rho) : R Bool := (g ρ).bind fun d ρ1 => match d with
  | .bool b => .ok b ρ1
  | _ => .bad
def eB (g : GT) (ρ : Rho) : R D := (g ρ).map .bool
def tNotG (g : GT) (ρ : Rho) : R Bool := (g ρ).map (!·)
def tAndG (a b : GT) (ρ : Rho) : R Bool := (a ρ).bind fun c ρ1 => if c then b ρ1 else .ok false ρ1
def tOrG (a b : GT) (ρ : Rho) : R Bool := (a ρ).bind fun c ρ1 => if c then .ok true ρ1 else b ρ1
def eAndG (a b : GE) (ρ : Rho) : R D := (a ρ).bind fun c ρ1 => match c with
  | .bool true => b ρ1
  | .bool false => .ok (.bool false) ρ1
  | _ => .bad
def eOrG (a b : GE) (ρ : Rho) : R D := (a ρ).bind fun c ρ1 => match c with
  | .bool true => .ok (.bool true) ρ1
  | .bool false => b ρ1
  | _ => .bad
def eNotG (a : GE) (ρ : Rho) : R D := (a ρ).bind fun c ρ1 => match c with
  | .bool c => .ok (.bool (!c)) ρ1
  | _ => .bad
def eIf {α : Type} (c : GT) (a b : Rho → R α) (ρ : Rho) : R α := (c ρ).bind fun k ρ1 => if k then a ρ1 else b ρ1
def Sn2 (K : PySem.W.Frag) (r : R2) (f : D → D → Option D) : Prop := ∀ b0 B Z0 Z H σ ρ x y a b c (Q : VK), Ok K b0 B Z0 Z H σ ρ → Bd K Z H x a → Bd K Z H y b → f a b = some c → (∀ v H' Z', Ok K b0 B Z0 Z' H' σ ρ → Same Z Z' → Rp K Z' v c → Q v H') → r x y H Q
def Sn2F (K : PySem.W.Frag) (r : R2) (f : D → D → Option (List D)) : Prop := ∀ b0 B Z0 Z H σ ρ x y a b c (Q : VK), Ok K b0 B Z0 Z H σ ρ → Bd K Z H x a → Bd K Z H y b → f a b = some c →
  (∀ p vs H', Ok K b0 B Z0 Z H' σ ρ → Z p = none → B p = none → Apart σ ρ p → H' p = some (.lst vs) → RpA K Z vs c → Q (.ref p) H') → r x y H Q
def Sn1 (K : PySem.W.Frag) (r : V → Hp → VK → Prop) (f : D → Option D) : Prop := ∀ b0 B Z0 Z H σ ρ x a c (Q : VK), Ok K b0 B Z0 Z H σ ρ → Bd K Z H x a → f a = some c → (∀ v H' Z', Ok K b0 B Z0 Z' H' σ ρ → Same Z Z' → Rp K Z' v c → Q v H') → r x H Q
def SnA (K : PySem.W.Frag) (r : List V → Hp → VK → Prop) (f : List D → Option D) : Prop := ∀ b0 B Z0 Z H σ ρ xs as c (Q : VK), Ok K b0 B Z0 Z H σ ρ → BdA K Z H xs as → f as = some c → (∀ v H' Z', Ok K b0 B Z0 Z' H' σ ρ → Same Z Z' → Rp K Z' v c → Q v H') → r xs H Q
def SnAF (K : PySem.W.Frag) (r : List V → Hp → VK → Prop) (f : List D → Option (List D)) : Prop := ∀ b0 B Z0 Z H σ ρ xs as c (Q : VK), Ok K b0 B Z0 Z H σ ρ → BdA K Z H xs as → f as = some c →
  (∀ p vs H', Ok K b0 B Z0 Z H' σ ρ → Z p = none → B p = none → Apart σ ρ p → H' p = some (.lst vs) → RpA K Z vs c → Q (.ref p) H') → r xs H Q
section
variable {K : PySem.W.Frag} {ta tb te : TE} {tt tu : TT} {tas : TA}
theorem de_c {v : V} {d : D} (h : ∀ Z, Rp K Z v d) : DE K (tC v) (eC d) := fun b0 B Z0 Z H σ ρ d' ρ' Q ok e q => by
  cases e
  exact q v H Z ok (Same.refl Z) (h Z)
theorem de_int {i : Int} : DE K (tC (.int i)) (eC (.int i)) := de_c fun _ => .int i
theorem de_bl {b : Bool} : DE K (tC (.bl b)) (eC (.bool b)) := de_c fun _ => .bl b
theorem de_non : DE K (tC .non) (eC .none) := de_c fun _ => .non
theorem de_str {x : Str} : DE K (tC (.str x)) (eC (.str x)) := de_c fun _ => .str x
theorem de_v {i : Nat} : DE K (tVar i) (eV i) := fun b0 B Z0 Z H σ ρ d ρ' Q ok e q => by
  unfold eV at e
  split at e
  · rename_i d' hi
    cases e
    obtain ⟨v, e1, e2⟩ := ok.sh i _ hi
    exact ⟨v, e1, q v H Z ok (Same.refl Z) e2⟩
  · cases e
theorem do_e {g : GE} (h : DE K te g) : DO K te (oE g) := fun b0 B Z0 Z H σ ρ o ρ' Q ok e q => by
  obtain ⟨d, e1, rfl⟩ := R.map_ok e
  exact h b0 B Z0 Z H σ ρ d ρ' Q ok e1 fun v H' Z' ok' s r => q v H' Z' ok' s r
theorem do_v {i : Nat} : DO K (tVar i) (oV i) := fun b0 B Z0 Z H σ ρ o ρ' Q ok e q => by
  unfold oV at e
  split at e
  · rename_i ds hi
    cases e
    obtain ⟨p, vs, e1, _⟩ := ok.ow i ds hi
    exact ⟨.ref p, e1, q (.ref p) H Z ok (Same.refl Z) e1⟩
  · rename_i ds hi
    cases e
    obtain ⟨p, vs, e1, _⟩ := ok.od i ds hi
    exact ⟨.ref p, e1, q (.ref p) H Z ok (Same.refl Z) e1⟩
  · cases e
theorem de_l {g : GF} (h : DF K te g) : DE K te (eL g) := fun b0 B Z0 Z H σ ρ d ρ' Q ok e q => by
  obtain ⟨ds, e1, rfl⟩ := R.map_ok e
  refine h b0 B Z0 Z H σ ρ ds ρ' Q ok e1 fun p vs H' Z' ok' s zp bp ap hp r => ?_
  obtain ⟨ok2, s2⟩ := ok'.freeze zp bp ap hp
  exact q (.ref p) H' _ ok2 (s.trans s2) (.lst upd_same (r.mono s2))
theorem da_nil : DA K tNil aNil := fun b0 B Z0 Z H σ ρ os ρ' Q ok e q => by
  cases e
  exact q [] H Z ok (Same.refl Z) .nil
theorem OpA.mono {Z Z' : Hp} {σ : L2.St} (e : Same Z Z') : ∀ {vs : List V} {os : List Op}, OpA K Z σ vs os → OpA K Z' σ vs os
  | _, _, .nil => .nil
  | _, _, .cons h r => .cons (h.mono e) (OpA.mono e r)
theorem da_cons {g : GO} {r : GA} (h : DO K te g) (hr : DA K tas r) : DA K (tCons te tas) (aCons g r) := fun b0 B Z0 Z H σ ρ os ρ' Q ok e q => by
  obtain ⟨o, ρ1, e1, e2⟩ := R.bind_ok e
  obtain ⟨os', e3, rfl⟩ := R.map_ok e2
  refine h b0 B Z0 Z H σ ρ o ρ1 _ ok e1 fun v H1 Z1 ok1 s1 r1 => ?_
  exact hr b0 B Z0 Z1 H1 σ ρ1 os' ρ' _ ok1 e3 fun vs H2 Z2 ok2 s2 r2 => q (v :: vs) H2 Z2 ok2 (s1.trans s2) (.cons (r1.mono s2) r2)
theorem Ok.bdA {b0 : Bx} {B Z0 Z H : Hp} {σ : L2.St} {ρ : Rho} (ok : Ok K b0 B Z0 Z H σ ρ) : ∀ {vs : List V} {os : List Op} {ds : List D}, OpA K Z σ vs os → resA os ρ = some ds → BdA K Z H vs ds
  | _, _, _, .nil, e => by cases e; exact .nil
  | _, _, _, .cons h r, e => by
    unfold resA at e
    split at e
    · rename_i d ds' e1 e2
      cases e
      exact .cons (ok.bd h e1) (Ok.bdA ok r e2)
    · cases e
theorem op2_ok {α : Type} {f : D → D → Option α} {ga gb : GO} {ρ ρ' : Rho} {z : α} (e : eOp2 f ga gb ρ = .ok z ρ') : ∃ x ρ1 y a b, ga ρ = .ok x ρ1 ∧ gb ρ1 = .ok y ρ' ∧ x.res ρ' = some a ∧ y.res ρ' = some b ∧ f a b = some z := by
  obtain ⟨x, ρ1, e1, e2⟩ := R.bind_ok e
  obtain ⟨y, ρ2, e3, e4⟩ := R.bind_ok e2
  split at e4
  · rename_i d d' h1 h2
    obtain ⟨e5, rfl⟩ := R.lift_ok e4
    exact ⟨x, ρ1, y, d, d', e1, e3, h1, h2, e5⟩
  · cases e4
theorem de_op {r : R2} {f : D → D → Option D} {ga gb : GO} (sn : Sn2 K r f) (ha : DO K ta ga) (hb : DO K tb gb) : DE K (tOp r ta tb) (eOp2 f ga gb) := fun b0 B Z0 Z H σ ρ d ρ' Q ok e q => by
  obtain ⟨x, ρ1, y, a, b, e1, e2, e3, e4, e5⟩ := op2_ok e
  refine ha b0 B Z0 Z H σ ρ x ρ1 _ ok e1 fun v H1 Z1 ok1 s1 r1 => ?_
  refine hb b0 B Z0 Z1 H1 σ ρ1 y ρ' _ ok1 e2 fun u H2 Z2 ok2 s2 r2 => ?_
  exact sn b0 B Z0 Z2 H2 σ ρ' v u a b d Q ok2 (ok2.bd (r1.mono s2) e3) (ok2.bd r2 e4) e5 fun w H3 Z3 ok3 s3 r3 => q w H3 Z3 ok3 ((s1.trans s2).trans s3) r3
theorem df_op {r : R2} {f : D → D → Option (List D)} {ga gb : GO} (sn : Sn2F K r f) (ha : DO K ta ga) (hb : DO K tb gb) : DF K (tOp r ta tb) (eOp2 f ga gb) := fun b0 B Z0 Z H σ ρ d ρ' Q ok e q => by
  obtain ⟨x, ρ1, y, a, b, e1, e2, e3, e4, e5⟩ := op2_ok e
  refine ha b0 B Z0 Z H σ ρ x ρ1 _ ok e1 fun v H1 Z1 ok1 s1 r1 => ?_
  refine hb b0 B Z0 Z1 H1 σ ρ1 y ρ' _ ok1 e2 fun u H2 Z2 ok2 s2 r2 => ?_
  exact sn b0 B Z0 Z2 H2 σ ρ' v u a b d Q ok2 (ok2.bd (r1.mono s2) e3) (ok2.bd r2 e4) e5 fun p vs H3 ok3 zp bp ap hp r3 => q p vs H3 Z2 ok3 (s1.trans s2) zp bp ap hp r3
theorem op1_ok {α : Type} {f : D → Option α} {ga : GO} {ρ ρ' : Rho} {z : α} (e : eOp1 f ga ρ = .ok z ρ') : ∃ x a, ga ρ = .ok x ρ' ∧ x.res ρ' = some a ∧ f a = some z := by
  obtain ⟨x, ρ1, e1, e2⟩ := R.bind_ok e
  split at e2
  · rename_i d h1
    obtain ⟨e5, rfl⟩ := R.lift_ok e2
    exact ⟨x, d, e1, h1, e5⟩
  · cases e2
theorem de_un {r : V → Hp → VK → Prop} {f : D → Option D} {ga : GO} (sn : Sn1 K r f) (ha : DO K ta ga) : DE K (tUn r ta) (eOp1 f ga) := fun b0 B Z0 Z H σ ρ d ρ' Q ok e q => by
  obtain ⟨x, a, e1, e3, e5⟩ := op1_ok e
  refine ha b0 B Z0 Z H σ ρ x ρ' _ ok e1 fun v H1 Z1 ok1 s1 r1 => ?_
  exact sn b0 B Z0 Z1 H1 σ ρ' v a d Q ok1 (ok1.bd r1 e3) e5 fun w H3 Z3 ok3 s3 r3 => q w H3 Z3 ok3 (s1.trans s3) r3
theorem app_ok {α : Type} {f : List D → Option α} {ga : GA} {ρ ρ' : Rho} {z : α} (e : eApp f ga ρ = .ok z ρ') : ∃ os ds, ga ρ = .ok os ρ' ∧ resA os ρ' = some ds ∧ f ds = some z := by
  obtain ⟨x, ρ1, e1, e2⟩ := R.bind_ok e
  split at e2
  · rename_i d h1
    obtain ⟨e5, rfl⟩ := R.lift_ok e2
    exact ⟨x, d, e1, h1, e5⟩
  · cases e2
theorem de_cb {r : List V → Hp → VK → Prop} {f : List D → Option D} {ga : GA} (sn : SnA K r f) (ha : DA K tas ga) : DE K (tCB r tas) (eApp f ga) := fun b0 B Z0 Z H σ ρ d ρ' Q ok e q => by
  obtain ⟨x, a, e1, e3, e5⟩ := app_ok e
  refine ha b0 B Z0 Z H σ ρ x ρ' _ ok e1 fun v H1 Z1 ok1 s1 r1 => ?_
  exact sn b0 B Z0 Z1 H1 σ ρ' v a d Q ok1 (ok1.bdA r1 e3) e5 fun w H3 Z3 ok3 s3 r3 => q w H3 Z3 ok3 (s1.trans s3) r3
theorem df_cb {r : List V → Hp → VK → Prop} {f : List D → Option (List D)} {ga : GA} (sn : SnAF K r f) (ha : DA K tas ga) : DF K (tCB r tas) (eApp f ga) := fun b0 B Z0 Z H σ ρ d ρ' Q ok e q => by
  obtain ⟨x, a, e1, e3, e5⟩ := app_ok e
  refine ha b0 B Z0 Z H σ ρ x ρ' _ ok e1 fun v H1 Z1 ok1 s1 r1 => ?_
  exact sn b0 B Z0 Z1 H1 σ ρ' v a d Q ok1 (ok1.bdA r1 e3) e5 fun p vs H3 ok3 zp bp ap hp r3 => q p vs H3 Z1 ok3 s1 zp bp ap hp r3
theorem dt_B {g : GE} (h : DE K te g) : DT K (tB te) (tstE g) := fun b0 B Z0 Z H σ ρ b ρ' Q ok e q => by
  obtain ⟨d, ρ1, e1, e2⟩ := R.bind_ok e
  split at e2
  · cases e2
    refine h b0 B Z0 Z H σ ρ _ _ _ ok e1 fun v H' Z' ok' s r => ?_
    cases r
    exact ⟨_, rfl, q H' Z' ok' s⟩
  · cases e2
theorem dt_test {g : GE} (h : DE K te g) : DT K (tTest te) (tstE g) := fun b0 B Z0 Z H σ ρ b ρ' Q ok e q => by
  obtain ⟨d, ρ1, e1, e2⟩ := R.bind_ok e
  split at e2
  · cases e2
    refine h b0 B Z0 Z H σ ρ _ _ _ ok e1 fun v H' Z' ok' s r => ?_
    cases r
    exact ⟨_, rfl, q H' Z' ok' s⟩
  · cases e2
theorem dt_not {g : GT} (h : DT K tt g) : DT K (tNot tt) (tNotG g) := fun b0 B Z0 Z H σ ρ b ρ' Q ok e q => by
  obtain ⟨d, e1, rfl⟩ := R.map_ok e
  exact h b0 B Z0 Z H σ ρ d ρ' _ ok e1 fun H' Z' ok' s => q H' Z' ok' s
theorem dt_and {g k : GT} (h : DT K tt g) (h2 : DT K tu k) : DT K (tAnd tt tu) (tAndG g k) := fun b0 B Z0 Z H σ ρ b ρ' Q ok e q => by
  obtain ⟨c, ρ1, e1, e2⟩ := R.bind_ok e
  refine h b0 B Z0 Z H σ ρ c ρ1 _ ok e1 fun H1 Z1 ok1 s1 => ?_
  cases c with
  | true => exact h2 b0 B Z0 Z1 H1 σ ρ1 b ρ' Q ok1 e2 fun H2 Z2 ok2 s2 => q H2 Z2 ok2 (s1.trans s2)
  | false => cases e2; exact q H1 Z1 ok1 s1
theorem dt_or {g k : GT} (h : DT K tt g) (h2 : DT K tu k) : DT K (tOr tt tu) (tOrG g k) := fun b0 B Z0 Z H σ ρ b ρ' Q ok e q => by
  obtain ⟨c, ρ1, e1, e2⟩ := R.bind_ok e
  refine h b0 B Z0 Z H σ ρ c ρ1 _ ok e1 fun H1 Z1 ok1 s1 => ?_
  cases c with
  | true => cases e2; exact q H1 Z1 ok1 s1
  | false => exact h2 b0 B Z0 Z1 H1 σ ρ1 b ρ' Q ok1 e2 fun H2 Z2 ok2 s2 => q H2 Z2 ok2 (s1.trans s2)
theorem de_and {g k : GE} (h : DE K ta g) (h2 : DE K tb k) : DE K (tAndV ta tb) (eAndG g k) := fun b0 B Z0 Z H σ ρ d ρ' Q ok e q => by
  obtain ⟨c, ρ1, e1, e2⟩ := R.bind_ok e
  refine h b0 B Z0 Z H σ ρ c ρ1 _ ok e1 fun v H1 Z1 ok1 s1 r1 => ?_
  split at e2
  · cases r1
    exact ⟨true, rfl, h2 b0 B Z0 Z1 H1 σ ρ1 d ρ' Q ok1 e2 fun v H2 Z2 ok2 s2 r2 => q v H2 Z2 ok2 (s1.trans s2) r2⟩
  · cases r1; cases e2
    exact ⟨false, rfl, q _ H1 Z1 ok1 s1 (.bl false)⟩
  · cases e2
theorem de_or {g k : GE} (h : DE K ta g) (h2 : DE K tb k) : DE K (tOrV ta tb) (eOrG g k) := fun b0 B Z0 Z H σ ρ d ρ' Q ok e q => by
  obtain ⟨c, ρ1, e1, e2⟩ := R.bind_ok e
  refine h b0 B Z0 Z H σ ρ c ρ1 _ ok e1 fun v H1 Z1 ok1 s1 r1 => ?_
  split at e2
  · cases r1; cases e2
    exact ⟨true, rfl, q _ H1 Z1 ok1 s1 (.bl true)⟩
  · cases r1
    exact ⟨false, rfl, h2 b0 B Z0 Z1 H1 σ ρ1 d ρ' Q ok1 e2 fun v H2 Z2 ok2 s2 r2 => q v H2 Z2 ok2 (s1.trans s2) r2⟩
  · cases e2
theorem de_not {g : GE} (h : DE K ta g) : DE K (tNotV ta) (eNotG g) := fun b0 B Z0 Z H σ ρ d ρ' Q ok e q => by
  obtain ⟨c, ρ1, e1, e2⟩ := R.bind_ok e
  refine h b0 B Z0 Z H σ ρ c ρ1 _ ok e1 fun v H1 Z1 ok1 s1 r1 => ?_
  split at e2
  · cases r1; cases e2
    exact ⟨_, rfl, q _ H1 Z1 ok1 s1 (.bl _)⟩
  · cases e2
theorem de_if {c : GT} {g k : GE} (hc : DT K tt c) (h : DE K ta g) (h2 : DE K tb k) : DE K (tIf tt ta tb) (eIf c g k) := fun b0 B Z0 Z H σ ρ d ρ' Q ok e q => by
  obtain ⟨b, ρ1, e1, e2⟩ := R.bind_ok e
  refine hc b0 B Z0 Z H σ ρ b ρ1 _ ok e1 fun H1 Z1 ok1 s1 => ?_
  cases b with
  | true => exact h b0 B Z0 Z1 H1 σ ρ1 d ρ' Q ok1 e2 fun v H2 Z2 ok2 s2 r2 => q v H2 Z2 ok2 (s1.trans s2) r2
  | false => exact h2 b0 B Z0 Z1 H1 σ ρ1 d ρ' Q ok1 e2 fun v H2 Z2 ok2 s2 r2 => q v H2 Z2 ok2 (s1.trans s2) r2
def valA : List Op → Option (List D)
  | [] => some []
  | .val d :: os => (valA os).map (d :: ·)
  | _ :: _ => none
theorem valA_ok {Z : Hp} {σ : L2.St} : ∀ {vs : List V} {os : List Op} {ds : List D}, OpA K Z σ vs os → valA os = some ds → RpA K Z vs ds
  | _, _, _, .nil, e => by cases e; exact .nil
  | _, _, _, .cons (o := .val d) h r, e => by
    unfold valA at e
    obtain ⟨ds', e1, rfl⟩ := Option.map_eq_some_iff.mp e
    exact .cons h (valA_ok r e1)
  | _, _, _, .cons (o := .own i) h r, e => by cases e
def eSeq (ga : GA) (ρ : Rho) : R (List D) := (ga ρ).bind fun os ρ1 => match valA os with
  | some ds => if ds.length ≤ sizeLine then .ok ds ρ1 else .bad
  | none => .bad
def eT (g : GF) (ρ : Rho) : R D := (g ρ).map .tuple
theorem seq_ok {ga : GA} {ρ ρ' : Rho} {ds : List D} (e : eSeq ga ρ = .ok ds ρ') : ∃ os, ga ρ = .ok os ρ' ∧ valA os = some ds ∧ ds.length ≤ sizeLine := by
  obtain ⟨os, ρ1, e1, e2⟩ := R.bind_ok e
  split at e2
  · split at e2
    · cases e2
      exact ⟨os, e1, by assumption, by assumption⟩
    · cases e2
  · cases e2
theorem df_lst {ga : GA} (ha : DA K tas ga) : DF K (tLst tas) (eSeq ga) := fun b0 B Z0 Z H σ ρ d ρ' Q ok e q => by
  obtain ⟨os, e1, e2, e3⟩ := seq_ok e
  refine ha b0 B Z0 Z H σ ρ os ρ' _ ok e1 fun vs H1 Z1 ok1 s1 r1 => ?_
  have ra := valA_ok r1 e2
  refine ⟨by rw [ra.length]; exact e3, fun p hp => ?_⟩
  obtain ⟨ok2, zp, bp, ap⟩ := ok1.fresh (o := .lst vs) hp
  exact q p vs _ Z1 ok2 s1 zp bp ap upd_same ra
theorem de_tup {ga : GA} (ha : DA K tas ga) : DE K (tTup tas) (eT (eSeq ga)) := fun b0 B Z0 Z H σ ρ d ρ' Q ok e q => by
  obtain ⟨ds, e0, rfl⟩ := R.map_ok e
  obtain ⟨os, e1, e2, e3⟩ := seq_ok e0
  refine ha b0 B Z0 Z H σ ρ os ρ' _ ok e1 fun vs H1 Z1 ok1 s1 r1 => ?_
  have ra := valA_ok r1 e2
  refine ⟨by rw [ra.length]; exact e3, fun p hp => ?_⟩
  obtain ⟨ok2, s2⟩ := ok1.new (o := .tup vs) hp
  exact q (.ref p) _ _ ok2 (s1.trans s2) (.tup (.inl (.inl upd_same)) (ra.mono s2))
end
end DL
namespace DL
open PySem L2
/-- how a block ends: next, return of data, return of a new list, break, continue, an exception, nothing that is told -/
inductive O where
  | nx (ρ : Rho)
  | rt (d : D) (ρ : Rho)
  | rf (ds : List D) (ρ : Rho)
  | bk (ρ : Rho)
  | ct (ρ : Rho)
  | ex (c : Str) (d : D) (ρ : Rho)
  | bad
abbrev GS := Rho → O
/-- what the end o promises, seen from the entry (B, Z0) -/
def Sat (K : PySem.W.Frag) (Wx : WX) (b0 : Bx) (B Z0 : Hp) (E : Ends) : O → Prop
  | .nx ρ => ∀ σ H Z, Ok K b0 B Z0 Z H σ ρ → E.nx σ H
  | .rt d ρ => ∀ v σ H Z, Ok K b0 B Z0 Z H σ ρ → Rp K Z v d → E.rt v H
  | .rf ds ρ => ∀ p vs σ H Z, Ok K b0 B Z0 Z H σ ρ → Z p = none → B p = none → Apart σ ρ p → H p = some (.lst vs) → RpA K Z vs ds → E.rt (.ref p) H
  | .bk ρ => ∀ σ H Z, Ok K b0 B Z0 Z H σ ρ → E.bk σ H
  | .ct ρ => ∀ σ H Z, Ok K b0 B Z0 Z H σ ρ → E.ct σ H
  | .ex c d ρ => ∀ σ H Z C dx v, Ok K b0 B Z0 Z H σ ρ → Cls K c C → Z dx = some (.xd [(fld c, v)]) → Rp K Z v d → Wx (.ref C) (some dx) σ H
  | .bad => False
def DS (K : PySem.W.Frag) (Wx : WX) (t : TS) (g : GS) : Prop := ∀ b0 B Z0 Z H σ ρ (E : Ends), Ok K b0 B Z0 Z H σ ρ → Sat K Wx b0 B Z0 E (g ρ) → t E σ H
def O.bind (o : O) (f : Rho → O) : O := match o with
  | .nx ρ => f ρ
  | o => o
def R.to {α : Type} (r : R α) (f : α → Rho → O) : O := match r with
  | .ok a ρ => f a ρ
  | .ex c d ρ => .bad
  | .bad => .bad
def sSeq (a b : GS) (ρ : Rho) : O := (a ρ).bind b
def sNext (ρ : Rho) : O := .nx ρ
def sRet (g : GE) (ρ : Rho) : O := (g ρ).to .rt
def sRetF (g : GF) (ρ : Rho) : O := (g ρ).to .rf
/-- return of the list of one's own in slot i -/
def sRetO (i : Nat) (ρ : Rho) : O := match ρ[i]? with
  | some (.ow ds) => .rf ds (ρ.set i .no)
  | _ => .bad
def sRetN (ρ : Rho) : O := .rt .none ρ
def sDrop (g : GE) (ρ : Rho) : O := (g ρ).to fun _ ρ => .nx ρ
def sIf (c : GT) (a b : GS) (ρ : Rho) : O := (c ρ).to fun k ρ1 => if k then a ρ1 else b ρ1
def sSet (i : Nat) (g : GE) (ρ : Rho) : O := (g ρ).to fun d ρ1 => .nx (ρ1.set i (.sh d))
def sSetO (i : Nat) (g : GF) (ρ : Rho) : O := (g ρ).to fun ds ρ1 => .nx (ρ1.set i (.ow ds))
def sBreak (ρ : Rho) : O := .bk ρ
def sCont (ρ : Rho) : O := .ct ρ
def sBad (ρ : Rho) : O := .bad
/-- the own list in slot i is frozen -/
def fz (i : Nat) (ρ : Rho) : Rho := match ρ[i]? with
  | some (.ow ds) => ρ.set i (.sh (.list ds))
  | some (.od kds) => ρ.set i (.sh (.dict ((.dict [], .none) :: kds)))
  | _ => ρ
def sFz (i : Nat) (g : GS) (ρ : Rho) : O := g (fz i ρ)
section
variable {K : PySem.W.Frag} {Wx : WX} {ta tb te : TE} {tt tu : TT} {tas : TA} {t u : TS} {b0 : Bx} {B Z0 Z H : Hp} {σ : L2.St} {ρ : Rho} {E : Ends}
theorem Sat.to {α : Type} {r : R α} {f : α → Rho → O} (h : Sat K Wx b0 B Z0 E (r.to f)) : ∃ a ρ', r = .ok a ρ' ∧ Sat K Wx b0 B Z0 E (f a ρ') := by
  cases r with
  | ok a ρ' => exact ⟨a, ρ', rfl, h⟩
  | ex c d ρ' => exact h.elim
  | bad => exact h.elim
theorem Sat.bind {o : O} {f : Rho → O} {nx' : L2.St → Hp → Prop} (h : Sat K Wx b0 B Z0 E (o.bind f)) (hn : ∀ ρ' σ' H' Z', Ok K b0 B Z0 Z' H' σ' ρ' → Sat K Wx b0 B Z0 E (f ρ') → nx' σ' H') : Sat K Wx b0 B Z0 { E with nx := nx' } o := by
  cases o with
  | nx ρ' => exact fun σ' H' Z' ok => hn ρ' σ' H' Z' ok h
  | rt d ρ' => exact h
  | rf ds ρ' => exact h
  | bk ρ' => exact h
  | ct ρ' => exact h
  | ex c d ρ' => exact h
  | bad => exact h.elim
theorem ds_seq {g k : GS} (h : DS K Wx t g) (h2 : DS K Wx u k) : DS K Wx (tSeq t u) (sSeq g k) := fun b0 B Z0 Z H σ ρ E ok s =>
  h b0 B Z0 Z H σ ρ _ ok (Sat.bind s fun ρ' σ' H' Z' ok' s' => h2 b0 B Z0 Z' H' σ' ρ' E ok' s')
theorem ds_next : DS K Wx tNext sNext := fun b0 B Z0 Z H σ ρ E ok s => s σ H Z ok
theorem ds_ret {g : GE} (h : DE K te g) : DS K Wx (tRet te) (sRet g) := fun b0 B Z0 Z H σ ρ E ok s => by
  obtain ⟨d, ρ', e, s⟩ := Sat.to s
  exact h b0 B Z0 Z H σ ρ d ρ' _ ok e fun v H' Z' ok' _ r => s v σ H' Z' ok' r
theorem ds_retF {g : GF} (h : DF K te g) : DS K Wx (tRet te) (sRetF g) := fun b0 B Z0 Z H σ ρ E ok s => by
  obtain ⟨d, ρ', e, s⟩ := Sat.to s
  exact h b0 B Z0 Z H σ ρ d ρ' _ ok e fun p vs H' Z' ok' _ zp bp ap hp r => s p vs σ H' Z' ok' zp bp ap hp r
theorem no_get {i j : Nat} {s : Sl} (h : (ρ.set i .no)[j]? = some s) : s = .no ∨ (i ≠ j ∧ ρ[j]? = some s) := by
  rcases set_get h with ⟨_, e⟩ | ⟨n, e⟩
  · exact .inl e.symm
  · exact .inr ⟨n, e⟩
theorem Ok.forget {i : Nat} (ok : Ok K b0 B Z0 Z H σ ρ) : Ok K b0 B Z0 Z H σ (ρ.set i .no) :=
  ok.weak (by rw [List.length_set]; exact ok.len) fun j s h => (no_get h).imp id fun z => ⟨z.2, rfl⟩
theorem Ok.release {i : Nat} {ds : List D} (ok : Ok K b0 B Z0 Z H σ ρ) (h : ρ[i]? = some (.ow ds)) : ∃ p vs, σ[i]? = some (some (.ref p)) ∧ Ok K b0 B Z0 Z H σ (ρ.set i .no) ∧ Z p = none ∧ B p = none ∧ Apart σ (ρ.set i .no) p ∧ H p = some (.lst vs) ∧ RpA K Z vs ds := by
  obtain ⟨p, vs, e1, e2, e3, e4, e5⟩ := ok.ow i ds h
  refine ⟨p, vs, e1, ok.forget, e2, e3, fun j s hj ho q => ?_, e4, e5⟩
  rcases no_get hj with z | ⟨n, z⟩
  · subst z; cases ho
  · exact n (ok.sepS i j p _ s h z rfl ho e1 q)
theorem Ok.releaseD {i : Nat} {ds : List (D × D)} (ok : Ok K b0 B Z0 Z H σ ρ) (h : ρ[i]? = some (.od ds)) : ∃ p vs, σ[i]? = some (some (.ref p)) ∧ Ok K b0 B Z0 Z H σ (ρ.set i .no) ∧ Z p = none ∧ B p = none ∧ Apart σ (ρ.set i .no) p ∧ IsDc H p vs ∧ RpK K Z vs ds := by
  obtain ⟨p, vs, e1, e2, e3, e4, e5⟩ := ok.od i ds h
  refine ⟨p, vs, e1, ok.forget, e2, e3, fun j s hj ho q => ?_, e4, e5⟩
  rcases no_get hj with z | ⟨n, z⟩
  · subst z; cases ho
  · exact n (ok.sepS i j p _ s h z rfl ho e1 q)
theorem set_own {i : Nat} {v : V} (e1 : σ[i]? = some (some v)) : σ.set i (some v) = σ := by
  apply List.ext_getElem?
  intro j
  by_cases hj : i = j
  · subst hj
    rw [List.getElem?_set_self (by
      by_cases z : i < σ.length
      · exact z
      · rw [List.getElem?_eq_none (by simpa using z)] at e1; cases e1), e1]
  · rw [List.getElem?_set_ne hj]
theorem ds_retO {i : Nat} : DS K Wx (tRet (tVar i)) (sRetO i) := fun b0 B Z0 Z H σ ρ E ok s => by
  unfold sRetO at s
  split at s
  · rename_i ds h
    obtain ⟨p, vs, e1, ok', zp, bp, ap, hp, r⟩ := ok.release h
    exact ⟨.ref p, e1, s p vs σ H Z ok' zp bp ap hp r⟩
  · exact s.elim
theorem ds_if {c : GT} {g k : GS} (hc : DT K tt c) (h : DS K Wx t g) (h2 : DS K Wx u k) : DS K Wx (tIfS tt t u) (sIf c g k) := fun b0 B Z0 Z H σ ρ E ok s => by
  obtain ⟨b, ρ', e, s⟩ := Sat.to s
  refine hc b0 B Z0 Z H σ ρ b ρ' _ ok e fun H' Z' ok' _ => ?_
  cases b with
  | true => exact h b0 B Z0 Z' H' σ ρ' E ok' s
  | false => exact h2 b0 B Z0 Z' H' σ ρ' E ok' s
theorem ds_set {i : Nat} {g : GE} (h : DE K te g) : DS K Wx (tAsg te (gName i)) (sSet i g) := fun b0 B Z0 Z H σ ρ E ok s => by
  obtain ⟨d, ρ', e, s⟩ := Sat.to s
  exact h b0 B Z0 Z H σ ρ d ρ' _ ok e fun v H' Z' ok' _ r => s _ H' Z' (ok'.put r)
theorem ds_setO {i : Nat} {g : GF} (h : DF K te g) (hi : i ≠ 0 := by decide) : DS K Wx (tAsg te (gName i)) (sSetO i g) := fun b0 B Z0 Z H σ ρ E ok s => by
  obtain ⟨d, ρ', e, s⟩ := Sat.to s
  exact h b0 B Z0 Z H σ ρ d ρ' _ ok e fun p vs H' Z' ok' _ zp bp ap hp r => s _ H' Z' (ok'.putO zp bp ap hp r fun _ _ z => absurd z hi)
theorem Ok.fz {i : Nat} (ok : Ok K b0 B Z0 Z H σ ρ) : ∃ Z', Ok K b0 B Z0 Z' H σ (fz i ρ) ∧ Same Z Z' := by
  unfold DL.fz
  split
  · rename_i ds h
    obtain ⟨p, vs, e1, ok', zp, bp, ap, hp, r⟩ := ok.release h
    obtain ⟨ok2, s2⟩ := ok'.freeze zp bp ap hp
    refine ⟨_, ?_, s2⟩
    have q := ok2.put (i := i) (v := .ref p) (d := .list ds) (.lst upd_same (r.mono s2))
    rw [List.set_set] at q
    have e : σ.set i (some (.ref p)) = σ := by
      apply List.ext_getElem?
      intro j
      by_cases hj : i = j
      · subst hj
        rw [List.getElem?_set_self (by
          by_cases z : i < σ.length
          · exact z
          · rw [List.getElem?_eq_none (by simpa using z)] at e1; cases e1), e1]
      · rw [List.getElem?_set_ne hj]
    rw [e] at q
    exact q
  · rename_i ds h
    obtain ⟨p, vs, e1, ok', zp, bp, ap, ⟨dt, hp⟩, r⟩ := ok.releaseD h
    obtain ⟨ok2, s2⟩ := ok'.freeze zp bp ap hp
    refine ⟨_, ?_, s2⟩
    have q := ok2.put (i := i) (v := .ref p) (d := dcD ds) (.dct upd_same (r.mono s2))
    rw [List.set_set, set_own e1] at q
    exact q
  · exact ⟨Z, ok, Same.refl Z⟩
theorem ds_fz {i : Nat} {g : GS} (h : DS K Wx t g) : DS K Wx t (sFz i g) := fun b0 B Z0 Z H σ ρ E ok s => by
  obtain ⟨Z', ok', _⟩ := ok.fz (i := i)
  exact h b0 B Z0 Z' H σ _ E ok' s
/-- data goes to a target -/
abbrev GG := D → Rho → Option Rho
def DG (K : PySem.W.Frag) (ws : List Nat) (t : TG) (g : GG) : Prop := ∀ b0 B Z0 Z H σ ρ v d ρ' (Q : L2.St → Hp → Prop), Ok K b0 B Z0 Z H σ ρ → Rp K Z v d → g d ρ = some ρ' → (∀ σ', Ok K b0 B Z0 Z H σ' ρ' → wipe σ' ws = wipe σ ws → Q σ' H) → t v σ H Q
def DGs (K : PySem.W.Frag) (ws : List Nat) (t : TGs) (g : List D → Rho → Option Rho) : Prop := ∀ b0 B Z0 Z H σ ρ vs ds ρ' (Q : L2.St → Hp → Prop), Ok K b0 B Z0 Z H σ ρ → RpA K Z vs ds → g ds ρ = some ρ' → (∀ σ', Ok K b0 B Z0 Z H σ' ρ' → wipe σ' ws = wipe σ ws → Q σ' H) → t vs σ H Q
def gN (i : Nat) (d : D) (ρ : Rho) : Option Rho := some (ρ.set i (.sh d))
def gsNil (ds : List D) (ρ : Rho) : Option Rho := match ds with
  | [] => some ρ
  | _ => none
def gsCons (g : GG) (r : List D → Rho → Option Rho) (ds : List D) (ρ : Rho) : Option Rho := match ds with
  | [] => none
  | d :: ds => (g d ρ).bind (r ds)
def gT (n : Nat) (g : List D → Rho → Option Rho) (d : D) (ρ : Rho) : Option Rho := match d with
  | .tuple ds => if ds.length = n then g ds ρ else none
  | _ => none
theorem wipe_comm (σ : L2.St) (x : Option V) : ∀ (ws : List Nat) (i : Nat), i ∉ ws → wipe (σ.set i x) ws = (wipe σ ws).set i x
  | [], i, _ => rfl
  | w :: ws, i, h => by
    unfold wipe
    have n1 : i ≠ w := fun z => h (by rw [z]; exact List.mem_cons_self)
    rw [wipe_comm σ x ws i fun z => h (List.mem_cons_of_mem _ z), List.set_comm _ _ n1]
theorem wipe_set {σ : L2.St} {x : Option V} : ∀ {ws : List Nat} {i : Nat}, i ∈ ws → wipe (σ.set i x) ws = wipe σ ws
  | [], i, h => nomatch h
  | w :: ws, i, h => by
    unfold wipe
    by_cases hi : i ∈ ws
    · rw [wipe_set hi]
    · have e : i = w := by
        rcases List.mem_cons.mp h with z | z
        · exact z
        · exact absurd z hi
      subst e
      rw [wipe_comm σ x ws i hi, List.set_set]
variable {ws : List Nat}
theorem dg_name {i : Nat} (hi : i ∈ ws) : DG K ws (gName i) (gN i) := fun b0 B Z0 Z H σ ρ v d ρ' Q ok r e q => by
  cases e
  exact q _ (ok.put r) (wipe_set hi)
theorem dgs_nil : DGs K ws gNil gsNil := fun b0 B Z0 Z H σ ρ vs ds ρ' Q ok r e q => by
  cases r with
  | nil => cases e; exact ⟨rfl, q σ ok rfl⟩
  | cons h r => cases e
theorem dgs_cons {t : TG} {u : TGs} {g : GG} {k : List D → Rho → Option Rho} (h : DG K ws t g) (h2 : DGs K ws u k) : DGs K ws (gCons t u) (gsCons g k) := fun b0 B Z0 Z H σ ρ vs ds ρ' Q ok r e q => by
  cases r with
  | nil => cases e
  | cons h1 r =>
    obtain ⟨ρ1, e1, e2⟩ := Option.bind_eq_some_iff.mp e
    exact ⟨_, _, rfl, h b0 B Z0 Z H σ ρ _ _ ρ1 _ ok h1 e1 fun σ1 ok1 w1 => h2 b0 B Z0 Z H σ1 ρ1 _ _ ρ' Q ok1 r e2 fun σ2 ok2 w2 => q σ2 ok2 (w2.trans w1)⟩
theorem dg_tup {n : Nat} {u : TGs} {g : List D → Rho → Option Rho} (h : DGs K ws u g) : DG K ws (gTup K n u) (gT n g) := fun b0 B Z0 Z H σ ρ v d ρ' Q ok r e q => by
  unfold gT at e
  split at e
  · split at e
    · cases r with
      | tup hs ra => exact ⟨_, _, rfl, same_t ok.zh hs, by rw [ra.length]; assumption, h b0 B Z0 Z H σ ρ _ _ ρ' Q ok ra e q⟩
    · cases e
  · cases e
def sTo (g : GE) (k : GG) (ρ : Rho) : O := (g ρ).to fun d ρ1 => match k d ρ1 with
  | some ρ2 => .nx ρ2
  | none => .bad
theorem ds_to {tg : TG} {g : GE} {k : GG} (h : DE K te g) (h2 : DG K ws tg k) : DS K Wx (tAsg te tg) (sTo g k) := fun b0 B Z0 Z H σ ρ E ok s => by
  obtain ⟨d, ρ', e, s⟩ := Sat.to s
  refine h b0 B Z0 Z H σ ρ d ρ' _ ok e fun v H' Z' ok' _ r => ?_
  split at s
  · exact h2 b0 B Z0 Z' H' σ ρ' v d _ _ ok' r (by assumption) fun σ' ok2 _ => s σ' H' Z' ok2
  · exact s.elim
end
end DL
namespace DL
open PySem L2
section
variable {K : PySem.W.Frag} {Wx : WX} {ta tb te : TE} {tt tu : TT} {tas : TA} {t u : TS} {b0 : Bx} {B Z0 Z H : Hp} {σ : L2.St} {ρ : Rho} {E : Ends} {p : Addr} {o o' : HO}
theorem Ok.frame (ok : Ok K b0 B Z0 Z H σ ρ) (zp : Z p = none) (ap : Apart σ ρ p) (hp : H p = some o) : Ok K b0 (upd B p o) Z0 Z H σ ρ := by
  refine ⟨ok.len, fun b x e => ?_, ok.zh, ok.zz, fun b x e => ?_, ok.sh, fun i s e eo => ?_, ok.fix, ok.sepS, ok.fixG, ok.lnk⟩
  · by_cases hb : b = p
    · subst hb; rw [upd_same] at e; rw [← e]; exact hp
    · rw [upd_ne hb] at e; exact ok.bh b x e
  · rcases ok.nb b x e with z | z
    · exact .inl z
    · exact .inr (by rw [upd_ne (ne_of_none e zp)]; exact z)
  · obtain ⟨q, vs, e1, e2, e3, e4, e5⟩ := ok.own i s e eo
    have nq : q ≠ p := fun z => ap i s e eo (by rw [e1, z])
    exact ⟨q, vs, e1, e2, by rw [upd_ne nq]; exact e3, e4, e5⟩
theorem Ok.unframe (ok : Ok K b0 (upd B p o) Z0 Z H σ ρ) (zp : Z0 p = none) (bp : B p = none) : Ok K b0 B Z0 Z H σ ρ ∧ Z p = none ∧ Apart σ ρ p ∧ H p = some o := by
  have hz : Z p = none := by
    cases q : Z p with
    | none => rfl
    | some x =>
      rcases ok.nb p x q with z | z
      · rw [zp] at z; cases z
      · rw [upd_same] at z; cases z
  refine ⟨⟨ok.len, fun b x e => ok.bh b x (by rw [upd_ne (ne_of_none e bp)]; exact e), ok.zh, ok.zz, fun b x e => ?_, ok.sh, fun i s e eo => ?_, ok.fix, ok.sepS, ok.fixG, ok.lnk⟩, hz, fun i s e eo q => ?_, ok.bh p o upd_same⟩
  · rcases ok.nb b x e with z | z
    · exact .inl z
    · rw [upd_ne (ne_of_none e hz)] at z; exact .inr z
  · obtain ⟨q, vs, e1, e2, e3, e4, e5⟩ := ok.own i s e eo
    have nq : q ≠ p := fun z => by rw [z, upd_same] at e3; cases e3
    rw [upd_ne nq] at e3
    exact ⟨q, vs, e1, e2, e3, e4, e5⟩
  · obtain ⟨q', vs, e1, e2, e3, e4, e5⟩ := ok.own i s e eo
    rw [e1] at q
    cases q
    rw [upd_same] at e3
    cases e3
theorem Ok.reframe (ok : Ok K b0 (upd B p o) Z0 Z H σ ρ) (zp : Z0 p = none) (bp : B p = none) : Ok K b0 (upd B p o') Z0 Z (upd H p o') σ ρ := by
  obtain ⟨ok1, hz, ap, hp⟩ := ok.unframe zp bp
  exact (ok1.write (o := o') hz bp ap).frame hz ap upd_same
/-- all that is frozen joins what stays -/
def joinH (B Z : Hp) : Hp := fun p => match B p with
  | some o => some o
  | none => Z p
theorem Ok.enter (ok : Ok K b0 B Z0 Z H σ ρ) : Ok K b0 (joinH B Z) Z Z H σ ρ := by
  refine ⟨ok.len, fun b x e => ?_, ok.zh, Same.refl Z, fun b x e => .inl e, ok.sh, fun i s e eo => ?_, ok.fix, ok.sepS, ok.fixG, ok.lnk⟩
  · unfold joinH at e
    split at e
    · cases e; exact ok.bh b _ (by assumption)
    · exact ok.zh b x e
  · obtain ⟨q, vs, e1, e2, e3, e4, e5⟩ := ok.own i s e eo
    exact ⟨q, vs, e1, e2, by unfold joinH; rw [e3]; exact e2, e4, e5⟩
theorem Ok.leave {Z' H' : Hp} {σ' : L2.St} {ρ' : Rho} (ok : Ok K b0 B Z0 Z H σ ρ) (ok' : Ok K b0 (joinH B Z) Z Z' H' σ' ρ') : Ok K b0 B Z0 Z' H' σ' ρ' := by
  have jb : ∀ q, joinH B Z q = none → B q = none := fun q e => by
    unfold joinH at e
    split at e
    · cases e
    · assumption
  refine ⟨ok'.len, fun b x e => ok'.bh b x (by unfold joinH; rw [e]), ok'.zh, ok.zz.trans ok'.zz, fun b x e => ?_, ok'.sh, fun i s e eo => ?_, ok'.fix, ok'.sepS, ok'.fixG, ok'.lnk⟩
  · rcases ok'.nb b x e with z | z
    · exact ok.nb b x z
    · exact .inr (jb b z)
  · obtain ⟨q, vs, e1, e2, e3, e4, e5⟩ := ok'.own i s e eo
    exact ⟨q, vs, e1, e2, jb q e3, e4, e5⟩
theorem Sat.leave {o : O} (ok : Ok K b0 B Z0 Z H σ ρ) (s : Sat K Wx b0 B Z0 E o) : Sat K Wx b0 (joinH B Z) Z E o := by
  have jb : ∀ q, joinH B Z q = none → B q = none := fun q e => by
    unfold joinH at e
    split at e
    · cases e
    · assumption
  cases o with
  | nx ρ' => exact fun σ' H' Z' ok' => s σ' H' Z' (ok.leave ok')
  | rt d ρ' => exact fun v σ' H' Z' ok' r => s v σ' H' Z' (ok.leave ok') r
  | rf ds ρ' => exact fun p vs σ' H' Z' ok' zp bp ap hp r => s p vs σ' H' Z' (ok.leave ok') zp (jb p bp) ap hp r
  | bk ρ' => exact fun σ' H' Z' ok' => s σ' H' Z' (ok.leave ok')
  | ct ρ' => exact fun σ' H' Z' ok' => s σ' H' Z' (ok.leave ok')
  | ex c d ρ' => exact fun σ' H' Z' C dx v ok' => s σ' H' Z' C dx v (ok.leave ok')
  | bad => exact s.elim
/-- a value on the way into a slot: shared data, or a new list -/
inductive Nw where
  | s (d : D)
  | f (ds : List D)
def Nw.sl : Nw → Sl
  | .s d => .sh d
  | .f ds => .ow ds
def nS (g : GE) (ρ : Rho) : R Nw := (g ρ).map .s
def nF (g : GF) (ρ : Rho) : R Nw := (g ρ).map .f
def NwR (K : PySem.W.Frag) (B Z H : Hp) (σ : L2.St) (ρ : Rho) (v : V) : Nw → Prop
  | .s d => Rp K Z v d
  | .f ds => ∃ p vs, v = .ref p ∧ Z p = none ∧ B p = none ∧ Apart σ ρ p ∧ H p = some (.lst vs) ∧ RpA K Z vs ds
def DN (K : PySem.W.Frag) (t : TE) (g : Rho → R Nw) : Prop := ∀ b0 B Z0 Z H σ ρ n ρ' (Q : VK), Ok K b0 B Z0 Z H σ ρ → g ρ = .ok n ρ' → (∀ v H' Z', Ok K b0 B Z0 Z' H' σ ρ' → Same Z Z' → NwR K B Z' H' σ ρ' v n → Q v H') → t σ H Q
theorem dn_s {g : GE} (h : DE K te g) : DN K te (nS g) := fun b0 B Z0 Z H σ ρ n ρ' Q ok e q => by
  obtain ⟨d, e1, rfl⟩ := R.map_ok e
  exact h b0 B Z0 Z H σ ρ d ρ' Q ok e1 q
theorem dn_f {g : GF} (h : DF K te g) : DN K te (nF g) := fun b0 B Z0 Z H σ ρ n ρ' Q ok e q => by
  obtain ⟨d, e1, rfl⟩ := R.map_ok e
  exact h b0 B Z0 Z H σ ρ d ρ' Q ok e1 fun p vs H' Z' ok' s zp bp ap hp r => q _ H' Z' ok' s ⟨p, vs, rfl, zp, bp, ap, hp, r⟩
def sPar (i j : Nat) (a b : Rho → R Nw) (ρ : Rho) : O := (a ρ).to fun x ρ1 => (b ρ1).to fun y ρ2 => .nx ((ρ2.set i x.sl).set j y.sl)
theorem ds_par {i j : Nat} {a b : Rho → R Nw} (ha : DN K ta a) (hb : DN K tb b) (hi : i ≠ 0 := by decide) (hj0 : j ≠ 0 := by decide) : DS K Wx (tPar i j (tCons ta (tCons tb tNil))) (sPar i j a b) := fun b0 B Z0 Z H σ ρ E ok s => by
  obtain ⟨x, ρ1, e1, s⟩ := Sat.to s
  obtain ⟨y, ρ2, e2, s⟩ := Sat.to s
  refine ha b0 B Z0 Z H σ ρ x ρ1 _ ok e1 fun v H1 Z1 ok1 s1 r1 => ?_
  have pa : ∀ {q : Addr} {ds : List D} {H2 Z2 : Hp}, Ok K b0 B Z0 Z2 H2 σ ρ2 → B q = none → Z2 q = none → Apart σ ρ2 q → ∀ {k : Nat} {w : V} {m : Nw}, NwR K B Z2 H2 σ ρ2 w m → w ≠ .ref q → Apart (σ.set k (some w)) (ρ2.set k m.sl) q := by
    intro q ds H2 Z2 ok2 bq zq aq k w m rm hw j' es hj ho hq
    rcases set_get hj with ⟨ek, e⟩ | ⟨nk, e⟩
    · subst ek
      rcases set_get hq with ⟨_, e2⟩ | ⟨n2, _⟩
      · exact hw (Option.some.inj e2)
      · exact n2 rfl
    · rw [List.getElem?_set_ne nk] at hq
      exact aq j' es e ho hq
  cases x with
  | s d =>
    refine hb b0 B Z0 Z1 H1 σ ρ1 y ρ2 _ ok1 e2 fun w H2 Z2 ok2 s2 r2 => ⟨v, w, rfl, ?_⟩
    have okv := ok2.put (i := i) (Rp.mono s2 r1)
    refine s _ H2 Z2 ?_
    cases y with
    | s d2 => exact okv.put r2
    | f ds =>
      obtain ⟨q, vs, rfl, zq, bq, aq, hq, ra⟩ := r2
      refine okv.putO zq bq (fun j' es hj ho hqq => ?_) hq ra fun _ _ z => absurd z hj0
      rcases set_get hj with ⟨_, z⟩ | ⟨nk, e⟩
      · subst z; cases ho
      · rw [List.getElem?_set_ne nk] at hqq
        exact aq j' es e ho hqq
  | f ds =>
    obtain ⟨q, vs, rfl, zq, bq, aq, hq, ra⟩ := r1
    have okf := ok1.frame zq aq hq
    refine hb b0 (upd B q (.lst vs)) Z0 Z1 H1 σ ρ1 y ρ2 _ okf e2 fun w H2 Z2 ok2 s2 r2 => ⟨.ref q, w, rfl, ?_⟩
    obtain ⟨ok3, zq2, aq2, hq2⟩ := ok2.unframe (ok1.zz.free zq) bq
    have okv := ok3.putO (i := i) zq2 bq aq2 hq2 (ra.mono s2) fun _ _ z => absurd z hi
    refine s _ H2 Z2 ?_
    cases y with
    | s d2 => exact okv.put r2
    | f ds2 =>
      obtain ⟨q', vs', rfl, zq', bq', aq', hq', ra'⟩ := r2
      have nq : q' ≠ q := fun z => by rw [z, upd_same] at bq'; cases bq'
      rw [upd_ne nq] at bq'
      refine okv.putO zq' bq' (fun j' es hj ho hqq => ?_) hq' ra' fun _ _ z => absurd z hj0
      rcases set_get hj with ⟨ek, _⟩ | ⟨nk, e⟩
      · subst ek
        rcases set_get hqq with ⟨_, e2⟩ | ⟨n2, _⟩
        · have z := Option.some.inj e2
          injection z with z
          exact nq z.symm
        · exact n2 rfl
      · rw [List.getElem?_set_ne nk] at hqq
        exact aq' j' es e ho hqq
def isOw : Option Sl → Bool
  | some (.ow _) => true
  | _ => false
def sApp (i : Nat) (g : GE) (ρ : Rho) : O := if isOw ρ[i]? then (g ρ).to fun d ρ1 => match ρ1[i]? with
    | some (.ow ds) => if ds.length < sizeLine then .nx (ρ1.set i (.ow (ds ++ [d]))) else .bad
    | _ => .bad
  else .bad
theorem Ok.isOw {i : Nat} (ok : Ok K b0 B Z0 Z H σ ρ) (h : isOw ρ[i]? = true) : ∃ p vs, σ[i]? = some (some (.ref p)) ∧ H p = some (.lst vs) := by
  unfold DL.isOw at h
  split at h
  · rename_i ds e
    obtain ⟨p, vs, e1, _, _, e4, _⟩ := ok.ow i ds e
    exact ⟨p, vs, e1, e4⟩
  · cases h
theorem Ok.rewrite {i : Nat} {ds es : List D} {vs' : List V} (ok : Ok K b0 B Z0 Z H σ ρ) (h : ρ[i]? = some (.ow ds)) (hp : σ[i]? = some (some (.ref p))) (r : RpA K Z vs' es) : Ok K b0 B Z0 Z (upd H p (.lst vs')) σ (ρ.set i (.ow es)) := by
  obtain ⟨q, vs, e1, ok', zp, bp, ap, _, _⟩ := ok.release h
  rw [hp] at e1
  cases e1
  have ok2 := ok'.write (o := .lst vs') zp bp ap
  have ok3 := ok2.putO (i := i) zp bp ap upd_same r fun a ha hi0 => by
    subst hi0
    have z := ok.fix a ha ds h
    rw [hp] at z
    injection z with z
    injection z with z
    injection z
  rw [List.set_set] at ok3
  have e : σ.set i (some (.ref p)) = σ := by
    apply List.ext_getElem?
    intro j
    by_cases hj : i = j
    · subst hj
      rw [List.getElem?_set_self (by
        by_cases z : i < σ.length
        · exact z
        · rw [List.getElem?_eq_none (by simpa using z)] at hp; cases hp), hp]
    · rw [List.getElem?_set_ne hj]
  rw [e] at ok3
  exact ok3
theorem ds_app {i : Nat} {g : GE} (h : DE K te g) : DS K Wx (tDrop (tBM K "list" rAppend (tVar i) (tCons te tNil))) (sApp i g) := fun b0 B Z0 Z H σ ρ E ok s => by
  unfold sApp at s
  split at s
  · rename_i h0
    obtain ⟨p, vs0, e0, hp0⟩ := ok.isOw h0
    obtain ⟨d, ρ1, e1, s⟩ := Sat.to s
    split at s
    · rename_i ds hi
      split at s
      · rename_i hs
        refine ⟨.ref p, e0, .inl ⟨rfl, vs0, .inl (.inl hp0)⟩, ?_⟩
        refine h b0 B Z0 Z H σ ρ d ρ1 _ ok e1 fun v H1 Z1 ok1 s1 r1 => ?_
        obtain ⟨q, vs, f1, f2, f3, f4, f5⟩ := ok1.ow i ds hi
        rw [e0] at f1
        cases f1
        exact ⟨p, vs, v, rfl, rfl, f4, by rw [f5.length]; exact hs, s σ _ Z1 (ok1.rewrite hi e0 (f5.append (.one r1)))⟩
      · exact s.elim
    · exact s.elim
  · exact s.elim
def sExt (i : Nat) (g : GF) (ρ : Rho) : O := if isOw ρ[i]? then (g ρ).to fun es ρ1 => match ρ1[i]? with
    | some (.ow ds) => if ds.length + es.length ≤ sizeLine then .nx (ρ1.set i (.ow (ds ++ es))) else .bad
    | _ => .bad
  else .bad
theorem ds_ext {i : Nat} {g : GF} (h : DF K te g) : DS K Wx (tDrop (tBM K "list" rExtend (tVar i) (tCons te tNil))) (sExt i g) := fun b0 B Z0 Z H σ ρ E ok s => by
  unfold sExt at s
  split at s
  · rename_i h0
    obtain ⟨p, vs0, e0, hp0⟩ := ok.isOw h0
    obtain ⟨d, ρ1, e1, s⟩ := Sat.to s
    split at s
    · rename_i ds hi
      split at s
      · rename_i hs
        refine ⟨.ref p, e0, .inl ⟨rfl, vs0, .inl (.inl hp0)⟩, ?_⟩
        refine h b0 B Z0 Z H σ ρ d ρ1 _ ok e1 fun p2 vs2 H1 Z1 ok1 s1 zp bp ap hp r1 => ?_
        obtain ⟨q, vs, f1, f2, f3, f4, f5⟩ := ok1.ow i ds hi
        rw [e0] at f1
        cases f1
        exact ⟨p, p2, vs, vs2, rfl, rfl, f4, hp, by rw [f5.length, r1.length]; exact hs, s σ _ Z1 (ok1.rewrite hi e0 (f5.append r1))⟩
      · exact s.elim
    · exact s.elim
  · exact s.elim
/-- x[k] = e -/
def sPutIx (i : Nat) (gk : GE) (g : GE) (ρ : Rho) : O := (g ρ).to fun d ρ1 => if isOw ρ1[i]? then (gk ρ1).to fun k ρ2 => match k, ρ2[i]? with
    | .int k, some (.ow ds) => (match ixN ds.length k with
      | some j => .nx (ρ2.set i (.ow (ds.set j d)))
      | none => .bad)
    | _, _ => .bad
  else .bad
theorem ds_putIx {i : Nat} {gk g : GE} (h : DE K te g) (hk : DE K tb gk) : DS K Wx (tAsg te (gSub (tVar i) tb rSetL)) (sPutIx i gk g) := fun b0 B Z0 Z H σ ρ E ok s => by
  unfold sPutIx at s
  obtain ⟨d, ρ1, e1, s⟩ := Sat.to s
  refine h b0 B Z0 Z H σ ρ d ρ1 _ ok e1 fun v H1 Z1 ok1 s1 r1 => ?_
  split at s
  · rename_i h0
    obtain ⟨p, vs0, e0, hp0⟩ := ok1.isOw h0
    obtain ⟨k, ρ2, e2, s⟩ := Sat.to s
    split at s
    · rename_i k' ds hi
      split at s
      · rename_i j hj
        refine ⟨.ref p, e0, ?_⟩
        refine hk b0 B Z0 Z1 H1 σ ρ1 _ ρ2 _ ok1 e2 fun w H2 Z2 ok2 s2 r2 => ?_
        cases r2
        obtain ⟨q, vs, f1, f2, f3, f4, f5⟩ := ok2.ow i ds hi
        rw [e0] at f1
        cases f1
        exact ⟨p, vs, k', j, rfl, rfl, f4, by rw [f5.length]; exact hj, s σ _ Z2 (ok2.rewrite hi e0 (f5.set (r1.mono s2) j))⟩
      · exact s.elim
    · exact s.elim
  · exact s.elim
def SnIp (K : PySem.W.Frag) (r : TIp) (f : D → D → Option D) : Prop := ∀ b0 B Z0 Z H σ ρ x y a b c (Q : VK), Ok K b0 B Z0 Z H σ ρ → Rp K Z x a → Rp K Z y b → f a b = some c → (∀ v H' Z', Ok K b0 B Z0 Z' H' σ ρ → Same Z Z' → Rp K Z' v c → Q v H') → r x y H Q
def sAug (i : Nat) (f : D → D → Option D) (g : GE) (ρ : Rho) : O := match ρ[i]? with
  | some (.sh a) => (g ρ).to fun b ρ1 => match f a b with
    | some c => .nx (ρ1.set i (.sh c))
    | none => .bad
  | _ => .bad
theorem ds_aug {i : Nat} {r : TIp} {f : D → D → Option D} {g : GE} (sn : SnIp K r f) (h : DE K te g) : DS K Wx (tAug i te r) (sAug i f g) := fun b0 B Z0 Z H σ ρ E ok s => by
  unfold sAug at s
  split at s
  · rename_i a hi
    obtain ⟨b, ρ1, e1, s⟩ := Sat.to s
    split at s
    · rename_i c hc
      obtain ⟨v, e0, r0⟩ := ok.sh i a hi
      refine ⟨v, e0, ?_⟩
      refine h b0 B Z0 Z H σ ρ b ρ1 _ ok e1 fun w H1 Z1 ok1 s1 r1 => ?_
      exact sn b0 B Z0 Z1 H1 σ ρ1 v w a b c _ ok1 (r0.mono s1) r1 hc fun u H2 Z2 ok2 s2 r2 => s _ H2 Z2 (ok2.put r2)
    · exact s.elim
  · exact s.elim
def iAdd : D → D → Option D
  | .int i, .int j => some (.int (i + j))
  | _, _ => none
theorem sn_ipAdd : SnIp K (ipI fun i j => i + j) iAdd := fun b0 B Z0 Z H σ ρ x y a b c Q ok ra rb e q => by
  unfold iAdd at e
  split at e
  · cases e; cases ra; cases rb
    exact ⟨_, _, rfl, rfl, q _ H Z ok (Same.refl Z) (.int _)⟩
  · cases e
structure Wk (K : PySem.W.Frag) (J : It) (Z : Hp) (ds : List D) : Prop where
  goes : ∀ i H, i < ds.length → Same Z H → J.go i H
  stops : ∀ H, Same Z H → J.stop ds.length H
  yields : ∀ i H x H', i < ds.length → J.yld i H x H' → ∀ b0 B Z0 Z' σ ρ, Ok K b0 B Z0 Z' H σ ρ → Same Z Z' → ∃ Z'' d, Ok K b0 B Z0 Z'' H' σ ρ ∧ Same Z' Z'' ∧ ds[i]? = some d ∧ Rp K Z'' x d
def DI (K : PySem.W.Frag) (t : TI) (g : GF) : Prop := ∀ b0 B Z0 Z H σ ρ ds ρ' (R : It → Hp → Prop), Ok K b0 B Z0 Z H σ ρ → g ρ = .ok ds ρ' → (∀ J H' Z', Ok K b0 B Z0 Z' H' σ ρ' → Same Z Z' → Wk K J Z' ds → R J H') → t σ H R
def forL (k : GG) (b : GS) : List D → Rho → O
  | [], ρ => .nx ρ
  | d :: ds, ρ => match k d ρ with
    | none => .bad
    | some ρ1 => match b ρ1 with
      | .nx ρ2 => forL k b ds ρ2
      | .ct ρ2 => forL k b ds ρ2
      | .bk ρ2 => .nx ρ2
      | o => o
def sFor (gi : GF) (k : GG) (b : GS) (ρ : Rho) : O := (gi ρ).to fun ds ρ1 => forL k b ds ρ1
theorem ds_for {ti : TI} {tg : TG} {tb : TS} {ws : List Nat} {gi : GF} {k : GG} {b : GS} (hi : DI K ti gi) (hk : DG K ws tg k) (hb : DS K Wx tb b) : DS K Wx (tFor ti tg tb) (sFor gi k b) := fun b0 B Z0 Z H σ ρ E ok s => by
  obtain ⟨ds, ρ1, e1, s⟩ := Sat.to s
  refine hi b0 B Z0 Z H σ ρ ds ρ1 _ ok e1 fun J H1 Z1 ok1 s1 wk => ?_
  have W : Walk J ds.length (fun H => Same Z1 H) (fun i H x H' => J.yld i H x H') := ⟨wk.goes, wk.stops, fun _ _ _ _ _ _ y => y⟩
  refine for_it W (fun i σ H => ∃ Z ρ, Ok K b0 (joinH B Z1) Z1 Z H σ ρ ∧ Sat K Wx b0 (joinH B Z1) Z1 E (forL k b (ds.drop i) ρ)) ⟨Z1, ρ1, ok1.enter, ?_⟩ (fun i σ H _ h => ?_) (fun i x σ H H' hlt h y => ?_) (fun σ H h => ?_)
  · rw [List.drop_zero]
    exact Sat.leave ok1 s
  · obtain ⟨Z, ρ, ok, _⟩ := h
    exact ok.zz.trans ok.zh
  · obtain ⟨Z2, ρ2, ok2, sat⟩ := h
    obtain ⟨Z3, d, ok3, s3, hd, rd⟩ := wk.yields i H x H' hlt y _ _ _ _ _ _ ok2 ok2.zz
    have ed : ds.drop i = d :: ds.drop (i + 1) := by
      obtain ⟨hl, e⟩ := List.getElem?_eq_some_iff.mp hd
      rw [← e]
      exact List.drop_eq_getElem_cons hl
    rw [ed] at sat
    unfold forL at sat
    split at sat
    · exact sat.elim
    · rename_i ρ3 hk3
      refine hk _ _ _ Z3 H' σ ρ2 x d ρ3 _ ok3 rd hk3 fun σ3 ok4 _ => ?_
      refine hb _ _ _ Z3 H' σ3 ρ3 _ ok4 ?_
      split at sat
      · rename_i ρ4 e4; rw [e4]; exact fun σ4 H4 Z4 ok5 => ⟨Z4, ρ4, ok5, sat⟩
      · rename_i ρ4 e4; rw [e4]; exact fun σ4 H4 Z4 ok5 => ⟨Z4, ρ4, ok5, sat⟩
      · rename_i ρ4 e4; rw [e4]; exact sat
      · rename_i o h1 h2 h3
        generalize b ρ3 = o' at *
        cases o' with
        | nx ρ' => exact absurd rfl (h1 ρ')
        | ct ρ' => exact absurd rfl (h2 ρ')
        | bk ρ' => exact absurd rfl (h3 ρ')
        | rt d ρ' => exact sat
        | rf ds ρ' => exact sat
        | ex c d ρ' => exact sat
        | bad => exact sat.elim
  · obtain ⟨Z2, ρ2, ok2, sat⟩ := h
    rw [List.drop_length] at sat
    exact sat σ H Z2 ok2
end
end DL
namespace DL
open PySem L2
section
variable {K : PySem.W.Frag} {Wx : WX} {ta tb te : TE} {tt tu : TT} {tas : TA} {t u : TS} {b0 : Bx} {B Z0 Z H : Hp} {σ : L2.St} {ρ : Rho} {E : Ends} {p : Addr} {o o' : HO}
def wipeR (ρ : Rho) : List Nat → Rho
  | [] => ρ
  | v :: vs => (wipeR ρ vs).set v .no
theorem wipeR_len : ∀ (vs : List Nat), (wipeR ρ vs).length = ρ.length
  | [] => rfl
  | v :: vs => by unfold wipeR; rw [List.length_set, wipeR_len vs]
theorem wipeR_get {i : Nat} {s : Sl} : ∀ {vs : List Nat}, (wipeR ρ vs)[i]? = some s → s = .no ∨ (i ∉ vs ∧ ρ[i]? = some s)
  | [], h => .inr ⟨by simp, h⟩
  | v :: vs, h => by
    unfold wipeR at h
    rcases set_get h with ⟨_, e⟩ | ⟨n, e⟩
    · exact .inl e.symm
    · rcases wipeR_get e with z | ⟨z1, z2⟩
      · exact .inl z
      · exact .inr ⟨fun z => (List.mem_cons.mp z).elim (fun y => n y.symm) z1, z2⟩
theorem wipe_get {i : Nat} : ∀ {vs : List Nat}, i ∉ vs → (wipe σ vs)[i]? = σ[i]?
  | [], _ => rfl
  | v :: vs, h => by
    unfold wipe
    rw [List.getElem?_set_ne (fun z => h (by rw [z]; exact List.mem_cons_self)), wipe_get fun z => h (List.mem_cons_of_mem _ z)]
theorem Ok.wipe (vs : List Nat) (ok : Ok K b0 B Z0 Z H σ ρ) : Ok K b0 B Z0 Z H (wipe σ vs) (wipeR ρ vs) :=
  ok.weak (by rw [wipe_length, wipeR_len]; exact ok.len) fun i s h => (wipeR_get h).imp id fun z => ⟨z.2, wipe_get z.1⟩
theorem Ok.unwipe (vs : List Nat) (ok : Ok K b0 B Z0 Z H (L2.wipe σ vs) ρ) : Ok K b0 B Z0 Z H σ (wipeR ρ vs) :=
  ok.weak (by rw [wipeR_len, ← ok.len, wipe_length]) fun i s h => (wipeR_get h).imp id fun z => ⟨z.2, (wipe_get z.1).symm⟩
theorem wipe_wipe (σ : L2.St) (vs : List Nat) : L2.wipe (L2.wipe σ vs) vs = L2.wipe σ vs := by
  apply List.ext_getElem?
  intro i
  by_cases h : i ∈ vs
  · have e : ∀ (τ : L2.St) (ws : List Nat), i ∈ ws → (L2.wipe τ ws)[i]? = if i < τ.length then some none else none := by
      intro τ ws
      induction ws with
      | nil => intro h; cases h
      | cons w ws ih =>
        intro h
        unfold L2.wipe
        by_cases hw : w = i
        · subst hw
          by_cases hl : w < τ.length
          · rw [List.getElem?_set_self (by rw [wipe_length]; exact hl), if_pos hl]
          · rw [if_neg hl, List.getElem?_eq_none (by rw [List.length_set, wipe_length]; omega)]
        · rw [List.getElem?_set_ne hw]
          exact ih ((List.mem_cons.mp h).resolve_left fun z => hw z.symm)
    rw [e _ _ h, e _ _ h, wipe_length]
  · rw [wipe_get h]
def gYes (ρ : Rho) : R Bool := .ok true ρ
theorem dt_yes : DT K tYes gYes := fun b0 B Z0 Z H σ ρ b ρ' Q ok e q => by
  cases e
  exact q H Z ok (Same.refl Z)
def lcL (vs : List Nat) (k : GG) (t : GT) (e : GE) : List D → Rho → R (List D)
  | [], ρ => .ok [] ρ
  | d :: ds, ρ => match k d ρ with
    | none => .bad
    | some ρ1 => (t ρ1).bind fun b ρ2 => if b then (e ρ2).bind fun y ρ3 => (lcL vs k t e ds (wipeR ρ3 vs)).map (y :: ·) else lcL vs k t e ds (wipeR ρ2 vs)
def eLc (vs : List Nat) (gi : GF) (k : GG) (t : GT) (e : GE) (ρ : Rho) : R (List D) := (gi ρ).bind fun ds ρ1 => if ds.length ≤ sizeLine then (lcL vs k t e ds (wipeR ρ1 vs)).bind fun ys ρ2 => .ok ys (wipeR ρ2 vs) else .bad
theorem df_lc {ti : TI} {tg : TG} {vs : List Nat} {gi : GF} {k : GG} {gt : GT} {ge : GE} (hi : DI K ti gi) (hk : DG K vs tg k) (ht : DT K tt gt) (he : DE K te ge) : DF K (tLc ti tg tt te vs) (eLc vs gi k gt ge) := fun b0 B Z0 Z H σ ρ ys ρ' Q ok e q => by
  obtain ⟨ds, ρ1, e1, e2⟩ := R.bind_ok e
  split at e2
  · rename_i hsz
    obtain ⟨ys', ρ2, e3, e4⟩ := R.bind_ok e2
    cases e4
    refine hi b0 B Z0 Z H σ ρ ds ρ1 _ ok e1 fun J H1 Z1 ok1 s1 wk => fun D hD => ?_
    have W : Walk J ds.length (fun H => Same Z1 H) (fun i H x H' => J.yld i H x H') := ⟨wk.goes, wk.stops, fun _ _ _ _ _ _ y => y⟩
    have bD : B D = none := ok1.bh.free hD
    have zD : Z0 D = none := ok1.zz.free (ok1.zh.free hD)
    refine lc_it W (fun i H => ∃ Z ρ acc da rest, Ok K b0 (upd B D (.lst acc)) Z0 Z H (wipe σ vs) ρ ∧ Same Z1 Z ∧ RpA K Z acc da ∧ acc.length ≤ i ∧ lcL vs k gt ge (ds.drop i) ρ = .ok rest ρ2 ∧ ys = da ++ rest) ?_ (fun i H _ h => ?_) (fun i x H H' hlt h y => ?_) (fun H h => ?_)
    · obtain ⟨okf, zf, bf, af⟩ := ok1.fresh (o := .lst []) hD
      have okw := okf.frame zf af upd_same
      refine ⟨Z1, wipeR ρ1 vs, [], [], ys, okw.wipe vs, Same.refl Z1, .nil, Nat.le_refl 0, ?_, rfl⟩
      rw [List.drop_zero]
      exact e3
    · obtain ⟨Z2, ρ2, acc, da, rest, ok2, s2, _⟩ := h
      exact s2.trans ok2.zh
    · obtain ⟨Z2, ρ2', acc, da, rest, ok2, s2, ra, hl, el, ey⟩ := h
      obtain ⟨Z3, d, ok3, s3, hd, rd⟩ := wk.yields i H x H' hlt y _ _ _ _ _ _ ok2 s2
      have ed : ds.drop i = d :: ds.drop (i + 1) := by
        obtain ⟨hl, e⟩ := List.getElem?_eq_some_iff.mp hd
        rw [← e]
        exact List.drop_eq_getElem_cons hl
      rw [ed] at el
      unfold lcL at el
      split at el
      · cases el
      · rename_i ρ3 hk3
        refine hk _ _ _ Z3 H' (wipe σ vs) ρ2' x d ρ3 _ ok3 rd hk3 fun σ3 ok4 w4 => ⟨w4.trans (wipe_wipe σ vs), ?_⟩
        obtain ⟨b, ρ4, e4, el⟩ := R.bind_ok el
        refine ht _ _ _ Z3 H' σ3 ρ3 b ρ4 _ ok4 e4 fun H5 Z5 ok5 s5 => ?_
        cases b with
        | false =>
          refine ⟨Z5, wipeR ρ4 vs, acc, da, rest, ?_, (s2.trans s3).trans s5, (ra.mono s3).mono s5, Nat.le_succ_of_le hl, el, ey⟩
          have := ok5.wipe vs
          rw [w4, wipe_wipe] at this
          exact this
        | true =>
          obtain ⟨yv, ρ5, e5, el⟩ := R.bind_ok el
          obtain ⟨rest', e6, rfl⟩ := R.map_ok el
          refine he _ _ _ Z5 H5 σ3 ρ4 yv ρ5 _ ok5 e5 fun v H6 Z6 ok6 s6 r6 => ?_
          obtain ⟨_, hz6, ap6, hp6⟩ := ok6.unframe zD bD
          refine ⟨acc, hp6, by omega, Z6, wipeR ρ5 vs, acc ++ [v], da ++ [yv], rest', ?_, ((s2.trans s3).trans s5).trans s6, (((ra.mono s3).mono s5).mono s6).append (.one r6), ?_, e6, ?_⟩
          · have := (ok6.reframe (o' := .lst (acc ++ [v])) zD bD).wipe vs
            rw [w4, wipe_wipe] at this
            exact this
          · rw [List.length_append, List.length_singleton]; omega
          · rw [ey, List.append_assoc]; rfl
    · obtain ⟨Z2, ρ2', acc, da, rest, ok2, s2, ra, hl, el, ey⟩ := h
      rw [List.drop_length] at el
      cases el
      obtain ⟨ok3, hz, ap, hp⟩ := ok2.unframe zD bD
      have ok4 := ok3.unwipe vs
      rw [List.append_nil] at ey
      subst ey
      refine q D acc H Z2 ok4 (s1.trans s2) hz bD (fun i es hi ho hq => ?_) hp ra
      rcases wipeR_get hi with z | ⟨z1, z2⟩
      · subst z; cases ho
      · exact ap i es z2 ho (by rw [wipe_get z1]; exact hq)
  · cases e2
end
end DL
namespace DL
open PySem L2
section
variable {K : PySem.W.Frag} {Wx : WX} {ta tb te : TE} {tt tu : TT} {tas : TA} {t u : TS} {b0 : Bx} {B Z0 Z H : Hp} {σ : L2.St} {ρ : Rho} {p : Addr} {o o' : HO}
/-- what a caller hears of the frozen heap behind a call -/
def Grow (H Z Z' H' : Hp) : Prop := Same Z Z' ∧ Same Z' H' ∧ ∀ p o, Z' p = some o → Z p = some o ∨ H p = none
/-- a def that hands back data and changes nothing -/
def spP (K : PySem.W.Frag) (np : Nat) (F : List D → Option D) : Sp := fun vs H Q _ => vs.length = np ∧ ∃ Z ds d, Same Z H ∧ RpA K Z vs ds ∧ F ds = some d ∧ ∀ v H' Z', Same H H' → Grow H Z Z' H' → Rp K Z' v d → Q v H'
/-- .. a new list -/
def spF (K : PySem.W.Frag) (np : Nat) (F : List D → Option (List D)) : Sp := fun vs H Q _ => vs.length = np ∧ ∃ Z ds es, Same Z H ∧ RpA K Z vs ds ∧ F ds = some es ∧ ∀ p ws H' Z', Same H H' → Grow H Z Z' H' → H p = none → Z' p = none → H' p = some (.lst ws) → RpA K Z' ws es → Q (.ref p) H'
/-- a def whose first parameter is a list that it may change -/
def spB (K : PySem.W.Frag) (np : Nat) (F : List D → List D → Option (D × List D)) : Sp := fun vs H Q _ => vs.length = np ∧ ∃ Z b vb box rest ds d box', vs = .ref b :: rest ∧ Same Z H ∧ Z b = none ∧ H b = some (.lst vb) ∧ RpA K Z vb box ∧ RpA K Z rest ds ∧ F box ds = some (d, box') ∧
  ∀ v H' Z' vb', (∀ p o, p ≠ b → H p = some o → H' p = some o) → Grow H Z Z' H' → Z' b = none → H' b = some (.lst vb') → RpA K Z' vb' box' → Rp K Z' v d → Q v H'
def env0 (n : Nat) (args : List D) : Rho := args.map .sh ++ List.replicate (n - args.length) .no
def envB (n : Nat) (box : List D) (args : List D) : Rho := .ow box :: (args.map .sh ++ List.replicate (n - (args.length + 1)) .no)
def callP (np n : Nat) (g : GS) : List D → Option D := fun args => if args.length ≠ np then none else match g (env0 n args) with
  | .rt d _ => some d
  | .nx _ => some .none
  | .rf ds _ => some (.list ds)
  | _ => none
def callF (np n : Nat) (g : GS) : List D → Option (List D) := fun args => if args.length ≠ np then none else match g (env0 n args) with
  | .rf ds _ => some ds
  | _ => none
def box0 (ρ : Rho) : Option (List D) := match (ρ[0]? : Option Sl) with
  | some (.ow b) => some b
  | _ => none
def callB (np n : Nat) (g : GS) : List D → List D → Option (D × List D) := fun box args => if args.length + 1 ≠ np then none else match g (envB n box args) with
  | .rt d ρ => (box0 ρ).map (d, ·)
  | .nx ρ => (box0 ρ).map (.none, ·)
  | .rf ds ρ => (box0 ρ).map (.list ds, ·)
  | _ => none
theorem args_get {vs : List V} {ds : List D} {n m i : Nat} {s : Sl} (r : RpA K Z vs ds) (h : (ds.map Sl.sh ++ List.replicate m .no)[i]? = some s) : s = .no ∨ ∃ d v, s = .sh d ∧ (vs.map some ++ List.replicate n none)[i]? = some (some v) ∧ Rp K Z v d := by
  by_cases hi : i < ds.length
  · rw [List.getElem?_append_left (by rw [List.length_map]; exact hi), List.getElem?_map] at h
    obtain ⟨d, hd, rfl⟩ := Option.map_eq_some_iff.mp h
    obtain ⟨v, hv, rv⟩ := r.get hd
    refine .inr ⟨d, v, rfl, ?_, rv⟩
    rw [List.getElem?_append_left (by rw [List.length_map, r.length]; exact hi), List.getElem?_map, hv]
    rfl
  · rw [List.getElem?_append_right (by rw [List.length_map]; omega), List.getElem?_replicate] at h
    split at h
    · exact .inl (Option.some.inj h).symm
    · cases h
theorem ok_start {N : List Str} {vs : List V} {ds : List D} (s : Same Z H) (r : RpA K Z vs ds) (hn : vs.length ≤ N.length) : Ok K noB H Z Z H (L2.start N vs) (env0 N.length ds) := by
  unfold L2.start env0
  refine ⟨?_, Same.refl H, s, Same.refl Z, fun _ _ e => .inl e, fun i d h => ?_, fun i s h ho => ?_, (fun _ z => nomatch z), fun i j p s t h _ ho _ _ _ => ?_, (fun _ _ z => absurd z hAt_no), fun i j h => ?_⟩
  · rw [List.length_append, List.length_append, List.length_map, List.length_map, List.length_replicate, List.length_replicate, r.length]
  · rcases args_get (n := N.length - vs.length) r h with z | ⟨d', v, e, e2, rv⟩
    · cases z
    · cases e; exact ⟨v, e2, rv⟩
  · rcases args_get (n := N.length - vs.length) r h with z | ⟨d', v, e, e2, rv⟩
    · subst z; cases ho
    · subst e; cases ho
  · rcases args_get (n := N.length - vs.length) r h with z | ⟨d', v, e, e2, rv⟩
    · subst z; cases ho
    · subst e; cases ho
  · rcases args_get (n := N.length - vs.length) r h with z | ⟨d', v, e, e2, rv⟩
    · cases z
    · cases e
/-- a body that reads as g keeps the promise -/
theorem run_P {N : List Str} {np : Nat} {g : GS} {vs : List V} {Q : VK} {E : XK} (h : DS K (fun _ _ _ _ => False) t g) (hk : np ≤ N.length) (hs : spP K np (callP np N.length g) vs H Q E) : t { nx := fun _ H' => Q .non H', rt := Q } (L2.start N vs) H := by
  obtain ⟨hl, Z, ds, d, sZ, ra, e, q⟩ := hs
  have ok := ok_start (N := N) sZ ra (by omega)
  refine h _ _ _ _ _ _ _ _ ok ?_
  unfold callP at e
  split at e
  · cases e
  split at e
  · rename_i d' ρ' e'
    cases e
    rw [e']
    exact fun v σ' H' Z' ok' r => q v H' Z' ok'.bh ⟨ok'.zz, ok'.zh, ok'.nb⟩ r
  · rename_i ρ' e'
    cases e
    rw [e']
    exact fun σ' H' Z' ok' => q .non H' Z' ok'.bh ⟨ok'.zz, ok'.zh, ok'.nb⟩ .non
  · rename_i ds' ρ' e'
    cases e
    rw [e']
    intro p ws σ' H' Z' ok' zp bp ap hp r
    obtain ⟨ok2, s2⟩ := ok'.freeze zp bp ap hp
    exact q (.ref p) H' _ ok2.bh ⟨ok2.zz, ok2.zh, ok2.nb⟩ (.lst upd_same (r.mono s2))
  · cases e
theorem run_F {N : List Str} {np : Nat} {g : GS} {vs : List V} {Q : VK} {E : XK} (h : DS K (fun _ _ _ _ => False) t g) (hk : np ≤ N.length) (hs : spF K np (callF np N.length g) vs H Q E) : t { nx := fun _ H' => Q .non H', rt := Q } (L2.start N vs) H := by
  obtain ⟨hl, Z, ds, d, sZ, ra, e, q⟩ := hs
  have ok := ok_start (N := N) sZ ra (by omega)
  refine h _ _ _ _ _ _ _ _ ok ?_
  unfold callF at e
  split at e
  · cases e
  split at e
  · rename_i ds' ρ' e'
    cases e
    rw [e']
    intro p ws σ' H' Z' ok' zp bp ap hp r
    exact q p ws H' Z' ok'.bh ⟨ok'.zz, ok'.zh, ok'.nb⟩ bp zp hp r
  · cases e
/-- H without b -/
def but (H : Hp) (b : Addr) : Hp := fun p => if p = b then none else H p
theorem but_same {b : Addr} : but H b b = none := if_pos rfl
theorem but_ne {b q : Addr} (h : q ≠ b) : but H b q = H q := if_neg h
theorem but_le {b : Addr} : Same (but H b) H := fun q o e => by
  by_cases hq : q = b
  · rw [hq, but_same] at e; cases e
  · rw [but_ne hq] at e; exact e
theorem ok_startB {N : List Str} {b : Addr} {vb rest : List V} {box ds : List D} (s : Same Z H) (zb : Z b = none) (hb : H b = some (.lst vb)) (rb : RpA K Z vb box) (r : RpA K Z rest ds) (hn : rest.length + 1 ≤ N.length) : Ok K (inB b) (but H b) Z Z H (L2.start N (.ref b :: rest)) (envB N.length box ds) := by
  have len : (L2.start N (.ref b :: rest)) = some (.ref b) :: (rest.map some ++ List.replicate (N.length - (rest.length + 1)) none) := rfl
  rw [len]
  unfold envB
  have zb' : ∀ q o, Z q = some o → (Z q = some o ∨ but H b q = none) := fun q o e => .inl e
  have G : ∀ {i : Nat} {s : Sl}, (Sl.ow box :: (ds.map Sl.sh ++ List.replicate (N.length - (ds.length + 1)) .no))[i]? = some s → (i = 0 ∧ s = .ow box) ∨ s = .no ∨ ∃ j d v, i = j + 1 ∧ s = .sh d ∧ (rest.map some ++ List.replicate (N.length - (rest.length + 1)) none)[j]? = some (some v) ∧ Rp K Z v d := by
    intro i s h
    cases i with
    | zero => exact .inl ⟨rfl, (Option.some.inj h).symm⟩
    | succ j =>
      rw [List.getElem?_cons_succ] at h
      rcases args_get (n := N.length - (rest.length + 1)) r h with z | ⟨d', v, e, e2, rv⟩
      · exact .inr (.inl z)
      · exact .inr (.inr ⟨j, d', v, rfl, e, e2, rv⟩)
  refine ⟨?_, but_le, s, Same.refl Z, zb', fun i d h => ?_, fun i s h ho => ?_, fun a ha ds' h => by cases ha; rfl, fun i j p s t h h' ho ho' _ _ => ?_, (fun _ _ z => absurd z hAt_no), fun i j h => ?_⟩
  · simp only [List.length_cons, List.length_append, List.length_map, List.length_replicate, r.length]
  · rcases G h with ⟨_, z⟩ | z | ⟨j, d', v, rfl, e, e2, rv⟩
    · cases z
    · cases z
    · cases e; exact ⟨v, by rw [List.getElem?_cons_succ]; exact e2, rv⟩
  · rcases G h with ⟨rfl, z⟩ | z | ⟨j, d', v, rfl, e, e2, rv⟩
    · subst z; exact ⟨b, _, rfl, zb, but_same, hb, vb, rfl, rb⟩
    · subst z; cases ho
    · subst e; cases ho
  · rcases G h with ⟨rfl, z⟩ | z | ⟨j, d', v, rfl, e, e2, rv⟩
    · rcases G h' with ⟨rfl, z⟩ | z | ⟨j, d', v, rfl, e, e2, rv⟩
      · rfl
      · subst z; cases ho'
      · subst e; cases ho'
    · subst z; cases ho
    · subst e; cases ho
  · rcases G h with ⟨_, z⟩ | z | ⟨j, d', v, rfl, e, e2, rv⟩
    · cases z
    · cases z
    · cases e
theorem box0_ok {b : Addr} {Z' H' : Hp} {σ' : L2.St} {ρ' : Rho} {box' : List D} (ok : Ok K (inB b) (but H b) Z0 Z' H' σ' ρ') (h : box0 ρ' = some box') : ∃ vb', Z' b = none ∧ H' b = some (.lst vb') ∧ RpA K Z' vb' box' := by
  unfold box0 at h
  split at h
  · rename_i b' e
    cases h
    obtain ⟨q, vs, e1, e2, e3, e4, e5⟩ := ok.ow 0 _ e
    have z := ok.fix b rfl _ e
    rw [e1] at z
    cases z
    exact ⟨vs, e2, e4, e5⟩
  · cases h
theorem but_nb {b : Addr} {Z' : Hp} (zb : Z' b = none) (h : ∀ p o, Z' p = some o → Z p = some o ∨ but H b p = none) : ∀ p o, Z' p = some o → Z p = some o ∨ H p = none := fun p o e => by
  rcases h p o e with z | z
  · exact .inl z
  · have n : p ≠ b := ne_of_none e zb
    rw [but_ne n] at z
    exact .inr z
theorem but_bh {b : Addr} {H' : Hp} (h : Same (but H b) H') : ∀ p o, p ≠ b → H p = some o → H' p = some o := fun p o n e => h p o (by rw [but_ne n]; exact e)
theorem run_B {N : List Str} {np : Nat} {g : GS} {vs : List V} {Q : VK} {E : XK} (h : DS K (fun _ _ _ _ => False) t g) (hk : np ≤ N.length) (hs : spB K np (callB np N.length g) vs H Q E) : t { nx := fun _ H' => Q .non H', rt := Q } (L2.start N vs) H := by
  obtain ⟨hl, Z, b, vb, box, rest, ds, d, box', rfl, sZ, zb, hb, rb, ra, e, q⟩ := hs
  have ok := ok_startB (N := N) sZ zb hb rb ra (by rw [List.length_cons] at hl; omega)
  refine h _ _ _ _ _ _ _ _ ok ?_
  unfold callB at e
  split at e
  · cases e
  split at e
  · rename_i d' ρ' e'
    obtain ⟨bx, e1, e2⟩ := Option.map_eq_some_iff.mp e
    cases e2
    rw [e']
    intro v σ' H' Z' ok' r
    obtain ⟨vb', z1, z2, z3⟩ := box0_ok ok' e1
    exact q v H' Z' vb' (but_bh ok'.bh) ⟨ok'.zz, ok'.zh, but_nb z1 ok'.nb⟩ z1 z2 z3 r
  · rename_i ρ' e'
    obtain ⟨bx, e1, e2⟩ := Option.map_eq_some_iff.mp e
    cases e2
    rw [e']
    intro σ' H' Z' ok'
    obtain ⟨vb', z1, z2, z3⟩ := box0_ok ok' e1
    exact q .non H' Z' vb' (but_bh ok'.bh) ⟨ok'.zz, ok'.zh, but_nb z1 ok'.nb⟩ z1 z2 z3 .non
  · rename_i ds' ρ' e'
    obtain ⟨bx, e1, e2⟩ := Option.map_eq_some_iff.mp e
    cases e2
    rw [e']
    intro p ws σ' H' Z' ok' zp bp ap hp r
    obtain ⟨ok2, s2⟩ := ok'.freeze zp bp ap hp
    obtain ⟨vb', z1, z2, z3⟩ := box0_ok ok2 e1
    exact q (.ref p) H' _ vb' (but_bh ok2.bh) ⟨ok2.zz, ok2.zh, but_nb z1 ok2.nb⟩ z1 z2 z3 (.lst upd_same (r.mono s2))
  · cases e
def flatD : D → Bool
  | .none => true
  | .bool _ => true
  | .int _ => true
  | .str _ => true
  | _ => false
/-- a call, its arguments data -/
def eCall {α : Type} (F : List D → Option α) (ga : GA) (ρ : Rho) : R α := (ga ρ).bind fun os ρ1 => match valA os with
  | some ds => R.lift (F ds) ρ1
  | none => .bad
theorem call_ok {α : Type} {F : List D → Option α} {ga : GA} {ρ ρ' : Rho} {z : α} (e : eCall F ga ρ = .ok z ρ') : ∃ os ds, ga ρ = .ok os ρ' ∧ valA os = some ds ∧ F ds = some z := by
  obtain ⟨x, ρ1, e1, e2⟩ := R.bind_ok e
  split at e2
  · rename_i d h1
    obtain ⟨e5, rfl⟩ := R.lift_ok e2
    exact ⟨x, d, e1, h1, e5⟩
  · cases e2
/-- behind a call that keeps all -/
theorem Ok.grow {Z' H' : Hp} (ok : Ok K b0 B Z0 Z H σ ρ) (hh : Same H H') (g : Grow H Z Z' H') : Ok K b0 B Z0 Z' H' σ ρ := by
  refine ⟨ok.len, ok.bh.trans hh, g.2.1, ok.zz.trans g.1, fun p o e => ?_, fun i d e => ?_, fun i s e eo => ?_, ok.fix, ok.sepS, ok.fixG, fun i j e => (ok.lnk i j e).mono g.1⟩
  · rcases g.2.2 p o e with z | z
    · exact ok.nb p o z
    · exact .inr (ok.bh.free z)
  · obtain ⟨v, e1, e2⟩ := ok.sh i d e
    exact ⟨v, e1, e2.mono g.1⟩
  · obtain ⟨q, vs, e1, e2, e3, e4, e5⟩ := ok.own i s e eo
    refine ⟨q, vs, e1, ?_, e3, hh _ _ e4, e5.mono g.1⟩
    cases z : Z' q with
    | none => rfl
    | some o =>
      rcases g.2.2 q o z with y | y
      · rw [e2] at y; cases y
      · rw [e4] at y; cases y
theorem OpA.length {Z : Hp} {σ : L2.St} : ∀ {vs : List V} {os : List Op}, OpA K Z σ vs os → vs.length = os.length
  | _, _, .nil => rfl
  | _, _, .cons _ r => by rw [List.length_cons, List.length_cons, OpA.length r]
theorem callP_len {np n : Nat} {g : GS} : ∀ ds d, callP np n g ds = some d → ds.length = np := fun ds d h => by
  unfold callP at h
  split at h
  · cases h
  · omega
theorem callF_len {np n : Nat} {g : GS} : ∀ ds d, callF np n g ds = some d → ds.length = np := fun ds d h => by
  unfold callF at h
  split at h
  · cases h
  · omega
theorem callB_len {np n : Nat} {g : GS} : ∀ b ds d, callB np n g b ds = some d → ds.length + 1 = np := fun b ds d h => by
  unfold callB at h
  split at h
  · cases h
  · omega
theorem de_call {np : Nat} {F : List D → Option D} {ga : GA} {E : XK} (hF : ∀ ds d, F ds = some d → ds.length = np) (ha : DA K tas ga) : DE K (tCall (spP K np F) [] E tas) (eCall F ga) := fun b0 B Z0 Z H σ ρ d ρ' Q ok e q => by
  obtain ⟨os, ds, e1, e2, e3⟩ := call_ok e
  refine ha b0 B Z0 Z H σ ρ os ρ' _ ok e1 fun vs H1 Z1 ok1 s1 r1 => ?_
  have rA := valA_ok r1 e2
  refine ⟨by rw [List.append_nil, rA.length]; exact hF _ _ e3, Z1, ds, d, ok1.zh, by rw [List.append_nil]; exact rA, e3, fun v H' Z' hh g r => ?_⟩
  exact q v H' Z' (ok1.grow hh g) (s1.trans g.1) r
theorem df_call {np : Nat} {F : List D → Option (List D)} {ga : GA} {E : XK} (hF : ∀ ds d, F ds = some d → ds.length = np) (ha : DA K tas ga) : DF K (tCall (spF K np F) [] E tas) (eCall F ga) := fun b0 B Z0 Z H σ ρ d ρ' Q ok e q => by
  obtain ⟨os, ds, e1, e2, e3⟩ := call_ok e
  refine ha b0 B Z0 Z H σ ρ os ρ' _ ok e1 fun vs H1 Z1 ok1 s1 r1 => ?_
  have rA := valA_ok r1 e2
  refine ⟨by rw [List.append_nil, rA.length]; exact hF _ _ e3, Z1, ds, d, ok1.zh, by rw [List.append_nil]; exact rA, e3, fun p ws H' Z' hh g hp zp hp' r => ?_⟩
  refine q p ws H' Z' (ok1.grow hh g) (s1.trans g.1) zp (ok1.bh.free hp) (fun i es hi ho hq => ?_) hp' r
  obtain ⟨q', vs', f1, _, _, f4, _⟩ := ok1.own i es hi ho
  rw [f1] at hq
  cases hq
  rw [hp] at f4
  cases f4
/-- a call whose answer is flat; its arguments may be lists of one's own -/
def eCallO (F : List D → Option D) (ga : GA) (ρ : Rho) : R D := (ga ρ).bind fun os ρ1 => match resA os ρ1 with
  | some ds => (match F ds with
    | some d => if flatD d then .ok d ρ1 else .bad
    | none => .bad)
  | none => .bad
theorem BdA.length {Z H : Hp} : ∀ {vs : List V} {ds : List D}, BdA K Z H vs ds → vs.length = ds.length
  | _, _, .nil => rfl
  | _, _, .cons _ r => by rw [List.length_cons, List.length_cons, BdA.length r]
/-- a call of a def that may change the list in slot i -/
def eCallB (F : List D → List D → Option (D × List D)) (i : Nat) (ga : GA) (ρ : Rho) : R D := if isOw ρ[i]? then (ga ρ).bind fun os ρ1 => match ρ1[i]?, valA os with
    | some (.ow box), some ds => (match F box ds with
      | some (d, box') => .ok d (ρ1.set i (.ow box'))
      | none => .bad)
    | _, _ => .bad
  else .bad
theorem Ok.growB {Z' H' : Hp} {b : Addr} {vb' : List V} {i : Nat} {box box' : List D} (ok : Ok K b0 B Z0 Z H σ ρ) (hi : ρ[i]? = some (.ow box)) (hb : σ[i]? = some (some (.ref b))) (hh : ∀ p o, p ≠ b → H p = some o → H' p = some o) (g : Grow H Z Z' H')
    (zb : Z' b = none) (hb' : H' b = some (.lst vb')) (r : RpA K Z' vb' box') : Ok K b0 B Z0 Z' H' σ (ρ.set i (.ow box')) := by
  obtain ⟨b1, vb, f1, f2, f3, f4, f5⟩ := ok.ow i box hi
  rw [hb] at f1
  cases f1
  have hl : i < ρ.length := by
    by_cases z : i < ρ.length
    · exact z
    · rw [List.getElem?_eq_none (by simpa using z)] at hi; cases hi
  refine ⟨by rw [List.length_set]; exact ok.len, fun p o e => hh p o (ne_of_none e f3) (ok.bh p o e), g.2.1, ok.zz.trans g.1, fun p o e => ?_, fun j d e => ?_, fun j s e eo => ?_, fun a ha ds e => ?_, fun j k q s t e1 e2 o1 o2 e3 e4 => ?_, fun j a ha ds e => ?_, fun j k e => ?_⟩
  · rcases g.2.2 p o e with z | z
    · exact ok.nb p o z
    · exact .inr (ok.bh.free z)
  · rcases set_get e with ⟨_, z⟩ | ⟨n, e⟩
    · cases z
    · obtain ⟨v, e1, e2⟩ := ok.sh j d e
      exact ⟨v, e1, e2.mono g.1⟩
  · rcases set_get e with ⟨rfl, z⟩ | ⟨n, e⟩
    · subst z
      exact ⟨b, _, hb, zb, f3, hb', vb', rfl, r⟩
    · obtain ⟨q, vs, e1, e2, e3, e4, e5⟩ := ok.own j s e eo
      have nq : q ≠ b := fun z => n (ok.sepS i j b _ s hi e rfl eo hb (by rw [e1, z]))
      refine ⟨q, vs, e1, ?_, e3, hh _ _ nq e4, e5.mono g.1⟩
      cases z : Z' q with
      | none => rfl
      | some o =>
        rcases g.2.2 q o z with y | y
        · rw [e2] at y; cases y
        · rw [e4] at y; cases y
  · rcases set_get e with ⟨rfl, z⟩ | ⟨n, e⟩
    · exact ok.fix a ha box hi
    · exact ok.fix a ha ds e
  · have G : ∀ {j : Nat} {as : Sl}, (ρ.set i (.ow box'))[j]? = some as → as.isO = true → ∃ as', ρ[j]? = some as' ∧ as'.isO = true := fun {j as} e ho => by
      rcases set_get e with ⟨rfl, z⟩ | ⟨n, e⟩
      · exact ⟨.ow box, hi, rfl⟩
      · exact ⟨as, e, ho⟩
    obtain ⟨_, y1, z1⟩ := G e1 o1
    obtain ⟨_, y2, z2⟩ := G e2 o2
    exact ok.sepS j k q _ _ y1 y2 z1 z2 e3 e4
  · rcases set_get e with ⟨_, z⟩ | ⟨n, e⟩
    · cases z
    · exact ok.fixG j a ha ds e
  · rcases set_get e with ⟨_, z⟩ | ⟨n, e⟩
    · cases z
    · refine ((ok.lnk j k e).mono g.1).of rfl fun m ds e2 => ?_
      rcases set_get e2 with ⟨_, z⟩ | ⟨n2, e2⟩
      · cases z
      · exact ⟨⟨ds, e2⟩, rfl⟩
theorem de_callB {np : Nat} {F : List D → List D → Option (D × List D)} {i : Nat} {ga : GA} {E : XK} (hF0 : ∀ b ds d, F b ds = some d → ds.length + 1 = np) (ha : DA K tas ga) : DE K (tCall (spB K np F) [] E (tCons (tVar i) tas)) (eCallB F i ga) := fun b0 B Z0 Z H σ ρ d ρ' Q ok e q => by
  unfold eCallB at e
  split at e
  · rename_i h0
    obtain ⟨b, vb0, e0, hb0⟩ := ok.isOw h0
    obtain ⟨os, ρ1, e1, e⟩ := R.bind_ok e
    split at e
    · rename_i box ds hi hv
      split at e
      · rename_i d' box' hF
        cases e
        refine ⟨.ref b, e0, ?_⟩
        refine ha b0 B Z0 Z H σ ρ os ρ1 _ ok e1 fun vs H1 Z1 ok1 s1 r1 => ?_
        obtain ⟨b1, vb, f1, f2, f3, f4, f5⟩ := ok1.ow i box hi
        rw [e0] at f1
        cases f1
        have rA := valA_ok r1 hv
        refine ⟨by rw [List.append_nil, List.length_cons, rA.length]; exact hF0 _ _ _ hF, Z1, b, vb, box, vs, ds, d, box', by rw [List.append_nil], ok1.zh, f2, f4, f5, rA, hF, fun v H' Z' vb' hh g zb hb' rb r => ?_⟩
        exact q v H' Z' (ok1.growB hi e0 hh g zb hb' rb) (s1.trans g.1) r
      · cases e
    · cases e
  · cases e
end
end DL
namespace DL
open PySem L2
def sz (n : Nat) : Bool := decide (n ≤ sizeLine)
def addD : D → D → Option D
  | .int i, .int j => some (.int (i + j))
  | .str x, .str y => if x.length + y.length ≤ sizeLine then some (.str (x ++ y)) else none
  | .tuple xs, .tuple ys => if xs.length + ys.length ≤ sizeLine then some (.tuple (xs ++ ys)) else none
  | _, _ => none
def addL : D → D → Option (List D)
  | .list xs, .list ys => if xs.length + ys.length ≤ sizeLine then some (xs ++ ys) else none
  | _, _ => none
def subD : D → D → Option D
  | .int i, .int j => some (.int (i - j))
  | _, _ => none
instance (i j : Int) : Decidable (CMul i j) := inferInstanceAs (Decidable (_ ∨ _))
instance (i j : Int) : Decidable (CMulW i j) := inferInstanceAs (Decidable (_ < _))
/-- a small factor, or together less than a million bits -/
def CMulU (i j : Int) : Prop := CMul i j ∨ CMulW i j
instance (i j : Int) : Decidable (CMulU i j) := inferInstanceAs (Decidable (_ ∨ _))
theorem CMulU.ok {i j : Int} (h : CMulU i j) : _root_.PySem.IntMulOk i j := h.elim CMul.ok CMulW.ok
def mulD : D → D → Option D
  | .int i, .int j => if CMulU i j then some (.int (i * j)) else none
  | _, _ => none
def repL : D → D → Option (List D)
  | .list xs, .int k => if -(2 ^ 63) ≤ k ∧ k < 2 ^ 63 ∧ xs.length * k.toNat ≤ sizeLine then some (List.replicate k.toNat xs).flatten else none
  | _, _ => none
def fdivD : D → D → Option D
  | .int i, .int j => if 0 < j ∧ j.natAbs.log2 < 9000 then some (.int (i / j)) else none
  | _, _ => none
def modD : D → D → Option D
  | .int i, .int j => if 0 < j then some (.int (i % j)) else none
  | _, _ => none
def powD : D → D → Option D
  | .int i, .int j => if 0 ≤ j ∧ j ≤ 1000000 ∧ i.natAbs < 2 ^ 64 then some (.int (i ^ j.toNat)) else none
  | _, _ => none
def eqD (d e : D) : Option D := if SeqAt.shaped d = true ∧ SeqAt.shaped e = true then some (.bool (PyData.eqv d e)) else none
def neD (d e : D) : Option D := if SeqAt.shaped d = true ∧ SeqAt.shaped e = true then some (.bool (!PyData.eqv d e)) else none
def ltD : D → D → Option D
  | .int i, .int j => some (.bool (decide (i < j)))
  | _, _ => none
def leD : D → D → Option D
  | .int i, .int j => some (.bool (decide (i ≤ j)))
  | _, _ => none
def gtD : D → D → Option D
  | .int i, .int j => some (.bool (decide (j < i)))
  | _, _ => none
def geD : D → D → Option D
  | .int i, .int j => some (.bool (decide (j ≤ i)))
  | _, _ => none
def isNoneD : D → Bool
  | .none => true
  | _ => false
def isD : D → D → Option D
  | d, .none => some (.bool (isNoneD d))
  | _, _ => none
def isNotD : D → D → Option D
  | d, .none => some (.bool (!isNoneD d))
  | _, _ => none
def negD : D → Option D
  | .int i => some (.int (-i))
  | _ => none
section
variable {X : Cx} {K : PySem.W.Frag}
theorem opr_or {f : Value → Value → Sem Value} {r r' : R2} (h : OpR X f r) (h' : OpR X f r') : OpR X f (fun x y H Q => r x y H Q ∨ r' x y H Q) := fun pins s σ H x y v u Q I rx ry q => by
  rcases q with q | q
  · exact h pins s σ H x y v u Q I rx ry q
  · exact h' pins s σ H x y v u Q I rx ry q
theorem sn2_mono {r r' : R2} {f : D → D → Option D} (h : Sn2 K r f) (m : ∀ x y H Q, r x y H Q → r' x y H Q) : Sn2 K r' f := fun b0 B Z0 Z H σ ρ x y a b c Q ok ha hb e q => m _ _ _ _ (h b0 B Z0 Z H σ ρ x y a b c Q ok ha hb e q)
/-- a rule on two ints -/
theorem sn_i0 {g : Int → Int → V} {f : D → D → Option D} (hf : ∀ a b c, f a b = some c → ∃ i j, a = .int i ∧ b = .int j ∧ ∀ Z, Rp K Z (g i j) c) : Sn2 K (rI0 g) f := fun b0 B Z0 Z H σ ρ x y a b c Q ok ha hb e q => by
  obtain ⟨i, j, rfl, rfl, r⟩ := hf a b c e
  cases ha
  cases hb
  exact ⟨i, j, rfl, rfl, q _ H Z ok (Same.refl Z) (r Z)⟩
theorem sn_iC {C : Int → Int → Prop} {g : Int → Int → V} {f : D → D → Option D} (hf : ∀ a b c, f a b = some c → ∃ i j, a = .int i ∧ b = .int j ∧ C i j ∧ ∀ Z, Rp K Z (g i j) c) : Sn2 K (rI C g) f := fun b0 B Z0 Z H σ ρ x y a b c Q ok ha hb e q => by
  obtain ⟨i, j, rfl, rfl, hc, r⟩ := hf a b c e
  cases ha
  cases hb
  exact ⟨i, j, rfl, rfl, hc, q _ H Z ok (Same.refl Z) (r Z)⟩
theorem sn_sub : Sn2 K (rI0 fun i j => .int (i - j)) subD := sn_i0 fun a b c e => by
  unfold subD at e; split at e <;> cases e; exact ⟨_, _, rfl, rfl, fun _ => .int _⟩
theorem sn_mulI : Sn2 K (rI CMulU fun i j => .int (i * j)) mulD := sn_iC fun a b c e => by
  unfold mulD at e
  split at e
  · split at e
    · cases e; exact ⟨_, _, rfl, rfl, by assumption, fun _ => .int _⟩
    · cases e
  · cases e
theorem sn_fdiv : Sn2 K (rI CDivW fun i j => .int (i / j)) fdivD := sn_iC fun a b c e => by
  unfold fdivD at e
  split at e
  · split at e
    · cases e; exact ⟨_, _, rfl, rfl, by assumption, fun _ => .int _⟩
    · cases e
  · cases e
theorem sn_mod : Sn2 K (rI (fun _ j => 0 < j) fun i j => .int (i % j)) modD := sn_iC fun a b c e => by
  unfold modD at e
  split at e
  · split at e
    · cases e; exact ⟨_, _, rfl, rfl, by assumption, fun _ => .int _⟩
    · cases e
  · cases e
theorem sn_pow : Sn2 K (rI CPow fun i j => .int (i ^ j.toNat)) powD := sn_iC fun a b c e => by
  unfold powD at e
  split at e
  · split at e
    · cases e; exact ⟨_, _, rfl, rfl, by assumption, fun _ => .int _⟩
    · cases e
  · cases e
theorem sn_lt : Sn2 K (rI0 fun i j => .bl (decide (i < j))) ltD := sn_i0 fun a b c e => by
  unfold ltD at e; split at e <;> cases e; exact ⟨_, _, rfl, rfl, fun _ => .bl _⟩
theorem sn_le : Sn2 K (rI0 fun i j => .bl (decide (i ≤ j))) leD := sn_i0 fun a b c e => by
  unfold leD at e; split at e <;> cases e; exact ⟨_, _, rfl, rfl, fun _ => .bl _⟩
theorem sn_gt : Sn2 K (rI0 fun i j => .bl (decide (j < i))) gtD := sn_i0 fun a b c e => by
  unfold gtD at e; split at e <;> cases e; exact ⟨_, _, rfl, rfl, fun _ => .bl _⟩
theorem sn_ge : Sn2 K (rI0 fun i j => .bl (decide (j ≤ i))) geD := sn_i0 fun a b c e => by
  unfold geD at e; split at e <;> cases e; exact ⟨_, _, rfl, rfl, fun _ => .bl _⟩
def rAddI : R2 := rI0 fun i j => .int (i + j)
def rAddS : R2 := fun x y H Q => ∃ i j, x = .str i ∧ y = .str j ∧ i.length + j.length ≤ sizeLine ∧ Q (.str (i ++ j)) H
def rAddU (K : PySem.W.Frag) : R2 := fun x y H Q => rAddI x y H Q ∨ rAddS x y H Q ∨ rCatA K x y H Q ∨ rCat x y H Q
theorem op_addU : OpR X (binaryOp .Add) (rAddU X.K) := opr_or op_add (opr_or op_add_str (opr_or op_catA op_cat))
theorem sn_add : Sn2 K (rAddU K) addD := fun b0 B Z0 Z H σ ρ x y a b c Q ok ha hb e q => by
  unfold addD at e
  split at e
  · cases e; cases ha; cases hb
    exact .inl ⟨_, _, rfl, rfl, q _ H Z ok (Same.refl Z) (.int _)⟩
  · split at e
    · cases e; cases ha; cases hb
      exact .inr (.inl ⟨_, _, rfl, rfl, by assumption, q _ H Z ok (Same.refl Z) (.str _)⟩)
    · cases e
  · split at e
    · rename_i hl
      cases e
      cases ha with
      | tup h1 r1 =>
      cases hb with
      | tup h2 r2 =>
      refine .inr (.inr (.inl ⟨_, _, _, _, rfl, rfl, same_t ok.zh h1, same_t ok.zh h2, by rw [r1.length, r2.length]; exact hl, fun z => ?_, fun _ z => ?_, fun _ _ p hp => ?_⟩))
      · subst z
        cases r1
        exact q _ H Z ok (Same.refl Z) (.tup h2 r2)
      · subst z
        cases r2
        rw [List.append_nil] at q
        exact q _ H Z ok (Same.refl Z) (.tup h1 r1)
      · obtain ⟨ok2, s2⟩ := ok.new (o := .tup _) hp
        exact q _ _ _ ok2 s2 (.tup (.inl (.inl upd_same)) ((r1.append r2).mono s2))
    · cases e
  · cases e
theorem sn_addL : Sn2F K (rAddU K) addL := fun b0 B Z0 Z H σ ρ x y a b c Q ok ha hb e q => by
  unfold addL at e
  split at e
  · split at e
    · rename_i hl
      cases e
      cases ha with
      | lst h1 r1 =>
      cases hb with
      | lst h2 r2 =>
      refine .inr (.inr (.inr ⟨_, _, _, _, rfl, rfl, h1, h2, by rw [r1.length, r2.length]; exact hl, fun p hp => ?_⟩))
      obtain ⟨ok2, zp, bp, ap⟩ := ok.fresh (o := .lst _) hp
      exact q p _ _ ok2 zp bp ap upd_same (r1.append r2)
    · cases e
  · cases e
theorem op_mulC : OpR X (binaryOp .Mult) (rI CMulU fun i j => .int (i * j)) := opI fun _ _ _ _ _ _ _ hc q => PyProof.Rows.mul_int q hc.ok
def rMulU : R2 := fun x y H Q => rI CMulU (fun i j => .int (i * j)) x y H Q ∨ rRep x y H Q
theorem op_mulU : OpR X (binaryOp .Mult) rMulU := opr_or op_mulC op_rep
theorem sn_mul : Sn2 K rMulU mulD := sn2_mono sn_mulI fun _ _ _ _ h => .inl h
theorem flat_rep {vs : List V} {ds : List D} {Z : Hp} (r : RpA K Z vs ds) : ∀ n : Nat, RpA K Z (List.replicate n vs).flatten (List.replicate n ds).flatten
  | 0 => .nil
  | n + 1 => by
    rw [List.replicate_succ, List.replicate_succ, List.flatten_cons, List.flatten_cons]
    exact r.append (flat_rep r n)
theorem sn_repL : Sn2F K rMulU repL := fun b0 B Z0 Z H σ ρ x y a b c Q ok ha hb e q => by
  unfold repL at e
  split at e
  · split at e
    · rename_i hl
      cases e
      cases hb
      cases ha with
      | lst h1 r1 =>
      refine .inr ⟨_, _, _, rfl, rfl, h1, hl.1, hl.2.1, by rw [r1.length]; exact hl.2.2, fun p hp => ?_⟩
      obtain ⟨ok2, zp, bp, ap⟩ := ok.fresh (o := .lst _) hp
      exact q p _ _ ok2 zp bp ap upd_same (flat_rep r1 _)
    · cases e
  · cases e
mutual
theorem noD_of : ∀ d : D, d.canLay0 = true → noD d = true
  | .none, _ => by simp [noD]
  | .bool _, _ => by simp [noD]
  | .int _, _ => by simp [noD]
  | .str _, _ => by simp [noD]
  | .list xs, h => by
    simp only [noD]
    exact noDs_of xs (by simpa [PyData.canLay0] using h)
  | .tuple xs, h => by
    simp only [noD]
    exact noDs_of xs (by simpa [PyData.canLay0] using h)
  | .dict _, h => by simp [PyData.canLay0] at h
theorem noDs_of : ∀ xs : List D, PyData.canLayAll0 xs = true → noDs xs = true
  | [], _ => by simp [noDs]
  | x :: xs, h => by
    have h' : x.canLay0 = true ∧ PyData.canLayAll0 xs = true := by simpa [PyData.canLayAll0] using h
    simp only [noDs, noD_of x h'.1, noDs_of xs h'.2, Bool.and_self]
end
theorem shaped_noD {d : D} (h : SeqAt.shaped d = true) : noD d = true := by
  unfold SeqAt.shaped at h
  rw [Bool.and_eq_true] at h
  exact noD_of d h.1
theorem bd_rp {Z H : Hp} {v : V} {d : D} (s : Same Z H) (h : Bd K Z H v d) : Rp K H v d := by
  cases h with
  | non => exact .non
  | bl b => exact .bl b
  | int i => exact .int i
  | str x => exact .str x
  | lst h r => exact .lst h (r.mono s)
  | scr h r => exact .scr h (r.mono s)
  | tup h r => exact .tup (same_t s h) (r.mono s)
  | exc h1 h2 h3 r => exact .exc (s _ _ h1) (s _ _ h2) h3 (r.mono s)
  | dct h r => exact .dct h (r.mono s)
theorem sn_eq : Sn2 K (rEqD K) eqD := fun b0 B Z0 Z H σ ρ x y a b c Q ok ha hb e q => by
  unfold eqD at e
  split at e
  · rename_i h
    cases e
    exact ⟨a, b, (bd_rp ok.zh ha).dp (shaped_noD h.1), (bd_rp ok.zh hb).dp (shaped_noD h.2), h.1, h.2, q _ H Z ok (Same.refl Z) (.bl _)⟩
  · cases e
theorem sn_ne : Sn2 K (rNeD K) neD := fun b0 B Z0 Z H σ ρ x y a b c Q ok ha hb e q => by
  unfold neD at e
  split at e
  · rename_i h
    cases e
    exact ⟨a, b, (bd_rp ok.zh ha).dp (shaped_noD h.1), (bd_rp ok.zh hb).dp (shaped_noD h.2), h.1, h.2, q _ H Z ok (Same.refl Z) (.bl _)⟩
  · cases e
theorem non_iff {Z H : Hp} {v : V} {d : D} (h : Bd K Z H v d) : decide (v = V.non) = isNoneD d := by
  cases h <;> rfl
def rIsU : R2 := fun x y H Q => (y = .non ∧ Q (.bl (decide (x = .non))) H)
def rIsNotU : R2 := fun x y H Q => (y = .non ∧ Q (.bl (!decide (x = .non))) H)
theorem op_isU : OpR X (compareOp .Is) rIsU := op_isN
theorem op_isNotU : OpR X (compareOp .IsNot) rIsNotU := op_notN
theorem sn_is : Sn2 K rIsU isD := fun b0 B Z0 Z H σ ρ x y a b c Q ok ha hb e q => by
  unfold isD at e
  split at e
  · cases e; cases hb
    exact ⟨rfl, q _ H Z ok (Same.refl Z) (by rw [non_iff ha]; exact .bl _)⟩
  · cases e
theorem sn_isNot : Sn2 K rIsNotU isNotD := fun b0 B Z0 Z H σ ρ x y a b c Q ok ha hb e q => by
  unfold isNotD at e
  split at e
  · cases e; cases hb
    exact ⟨rfl, q _ H Z ok (Same.refl Z) (by rw [non_iff ha]; exact .bl _)⟩
  · cases e
theorem sn_neg : Sn1 K (rU fun i => .int (-i)) negD := fun b0 B Z0 Z H σ ρ x a c Q ok ha e q => by
  unfold negD at e
  split at e
  · cases e; cases ha
    exact ⟨_, rfl, q _ H Z ok (Same.refl Z) (.int _)⟩
  · cases e
def ixD : D → D → Option D
  | .list xs, .int i => atI xs i
  | .dict [(.list xs, .none)], .int i => atI xs i
  | .tuple xs, .int i => atI xs i
  | .str z, .int i => if z.length ≤ sizeLine then (atI z.cps.toList i).map fun c => .str ⟨#[c]⟩ else none
  | _, _ => none
theorem atI_rp {Z : Hp} {vs : List V} {ds : List D} {i : Int} {d : D} (r : RpA K Z vs ds) (h : atI ds i = some d) : ∃ v, atI vs i = some v ∧ Rp K Z v d := by
  unfold atI at h ⊢
  rw [r.length]
  obtain ⟨j, e1, e2⟩ := Option.bind_eq_some_iff.mp h
  obtain ⟨v, e3, rv⟩ := r.get e2
  exact ⟨v, by rw [e1]; exact e3, rv⟩
theorem sn_ix : Sn2 K (rIx K) ixD := fun b0 B Z0 Z H σ ρ x y a b c Q ok ha hb e q => by
  unfold ixD at e
  split at e
  · cases hb
    cases ha with
    | lst h r =>
    obtain ⟨v, e1, rv⟩ := atI_rp r e
    exact .inl ⟨_, _, _, v, rfl, rfl, .inl (.inl h), e1, q v H Z ok (Same.refl Z) rv⟩
  · cases hb
    cases ha with
    | scr h r =>
    obtain ⟨v, e1, rv⟩ := atI_rp r e
    exact .inl ⟨_, _, _, v, rfl, rfl, h, e1, q v H Z ok (Same.refl Z) rv⟩
  · cases hb
    cases ha with
    | tup h r =>
    obtain ⟨v, e1, rv⟩ := atI_rp r e
    exact .inr (.inl ⟨_, _, _, v, rfl, rfl, same_t ok.zh h, e1, q v H Z ok (Same.refl Z) rv⟩)
  · split at e
    · rename_i hz
      cases hb
      cases ha
      obtain ⟨c', e1, rfl⟩ := Option.map_eq_some_iff.mp e
      exact .inr (.inr ⟨_, _, c', rfl, rfl, hz, e1, q _ H Z ok (Same.refl Z) (.str _)⟩)
    · cases e
  · cases e
end
end DL
namespace DL
open PySem L2
section
variable {X : Cx} {K : PySem.W.Frag} {ta tb te tc : TE} {tas : TA}
def eChain (f f' : D → D → Option D) (a b c : GO) (ρ : Rho) : R D := (a ρ).bind fun x ρ1 => (b ρ1).bind fun y ρ2 => match x.res ρ2, y.res ρ2 with
  | some d, some e => (match f d e with
    | some (.bool true) => (c ρ2).bind fun z ρ3 => (match y.res ρ3, z.res ρ3 with
      | some e', some k => R.lift (f' e' k) ρ3
      | _, _ => .bad)
    | some (.bool false) => .ok (.bool false) ρ2
    | _ => .bad)
  | _, _ => .bad
theorem de_chain {r r' : R2} {f f' : D → D → Option D} {ga gb gc : GO} (sn : Sn2 K r f) (sn' : Sn2 K r' f') (ha : DO K ta ga) (hb : DO K tb gb) (hc : DO K tc gc) : DE K (tChain r r' ta tb tc) (eChain f f' ga gb gc) := fun b0 B Z0 Z H σ ρ d ρ' Q ok e q => by
  obtain ⟨x, ρ1, e1, e⟩ := R.bind_ok e
  obtain ⟨y, ρ2, e2, e⟩ := R.bind_ok e
  refine ha b0 B Z0 Z H σ ρ x ρ1 _ ok e1 fun v H1 Z1 ok1 s1 r1 => ?_
  refine hb b0 B Z0 Z1 H1 σ ρ1 y ρ2 _ ok1 e2 fun u H2 Z2 ok2 s2 r2 => ?_
  split at e
  · rename_i d1 d2 h1 h2
    split at e
    · rename_i hf
      refine sn b0 B Z0 Z2 H2 σ ρ2 v u d1 d2 _ _ ok2 (ok2.bd (r1.mono s2) h1) (ok2.bd r2 h2) hf fun w H3 Z3 ok3 s3 r3 => ?_
      cases r3
      refine ⟨true, rfl, ?_⟩
      obtain ⟨z, ρ3, e3, e⟩ := R.bind_ok e
      refine hc b0 B Z0 Z3 H3 σ ρ2 z ρ3 _ ok3 e3 fun w4 H4 Z4 ok4 s4 r4 => ?_
      split at e
      · rename_i e' k h3 h4
        obtain ⟨e5, rfl⟩ := R.lift_ok e
        exact sn' b0 B Z0 Z4 H4 σ ρ3 u w4 e' k d Q ok4 (ok4.bd ((r2.mono s3).mono s4) h3) (ok4.bd r4 h4) e5 fun w5 H5 Z5 ok5 s5 r5 => q w5 H5 Z5 ok5 ((((s1.trans s2).trans s3).trans s4).trans s5) r5
      · cases e
    · rename_i hf
      cases e
      refine sn b0 B Z0 Z2 H2 σ _ v u d1 d2 _ _ ok2 (ok2.bd (r1.mono s2) h1) (ok2.bd r2 h2) hf fun w H3 Z3 ok3 s3 r3 => ?_
      cases r3
      exact ⟨false, rfl, q _ H3 Z3 ok3 ((s1.trans s2).trans s3) (.bl false)⟩
    · cases e
  · cases e
abbrev GP := Rho → R (Option Int)
def DP (K : PySem.W.Frag) (t : TO) (g : GP) : Prop := ∀ b0 B Z0 Z H σ ρ o ρ' (Q : Option Int → Hp → Prop), Ok K b0 B Z0 Z H σ ρ → g ρ = .ok o ρ' → (∀ H' Z', Ok K b0 B Z0 Z' H' σ ρ' → Same Z Z' → Q o H') → t σ H Q
def pNo (ρ : Rho) : R (Option Int) := .ok none ρ
def pSo (g : GE) (ρ : Rho) : R (Option Int) := (g ρ).bind fun d ρ1 => match d with
  | .int i => .ok (some i) ρ1
  | _ => .bad
theorem dp_no : DP K tNoPart pNo := fun b0 B Z0 Z H σ ρ o ρ' Q ok e q => by
  cases e
  exact q H Z ok (Same.refl Z)
theorem dp_so {g : GE} (h : DE K te g) : DP K (tPart te) (pSo g) := fun b0 B Z0 Z H σ ρ o ρ' Q ok e q => by
  obtain ⟨d, ρ1, e1, e⟩ := R.bind_ok e
  split at e
  · cases e
    refine h b0 B Z0 Z H σ ρ _ _ _ ok e1 fun v H1 Z1 ok1 s1 r1 => ?_
    cases r1
    exact ⟨_, rfl, q H1 Z1 ok1 s1⟩
  · cases e
def cutD {α : Type} (xs : List α) (lo hi : Option Int) : List α := (xs.drop (HT.sIx xs.length 0 lo)).take (HT.sIx xs.length xs.length hi - HT.sIx xs.length 0 lo)
theorem cut_rp {Z : Hp} {vs : List V} {ds : List D} {lo hi : Option Int} (r : RpA K Z vs ds) : RpA K Z (cutV vs lo hi) (cutD ds lo hi) := by
  unfold cutV cutD
  rw [r.length]
  exact (r.drop _).take _
def SnSl (K : PySem.W.Frag) (r : V → Option Int → Option Int → Hp → VK → Prop) (f : D → Option Int → Option Int → Option D) : Prop := ∀ b0 B Z0 Z H σ ρ x a lo hi c (Q : VK), Ok K b0 B Z0 Z H σ ρ → Bd K Z H x a → f a lo hi = some c → (∀ v H' Z', Ok K b0 B Z0 Z' H' σ ρ → Same Z Z' → Rp K Z' v c → Q v H') → r x lo hi H Q
def SnSlF (K : PySem.W.Frag) (r : V → Option Int → Option Int → Hp → VK → Prop) (f : D → Option Int → Option Int → Option (List D)) : Prop := ∀ b0 B Z0 Z H σ ρ x a lo hi c (Q : VK), Ok K b0 B Z0 Z H σ ρ → Bd K Z H x a → f a lo hi = some c →
  (∀ p vs H', Ok K b0 B Z0 Z H' σ ρ → Z p = none → B p = none → Apart σ ρ p → H' p = some (.lst vs) → RpA K Z vs c → Q (.ref p) H') → r x lo hi H Q
def rSlU (K : PySem.W.Frag) : V → Option Int → Option Int → Hp → VK → Prop := fun x lo hi H Q => rSlL K x lo hi H Q ∨ rSlA K x lo hi H Q
theorem sl_U : SlR X (rSlU X.K) := fun pins s σ H x v vl vu lo hi sl Q I rx hs pl pu h => by
  rcases h with h | h
  · exact sl_list pins s σ H x v vl vu lo hi sl Q I rx hs pl pu h
  · exact sl_tupA pins s σ H x v vl vu lo hi sl Q I rx hs pl pu h
def sliceL (d : D) (lo hi : Option Int) : Option (List D) := match d with
  | .list xs => some (cutD xs lo hi)
  | .dict [(.list xs, .none)] => some (cutD xs lo hi)
  | _ => none
def sliceT (d : D) (lo hi : Option Int) : Option D := match d with
  | .tuple xs => some (.tuple (cutD xs lo hi))
  | _ => none
theorem sn_sliceL : SnSlF K (rSlU K) sliceL := fun b0 B Z0 Z H σ ρ x a lo hi c Q ok ha e q => by
  unfold sliceL at e
  split at e
  · cases e
    cases ha with
    | lst h r =>
    refine .inl ⟨_, _, rfl, .inl (.inl h), fun p hp => ?_⟩
    obtain ⟨ok2, zp, bp, ap⟩ := ok.fresh (o := .lst _) hp
    exact q p _ _ ok2 zp bp ap upd_same (cut_rp r)
  · cases e
    cases ha with
    | scr h r =>
    refine .inl ⟨_, _, rfl, h, fun p hp => ?_⟩
    obtain ⟨ok2, zp, bp, ap⟩ := ok.fresh (o := .lst _) hp
    exact q p _ _ ok2 zp bp ap upd_same (cut_rp r)
  · cases e
theorem cut_all {α : Type} (xs : List α) {lo hi : Option Int} (h1 : HT.sIx xs.length 0 lo = 0) (h2 : HT.sIx xs.length xs.length hi = xs.length) : cutD xs lo hi = xs := by
  unfold cutD
  rw [h1, h2, List.drop_zero, Nat.sub_zero, List.take_length]
theorem sn_sliceT : SnSl K (rSlU K) sliceT := fun b0 B Z0 Z H σ ρ x a lo hi c Q ok ha e q => by
  unfold sliceT at e
  split at e
  · cases e
    cases ha with
    | tup h r =>
    refine .inr ⟨_, _, rfl, same_t ok.zh h, fun z => ?_, fun _ p hp => ?_⟩
    · have := r.length
      rw [this] at z
      rw [cut_all _ z.1 z.2] at q
      exact q _ H Z ok (Same.refl Z) (.tup h r)
    · obtain ⟨ok2, s2⟩ := ok.new (o := .tup _) hp
      exact q _ _ _ ok2 s2 (.tup (.inl (.inl upd_same)) ((cut_rp r).mono s2))
  · cases e
def eSl {α : Type} (f : D → Option Int → Option Int → Option α) (g : GO) (lo hi : GP) (ρ : Rho) : R α := (g ρ).bind fun x ρ1 => (lo ρ1).bind fun l ρ2 => (hi ρ2).bind fun u ρ3 => match x.res ρ3 with
  | some d => R.lift (f d l u) ρ3
  | none => .bad
theorem sl_ok {α : Type} {f : D → Option Int → Option Int → Option α} {g : GO} {lo hi : GP} {ρ ρ' : Rho} {z : α} (e : eSl f g lo hi ρ = .ok z ρ') : ∃ x ρ1 l ρ2 u d, g ρ = .ok x ρ1 ∧ lo ρ1 = .ok l ρ2 ∧ hi ρ2 = .ok u ρ' ∧ x.res ρ' = some d ∧ f d l u = some z := by
  obtain ⟨x, ρ1, e1, e⟩ := R.bind_ok e
  obtain ⟨l, ρ2, e2, e⟩ := R.bind_ok e
  obtain ⟨u, ρ3, e3, e⟩ := R.bind_ok e
  split at e
  · rename_i d h
    obtain ⟨e5, rfl⟩ := R.lift_ok e
    exact ⟨x, ρ1, l, ρ2, u, d, e1, e2, e3, h, e5⟩
  · cases e
theorem de_sl {r : V → Option Int → Option Int → Hp → VK → Prop} {f : D → Option Int → Option Int → Option D} {g : GO} {lo hi : GP} {tl th : TO} (sn : SnSl K r f) (hg : DO K te g) (hl : DP K tl lo) (hh : DP K th hi) : DE K (tSl r te tl th) (eSl f g lo hi) := fun b0 B Z0 Z H σ ρ d ρ' Q ok e q => by
  obtain ⟨x, ρ1, l, ρ2, u, d', e1, e2, e3, e4, e5⟩ := sl_ok e
  refine hg b0 B Z0 Z H σ ρ x ρ1 _ ok e1 fun v H1 Z1 ok1 s1 r1 => ?_
  refine hl b0 B Z0 Z1 H1 σ ρ1 l ρ2 _ ok1 e2 fun H2 Z2 ok2 s2 => ?_
  refine hh b0 B Z0 Z2 H2 σ ρ2 u ρ' _ ok2 e3 fun H3 Z3 ok3 s3 => ?_
  exact sn b0 B Z0 Z3 H3 σ ρ' v d' l u d Q ok3 (ok3.bd ((r1.mono s2).mono s3) e4) e5 fun w H4 Z4 ok4 s4 r4 => q w H4 Z4 ok4 (((s1.trans s2).trans s3).trans s4) r4
def lenD : List D → Option D
  | [.list xs] => some (.int xs.length)
  | [.dict [(.list xs, .none)]] => some (.int xs.length)
  | [.tuple xs] => some (.int xs.length)
  | [.str z] => if z.length ≤ sizeLine then some (.int z.length) else none
  | _ => none
def rLen (K : PySem.W.Frag) : List V → Hp → VK → Prop := fun xs H Q => ∃ x n, xs = [x] ∧ LenV K x H n ∧ Q (.int n) H
theorem call_lenU : CallR X (.builtin "len") (rLen X.K) := call_len
theorem sn_len : SnA K (rLen K) lenD := fun b0 B Z0 Z H σ ρ xs as c Q ok ha e q => by
  unfold lenD at e
  split at e
  · cases e
    cases ha with
    | cons h h' =>
    cases h'
    cases h with
    | lst h r => exact ⟨_, _, rfl, .inl ⟨_, .inl (.inl h), rfl⟩, by rw [r.length]; exact q _ H Z ok (Same.refl Z) (.int _)⟩
  · cases e
    cases ha with
    | cons h h' =>
    cases h'
    cases h with
    | scr h r => exact ⟨_, _, rfl, .inl ⟨_, h, rfl⟩, by rw [r.length]; exact q _ H Z ok (Same.refl Z) (.int _)⟩
  · cases e
    cases ha with
    | cons h h' =>
    cases h'
    cases h with
    | tup h r => exact ⟨_, _, rfl, .inr ⟨_, same_t ok.zh h, rfl⟩, by rw [r.length]; exact q _ H Z ok (Same.refl Z) (.int _)⟩
  · split at e
    · rename_i hz
      cases e
      cases ha with
      | cons h h' =>
      cases h'
      cases h
      exact ⟨_, _, rfl, ⟨hz, rfl⟩, q _ H Z ok (Same.refl Z) (.int _)⟩
    · cases e
  · cases e
def absD : List D → Option D
  | [.int i] => some (.int (if i < 0 then -i else i))
  | _ => none
def rAbs : List V → Hp → VK → Prop := fun xs H Q => ∃ i, xs = [.int i] ∧ Q (.int (if i < 0 then -i else i)) H
theorem call_absU : CallR X (.builtin "abs") rAbs := call_abs
theorem sn_abs : SnA K rAbs absD := fun b0 B Z0 Z H σ ρ xs as c Q ok ha e q => by
  unfold absD at e
  split at e
  · cases e
    cases ha with
    | cons h h' =>
    cases h'; cases h
    exact ⟨_, rfl, q _ H Z ok (Same.refl Z) (.int _)⟩
  · cases e
def intD : List D → Option D
  | [.int i] => some (.int i)
  | [.bool k] => some (.int (if k then 1 else 0))
  | _ => none
def rInt1 : List V → Hp → VK → Prop := fun xs H Q => (∃ i, xs = [.int i] ∧ Q (.int i) H) ∨ ∃ k, xs = [.bl k] ∧ Q (.int (if k then 1 else 0)) H
theorem call_intU : CallR X (.type "int") rInt1 := call_int1
theorem sn_int : SnA K rInt1 intD := fun b0 B Z0 Z H σ ρ xs as c Q ok ha e q => by
  unfold intD at e
  split at e
  · cases e
    cases ha with
    | cons h h' =>
    cases h'; cases h
    exact .inl ⟨_, rfl, q _ H Z ok (Same.refl Z) (.int _)⟩
  · cases e
    cases ha with
    | cons h h' =>
    cases h'; cases h
    exact .inr ⟨_, rfl, q _ H Z ok (Same.refl Z) (.int _)⟩
  · cases e
def intsOf : List D → Option (List Int)
  | [] => some []
  | .int i :: ds => (intsOf ds).map (i :: ·)
  | _ :: _ => none
theorem intsOf_eq : ∀ {ds : List D} {ns : List Int}, intsOf ds = some ns → ds = ns.map PyData.int
  | [], ns, h => by cases h; rfl
  | .int i :: ds, ns, h => by
    unfold intsOf at h
    obtain ⟨ms, e, rfl⟩ := Option.map_eq_some_iff.mp h
    rw [intsOf_eq e]; rfl
def boolsOf : List D → Option (List Bool)
  | [] => some []
  | .bool i :: ds => (boolsOf ds).map (i :: ·)
  | _ :: _ => none
theorem boolsOf_eq : ∀ {ds : List D} {ns : List Bool}, boolsOf ds = some ns → ds = ns.map PyData.bool
  | [], ns, h => by cases h; rfl
  | .bool i :: ds, ns, h => by
    unfold boolsOf at h
    obtain ⟨ms, e, rfl⟩ := Option.map_eq_some_iff.mp h
    rw [boolsOf_eq e]; rfl
theorem boolsOf_map : ∀ (ns : List Bool), boolsOf (ns.map PyData.bool) = some ns
  | [] => rfl
  | n :: r => by
    show (boolsOf (r.map PyData.bool)).map (n :: ·) = _
    rw [boolsOf_map r]; rfl
def allD : List D → Option D
  | [.list ds] => (boolsOf ds).map fun bs => .bool (bs.all id)
  | _ => none
def sumD : List D → Option D
  | [.list ds] => (intsOf ds).map fun ns => .int ns.sum
  | _ => none
theorem sn_all : SnA K (rAll K) allD := fun b0 B Z0 Z H σ ρ xs as c Q ok ha e q => by
  unfold allD at e
  split at e
  · obtain ⟨bs, e1, rfl⟩ := Option.map_eq_some_iff.mp e
    cases boolsOf_eq e1
    cases ha with
    | cons h h' =>
    cases h'
    cases h with
    | lst h r =>
    cases r.of_bools
    exact ⟨_, bs, rfl, .inl (.inl h), q _ H Z ok (Same.refl Z) (.bl _)⟩
  · cases e
theorem sn_sum : SnA K (rSum K) sumD := fun b0 B Z0 Z H σ ρ xs as c Q ok ha e q => by
  unfold sumD at e
  split at e
  · obtain ⟨bs, e1, rfl⟩ := Option.map_eq_some_iff.mp e
    cases intsOf_eq e1
    cases ha with
    | cons h h' =>
    cases h'
    cases h with
    | lst h r =>
    cases r.of_ints
    exact ⟨_, bs, rfl, .inl (.inl h), q _ H Z ok (Same.refl Z) (.int _)⟩
  · cases e
def listD : List D → Option (List D)
  | [.list xs] => some xs
  | [.tuple xs] => some xs
  | [.dict [(.list xs, .none)]] => some xs
  | _ => none
def rList (K : PySem.W.Frag) : List V → Hp → VK → Prop := fun xs H Q => ∃ p ys, xs = [.ref p] ∧ (SqL K H p ys ∨ SqT K H p ys) ∧ ∀ l, H l = none → Q (.ref l) (upd H l (.lst ys))
theorem call_listU : CallR X (.type "list") (rList X.K) := call_list_of
theorem sn_list : SnAF K (rList K) listD := fun b0 B Z0 Z H σ ρ xs as c Q ok ha e q => by
  have fin : ∀ {a : Addr} {vs : List V} (p : Addr), (SqL K H a vs ∨ SqT K H a vs) → RpA K Z vs c → rList K [.ref a] H Q := fun {a vs} _ h r => by
    refine ⟨_, _, rfl, h, fun p hp => ?_⟩
    obtain ⟨ok2, zp, bp, ap⟩ := ok.fresh (o := .lst _) hp
    exact q p _ _ ok2 zp bp ap upd_same r
  unfold listD at e
  split at e
  · cases e
    cases ha with
    | cons h h' =>
    cases h'
    cases h with
    | lst h r => exact fin 0 (.inl (.inl (.inl h))) r
  · cases e
    cases ha with
    | cons h h' =>
    cases h'
    cases h with
    | tup h r => exact fin 0 (.inr (same_t ok.zh h)) r
  · cases e
    cases ha with
    | cons h h' =>
    cases h'
    cases h with
    | scr h r => exact fin 0 (.inl h) r
  · cases e
def tupleD : List D → Option D
  | [.list xs] => some (.tuple xs)
  | [.tuple xs] => some (.tuple xs)
  | [.dict [(.list xs, .none)]] => some (.tuple xs)
  | _ => none
def rTuple (K : PySem.W.Frag) : List V → Hp → VK → Prop := fun xs H Q => ∃ p ys, xs = [.ref p] ∧ ((SqL K H p ys ∧ ∀ l, H l = none → Q (.ref l) (upd H l (.tup ys))) ∨ (SqT K H p ys ∧ Q (.ref p) H))
theorem call_tupleU : CallR X (.type "tuple") (rTuple X.K) := call_tuple_of
theorem sn_tuple : SnA K (rTuple K) tupleD := fun b0 B Z0 Z H σ ρ xs as c Q ok ha e q => by
  have fin : ∀ {a : Addr} {vs : List V} {ds : List D} (p : Addr), c = .tuple ds → SqL K H a vs → RpA K Z vs ds → rTuple K [.ref a] H Q := fun {a vs ds} _ ec h r => by
    refine ⟨_, _, rfl, .inl ⟨h, fun p hp => ?_⟩⟩
    obtain ⟨ok2, s2⟩ := ok.new (o := .tup _) hp
    subst ec
    exact q _ _ _ ok2 s2 (.tup (.inl (.inl upd_same)) (r.mono s2))
  unfold tupleD at e
  split at e
  · cases e
    cases ha with
    | cons h h' =>
    cases h'
    cases h with
    | lst h r => exact fin 0 rfl (.inl (.inl h)) r
  · cases e
    cases ha with
    | cons h h' =>
    cases h'
    cases h with
    | tup h r => exact ⟨_, _, rfl, .inr ⟨same_t ok.zh h, q _ H Z ok (Same.refl Z) (.tup h r)⟩⟩
  · cases e
    cases ha with
    | cons h h' =>
    cases h'
    cases h with
    | scr h r => exact fin 0 rfl h r
  · cases e
end
end DL
namespace DL
open PySem L2
section
variable {X : Cx} {K : PySem.W.Frag} {ta tb te tc : TE} {tas : TA} {tg : Expr}
theorem pi_or {e : Expr} {w1 w2 : TI} (h1 : PI X tg e w1) (h2 : PI X tg e w2) : PI X tg e (fun σ H R => w1 σ H R ∨ w2 σ H R) := ⟨fun pins s σ H R I h => by
  rcases h with h | h
  · exact h1.run pins s σ H R I h
  · exact h2.run pins s σ H R I h⟩
def iSeqU (K : PySem.W.Frag) (te : TE) : TI := fun σ H R => iList K te σ H R ∨ iTup K te σ H R
theorem pi_seqU {e : Expr} (he : PE X e te) : PI X tg e (iSeqU X.K te) := pi_or (pi_list he) (pi_tup he)
def itemsD : D → Option (List D)
  | .list xs => some xs
  | .tuple xs => some xs
  | .dict [(.list xs, .none)] => some xs
  | _ => none
def gSeq (g : GE) (ρ : Rho) : R (List D) := (g ρ).bind fun d ρ1 => R.lift (itemsD d) ρ1
theorem wk_list {Z : Hp} {a : Addr} {xs : List V} {ds : List D} (h : SqL K Z a xs) (r : RpA K Z xs ds) : Wk K (Itl K a) Z ds where
  goes := fun i H hi s => ⟨xs, xs[i]'(by rw [r.length]; exact hi), same_l s h, List.getElem?_eq_getElem _⟩
  stops := fun H s => ⟨xs, same_l s h, by rw [r.length]; exact Nat.le_refl _⟩
  yields := fun i H x H' hi y b0 B Z0 Z' σ ρ ok s => by
    obtain ⟨rfl, y⟩ := y
    obtain ⟨d, e1, r1⟩ := r.getV (y xs (same_l (s.trans ok.zh) h))
    exact ⟨Z', d, ok, Same.refl Z', e1, r1.mono s⟩
theorem wk_tup {Z : Hp} {a : Addr} {xs : List V} {ds : List D} (h : SqT K Z a xs) (r : RpA K Z xs ds) : Wk K (Itt K a) Z ds where
  goes := fun i H hi s => ⟨xs, xs[i]'(by rw [r.length]; exact hi), same_t s h, List.getElem?_eq_getElem _⟩
  stops := fun H s => ⟨xs, same_t s h, by rw [r.length]; exact Nat.le_refl _⟩
  yields := fun i H x H' hi y b0 B Z0 Z' σ ρ ok s => by
    obtain ⟨rfl, y⟩ := y
    obtain ⟨d, e1, r1⟩ := r.getV (y xs (same_t (s.trans ok.zh) h))
    exact ⟨Z', d, ok, Same.refl Z', e1, r1.mono s⟩
theorem di_seq {g : GE} (h : DE K te g) : DI K (iSeqU K te) (gSeq g) := fun b0 B Z0 Z H σ ρ ds ρ' W ok e q => by
  obtain ⟨d, ρ1, e1, e⟩ := R.bind_ok e
  obtain ⟨e2, rfl⟩ := R.lift_ok e
  unfold itemsD at e2
  split at e2
  · cases e2
    refine .inl (h b0 B Z0 Z H σ ρ _ _ _ ok e1 fun v H1 Z1 ok1 s1 r1 => ?_)
    cases r1 with
    | lst hs ra => exact ⟨_, rfl, ⟨_, .inl (.inl (ok1.zh _ _ hs))⟩, q _ H1 Z1 ok1 s1 (wk_list (.inl (.inl hs)) ra)⟩
  · cases e2
    refine .inr (h b0 B Z0 Z H σ ρ _ _ _ ok e1 fun v H1 Z1 ok1 s1 r1 => ?_)
    cases r1 with
    | tup hs ra => exact ⟨_, rfl, ⟨_, same_t ok1.zh hs⟩, q _ H1 Z1 ok1 s1 (wk_tup hs ra)⟩
  · cases e2
    refine .inl (h b0 B Z0 Z H σ ρ _ _ _ ok e1 fun v H1 Z1 ok1 s1 r1 => ?_)
    cases r1 with
    | scr hs ra => exact ⟨_, rfl, ⟨_, same_l ok1.zh hs⟩, q _ H1 Z1 ok1 s1 (wk_list hs ra)⟩
  · cases e2
def rangeD (lo : Int) (n : Nat) : List D := (List.range n).map fun (i : Nat) => PyData.int (lo + (i : Int))
theorem rangeD_len (lo : Int) (n : Nat) : (rangeD lo n).length = n := by unfold rangeD; rw [List.length_map, List.length_range]
theorem rangeD_get {lo : Int} {n i : Nat} (h : i < n) : (rangeD lo n)[i]? = some (.int (lo + (i : Int))) := by
  unfold rangeD
  rw [List.getElem?_map, List.getElem?_range h]; rfl
theorem wk_rng {Z : Hp} {lo : Int} {n : Nat} : Wk K (Itr lo n) Z (rangeD lo n) where
  goes := fun i H hi s => by rw [rangeD_len] at hi; exact hi
  stops := fun H s => by rw [rangeD_len]; exact Nat.le_refl _
  yields := fun i H x H' hi y b0 B Z0 Z' σ ρ ok s => by
    obtain ⟨rfl, rfl⟩ := y
    rw [rangeD_len] at hi
    exact ⟨Z', _, ok, Same.refl Z', rangeD_get hi, .int _⟩
def rng1 : List D → Option (List D)
  | [.int j] => if -(2 ^ 62) ≤ j ∧ j < 2 ^ 62 then some (rangeD 0 j.toNat) else none
  | _ => none
def rng2 : List D → Option (List D)
  | [.int i, .int j] => if -(2 ^ 62) ≤ i ∧ i < 2 ^ 62 ∧ -(2 ^ 62) ≤ j ∧ j < 2 ^ 62 then some (rangeD i (j - i).toNat) else none
  | _ => none
theorem di_rng1 {ga : GA} (h : DA K tas ga) : DI K (iRng1 tas) (eCall rng1 ga) := fun b0 B Z0 Z H σ ρ ds ρ' W ok e q => by
  obtain ⟨os, as, e1, e2, e3⟩ := call_ok e
  refine h b0 B Z0 Z H σ ρ os ρ' _ ok e1 fun vs H1 Z1 ok1 s1 r1 => ?_
  have ra := valA_ok r1 e2
  unfold rng1 at e3
  split at e3
  · split at e3
    · rename_i hb
      cases e3
      cases ra with
      | cons r ra =>
      cases r; cases ra
      exact ⟨_, rfl, hb.1, hb.2, q _ H1 Z1 ok1 s1 wk_rng⟩
    · cases e3
  · cases e3
theorem di_rng2 {ga : GA} (h : DA K tas ga) : DI K (iRng2 tas) (eCall rng2 ga) := fun b0 B Z0 Z H σ ρ ds ρ' W ok e q => by
  obtain ⟨os, as, e1, e2, e3⟩ := call_ok e
  refine h b0 B Z0 Z H σ ρ os ρ' _ ok e1 fun vs H1 Z1 ok1 s1 r1 => ?_
  have ra := valA_ok r1 e2
  unfold rng2 at e3
  split at e3
  · split at e3
    · rename_i hb
      cases e3
      cases ra with
      | cons r ra =>
      cases ra with
      | cons r' ra =>
      cases r; cases r'; cases ra
      exact ⟨_, _, rfl, hb, q _ H1 Z1 ok1 s1 wk_rng⟩
    · cases e3
  · cases e3
/-- what may be walked: a list, a tuple -/
inductive Sk where
  | L
  | T
def Sk.sq (K : PySem.W.Frag) (H : Hp) (a : Addr) (xs : List V) : Sk → Prop
  | .L => SqL K H a xs
  | .T => SqT K H a xs
def Sk.src (h : Heap) (a : Addr) (its : Array Value) : Sk → Prop
  | .L => h.IsList a its
  | .T => h.IsTuple a its
def Sk.itr (h : Heap) (it a : Addr) (i : Nat) : Sk → Prop
  | .L => h.IsListIter it a i
  | .T => h.IsTupleIter it a i
def Sk.obj (a : Addr) : Sk → Obj
  | .L => { cls := .type "list_iterator", data := .fields #[.ref a, .int 0 0] }
  | .T => { cls := .type "tuple_iterator", data := .fields #[.ref a, .int 0 0] }
theorem Sk.draws {prog : Program} {w : World} {A : Around} (k : Sk) (hh : A.handled = none) (it a : Addr) (hne : a ≠ it) (its : Array Value) : Draws prog w A it [it, a] its.size (fun i v => its[i]? = some v) (fun i h => k.itr h it a i ∧ k.src h a its) := by
  cases k with
  | L => exact Draws.list hh it a hne its
  | T => exact Draws.tuple hh it a hne its
theorem Sk.begins (k : Sk) (a : Addr) (its : Array Value) : Begins (.ref a) (k.obj a) (fun h => k.src h a its) := by
  cases k with
  | L => exact begins_list a its
  | T => exact begins_tuple a its
theorem Sk.first (k : Sk) {h : Heap} {it a : Addr} (e : h.get? it = some (k.obj a)) : k.itr h it a 0 := by
  cases k with
  | L => exact ⟨_, e, rfl, rfl⟩
  | T => exact ⟨_, e, rfl, rfl⟩
theorem Sk.there (k : Sk) {pins : List (Addr × Obj)} {σ : L2.St} {H : Hp} {s : Shared} {a : Addr} {xs : List V} (I : L2.Inv X pins σ H s) (h : k.sq X.K H a xs) : ∃ its, Vals xs its ∧ k.src s.heap a its.toArray := by
  cases k with
  | L =>
    obtain ⟨its, r, p, _⟩ := I.list h
    exact ⟨its, r, p.isList⟩
  | T =>
    obtain ⟨its, r, p, _⟩ := I.tuple h
    exact ⟨its, r, p⟩
theorem Sk.lt (k : Sk) {h : Heap} {a : Addr} {its : Array Value} (e : k.src h a its) : a < h.objs.size := by
  cases k with
  | L => obtain ⟨o, q, _⟩ := e; exact Heap.lt_size q
  | T => obtain ⟨o, q, _⟩ := e; exact Heap.lt_size q
theorem Sk.obj_of (k : Sk) {h : Heap} {it a : Addr} {i : Nat} (e : k.itr h it a i) : ∃ o, h.get? it = some o ∧ ∀ v, o.data ≠ .cell v := by
  cases k with
  | L => obtain ⟨o, q, _, d⟩ := e; exact ⟨o, q, fun v z => by rw [d] at z; cases z⟩
  | T => obtain ⟨o, q, _, d⟩ := e; exact ⟨o, q, fun v z => by rw [d] at z; cases z⟩
theorem Sk.keep (k : Sk) {h h' : Heap} {it a : Addr} {i : Nat} (e : k.itr h it a i) (kp : ∀ o, h.get? it = some o → h'.get? it = some o) : k.itr h' it a i := by
  cases k with
  | L => obtain ⟨o, q, r⟩ := e; exact ⟨o, kp o q, r⟩
  | T => obtain ⟨o, q, r⟩ := e; exact ⟨o, kp o q, r⟩
theorem Sk.mono (k : Sk) {Z H : Hp} {a : Addr} {xs : List V} (s : Same Z H) (h : k.sq K Z a xs) : k.sq K H a xs := by
  cases k with
  | L => exact same_l s h
  | T => exact same_t s h
/-- pairs, n of them, while S holds -/
def ItP (S : Hp → Prop) (n : Nat) (f g : Nat → Option V) : It :=
  ⟨fun i H => S H ∧ i < n, fun i H v H' => ∃ T x y, v = .ref T ∧ H T = none ∧ H' = upd H T (.tup [x, y]) ∧ f i = some x ∧ g i = some y, fun i H => S H ∧ i = n⟩
/-- a new pair goes into the heap, the iterators' own objects turn -/
theorem pair_inv {pins : List (Addr × Obj)} {σ : L2.St} {H : Hp} {s : Shared} {h' : Heap} {tk : Nat} {T : Addr} {x y : V} {u v : Value} {wr fp : List Addr} (I : L2.Inv X pins σ H s) (hf : ∀ b ∈ fp, FpOk X pins H b) (sub : ∀ b ∈ wr, b ∈ fp)
    (kp : ∀ b o, b ∉ wr → s.heap.get? b = some o → h'.get? b = some o) (hT : s.heap.objs.size ≤ T) (tup : h'.IsTuple T #[u, v]) (rx : RelV x u) (ry : RelV y v) (live : ∀ b ∈ fp, ∃ o, s.heap.get? b = some o) :
    L2.Inv X pins σ (upd H T (.tup [x, y])) { s with heap := h', toks := tk } ∧ H T = none ∧ ∀ b ∈ fp, upd H T (.tup [x, y]) b = none := by
  refine ⟨I.turnedNew (t' := tk) (ch := wr) kp (fun b hb => hf b (sub b hb)) hT ⟨by show 2 ≤ sizeLine; decide, [u, v], .cons rx (.cons ry .nil), tup⟩, I.hok.fresh hT, fun b hb => ?_⟩
  obtain ⟨o, e⟩ := live b hb
  rw [upd_ne (Nat.ne_of_lt (Nat.lt_of_lt_of_le (Heap.lt_size e) hT))]
  exact (hf b hb).1
def zipTn (k1 k2 : Sk) (a b N : Addr) : Nat → Heap → Prop := fun i h => IsZip h (N + 4) (N + 2) (N + 3) .none ∧ IsTupOf2 h (N + 2) (.ref N) (.ref (N + 1)) ∧ (∃ a1 a2, IsTupOf2 h (N + 3) a1 a2) ∧ k1.itr h N a i ∧ k2.itr h (N + 1) b i
def fp5 (N : Addr) : List Addr := [N + 4, N + 2, N + 3, N, N + 1]
theorem zip_live {k1 k2 : Sk} {a b N : Addr} {i : Nat} {h : Heap} (st : zipTn k1 k2 a b N i h) : ∀ c ∈ fp5 N, ∃ o, h.get? c = some o ∧ ∀ v, o.data ≠ .cell v := fun c hc => by
  obtain ⟨h1, h2, ⟨a1, a2, h3⟩, h4, h5⟩ := st
  have e : c = N + 4 ∨ c = N + 2 ∨ c = N + 3 ∨ c = N ∨ c = N + 1 := by simpa [fp5] using hc
  rcases e with e | e | e | e | e
  · rw [e]; exact ⟨_, h1, fun v z => nomatch z⟩
  · rw [e]; exact ⟨_, h2, fun v z => nomatch z⟩
  · rw [e]; exact ⟨_, h3, fun v z => nomatch z⟩
  · rw [e]; exact k1.obj_of h4
  · rw [e]; exact k2.obj_of h5
theorem turn_zipU {P : Program} {w : World} {elts : List Expr} {kk : Nat} {tpos : Pos} (k1 k2 : Sk) {a b N : Addr} (ha : a < N) (hb : b < N) (xs ys : List V) :
    Turn P w K (.Tuple elts kk tpos) (ItP (fun H => k1.sq K H a xs ∧ k2.sq K H b ys) (min xs.length ys.length) (fun i => xs[i]?) (fun i => ys[i]?)) (fp5 N) (N + 4) (zipTn k1 k2 a b N) where
  mem := by simp [fp5]
  obj := fun i h st => zip_live st
  keep := fun i h h' st kp => by
    obtain ⟨h1, h2, ⟨a1, a2, h3⟩, h4, h5⟩ := st
    exact ⟨kp _ (by simp [fp5]) _ h1, kp _ (by simp [fp5]) _ h2, ⟨a1, a2, kp _ (by simp [fp5]) _ h3⟩, k1.keep h4 fun o q => kp _ (by simp [fp5]) o q, k2.keep h5 fun o q => kp _ (by simp [fp5]) o q⟩
  item := by
    intro X hP hw hK hc i pins s σ H E I hf st hg
    subst hP hw hK
    obtain ⟨⟨q1, q2⟩, hi⟩ := hg
    obtain ⟨i1, r1, s1⟩ := k1.there I q1
    obtain ⟨i2, r2, s2⟩ := k2.there I q2
    have W := GoesN.zip2 (prog := X.prog) (w := X.w) (A := X.A) (elts := elts) (x1 := kk) (pos := tpos) (zip_sep2 (N := N) (fp1 := [a]) (fp2 := [b]) (by simpa using ha) (by simpa using hb))
      (k1.draws (A := X.A.in1) (I.ok.hd hc) N a (Nat.ne_of_lt ha) i1.toArray) (k2.draws (A := X.A.in1) (I.ok.hd hc) (N + 1) b (Nat.ne_of_lt (Nat.lt_succ_of_lt hb)) i2.toArray)
    have st0 := st
    obtain ⟨h1, h2, h3, h4, h5⟩ := st
    refine W.goes i s _ E (by rw [List.size_toArray, List.size_toArray, ← r1.length, ← r2.length]; exact hi) ⟨h1, h2, h3, ⟨h4, s1⟩, h5, s2⟩ fun v h' tk hY st' kp htk => ?_
    obtain ⟨T, x, y, rfl, hT, ex, ey, tup⟩ := hY
    have gx : xs[i]? = some (xs[i]'(by omega)) := List.getElem?_eq_getElem _
    have gy : ys[i]? = some (ys[i]'(by omega)) := List.getElem?_eq_getElem _
    obtain ⟨u, eu, ru⟩ := r1.get gx
    obtain ⟨v, ev, rv⟩ := r2.get gy
    have e1 : u = x := Option.some.inj (eu.symm.trans (by simpa using ex))
    have e2 : v = y := Option.some.inj (ev.symm.trans (by simpa using ey))
    subst e1 e2
    obtain ⟨I2, hn, fr⟩ := pair_inv (tk := tk) I hf (by simp [fp5]) kp hT tup ru rv fun b hb => let ⟨o, e, _⟩ := zip_live st0 b hb; ⟨o, e⟩
    obtain ⟨g1, g2, g3, ⟨g4, _⟩, g5, _⟩ := st'
    exact ⟨.ref T, _, I2, rfl, ⟨T, _, _, rfl, hn, rfl, gx, gy⟩, ⟨g1, g2, g3, g4, g5⟩, fr⟩
  done := by
    intro X hP hw hK hc i pins s σ H E I hf st hg
    subst hP hw hK
    obtain ⟨⟨q1, q2⟩, hi⟩ := hg
    obtain ⟨i1, r1, s1⟩ := k1.there I q1
    obtain ⟨i2, r2, s2⟩ := k2.there I q2
    have W := GoesN.zip2 (prog := X.prog) (w := X.w) (A := X.A) (elts := elts) (x1 := kk) (pos := tpos) (zip_sep2 (N := N) (fp1 := [a]) (fp2 := [b]) (by simpa using ha) (by simpa using hb))
      (k1.draws (A := X.A.in1) (I.ok.hd hc) N a (Nat.ne_of_lt ha) i1.toArray) (k2.draws (A := X.A.in1) (I.ok.hd hc) (N + 1) b (Nat.ne_of_lt (Nat.lt_succ_of_lt hb)) i2.toArray)
    obtain ⟨h1, h2, h3, h4, h5⟩ := st
    have hn : min i1.toArray.size i2.toArray.size = i := by rw [List.size_toArray, List.size_toArray, ← r1.length, ← r2.length]; exact hi.symm
    rw [hn] at W
    refine W.stops s _ E ⟨h1, h2, h3, ⟨h4, s1⟩, h5, s2⟩ fun h' tk kp htk => ?_
    exact I.turnedL (t' := tk) (ch := [N + 4, N + 3, N, N + 1]) kp fun b hb => hf b (by
      have : b = N + 4 ∨ b = N + 3 ∨ b = N ∨ b = N + 1 := by simpa using hb
      rcases this with e | e | e | e <;> simp [fp5, e])
  self := fun A i s Q E st h => wpAny_pyIter_zip st.1 h
def iZipU (K : PySem.W.Frag) (ta : TA) : TI := fun σ H R => ta σ H fun vs H1 => ∃ a b k1 k2 xs ys, vs = [.ref a, .ref b] ∧ Sk.sq K H1 a xs k1 ∧ Sk.sq K H1 b ys k2 ∧ R (ItP (fun H => k1.sq K H a xs ∧ k2.sq K H b ys) (min xs.length ys.length) (fun i => xs[i]?) (fun i => ys[i]?)) H1
theorem pi_zipU {e e2 : Expr} {ta : TA} {p pos tpos : Pos} {elts : List Expr} {kk : Nat} (hg : Gl X "zip") (hm : X.mg "zip" = none) (ha : PA X [e, e2] ta)
    (h1 : starEach [e, e2] X.env = (false, eval e X.env) :: starEach [e2] X.env := by rfl) (h2 : (backTo pos (starEach [e2] X.env)).any (·.1) = false := by rfl) :
    PI X (.Tuple elts kk tpos) (.Call (.Name "zip" p) [e, e2] [] pos) (iZipU X.K ta) := by
  refine ⟨fun pins s σ H R I h => PyProof.Rows.Call_ (ld_blt I hg hm PyProof.Rows.boot_zip (PyProof.Rows.callWith_type1 (thn (ha.run pos pins s σ H _ I h) fun us s1 ⟨vs, H1, I1, r1, q1⟩ => ?_) h1 h2))⟩
  obtain ⟨a, b, k1, k2, xs, ys, rfl, q1, q2, q⟩ := q1
  cases r1 with
  | cons r rr =>
  cases rr with
  | cons r' rr =>
  cases rr; cases r; cases r'
  obtain ⟨i1, r1, s1'⟩ := k1.there I1 q1
  obtain ⟨i2, r2, s2'⟩ := k2.there I1 q2
  refine zip_begins2 (k1.begins a i1.toArray) (k2.begins b i2.toArray) s1' s2' fun h' hz hTI hTO g1 g2 hsz hk => wpAny_pyIter_zip hz ?_
  refine ⟨s1.heap.objs.size + 4, fp5 s1.heap.objs.size, _, _, H1, rfl, I1.kept (t' := s1.toks) hk, turn_zipU k1 k2 (k1.lt s1') (k2.lt s2') xs ys, ⟨hz, hTI, ⟨_, _, hTO⟩, k1.first g1, k2.first g2⟩, fun c hc => ?_, q⟩
  have hle : s1.heap.objs.size ≤ c := by
    have : c = s1.heap.objs.size + 4 ∨ c = s1.heap.objs.size + 2 ∨ c = s1.heap.objs.size + 3 ∨ c = s1.heap.objs.size ∨ c = s1.heap.objs.size + 1 := by simpa [fp5] using hc
    rcases this with z | z | z | z | z <;> rw [z] <;> first | exact Nat.le_add_right _ _ | exact Nat.le_refl _
  exact I1.fpOk hle (I1.hok.fresh hle)
theorem wk_pair {Z : Hp} {S : Hp → Prop} {n : Nat} {f g : Nat → Option V} {ds : List D} (hS : ∀ H, Same Z H → S H) (hn : ds.length = n) (hd : ∀ i x y, i < n → f i = some x → g i = some y → ∃ a b, ds[i]? = some (.tuple [a, b]) ∧ Rp K Z x a ∧ Rp K Z y b) : Wk K (ItP S n f g) Z ds where
  goes := fun i H hi s => ⟨hS H s, by rw [← hn]; exact hi⟩
  stops := fun H s => ⟨hS H s, hn⟩
  yields := fun i H x H' hi y b0 B Z0 Z' σ ρ ok s => by
    obtain ⟨T, x, y, rfl, hT, rfl, e1, e2⟩ := y
    obtain ⟨a, b, ed, ra, rb⟩ := hd i x y (by omega) e1 e2
    obtain ⟨ok2, s2⟩ := ok.new (o := .tup [x, y]) hT
    exact ⟨_, _, ok2, s2, ed, .tup (.inl (.inl upd_same)) (.cons ((ra.mono s).mono s2) (.cons ((rb.mono s).mono s2) .nil))⟩
def skOf : D → Option (Sk × List D)
  | .list xs => some (.L, xs)
  | .tuple xs => some (.T, xs)
  | .dict [(.list xs, .none)] => some (.L, xs)
  | _ => none
theorem sk_rp {Z : Hp} {v : V} {d : D} {k : Sk} {ds : List D} (h : skOf d = some (k, ds)) (r : Rp K Z v d) : ∃ a xs, v = .ref a ∧ k.sq K Z a xs ∧ RpA K Z xs ds := by
  unfold skOf at h
  split at h
  · cases h
    cases r with
    | lst hs ra => exact ⟨_, _, rfl, .inl (.inl hs), ra⟩
  · cases h
    cases r with
    | tup hs ra => exact ⟨_, _, rfl, hs, ra⟩
  · cases h
    cases r with
    | scr hs ra => exact ⟨_, _, rfl, hs, ra⟩
  · cases h
def zipD (as bs : List D) : List D := List.zipWith (fun a b => .tuple [a, b]) as bs
def zip2D : List D → Option (List D)
  | [a, b] => match skOf a, skOf b with
    | some (_, xs), some (_, ys) => some (zipD xs ys)
    | _, _ => none
  | _ => none
theorem di_zip {ga : GA} (h : DA K tas ga) : DI K (iZipU K tas) (eCall zip2D ga) := fun b0 B Z0 Z H σ ρ ds ρ' W ok e q => by
  obtain ⟨os, as, e1, e2, e3⟩ := call_ok e
  refine h b0 B Z0 Z H σ ρ os ρ' _ ok e1 fun vs H1 Z1 ok1 s1 r1 => ?_
  have ra := valA_ok r1 e2
  unfold zip2D at e3
  split at e3
  · split at e3
    · rename_i k1 xs k2 ys f1 f2
      cases e3
      cases ra with
      | cons r ra =>
      cases ra with
      | cons r' ra =>
      cases ra
      obtain ⟨a, va, rfl, qa, rva⟩ := sk_rp f1 r
      obtain ⟨b, vb, rfl, qb, rvb⟩ := sk_rp f2 r'
      refine ⟨a, b, k1, k2, va, vb, rfl, k1.mono ok1.zh qa, k2.mono ok1.zh qb, q _ H1 Z1 ok1 s1 (wk_pair (fun H s => ⟨k1.mono s qa, k2.mono s qb⟩) ?_ fun i x y hi ex ey => ?_)⟩
      · unfold zipD; rw [List.length_zipWith, rva.length, rvb.length]
      · obtain ⟨d1, g1, rd1⟩ := rva.getV ex
        obtain ⟨d2, g2, rd2⟩ := rvb.getV ey
        refine ⟨d1, d2, ?_, rd1, rd2⟩
        unfold zipD
        rw [List.getElem?_zipWith, g1, g2]
    · cases e3
  · cases e3
end
end DL
namespace DL
open PySem L2
theorem enum_new1 {v : Value} {o : Obj} {HH : Heap → Prop} (B : Begins v o HH) :
    Meets (Builtin.«enumerate.__new__» ⟨[.type "enumerate", v], []⟩) (fun _ R s => HH s.heap ∧
      R (.ok (.ret (.ref (s.heap.push o).objs.size))) { s with heap := (s.heap.push o).push { cls := .type "enumerate", data := .fields #[.none, .bool false, .ref s.heap.objs.size, rawInt 0, .none, .none] } }) :=
  .of_wp fun prog w A R s h => by
    obtain ⟨hp, gn, dr, tk, os⟩ := s
    obtain ⟨h1, h⟩ := h
    have hsub := sub_enumerate
    have q1 : ∀ {A' : Around} {E : Value → Shared → Prop} {Q : Value → Shared → Prop}, Q (.ref hp.objs.size) ⟨hp.push o, gn, dr, tk, os⟩ → wpAny (model prog w) A' (pyIter v) Q E ⟨hp, gn, dr, tk, os⟩ :=
      fun q => B.iter prog w _ _ ⟨hp, gn, dr, tk, os⟩ _ h1 q
    wp_walk using q1
    refine wpAny_stack_any fun st => wpAny_pure ?_
    split
    · rename_i c _ _ _ _ _
      cases (c == Value.type "enumerate") <;> (wp_walk using q1; exact ⟨_, rfl, h⟩)
    · wp_walk using q1
      exact ⟨_, rfl, h⟩
theorem enum_begins1 {prog : Program} {w : World} {A : Around} {E : Value → Shared → Prop} {s : Shared} {v : Value} {o : Obj} {HH : Heap → Prop} {Q : Value → Shared → Prop} (B : Begins v o HH) (h1 : HH s.heap)
    (h : ∀ h', IsEnum h' (s.heap.objs.size + 1) s.heap.objs.size 0 .none → h'.get? s.heap.objs.size = some o → (∀ b o, s.heap.get? b = some o → h'.get? b = some o) → Q (.ref (s.heap.objs.size + 1)) { s with heap := h' }) :
    wpAny (model prog w) A (call (.type "enumerate") [v]) Q E s := by
  refine callType_new F.called_enumerate (by decide) (F.typeCall_enumerate_1 _) (F.newCall_enumerate_1 _) (fun obj => F.args_object_init_2 obj _) F.entry_enumerate_new (enum_new1 B) ⟨h1, ?_⟩
  have hz : (s.heap.push o).objs.size = s.heap.objs.size + 1 := Heap.size_push ..
  show _ ∧ _
  rw [hz]
  have he : IsEnum ((s.heap.push o).push { cls := .type "enumerate", data := .fields #[.none, .bool false, .ref s.heap.objs.size, rawInt 0, .none, .none] }) (s.heap.objs.size + 1) s.heap.objs.size 0 .none := by
    have q := Heap.get?_push_size (s.heap.push o) (o := { cls := .type "enumerate", data := .fields #[.none, .bool false, .ref s.heap.objs.size, rawInt 0, .none, .none] }) rfl
    rw [hz] at q
    exact q
  exact ⟨⟨_, he, rfl⟩, h _ he (Heap.get?_push_of_some _ (Heap.get?_push_size _ B.free)) fun b o x => Heap.get?_push_of_some _ (Heap.get?_push_of_some _ x)⟩
section
variable {X : Cx} {K : PySem.W.Frag} {ta tb te tc : TE} {tas : TA} {tg : Expr}
def enumTn (k : Sk) (a N : Addr) : Nat → Heap → Prop := fun i h => (∃ old, IsEnum h (N + 1) N (0 + (i : Int)) old) ∧ k.itr h N a i
theorem enum_live {k : Sk} {a N : Addr} {i : Nat} {h : Heap} (st : enumTn k a N i h) : ∀ c ∈ [N + 1, N], ∃ o, h.get? c = some o ∧ ∀ v, o.data ≠ .cell v := fun c hc => by
  obtain ⟨⟨old, h1⟩, h2⟩ := st
  have e : c = N + 1 ∨ c = N := by simpa using hc
  rcases e with e | e
  · rw [e]; exact ⟨_, h1, fun v z => nomatch z⟩
  · rw [e]; exact k.obj_of h2
theorem turn_enumU {P : Program} {w : World} {elts : List Expr} {kk : Nat} {tpos : Pos} (k : Sk) {a N : Addr} (ha : a < N) (xs : List V) :
    Turn P w K (.Tuple elts kk tpos) (ItP (fun H => k.sq K H a xs) xs.length (fun i => some (.int (0 + (i : Int)))) (fun i => xs[i]?)) [N + 1, N] (N + 1) (enumTn k a N) where
  mem := by simp
  obj := fun i h st => enum_live st
  keep := fun i h h' st kp => by
    obtain ⟨⟨old, h1⟩, h2⟩ := st
    exact ⟨⟨old, kp _ (by simp) _ h1⟩, k.keep h2 fun o q => kp _ (by simp) o q⟩
  item := by
    intro X hP hw hK hc i pins s σ H E I hf st hg
    subst hP hw hK
    obtain ⟨q1, hi⟩ := hg
    obtain ⟨i1, r1, s1⟩ := k.there I q1
    have W := GoesN.enumFrom (prog := X.prog) (w := X.w) (A := X.A) (elts := elts) (x1 := kk) (pos := tpos) 0 (k.draws (A := X.A.in1) (I.ok.hd hc) N a (Nat.ne_of_lt ha) i1.toArray) (N + 1) (Nat.succ_ne_self _) (by
      intro z
      rcases List.mem_cons.mp z with z | z
      · exact Nat.succ_ne_self _ z
      · rcases List.mem_cons.mp z with z | z
        · exact Nat.lt_irrefl _ (Nat.lt_of_lt_of_le ha (by rw [← z]; exact Nat.le_succ N))
        · cases z) (by simp)
    have st0 := st
    obtain ⟨h1, h2⟩ := st
    refine W.goes i s _ E (by rw [List.size_toArray, ← r1.length]; exact hi) ⟨h1, h2, s1⟩ fun v h' tk hY st' kp htk => ?_
    obtain ⟨T, t, x, rfl, hT, ex, tup⟩ := hY
    have gx : xs[i]? = some xs[i] := List.getElem?_eq_getElem _
    obtain ⟨u, eu, ru⟩ := r1.get gx
    have e1 : u = x := Option.some.inj (eu.symm.trans (by simpa using ex))
    subst e1
    obtain ⟨I2, hn, fr⟩ := pair_inv (tk := tk) (x := .int (0 + (i : Int))) I hf (by simp) kp hT tup ⟨_, rfl⟩ ru fun b hb => let ⟨o, e, _⟩ := enum_live st0 b hb; ⟨o, e⟩
    obtain ⟨g1, g2, _⟩ := st'
    exact ⟨.ref T, _, I2, rfl, ⟨T, _, _, rfl, hn, rfl, rfl, gx⟩, ⟨g1, g2⟩, fr⟩
  done := by
    intro X hP hw hK hc i pins s σ H E I hf st hg
    subst hP hw hK
    obtain ⟨q1, hi⟩ := hg
    obtain ⟨i1, r1, s1⟩ := k.there I q1
    have W := GoesN.enumFrom (prog := X.prog) (w := X.w) (A := X.A) (elts := elts) (x1 := kk) (pos := tpos) 0 (k.draws (A := X.A.in1) (I.ok.hd hc) N a (Nat.ne_of_lt ha) i1.toArray) (N + 1) (Nat.succ_ne_self _) (by
      intro z
      rcases List.mem_cons.mp z with z | z
      · exact Nat.succ_ne_self _ z
      · rcases List.mem_cons.mp z with z | z
        · exact Nat.lt_irrefl _ (Nat.lt_of_lt_of_le ha (by rw [← z]; exact Nat.le_succ N))
        · cases z) (by simp)
    obtain ⟨h1, h2⟩ := st
    have hn : i1.toArray.size = i := by rw [List.size_toArray, ← r1.length]; exact hi.symm
    rw [hn] at W
    refine W.stops s _ E ⟨h1, h2, s1⟩ fun h' tk kp htk => ?_
    exact I.turnedL (t' := tk) (ch := [N + 1, N]) kp fun b hb => hf b hb
  self := fun A i s Q E st h => let ⟨⟨_, he⟩, _⟩ := st; wpAny_pyIter_enum he h
def iEnumU (K : PySem.W.Frag) (ta : TA) : TI := fun σ H R => ta σ H fun vs H1 => ∃ a k xs, vs = [.ref a] ∧ Sk.sq K H1 a xs k ∧ R (ItP (fun H => k.sq K H a xs) xs.length (fun i => some (.int (0 + (i : Int)))) (fun i => xs[i]?)) H1
theorem pi_enumU {e : Expr} {ta : TA} {p pos tpos : Pos} {elts : List Expr} {kk : Nat} (hg : Gl X "enumerate") (hm : X.mg "enumerate" = none) (ha : PA X [e] ta) (h1 : starEach [e] X.env = [(false, eval e X.env)] := by rfl) :
    PI X (.Tuple elts kk tpos) (.Call (.Name "enumerate" p) [e] [] pos) (iEnumU X.K ta) := by
  refine ⟨fun pins s σ H R I h => PyProof.Rows.Call_ (ld_blt I hg hm PyProof.Rows.boot_enumerate (PyProof.Rows.callWith_type1 (thn (ha.run pos pins s σ H _ I h) fun us s1 ⟨vs, H1, I1, r1, q1⟩ => ?_) h1 rfl))⟩
  obtain ⟨a, k, xs, rfl, q1, q⟩ := q1
  cases r1 with
  | cons r rr =>
  cases rr; cases r
  obtain ⟨i1, r1, s1'⟩ := k.there I1 q1
  refine enum_begins1 (k.begins a i1.toArray) s1' fun h' he g1 hk => wpAny_pyIter_enum he ?_
  refine ⟨s1.heap.objs.size + 1, [s1.heap.objs.size + 1, s1.heap.objs.size], _, _, H1, rfl, I1.kept (t' := s1.toks) hk, turn_enumU k (k.lt s1') xs, ⟨⟨_, he⟩, k.first g1⟩, fun c hc => ?_, q⟩
  have hle : s1.heap.objs.size ≤ c := by
    have : c = s1.heap.objs.size + 1 ∨ c = s1.heap.objs.size := by simpa using hc
    rcases this with z | z <;> rw [z] <;> first | exact Nat.le_add_right _ _ | exact Nat.le_refl _
  exact I1.fpOk hle (I1.hok.fresh hle)
def enumFrom (i : Nat) : List D → List D
  | [] => []
  | d :: ds => .tuple [.int (i : Int), d] :: enumFrom (i + 1) ds
theorem enumFrom_len : ∀ (ds : List D) (i : Nat), (enumFrom i ds).length = ds.length
  | [], _ => rfl
  | d :: ds, i => by
    show (enumFrom (i + 1) ds).length + 1 = ds.length + 1
    rw [enumFrom_len ds (i + 1)]
theorem enumFrom_get : ∀ (ds : List D) (i j : Nat) (d : D), ds[j]? = some d → (enumFrom i ds)[j]? = some (.tuple [.int ((i + j : Nat) : Int), d])
  | d :: ds, i, 0, e, h => by cases h; rfl
  | d :: ds, i, j + 1, e, h => by
    show (enumFrom (i + 1) ds)[j]? = _
    rw [enumFrom_get ds (i + 1) j e h, show i + 1 + j = i + (j + 1) by omega]
def enum1D : List D → Option (List D)
  | [a] => (skOf a).map fun q => enumFrom 0 q.2
  | _ => none
theorem di_enum {ga : GA} (h : DA K tas ga) : DI K (iEnumU K tas) (eCall enum1D ga) := fun b0 B Z0 Z H σ ρ ds ρ' W ok e q => by
  obtain ⟨os, as, e1, e2, e3⟩ := call_ok e
  refine h b0 B Z0 Z H σ ρ os ρ' _ ok e1 fun vs H1 Z1 ok1 s1 r1 => ?_
  have ra := valA_ok r1 e2
  unfold enum1D at e3
  split at e3
  · obtain ⟨⟨k, xs⟩, f1, rfl⟩ := Option.map_eq_some_iff.mp e3
    cases ra with
    | cons r ra =>
    cases ra
    obtain ⟨a, va, rfl, qa, rva⟩ := sk_rp f1 r
    refine ⟨a, k, va, rfl, k.mono ok1.zh qa, q _ H1 Z1 ok1 s1 (wk_pair (fun H s => k.mono s qa) (by rw [enumFrom_len, rva.length]) fun i x y hi ex ey => ?_)⟩
    cases ex
    obtain ⟨d1, g1, rd1⟩ := rva.getV ey
    exact ⟨_, d1, enumFrom_get xs 0 i d1 g1, by rw [show ((0 + i : Nat) : Int) = 0 + (i : Int) by omega]; exact .int _, rd1⟩
  · cases e3
def tyName : D → String
  | .none => "NoneType"
  | .bool _ => "bool"
  | .int _ => "int"
  | .str _ => "str"
  | .list _ => "list"
  | .tuple _ => "tuple"
  | .dict [(.list _, .none)] => "list"
  | .dict _ => "?"
def plainT (d : D) : Bool := tyName d != "?"
def isiD (T : String) (d : D) : Option D := if plainT d then (kitB (tyName d) T).map .bool else none
def isiAny (a : String) : List String → Option Bool
  | [] => some false
  | T :: r => match kitB a T with
    | some true => some true
    | some false => isiAny a r
    | none => none
def isiTD (Ts : List String) (d : D) : Option D := if plainT d then (isiAny (tyName d) Ts).map .bool else none
theorem tyx_of {Z H : Hp} {v : V} {d : D} (s : Same Z H) (h : Bd K Z H v d) (hp : plainT d = true) : TyX K H v (.type (tyName d)) := by
  cases h with
  | non => exact .base .non
  | bl b => exact .base (.bl b)
  | int i => exact .base (.int i)
  | str x => exact .base (.str x)
  | lst h r => exact .base (.lst h)
  | scr h r =>
    rcases h with (h | ⟨o, h⟩) | ⟨o, its, n, h, c, _⟩
    · exact .base (.lst h)
    · exact .base (.frz h)
    · exact .kList h c
  | tup h r =>
    rcases same_t s h with (h | ⟨o, h⟩) | ⟨o, its, n, h, c, _⟩
    · exact .base (.tup h)
    · exact .fTuple h
    · exact .kTuple h c
  | exc h1 h2 h3 r => exact absurd (show false = true from hp) (by decide)
  | dct h r => exact absurd (show false = true from hp) (by decide)
theorem de_isi {T : String} {g : GO} (h : DO K te g) : DE K (tCB (rIsi K) (tCons te (tCons (tC (.ty T)) tNil))) (eOp1 (isiD T) g) := fun b0 B Z0 Z H σ ρ d ρ' Q ok e q => by
  obtain ⟨x, a, e1, e3, e5⟩ := op1_ok e
  unfold isiD at e5
  split at e5
  case isFalse => cases e5
  rename_i hp
  obtain ⟨b, e6, rfl⟩ := Option.map_eq_some_iff.mp e5
  refine h b0 B Z0 Z H σ ρ x ρ' _ ok e1 fun v H1 Z1 ok1 s1 r1 => ?_
  exact ⟨v, .ty T, _, _, b, rfl, .ty T, tyx_of ok1.zh (ok1.bd r1 e3) hp, kit_ty e6, q _ H1 Z1 ok1 s1 (.bl b)⟩
theorem kitAny_of {a : String} : ∀ {Ts : List String} {b : Bool}, isiAny a Ts = some b → PySem.W.kitAny K (.type a) (Ts.map Value.type) = some b
  | [], b, h => by cases h; rfl
  | T :: r, b, h => by
    unfold isiAny at h
    split at h
    · rename_i hk
      cases h
      exact kitAny_cons (kit_ty hk) (fun z => nomatch z) fun _ => rfl
    · rename_i hk
      exact kitAny_cons (kit_ty hk) (fun _ => kitAny_of h) fun z => nomatch z
    · cases h
def tTys : List String → TA
  | [] => tNil
  | T :: r => tCons (tC (.ty T)) (tTys r)
theorem tTys_run {σ : L2.St} {H : Hp} {Q : List V → Hp → Prop} : ∀ (Ts : List String), Q (Ts.map V.ty) H → tTys Ts σ H Q
  | [], h => h
  | T :: r, h => tTys_run (Q := fun xs H2 => Q (.ty T :: xs) H2) r h
theorem paired_ty : ∀ Ts : List String, Paired ClsV (Ts.map V.ty) (Ts.map Value.type)
  | [] => .nil
  | T :: r => .cons (.ty T) (paired_ty r)
theorem de_isiT {Ts : List String} {g : GO} (hl : Ts.length ≤ sizeLine) (h : DO K te g) : DE K (tCB (rIsiT K) (tCons te (tCons (tTup (tTys Ts)) tNil))) (eOp1 (isiTD Ts) g) := fun b0 B Z0 Z H σ ρ d ρ' Q ok e q => by
  obtain ⟨x, a, e1, e3, e5⟩ := op1_ok e
  unfold isiTD at e5
  split at e5
  case isFalse => cases e5
  rename_i hpl
  obtain ⟨b, e6, rfl⟩ := Option.map_eq_some_iff.mp e5
  refine h b0 B Z0 Z H σ ρ x ρ' _ ok e1 fun v H1 Z1 ok1 s1 r1 => ?_
  refine tTys_run (Q := fun xs H2 => xs.length ≤ sizeLine ∧ ∀ p, H2 p = none → _) Ts ⟨by rw [List.length_map]; exact hl, fun p hp => ?_⟩
  obtain ⟨ok2, zp, bp, ap⟩ := ok1.fresh (o := .tup (Ts.map V.ty)) hp
  exact ⟨v, p, Ts.map V.ty, _, _, b, rfl, upd_same, paired_ty Ts, tyx_of ok2.zh (ok2.bd r1 e3) hpl, kitAny_of e6, q _ _ Z1 ok2 s1 (.bl b)⟩
def flV : D → Option V
  | .none => some .non
  | .bool b => some (.bl b)
  | .int i => some (.int i)
  | .str x => some (.str x)
  | _ => none
def flVs : List D → Option (List V)
  | [] => some []
  | d :: ds => match flV d, flVs ds with
    | some v, some vs => some (v :: vs)
    | _, _ => none
theorem flV_rp {Z : Hp} {v w : V} {d : D} (h : flV d = some w) (r : Rp K Z v d) : v = w ∧ flatV v = true := by
  cases r <;> cases h <;> exact ⟨rfl, rfl⟩
theorem flVs_rp {Z : Hp} : ∀ {vs ws : List V} {ds : List D}, flVs ds = some ws → RpA K Z vs ds → vs = ws ∧ vs.all flatV = true
  | _, _, _, h, .nil => by cases h; exact ⟨rfl, rfl⟩
  | _, _, _, h, .cons r ra => by
    unfold flVs at h
    split at h
    · rename_i v' vs' e1 e2
      cases h
      obtain ⟨rfl, f1⟩ := flV_rp e1 r
      obtain ⟨rfl, f2⟩ := flVs_rp e2 ra
      exact ⟨rfl, by rw [List.all_cons, f1, f2]; rfl⟩
    · cases h
def inDb (x d : D) : Option Bool := match d with
  | .list ds => (match flV x, flVs ds with
    | some v, some vs => some (inV v vs)
    | _, _ => none)
  | .tuple ds => (match flV x, flVs ds with
    | some v, some vs => some (inV v vs)
    | _, _ => none)
  | _ => none
def inD (x d : D) : Option D := (inDb x d).map .bool
def notInD (x d : D) : Option D := (inDb x d).map fun b => .bool (!b)
theorem in_rp {Z H : Hp} {x y : V} {a b : D} {k : Bool} (s : Same Z H) (ha : Bd K Z H x a) (hb : Bd K Z H y b) (h : inDb a b = some k) : ∃ p xs, y = .ref p ∧ (SqL K H p xs ∨ SqT K H p xs) ∧ flatV x = true ∧ xs.all flatV = true ∧ k = inV x xs := by
  have fx : ∀ v, flV a = some v → x = v ∧ flatV x = true := fun v e => flV_rp e (bd_rp s ha)
  unfold inDb at h
  split at h
  · split at h
    · rename_i v vs e1 e2
      cases h
      cases hb with
      | lst h r =>
      obtain ⟨rfl, f1⟩ := fx v e1
      obtain ⟨rfl, f2⟩ := flVs_rp e2 r
      exact ⟨_, _, rfl, .inl (.inl (.inl h)), f1, f2, rfl⟩
    · cases h
  · split at h
    · rename_i v vs e1 e2
      cases h
      cases hb with
      | tup h r =>
      obtain ⟨rfl, f1⟩ := fx v e1
      obtain ⟨rfl, f2⟩ := flVs_rp e2 r
      exact ⟨_, _, rfl, .inr (same_t s h), f1, f2, rfl⟩
    · cases h
  · cases h
theorem sn_in : Sn2 K (rIn K false) inD := fun b0 B Z0 Z H σ ρ x y a b c Q ok ha hb e q => by
  obtain ⟨k, e1, rfl⟩ := Option.map_eq_some_iff.mp e
  obtain ⟨p, xs, rfl, h1, h2, h3, rfl⟩ := in_rp ok.zh ha hb e1
  exact ⟨p, xs, rfl, h1, h2, h3, q _ H Z ok (Same.refl Z) (.bl _)⟩
theorem sn_notIn : Sn2 K (rIn K true) notInD := fun b0 B Z0 Z H σ ρ x y a b c Q ok ha hb e q => by
  obtain ⟨k, e1, rfl⟩ := Option.map_eq_some_iff.mp e
  obtain ⟨p, xs, rfl, h1, h2, h3, rfl⟩ := in_rp ok.zh ha hb e1
  exact ⟨p, xs, rfl, h1, h2, h3, q _ H Z ok (Same.refl Z) (.bl _)⟩
end
end DL
namespace DL
open PySem L2
section
variable {X : Cx} {K : PySem.W.Frag} {ta tb te tc : TE} {tas tks : TA} {tg : Expr}
theorem sn2_of_f {r : R2} {f : D → D → Option (List D)} (h : Sn2F K r f) : Sn2 K r (fun a b => (f a b).map .list) := fun b0 B Z0 Z H σ ρ x y a b c Q ok ha hb e q => by
  obtain ⟨ds, e1, rfl⟩ := Option.map_eq_some_iff.mp e
  refine h b0 B Z0 Z H σ ρ x y a b ds Q ok ha hb e1 fun p vs H' ok' zp bp ap hp r => ?_
  obtain ⟨ok2, s2⟩ := ok'.freeze zp bp ap hp
  exact q (.ref p) H' _ ok2 s2 (.lst upd_same (r.mono s2))
theorem sn2_or {r : R2} {f g : D → D → Option D} (h : Sn2 K r f) (h' : Sn2 K r g) : Sn2 K r (fun a b => (f a b).orElse fun _ => g a b) := fun b0 B Z0 Z H σ ρ x y a b c Q ok ha hb e q => by
  dsimp only at e
  cases hf : f a b with
  | some d =>
    rw [hf] at e
    cases e
    exact h b0 B Z0 Z H σ ρ x y a b _ Q ok ha hb hf q
  | none =>
    rw [hf] at e
    exact h' b0 B Z0 Z H σ ρ x y a b c Q ok ha hb e q
def addU (a b : D) : Option D := (addD a b).orElse fun _ => (addL a b).map .list
def mulU (a b : D) : Option D := (mulD a b).orElse fun _ => (repL a b).map .list
theorem sn_addU : Sn2 K (rAddU K) addU := sn2_or sn_add (sn2_of_f sn_addL)
theorem sn_mulU : Sn2 K rMulU mulU := sn2_or sn_mul (sn2_of_f sn_repL)
def sliceU (d : D) (lo hi : Option Int) : Option D := (sliceT d lo hi).orElse fun _ => (sliceL d lo hi).map .list
theorem sn_sliceU : SnSl K (rSlU K) sliceU := fun b0 B Z0 Z H σ ρ x a lo hi c Q ok ha e q => by
  unfold sliceU at e
  cases hf : sliceT a lo hi with
  | some d =>
    rw [hf] at e
    cases e
    exact sn_sliceT b0 B Z0 Z H σ ρ x a lo hi _ Q ok ha hf q
  | none =>
    rw [hf] at e
    obtain ⟨ds, e1, rfl⟩ := Option.map_eq_some_iff.mp e
    refine sn_sliceL b0 B Z0 Z H σ ρ x a lo hi ds Q ok ha e1 fun p vs H' ok' zp bp ap hp r => ?_
    obtain ⟨ok2, s2⟩ := ok'.freeze zp bp ap hp
    exact q (.ref p) H' _ ok2 s2 (.lst upd_same (r.mono s2))
def eCallBF (F : List D → List D → Option (List D × List D)) (i : Nat) (ga : GA) (ρ : Rho) : R (List D) := if isOw ρ[i]? then (ga ρ).bind fun os ρ1 => match ρ1[i]?, valA os with
    | some (.ow box), some ds => (match F box ds with
      | some (d, box') => .ok d (ρ1.set i (.ow box'))
      | none => .bad)
    | _, _ => .bad
  else .bad
def eCallW {α : Type} (F : List D → Option α) (m : Nat) (g : {α : Type} → List α → List α) (ga : GA) (ρ : Rho) : R α := (ga ρ).bind fun os ρ1 => match valA os with
  | some ds => if ds.length = m then R.lift (F (g ds)) ρ1 else .bad
  | none => .bad
theorem fn_noneP {P : Program} {w : World} {mg : Str → Option Value} {base : Heap} {k np : Nat} {f : Addr} {fd : FuncData} {ps : List Str} (h : ps.length = np) : FnOk P w K mg base CX0 k f fd ps (spP K np fun _ => none) :=
  ⟨fun vs H Q E q => q.1.trans h.symm, fun A outer s H args us vs Q E hr he hb hv hs => by
    obtain ⟨_, Z, ds, d, _, _, e, _⟩ := hs
    cases e⟩
theorem fn_noneB {P : Program} {w : World} {mg : Str → Option Value} {base : Heap} {k np : Nat} {f : Addr} {fd : FuncData} {ps : List Str} (h : ps.length = np) : FnOk P w K mg base CX0 k f fd ps (spB K np fun _ _ => none) :=
  ⟨fun vs H Q E q => q.1.trans h.symm, fun A outer s H args us vs Q E hr he hb hv hs => by
    obtain ⟨_, Z, b, vb, box, rest, ds, d, box', _, _, _, _, _, _, e, _⟩ := hs
    cases e⟩
end
end DL
namespace DL
open PySem PySem.Spec PyProof.Rows L2
structure FnG (P : Program) (w : World) (K : PySem.W.Frag) (mg : Str → Option Value) (base : Heap) (k : Nat) (f : Addr) (fd : FuncData) (ps : List Str) (sp : Sp) : Prop where
  len : ∀ vs H Q E, sp vs H Q E → vs.length = ps.length
  run : ∀ (A : Around) (out : List PySem.Env) (t : Shared) (H : Hp) (ar : Args) (us : List Value) (vs : List V) (Q : VK) (E : XK), Room k A → A.guards = some [] → Env0 P w K mg base A out t H → BindsTo t fd ar (ps.zip us) → Vals vs us → sp vs H Q E →
    codeAny (model P w) A (.call (.ref f) ar) (CR CX0 out P w H t Q E) t
section
variable {P : Program} {w : World} {K : PySem.W.Frag} {mg : Str → Option Value} {base : Heap} {X : Cx}
theorem FnG.of {k : Nat} {f : Addr} {fd : FuncData} {ps : List Str} {sp : Sp} (F : FnOk P w K mg base CX0 k f fd ps sp) : FnG P w K mg base k f fd ps sp :=
  ⟨F.len, fun A out t H ar us vs Q E hr _ e b r h => F.run A out t H ar us vs Q E hr e b r h⟩
theorem FnG.mono {j k : Nat} {f : Addr} {fd : FuncData} {ps : List Str} {sp : Sp} (F : FnG P w K mg base j f fd ps sp) (h : j ≤ k) : FnG P w K mg base k f fd ps sp :=
  ⟨F.len, fun A out t H ar us vs Q E hr => F.run A out t H ar us vs Q E (hr.mono h)⟩
end
section
variable {X : Cx} {K : PySem.W.Frag}
def rg2 (a b : D) : Option (List D) := match a, b with
  | .int i, .int j => if -(2 ^ 62) ≤ i ∧ i < 2 ^ 62 ∧ -(2 ^ 62) ≤ j ∧ j < 2 ^ 62 ∧ (j - i).toNat ≤ 2 ^ 24 then some (rangeD i (j - i).toNat) else none
  | _, _ => none
def eRg2 (a b : GE) (ρ : Rho) : R (List D) := (a ρ).bind fun x ρ1 => (b ρ1).bind fun y ρ2 => R.lift (rg2 x y) ρ2
def eRg1 (a : GE) (ρ : Rho) : R (List D) := (a ρ).bind fun x ρ1 => R.lift (rg2 (.int 0) x) ρ1
theorem rgV_rp {Z : Hp} (i j : Int) : RpA K Z (rgV i j) (rangeD i (j - i).toNat) := by
  unfold rgV rangeD
  generalize List.range (j - i).toNat = l
  induction l with
  | nil => exact .nil
  | cons n r ih => exact .cons (.int _) ih
theorem rg2_ok {x y : D} {ds : List D} (h : rg2 x y = some ds) : ∃ i j, x = .int i ∧ y = .int j ∧ RgOk i j ∧ ds = rangeD i (j - i).toNat := by
  unfold rg2 at h
  split at h
  · split at h
    · cases h; exact ⟨_, _, rfl, rfl, by assumption, rfl⟩
    · cases h
  · cases h
variable {ta tb : TE}
theorem df_listRg2 {a b : GE} (ha : DE K ta a) (hb : DE K tb b) : DF K (tLstRg (tRg2 ta tb)) (eRg2 a b) := fun b0 B Z0 Z H σ ρ d ρ' Q ok e q => by
  obtain ⟨x, ρ1, e1, e⟩ := R.bind_ok e
  obtain ⟨y, ρ2, e2, e⟩ := R.bind_ok e
  obtain ⟨e3, rfl⟩ := R.lift_ok e
  obtain ⟨i, j, rfl, rfl, ro, rfl⟩ := rg2_ok e3
  refine ha b0 B Z0 Z H σ ρ _ ρ1 _ ok e1 fun v H1 Z1 ok1 s1 r1 => ?_
  refine hb b0 B Z0 Z1 H1 σ ρ1 _ ρ2 _ ok1 e2 fun u H2 Z2 ok2 s2 r2 => ?_
  cases r1; cases r2
  refine ⟨i, j, rfl, rfl, ro, fun p hp => ?_⟩
  obtain ⟨ok3, zp, bp, ap⟩ := ok2.fresh (o := .lst (rgV i j)) hp
  exact q p _ _ Z2 ok3 (s1.trans s2) zp bp ap upd_same (rgV_rp i j)
end
end DL
namespace DL
open PySem PySem.Spec PyProof.Rows L2
open AutoSeq1 (wpAny_loadPart')
theorem tup_mul1 (l : Addr) (its : Array Value) (n : Nat) (dd : Option Addr) (sl : Array (Option Value)) (u : Tok) :
    Meets (Builtin.«tuple.__mul__» ⟨[.ref l, .int 1 u], []⟩) (fun _ R s => s.heap.get? l = some { cls := .type "tuple", dict := dd, data := .seq its n, slots := sl } ∧ R (.ok (.ret (Value.ref l))) s) :=
  .of_wp fun prog w A R s h => by
    obtain ⟨hp, g, d, tk, os⟩ := s
    obtain ⟨hl, h⟩ := h
    have f1 := AutoSeq1.idx_int
    have c : (its.isEmpty || (1 : Int) == 1) = true := by cases its.isEmpty <;> rfl
    wp_walk using wpAny_loadPart' hl
    exact ⟨_, rfl, h⟩
theorem tup_mul0 (l : Addr) (its : Array Value) (n : Nat) (dd : Option Addr) (sl : Array (Option Value)) (u : Tok) (c : its.isEmpty = false) :
    Meets (Builtin.«tuple.__mul__» ⟨[.ref l, .int 0 u], []⟩) (fun _ R s => s.heap.get? l = some { cls := .type "tuple", dict := dd, data := .seq its n, slots := sl } ∧ R (.ok (.ret (Value.ref s.heap.objs.size))) { s with heap := s.heap.push { cls := Value.type "tuple", data := Data.seq #[] } }) :=
  .of_wp fun prog w A R s h => by
    obtain ⟨hp, g, d, tk, os⟩ := s
    obtain ⟨hl, h⟩ := h
    have f1 := AutoSeq1.idx_int
    have c1 : (its.isEmpty || (0 : Int) == 1) = false := by rw [c]; rfl
    have c2 : (decide ((0 : Int) ≤ 0) || its.isEmpty) = true := rfl
    wp_walk using wpAny_loadPart' hl
    exact ⟨_, rfl, h⟩
section
variable {X : Cx} {K : PySem.W.Frag}
def rRepT01 (K : PySem.W.Frag) : R2 := fun x y H Q => ∃ l k xs, x = .ref l ∧ y = .int k ∧ SqT K H l xs ∧ xs ≠ [] ∧ ((k = 0 ∧ ∀ p, H p = none → Q (.ref p) (upd H p (.tup []))) ∨ (k = 1 ∧ Q (.ref l) H))
theorem op_repT01 : OpR X (binaryOp .Mult) (rRepT01 X.K) := by
  intro pins s σ H x y v u Q I rx ry h
  obtain ⟨l, k, xs, rfl, rfl, hT, hne, h⟩ := h
  cases rx
  obtain ⟨t, rfl⟩ := ry
  obtain ⟨its, r, ⟨⟨cls, dd, data, sl⟩, ho, hc, n, hd⟩, hs⟩ := I.tuple hT
  simp only at hc hd
  subst hc hd
  have hi : its.toArray.isEmpty = false := by
    cases its with
    | nil => exact absurd (List.eq_nil_of_length_eq_zero (by rw [r.length]; rfl)) hne
    | cons a b => rfl
  refine wpAny_binaryOp_repeat_ref (T := "tuple") (U := "int") (by decide) ⟨_, ho, rfl⟩ (fun s' => typeIs_int s' k t) noFill_tuple_mul F.fills_int_mul F.slot_int_rmul repeat_tuple F.slot_int_index.lookup ?_
  refine call_meets F.slot_int_rmul (typeIs_int s k t) F.entry_int_rmul (F.args_int_rmul_2 _ _) (int_rmul_tuple k t l its.toArray n dd sl) ⟨ho, rfl, ⟨_, ho, rfl⟩, ?_⟩
  rcases h with ⟨rfl, q⟩ | ⟨rfl, q⟩
  · refine call_meets F.slot_tuple_mul ⟨_, ho, rfl⟩ F.entry_tuple_mul (F.args_tuple_mul_2 _ _) (tup_mul0 l its.toArray n dd sl t hi) ⟨ho, ?_⟩
    exact ⟨.ref s.heap.objs.size, _, I.laid (t' := s.toks) (o := .tup []) (fun b ob q => Heap.get?_push_of_some _ q) (Nat.le_refl _) ⟨Nat.zero_le _, [], .nil, IsTup.new _ _⟩, rfl, q _ (I.hok.fresh (Nat.le_refl _))⟩
  · refine call_meets F.slot_tuple_mul ⟨_, ho, rfl⟩ F.entry_tuple_mul (F.args_tuple_mul_2 _ _) (tup_mul1 l its.toArray n dd sl t) ⟨ho, ?_⟩
    exact ⟨.ref l, H, I, rfl, q⟩
/-- * : ints, a list or a tuple times an int -/
def rMulT (K : PySem.W.Frag) : R2 := fun x y H Q => rMulU x y H Q ∨ rRepT K x y H Q ∨ rRepT01 K x y H Q
theorem op_mulT : OpR X (binaryOp .Mult) (rMulT X.K) := opr_or op_mulU (opr_or op_repT op_repT01)
def repT : D → D → Option D
  | .tuple xs, .int k => if 0 ≤ k ∧ k ≤ 1000 ∧ xs.length ≤ 1000 ∧ xs ≠ [] then some (.tuple (List.replicate k.toNat xs).flatten) else none
  | _, _ => none
theorem sn_repT : Sn2 K (rMulT K) repT := fun b0 B Z0 Z H σ ρ x y a b c Q ok ha hb e q => by
  unfold repT at e
  split at e
  · split at e
    · rename_i hl
      obtain ⟨h0, h1, h2, h3⟩ := hl
      cases e
      cases hb
      cases ha with
      | tup hs ra =>
      have hne : ∀ {vs : List V} {ds : List D}, RpA K Z vs ds → ds ≠ [] → vs ≠ [] := fun r n z => by
        subst z
        cases r
        exact n rfl
      rename_i k _ _
      by_cases k0 : k = 0
      · subst k0
        refine .inr (.inr ⟨_, _, _, rfl, rfl, same_t ok.zh hs, hne ra h3, .inl ⟨rfl, fun p hp => ?_⟩⟩)
        obtain ⟨ok2, s2⟩ := ok.new (o := .tup []) hp
        exact q _ _ _ ok2 s2 (.tup (.inl (.inl upd_same)) .nil)
      · by_cases k1 : k = 1
        · subst k1
          refine .inr (.inr ⟨_, _, _, rfl, rfl, same_t ok.zh hs, hne ra h3, .inr ⟨rfl, q _ H Z ok (Same.refl Z) ?_⟩⟩)
          have := flat_rep ra 1
          rw [show (List.replicate 1 _).flatten = _ from List.append_nil _] at this
          exact .tup hs this
        · refine .inr (.inl ⟨_, _, _, rfl, rfl, same_t ok.zh hs, hne ra h3, by omega, h1, by rw [ra.length]; exact h2, fun p hp => ?_⟩)
          obtain ⟨ok2, s2⟩ := ok.new (o := .tup _) hp
          exact q _ _ _ ok2 s2 (.tup (.inl (.inl upd_same)) ((flat_rep ra _).mono s2))
    · cases e
  · cases e
def mulV (a b : D) : Option D := (mulU a b).orElse fun _ => repT a b
theorem sn_mulV : Sn2 K (rMulT K) mulV := sn2_or (sn2_mono sn_mulU fun _ _ _ _ h => .inl h) sn_repT
theorem sn_repLT : Sn2F K (rMulT K) repL := fun b0 B Z0 Z H σ ρ x y a b c Q ok ha hb e q => .inl (sn_repL b0 B Z0 Z H σ ρ x y a b c Q ok ha hb e q)
variable {te : TE} {tas : TA}
def eCallBX (F : List D → List D → Option (D × List D)) (g0 : GF) (ga : GA) (ρ : Rho) : R D := (g0 ρ).bind fun box ρ1 => (ga ρ1).bind fun os ρ2 => match valA os with
  | some ds => (match F box ds with
    | some (d, _) => .ok d ρ2
    | none => .bad)
  | none => .bad
theorem de_callBX {np : Nat} {F : List D → List D → Option (D × List D)} {g0 : GF} {ga : GA} {E : XK} (hF0 : ∀ b ds d, F b ds = some d → ds.length + 1 = np) (h0 : DF K te g0) (ha : DA K tas ga) : DE K (tCall (spB K np F) [] E (tCons te tas)) (eCallBX F g0 ga) := fun b0 B Z0 Z H σ ρ d ρ' Q ok e q => by
  obtain ⟨box, ρ1, e1, e⟩ := R.bind_ok e
  obtain ⟨os, ρ2, e2, e⟩ := R.bind_ok e
  split at e
  · rename_i ds hv
    split at e
    · rename_i d' box' hF
      cases e
      refine h0 b0 B Z0 Z H σ ρ box ρ1 _ ok e1 fun p vb H1 Z1 ok1 s1 zp bp ap hp rb => ?_
      refine ha b0 (upd B p (.lst vb)) Z0 Z1 H1 σ ρ1 os ρ' _ (ok1.frame zp ap hp) e2 fun vs H2 Z2 ok2 s2 r2 => ?_
      obtain ⟨ok3, zp3, ap3, hp3⟩ := ok2.unframe (ok1.zz.free zp) bp
      have rA := valA_ok r2 hv
      refine ⟨by rw [List.append_nil, List.length_cons, rA.length]; exact hF0 _ _ _ hF, Z2, p, vb, box, vs, ds, d, box', by rw [List.append_nil], ok3.zh, zp3, hp3, rb.mono s2, rA, hF, fun v H' Z' vb' hh g zb hb' rb' r => ?_⟩
      refine q v H' Z' ⟨ok3.len, fun c o e => hh c o (ne_of_none e bp) (ok3.bh c o e), g.2.1, ok3.zz.trans g.1, fun c o e => ?_, fun i d e => ?_, fun i es e eo => ?_, ok3.fix, ok3.sepS, ok3.fixG, fun i j e => (ok3.lnk i j e).mono g.1⟩ ((s1.trans s2).trans g.1) r
      · rcases g.2.2 c o e with z | z
        · exact ok3.nb c o z
        · exact .inr (ok3.bh.free z)
      · obtain ⟨w, z1, z2⟩ := ok3.sh i d e
        exact ⟨w, z1, z2.mono g.1⟩
      · obtain ⟨c, ws, z1, z2, z3, z4, z5⟩ := ok3.own i es e eo
        have nc : c ≠ p := fun z => ap3 i es e eo (by rw [z1, z])
        refine ⟨c, ws, z1, ?_, z3, hh _ _ nc z4, z5.mono g.1⟩
        cases y : Z' c with
        | none => rfl
        | some o =>
          rcases g.2.2 c o y with z | z
          · rw [z2] at z; cases z
          · rw [z4] at z; cases z
    · cases e
  · cases e
end
end DL
namespace DL
open PySem L2
theorem addU_int (i j : Int) : addU (.int i) (.int j) = some (.int (i + j)) := rfl
theorem subD_int (i j : Int) : subD (.int i) (.int j) = some (.int (i - j)) := rfl
theorem mulD_of {i j : Int} (h : CMulU i j) : mulV (.int i) (.int j) = some (.int (i * j)) := by
  have e : mulD (.int i) (.int j) = some (.int (i * j)) := if_pos h
  unfold mulV mulU
  rw [e]; rfl
theorem cmul_l {i j : Int} (h : -(2 ^ 64) < i ∧ i < 2 ^ 64) : mulV (.int i) (.int j) = some (.int (i * j)) := mulD_of (.inl (.inl h))
theorem cmul_r {i j : Int} (h : -(2 ^ 64) < j ∧ j < 2 ^ 64) : mulV (.int i) (.int j) = some (.int (i * j)) := mulD_of (.inl (.inr h))
theorem modD_int {i j : Int} (h : 0 < j) : modD (.int i) (.int j) = some (.int (i % j)) := if_pos h
theorem fdivD_int {i j : Int} (h : 0 < j) (h2 : j < 2 ^ 300) : fdivD (.int i) (.int j) = some (.int (i / j)) := by
  have q : j.natAbs.log2 < 9000 := by
    have : j.natAbs < 2 ^ 300 := by omega
    have h0 : j.natAbs ≠ 0 := by omega
    exact Nat.lt_of_lt_of_le ((Nat.log2_lt h0).mpr this) (by decide)
  exact if_pos ⟨h, q⟩
theorem ltD_int (i j : Int) : ltD (.int i) (.int j) = some (.bool (decide (i < j))) := rfl
theorem leD_int (i j : Int) : leD (.int i) (.int j) = some (.bool (decide (i ≤ j))) := rfl
theorem gtD_int (i j : Int) : gtD (.int i) (.int j) = some (.bool (decide (j < i))) := rfl
theorem geD_int (i j : Int) : geD (.int i) (.int j) = some (.bool (decide (j ≤ i))) := rfl
theorem negD_int (i : Int) : negD (.int i) = some (.int (-i)) := rfl
theorem absD_int (i : Int) : absD [.int i] = some (.int (if i < 0 then -i else i)) := rfl
theorem intD_bool (k : Bool) : intD [.bool k] = some (.int (if k then 1 else 0)) := rfl
theorem intD_int (i : Int) : intD [.int i] = some (.int i) := rfl
theorem lenD_list (xs : List D) : lenD [.list xs] = some (.int xs.length) := rfl
theorem lenD_tuple (xs : List D) : lenD [.tuple xs] = some (.int xs.length) := rfl
theorem lenD_scr (xs : List D) : lenD [.dict [(.list xs, .none)]] = some (.int xs.length) := rfl
theorem pow10_7 : powD (.int 10) (.int 7) = some (.int 10000000) := rfl
theorem pow10_18 : powD (.int 10) (.int 18) = some (.int 1000000000000000000) := rfl
theorem pow10_40 : powD (.int 10) (.int 40) = some (.int 10000000000000000000000000000000000000000) := rfl
theorem isD_none (d : D) : isD d .none = some (.bool (isNoneD d)) := by cases d <;> rfl
theorem isNotD_none (d : D) : isNotD d .none = some (.bool (!isNoneD d)) := by cases d <;> rfl
theorem shaped_int (i : Int) : SeqAt.shaped (.int i) = true := rfl
theorem shaped_bool (b : Bool) : SeqAt.shaped (.bool b) = true := rfl
theorem eqv_int (i j : Int) : PyData.eqv (.int i) (.int j) = decide (i = j) := by
  unfold PyData.eqv
  by_cases h : i = j
  · rw [decide_eq_true h, h]; exact beq_self_eq_true j
  · rw [decide_eq_false h]; exact beq_eq_false_iff_ne.mpr h
theorem eqv_bool (i j : Bool) : PyData.eqv (.bool i) (.bool j) = decide (i = j) := by
  unfold PyData.eqv
  cases i <;> cases j <;> rfl
theorem eqv_none : PyData.eqv .none .none = true := by unfold PyData.eqv; rfl
theorem eqD_ints (i j : Int) : eqD (.int i) (.int j) = some (.bool (decide (i = j))) := by
  rw [← eqv_int]; exact if_pos ⟨shaped_int i, shaped_int j⟩
theorem neD_ints (i j : Int) : neD (.int i) (.int j) = some (.bool (!decide (i = j))) := by
  rw [← eqv_int]; exact if_pos ⟨shaped_int i, shaped_int j⟩
theorem eqD_bools (i j : Bool) : eqD (.bool i) (.bool j) = some (.bool (decide (i = j))) := by
  rw [← eqv_bool]; exact if_pos ⟨shaped_bool i, shaped_bool j⟩
theorem neD_bools (i j : Bool) : neD (.bool i) (.bool j) = some (.bool (!decide (i = j))) := by
  rw [← eqv_bool]; exact if_pos ⟨shaped_bool i, shaped_bool j⟩
theorem eqD_of {a b : D} (ha : SeqAt.shaped a = true) (hb : SeqAt.shaped b = true) : eqD a b = some (.bool (PyData.eqv a b)) := if_pos ⟨ha, hb⟩
theorem ixD_list (xs : List D) (i : Int) : ixD (.list xs) (.int i) = atI xs i := by unfold ixD; rfl
theorem ixD_tuple (xs : List D) (i : Int) : ixD (.tuple xs) (.int i) = atI xs i := by unfold ixD; rfl
theorem ixD_scr (xs : List D) (i : Int) : ixD (.dict [(.list xs, .none)]) (.int i) = atI xs i := by unfold ixD; rfl
theorem atI_3_0 {α : Type} (a b c : α) : atI [a, b, c] 0 = some a := rfl
theorem atI_3_1 {α : Type} (a b c : α) : atI [a, b, c] 1 = some b := rfl
theorem atI_3_2 {α : Type} (a b c : α) : atI [a, b, c] 2 = some c := rfl
theorem ixN_3_0 : ixN 3 0 = some 0 := rfl
theorem ixN_3_1 : ixN 3 1 = some 1 := rfl
theorem ixN_3_2 : ixN 3 2 = some 2 := rfl
theorem atI_of {α : Type} {xs : List α} {i : Int} {n : Nat} {x : α} (hi : i = (n : Int)) (h : xs[n]? = some x) : atI xs i = some x := by
  subst hi
  exact atI_nat h
/-- the box: three ints -/
def GoodBox (n : Int) (box : List D) : Prop := ∃ a b c : Int, box = [.int a, .int b, .int c] ∧ 0 ≤ a ∧ 0 ≤ b ∧ b < 2 ^ 62 ∧ 0 ≤ c ∧ c ≤ n
theorem GoodBox.mono {n m : Int} {box : List D} (h : GoodBox n box) (hm : n ≤ m) : GoodBox m box := by
  obtain ⟨a, b, c, e, h1, h2, h3, h4, h5⟩ := h
  exact ⟨a, b, c, e, h1, h2, h3, h4, by omega⟩
theorem for_inv {k : GG} {b : GS} {ds : List D} (I : Nat → Rho → Prop) (step : ∀ i d ρ, ds[i]? = some d → I i ρ → ∃ ρ1, k d ρ = some ρ1 ∧ ∃ ρ2, (b ρ1 = .nx ρ2 ∨ b ρ1 = .ct ρ2) ∧ I (i + 1) ρ2) :
    ∀ {ρ : Rho}, I 0 ρ → ∃ ρ', forL k b ds ρ = .nx ρ' ∧ I ds.length ρ' := by
  have main : ∀ (es : List D) (j : Nat) (ρ : Rho), ds.drop j = es → I j ρ → ∃ ρ', forL k b es ρ = .nx ρ' ∧ I (j + es.length) ρ' := by
    intro es
    induction es with
    | nil => intro j ρ _ h; exact ⟨ρ, rfl, h⟩
    | cons d es ih =>
      intro j ρ hd h
      have hj : ds[j]? = some d := by
        have := congrArg List.head? hd
        rw [List.head?_drop] at this
        exact this
      have hd2 : ds.drop (j + 1) = es := by
        rw [← List.tail_drop, hd]; rfl
      obtain ⟨ρ1, e1, ρ2, e2, h2⟩ := step j d ρ hj h
      obtain ⟨ρ', e3, h3⟩ := ih (j + 1) ρ2 hd2 h2
      refine ⟨ρ', ?_, by rw [List.length_cons, show j + (es.length + 1) = j + 1 + es.length by omega]; exact h3⟩
      unfold forL
      rw [e1]
      rcases e2 with e2 | e2 <;> (dsimp only; rw [e2]; exact e3)
  intro ρ h
  obtain ⟨ρ', e, h'⟩ := main ds 0 ρ rfl h
  rw [Nat.zero_add] at h'
  exact ⟨ρ', e, h'⟩
/-- a comprehension whose turns leave the environment as it is -/
theorem lc_fm {vs : List Nat} {k : GG} {t : GT} {e : GE} {ρ : Rho} (f : D → Option D) : ∀ {ds : List D}, (∀ d ∈ ds, ∃ ρ1, k d ρ = some ρ1 ∧ wipeR ρ1 vs = ρ ∧ ((∃ y, f d = some y ∧ t ρ1 = .ok true ρ1 ∧ e ρ1 = .ok y ρ1) ∨ (f d = none ∧ t ρ1 = .ok false ρ1))) → lcL vs k t e ds ρ = .ok (ds.filterMap f) ρ
  | [], _ => rfl
  | d :: ds, h => by
    obtain ⟨ρ1, e1, ew, h1⟩ := h d List.mem_cons_self
    have ih := lc_fm (ds := ds) f fun x hx => h x (List.mem_cons_of_mem _ hx)
    unfold lcL
    rw [e1]
    dsimp only
    rcases h1 with ⟨y, fy, et, ee⟩ | ⟨fn, et⟩
    · rw [et, R.ok_bind, if_pos rfl, ee, R.ok_bind, ew, ih, List.filterMap_cons, fy]
      rfl
    · rw [et, R.ok_bind, if_neg Bool.false_ne_true, ew, ih, List.filterMap_cons, fn]
theorem lc_map {vs : List Nat} {k : GG} {t : GT} {e : GE} {ρ : Rho} (f : D → D) {ds : List D} (h : ∀ d ∈ ds, ∃ ρ1, k d ρ = some ρ1 ∧ wipeR ρ1 vs = ρ ∧ t ρ1 = .ok true ρ1 ∧ e ρ1 = .ok (f d) ρ1) : lcL vs k t e ds ρ = .ok (ds.map f) ρ := by
  rw [lc_fm (fun d => some (f d)) fun d hd => ?_]
  · show R.ok (ds.filterMap (some ∘ f)) ρ = _
    rw [List.filterMap_eq_map]
  · obtain ⟨ρ1, e1, e2, e3, e4⟩ := h d hd
    exact ⟨ρ1, e1, e2, .inl ⟨f d, rfl, e3, e4⟩⟩
theorem kt_ll : kitB "list" "list" = some true := by decide +kernel
theorem kt_lt : kitB "list" "tuple" = some false := by decide +kernel
theorem kt_ls : kitB "list" "str" = some false := by decide +kernel
theorem kt_li : kitB "list" "int" = some false := by decide +kernel
theorem kt_lb : kitB "list" "bool" = some false := by decide +kernel
theorem kt_tl : kitB "tuple" "list" = some false := by decide +kernel
theorem kt_tt : kitB "tuple" "tuple" = some true := by decide +kernel
theorem kt_ts : kitB "tuple" "str" = some false := by decide +kernel
theorem kt_ti : kitB "tuple" "int" = some false := by decide +kernel
theorem kt_tb : kitB "tuple" "bool" = some false := by decide +kernel
theorem kt_sl : kitB "str" "list" = some false := by decide +kernel
theorem kt_st : kitB "str" "tuple" = some false := by decide +kernel
theorem kt_ss : kitB "str" "str" = some true := by decide +kernel
theorem kt_si : kitB "str" "int" = some false := by decide +kernel
theorem kt_sb : kitB "str" "bool" = some false := by decide +kernel
theorem kt_il : kitB "int" "list" = some false := by decide +kernel
theorem kt_it : kitB "int" "tuple" = some false := by decide +kernel
theorem kt_is : kitB "int" "str" = some false := by decide +kernel
theorem kt_ii : kitB "int" "int" = some true := by decide +kernel
theorem kt_ib : kitB "int" "bool" = some false := by decide +kernel
theorem kt_bl : kitB "bool" "list" = some false := by decide +kernel
theorem kt_bt : kitB "bool" "tuple" = some false := by decide +kernel
theorem kt_bs : kitB "bool" "str" = some false := by decide +kernel
theorem kt_bi : kitB "bool" "int" = some true := by decide +kernel
theorem kt_bb : kitB "bool" "bool" = some true := by decide +kernel
theorem kt_nl : kitB "NoneType" "list" = some false := by decide +kernel
theorem kt_nt : kitB "NoneType" "tuple" = some false := by decide +kernel
theorem kt_ns : kitB "NoneType" "str" = some false := by decide +kernel
theorem kt_ni : kitB "NoneType" "int" = some false := by decide +kernel
theorem kt_nb : kitB "NoneType" "bool" = some false := by decide +kernel
theorem zipD_self : ∀ xs : List D, zipD xs xs = xs.map fun x => .tuple [x, x]
  | [] => rfl
  | x :: xs => by
    show _ :: zipD xs xs = _
    rw [zipD_self xs]; rfl
end DL
namespace DL
open PySem L2
section
variable {X : Cx} {K : PySem.W.Frag}
def rEqU (K : PySem.W.Frag) : R2 := fun x y H Q => rEqD K x y H Q ∨ rEq x y H Q
def rNeU (K : PySem.W.Frag) : R2 := fun x y H Q => rNeD K x y H Q ∨ rNe x y H Q
theorem op_eqU {k : Nat} (hr : Room k X.A) : OpR X (compareOp .Eq) (rEqU X.K) := opr_or (op_eqD hr.units) op_eq
theorem op_neU {k : Nat} (hr : Room k X.A) : OpR X (compareOp .NotEq) (rNeU X.K) := opr_or (op_neD hr.units) op_ne
def eqS : D → D → Option D
  | .str x, .str y => some (.bool (decide (x = y)))
  | _, _ => none
def neS : D → D → Option D
  | .str x, .str y => some (.bool (!decide (x = y)))
  | _, _ => none
def eqW (a b : D) : Option D := (eqS a b).orElse fun _ => eqD a b
def neW (a b : D) : Option D := (neS a b).orElse fun _ => neD a b
theorem str_inj (x y : Str) : decide (V.str x = V.str y) = decide (x = y) := by
  by_cases h : x = y
  · rw [decide_eq_true h, h]; exact decide_eq_true rfl
  · rw [decide_eq_false h]; exact decide_eq_false fun z => h (V.str.inj z)
theorem sn_eqS : Sn2 K (rEqU K) eqS := fun b0 B Z0 Z H σ ρ x y a b c Q ok ha hb e q => by
  unfold eqS at e
  split at e
  · cases e; cases ha; cases hb
    exact .inr ⟨rfl, by rw [str_inj]; exact q _ H Z ok (Same.refl Z) (.bl _)⟩
  · cases e
theorem sn_neS : Sn2 K (rNeU K) neS := fun b0 B Z0 Z H σ ρ x y a b c Q ok ha hb e q => by
  unfold neS at e
  split at e
  · cases e; cases ha; cases hb
    exact .inr ⟨rfl, by rw [str_inj]; exact q _ H Z ok (Same.refl Z) (.bl _)⟩
  · cases e
theorem sn_eqW : Sn2 K (rEqU K) eqW := sn2_or sn_eqS (sn2_mono sn_eq fun _ _ _ _ h => .inl h)
theorem sn_neW : Sn2 K (rNeU K) neW := sn2_or sn_neS (sn2_mono sn_ne fun _ _ _ _ h => .inl h)
theorem eqW_ints (i j : Int) : eqW (.int i) (.int j) = some (.bool (decide (i = j))) := eqD_ints i j
theorem neW_ints (i j : Int) : neW (.int i) (.int j) = some (.bool (!decide (i = j))) := neD_ints i j
theorem eqW_bools (i j : Bool) : eqW (.bool i) (.bool j) = some (.bool (decide (i = j))) := eqD_bools i j
theorem neW_bools (i j : Bool) : neW (.bool i) (.bool j) = some (.bool (!decide (i = j))) := neD_bools i j
theorem eqW_strs (x y : Str) : eqW (.str x) (.str y) = some (.bool (decide (x = y))) := rfl
theorem neW_strs (x y : Str) : neW (.str x) (.str y) = some (.bool (!decide (x = y))) := rfl
theorem eqW_none : eqW .none .none = some (.bool true) := by
  show eqD .none .none = _
  rw [eqD_of rfl rfl, eqv_none]
theorem eqW_in (i : Int) : eqW .none (.int i) = some (.bool false) := by
  show eqD .none (.int i) = _
  rw [eqD_of rfl rfl]; unfold PyData.eqv; rfl
theorem eqW_ni (i : Int) : eqW (.int i) .none = some (.bool false) := by
  show eqD (.int i) .none = _
  rw [eqD_of rfl rfl]; unfold PyData.eqv; rfl
end
structure Shw (h L : Nat) (d : D) : Prop where
  sh : d.showable = true
  nd : d.hasDict = false
  dp : d.depth ≤ h
  ln : d.shown.length ≤ L
theorem Shw.mono {h h' L L' : Nat} {d : D} (s : Shw h L d) (a : h ≤ h') (b : L ≤ L') : Shw h' L' d := ⟨s.sh, s.nd, Nat.le_trans s.dp a, Nat.le_trans s.ln b⟩
theorem nc0 : ((0 : Nat) : Int) = 0 := rfl
theorem nc1 : ((1 : Nat) : Int) = 1 := rfl
theorem nc2 : ((2 : Nat) : Int) = 2 := rfl
theorem nc3 : ((3 : Nat) : Int) = 3 := rfl
theorem nc4 : ((4 : Nat) : Int) = 4 := rfl
theorem nc5 : ((5 : Nat) : Int) = 5 := rfl
theorem nc6 : ((6 : Nat) : Int) = 6 := rfl
theorem nc7 : ((7 : Nat) : Int) = 7 := rfl
theorem nc8 : ((8 : Nat) : Int) = 8 := rfl
theorem nc9 : ((9 : Nat) : Int) = 9 := rfl
theorem nc10 : ((10 : Nat) : Int) = 10 := rfl
theorem nc11 : ((11 : Nat) : Int) = 11 := rfl
theorem nc12 : ((12 : Nat) : Int) = 12 := rfl
theorem nc13 : ((13 : Nat) : Int) = 13 := rfl
theorem nc14 : ((14 : Nat) : Int) = 14 := rfl
theorem nc15 : ((15 : Nat) : Int) = 15 := rfl
theorem nc16 : ((16 : Nat) : Int) = 16 := rfl
theorem nc17 : ((17 : Nat) : Int) = 17 := rfl
theorem nc18 : ((18 : Nat) : Int) = 18 := rfl
theorem nc19 : ((19 : Nat) : Int) = 19 := rfl
theorem nc20 : ((20 : Nat) : Int) = 20 := rfl
end DL
namespace DL
open PySem L2
section
variable {K : PySem.W.Frag} {Wx : WX} {ta tb te td : TE} {tt tu : TT} {tas : TA} {t u rest : TS} {b0 : Bx} {B Bf Z0 Z H : Hp} {σ : L2.St} {ρ : Rho} {p : Addr} {o o' : HO}
/-- the frames: new lists and what they hold -/
inductive NwA (K : PySem.W.Frag) (B Z0 Bf Z : Hp) : List V → List Nw → Prop
  | nil : NwA K B Z0 Bf Z [] []
  | s {v : V} {vs : List V} {d : D} {ns : List Nw} : Rp K Z v d → NwA K B Z0 Bf Z vs ns → NwA K B Z0 Bf Z (v :: vs) (.s d :: ns)
  | f {q : Addr} {ws vs : List V} {ds : List D} {ns : List Nw} : Bf q = some (.lst ws) → B q = none → Z0 q = none → RpA K Z ws ds → NwA K B Z0 Bf Z vs ns → NwA K B Z0 Bf Z (.ref q :: vs) (.f ds :: ns)
def Nw.dat : Nw → D
  | .s d => d
  | .f ds => .list ds
def nlNil (ρ : Rho) : R (List Nw) := .ok [] ρ
def nlCons (g : Rho → R Nw) (r : Rho → R (List Nw)) (ρ : Rho) : R (List Nw) := (g ρ).bind fun n ρ1 => (r ρ1).map (n :: ·)
theorem NwA.mono {Z' Bf' : Hp} (s : Same Z Z') (b : Same Bf Bf') : ∀ {vs : List V} {ns : List Nw}, NwA K B Z0 Bf Z vs ns → NwA K B Z0 Bf' Z' vs ns
  | _, _, .nil => .nil
  | _, _, .s h r => .s (h.mono s) (NwA.mono s b r)
  | _, _, .f h1 h2 h3 h4 r => .f (b _ _ h1) h2 h3 (h4.mono s) (NwA.mono s b r)
theorem NwA.rp (sz : Same Z H) (sb : Same Bf H) : ∀ {vs : List V} {ns : List Nw}, NwA K B Z0 Bf Z vs ns → RpA K H vs (ns.map Nw.dat)
  | _, _, .nil => .nil
  | _, _, .s h r => .cons (h.mono sz) (NwA.rp sz sb r)
  | _, _, .f h1 _ _ h4 r => .cons (.lst (sb _ _ h1) (h4.mono sz)) (NwA.rp sz sb r)
theorem NwA.len : ∀ {vs : List V} {ns : List Nw}, NwA K B Z0 Bf Z vs ns → vs.length = ns.length
  | _, _, .nil => rfl
  | _, _, .s _ r => by rw [List.length_cons, List.length_cons, NwA.len r]
  | _, _, .f _ _ _ _ r => by rw [List.length_cons, List.length_cons, NwA.len r]
theorem NwA.get : ∀ {vs : List V} {ns : List Nw} {j : Nat} {ds : List D}, NwA K B Z0 Bf Z vs ns → ns[j]? = some (.f ds) → ∃ q ws, vs[j]? = some (.ref q) ∧ Bf q = some (.lst ws) ∧ B q = none ∧ Z0 q = none ∧ ws.length = ds.length
  | _, _, j, _, .nil, h => by simp at h
  | _, _, 0, _, .s _ _, h => by simp at h
  | _, _, 0, _, .f (q := q) (ws := ws) h1 h2 h3 h4 _, h => by
    simp at h
    subst h
    exact ⟨q, ws, rfl, h1, h2, h3, h4.length⟩
  | _, _, j + 1, ds, .s _ r, h => by
    obtain ⟨q, ws, e, z⟩ := NwA.get (j := j) (ds := ds) r (by simpa using h)
    exact ⟨q, ws, by simpa using e, z⟩
  | _, _, j + 1, ds, .f _ _ _ _ r, h => by
    obtain ⟨q, ws, e, z⟩ := NwA.get (j := j) (ds := ds) r (by simpa using h)
    exact ⟨q, ws, by simpa using e, z⟩
def isF (k : Nat) : Option Nw → Bool
  | some (.f ds) => decide (ds.length + k ≤ sizeLine)
  | _ => false
end
end DL
namespace DL
open PySem L2
section
variable {K : PySem.W.Frag} {Wx : WX} {ta tb te td : TE} {tt tu : TT} {tas : TA} {t u rest tail : TS} {b0 : Bx} {B Bf Z0 Z H : Hp} {σ : L2.St} {ρ : Rho} {p : Addr} {o o' : HO}
def mSet (i : Nat) (ρ : Rho) : Option Rho := if i < ρ.length then some (ρ.set i .no) else none
/-- h = [..]; if not same(h, due): return False; the tail -/
def sHeardT (h : Nat) (gn : Rho → R (List Nw)) (Fs : List D → Option D) (gd : GE) (js : List Nat) (m : Rho → Option Rho) (rest : GS) (ρ : Rho) : O := (gn ρ).to fun ns ρ1 => if ns.length ≤ sizeLine ∧ h < ρ1.length ∧ js.length ≤ sizeLine then (gd (ρ1.set h .no)).to fun due ρ2 => match Fs [.list (ns.map Nw.dat), due] with
    | some (.bool true) => if js.all (fun j => isF js.length ns[j]?) then (match m (ρ2.set h .no) with | some ρ3 => rest ρ3 | none => .bad) else .bad
    | some (.bool false) => .rt (.bool false) (ρ2.set h .no)
    | _ => .bad
  else .bad
end
end DL
namespace DL
open PySem L2
section
variable {K : PySem.W.Frag} {Wx : WX} {ta tb tc te td : TE} {tas : TA}
def idL {α : Type} (x : List α) : List α := x
def sPar3 (i j l : Nat) (a b c : Rho → R Nw) (ρ : Rho) : O := (a ρ).to fun x ρ1 => (b ρ1).to fun y ρ2 => (c ρ2).to fun z ρ3 => .nx (((ρ3.set i x.sl).set j y.sl).set l z.sl)
theorem ds_par3s {i j l : Nat} {a b c : GE} (ha : DE K ta a) (hb : DE K tb b) (hc : DE K tc c) : DS K Wx (tPar3 i j l (tCons ta (tCons tb (tCons tc tNil)))) (sPar3 i j l (nS a) (nS b) (nS c)) := fun b0 B Z0 Z H σ ρ E ok s => by
  obtain ⟨x, ρ1, e1, s⟩ := Sat.to s
  obtain ⟨y, ρ2, e2, s⟩ := Sat.to s
  obtain ⟨z, ρ3, e3, s⟩ := Sat.to s
  obtain ⟨dx, f1, rfl⟩ := R.map_ok e1
  obtain ⟨dy, f2, rfl⟩ := R.map_ok e2
  obtain ⟨dz, f3, rfl⟩ := R.map_ok e3
  refine ha b0 B Z0 Z H σ ρ dx ρ1 _ ok f1 fun v H1 Z1 ok1 s1 r1 => ?_
  refine hb b0 B Z0 Z1 H1 σ ρ1 dy ρ2 _ ok1 f2 fun w H2 Z2 ok2 s2 r2 => ?_
  refine hc b0 B Z0 Z2 H2 σ ρ2 dz ρ3 _ ok2 f3 fun u H3 Z3 ok3 s3 r3 => ?_
  exact ⟨v, w, u, rfl, s _ H3 Z3 (((ok3.put (r1.mono (s2.trans s3))).put (r2.mono s3)).put r3)⟩
end
end DL
namespace DL
open PySem L2
section
variable {K : PySem.W.Frag} {Wx : WX} {te : TE}
theorem RpA.snoc {Z : Hp} {v : V} {d : D} (r : Rp K Z v d) : ∀ {vs : List V} {ds : List D}, RpA K Z vs ds → RpA K Z (vs ++ [v]) (ds ++ [d])
  | _, _, .nil => .cons r .nil
  | _, _, .cons h t => .cons h (RpA.snoc r t)
end
end DL
namespace DLX
open PySem PySem.W PySem.Calls PyProof.Rows PySem.HandSPX
open Builtin Builtin.ObjectAttr
/-- the built-in class B: what is asked of it -/
structure Bs (B nw ini : String) (tl : List Value) : Prop where
  f : ExcBaseFacts B nw ini tl
  s : StoreFacts B tl "object.__setattr__" "object"
  ty : typeOf (.type B) = pure (.type "type")
  ob : tl.contains (.type "object") = true
  st : Manifest.isStub B = false
  hi : PySem.W.handedIn (.builtin ini) = true
theorem bs_V : Bs "ValueError" "ValueError.__new__" "ValueError.__init__" [.type "ValueError", .type "Exception", .type "BaseException", .type "object"] := ⟨F.excBase_ValueError, F.store_ValueError, by kernel_rfl, by decide +kernel, by decide +kernel, by decide +kernel⟩
theorem bs_L : Bs "LookupError" "LookupError.__new__" "LookupError.__init__" [.type "LookupError", .type "Exception", .type "BaseException", .type "object"] := ⟨F.excBase_LookupError, F.store_LookupError, by kernel_rfl, by decide +kernel, by decide +kernel, by decide +kernel⟩
theorem bs_R : Bs "RuntimeError" "RuntimeError.__new__" "RuntimeError.__init__" [.type "RuntimeError", .type "Exception", .type "BaseException", .type "object"] := ⟨F.excBase_RuntimeError, F.store_RuntimeError, by kernel_rfl, by decide +kernel, by decide +kernel, by decide +kernel⟩
theorem bs_O : Bs "OverflowError" "OverflowError.__new__" "OverflowError.__init__" [.type "OverflowError", .type "ArithmeticError", .type "Exception", .type "BaseException", .type "object"] := ⟨F.excBase_OverflowError, F.store_OverflowError, by kernel_rfl, by decide +kernel, by decide +kernel, by decide +kernel⟩
section
variable {prog : Program} {w : World} {A : Around} {R : Result → Shared → Prop} {hp : Heap} {g : Array GenState} {d : Drawn} {t : Nat} {os : OsState} {B nw ini : String} {tl : List Value}
/-- the first field of an exception of an own class -/
theorem osa1 {K : W.Frag} {f : Str} {tk : Tok} {v : Value} {x C : Addr} {fv : Array Value} {cd : ClassData} (bs : Bs B nw ini tl) (KX : K.In hp) (hx : hp.get? x = some { cls := .ref C, data := .fields fv }) (hcd : W.clsIn K C = some cd) (hm : cd.mro = .ref C :: tl) (hh : cd.hasDict = true) (ha : W.findIn K (.ref C) f = some none)
    (hq : ∀ h' tk' dx, (∀ b o, b ≠ x → hp.get? b = some o → h'.get? b = some o) → hp.objs.size ≤ dx → dx ≠ x → h'.get? x = some { cls := .ref C, dict := some dx, data := .fields fv } → h'.Ns1 dx (fun y => if y = f then some v else none) → R (.ok (.ret .none)) ⟨h', g, d, tk', os⟩) :
    codeAny (model prog w) A (.call (.builtin "object.__setattr__") ⟨[.ref x, .str f tk, v], []⟩) R ⟨hp, g, d, t, os⟩ := by
  have J : W.InstAt hp x { cls := .ref C, data := .fields fv } C none := ⟨hx, rfl, rfl, trivial⟩
  have ne : cd.mro.isEmpty = false := by rw [hm]; rfl
  have hob : cd.mro.contains (.type "object") = true := by rw [hm, List.contains_cons, bs.ob, Bool.or_true]
  have hps : refuseLoop (.ref x) "__setattr__" cd.mro = pure () := by rw [hm, refuseLoop_ref]; exact bs.s.passes _
  have xlt : x ≠ hp.objs.size := Nat.ne_of_lt (Heap.lt_size hx)
  have sub : W.Looks (model prog w) hp (isInstance (.ref x) (.type "object")) true := J.type.andThen (W.looks_mroIn KX (by unfold W.mroIn; rw [hcd, Option.bind_some, if_neg (by rw [ne]; decide), hob]))
  have S0 := F.store_object
  refine codeAny_call_builtin S0.slot.plain S0.entry (@W.check_slot (model prog w) _ _ ⟨hp, g, d, t, os⟩ "object.__setattr__" "object" "__setattr__" (.ref x) [.str f tk, v] [] _ S0.kind S0.split sub (S0.args (.ref x) (.str f tk) v) ?_)
  have mr : W.Looks (model prog w) hp (mroOf (.ref C)) cd.mro := (W.looks_clsIn KX hcd).andThen .now
  have nt : W.Looks (model prog w) hp (storeTaker? none) none := .now
  have cl : W.Looks (model prog w) hp (classData C) cd := W.looks_clsIn KX hcd
  rw [W.osa_eq, refuse_eq]
  refine wpAny_bind (wpAny_bind (J.type.at (wpAny_bind (mr.at ?_))))
  rw [hps]
  refine wpAny_pure (wpAny_bind (J.type.at (wpAny_bind ((W.looks_findIn KX ha).at (wpAny_bind (nt.at ?_))))))
  show wpAny _ _ (storeInOwnDict (.ref x) (.ref C) (.str f tk) f v false) _ _ _
  obtain ⟨nm, bs', mro, ns, qn, hd, sn, sb, ab, col, del⟩ := cd
  dsimp only at hh
  subst hh
  unfold storeInOwnDict ownDictForStores
  repeat (first | with_reducible refine store_in_new ?_ ?_ | with_reducible refine wpAny_loadPart_at hx ?_ | with_reducible refine cl.at ?_ | wp_step)
  · exact ⟨_, #[], _, (Heap.get?_update_ne _ _ _ _ xlt.symm).trans (Heap.get?_push_at rfl rfl), rfl, fun e he => absurd he (by simp), fun _ => rfl⟩
  · intro h' tk' hn' hs
    have hx1 : (hp.push { cls := .type "dict", data := .dict #[] }).get? x = some { cls := .ref C, data := .fields fv } := Heap.get?_push_of_some _ hx
    exact hq h' tk' hp.objs.size (fun b o hb ho => (hs.2 b (Nat.ne_of_lt (Heap.lt_size ho))).trans ((Heap.get?_update_ne _ _ _ _ hb).trans (Heap.get?_push_of_some _ ho))) (Nat.le_refl _) xlt.symm ((hs.2 x xlt).trans (Heap.get?_update_self _ hx1 rfl)) hn'
end
end DLX
namespace DL
open PySem PySem.Spec PyProof.Rows L2 DLX
/-- what the written part says of an own class C straight over a built-in one -/
structure OxC (K : PySem.W.Frag) (nw : String) (tl : List Value) (C : Addr) : Prop where
  cls : ∃ nm q N bs sn sub ab col dd k0 k1 k2 k3 k5, K.lookup C = some (excClassObj nm q C N bs tl true sn sub ab col dd k0 k1 k2 k3 k5 nw)
  sa : PySem.W.findIn K (.ref C) "__setattr__" = some (some (.builtin "object.__setattr__"))
  ex : PySem.W.subIn K (.ref C) (.type "BaseException") = some true
  ty : PySem.W.typeIn K (.ref C) = some (.type "type")
  kp : PySem.W.keepIn K (.ref C) = true
section
variable {X : Cx} {pins : List (Addr × Obj)} {σ : L2.St} {H : Hp} {s : Shared} {a C dx : Addr} {f : Str} {y : V} {u : Value} {E : Value → Shared → Prop} {A : Around} {B nw ini : String} {tl : List Value}
theorem ox_store {Q : Unit → Shared → Prop} (bs : Bs B nw ini tl) (T : OxC X.K nw tl C) (I : Inv X pins σ H s) (e : H a = some (exo a C none)) (hno : PySem.W.findIn X.K (.ref C) f = some none) (ry : RelV y u)
    (h : ∀ dx s', H dx = none → dx ≠ a → Inv X pins σ (upd (upd H dx (exd dx [(f, y)])) a (exo a C (some dx))) s' → Q () s') : wpAny (model X.prog X.w) A (setAttr (.ref a) f u) Q E s := by
  obtain ⟨nm, q, N, bss, sn, sub, ab, col, dd, k0, k1, k2, k3, k5, hC⟩ := T.cls
  have hcl : PySem.W.clsIn X.K C = some { name := nm, bases := bss, mro := .ref C :: tl, ns := N, qualname := q, hasDict := true, slotNames := sn, subclasses := sub, abstract := ab, collection := col, hasDel := false } := by
    unfold PySem.W.clsIn
    rw [hC] <;> rfl
  obtain ⟨t1, ho⟩ := exo_at I.hok e
  obtain ⟨hp, g, d, t, os⟩ := s
  refine PySem.W.set_plain I.kIn (ox := { cls := .ref C, dict := none, data := .fields #[.ref t1, .none, .none, .none, .bool false, .none] }) (od := none) ⟨ho, rfl, rfl, trivial⟩ T.sa (osa1 bs I.kIn ho hcl rfl rfl hno fun h' tk' dx k dn dne hx hn => ?_)
  have fd : H dx = none := I.hok.fresh dn
  have nd : ∀ {b : Addr} {o : Obj}, hp.get? b = some o → b ≠ dx := fun q => Nat.ne_of_lt (Nat.lt_of_lt_of_le (Heap.lt_size q) dn)
  have na : ∀ {b : Addr}, H b = none → b ≠ a := fun n z => by rw [z, e] at n; cases n
  have U : Un X.fs [] H (upd (upd H dx (exd dx [(f, y)])) a (exo a C (some dx))) hp h' := by
    constructor
    · exact fun b o q n _ _ => k b o (na n) q
    · exact fun b o q n _ _ => ⟨o.slots, k b o (na n) q⟩
    · intro b o q n _
      rw [upd_ne (na n), upd_ne (nd q)]; exact n
    · intro b o q _
      by_cases hb : b = a
      · exact ⟨_, hb ▸ hx⟩
      · exact ⟨o, k b o hb q⟩
    · intro b xs q
      rw [upd_ne (at_ne e q exo_tup), upd_ne (ne_of_none q fd)]; exact q
    · intro b o v q
      rw [upd_ne (at_ne e q exo_frz), upd_ne (ne_of_none q fd)]; exact q
    · intro b ps q
      exact ⟨#[], by rw [upd_ne (at_ne e q exo_tbl), upd_ne (ne_of_none q fd), q]; simp⟩
  refine h dx _ fd dne (I.un (t' := tk') U fun b o q => ?_)
  by_cases hb : b = a
  · subst hb
    rw [upd_same] at q; cases q; exact exo_ok hx
  · rw [upd_ne hb] at q
    by_cases hd : b = dx
    · subst hd
      rw [upd_same] at q; cases q
      exact exd_ok hn (relO_put (fs := []) ry fun g => True.intro)
    · rw [upd_ne hd] at q
      refine (I.hok b o q).stay (fun c v hc z => k c v (hc.elim (fun hc => hc ▸ hb) fun hc => at_ne e hc exo_own) z) (fun c hc => ?_) fun c xs hc => ?_
      · rw [upd_ne (at_ne e hc exo_own), upd_ne (ne_of_none hc fd)]; exact hc
      · rw [upd_ne (at_ne e hc exo_tup), upd_ne (ne_of_none hc fd)]; exact hc
theorem ox_init {us : List Value} {Q : Value → Shared → Prop} (bs : Bs B nw ini tl) (T : OxC X.K nw tl C) (I : Inv X pins σ H s) (e : H a = some (exo a C none)) (hl : us.length ≤ sizeLine) (h : ∀ s', Inv X pins σ H s' → Q .none s') :
    wpAny (model X.prog X.w) A (call (.builtin ini) (.ref a :: us)) Q E s := by
  obtain ⟨nm, q, N, bss, sn, sub, ab, col, dd, k0, k1, k2, k3, k5, hC⟩ := T.cls
  obtain ⟨t1, ho⟩ := exo_at I.hok e
  obtain ⟨hp, g, d, t, os⟩ := s
  refine wpAny_call (PySem.HandSPX.init_base bs.f (fun Y => rfl) (I.kIn _ _ hC) ho hl fun h' t2 k hx => ?_)
  have J := I.write (t' := t) (x := a) (e := a) (o := exo a C none) (by rw [e]; exact True.intro) (.inl rfl) k ⟨_, hx⟩ (exo_ok hx)
  have eu : upd H a (exo a C none) = H := funext fun b => by
    by_cases hb : b = a
    · rw [hb, upd_same, e]
    · rw [upd_ne hb]
  exact h _ (eu ▸ J)
end
/-- B.__init__(self, x) -/
def tBIni (K : PySem.W.Frag) (nw : String) (tl : List Value) (ta : TA) : TE := fun σ H Q => ta σ H fun vs H1 => ∃ (a C : Addr) (ws : List V), vs = .ref a :: ws ∧ ws.length ≤ 1000 ∧ OxC K nw tl C ∧ H1 a = some (exo a C none) ∧ Q .non H1
/-- self.f = x -/
def tFld (K : PySem.W.Frag) (nw : String) (tl : List Value) (f : Str) (to te : TE) : TS := fun D σ H => te σ H fun y H1 => to σ H1 fun x H2 => ∃ a C : Addr, x = .ref a ∧ OxC K nw tl C ∧ PySem.W.findIn K (.ref C) f = some none ∧
  H2 a = some (exo a C none) ∧ ∀ dx, H2 dx = none → dx ≠ a → D.nx σ (upd (upd H2 dx (exd dx [(f, y)])) a (exo a C (some dx)))
section
variable {X : Cx} {o e : Expr} {es : List Expr} {to te : TE} {ta : TA} {f : Str} {p p' p1 p2 pos : Pos} {B nw ini : String} {tl : List Value}
theorem pe_bini {pl : Sem Bool} {BS : Str} (bs : Bs B nw ini tl) (hg : Gl X BS) (hm : X.mg BS = none) (hbt : bootBuiltins BS = some (.type B)) (hnn : BS ≠ "__name__") (hdb : (BS == ("__debug__" : Str)) = false) (vV : PySem.W.findCls X.K (.type B) (.type "type") "__init__" = some (.val (.builtin ini)))
    (ha : PA X (e :: es) ta)
    (hc : eval (.Call (.Attribute (.Name BS p1) "__init__" p2) (e :: es) [] pos) X.env = (do
      let ov ← eval (.Name BS p1) X.env
      standAt p2.atName
      let (fv, first) ← holding [ov] (getMethod ov "__init__" pl)
      callWith pos fv first (backTo pos (starEach (e :: es) X.env)) (backToKw pos (keywordEach [] X.env))) := by rfl)
    (he : starEach (e :: es) X.env = (false, eval e X.env) :: starEach es X.env := by rfl) (hpl : (backTo pos (starEach es X.env)).any (·.1) = false := by rfl) :
    PE X (.Call (.Attribute (.Name BS p1) "__init__" p2) (e :: es) [] pos) (tBIni X.K nw tl ta) := by
  refine ⟨fun pins s σ H Q I h => ?_⟩
  refine PySem.W.methodCall_KW (ld_blt I hg hm hbt ?_ hnn hdb) hc
  obtain ⟨m, fr⟩ := I.fr
  refine PySem.W.method_type fr I.ok.mod.kin bs.ty bs.st vV bs.hi ?_
  show wpAny _ _ (callWith pos (Value.builtin ini) [] (backTo pos (starEach (e :: es) X.env)) []) _ _ _
  refine PyProof.Rows.callWith_method1 (thn (ha.run pos pins _ σ H _ (I.tok _) h) fun us s1 hh => ?_) he hpl
  obtain ⟨vs, H1, I1, r1, a, C, ws, rfl, hl, T, ea, q⟩ := hh
  cases r1 with
  | @cons _ u0 _ ur ra rw' =>
    obtain rfl : u0 = Value.ref a := ra
    exact ox_init bs T I1 ea (by rw [← Paired.length rw', sizeLine_eq]; omega) fun s' J => ⟨.non, H1, J, rfl, q⟩
theorem ps_fld (bs : Bs B nw ini tl) (ho : PE X o to) (he : PE X e te) (hs : swapsWith e (some (.Attribute o f p')) pos.line X.env = pure false := by rfl) : PS X (.Assign [.Attribute o f p'] e pos) (tFld X.K nw tl f to te) := by
  refine ⟨fun pins s σ H D I h => plainObj_wpAny_Assign_Attribute (thn (he.run pins s σ H _ I h) fun v s1 hh => ?_) hs⟩
  obtain ⟨y, H1, I1, r1, q1⟩ := hh
  refine thn (ho.run pins s1 σ H1 _ I1 q1) fun u s2 hh => ?_
  obtain ⟨x, H2, I2, r2, a, C, rfl, T, hno, ea, q⟩ := hh
  obtain rfl : u = Value.ref a := r2
  exact ox_store bs T I2 ea hno r1 fun dx s' n ne J => ⟨σ, _, J, q dx n ne⟩
end
/-- the promise of such an __init__ -/
def spIni (K : PySem.W.Frag) (nw : String) (tl : List Value) (f : Str) : Sp := fun vs H Q _ => ∃ (a C : Addr) (v : V), vs = [.ref a, v] ∧ OxC K nw tl C ∧ PySem.W.findIn K (.ref C) f = some none ∧ H a = some (exo a C none) ∧ ∀ dx, H dx = none → dx ≠ a → Q .non (upd (upd H dx (exd dx [(f, v)])) a (exo a C (some dx)))
theorem ini_run {K : PySem.W.Frag} {nw : String} {tl : List Value} {f : Str} {N : List Str} {vs : List V} {H : Hp} {Q : VK} {E : XK} (h : spIni K nw tl f vs H Q E) (hN : N.length = 2) :
    tSeq (tDrop (tBIni K nw tl (tCons (tVar 0) (tCons (tVar 1) tNil)))) (tFld K nw tl f (tVar 0) (tVar 1)) { nx := fun _ H' => Q .non H', rt := Q } (L2.start N vs) H := by
  obtain ⟨a, C, v, rfl, T, hno, ea, q⟩ := h
  have e0 : (L2.start N [.ref a, v])[0]? = some (some (.ref a)) := rfl
  have e1 : (L2.start N [.ref a, v])[1]? = some (some v) := rfl
  exact ⟨_, e0, _, e1, a, C, [v], rfl, (by decide : 1 ≤ 1000), T, ea, _, e1, _, e0, a, C, rfl, T, hno, ea, q⟩
end DL
namespace DL
open PySem PySem.Spec PyProof.Rows L2 DLX
/-- raise C(e): what is wished -/
def tMk1 (C : Addr) (f : Str) (ta : TA) : L2.St → Hp → XK → Prop := fun σ H Q => ta σ H fun vs H1 => ∃ v, vs = [v] ∧ ∀ d, H1 d = none → Q (.ref C) (some d) (upd H1 d (.xd [(f, v)]))
/-- all that is asked of a class with its __init__ -/
structure OxI (P : Program) (w : World) (K : PySem.W.Frag) (mg : Str → Option Value) (base : Heap) (nw : String) (tl : List Value) (C : Addr) (f : Str) : Prop where
  c : OxC K nw tl C
  no : PySem.W.findIn K (.ref C) f = some none
  i : ∃ (fI : Addr) (fd : FuncData), PySem.W.findIn K (.ref C) "__init__" = some (some (.ref fI)) ∧ PySem.W.typeIn K (.ref fI) = some (.type "function") ∧ FnOk P w K mg base CX0 1 fI fd ["self", f] (spIni K nw tl f) ∧ Binds K fd ["self", f] []
section
variable {X : Cx} {e : Expr} {ta : TA} {f x : Str} {p pos : Pos} {C : Addr} {B nw ini : String} {tl : List Value}
/-- the making of C(u): the walk that both rules share -/
theorem ox_call {pins : List (Addr × Obj)} {σ : L2.St} {H1 : Hp} {s1 : Shared} {v : V} {u : Value} {Q : Value → Shared → Prop} {EE : Value → Shared → Prop} (bs : Bs B nw ini tl) (T : OxI X.prog X.w X.K X.mg X.base nw tl C f) (hr : Room 2 X.A) (I1 : Inv X pins σ H1 s1) (r : RelV v u)
    (h : ∀ (a d : Addr) (k2 : Heap) (H2 : Hp) (s2 : Shared), s1.heap.objs.size ≤ a → (∀ b o, s1.heap.get? b = some o → k2.get? b = some o) → H1 a = none → H1 d = none → d ≠ a → H2 = upd (upd (upd H1 a (exo a C none)) d (exd d [(f, v)])) a (exo a C (some d)) →
      Un (frs X.stack) [] (upd H1 a (exo a C none)) H2 k2 s2.heap → HOk X.prog X.w H2 s2.heap → s2.os = s1.os → AllBare s2.gens → Inv X pins σ H2 s2 → Q (.ref a) s2) :
    wpAny (model X.prog X.w) X.A (call (.ref C) [u]) Q EE s1 := by
  obtain ⟨nm, q, N, bss, sn, sub, ab, col, dd, k0, k1, k2, k3, k5, hC⟩ := T.c.cls
  obtain ⟨fI, fd, iC, tI, F1, hb⟩ := T.i
  obtain ⟨hp, g, dr, tk, os⟩ := s1
  have up1 : hp.objs.size ≤ hp.objs.size + 1 := Nat.le_succ _
  have fr1 : H1 (hp.objs.size + 1) = none := I1.hok.fresh up1
  have kk : ∀ b o, hp.get? b = some o → ((hp.push (PySem.W.kdv_tup [u])).push (PySem.HandSPX.excO C hp.objs.size)).get? b = some o := fun b o e => Heap.get?_push_of_some _ (Heap.get?_push_of_some _ e)
  have hget : ((hp.push (PySem.W.kdv_tup [u])).push (PySem.HandSPX.excO C hp.objs.size)).get? (hp.objs.size + 1) = some (PySem.HandSPX.excO C hp.objs.size) := by heap_get
  have I2 : Inv X pins σ (upd H1 (hp.objs.size + 1) (exo (hp.objs.size + 1) C none)) ⟨(hp.push (PySem.W.kdv_tup [u])).push (PySem.HandSPX.excO C hp.objs.size), g, dr, tk, os⟩ := I1.laid (t' := tk) kk up1 (exo_ok hget)
  have r2 : Vals [V.ref (hp.objs.size + 1), v] [Value.ref (hp.objs.size + 1), u] := .cons rfl (.cons r .nil)
  refine wpAny_call (PySem.HandSPX.call_own bs.f (fun Y => rfl) (I1.kIn _ _ hC) (PySem.W.looks_findIn I1.kIn iC) (fun self => PySem.W.bind_fn I1.kIn self tI) (by rw [sizeLine_eq]; show 1 ≤ 16777216; decide)
    (codeAny_mono (F1.run _ X.stack _ (upd H1 (hp.objs.size + 1) (exo (hp.objs.size + 1) C none)) ⟨[.ref (hp.objs.size + 1), u], []⟩ [.ref (hp.objs.size + 1), u] [.ref (hp.objs.size + 1), v]
      (fun v' H2 => v' = .non ∧ ∃ d, H1 d = none ∧ d ≠ hp.objs.size + 1 ∧ H2 = upd (upd (upd H1 (hp.objs.size + 1) (exo (hp.objs.size + 1) C none)) d (exd d [(f, v)])) (hp.objs.size + 1) (exo (hp.objs.size + 1) C (some d))) (fun _ _ _ => False)
      (hr.make C [u] []) (I2.env0.make C [u] []) (by have := hb _ [.ref (hp.objs.size + 1), u] I2.kIn rfl; rw [List.append_nil] at this; exact this) r2 ?_) fun r s' hq' => ?_))
  · refine ⟨_, C, v, rfl, T.c, T.no, upd_same, fun dx hdx hne => ⟨rfl, dx, ?_, hne, rfl⟩⟩
    rw [upd_ne hne] at hdx; exact hdx
  · cases r with
    | error er => exact hq'.elim
    | ok fl =>
      cases fl with
      | ret u' =>
        have J := I2.after hq'
        obtain ⟨v', H2, J2, _, _⟩ := J
        obtain ⟨v2, H3, os2, bare2, un2, hok2, rv, ev, d, hd, dne, eH⟩ := hq'
        subst ev
        refine ⟨rv, h _ d _ H3 s' up1 kk fr1 hd dne eH un2 hok2 os2 bare2 ?_⟩
        have K2 := I2.after (Q := fun v' H2 => v' = .non ∧ H2 = H3) ⟨.non, H3, os2, bare2, un2, hok2, rv, rfl, rfl⟩
        obtain ⟨_, _, J3, _, _, e3⟩ := K2
        rw [← e3]; exact J3
      | next => exact hq'.elim
      | brk => exact hq'.elim
      | cont => exact hq'.elim
theorem pmk_ox (bs : Bs B nw ini tl) (T : OxI X.prog X.w X.K X.mg X.base nw tl C f) (hr : Room 2 X.A) (hg : Gl X x) (hm : X.mg x = some (.ref C)) (ha : PA X [e] ta) (hdb : (x == ("__debug__" : Str)) = false := by decide)
    (he : starEach [e] X.env = (false, eval e X.env) :: starEach [] X.env := by rfl) (hpl : (backTo pos (starEach [] X.env)).any (·.1) = false := by rfl) : PMk X (.Call (.Name x p) [e] [] pos) (tMk1 C f ta) := by
  intro pins s σ H Q I h
  refine wpAny_Call_Name_kw (ld_glob I hg hm ?_ hdb)
  refine PySem.W.callWith_K (h₀ := X.base) I.ok.mod.kin T.c.kp (thn (ha.run pos pins s σ H _ I h) fun us s1 hh => ?_) he hpl
  obtain ⟨vs, H1, I1, r1, v, rfl, q1⟩ := hh
  refine ⟨I1.kIn, ?_⟩
  cases r1 with
  | cons rv rn =>
    cases rn
    refine ox_call bs T hr I1 rv fun a d k2 H2 s2 ha1 kk na nd ne eH un2 hok2 os2 bare2 _ => ?_
    have ea : H2 a = some (exo a C (some d)) := by rw [eH]; exact upd_same
    have ed : H2 d = some (exd d [(f, v)]) := by rw [eH, upd_ne ne]; exact upd_same
    have eq : upd (del H2 a) d (.xd [(f, v)]) = upd H1 d (.xd [(f, v)]) := funext fun b => by
      by_cases hb : b = d
      · rw [hb, upd_same, upd_same]
      · rw [upd_ne hb, upd_ne hb]
        by_cases hba : b = a
        · rw [hba, del_same, na]
        · rw [del_ne hba, eH, upd_ne hba, upd_ne hb, upd_ne hba]
    obtain ⟨hp, g1, d1, t1, os1⟩ := s1
    obtain ⟨h2, g2, d2, t2, os2'⟩ := s2
    exact mk_end (raises_own T.c.ex T.c.ty) I1 ha1 kk un2 hok2 os2 bare2 ea ed nd (by rw [eq]; exact q1 d nd)
end
end DL
namespace DLX
open PySem PySem.W PySem.Spec PySem.Calls PyProof.Rows
end DLX
namespace DL
open PySem PySem.Spec PyProof.Rows L2 DLX
/-- names of classes, and what they hold -/
inductive NmL (X : Cx) : List Expr → List Value → Prop
  | nil : NmL X [] []
  | cons {x : Str} {c : Value} {p : Pos} {es : List Expr} {cs : List Value} (h : Names X x c) (r : NmL X es cs) : NmL X (.Name x p :: es) (c :: cs)
section
variable {X : Cx} {pins : List (Addr × Obj)} {σ : L2.St} {H : Hp} {s : Shared} {a : Addr} {o : HO}
theorem NmL.len {es : List Expr} {cs : List Value} (h : NmL X es cs) : es.length = cs.length := by
  induction h with
  | nil => rfl
  | cons _ _ ih => rw [List.length_cons, List.length_cons, ih]
/-- the names of the clause, read while an exception is handled -/
theorem NmL.run {b : Addr} {pn : List (Addr × Obj)} {E : Value → Shared → Prop} {M : Model} {pos : Pos} (I : Inv (X.suite b pn) pins σ H s) : ∀ {es : List Expr} {cs : List Value}, NmL X es cs → ∀ {Q : List Value → Shared → Prop}, Q cs s → wpAny (model X.prog X.w) (X.A.mark (some (.ref b))) (spliced (backTo pos (starEach es X.env))) Q E s
  | _, _, .nil, Q, q => wpAny_items_nil q
  | _, _, .cons (x := x) (c := c) h r, Q, q => by
    refine wpAny_items_cons ?_
    obtain ⟨hg, hdbg, hm | ⟨hm, hv, hnn⟩⟩ := h
    · exact ld_glob (X := X.suite b pn) I hg hm (NmL.run (M := M) I r q) hdbg
    · exact ld_blt (X := X.suite b pn) I hg hm hv (NmL.run (M := M) I r q) hnn hdbg
end
end DL
namespace DL
open PySem L2
/-- what a def that may raise computes -/
inductive RX (α : Type) where
  | ok (a : α)
  | ex (c : Str) (d : D)
  | bad
section
variable {X : Cx} {K : PySem.W.Frag} {Wx : WX} {ta tb te : TE} {tt : TT} {tas tks : TA} {t u : TS} {b0 : Bx} {B Z0 Z H : Hp} {σ : L2.St} {ρ : Rho}
def ExO (K : PySem.W.Frag) (H Z : Hp) (E : XK) (c : Str) (d : D) : Prop := ∀ C dx v H' Z', Same H H' → Grow H Z Z' H' → Cls K c C → Z' dx = some (.xd [(fld c, v)]) → Rp K Z' v d → E (.ref C) (some dx) H'
def spX (K : PySem.W.Frag) (np : Nat) (F : List D → RX D) : Sp := fun vs H Q E => vs.length = np ∧ ∃ Z ds, Same Z H ∧ RpA K Z vs ds ∧ match F ds with
  | .ok d => ∀ v H' Z', Same H H' → Grow H Z Z' H' → Rp K Z' v d → Q v H'
  | .ex c d => ExO K H Z E c d
  | .bad => False
def spXF (K : PySem.W.Frag) (np : Nat) (F : List D → RX (List D)) : Sp := fun vs H Q E => vs.length = np ∧ ∃ Z ds, Same Z H ∧ RpA K Z vs ds ∧ match F ds with
  | .ok es => ∀ p ws H' Z', Same H H' → Grow H Z Z' H' → H p = none → Z' p = none → H' p = some (.lst ws) → RpA K Z' ws es → Q (.ref p) H'
  | .ex c d => ExO K H Z E c d
  | .bad => False
def callX (np n : Nat) (g : GS) : List D → RX D := fun args => if args.length ≠ np then .bad else match g (env0 n args) with
  | .rt d _ => .ok d
  | .nx _ => .ok .none
  | .rf ds _ => .ok (.list ds)
  | .ex c d _ => .ex c d
  | _ => .bad
def callXF (np n : Nat) (g : GS) : List D → RX (List D) := fun args => if args.length ≠ np then .bad else match g (env0 n args) with
  | .rf ds _ => .ok ds
  | .ex c d _ => .ex c d
  | _ => .bad
theorem callX_len {np n : Nat} {g : GS} : ∀ ds, callX np n g ds ≠ .bad → ds.length = np := fun ds h => by
  unfold callX at h
  split at h
  · exact absurd rfl h
  · omega
theorem callXF_len {np n : Nat} {g : GS} : ∀ ds, callXF np n g ds ≠ .bad → ds.length = np := fun ds h => by
  unfold callXF at h
  split at h
  · exact absurd rfl h
  · omega
theorem run_X {N : List Str} {np : Nat} {g : GS} {vs : List V} {Q : VK} {E : XK} (h : DS K (fun cls d _ H => E cls d H) t g) (hk : np ≤ N.length) (hs : spX K np (callX np N.length g) vs H Q E) : t { nx := fun _ H' => Q .non H', rt := Q } (L2.start N vs) H := by
  obtain ⟨hl, Z, ds, sZ, ra, q⟩ := hs
  have ok := ok_start (N := N) sZ ra (by omega)
  refine h _ _ _ _ _ _ _ _ ok ?_
  unfold callX at q
  rw [if_neg (by rw [← ra.length]; omega)] at q
  cases e' : g (env0 N.length ds) with
  | rt d ρ' => rw [e'] at q; exact fun v σ' H' Z' ok' r => q v H' Z' ok'.bh ⟨ok'.zz, ok'.zh, ok'.nb⟩ r
  | nx ρ' => rw [e'] at q; exact fun σ' H' Z' ok' => q .non H' Z' ok'.bh ⟨ok'.zz, ok'.zh, ok'.nb⟩ .non
  | rf ds' ρ' =>
    rw [e'] at q
    intro p ws σ' H' Z' ok' zp bp ap hp r
    obtain ⟨ok2, s2⟩ := ok'.freeze zp bp ap hp
    exact q (.ref p) H' _ ok2.bh ⟨ok2.zz, ok2.zh, ok2.nb⟩ (.lst upd_same (r.mono s2))
  | ex c d ρ' => rw [e'] at q; exact fun σ' H' Z' C dx v ok' hc hx r => q C dx v H' Z' ok'.bh ⟨ok'.zz, ok'.zh, ok'.nb⟩ hc hx r
  | bk ρ' => rw [e'] at q; exact q.elim
  | ct ρ' => rw [e'] at q; exact q.elim
  | bad => rw [e'] at q; exact q.elim
theorem run_XF {N : List Str} {np : Nat} {g : GS} {vs : List V} {Q : VK} {E : XK} (h : DS K (fun cls d _ H => E cls d H) t g) (hk : np ≤ N.length) (hs : spXF K np (callXF np N.length g) vs H Q E) : t { nx := fun _ H' => Q .non H', rt := Q } (L2.start N vs) H := by
  obtain ⟨hl, Z, ds, sZ, ra, q⟩ := hs
  have ok := ok_start (N := N) sZ ra (by omega)
  refine h _ _ _ _ _ _ _ _ ok ?_
  unfold callXF at q
  rw [if_neg (by rw [← ra.length]; omega)] at q
  cases e' : g (env0 N.length ds) with
  | rf ds' ρ' =>
    rw [e'] at q
    intro p ws σ' H' Z' ok' zp bp ap hp r
    exact q p ws H' Z' ok'.bh ⟨ok'.zz, ok'.zh, ok'.nb⟩ bp zp hp r
  | ex c d ρ' => rw [e'] at q; exact fun σ' H' Z' C dx v ok' hc hx r => q C dx v H' Z' ok'.bh ⟨ok'.zz, ok'.zh, ok'.nb⟩ hc hx r
  | rt d ρ' => rw [e'] at q; exact q.elim
  | nx ρ' => rw [e'] at q; exact q.elim
  | bk ρ' => rw [e'] at q; exact q.elim
  | ct ρ' => rw [e'] at q; exact q.elim
  | bad => rw [e'] at q; exact q.elim
def RX.at {α : Type} (r : RX α) (ρ : Rho) : R α := match r with
  | .ok a => .ok a ρ
  | .ex c d => .ex c d ρ
  | .bad => .bad
def eCallX {α : Type} (F : List D → RX α) (ga : GA) (ρ : Rho) : R α := match ga ρ with
  | .ok os ρ1 => (match valA os with
    | some ds => (F ds).at ρ1
    | none => .bad)
  | _ => .bad
def eCallWX {α : Type} (F : List D → RX α) (m : Nat) (g : {α : Type} → List α → List α) (ga : GA) (ρ : Rho) : R α := match ga ρ with
  | .ok os ρ1 => (match valA os with
    | some ds => if ds.length = m then (F (g ds)).at ρ1 else .bad
    | none => .bad)
  | _ => .bad
theorem RX.at_ok {α : Type} {r : RX α} {ρ ρ' : Rho} {a : α} (h : r.at ρ = .ok a ρ') : r = .ok a ∧ ρ = ρ' := by
  cases r with
  | ok b => cases h; exact ⟨rfl, rfl⟩
  | ex c d => cases h
  | bad => cases h
theorem callX_ok {α : Type} {F : List D → RX α} {ga : GA} {ρ ρ' : Rho} {z : α} (e : eCallX F ga ρ = .ok z ρ') : ∃ os ds, ga ρ = .ok os ρ' ∧ valA os = some ds ∧ F ds = .ok z := by
  unfold eCallX at e
  split at e
  · rename_i os ρ1 h1
    split at e
    · rename_i ds hv
      obtain ⟨e3, rfl⟩ := RX.at_ok e
      exact ⟨os, ds, h1, hv, e3⟩
    · cases e
  · cases e
theorem apart_new {p : Addr} (ok : Ok K b0 B Z0 Z H σ ρ) (hp : H p = none) : Apart σ ρ p := fun i es hi ho hq => by
  obtain ⟨q', vs', f1, _, _, f4, _⟩ := ok.own i es hi ho
  rw [f1] at hq; cases hq
  rw [hp] at f4; cases f4
theorem df_callXF {np : Nat} {F : List D → RX (List D)} {ga : GA} {E : XK} (hF : ∀ ds, F ds ≠ .bad → ds.length = np) (ha : DA K tas ga) : DF K (tCall (spXF K np F) [] E tas) (eCallX F ga) := fun b0 B Z0 Z H σ ρ d ρ' Q ok e q => by
  obtain ⟨os, ds, e1, hv, e3⟩ := callX_ok e
  refine ha b0 B Z0 Z H σ ρ os ρ' _ ok e1 fun vs H1 Z1 ok1 s1 r1 => ?_
  have rA := valA_ok r1 hv
  refine ⟨by rw [List.append_nil, rA.length]; exact hF _ (by rw [e3]; exact fun z => nomatch z), Z1, ds, ok1.zh, by rw [List.append_nil]; exact rA, ?_⟩
  rw [e3]
  exact fun p ws H' Z' hh g hp zp hp' r => q p ws H' Z' (ok1.grow hh g) (s1.trans g.1) zp (ok1.bh.free hp) (apart_new ok1 hp) hp' r
def SatE (K : PySem.W.Frag) (Wx : WX) (b0 : Bx) (B Z0 Z : Hp) (σ : L2.St) (Q : VK) : R D → Prop
  | .ok d ρ => ∀ v H' Z', Ok K b0 B Z0 Z' H' σ ρ → Same Z Z' → Rp K Z' v d → Q v H'
  | .ex c d ρ => ∀ H' Z' C dx v, Ok K b0 B Z0 Z' H' σ ρ → Same Z Z' → Cls K c C → Z' dx = some (.xd [(fld c, v)]) → Rp K Z' v d → Wx (.ref C) (some dx) σ H'
  | .bad => False
def XD (K : PySem.W.Frag) (Wx : WX) (t : TE) (g : GE) : Prop := ∀ b0 B Z0 Z H σ ρ (Q : VK), Ok K b0 B Z0 Z H σ ρ → SatE K Wx b0 B Z0 Z σ Q (g ρ) → t σ H Q
/-- an expression that raises nothing -/
def xE (g : GE) (ρ : Rho) : R D := match g ρ with
  | .ok d ρ' => .ok d ρ'
  | _ => .bad
theorem xd_e {g : GE} (h : DE K te g) : XD K Wx te (xE g) := fun b0 B Z0 Z H σ ρ Q ok s => by
  unfold xE at s
  cases e : g ρ with
  | ok d ρ' => rw [e] at s; exact h b0 B Z0 Z H σ ρ d ρ' Q ok e s
  | ex c d ρ' => rw [e] at s; exact s.elim
  | bad => rw [e] at s; exact s.elim
theorem callX_run {np : Nat} {F : List D → RX D} {b0 : Bx} {B Z0 Z Z1 H H1 : Hp} {σ : L2.St} {ρ1 : Rho} {Q : VK} {vs : List V} {ds : List D} (hF : ∀ ds, F ds ≠ .bad → ds.length = np) (ok1 : Ok K b0 B Z0 Z1 H1 σ ρ1) (s1 : Same Z Z1) (rA : RpA K Z1 vs ds) (s : SatE K Wx b0 B Z0 Z σ Q ((F ds).at ρ1)) : spX K np F vs H1 Q (WE Wx σ) := by
  cases e : F ds with
  | ok d =>
    rw [e] at s
    refine ⟨by rw [rA.length]; exact hF _ (by rw [e]; exact fun z => nomatch z), Z1, ds, ok1.zh, rA, ?_⟩
    rw [e]
    exact fun v H' Z' hh g r => s v H' Z' (ok1.grow hh g) (s1.trans g.1) r
  | ex c d =>
    rw [e] at s
    refine ⟨by rw [rA.length]; exact hF _ (by rw [e]; exact fun z => nomatch z), Z1, ds, ok1.zh, rA, ?_⟩
    rw [e]
    exact fun C dx v H' Z' hh g hc hx r => s H' Z' C dx v (ok1.grow hh g) (s1.trans g.1) hc hx r
  | bad => rw [e] at s; exact s.elim
theorem callXF_run {np : Nat} {F : List D → RX (List D)} {b0 : Bx} {B Z0 Z Z1 H H1 : Hp} {σ : L2.St} {ρ1 : Rho} {Q : VK} {vs : List V} {ds : List D} (hF : ∀ ds, F ds ≠ .bad → ds.length = np) (ok1 : Ok K b0 B Z0 Z1 H1 σ ρ1) (s1 : Same Z Z1) (rA : RpA K Z1 vs ds) (s : SatE K Wx b0 B Z0 Z σ Q (((F ds).at ρ1).map .list)) : spXF K np F vs H1 Q (WE Wx σ) := by
  cases e : F ds with
  | ok d =>
    rw [e] at s
    refine ⟨by rw [rA.length]; exact hF _ (by rw [e]; exact fun z => nomatch z), Z1, ds, ok1.zh, rA, ?_⟩
    rw [e]
    intro p ws H' Z' hh g hp zp hp' r
    have ok2 := ok1.grow hh g
    obtain ⟨ok3, s3⟩ := ok2.freeze zp (ok1.bh.free hp) (apart_new ok1 hp) hp'
    exact s (.ref p) H' _ ok3 ((s1.trans g.1).trans s3) (.lst upd_same (r.mono s3))
  | ex c d =>
    rw [e] at s
    refine ⟨by rw [rA.length]; exact hF _ (by rw [e]; exact fun z => nomatch z), Z1, ds, ok1.zh, rA, ?_⟩
    rw [e]
    exact fun C dx v H' Z' hh g hc hx r => s H' Z' C dx v (ok1.grow hh g) (s1.trans g.1) hc hx r
  | bad => rw [e] at s; exact s.elim
def xL (g : GF) (ρ : Rho) : R D := (g ρ).map .list
theorem satE_call {α : Type} {F : List D → RX α} {ga : GA} {m : α → D} {b0 : Bx} {B Z0 Z : Hp} {Q : VK} (s : SatE K Wx b0 B Z0 Z σ Q ((eCallX F ga ρ).map m)) : ∃ os ds ρ1, ga ρ = .ok os ρ1 ∧ valA os = some ds ∧ SatE K Wx b0 B Z0 Z σ Q (((F ds).at ρ1).map m) := by
  unfold eCallX at s
  split at s
  · rename_i os ρ1 h1
    split at s
    · rename_i ds hv
      exact ⟨os, ds, ρ1, h1, hv, s⟩
    · exact s.elim
  · exact s.elim
theorem R.map_id {α : Type} (r : R α) : r.map (fun x => x) = r := by cases r <;> rfl
theorem xd_callX {np : Nat} {F : List D → RX D} {ga : GA} (hF : ∀ ds, F ds ≠ .bad → ds.length = np) (ha : DA K tas ga) : XD K Wx (tCallS (spX K np F) (WE Wx) tas) (eCallX F ga) := fun b0 B Z0 Z H σ ρ Q ok s => by
  rw [← R.map_id (eCallX F ga ρ)] at s
  obtain ⟨os, ds, ρ1, e1, hv, s⟩ := satE_call s
  rw [R.map_id] at s
  exact ha b0 B Z0 Z H σ ρ os ρ1 _ ok e1 fun vs H1 Z1 ok1 s1 r1 => callX_run (H := H) hF ok1 s1 (valA_ok r1 hv) s
theorem xd_callXF {np : Nat} {F : List D → RX (List D)} {ga : GA} (hF : ∀ ds, F ds ≠ .bad → ds.length = np) (ha : DA K tas ga) : XD K Wx (tCallS (spXF K np F) (WE Wx) tas) (xL (eCallX F ga)) := fun b0 B Z0 Z H σ ρ Q ok s => by
  obtain ⟨os, ds, ρ1, e1, hv, s⟩ := satE_call s
  exact ha b0 B Z0 Z H σ ρ os ρ1 _ ok e1 fun vs H1 Z1 ok1 s1 r1 => callXF_run (H := H) hF ok1 s1 (valA_ok r1 hv) s
def xIf (c : GT) (a b : GE) (ρ : Rho) : R D := match c ρ with
  | .ok k ρ1 => if k then a ρ1 else b ρ1
  | _ => .bad
theorem SatE.mono {Z1 : Hp} {Q : VK} {r : R D} (s1 : Same Z Z1) (s : SatE K Wx b0 B Z0 Z σ Q r) : SatE K Wx b0 B Z0 Z1 σ Q r := by
  cases r with
  | ok d ρ => exact fun v H' Z' ok' s' r => s v H' Z' ok' (s1.trans s') r
  | ex c d ρ => exact fun H' Z' C dx v ok' s' => s H' Z' C dx v ok' (s1.trans s')
  | bad => exact s
theorem xd_if {c : GT} {g k : GE} (hc : DT K tt c) (h : XD K Wx ta g) (h2 : XD K Wx tb k) : XD K Wx (tIf tt ta tb) (xIf c g k) := fun b0 B Z0 Z H σ ρ Q ok s => by
  unfold xIf at s
  split at s
  · rename_i b ρ1 e1
    refine hc b0 B Z0 Z H σ ρ b ρ1 _ ok e1 fun H1 Z1 ok1 s1 => ?_
    cases b with
    | true => exact h b0 B Z0 Z1 H1 σ ρ1 Q ok1 (s.mono s1)
    | false => exact h2 b0 B Z0 Z1 H1 σ ρ1 Q ok1 (s.mono s1)
  · exact s.elim
/-- f(x), x raising, f a built-in of data -/
def xCb1 (f : List D → Option D) (g : GE) (ρ : Rho) : R D := (g ρ).bind fun d ρ1 => R.lift (f [d]) ρ1
theorem xd_cb1 {r : List V → Hp → VK → Prop} {f : List D → Option D} {g : GE} (sn : SnA K r f) (h : XD K Wx te g) : XD K Wx (tCB r (tCons te tNil)) (xCb1 f g) := fun b0 B Z0 Z H σ ρ Q ok s => by
  refine h b0 B Z0 Z H σ ρ _ ok ?_
  unfold xCb1 at s
  cases e : g ρ with
  | ok d ρ1 =>
    rw [e] at s
    intro v H1 Z1 ok1 s1 r1
    cases e2 : f [d] with
    | none => rw [R.ok_bind, e2] at s; exact s.elim
    | some c =>
      rw [R.ok_bind, e2] at s
      exact sn b0 B Z0 Z1 H1 σ ρ1 [v] [d] c Q ok1 (.cons (r1.bd ok1.zh) .nil) e2 fun w H2 Z2 ok2 s2 r2 => s w H2 Z2 ok2 (s1.trans s2) r2
  | ex c d ρ1 => rw [e] at s; exact s
  | bad => rw [e] at s; exact s
def R.toX {α : Type} (r : R α) (f : α → Rho → O) : O := match r with
  | .ok a ρ => f a ρ
  | .ex c d ρ => .ex c d ρ
  | .bad => .bad
theorem Sat.toX {r : R D} {f : D → Rho → O} {E : Ends} {Q : VK} (s : Sat K Wx b0 B Z0 E (r.toX f)) (ok : Ok K b0 B Z0 Z H σ ρ) (h : ∀ d ρ', r = .ok d ρ' → Sat K Wx b0 B Z0 E (f d ρ') → ∀ v H' Z', Ok K b0 B Z0 Z' H' σ ρ' → Rp K Z' v d → Q v H') : SatE K Wx b0 B Z0 Z σ Q r := by
  cases r with
  | ok d ρ' => exact fun v H' Z' ok' _ r => h d ρ' rfl s v H' Z' ok' r
  | ex c d ρ' => exact fun H' Z' C dx v ok' _ hc hx r => s σ H' Z' C dx v ok' hc hx r
  | bad => exact s
def sSetX (i : Nat) (g : GE) (ρ : Rho) : O := (g ρ).toX fun d ρ1 => .nx (ρ1.set i (.sh d))
def sRetX (g : GE) (ρ : Rho) : O := (g ρ).toX .rt
def sDropX (g : GE) (ρ : Rho) : O := (g ρ).toX fun _ ρ => .nx ρ
theorem ds_setX {i : Nat} {g : GE} (h : XD K Wx te g) : DS K Wx (tAsg te (gName i)) (sSetX i g) := fun b0 B Z0 Z H σ ρ E ok s =>
  h b0 B Z0 Z H σ ρ _ ok (Sat.toX s ok fun d ρ' _ s v H' Z' ok' r => s _ H' Z' (ok'.put r))
theorem ds_retX {g : GE} (h : XD K Wx te g) : DS K Wx (tRet te) (sRetX g) := fun b0 B Z0 Z H σ ρ E ok s =>
  h b0 B Z0 Z H σ ρ _ ok (Sat.toX s ok fun d ρ' _ s v H' Z' ok' r => s v σ H' Z' ok' r)
theorem ds_dropX {g : GE} (h : XD K Wx te g) : DS K Wx (tDrop te) (sDropX g) := fun b0 B Z0 Z H σ ρ E ok s =>
  h b0 B Z0 Z H σ ρ _ ok (Sat.toX s ok fun d ρ' _ s v H' Z' ok' r => s σ H' Z' ok')
def sRaise (c : Str) (g : GE) (ρ : Rho) : O := (g ρ).to fun d ρ1 => .ex c d ρ1
theorem ds_raise {c f : Str} {C : Addr} {g : GE} (hc : Cls K c C) (hf : f = fld c) (h : DE K te g) : DS K Wx (fun _ σ H => tMk1 C f (tCons te tNil) σ H fun cls d H' => Wx cls d σ H') (sRaise c g) := fun b0 B Z0 Z H σ ρ E ok s => by
  obtain ⟨d, ρ', e, s⟩ := Sat.to s
  subst hf
  refine h b0 B Z0 Z H σ ρ d ρ' _ ok e fun v H1 Z1 ok1 s1 r1 => ⟨v, rfl, fun dx hdx => ?_⟩
  obtain ⟨ok2, s2⟩ := ok1.new (o := .xd [(fld c, v)]) hdx
  exact s σ _ _ C dx v ok2 hc upd_same (r1.mono s2)
end
end DL
namespace DL
open PySem PySem.Spec PyProof.Rows L2
def baseT : List (Str × List Str) := [("NoPerson", ["LookupError"]), ("NoPlace", ["LookupError"]), ("NoNumber", ["LookupError"]), ("NoDeed", ["LookupError"]), ("OtherPeople", ["ValueError"]), ("NotWay", ["ValueError"]), ("BadDeed", ["ValueError"]), ("BadText", ["ValueError"]), ("BadLine", ["ValueError"]), ("Barred", ["RuntimeError"]), ("TooMany", ["OverflowError", "ArithmeticError"]), ("Full", ["OverflowError", "ArithmeticError"])]
def subC (c t : Str) : Bool := t == c || ((baseT.lookup c).getD []).contains t || t == "Exception" || t == "BaseException"
def valOf (K : PySem.W.Frag) (T : Str) : Option Value := match PySem.W.nsIn K mainGlobals T with
  | some (some u) => some u
  | some none => bootBuiltins T
  | none => none
def exB (K : PySem.W.Frag) (c : Str) : Bool := match PySem.W.nsIn K mainGlobals c with
  | some (some (.ref C)) => (PySem.W.clsIn K C).isSome && (decide (PySem.W.findIn K (.ref C) "__getattribute__" = some (some (.builtin "BaseException.__getattribute__"))) && (decide (PySem.W.findIn K (.ref C) "__getattr__" = some none) && (decide (PySem.W.subIn K (.ref C) (.type "BaseException") = some true) &&
    (decide (PySem.W.findIn K (.ref C) "__class__" = some (some (.builtin "object.__class__"))) && (decide (PySem.W.specialIn K (.builtin "object.__class__") "__get__" = some (some (.builtin "getset_descriptor.__get__"))) && (decide (PySem.W.takesIn K (.builtin "object.__class__") = some true) &&
    (decide (PySem.W.mroIn K C (.type "object") = some true) && (PySem.W.hasDictIn K C && decide (PySem.W.findIn K (.ref C) (fld c) = some none)))))))))
  | _ => false
def etB (K : PySem.W.Frag) (Cs Ts : List Str) : Bool := Cs.all (exB K) && Ts.all fun T => match valOf K T with
  | some u => decide (PySem.W.kitOne K (.type "NoneType") u = some false) && Cs.all fun c => match PySem.W.nsIn K mainGlobals c with
    | some (some (.ref C)) => decide (PySem.W.kitOne K (.ref C) u = some (subC c T)) && decide (PySem.W.exmOne K (.ref C) u = some (subC c T))
    | _ => false
  | none => false
section
variable {K : PySem.W.Frag} {Cs Ts : List Str}
theorem et_non {T : Str} {u : Value} (h : etB K Cs Ts = true) (hT : T ∈ Ts) (hu : valOf K T = some u) : PySem.W.kitOne K (.type "NoneType") u = some false := by
  unfold etB at h
  rw [Bool.and_eq_true] at h
  have := List.all_eq_true.mp h.2 T hT
  rw [hu] at this
  simp only [Bool.and_eq_true, decide_eq_true_eq] at this
  exact this.1
theorem et_sub {T c : Str} {u : Value} {C : Addr} (h : etB K Cs Ts = true) (hT : T ∈ Ts) (hu : valOf K T = some u) (hc : c ∈ Cs) (hC : Cls K c C) : PySem.W.kitOne K (.ref C) u = some (subC c T) ∧ PySem.W.exmOne K (.ref C) u = some (subC c T) := by
  unfold etB at h
  rw [Bool.and_eq_true] at h
  have := List.all_eq_true.mp h.2 T hT
  rw [hu] at this
  simp only [Bool.and_eq_true] at this
  have := List.all_eq_true.mp this.2 c hc
  rw [show PySem.W.nsIn K mainGlobals c = some (some (.ref C)) from hC] at this
  simp only [Bool.and_eq_true, decide_eq_true_eq] at this
  exact this
end
/-- the values of classes by their names -/
inductive VTs (K : PySem.W.Frag) : List Str → List V → List Value → Prop
  | nil : VTs K [] [] []
  | cons {T : Str} {cv : V} {u : Value} {Ts : List Str} {cvs : List V} {us : List Value} (h : ClsV cv u) (e : valOf K T = some u) (r : VTs K Ts cvs us) : VTs K (T :: Ts) (cv :: cvs) (u :: us)
section
variable {X : Cx} {K : PySem.W.Frag} {Wx : WX} {ta tb te : TE} {tt : TT} {tas tks : TA} {t u : TS} {b0 : Bx} {B Z0 Z H : Hp} {σ : L2.St} {ρ : Rho} {Cs Ts Us : List Str}
theorem VTs.len : ∀ {Ts : List Str} {cvs : List V} {us : List Value}, VTs K Ts cvs us → cvs.length = Ts.length
  | _, _, _, .nil => rfl
  | _, _, _, .cons h _ r => by rw [List.length_cons, List.length_cons, VTs.len r]
theorem VTs.non (et : etB K Cs Us = true) : ∀ {Ts : List Str} {cvs : List V} {us : List Value}, VTs K Ts cvs us → (∀ T ∈ Ts, T ∈ Us) → PySem.W.kitAny K (.type "NoneType") us = some false
  | _, _, _, .nil, _ => rfl
  | _, _, _, .cons h e r, s => kitAny_cons (et_non et (s _ List.mem_cons_self) e) (fun _ => VTs.non et r fun T hT => s T (List.mem_cons_of_mem _ hT)) fun z => nomatch z
theorem VTs.any (et : etB K Cs Us = true) {c : Str} {C : Addr} (hc : c ∈ Cs) (hC : Cls K c C) : ∀ {Ts : List Str} {cvs : List V} {us : List Value}, VTs K Ts cvs us → (∀ T ∈ Ts, T ∈ Us) → PySem.W.kitAny K (.ref C) us = some (Ts.any (subC c)) ∧ PySem.W.exmAny K (.ref C) us = some (Ts.any (subC c))
  | _, _, _, .nil, _ => ⟨rfl, rfl⟩
  | _, _, _, .cons (T := T) (Ts := Ts) h e r, s => by
    obtain ⟨e1, e2⟩ := et_sub et (s _ List.mem_cons_self) e hc hC
    obtain ⟨i1, i2⟩ := VTs.any et hc hC r fun T hT => s T (List.mem_cons_of_mem _ hT)
    rw [List.any_cons]
    refine ⟨?_, ?_⟩
    · cases q : subC c T with
      | true => rw [q] at e1; exact kitAny_cons e1 (fun z => nomatch z) fun _ => rfl
      | false => rw [q] at e1; exact kitAny_cons e1 (fun _ => by rw [Bool.false_or]; exact i1) fun z => nomatch z
    · unfold PySem.W.exmAny
      rw [e2, i2]
/-- isinstance(x, one of Ts), x None or an exception of a class in Cs -/
def isX (Cs Ts : List Str) : D → Option D
  | .none => some (.bool false)
  | .dict [(.none, .str c), (.none, _)] => if Cs.contains c then some (.bool (Ts.any (subC c))) else none
  | _ => none
def eMk (c : Str) (g : GE) (ρ : Rho) : R D := (g ρ).map fun d => excD c d
def sKeep (Cs Ts : List Str) (i j : Nat) (g : GS) (ρ : Rho) : O := match g ρ with
  | .ex c d ρ1 => if Cs.contains c then (if Ts.any (subC c) then .nx ((ρ1.set j (.sh (excD c d))).set i .no) else .ex c d ρ1) else .bad
  | o => o
end
end DL
namespace DLX
open PySem PyProof.Rows Srt SrtO
section
variable {prog : Program} {w : World} {A : Around} {E : Value → Shared → Prop} {s : Shared}
theorem collect_tup {l : Addr} {vs : List Value} {Q : List Value → Shared → Prop} (hl : s.heap.IsTuple l vs.toArray)
    (h : Q vs { s with heap := (s.heap.push (seqObj "list" #[] 0)).update s.heap.objs.size (Obj.mapSeq (· ++ vs.toArray)) }) (hsz : vs.length ≤ sizeLine) : wpAny (model prog w) A (collect (.ref l)) Q E s := by
  obtain ⟨o, ho, hc, n, hd⟩ := id hl
  unfold collect
  refine wpAny_bind (wpAny_runValue (codeAny_builtin entry_proto_collect' ?_))
  show wpAny _ _ (do again (.builtin "list.__iadd__" ⟨[← newList [], .ref l], []⟩)) _ _ s
  refine wpAny_bind (wpAny_newList (wpAny_pure ⟨Code.quiet_builtin _ (by decide +kernel), codeAny_builtin entry_list_iadd' ?_⟩))
  show wpAny _ _ (Builtin.List.listExtendWith (.ref s.heap.objs.size) (.ref l) (.ref s.heap.objs.size)) _ _ { s with heap := s.heap.push (seqObj "list" #[] 0) }
  unfold Builtin.List.listExtendWith
  have ho' : (s.heap.push (seqObj "list" #[] 0)).get? l = some o := Heap.get?_push_of_some _ ho
  refine wpAny_bind (wpAny_typeOf (T := "tuple") ⟨o, ho', hc⟩ ?_)
  rw [if_pos (by rw [show (Value.type "tuple" == Value.type "tuple") = true from rfl]; simp)]
  refine wpAny_bind (listItems_at ho' hd (wpAny_bind (listItems_at (xs := #[]) (n := 0) (Heap.get?_push_size _ rfl) rfl ?_)))
  rw [if_neg (by simp)]
  refine wpAny_bind (listUpdate_at (xs := #[]) (n := 0) (Heap.get?_push_size _ rfl) rfl (wpAny_pure ?_) (Nat.zero_le _) (by show (#[] ++ vs.toArray).size ≤ sizeLine + 1; simp only [Array.size_append, List.size_toArray, List.length_nil]; omega))
  show wpAny (model prog w) A (do
      let o ← load s.heap.objs.size
      match o.data with
      | .seq xs _ => pure xs.toList
      | _ => unsupported "internal:collect") Q E { s with heap := (s.heap.push (seqObj "list" #[] 0)).update s.heap.objs.size (Obj.mapSeq (· ++ vs.toArray)) }
  refine wpAny_bind (wpAny_load (get?_update_seq (Heap.get?_push_size _ rfl) _) ?_)
  show wpAny _ _ (pure ((#[] : Array Value) ++ vs.toArray).toList) Q E _
  rw [show ((#[] : Array Value) ++ vs.toArray).toList = vs by simp]
  exact wpAny_pure h
/-- sorted(t), t a tuple -/
theorem sorted_tup {l : Addr} {vs : List Value} {ltv : Value → Value → Bool} {Q : Value → Shared → Prop} (O : Swo ltv) (hl : s.heap.IsTuple l vs.toArray) (hz : vs.length ≤ sizeLine)
    (hS : 2 ≤ vs.length → ∀ (h₁ : Heap) (a : Addr), h₁.get? a = some (seqObj "list" vs.toArray 0) → (∀ b o, s.heap.get? b = some o → b ≠ a ∧ h₁.get? b = some o) → SortableO prog w A.in1.in1 { s with heap := h₁ } a vs ltv)
    (h : ∀ out : List Value, Srtd ltv out → Stb ltv out vs → Q (.ref (s.heap.objs.size + 1)) { s with heap := sortedAll s.heap vs out.toArray }) : wpAny (model prog w) A (call (.builtin "sorted") [.ref l]) Q E s := by
  refine Calls.call_function_entry kind_sorted plain_sorted entry_sorted (args_sorted1 _) ?_
  unfold Builtin.«sorted»
  refine wpAny_bind (m := checkCount "sorted" 1 1 _) (wpAny_pure (wpAny_bind (collect_tup hl (wpAny_bind (wpAny_newList ?_ hz)) hz)))
  have hsz : ((s.heap.push (seqObj "list" #[] 0)).update s.heap.objs.size (Obj.mapSeq (· ++ vs.toArray))).objs.size = s.heap.objs.size + 1 := by rw [Heap.size_update, size_push']
  have hoL : (((s.heap.push (seqObj "list" #[] 0)).update s.heap.objs.size (Obj.mapSeq (· ++ vs.toArray))).push (seqObj "list" vs.toArray 0)).get? (s.heap.objs.size + 1) = some (seqObj "list" vs.toArray 0) := by rw [← hsz]; exact Heap.get?_push_size _ rfl
  have keep : ∀ b o, s.heap.get? b = some o → b ≠ s.heap.objs.size + 1 ∧ (((s.heap.push (seqObj "list" #[] 0)).update s.heap.objs.size (Obj.mapSeq (· ++ vs.toArray))).push (seqObj "list" vs.toArray 0)).get? b = some o := fun b o q => by
    have hlt : b < s.heap.objs.size := Heap.lt_size q
    exact ⟨Nat.ne_of_lt (Nat.lt_succ_of_lt hlt), Heap.get?_push_of_some _ (by rw [Heap.get?_update_ne _ _ _ _ (Nat.ne_of_lt hlt)]; exact Heap.get?_push_of_some _ q)⟩
  show wpAny _ _ _ _ _ { s with heap := ((s.heap.push (seqObj "list" #[] 0)).update s.heap.objs.size (Obj.mapSeq (· ++ vs.toArray))).push (seqObj "list" vs.toArray 0) }
  rw [hsz]
  refine wpAny_bind (wpAny_holding (wpAny_call_entry slot_list_sort ⟨_, hoL, rfl⟩ entry_list_sort (list_sort_ord O hoL hz (fun h2 => hS h2 _ _ hoL keep) fun out hs hb => ⟨_, rfl, ?_⟩) (args_list_sort _)))
  exact wpAny_pure ⟨_, rfl, h out hs hb⟩
end
end DLX
namespace DL
open PySem PySem.Spec PyProof.Rows L2
def rSortQ (K : PySem.W.Frag) : List V → Hp → VK → Prop := fun vs H Q => ∃ (a : Addr) (ns : List Int), vs = [V.ref a] ∧ (SqL K H a (ns.map V.int) ∨ SqT K H a (ns.map V.int)) ∧
  ∀ (ns' : List Int) (p : Addr), ns'.Perm ns → ns'.Pairwise (· ≤ ·) → H p = none → Q (.ref p) (upd H p (.lst (ns'.map V.int)))
section
variable {X : Cx} {K : PySem.W.Frag}
theorem cr_sortedU : CallR X (.builtin "sorted") (rSortQ X.K) := by
  intro pins s σ H vs us Q I r h
  obtain ⟨a, ns, rfl, hs | hs, q⟩ := h
  · exact cr_sortedI pins s σ H [.ref a] us Q I r ⟨a, ns, rfl, hs, q⟩
  · obtain ⟨its, rv, hl, hz⟩ := I.tuple hs
    rw [Vals.ref1 r]
    have hi := rv.ints
    have hT : s.heap.IsTuple a its.toArray := hl
    refine DLX.sorted_tup SrtO.swo_int hT (by rw [← rv.length]; exact hz) (fun h2 h₁ a' _ _ => SrtO.ints_sortable hi h2) fun out h1 h2 => ?_
    obtain ⟨k1, k2, k3⟩ := SrtO.ints_out hi h1 h2
    obtain ⟨ep, he'⟩ := PyProof.Rows.sortedAll_at s.heap its out.toArray
    have hlen : ((out.map SrtO.iv).map V.int).length ≤ sizeLine := by
      rw [List.length_map, k2.length_eq]
      rw [List.length_map] at hz; exact hz
    exact ⟨.ref _, upd H (s.heap.objs.size + 1) (.lst ((out.map SrtO.iv).map V.int)), I.laid (t' := s.toks) (fun _ _ => PyProof.Rows.sortedAll_old) (Nat.le_succ _) ⟨hlen, out, ep, vals_of_ints k1, he'⟩, rfl, q _ _ k2 k3 (I.hok.fresh (Nat.le_succ _))⟩
def insI (x : Int) : List Int → List Int
  | [] => [x]
  | y :: r => if x ≤ y then x :: y :: r else y :: insI x r
def srtI : List Int → List Int
  | [] => []
  | x :: r => insI x (srtI r)
theorem insI_perm (x : Int) : ∀ l : List Int, (insI x l).Perm (x :: l)
  | [] => .refl _
  | y :: r => by
    unfold insI
    split
    · exact .refl _
    · exact ((insI_perm x r).cons y).trans (.swap x y r)
theorem srtI_perm : ∀ l : List Int, (srtI l).Perm l
  | [] => .refl _
  | x :: r => (insI_perm x _).trans ((srtI_perm r).cons x)
theorem insI_pw (x : Int) : ∀ {l : List Int}, l.Pairwise (· ≤ ·) → (insI x l).Pairwise (· ≤ ·)
  | [], _ => by simp [insI]
  | y :: r, h => by
    unfold insI
    have h' := List.pairwise_cons.mp h
    split
    · rename_i hx
      refine List.pairwise_cons.mpr ⟨fun z hz => ?_, h⟩
      rcases List.mem_cons.mp hz with rfl | hz
      · exact hx
      · exact Int.le_trans hx (h'.1 z hz)
    · rename_i hx
      refine List.pairwise_cons.mpr ⟨fun z hz => ?_, insI_pw x h'.2⟩
      rcases List.mem_cons.mp ((insI_perm x r).mem_iff.mp hz) with rfl | hz
      · omega
      · exact h'.1 z hz
theorem srtI_pw : ∀ l : List Int, (srtI l).Pairwise (· ≤ ·)
  | [] => .nil
  | x :: r => insI_pw x (srtI_pw r)
theorem pw_eq : ∀ {l m : List Int}, l.Perm m → l.Pairwise (· ≤ ·) → m.Pairwise (· ≤ ·) → l = m
  | [], m, p, _, _ => (List.nil_perm.mp p).symm
  | x :: l, [], p, _, _ => by simp at p
  | x :: l, y :: m, p, h1, h2 => by
    have a := List.pairwise_cons.mp h1
    have b := List.pairwise_cons.mp h2
    have e : x = y := by
      have hx : x ∈ y :: m := p.mem_iff.mp List.mem_cons_self
      have hy : y ∈ x :: l := p.mem_iff.mpr List.mem_cons_self
      rcases List.mem_cons.mp hx with e | hx
      · exact e
      · rcases List.mem_cons.mp hy with e | hy
        · exact e.symm
        · exact Int.le_antisymm (a.1 y hy) (b.1 x hx)
    subst e
    rw [pw_eq (List.Perm.cons_inv p) a.2 b.2]
theorem srt_unique {l m : List Int} (p : m.Perm l) (h : m.Pairwise (· ≤ ·)) : m = srtI l := pw_eq (p.trans (srtI_perm l).symm) h (srtI_pw l)
def sortedD : List D → Option (List D)
  | [.list ds] => (intsOf ds).map fun ns => (srtI ns).map .int
  | [.tuple ds] => (intsOf ds).map fun ns => (srtI ns).map .int
  | _ => none
theorem sn_sorted : SnAF K (rSortQ K) sortedD := fun b0 B Z0 Z H σ ρ xs as c Q ok ra e q => by
  have fin : ∀ {a : Addr} {vs : List V} {ds : List D}, (SqL K H a vs ∨ SqT K H a vs) → RpA K Z vs ds → (intsOf ds).map (fun ns => (srtI ns).map PyData.int) = some c → rSortQ K [.ref a] H Q := fun {a vs ds} hs r e => by
    obtain ⟨ns, e1, rfl⟩ := Option.map_eq_some_iff.mp e
    rw [intsOf_eq e1] at r
    rw [RpA.of_ints r] at hs
    refine ⟨a, ns, rfl, hs, fun ns' p hp hw hn => ?_⟩
    rw [srt_unique hp hw]
    obtain ⟨ok2, zp, bp, ap⟩ := ok.fresh (o := .lst ((srtI ns).map V.int)) hn
    exact q p _ _ ok2 zp bp ap upd_same (RpA.ints _)
  unfold sortedD at e
  split at e
  · cases ra with
    | cons h r =>
      cases r
      cases h with
      | lst h1 r1 => exact fin (.inl (.inl (.inl h1))) r1 e
  · cases ra with
    | cons h r =>
      cases r
      cases h with
      | tup h1 r1 => exact fin (.inr (same_t ok.zh h1)) r1 e
  · cases e
end
end DL
namespace DL
open PySem L2
section
variable {α β : Type} {a : α} {ρ ρ1 : Rho} {c : Str} {d e : D} {x : Str} {i : Int} {b : Bool} {xs : List D} {T : String} {Ts : List String}
theorem to_ok (f : α → Rho → O) : (R.ok a ρ).to f = f a ρ := rfl
theorem toX_ok (f : α → Rho → O) : (R.ok a ρ).toX f = f a ρ := rfl
theorem toX_ex (f : α → Rho → O) : (R.ex c d ρ : R α).toX f = .ex c d ρ := rfl
theorem bind_nx (f : Rho → O) : (O.nx ρ).bind f = f ρ := rfl
theorem bind_rt (f : Rho → O) : (O.rt d ρ).bind f = .rt d ρ := rfl
theorem bind_rf (f : Rho → O) : (O.rf xs ρ).bind f = .rf xs ρ := rfl
theorem bind_ex (f : Rho → O) : (O.ex c d ρ).bind f = .ex c d ρ := rfl
theorem bind_bk (f : Rho → O) : (O.bk ρ).bind f = .bk ρ := rfl
theorem bind_ct (f : Rho → O) : (O.ct ρ).bind f = .ct ρ := rfl
theorem at_ok : (RX.ok a).at ρ = .ok a ρ := rfl
theorem at_ex : (RX.ex c d : RX α).at ρ = .ex c d ρ := rfl
theorem res_val : (Op.val d).res ρ = some d := rfl
theorem map_ex (f : α → β) : (R.ex c d ρ : R α).map f = .ex c d ρ := rfl
theorem rbind_ex (f : α → Rho → R β) : (R.ex c d ρ : R α).bind f = .ex c d ρ := rfl
theorem isiD_n : isiD T .none = (kitB "NoneType" T).map .bool := rfl
theorem isiD_b : isiD T (.bool b) = (kitB "bool" T).map .bool := rfl
theorem isiD_i : isiD T (.int i) = (kitB "int" T).map .bool := rfl
theorem isiD_s : isiD T (.str x) = (kitB "str" T).map .bool := rfl
theorem isiD_l : isiD T (.list xs) = (kitB "list" T).map .bool := rfl
theorem isiD_t : isiD T (.tuple xs) = (kitB "tuple" T).map .bool := rfl
theorem isiTD_n : isiTD Ts .none = (isiAny "NoneType" Ts).map .bool := rfl
theorem isiTD_b : isiTD Ts (.bool b) = (isiAny "bool" Ts).map .bool := rfl
theorem isiTD_i : isiTD Ts (.int i) = (isiAny "int" Ts).map .bool := rfl
theorem isiTD_s : isiTD Ts (.str x) = (isiAny "str" Ts).map .bool := rfl
theorem isiTD_l : isiTD Ts (.list xs) = (isiAny "list" Ts).map .bool := rfl
theorem isiTD_t : isiTD Ts (.tuple xs) = (isiAny "tuple" Ts).map .bool := rfl
theorem isNone_e : isNoneD (excD c d) = false := rfl
theorem isX_n {Cs Us : List Str} : isX Cs Us .none = some (.bool false) := rfl
theorem callP_rt {np n : Nat} {g : GS} {as : List D} (hl : as.length = np) (h : g (env0 n as) = .rt d ρ) : callP np n g as = some d := by unfold callP; rw [if_neg (fun z => z hl), h]
theorem callX_rt {np n : Nat} {g : GS} {as : List D} (hl : as.length = np) (h : g (env0 n as) = .rt d ρ) : callX np n g as = .ok d := by unfold callX; rw [if_neg (fun z => z hl), h]
theorem callXF_rf {np n : Nat} {g : GS} {as : List D} (hl : as.length = np) (h : g (env0 n as) = .rf xs ρ) : callXF np n g as = .ok xs := by unfold callXF; rw [if_neg (fun z => z hl), h]
end
inductive Pl : Nat → D → Prop
  | none (n : Nat) : Pl n .none
  | bool (n : Nat) (b : Bool) : Pl n (.bool b)
  | int (n : Nat) (i : Int) : Pl n (.int i)
  | str (n : Nat) (x : Str) : Pl n (.str x)
  | list {n : Nat} {xs : List D} (hl : xs.length ≤ sizeLine) (h : ∀ x ∈ xs, Pl n x) : Pl (n + 1) (.list xs)
  | tuple {n : Nat} {xs : List D} (hl : xs.length ≤ sizeLine) (h : ∀ x ∈ xs, Pl n x) : Pl (n + 1) (.tuple xs)
theorem Pl.up {n : Nat} {d : D} (h : Pl n d) : Pl (n + 1) d := by
  induction h with
  | none n => exact .none _
  | bool n b => exact .bool _ b
  | int n i => exact .int _ i
  | str n x => exact .str _ x
  | list hl h ih => exact .list hl ih
  | tuple hl h ih => exact .tuple hl ih
end DL
namespace DL
open PySem L2
theorem eLc_ok {vs : List Nat} {gi : GF} {k : GG} {t : GT} {e : GE} {ρ ρ1 ρ2 : Rho} {ds ys : List D} (h1 : gi ρ = .ok ds ρ1) (h2 : ds.length ≤ sizeLine) (h3 : lcL vs k t e ds (wipeR ρ1 vs) = .ok ys ρ2) : eLc vs gi k t e ρ = .ok ys (wipeR ρ2 vs) := by
  unfold eLc
  rw [h1]
  show (if ds.length ≤ sizeLine then (lcL vs k t e ds (wipeR ρ1 vs)).bind fun ys ρ2 => R.ok ys (wipeR ρ2 vs) else .bad) = _
  rw [if_pos h2, h3]; rfl
theorem seq_nx {a b : GS} {ρ ρ1 : Rho} {o : O} (h : a ρ = .nx ρ1) (h2 : b ρ1 = o) : sSeq a b ρ = o := by unfold sSeq; rw [h]; exact h2
theorem sFor_nx {gi : GF} {k : GG} {b : GS} {ρ ρ1 ρ2 : Rho} {ds : List D} (h : gi ρ = .ok ds ρ1) (h2 : forL k b ds ρ1 = .nx ρ2) : sFor gi k b ρ = .nx ρ2 := by unfold sFor; rw [h]; exact h2
/-- the number at a place -/
def nat (ns : List Int) (i : Int) : Int := ns[i.toNat]?.getD 0
def rngI (lo : Int) (n : Nat) : List Int := (List.range n).map fun i : Nat => lo + (i : Int)
theorem mem_rngI {lo i : Int} {n : Nat} (h : i ∈ rngI lo n) : lo ≤ i ∧ i < lo + n := by
  obtain ⟨k, hk, rfl⟩ := List.mem_map.mp h
  have := List.mem_range.mp hk
  omega
theorem in_rngI {lo i : Int} {n : Nat} (h0 : lo ≤ i) (h1 : i < lo + n) : i ∈ rngI lo n := List.mem_map.mpr ⟨(i - lo).toNat, List.mem_range.mpr (by omega), by omega⟩
theorem rngI_len (lo : Int) (n : Nat) : (rngI lo n).length = n := by unfold rngI; rw [List.length_map, List.length_range]
theorem rng1_eq {m : Int} (h0 : 0 ≤ m) (h1 : m < 2 ^ 62) : rng1 [.int m] = some (rangeD 0 m.toNat) := if_pos ⟨by omega, h1⟩
theorem rangeD_at {m i : Nat} {d : D} (h : (rangeD 0 m)[i]? = some d) : d = .int (i : Int) ∧ i < m := by
  have hl : i < m := by
    have := (List.getElem?_eq_some_iff.mp h).1
    rw [rangeD_len] at this
    exact this
  rw [rangeD_get hl] at h
  exact ⟨by rw [← Option.some.inj h, Int.zero_add], hl⟩
def Sq (d : D) (xs : List D) : Prop := d = .list xs ∨ d = .tuple xs
theorem Sq.l (xs : List D) : Sq (.list xs) xs := .inl rfl
theorem Sq.len {r : D} {xs : List D} (h : Sq r xs) : ∃ j : Int, lenD [r] = some (.int j) ∧ j = (xs.length : Int) := by rcases h with rfl | rfl <;> exact ⟨_, rfl, rfl⟩
theorem size_of {n : Nat} (h : n ≤ 100000) : n ≤ sizeLine := Nat.le_trans h (by decide)
theorem cut_map {α β : Type} (f : α → β) (xs : List α) (lo hi : Option Int) : cutD (xs.map f) lo hi = (cutD xs lo hi).map f := by
  unfold cutD
  rw [List.length_map, List.map_take, List.map_drop]
theorem cut_to {α : Type} (xs : List α) (m : Nat) : cutD xs none (some (m : Int)) = xs.take m := by
  unfold cutD
  rw [HT.sIx_nat]
  show (xs.drop 0).take (min m xs.length - 0) = _
  rw [List.drop_zero, Nat.sub_zero, List.take_eq_take_iff]
  omega
theorem cut_from {α : Type} (xs : List α) (m : Nat) : cutD xs (some (m : Int)) none = xs.drop m := by
  unfold cutD
  rw [HT.sIx_nat]
  show (xs.drop (min m xs.length)).take (xs.length - min m xs.length) = _
  rw [List.take_of_length_le (by rw [List.length_drop]; omega)]
  by_cases h : m ≤ xs.length
  · rw [Nat.min_eq_left h]
  · rw [Nat.min_eq_right (by omega), List.drop_length, List.drop_of_length_le (by omega)]
theorem cut_ft_len {α : Type} (xs : List α) (m u : Nat) : (cutD xs (some (m : Int)) (some (u : Int))).length ≤ xs.length - m := by
  unfold cutD
  rw [HT.sIx_nat, HT.sIx_nat, List.length_take, List.length_drop]
  omega
theorem nat_set {ns : List Int} {i : Nat} {m k : Int} (h0 : 0 ≤ k) : nat (ns.set i m) k = if k = (i : Int) ∧ i < ns.length then m else nat ns k := by
  unfold nat
  rw [List.getElem?_set]
  by_cases e : i = k.toNat
  · rw [if_pos e]
    by_cases h : i < ns.length
    · rw [if_pos h, if_pos ⟨by omega, h⟩]; rfl
    · rw [if_neg h, if_neg fun z => h z.2, List.getElem?_eq_none (by omega)]
  · rw [if_neg e, if_neg fun z => e (by omega)]
def mid3 (a b c : Int) : Int := (srtI [a, b, c])[1]?.getD 0
/-- the number after a call -/
def midN (ns : List Int) (i : Int) : Int := if i = 0 ∨ i = (ns.length : Int) - 1 then nat ns i else mid3 (nat ns (i - 1)) (nat ns i) (nat ns (i + 1))
def callN (ns : List Int) (i : Int) : List Int := ns.set i.toNat (midN ns i)
theorem callN_len (ns : List Int) (i : Int) : (callN ns i).length = ns.length := List.length_set
theorem repLk {xs : List D} {k : Nat} (hk : k ≤ 1000) (h : xs.length * k ≤ 100000) : mulV (.list xs) (.int (k : Int)) = some (.list (List.replicate k xs).flatten) := by
  have e : repL (.list xs) (.int (k : Int)) = some (List.replicate k xs).flatten := by
    unfold repL
    dsimp only
    rw [Int.toNat_natCast, if_pos ⟨by omega, by omega, size_of h⟩]
  have e2 : mulD (.list xs) (.int (k : Int)) = none := rfl
  unfold mulV mulU
  rw [e2, e]; rfl
end DL
namespace DL
open PySem L2
theorem lc_cons {vs : List Nat} {k : GG} {t : GT} {e : GE} {ρ ρ1 ρ2 ρ3 ρ4 : Rho} {d y : D} {ds ys : List D} (h1 : k d ρ = some ρ1) (h2 : t ρ1 = .ok true ρ2) (h3 : e ρ2 = .ok y ρ3) (h4 : lcL vs k t e ds (wipeR ρ3 vs) = .ok ys ρ4) : lcL vs k t e (d :: ds) ρ = .ok (y :: ys) ρ4 := by
  show (match k d ρ with | none => R.bad | some ρ1 => (t ρ1).bind fun b ρ2 => if b then (e ρ2).bind fun y ρ3 => (lcL vs k t e ds (wipeR ρ3 vs)).map (y :: ·) else lcL vs k t e ds (wipeR ρ2 vs)) = _
  rw [h1]
  show (t ρ1).bind _ = _
  rw [h2, R.ok_bind, if_pos rfl, h3, R.ok_bind, h4]; rfl
theorem for_cons {k : GG} {b : GS} {ρ ρ1 ρ2 : Rho} {d : D} {ds : List D} {o : O} (h1 : k d ρ = some ρ1) (h2 : b ρ1 = .nx ρ2) (h3 : forL k b ds ρ2 = o) : forL k b (d :: ds) ρ = o := by
  show (match k d ρ with | none => O.bad | some ρ1 => match b ρ1 with | .nx ρ2 => forL k b ds ρ2 | .ct ρ2 => forL k b ds ρ2 | .bk ρ2 => .nx ρ2 | o => o) = _
  rw [h1]
  show (match b ρ1 with | .nx ρ2 => forL k b ds ρ2 | .ct ρ2 => forL k b ds ρ2 | .bk ρ2 => .nx ρ2 | o => o) = _
  rw [h2]; exact h3
end DL
namespace DL
open PySem L2
inductive NwP (K : PySem.W.Frag) (B Z H : Hp) (σ : L2.St) (ρ : Rho) : List V → List Nw → List Addr → Prop
  | nil : NwP K B Z H σ ρ [] [] []
  | s {v : V} {vs : List V} {d : D} {ns : List Nw} {qs : List Addr} : Rp K Z v d → NwP K B Z H σ ρ vs ns qs → NwP K B Z H σ ρ (v :: vs) (.s d :: ns) qs
  | f {q : Addr} {ws vs : List V} {ds : List D} {ns : List Nw} {qs : List Addr} : Z q = none → B q = none → Apart σ ρ q → H q = some (.lst ws) → RpA K Z ws ds → q ∉ qs → NwP K B Z H σ ρ vs ns qs → NwP K B Z H σ ρ (.ref q :: vs) (.f ds :: ns) (q :: qs)
section
variable {K : PySem.W.Frag} {Wx : WX} {te : TE} {tas : TA} {b0 : Bx} {B Z0 Z H : Hp} {σ : L2.St} {ρ : Rho}
theorem NwP.len {vs : List V} {ns : List Nw} {qs : List Addr} (h : NwP K B Z H σ ρ vs ns qs) : vs.length = ns.length := by
  induction h with
  | nil => rfl
  | s _ _ ih => rw [List.length_cons, List.length_cons, ih]
  | f _ _ _ _ _ _ _ ih => rw [List.length_cons, List.length_cons, ih]
theorem NwP.none {vs : List V} {ns : List Nw} {qs : List Addr} (h : NwP K B Z H σ ρ vs ns qs) : ∀ q ∈ qs, B q = Option.none := by
  induction h with
  | nil => exact fun q hq => nomatch hq
  | s _ _ ih => exact ih
  | f _ hb _ _ _ _ _ ih =>
    intro q hq
    rcases List.mem_cons.mp hq with rfl | hq
    · exact hb
    · exact ih q hq
theorem NwP.back {p : Addr} {o : HO} (bp : B p = Option.none) {vs : List V} {ns : List Nw} {qs : List Addr} (h : NwP K (upd B p o) Z H σ ρ vs ns qs) : NwP K B Z H σ ρ vs ns qs ∧ p ∉ qs := by
  induction h with
  | nil => exact ⟨.nil, fun z => nomatch z⟩
  | s r _ ih => exact ⟨.s r ih.1, ih.2⟩
  | @f q ws vs ds ns qs hz hb ha hh hr hn _ ih =>
    have ne : q ≠ p := fun z => by rw [z, upd_same] at hb; cases hb
    rw [upd_ne ne] at hb
    exact ⟨.f hz hb ha hh hr hn ih.1, fun z => (List.mem_cons.mp z).elim (fun y => ne y.symm) ih.2⟩
def setN : List Nat → List Nw → Rho → Rho
  | i :: is, n :: ns, ρ => setN is ns (ρ.set i n.sl)
  | _, _, ρ => ρ
theorem apart_set {i : Nat} {v : V} {n : Nw} {q : Addr} (h : Apart σ ρ q) (hv : ∀ ds, n = .f ds → v ≠ .ref q) : Apart (σ.set i (some v)) (ρ.set i n.sl) q := fun j es hj ho hq => by
  rcases set_get hj with ⟨ek, e⟩ | ⟨nk, e⟩
  · subst ek
    cases n with
    | s d => subst e; cases ho
    | f ds =>
      rcases set_get hq with ⟨_, e2⟩ | ⟨n2, _⟩
      · exact hv ds rfl (Option.some.inj e2)
      · exact n2 rfl
  · rw [List.getElem?_set_ne nk] at hq
    exact h j es e ho hq
theorem NwP.set {i : Nat} {v : V} {n : Nw} {vs : List V} {ns : List Nw} {qs : List Addr} (hv : ∀ q ∈ qs, ∀ ds, n = .f ds → v ≠ .ref q) (h : NwP K B Z H σ ρ vs ns qs) : NwP K B Z H (σ.set i (some v)) (ρ.set i n.sl) vs ns qs := by
  induction h with
  | nil => exact .nil
  | s r _ ih => exact .s r (ih hv)
  | f hz hb ha hh hr hn _ ih => exact .f hz hb (apart_set ha (hv _ List.mem_cons_self)) hh hr hn (ih fun q hq => hv q (List.mem_cons_of_mem _ hq))
def sTupN (is : List Nat) (gn : Rho → R (List Nw)) (ρ : Rho) : O := (gn ρ).to fun ns ρ1 => if ns.length = is.length then .nx (setN is ns ρ1) else .bad
end
theorem Sq.tup {r : D} {xs : List D} (h : Sq r xs) : tupleD [r] = some (.tuple xs) := by rcases h with rfl | rfl <;> rfl
theorem Sq.lst {r : D} {xs : List D} (h : Sq r xs) : listD [r] = some xs := by rcases h with rfl | rfl <;> rfl
/-- the row after calls -/
def runN (ns : List Int) (tape : List Int) : List Int := tape.foldl callN ns
theorem callN_iff {ns : List Int} {i : Int} (h0 : 0 ≤ i) (h1 : i < ns.length) : callN ns i = ns ↔ midN ns i = nat ns i := by
  unfold callN
  have hk : i.toNat < ns.length := by omega
  constructor
  · intro h
    have : (ns.set i.toNat (midN ns i))[i.toNat]? = ns[i.toNat]? := by rw [h]
    rw [List.getElem?_set_self hk] at this
    unfold nat
    rw [← this]; rfl
  · intro h
    rw [h]
    unfold nat
    rw [List.getElem?_eq_getElem hk]
    exact List.set_getElem_self hk
end DL
namespace DL
open PySem PySem.Spec PyProof.Rows L2
end DL
namespace DLX
open PySem PySem.W PySem.Calls PyProof.Rows PySem.HandSPX
open Builtin Builtin.ObjectAttr
end DLX
namespace DL
open PySem PySem.Spec PyProof.Rows L2 DLX
end DL
namespace DL
open PySem PySem.Spec PyProof.Rows L2
def strD : List D → Option D
  | [.int i] => if i.natAbs.log2 < 1920 then some (.str (toString i)) else none
  | [.str a] => some (.str a)
  | _ => none
def rStr1 : List V → Hp → VK → Prop := fun xs H Q => (∃ i, xs = [.int i] ∧ i.natAbs.log2 < 1920 ∧ Q (.str (toString i)) H) ∨ ∃ a, xs = [.str a] ∧ Q (.str a) H
theorem call_strU {X : Cx} : CallR X (.type "str") rStr1 := by
  intro pins s σ H xs us Q I r h
  rcases h with h | h
  · exact call_str_int pins s σ H xs us Q I r h
  · exact SkE.call_str_str pins s σ H xs us Q I r h
theorem sn_str {K : PySem.W.Frag} : SnA K rStr1 strD := fun b0 B Z0 Z H σ ρ xs as c Q ok ha e q => by
  unfold strD at e
  split at e
  · split at e
    · cases e
      cases ha with
      | cons h h' =>
      cases h'; cases h
      exact .inl ⟨_, rfl, ‹_›, q _ H Z ok (Same.refl Z) (.str _)⟩
    · cases e
  · cases e
    cases ha with
    | cons h h' =>
    cases h'; cases h
    exact .inr ⟨_, rfl, q _ H Z ok (Same.refl Z) (.str _)⟩
  · cases e
end DL
namespace DLZ
open PySem
abbrev ZipP (h : Heap) (z TI TO : Addr) (p : Value) (f : Bool) : Prop := h.get? z = some { cls := .type "zip", dict := none, data := .fields #[p, .bool f, .bool false, .ref TI, .ref TO], slots := #[] }
/-- a zip, whatever became of its tuple -/
def ZipA (h : Heap) (z TI TO : Addr) : Prop := ∃ p f, ZipP h z TI TO p f ∧ (p = .none ∨ ∃ T : Nat, p = rawInt (T : Int))
section
variable {prog : Program} {w : World} {A : Around} {E : Value → Shared → Prop} {s : Shared} {z TI TO i1 i2 : Addr} {fp1 fp2 : List Addr} {n1 n2 i : Nat} {P1 P2 : Nat → Value → Prop} {St1 St2 : Nat → Heap → Prop} {a1 a2 : Value}
theorem alive_any {a : Addr} {Q : Option Obj → Shared → Prop} (h : Q (s.heap.get? a) s) : wpAny (model prog w) A (loadIfAlive a) Q E s := fun _ _ _ => h
theorem zip_free {p : Value} {f : Bool} {Q : Bool → Shared → Prop} (hz : ZipP s.heap z TI TO p f) (hp : p = .none ∨ ∃ T : Nat, p = rawInt (T : Int)) (h1 : Q true s)
    (h2 : ∀ h' f', ZipP h' z TI TO p f' → Heap.SameBut z s.heap h' → Q false { s with heap := h' }) : wpAny (model prog w) A (Builtin.SmallTypes.ownedTupleIsFree (.ref z)) Q E s := by
  unfold Builtin.SmallTypes.ownedTupleIsFree
  rcases hp with rfl | ⟨T, rfl⟩
  · exact wpAny_bind (wpAny_field hz rfl (x := .none) rfl (wpAny_pure h1))
  · refine wpAny_bind (wpAny_field hz rfl (x := rawInt (T : Int)) rfl ?_)
    show wpAny _ _ (loadIfAlive ((T : Int).toNat) >>= _) _ _ _
    rw [Int.toNat_natCast]
    refine wpAny_bind (alive_any ?_)
    cases s.heap.get? T with
    | none =>
      simp only [Option.isNone_none, if_true]
      exact wpAny_pure h1
    | some oT =>
      simp only [Option.isNone_some, Bool.false_eq_true, if_false]
      refine wpAny_bind (wpAny_field hz rfl (x := .bool f) rfl ?_)
      cases f with
      | true =>
        rw [if_neg (show ¬ ((Value.bool true != Value.bool true) = true) from Bool.false_ne_true)]
        exact wpAny_pure (h2 s.heap _ hz (Heap.SameBut.refl _ _))
      | false =>
        rw [if_pos (show (Value.bool false != Value.bool true) = true from rfl)]
        exact wpAny_bind (wpAny_setField_rec hz (by simp) fun h₁ hz₁ hs₁ => wpAny_pure (h2 h₁ true hz₁ hs₁))
theorem zipX_item {Q : Value → Shared → Prop} (S : ZipSep2 z TI TO i1 i2 fp1 fp2) (D1 : Draws prog w A i1 fp1 n1 P1 St1) (D2 : Draws prog w A i2 fp2 n2 P2 St2)
    (hz : ZipA s.heap z TI TO) (hTI : IsTupOf2 s.heap TI (.ref i1) (.ref i2)) (hTO : IsTupOf2 s.heap TO a1 a2) (st1 : St1 i s.heap) (st2 : St2 i s.heap) (hlt1 : i < n1) (hlt2 : i < n2)
    (hQ : ∀ x1 x2 h' tk, P1 i x1 → P2 i x2 → ZipA h' z TI TO → (∃ b1 b2, IsTupOf2 h' TO b1 b2) → St1 (i + 1) h' → St2 (i + 1) h' → IsTupOf2 h' s.heap.objs.size x1 x2 → h'.objs.size = s.heap.objs.size + 1 →
      (∀ c o, c ≠ z → c ≠ TO → c ≠ i1 → c ≠ i2 → s.heap.get? c = some o → h'.get? c = some o) → Q (.ref s.heap.objs.size) { s with heap := h', toks := tk }) :
    wpAny (model prog w) A (Builtin.«zip.__next__» ⟨[.ref z], []⟩) (fun fin s' => ∃ v, fin = .done (.ret v) ∧ Q v s') E s := by
  obtain ⟨hp, g, d, tk0, os⟩ := s
  obtain ⟨p, f, hz, hpp⟩ := hz
  show wpAny _ _ (field (.ref z) 2 >>= _) _ _ _
  refine wpAny_bind (wpAny_field hz rfl (x := .bool false) rfl ?_)
  show wpAny _ _ (field (.ref z) 3 >>= _) _ _ _
  refine wpAny_bind (wpAny_field hz rfl (x := .ref TI) rfl ?_)
  refine wpAny_bind (wpAny_seqItems hTI rfl ?_)
  show wpAny _ _ (Builtin.SmallTypes.ownedTupleIsFree (.ref z) >>= _) _ _ _
  refine wpAny_bind (zip_free hz hpp ?_ fun g0 f' hz0 hs0 => ?_)
  · simp only [if_true]
    refine wpAny_bind (wpAny_rule ?_)
    refine wpAny_bind (wpAny_field hz rfl (x := .ref TO) rfl ?_)
    refine wpAny_bind (wpAny_setField_rec hz (by simp) fun g0 hz0 hs0 => ?_)
    replace hz0 : ZipP g0 z TI TO .ellipsis f := hz0
    replace hs0 : Heap.SameBut z hp g0 := hs0
    refine wpAny_bind ?_
    simp only [List.zipIdx_cons, List.zipIdx_nil, List.forIn_cons, List.forIn_nil]
    refine wpAny_bind (wpAny_bind (wpAny_onRaise ?_))
    show wpAny _ _ (Builtin.SmallTypes.nextOf (.ref i1) >>= _) _ _ ⟨g0, g, d, tk0, os⟩
    refine wpAny_bind (D1.item i _ _ _ hlt1 (D1.over st1 hs0 S.zf1) fun x1 p1 tk1 hx1 sn1 hp1 => wpAny_pure ?_)
    replace hp1 : Heap.SameBut i1 g0 p1 := hp1
    have hU1 : IsTupOf2 p1 TO a1 a2 := hp1.extBut _ _ S.Ti1 (hs0.extBut _ _ S.TOz hTO)
    refine wpAny_bind (wpAny_seqItems (s := ⟨p1, g, d, tk1, os⟩) hU1 rfl ?_)
    refine wpAny_bind (updateSeq_IsTupOf2 (s := ⟨p1, g, d, tk1, os⟩) hU1 fun g1 hT1 hs1 => ?_)
    replace hT1 : IsTupOf2 g1 TO x1 a2 := hT1
    replace hs1 : Heap.SameBut TO p1 g1 := hs1
    refine wpAny_bind (wpAny_letGo (wpAny_pure ?_))
    refine wpAny_bind (wpAny_bind (wpAny_onRaise ?_))
    show wpAny _ _ (Builtin.SmallTypes.nextOf (.ref i2) >>= _) _ _ ⟨g1, g, d, tk1, os⟩
    refine wpAny_bind (D2.item i _ _ _ hlt2 (D2.over (D2.over (D2.over st2 hs0 S.zf2) hp1 S.sep1_2) hs1 S.Tf2) fun x2 p2 tk2 hx2 sn2 hp2 => wpAny_pure ?_)
    replace hp2 : Heap.SameBut i2 g1 p2 := hp2
    have hU2 : IsTupOf2 p2 TO x1 a2 := hp2.extBut _ _ S.Ti2 hT1
    refine wpAny_bind (wpAny_seqItems (s := ⟨p2, g, d, tk2, os⟩) hU2 rfl ?_)
    refine wpAny_bind (updateSeq_IsTupOf2 (s := ⟨p2, g, d, tk2, os⟩) hU2 fun g2 hT2 hs2 => ?_)
    replace hT2 : IsTupOf2 g2 TO x1 x2 := hT2
    replace hs2 : Heap.SameBut TO p2 g2 := hs2
    refine wpAny_bind (wpAny_letGo (wpAny_pure (wpAny_pure ?_)))
    refine wpAny_bind (wpAny_seqItems (s := ⟨g2, g, d, tk2, os⟩) hT2 rfl ?_)
    refine wpAny_bind (wpAny_newTuple ?_)
    have hsz : g2.objs.size = hp.objs.size := by rw [hs2.1, hp2.1, hs1.1, hp1.1, hs0.1]
    have hzz : ZipP g2 z TI TO .ellipsis f := (hs2.extBut _ _ S.TOz.symm (hp2.extBut _ _ S.zi2 (hs1.extBut _ _ S.TOz.symm (hp1.extBut _ _ S.zi1 hz0))))
    have hkk : ∀ c o, c ≠ z → c ≠ TO → c ≠ i1 → c ≠ i2 → hp.get? c = some o → g2.get? c = some o := fun c o cz cT c1 c2 e =>
      (hs2.extBut _ _ cT (hp2.extBut _ _ c2 (hs1.extBut _ _ cT (hp1.extBut _ _ c1 (hs0.extBut _ _ cz e)))))
    have hj1 : St1 (i + 1) g2 := (D1.over (D1.over (D1.over sn1 hs1 S.Tf1) hp2 S.sep2_1) hs2 S.Tf1)
    have hj2 : St2 (i + 1) g2 := (D2.over sn2 hs2 S.Tf2)
    have hzlt : z < g2.objs.size := Heap.lt_size hzz
    show wpAny _ _ (Builtin.SmallTypes.ownedTupleHandOut (.ref z) (.ref g2.objs.size) >>= _) _ _ ⟨g2.push { cls := .type "tuple", data := .seq #[x1, x2] }, g, d, tk2, os⟩
    refine wpAny_bind ?_
    unfold Builtin.SmallTypes.ownedTupleHandOut
    have hz₆ : ZipP (g2.push { cls := .type "tuple", data := .seq #[x1, x2] }) z TI TO .ellipsis f := Heap.get?_push_of_some _ hzz
    refine wpAny_bind (wpAny_setField_rec hz₆ (by simp) fun h₇ hz₇ hs₇ => ?_)
    replace hz₇ : ZipP h₇ z TI TO (rawInt g2.objs.size) f := hz₇
    refine wpAny_setField_rec hz₇ (by simp) fun h₈ hz₈ hs₈ => ?_
    replace hz₈ : ZipP h₈ z TI TO (rawInt g2.objs.size) false := hz₈
    replace hs₇ : Heap.SameBut z (g2.push { cls := .type "tuple", data := .seq #[x1, x2] }) h₇ := hs₇
    replace hs₈ : Heap.SameBut z h₇ h₈ := hs₈
    have up : ∀ c o, c ≠ z → g2.get? c = some o → h₈.get? c = some o := fun c o c1 e => hs₈.extBut _ _ c1 (hs₇.extBut _ _ c1 (Heap.get?_push_of_some _ e))
    have hT₈ : IsTupOf2 h₈ g2.objs.size x1 x2 := hs₈.extBut _ _ (Nat.ne_of_gt hzlt) (hs₇.extBut _ _ (Nat.ne_of_gt hzlt) (Heap.get?_push_size _ rfl))
    have hz8 : h₈.objs.size = g2.objs.size + 1 := by rw [hs₈.1, hs₇.1, Heap.size_push]
    rw [hsz] at hz₈ hT₈ hz8
    refine wpAny_pure ⟨_, rfl, ?_⟩
    show Q (.ref g2.objs.size) ⟨h₈, g, d, tk2, os⟩
    rw [hsz]
    exact hQ x1 x2 h₈ tk2 hx1 hx2 ⟨_, _, hz₈, .inr ⟨_, rfl⟩⟩ ⟨_, _, up _ _ S.TOz hT2⟩ (D1.frame _ _ _ hj1 fun b hb o e => up b o (fun q => S.zf1 (q ▸ hb)) e) (D2.frame _ _ _ hj2 fun b hb o e => up b o (fun q => S.zf2 (q ▸ hb)) e) hT₈ hz8 fun c o cz cT c1 c2 e => up c o cz (hkk c o cz cT c1 c2 e)
  · simp only [Bool.false_eq_true, if_false]
    replace hs0 : Heap.SameBut z hp g0 := hs0
    refine wpAny_bind ?_
    rw [← Array.forIn_toList]
    simp only [List.forIn_cons, List.forIn_nil]
    refine wpAny_bind (wpAny_bind (wpAny_holding ?_))
    show wpAny _ _ (Builtin.SmallTypes.nextOf (.ref i1) >>= _) _ _ ⟨g0, g, d, tk0, os⟩
    refine wpAny_bind (D1.item i _ _ _ hlt1 (D1.over st1 hs0 S.zf1) fun x1 p1 tk1 hx1 sn1 hp1 => wpAny_pure ?_)
    replace hp1 : Heap.SameBut i1 g0 p1 := hp1
    refine wpAny_pure ?_
    refine wpAny_bind (wpAny_bind (wpAny_holding ?_))
    show wpAny _ _ (Builtin.SmallTypes.nextOf (.ref i2) >>= _) _ _ ⟨p1, g, d, tk1, os⟩
    refine wpAny_bind (D2.item i _ _ _ hlt2 (D2.over (D2.over st2 hs0 S.zf2) hp1 S.sep1_2) fun x2 p2 tk2 hx2 sn2 hp2 => wpAny_pure ?_)
    replace hp2 : Heap.SameBut i2 p1 p2 := hp2
    refine wpAny_pure (wpAny_pure ?_)
    show wpAny _ _ (newTuple [x1, x2] >>= _) _ _ _
    refine wpAny_bind (wpAny_newTuple ?_)
    have hsz : p2.objs.size = hp.objs.size := by rw [hp2.1, hp1.1, hs0.1]
    have hzz : ZipP p2 z TI TO p f' := hp2.extBut _ _ S.zi2 (hp1.extBut _ _ S.zi1 hz0)
    have hTO2 : IsTupOf2 p2 TO a1 a2 := hp2.extBut _ _ S.Ti2 (hp1.extBut _ _ S.Ti1 (hs0.extBut _ _ S.TOz hTO))
    have hkk : ∀ c o, c ≠ z → c ≠ TO → c ≠ i1 → c ≠ i2 → hp.get? c = some o → p2.get? c = some o := fun c o cz cT c1 c2 e => hp2.extBut _ _ c2 (hp1.extBut _ _ c1 (hs0.extBut _ _ cz e))
    have hj1 : St1 (i + 1) p2 := D1.over sn1 hp2 S.sep2_1
    refine wpAny_pure ⟨_, rfl, ?_⟩
    show Q (.ref p2.objs.size) ⟨p2.push { cls := .type "tuple", data := .seq #[x1, x2] }, g, d, tk2, os⟩
    have hT : IsTupOf2 (p2.push { cls := .type "tuple", data := .seq #[x1, x2] }) p2.objs.size x1 x2 := Heap.get?_push_size _ rfl
    have hz4 : (p2.push { cls := .type "tuple", data := .seq #[x1, x2] }).objs.size = p2.objs.size + 1 := Heap.size_push ..
    rw [hsz] at hT hz4 ⊢
    exact hQ x1 x2 _ tk2 hx1 hx2 ⟨_, _, Heap.get?_push_of_some _ hzz, hpp⟩ ⟨_, _, Heap.get?_push_of_some _ hTO2⟩ (D1.frame _ _ _ hj1 fun b hb o e => Heap.get?_push_of_some _ e) (D2.frame _ _ _ sn2 fun b hb o e => Heap.get?_push_of_some _ e) hT hz4 fun c o cz cT c1 c2 e => Heap.get?_push_of_some _ (hkk c o cz cT c1 c2 e)
theorem zipX_end {Q : Fin → Shared → Prop} (S : ZipSep2 z TI TO i1 i2 fp1 fp2) (D1 : Draws prog w A i1 fp1 n1 P1 St1) (D2 : Draws prog w A i2 fp2 n2 P2 St2)
    (hz : ZipA s.heap z TI TO) (hTI : IsTupOf2 s.heap TI (.ref i1) (.ref i2)) (hTO : IsTupOf2 s.heap TO a1 a2) (st1 : St1 i s.heap) (st2 : St2 i s.heap) (hle1 : i ≤ n1) (hle2 : i ≤ n2) (hend : i = n1 ∨ i = n2)
    (hE : ∀ h' tk e, (∀ c o, c ≠ z → c ≠ TO → c ≠ i1 → c ≠ i2 → s.heap.get? c = some o → h'.get? c = some o) → (∃ o, h'.get? e = some o ∧ o.cls = .type "StopIteration") → E (.ref e) { s with heap := h', toks := tk }) :
    wpAny (model prog w) A (Builtin.«zip.__next__» ⟨[.ref z], []⟩) Q E s := by
  obtain ⟨hp, g, d, tk0, os⟩ := s
  obtain ⟨p, f, hz, hpp⟩ := hz
  show wpAny _ _ (field (.ref z) 2 >>= _) _ _ _
  refine wpAny_bind (wpAny_field hz rfl (x := .bool false) rfl ?_)
  show wpAny _ _ (field (.ref z) 3 >>= _) _ _ _
  refine wpAny_bind (wpAny_field hz rfl (x := .ref TI) rfl ?_)
  refine wpAny_bind (wpAny_seqItems hTI rfl ?_)
  show wpAny _ _ (Builtin.SmallTypes.ownedTupleIsFree (.ref z) >>= _) _ _ _
  refine wpAny_bind (zip_free hz hpp ?_ fun g0 f' hz0 hs0 => ?_)
  · simp only [if_true]
    refine wpAny_bind (wpAny_rule ?_)
    refine wpAny_bind (wpAny_field hz rfl (x := .ref TO) rfl ?_)
    refine wpAny_bind (wpAny_setField_rec hz (by simp) fun g0 hz0 hs0 => ?_)
    replace hz0 : ZipP g0 z TI TO .ellipsis f := hz0
    replace hs0 : Heap.SameBut z hp g0 := hs0
    refine wpAny_bind ?_
    simp only [List.zipIdx_cons, List.zipIdx_nil, List.forIn_cons, List.forIn_nil]
    refine wpAny_bind (wpAny_bind (wpAny_onRaise ?_))
    show wpAny _ _ (Builtin.SmallTypes.nextOf (.ref i1) >>= _) _ _ ⟨g0, g, d, tk0, os⟩
    by_cases hlt1 : i < n1
    · refine wpAny_bind (D1.item i _ _ _ hlt1 (D1.over st1 hs0 S.zf1) fun x1 p1 tk1 hx1 sn1 hp1 => wpAny_pure ?_)
      replace hp1 : Heap.SameBut i1 g0 p1 := hp1
      have hU1 : IsTupOf2 p1 TO a1 a2 := hp1.extBut _ _ S.Ti1 (hs0.extBut _ _ S.TOz hTO)
      refine wpAny_bind (wpAny_seqItems (s := ⟨p1, g, d, tk1, os⟩) hU1 rfl ?_)
      refine wpAny_bind (updateSeq_IsTupOf2 (s := ⟨p1, g, d, tk1, os⟩) hU1 fun g1 hT1 hs1 => ?_)
      replace hT1 : IsTupOf2 g1 TO x1 a2 := hT1
      replace hs1 : Heap.SameBut TO p1 g1 := hs1
      refine wpAny_bind (wpAny_letGo (wpAny_pure ?_))
      have hi2 : i = n2 := by omega
      refine wpAny_bind (wpAny_bind (wpAny_onRaise ?_))
      show wpAny _ _ (Builtin.SmallTypes.nextOf (.ref i2) >>= _) _ _ ⟨g1, g, d, tk1, os⟩
      refine wpAny_bind (D2.done ⟨g1, g, d, tk1, os⟩ _ _ (by rw [← hi2]; exact (D2.over (D2.over (D2.over st2 hs0 S.zf2) hp1 S.sep1_2) hs1 S.Tf2)) fun q e hq he => ?_)
      replace hq : Heap.ExtBut i2 g1 q := hq
      obtain ⟨oe, hoe, hce⟩ := he
      replace hoe : q.get? e = some oe := hoe
      have hzq : ZipP q z TI TO .ellipsis f := hq _ _ S.zi2 (hs1.extBut _ _ S.TOz.symm (hp1.extBut _ _ S.zi1 hz0))
      have hez : e ≠ z := fun x => by subst x; rw [hzq] at hoe; cases hoe; simp at hce
      refine wpAny_setField_rec (s := ⟨q, g, d, tk1, os⟩) hzq (by simp) fun q' _ hq' => ?_
      replace hq' : Heap.SameBut z q q' := hq'
      exact hE q' tk1 e (fun c o cz cT c1 c2 x => hq'.extBut _ _ cz (hq _ _ c2 (hs1.extBut _ _ cT (hp1.extBut _ _ c1 (hs0.extBut _ _ cz x))))) ⟨oe, hq'.extBut _ _ hez hoe, hce⟩
    · have hi1 : i = n1 := by omega
      refine wpAny_bind (D1.done ⟨g0, g, d, tk0, os⟩ _ _ (by rw [← hi1]; exact (D1.over st1 hs0 S.zf1)) fun q e hq he => ?_)
      replace hq : Heap.ExtBut i1 g0 q := hq
      obtain ⟨oe, hoe, hce⟩ := he
      replace hoe : q.get? e = some oe := hoe
      have hzq : ZipP q z TI TO .ellipsis f := hq _ _ S.zi1 hz0
      have hez : e ≠ z := fun x => by subst x; rw [hzq] at hoe; cases hoe; simp at hce
      refine wpAny_setField_rec (s := ⟨q, g, d, tk0, os⟩) hzq (by simp) fun q' _ hq' => ?_
      replace hq' : Heap.SameBut z q q' := hq'
      exact hE q' tk0 e (fun c o cz cT c1 c2 x => hq'.extBut _ _ cz (hq _ _ c1 (hs0.extBut _ _ cz x))) ⟨oe, hq'.extBut _ _ hez hoe, hce⟩
  · simp only [Bool.false_eq_true, if_false]
    replace hs0 : Heap.SameBut z hp g0 := hs0
    refine wpAny_bind ?_
    rw [← Array.forIn_toList]
    simp only [List.forIn_cons, List.forIn_nil]
    refine wpAny_bind (wpAny_bind (wpAny_holding ?_))
    show wpAny _ _ (Builtin.SmallTypes.nextOf (.ref i1) >>= _) _ _ ⟨g0, g, d, tk0, os⟩
    by_cases hlt1 : i < n1
    · refine wpAny_bind (D1.item i _ _ _ hlt1 (D1.over st1 hs0 S.zf1) fun x1 p1 tk1 hx1 sn1 hp1 => wpAny_pure ?_)
      replace hp1 : Heap.SameBut i1 g0 p1 := hp1
      refine wpAny_pure ?_
      have hi2 : i = n2 := by omega
      refine wpAny_bind (wpAny_bind (wpAny_holding ?_))
      show wpAny _ _ (Builtin.SmallTypes.nextOf (.ref i2) >>= _) _ _ ⟨p1, g, d, tk1, os⟩
      refine wpAny_bind (D2.done ⟨p1, g, d, tk1, os⟩ _ _ (by rw [← hi2]; exact (D2.over (D2.over st2 hs0 S.zf2) hp1 S.sep1_2)) fun q e hq he => ?_)
      replace hq : Heap.ExtBut i2 p1 q := hq
      exact hE q tk1 e (fun c o cz cT c1 c2 x => hq _ _ c2 (hp1.extBut _ _ c1 (hs0.extBut _ _ cz x))) he
    · have hi1 : i = n1 := by omega
      refine wpAny_bind (D1.done ⟨g0, g, d, tk0, os⟩ _ _ (by rw [← hi1]; exact (D1.over st1 hs0 S.zf1)) fun q e hq he => ?_)
      replace hq : Heap.ExtBut i1 g0 q := hq
      exact hE q tk0 e (fun c o cz cT c1 c2 x => hq _ _ c1 (hs0.extBut _ _ cz x)) he
end
end DLZ
namespace DLZ
open PySem
/-- the state of the inner zip -/
def ZSt (z TI TO i1 i2 : Addr) (St1 St2 : Nat → Heap → Prop) : Nat → Heap → Prop := fun i h => ZipA h z TI TO ∧ IsTupOf2 h TI (.ref i1) (.ref i2) ∧ (∃ a1 a2, IsTupOf2 h TO a1 a2) ∧ St1 i h ∧ St2 i h
section
variable {prog : Program} {w : World} {A : Around} {E : Value → Shared → Prop} {s : Shared} {z TI TO i1 i2 : Addr} {fp1 fp2 : List Addr} {n1 n2 i : Nat} {P1 P2 : Nat → Value → Prop} {St1 St2 : Nat → Heap → Prop} {a1 a2 : Value}
theorem zst_frame (S : ZipSep2 z TI TO i1 i2 fp1 fp2) (D1 : Draws prog w A i1 fp1 n1 P1 St1) (D2 : Draws prog w A i2 fp2 n2 P2 St2) {h h' : Heap} (st : ZSt z TI TO i1 i2 St1 St2 i h)
    (k : ∀ b, b = z ∨ b = TI ∨ b = TO ∨ b ∈ fp1 ∨ b ∈ fp2 → ∀ o, h.get? b = some o → h'.get? b = some o) : ZSt z TI TO i1 i2 St1 St2 i h' := by
  obtain ⟨⟨p, f, hz, hp⟩, hTI, ⟨b1, b2, hTO⟩, s1, s2⟩ := st
  exact ⟨⟨p, f, k z (.inl rfl) _ hz, hp⟩, k TI (.inr (.inl rfl)) _ hTI, ⟨b1, b2, k TO (.inr (.inr (.inl rfl))) _ hTO⟩, D1.frame _ _ _ s1 fun b hb o e => k b (.inr (.inr (.inr (.inl hb)))) o e, D2.frame _ _ _ s2 fun b hb o e => k b (.inr (.inr (.inr (.inr hb)))) o e⟩
theorem zip_nextOf_item {Q : Value → Shared → Prop} (S : ZipSep2 z TI TO i1 i2 fp1 fp2) (D1 : Draws prog w A.in1 i1 fp1 n1 P1 St1) (D2 : Draws prog w A.in1 i2 fp2 n2 P2 St2)
    (st : ZSt z TI TO i1 i2 St1 St2 i s.heap) (hlt1 : i < n1) (hlt2 : i < n2)
    (hQ : ∀ x1 x2 h' tk, P1 i x1 → P2 i x2 → ZSt z TI TO i1 i2 St1 St2 (i + 1) h' → IsTupOf2 h' s.heap.objs.size x1 x2 → h'.objs.size = s.heap.objs.size + 1 →
      (∀ c o, c ≠ z → c ≠ TO → c ≠ i1 → c ≠ i2 → s.heap.get? c = some o → h'.get? c = some o) → Q (.ref s.heap.objs.size) { s with heap := h', toks := tk }) :
    wpAny (model prog w) A (Builtin.SmallTypes.nextOf (.ref z)) Q E s := by
  obtain ⟨hz, hTI, ⟨b1, b2, hTO⟩, s1, s2⟩ := st
  obtain ⟨p, f, hz0, hp⟩ := id hz
  have hT : s.TypeIs (.ref z) "zip" := ⟨_, hz0, rfl⟩
  unfold Builtin.SmallTypes.nextOf
  exact wpAny_bind (wpAny_callSpecial?_slot (name := Str.ofString "__next__") hT F.slot_zip_next
    (wpAny_call_entry F.slot_zip_next hT F.entry_zip_next
      (zipX_item S D1 D2 hz hTI hTO s1 s2 hlt1 hlt2 fun x1 x2 h' tk y1 y2 c1 c2 d1 d2 c5 c6 c7 => wpAny_pure (hQ x1 x2 h' tk y1 y2 ⟨c1, c7 TI _ S.TIz S.TITO S.TIi1 S.TIi2 hTI, c2, d1, d2⟩ c5 c6 c7)) (F.args_zip_next_1 _)))
theorem zip_nextOf_end {Q : Value → Shared → Prop} (S : ZipSep2 z TI TO i1 i2 fp1 fp2) (D1 : Draws prog w A.in1 i1 fp1 n1 P1 St1) (D2 : Draws prog w A.in1 i2 fp2 n2 P2 St2)
    (st : ZSt z TI TO i1 i2 St1 St2 i s.heap) (hle1 : i ≤ n1) (hle2 : i ≤ n2) (hend : i = n1 ∨ i = n2)
    (hE : ∀ h' tk e, (∀ c o, c ≠ z → c ≠ TO → c ≠ i1 → c ≠ i2 → s.heap.get? c = some o → h'.get? c = some o) → (∃ o, h'.get? e = some o ∧ o.cls = .type "StopIteration") → E (.ref e) { s with heap := h', toks := tk }) :
    wpAny (model prog w) A (Builtin.SmallTypes.nextOf (.ref z)) Q E s := by
  obtain ⟨hz, hTI, ⟨b1, b2, hTO⟩, s1, s2⟩ := st
  obtain ⟨p, f, hz0, hp⟩ := id hz
  have hT : s.TypeIs (.ref z) "zip" := ⟨_, hz0, rfl⟩
  unfold Builtin.SmallTypes.nextOf
  exact wpAny_bind (wpAny_callSpecial?_slot (name := Str.ofString "__next__") hT F.slot_zip_next
    (wpAny_call_entry F.slot_zip_next hT F.entry_zip_next (zipX_end S D1 D2 hz hTI hTO s1 s2 hle1 hle2 hend hE) (F.args_zip_next_1 _)))
theorem ez_item {e : Addr} {c : Int} {old : Value} {Q : Value → Shared → Prop} (S : ZipSep2 z TI TO i1 i2 fp1 fp2) (D1 : Draws prog w A.in1 i1 fp1 n1 P1 St1) (D2 : Draws prog w A.in1 i2 fp2 n2 P2 St2)
    (he : IsEnum s.heap e z c old) (st : ZSt z TI TO i1 i2 St1 St2 i s.heap) (hlt1 : i < n1) (hlt2 : i < n2) (hne : e ≠ z ∧ e ≠ TI ∧ e ≠ TO ∧ e ∉ fp1 ∧ e ∉ fp2)
    (hQ : ∀ x1 x2 h' tk, P1 i x1 → P2 i x2 → IsEnumOut h' e z (c + 1) (.ref s.heap.objs.size) (s.heap.objs.size + 1) → ZSt z TI TO i1 i2 St1 St2 (i + 1) h' → IsTupOf2 h' s.heap.objs.size x1 x2 →
      h'.get? (s.heap.objs.size + 1) = some { cls := .type "tuple", data := .seq #[.int c tk, .ref s.heap.objs.size] } →
      (∀ b o, b ≠ e → b ≠ z → b ≠ TO → b ≠ i1 → b ≠ i2 → s.heap.get? b = some o → h'.get? b = some o) → Q (.ref (s.heap.objs.size + 1)) { s with heap := h', toks := tk + 1 }) :
    wpAny (model prog w) A (Builtin.«enumerate.__next__» ⟨[.ref e], []⟩) (fun fin s' => ∃ v, fin = .done (.ret v) ∧ Q v s') E s := by
  obtain ⟨hp, g, d, tk₀, os⟩ := s
  obtain ⟨ez, eI, eO, e1, e2⟩ := hne
  show wpAny _ _ (field (.ref e) 2 >>= _) _ _ _
  refine wpAny_bind (wpAny_field he rfl (x := .ref z) rfl ?_)
  refine wpAny_bind (zip_nextOf_item S D1 D2 st hlt1 hlt2 fun x1 x2 h₁ tk hx1 hx2 st₁ hT₁ hz₁ hk₁ => ?_)
  replace hT₁ : IsTupOf2 h₁ hp.objs.size x1 x2 := hT₁
  replace hz₁ : h₁.objs.size = hp.objs.size + 1 := hz₁
  replace hk₁ : ∀ c o, c ≠ z → c ≠ TO → c ≠ i1 → c ≠ i2 → hp.get? c = some o → h₁.get? c = some o := hk₁
  have he₁ : IsEnum h₁ e z c old := hk₁ e _ ez eO (fun q => e1 (q ▸ S.mem1)) (fun q => e2 (q ▸ S.mem2)) he
  show wpAny _ _ (field (.ref e) 3 >>= _) _ _ ⟨h₁, g, d, tk, os⟩
  refine wpAny_bind (wpAny_field he₁ rfl (x := rawInt c) rfl ?_)
  show wpAny _ _ (field (.ref e) 4 >>= _) _ _ ⟨h₁, g, d, tk, os⟩
  refine wpAny_bind (wpAny_field he₁ rfl (x := .none) rfl ?_)
  show wpAny _ _ (mkInt c >>= _) _ _ ⟨h₁, g, d, tk, os⟩
  refine wpAny_bind (wpAny_mkInt ?_)
  show wpAny _ _ (setField (.ref e) 3 (rawInt (c + 1)) >>= _) _ _ ⟨h₁, g, d, tk + 1, os⟩
  refine wpAny_bind (wpAny_setField_rec he₁ (by simp) fun h₂ he₂ hs₂ => ?_)
  replace hs₂ : Heap.SameBut e h₁ h₂ := hs₂
  replace he₂ : IsEnum h₂ e z (c + 1) old := he₂
  show wpAny _ _ (setField (.ref e) 4 .none >>= _) _ _ ⟨h₂, g, d, tk + 1, os⟩
  refine wpAny_bind (wpAny_setField_rec he₂ (by simp) fun h₃ he₃ hs₃ => ?_)
  replace hs₃ : Heap.SameBut e h₂ h₃ := hs₃
  replace he₃ : IsEnum h₃ e z (c + 1) old := he₃
  show wpAny _ _ (newTuple [.int c tk, .ref hp.objs.size] >>= _) _ _ ⟨h₃, g, d, tk + 1, os⟩
  refine wpAny_bind (wpAny_newTuple ?_)
  have he₄ : IsEnum (h₃.push { cls := .type "tuple", data := .seq #[.int c tk, .ref hp.objs.size] }) e z (c + 1) old := Heap.get?_push_of_some _ he₃
  generalize hh₄ : h₃.push { cls := .type "tuple", data := .seq #[.int c tk, .ref hp.objs.size] } = h₄ at he₄
  have hsz : h₃.objs.size = hp.objs.size + 1 := by rw [hs₃.1, hs₂.1, hz₁]
  have hel : e < hp.objs.size := Heap.lt_size he
  have ht₄ : h₄.get? (hp.objs.size + 1) = some { cls := .type "tuple", data := .seq #[.int c tk, .ref hp.objs.size] } := by rw [← hh₄, ← hsz]; exact Heap.get?_push_size _ rfl
  have up₄ : ∀ b o, b ≠ e → h₁.get? b = some o → h₄.get? b = some o := fun b o hbe hb => by
    rw [← hh₄]; exact Heap.get?_push_of_some _ (hs₃.extBut b o hbe (hs₂.extBut b o hbe hb))
  show wpAny _ _ (Builtin.SmallTypes.ownedTupleIsFree (.ref e) >>= _) _ _ ⟨h₄, g, d, tk + 1, os⟩
  rw [hsz]
  refine wpAny_bind ?_
  · unfold Builtin.SmallTypes.ownedTupleIsFree
    refine wpAny_bind (wpAny_field he₄ rfl (x := .none) rfl (wpAny_pure ?_))
    simp only [if_true]
    refine wpAny_bind (wpAny_rule ?_)
    refine wpAny_bind (wpAny_field he₄ rfl (x := old) rfl ?_)
    refine wpAny_bind (wpAny_setField_rec he₄ (by simp) fun h₅ he₅ hs₅ => ?_)
    replace hs₅ : Heap.SameBut e h₄ h₅ := hs₅
    replace he₅ : IsEnum h₅ e z (c + 1) (.ref hp.objs.size) := he₅
    show wpAny _ _ (Builtin.SmallTypes.ownedTupleHandOut (.ref e) (.ref (hp.objs.size + 1)) >>= _) _ _ ⟨h₅, g, d, tk + 1, os⟩
    refine wpAny_bind ?_
    · unfold Builtin.SmallTypes.ownedTupleHandOut
      refine wpAny_bind (wpAny_setField_rec he₅ (by simp) fun h₆ he₆ hs₆ => ?_)
      replace hs₆ : Heap.SameBut e h₅ h₆ := hs₆
      replace he₆ : IsEnumOut h₆ e z (c + 1) (.ref hp.objs.size) (hp.objs.size + 1) := he₆
      refine wpAny_setField_rec he₆ (by simp) fun h₇ he₇ hs₇ => ?_
      replace hs₇ : Heap.SameBut e h₆ h₇ := hs₇
      replace he₇ : IsEnumOut h₇ e z (c + 1) (.ref hp.objs.size) (hp.objs.size + 1) := he₇
      have up : ∀ b o, b ≠ e → h₄.get? b = some o → h₇.get? b = some o := fun b o hbe y => hs₇.extBut b o hbe (hs₆.extBut b o hbe (hs₅.extBut b o hbe y))
      refine wpAny_bind (wpAny_letGo (wpAny_pure ⟨_, rfl, hQ x1 x2 h₇ tk hx1 hx2 he₇ ?_ ?_ ?_ ?_⟩))
      · refine zst_frame S D1 D2 st₁ fun b hb o y => ?_
        have hbe : b ≠ e := by
          rcases hb with q | q | q | q | q
          · rw [q]; exact Ne.symm ez
          · rw [q]; exact Ne.symm eI
          · rw [q]; exact Ne.symm eO
          · exact fun q' => e1 (q' ▸ q)
          · exact fun q' => e2 (q' ▸ q)
        exact up b o hbe (up₄ b o hbe y)
      · exact up _ _ (Nat.ne_of_gt hel) (up₄ _ _ (Nat.ne_of_gt hel) hT₁)
      · exact up _ _ (Nat.ne_of_gt (Nat.lt_succ_of_lt hel)) ht₄
      · exact fun b o hbe hbz hbT hb1 hb2 hb => up b o hbe (up₄ b o hbe (hk₁ b o hbz hbT hb1 hb2 hb))
theorem pyNext_ez_item {e : Addr} {c : Int} {old : Value} {Q : Option Value → Shared → Prop} (S : ZipSep2 z TI TO i1 i2 fp1 fp2) (D1 : Draws prog w A.in1.in1 i1 fp1 n1 P1 St1) (D2 : Draws prog w A.in1.in1 i2 fp2 n2 P2 St2)
    (he : IsEnum s.heap e z c old) (st : ZSt z TI TO i1 i2 St1 St2 i s.heap) (hlt1 : i < n1) (hlt2 : i < n2) (hne : e ≠ z ∧ e ≠ TI ∧ e ≠ TO ∧ e ∉ fp1 ∧ e ∉ fp2)
    (hQ : ∀ x1 x2 h' tk, P1 i x1 → P2 i x2 → IsEnumOut h' e z (c + 1) (.ref s.heap.objs.size) (s.heap.objs.size + 1) → ZSt z TI TO i1 i2 St1 St2 (i + 1) h' → IsTupOf2 h' s.heap.objs.size x1 x2 →
      h'.get? (s.heap.objs.size + 1) = some { cls := .type "tuple", data := .seq #[.int c tk, .ref s.heap.objs.size] } →
      (∀ b o, b ≠ e → b ≠ z → b ≠ TO → b ≠ i1 → b ≠ i2 → s.heap.get? b = some o → h'.get? b = some o) → Q (some (.ref (s.heap.objs.size + 1))) { s with heap := h', toks := tk + 1 }) :
    wpAny (model prog w) A (pyNext (.ref e)) Q E s := by
  have hT : s.TypeIs (.ref e) "enumerate" := ⟨_, he, rfl⟩
  unfold pyNext
  exact wpAny_bind (wpAny_attempt (wpAny_callSpecial?_slot (name := Str.ofString "__next__") hT F.slot_enumerate_next
    (wpAny_call_entry F.slot_enumerate_next hT F.entry_enumerate_next
      (ez_item S D1 D2 he st hlt1 hlt2 hne fun x1 x2 h' tk a b c d k q r => wpAny_pure (hQ x1 x2 h' tk a b c d k q r)) (F.args_enumerate_next_1 _))))
theorem pyNext_ez_end {e : Addr} {c : Int} {old : Value} {Q : Option Value → Shared → Prop} (S : ZipSep2 z TI TO i1 i2 fp1 fp2) (D1 : Draws prog w A.in1.in1 i1 fp1 n1 P1 St1) (D2 : Draws prog w A.in1.in1 i2 fp2 n2 P2 St2)
    (he : IsEnum s.heap e z c old) (st : ZSt z TI TO i1 i2 St1 St2 i s.heap) (hle1 : i ≤ n1) (hle2 : i ≤ n2) (hend : i = n1 ∨ i = n2)
    (hQ : ∀ h' tk, (∀ c o, c ≠ z → c ≠ TO → c ≠ i1 → c ≠ i2 → s.heap.get? c = some o → h'.get? c = some o) → Q none { s with heap := h', toks := tk }) : wpAny (model prog w) A (pyNext (.ref e)) Q E s := by
  have hT : s.TypeIs (.ref e) "enumerate" := ⟨_, he, rfl⟩
  unfold pyNext
  refine wpAny_bind (wpAny_attempt (wpAny_callSpecial?_slot (name := Str.ofString "__next__") hT F.slot_enumerate_next
    (wpAny_call_entry F.slot_enumerate_next hT F.entry_enumerate_next ?_ (F.args_enumerate_next_1 _))))
  show wpAny _ _ (field (.ref e) 2 >>= _) _ _ _
  refine wpAny_bind (wpAny_field he rfl (x := .ref z) rfl ?_)
  refine wpAny_bind (zip_nextOf_end S D1 D2 st hle1 hle2 hend fun h' tk x hk hx' => ?_)
  obtain ⟨o, ho, hc⟩ := hx'
  refine wpAny_bind (wpAny_isInstance (T := "StopIteration") (b := true) ⟨o, ho, hc⟩ isSubtype_stop ?_)
  exact wpAny_pure (hQ _ _ hk)
/-- enumerate(x), x a zip -/
theorem enum_newZ {z TI TO : Addr} :
    Meets (Builtin.«enumerate.__new__» ⟨[.type "enumerate", .ref z], []⟩) (fun _ R s => IsZip s.heap z TI TO .none ∧
      R (.ok (.ret (.ref s.heap.objs.size))) { s with heap := s.heap.push { cls := .type "enumerate", data := .fields #[.none, .bool false, .ref z, rawInt 0, .none, .none] } }) :=
  .of_wp fun prog w A R s h => by
    obtain ⟨hp, gn, dr, tk, os⟩ := s
    obtain ⟨h1, h⟩ := h
    have hsub := sub_enumerate
    have q1 : ∀ {A' : Around} {E : Value → Shared → Prop} {Q : Value → Shared → Prop}, Q (.ref z) ⟨hp, gn, dr, tk, os⟩ → wpAny (model prog w) A' (pyIter (.ref z)) Q E ⟨hp, gn, dr, tk, os⟩ :=
      fun q => wpAny_pyIter_zip h1 q
    wp_walk using q1
    refine wpAny_stack_any fun st => wpAny_pure ?_
    split
    · rename_i c _ _ _ _ _
      cases (c == Value.type "enumerate") <;> (wp_walk using q1; exact ⟨_, rfl, h⟩)
    · wp_walk using q1
      exact ⟨_, rfl, h⟩
theorem enum_beginsZ {z TI TO : Addr} {Q : Value → Shared → Prop} (hz : IsZip s.heap z TI TO .none)
    (h : ∀ h', IsEnum h' s.heap.objs.size z 0 .none → (∀ b o, s.heap.get? b = some o → h'.get? b = some o) → Q (.ref s.heap.objs.size) { s with heap := h' }) :
    wpAny (model prog w) A (call (.type "enumerate") [.ref z]) Q E s := by
  refine callType_new F.called_enumerate (by decide) (F.typeCall_enumerate_1 _) (F.newCall_enumerate_1 _) (fun obj => F.args_object_init_2 obj _) F.entry_enumerate_new (enum_newZ (TI := TI) (TO := TO)) ⟨hz, ?_⟩
  have he : IsEnum (s.heap.push { cls := .type "enumerate", data := .fields #[.none, .bool false, .ref z, rawInt 0, .none, .none] }) s.heap.objs.size z 0 .none := Heap.get?_push_size s.heap (o := { cls := .type "enumerate", data := .fields #[.none, .bool false, .ref z, rawInt 0, .none, .none] }) rfl
  exact ⟨⟨_, he, rfl⟩, h _ he fun b o x => Heap.get?_push_of_some _ x⟩
end
end DLZ
namespace DL
open PySem PySem.Spec PyProof.Rows L2 DLZ
section
variable {X : Cx} {K : PySem.W.Frag} {tas : TA} {pins : List (Addr × Obj)} {σ : L2.St} {H : Hp} {s : Shared} {h' : Heap}
/-- several records of ours have turned, two new objects are laid -/
theorem turned2 {t' : Nat} {ch : List Addr} {T1 T2 : Addr} {o1 o2 : HO} (I : L2.Inv X pins σ H s) (k : ∀ b o, b ∉ ch → s.heap.get? b = some o → h'.get? b = some o) (hf : ∀ b ∈ ch, FpOk X pins H b) (hT1 : s.heap.objs.size ≤ T1) (hT2 : s.heap.objs.size ≤ T2)
    (new1 : ObjOk X.prog X.w (upd (upd H T1 o1) T2 o2) h' T1 o1) (new2 : ObjOk X.prog X.w (upd (upd H T1 o1) T2 o2) h' T2 o2) : L2.Inv X pins σ (upd (upd H T1 o1) T2 o2) { s with heap := h', toks := t' } := by
  have n1 : H T1 = none := I.hok.fresh hT1
  have n2 : H T2 = none := I.hok.fresh hT2
  have same : ∀ b u, H b = some u → upd (upd H T1 o1) T2 o2 b = some u := fun b u e => by rw [upd_ne (ne_of_none e n2), upd_ne (ne_of_none e n1)]; exact e
  have nit : ∀ b u, H b = some u → b ∉ ch := fun b u e z => by
    have q := (hf b z).1
    rw [q] at e; cases e
  refine I.step (g' := s.gens) (d' := s.drawn) (ch := ch) (fun b hb => ⟨(hf b hb).2.2.2.1, (hf b hb).2.1, (hf b hb).2.2.2.2.1, (hf b hb).2.2.2.2.2⟩) (fun b o _ _ hc e _ => k b o hc e) (fun b o _ _ hc e _ => ⟨o.slots, k b o hc e⟩)
    (fun b o _ e n => ?_) (fun b o hc e => ⟨o, k b o hc e⟩) (fun b xs e => same b _ e) (fun b o u e => same b _ e) (fun b ps e => ⟨#[], ?_⟩) (fun m hm => ?_) (fun b u e => ?_) I.bare
  · rw [upd_ne (Nat.ne_of_lt (Nat.lt_of_lt_of_le (Heap.lt_size e) hT2)), upd_ne (Nat.ne_of_lt (Nat.lt_of_lt_of_le (Heap.lt_size e) hT1))]; exact n
  · rw [same b _ e]; simp
  · obtain ⟨o, es, ep, ho, r⟩ := hm
    exact ⟨o, es, ep, k _ o (fun z => (hf _ z).2.1 rfl) ho, r⟩
  · by_cases hb : b = T2
    · subst hb
      rw [upd_same] at e
      cases e
      exact new2
    · by_cases hb1 : b = T1
      · subst hb1
        rw [upd_ne hb, upd_same] at e
        cases e
        exact new1
      · rw [upd_ne hb, upd_ne hb1] at e
        refine (I.hok b u e).stay (fun c v hc q => k c v ?_ q) (fun c q => same c _ q) fun c xs q => same c _ q
        rcases hc with z | z
        · rw [z]; exact nit b u e
        · exact nit c _ z
/-- pairs within pairs -/
def ItQ (S : Hp → Prop) (n : Nat) (f g : Nat → Option V) : It :=
  ⟨fun i H => S H ∧ i < n, fun i H v H' => ∃ T1 T2 x y, v = .ref T2 ∧ H T1 = none ∧ H T2 = none ∧ T2 ≠ T1 ∧ H' = upd (upd H T1 (.tup [x, y])) T2 (.tup [.int (0 + (i : Int)), .ref T1]) ∧ f i = some x ∧ g i = some y, fun i H => S H ∧ i = n⟩
def fp6 (N : Addr) : List Addr := [N + 5, N + 4, N + 2, N + 3, N, N + 1]
theorem fp6_cases {N c : Addr} (hc : c ∈ fp6 N) : c = N + 5 ∨ c = N + 4 ∨ c = N + 2 ∨ c = N + 3 ∨ c = N ∨ c = N + 1 := by simpa [fp6] using hc
def ezTn (k1 k2 : Sk) (a b N : Addr) : Nat → Heap → Prop := fun i h => (∃ old, IsEnum h (N + 5) (N + 4) (0 + (i : Int)) old) ∧ ZipA h (N + 4) (N + 2) (N + 3) ∧ IsTupOf2 h (N + 2) (.ref N) (.ref (N + 1)) ∧ (∃ a1 a2, IsTupOf2 h (N + 3) a1 a2) ∧ k1.itr h N a i ∧ k2.itr h (N + 1) b i
theorem ez_live {k1 k2 : Sk} {a b N : Addr} {i : Nat} {h : Heap} (st : ezTn k1 k2 a b N i h) : ∀ c ∈ fp6 N, ∃ o, h.get? c = some o ∧ ∀ v, o.data ≠ .cell v := fun c hc => by
  obtain ⟨⟨old, h0⟩, ⟨p, f, h1, _⟩, h2, ⟨a1, a2, h3⟩, h4, h5⟩ := st
  rcases fp6_cases hc with e | e | e | e | e | e
  · rw [e]; exact ⟨_, h0, fun v z => nomatch z⟩
  · rw [e]; exact ⟨_, h1, fun v z => nomatch z⟩
  · rw [e]; exact ⟨_, h2, fun v z => nomatch z⟩
  · rw [e]; exact ⟨_, h3, fun v z => nomatch z⟩
  · rw [e]; exact k1.obj_of h4
  · rw [e]; exact k2.obj_of h5
theorem ad_ne (N : Nat) : N + 4 ≠ N + 5 ∧ N + 2 ≠ N + 5 ∧ N + 3 ≠ N + 5 ∧ N ≠ N + 5 ∧ N + 1 ≠ N + 5 := by omega
theorem ez_ne' (N a b : Nat) (ha : a < N) (hb : b < N) : N + 5 ≠ N + 4 ∧ N + 5 ≠ N + 2 ∧ N + 5 ≠ N + 3 ∧ N + 5 ∉ [N, a] ∧ N + 5 ∉ [N + 1, b] := by
  refine ⟨by omega, by omega, by omega, fun z => ?_, fun z => ?_⟩
  · rcases List.mem_cons.mp z with z | z
    · omega
    · rcases List.mem_cons.mp z with z | z
      · omega
      · cases z
  · rcases List.mem_cons.mp z with z | z
    · omega
    · rcases List.mem_cons.mp z with z | z
      · omega
      · cases z
theorem ez_ne {N a b : Addr} (ha : a < N) (hb : b < N) : N + 5 ≠ N + 4 ∧ N + 5 ≠ N + 2 ∧ N + 5 ≠ N + 3 ∧ N + 5 ∉ [N, a] ∧ N + 5 ∉ [N + 1, b] := ez_ne' N a b ha hb
theorem turn_ez {P : Program} {w : World} {elts : List Expr} {kk : Nat} {tpos : Pos} (k1 k2 : Sk) {a b N : Addr} (ha : a < N) (hb : b < N) (xs ys : List V) :
    Turn P w K (.Tuple elts kk tpos) (ItQ (fun H => k1.sq K H a xs ∧ k2.sq K H b ys) (min xs.length ys.length) (fun i => xs[i]?) (fun i => ys[i]?)) (fp6 N) (N + 5) (ezTn k1 k2 a b N) where
  mem := by simp [fp6]
  obj := fun i h st => ez_live st
  keep := fun i h h' st kp => by
    obtain ⟨⟨old, h0⟩, ⟨p, f, h1, hp⟩, h2, ⟨a1, a2, h3⟩, h4, h5⟩ := st
    exact ⟨⟨old, kp _ (by simp [fp6]) _ h0⟩, ⟨p, f, kp _ (by simp [fp6]) _ h1, hp⟩, kp _ (by simp [fp6]) _ h2, ⟨a1, a2, kp _ (by simp [fp6]) _ h3⟩, k1.keep h4 fun o q => kp _ (by simp [fp6]) o q, k2.keep h5 fun o q => kp _ (by simp [fp6]) o q⟩
  item := by
    intro X hP hw hK hc i pins s σ H E I hf st hg
    subst hP hw hK
    obtain ⟨⟨q1, q2⟩, hi⟩ := hg
    obtain ⟨i1, r1, s1⟩ := k1.there I q1
    obtain ⟨i2, r2, s2⟩ := k2.there I q2
    have st0 := st
    obtain ⟨⟨old, h0⟩, h1, h2, h3, h4, h5⟩ := st
    refine pyNext_ez_item (zip_sep2 (N := N) (fp1 := [a]) (fp2 := [b]) (by simpa using ha) (by simpa using hb)) (k1.draws (A := X.A.in1.in1) (I.ok.hd hc) N a (Nat.ne_of_lt ha) i1.toArray) (k2.draws (A := X.A.in1.in1) (I.ok.hd hc) (N + 1) b (Nat.ne_of_lt (Nat.lt_succ_of_lt hb)) i2.toArray)
      h0 (i := i) ⟨h1, h2, h3, ⟨h4, s1⟩, h5, s2⟩ (by rw [List.size_toArray, ← r1.length]; omega) (by rw [List.size_toArray, ← r2.length]; omega) (ez_ne ha hb) fun x y h' tk ex ey eo st' t1 t2 kp => ⟨_, rfl, ?_⟩
    refine wpAny_letOwnedTupleGo_enum eo fun h2' he2 hs2 => ?_
    have hel : N + 5 < s.heap.objs.size := Heap.lt_size h0
    have gx : xs[i]? = some (xs[i]'(by omega)) := List.getElem?_eq_getElem _
    have gy : ys[i]? = some (ys[i]'(by omega)) := List.getElem?_eq_getElem _
    obtain ⟨u, eu, ru⟩ := r1.get gx
    obtain ⟨v, ev, rv⟩ := r2.get gy
    have e1 : u = x := Option.some.inj (eu.symm.trans (by simpa using ex))
    have e2 : v = y := Option.some.inj (ev.symm.trans (by simpa using ey))
    subst e1 e2
    obtain ⟨g1, g2, g3, ⟨g4, _⟩, g5, _⟩ := st'
    replace hs2 : Heap.SameBut (N + 5) h' h2' := hs2
    have up : ∀ c o, c ≠ N + 5 → h'.get? c = some o → h2'.get? c = some o := fun c o hc e => hs2.extBut c o hc e
    have t1' : h2'.IsTuple s.heap.objs.size #[u, v] := ⟨_, up _ _ (Nat.ne_of_gt hel) t1, rfl, _, rfl⟩
    have t2' : h2'.IsTuple (s.heap.objs.size + 1) #[.int (0 + (i : Int)) tk, .ref s.heap.objs.size] := ⟨_, up _ _ (Nat.ne_of_gt (Nat.lt_succ_of_lt hel)) t2, rfl, _, rfl⟩
    have frT1 : H s.heap.objs.size = none := I.hok.fresh (Nat.le_refl _)
    have frT2 : H (s.heap.objs.size + 1) = none := I.hok.fresh (Nat.le_succ _)
    have J := turned2 (t' := tk + 1) (h' := h2') (ch := fp6 N) (T1 := s.heap.objs.size) (T2 := s.heap.objs.size + 1) (o1 := .tup [xs[i]'(by omega), ys[i]'(by omega)]) (o2 := .tup [.int (0 + (i : Int)), .ref s.heap.objs.size]) I
      (fun c o hc e => up c o (fun z => hc (by simp [fp6, z])) (kp c o (fun z => hc (by simp [fp6, z])) (fun z => hc (by simp [fp6, z])) (fun z => hc (by simp [fp6, z])) (fun z => hc (by simp [fp6, z])) (fun z => hc (by simp [fp6, z])) e)) hf (Nat.le_refl _) (Nat.le_succ _)
      ⟨by show 2 ≤ sizeLine; decide, [u, v], .cons ru (.cons rv .nil), t1'⟩ ⟨by show 2 ≤ sizeLine; decide, [.int (0 + (i : Int)) tk, .ref s.heap.objs.size], .cons ⟨_, rfl⟩ (.cons rfl .nil), t2'⟩
    refine ⟨.ref (s.heap.objs.size + 1), _, J, rfl, ⟨_, _, _, _, rfl, frT1, frT2, Nat.succ_ne_self _, rfl, gx, gy⟩, ⟨⟨.ref s.heap.objs.size, ?_⟩, ?_, ?_, ?_, ?_, ?_⟩, fun c hc => ?_⟩
    · have e1 : (0 : Int) + ((i + 1 : Nat) : Int) = 0 + (i : Int) + 1 := by omega
      rw [e1]
      exact he2
    · obtain ⟨p, f, w1, w2⟩ := g1
      exact ⟨p, f, up _ _ (ad_ne N).1 w1, w2⟩
    · exact up _ _ (ad_ne N).2.1 g2
    · obtain ⟨b1, b2, w⟩ := g3
      exact ⟨b1, b2, up _ _ (ad_ne N).2.2.1 w⟩
    · exact k1.keep g4 fun o q => up _ _ (ad_ne N).2.2.2.1 q
    · exact k2.keep g5 fun o q => up _ _ (ad_ne N).2.2.2.2 q
    · obtain ⟨o, e, _⟩ := ez_live st0 c hc
      have l := Heap.lt_size e
      rw [upd_ne (Nat.ne_of_lt (Nat.lt_succ_of_lt l)), upd_ne (Nat.ne_of_lt l)]
      exact (hf c hc).1
  done := by
    intro X hP hw hK hc i pins s σ H E I hf st hg
    subst hP hw hK
    obtain ⟨⟨q1, q2⟩, hi⟩ := hg
    obtain ⟨i1, r1, s1⟩ := k1.there I q1
    obtain ⟨i2, r2, s2⟩ := k2.there I q2
    obtain ⟨⟨old, h0⟩, h1, h2, h3, h4, h5⟩ := st
    have z1 : i1.toArray.size = xs.length := by rw [List.size_toArray, ← r1.length]
    have z2 : i2.toArray.size = ys.length := by rw [List.size_toArray, ← r2.length]
    refine pyNext_ez_end (zip_sep2 (N := N) (fp1 := [a]) (fp2 := [b]) (by simpa using ha) (by simpa using hb)) (k1.draws (A := X.A.in1.in1) (I.ok.hd hc) N a (Nat.ne_of_lt ha) i1.toArray) (k2.draws (A := X.A.in1.in1) (I.ok.hd hc) (N + 1) b (Nat.ne_of_lt (Nat.lt_succ_of_lt hb)) i2.toArray)
      h0 (i := i) ⟨h1, h2, h3, ⟨h4, s1⟩, h5, s2⟩ (by omega) (by omega) (by omega) fun h' tk kp => ⟨rfl, ?_⟩
    exact I.turnedL (t' := tk) (ch := fp6 N) (fun c o hc e => kp c o (fun z => hc (by simp [fp6, z])) (fun z => hc (by simp [fp6, z])) (fun z => hc (by simp [fp6, z])) (fun z => hc (by simp [fp6, z])) e) hf
  self := fun A i s Q E st h => let ⟨⟨_, he⟩, _⟩ := st; wpAny_pyIter_enum he h
def iEZ (K : PySem.W.Frag) (ta : TA) : TI := fun σ H R => ta σ H fun vs H1 => ∃ a b k1 k2 xs ys, vs = [.ref a, .ref b] ∧ Sk.sq K H1 a xs k1 ∧ Sk.sq K H1 b ys k2 ∧ R (ItQ (fun H => k1.sq K H a xs ∧ k2.sq K H b ys) (min xs.length ys.length) (fun i => xs[i]?) (fun i => ys[i]?)) H1
theorem pi_enumZip {e e2 : Expr} {ta : TA} {p pos p2 pos2 tpos : Pos} {elts : List Expr} {kk : Nat} (hg : Gl X "enumerate") (hm : X.mg "enumerate" = none) (hg2 : Gl X "zip") (hm2 : X.mg "zip" = none) (ha : PA X [e, e2] ta)
    (h0 : starEach [.Call (.Name "zip" p2) [e, e2] [] pos2] X.env = (false, eval (.Call (.Name "zip" p2) [e, e2] [] pos2) X.env) :: starEach [] X.env := by rfl)
    (h1 : starEach [e, e2] X.env = (false, eval e X.env) :: starEach [e2] X.env := by rfl) (h2 : (backTo pos2 (starEach [e2] X.env)).any (·.1) = false := by rfl) :
    PI X (.Tuple elts kk tpos) (.Call (.Name "enumerate" p) [.Call (.Name "zip" p2) [e, e2] [] pos2] [] pos) (iEZ X.K ta) := by
  refine ⟨fun pins s σ H R I h => PyProof.Rows.Call_ (ld_blt I hg hm PyProof.Rows.boot_enumerate (PyProof.Rows.callWith_type1 ?_ h0 rfl))⟩
  rw [h0]
  show wpAny _ _ (spliced ((false, eval (.Call (.Name "zip" p2) [e, e2] [] pos2) X.env) :: backTo pos (starEach [] X.env))) _ _ s
  refine Calls.spliced_cons (PyProof.Rows.Call_ (ld_blt I hg2 hm2 PyProof.Rows.boot_zip (PyProof.Rows.callWith_type1 (thn (ha.run pos2 pins s σ H _ I h) fun us s1 ⟨vs, H1, I1, r1, q1⟩ => ?_) h1 h2)))
  obtain ⟨a, b, k1, k2, xs, ys, rfl, q1, q2, q⟩ := q1
  cases r1 with
  | cons r rr =>
  cases rr with
  | cons r' rr =>
  cases rr; cases r; cases r'
  obtain ⟨i1, r1, s1'⟩ := k1.there I1 q1
  obtain ⟨i2, r2, s2'⟩ := k2.there I1 q2
  refine zip_begins2 (k1.begins a i1.toArray) (k2.begins b i2.toArray) s1' s2' fun h' hz hTI hTO g1 g2 hsz hk => ?_
  refine Calls.spliced_nil ?_
  refine enum_beginsZ (s := { s1 with heap := h' }) hz fun h'' he hk2 => wpAny_pyIter_enum he ?_
  have ez : h'.objs.size = s1.heap.objs.size + 5 := hsz
  have he' : IsEnum h'' (s1.heap.objs.size + 5) (s1.heap.objs.size + 4) 0 .none := by rw [← ez]; exact he
  refine ⟨s1.heap.objs.size + 5, fp6 s1.heap.objs.size, _, _, H1, (by show Value.ref h'.objs.size = _; rw [ez]), I1.kept (t' := s1.toks) fun c o e => hk2 c o (hk c o e), turn_ez k1 k2 (k1.lt s1') (k2.lt s2') xs ys,
    ⟨⟨_, he'⟩, ⟨_, _, hk2 _ _ hz, .inl rfl⟩, hk2 _ _ hTI, ⟨_, _, hk2 _ _ hTO⟩, k1.first (hk2 _ _ g1), k2.first (hk2 _ _ g2)⟩, fun c hc => ?_, q⟩
  have hle : s1.heap.objs.size ≤ c := by
    rcases fp6_cases hc with z | z | z | z | z | z <;> rw [z] <;> first | exact Nat.le_add_right _ _ | exact Nat.le_refl _
  exact I1.fpOk hle (I1.hok.fresh hle)
theorem wk_quad {Z : Hp} {S : Hp → Prop} {n : Nat} {f g : Nat → Option V} {ds : List D} (hS : ∀ H, Same Z H → S H) (hn : ds.length = n) (hd : ∀ i x y, i < n → f i = some x → g i = some y → ∃ a b, ds[i]? = some (.tuple [.int (i : Int), .tuple [a, b]]) ∧ Rp K Z x a ∧ Rp K Z y b) : Wk K (ItQ S n f g) Z ds where
  goes := fun i H hi s => ⟨hS H s, by rw [← hn]; exact hi⟩
  stops := fun H s => ⟨hS H s, hn⟩
  yields := fun i H x H' hi y b0 B Z0 Z' σ ρ ok s => by
    obtain ⟨T1, T2, x, y, rfl, n1, n2, ne, rfl, e1, e2⟩ := y
    obtain ⟨a, b, ed, ra, rb⟩ := hd i x y (by omega) e1 e2
    obtain ⟨ok2, s2⟩ := ok.new (o := .tup [x, y]) n1
    obtain ⟨ok3, s3⟩ := ok2.new (o := .tup [.int (0 + (i : Int)), .ref T1]) (show upd H T1 _ T2 = none by rw [upd_ne ne]; exact n2)
    refine ⟨_, _, ok3, s2.trans s3, ed, .tup (.inl (.inl upd_same)) (.cons (by rw [Int.zero_add]; exact .int _) (.cons ?_ .nil))⟩
    exact .tup (.inl (.inl (s3 _ _ upd_same))) (.cons (((ra.mono s).mono s2).mono s3) (.cons (((rb.mono s).mono s2).mono s3) .nil))
def enumZipD : List D → Option (List D)
  | [a, b] => (zip2D [a, b]).map (enumFrom 0)
  | _ => none
theorem di_enumZip {ga : GA} (h : DA K tas ga) : DI K (iEZ K tas) (eCall enumZipD ga) := fun b0 B Z0 Z H σ ρ ds ρ' W ok e q => by
  obtain ⟨os, as, e1, e2, e3⟩ := call_ok e
  refine h b0 B Z0 Z H σ ρ os ρ' _ ok e1 fun vs H1 Z1 ok1 s1 r1 => ?_
  have ra := valA_ok r1 e2
  unfold enumZipD at e3
  split at e3
  · obtain ⟨zs, e4, rfl⟩ := Option.map_eq_some_iff.mp e3
    unfold zip2D at e4
    dsimp only at e4
    split at e4
    · rename_i k1 xs k2 ys f1 f2
      cases e4
      cases ra with
      | cons r ra =>
      cases ra with
      | cons r' ra =>
      cases ra
      obtain ⟨a, va, rfl, qa, rva⟩ := sk_rp f1 r
      obtain ⟨b, vb, rfl, qb, rvb⟩ := sk_rp f2 r'
      refine ⟨a, b, k1, k2, va, vb, rfl, k1.mono ok1.zh qa, k2.mono ok1.zh qb, q _ H1 Z1 ok1 s1 (wk_quad (fun H s => ⟨k1.mono s qa, k2.mono s qb⟩) ?_ fun i x y hi ex ey => ?_)⟩
      · rw [enumFrom_len]; unfold zipD; rw [List.length_zipWith, rva.length, rvb.length]
      · obtain ⟨d1, g1, rd1⟩ := rva.getV ex
        obtain ⟨d2, g2, rd2⟩ := rvb.getV ey
        refine ⟨d1, d2, ?_, rd1, rd2⟩
        have := enumFrom_get (zipD xs ys) 0 i (.tuple [d1, d2]) (by unfold zipD; rw [List.getElem?_zipWith, g1, g2])
        rw [this, Nat.zero_add]
    · cases e4
  · cases e3
end
end DL
namespace DLV
open PySem PySem.Spec PyProof.Rows HT
end DLV
namespace DL
open PySem PySem.Spec PyProof.Rows L2 DLV
section
variable {X : Cx} {K : PySem.W.Frag} {te : TE} {Wx : WX}
theorem RpA.erase {Z : Hp} : ∀ {vs : List V} {ds : List D} (j : Nat), RpA K Z vs ds → RpA K Z (vs.eraseIdx j) (ds.eraseIdx j)
  | _, _, _, .nil => .nil
  | _, _, 0, .cons h t => t
  | _, _, j + 1, .cons h t => .cons h (RpA.erase j t)
theorem RpA.getD {Z : Hp} : ∀ {vs : List V} {ds : List D} {j : Nat} {d : D}, RpA K Z vs ds → ds[j]? = some d → ∃ v, vs[j]? = some v ∧ Rp K Z v d
  | _, _, 0, _, .cons h t, e => by cases e; exact ⟨_, rfl, h⟩
  | _, _, j + 1, _, .cons h t, e => RpA.getD (j := j) t e
end
end DL
namespace DL
open PySem L2
section
variable {K : PySem.W.Frag} {Wx : WX} {ta tb tc : TE} {b0 : Bx} {B Z0 Z H : Hp} {σ : L2.St} {ρ : Rho}
theorem apart_put {i : Nat} {v : V} {d : D} {q : Addr} (aq : Apart σ ρ q) : Apart (σ.set i (some v)) (ρ.set i (.sh d)) q := fun j' es hj ho hqq => by
  rcases set_get hj with ⟨_, z⟩ | ⟨nk, e⟩
  · subst z; cases ho
  · rw [List.getElem?_set_ne nk] at hqq
    exact aq j' es e ho hqq
theorem ds_par3f {i j l : Nat} {a b : GE} {c : GF} (ha : DE K ta a) (hb : DE K tb b) (hc : DF K tc c) (hl : l ≠ 0 := by decide) : DS K Wx (tPar3 i j l (tCons ta (tCons tb (tCons tc tNil)))) (sPar3 i j l (nS a) (nS b) (nF c)) := fun b0 B Z0 Z H σ ρ E ok s => by
  obtain ⟨x, ρ1, e1, s⟩ := Sat.to s
  obtain ⟨y, ρ2, e2, s⟩ := Sat.to s
  obtain ⟨z, ρ3, e3, s⟩ := Sat.to s
  obtain ⟨dx, f1, rfl⟩ := R.map_ok e1
  obtain ⟨dy, f2, rfl⟩ := R.map_ok e2
  obtain ⟨dz, f3, rfl⟩ := R.map_ok e3
  refine ha b0 B Z0 Z H σ ρ dx ρ1 _ ok f1 fun v H1 Z1 ok1 s1 r1 => ?_
  refine hb b0 B Z0 Z1 H1 σ ρ1 dy ρ2 _ ok1 f2 fun w H2 Z2 ok2 s2 r2 => ?_
  refine hc b0 B Z0 Z2 H2 σ ρ2 dz ρ3 _ ok2 f3 fun p vs H3 Z3 ok3 s3 zp bp ap hp ra => ?_
  exact ⟨v, w, .ref p, rfl, s _ H3 Z3 (((ok3.put (r1.mono (s2.trans s3))).put (r2.mono s3)).putO zp bp (apart_put (apart_put ap)) hp ra fun _ _ z => absurd z hl)⟩
end
end DL
namespace DL
open PySem L2
mutual
def szZ : D → Nat
  | .list xs => 3 + szZs xs
  | .tuple xs => 3 + szZs xs
  | .none => 5
  | .bool _ => 5
  | .int i => (PyData.int i).shown.length
  | .str x => (PyData.str x).shown.length
  | .dict _ => 0
def szZs : List D → Nat
  | [] => 0
  | x :: xs => szZ x + 2 + szZs xs
end
mutual
def okB (B : Nat) : D → Bool
  | .list xs => okBs B xs
  | .tuple xs => okBs B xs
  | .none => true
  | .bool _ => true
  | .int i => decide (i.natAbs ≤ B)
  | .str _ => true
  | .dict _ => false
def okBs (B : Nat) : List D → Bool
  | [] => true
  | x :: xs => okB B x && okBs B xs
end
/-- a plain value: whole numbers up to B, depth up to n, size up to L -/
structure Vv (B n L : Nat) (d : D) : Prop where
  ok : okB B d = true
  dp : d.depth ≤ n
  sz : szZ d ≤ L
theorem Vv.mono {B n L B' n' L' : Nat} {d : D} (v : Vv B n L d) (b : ∀ d, okB B d = true → okB B' d = true) (hn : n ≤ n') (hL : L ≤ L') : Vv B' n' L' d := ⟨b d v.ok, Nat.le_trans v.dp hn, Nat.le_trans v.sz hL⟩
end DL
namespace DLS
open PySem PySem.Spec PyProof.Rows L2
section
variable {P : Program} {w : World} {A : Around} {E : Value → Shared → Prop} {s : Shared}
theorem set_listI {l : Addr} {items : Array Value} (ns : List Int) {Q : Value → Shared → Prop} (hh : A.handled = none) (hl : s.heap.IsList l items) (hit : IntsAre items.toList ns) (hb : ns.length + 1 < scanBound)
    (h : ∀ (h' : Heap) (tk c : Nat), SetR w h' s.heap.objs.size (fun j => decide (j ∈ ns)) c → c ≤ ns.length → (∀ b o, s.heap.get? b = some o → h'.get? b = some o) → Q (.ref s.heap.objs.size) { s with heap := h', toks := tk }) :
    wpAny (model P w) A (call (.type "set") [.ref l]) Q E s := by
  have hisz : items.size = ns.length := by
    have q := IntsAre.length hit
    rw [Array.length_toList] at q
    exact q
  obtain ⟨c, tl, hmro⟩ := F.called_set.mro
  have hmade := F.called_set.made
  have hsub := F.called_set.sub
  refine wpAny_call (codeAny_of_tree ?_)
  show wpAny _ _ (callAny (.type "set") _) _ _ _
  refine wpAny_pure ⟨Code.quiet_builtin _ (by decide +kernel), codeAny_builtin F.entry_type_call ?_⟩
  rw [Around.under_plain (weight_type_call_type "set" [.ref l] []) rfl]
  have h1 := F.called_set.notType
  have h2 := F.called_set.canCreate
  have hct := F.typeCall_set_1 (.ref l)
  repeat (any_goals (first | assumption | wp_step))

  refine codeAny_mono (code_set_led1 (.ref l) (E := E) (Q₁ := fun obj s₁ => obj = .ref s.heap.objs.size ∧ s₁ = { s with heap := s.heap.push { cls := .type "set", dict := none, data := .set #[] 0 (.fresh 0 0 (!w.params.followText "set-order")) } }) ⟨rfl, rfl⟩) fun r s₁ hr => ?_
  cases r with
  | error e => exact hr
  | ok fl =>
    cases fl with
    | ret obj =>
      obtain ⟨rfl, rfl⟩ := hr
      have hS : (s.heap.push { cls := .type "set", dict := none, data := .set #[] 0 (.fresh 0 0 (!w.params.followText "set-order")) }).get? s.heap.objs.size = some { cls := .type "set", dict := none, data := .set #[] 0 (.fresh 0 0 (!w.params.followText "set-order")) } := Heap.get?_push_size _ rfl
      have hT : Shared.TypeIs { s with heap := s.heap.push { cls := .type "set", dict := none, data := .set #[] 0 (.fresh 0 0 (!w.params.followText "set-order")) } } (.ref s.heap.objs.size) "set" := ⟨_, hS, rfl⟩
      have hli := F.called_set.init.lookup
      have hbi := F.called_set.init.bind (.ref s.heap.objs.size)
      repeat (any_goals (first | assumption | wp_step))

      refine codeAny_mono (codeAny_call_builtin (R := wants (fun r s₂ => r = .none ∧ ∃ h' tk c, s₂ = { s with heap := h', toks := tk } ∧ SetR w h' s.heap.objs.size (fun j => decide (j ∈ ns)) c ∧ c ≤ ns.length ∧
          (∀ b o, s.heap.get? b = some o → h'.get? b = some o)) E) F.called_set.init.plain F.entry_set_init (check_set_init_1 hT ?_)) fun r₂ s₂ hr₂ => ?_
      · obtain ⟨ol, hol, hcl, nl, hdl⟩ := hl
        obtain ⟨ocls, odict, odata, oslots⟩ := ol
        simp only at hcl hdl
        subst hcl; subst hdl
        have hol' : (s.heap.push { cls := .type "set", dict := none, data := .set #[] 0 (.fresh 0 0 (!w.params.followText "set-order")) }).get? l = some { cls := .type "list", dict := odict, data := .seq items nl, slots := oslots } := Heap.get?_push_of_some _ hol
        have hsls := F.sub_list_set
        have hslf := F.sub_list_frozenset
        have hne : (Value.type "list" == Value.type "dict") = false := by decide
        have hl1 : (s.heap.push { cls := .type "set", dict := none, data := .set #[] 0 (.fresh 0 0 (!w.params.followText "set-order")) }).IsList l items := ⟨_, hol', rfl, nl, rfl⟩
        unfold Builtin.«set.__init__» noKeywords Builtin.Frozenset.updateFrom
        generalize hPI : pyIter = PI
        wp_walk
        subst hPI

        refine wpAny_pyIter_list hl1 ?_
        refine wpAny_bind (wpAny_runValue ?_)
        have hlS : l < s.heap.objs.size := Heap.lt_size hol
        have hh3 : A.in1.in1.in1.handled = none := by simp [hh]
        have hz1 : (s.heap.push { cls := .type "set", dict := none, data := .set #[] 0 (.fresh 0 0 (!w.params.followText "set-order")) }).objs.size = s.heap.objs.size + 1 := Heap.size_push ..
        have hneI : l ≠ (s.heap.push { cls := .type "set", dict := none, data := .set #[] 0 (.fresh 0 0 (!w.params.followText "set-order")) }).objs.size := by
          rw [Heap.size_push]; exact Nat.ne_of_lt (Nat.lt_succ_of_lt hlS)
        have hSf : s.heap.objs.size ∉ [(s.heap.push { cls := .type "set", dict := none, data := .set #[] 0 (.fresh 0 0 (!w.params.followText "set-order")) }).objs.size, l] := by
          rw [Heap.size_push]; simp only [List.mem_cons, List.mem_singleton, List.not_mem_nil, or_false, not_or]
          exact ⟨Nat.ne_of_lt (Nat.lt_succ_self _), Nat.ne_of_gt hlS⟩
        have hval : ∀ (i : Nat) (v : Value), items[i]? = some v → ∃ k t, ns[i]? = some k ∧ v = .int k t := fun i v hv => by
          have hi : i < ns.length := by rw [← hisz]; exact (Array.getElem?_eq_some_iff.mp hv).1
          obtain ⟨t, e⟩ := PyProof.Rows.IntsAre.int_at hit i v (by rw [Array.getElem?_toList]; exact hv)
          refine ⟨ns[i], t, List.getElem?_eq_getElem hi, ?_⟩
          rw [e, List.getD_eq_getElem?_getD, List.getElem?_eq_getElem hi] <;> rfl
        refine set_update_ints ((Walks.list hh3 _ l hneI items).toS) s.heap.objs.size
          hSf ns hisz hb hval (items.size - 0) 0 _ (by omega) (Nat.zero_le _)
          ⟨⟨_, Heap.get?_push_size _ rfl, rfl, rfl⟩, (hl1.push _)⟩ ?hS0 ?hR
        case hS0 =>
          have hget : ((s.heap.push { cls := .type "set", dict := none, data := .set #[] 0 (.fresh 0 0 (!w.params.followText "set-order")) }).push { cls := .type "list_iterator", data := .fields #[.ref l, .int 0 0] }).get? s.heap.objs.size
              = some { cls := .type "set", dict := none, data := .set #[] 0 (.fresh 0 0 (!w.params.followText "set-order")) } := Heap.get?_push_of_some _ hS
          exact ⟨0, Nat.le_refl 0, setR_new_at hget⟩
        case hR =>
          intro s' c' hm hc' hS'
          obtain ⟨h', g2, d', tk', os'⟩ := s'
          have eg : g2 = s.gens := hm.gens
          have ed : d' = s.drawn := hm.drawn
          have eo : os' = s.os := hm.os
          subst eg; subst ed; subst eo
          show wpAny _ _ _ _ _ _
          refine wpAny_pure ?_
          show wpAny _ _ (ret Value.none) _ _ _
          rw [hisz] at hc'
          refine wpAny_pure ⟨rfl, h', tk', c', rfl, hS', hc', fun b o e => ?_⟩
          have hb0 : b < s.heap.objs.size := Heap.lt_size e
          have hb1 : b ≠ s.heap.objs.size := Nat.ne_of_lt hb0
          have hb2 : b ≠ (s.heap.push { cls := .type "set", dict := none, data := .set #[] 0 (.fresh 0 0 (!w.params.followText "set-order")) }).objs.size := by
            rw [Heap.size_push]; exact Nat.ne_of_lt (Nat.lt_succ_of_lt hb0)
          exact hm.heap b o (by simp only [List.mem_cons, List.mem_singleton, List.not_mem_nil, or_false, not_or]; exact ⟨hb1, hb2⟩) (Heap.get?_push_of_some _ (Heap.get?_push_of_some _ e))

      · cases r₂ with
        | error e => exact hr₂
        | ok fl₂ =>
          cases fl₂ with
          | ret r =>
            obtain ⟨rfl, h', tk, c', rfl, hS', hc', hk'⟩ := hr₂
            repeat (any_goals (first | assumption | wp_step))
            exact h _ _ _ hS' hc' hk'
          | _ => exact hr₂.elim
    | _ => exact hr.elim
end
end DLS
namespace DL
open PySem PySem.Spec PyProof.Rows L2
def insU (k : Int) : List Int → List Int
  | [] => [k]
  | x :: xs => if k < x then k :: x :: xs else if k = x then x :: xs else x :: insU k xs
def srtU (ns : List Int) : List Int := ns.foldr insU []
theorem mem_insU {k j : Int} : ∀ {xs : List Int}, j ∈ insU k xs ↔ j = k ∨ j ∈ xs
  | [] => by simp [insU]
  | x :: xs => by
    have ih := mem_insU (k := k) (j := j) (xs := xs)
    unfold insU
    split
    · simp
    · split
      · rename_i h; subst h; simp
      · simp only [List.mem_cons, ih]
        constructor
        · rintro (h | h | h)
          · exact .inr (.inl h)
          · exact .inl h
          · exact .inr (.inr h)
        · rintro (h | h | h)
          · exact .inr (.inl h)
          · exact .inl h
          · exact .inr (.inr h)
theorem asc_insU {k : Int} : ∀ {xs : List Int}, xs.Pairwise (· < ·) → (insU k xs).Pairwise (· < ·)
  | [], _ => by simp [insU]
  | x :: xs, h => by
    obtain ⟨h1, h2⟩ := List.pairwise_cons.mp h
    unfold insU
    split
    · rename_i hk
      refine List.pairwise_cons.mpr ⟨fun y hy => ?_, h⟩
      rcases List.mem_cons.mp hy with e | hy
      · rw [e]; exact hk
      · exact Int.lt_trans hk (h1 y hy)
    · split
      · exact h
      · rename_i h3 h4
        refine List.pairwise_cons.mpr ⟨fun y hy => ?_, asc_insU h2⟩
        rcases mem_insU.mp hy with e | hy
        · rw [e]; omega
        · exact h1 y hy
theorem mem_srtU {j : Int} : ∀ {ns : List Int}, j ∈ srtU ns ↔ j ∈ ns
  | [] => by simp [srtU]
  | n :: ns => by
    show j ∈ insU n (srtU ns) ↔ _
    rw [mem_insU, mem_srtU, List.mem_cons]
theorem asc_srtU : ∀ {ns : List Int}, (srtU ns).Pairwise (· < ·)
  | [] => by simp [srtU]
  | n :: ns => asc_insU (asc_srtU (ns := ns))
/-- there is just one ascending list with these members -/
theorem asc_unique : ∀ {xs ys : List Int}, xs.Pairwise (· < ·) → ys.Pairwise (· < ·) → (∀ k, k ∈ xs ↔ k ∈ ys) → xs = ys
  | [], [], _, _, _ => rfl
  | [], y :: ys, _, _, h => absurd ((h y).mpr List.mem_cons_self) (by simp)
  | x :: xs, [], _, _, h => absurd ((h x).mp List.mem_cons_self) (by simp)
  | x :: xs, y :: ys, hx, hy, h => by
    obtain ⟨x1, x2⟩ := List.pairwise_cons.mp hx
    obtain ⟨y1, y2⟩ := List.pairwise_cons.mp hy
    have e : x = y := by
      rcases List.mem_cons.mp ((h x).mp List.mem_cons_self) with e | e
      · exact e
      · rcases List.mem_cons.mp ((h y).mpr List.mem_cons_self) with e' | e'
        · exact e'.symm
        · have := y1 x e
          have := x1 y e'
          omega
    subst e
    rw [asc_unique x2 y2 fun k => ?_]
    constructor
    · intro hk
      rcases List.mem_cons.mp ((h k).mp (List.mem_cons_of_mem _ hk)) with e | e
      · have := x1 k hk
        omega
      · exact e
    · intro hk
      rcases List.mem_cons.mp ((h k).mpr (List.mem_cons_of_mem _ hk)) with e | e
      · have := y1 k hk
        omega
      · exact e
section
variable {X : Cx} {K : PySem.W.Frag} {te : TE} {a : Expr}
def tSrtSet (K : PySem.W.Frag) (te : TE) : TE := fun σ H Q => te σ H fun x H1 => ∃ l ns, x = .ref l ∧ (SqL K H1 l (ns.map V.int) ∨ SqT K H1 l (ns.map V.int)) ∧ ns.length < 64 ∧ ∀ p, H1 p = none → Q (.ref p) (upd H1 p (.lst ((srtU ns).map V.int)))
theorem pe_srtSet {p p2 q pos : Pos} (hg : Gl X "sorted") (hm : X.mg "sorted" = none) (hg2 : Gl X "set") (hm2 : X.mg "set" = none) (ha : PE X a te) (hc : X.calm = true := by rfl)
    (hbt : bootBuiltins "sorted" = some (.builtin "sorted") := by decide +kernel) (na : starEach [a] X.env = (false, eval a X.env) :: starEach [] X.env := by rfl) : PE X (.Call (.Name "sorted" p) [.Call (.Name "set" p2) [a] [] q] [] pos) (tSrtSet X.K te) := by
  refine ⟨fun pins s σ H Q I h => ?_⟩
  refine Call_ (ld_blt I hg hm hbt ?_)
  refine PyProof.Rows.callWith_builtin1 (PyProof.Rows.args_cons ?_ rfl) rfl rfl
  refine Call_ (ld_blt I hg2 hm2 boot_set ?_)
  refine PyProof.Rows.callWith_type1 (PyProof.Rows.args_cons (thn (ha.run pins s σ H _ I h) fun v s1 ⟨x, H1, I1, r1, q1⟩ => PyProof.Rows.args_nil ?_) na) na rfl
  obtain ⟨l, ns, rfl, hq, hl, q1⟩ := q1
  cases r1
  have st : ∀ {Q' : Value → Shared → Prop}, (∀ (h' : Heap) (tk c : Nat), SetR X.w h' s1.heap.objs.size (fun j => decide (j ∈ ns)) c → c ≤ ns.length → (∀ b o, s1.heap.get? b = some o → h'.get? b = some o) → Q' (.ref s1.heap.objs.size) { s1 with heap := h', toks := tk }) → wpAny (model X.prog X.w) X.A (call (.type "set") [.ref l]) Q' X.xe s1 := fun {Q'} hq' => by
    rcases hq with hq | hq
    · obtain ⟨its, r, pl, hz⟩ := I1.list hq
      exact DLS.set_listI ns (I1.ok.hd hc) pl.isList (by simpa using RZ.intsAre_vals r) (by unfold scanBound; omega) hq'
    · obtain ⟨its, r, pl, hz⟩ := I1.tuple hq
      exact call_set_tupI ns (I1.ok.hd hc) pl (by simpa using RZ.intsAre_vals r) (by unfold scanBound; omega) hq'
  refine st fun h' tk c hS hcn hk => ?_
  refine PyProof.Rows.args_nil ?_
  have I2 : L2.Inv X pins σ H1 { s1 with heap := h', toks := tk } := I1.kept hk
  refine sorted_set hS (I1.ok.hd hc) (by omega) fun s' p out c' ms k g o hp hg' hi hs hm' hl' => ?_
  have em : ms = srtU ns := asc_unique hs asc_srtU fun j => by rw [hm' j, mem_srtU]; simp
  subst em
  have hlen : ((srtU ns).map V.int).length ≤ sizeLine := by rw [List.length_map, hl', sizeLine_eq]; omega
  have hn : H1 p = none := I2.hok.fresh hp
  generalize hs2 : ({ s1 with heap := h', toks := tk } : Shared) = s2 at *
  have J : L2.Inv X pins σ (upd H1 p (.lst ((srtU ns).map V.int))) { s2 with heap := s'.heap, gens := s'.gens, drawn := s'.drawn, toks := s'.toks } :=
    I2.call (ch := []) (Un.laid k hp hn) (I2.hok.laid k hp ⟨hlen, out.toList, c', vals_of_ints hi, hg'⟩) (by rw [g]; exact I2.bare) (fun _ z => nomatch z)
  have e : s' = { s2 with heap := s'.heap, gens := s'.gens, drawn := s'.drawn, toks := s'.toks } := by
    cases s'
    cases s2
    cases o
    rfl
  rw [e]
  exact ⟨.ref p, _, J, rfl, q1 p hn⟩
/-- sorted(set(xs)) -/
def eSrtSet (g : GE) (ρ : Rho) : R (List D) := (g ρ).bind fun d ρ1 => match d with
  | .list ds => (match intsOf ds with
    | some ns => if ns.length < 64 then .ok ((srtU ns).map .int) ρ1 else .bad
    | none => .bad)
  | .tuple ds => (match intsOf ds with
    | some ns => if ns.length < 64 then .ok ((srtU ns).map .int) ρ1 else .bad
    | none => .bad)
  | _ => .bad
theorem df_srtSet {g : GE} (h : DE K te g) : DF K (tSrtSet K te) (eSrtSet g) := fun b0 B Z0 Z H σ ρ ds ρ' Q ok e q => by
  obtain ⟨d, ρ1, e1, e⟩ := R.bind_ok e
  split at e
  · split at e
    · rename_i ds' ns hn
      split at e
      · rename_i hl
        cases e
        refine h b0 B Z0 Z H σ ρ _ _ _ ok e1 fun v H1 Z1 ok1 s1 r1 => ?_
        rw [intsOf_eq hn] at r1
        cases r1 with
        | lst hs ra =>
          rw [RpA.of_ints ra] at hs
          refine ⟨_, ns, rfl, .inl (.inl (.inl (ok1.zh _ _ hs))), hl, fun p hp => ?_⟩
          obtain ⟨okf, zf, bf, af⟩ := ok1.fresh (o := .lst _) hp
          exact q p _ _ Z1 okf s1 zf bf af upd_same (RpA.ints _)
      · cases e
    · cases e
  · split at e
    · rename_i ds' ns hn
      split at e
      · rename_i hl
        cases e
        refine h b0 B Z0 Z H σ ρ _ _ _ ok e1 fun v H1 Z1 ok1 s1 r1 => ?_
        rw [intsOf_eq hn] at r1
        cases r1 with
        | tup hs ra =>
          rw [RpA.of_ints ra] at hs
          refine ⟨_, ns, rfl, .inr (same_t ok1.zh hs), hl, fun p hp => ?_⟩
          obtain ⟨okf, zf, bf, af⟩ := ok1.fresh (o := .lst _) hp
          exact q p _ _ Z1 okf s1 zf bf af upd_same (RpA.ints _)
      · cases e
    · cases e
  · cases e
end
end DL
namespace DL
open PySem L2
section
variable {X : Cx} {K : PySem.W.Frag}
theorem ip_mulU : PIp X .Mult (rI CMul fun i j => .int (i * j)) := fun pins s σ H x y v u Q I r1 r2 h => iop_mul pins s σ H x y v u Q I r1 r2 h
def iMul : D → D → Option D
  | .int i, .int j => if CMul i j then some (.int (i * j)) else none
  | _, _ => none
theorem sn_ipMul : SnIp K (rI CMul fun i j => .int (i * j)) iMul := fun b0 B Z0 Z H σ ρ x y a b c Q ok ra rb e q => by
  unfold iMul at e
  split at e
  · split at e
    · rename_i hc
      cases e; cases ra; cases rb
      exact ⟨_, _, rfl, rfl, hc, q _ H Z ok (Same.refl Z) (.int _)⟩
    · cases e
  · cases e
end
end DL
namespace DL
open PySem L2
end DL
namespace DL
open PySem PySem.Spec PyProof.Rows L2
end DL
namespace DL
open PySem L2
end DL
namespace DL
open PySem PySem.Spec PyProof.Rows L2
def xIs : Leaf → Value → Bool
  | .none, .none => true
  | .num i, .int j _ => decide (j = i)
  | _, _ => false
theorem xIs_leaf {k : Leaf} {v : Value} (h : xIs k v = true) : Leaf.isOf k v = true := by
  cases k <;> cases v <;> first | exact h | rfl | cases h
def xKind (prog : Program) (w : World) : KeyKind prog w Leaf where
  is := xIs
  hash := fun k => k.key.hash w
  inj := fun v a b ha hb => (leafKind prog w).inj v a b (xIs_leaf ha) (xIs_leaf hb)
  byValue := fun k v h => (leafKind prog w).byValue k v (xIs_leaf h)
  pyHash := fun hv h => (leafKind prog w).pyHash (xIs_leaf hv) h
  eqBool := fun hu hv h => (leafKind prog w).eqBool (xIs_leaf hu) (xIs_leaf hv) h
  «strs» := fun k x t v h => by cases k <;> cases h
def lfT : V → Option Leaf
  | .non => some .none
  | .int i => some (.num i)
  | _ => none
def lfV : V → Option Leaf
  | .non => some .none
  | .int i => some (.num i)
  | .bl b => some (.num (if b then 1 else 0))
  | _ => none
def lfVs : List V → Option (List Leaf)
  | [] => some []
  | v :: vs => match lfV v, lfVs vs with
    | some l, some ls => some (l :: ls)
    | _, _ => none
theorem lfT_is {x : V} {u : Value} {l : Leaf} (r : RelV x u) (h : lfT x = some l) : xIs l u = true := by
  cases x <;> cases h
  · cases r; rfl
  · obtain ⟨t, rfl⟩ := r; exact decide_eq_true rfl
theorem is_rel {x : V} {u : Value} {l : Leaf} (h : lfT x = some l) (hi : xIs l u = true) : RelV x u := by
  cases x <;> cases h
  · cases u <;> cases hi; rfl
  · rename_i i
    cases u with
    | int j t =>
      have e : j = i := of_decide_eq_true hi
      subst e
      exact ⟨t, rfl⟩
    | _ => cases hi
theorem lfV_is {x : V} {u : Value} {l : Leaf} (r : RelV x u) (h : lfV x = some l) : Leaf.isOf l u = true := by
  cases x <;> cases h
  · cases r; rfl
  · cases r; exact decide_eq_true rfl
  · obtain ⟨t, rfl⟩ := r; exact decide_eq_true rfl
theorem lfT_hash {x : V} {l : Leaf} {w : World} (h : lfT x = some l) : l.key.hash w = hL l := by
  cases x <;> cases h <;> rfl
theorem lfV_hash {x : V} {l : Leaf} {w : World} (h : lfV x = some l) : l.key.hash w = hL l := by
  cases x <;> cases h <;> rfl
section
variable {P : Program} {w : World}
theorem lfVs_are : ∀ {xs : List V} {us : List Value} {ls : List Leaf}, Vals xs us → lfVs xs = some ls → ItemsAre (leafKind P w) ls us
  | [], _, _, .nil, e => by cases e; exact .nil
  | x :: xs, _, ls, .cons h t, e => by
    unfold lfVs at e
    split at e
    · rename_i l ls' e1 e2
      cases e
      exact .cons (lfV_is h e1) (lfVs_are t e2)
    · cases e
theorem lfVs_hash : ∀ {xs : List V} {ls : List Leaf}, lfVs xs = some ls → ls.map (fun l => l.key.hash w) = ls.map hL
  | [], _, e => by cases e; rfl
  | x :: xs, ls, e => by
    unfold lfVs at e
    split at e
    · rename_i l ls' e1 e2
      cases e
      rw [List.map_cons, List.map_cons, lfV_hash e1, lfVs_hash e2]
    · cases e
end
/-- x is the key k -/
def KeyV (K : PySem.W.Frag) (H : Hp) (x : V) (k : KK) : Prop := (∃ l, k = .lf l ∧ lfT x = some l) ∨ ∃ b xs ls, k = .tp ls ∧ x = .ref b ∧ SqT K H b xs ∧ lfVs xs = some ls
def KeysV (K : PySem.W.Frag) (H : Hp) (kvs : List (KK × V × V)) : Prop := ∀ y ∈ kvs, KeyV K H y.2.1 y.1
theorem KeyV.mono {K : PySem.W.Frag} {H H' : Hp} {x : V} {k : KK} (s : ∀ b xs, SqT K H b xs → SqT K H' b xs) (h : KeyV K H x k) : KeyV K H' x k := by
  rcases h with h | ⟨b, xs, ls, h1, h2, h3, h4⟩
  · exact .inl h
  · exact .inr ⟨b, xs, ls, h1, h2, s _ _ h3, h4⟩
def getK (kvs : List (KK × V × V)) (k : KK) : Option V := (kvs.find? fun z => decide (z.1 = k)).map (·.2.2)
def put3 (kvs : List (KK × V × V)) (k : KK) (y v : V) : List (KK × V × V) := if (getK kvs k).isSome = true then kvs.map (fun z => if z.1 = k then (z.1, z.2.1, v) else z) else kvs ++ [(k, y, v)]
theorem getK_cons_eq {p : KK × V × V} {r : List (KK × V × V)} {k : KK} (e : p.1 = k) : getK (p :: r) k = some p.2.2 := by simp [getK, List.find?_cons, e]
theorem getK_cons_ne {p : KK × V × V} {r : List (KK × V × V)} {k : KK} (e : ¬ p.1 = k) : getK (p :: r) k = getK r k := by simp [getK, List.find?_cons, e]
theorem put3_len (kvs : List (KK × V × V)) (k : KK) (y v : V) : (put3 kvs k y v).length ≤ kvs.length + 1 := by
  unfold put3
  split
  · rw [List.length_map]; omega
  · rw [List.length_append, List.length_singleton]; omega
theorem map_keys (kvs : List (KK × V × V)) (k : KK) (v : V) : (kvs.map (fun z => if z.1 = k then (z.1, z.2.1, v) else z)).map (·.1) = kvs.map (·.1) := by
  rw [List.map_map]
  refine List.map_congr_left fun z _ => ?_
  show (if z.1 = k then (z.1, z.2.1, v) else z).1 = z.1
  split <;> rfl
theorem getK_none {kvs : List (KK × V × V)} {k : KK} : getK kvs k = none ↔ k ∉ kvs.map (·.1) := by
  induction kvs with
  | nil => exact ⟨fun _ h => (nomatch h), fun _ => rfl⟩
  | cons p r ih =>
    by_cases e : p.1 = k
    · rw [getK_cons_eq e]
      have hm : k ∈ (p :: r).map (·.1) := by rw [List.map_cons, e]; exact List.mem_cons_self
      exact ⟨fun h => (nomatch h), fun h => absurd hm h⟩
    · rw [getK_cons_ne e, ih, List.map_cons, List.mem_cons]
      exact ⟨fun h z => z.elim (fun z => e z.symm) h, fun h z => h (.inr z)⟩
/-- the sort of a key fits the sort of the table -/
def SortOk (k : KK) (kvs : List (KK × V × V)) : Prop := ((∃ l, k = .lf l) ∧ ∀ y ∈ kvs, ∃ l, y.1 = .lf l) ∨ ((∃ ls, k = .tp ls) ∧ ∀ y ∈ kvs, ∃ ls, y.1 = .tp ls)
theorem good_put {kvs : List (KK × V × V)} {k : KK} {y v : V} (g : KGood (kvs.map (·.1))) (s : SortOk k kvs) : KGood ((put3 kvs k y v).map (·.1)) := by
  unfold put3
  split
  · rw [map_keys]; exact g
  · rename_i hn
    have hn : k ∉ kvs.map (·.1) := getK_none.mp (by
      cases e : getK kvs k with
      | none => rfl
      | some x => rw [e] at hn; exact absurd rfl hn)
    rw [List.map_append, List.map_singleton]
    refine ⟨List.nodup_append.mpr ⟨g.1, List.pairwise_singleton _ _, fun a ha b hb e => ?_⟩, ?_⟩
    · rw [List.mem_singleton.mp hb] at e
      exact hn (by rw [show k = a from e.symm]; exact ha)
    · rcases s with ⟨s1, s2⟩ | ⟨s1, s2⟩
      · refine .inl fun j hj => ?_
        rcases List.mem_append.mp hj with hj | hj
        · obtain ⟨y, hy, rfl⟩ := List.mem_map.mp hj
          exact s2 y hy
        · rw [List.mem_singleton.mp hj]; exact s1
      · refine .inr fun j hj => ?_
        rcases List.mem_append.mp hj with hj | hj
        · obtain ⟨y, hy, rfl⟩ := List.mem_map.mp hj
          exact s2 y hy
        · rw [List.mem_singleton.mp hj]; exact s1
section
variable {P : Program} {w : World} {K : PySem.W.Frag} {H : Hp} {h : Heap}
def RL (y : KK × V × V) (v : Leaf × Value) : Prop := y.1 = .lf v.1 ∧ lfT y.2.1 = some v.1 ∧ RelV y.2.2 v.2
def RT (y : KK × V × V) (x : List Leaf × Addr × Value) : Prop := y.1 = .tp x.1 ∧ y.2.1 = .ref x.2.1 ∧ RelV y.2.2 x.2.2
theorem to_lf : ∀ {kvs : List (KK × V × V)} {es : List DictEntry}, Paired ER kvs es → (∀ y ∈ kvs, ∃ l, y.1 = .lf l ∧ lfT y.2.1 = some l) → ∃ vs, Paired RL kvs vs ∧ Pairs (xKind P w) es vs ∧ ∀ e ∈ es, ∃ k, xIs k e.key = true ∧ e.hash = (xKind P w).hash k
  | _, _, .nil, _ => ⟨[], .nil, .nil, fun e he => nomatch he⟩
  | _, _, .cons (a := y) (b := e) r t, h => by
    obtain ⟨l, h1, h2⟩ := h y List.mem_cons_self
    obtain ⟨vs, p1, p2, p3⟩ := to_lf t fun z hz => h z (List.mem_cons_of_mem _ hz)
    obtain ⟨r1, r2, r3⟩ := r
    have hi := lfT_is r2 h2
    refine ⟨(l, e.val) :: vs, .cons ⟨h1, h2, r3⟩ p1, .cons hi rfl p2, fun e' he => ?_⟩
    rcases List.mem_cons.mp he with rfl | he
    · refine ⟨l, hi, ?_⟩
      rw [r1, h1]
      exact (lfT_hash h2).symm
    · exact p3 e' he
theorem of_lf : ∀ {kvs : List (KK × V × V)} {vs : List (Leaf × Value)} {es : List DictEntry}, Paired RL kvs vs → Pairs (xKind P w) es vs → (∀ e ∈ es, ∃ k, xIs k e.key = true ∧ e.hash = (xKind P w).hash k) → Paired ER kvs es
  | _, _, _, .nil, .nil, _ => .nil
  | _, _, _, .cons r t, .cons (e := e) h1 h2 q, hk => by
    refine .cons ?_ (of_lf t q fun z hz => hk z (List.mem_cons_of_mem _ hz))
    obtain ⟨r1, r2, r3⟩ := r
    obtain ⟨k, k1, k2⟩ := hk e List.mem_cons_self
    have ek := (xKind P w).inj e.key _ _ k1 h1
    refine ⟨?_, is_rel r2 h1, by rw [h2]; exact r3⟩
    rw [k2, ek, r1]
    exact lfT_hash r2
theorem to_tp : ∀ {kvs : List (KK × V × V)} {es : List DictEntry}, Paired ER kvs es → (∀ y ∈ kvs, ∃ ls b, y.1 = .tp ls ∧ y.2.1 = .ref b ∧ (tupleKind (leafKind P w)).is h ls b ∧ (tupleKind (leafKind P w)).hash ls = hK (.tp ls)) →
    ∃ xs, Paired RT kvs xs ∧ es = xs.map (entryOfKey (tupleKind (leafKind P w))) ∧ ∀ x ∈ xs, (tupleKind (leafKind P w)).is h x.1 x.2.1
  | _, _, .nil, _ => ⟨[], .nil, rfl, fun e he => nomatch he⟩
  | _, _, .cons (a := y) (b := e) r t, hh => by
    obtain ⟨ls, b, h1, h2, h3, h4⟩ := hh y List.mem_cons_self
    obtain ⟨xs, p1, p2, p3⟩ := to_tp t fun z hz => hh z (List.mem_cons_of_mem _ hz)
    obtain ⟨r1, r2, r3⟩ := r
    rw [h2] at r2
    refine ⟨(ls, b, e.val) :: xs, .cons ⟨h1, h2, r3⟩ p1, ?_, fun x hx => ?_⟩
    · rw [List.map_cons, ← p2]
      congr 1
      obtain ⟨eh, ek, ev⟩ := e
      show DictEntry.mk eh ek ev = ⟨_, .ref b, ev⟩
      have a1 : eh = hK y.1 := r1
      have a2 : ek = Value.ref b := r2
      rw [a1, a2, h1, h4]
    · rcases List.mem_cons.mp hx with rfl | hx
      · exact h3
      · exact p3 x hx
theorem of_tp : ∀ {kvs : List (KK × V × V)} {xs : List (List Leaf × Addr × Value)}, Paired RT kvs xs → (∀ y ∈ kvs, ∀ ls, y.1 = .tp ls → (tupleKind (leafKind P w)).hash ls = hK (.tp ls)) → Paired ER kvs (xs.map (entryOfKey (tupleKind (leafKind P w))))
  | _, _, .nil, _ => .nil
  | _, _, .cons (a := y) (b := x) r t, hh => by
    rw [List.map_cons]
    obtain ⟨r1, r2, r3⟩ := r
    refine .cons ⟨?_, by rw [r2]; rfl, r3⟩ (of_tp t fun z hz => hh z (List.mem_cons_of_mem _ hz))
    show (tupleKind (leafKind P w)).hash x.1 = hK y.1
    rw [r1]
    exact hh y List.mem_cons_self x.1 r1
theorem get_lf : ∀ {kvs : List (KK × V × V)} {vs : List (Leaf × Value)} (l : Leaf), Paired RL kvs vs → RelO (getK kvs (.lf l)) (valueAt vs l)
  | _, _, l, .nil => True.intro
  | _, _, l, .cons (a := y) (b := v) r t => by
    by_cases e : v.1 = l
    · rw [getK_cons_eq (r.1.trans (by rw [e]))]
      have b : ∀ qs, valueAt (v :: qs) l = some v.2 := fun qs => by simp [valueAt, List.find?_cons, e]
      rw [b]
      exact r.2.2
    · rw [getK_cons_ne (fun z => e (by rw [r.1] at z; injection z))]
      have b : ∀ qs, valueAt (v :: qs) l = valueAt qs l := fun qs => by simp [valueAt, List.find?_cons, e]
      rw [b]
      exact get_lf l t
theorem get_tp : ∀ {kvs : List (KK × V × V)} {xs : List (List Leaf × Addr × Value)} (ls : List Leaf), Paired RT kvs xs → RelO (getK kvs (.tp ls)) ((atKey xs ls).map (·.2))
  | _, _, l, .nil => True.intro
  | _, _, l, .cons (a := y) (b := v) r t => by
    by_cases e : v.1 = l
    · rw [getK_cons_eq (r.1.trans (by rw [e]))]
      have b : ∀ qs, atKey (v :: qs) l = some v.2 := fun qs => by simp [atKey, List.find?_cons, e]
      rw [b]
      exact r.2.2
    · rw [getK_cons_ne (fun z => e (by rw [r.1] at z; injection z))]
      have b : ∀ qs, atKey (v :: qs) l = atKey qs l := fun qs => by simp [atKey, List.find?_cons, e]
      rw [b]
      exact get_tp l t
theorem any_val : ∀ (vs : List (Leaf × Value)) (l : Leaf), (vs.any fun kv => decide (kv.1 = l)) = (valueAt vs l).isSome
  | [], _ => rfl
  | p :: r, l => by
    rw [List.any_cons]
    by_cases e : p.1 = l
    · simp [valueAt, List.find?_cons, e]
    · rw [decide_eq_false e, Bool.false_or, any_val r l]
      simp [valueAt, List.find?_cons, e]
theorem put_lf {kvs : List (KK × V × V)} {vs : List (Leaf × Value)} {l : Leaf} {y v : V} {u : Value} (p : Paired RL kvs vs) (hy : lfT y = some l) (hv : RelV v u) : Paired RL (put3 kvs (.lf l) y v) (stored vs l u) := by
  unfold put3 stored
  rw [any_val, (get_lf l p).isSome_eq]
  split
  · rename_i hs
    clear hs
    induction p with
    | nil => exact .nil
    | @cons a b as bs r t ih =>
      rw [List.map_cons, List.map_cons]
      refine .cons ?_ ih
      by_cases e : b.1 = l
      · rw [if_pos (r.1.trans (by rw [e])), if_pos e]
        exact ⟨r.1, r.2.1, hv⟩
      · rw [if_neg (fun z => e (by rw [r.1] at z; injection z)), if_neg e]
        exact r
  · exact Paired.snoc p ⟨rfl, hy, hv⟩
theorem put_tp {kvs : List (KK × V × V)} {xs : List (List Leaf × Addr × Value)} {ls : List Leaf} {b : Addr} {v : V} {u : Value} (p : Paired RT kvs xs) (hv : RelV v u) : Paired RT (put3 kvs (.tp ls) (.ref b) v) (storedH xs ls b u) := by
  unfold put3 storedH
  have q := (get_tp ls p).isSome_eq
  rw [Option.isSome_map] at q
  rw [q]
  split
  · rename_i hs
    clear hs q
    induction p with
    | nil => exact .nil
    | @cons a c as bs r t ih =>
      rw [List.map_cons, List.map_cons]
      refine .cons ?_ ih
      unfold putAt
      by_cases e : c.1 = ls
      · rw [if_pos (r.1.trans (by rw [e])), if_pos e]
        exact ⟨r.1, r.2.1, hv⟩
      · rw [if_neg (fun z => e (by rw [r.1] at z; injection z)), if_neg e]
        exact r
  · exact Paired.snoc p ⟨rfl, rfl, hv⟩
theorem rl_keys : ∀ {kvs : List (KK × V × V)} {vs : List (Leaf × Value)}, Paired RL kvs vs → kvs.map (·.1) = (vs.map (·.1)).map KK.lf
  | _, _, .nil => rfl
  | _, _, .cons r t => by rw [List.map_cons, List.map_cons, List.map_cons, rl_keys t, r.1]
theorem rt_keys : ∀ {kvs : List (KK × V × V)} {vs : List (List Leaf × Addr × Value)}, Paired RT kvs vs → kvs.map (·.1) = (vs.map (·.1)).map KK.tp
  | _, _, .nil => rfl
  | _, _, .cons r t => by rw [List.map_cons, List.map_cons, List.map_cons, rt_keys t, r.1]
theorem nodup_of {α β : Type} {f : α → β} {l : List α} (h : (l.map f).Nodup) : l.Nodup := by
  unfold List.Nodup at *
  rw [List.pairwise_map] at h
  exact h.imp fun hn e => hn (by rw [e])
end
end DL
namespace DL
open PySem PySem.Spec PyProof.Rows L2
/-- what the dict at a holds at the key y -/
def NGet (K : PySem.W.Frag) (H : Hp) (a : Addr) (y : V) (r : Option V) : Prop := ∃ kvs k, IsDc H a kvs ∧ KeysV K H kvs ∧ KeyV K H y k ∧ SortOk k kvs ∧ r = getK kvs k
/-- a[y] = v, and the table then -/
def NPut (K : PySem.W.Frag) (H : Hp) (a : Addr) (y v : V) (new : List (KK × V × V)) : Prop := ∃ kvs k, IsDc H a kvs ∧ KeysV K H kvs ∧ KeyV K H y k ∧ SortOk k kvs ∧ kvs.length < sizeLine ∧ new = put3 kvs k y v
section
variable {X : Cx} {pins : List (Addr × Obj)} {σ : L2.St} {H : Hp} {s : Shared} {a : Addr} {kvs : List (KK × V × V)} {y v : V} {k : KK} {u r : Value} {A : Around} {E : Value → Shared → Prop} {o : Option V}
abbrev tKind (P : Program) (w : World) := tupleKind (leafKind P w)
theorem dc_at {P : Program} {w : World} {h : Heap} (ok : HOk P w H h) (e : IsDc H a kvs) : (∃ ob es ep, h.get? a = some ob ∧ ob.ExactDict ∧ ob.data = .dict es ep ∧ Paired ER kvs es.toList) ∧ (a == sysModules) = false ∧ kvs.length ≤ sizeLine ∧ KGood (kvs.map (·.1)) :=
  let ⟨dt, e⟩ := e
  let ⟨⟨ob, c1, c2, c3, c4⟩, c5⟩ := (show ObjOk P w H h a (dcO a kvs dt) from ok a _ e).1
  ⟨⟨ob, dt.1, dt.2, c1, c2, c3, c4⟩, c5⟩
theorem dc_obj {P : Program} {w : World} {h : Heap} {dt : Array DictEntry × Nat} (c : (∃ ob, h.get? a = some ob ∧ ob.ExactDict ∧ ob.data = .dict dt.1 dt.2 ∧ Paired ER kvs dt.1.toList) ∧ (a == sysModules) = false ∧ kvs.length ≤ sizeLine ∧ KGood (kvs.map (·.1))) : ObjOk P w H h a (dcO a kvs dt) := by
  refine ⟨c, ?_, fun h1 h2 c1 st => ?_⟩
  · obtain ⟨⟨ob, e, _⟩, _⟩ := c
    exact ⟨ob, e⟩
  · obtain ⟨⟨ob, e, q⟩, c2⟩ := c1
    exact ⟨⟨ob, st _ e, q⟩, c2⟩
theorem tk_is {b : Addr} {xs : List V} {ls : List Leaf} (I : Inv X pins σ H s) (hk : SqT X.K H b xs) (hl : lfVs xs = some ls) : (tKind X.prog X.w).is s.heap ls b := by
  obtain ⟨its, r, ⟨ob, h1, h2, n, h3⟩, _⟩ := I.tuple hk
  exact ⟨ob, its.toArray, n, h1, h2, h3, by simpa using lfVs_are r hl⟩
theorem tk_hash {xs : List V} {ls : List Leaf} {P : Program} {w : World} (hl : lfVs xs = some ls) : (tKind P w).hash ls = hK (.tp ls) := by
  show reduceHash (Builtin.Tuple.tupleHashOf (ls.map fun l => l.key.hash w)) = reduceHash (Builtin.Tuple.tupleHashOf (ls.map hL))
  rw [lfVs_hash hl]
theorem KeyV.lf {K : PySem.W.Frag} {l : Leaf} (h : KeyV K H y (.lf l)) : lfT y = some l := by
  rcases h with ⟨l', e, h⟩ | ⟨b, xs, ls, e, _⟩
  · cases e; exact h
  · cases e
theorem KeyV.tp {K : PySem.W.Frag} {ls : List Leaf} (h : KeyV K H y (.tp ls)) : ∃ b xs, y = .ref b ∧ SqT K H b xs ∧ lfVs xs = some ls := by
  rcases h with ⟨l', e, h⟩ | ⟨b, xs, ls', e, h1, h2, h3⟩
  · cases e
  · cases e; exact ⟨b, xs, h1, h2, h3⟩
theorem dict_lf (I : Inv X pins σ H s) (e : IsDc H a kvs) (kv : KeysV X.K H kvs) (hs : ∀ z ∈ kvs, ∃ l, z.1 = .lf l) : ∃ vs, Paired RL kvs vs ∧ s.heap.DictOf (xKind X.prog X.w) a vs := by
  obtain ⟨⟨ob, es, ep, h1, h2, h3, h4⟩, _, _, hg⟩ := dc_at I.hok e
  obtain ⟨vs, p1, p2, p3⟩ := to_lf (P := X.prog) (w := X.w) h4 fun z hz => by
    obtain ⟨l, el⟩ := hs z hz
    have := kv z hz
    rw [el] at this
    exact ⟨l, el, this.lf⟩
  refine ⟨vs, p1, ob, es, ep, h1, h2, h3, fun x hx => p3 x (by simpa using hx), p2, ?_⟩
  have n := hg.1
  rw [rl_keys p1] at n
  exact nodup_of n
theorem dict_tp (I : Inv X pins σ H s) (e : IsDc H a kvs) (kv : KeysV X.K H kvs) (hs : ∀ z ∈ kvs, ∃ ls, z.1 = .tp ls) : ∃ xs, Paired RT kvs xs ∧ s.heap.DictOfH (tKind X.prog X.w) a xs := by
  obtain ⟨⟨ob, es, ep, h1, h2, h3, h4⟩, _, _, hg⟩ := dc_at I.hok e
  obtain ⟨xs, p1, p2, p3⟩ := to_tp (P := X.prog) (w := X.w) (h := s.heap) h4 fun z hz => by
    obtain ⟨ls, el⟩ := hs z hz
    have := kv z hz
    rw [el] at this
    obtain ⟨b, ys, k1, k2, k3⟩ := this.tp
    exact ⟨ls, b, el, k1, tk_is I k2 k3, tk_hash k3⟩
  refine ⟨xs, p1, ob, es, ep, h1, h2, h3, p2, p3, ?_⟩
  have n := hg.1
  rw [rt_keys p1] at n
  exact nodup_of n
theorem dc_type (I : Inv X pins σ H s) (e : IsDc H a kvs) : s.TypeIs (.ref a) "dict" := by
  obtain ⟨⟨ob, es, ep, h1, h2, _⟩, _⟩ := dc_at I.hok e
  exact ⟨ob, h1, h2.1⟩
theorem n_get {Q : Value → Shared → Prop} (hu : A.units + 1 < cLine) (I : Inv X pins σ H s) (g : NGet X.K H a y (some v)) (ry : RelV y u) (h : ∀ w' s', Inv X pins σ H s' → RelV v w' → Q w' s') : wpAny (model X.prog X.w) A (getItem (.ref a) u) Q E s := by
  obtain ⟨kvs, k, e, kv, ky, so, l⟩ := g
  rcases so with ⟨⟨lf, rfl⟩, so⟩ | ⟨⟨ls, rfl⟩, so⟩
  · obtain ⟨vs, p, dd⟩ := dict_lf I e kv so
    obtain ⟨w', hw, rw'⟩ := RelO.some_of (v := v) (o := valueAt vs lf) (by rw [l]; exact get_lf lf p)
    exact wpAny_getItem_of (lfT_is ry ky.lf) dd.mapOf hw (h w' _ (I.tok _) rw')
  · obtain ⟨xs, p, dd⟩ := dict_tp I e kv so
    obtain ⟨b, ys, rfl, k2, k3⟩ := ky.tp
    cases (show u = Value.ref b from ry)
    obtain ⟨w', hw, rw'⟩ := RelO.some_of (v := v) (o := (atKey xs ls).map (·.2)) (by rw [l]; exact get_tp ls p)
    obtain ⟨q, hq, hq2⟩ := Option.map_eq_some_iff.mp hw
    refine wpAny_getItem_heap (tupleKind_room_in1 hu) (tk_is I k2 k3) dd hq ?_
    rw [hq2]
    exact h w' _ (I.tok _) rw'
theorem put3_hash {K : PySem.W.Frag} (kv : KeysV K H kvs) (ky : KeyV K H y k) {P : Program} {w : World} : ∀ z ∈ put3 kvs k y v, ∀ ls, z.1 = .tp ls → (tKind P w).hash ls = hK (.tp ls) := by
  intro z hz ls el
  have go : ∀ {x : V} {j : KK}, KeyV K H x j → j = .tp ls → (tKind P w).hash ls = hK (.tp ls) := fun hx ej => by
    rw [ej] at hx
    obtain ⟨b, xs, _, _, h3⟩ := hx.tp
    exact tk_hash h3
  unfold put3 at hz
  split at hz
  · obtain ⟨z0, h0, rfl⟩ := List.mem_map.mp hz
    refine go (kv z0 h0) ?_
    rw [← el]
    split <;> rfl
  · rcases List.mem_append.mp hz with hz | hz
    · exact go (kv z hz) el
    · rw [List.mem_singleton.mp hz] at el
      exact go ky el
theorem n_set {Q : Unit → Shared → Prop} {new : List (KK × V × V)} (hu : A.units + 1 < cLine) (I : Inv X pins σ H s) (g : NPut X.K H a y v new) (ry : RelV y u) (rv : RelV v r) (h : ∀ s' dt, Inv X pins σ (upd H a (dcO a new dt)) s' → Q () s') : wpAny (model X.prog X.w) A (setItem (.ref a) u r) Q E s := by
  obtain ⟨kvs, k, e, kv, ky, so, hl, rfl⟩ := g
  obtain ⟨_, hd, hz, hg⟩ := dc_at I.hok e
  have hg2 := good_put (y := y) (v := v) hg so
  have hl2 : (put3 kvs k y v).length ≤ sizeLine := by have := put3_len kvs k y v; omega
  rcases so with ⟨⟨lf, rfl⟩, so⟩ | ⟨⟨ls, rfl⟩, so⟩
  · obtain ⟨vs, p, dd⟩ := dict_lf I e kv so
    refine wpAny_setItem_pairs (hsz := by rw [← Paired.length p]; exact hz) (lfT_is ry ky.lf) dd fun h' dd' hs => ?_
    obtain ⟨ob, es, ep, q1, q2, q3, q4, q5, _⟩ := dd'
    obtain ⟨dt0, e0⟩ := e
    exact h _ (es, ep) (d_write I (by rw [e0]; exact True.intro) hs ⟨ob, q1⟩ (dc_obj (dt := (es, ep)) ⟨⟨ob, q1, q2, q3, of_lf (put_lf p ky.lf rv) q5 fun x hx => q4 x (by simpa using hx)⟩, hd, hl2, hg2⟩))
  · obtain ⟨xs, p, dd⟩ := dict_tp I e kv so
    obtain ⟨b, ys, rfl, k2, k3⟩ := id ky.tp
    cases (show u = Value.ref b from ry)
    refine wpAny_setItem_heap (hsz := by rw [← Paired.length p]; exact hz) (tupleKind_room_in1 hu) (tk_is I k2 k3) dd fun h' dd' hs => ?_
    obtain ⟨ob, es, ep, q1, q2, q3, q4, _⟩ := dd'
    obtain ⟨dt0, e0⟩ := e
    refine h _ (es, ep) (d_write I (by rw [e0]; exact True.intro) hs ⟨ob, q1⟩ (dc_obj (dt := (es, ep)) ⟨⟨ob, q1, q2, q3, ?_⟩, hd, hl2, hg2⟩))
    dsimp only
    rw [q4]
    exact of_tp (put_tp p rv) (put3_hash kv ky)
theorem n_empty {P : Program} {w : World} (h : Heap) (hb : sysModules < h.objs.size) : ObjOk P w H (h.push { cls := .type "dict", data := .dict #[] }) h.objs.size (dcO h.objs.size [] (#[], 0)) :=
  dc_obj ⟨⟨_, Heap.get?_push_size _ rfl, ⟨rfl, rfl, rfl⟩, rfl, .nil⟩, beq_eq_false_iff_ne.mpr (Ne.symm (Nat.ne_of_lt hb)), Nat.zero_le _, List.nodup_nil, .inl fun _ hz => nomatch hz⟩
def rNGet (K : PySem.W.Frag) : R2 := fun x y H Q => ∃ a v, x = .ref a ∧ NGet K H a y (some v) ∧ Q v H
theorem ix_dict {n : Nat} (hr : Room n X.A) : IxR X (rNGet X.K) := by
  intro value slice pins s σ H x y v u Q I rx ry h hs
  obtain ⟨a, z, rfl, g, q⟩ := h
  cases rx
  have hu := hr.un
  obtain ⟨kvs, k, e, g2⟩ := id g
  exact tail_any (dc_type I e) PySem.F.slot_dict_getitem.lookup (n_get (by omega) I g ry fun w' s' I' rw' => ⟨z, H, I', rw', q⟩) hs
def sNPut (K : PySem.W.Frag) (td ty tv : TE) : TS := fun D σ H => tv σ H fun v H1 => td σ H1 fun x H2 => ty σ H2 fun y H3 => ∃ a new, x = .ref a ∧ NPut K H3 a y v new ∧ ∀ dt, D.nx σ (upd H3 a (dcO a new dt))
theorem ps_nput {n : Nat} {ob i value : Expr} {pos pos' : Pos} {td ty tv : TE} (hr : Room n X.A) (ho : PE X ob td) (hi : PE X i ty) (hv : PE X value tv) (hs : swapsWith value (some (.Subscript ob i pos')) pos.line X.env = pure false := by rfl) : PS X (.Assign [.Subscript ob i pos'] value pos) (sNPut X.K td ty tv) := by
  have hu := hr.un
  refine ⟨fun pins s σ H D I h => ?_⟩
  refine wpAny_Assign_Subscript ?_ hs
  refine thn (hv.run pins s σ H _ I h) fun r s1 ⟨v, H1, I1, rv, q1⟩ => ?_
  refine thn (ho.run pins s1 σ H1 _ I1 q1) fun u s2 ⟨x, H2, I2, rx, q2⟩ => ?_
  refine thn (hi.run pins s2 σ H2 _ I2 q2) fun iv s3 ⟨y, H3, I3, ry, a, new, ex, g, q3⟩ => ?_
  subst ex
  obtain rfl : u = Value.ref a := rx
  exact n_set (by omega) I3 g ry rv fun s4 dt I4 => ⟨σ, _, I4, q3 dt⟩
def tNNew : TE := fun _ H Q => ∀ p, H p = none → Q (.ref p) (upd H p (dcO p [] (#[], 0)))
theorem pe_nnew {pos : Pos} : PE X (.Dict [] [] pos) tNNew := ⟨fun pins s σ H Q I h => by
  have I1 := I.laid (a := s.heap.objs.size) (o := dcO s.heap.objs.size [] (#[], 0)) (t' := s.toks) (h' := s.heap.push { cls := .type "dict", data := .dict #[] }) (fun _ _ q => Heap.get?_push_of_some _ q) (Nat.le_refl _) (n_empty s.heap I.big)
  exact wpAny_Dict_empty ⟨.ref s.heap.objs.size, _, I1, rfl, h _ (I.hok.fresh (Nat.le_refl _))⟩⟩
end
end DL
namespace DL
open PySem L2
def isLf : D → Bool
  | .none => true
  | .int _ => true
  | _ => false
def isTp : D → Bool
  | .tuple ds => (lfDs ds).isSome
  | _ => false
/-- c may be looked up: it is a key, and all keys are of its sort -/
def sortB (c : D) (kds : List (D × D)) : Bool := (isLf c && kds.all fun p => isLf p.1) || (isTp c && kds.all fun p => isTp p.1)
def dFind (kds : List (D × D)) (c : D) : Option D := (kds.find? fun p => decide (kkD p.1 = kkD c)).map (·.2)
def dPut (kds : List (D × D)) (c d : D) : List (D × D) := if (dFind kds c).isSome = true then kds.map (fun p => if kkD p.1 = kkD c then (p.1, d) else p) else kds ++ [(c, d)]
def dGetD : D → D → Option D
  | .dict ((.dict [], .none) :: kds), c => if sortB c kds = true then dFind kds c else none
  | _, _ => none
section
variable {K : PySem.W.Frag} {Wx : WX} {ta tb te : TE} {b0 : Bx} {B Z0 Z H : Hp} {σ : L2.St} {ρ : Rho} {p : Addr}
theorem rp_lf {v : V} {d : D} (r : Rp K Z v d) (h : isLf d = true) : ∃ l, kkD d = some (.lf l) ∧ lfT v = some l := by
  cases r with
  | non => exact ⟨_, rfl, rfl⟩
  | int i => exact ⟨_, rfl, rfl⟩
  | _ => cases h
theorem rpA_lf : ∀ {vs : List V} {ds : List D} {ls : List Leaf}, RpA K Z vs ds → lfDs ds = some ls → lfVs vs = some ls
  | _, _, _, .nil, e => by cases e; rfl
  | _, _, _, .cons (v := v) h r, e => by
    unfold lfDs at e
    split at e
    · rename_i l ls' e1 e2
      cases e
      have hv : lfV v = some l := by
        cases h <;> cases e1 <;> rfl
      unfold lfVs
      rw [hv, rpA_lf r e2]
    · cases e
theorem rp_tp {v : V} {d : D} (r : Rp K Z v d) (h : isTp d = true) : ∃ ls b xs, kkD d = some (.tp ls) ∧ v = .ref b ∧ SqT K Z b xs ∧ lfVs xs = some ls := by
  cases r with
  | tup hs ra =>
    rename_i a xs ds
    obtain ⟨ls, e⟩ := Option.isSome_iff_exists.mp (show (lfDs ds).isSome = true from h)
    refine ⟨ls, a, xs, ?_, rfl, hs, rpA_lf ra e⟩
    show (lfDs ds).map KK.tp = _
    rw [e]; rfl
  | _ => cases h
theorem rp_key {v : V} {d : D} {k : KK} (r : Rp K Z v d) (e : kkD d = some k) : KeyV K Z v k := by
  cases r with
  | non => cases e; exact .inl ⟨_, rfl, rfl⟩
  | int i => cases e; exact .inl ⟨_, rfl, rfl⟩
  | tup hs ra =>
    rename_i a xs ds
    obtain ⟨ls, e1, rfl⟩ := Option.map_eq_some_iff.mp (show (lfDs ds).map KK.tp = some k from e)
    exact .inr ⟨a, xs, ls, rfl, rfl, hs, rpA_lf ra e1⟩
  | _ => cases e
theorem rpK_keys : ∀ {kvs : List (KK × V × V)} {kds : List (D × D)}, RpK K Z kvs kds → KeysV K Z kvs
  | _, _, .nil => fun y hy => nomatch hy
  | _, _, .cons h1 h2 h3 r => fun y hy => by
    rcases List.mem_cons.mp hy with rfl | hy
    · exact rp_key h2 h1
    · exact rpK_keys r y hy
theorem rpK_sort {c : D} {k : KK} : ∀ {kvs : List (KK × V × V)} {kds : List (D × D)}, RpK K Z kvs kds → (isLf c = true → (kds.all fun p => isLf p.1) = true → ∀ y ∈ kvs, ∃ l, y.1 = .lf l) ∧ (isTp c = true → (kds.all fun p => isTp p.1) = true → ∀ y ∈ kvs, ∃ ls, y.1 = .tp ls)
  | _, _, .nil => ⟨fun _ _ y hy => (nomatch hy), fun _ _ y hy => nomatch hy⟩
  | _, _, .cons h1 h2 h3 r => by
    obtain ⟨i1, i2⟩ := rpK_sort (c := c) (k := k) r
    refine ⟨fun hc ha y hy => ?_, fun hc ha y hy => ?_⟩
    · rw [List.all_cons, Bool.and_eq_true] at ha
      rcases List.mem_cons.mp hy with rfl | hy
      · obtain ⟨l, e, _⟩ := rp_lf h2 ha.1
        rw [h1] at e
        exact ⟨l, Option.some.inj e⟩
      · exact i1 hc ha.2 y hy
    · rw [List.all_cons, Bool.and_eq_true] at ha
      rcases List.mem_cons.mp hy with rfl | hy
      · obtain ⟨ls, _, _, e, _⟩ := rp_tp h2 ha.1
        rw [h1] at e
        exact ⟨ls, Option.some.inj e⟩
      · exact i2 hc ha.2 y hy
theorem sortB_ok {c : D} {x : V} {kvs : List (KK × V × V)} {kds : List (D × D)} (r : RpK K Z kvs kds) (rc : Rp K Z x c) (h : sortB c kds = true) : ∃ k, kkD c = some k ∧ KeyV K Z x k ∧ SortOk k kvs := by
  unfold sortB at h
  rw [Bool.or_eq_true, Bool.and_eq_true, Bool.and_eq_true] at h
  rcases h with ⟨h1, h2⟩ | ⟨h1, h2⟩
  · obtain ⟨l, e1, e2⟩ := rp_lf rc h1
    exact ⟨_, e1, .inl ⟨l, rfl, e2⟩, .inl ⟨⟨l, rfl⟩, (rpK_sort (k := .lf l) r).1 h1 h2⟩⟩
  · obtain ⟨ls, b, xs, e1, e2, e3, e4⟩ := rp_tp rc h1
    exact ⟨_, e1, .inr ⟨b, xs, ls, rfl, e2, e3, e4⟩, .inr ⟨⟨ls, rfl⟩, (rpK_sort (k := .tp ls) r).2 h1 h2⟩⟩
def OrR (K : PySem.W.Frag) (Z : Hp) : Option V → Option D → Prop
  | some v, some d => Rp K Z v d
  | none, none => True
  | _, _ => False
theorem OrR.isSome {v : Option V} {d : Option D} (h : OrR K Z v d) : v.isSome = d.isSome := by
  cases v <;> cases d <;> first | rfl | exact h.elim
theorem rpK_find {c : D} {k : KK} (ec : kkD c = some k) : ∀ {kvs : List (KK × V × V)} {kds : List (D × D)}, RpK K Z kvs kds → OrR K Z (getK kvs k) (dFind kds c)
  | _, _, .nil => True.intro
  | _, _, .cons (k := j) (x := x) (v := v) (c := a) (d := d) h1 h2 h3 r => by
    by_cases e : j = k
    · rw [getK_cons_eq e]
      have b : ∀ qs, dFind ((a, d) :: qs) c = some d := fun qs => by simp [dFind, List.find?_cons, h1, ec, e]
      rw [b]
      exact h3
    · rw [getK_cons_ne e]
      have b : ∀ qs, dFind ((a, d) :: qs) c = dFind qs c := fun qs => by simp [dFind, List.find?_cons, h1, ec, e]
      rw [b]
      exact rpK_find ec r
theorem rpK_put {c d : D} {k : KK} {x v : V} (ec : kkD c = some k) (rx : Rp K Z x c) (rv : Rp K Z v d) {kvs : List (KK × V × V)} {kds : List (D × D)} (r : RpK K Z kvs kds) : RpK K Z (put3 kvs k x v) (dPut kds c d) := by
  unfold put3 dPut
  rw [(rpK_find ec r).isSome]
  split
  · rename_i hs
    clear hs
    have go : ∀ {kvs : List (KK × V × V)} {kds : List (D × D)}, RpK K Z kvs kds → RpK K Z (kvs.map (fun z => if z.1 = k then (z.1, z.2.1, v) else z)) (kds.map (fun p => if kkD p.1 = kkD c then (p.1, d) else p)) := by
      intro kvs
      induction kvs with
      | nil => intro kds r; cases r; exact .nil
      | cons z zs ih =>
        intro kds r
        cases r with
        | cons h1 h2 h3 r =>
          rename_i j x' v' a d' kds'
          rw [List.map_cons, List.map_cons]
          by_cases e : j = k
          · rw [if_pos e, if_pos (by rw [h1, ec, e])]
            exact .cons h1 h2 rv (ih r)
          · rw [if_neg e, if_neg (by rw [h1, ec]; exact fun z => e (Option.some.inj z))]
            exact .cons h1 h2 h3 (ih r)
    exact go r
  · have go : ∀ {kvs : List (KK × V × V)} {kds : List (D × D)}, RpK K Z kvs kds → RpK K Z (kvs ++ [(k, x, v)]) (kds ++ [(c, d)]) := by
      intro kvs
      induction kvs with
      | nil => intro kds r; cases r; exact .cons ec rx rv .nil
      | cons z zs ih =>
        intro kds r
        cases r with
        | cons h1 h2 h3 r => exact .cons h1 h2 h3 (ih r)
    exact go r
theorem KeyV.same {x : V} {k : KK} (s : Same Z H) (h : KeyV K Z x k) : KeyV K H x k := h.mono fun _ _ q => same_t s q
/-- a table that is known, and a key -/
theorem ngot {v x : V} {c : D} {kds : List (D × D)} (s : Same Z H) (hd : Bd K Z H v (dcD kds)) (rx : Rp K Z x c) (h : sortB c kds = true) : ∃ a r, v = .ref a ∧ NGet K H a x r ∧ OrR K Z r (dFind kds c) := by
  cases hd with
  | dct e r =>
    obtain ⟨k, e1, e2, e3⟩ := sortB_ok r rx h
    exact ⟨_, _, rfl, ⟨_, k, ⟨_, e⟩, fun y hy => (rpK_keys r y hy).same s, e2.same s, e3, rfl⟩, rpK_find e1 r⟩
theorem bd_key {v : V} {d : D} (h : Bd K Z H v d) (hl : isLf d = true ∨ isTp d = true) : Rp K Z v d := by
  cases h with
  | non => exact .non
  | int i => exact .int i
  | tup h r => exact .tup h r
  | _ => rcases hl with h | h <;> cases h
theorem sort_key {c : D} {kds : List (D × D)} (h : sortB c kds = true) : isLf c = true ∨ isTp c = true := by
  unfold sortB at h
  rw [Bool.or_eq_true, Bool.and_eq_true, Bool.and_eq_true] at h
  exact h.imp (·.1) (·.1)
theorem sn_nget : Sn2 K (rNGet K) dGetD := fun b0 B Z0 Z H σ ρ x y a b c Q ok ha hb e q => by
  unfold dGetD at e
  split at e
  · split at e
    · rename_i hs
      obtain ⟨p, r, rfl, g, o⟩ := ngot ok.zh ha (bd_key hb (sort_key hs)) hs
      rw [e] at o
      cases r with
      | none => exact o.elim
      | some v => exact ⟨p, v, rfl, g, q v H Z ok (Same.refl Z) o⟩
    · cases e
  · cases e
def isOd : Option Sl → Bool
  | some (.od _) => true
  | _ => false
theorem Ok.isOd {i : Nat} (ok : Ok K b0 B Z0 Z H σ ρ) (h : isOd ρ[i]? = true) : ∃ p, σ[i]? = some (some (.ref p)) := by
  unfold DL.isOd at h
  split at h
  · rename_i ds e
    obtain ⟨p, vs, e1, _⟩ := ok.od i ds e
    exact ⟨p, e1⟩
  · cases h
theorem Ok.rewriteD {i : Nat} {ds es : List (D × D)} {vs' : List (KK × V × V)} (ok : Ok K b0 B Z0 Z H σ ρ) (h : ρ[i]? = some (.od ds)) (hp : σ[i]? = some (some (.ref p))) (r : RpK K Z vs' es) (hi : i ≠ 0) (dt : Array DictEntry × Nat) : Ok K b0 B Z0 Z (upd H p (dcO p vs' dt)) σ (ρ.set i (.od es)) := by
  obtain ⟨q, vs, e1, ok', zp, bp, ap, _, _⟩ := ok.releaseD h
  rw [hp] at e1
  cases e1
  have ok3 := (ok'.write (o := dcO p vs' dt) zp bp ap).putD (i := i) zp bp ap ⟨_, upd_same⟩ r fun _ _ z => absurd z hi
  rw [List.set_set, set_own hp] at ok3
  exact ok3
/-- x[k] = e, x a dict of one's own -/
def sPutD (i : Nat) (gk g : GE) (ρ : Rho) : O := (g ρ).to fun d ρ1 => if isOd ρ1[i]? then (gk ρ1).to fun c ρ2 => match ρ2[i]? with
    | some (.od kds) => if sortB c kds = true ∧ kds.length < sizeLine then .nx (ρ2.set i (.od (dPut kds c d))) else .bad
    | _ => .bad
  else .bad
theorem RpK.length : ∀ {kvs : List (KK × V × V)} {kds : List (D × D)}, RpK K Z kvs kds → kvs.length = kds.length
  | _, _, .nil => rfl
  | _, _, .cons _ _ _ r => by rw [List.length_cons, List.length_cons, RpK.length r]
theorem ds_putD {i : Nat} {gk g : GE} (h : DE K te g) (hk : DE K tb gk) (hi : i ≠ 0 := by decide) : DS K Wx (sNPut K (tVar i) tb te) (sPutD i gk g) := fun b0 B Z0 Z H σ ρ E ok s => by
  unfold sPutD at s
  obtain ⟨d, ρ1, e1, s⟩ := Sat.to s
  refine h b0 B Z0 Z H σ ρ d ρ1 _ ok e1 fun v H1 Z1 ok1 s1 r1 => ?_
  split at s
  · rename_i h0
    obtain ⟨p, e0⟩ := ok1.isOd h0
    obtain ⟨c, ρ2, e2, s⟩ := Sat.to s
    refine ⟨.ref p, e0, ?_⟩
    refine hk b0 B Z0 Z1 H1 σ ρ1 _ ρ2 _ ok1 e2 fun x H2 Z2 ok2 s2 r2 => ?_
    split at s
    · rename_i kds hd
      split at s
      · rename_i hs
        obtain ⟨q, vs, f1, f2, f3, f4, f5⟩ := ok2.od i kds hd
        rw [e0] at f1
        cases f1
        obtain ⟨k, k1, k2, k3⟩ := sortB_ok f5 r2 hs.1
        refine ⟨p, _, rfl, ⟨vs, k, f4, fun y hy => (rpK_keys f5 y hy).same ok2.zh, k2.same ok2.zh, k3, by rw [f5.length]; exact hs.2, rfl⟩, ?_⟩
        exact fun dt => s σ _ Z2 (ok2.rewriteD hd e0 (rpK_put k1 r2 (r1.mono s2) f5) hi dt)
      · exact s.elim
    · exact s.elim
  · exact s.elim
end
end DL
namespace DL
open PySem PySem.Spec PyProof.Rows L2
section
variable {X : Cx} {K : PySem.W.Frag}
def rNKeys : List V → Hp → VK → Prop := fun xs H Q => ∃ a kvs, xs = [.ref a] ∧ IsDc H a kvs ∧ ∀ p, H p = none → Q (.ref p) (upd H p (.lst (kvs.map fun z => z.2.1)))
theorem er_keys : ∀ {kvs : List (KK × V × V)} {es : List DictEntry} {vs : List Value}, Paired ER kvs es → vs.length = es.length → (∀ (j : Nat) v, vs[j]? = some v → ∃ e, es[j]? = some e ∧ v = e.key) → Vals (kvs.map fun z => z.2.1) vs
  | _, _, [], .nil, _, _ => .nil
  | _, _, _ :: _, .nil, h, _ => by cases h
  | _, _, [], .cons _ _, h, _ => by cases h
  | _, _, v :: vs, .cons (b := e) r t, h, hk => by
    rw [List.map_cons]
    refine .cons ?_ (er_keys t (by simpa using h) fun j u hj => ?_)
    · obtain ⟨e', h1, h2⟩ := hk 0 v rfl
      cases h1
      rw [h2]
      exact r.2.1
    · obtain ⟨e', h1, h2⟩ := hk (j + 1) u (by simpa using hj)
      exact ⟨e', by simpa using h1, h2⟩
theorem call_listN (hc : X.calm = true) : CallR X (.type "list") rNKeys := by
  intro pins s σ H xs us Q I r h
  obtain ⟨a, kvs, rfl, e, q⟩ := h
  obtain ⟨u, rfl, rx⟩ := vals1 r
  cases rx
  obtain ⟨⟨ob, es, ep, h1, h2, h3, h4⟩, hd, hz, _⟩ := dc_at I.hok e
  have hl : kvs.length = es.size := by rw [Paired.length h4, Array.length_toList]
  refine PySem.W.kdl_call (PySem.KdlSrc.rawDict (es := es) (ep := ep) hd) (I.ok.hd hc) ⟨ob, h1, h2, h3⟩ (by omega) fun h' tk acc' c' kp e' hacc => ?_
  have hv : Vals (kvs.map fun z => z.2.1) acc'.toList := er_keys h4 (by rw [Array.length_toList, Array.length_toList]; exact hacc.1) fun j v hj => by
    obtain ⟨hi, ev⟩ := hacc.2 j v (by simpa using hj)
    exact ⟨es[j], by simpa using hi, ev⟩
  exact ⟨.ref s.heap.objs.size, _, I.laid (t' := tk) kp (Nat.le_refl _) (show ObjOk X.prog X.w _ h' _ (.lst (kvs.map fun z => z.2.1)) from ⟨by rw [List.length_map]; exact hz, acc'.toList, c', hv, by simpa using e'⟩), rfl, q _ (I.hok.fresh (Nat.le_refl _))⟩
/-- the keys -/
def dKeysD : List D → Option (List D)
  | [.dict ((.dict [], .none) :: kds)] => some (kds.map (·.1))
  | _ => none
theorem rpK_k {Z : Hp} : ∀ {kvs : List (KK × V × V)} {kds : List (D × D)}, RpK K Z kvs kds → RpA K Z (kvs.map fun z => z.2.1) (kds.map (·.1))
  | _, _, .nil => .nil
  | _, _, .cons _ h2 _ r => .cons h2 (rpK_k r)
theorem sn_nkeys : SnAF K rNKeys dKeysD := fun b0 B Z0 Z H σ ρ xs as c Q ok ha e q => by
  unfold dKeysD at e
  split at e
  · cases e
    cases ha with
    | cons h r =>
      cases r
      cases h with
      | dct hd rk =>
        refine ⟨_, _, rfl, ⟨_, hd⟩, fun p hp => ?_⟩
        obtain ⟨ok2, zp, bp, ap⟩ := ok.fresh (o := .lst _) hp
        exact q p _ _ ok2 zp bp ap upd_same (rpK_k rk)
  · cases e
def rNDict (K : PySem.W.Frag) : List V → Hp → VK → Prop := fun xs H Q => ∃ a rs kvs, xs = [.ref a] ∧ SqL K H a (rs.map V.ref) ∧ Paired (fun (p : Addr) (y : KK × V × V) => SqT K H p [y.2.1, y.2.2]) rs kvs ∧ KeysV K H kvs ∧ KGood (kvs.map (·.1)) ∧ ∀ p dt, H p = none → Q (.ref p) (upd H p (dcO p kvs dt))
theorem rp_refs : ∀ {ps : List Addr} {us : List Value}, Vals (ps.map V.ref) us → us = ps.map Value.ref
  | [], _, r => by cases r; rfl
  | p :: ps, _, r => by
    rw [List.map_cons] at r
    cases r with
    | cons h t => rw [List.map_cons, ← rp_refs t, show _ = Value.ref p from h]
theorem pairs3 {pins : List (Addr × Obj)} {σ : L2.St} {H : Hp} {s : Shared} (I : L2.Inv X pins σ H s) : ∀ {rs : List Addr} {kvs : List (KK × V × V)}, Paired (fun (p : Addr) (y : KK × V × V) => SqT X.K H p [y.2.1, y.2.2]) rs kvs →
    ∃ ps : List (Value × Value), ps.length = rs.length ∧ Paired (fun (y : KK × V × V) (q : Value × Value) => RelV y.2.1 q.1 ∧ RelV y.2.2 q.2) kvs ps ∧ ∀ (j : Nat) k v, ps[j]? = some (k, v) → ∃ b, rs[j]? = some b ∧ s.heap.IsTuple b #[k, v]
  | _, _, .nil => ⟨[], rfl, .nil, fun j k v h => by simp at h⟩
  | _, _, .cons (a := b) (b := y) h t => by
    obtain ⟨ps, l, p1, p2⟩ := pairs3 I t
    obtain ⟨its, r, tp, _⟩ := I.tuple h
    cases r with
    | cons r1 r =>
      cases r with
      | cons r2 r =>
        cases r
        rename_i u1 u2
        refine ⟨(u1, u2) :: ps, by rw [List.length_cons, List.length_cons, l], .cons ⟨r1, r2⟩ p1, fun j k v hj => ?_⟩
        cases j with
        | zero => cases hj; exact ⟨b, rfl, tp⟩
        | succ j =>
          obtain ⟨c, c1, c2⟩ := p2 j k v (by simpa using hj)
          exact ⟨c, by simpa using c1, c2⟩
theorem have_lf {P : Program} {w : World} : ∀ {kvs : List (KK × V × V)} {ps : List (Value × Value)}, Paired (fun (y : KK × V × V) (q : Value × Value) => RelV y.2.1 q.1 ∧ RelV y.2.2 q.2) kvs ps → (∀ y ∈ kvs, ∃ l, y.1 = .lf l ∧ lfT y.2.1 = some l) →
    ∃ vs, Paired RL kvs vs ∧ vs.length = ps.length ∧ ∀ (i : Nat) key v, ps[i]? = some (key, v) → ∃ k, vs[i]? = some (k, v) ∧ (xKind P w).is k key = true
  | _, _, .nil, _ => ⟨[], .nil, rfl, fun i key v h => by simp at h⟩
  | _, _, .cons (a := y) (b := q) r t, hk => by
    obtain ⟨l, h1, h2⟩ := hk y List.mem_cons_self
    obtain ⟨vs, p1, p2, p3⟩ := have_lf (P := P) (w := w) t fun z hz => hk z (List.mem_cons_of_mem _ hz)
    refine ⟨(l, q.2) :: vs, .cons ⟨h1, h2, r.2⟩ p1, by rw [List.length_cons, List.length_cons, p2], fun i key v hi => ?_⟩
    cases i with
    | zero => cases hi; exact ⟨l, rfl, lfT_is r.1 h2⟩
    | succ i =>
      obtain ⟨k, c1, c2⟩ := p3 i key v (by simpa using hi)
      exact ⟨k, by simpa using c1, c2⟩
theorem have_tp : ∀ {kvs : List (KK × V × V)} {ps : List (Value × Value)}, Paired (fun (y : KK × V × V) (q : Value × Value) => RelV y.2.1 q.1 ∧ RelV y.2.2 q.2) kvs ps → (∀ y ∈ kvs, ∃ ls b, y.1 = .tp ls ∧ y.2.1 = .ref b) →
    ∃ xs : List (List Leaf × Addr × Value), Paired RT kvs xs ∧ xs.length = ps.length ∧ ∀ (i : Nat) key v, ps[i]? = some (key, v) → ∃ k b, xs[i]? = some (k, b, v) ∧ key = .ref b
  | _, _, .nil, _ => ⟨[], .nil, rfl, fun i key v h => by simp at h⟩
  | _, _, .cons (a := y) (b := q) r t, hk => by
    obtain ⟨ls, b, h1, h2⟩ := hk y List.mem_cons_self
    obtain ⟨xs, p1, p2, p3⟩ := have_tp t fun z hz => hk z (List.mem_cons_of_mem _ hz)
    have hr := r.1
    rw [h2] at hr
    refine ⟨(ls, b, q.2) :: xs, .cons ⟨h1, h2, r.2⟩ p1, by rw [List.length_cons, List.length_cons, p2], fun i key v hi => ?_⟩
    cases i with
    | zero => cases hi; exact ⟨ls, b, rfl, hr⟩
    | succ i =>
      obtain ⟨k, c, c1, c2⟩ := p3 i key v (by simpa using hi)
      exact ⟨k, c, by simpa using c1, c2⟩
theorem merged_nodup {vs : List (Leaf × Value)} (h : (vs.map (·.1)).Nodup) : merged [] vs = vs := by
  have go : ∀ (more acc : List (Leaf × Value)), ((acc ++ more).map (·.1)).Nodup → merged acc more = acc ++ more := fun more => by
    induction more with
    | nil => intro acc _; rw [List.append_nil]; rfl
    | cons p r ih =>
      intro acc hn
      show merged (stored acc p.1 p.2) r = _
      have e : stored acc p.1 p.2 = acc ++ [p] := by
        unfold stored
        rw [if_neg]
        intro ha
        obtain ⟨z, hz, ez⟩ := List.any_eq_true.mp ha
        have ez : z.1 = p.1 := of_decide_eq_true ez
        rw [List.map_append, List.nodup_append] at hn
        exact hn.2.2 z.1 (List.mem_map.mpr ⟨z, hz, rfl⟩) p.1 (by rw [List.map_cons]; exact List.mem_cons_self) ez
      rw [e, ih _ (by rw [List.append_assoc]; exact hn), List.append_assoc]; rfl
  exact go vs [] h
theorem call_dictN {n : Nat} (hr : Room n X.A) (hc : X.calm = true) : CallR X (.type "dict") (rNDict X.K) := by
  intro pins s σ H xs us Q I r h
  obtain ⟨a, rs, kvs, rfl, hq, hp, kv, hg, q⟩ := h
  obtain ⟨u, rfl, rx⟩ := vals1 r
  cases rx
  obtain ⟨its, rv, pl, hz⟩ := I.list hq
  cases rp_refs rv
  rw [List.length_map] at hz
  obtain ⟨ps, lp, p1, p2⟩ := pairs3 I hp
  have lk : kvs.length = ps.length := Paired.length p1
  have hu := hr.un
  have hm : (s.heap.objs.size == sysModules) = false := beq_eq_false_iff_ne.mpr (Nat.ne_of_gt I.big)
  have ok : PlainSeq "list" s.heap a (rs.map Value.ref).toArray ∧ PairItems s.heap (rs.map Value.ref).toArray (fun j => rs[j]?.getD 0) ps := by
    refine ⟨pl, by simp [lp], fun j k v hj => ?_⟩
    obtain ⟨b, h1, h2⟩ := p2 j k v hj
    refine ⟨?_, ?_⟩
    · simp [h1]
    · show PairAt s.heap (rs[j]?.getD 0) k v
      rw [h1]; exact .inl h2
  have P := PairArg.list (prog := X.prog) (w := X.w) a (rs.map Value.ref).toArray (fun j => rs[j]?.getD 0) ps
  have fin : ∀ (h' : Heap) tk, (∃ ob es ep, h'.get? s.heap.objs.size = some ob ∧ ob.ExactDict ∧ ob.data = .dict es ep ∧ Paired ER kvs es.toList) → (∀ b o, b ∉ ([] : List Addr) → s.heap.get? b = some o → h'.get? b = some o) → EP X pins σ Q (.ref s.heap.objs.size) { s with heap := h', toks := tk } := fun h' tk hd' hk =>
    let ⟨ob, es, ep, d1, d2, d3, d4⟩ := hd'
    ⟨.ref s.heap.objs.size, _, I.laid (t' := tk) (fun b o e => hk b o (fun z => nomatch z) e) (Nat.le_refl _) (dc_obj (dt := (es, ep)) ⟨⟨ob, d1, d2, d3, d4⟩, hm, by omega, hg⟩), rfl, q _ _ (I.hok.fresh (Nat.le_refl _))⟩
  rcases hg.2 with so | so
  · obtain ⟨vs, v1, v2, v3⟩ := have_lf (P := X.prog) (w := X.w) p1 fun y hy => by
      obtain ⟨l, el⟩ := so y.1 (List.mem_map.mpr ⟨y, hy, rfl⟩)
      have := kv y hy
      rw [el] at this
      exact ⟨l, el, this.lf⟩
    have nd : (vs.map (·.1)).Nodup := nodup_of (f := KK.lf) (by rw [← rl_keys v1]; exact hg.1)
    refine call_dict_pairs (knd := xKind X.prog X.w) (kvs := vs) P (I.ok.hd hc) ok ⟨v2, fun i key v hi => v3 i key v hi⟩ (by omega) fun h' tk hd' hk => fin h' tk ?_ hk
    rw [merged_nodup nd] at hd'
    obtain ⟨ob, es, ep, q1, q2, q3, q4, q5, _⟩ := hd'
    exact ⟨ob, es, ep, q1, q2, q3, of_lf v1 q5 fun x hx => q4 x (by simpa using hx)⟩
  · have kt : ∀ y ∈ kvs, ∃ ls b ys, y.1 = .tp ls ∧ y.2.1 = .ref b ∧ SqT X.K H b ys ∧ lfVs ys = some ls := fun y hy => by
      obtain ⟨ls, el⟩ := so y.1 (List.mem_map.mpr ⟨y, hy, rfl⟩)
      have := kv y hy
      rw [el] at this
      obtain ⟨b, ys, k1, k2, k3⟩ := this.tp
      exact ⟨ls, b, ys, el, k1, k2, k3⟩
    obtain ⟨vs, v1, v2, v3⟩ := have_tp p1 fun y hy => by
      obtain ⟨ls, b, _, k1, k2, _⟩ := kt y hy
      exact ⟨ls, b, k1, k2⟩
    have his : ∀ x ∈ vs, (tKind X.prog X.w).is s.heap x.1 x.2.1 := fun x hx => by
      have go : ∀ {kvs : List (KK × V × V)} {vs : List (List Leaf × Addr × Value)}, Paired RT kvs vs → (∀ y ∈ kvs, ∃ ls b ys, y.1 = .tp ls ∧ y.2.1 = .ref b ∧ SqT X.K H b ys ∧ lfVs ys = some ls) → ∀ x ∈ vs, (tKind X.prog X.w).is s.heap x.1 x.2.1 := by
        intro kvs vs p
        induction p with
        | nil => intro _ x hx; exact nomatch hx
        | @cons y z ys zs r t ih =>
          intro kt x hx
          rcases List.mem_cons.mp hx with e | hx
          · subst e
            obtain ⟨ls, b, ws, k1, k2, k3, k4⟩ := kt y List.mem_cons_self
            have e1 : x.1 = ls := by have := r.1.symm.trans k1; injection this
            have e2 : x.2.1 = b := by have := r.2.1.symm.trans k2; injection this
            rw [e1, e2]
            exact tk_is I k3 k4
          · exact ih (fun y hy => kt y (List.mem_cons_of_mem _ hy)) x hx
      exact go v1 kt x hx
    have nd : (vs.map (·.1)).Nodup := nodup_of (f := KK.tp) (by rw [← rt_keys v1]; exact hg.1)
    refine call_dict_pairsH (knd := tKind X.prog X.w) (ps := vs) P (I.ok.hd hc) (show X.A.units + 1 + 1 < cLine by omega) ok ⟨v2, fun i key v hi => v3 i key v hi⟩ (fun h' hk x hx => tupleKind_stays.stays (fun b o vs' n e1 _ => hk b o (Nat.ne_of_lt (Heap.lt_size e1)) (fun z => nomatch z) e1) (his x hx)) (by omega) fun h' tk hd' hk => fin h' tk ?_ hk
    rw [storedAllH_nil_of_nodup _ nd] at hd'
    obtain ⟨ob, es, ep, q1, q2, q3, q4, _⟩ := hd'
    refine ⟨ob, es, ep, q1, q2, q3, ?_⟩
    rw [q4]
    refine of_tp v1 fun y hy ls el => ?_
    obtain ⟨ls', b, ys, k1, k2, k3, k4⟩ := kt y hy
    rw [el] at k1
    cases k1
    exact tk_hash k4
/-- the pairs of a list -/
def pairsD : List D → Option (List (D × D))
  | [] => some []
  | .tuple [c, d] :: r => (pairsD r).map ((c, d) :: ·)
  | _ => none
/-- keys of one sort, none twice -/
def goodB (kds : List (D × D)) : Bool := ((kds.all fun p => isLf p.1) || (kds.all fun p => isTp p.1)) && decide ((kds.map fun p => kkD p.1).Nodup)
def dDictD : List D → Option D
  | [.list ds] => match pairsD ds with
    | some kds => if goodB kds = true then some (dcD kds) else none
    | none => none
  | _ => none
theorem pairs_rp {Z : Hp} : ∀ {vs : List V} {ds : List D} {kds : List (D × D)}, RpA K Z vs ds → pairsD ds = some kds → (kds.all fun p => (kkD p.1).isSome) = true → ∃ rs kvs, vs = rs.map V.ref ∧ Paired (fun (p : Addr) (y : KK × V × V) => SqT K Z p [y.2.1, y.2.2]) rs kvs ∧ RpK K Z kvs kds
  | _, _, _, .nil, e, _ => by cases e; exact ⟨[], [], rfl, .nil, .nil⟩
  | _, _, _, .cons h r, e, ha => by
    unfold pairsD at e
    split at e
    · rename_i heq
      cases heq
    · rename_i c d r' heq
      cases heq
      obtain ⟨kds', e1, rfl⟩ := Option.map_eq_some_iff.mp e
      rw [List.all_cons, Bool.and_eq_true] at ha
      obtain ⟨rs, kvs, h1, h2, h3⟩ := pairs_rp r e1 ha.2
      obtain ⟨k, ek⟩ := Option.isSome_iff_exists.mp ha.1
      cases h with
      | tup hs ra =>
        cases ra with
        | cons a1 ra =>
          cases ra with
          | cons a2 ra =>
            cases ra
            exact ⟨_ :: rs, (k, _, _) :: kvs, by rw [List.map_cons, h1], .cons hs h2, .cons ek a1 a2 h3⟩
    · cases e
theorem rpK_kk {Z : Hp} : ∀ {kvs : List (KK × V × V)} {kds : List (D × D)}, RpK K Z kvs kds → (kds.map fun p => kkD p.1) = (kvs.map (·.1)).map some
  | _, _, .nil => rfl
  | _, _, .cons h1 _ _ r => by rw [List.map_cons, List.map_cons, List.map_cons, rpK_kk r, h1]
theorem lf_some {d : D} (h : isLf d = true) : (kkD d).isSome = true := by cases d <;> first | rfl | cases h
theorem tp_some {d : D} (h : isTp d = true) : (kkD d).isSome = true := by
  cases d with
  | tuple ds => show ((lfDs ds).map KK.tp).isSome = true; rw [Option.isSome_map]; exact h
  | _ => cases h
theorem goodB_some {kds : List (D × D)} (h : goodB kds = true) : (kds.all fun p => (kkD p.1).isSome) = true := by
  unfold goodB at h
  rw [Bool.and_eq_true, Bool.or_eq_true] at h
  rw [List.all_eq_true]
  intro p hp
  rcases h.1 with h | h
  · exact lf_some (List.all_eq_true.mp h p hp)
  · exact tp_some (List.all_eq_true.mp h p hp)
theorem goodB_ok {Z : Hp} {kvs : List (KK × V × V)} {kds : List (D × D)} (r : RpK K Z kvs kds) (h : goodB kds = true) : KGood (kvs.map (·.1)) := by
  unfold goodB at h
  rw [Bool.and_eq_true, Bool.or_eq_true] at h
  refine ⟨nodup_of (f := some) (by rw [← rpK_kk r]; exact of_decide_eq_true h.2), ?_⟩
  rcases h.1 with h | h
  · refine .inl fun k hk => ?_
    obtain ⟨y, hy, rfl⟩ := List.mem_map.mp hk
    exact (rpK_sort (c := .none) (k := .lf .none) r).1 rfl h y hy
  · refine .inr fun k hk => ?_
    obtain ⟨y, hy, rfl⟩ := List.mem_map.mp hk
    exact (rpK_sort (c := .tuple []) (k := .lf .none) r).2 rfl h y hy
theorem paired_same {Z H : Hp} (s : Same Z H) : ∀ {rs : List Addr} {kvs : List (KK × V × V)}, Paired (fun (p : Addr) (y : KK × V × V) => SqT K Z p [y.2.1, y.2.2]) rs kvs → Paired (fun (p : Addr) (y : KK × V × V) => SqT K H p [y.2.1, y.2.2]) rs kvs
  | _, _, .nil => .nil
  | _, _, .cons h t => .cons (same_t s h) (paired_same s t)
theorem sn_ndict : SnA K (rNDict K) dDictD := fun b0 B Z0 Z H σ ρ xs as c Q ok ha e q => by
  unfold dDictD at e
  split at e
  · split at e
    · rename_i kds ep
      split at e
      · rename_i hg
        cases e
        cases ha with
        | cons h r =>
          cases r
          cases h with
          | lst hl ra =>
            obtain ⟨rs, kvs, h1, h2, h3⟩ := pairs_rp ra ep (goodB_some hg)
            subst h1
            refine ⟨_, rs, kvs, rfl, .inl (.inl hl), paired_same ok.zh h2, fun y hy => (rpK_keys h3 y hy).same ok.zh, goodB_ok h3 hg, fun p dt hp => ?_⟩
            obtain ⟨ok2, s2⟩ := ok.new (o := dcO p kvs dt) hp
            exact q (.ref p) _ _ ok2 s2 (.dct upd_same (h3.mono s2))
      · cases e
    · cases e
  · cases e
end
end DL
namespace DL
open PySem PySem.Spec PyProof.Rows L2
section
variable {X : Cx} {K : PySem.W.Frag} {Wx : WX} {ta tb te tk tv : TE}
/-- {k: v}: a new dict -/
def DD (K : PySem.W.Frag) (t : TE) (g : Rho → R (List (D × D))) : Prop := ∀ b0 B Z0 Z H σ ρ ds ρ' (Q : VK), Ok K b0 B Z0 Z H σ ρ → g ρ = .ok ds ρ' →
  (∀ p vs H' Z', Ok K b0 B Z0 Z' H' σ ρ' → Same Z Z' → Z' p = none → B p = none → Apart σ ρ' p → IsDc H' p vs → RpK K Z' vs ds → Q (.ref p) H') → t σ H Q
theorem dd_new : DD K tNNew (fun ρ => .ok [] ρ) := fun b0 B Z0 Z H σ ρ ds ρ' Q ok e q => fun p hp => by
  cases e
  obtain ⟨ok2, zp, bp, ap⟩ := ok.fresh (o := dcO p [] (#[], 0)) hp
  exact q p [] _ Z ok2 (Same.refl Z) zp bp ap ⟨_, upd_same⟩ .nil
def sSetD (i : Nat) (g : Rho → R (List (D × D))) (ρ : Rho) : O := (g ρ).to fun kds ρ1 => .nx (ρ1.set i (.od kds))
theorem ds_setD {i : Nat} {g : Rho → R (List (D × D))} (h : DD K te g) (hi : i ≠ 0 := by decide) : DS K Wx (tAsg te (gName i)) (sSetD i g) := fun b0 B Z0 Z H σ ρ E ok s => by
  obtain ⟨d, ρ', e, s⟩ := Sat.to s
  exact h b0 B Z0 Z H σ ρ d ρ' _ ok e fun p vs H' Z' ok' _ zp bp ap hp r => s _ H' Z' (ok'.putD zp bp ap hp r fun _ _ z => absurd z hi)
end
end DL
namespace DLX
open PySem PyProof.Rows PySem.W
mutual
theorem reads_there {h : Heap} : ∀ {v : Value} {d : PyData} {as : List Addr}, Reads h v d as → ∀ a ∈ as, ∃ o, h.get? a = some o
  | _, _, _, .none, a, ha => nomatch ha
  | _, _, _, .bool _, a, ha => nomatch ha
  | _, _, _, .int _ _, a, ha => nomatch ha
  | _, _, _, .str _ _, a, ha => nomatch ha
  | _, _, _, .list h1 _ _ r, a, ha => by
    rcases List.mem_cons.mp ha with e | ha
    · subst e; exact ⟨_, h1⟩
    · exact readsAll_there r a ha
  | _, _, _, .tuple _ _ _ r, a, ha => readsAll_there r a ha
  | _, _, _, .dict h1 _ _ r r2, a, ha => by
    rcases List.mem_append.mp ha with ha | ha
    · rcases List.mem_cons.mp ha with e | ha
      · subst e; exact ⟨_, h1⟩
      · exact readsAll_there r a ha
    · exact readsAll_there r2 a ha
theorem readsAll_there {h : Heap} : ∀ {vs : List Value} {ds : List PyData} {as : List Addr}, ReadsAll h vs ds as → ∀ a ∈ as, ∃ o, h.get? a = some o
  | _, _, _, .nil, a, ha => nomatch ha
  | _, _, _, .cons r t, a, ha => by
    rcases List.mem_append.mp ha with ha | ha
    · exact reads_there r a ha
    · exact readsAll_there t a ha
end
section
variable {prog : Program} {w : World} {A : Around} {E : Value → Shared → Prop} {s : Shared} {β : Type} {R : Value → β → Prop} {enc : β → PyData}
theorem each_one {vs : List Value} {bs : List β} (e : EachIs R vs bs) (h : bs.length ≤ 1) : bs.mergeSort (dataLe false enc) = bs := by
  match bs, h with
  | [], _ => exact List.mergeSort_nil
  | [x], _ => exact List.mergeSort_singleton x
theorem swo_no : SrtO.Swo (fun (_ _ : Value) => false) := ⟨fun _ _ h => (nomatch h), fun _ _ _ _ _ => rfl⟩
theorem sort_step {h1 : Heap} {tk : Nat} {vs : List Value} {bs : List β} {Q : Value → Shared → Prop} (e : EachIs R vs bs) (er : EachIs (fun v b => ∃ as, Reads h1 v (enc b) as) vs bs) (hc : bs.length ≤ 1 ∨ (AllAlike (bs.map enc) ∧ Sortable (bs.map enc))) (hL : bs.length ≤ sizeLine) (hu : ∀ b, b ∈ bs → A.units + 1 + (enc b).depth < cLine)
    (h : ∀ (h' : Heap) (out : List Value), (∀ b o, h1.get? b = some o → h'.get? b = some o) → (∃ n, h'.get? h1.objs.size = some (seqObj "list" out.toArray n)) → EachIs R out (bs.mergeSort (dataLe false enc)) → Q .none { s with heap := h', toks := tk }) :
    wpAny (model prog w) A (call (.builtin "list.sort") [.ref h1.objs.size]) Q E { s with heap := h1.push (seqObj "list" vs.toArray 0), toks := tk } := by
  have ho : (h1.push (seqObj "list" vs.toArray 0)).get? h1.objs.size = some (seqObj "list" vs.toArray 0) := Heap.get?_push_size _ rfl
  have old : ∀ (out : List Value) b o, h1.get? b = some o → (sortedHeap (h1.push (seqObj "list" vs.toArray 0)) h1.objs.size vs out.toArray).get? b = some o := fun out b o q => by
    have hlt := Heap.lt_size q
    rw [sortedHeap_old (Nat.ne_of_lt hlt) (by rw [size_push']; exact Nat.lt_succ_of_lt hlt)]
    exact Heap.get?_push_of_some _ q
  have lv : vs.length = bs.length := e.length
  rcases hc with hc | ⟨hal, hk⟩
  · refine wpAny_call_entry slot_list_sort ⟨_, ho, rfl⟩ entry_list_sort (SrtO.list_sort_ord swo_no ho (by omega) (fun h2 => absurd h2 (by omega)) fun out h1' h2' => ⟨_, rfl, ?_⟩) (args_list_sort _)
    have eo : out = vs := by
      have p := SrtO.Stb.perm h2'
      match vs, (show vs.length ≤ 1 by omega), p with
      | [], _, p => exact List.perm_nil.mp p
      | [x], _, p => exact List.perm_singleton.mp p
    subst eo
    exact h _ out (old out) (sortedHeap_at ho) (by rw [each_one e hc]; exact e)
  · refine list_sort_data (n := 0) ho e (er.mono fun v b ⟨as, r⟩ => ⟨as, PyProof.Rows.Reads.keeps (fun _ _ q => Heap.get?_push_of_some _ q) r, fun hm => ?_⟩) hal hk hL hu fun out _ eo => h _ out (old out) (sortedHeap_at ho) eo
    obtain ⟨o, q⟩ := reads_there r _ hm
    exact absurd (Heap.lt_size q) (Nat.lt_irrefl _)
/-- sorted(r), by what collect gives -/
theorem sorted_gen {r : Addr} {vs : List Value} {bs : List β} {Q : Value → Shared → Prop} (e : EachIs R vs bs) (er : EachIs (fun v b => ∃ as, Reads s.heap v (enc b) as) vs bs) (hc : bs.length ≤ 1 ∨ (AllAlike (bs.map enc) ∧ Sortable (bs.map enc))) (hL : bs.length ≤ sizeLine) (hu : ∀ b, b ∈ bs → A.units + 3 + (enc b).depth < cLine)
    (hcol : ∀ (Q' : List Value → Shared → Prop) (E' : Value → Shared → Prop), (∀ h' tk, (∀ b o, s.heap.get? b = some o → h'.get? b = some o) → Q' vs { s with heap := h', toks := tk }) → wpAny (model prog w) A.in1 (collect (.ref r)) Q' E' s)
    (h : ∀ (h' : Heap) (tk : Nat) (p : Addr) (out : List Value), s.heap.get? p = none → (∀ b o, s.heap.get? b = some o → h'.get? b = some o) → (∃ n, h'.get? p = some (seqObj "list" out.toArray n)) → EachIs R out (bs.mergeSort (dataLe false enc)) → Q (.ref p) { s with heap := h', toks := tk }) :
    wpAny (model prog w) A (call (.builtin "sorted") [.ref r]) Q E s := by
  have lv : vs.length = bs.length := e.length
  refine Calls.call_function_entry kind_sorted plain_sorted entry_sorted (args_sorted1 _) ?_
  unfold Builtin.«sorted»
  refine wpAny_bind (m := checkCount "sorted" 1 1 _) (wpAny_pure (wpAny_bind (hcol _ _ fun h1 tk kp => wpAny_bind (wpAny_newList ?_ (by omega)))))
  have le : s.heap.get? h1.objs.size = none := by
    cases q : s.heap.get? h1.objs.size with
    | none => rfl
    | some o => exact absurd (Heap.lt_size (kp _ _ q)) (Nat.lt_irrefl _)
  have er1 : EachIs (fun v b => ∃ as, Reads h1 v (enc b) as) vs bs := er.mono fun v b ⟨as, r⟩ => ⟨as, PyProof.Rows.Reads.keeps kp r⟩
  have st := sort_step (prog := prog) (w := w) (A := A.in1) (s := s) (tk := tk) (E := E) (Q := fun _ s' => Q (.ref h1.objs.size) s') e er1 hc hL (fun b hb => by have := hu b hb; show A.units + 1 + 1 + (enc b).depth < cLine; omega) fun h' out k1 k2 k3 => h h' tk h1.objs.size out le (fun b o q => k1 b o (kp b o q)) k2 k3
  refine wpAny_bind (wpAny_holding (wpAny_mono st (fun _ s' x => ?_) fun _ _ e => e))
  exact wpAny_pure ⟨_, rfl, x⟩
end
end DLX
namespace DL
open PySem PySem.Spec PyProof.Rows L2
open PySem.W (dataLe AllAlike Sortable EachIs)
def rNSort (K : PySem.W.Frag) : List V → Hp → VK → Prop := fun xs H Q => ∃ (a : Addr) (bs : List (D × V)), xs = [.ref a] ∧ (SqL K H a (bs.map (·.2)) ∨ ∃ kvs, IsDc H a kvs ∧ (kvs.map fun z => z.2.1) = bs.map (·.2)) ∧ (∀ b ∈ bs, Dp K H b.2 b.1 ∧ b.1.depth ≤ 50) ∧
  (bs.length ≤ 1 ∨ (AllAlike (bs.map (·.1)) ∧ Sortable (bs.map (·.1)))) ∧ ∀ p, H p = none → Q (.ref p) (upd H p (.lst ((bs.mergeSort (dataLe false (·.1))).map (·.2))))
section
variable {X : Cx} {K : PySem.W.Frag} {te : TE}
theorem each_of {H : Hp} {pins : List (Addr × Obj)} {σ : L2.St} {s : Shared} (I : L2.Inv X pins σ H s) : ∀ {bs : List (D × V)} {us : List Value}, Vals (bs.map (·.2)) us → (∀ b ∈ bs, Dp X.K H b.2 b.1 ∧ b.1.depth ≤ 50) → EachIs (fun u (b : D × V) => RelV b.2 u) us bs ∧ EachIs (fun u (b : D × V) => ∃ as, Reads s.heap u b.1 as) us bs
  | [], _, r, _ => by cases r; exact ⟨.nil, .nil⟩
  | b :: bs, _, r, h => by
    rw [List.map_cons] at r
    cases r with
    | cons r1 t =>
      obtain ⟨e1, e2⟩ := each_of I t fun x hx => h x (List.mem_cons_of_mem _ hx)
      exact ⟨.cons r1 e1, .cons (Dp.reads I b.1 b.2 _ (h b List.mem_cons_self).1 r1) e2⟩
theorem vals_of : ∀ {us : List Value} {bs : List (D × V)}, EachIs (fun u (b : D × V) => RelV b.2 u) us bs → Vals (bs.map (·.2)) us
  | _, _, .nil => .nil
  | _, _, .cons h t => by rw [List.map_cons]; exact .cons h (vals_of t)
theorem obj_there {P : Program} {w : World} {H : Hp} {h : Heap} {a : Addr} {o : HO} (x : ObjOk P w H h a o) : ∃ ob, h.get? a = some ob := by
  cases o with
  | lst xs => obtain ⟨_, _, _, _, e⟩ := x; exact ⟨_, e⟩
  | tup xs => obtain ⟨_, _, _, ob, e, _⟩ := x; exact ⟨_, e⟩
  | dK kvs => obtain ⟨_, _, _, _, ob, _, _, e, _⟩ := x; exact ⟨_, e⟩
  | dT kvs => obtain ⟨_, _, _, _, ob, _, _, e, _⟩ := x; exact ⟨_, e⟩
  | set S n => obtain ⟨ob, _, _, _, e, _⟩ := x; exact ⟨_, e⟩
  | ins C dx fs => obtain ⟨_, _, _, e, _⟩ := x; exact ⟨_, e⟩
  | own y => exact x
  | xd fs => obtain ⟨_, ⟨_, _, _, e, _⟩, _⟩ := x; exact ⟨_, e⟩
  | rng lo hi => obtain ⟨_, _, _, e⟩ := x; exact ⟨_, e⟩
  | frz ob u => obtain ⟨e, _⟩ := x; exact ⟨_, e⟩
  | tbl ps => exact ⟨_, (show h.get? a = some _ from x)⟩
  | met f y => exact ⟨_, (show h.get? a = some _ from x)⟩
  | ext φ => obtain ⟨_, e, _⟩ := x; exact e
theorem hok_none {P : Program} {w : World} {H : Hp} {h : Heap} {a : Addr} (x : HOk P w H h) (e : h.get? a = none) : H a = none := by
  cases q : H a with
  | none => rfl
  | some o =>
    obtain ⟨ob, e2⟩ := obj_there (x a o q)
    rw [e] at e2
    cases e2
theorem cr_sortN {n : Nat} (hr : Room n X.A) (hc : X.calm = true) : CallR X (.builtin "sorted") (rNSort X.K) := by
  intro pins s σ H xs us Q I r h
  obtain ⟨a, bs, rfl, hsrc, hb, cond, q⟩ := h
  obtain ⟨u, rfl, rx⟩ := vals1 r
  cases rx
  have hu := hr.un
  have fin : ∀ (vs : List Value), Vals (bs.map (·.2)) vs → (bs.map (·.2)).length ≤ sizeLine → (∀ (Q' : List Value → Shared → Prop) (E' : Value → Shared → Prop), (∀ h' tk, (∀ b o, s.heap.get? b = some o → h'.get? b = some o) → Q' vs { s with heap := h', toks := tk }) → wpAny (model X.prog X.w) X.A.in1 (collect (.ref a)) Q' E' s) →
      wpAny (model X.prog X.w) X.A (call (.builtin "sorted") [.ref a]) (EP X pins σ Q) X.xe s := fun vs rv hz hcol => by
    rw [List.length_map] at hz
    obtain ⟨e1, e2⟩ := each_of I rv hb
    refine DLX.sorted_gen (enc := fun b : D × V => b.1) e1 e2 cond hz (fun b hm => by have := (hb b hm).2; show X.A.units + 3 + b.1.depth < cLine; omega) hcol fun h' tk p out hp kp ⟨m, hm⟩ eo => ?_
    have hl : ((bs.mergeSort (dataLe false (·.1))).map (·.2)).length ≤ sizeLine := by rw [List.length_map, (List.mergeSort_perm _ _).length_eq]; exact hz
    exact ⟨.ref p, _, I.laidN (t' := tk) kp hp (hok_none I.hok hp) (show ObjOk X.prog X.w _ h' _ (.lst ((bs.mergeSort (dataLe false (·.1))).map (·.2))) from ⟨hl, out, m, vals_of eo, hm⟩), rfl, q _ (hok_none I.hok hp)⟩
  rcases hsrc with hs | ⟨kvs, hd, ek⟩
  · obtain ⟨its, rv, pl, hz⟩ := I.list hs
    refine fin its rv hz fun Q' E' hq => PyProof.Rows.collect_list pl.isList (hq _ s.toks fun b o e => ?_) (by rw [← rv.length]; exact hz)
    rw [Heap.get?_update_ne _ _ _ _ (Nat.ne_of_lt (Heap.lt_size e))]
    exact Heap.get?_push_of_some _ e
  · obtain ⟨⟨ob, es, ep, h1, h2, h3, h4⟩, hm, hz, _⟩ := dc_at I.hok hd
    have hl : kvs.length = es.size := by rw [Paired.length h4, Array.length_toList]
    have ent : Vals (kvs.map fun z => z.2.1) (es.toList.map (·.key)) := er_keys h4 (by rw [List.length_map]) fun j v hj => by
      rw [List.getElem?_map] at hj
      obtain ⟨e, he, rfl⟩ := Option.map_eq_some_iff.mp hj
      exact ⟨e, he, rfl⟩
    refine fin (es.toList.map (·.key)) (by rw [← ek]; exact ent) (by rw [← ek, List.length_map]; exact hz) fun Q' E' hq => PySem.W.kdu_collect (A := X.A.in1) (PySem.KdlSrc.rawDict (es := es) (ep := ep) hm) (I.ok.hd hc) ⟨ob, h1, h2, h3⟩ (by omega) fun h' tk acc kp hacc => ?_
    have ea : acc.toList = es.toList.map (·.key) := by
      apply List.ext_getElem?
      intro j
      rw [List.getElem?_map]
      by_cases hj : j < es.size
      · have hj2 : j < acc.size := by rw [hacc.1]; exact hj
        obtain ⟨hi, ev⟩ := hacc.2 j acc[j] (by simp [hj2])
        simp [hj, hj2, ev]
      · have hj2 : ¬ j < acc.size := by rw [hacc.1]; exact hj
        simp [hj, hj2]
    rw [ea]
    exact hq h' tk kp
/-- may be sorted -/
def sortableB (ds : List D) : Bool := decide (ds.length ≤ 1) || ((ds.all fun d => ds.all fun e => PySem.W.alike d e) && ds.all fun d => match d with | .tuple (_ :: _) => true | _ => false)
def itemsSD : D → Option (List D)
  | .list ds => some ds
  | .dict ((.dict [], .none) :: kds) => some (kds.map (·.1))
  | _ => none
def sortDD : List D → Option (List D)
  | [x] => match itemsSD x with
    | some ds => if sortableB ds = true ∧ (ds.all fun d => noD d && decide (d.depth ≤ 50)) = true then some (ds.mergeSort (dataLe false id)) else none
    | none => none
  | _ => none
theorem sortable_ok {ds : List D} (h : sortableB ds = true) : ds.length ≤ 1 ∨ (AllAlike ds ∧ Sortable ds) := by
  unfold sortableB at h
  rw [Bool.or_eq_true, Bool.and_eq_true] at h
  rcases h with h | ⟨h1, h2⟩
  · exact .inl (of_decide_eq_true h)
  · refine .inr ⟨fun d hd e he => List.all_eq_true.mp (List.all_eq_true.mp h1 d hd) e he, .inl fun d hd => ?_⟩
    have := List.all_eq_true.mp h2 d hd
    split at this
    · exact ⟨_, _, rfl⟩
    · cases this
theorem rpA_zip {Z : Hp} : ∀ {vs : List V} {ds : List D}, RpA K Z vs ds → ∃ bs : List (D × V), bs.map (·.1) = ds ∧ bs.map (·.2) = vs ∧ ∀ b ∈ bs, Rp K Z b.2 b.1
  | _, _, .nil => ⟨[], rfl, rfl, fun b hb => nomatch hb⟩
  | _, _, .cons (v := v) (d := d) h r => by
    obtain ⟨bs, h1, h2, h3⟩ := rpA_zip r
    refine ⟨(d, v) :: bs, by rw [List.map_cons, h1], by rw [List.map_cons, h2], fun b hb => ?_⟩
    rcases List.mem_cons.mp hb with e | hb
    · subst e; exact h
    · exact h3 b hb
theorem zip_rpA {Z : Hp} : ∀ {bs : List (D × V)}, (∀ b ∈ bs, Rp K Z b.2 b.1) → RpA K Z (bs.map (·.2)) (bs.map (·.1))
  | [], _ => .nil
  | b :: bs, h => .cons (h b List.mem_cons_self) (zip_rpA fun x hx => h x (List.mem_cons_of_mem _ hx))
theorem Dp.same {Z H : Hp} {v : V} {d : D} (s : Same Z H) (r : Rp K Z v d) (h : noD d = true) : Dp K H v d := (r.mono s).dp h
theorem sn_sortN : SnAF K (rNSort K) sortDD := fun b0 B Z0 Z H σ ρ xs as c Q ok ha e q => by
  unfold sortDD at e
  split at e
  · rename_i x
    split at e
    · rename_i ds ei
      split at e
      · rename_i hc
        cases e
        have go : ∀ {a : Addr} {vs : List V}, RpA K Z vs ds → (∀ bs : List (D × V), bs.map (·.2) = vs → (SqL K H a (bs.map (·.2)) ∨ ∃ kvs, IsDc H a kvs ∧ (kvs.map fun z => z.2.1) = bs.map (·.2))) → rNSort K [.ref a] H Q := fun {a vs} r hsrc => by
          obtain ⟨bs, h1, h2, h3⟩ := rpA_zip r
          refine ⟨a, bs, rfl, hsrc bs h2, fun b hb => ?_, ?_, fun p hp => ?_⟩
          · have hd : b.1 ∈ ds := by rw [← h1]; exact List.mem_map.mpr ⟨b, hb, rfl⟩
            have := List.all_eq_true.mp hc.2 b.1 hd
            rw [Bool.and_eq_true] at this
            exact ⟨Dp.same ok.zh (h3 b hb) this.1, of_decide_eq_true this.2⟩
          · have := sortable_ok hc.1
            rw [← h1, List.length_map] at this
            exact this
          · obtain ⟨ok2, zp, bp, ap⟩ := ok.fresh (o := .lst ((bs.mergeSort (dataLe false (·.1))).map (·.2))) hp
            refine q p _ _ ok2 zp bp ap upd_same ?_
            have es : ds.mergeSort (dataLe false id) = (bs.mergeSort (dataLe false (·.1))).map (·.1) := by
              have sm := PySem.W.sort_maps (r := dataLe false fun x : D × V => x.1) (s := dataLe false id) (fun x : D × V => x.1) (l := bs) (fun _ _ _ _ => rfl)
              rw [sm, h1]
            rw [es]
            exact zip_rpA fun b hb => h3 b ((List.mergeSort_perm _ _).mem_iff.mp hb)
        cases ha with
        | cons h r =>
          cases r
          cases h with
          | lst hl ra =>
            cases ei
            exact go ra fun bs hb => .inl (by rw [hb]; exact .inl (.inl hl))
          | dct hd rk =>
            cases ei
            exact go (rpK_k rk) fun bs hb => .inr ⟨_, ⟨_, hd⟩, hb.symm⟩
          | _ => cases ei
      · cases e
    · cases e
  · cases e
end
end DL
namespace DL
open PySem L2
section
variable {K : PySem.W.Frag} {Wx : WX} {ta tb te td : TE} {tas : TA}
/-- i, i - 1, .. -/
def downD (i : Int) (n : Nat) : List D := (List.range n).map fun k => .int (i + (k : Nat) * (-1))
theorem downD_len (i : Int) (n : Nat) : (downD i n).length = n := by unfold downD; rw [List.length_map, List.length_range]
theorem downD_get {i : Int} {n k : Nat} (h : k < n) : (downD i n)[k]? = some (.int (i + (k : Nat) * (-1))) := by
  unfold downD
  rw [List.getElem?_map, List.getElem?_range h]; rfl
theorem wk_down {Z : Hp} {i : Int} {n : Nat} : Wk K (Itc i (-1) n) Z (downD i n) where
  goes := fun k H hk s => by rw [downD_len] at hk; exact hk
  stops := fun H s => by rw [downD_len]; exact Nat.le_refl _
  yields := fun k H x H' hk y b0 B Z0 Z' σ ρ ok s => by
    obtain ⟨rfl, rfl⟩ := y
    rw [downD_len] at hk
    exact ⟨Z', _, ok, Same.refl Z', downD_get hk, .int _⟩
def rng3 : List D → Option (List D)
  | [.int i, .int j, .int (-1)] => if -(2 ^ 62) ≤ i ∧ i < 2 ^ 62 ∧ -(2 ^ 62) ≤ j ∧ j < 2 ^ 62 then some (downD i (i - j).toNat) else none
  | _ => none
theorem di_rng3 {ga : GA} (h : DA K tas ga) : DI K (iRng3 tas) (eCall rng3 ga) := fun b0 B Z0 Z H σ ρ ds ρ' W ok e q => by
  obtain ⟨os, as, e1, e2, e3⟩ := call_ok e
  refine h b0 B Z0 Z H σ ρ os ρ' _ ok e1 fun vs H1 Z1 ok1 s1 r1 => ?_
  have ra := valA_ok r1 e2
  unfold rng3 at e3
  split at e3
  · split at e3
    · rename_i hb
      cases e3
      cases ra with
      | cons r ra =>
      cases ra with
      | cons r' ra =>
      cases ra with
      | cons r'' ra =>
      cases r; cases r'; cases r''; cases ra
      exact ⟨_, _, _, _, rfl, RgC.neg hb.1 hb.2.1 hb.2.2.1 hb.2.2.2, q _ H1 Z1 ok1 s1 wk_down⟩
    · cases e3
  · cases e3
end
end DL
namespace DL
open PySem L2
theorem mid3_top {l m r : Int} (h1 : l < m) (h2 : r < m) : (mid3 l m r = l ∨ mid3 l m r = r) ∧ l ≤ mid3 l m r ∧ r ≤ mid3 l m r := by
  simp only [mid3, srtI, insI]
  split <;> simp only [insI] <;> (repeat' split) <;> simp only [List.getElem?_cons_succ, List.getElem?_cons_zero, Option.getD_some, true_or, or_true, true_and] <;> omega
theorem mid3_dip {l m r : Int} (h1 : m < l) (h2 : m < r) : (mid3 l m r = l ∨ mid3 l m r = r) ∧ mid3 l m r ≤ l ∧ mid3 l m r ≤ r := by
  simp only [mid3, srtI, insI]
  split <;> simp only [insI] <;> (repeat' split) <;> simp only [List.getElem?_cons_succ, List.getElem?_cons_zero, Option.getD_some, true_or, or_true, true_and] <;> omega
theorem mid3_idle {l m r : Int} (h1 : ¬ (l < m ∧ r < m)) (h2 : ¬ (m < l ∧ m < r)) : mid3 l m r = m := by
  simp only [mid3, srtI, insI]
  split <;> simp only [insI] <;> (repeat' split) <;> simp only [List.getElem?_cons_succ, List.getElem?_cons_zero, Option.getD_some, true_or, or_true, true_and] <;> omega
def IsT (a : List Int) (p : Int) : Prop := 0 < p ∧ p + 1 < a.length ∧ nat a (p - 1) < nat a p ∧ nat a (p + 1) < nat a p
def IsD (a : List Int) (p : Int) : Prop := 0 < p ∧ p + 1 < a.length ∧ nat a p < nat a (p - 1) ∧ nat a p < nat a (p + 1)
/-- what a call does -/
theorem call_cases {b : List Int} {i : Int} (h0 : 0 ≤ i) (h1 : i < b.length) : callN b i = b ∨ (IsT b i ∧ (midN b i = nat b (i - 1) ∨ midN b i = nat b (i + 1)) ∧ nat b (i - 1) ≤ midN b i ∧ nat b (i + 1) ≤ midN b i) ∨ (IsD b i ∧ (midN b i = nat b (i - 1) ∨ midN b i = nat b (i + 1)) ∧ midN b i ≤ nat b (i - 1) ∧ midN b i ≤ nat b (i + 1)) := by
  by_cases he : i = 0 ∨ i = (b.length : Int) - 1
  · refine .inl ((callN_iff h0 h1).mpr ?_)
    unfold midN
    rw [if_pos he]
  · have em : midN b i = mid3 (nat b (i - 1)) (nat b i) (nat b (i + 1)) := by unfold midN; rw [if_neg he]
    by_cases ht : nat b (i - 1) < nat b i ∧ nat b (i + 1) < nat b i
    · have := mid3_top ht.1 ht.2
      rw [← em] at this
      exact .inr (.inl ⟨⟨by omega, by omega, ht⟩, this⟩)
    · by_cases hd : nat b i < nat b (i - 1) ∧ nat b i < nat b (i + 1)
      · have := mid3_dip hd.1 hd.2
        rw [← em] at this
        exact .inr (.inr ⟨⟨by omega, by omega, hd⟩, this⟩)
      · exact .inl ((callN_iff h0 h1).mpr (em.trans (mid3_idle ht hd)))
theorem nat_call {b : List Int} {i p : Int} (h0 : 0 ≤ i) (h1 : i < b.length) (hp : 0 ≤ p) : nat (callN b i) p = if p = i then midN b i else nat b p := by
  unfold callN
  rw [nat_set hp]
  by_cases e : p = i
  · rw [if_pos ⟨by omega, by omega⟩, if_pos e]
  · rw [if_neg (fun z => e (by omega)), if_neg e]
def Btw (p q r : Int) : Prop := (p ≤ r ∧ r ≤ q) ∨ (q ≤ r ∧ r ≤ p)
/-- a leads to b -/
structure Keep (a b : List Int) : Prop where
  len : b.length = a.length
  chg : ∀ p : Int, 0 ≤ p → p < a.length → nat a p = nat b p ∨ (IsT a p ∧ nat b p < nat a p) ∨ (IsD a p ∧ nat a p < nat b p)
  ord : ∀ p : Int, 0 ≤ p → p + 1 < a.length → (nat a p < nat a (p + 1) → nat b p ≤ nat b (p + 1)) ∧ (nat a (p + 1) < nat a p → nat b (p + 1) ≤ nat b p) ∧ (nat a p = nat a (p + 1) → nat b p = nat b (p + 1))
  run : ∀ p : Int, 0 ≤ p → p < a.length → ∃ q : Int, 0 ≤ q ∧ q < a.length ∧ nat a q = nat b q ∧ ∀ r, Btw p q r → nat b r = nat b p
theorem Keep.refl (a : List Int) : Keep a a := ⟨rfl, fun _ _ _ => .inl rfl, fun p _ _ => ⟨fun h => by omega, fun h => by omega, fun h => h⟩, fun p h0 h1 => ⟨p, h0, h1, rfl, fun r hr => by rw [show r = p by unfold Btw at hr; omega]⟩⟩
theorem Keep.runs {a b : List Int} {i m : Int} {c : List Int} (h : Keep a b) (h0 : 0 < i) (h1 : i + 1 < a.length) (n1 : nat b (i - 1) ≠ nat b i) (n2 : nat b (i + 1) ≠ nat b i) (hm : m = nat b (i - 1) ∨ m = nat b (i + 1)) (hc : ∀ p : Int, 0 ≤ p → nat c p = if p = i then m else nat b p) :
    ∀ p : Int, 0 ≤ p → p < a.length → ∃ q : Int, 0 ≤ q ∧ q < a.length ∧ nat a q = nat c q ∧ ∀ r, Btw p q r → nat c r = nat c p := by
  intro p hp0 hp1
  have cut : ∀ p q : Int, p ≠ i → (∀ r, Btw p q r → nat b r = nat b p) → ¬ Btw p q i := fun p q hp hr hb => by
    have e := hr i hb
    unfold Btw at hb
    rcases hb with hb | hb
    · have := hr (i - 1) (by unfold Btw; omega)
      exact n1 (by rw [this, e])
    · have := hr (i + 1) (by unfold Btw; omega)
      exact n2 (by rw [this, e])
  have go : ∀ j : Int, 0 ≤ j → j < a.length → j ≠ i → ∃ q : Int, 0 ≤ q ∧ q < a.length ∧ q ≠ i ∧ ¬ Btw j q i ∧ nat a q = nat c q ∧ ∀ r, Btw j q r → nat c r = nat b j := fun j j0 j1 ji => by
    obtain ⟨q, q0, q1, qs, qr⟩ := h.run j j0 j1
    have nb := cut j q ji qr
    have qi : q ≠ i := fun z => nb (by unfold Btw; omega)
    refine ⟨q, q0, q1, qi, nb, by rw [hc q q0, if_neg qi]; exact qs, fun r hr => ?_⟩
    have ri : r ≠ i := fun z => nb (z ▸ hr)
    rw [hc r (by unfold Btw at hr; omega), if_neg ri]
    exact qr r hr
  by_cases hp : p = i
  · subst hp
    rcases hm with hm | hm
    · obtain ⟨q, q0, q1, qi, nb, qs, qr⟩ := go (p - 1) (by omega) (by omega) (by omega)
      have ql : q ≤ p - 1 := by unfold Btw at nb; omega
      refine ⟨q, q0, q1, qs, fun r hr => ?_⟩
      rw [hc p (by omega), if_pos rfl]
      by_cases e : r = p
      · rw [e, hc p (by omega), if_pos rfl]
      · rw [hm]
        exact qr r (by unfold Btw at hr ⊢; omega)
    · obtain ⟨q, q0, q1, qi, nb, qs, qr⟩ := go (p + 1) (by omega) (by omega) (by omega)
      have ql : p + 1 ≤ q := by unfold Btw at nb; omega
      refine ⟨q, q0, q1, qs, fun r hr => ?_⟩
      rw [hc p (by omega), if_pos rfl]
      by_cases e : r = p
      · rw [e, hc p (by omega), if_pos rfl]
      · rw [hm]
        exact qr r (by unfold Btw at hr ⊢; omega)
  · obtain ⟨q, q0, q1, qi, nb, qs, qr⟩ := go p hp0 hp1 hp
    refine ⟨q, q0, q1, qs, fun r hr => ?_⟩
    rw [qr r hr, hc p hp0, if_neg hp]
theorem Keep.alone {a b : List Int} {i : Int} (h : Keep a b) (h0 : 0 < i) (h1 : i + 1 < a.length) (n1 : nat b (i - 1) ≠ nat b i) (n2 : nat b (i + 1) ≠ nat b i) : nat a i = nat b i := by
  obtain ⟨q, q0, q1, qs, qr⟩ := h.run i (by omega) (by omega)
  rcases Int.lt_trichotomy q i with hq | hq | hq
  · exact absurd (qr (i - 1) (by unfold Btw; omega)) n1
  · rw [← hq]; exact qs
  · exact absurd (qr (i + 1) (by unfold Btw; omega)) n2
theorem Keep.top {a b : List Int} {i : Int} (h : Keep a b) (t : IsT b i) : IsT a i ∧ nat a i = nat b i := by
  obtain ⟨t0, t1, t2, t3⟩ := t
  have hl := h.len
  have o1 := h.ord (i - 1) (by omega) (by omega)
  rw [show i - 1 + 1 = i by omega] at o1
  have o2 := h.ord i (by omega) (by omega)
  refine ⟨⟨t0, by omega, ?_, ?_⟩, h.alone t0 (by omega) (by omega) (by omega)⟩
  · rcases Int.lt_trichotomy (nat a (i - 1)) (nat a i) with e | e | e
    · exact e
    · have := o1.2.2 e; omega
    · have := o1.2.1 e; omega
  · rcases Int.lt_trichotomy (nat a (i + 1)) (nat a i) with e | e | e
    · exact e
    · have := o2.2.2 e.symm; omega
    · have := o2.1 e; omega
theorem Keep.dip {a b : List Int} {i : Int} (h : Keep a b) (t : IsD b i) : IsD a i ∧ nat a i = nat b i := by
  obtain ⟨t0, t1, t2, t3⟩ := t
  have hl := h.len
  have o1 := h.ord (i - 1) (by omega) (by omega)
  rw [show i - 1 + 1 = i by omega] at o1
  have o2 := h.ord i (by omega) (by omega)
  refine ⟨⟨t0, by omega, ?_, ?_⟩, h.alone t0 (by omega) (by omega) (by omega)⟩
  · rcases Int.lt_trichotomy (nat a i) (nat a (i - 1)) with e | e | e
    · exact e
    · have := o1.2.2 e.symm; omega
    · have := o1.1 e; omega
  · rcases Int.lt_trichotomy (nat a i) (nat a (i + 1)) with e | e | e
    · exact e
    · have := o2.2.2 e; omega
    · have := o2.2.1 e; omega
theorem Keep.call {a b : List Int} {i : Int} (h : Keep a b) (h0 : 0 ≤ i) (h1 : i < a.length) : Keep a (callN b i) := by
  have hl := h.len
  have hc := fun p (hp : (0 : Int) ≤ p) => nat_call (b := b) (p := p) h0 (by omega) hp
  rcases call_cases (b := b) h0 (by omega) with e | ⟨t, tm, t1, t2⟩ | ⟨t, tm, t1, t2⟩
  · rw [e]; exact h
  · obtain ⟨ta, es⟩ := h.top t
    obtain ⟨u0, u1, u2, u3⟩ := id t
    obtain ⟨v0, v1, v2, v3⟩ := id ta
    refine ⟨by rw [callN_len]; exact hl, fun p p0 p1 => ?_, fun p p0 p1 => ?_, h.runs u0 (by omega) (by omega) (by omega) tm hc⟩
    · rw [hc p p0]
      by_cases e : p = i
      · subst e
        rw [if_pos rfl]
        exact .inr (.inl ⟨ta, by omega⟩)
      · rw [if_neg e]; exact h.chg p p0 p1
    · rw [hc p p0, hc (p + 1) (by omega)]
      have o := h.ord p p0 p1
      by_cases e : p = i
      · subst e
        rw [if_pos rfl, if_neg (by omega)]
        omega
      · rw [if_neg e]
        by_cases e2 : p + 1 = i
        · subst e2
          rw [if_pos rfl]
          rw [show p + 1 - 1 = p by omega] at *
          omega
        · rw [if_neg e2]; exact o
  · obtain ⟨ta, es⟩ := h.dip t
    obtain ⟨u0, u1, u2, u3⟩ := id t
    obtain ⟨v0, v1, v2, v3⟩ := id ta
    refine ⟨by rw [callN_len]; exact hl, fun p p0 p1 => ?_, fun p p0 p1 => ?_, h.runs u0 (by omega) (by omega) (by omega) tm hc⟩
    · rw [hc p p0]
      by_cases e : p = i
      · subst e
        rw [if_pos rfl]
        exact .inr (.inr ⟨ta, by omega⟩)
      · rw [if_neg e]; exact h.chg p p0 p1
    · rw [hc p p0, hc (p + 1) (by omega)]
      have o := h.ord p p0 p1
      by_cases e : p = i
      · subst e
        rw [if_pos rfl, if_neg (by omega)]
        omega
      · rw [if_neg e]
        by_cases e2 : p + 1 = i
        · subst e2
          rw [if_pos rfl]
          rw [show p + 1 - 1 = p by omega] at *
          omega
        · rw [if_neg e2]; exact o
theorem Keep.more {a : List Int} : ∀ (tape : List Int) {b : List Int}, Keep a b → (∀ i ∈ tape, 0 ≤ i ∧ i < a.length) → Keep a (runN b tape)
  | [], _, h, _ => h
  | i :: tape, b, h, ht => by
    have hi := ht i List.mem_cons_self
    exact Keep.more tape (h.call hi.1 hi.2) fun j hj => ht j (List.mem_cons_of_mem _ hj)
theorem keep_run {a tape : List Int} (h : ∀ i ∈ tape, 0 ≤ i ∧ i < a.length) : Keep a (runN a tape) := (Keep.refl a).more tape h
end DL
namespace DL
open PySem L2
def cgB (ns ms : List Int) (p : Int) : Bool := !decide (nat ns p = nat ms p)
def cgL (ns ms : List Int) : List Int := (rngI 0 ns.length).filter (cgB ns ms)
theorem cg_mem {a b : List Int} {p : Int} : p ∈ cgL a b ↔ (0 ≤ p ∧ p < a.length) ∧ nat a p ≠ nat b p := by
  unfold cgL cgB
  rw [List.mem_filter]
  constructor
  · intro ⟨h1, h2⟩
    have := mem_rngI h1
    exact ⟨⟨by omega, by omega⟩, by simpa using h2⟩
  · intro ⟨h1, h2⟩
    exact ⟨in_rngI h1.1 (by omega), by simpa using h2⟩
theorem row_eq {a b : List Int} (hl : b.length = a.length) (h : ∀ p : Int, 0 ≤ p → p < a.length → nat a p = nat b p) : a = b := by
  apply List.ext_getElem?
  intro k
  by_cases hk : k < a.length
  · have := h (k : Int) (by omega) (by omega)
    unfold nat at this
    rw [Int.toNat_natCast, List.getElem?_eq_getElem hk, List.getElem?_eq_getElem (show k < b.length by omega)] at this
    rw [List.getElem?_eq_getElem hk, List.getElem?_eq_getElem (show k < b.length by omega)]
    simpa using this
  · rw [List.getElem?_eq_none (by omega), List.getElem?_eq_none (by omega)]
theorem cg_nil {a b : List Int} (hl : b.length = a.length) : cgL a b = [] ↔ a = b := by
  constructor
  · intro h
    refine row_eq hl fun p h0 h1 => ?_
    by_cases e : nat a p = nat b p
    · exact e
    · have : p ∈ cgL a b := cg_mem.mpr ⟨⟨h0, h1⟩, e⟩
      rw [h] at this
      cases this
  · intro h
    subst h
    refine List.filter_eq_nil_iff.mpr fun p _ => ?_
    unfold cgB
    simp
/-- somebody who has to change beside one who stays, both of the same number in the end -/
theorem Keep.beside {a b : List Int} (h : Keep a b) (ne : a ≠ b) : ∃ p s : Int, (s = 1 ∨ s = -1) ∧ 0 ≤ p ∧ p < a.length ∧ 0 ≤ p + s ∧ p + s < a.length ∧ nat a p ≠ nat b p ∧ nat a (p + s) = nat b (p + s) ∧ nat b (p + s) = nat b p := by
  have hx : ∃ p ∈ cgL a b, True := by
    cases e : cgL a b with
    | nil => exact absurd ((cg_nil h.len).mp e) ne
    | cons x r => exact ⟨x, List.mem_cons_self, True.intro⟩
  obtain ⟨p, hp, _⟩ := hx
  obtain ⟨⟨p0, p1⟩, pn⟩ := cg_mem.mp hp
  obtain ⟨q, q0, q1, qs, qr⟩ := h.run p p0 p1
  have go : ∀ (k : Nat) (p : Int), 0 ≤ p → p < a.length → nat a p ≠ nat b p → (∀ r, Btw p q r → nat b r = nat b p) → (p - q).natAbs ≤ k → ∃ p s : Int, (s = 1 ∨ s = -1) ∧ 0 ≤ p ∧ p < a.length ∧ 0 ≤ p + s ∧ p + s < a.length ∧ nat a p ≠ nat b p ∧ nat a (p + s) = nat b (p + s) ∧ nat b (p + s) = nat b p := by
    intro k
    induction k with
    | zero =>
      intro p p0 p1 pn qr hk
      have e : p = q := by omega
      rw [e] at pn
      exact absurd qs pn
    | succ k ih =>
      intro p p0 p1 pn qr hk
      rcases Int.lt_trichotomy q p with hq | hq | hq
      · have e1 := qr (p + -1) (by unfold Btw; omega)
        by_cases e : nat a (p + -1) = nat b (p + -1)
        · exact ⟨p, -1, .inr rfl, p0, p1, by omega, by omega, pn, e, e1⟩
        · exact ih (p + -1) (by omega) (by omega) e (fun r hr => by rw [e1]; exact qr r (by unfold Btw at hr ⊢; omega)) (by omega)
      · rw [← hq] at pn
        exact absurd qs pn
      · have e1 := qr (p + 1) (by unfold Btw; omega)
        by_cases e : nat a (p + 1) = nat b (p + 1)
        · exact ⟨p, 1, .inl rfl, p0, p1, by omega, by omega, pn, e, e1⟩
        · exact ih (p + 1) (by omega) (by omega) e (fun r hr => by rw [e1]; exact qr r (by unfold Btw at hr ⊢; omega)) (by omega)
  exact go (p - q).natAbs p p0 p1 pn qr (Nat.le_refl _)
/-- what is near a top that has to fall -/
theorem Keep.near_top {a b : List Int} {p x : Int} (h : Keep a b) (t : IsT a p) (hb : nat b p < nat a p) (hx : x = p + 1 ∨ x = p - 1) : nat a x < nat a p ∧ nat b x ≤ nat b p ∧ (nat a x = nat b x ∨ (IsD a x ∧ nat a x < nat b x)) := by
  obtain ⟨t0, t1, t2, t3⟩ := t
  have hl := h.len
  have ha : nat a x < nat a p := by rcases hx with rfl | rfl <;> assumption
  have hbx : nat b x ≤ nat b p := by
    rcases hx with rfl | rfl
    · exact (h.ord p (by omega) (by omega)).2.1 t3
    · have := (h.ord (p - 1) (by omega) (by omega)).1
      rw [show p - 1 + 1 = p by omega] at this
      exact this t2
  refine ⟨ha, hbx, ?_⟩
  rcases h.chg x (by omega) (by omega) with c | ⟨⟨u0, u1, u2, u3⟩, c⟩ | c
  · exact .inl c
  · exfalso
    rcases hx with rfl | rfl
    · rw [show p + 1 - 1 = p by omega] at u2; omega
    · rw [show p - 1 + 1 = p by omega] at u3; omega
  · exact .inr c
theorem Keep.near_dip {a b : List Int} {p x : Int} (h : Keep a b) (t : IsD a p) (hb : nat a p < nat b p) (hx : x = p + 1 ∨ x = p - 1) : nat a p < nat a x ∧ nat b p ≤ nat b x ∧ (nat a x = nat b x ∨ (IsT a x ∧ nat b x < nat a x)) := by
  obtain ⟨t0, t1, t2, t3⟩ := t
  have hl := h.len
  have ha : nat a p < nat a x := by rcases hx with rfl | rfl <;> assumption
  have hbx : nat b p ≤ nat b x := by
    rcases hx with rfl | rfl
    · exact (h.ord p (by omega) (by omega)).1 t3
    · have := (h.ord (p - 1) (by omega) (by omega)).2.1
      rw [show p - 1 + 1 = p by omega] at this
      exact this t2
  refine ⟨ha, hbx, ?_⟩
  rcases h.chg x (by omega) (by omega) with c | c | ⟨⟨u0, u1, u2, u3⟩, c⟩
  · exact .inl c
  · exact .inr c
  · exfalso
    rcases hx with rfl | rfl
    · rw [show p + 1 - 1 = p by omega] at u2; omega
    · rw [show p - 1 + 1 = p by omega] at u3; omega
/-- a call of somebody whose number is then the one of the end -/
theorem Keep.step {a b : List Int} {p : Int} (h : Keep a b) (h0 : 0 < p) (h1 : p + 1 < a.length) (hc : nat a p ≠ nat b p) (hm : midN a p = nat b p) (hle : ∀ x : Int, x = p + 1 ∨ x = p - 1 → (IsT a p → nat a x ≤ nat b p) ∧ (IsD a p → nat b p ≤ nat a x)) : Keep (callN a p) b := by
  have hl := h.len
  have nc := fun x (hx : (0 : Int) ≤ x) => nat_call (b := a) (p := x) (i := p) (by omega) (by omega) hx
  have hk := h.chg p (by omega) (by omega)
  refine ⟨by rw [callN_len]; exact hl, fun x x0 x1 => ?_, fun x x0 x1 => ?_, fun x x0 x1 => ?_⟩
  · rw [callN_len] at x1
    by_cases e : x = p
    · subst e
      rw [nc x x0, if_pos rfl]
      exact .inl hm
    · rw [nc x x0, if_neg e]
      rcases h.chg x x0 x1 with c | ⟨⟨u0, u1, u2, u3⟩, c⟩ | ⟨⟨u0, u1, u2, u3⟩, c⟩
      · exact .inl c
      · refine .inr (.inl ⟨⟨u0, by rw [callN_len]; exact u1, ?_, ?_⟩, c⟩)
        · rw [nc x x0, if_neg e, nc (x - 1) (by omega)]
          by_cases e2 : x - 1 = p
          · rw [if_pos e2, hm]
            have ex : x = p + 1 := by omega
            rcases hk with z | ⟨t, z⟩ | ⟨t, z⟩
            · exact absurd z hc
            · have := (h.near_top t z (.inl ex)).1; rw [e2] at u2; omega
            · have := h.near_dip t z (.inl ex)
              omega
          · rw [if_neg e2]; exact u2
        · rw [nc x x0, if_neg e, nc (x + 1) (by omega)]
          by_cases e2 : x + 1 = p
          · rw [if_pos e2, hm]
            have ex : x = p - 1 := by omega
            rcases hk with z | ⟨t, z⟩ | ⟨t, z⟩
            · exact absurd z hc
            · have := (h.near_top t z (.inr ex)).1; rw [e2] at u3; omega
            · have := h.near_dip t z (.inr ex)
              omega
          · rw [if_neg e2]; exact u3
      · refine .inr (.inr ⟨⟨u0, by rw [callN_len]; exact u1, ?_, ?_⟩, c⟩)
        · rw [nc x x0, if_neg e, nc (x - 1) (by omega)]
          by_cases e2 : x - 1 = p
          · rw [if_pos e2, hm]
            have ex : x = p + 1 := by omega
            rcases hk with z | ⟨t, z⟩ | ⟨t, z⟩
            · exact absurd z hc
            · have := h.near_top t z (.inl ex)
              omega
            · have := (h.near_dip t z (.inl ex)).1; rw [e2] at u2; omega
          · rw [if_neg e2]; exact u2
        · rw [nc x x0, if_neg e, nc (x + 1) (by omega)]
          by_cases e2 : x + 1 = p
          · rw [if_pos e2, hm]
            have ex : x = p - 1 := by omega
            rcases hk with z | ⟨t, z⟩ | ⟨t, z⟩
            · exact absurd z hc
            · have := h.near_top t z (.inr ex)
              omega
            · have := (h.near_dip t z (.inr ex)).1; rw [e2] at u3; omega
          · rw [if_neg e2]; exact u3
  · rw [callN_len] at x1
    rw [nc x x0, nc (x + 1) (by omega)]
    have o := h.ord x x0 x1
    by_cases e : x = p
    · subst e
      rw [if_pos rfl, if_neg (by omega), hm]
      have hl1 := hle (x + 1) (.inl rfl)
      rcases hk with z | ⟨t, z⟩ | ⟨t, z⟩
      · exact absurd z hc
      · have n1 := h.near_top t z (.inl rfl)
        have := hl1.1 t
        omega
      · have n1 := h.near_dip t z (.inl rfl)
        have := hl1.2 t
        omega
    · rw [if_neg e]
      by_cases e2 : x + 1 = p
      · rw [if_pos e2, hm]
        have ex : x = p - 1 := by omega
        have hl1 := hle x (.inr ex)
        rw [e2]
        rcases hk with z | ⟨t, z⟩ | ⟨t, z⟩
        · exact absurd z hc
        · have n1 := h.near_top t z (.inr ex)
          have := hl1.1 t
          omega
        · have n1 := h.near_dip t z (.inr ex)
          have := hl1.2 t
          omega
      · rw [if_neg e2]; exact o
  · rw [callN_len] at x1
    obtain ⟨q, q0, q1, qs, qr⟩ := h.run x x0 x1
    refine ⟨q, q0, by rw [callN_len]; exact q1, ?_, qr⟩
    rw [nc q q0]
    by_cases e : q = p
    · rw [if_pos e, hm, e]
    · rw [if_neg e]; exact qs
/-- who is beside one who stays may be called, and takes the number of the end -/
theorem Keep.can {a b : List Int} {p s : Int} (h : Keep a b) (hs : s = 1 ∨ s = -1) (p0 : 0 ≤ p) (p1 : p < a.length) (q0 : 0 ≤ p + s) (q1 : p + s < a.length) (pn : nat a p ≠ nat b p) (qs : nat a (p + s) = nat b (p + s)) (qe : nat b (p + s) = nat b p) : 0 < p ∧ p + 1 < a.length ∧ midN a p = nat b p ∧ Keep (callN a p) b := by
  have hk := h.chg p p0 p1
  have inn : 0 < p ∧ p + 1 < a.length := by
    rcases hk with z | ⟨⟨t0, t1, _⟩, _⟩ | ⟨⟨t0, t1, _⟩, _⟩
    · exact absurd z pn
    · exact ⟨t0, t1⟩
    · exact ⟨t0, t1⟩
  have em : midN a p = mid3 (nat a (p - 1)) (nat a p) (nat a (p + 1)) := by
    unfold midN
    rw [if_neg (by omega)]
  have fin : midN a p = nat b p ∧ ∀ x : Int, x = p + 1 ∨ x = p - 1 → (IsT a p → nat a x ≤ nat b p) ∧ (IsD a p → nat b p ≤ nat a x) := by
    rcases hk with z | ⟨t, z⟩ | ⟨t, z⟩
    · exact absurd z pn
    · have n1 := h.near_top t z (x := p + 1) (.inl rfl)
      have n2 := h.near_top t z (x := p - 1) (.inr rfl)
      have m := mid3_top (l := nat a (p - 1)) (m := nat a p) (r := nat a (p + 1)) n2.1 n1.1
      rw [← em] at m
      refine ⟨?_, fun x hx => ⟨fun _ => ?_, fun d => ?_⟩⟩
      · rcases hs with rfl | rfl
        · omega
        · rw [show p + -1 = p - 1 by omega] at *; omega
      · rcases hx with rfl | rfl <;> omega
      · have := d.2.2.1; have := t.2.2.1; omega
    · have n1 := h.near_dip t z (x := p + 1) (.inl rfl)
      have n2 := h.near_dip t z (x := p - 1) (.inr rfl)
      have m := mid3_dip (l := nat a (p - 1)) (m := nat a p) (r := nat a (p + 1)) n2.1 n1.1
      rw [← em] at m
      refine ⟨?_, fun x hx => ⟨fun d => ?_, fun _ => ?_⟩⟩
      · rcases hs with rfl | rfl
        · omega
        · rw [show p + -1 = p - 1 by omega] at *; omega
      · have := d.2.2.1; have := t.2.2.1; omega
      · rcases hx with rfl | rfl <;> omega
  exact ⟨inn.1, inn.2, fin.1, h.step inn.1 inn.2 pn fin.1 fin.2⟩
theorem cg_call {a b : List Int} {p : Int} (p0 : 0 ≤ p) (p1 : p < a.length) (pn : nat a p ≠ nat b p) (hm : midN a p = nat b p) : cgL (callN a p) b = (cgL a b).filter fun x => decide (x ≠ p) := by
  unfold cgL
  rw [callN_len, List.filter_filter]
  refine List.filter_congr fun x hx => ?_
  have hx := mem_rngI hx
  unfold cgB
  rw [nat_call p0 p1 (by omega)]
  by_cases e : x = p
  · subst e
    rw [if_pos rfl, hm]
    simp
  · rw [if_neg e]
    simp [e]
theorem len_drop {p : Int} : ∀ {l : List Int}, l.Pairwise (· < ·) → p ∈ l → (l.filter fun x => decide (x ≠ p)).length + 1 = l.length
  | x :: l, hw, hp => by
    have hw := List.pairwise_cons.mp hw
    rw [List.filter_cons]
    by_cases e : x = p
    · subst e
      have : (l.filter fun y => decide (y ≠ x)) = l := List.filter_eq_self.mpr fun y hy => decide_eq_true (by have := hw.1 y hy; omega)
      rw [if_neg (by simp), this]; rfl
    · rcases List.mem_cons.mp hp with z | z
      · exact absurd z.symm e
      · have := len_drop hw.2 z
        rw [if_pos (by simpa using e)]
        simp only [List.length_cons]
        omega
theorem rng_pw (lo : Int) (n : Nat) : (rngI lo n).Pairwise (· < ·) := by
  unfold rngI
  rw [List.pairwise_map]
  exact List.pairwise_lt_range.imp fun h => by omega
theorem cg_pw (a b : List Int) : (cgL a b).Pairwise (· < ·) := (rng_pw 0 _).filter _
/-- b is led to by as many calls as people changed -/
theorem Keep.way : ∀ (k : Nat) {a b : List Int}, Keep a b → (cgL a b).length = k → ∃ tape : List Int, tape.length = k ∧ (∀ i ∈ tape, 0 < i ∧ i + 1 < a.length) ∧ runN a tape = b
  | 0, a, b, h, hk => ⟨[], rfl, fun i hi => (nomatch hi), (cg_nil h.len).mp (List.length_eq_zero_iff.mp hk)⟩
  | k + 1, a, b, h, hk => by
    have ne : a ≠ b := fun e => by
      rw [(cg_nil h.len).mpr e] at hk
      cases hk
    obtain ⟨p, s, hs, p0, p1, q0, q1, pn, qs, qe⟩ := h.beside ne
    obtain ⟨c1, c2, c3, c4⟩ := h.can hs p0 p1 q0 q1 pn qs qe
    have hd := len_drop (cg_pw a b) (cg_mem.mpr ⟨⟨p0, p1⟩, pn⟩)
    obtain ⟨tape, t1, t2, t3⟩ := Keep.way k c4 (by rw [cg_call p0 p1 pn c3]; omega)
    refine ⟨p :: tape, by rw [List.length_cons, t1], fun i hi => ?_, t3⟩
    rcases List.mem_cons.mp hi with rfl | hi
    · exact ⟨c1, c2⟩
    · have := t2 i hi
      rw [callN_len] at this
      exact this
/-- a call that changes something changes one who had not changed yet -/
theorem Keep.more1 {a b : List Int} {i : Int} (h : Keep a b) (h0 : 0 ≤ i) (h1 : i < a.length) (hc : callN b i ≠ b) : (cgL a (callN b i)).length = (cgL a b).length + 1 ∧ 0 < i ∧ i + 1 < a.length ∧ nat a i = nat b i := by
  have hl := h.len
  have inn : (0 < i ∧ i + 1 < a.length) ∧ nat a i = nat b i ∧ midN b i ≠ nat b i := by
    have ni : midN b i ≠ nat b i := fun e => hc ((callN_iff h0 (by omega)).mpr e)
    rcases call_cases (b := b) h0 (by omega) with e | ⟨t, _⟩ | ⟨t, _⟩
    · exact absurd e hc
    · have := h.top t
      exact ⟨⟨t.1, by have := t.2.1; omega⟩, this.2, ni⟩
    · have := h.dip t
      exact ⟨⟨t.1, by have := t.2.1; omega⟩, this.2, ni⟩
  refine ⟨?_, inn.1.1, inn.1.2, inn.2.1⟩
  have e : cgL a b = (cgL a (callN b i)).filter fun x => decide (x ≠ i) := by
    unfold cgL
    rw [List.filter_filter]
    refine List.filter_congr fun x hx => ?_
    have hx := mem_rngI hx
    unfold cgB
    rw [nat_call h0 (by omega) (by omega)]
    by_cases e : x = i
    · subst e
      rw [if_pos rfl, inn.2.1]
      simp
    · rw [if_neg e]
      simp [e]
  have hm : i ∈ cgL a (callN b i) := cg_mem.mpr ⟨⟨h0, h1⟩, by rw [nat_call h0 (by omega) h0, if_pos rfl, inn.2.1]; exact fun z => inn.2.2 z.symm⟩
  have := len_drop (cg_pw a (callN b i)) hm
  rw [← e] at this
  omega
theorem runN_app (a : List Int) (s t : List Int) : runN a (s ++ t) = runN (runN a s) t := List.foldl_append
theorem dist_run {a : List Int} : ∀ (tape : List Int) {b : List Int}, Keep a b → (∀ i ∈ tape, 0 ≤ i ∧ i < a.length) → (cgL a (runN b tape)).length ≤ (cgL a b).length + tape.length
  | [], b, _, _ => Nat.le_refl _
  | i :: tape, b, h, ht => by
    have hi := ht i List.mem_cons_self
    have ih := dist_run tape (h.call hi.1 hi.2) fun j hj => ht j (List.mem_cons_of_mem _ hj)
    show (cgL a (runN (callN b i) tape)).length ≤ _
    rw [List.length_cons]
    by_cases e : callN b i = b
    · rw [e] at ih ⊢; omega
    · have := (h.more1 hi.1 hi.2 e).1; omega
/-- the row before -/
theorem Keep.back {a b : List Int} {k : Nat} (h : Keep a b) (hk : (cgL a b).length = k + 1) : ∃ (c : List Int) (i : Int), Keep a c ∧ (cgL a c).length = k ∧ 0 < i ∧ i + 1 < a.length ∧ callN c i = b := by
  obtain ⟨tape, t1, t2, t3⟩ := Keep.way (k + 1) h hk
  have t2' : ∀ i ∈ tape, 0 ≤ i ∧ i < a.length := fun i hi => by have := t2 i hi; omega
  rcases List.eq_nil_or_concat tape with e | ⟨s, i, e⟩
  · rw [e] at t1; cases t1
  · rw [List.concat_eq_append] at e
    subst e
    have hs : ∀ j ∈ s, 0 ≤ j ∧ j < a.length := fun j hj => t2' j (List.mem_append_left _ hj)
    have hi := t2 i (List.mem_append_right _ List.mem_cons_self)
    have kc := keep_run hs
    rw [runN_app] at t3
    have t3 : callN (runN a s) i = b := t3
    rw [List.length_append] at t1
    have d1 := dist_run s (Keep.refl a) hs
    have d0 : (cgL a a).length = 0 := by rw [(cg_nil rfl).mpr rfl]; rfl
    have d2 := dist_run [i] kc (fun j hj => by rw [List.mem_singleton.mp hj]; omega)
    have d2 : (cgL a (callN (runN a s) i)).length ≤ (cgL a (runN a s)).length + 1 := d2
    rw [t3, hk] at d2
    simp at t1
    exact ⟨runN a s, i, kc, by omega, hi.1, hi.2, t3⟩
end DL
namespace DL
open PySem L2
structure Sta where
  num : Int
  st : Bool
  came : Int
  wide : Bool
  deriving DecidableEq
abbrev Stt := Option Sta
abbrev Opt := Int × Bool
def partN (a : List Int) (p : Int) (s : Sta) (o : Opt) (calm : Bool) : Stt :=
  if s.st = false ∨ nat a (p - 1) = nat a p ∨ decide (nat a (p - 1) < nat a p) ≠ decide (s.num < o.1) then none
  else if calm = true ∧ s.wide = false ∧ ¬ (s.came = 0 ∨ s.came = if s.num < o.1 then 1 else -1) then none
  else some ⟨o.1, !o.2, if calm then (if s.num < o.1 then 1 else -1) else 0, false⟩
def nxN (a : List Int) (p : Int) (s : Stt) (o : Opt) (calm : Bool) : Stt := match s with
  | none => some ⟨o.1, !o.2, 0, false⟩
  | some s => if o.1 = s.num then some ⟨s.num, s.st || !o.2, s.came, calm⟩ else partN a p s o calm
theorem part_num {a : List Int} {p : Int} {s : Sta} {o : Opt} {calm : Bool} {t : Sta} (h : partN a p s o calm = some t) : t.num = o.1 := by
  unfold partN at h
  by_cases c1 : s.st = false ∨ nat a (p - 1) = nat a p ∨ decide (nat a (p - 1) < nat a p) ≠ decide (s.num < o.1)
  · rw [if_pos c1] at h; cases h
  · rw [if_neg c1] at h
    by_cases c2 : calm = true ∧ s.wide = false ∧ ¬ (s.came = 0 ∨ s.came = if s.num < o.1 then 1 else -1)
    · rw [if_pos c2] at h; cases h
    · rw [if_neg c2] at h
      injection h with h
      rw [← h]
theorem nx_num {a : List Int} {p : Int} {s : Stt} {o : Opt} {calm : Bool} {t : Sta} (h : nxN a p s o calm = some t) : t.num = o.1 := by
  cases s with
  | none => injection h with h; rw [← h]
  | some s =>
    unfold nxN at h
    dsimp only at h
    by_cases e : o.1 = s.num
    · rw [if_pos e] at h
      injection h with h
      rw [← h]; exact e.symm
    · rw [if_neg e] at h
      exact part_num h
/-- the states after one more person -/
def nxL (a : List Int) (op : List Opt) (p : Int) (s : Stt) (calm : Bool) : List Sta := op.filterMap fun o => nxN a p s o calm
def accB : Stt → Bool
  | none => true
  | some s => s.st
/-- the numbers that go on so -/
def rowF (a : List Int) (ops : Int → List Opt) (calm : Bool) : Nat → Int → Stt → List (List Int)
  | 0, _, s => if accB s then [[]] else []
  | r + 1, p, s => (nxL a (ops p) p s calm).flatMap fun t => (rowF a ops calm r (p + 1) (some t)).map (t.num :: ·)
theorem row_each {a : List Int} {ops : Int → List Opt} {calm : Bool} : ∀ {r : Nat} {p : Int} {s : Stt} {c : List Int}, c ∈ rowF a ops calm r p s → c.length = r
  | 0, p, s, c, h => by
    unfold rowF at h
    split at h
    · rw [List.mem_singleton.mp h]; rfl
    · cases h
  | r + 1, p, s, c, h => by
    unfold rowF at h
    obtain ⟨t, _, h1⟩ := List.mem_flatMap.mp h
    obtain ⟨c', h2, rfl⟩ := List.mem_map.mp h1
    rw [List.length_cons, row_each h2]
def AscO (op : List Opt) : Prop := op.Pairwise fun x y => x.1 < y.1
theorem nxL_pw {a : List Int} {op : List Opt} {p : Int} {s : Stt} {calm : Bool} (h : AscO op) : (nxL a op p s calm).Pairwise fun x y => x.num < y.num := by
  unfold nxL
  rw [List.pairwise_filterMap]
  exact h.imp fun {x y} hxy t ht u hu => by rw [nx_num ht, nx_num hu]; exact hxy
theorem cons_lt {x y : Int} {c d : List Int} : x :: c < y :: d ↔ x < y ∨ (x = y ∧ c < d) := List.cons_lt_cons_iff
theorem row_asc {a : List Int} {ops : Int → List Opt} {calm : Bool} (h : ∀ p, AscO (ops p)) : ∀ (r : Nat) (p : Int) (s : Stt), (rowF a ops calm r p s).Pairwise (· < ·)
  | 0, p, s => by
    unfold rowF
    split
    · exact List.pairwise_singleton _ _
    · exact .nil
  | r + 1, p, s => by
    unfold rowF
    rw [List.flatMap_def, List.pairwise_flatten]
    refine ⟨fun l hl => ?_, ?_⟩
    · obtain ⟨t, _, rfl⟩ := List.mem_map.mp hl
      rw [List.pairwise_map]
      exact (row_asc h r (p + 1) (some t)).imp fun hc => cons_lt.mpr (.inr ⟨rfl, hc⟩)
    · rw [List.pairwise_map]
      refine (nxL_pw (h p)).imp fun {t u} htu c hc d hd => ?_
      obtain ⟨c', _, rfl⟩ := List.mem_map.mp hc
      obtain ⟨d', _, rfl⟩ := List.mem_map.mp hd
      exact cons_lt.mpr (.inl htu)
theorem lt_irr (c : List Int) : ¬ c < c := List.lt_irrefl c
theorem row_nodup {a : List Int} {ops : Int → List Opt} {calm : Bool} (h : ∀ p, AscO (ops p)) (r : Nat) (p : Int) (s : Stt) : (rowF a ops calm r p s).Nodup := (row_asc h r p s).imp fun {x y} hxy e => by rw [e] at hxy; exact lt_irr y hxy
/-- two ascending lists of the same members are one -/
theorem asc_rows : ∀ {xs ys : List (List Int)}, xs.Pairwise (· < ·) → ys.Pairwise (· < ·) → (∀ c, c ∈ xs ↔ c ∈ ys) → xs = ys
  | [], [], _, _, _ => rfl
  | [], y :: ys, _, _, h => absurd ((h y).mpr List.mem_cons_self) (fun z => nomatch z)
  | x :: xs, [], _, _, h => absurd ((h x).mp List.mem_cons_self) (fun z => nomatch z)
  | x :: xs, y :: ys, hx, hy, h => by
    have hx := List.pairwise_cons.mp hx
    have hy := List.pairwise_cons.mp hy
    have as : ∀ {c d : List Int}, c < d → ¬ d < c := fun h1 h2 => lt_irr _ (List.lt_trans h1 h2)
    have e : x = y := by
      rcases List.mem_cons.mp ((h x).mp List.mem_cons_self) with e | e
      · exact e
      · rcases List.mem_cons.mp ((h y).mpr List.mem_cons_self) with e2 | e2
        · exact e2.symm
        · exact absurd (hx.1 y e2) (as (hy.1 x e))
    subst e
    congr 1
    refine asc_rows hx.2 hy.2 fun c => ⟨fun hc => ?_, fun hc => ?_⟩
    · rcases List.mem_cons.mp ((h c).mp (List.mem_cons_of_mem _ hc)) with e | e
      · subst e; exact absurd (hx.1 c hc) (lt_irr c)
      · exact e
    · rcases List.mem_cons.mp ((h c).mpr (List.mem_cons_of_mem _ hc)) with e | e
      · subst e; exact absurd (hy.1 c hc) (lt_irr c)
      · exact e
end DL
namespace DL
open PySem L2
instance (a : List Int) (p : Int) : Decidable (IsT a p) := by unfold IsT; infer_instance
instance (a : List Int) (p : Int) : Decidable (IsD a p) := by unfold IsD; infer_instance
def optA (a : List Int) (p : Int) : List Opt :=
  if IsT a p then (((srtU a).filter fun x => decide (x < nat a p)).map fun x => (x, true)) ++ [(nat a p, false)]
  else if IsD a p then (nat a p, false) :: ((srtU a).filter fun x => decide (nat a p < x)).map fun x => (x, true)
  else [(nat a p, false)]
theorem not_td {a : List Int} {p : Int} (t : IsT a p) (d : IsD a p) : False := by have := t.2.2.1; have := d.2.2.1; omega
theorem optA_mem {a : List Int} {p x : Int} {c : Bool} : (x, c) ∈ optA a p ↔ (c = false ∧ x = nat a p) ∨ (c = true ∧ x ∈ a ∧ ((IsT a p ∧ x < nat a p) ∨ (IsD a p ∧ nat a p < x))) := by
  unfold optA
  by_cases t : IsT a p
  · rw [if_pos t, List.mem_append, List.mem_map, List.mem_singleton]
    constructor
    · rintro (⟨y, hy, e⟩ | e)
      · cases e
        obtain ⟨h1, h2⟩ := List.mem_filter.mp hy
        exact .inr ⟨rfl, mem_srtU.mp h1, .inl ⟨t, of_decide_eq_true h2⟩⟩
      · cases e; exact .inl ⟨rfl, rfl⟩
    · rintro (⟨rfl, rfl⟩ | ⟨rfl, h1, ⟨_, h2⟩ | ⟨d, _⟩⟩)
      · exact .inr rfl
      · exact .inl ⟨x, List.mem_filter.mpr ⟨mem_srtU.mpr h1, decide_eq_true h2⟩, rfl⟩
      · exact (not_td t d).elim
  · rw [if_neg t]
    by_cases d : IsD a p
    · rw [if_pos d, List.mem_cons, List.mem_map]
      constructor
      · rintro (e | ⟨y, hy, e⟩)
        · cases e; exact .inl ⟨rfl, rfl⟩
        · cases e
          obtain ⟨h1, h2⟩ := List.mem_filter.mp hy
          exact .inr ⟨rfl, mem_srtU.mp h1, .inr ⟨d, of_decide_eq_true h2⟩⟩
      · rintro (⟨rfl, rfl⟩ | ⟨rfl, h1, ⟨z, _⟩ | ⟨_, h2⟩⟩)
        · exact .inl rfl
        · exact (t z).elim
        · exact .inr ⟨x, List.mem_filter.mpr ⟨mem_srtU.mpr h1, decide_eq_true h2⟩, rfl⟩
    · rw [if_neg d, List.mem_singleton]
      constructor
      · intro e; cases e; exact .inl ⟨rfl, rfl⟩
      · rintro (⟨rfl, rfl⟩ | ⟨rfl, _, ⟨z, _⟩ | ⟨z, _⟩⟩)
        · rfl
        · exact (t z).elim
        · exact (d z).elim
theorem optA_asc (a : List Int) (p : Int) : AscO (optA a p) := by
  unfold AscO optA
  have s1 : ∀ f : Int → Bool, (((srtU a).filter f).map fun x => ((x, true) : Opt)).Pairwise fun x y => x.1 < y.1 := fun f => by
    rw [List.pairwise_map]
    exact asc_srtU.filter _
  split
  · rw [List.pairwise_append]
    refine ⟨s1 _, List.pairwise_singleton _ _, fun x hx y hy => ?_⟩
    obtain ⟨z, hz, rfl⟩ := List.mem_map.mp hx
    rw [List.mem_singleton.mp hy]
    exact of_decide_eq_true (List.mem_filter.mp hz).2
  · split
    · rw [List.pairwise_cons]
      refine ⟨fun x hx => ?_, s1 _⟩
      obtain ⟨z, hz, rfl⟩ := List.mem_map.mp hx
      exact of_decide_eq_true (p := nat a p < z) (List.mem_filter.mp hz).2
    · exact List.pairwise_singleton _ _
def OptOk (a b : List Int) (k : Nat) : Prop := (nat b k, !decide (nat a k = nat b k)) ∈ optA a k
def stayB (a b : List Int) : Nat → Bool
  | 0 => decide (nat a (0 : Nat) = nat b (0 : Nat))
  | k + 1 => if nat b ((k + 1 : Nat) : Int) = nat b (k : Nat) then stayB a b k || decide (nat a ((k + 1 : Nat) : Int) = nat b ((k + 1 : Nat) : Int)) else decide (nat a ((k + 1 : Nat) : Int) = nat b ((k + 1 : Nat) : Int))
def stAt (a b : List Int) : Nat → Stt
  | 0 => none
  | k + 1 => some ⟨nat b (k : Nat), stayB a b k, 0, false⟩
/-- the step to person k + 1 is fine -/
def PartOk (a b : List Int) (k : Nat) : Prop := nat b (k : Nat) ≠ nat b ((k + 1 : Nat) : Int) → nat a (k : Nat) ≠ nat a ((k + 1 : Nat) : Int) ∧ (nat a (k : Nat) < nat a ((k + 1 : Nat) : Int) ↔ nat b (k : Nat) < nat b ((k + 1 : Nat) : Int)) ∧ stayB a b k = true
def StepOk (a b : List Int) : Nat → Prop
  | 0 => True
  | k + 1 => PartOk a b k
theorem dec_iff {p q : Prop} [Decidable p] [Decidable q] : decide p = decide q ↔ (p ↔ q) := decide_eq_decide
theorem nx_at {a b : List Int} : ∀ (k : Nat), (StepOk a b k → nxN a k (stAt a b k) (nat b k, !decide (nat a k = nat b k)) false = stAt a b (k + 1)) ∧ (¬ StepOk a b k → nxN a k (stAt a b k) (nat b k, !decide (nat a k = nat b k)) false = none)
  | 0 => by
    refine ⟨fun _ => ?_, fun h => absurd True.intro h⟩
    show some (Sta.mk _ _ 0 false) = some (Sta.mk _ _ 0 false)
    unfold stayB
    simp
  | k + 1 => by
    have e : nxN a ((k + 1 : Nat) : Int) (stAt a b (k + 1)) (nat b ((k + 1 : Nat) : Int), !decide (nat a ((k + 1 : Nat) : Int) = nat b ((k + 1 : Nat) : Int))) false = if nat b ((k + 1 : Nat) : Int) = nat b (k : Nat) then some ⟨nat b (k : Nat), stayB a b k || !!decide (nat a ((k + 1 : Nat) : Int) = nat b ((k + 1 : Nat) : Int)), 0, false⟩ else partN a ((k + 1 : Nat) : Int) ⟨nat b (k : Nat), stayB a b k, 0, false⟩ (nat b ((k + 1 : Nat) : Int), !decide (nat a ((k + 1 : Nat) : Int) = nat b ((k + 1 : Nat) : Int))) false := rfl
    rw [e]
    have ek : ((k + 1 : Nat) : Int) - 1 = (k : Nat) := by omega
    by_cases c : nat b ((k + 1 : Nat) : Int) = nat b (k : Nat)
    · rw [if_pos c]
      refine ⟨fun _ => ?_, fun h => absurd (fun z => absurd c.symm z) h⟩
      show some _ = some (Sta.mk (nat b ((k + 1 : Nat) : Int)) (stayB a b (k + 1)) 0 false)
      have s1 : stayB a b (k + 1) = (stayB a b k || decide (nat a ((k + 1 : Nat) : Int) = nat b ((k + 1 : Nat) : Int))) := by
        show (if nat b ((k + 1 : Nat) : Int) = nat b (k : Nat) then _ else _) = _
        rw [if_pos c]
      rw [s1, Bool.not_not, c]
    · rw [if_neg c]
      unfold partN
      dsimp only
      rw [ek]
      refine ⟨fun h => ?_, fun h => ?_⟩
      · obtain ⟨h1, h2, h3⟩ := h fun z => c z.symm
        rw [if_neg (by
          rintro (z | z | z)
          · rw [h3] at z; cases z
          · exact h1 z
          · exact z (dec_iff.mpr h2)), if_neg (by rintro ⟨z, _⟩; cases z)]
        show some _ = some (Sta.mk (nat b ((k + 1 : Nat) : Int)) (stayB a b (k + 1)) 0 false)
        have s1 : stayB a b (k + 1) = decide (nat a ((k + 1 : Nat) : Int) = nat b ((k + 1 : Nat) : Int)) := by
          show (if nat b ((k + 1 : Nat) : Int) = nat b (k : Nat) then _ else _) = _
          rw [if_neg c]
        rw [s1, Bool.not_not]
        rfl
      · rw [if_pos]
        by_cases z1 : stayB a b k = false
        · exact .inl z1
        · by_cases z2 : nat a (k : Nat) = nat a ((k + 1 : Nat) : Int)
          · exact .inr (.inl z2)
          · refine .inr (.inr fun z => h fun _ => ⟨z2, dec_iff.mp z, ?_⟩)
            cases e2 : stayB a b k with
            | true => rfl
            | false => exact absurd e2 z1
theorem opt_flag {a : List Int} {p x : Int} {c : Bool} (h : (x, c) ∈ optA a p) : c = !decide (nat a p = x) := by
  rcases optA_mem.mp h with ⟨rfl, rfl⟩ | ⟨rfl, _, ⟨_, h⟩ | ⟨_, h⟩⟩
  · simp
  · rw [decide_eq_false (by omega)]; rfl
  · rw [decide_eq_false (by omega)]; rfl
theorem drop_at {b : List Int} {k : Nat} (h : k < b.length) : b.drop k = nat b k :: b.drop (k + 1) := by
  rw [List.drop_eq_getElem_cons h]
  congr 1
  unfold nat
  rw [Int.toNat_natCast, List.getElem?_eq_getElem h]; rfl
theorem row_path {a b : List Int} : ∀ (r k : Nat), k + r = b.length → (b.drop k ∈ rowF a (optA a) false r k (stAt a b k) ↔ (∀ p, k ≤ p → p < b.length → OptOk a b p ∧ StepOk a b p) ∧ accB (stAt a b b.length) = true)
  | 0, k, h => by
    have e : k = b.length := by omega
    subst e
    rw [List.drop_length]
    show [] ∈ (if accB (stAt a b b.length) then [[]] else []) ↔ _
    constructor
    · intro hm
      refine ⟨fun p h1 h2 => absurd h1 (by omega), ?_⟩
      by_cases z : accB (stAt a b b.length) = true
      · exact z
      · rw [if_neg z] at hm; cases hm
    · intro ⟨_, z⟩
      rw [if_pos z]; exact List.mem_singleton.mpr rfl
  | r + 1, k, h => by
    have hk : k < b.length := by omega
    have ih := row_path (a := a) (b := b) r (k + 1) (by omega)
    rw [drop_at hk]
    have rs : rowF a (optA a) false (r + 1) k (stAt a b k) = (nxL a (optA a k) k (stAt a b k) false).flatMap fun t => (rowF a (optA a) false r ((k + 1 : Nat) : Int) (some t)).map (t.num :: ·) := rfl
    rw [rs, List.mem_flatMap]
    obtain ⟨n1, n2⟩ := nx_at (a := a) (b := b) k
    constructor
    · rintro ⟨t, ht, hm⟩
      obtain ⟨c, hc, e⟩ := List.mem_map.mp hm
      injection e with e1 e2
      subst e2
      obtain ⟨o, ho, hn⟩ := List.mem_filterMap.mp ht
      have en := nx_num hn
      obtain ⟨x, f⟩ := o
      have ex : x = nat b k := by rw [← e1, en]
      subst ex
      have ef := opt_flag ho
      subst ef
      have so : StepOk a b k := by
        by_cases z : StepOk a b k
        · exact z
        · rw [n2 z] at hn; cases hn
      rw [n1 so] at hn
      rw [← hn] at hc
      obtain ⟨i1, i2⟩ := ih.mp hc
      refine ⟨fun p h1 h2 => ?_, i2⟩
      by_cases e : p = k
      · subst e; exact ⟨ho, so⟩
      · exact i1 p (by omega) h2
    · intro ⟨h1, h2⟩
      obtain ⟨ho, so⟩ := h1 k (Nat.le_refl _) hk
      have hm := ih.mpr ⟨fun p h3 h4 => h1 p (by omega) h4, h2⟩
      exact ⟨⟨nat b (k : Nat), stayB a b k, 0, false⟩, List.mem_filterMap.mpr ⟨_, ho, n1 so⟩, List.mem_map.mpr ⟨_, hm, rfl⟩⟩
/-- somebody of the run up to k stayed -/
theorem stay_iff {a b : List Int} : ∀ (k : Nat), stayB a b k = true ↔ ∃ q : Nat, q ≤ k ∧ nat a (q : Nat) = nat b (q : Nat) ∧ ∀ r : Nat, q ≤ r → r ≤ k → nat b (r : Nat) = nat b (k : Nat)
  | 0 => by
    unfold stayB
    rw [decide_eq_true_eq]
    constructor
    · intro h; exact ⟨0, Nat.le_refl 0, h, fun r h1 h2 => by rw [show r = 0 by omega]⟩
    · rintro ⟨q, h1, h2, _⟩
      rw [show q = 0 by omega] at h2; exact h2
  | k + 1 => by
    have ih := stay_iff (a := a) (b := b) k
    show (if nat b ((k + 1 : Nat) : Int) = nat b (k : Nat) then _ else _) = true ↔ _
    by_cases c : nat b ((k + 1 : Nat) : Int) = nat b (k : Nat)
    · rw [if_pos c, Bool.or_eq_true, decide_eq_true_eq, ih]
      constructor
      · rintro (⟨q, h1, h2, h3⟩ | h)
        · refine ⟨q, by omega, h2, fun r h4 h5 => ?_⟩
          by_cases e : r = k + 1
          · rw [e]
          · rw [c]; exact h3 r h4 (by omega)
        · exact ⟨k + 1, Nat.le_refl _, h, fun r h1 h2 => by rw [show r = k + 1 by omega]⟩
      · rintro ⟨q, h1, h2, h3⟩
        by_cases e : q = k + 1
        · subst e; exact .inr h2
        · refine .inl ⟨q, by omega, h2, fun r h4 h5 => ?_⟩
          rw [h3 r h4 (by omega), c]
    · rw [if_neg c, decide_eq_true_eq]
      constructor
      · intro h; exact ⟨k + 1, Nat.le_refl _, h, fun r h1 h2 => by rw [show r = k + 1 by omega]⟩
      · rintro ⟨q, h1, h2, h3⟩
        by_cases e : q = k + 1
        · subst e; exact h2
        · exact absurd (h3 k (by omega) (by omega)).symm c
theorem nat_mem {a : List Int} {p : Int} (h0 : 0 ≤ p) (h1 : p < a.length) : nat a p ∈ a := by
  unfold nat
  have : p.toNat < a.length := by omega
  rw [List.getElem?_eq_getElem this]
  exact List.getElem_mem this
theorem keep_path {a b : List Int} (hl : b.length = a.length) : Keep a b ↔ (∀ p, 0 ≤ p → p < b.length → OptOk a b p ∧ StepOk a b p) ∧ accB (stAt a b b.length) = true := by
  constructor
  · intro h
    have stay : ∀ k : Nat, k < a.length → (k + 1 = a.length ∨ nat b ((k + 1 : Nat) : Int) ≠ nat b (k : Nat)) → stayB a b k = true := fun k hk hn => by
      obtain ⟨q, q0, q1, qs, qr⟩ := h.run k (by omega) (by omega)
      have hq : q ≤ k := by
        by_cases z : q ≤ k
        · exact z
        · rcases hn with hn | hn
          · omega
          · exact absurd (qr ((k + 1 : Nat) : Int) (by unfold Btw; omega)) hn
      refine (stay_iff k).mpr ⟨q.toNat, by omega, by rw [show ((q.toNat : Nat) : Int) = q by omega]; exact qs, fun r h1 h2 => qr r (by unfold Btw; omega)⟩
    refine ⟨fun p _ hp => ⟨?_, ?_⟩, ?_⟩
    · unfold OptOk
      rw [optA_mem]
      rcases h.chg p (by omega) (by omega) with c | ⟨t, c⟩ | ⟨t, c⟩
      · exact .inl ⟨by rw [decide_eq_true c]; rfl, c.symm⟩
      · obtain ⟨q, q0, q1, qs, qr⟩ := h.run p (by omega) (by omega)
        have hb : nat b p ∈ a := by
          have : nat b q = nat b p := qr q (by unfold Btw; omega)
          rw [← this, ← qs]; exact nat_mem q0 q1
        exact .inr ⟨by rw [decide_eq_false (by omega)]; rfl, hb, .inl ⟨t, c⟩⟩
      · obtain ⟨q, q0, q1, qs, qr⟩ := h.run p (by omega) (by omega)
        have hb : nat b p ∈ a := by
          have : nat b q = nat b p := qr q (by unfold Btw; omega)
          rw [← this, ← qs]; exact nat_mem q0 q1
        exact .inr ⟨by rw [decide_eq_false (by omega)]; rfl, hb, .inr ⟨t, c⟩⟩
    · cases p with
      | zero => exact True.intro
      | succ k =>
        intro hn
        have o := h.ord k (by omega) (by omega)
        rw [show (k : Int) + 1 = ((k + 1 : Nat) : Int) by omega] at o
        exact ⟨by omega, by omega, stay k (by omega) (.inr fun z => hn z.symm)⟩
    · rw [hl]
      cases e : a.length with
      | zero => rfl
      | succ k => exact stay k (by omega) (.inl e.symm)
  · intro ⟨h1, h2⟩
    refine ⟨hl, fun p p0 p1 => ?_, fun p p0 p1 => ?_, fun p p0 p1 => ?_⟩
    · obtain ⟨ho, _⟩ := h1 p.toNat (Nat.zero_le _) (by omega)
      unfold OptOk at ho
      rw [show ((p.toNat : Nat) : Int) = p by omega] at ho
      rcases optA_mem.mp ho with ⟨_, z⟩ | ⟨_, _, z | z⟩
      · exact .inl z.symm
      · exact .inr (.inl z)
      · exact .inr (.inr z)
    · obtain ⟨_, so⟩ := h1 (p.toNat + 1) (Nat.zero_le _) (by omega)
      have so : PartOk a b p.toNat := so
      unfold PartOk at so
      rw [show ((p.toNat + 1 : Nat) : Int) = p + 1 by omega, show ((p.toNat : Nat) : Int) = p by omega] at so
      by_cases e : nat b p = nat b (p + 1)
      · omega
      · have := so e; omega
    · -- the end of the run of p
      have go : ∀ (m k : Nat), k + m + 1 = a.length → ∃ e : Nat, k ≤ e ∧ e < a.length ∧ stayB a b e = true ∧ ∀ r : Nat, k ≤ r → r ≤ e → nat b (r : Nat) = nat b (k : Nat) := by
        intro m
        induction m with
        | zero =>
          intro k hk
          refine ⟨k, Nat.le_refl _, by omega, ?_, fun r h3 h4 => by rw [show r = k by omega]⟩
          rw [hl, show a.length = k + 1 by omega] at h2
          exact h2
        | succ m ih =>
          intro k hk
          by_cases c : nat b (k : Nat) = nat b ((k + 1 : Nat) : Int)
          · obtain ⟨e, h3, h4, h5, h6⟩ := ih (k + 1) (by omega)
            refine ⟨e, by omega, h4, h5, fun r h7 h8 => ?_⟩
            by_cases e2 : r = k
            · rw [e2]
            · rw [h6 r (by omega) h8, c]
          · obtain ⟨_, so⟩ := h1 (k + 1) (Nat.zero_le _) (by omega)
            exact ⟨k, Nat.le_refl _, by omega, (so c).2.2, fun r h3 h4 => by rw [show r = k by omega]⟩
      obtain ⟨e, h3, h4, h5, h6⟩ := go (a.length - 1 - p.toNat) p.toNat (by omega)
      obtain ⟨q, g1, g2, g3⟩ := (stay_iff e).mp h5
      refine ⟨q, by omega, by omega, g2, fun r hr => ?_⟩
      have ep : ((p.toNat : Nat) : Int) = p := by omega
      have he : nat b (e : Nat) = nat b p := by rw [← ep]; exact h6 e h3 (Nat.le_refl _)
      have r0 : 0 ≤ r := by unfold Btw at hr; omega
      have er : ((r.toNat : Nat) : Int) = r := by omega
      rw [← er]
      by_cases c : r.toNat ≤ e ∧ p.toNat ≤ r.toNat
      · rw [h6 r.toNat c.2 c.1, ep]
      · rw [g3 r.toNat (by unfold Btw at hr; omega) (by unfold Btw at hr; omega), he]
theorem row_keep {a b : List Int} : b ∈ rowF a (optA a) false a.length 0 none ↔ Keep a b := by
  constructor
  · intro h
    have hl : b.length = a.length := row_each h
    refine (keep_path hl).mpr ?_
    have := (row_path (a := a) (b := b) a.length 0 (by omega)).mp (by rw [List.drop_zero]; exact h)
    exact this
  · intro h
    have hl := h.len
    have := (row_path (a := a) (b := b) a.length 0 (by omega)).mpr ((keep_path hl).mp h)
    rw [List.drop_zero] at this
    exact this
end DL
namespace DL
open PySem L2
end DL
namespace DL
open PySem L2
open PySem.W (dataLe AllAlike Sortable alike alikeAll dataLt)
end DL
namespace DL
open PySem PySem.Spec PyProof.Rows L2
end DL
namespace DL
open PySem L2
def insS (l : List Stt) (x : Stt) : List Stt := if x ∈ l then l else l ++ [x]
theorem ins_mem {l : List Stt} {x y : Stt} : y ∈ insS l x ↔ y ∈ l ∨ y = x := by
  unfold insS
  split
  · exact ⟨.inl, fun h => h.elim id fun e => by rw [e]; assumption⟩
  · rw [List.mem_append, List.mem_singleton]
section
variable {a : List Int} {ops : Int → List Opt} {calm : Bool}
theorem sub_len {α : Type} [DecidableEq α] : ∀ {l m : List α}, l.Nodup → (∀ x ∈ l, x ∈ m) → l.length ≤ m.length
  | [], m, _, _ => Nat.zero_le _
  | x :: l, m, hn, h => by
    have hn := List.nodup_cons.mp hn
    have hx := h x List.mem_cons_self
    have := sub_len (l := l) (m := m.erase x) hn.2 fun y hy => (List.mem_erase_of_ne (fun e => hn.1 (by rw [← e]; exact hy))).mpr (h y (List.mem_cons_of_mem _ hy))
    rw [List.length_erase_of_mem hx] at this
    have : 0 < m.length := List.length_pos_of_mem hx
    rw [List.length_cons]; omega
end
end DL
namespace DL
open PySem L2
theorem sum_le {ns : List Nat} {m : Nat} (h : ∀ n ∈ ns, n ≤ m) : ns.sum ≤ ns.length * m := by
  induction ns with
  | nil => simp
  | cons n ns ih =>
    have h1 := h n List.mem_cons_self
    have h2 := ih fun x hx => h x (List.mem_cons_of_mem _ hx)
    rw [List.sum_cons, List.length_cons, Nat.succ_mul]; omega
def folR (a : List Int) : List (List Int) := rowF a (optA a) false a.length 0 none
theorem fol_mem {a b : List Int} : b ∈ folR a ↔ Keep a b := row_keep
theorem fol_nodup (a : List Int) : (folR a).Nodup := row_nodup (fun p => optA_asc a p) ..
theorem fol_asc (a : List Int) : (folR a).Pairwise (· < ·) := row_asc (fun p => optA_asc a p) ..
def dst (a b : List Int) : Nat := (cgL a b).length
theorem dst_self (a : List Int) : dst a a = 0 := by
  unfold dst
  rw [(cg_nil rfl).mpr rfl]; rfl
theorem dst_zero {a b : List Int} (h : Keep a b) (hd : dst a b = 0) : b = a := ((cg_nil h.len).mp (List.length_eq_zero_iff.mp hd)).symm
/-- what has been found: all rows of at most i calls; and the layer: those of i calls -/
structure Lay (a : List Int) (i : Nat) (acc lay : List (List Int)) : Prop where
  nd : acc.Nodup
  inn : ∀ b, b ∈ acc ↔ Keep a b ∧ dst a b ≤ i
  last : ∀ b, b ∈ lay ↔ Keep a b ∧ dst a b = i
theorem Lay.start (a : List Int) : Lay a 0 [a] [a] where
  nd := List.pairwise_singleton _ a
  inn := fun b => by
    rw [List.mem_singleton]
    exact ⟨fun h => by rw [h]; exact ⟨Keep.refl a, Nat.le_of_eq (dst_self a)⟩, fun ⟨h1, h2⟩ => dst_zero h1 (by omega)⟩
  last := fun b => by
    rw [List.mem_singleton]
    exact ⟨fun h => by rw [h]; exact ⟨Keep.refl a, dst_self a⟩, fun ⟨h1, h2⟩ => dst_zero h1 h2⟩
theorem Lay.done {a : List Int} {i : Nat} {acc : List (List Int)} (h : Lay a i acc []) : ∀ b, b ∈ acc ↔ Keep a b := by
  have none : ∀ (j : Nat) (b : List Int), Keep a b → dst a b ≠ i + j := by
    intro j
    induction j with
    | zero =>
      intro b hb he
      have := (h.last b).mpr ⟨hb, by omega⟩
      cases this
    | succ j ih =>
      intro b hb he
      obtain ⟨c, p, hc, hd, _, _, _⟩ := hb.back (k := i + j) (by unfold dst at he; omega)
      exact ih c hc hd
  intro b
  rw [h.inn]
  refine ⟨fun z => z.1, fun z => ⟨z, ?_⟩⟩
  by_cases e : dst a b ≤ i
  · exact e
  · exact absurd (show dst a b = i + (dst a b - i) by omega) (none _ b z)
/-- a call of one of the layer -/
theorem Lay.call {a c : List Int} {i : Nat} {acc lay : List (List Int)} {p : Int} (h : Lay a i acc lay) (hc : c ∈ lay) (h0 : 0 < p) (h1 : p + 1 < a.length) (hn : callN c p ∉ acc) : Keep a (callN c p) ∧ dst a (callN c p) = i + 1 := by
  obtain ⟨k, hd⟩ := (h.last c).mp hc
  have k2 := k.call (i := p) (by omega) (by omega)
  refine ⟨k2, ?_⟩
  by_cases e : callN c p = c
  · exact absurd ((h.inn _).mpr ⟨k2, by rw [e]; omega⟩) hn
  · have := (k.more1 (i := p) (by omega) (by omega) e).1
    unfold dst at hd ⊢
    omega
end DL
namespace DL
open PySem L2
def Rest (b : List Int) : Prop := ∀ p : Int, ¬ IsT b p ∧ ¬ IsD b p
end DL
namespace DL
open PySem L2
/-- somebody at p or to the left stayed, and all from there to p are equal -/
def Lft (a b : List Int) (p : Int) : Prop := ∃ q : Int, 0 ≤ q ∧ q ≤ p ∧ nat a q = nat b q ∧ ∀ r : Int, q ≤ r → r ≤ p → nat b r = nat b p
/-- one step to the left within the run -/
theorem Lft.step {a b : List Int} {p : Int} (h : Lft a b p) (hn : nat a p ≠ nat b p) : 0 ≤ p - 1 ∧ nat b (p - 1) = nat b p ∧ Lft a b (p - 1) := by
  obtain ⟨q, q0, q1, qs, qr⟩ := h
  have ne : q ≠ p := fun z => hn (by rw [← z]; exact qs)
  have e := qr (p - 1) (by omega) (by omega)
  exact ⟨by omega, e, q, q0, by omega, qs, fun r h1 h2 => by rw [e]; exact qr r h1 (by omega)⟩
theorem Keep.end0 {a b : List Int} (h : Keep a b) {p : Int} (h0 : 0 ≤ p) (h1 : p < a.length) (he : p = 0 ∨ p + 1 = a.length) : nat a p = nat b p := by
  rcases h.chg p h0 h1 with z | ⟨t, _⟩ | ⟨t, _⟩
  · exact z
  · have := t.1; have := t.2.1; omega
  · have := t.1; have := t.2.1; omega
theorem Keep.right {a b : List Int} (h : Keep a b) {p : Int} (h0 : 0 ≤ p) (h1 : p < a.length) (hl : ¬ Lft a b p) : p + 1 < a.length ∧ nat b (p + 1) = nat b p := by
  obtain ⟨q, q0, q1, qs, qr⟩ := h.run p h0 h1
  have hq : p < q := by
    by_cases z : p < q
    · exact z
    · exact absurd ⟨q, q0, by omega, qs, fun r r1 r2 => qr r (by unfold Btw; omega)⟩ hl
  exact ⟨by omega, qr (p + 1) (by unfold Btw; omega)⟩
end DL
namespace DL
open PySem PySem.Spec PyProof.Rows L2
end DL
namespace DL
open PySem L2
end DL
namespace DL
abbrev OP := Int × Int × Bool × Bool
def lefts (ops : List OP) : List Int := (ops.filter fun x => x.2.2.1).map (·.1)
def rights (ops : List OP) : List Int := (ops.filter fun x => x.2.2.2).map (·.2.1)
def ncL (ops : List OP) : List Int := srtU (lefts ops ++ rights ops)
def wo1 (p : Int) (x : OP) : List OP :=
  if p = x.1 ∧ x.2.2.1 = true then (if x.1 + 1 ≤ x.2.1 then [(x.1 + 1, x.2.1, true, x.2.2.2)] else [])
  else if p = x.2.1 ∧ x.2.2.2 = true then (if x.1 ≤ x.2.1 - 1 then [(x.1, x.2.1 - 1, x.2.2.1, true)] else [])
  else if x.1 ≤ x.2.1 then [x] else []
def woL (ops : List OP) (p : Int) : List OP := ops.flatMap (wo1 p)
theorem wo_off {p : Int} {x : OP} (h : p < x.1 ∨ x.2.1 < p) (hx : x.1 ≤ x.2.1) : wo1 p x = [x] := by
  unfold wo1
  rw [if_neg (by intro z; omega), if_neg (by intro z; omega), if_pos hx]
theorem wo_offs {p : Int} : ∀ {ops : List OP}, (∀ x ∈ ops, (p < x.1 ∨ x.2.1 < p) ∧ x.1 ≤ x.2.1) → woL ops p = ops
  | [], _ => rfl
  | x :: ops, h => by
    unfold woL
    rw [List.flatMap_cons, wo_off (h x List.mem_cons_self).1 (h x List.mem_cons_self).2]
    have ih := wo_offs (p := p) (ops := ops) fun y hy => h y (List.mem_cons_of_mem _ hy)
    unfold woL at ih
    rw [ih]; rfl
theorem wo_app (ops more : List OP) (p : Int) : woL (ops ++ more) p = woL ops p ++ woL more p := List.flatMap_append
def factN : Nat → Nat
  | 0 => 1
  | n + 1 => (n + 1) * factN n
def szO (x : OP) : Nat := (x.2.1 + 1 - x.1).toNat
def totN (ops : List OP) : Nat := (ops.map szO).sum
def pfN : List OP → Nat
  | [] => 1
  | x :: ops => factN (szO x) * pfN ops
theorem totN_cons (x : OP) (ops : List OP) : totN (x :: ops) = szO x + totN ops := List.sum_cons
theorem totN_app (a b : List OP) : totN (a ++ b) = totN a + totN b := by unfold totN; rw [List.map_append, List.sum_append]
structure GdO (ops : List OP) : Prop where
  le : ∀ x ∈ ops, x.1 ≤ x.2.1
  op : ∀ x ∈ ops, x.2.2.1 = true ∨ x.2.2.2 = true
  pw : ops.Pairwise fun x y => x.2.1 < y.1
def stO (x : OP) : List Int := (if x.2.2.1 then [x.1] else []) ++ (if x.2.2.2 && !(x.2.2.1 && decide (x.1 = x.2.1)) then [x.2.1] else [])
theorem stO_mem {x : OP} (hle : x.1 ≤ x.2.1) {p : Int} : p ∈ stO x ↔ (p = x.1 ∧ x.2.2.1 = true) ∨ (p = x.2.1 ∧ x.2.2.2 = true) := by
  obtain ⟨f, l, L, R⟩ := x
  unfold stO
  dsimp only
  cases L <;> cases R <;> simp
  by_cases e : f = l
  · simp [e]
  · simp [e]
theorem stO_asc {x : OP} (hle : x.1 ≤ x.2.1) : (stO x).Pairwise (· < ·) := by
  obtain ⟨f, l, L, R⟩ := x
  unfold stO
  dsimp only at *
  cases L <;> cases R <;> simp
  by_cases e : f = l
  · simp [e]
  · simp [e]; omega
theorem nc_flat {ops : List OP} (h : GdO ops) : ncL ops = ops.flatMap stO := by
  refine asc_unique asc_srtU ?_ fun p => ?_
  · have : ∀ (ops : List OP), (∀ x ∈ ops, x.1 ≤ x.2.1) → ops.Pairwise (fun x y => x.2.1 < y.1) → (ops.flatMap stO).Pairwise (· < ·) := by
      intro ops
      induction ops with
      | nil => intro _ _; exact .nil
      | cons x ops ih =>
        intro h1 h2
        obtain ⟨a1, a2⟩ := List.pairwise_cons.mp h2
        rw [List.flatMap_cons]
        refine List.pairwise_append.mpr ⟨stO_asc (h1 x List.mem_cons_self), ih (fun y hy => h1 y (List.mem_cons_of_mem _ hy)) a2, fun p hp q hq => ?_⟩
        obtain ⟨y, hy, hq⟩ := List.mem_flatMap.mp hq
        have := a1 y hy
        have l1 := h1 x List.mem_cons_self
        have l2 := h1 y (List.mem_cons_of_mem _ hy)
        rcases (stO_mem l1).mp hp with z | z <;> rcases (stO_mem l2).mp hq with w | w <;> omega
    exact this ops h.le h.pw
  · unfold ncL
    rw [mem_srtU, List.mem_append, List.mem_flatMap]
    unfold lefts rights
    rw [List.mem_map, List.mem_map]
    constructor
    · rintro (⟨x, hx, rfl⟩ | ⟨x, hx, rfl⟩)
      · obtain ⟨h1, h2⟩ := List.mem_filter.mp hx
        exact ⟨x, h1, (stO_mem (h.le x h1)).mpr (.inl ⟨rfl, h2⟩)⟩
      · obtain ⟨h1, h2⟩ := List.mem_filter.mp hx
        exact ⟨x, h1, (stO_mem (h.le x h1)).mpr (.inr ⟨rfl, h2⟩)⟩
    · rintro ⟨x, hx, hp⟩
      rcases (stO_mem (h.le x hx)).mp hp with ⟨rfl, z⟩ | ⟨rfl, z⟩
      · exact .inl ⟨x, List.mem_filter.mpr ⟨hx, z⟩, rfl⟩
      · exact .inr ⟨x, List.mem_filter.mpr ⟨hx, z⟩, rfl⟩
/-- one part after a call -/
theorem wo1_one {x : OP} {p : Int} (hle : x.1 ≤ x.2.1) (hp : p ∈ stO x) : totN (wo1 p x) + 1 = szO x ∧ pfN (wo1 p x) * szO x = factN (szO x) ∧ (∀ y ∈ wo1 p x, y.1 ≤ y.2.1 ∧ (y.2.2.1 = true ∨ y.2.2.2 = true) ∧ x.1 ≤ y.1 ∧ y.2.1 ≤ x.2.1) ∧ (wo1 p x).length ≤ 1 := by
  obtain ⟨f, l, L, R⟩ := x
  have key : ∀ (f l f' l' : Int) (c : Prop) [Decidable c] (y : OP), y.1 = f' → y.2.1 = l' → l' - f' + 1 = l - f → (c ↔ f' ≤ l') → f ≤ l → f ≤ f' → l' ≤ l → (y.2.2.1 = true ∨ y.2.2.2 = true) → totN (if c then [y] else []) + 1 = (l + 1 - f).toNat ∧ pfN (if c then [y] else []) * (l + 1 - f).toNat = factN (l + 1 - f).toNat ∧ (∀ z ∈ (if c then [y] else []), z.1 ≤ z.2.1 ∧ (z.2.2.1 = true ∨ z.2.2.2 = true) ∧ f ≤ z.1 ∧ z.2.1 ≤ l) ∧ (if c then [y] else []).length ≤ 1 := by
    intro f l f' l' c _ y e1 e2 e3 hc hle h1 h2 h3
    by_cases d : c
    · rw [if_pos d]
      have hs : szO y + 1 = (l + 1 - f).toNat := by
        unfold szO
        have := hc.mp d
        rw [e1, e2]; omega
      refine ⟨by rw [totN_cons]; show szO y + 0 + 1 = _; omega, ?_, fun z hz => ?_, Nat.le_refl 1⟩
      · show factN (szO y) * 1 * _ = _
        rw [← hs]
        show factN (szO y) * 1 * (szO y + 1) = (szO y + 1) * factN (szO y)
        rw [Nat.mul_one, Nat.mul_comm]
      · rw [List.mem_singleton.mp hz, e1, e2]
        exact ⟨hc.mp d, h3, h1, h2⟩
    · rw [if_neg d]
      have hs : (l + 1 - f).toNat = 1 := by
        have hn : ¬ f' ≤ l' := fun z => d (hc.mpr z)
        omega
      rw [hs]
      exact ⟨rfl, rfl, fun z hz => (nomatch hz), Nat.zero_le _⟩
  unfold wo1 szO
  dsimp only at *
  have hp := (stO_mem (x := (f, l, L, R)) hle).mp hp
  dsimp only at hp
  by_cases c1 : p = f ∧ L = true
  · rw [if_pos c1]
    exact key f l (f + 1) l _ _ rfl rfl (by omega) Iff.rfl hle (by omega) (by omega) (.inl rfl)
  · rw [if_neg c1]
    have c2 : p = l ∧ R = true := by
      rcases hp with z | z
      · exact absurd z c1
      · exact z
    rw [if_pos c2]
    exact key f l f (l - 1) _ _ rfl rfl (by omega) Iff.rfl hle (by omega) (by omega) (.inr rfl)
theorem GdO.split {pre post : List OP} {x : OP} (h : GdO (pre ++ x :: post)) {p : Int} (hp : p ∈ stO x) : woL (pre ++ x :: post) p = pre ++ (wo1 p x ++ post) ∧ GdO (pre ++ (wo1 p x ++ post)) := by
  have hx : x ∈ pre ++ x :: post := by simp
  have hle := h.le x hx
  obtain ⟨_, _, h3, h4⟩ := wo1_one hle hp
  have hpx : x.1 ≤ p ∧ p ≤ x.2.1 := by
    rcases (stO_mem hle).mp hp with z | z <;> omega
  obtain ⟨w1, w2, w3⟩ := List.pairwise_append.mp h.pw
  obtain ⟨w4, w5⟩ := List.pairwise_cons.mp w2
  refine ⟨?_, ⟨fun y hy => ?_, fun y hy => ?_, ?_⟩⟩
  · rw [wo_app, wo_offs (ops := pre) fun y hy => ⟨.inr (by have := w3 y hy x List.mem_cons_self; omega), h.le y (List.mem_append_left _ hy)⟩]
    show pre ++ (wo1 p x ++ woL post p) = _
    rw [wo_offs (ops := post) fun y hy => ⟨.inl (by have := w4 y hy; omega), h.le y (List.mem_append_right _ (List.mem_cons_of_mem _ hy))⟩]
  · rcases List.mem_append.mp hy with z | z
    · exact h.le y (List.mem_append_left _ z)
    · rcases List.mem_append.mp z with z | z
      · exact (h3 y z).1
      · exact h.le y (List.mem_append_right _ (List.mem_cons_of_mem _ z))
  · rcases List.mem_append.mp hy with z | z
    · exact h.op y (List.mem_append_left _ z)
    · rcases List.mem_append.mp z with z | z
      · exact (h3 y z).2.1
      · exact h.op y (List.mem_append_right _ (List.mem_cons_of_mem _ z))
  · refine List.pairwise_append.mpr ⟨w1, List.pairwise_append.mpr ⟨?_, w5, fun y hy z hz => ?_⟩, fun y hy z hz => ?_⟩
    · match e : wo1 p x, h4 with
      | [], _ => exact .nil
      | [y], _ => exact List.pairwise_singleton _ _
    · have := (h3 y hy).2.2.2
      have := w4 z hz
      omega
    · rcases List.mem_append.mp hz with q | q
      · have := (h3 z q).2.2.1
        have := w3 y hy x List.mem_cons_self
        omega
      · exact w3 y hy z (List.mem_cons_of_mem _ q)
theorem GdO.call {ops : List OP} (h : GdO ops) {p : Int} (hp : p ∈ ncL ops) : GdO (woL ops p) ∧ totN (woL ops p) + 1 = totN ops := by
  rw [nc_flat h] at hp
  obtain ⟨x, hx, hq⟩ := List.mem_flatMap.mp hp
  obtain ⟨pre, post, rfl⟩ := List.append_of_mem hx
  obtain ⟨e, g⟩ := h.split hq
  obtain ⟨h1, _⟩ := wo1_one (h.le x hx) hq
  rw [e]
  refine ⟨g, ?_⟩
  rw [totN_app, totN_app, totN_app, totN_cons]
  omega
end DL
namespace DL
open PySem L2
open PySem.W (alike alikeAll dataLt)
end DL
namespace DL
open PySem L2
theorem Keep.trans {a b c : List Int} (h : Keep a b) (k : Keep b c) : Keep a c := by
  obtain ⟨tape, _, t2, t3⟩ := Keep.way _ k rfl
  have := h.more tape fun i hi => by have := t2 i hi; have := h.len; omega
  rw [t3] at this
  exact this
theorem Keep.rest {a b : List Int} (h : Keep a b) (r : Rest a) : b = a := by
  refine (row_eq h.len fun p h0 h1 => ?_).symm
  rcases h.chg p h0 h1 with e | ⟨t, _⟩ | ⟨t, _⟩
  · exact e
  · exact absurd t (r p).1
  · exact absurd t (r p).2
theorem fol_rest {a : List Int} (r : Rest a) : folR a = [a] := asc_rows (fol_asc a) (List.pairwise_singleton _ _) fun c => by
  rw [fol_mem, List.mem_singleton]
  exact ⟨fun h => h.rest r, fun h => by rw [h]; exact Keep.refl a⟩
end DL
namespace DL
open PySem L2
end DL
namespace DL
open PySem L2
end DL
namespace DL
open PySem PySem.Spec PyProof.Rows L2
end DL
namespace DL
open PySem L2
end DL
namespace DL
open PySem L2
theorem nat_map {f : Int → Int} {a : List Int} {p : Int} (h0 : 0 ≤ p) (h1 : p < a.length) : nat (a.map f) p = f (nat a p) := by
  unfold nat
  rw [List.getElem?_map, List.getElem?_eq_getElem (by omega)]; rfl
theorem Keep.num {a b : List Int} (h : Keep a b) {p : Int} (h0 : 0 ≤ p) (h1 : p < a.length) : nat b p ∈ a := by
  obtain ⟨q, q0, q1, qs, qr⟩ := h.run p h0 h1
  have e := qr q (by unfold Btw; omega)
  rw [← e, ← qs]
  exact nat_mem q0 q1
/-- the numbers of a' and b' stand in the order of those of a and b -/
structure Sim (a b a' b' : List Int) : Prop where
  la : a'.length = a.length
  lb : b.length = a.length
  lb' : b'.length = a.length
  aa : ∀ p q : Int, 0 ≤ p → p < a.length → 0 ≤ q → q < a.length → (nat a p < nat a q ↔ nat a' p < nat a' q)
  ab : ∀ p q : Int, 0 ≤ p → p < a.length → 0 ≤ q → q < a.length → (nat a p < nat b q ↔ nat a' p < nat b' q)
  ba : ∀ p q : Int, 0 ≤ p → p < a.length → 0 ≤ q → q < a.length → (nat b p < nat a q ↔ nat b' p < nat a' q)
  bb : ∀ p q : Int, 0 ≤ p → p < a.length → 0 ≤ q → q < a.length → (nat b p < nat b q ↔ nat b' p < nat b' q)
def negL (a : List Int) : List Int := a.map fun x => -x
theorem neg_len (a : List Int) : (negL a).length = a.length := List.length_map _
theorem neg_nat {a : List Int} {p : Int} (h0 : 0 ≤ p) (h1 : p < a.length) : nat (negL a) p = - nat a p := nat_map h0 h1
theorem Keep.neg {a b : List Int} (h : Keep a b) : Keep (negL a) (negL b) := by
  have hl := h.len
  refine ⟨by rw [neg_len, neg_len]; exact hl, fun p p0 p1 => ?_, fun p p0 p1 => ?_, fun p p0 p1 => ?_⟩
  · rw [neg_len] at p1
    rw [neg_nat p0 p1, neg_nat p0 (by omega)]
    rcases h.chg p p0 p1 with e | ⟨⟨t0, t1, t2, t3⟩, e⟩ | ⟨⟨t0, t1, t2, t3⟩, e⟩
    · left; omega
    · right; right
      refine ⟨⟨t0, by rw [neg_len]; exact t1, ?_, ?_⟩, by omega⟩
      · rw [neg_nat p0 p1, neg_nat (by omega) (by omega)]; omega
      · rw [neg_nat p0 p1, neg_nat (by omega) (by omega)]; omega
    · right; left
      refine ⟨⟨t0, by rw [neg_len]; exact t1, ?_, ?_⟩, by omega⟩
      · rw [neg_nat p0 p1, neg_nat (by omega) (by omega)]; omega
      · rw [neg_nat p0 p1, neg_nat (by omega) (by omega)]; omega
  · rw [neg_len] at p1
    rw [neg_nat p0 (by omega), neg_nat (by omega) p1, neg_nat p0 (by omega), neg_nat (by omega) (by omega)]
    have := h.ord p p0 p1
    omega
  · rw [neg_len] at p1
    obtain ⟨q, q0, q1, qs, qr⟩ := h.run p p0 p1
    refine ⟨q, q0, by rw [neg_len]; exact q1, ?_, fun r hr => ?_⟩
    · rw [neg_nat q0 q1, neg_nat q0 (by omega), qs]
    · have r0 : 0 ≤ r ∧ r < a.length := by unfold Btw at hr; omega
      rw [neg_nat r0.1 (by omega), neg_nat p0 (by omega), qr r hr]
end DL
namespace DL
open PySem L2
end DL
namespace DL
open PySem PySem.Spec PyProof.Rows L2
end DL
namespace DL
open PySem L2
/-- least and greatest for each state of l -/
structure Mm (Q : Int → Stt → Prop) (l : List Stt) (g : Stt → Int × Int) : Prop where
  lo : ∀ s ∈ l, Q (g s).1 s
  hi : ∀ s ∈ l, Q (g s).2 s
  inn : ∀ c s, Q c s → s ∈ l
  bnd : ∀ c s, Q c s → (g s).1 ≤ c ∧ c ≤ (g s).2
def updM (l : List Stt) (g : Stt → Int × Int) (x : Stt) (lo hi : Int) : Stt → Int × Int := fun y => if y = x then (min (if x ∈ l then (g x).1 else lo) lo, max (if x ∈ l then (g x).2 else hi) hi) else g y
theorem Mm.nil (g : Stt → Int × Int) : Mm (fun _ _ => False) [] g := ⟨fun _ h => (nomatch h), fun _ h => (nomatch h), fun _ _ h => h.elim, fun _ _ h => h.elim⟩
theorem Mm.put {Q : Int → Stt → Prop} {l : List Stt} {g : Stt → Int × Int} {R : Int → Prop} {x : Stt} {lo hi : Int} (h : Mm Q l g) (h1 : R lo) (h2 : R hi) (h3 : ∀ c, R c → lo ≤ c ∧ c ≤ hi) : Mm (fun c s => Q c s ∨ (s = x ∧ R c)) (insS l x) (updM l g x lo hi) where
  lo := fun s hs => by
    unfold updM
    by_cases e : s = x
    · subst e
      rw [if_pos rfl]
      by_cases m : s ∈ l
      · rw [if_pos m]
        show Q (min (g s).1 lo) s ∨ s = s ∧ R (min (g s).1 lo)
        by_cases c : (g s).1 ≤ lo
        · rw [Int.min_eq_left c]; exact .inl (h.lo s m)
        · rw [Int.min_eq_right (by omega)]; exact .inr ⟨rfl, h1⟩
      · rw [if_neg m]
        show Q (min lo lo) s ∨ s = s ∧ R (min lo lo)
        rw [Int.min_self]; exact .inr ⟨rfl, h1⟩
    · rw [if_neg e]
      exact .inl (h.lo s ((ins_mem.mp hs).resolve_right e))
  hi := fun s hs => by
    unfold updM
    by_cases e : s = x
    · subst e
      rw [if_pos rfl]
      by_cases m : s ∈ l
      · rw [if_pos m]
        show Q (max (if s ∈ l then (g s).2 else hi) hi) s ∨ s = s ∧ R (max (if s ∈ l then (g s).2 else hi) hi)
        rw [if_pos m]
        by_cases c : (g s).2 ≤ hi
        · rw [Int.max_eq_right c]; exact .inr ⟨rfl, h2⟩
        · rw [Int.max_eq_left (by omega)]; exact .inl (h.hi s m)
      · show Q (max (if s ∈ l then (g s).2 else hi) hi) s ∨ s = s ∧ R (max (if s ∈ l then (g s).2 else hi) hi)
        rw [if_neg m, Int.max_self]; exact .inr ⟨rfl, h2⟩
    · rw [if_neg e]
      exact .inl (h.hi s ((ins_mem.mp hs).resolve_right e))
  inn := fun c s q => ins_mem.mpr (q.elim (fun q => .inl (h.inn c s q)) fun q => .inr q.1)
  bnd := fun c s q => by
    unfold updM
    by_cases e : s = x
    · subst e
      rw [if_pos rfl]
      show min (if s ∈ l then (g s).1 else lo) lo ≤ c ∧ c ≤ max (if s ∈ l then (g s).2 else hi) hi
      rcases q with q | ⟨_, q⟩
      · rw [if_pos (h.inn c s q), if_pos (h.inn c s q)]
        have := h.bnd c s q
        omega
      · have := h3 c q
        omega
    · rw [if_neg e]
      exact h.bnd c s (q.resolve_right fun z => e z.1)
end DL
namespace DL
open PySem PySem.Spec PyProof.Rows PyProof.V L2
end DL
namespace DL
open PySem L2
end DL
namespace DL
open PySem PySem.Spec PyProof.Rows L2
open PySem.W (AlikeAll EachIs)
end DL
namespace DL
open PySem L2
open PySem.W (alike alikeAll dataLt minD)
end DL
namespace DL
open PySem PySem.Spec PyProof.Rows L2
end DL
namespace DL
open PySem L2
open PySem.W (alike alikeAll dataLt minD)
end DL
namespace DL
open PySem L2
def sideN (w : Int) (a : List Int) (p : Int) : Int := max (w * nat a (p - 1)) (w * nat a (p + 1))
def endV (w : Int) (a : List Int) (p : Int) : Int := if 0 < p ∧ p + 1 < a.length ∧ sideN w a p < w * nat a p then w * sideN w a p else nat a p
def endN (w : Int) (a : List Int) : List Int := (rngI 0 a.length).map (endV w a)
theorem endN_len (w : Int) (a : List Int) : (endN w a).length = a.length := by unfold endN; rw [List.length_map, rngI_len]
theorem endN_at {w : Int} {a : List Int} {p : Int} (h0 : 0 ≤ p) (h1 : p < a.length) : nat (endN w a) p = endV w a p := by
  unfold endN
  rw [nat_map h0 (by rw [rngI_len]; exact h1)]
  congr 1
  unfold nat rngI
  rw [List.getElem?_map, List.getElem?_range (by omega), Option.map_some]
  simp; omega
theorem end_top {a : List Int} {p : Int} : (IsT a p → endV 1 a p = max (nat a (p - 1)) (nat a (p + 1))) ∧ (¬ IsT a p → endV 1 a p = nat a p) := by
  unfold endV sideN IsT
  constructor
  · intro h
    rw [if_pos (by omega)]; omega
  · intro h
    rw [if_neg (by omega)]
theorem keep_end1 (a : List Int) : Keep a (endN 1 a) := by
  have at1 : ∀ p : Int, 0 ≤ p → p < a.length → (IsT a p ∧ nat (endN 1 a) p = max (nat a (p - 1)) (nat a (p + 1))) ∨ (¬ IsT a p ∧ nat (endN 1 a) p = nat a p) := fun p h0 h1 => by
    rw [endN_at h0 h1]
    by_cases t : IsT a p
    · exact .inl ⟨t, end_top.1 t⟩
    · exact .inr ⟨t, end_top.2 t⟩
  refine ⟨endN_len 1 a, fun p h0 h1 => ?_, fun p h0 h1 => ?_, fun p h0 h1 => ?_⟩
  · rcases at1 p h0 h1 with ⟨t, e⟩ | ⟨t, e⟩
    · have t' := t
      unfold IsT at t'
      exact .inr (.inl ⟨t, by omega⟩)
    · exact .inl e.symm
  · have e1 := at1 p h0 (by omega)
    have e2 := at1 (p + 1) (by omega) (by omega)
    unfold IsT at e1 e2
    rw [show p + 1 - 1 = p by omega] at e2
    omega
  · rcases at1 p h0 h1 with ⟨t, e⟩ | ⟨t, e⟩
    · have t' := t
      unfold IsT at t'
      obtain ⟨t0, t1, t2, t3⟩ := t'
      have n1 := at1 (p - 1) (by omega) (by omega)
      have n2 := at1 (p + 1) (by omega) (by omega)
      unfold IsT at n1 n2
      rw [show p - 1 + 1 = p by omega] at n1
      rw [show p + 1 - 1 = p by omega] at n2
      by_cases c : nat a (p + 1) ≤ nat a (p - 1)
      · refine ⟨p - 1, by omega, by omega, by omega, fun r hr => ?_⟩
        have : r = p ∨ r = p - 1 := by unfold Btw at hr; omega
        rcases this with rfl | rfl
        · rfl
        · omega
      · refine ⟨p + 1, by omega, by omega, by omega, fun r hr => ?_⟩
        have : r = p ∨ r = p + 1 := by unfold Btw at hr; omega
        rcases this with rfl | rfl
        · rfl
        · omega
    · exact ⟨p, h0, h1, e.symm, fun r hr => by rw [show r = p by unfold Btw at hr; omega]⟩
theorem end_le {a b : List Int} (h : Keep a b) {p : Int} (h0 : 0 ≤ p) (h1 : p < a.length) : nat (endN 1 a) p ≤ nat b p := by
  rw [endN_at h0 h1]
  by_cases t : IsT a p
  · rw [end_top.1 t]
    have t' := t
    unfold IsT at t'
    rcases h.chg p h0 h1 with c | c | c
    · omega
    · obtain ⟨_, x1, x2⟩ := h.near_top t c.2 (x := p + 1) (.inl rfl)
      obtain ⟨_, y1, y2⟩ := h.near_top t c.2 (x := p - 1) (.inr rfl)
      omega
    · have := c.1
      unfold IsD at this
      omega
  · rw [end_top.2 t]
    rcases h.chg p h0 h1 with c | c | c
    · omega
    · exact absurd c.1 t
    · omega
theorem nat_cons0 (x : Int) (a : List Int) : nat (x :: a) 0 = x := rfl
theorem nat_consS (x : Int) (a : List Int) {p : Int} (h : 0 ≤ p) : nat (x :: a) (p + 1) = nat a p := by
  unfold nat
  rw [show (p + 1).toNat = p.toNat + 1 by omega]; rfl
theorem pt_lex : ∀ {b c : List Int}, b.length = c.length → (∀ p : Int, 0 ≤ p → p < b.length → nat b p ≤ nat c p) → b = c ∨ b < c
  | [], [], _, _ => .inl rfl
  | [], y :: c, h, _ => by cases h
  | x :: b, [], h, _ => by cases h
  | x :: b, y :: c, h, hp => by
    have h0 := hp 0 (by omega) (by simp)
    rw [nat_cons0, nat_cons0] at h0
    have ih := pt_lex (b := b) (c := c) (by simpa using h) fun p p0 p1 => by
      have := hp (p + 1) (by omega) (by rw [List.length_cons]; omega)
      rw [nat_consS x b p0, nat_consS y c p0] at this
      exact this
    by_cases e : x = y
    · subst e
      rcases ih with z | z
      · rw [z]; exact .inl rfl
      · exact .inr (cons_lt.mpr (.inr ⟨rfl, z⟩))
    · exact .inr (cons_lt.mpr (.inl (by omega)))
theorem end_first (a : List Int) : (folR a)[0]? = some (endN 1 a) := by
  have m := fol_mem.mpr (keep_end1 a)
  obtain ⟨i, hi, e⟩ := List.mem_iff_getElem.mp m
  by_cases z : i = 0
  · subst z
    rw [List.getElem?_eq_getElem hi, e]
  · exfalso
    have pw := List.pairwise_iff_getElem.mp (fol_asc a) 0 i (by omega) hi (by omega)
    rw [e] at pw
    have k := fol_mem.mp (List.getElem_mem (l := folR a) (n := 0) (by omega))
    rcases pt_lex (b := endN 1 a) (c := (folR a)[0]) (by rw [endN_len, k.len]) (fun p p0 p1 => end_le k p0 (by rw [endN_len] at p1; exact p1)) with q | q
    · rw [← q] at pw; exact lt_irr _ pw
    · exact lt_irr _ (List.lt_trans pw q)
end DL
namespace DL
open PySem PySem.Spec PyProof.Rows L2
end DL
namespace DL
open PySem L2
structure Calm (a : List Int) (p : Int) : Prop where
  td : DL.IsT a p ∨ DL.IsD a p
  l : ¬ DL.IsT a (p - 1) ∧ ¬ DL.IsD a (p - 1)
  r : ¬ DL.IsT a (p + 1) ∧ ¬ DL.IsD a (p + 1)
theorem Calm.in' {a : List Int} {p : Int} (c : Calm a p) : 0 < p ∧ p + 1 < a.length := by
  rcases c.td with t | t
  · exact ⟨t.1, t.2.1⟩
  · exact ⟨t.1, t.2.1⟩
theorem stay_if {a b : List Int} {q : Int} (h : Keep a b) (h0 : 0 ≤ q) (h1 : q < a.length) (n : ¬ DL.IsT a q ∧ ¬ DL.IsD a q) : nat b q = nat a q := by
  rcases h.chg q h0 h1 with c | c | c
  · exact c.symm
  · exact absurd c.1 n.1
  · exact absurd c.1 n.2
theorem Calm.nb {a b : List Int} {p : Int} (c : Calm a p) (h : Keep a b) : nat b (p - 1) = nat a (p - 1) ∧ nat b (p + 1) = nat a (p + 1) := by
  have := c.in'
  exact ⟨stay_if h (by omega) (by omega) c.l, stay_if h (by omega) (by omega) c.r⟩
theorem Calm.ne {a : List Int} {p : Int} (c : Calm a p) : midN a p ≠ nat a p := by
  have hin := c.in'
  intro z
  have e := (callN_iff (ns := a) (i := p) (by omega) (by omega)).mpr z
  rcases call_cases (b := a) (i := p) (by omega) (by omega) with h | h | h
  · have em : midN a p = mid3 (nat a (p - 1)) (nat a p) (nat a (p + 1)) := by unfold midN; rw [if_neg (by omega)]
    rcases c.td with t | t
    · have := mid3_top t.2.2.1 t.2.2.2
      have := t.2.2
      omega
    · have := mid3_dip t.2.2.1 t.2.2.2
      have := t.2.2
      omega
  · have := h.1.2.2
    have := h.2
    omega
  · have := h.1.2.2
    have := h.2
    omega
theorem Calm.mid {a b : List Int} {p : Int} (c : Calm a p) (h : Keep a b) (hp : nat b p = nat a p) : midN b p = midN a p := by
  have := c.nb h
  have hl := h.len
  unfold midN
  rw [hp, this.1, this.2, hl]
theorem Calm.two {a b : List Int} {p : Int} (c : Calm a p) (h : Keep a b) : nat b p = nat a p ∨ nat b p = midN a p := by
  have hin := c.in'
  have nb := c.nb h
  by_cases e : nat b p = nat a p
  · exact .inl e
  · right
    obtain ⟨q, q0, q1, qs, qr⟩ := h.run p (by omega) (by omega)
    have side : nat b p = nat b (p - 1) ∨ nat b p = nat b (p + 1) := by
      by_cases lt : q < p
      · exact .inl (qr (p - 1) (by unfold Btw; omega)).symm
      · by_cases eq : q = p
        · subst eq; exact absurd qs.symm e
        · exact .inr (qr (p + 1) (by unfold Btw; omega)).symm
    have cc := call_cases (b := a) (i := p) (by omega) (by omega)
    have ne := c.ne
    have nc : ¬ callN a p = a := fun z => ne ((callN_iff (by omega) (by omega)).mp z)
    rcases h.chg p (by omega) (by omega) with k | k | k
    · exact absurd k.symm e
    · obtain ⟨_, x1, x2⟩ := h.near_top k.1 k.2 (x := p + 1) (.inl rfl)
      obtain ⟨_, y1, y2⟩ := h.near_top k.1 k.2 (x := p - 1) (.inr rfl)
      have kt := k.1.2.2
      rcases cc with z | z | z
      · exact absurd z nc
      · have := z.2; omega
      · have := z.1.2.2; omega
    · obtain ⟨_, x1, x2⟩ := h.near_dip k.1 k.2 (x := p + 1) (.inl rfl)
      obtain ⟨_, y1, y2⟩ := h.near_dip k.1 k.2 (x := p - 1) (.inr rfl)
      have kt := k.1.2.2
      rcases cc with z | z | z
      · exact absurd z nc
      · have := z.1.2.2; omega
      · have := z.2; omega
theorem Calm.call {a b : List Int} {p : Int} (c : Calm a p) : Keep (callN a p) b ↔ Keep a b ∧ nat b p = midN a p := by
  have hin := c.in'
  constructor
  · intro h
    have k := ((Keep.refl a).call (by omega) (by omega : p < a.length)).trans h
    refine ⟨k, ?_⟩
    rcases c.two k with e | e
    · exfalso
      -- p can change no more
      have ln : (callN a p).length = a.length := ((Keep.refl a).call (by omega) (by omega : p < a.length)).len
      have np := nat_call (b := a) (i := p) (p := p) (by omega) (by omega) (by omega)
      rw [if_pos rfl] at np
      have nl := nat_call (b := a) (i := p) (p := p - 1) (by omega) (by omega) (by omega)
      rw [if_neg (by omega)] at nl
      have nr := nat_call (b := a) (i := p) (p := p + 1) (by omega) (by omega) (by omega)
      rw [if_neg (by omega)] at nr
      have ne := c.ne
      have nc : ¬ callN a p = a := fun z => ne ((callN_iff (by omega) (by omega)).mp z)
      have eqn : midN a p = nat a (p - 1) ∨ midN a p = nat a (p + 1) := by
        rcases call_cases (b := a) (i := p) (by omega) (by omega) with z | z | z
        · exact absurd z nc
        · exact z.2.1
        · exact z.2.1
      rcases h.chg p (by omega) (by omega) with z | z | z
      · omega
      · have := z.1.2.2; omega
      · have := z.1.2.2; omega
    · exact e
  · rintro ⟨h, e⟩
    have ne := c.ne
    have nc : ¬ callN a p = a := fun z => ne ((callN_iff (by omega) (by omega)).mp z)
    have cc := call_cases (b := a) (i := p) (by omega) (by omega)
    refine h.step (by omega) (by omega) (fun z => ne (by omega)) e.symm fun x hx => ⟨fun t => ?_, fun t => ?_⟩
    · have t' := t.2.2
      rcases cc with z | z | z
      · exact absurd z nc
      · rcases hx with rfl | rfl <;> omega
      · have := z.1.2.2; omega
    · have t' := t.2.2
      rcases cc with z | z | z
      · exact absurd z nc
      · have := z.1.2.2; omega
      · rcases hx with rfl | rfl <;> omega
theorem Calm.up {a b : List Int} {p : Int} (c : Calm a p) (h : Keep a b) (e : nat b p = midN a p) : Keep a (b.set p.toNat (nat a p)) := by
  have hin := c.in'
  have hl := h.len
  have nb := c.nb h
  have at' : ∀ q : Int, 0 ≤ q → nat (b.set p.toNat (nat a p)) q = if q = p then nat a p else nat b q := fun q q0 => by
    rw [nat_set q0]
    by_cases z : q = p
    · rw [if_pos ⟨by omega, by omega⟩, if_pos z]
    · rw [if_neg (fun y => z (by omega)), if_neg z]
  have chg' : ∀ q : Int, 0 ≤ q → q < a.length → nat a q = nat (b.set p.toNat (nat a p)) q ∨ (DL.IsT a q ∧ nat (b.set p.toNat (nat a p)) q < nat a q) ∨ (DL.IsD a q ∧ nat a q < nat (b.set p.toNat (nat a p)) q) := fun q q0 q1 => by
    rw [at' q q0]
    by_cases z : q = p
    · rw [if_pos z, z]; exact .inl rfl
    · rw [if_neg z]; exact h.chg q q0 q1
  refine ⟨by rw [List.length_set]; exact hl, chg', fun q q0 q1 => ?_, fun q q0 q1 => ?_⟩
  · rw [at' q q0, at' (q + 1) (by omega)]
    by_cases z : q = p
    · subst z
      rw [if_pos rfl, if_neg (by omega), nb.2]
      exact ⟨fun y => by omega, fun y => by omega, fun y => y⟩
    · by_cases z2 : q + 1 = p
      · rw [if_neg z, if_pos z2]
        have : q = p - 1 := by omega
        subst this
        rw [nb.1, show p - 1 + 1 = p by omega]
        exact ⟨fun y => by omega, fun y => by omega, fun y => y⟩
      · rw [if_neg z, if_neg z2]
        exact h.ord q q0 q1
  · by_cases z : q = p
    · subst z
      refine ⟨q, q0, q1, by rw [at' q q0, if_pos rfl], fun r hr => by rw [show r = q by unfold Btw at hr; omega]⟩
    · obtain ⟨t, t0, t1, ts, tr⟩ := h.run q q0 q1
      by_cases near : Btw q t p
      · -- the way there leads by p: the neighbour before p stayed
        by_cases side : q < p
        · refine ⟨p - 1, by omega, by omega, by rw [at' _ (by omega), if_neg (by omega)]; exact nb.1.symm, fun r hr => ?_⟩
          unfold Btw at hr near
          rw [at' r (by omega), if_neg (by omega), at' q q0, if_neg z]
          exact tr r (by unfold Btw; omega)
        · refine ⟨p + 1, by omega, by omega, by rw [at' _ (by omega), if_neg (by omega)]; exact nb.2.symm, fun r hr => ?_⟩
          unfold Btw at hr near
          rw [at' r (by omega), if_neg (by omega), at' q q0, if_neg z]
          exact tr r (by unfold Btw; omega)
      · have tp : t ≠ p := fun y => near (by unfold Btw; omega)
        refine ⟨t, t0, t1, by rw [at' t t0, if_neg tp]; exact ts, fun r hr => ?_⟩
        have rp : r ≠ p := fun y => near (by subst y; exact hr)
        have r0 : 0 ≤ r := by unfold Btw at hr; omega
        rw [at' r r0, if_neg rp, at' q q0, if_neg z]
        exact tr r hr
theorem nodup_map_on {α β : Type} {f : α → β} : ∀ {l : List α}, l.Nodup → (∀ x ∈ l, ∀ y ∈ l, f x = f y → x = y) → (l.map f).Nodup
  | [], _, _ => List.Pairwise.nil
  | x :: l, hn, h => by
    have hn := List.nodup_cons.mp hn
    rw [List.map_cons]
    refine List.nodup_cons.mpr ⟨fun z => ?_, nodup_map_on hn.2 fun y hy w hw => h y (List.mem_cons_of_mem _ hy) w (List.mem_cons_of_mem _ hw)⟩
    obtain ⟨y, hy, e⟩ := List.mem_map.mp z
    exact hn.1 (by rw [h x List.mem_cons_self y (List.mem_cons_of_mem _ hy) e.symm]; exact hy)
theorem Calm.low {a : List Int} {p : Int} (c : Calm a p) : ((folR a).filter fun b => decide (nat b p = midN a p)) = folR (callN a p) := asc_rows ((fol_asc a).filter _) (fol_asc _) fun b => by
  rw [List.mem_filter, decide_eq_true_eq, fol_mem, fol_mem, c.call]
theorem Calm.half {a : List Int} {p : Int} (c : Calm a p) : ((folR a).filter fun b => decide (nat b p = nat a p)).length = (folR (callN a p)).length := by
  have hin := c.in'
  have set_at : ∀ {b : List Int} {v : Int}, b.length = a.length → nat (b.set p.toNat v) p = v := fun {b v} hl => by
    rw [nat_set (by omega), if_pos ⟨by omega, by omega⟩]
  have inj : ∀ {v : Int} {b d : List Int}, b.length = a.length → d.length = a.length → nat b p = nat d p → b.set p.toNat v = d.set p.toNat v → b = d := fun {v b d} hb hd hp e => by
    refine row_eq (by omega) fun q q0 q1 => ?_
    by_cases z : q = p
    · rw [z]; exact hp
    · have this : nat (b.set p.toNat v) q = nat (d.set p.toNat v) q := congrArg (fun l => nat l q) e
      rw [nat_set q0, nat_set q0, if_neg (fun y => z (by omega)), if_neg (fun y => z (by omega))] at this
      exact this
  rw [← c.low]
  refine Nat.le_antisymm ?_ ?_
  · have hs := sub_len (l := ((folR a).filter fun b => decide (nat b p = nat a p)).map fun b => b.set p.toNat (midN a p)) (m := (folR a).filter fun b => decide (nat b p = midN a p)) (nodup_map_on ((fol_nodup a).filter _) fun x hx y hy e => by
      obtain ⟨x1, x2⟩ := List.mem_filter.mp hx
      obtain ⟨y1, y2⟩ := List.mem_filter.mp hy
      have x2 := of_decide_eq_true x2
      have y2 := of_decide_eq_true y2
      exact inj (fol_mem.mp x1).len (fol_mem.mp y1).len (by omega) e) fun b hb => by
      obtain ⟨x, hx, rfl⟩ := List.mem_map.mp hb
      obtain ⟨x1, x2⟩ := List.mem_filter.mp hx
      have x2 := of_decide_eq_true x2
      have k := fol_mem.mp x1
      have ek : x.set p.toNat (midN a p) = callN x p := by
        unfold callN
        rw [c.mid k x2]
      rw [List.mem_filter, decide_eq_true_eq, fol_mem]
      exact ⟨by rw [ek]; exact k.call (by omega) (by omega), set_at k.len⟩
    rw [List.length_map] at hs
    exact hs
  · have hs := sub_len (l := ((folR a).filter fun b => decide (nat b p = midN a p)).map fun b => b.set p.toNat (nat a p)) (m := (folR a).filter fun b => decide (nat b p = nat a p)) (nodup_map_on ((fol_nodup a).filter _) fun x hx y hy e => by
      obtain ⟨x1, x2⟩ := List.mem_filter.mp hx
      obtain ⟨y1, y2⟩ := List.mem_filter.mp hy
      have x2 := of_decide_eq_true x2
      have y2 := of_decide_eq_true y2
      exact inj (fol_mem.mp x1).len (fol_mem.mp y1).len (by omega) e) fun b hb => by
      obtain ⟨x, hx, rfl⟩ := List.mem_map.mp hb
      obtain ⟨x1, x2⟩ := List.mem_filter.mp hx
      have x2 := of_decide_eq_true x2
      have k := fol_mem.mp x1
      rw [List.mem_filter, decide_eq_true_eq, fol_mem]
      exact ⟨c.up k x2, set_at k.len⟩
    rw [List.length_map] at hs
    exact hs
theorem Calm.all {a : List Int} {p : Int} (c : Calm a p) : (folR a).length = 2 * (folR (callN a p)).length := by
  have h1 := c.half
  have h2 := congrArg List.length c.low
  have split : ∀ l : List (List Int), (∀ b ∈ l, nat b p = nat a p ∨ nat b p = midN a p) → l.length = (l.filter fun b => decide (nat b p = nat a p)).length + (l.filter fun b => decide (nat b p = midN a p)).length := fun l => by
    induction l with
    | nil => intro _; rfl
    | cons b l ih =>
      intro h
      have ih := ih fun x hx => h x (List.mem_cons_of_mem _ hx)
      have ne := c.ne
      rcases h b List.mem_cons_self with e | e
      · rw [List.filter_cons_of_pos (by simpa using e), List.filter_cons_of_neg (by simp; omega), List.length_cons, List.length_cons]; omega
      · rw [List.filter_cons_of_neg (by simp; omega), List.filter_cons_of_pos (by simpa using e), List.length_cons, List.length_cons]; omega
  have := split (folR a) fun b hb => c.two (fol_mem.mp hb)
  omega
end DL
namespace DL
open PySem L2
end DL
namespace DL
open PySem L2
end DL
namespace DL
open PySem PySem.Spec PyProof.Rows L2
end DL
namespace DL
open PySem L2
def encI (ks : List (Int × Int)) : List (KK × V × V) := ks.map fun p => (.lf (.num p.1), .int p.1, .int p.2)
def encD (ks : List (Int × Int)) : List (D × D) := ks.map fun p => (.int p.1, .int p.2)
end DL
namespace DL
open PySem L2
abbrev ND := List (D × List (Int × Int))
def ndFind (n : ND) (c : D) : Option (List (Int × Int)) := (n.find? fun p => decide (kkD p.1 = kkD c)).map (·.2)
def ndMap (n : ND) (c : D) (v : List (Int × Int)) : ND := n.map fun p => if kkD p.1 = kkD c then (p.1, v) else p
def ndD (n : ND) : D := dcD (n.map fun p => (p.1, dcD (encD p.2)))
section
variable {K : PySem.W.Frag} {Wx : WX} {b0 : Bx} {B W Z0 Z H : Hp} {σ : L2.St} {ρ : Rho} {p q : Addr} {o o' : HO}
/-- what the frame knows is frozen -/
theorem Ok.freezeF (ok : Ok K b0 W Z0 Z H σ ρ) (zq : Z q = none) (wq : W q = some o) : Ok K b0 (but W q) Z0 (upd Z q o) H σ ρ ∧ Same Z (upd Z q o) := by
  have e : W = upd (but W q) q o := by
    funext r
    by_cases hr : r = q
    · subst hr; rw [upd_same]; exact wq
    · rw [upd_ne hr, but_ne hr]
  rw [e] at ok
  obtain ⟨ok1, z1, a1, h1⟩ := ok.unframe (ok.zz.free zq) but_same
  exact ok1.freeze z1 but_same a1 h1
theorem Ok.weakB (ok : Ok K b0 W Z0 Z H σ ρ) (s : Same B W) : Ok K b0 B Z0 Z H σ ρ := by
  refine ⟨ok.len, s.trans ok.bh, ok.zh, ok.zz, fun r x e => (ok.nb r x e).imp id fun z => s.free z, ok.sh, fun i t e eo => ?_, ok.fix, ok.sepS, ok.fixG, ok.lnk⟩
  obtain ⟨r, x, e1, e2, e3, e4, e5⟩ := ok.own i t e eo
  exact ⟨r, x, e1, e2, s.free e3, e4, e5⟩
inductive NestA (K : PySem.W.Frag) (Z W : Hp) : List (KK × V × V) → List Addr → ND → Prop
  | nil : NestA K Z W [] [] []
  | cons {k : KK} {x : V} {c : D} {q : Addr} {ks : List (Int × Int)} {kvs : List (KK × V × V)} {qs : List Addr} {nd : ND} : kkD c = some k → Rp K Z x c → IsDc W q (encI ks) → NestA K Z W kvs qs nd → NestA K Z W ((k, x, .ref q) :: kvs) (q :: qs) ((c, ks) :: nd)
theorem NestA.mono {Z' W' : Hp} : ∀ {kvs : List (KK × V × V)} {qs : List Addr} {nd : ND}, NestA K Z W kvs qs nd → Same Z Z' → (∀ r ∈ qs, W r = W' r) → NestA K Z' W' kvs qs nd
  | _, _, _, .nil, _, _ => .nil
  | _, _, _, .cons e r w t, s, hw => .cons e (r.mono s) (by
      obtain ⟨dt, w⟩ := w
      exact ⟨dt, by rw [← hw _ (List.mem_cons_self ..)]; exact w⟩) (t.mono s fun r hr => hw r (List.mem_cons_of_mem _ hr))
theorem NestA.len : ∀ {kvs : List (KK × V × V)} {qs : List Addr} {nd : ND}, NestA K Z W kvs qs nd → kvs.length = nd.length
  | _, _, _, .nil => rfl
  | _, _, _, .cons _ _ _ t => by rw [List.length_cons, List.length_cons, t.len]
theorem nd_find_cons (c0 : D) (ks : List (Int × Int)) (nd : ND) (c : D) : ndFind ((c0, ks) :: nd) c = if kkD c0 = kkD c then some ks else ndFind nd c := by
  unfold ndFind
  rw [List.find?_cons]
  by_cases e : kkD c0 = kkD c
  · rw [decide_eq_true e, if_pos e]; rfl
  · rw [decide_eq_false e, if_neg e]
theorem NestA.find {c : D} {k : KK} (hc : kkD c = some k) : ∀ {kvs : List (KK × V × V)} {qs : List Addr} {nd : ND}, NestA K Z W kvs qs nd → (ndFind nd c = none ∧ getK kvs k = none) ∨ ∃ q ks, ndFind nd c = some ks ∧ getK kvs k = some (.ref q) ∧ q ∈ qs ∧ IsDc W q (encI ks)
  | _, _, _, .nil => .inl ⟨rfl, rfl⟩
  | _, _, _, .cons (k := k0) (q := q0) e r w t => by
    rw [nd_find_cons, e, hc]
    by_cases h : k0 = k
    · rw [if_pos (by rw [h]), getK_cons_eq h]
      exact .inr ⟨q0, _, rfl, rfl, List.mem_cons_self .., w⟩
    · rw [if_neg (fun z => h (Option.some.inj z)), getK_cons_ne h]
      rcases t.find hc with ⟨a, b⟩ | ⟨q, ks, a, b, m, d⟩
      · exact .inl ⟨a, b⟩
      · exact .inr ⟨q, ks, a, b, List.mem_cons_of_mem _ m, d⟩
theorem nest_key : ∀ {kvs : List (KK × V × V)} {qs : List Addr} {nd : ND}, NestA K Z W kvs qs nd → ∀ {c : D} {k : KK}, kkD c = some k → k ∉ kvs.map (·.1) → ∀ z ∈ nd, kkD z.1 ≠ kkD c
  | _, _, _, .nil, _, _, _, _ => fun z h => nomatch h
  | _, _, _, .cons e r w t, c, k, hc, hn => fun z h => by
    rw [List.map_cons] at hn
    rcases List.mem_cons.mp h with rfl | h
    · show kkD _ ≠ _
      rw [e, hc]
      intro x
      exact hn (by rw [Option.some.inj x]; exact List.mem_cons_self ..)
    · exact nest_key t hc (fun x => hn (List.mem_cons_of_mem _ x)) z h
theorem nd_map_none {n : ND} {c : D} {v : List (Int × Int)} (h : ∀ z ∈ n, kkD z.1 ≠ kkD c) : ndMap n c v = n := by
  unfold ndMap
  exact (List.map_congr_left fun z hz => if_neg (h z hz)).trans (List.map_id n)
/-- the inner dict at k is written -/
theorem NestA.put {c : D} {k : KK} {v : List (Int × Int)} {o : HO} (hc : kkD c = some k) (ho : o = dcO q (encI v) dt) : ∀ {kvs : List (KK × V × V)} {qs : List Addr} {nd : ND}, NestA K Z W kvs qs nd → qs.Nodup → (kvs.map (·.1)).Nodup → getK kvs k = some (.ref q) → NestA K Z (upd W q o) kvs qs (ndMap nd c v)
  | _, _, _, .nil, _, _, g => by cases g
  | _, _, _, .cons (k := k0) (q := q0) (c := c0) (ks := ks0) (nd := nd0) (qs := qs0) e r w t, nq, nk, g => by
    rw [List.map_cons] at nk
    have nq' := List.nodup_cons.mp nq
    have nk' := List.nodup_cons.mp nk
    by_cases h : k0 = k
    · rw [getK_cons_eq h] at g
      have eq : q0 = q := by
        have := Option.some.inj g
        injection this
      subst eq
      have en : ndMap ((c0, ks0) :: nd0) c v = (c0, v) :: nd0 := by
        show (if kkD c0 = kkD c then (c0, v) else (c0, ks0)) :: ndMap nd0 c v = _
        rw [if_pos (by rw [e, hc, h]), nd_map_none (nest_key t hc (by rw [← h]; exact nk'.1))]
      rw [en]
      exact .cons e r ⟨_, by rw [upd_same, ho]⟩ (t.mono (Same.refl Z) fun r hr => by rw [upd_ne (fun z => nq'.1 (by rw [← z]; exact hr))])
    · rw [getK_cons_ne h] at g
      have en : ndMap ((c0, ks0) :: nd0) c v = (c0, ks0) :: ndMap nd0 c v := by
        show (if kkD c0 = kkD c then (c0, v) else (c0, ks0)) :: ndMap nd0 c v = _
        rw [if_neg (fun z => h (by rw [e, hc] at z; exact Option.some.inj z))]
      rw [en]
      have hq : q ∈ qs0 := by
        rcases t.find hc with ⟨_, b⟩ | ⟨q', ks, _, b, m, _⟩
        · rw [b] at g; cases g
        · rw [b] at g
          have := Option.some.inj g
          injection this with z
          rw [← z]; exact m
      refine .cons e r ?_ (t.put hc ho nq'.2 nk'.2 g)
      obtain ⟨dt, w⟩ := w
      exact ⟨dt, by rw [upd_ne (fun z => nq'.1 (by rw [z]; exact hq))]; exact w⟩
theorem NestA.snoc {k : KK} {x : V} {c : D} {ks : List (Int × Int)} (hc : kkD c = some k) (r : Rp K Z x c) (w : IsDc W q (encI ks)) : ∀ {kvs : List (KK × V × V)} {qs : List Addr} {nd : ND}, NestA K Z W kvs qs nd → NestA K Z W (kvs ++ [(k, x, .ref q)]) (qs ++ [q]) (nd ++ [(c, ks)])
  | _, _, _, .nil => .cons hc r w .nil
  | _, _, _, .cons e r' w' t => .cons e r' w' (t.snoc hc r w)
structure Nest (K : PySem.W.Frag) (Z W B : Hp) (p : Addr) (kvs : List (KK × V × V)) (qs : List Addr) (nd : ND) : Prop where
  out : IsDc W p kvs
  inn : NestA K Z W kvs qs nd
  nk : (kvs.map (·.1)).Nodup
  tp : ∀ y ∈ kvs, ∃ ls, y.1 = .tp ls
  na : (p :: qs).Nodup
  fr : ∀ r ∈ p :: qs, Z r = none ∧ B r = none
theorem rpk_enc : ∀ (ks : List (Int × Int)), RpK K Z (encI ks) (encD ks)
  | [] => .nil
  | p :: ks => .cons rfl (.int _) (.int _) (rpk_enc ks)
theorem nest_fz : ∀ {kvs : List (KK × V × V)} {qs : List Addr} {nd : ND} {Z W : Hp}, Ok K b0 W Z0 Z H σ ρ → Same B W → NestA K Z W kvs qs nd → qs.Nodup → (∀ r ∈ qs, Z r = none ∧ B r = none) →
    ∃ Z' W', Ok K b0 W' Z0 Z' H σ ρ ∧ Same B W' ∧ Same Z Z' ∧ (∀ r, r ∉ qs → W' r = W r ∧ Z' r = Z r) ∧ RpK K Z' kvs (nd.map fun p => (p.1, dcD (encD p.2)))
  | _, _, _, Z, W, ok, sb, .nil, _, _ => ⟨Z, W, ok, sb, Same.refl Z, fun r _ => ⟨rfl, rfl⟩, .nil⟩
  | _, q :: qs, _, Z, W, ok, sb, .cons e r ⟨dt, w⟩ t, nq, fr => by
    have nq' := List.nodup_cons.mp nq
    have f1 := fr q (List.mem_cons_self ..)
    obtain ⟨ok1, s1⟩ := ok.freezeF f1.1 w
    have hne : ∀ r ∈ qs, r ≠ q := fun r hr z => nq'.1 (by rw [← z]; exact hr)
    obtain ⟨Z', W', ok2, sb2, s2, hk, rk⟩ := nest_fz ok1 (fun r x e => by rw [but_ne (ne_of_none e f1.2)]; exact sb r x e) (t.mono s1 fun r hr => by rw [but_ne (hne r hr)]) nq'.2 fun r hr => by
      rw [upd_ne (hne r hr)]
      exact fr r (List.mem_cons_of_mem _ hr)
    refine ⟨Z', W', ok2, sb2, s1.trans s2, fun r hr => ?_, .cons e (r.mono (s1.trans s2)) (.dct (s2 _ _ upd_same) (rpk_enc _)) rk⟩
    have h1 := hk r (fun z => hr (List.mem_cons_of_mem _ z))
    have h2 : r ≠ q := fun z => hr (by rw [z]; exact List.mem_cons_self ..)
    rw [but_ne h2, upd_ne h2] at h1
    exact h1
theorem Nest.freeze {kvs : List (KK × V × V)} {qs : List Addr} {nd : ND} (ok : Ok K b0 W Z0 Z H σ ρ) (sb : Same B W) (n : Nest K Z W B p kvs qs nd) : ∃ Z', Ok K b0 B Z0 Z' H σ ρ ∧ Same Z Z' ∧ Rp K Z' (.ref p) (ndD nd) := by
  have na := List.nodup_cons.mp n.na
  obtain ⟨Z1, W1, ok1, sb1, s1, hk, rk⟩ := nest_fz ok sb n.inn na.2 fun r hr => n.fr r (List.mem_cons_of_mem _ hr)
  obtain ⟨dt, ho⟩ := n.out
  have f1 := n.fr p (List.mem_cons_self ..)
  obtain ⟨h1, h2⟩ := hk p na.1
  obtain ⟨ok2, s2⟩ := ok1.freezeF (q := p) (h2.trans f1.1) (h1.trans ho)
  exact ⟨_, ok2.weakB (fun r x e => by rw [but_ne (ne_of_none e f1.2)]; exact sb1 r x e), s1.trans s2, .dct upd_same (rk.mono s2)⟩
end
abbrev NG := Rho → ND → Option (Rho × ND)
section
variable {K : PySem.W.Frag} {Wx : WX} {f : Nat} {t u : TS} {te : TE} {tt : TT} {b c : NG}
theorem Nest.grow {Z Z' W B Z0 H : Hp} {b0 : Bx} {σ : L2.St} {ρ : Rho} {p : Addr} {kvs : List (KK × V × V)} {qs : List Addr} {nd : ND} (n : Nest K Z W B p kvs qs nd) (s : Same Z Z') (ok : Ok K b0 W Z0 Z' H σ ρ) (zz : Same Z0 Z) : Nest K Z' W B p kvs qs nd := by
  refine ⟨n.out, n.inn.mono s fun _ _ => rfl, n.nk, n.tp, n.na, fun r hr => ⟨?_, (n.fr r hr).2⟩⟩
  have zr := (n.fr r hr).1
  cases e : Z' r with
  | none => rfl
  | some o =>
    rcases ok.nb r o e with z | z
    · rw [zz r o z] at zr; cases zr
    · have : ∃ o, W r = some o := by
        rcases List.mem_cons.mp hr with rfl | hr
        · obtain ⟨dt, w⟩ := n.out
          exact ⟨_, w⟩
        · have go : ∀ {kvs : List (KK × V × V)} {qs : List Addr} {nd : ND}, NestA K Z W kvs qs nd → ∀ r ∈ qs, ∃ o, W r = some o := by
            intro kvs qs nd h
            induction h with
            | nil => intro r h; cases h
            | cons e r w t ih =>
              intro r hr
              rcases List.mem_cons.mp hr with rfl | hr
              · obtain ⟨dt, w⟩ := w
                exact ⟨_, w⟩
              · exact ih r hr
          exact go n.inn r hr
      obtain ⟨o', h'⟩ := this
      rw [h'] at z
      cases z
end
end DL
namespace DL
open PySem L2
theorem NestA.some {K : PySem.W.Frag} {Z W : Hp} : ∀ {kvs : List (KK × V × V)} {qs : List Addr} {nd : ND}, NestA K Z W kvs qs nd → ∀ r ∈ qs, ∃ o, W r = some o
  | _, _, _, .nil, _, h => nomatch h
  | _, _, _, .cons _ _ w t, r, h => by
    rcases List.mem_cons.mp h with rfl | h
    · obtain ⟨dt, w⟩ := w
      exact ⟨_, w⟩
    · exact t.some r h
end DL
namespace DL
open PySem L2
end DL
namespace DL
open PySem L2
end DL
namespace DL
open PySem L2
end DL
namespace DL
open PySem L2
end DL
namespace DL
open PySem L2
end DL
namespace DL
open PySem L2
section
variable {f : Int → Int} {S : List Int}
theorem Sim.symm {a b a' b' : List Int} (s : Sim a b a' b') : Sim a' b' a b := by
  obtain ⟨la, lb, lb', aa, ab, ba, bb⟩ := s
  exact ⟨la.symm, by omega, by omega, fun p q p0 p1 q0 q1 => (aa p q p0 (by omega) q0 (by omega)).symm, fun p q p0 p1 q0 q1 => (ab p q p0 (by omega) q0 (by omega)).symm, fun p q p0 p1 q0 q1 => (ba p q p0 (by omega) q0 (by omega)).symm, fun p q p0 p1 q0 q1 => (bb p q p0 (by omega) q0 (by omega)).symm⟩
end
end DL
namespace DL
open PySem L2
theorem nat_appL {a b : List Int} {p : Int} (h0 : 0 ≤ p) (h1 : p < a.length) : nat (a ++ b) p = nat a p := by
  unfold nat
  rw [List.getElem?_append_left (by omega)]
theorem nat_appR {a b : List Int} {p : Int} (h0 : 0 ≤ p) : nat (a ++ b) ((a.length : Int) + p) = nat b p := by
  unfold nat
  rw [List.getElem?_append_right (by omega), show ((a.length : Int) + p).toNat - a.length = p.toNat by omega]
/-- neither of the two where the rows meet is a top or dip -/
def Still (a b : List Int) : Prop := ∀ p : Int, p = (a.length : Int) - 1 ∨ p = a.length → ¬ IsT (a ++ b) p ∧ ¬ IsD (a ++ b) p
section
variable {a b : List Int}
theorem topL {p : Int} (h0 : 0 ≤ p) (h : p + 1 < a.length) : (IsT (a ++ b) p ↔ IsT a p) ∧ (IsD (a ++ b) p ↔ IsD a p) := by
  have n0 := nat_appL (a := a) (b := b) h0 (by omega)
  have n1 := nat_appL (a := a) (b := b) (p := p + 1) (by omega) h
  have l : (a ++ b).length = a.length + b.length := List.length_append
  constructor
  · constructor
    · rintro ⟨q0, _, q⟩
      rw [n0, n1, nat_appL (p := p - 1) (by omega) (by omega)] at q
      exact ⟨q0, h, q⟩
    · rintro ⟨q0, _, q⟩
      refine ⟨q0, by omega, ?_⟩
      rw [n0, n1, nat_appL (p := p - 1) (by omega) (by omega)]
      exact q
  · constructor
    · rintro ⟨q0, _, q⟩
      rw [n0, n1, nat_appL (p := p - 1) (by omega) (by omega)] at q
      exact ⟨q0, h, q⟩
    · rintro ⟨q0, _, q⟩
      refine ⟨q0, by omega, ?_⟩
      rw [n0, n1, nat_appL (p := p - 1) (by omega) (by omega)]
      exact q
theorem topR {p : Int} (h0 : 0 < p) : (IsT (a ++ b) ((a.length : Int) + p) ↔ IsT b p) ∧ (IsD (a ++ b) ((a.length : Int) + p) ↔ IsD b p) := by
  have n0 := nat_appR (a := a) (b := b) (p := p) (by omega)
  have n1 := nat_appR (a := a) (b := b) (p := p + 1) (by omega)
  have n2 := nat_appR (a := a) (b := b) (p := p - 1) (by omega)
  have l : (a ++ b).length = a.length + b.length := List.length_append
  rw [← Int.add_assoc] at n1
  rw [show (a.length : Int) + (p - 1) = (a.length : Int) + p - 1 by omega] at n2
  constructor
  · constructor
    · rintro ⟨q0, q1, q⟩
      rw [n0, n1, n2] at q
      exact ⟨h0, by omega, q⟩
    · rintro ⟨q0, q1, q⟩
      refine ⟨by omega, by omega, ?_⟩
      rw [n0, n1, n2]
      exact q
  · constructor
    · rintro ⟨q0, q1, q⟩
      rw [n0, n1, n2] at q
      exact ⟨h0, by omega, q⟩
    · rintro ⟨q0, q1, q⟩
      refine ⟨by omega, by omega, ?_⟩
      rw [n0, n1, n2]
      exact q
theorem keep_join {c e : List Int} (hc : c.length = a.length) (he : e.length = b.length) (s : Still a b) : Keep (a ++ b) (c ++ e) ↔ Keep a c ∧ Keep b e := by
  have l : (a ++ b).length = a.length + b.length := List.length_append
  have l2 : (c ++ e).length = a.length + b.length := by rw [List.length_append, hc, he]
  have cR : ∀ {p : Int}, 0 ≤ p → nat (c ++ e) ((a.length : Int) + p) = nat e p := fun {p} h => by
    have := nat_appR (a := c) (b := e) h
    rw [hc] at this
    exact this
  have cL : ∀ {p : Int}, 0 ≤ p → p < a.length → nat (c ++ e) p = nat c p := fun {p} h0 h1 => nat_appL h0 (by omega)
  constructor
  · intro k
    have still : ∀ p : Int, p = (a.length : Int) - 1 ∨ p = a.length → 0 ≤ p → p < (a ++ b).length → nat (a ++ b) p = nat (c ++ e) p := fun p hp h0 h1 => by
      rcases k.chg p h0 h1 with z | z | z
      · exact z
      · exact absurd z.1 (s p hp).1
      · exact absurd z.1 (s p hp).2
    refine ⟨⟨hc, fun p h0 h1 => ?_, fun p h0 h1 => ?_, fun p h0 h1 => ?_⟩, ⟨he, fun p h0 h1 => ?_, fun p h0 h1 => ?_, fun p h0 h1 => ?_⟩⟩
    · rw [← nat_appL (b := b) h0 h1, ← cL h0 h1]
      by_cases h2 : p + 1 < a.length
      · rw [← (topL (b := b) h0 h2).1, ← (topL (b := b) h0 h2).2]
        exact k.chg p h0 (by omega)
      · exact .inl (still p (.inl (by omega)) h0 (by omega))
    · have := k.ord p h0 (by omega)
      rw [nat_appL h0 (by omega), nat_appL (p := p + 1) (by omega) h1, cL h0 (by omega), cL (p := p + 1) (by omega) h1] at this
      exact this
    · obtain ⟨q, q0, q1, qe, qr⟩ := k.run p h0 (by omega)
      by_cases h2 : q < a.length
      · refine ⟨q, q0, h2, ?_, fun r hr => ?_⟩
        · rw [nat_appL q0 h2, cL q0 h2] at qe
          exact qe
        · have := qr r hr
          rw [cL (by unfold Btw at hr; omega) (by unfold Btw at hr; omega), cL h0 h1] at this
          exact this
      · have st := still ((a.length : Int) - 1) (.inl rfl) (by omega) (by omega)
        rw [nat_appL (by omega) (by omega), cL (by omega) (by omega)] at st
        refine ⟨(a.length : Int) - 1, by omega, by omega, st, fun r hr => ?_⟩
        have := qr r (by unfold Btw at hr ⊢; omega)
        rw [cL (by unfold Btw at hr; omega) (by unfold Btw at hr; omega), cL h0 h1] at this
        exact this
    · rw [← nat_appR (a := a) h0, ← cR h0]
      by_cases h2 : 0 < p
      · rw [← (topR (a := a) h2).1, ← (topR (a := a) h2).2]
        exact k.chg _ (by omega) (by omega)
      · have : p = 0 := by omega
        subst this
        exact .inl (still _ (.inr (by omega)) (by omega) (by omega))
    · have := k.ord ((a.length : Int) + p) (by omega) (by omega)
      rw [Int.add_assoc, nat_appR h0, nat_appR (p := p + 1) (by omega), cR h0, cR (p := p + 1) (by omega)] at this
      exact this
    · obtain ⟨q, q0, q1, qe, qr⟩ := k.run ((a.length : Int) + p) (by omega) (by omega)
      by_cases h2 : (a.length : Int) ≤ q
      · obtain ⟨z, rfl⟩ : ∃ z : Int, q = (a.length : Int) + z := ⟨q - a.length, by omega⟩
        refine ⟨z, by omega, by omega, ?_, fun r hr => ?_⟩
        · rw [nat_appR (by omega), cR (by omega)] at qe
          exact qe
        · have := qr ((a.length : Int) + r) (by unfold Btw at hr ⊢; omega)
          rw [cR (by unfold Btw at hr; omega), cR h0] at this
          exact this
      · have st := still a.length (.inr rfl) (by omega) (by omega)
        have z1 := nat_appR (a := a) (b := b) (p := 0) (Int.le_refl 0)
        have z2 := cR (p := 0) (Int.le_refl 0)
        rw [Int.add_zero] at z1 z2
        rw [z1, z2] at st
        refine ⟨0, Int.le_refl 0, by omega, st, fun r hr => ?_⟩
        have := qr ((a.length : Int) + r) (by unfold Btw at hr ⊢; omega)
        rw [cR (by unfold Btw at hr; omega), cR h0] at this
        exact this
  · rintro ⟨k, m⟩
    refine ⟨by rw [l, l2], fun p h0 h1 => ?_, fun p h0 h1 => ?_, fun p h0 h1 => ?_⟩
    · rw [l] at h1
      by_cases h2 : p < a.length
      · rw [nat_appL h0 h2, cL h0 h2]
        rcases k.chg p h0 h2 with z | z | z
        · exact .inl z
        · exact .inr (.inl ⟨(topL h0 z.1.2.1).1.mpr z.1, z.2⟩)
        · exact .inr (.inr ⟨(topL h0 z.1.2.1).2.mpr z.1, z.2⟩)
      · obtain ⟨z, rfl⟩ : ∃ z : Int, p = (a.length : Int) + z := ⟨p - a.length, by omega⟩
        rw [nat_appR (by omega), cR (by omega)]
        rcases m.chg z (by omega) (by omega) with y | y | y
        · exact .inl y
        · exact .inr (.inl ⟨(topR y.1.1).1.mpr y.1, y.2⟩)
        · exact .inr (.inr ⟨(topR y.1.1).2.mpr y.1, y.2⟩)
    · rw [l] at h1
      by_cases h2 : p + 1 < a.length
      · rw [nat_appL h0 (by omega), nat_appL (p := p + 1) (by omega) h2, cL h0 (by omega), cL (p := p + 1) (by omega) h2]
        exact k.ord p h0 h2
      · by_cases h3 : p < a.length
        · have e1 := k.end0 (p := p) h0 h3 (.inr (by omega))
          have e2 := m.end0 (p := 0) (Int.le_refl 0) (by omega) (.inl rfl)
          have z1 := nat_appR (a := a) (b := b) (p := 0) (Int.le_refl 0)
          have z2 := cR (p := 0) (Int.le_refl 0)
          rw [show (a.length : Int) + 0 = p + 1 by omega] at z1 z2
          rw [z1, z2, nat_appL h0 h3, cL h0 h3, ← e1, ← e2]
          exact ⟨fun h => by omega, fun h => by omega, fun h => h⟩
        · obtain ⟨z, rfl⟩ : ∃ z : Int, p = (a.length : Int) + z := ⟨p - a.length, by omega⟩
          rw [Int.add_assoc, nat_appR (by omega), nat_appR (p := z + 1) (by omega), cR (by omega), cR (p := z + 1) (by omega)]
          exact m.ord z (by omega) (by omega)
    · rw [l] at h1
      by_cases h2 : p < a.length
      · obtain ⟨q, q0, q1, qe, qr⟩ := k.run p h0 h2
        refine ⟨q, q0, by omega, by rw [nat_appL q0 q1, cL q0 q1]; exact qe, fun r hr => ?_⟩
        rw [cL (by unfold Btw at hr; omega) (by unfold Btw at hr; omega), cL h0 h2]
        exact qr r hr
      · obtain ⟨z, rfl⟩ : ∃ z : Int, p = (a.length : Int) + z := ⟨p - a.length, by omega⟩
        obtain ⟨q, q0, q1, qe, qr⟩ := m.run z (by omega) (by omega)
        refine ⟨(a.length : Int) + q, by omega, by omega, by rw [nat_appR q0, cR q0]; exact qe, fun r hr => ?_⟩
        obtain ⟨y, rfl⟩ : ∃ y : Int, r = (a.length : Int) + y := ⟨r - a.length, by omega⟩
        rw [cR (by unfold Btw at hr; omega), cR (by omega)]
        exact qr y (by unfold Btw at hr ⊢; omega)
end
end DL
namespace DL
open PySem L2
theorem app_ltL : ∀ {c d x y : List Int}, c.length = d.length → c < d → c ++ x < d ++ y
  | [], [], _, _, _, h => absurd h (List.not_lt_nil _)
  | [], _ :: _, _, _, hl, _ => by rw [List.length_cons] at hl; exact absurd hl (by simp)
  | _ :: _, [], _, _, hl, _ => by rw [List.length_cons] at hl; exact absurd hl (by simp)
  | u :: c, v :: d, x, y, hl, h => by
    rw [List.length_cons, List.length_cons] at hl
    rw [List.cons_append, List.cons_append, List.cons_lt_cons_iff]
    rcases List.cons_lt_cons_iff.mp h with h | ⟨e, h⟩
    · exact .inl h
    · exact .inr ⟨e, app_ltL (by omega) h⟩
theorem app_ltR {x y : List Int} (h : x < y) : ∀ c : List Int, c ++ x < c ++ y
  | [] => h
  | u :: c => by
    rw [List.cons_append, List.cons_append, List.cons_lt_cons_iff]
    exact .inr ⟨rfl, app_ltR h c⟩
theorem fol_join {a b : List Int} (s : Still a b) : folR (a ++ b) = (folR a).flatMap fun c => (folR b).map (c ++ ·) := by
  refine asc_rows (fol_asc _) ?_ fun d => ?_
  · rw [List.pairwise_flatMap]
    refine ⟨fun c _ => ?_, ?_⟩
    · rw [List.pairwise_map]
      exact (fol_asc b).imp fun h => app_ltR h c
    · have : (folR a).Pairwise fun c d => (c ∈ folR a ∧ d ∈ folR a) ∧ c < d := by
        have h := fol_asc a
        rw [List.pairwise_iff_getElem] at h ⊢
        exact fun i j hi hj hij => ⟨⟨List.getElem_mem hi, List.getElem_mem hj⟩, h i j hi hj hij⟩
      refine this.imp fun {c d} h x hx y hy => ?_
      obtain ⟨u, _, rfl⟩ := List.mem_map.mp hx
      obtain ⟨v, _, rfl⟩ := List.mem_map.mp hy
      exact app_ltL (by rw [(fol_mem.mp h.1.1).len, (fol_mem.mp h.1.2).len]) h.2
  · rw [fol_mem, List.mem_flatMap]
    constructor
    · intro k
      have hl := k.len
      rw [List.length_append] at hl
      have e : d.take a.length ++ d.drop a.length = d := List.take_append_drop _ _
      rw [← e] at k
      obtain ⟨k1, k2⟩ := (keep_join (by rw [List.length_take]; omega) (by rw [List.length_drop]; omega) s).mp k
      exact ⟨_, fol_mem.mpr k1, List.mem_map.mpr ⟨_, fol_mem.mpr k2, e⟩⟩
    · rintro ⟨c, hc, hd⟩
      obtain ⟨u, hu, rfl⟩ := List.mem_map.mp hd
      have k1 := fol_mem.mp hc
      have k2 := fol_mem.mp hu
      exact (keep_join k1.len k2.len s).mpr ⟨k1, k2⟩
theorem fol_one (x : Int) : folR [x] = [[x]] := fol_rest fun p => ⟨fun t => by have := t.1; have := t.2.1; rw [List.length_singleton] at *; omega, fun t => by have := t.1; have := t.2.1; rw [List.length_singleton] at *; omega⟩
theorem fol_snoc {a : List Int} {x : Int} (s : Still a [x]) : folR (a ++ [x]) = (folR a).map (· ++ [x]) := by
  rw [fol_join s, fol_one, List.flatMap_def]
  have : ((folR a).map fun c => [[x]].map (c ++ ·)) = (folR a).map fun c => [c ++ [x]] := List.map_congr_left fun c _ => rfl
  rw [this]
  induction folR a with
  | nil => rfl
  | cons c l ih => rw [List.map_cons, List.flatten_cons, ih]; rfl
end DL
namespace DL
open PySem L2
end DL
namespace DL
open PySem L2
end DL
namespace DL
open PySem L2
theorem still_same {a b : List Int} (h : a ≠ [] → b ≠ [] → nat a ((a.length : Int) - 1) = nat b 0) : Still a b := fun p hp => by
  have l : (a ++ b).length = a.length + b.length := List.length_append
  by_cases ha : a = []
  · have : a.length = 0 := by rw [ha]; rfl
    exact ⟨fun t => by have := t.1; omega, fun t => by have := t.1; omega⟩
  · by_cases hb : b = []
    · have : b.length = 0 := by rw [hb]; rfl
      exact ⟨fun t => by have := t.2.1; omega, fun t => by have := t.2.1; omega⟩
    · have pa := List.length_pos_iff.mpr ha
      have pb := List.length_pos_iff.mpr hb
      have e := h ha hb
      have v1 : nat (a ++ b) ((a.length : Int) - 1) = nat b 0 := by rw [nat_appL (by omega) (by omega), e]
      have v2 : nat (a ++ b) (a.length : Int) = nat b 0 := by
        have := nat_appR (a := a) (b := b) (p := 0) (by omega)
        rw [Int.add_zero] at this
        exact this
      rcases hp with rfl | rfl
      · refine ⟨fun t => ?_, fun t => ?_⟩ <;>
        · have := t.2.2.2
          rw [show (a.length : Int) - 1 + 1 = a.length by omega, v1, v2] at this
          omega
      · refine ⟨fun t => ?_, fun t => ?_⟩ <;>
        · have := t.2.2.1
          rw [v1, v2] at this
          omega
theorem filt_map {α β : Type} {f : α → β} {p : β → Bool} {q : α → Bool} : ∀ {l : List α}, (∀ x ∈ l, p (f x) = q x) → (l.map f).filter p = (l.filter q).map f
  | [], _ => rfl
  | x :: l, h => by
    have ih := filt_map (l := l) fun y hy => h y (List.mem_cons_of_mem _ hy)
    have e := h x (List.mem_cons_self ..)
    rw [List.map_cons, List.filter_cons, List.filter_cons, e, ih]
    split <;> rfl
def vl : List Int → (Nat → Int) → Int
  | [], _ => 0
  | x :: F, φ => x * φ 0 + vl F fun k => φ (k + 1)
end DL
namespace DL
open PySem L2
open PySem.W (dataLe AllAlike Sortable alike alikeAll dataLt)
end DL
namespace DL
open PySem PySem.Spec PyProof PyProof.Rows L2
section
variable {X : Cx} {K : PySem.W.Frag}
def itemsQ : D → Option (List D)
  | .list xs => some xs
  | .tuple xs => some xs
  | _ => none
def anyB (d c : D) : Option Bool := match itemsQ c with
  | some xs => if SeqAt.shaped d = true ∧ SeqAt.shaped c = true then some (xs.any fun y => PyData.eqv y d) else none
  | none => none
def rInX (K : PySem.W.Frag) (neg : Bool) : R2 := fun x y H Q => ∃ d c k, Dp K H x d ∧ Dp K H y c ∧ anyB d c = some k ∧ Q (.bl (if neg then !k else k)) H
theorem op_inX {k : Nat} (hr : Room k X.A) : OpR X (compareOp .In) (rInX X.K false) := by
  intro pins s σ H x y v u Q I rx ry h
  obtain ⟨d, c, k, hd, hc, e, q⟩ := h
  obtain ⟨as, r1⟩ := Dp.reads I d x v hd rx
  obtain ⟨bs, r2⟩ := Dp.reads I c y u hc ry
  have hu : X.A.units + 65 < cLine := by have := hr.un; omega
  unfold anyB at e
  cases c with
  | list xs =>
    simp only [itemsQ] at e
    split at e
    · rename_i hh
      cases e
      exact PySem.SeqAt.in_list_reads r2 r1 (PySem.SeqAt.canLay_of_shaped hh.2) (PySem.SeqAt.canLay_of_shaped hh.1) (room_in_shaped hh.1 hu) ⟨.bl _, H, I, rfl, q⟩
    · cases e
  | tuple xs =>
    simp only [itemsQ] at e
    split at e
    · rename_i hh
      cases e
      exact PySem.SeqAt.in_tuple_reads r2 r1 (PySem.SeqAt.canLay_of_shaped hh.2) (PySem.SeqAt.canLay_of_shaped hh.1) (room_in_shaped hh.1 hu) ⟨.bl _, H, I, rfl, q⟩
    · cases e
  | _ => cases e
def inX (d c : D) : Option D := (anyB d c).map fun k => .bool k
theorem any_shaped {d c : D} {k : Bool} (h : anyB d c = some k) : SeqAt.shaped d = true ∧ SeqAt.shaped c = true := by
  unfold anyB at h
  split at h
  · split at h
    · rename_i hh; exact hh
    · cases h
  · cases h
theorem sn_inX : Sn2 K (rInX K false) inX := fun b0 B Z0 Z H σ ρ x y a b c Q ok ha hb e q => by
  unfold inX at e
  obtain ⟨k, ek, rfl⟩ := Option.map_eq_some_iff.mp e
  obtain ⟨s1, s2⟩ := any_shaped ek
  exact ⟨a, b, k, (bd_rp ok.zh ha).dp (shaped_noD s1), (bd_rp ok.zh hb).dp (shaped_noD s2), ek, q _ H Z ok (Same.refl Z) (.bl _)⟩
end
end DL
namespace DL
open PySem L2
end DL
namespace DL
open PySem L2
/-- c, its end x again, e's end y ahead of e -/
def wdR (x y : Int) (c e : List Int) : List Int := c ++ [x] ++ [y] ++ e
theorem prod_filter {α β γ : Type} {f : α → β → γ} {P : γ → Bool} {P1 : α → Bool} {P2 : β → Bool} {m : List β} : ∀ {l : List α}, (∀ c ∈ l, ∀ e ∈ m, P (f c e) = (P1 c && P2 e)) → ((l.flatMap fun c => m.map (f c)).filter P).length = (l.filter P1).length * (m.filter P2).length
  | [], _ => by simp
  | c :: l, h => by
    have ih := prod_filter (l := l) fun c' hc => h c' (List.mem_cons_of_mem _ hc)
    rw [List.flatMap_cons, List.filter_append, List.length_append, ih, List.filter_cons]
    have e1 : ((m.map (f c)).filter P).length = if P1 c = true then (m.filter P2).length else 0 := by
      rw [filt_map (q := fun e => P1 c && P2 e) fun e he => h c (List.mem_cons_self ..) e he, List.length_map]
      cases P1 c with
      | true => simp
      | false => simp
    rw [e1]
    cases P1 c with
    | true => simp only [if_true, List.length_cons, Nat.succ_mul]; omega
    | false => simp
section
variable {a b c e : List Int} {x y : Int}
theorem wd_lo {p : Int} (h0 : 0 ≤ p) (h1 : p < c.length) : nat (wdR x y c e) p = nat c p := by
  unfold wdR
  rw [List.append_assoc, List.append_assoc]
  exact nat_appL h0 h1
theorem wd_hi {q : Int} (h0 : 0 ≤ q) : nat (wdR x y c e) ((c.length : Int) + 2 + q) = nat e q := by
  have := nat_appR (a := c ++ [x] ++ [y]) (b := e) (p := q) h0
  rw [show ((c ++ [x] ++ [y]).length : Int) = (c.length : Int) + 2 by simp only [List.length_append, List.length_cons, List.length_nil]; omega] at this
  exact this
theorem wd_x : nat (wdR x y c e) (c.length : Int) = x := by
  have := nat_appR (a := c) (b := [x] ++ ([y] ++ e)) (p := 0) (by omega)
  unfold wdR
  rw [List.append_assoc, List.append_assoc]
  rw [Int.add_zero] at this
  rw [this]; rfl
theorem wd_y : nat (wdR x y c e) ((c.length : Int) + 1) = y := by
  have := nat_appR (a := c) (b := [x] ++ ([y] ++ e)) (p := 1) (by omega)
  unfold wdR
  rw [List.append_assoc, List.append_assoc, this]; rfl
end
/-- the ends are those of the rows -/
structure Ends2 (a b : List Int) (x y : Int) : Prop where
  ha : 0 < a.length
  hb : 0 < b.length
  hx : x = nat a ((a.length : Int) - 1)
  hy : y = nat b 0
section
variable {a b c e : List Int} {x y : Int}
theorem Ends2.sL (h : Ends2 a b x y) : Still a [x] := still_same fun _ _ => by rw [h.hx]; rfl
theorem Ends2.sR (h : Ends2 a b x y) : Still [y] b := still_same fun _ _ => by
  have : nat [y] (([y].length : Int) - 1) = y := rfl
  rw [this, h.hy]
theorem Ends2.sM (h : Ends2 a b x y) : Still (a ++ [x]) ([y] ++ b) := fun p hp => by
  have ha := h.ha
  have hb := h.hb
  have l1 : (a ++ [x]).length = a.length + 1 := by rw [List.length_append]; rfl
  have ew : a ++ [x] ++ ([y] ++ b) = wdR x y a b := by unfold wdR; rw [List.append_assoc (a ++ [x])]
  have v1 : nat (wdR x y a b) ((a.length : Int) - 1) = x := by rw [wd_lo (by omega) (by omega), h.hx]
  have v2 : nat (wdR x y a b) (a.length : Int) = x := wd_x
  have v3 : nat (wdR x y a b) ((a.length : Int) + 1) = y := wd_y
  have v4 : nat (wdR x y a b) ((a.length : Int) + 2) = y := by
    have := wd_hi (x := x) (y := y) (c := a) (e := b) (q := 0) (by omega)
    rw [Int.add_zero] at this
    rw [this, h.hy]
  rw [ew]
  rw [l1] at hp
  rcases hp with rfl | rfl
  · refine ⟨fun t => ?_, fun t => ?_⟩ <;>
    · have := t.2.2.1
      rw [show ((a.length + 1 : Nat) : Int) - 1 - 1 = (a.length : Int) - 1 by omega, show ((a.length + 1 : Nat) : Int) - 1 = (a.length : Int) by omega, v1, v2] at this
      omega
  · refine ⟨fun t => ?_, fun t => ?_⟩ <;>
    · have := t.2.2.2
      rw [show ((a.length + 1 : Nat) : Int) + 1 = (a.length : Int) + 2 by omega, show ((a.length + 1 : Nat) : Int) = (a.length : Int) + 1 by omega, v3, v4] at this
      omega
theorem Ends2.keep (h : Ends2 a b x y) (hc : c.length = a.length) (he : e.length = b.length) : Keep (wdR x y a b) (wdR x y c e) ↔ Keep a c ∧ Keep b e := by
  have e1 : ∀ c e : List Int, wdR x y c e = (c ++ [x]) ++ ([y] ++ e) := fun c e => by unfold wdR; rw [List.append_assoc (c ++ [x])]
  rw [e1, e1, keep_join (by simp only [List.length_append, hc]) (by simp only [List.length_append, he]) h.sM, keep_join hc rfl h.sL, keep_join rfl he h.sR]
  constructor
  · rintro ⟨⟨k1, _⟩, _, k2⟩
    exact ⟨k1, k2⟩
  · rintro ⟨k1, k2⟩
    exact ⟨⟨k1, Keep.refl _⟩, Keep.refl _, k2⟩
theorem Ends2.fol (h : Ends2 a b x y) : folR (wdR x y a b) = (folR a).flatMap fun c => (folR b).map (wdR x y c) := by
  have e1 : wdR x y a b = (a ++ [x]) ++ ([y] ++ b) := by unfold wdR; rw [List.append_assoc (a ++ [x])]
  have f2 : folR ([y] ++ b) = (folR b).map ([y] ++ ·) := by
    rw [fol_join h.sR, fol_one]
    simp
  rw [e1, fol_join h.sM, fol_snoc h.sL, f2, List.flatMap_map]
  congr 1
  funext c
  rw [List.map_map]
  refine List.map_congr_left fun e _ => ?_
  show c ++ [x] ++ ([y] ++ e) = wdR x y c e
  unfold wdR
  rw [List.append_assoc (c ++ [x])]
theorem Ends2.len (h : Ends2 a b x y) : (folR (wdR x y a b)).length = (folR a).length * (folR b).length := by
  have := prod_filter (f := wdR x y) (P := fun _ => true) (P1 := fun _ => true) (P2 := fun _ => true) (l := folR a) (m := folR b) fun _ _ _ _ => rfl
  rw [List.filter_eq_self.mpr fun _ _ => rfl, List.filter_eq_self.mpr fun _ _ => rfl, List.filter_eq_self.mpr fun _ _ => rfl] at this
  rw [h.fol]; exact this
end
end DL
namespace DL
open PySem L2
end DL
namespace DL
open PySem PySem.Spec PyProof.Rows L2
end DL
namespace DL
open PySem PySem.Spec PyProof PyProof.Rows L2
end DL
namespace DL
open PySem PySem.Spec PyProof PyProof.Rows L2
open PySem.W (dataLe AllAlike EachIs dataLt)
end DL
namespace DL
open PySem PySem.Spec PyProof PyProof.Rows L2
section
variable {X : Cx} {K : PySem.W.Frag} {ta tb : TE}
def eOrF (a b : GF) (ρ : Rho) : R (List D) := (a ρ).bind fun xs ρ1 => match xs with
  | [] => b ρ1
  | x :: xs => .ok (x :: xs) ρ1
theorem df_or {a b : GF} (ha : DF K ta a) (hb : DF K tb b) : DF K (tOrT K ta tb) (eOrF a b) := fun b0 B Z0 Z H σ ρ ds ρ' Q ok e q => by
  obtain ⟨xs, ρ1, e1, e2⟩ := R.bind_ok e
  refine ha b0 B Z0 Z H σ ρ xs ρ1 _ ok e1 fun p vs H1 Z1 ok1 s1 zp bp ap hp ra => ?_
  cases ra with
  | nil =>
    refine ⟨false, .inl ⟨[], .inl (.inl hp), rfl⟩, hb b0 B Z0 Z1 H1 σ ρ1 ds ρ' Q ok1 e2 fun p vs H2 Z2 ok2 s2 => q p vs H2 Z2 ok2 (s1.trans s2)⟩
  | cons h r =>
    cases e2
    exact ⟨true, .inl ⟨_, .inl (.inl hp), rfl⟩, q p _ H1 Z1 ok1 s1 zp bp ap hp (.cons h r)⟩
end
end DL
namespace DL
open PySem PySem.Calls PySem.Spec PyProof PyProof.Rows PyProof.V L2
open PySem.W (EachIs KdlSrc)
end DL
namespace DL
open PySem PySem.Spec PyProof.Rows L2
end DL
namespace DL
open PySem PySem.Spec PyProof PyProof.Rows L2
section
variable {X : Cx} {K : PySem.W.Frag} {ta tb te to : TE}
def sliceS (d : D) (lo hi : Option Int) : Option D := match d with
  | .str z => if z.length ≤ sizeLine then some (.str (cutS z lo hi)) else none
  | _ => none
theorem sn_sliceS : SnSl K rSlS sliceS := fun b0 B Z0 Z H σ ρ x a lo hi c Q ok ha e q => by
  unfold sliceS at e
  split at e
  · split at e
    · rename_i hz
      cases e
      cases ha
      exact ⟨_, rfl, hz, q _ H Z ok (Same.refl Z) (.str _)⟩
    · cases e
  · cases e
def inS : D → D → Option D
  | .str a, .str z => (match a.cps.toList with
    | [c] => some (.bool (decide (c ∈ z.cps.toList)))
    | _ => none)
  | _, _ => none
theorem str_one {a : Str} {c : Nat} (h : a.cps.toList = [c]) : a = ⟨#[c]⟩ := by
  cases a with
  | mk cps =>
    have : cps = #[c] := Array.toList_inj.mp h
    rw [this]
theorem sn_inS : Sn2 K rInS inS := fun b0 B Z0 Z H σ ρ x y a b c Q ok ha hb e q => by
  unfold inS at e
  split at e
  · split at e
    · rename_i h
      cases e
      cases ha
      cases hb
      exact ⟨_, _, by rw [str_one h], rfl, q _ H Z ok (Same.refl Z) (.bl _)⟩
    · cases e
  · cases e
def signsD (z : Str) : List D := z.cps.toList.map fun c => .str ⟨#[c]⟩
def itS : D → Option (List D)
  | .str z => some (signsD z)
  | _ => none
def gStr (g : GE) (ρ : Rho) : R (List D) := (g ρ).bind fun d ρ1 => R.lift (itS d) ρ1
theorem signs_len (z : Str) : (signsD z).length = z.cps.size := by
  unfold signsD
  rw [List.length_map, Array.length_toList]
theorem wk_str {Z : Hp} {x : Str} : Wk K (Its x) Z (signsD x) where
  goes := fun i H hi s => by rw [signs_len] at hi; exact hi
  stops := fun H s => by rw [signs_len]; exact Nat.le_refl _
  yields := fun i H v H' hi y b0 B Z0 Z' σ ρ ok s => by
    obtain ⟨rfl, c, hc, rfl⟩ := y
    refine ⟨Z', .str ⟨#[c]⟩, ok, Same.refl Z', ?_, .str _⟩
    unfold signsD
    rw [List.getElem?_map, Array.getElem?_toList, hc]; rfl
theorem di_str {g : GE} (h : DE K te g) : DI K (iStr te) (gStr g) := fun b0 B Z0 Z H σ ρ ds ρ' W ok e q => by
  obtain ⟨d, ρ1, e1, e⟩ := R.bind_ok e
  obtain ⟨e2, rfl⟩ := R.lift_ok e
  unfold itS at e2
  split at e2
  · cases e2
    refine h b0 B Z0 Z H σ ρ _ _ _ ok e1 fun v H1 Z1 ok1 s1 r1 => ?_
    cases r1
    exact ⟨_, rfl, q _ H1 Z1 ok1 s1 wk_str⟩
  · cases e2
def rIntS : List V → Hp → VK → Prop := fun xs H Q => ∃ a n, xs = [.str a] ∧ PySem.intText? a = some n ∧ a.length ≤ 640 ∧ Q (.int n) H
theorem call_intS : CallR X (.type "int") rIntS := call_int_str
def intS : List D → Option D
  | [.str a] => if a.length ≤ 640 then (PySem.intText? a).map .int else none
  | _ => none
theorem sn_intS : SnA K rIntS intS := fun b0 B Z0 Z H σ ρ xs as c Q ok ha e q => by
  unfold intS at e
  split at e
  · split at e
    · rename_i hz
      obtain ⟨n, hn, rfl⟩ := Option.map_eq_some_iff.mp e
      cases ha with
      | cons h r =>
        cases r
        cases h
        exact ⟨_, n, rfl, hn, hz, q _ H Z ok (Same.refl Z) (.int _)⟩
    · cases e
  · cases e
def repZ (z : Str) (k : Nat) : Str := ⟨(List.replicate k z.cps).foldl (· ++ ·) #[]⟩
def rRepS : R2 := fun x y H Q => ∃ (z : Str) (k : Int), x = .str z ∧ y = .int k ∧ 2 ≤ k ∧ k ≤ 1000 ∧ 1 ≤ z.length ∧ z.length ≤ 1000 ∧ (repZ z k.toNat).length ≤ sizeLine ∧ Q (.str (repZ z k.toNat)) H
theorem op_repS : OpR X (binaryOp .Mult) rRepS := by
  intro pins s σ H x y v u Q I rx ry h
  obtain ⟨z, k, rfl, rfl, h2, h3, hz, hz2, hb, q⟩ := h
  obtain ⟨t, rfl⟩ := rx
  obtain ⟨t2, rfl⟩ := ry
  have d1 : (k == 1 || z.length == 0) = false := by
    rw [Bool.or_eq_false_iff]
    exact ⟨beq_eq_false_iff_ne.mpr (by omega), beq_eq_false_iff_ne.mpr (by omega)⟩
  have tl : Builtin.Str.tooLong (z.length * k.toNat) = false := by
    have : z.length * k.toNat ≤ 1000 * 1000 := Nat.mul_le_mul hz2 (by omega)
    exact decide_eq_false (Nat.not_lt.mpr (Nat.le_trans this (by decide)))
  have mx : (z.length : Int) ≤ (2 ^ 63 - 1) / k := by
    refine Int.le_ediv_of_mul_le (by omega) ?_
    have : (z.length : Int) * k ≤ 1000 * 1000 := Int.mul_le_mul (by omega) h3 (by omega) (by omega)
    omega
  refine PySem.P.mul_str (by
    rw [Bool.or_eq_false_iff]
    exact ⟨decide_eq_false (by omega), decide_eq_false (by omega)⟩) (fun _ _ => by omega) (fun _ _ => tl) ?_
  rw [if_neg (by omega), if_neg (by rw [d1]; exact Bool.false_ne_true)]
  exact ⟨hb, .str _, H, I.tok _, ⟨_, rfl⟩, q⟩
def repS : D → D → Option D
  | .str z, .int k => if 2 ≤ k ∧ k ≤ 1000 ∧ 1 ≤ z.length ∧ z.length ≤ 1000 ∧ (repZ z k.toNat).length ≤ sizeLine then some (.str (repZ z k.toNat)) else none
  | _, _ => none
theorem sn_repS : Sn2 K rRepS repS := fun b0 B Z0 Z H σ ρ x y a b c Q ok ha hb e q => by
  unfold repS at e
  split at e
  · split at e
    · rename_i h
      cases e
      cases ha
      cases hb
      exact ⟨_, _, rfl, rfl, h.1, h.2.1, h.2.2.1, h.2.2.2.1, h.2.2.2.2, q _ H Z ok (Same.refl Z) (.str _)⟩
    · cases e
  · cases e
theorem strs_rp {Z : Hp} : ∀ ys : List Str, RpA K Z (ys.map V.str) (ys.map PyData.str)
  | [] => .nil
  | y :: ys => .cons (.str _) (strs_rp ys)
def splitS : D → D → Option (List D)
  | .str a, .str b => if (b.length == 0) = false ∧ a.length + 2 ≤ sizeLine then some ((Txt.split a b).map .str) else none
  | _, _ => none
def eSplit (f g : GE) (ρ : Rho) : R (List D) := (f ρ).bind fun x ρ1 => (g ρ1).bind fun y ρ2 => R.lift (splitS x y) ρ2
theorem df_split {f g : GE} (hf : DE K to f) (hg : DE K te g) : DF K (tM1 (fun x xs H Q => ∃ a b, x = .str a ∧ xs = [.str b] ∧ (b.length == 0) = false ∧ a.length + 2 ≤ sizeLine ∧ rNewStrs (Txt.split a b) H Q) to te) (eSplit f g) := fun b0 B Z0 Z H σ ρ ds ρ' Q ok e q => by
  obtain ⟨x, ρ1, e1, e⟩ := R.bind_ok e
  obtain ⟨y, ρ2, e2, e⟩ := R.bind_ok e
  obtain ⟨e3, rfl⟩ := R.lift_ok e
  unfold splitS at e3
  split at e3
  · split at e3
    · rename_i hb
      cases e3
      refine hf b0 B Z0 Z H σ ρ _ _ _ ok e1 fun v H1 Z1 ok1 s1 r1 => ?_
      cases r1
      refine ⟨⟨_, rfl⟩, ?_⟩
      refine hg b0 B Z0 Z1 H1 σ ρ1 _ _ _ ok1 e2 fun w H2 Z2 ok2 s2 r2 => ?_
      cases r2
      refine ⟨_, _, rfl, rfl, hb.1, hb.2, fun p hp => ?_⟩
      obtain ⟨okf, zf, bf, af⟩ := ok2.fresh (o := .lst _) hp
      exact q p _ _ Z2 okf (s1.trans s2) zf bf af upd_same (strs_rp _)
    · cases e3
  · cases e3
def strsOf : List D → Option (List Str)
  | [] => some []
  | .str x :: r => (strsOf r).map (x :: ·)
  | _ :: _ => none
theorem strsOf_rp {Z : Hp} : ∀ {ds : List D} {xs : List V} {ys : List Str}, RpA K Z xs ds → strsOf ds = some ys → xs = ys.map V.str
  | [], _, _, .nil, e => by cases e; rfl
  | d :: ds, _, ys, .cons h r, e => by
    unfold strsOf at e
    split at e
    · rename_i ee; cases ee
    · rename_i x r' ee
      injection ee with e1 e2
      subst e1
      subst e2
      obtain ⟨zs, hz, rfl⟩ := Option.map_eq_some_iff.mp e
      cases h
      rw [strsOf_rp r hz]; rfl
    · cases e
def joinS : D → D → Option D
  | .str a, .list ds => (strsOf ds).bind fun ys => if (ys.map (·.length)).sum + ys.length * a.length ≤ 16777216 then some (.str (Txt.join a ys)) else none
  | _, _ => none
def eJoin (f g : GE) (ρ : Rho) : R D := (f ρ).bind fun x ρ1 => (g ρ1).bind fun y ρ2 => R.lift (joinS x y) ρ2
theorem de_join {f g : GE} (hf : DE K to f) (hg : DE K te g) : DE K (tM1 (fun x xs H Q => ∃ a p, ∃ ys : List Str, x = .str a ∧ xs = [.ref p] ∧ (SqL K H p (ys.map V.str) ∨ SqT K H p (ys.map V.str)) ∧ (ys.map (·.length)).sum + ys.length * a.length ≤ 16777216 ∧ Q (.str (Txt.join a ys)) H) to te) (eJoin f g) := fun b0 B Z0 Z H σ ρ d ρ' Q ok e q => by
  obtain ⟨x, ρ1, e1, e⟩ := R.bind_ok e
  obtain ⟨y, ρ2, e2, e⟩ := R.bind_ok e
  obtain ⟨e3, rfl⟩ := R.lift_ok e
  unfold joinS at e3
  split at e3
  · obtain ⟨ys, hy, e3⟩ := Option.bind_eq_some_iff.mp e3
    split at e3
    · rename_i hb
      cases e3
      refine hf b0 B Z0 Z H σ ρ _ _ _ ok e1 fun v H1 Z1 ok1 s1 r1 => ?_
      cases r1
      refine ⟨⟨_, rfl⟩, ?_⟩
      refine hg b0 B Z0 Z1 H1 σ ρ1 _ _ _ ok1 e2 fun w H2 Z2 ok2 s2 r2 => ?_
      cases r2 with
      | lst hs ra =>
        rw [strsOf_rp ra hy] at hs
        exact ⟨_, _, ys, rfl, rfl, .inl (.inl (.inl (ok2.zh _ _ hs))), hb, q _ H2 Z2 ok2 (s1.trans s2) (.str _)⟩
    · cases e3
  · cases e3
end
end DL
namespace DL
open PySem PySem.Spec PyProof PyProof.Rows L2
end DL
namespace DL
open PySem PySem.Spec PyProof PyProof.Rows L2
end DL
namespace DL
open PySem PySem.Spec PyProof.Rows L2
end DL
namespace DL
open PySem PySem.Spec PyProof.Rows L2
end DL
namespace DL
open PySem L2
abbrev Tbs := List (List (D × D))
structure LT (K : PySem.W.Frag) (Z W B : Hp) (p : Addr) (qs : List Addr) (T : Tbs) : Prop where
  out : W p = some (.lst (qs.map V.ref))
  len : qs.length = T.length
  inn : ∀ (j : Nat) (q : Addr) (kds : List (D × D)), qs[j]? = some q → T[j]? = some kds → ∃ kvs, IsDc W q kvs ∧ RpK K Z kvs kds
  na : (p :: qs).Nodup
  fr : ∀ r ∈ p :: qs, Z r = none ∧ B r = none
structure LOk (K : PySem.W.Frag) (f h : Nat) (b0 : Bx) (B Z0 Z H : Hp) (σ : L2.St) (ρ : Rho) (T : Tbs) (c : Option Nat) : Prop where
  ex : ∃ W p qs, Ok K b0 W Z0 Z H σ ρ ∧ Same B W ∧ LT K Z W B p qs T ∧ σ[f]? = some (some (.ref p)) ∧ ∀ j, c = some j → ∃ q, qs[j]? = some q ∧ σ[h]? = some (some (.ref q))
inductive LO where
  | nx (ρ : Rho) (T : Tbs) (c : Option Nat)
  | ct (ρ : Rho) (T : Tbs) (c : Option Nat)
  | bk (ρ : Rho) (T : Tbs) (c : Option Nat)
  | rt (d : D) (ρ : Rho)
  | bad
abbrev LG := Rho → Tbs → Option Nat → LO
def LSat (K : PySem.W.Frag) (f h : Nat) (b0 : Bx) (B Z0 Z : Hp) (E : Ends) : LO → Prop
  | .nx ρ T c => ∀ σ' H' Z', LOk K f h b0 B Z0 Z' H' σ' ρ T c → Same Z Z' → E.nx σ' H'
  | .ct ρ T c => ∀ σ' H' Z', LOk K f h b0 B Z0 Z' H' σ' ρ T c → Same Z Z' → E.ct σ' H'
  | .bk ρ T c => ∀ σ' H' Z', LOk K f h b0 B Z0 Z' H' σ' ρ T c → Same Z Z' → E.bk σ' H'
  | .rt d ρ => ∀ v σ' H' Z', Ok K b0 B Z0 Z' H' σ' ρ → Same Z Z' → Rp K Z' v d → E.rt v H'
  | .bad => False
def LO.bind (o : LO) (b : LG) : LO := match o with
  | .nx ρ T c => b ρ T c
  | o => o
section
variable {K : PySem.W.Frag} {Wx : WX} {f h : Nat} {b0 : Bx} {B W Z0 Z Z' H : Hp} {σ : L2.St} {ρ : Rho} {p q : Addr} {qs : List Addr} {T : Tbs} {t u : TS} {te tk : TE} {tt : TT} {b c : LG} {E : Ends}
theorem LSat.mono {o : LO} (s : Same Z Z') (h0 : LSat K f h b0 B Z0 Z E o) : LSat K f h b0 B Z0 Z' E o := by
  cases o with
  | nx ρ T c => exact fun σ' H' Z2 ok s2 => h0 σ' H' Z2 ok (s.trans s2)
  | ct ρ T c => exact fun σ' H' Z2 ok s2 => h0 σ' H' Z2 ok (s.trans s2)
  | bk ρ T c => exact fun σ' H' Z2 ok s2 => h0 σ' H' Z2 ok (s.trans s2)
  | rt d ρ => exact fun v σ' H' Z2 ok s2 r => h0 v σ' H' Z2 ok (s.trans s2) r
  | bad => exact h0
theorem LT.some (n : LT K Z W B p qs T) : ∀ r ∈ p :: qs, ∃ o, W r = some o := fun r hr => by
  rcases List.mem_cons.mp hr with rfl | hr
  · exact ⟨_, n.out⟩
  · obtain ⟨j, hj⟩ := List.mem_iff_getElem?.mp hr
    have hl := (List.getElem?_eq_some_iff.mp hj).1
    have hl2 : j < T.length := by rw [← n.len]; exact hl
    obtain ⟨kvs, ⟨dt, hd⟩, _⟩ := n.inn j r T[j] hj (List.getElem?_eq_getElem hl2)
    exact ⟨_, hd⟩
theorem LT.grow (n : LT K Z W B p qs T) (s : Same Z Z') (ok : Ok K b0 W Z0 Z' H σ ρ) (zz : Same Z0 Z) : LT K Z' W B p qs T := by
  refine ⟨n.out, n.len, fun j q kds e1 e2 => ?_, n.na, fun r hr => ⟨?_, (n.fr r hr).2⟩⟩
  · obtain ⟨kvs, h1, h2⟩ := n.inn j q kds e1 e2
    exact ⟨kvs, h1, h2.mono s⟩
  · have zr := (n.fr r hr).1
    cases e : Z' r with
    | none => rfl
    | some o =>
      rcases ok.nb r o e with z | z
      · rw [zz r o z] at zr; cases zr
      · obtain ⟨o', h'⟩ := n.some r hr
        rw [h'] at z
        cases z
def LO.out (o : LO) : O := match o with
  | .rt d ρ => .rt d ρ
  | _ => .bad
end
end DL
namespace DL
open PySem PySem.Spec PyProof.Rows PySem.Calls L2
open PySem.W (dataLe AllAlike Sortable alike alikeAll dataLt EachIs)
end DL
namespace DL
open PySem L2
/-- slot i has a name that stands nowhere in the def -/
def Gh (X : Cx) (i : Nat) : Prop := ∃ x, X.N[i]? = some x ∧ X.env.scope.names.lookup x = none
theorem Gh.vis {sc : Scope} {x : Str} (h : sc.names.lookup x = none) : ¬ Vis sc x := fun z => by
  rcases z with z | z | z <;> rw [h] at z <;> cases z
theorem Inv.ghost {X : Cx} {pins : List (Addr × Obj)} {σ : L2.St} {H : Hp} {s : Shared} {i : Nat} (I : Inv X pins σ H s) (g : Gh X i) (v : Option V) : Inv X pins (σ.set i v) H s := by
  obtain ⟨x, hN, hl⟩ := g
  refine ⟨I.ok, I.os, I.bare, I.base, ?_, I.cell, I.free, I.freeC, I.pin, I.hok, by rw [List.length_set]; exact I.len⟩
  obtain ⟨m, h1, h2⟩ := I.loc
  refine ⟨m, h1, fun j y w e1 e2 e3 => ?_⟩
  by_cases hij : i = j
  · subst hij
    rw [hN] at e1
    cases e1
    exact absurd e3 (Gh.vis hl)
  · rw [List.getElem?_set_ne hij] at e2
    exact h2 j y w e1 e2 e3
/-- the slots i, j are filled first -/
def tGh (i j : Nat) (t : TS) : TS := fun E σ H => ∃ x y, t E ((σ.set i x).set j y) H
/-- the slots i, j are filled behind it -/
def tGhA (i j : Nat) (t : TS) : TS := fun E σ H => t { E with nx := fun σ' H' => ∃ x y, E.nx ((σ'.set i x).set j y) H' } σ H
theorem pss_gh {X : Cx} {st : List Stmt} {t : TS} {i j : Nat} (hi : Gh X i) (hj : Gh X j) (h : PSs X st t) : PSs X st (tGh i j t) := by
  refine ⟨fun pins s σ H D I ht => ?_⟩
  obtain ⟨x, y, ht⟩ := ht
  exact h.run pins s _ H D (Inv.ghost (Inv.ghost I hi x) hj y) ht
theorem ps_ghA {X : Cx} {st : Stmt} {t : TS} {i j : Nat} (hi : Gh X i) (hj : Gh X j) (h : PS X st t) : PS X st (tGhA i j t) := by
  refine ⟨fun pins s σ H D I ht => ?_⟩
  refine thn (h.run pins s σ H _ I ht) fun f s' sp => ?_
  cases f with
  | next =>
    obtain ⟨σ', H', I', x, y, q⟩ := sp
    exact ⟨_, H', Inv.ghost (Inv.ghost I' hi x) hj y, q⟩
  | brk => exact sp
  | cont => exact sp
  | ret u => exact sp
section
variable {K : PySem.W.Frag} {Wx : WX} {ta tb te : TE} {tt tu : TT} {tas : TA} {t u : TS} {b0 : Bx} {B Z0 Z Z' H H' : Hp} {σ : L2.St} {ρ ρ' : Rho} {p a l g : Addr} {o o' : HO}
theorem HallAt.fn {l' g' : Addr} (h : HallAt K Z a l g) (h' : HallAt K Z a l' g') : l = l' ∧ g = g' := by
  obtain ⟨C, dx, _, e⟩ := h
  obtain ⟨C', dx', _, e'⟩ := h'
  rw [e] at e'
  cases e'
  exact ⟨rfl, rfl⟩
theorem Ok.gw (h : Ok K b0 B Z0 Z H σ ρ) {i : Nat} {ds : List D} (e : ρ[i]? = some (.gw ds)) : ∃ p vs, σ[i]? = some (some (.ref p)) ∧ Z p = none ∧ B p = none ∧ H p = some (.lst vs) ∧ RpA K Z vs ds := by
  obtain ⟨p, o, h1, h2, h3, h4, vs, rfl, h5⟩ := h.own i _ e rfl
  exact ⟨p, vs, h1, h2, h3, h4, h5⟩
def Sl.kd : Sl → Nat
  | .no => 0
  | .sh _ => 1
  | .ow _ => 2
  | .od _ => 3
  | .gw _ => 4
  | .hl _ => 5
theorem kd_ow {s : Sl} {ds : List D} (h : (Sl.ow ds).kd = s.kd) : ∃ es, s = .ow es := by cases s <;> first | exact ⟨_, rfl⟩ | exact nomatch h
theorem kd_gw {s : Sl} {ds : List D} (h : (Sl.gw ds).kd = s.kd) : ∃ es, s = .gw es := by cases s <;> first | exact ⟨_, rfl⟩ | exact nomatch h
/-- behind a call that changes some of what is owned -/
theorem Ok.growS (Ch : Nat → Prop) (ok : Ok K b0 B Z0 Z H σ ρ) (hl : ρ'.length = ρ.length)
    (hs : ∀ (i : Nat) (s' : Sl), ρ'[i]? = some s' → (¬ Ch i ∧ ρ[i]? = some s') ∨ ∃ s p o', Ch i ∧ ρ[i]? = some s ∧ s.isO = true ∧ s'.isO = true ∧ s'.kd = s.kd ∧ σ[i]? = some (some (.ref p)) ∧ Z' p = none ∧ H' p = some o' ∧ OwR K Z' p o' s')
    (hh : ∀ p o, H p = some o → (∀ (i : Nat) (s : Sl), Ch i → ρ[i]? = some s → s.isO = true → σ[i]? ≠ some (some (.ref p))) → H' p = some o) (g : Grow H Z Z' H') : Ok K b0 B Z0 Z' H' σ ρ' := by
  have old : ∀ {i : Nat} {s' : Sl}, ρ'[i]? = some s' → ∃ s, ρ[i]? = some s ∧ s'.kd = s.kd ∧ (s'.isO = true → s.isO = true) ∧ (s'.isO = false → s = s') := fun {i s'} e => by
    rcases hs i s' e with ⟨_, z⟩ | ⟨s, p, o', _, e1, e2, e3, e4, _⟩
    · exact ⟨s', z, rfl, id, fun _ => rfl⟩
    · exact ⟨s, e1, e4, fun _ => e2, fun z => by rw [e3] at z; cases z⟩
  refine ⟨by rw [hl]; exact ok.len, fun p o e => hh p o (ok.bh p o e) fun i s _ e1 e2 e3 => ?_, g.2.1, ok.zz.trans g.1, fun p o e => ?_, fun i d e => ?_, fun i s e eo => ?_, fun a ha ds e => ?_, fun i j p s t e1 e2 o1 o2 e3 e4 => ?_, fun i a ha j e => ?_, fun i j e => ?_⟩
  · obtain ⟨q, _, f1, _, f3, _⟩ := ok.own i s e1 e2
    rw [e3] at f1
    cases f1
    rw [f3] at e
    cases e
  · rcases g.2.2 p o e with z | z
    · exact ok.nb p o z
    · exact .inr (ok.bh.free z)
  · rcases hs i _ e with ⟨_, z⟩ | ⟨s, p, o', _, _, _, e3, _⟩
    · obtain ⟨v, e1, e2⟩ := ok.sh i d z
      exact ⟨v, e1, e2.mono g.1⟩
    · cases e3
  · rcases hs i _ e with ⟨nc, z⟩ | ⟨s0, p, o', _, e1, e2, e3, e4, e5, e6, e7, e8⟩
    · obtain ⟨q, x, f1, f2, f3, f4, f5⟩ := ok.own i s z eo
      refine ⟨q, x, f1, ?_, f3, hh q x f4 fun k s2 k0 k1 k2 k3 => ?_, f5.mono g.1⟩
      · cases z2 : Z' q with
        | none => rfl
        | some o =>
          rcases g.2.2 q o z2 with y | y
          · rw [f2] at y; cases y
          · rw [f4] at y; cases y
      · obtain rfl := ok.sepS k i q _ _ k1 z k2 eo k3 f1
        exact nc k0
    · obtain ⟨q, x, f1, f2, f3, f4, f5⟩ := ok.own i s0 e1 e2
      rw [e5] at f1
      cases f1
      exact ⟨p, o', e5, e6, f3, e7, e8⟩
  · obtain ⟨s, e1, e2, _, _⟩ := old e
    obtain ⟨es, rfl⟩ := kd_ow e2
    exact ok.fix a ha es e1
  · obtain ⟨s1, y1, _, z1, _⟩ := old e1
    obtain ⟨s2, y2, _, z2, _⟩ := old e2
    exact ok.sepS i j p _ _ y1 y2 (z1 o1) (z2 o2) e3 e4
  · obtain ⟨s, e1, _, _, e4⟩ := old e
    obtain rfl := e4 rfl
    exact ok.fixG i a ha j e1
  · obtain ⟨s, e1, _, _, e4⟩ := old e
    obtain rfl := e4 rfl
    refine ((ok.lnk i j e1).mono g.1).of rfl fun k ds e2 => ?_
    obtain ⟨s2, f1, f2, _, _⟩ := old e2
    obtain ⟨es, rfl⟩ := kd_gw f2
    exact ⟨⟨es, f1⟩, rfl⟩
/-- .. the two lists of a Hall -/
theorem Ok.growG {j : Nat} {rs gs rs' gs' : List D} {vl vg : List V} (ok : Ok K b0 B Z0 Z H σ ρ) (hj : ρ[j]? = some (.gw rs)) (hj1 : ρ[j + 1]? = some (.gw gs)) (sl : σ[j]? = some (some (.ref l))) (sg : σ[j + 1]? = some (some (.ref g)))
    (hh : ∀ p o, p ≠ l → p ≠ g → H p = some o → H' p = some o) (gr : Grow H Z Z' H') (zl : Z' l = none) (zg : Z' g = none) (hl : H' l = some (.lst vl)) (hg : H' g = some (.lst vg)) (rl : RpA K Z' vl rs') (rg : RpA K Z' vg gs') :
    Ok K b0 B Z0 Z' H' σ ((ρ.set j (.gw rs')).set (j + 1) (.gw gs')) := by
  have l0 : j < ρ.length := (List.getElem?_eq_some_iff.mp hj).1
  have l1 : j + 1 < ρ.length := (List.getElem?_eq_some_iff.mp hj1).1
  have ne : j ≠ j + 1 := by omega
  refine ok.growS (fun i => i = j ∨ i = j + 1) (by rw [List.length_set, List.length_set]) (fun i s e => ?_) (fun p o e h => hh p o (fun z => ?_) (fun z => ?_) e) gr
  · rcases set_get e with ⟨rfl, rfl⟩ | ⟨n1, e⟩
    · exact .inr ⟨_, g, _, .inr rfl, hj1, rfl, rfl, rfl, sg, zg, hg, vg, rfl, rg⟩
    · rcases set_get e with ⟨rfl, rfl⟩ | ⟨n2, e⟩
      · exact .inr ⟨_, l, _, .inl rfl, hj, rfl, rfl, rfl, sl, zl, hl, vl, rfl, rl⟩
      · exact .inl ⟨fun z => z.elim (fun z => n2 z.symm) fun z => n1 z.symm, e⟩
  · exact h j _ (.inl rfl) hj rfl (by rw [sl, z])
  · exact h (j + 1) _ (.inr rfl) hj1 rfl (by rw [sg, z])
abbrev HS := List D × List D
abbrev RH := RX D × HS
def envH (n : Nat) (s : HS) (args : List D) : Rho := ((Sl.hl (n - 2) :: (args.map .sh ++ List.replicate (n - (args.length + 1)) .no)).set (n - 2) (.gw s.1)).set (n - 1) (.gw s.2)
def gh2 (n : Nat) (ρ : Rho) : Option HS := match (ρ[0]? : Option Sl), (ρ[n - 2]? : Option Sl), (ρ[n - 1]? : Option Sl) with
  | some (.hl j), some (.gw r), some (.gw l) => if j = n - 2 then some (r, l) else none
  | _, _, _ => none
def finH (n : Nat) (r : RX D) (ρ : Rho) : RH := match gh2 n ρ with
  | some s => (r, s)
  | none => (.bad, ([], []))
/-- what the body of a def with a Hall first computes -/
def callH (np n : Nat) (g : GS) : HS → List D → RH := fun s args => if args.length + 1 ≠ np ∨ n < np + 2 then (.bad, s) else match g (envH n s args) with
  | .rt d ρ => finH n (.ok d) ρ
  | .nx ρ => finH n (.ok .none) ρ
  | .rf ds ρ => finH n (.ok (.list ds)) ρ
  | .ex c d ρ => finH n (.ex c d) ρ
  | _ => (.bad, s)
/-- .. that raises nothing -/
def callH0 (np n : Nat) (g : GS) : HS → List D → RH := fun s args => if args.length + 1 ≠ np ∨ n < np + 2 then (.bad, s) else match g (envH n s args) with
  | .rt d ρ => finH n (.ok d) ρ
  | .nx ρ => finH n (.ok .none) ρ
  | .rf ds ρ => finH n (.ok (.list ds)) ρ
  | _ => (.bad, s)
/-- what a caller hears -/
def Bk (K : PySem.W.Frag) (H Z H' Z' : Hp) (l g : Addr) (s : HS) : Prop := ∃ vl vg, (∀ p o, p ≠ l → p ≠ g → H p = some o → H' p = some o) ∧ Grow H Z Z' H' ∧ Z' l = none ∧ Z' g = none ∧ H' l = some (.lst vl) ∧ H' g = some (.lst vg) ∧ RpA K Z' vl s.1 ∧ RpA K Z' vg s.2
def EndH (K : PySem.W.Frag) (H Z : Hp) (l g : Addr) (Q : VK) (E : XK) : RH → Prop
  | (.ok d, s) => ∀ v H' Z', Bk K H Z H' Z' l g s → Rp K Z' v d → Q v H'
  | (.ex c d, s) => ∀ C dx v H' Z', Bk K H Z H' Z' l g s → Cls K c C → Z' dx = some (.xd [(fld c, v)]) → Rp K Z' v d → E (.ref C) (some dx) H'
  | (.bad, _) => False
def InH (K : PySem.W.Frag) (H Z : Hp) (a l g : Addr) (s : HS) : Prop := ∃ vl vg, Same Z H ∧ HallAt K Z a l g ∧ Z l = none ∧ Z g = none ∧ l ≠ g ∧ H l = some (.lst vl) ∧ H g = some (.lst vg) ∧ RpA K Z vl s.1 ∧ RpA K Z vg s.2
def spH (K : PySem.W.Frag) (np : Nat) (F : HS → List D → RH) : Sp := fun vs H Q E => vs.length = np ∧ ∃ Z a l g rest ds s, vs = .ref a :: rest ∧ InH K H Z a l g s ∧ RpA K Z rest ds ∧ EndH K H Z l g Q E (F s ds)
theorem ok_startH {N : List Str} {rest : List V} {ds : List D} {s : HS} (i : InH K H Z a l g s) (r : RpA K Z rest ds) (hn : rest.length + 3 ≤ N.length) :
    Ok K (none, some a, none) (but (but H l) g) Z Z H (((L2.start N (.ref a :: rest)).set (N.length - 2) (some (.ref l))).set (N.length - 1) (some (.ref g))) (envH N.length s ds) := by
  obtain ⟨vl, vg, sZ, ha, zl, zg, ne, hl, hg, rl, rg⟩ := i
  have e0 : (L2.start N (.ref a :: rest)) = some (.ref a) :: (rest.map some ++ List.replicate (N.length - (rest.length + 1)) none) := rfl
  have len : (L2.start N (.ref a :: rest)).length = N.length := by
    rw [e0]
    simp only [List.length_cons, List.length_append, List.length_map, List.length_replicate]
    omega
  generalize hσ : L2.start N (.ref a :: rest) = σ0 at *
  unfold envH
  have G : ∀ {i : Nat} {t : Sl}, (Sl.hl (N.length - 2) :: (ds.map Sl.sh ++ List.replicate (N.length - (ds.length + 1)) .no))[i]? = some t → (i = 0 ∧ t = .hl (N.length - 2)) ∨ t = .no ∨ ∃ d v, t = .sh d ∧ σ0[i]? = some (some v) ∧ Rp K Z v d := by
    intro i t h
    cases i with
    | zero => exact .inl ⟨rfl, (Option.some.inj h).symm⟩
    | succ j =>
      rw [List.getElem?_cons_succ] at h
      rcases args_get (n := N.length - (rest.length + 1)) r h with z | ⟨d', v, e, e2, rv⟩
      · exact .inr (.inl z)
      · exact .inr (.inr ⟨d', v, e, by rw [e0, List.getElem?_cons_succ]; exact e2, rv⟩)
  have G2 : ∀ {i : Nat} {t : Sl}, (((Sl.hl (N.length - 2) :: (ds.map Sl.sh ++ List.replicate (N.length - (ds.length + 1)) .no)).set (N.length - 2) (.gw s.1)).set (N.length - 1) (.gw s.2))[i]? = some t →
      (i = N.length - 1 ∧ t = .gw s.2) ∨ (i = N.length - 2 ∧ t = .gw s.1) ∨ (((σ0.set (N.length - 2) (some (.ref l))).set (N.length - 1) (some (.ref g)))[i]? = σ0[i]? ∧ ((i = 0 ∧ t = .hl (N.length - 2)) ∨ t = .no ∨ ∃ d v, t = .sh d ∧ σ0[i]? = some (some v) ∧ Rp K Z v d)) := by
    intro i t h
    rcases set_get h with ⟨e1, e2⟩ | ⟨n1, h⟩
    · exact .inl ⟨e1.symm, e2.symm⟩
    · rcases set_get h with ⟨e1, e2⟩ | ⟨n2, h⟩
      · exact .inr (.inl ⟨e1.symm, e2.symm⟩)
      · exact .inr (.inr ⟨by rw [List.getElem?_set_ne n1, List.getElem?_set_ne n2], G h⟩)
  have sg : ((σ0.set (N.length - 2) (some (.ref l))).set (N.length - 1) (some (.ref g)))[N.length - 1]? = some (some (.ref g)) := List.getElem?_set_self (by rw [List.length_set]; omega)
  have sl : ((σ0.set (N.length - 2) (some (.ref l))).set (N.length - 1) (some (.ref g)))[N.length - 2]? = some (some (.ref l)) := by
    rw [List.getElem?_set_ne (by omega)]
    exact List.getElem?_set_self (by omega)
  refine ⟨?_, but_le.trans but_le, sZ, Same.refl Z, fun q o e => .inl e, fun i d h => ?_, fun i t h ho => ?_, (fun _ z => nomatch z), fun i j p t u h1 h2 o1 o2 e1 e2 => ?_, fun i b hb j h => ?_, fun i j h => ?_⟩
  · simp only [List.length_set, List.length_cons, List.length_append, List.length_map, List.length_replicate, len]
    have := r.length
    omega
  · rcases G2 h with ⟨_, z⟩ | ⟨_, z⟩ | ⟨hs, ⟨_, z⟩ | z | ⟨d', v, z, e2, rv⟩⟩
    · cases z
    · cases z
    · cases z
    · cases z
    · cases z; exact ⟨v, hs.trans e2, rv⟩
  · rcases G2 h with ⟨rfl, rfl⟩ | ⟨rfl, rfl⟩ | ⟨hs, ⟨_, z⟩ | z | ⟨d', v, z, e2, rv⟩⟩
    · exact ⟨g, _, sg, zg, but_same, hg, vg, rfl, rg⟩
    · exact ⟨l, _, sl, zl, by rw [but_ne ne]; exact but_same, hl, vl, rfl, rl⟩
    · subst z; cases ho
    · subst z; cases ho
    · subst z; cases ho
  · have W : ∀ {i : Nat} {t : Sl} {q : Addr}, (((Sl.hl (N.length - 2) :: (ds.map Sl.sh ++ List.replicate (N.length - (ds.length + 1)) .no)).set (N.length - 2) (.gw s.1)).set (N.length - 1) (.gw s.2))[i]? = some t → t.isO = true → ((σ0.set (N.length - 2) (some (.ref l))).set (N.length - 1) (some (.ref g)))[i]? = some (some (.ref q)) → (i = N.length - 1 ∧ q = g) ∨ (i = N.length - 2 ∧ q = l) := by
      intro i t q h ho e
      rcases G2 h with ⟨rfl, rfl⟩ | ⟨rfl, rfl⟩ | ⟨hs, ⟨_, z⟩ | z | ⟨d', v, z, e2, rv⟩⟩
      · rw [sg] at e; cases e; exact .inl ⟨rfl, rfl⟩
      · rw [sl] at e; cases e; exact .inr ⟨rfl, rfl⟩
      · subst z; cases ho
      · subst z; cases ho
      · subst z; cases ho
    rcases W h1 o1 e1 with ⟨a1, b1⟩ | ⟨a1, b1⟩
    · rcases W h2 o2 e2 with ⟨a2, b2⟩ | ⟨a2, b2⟩
      · omega
      · exact absurd (b2.symm.trans b1) ne
    · rcases W h2 o2 e2 with ⟨a2, b2⟩ | ⟨a2, b2⟩
      · exact absurd (b1.symm.trans b2) ne
      · omega
  · have hi : i = 0 ∧ b = a := by
      cases i with
      | zero => cases hb; exact ⟨rfl, rfl⟩
      | succ i =>
        cases i with
        | zero => cases hb
        | succ i => cases hb
    obtain ⟨rfl, rfl⟩ := hi
    rw [List.getElem?_set_ne (by omega), List.getElem?_set_ne (by omega), e0]
    rfl
  · rcases G2 h with ⟨_, z⟩ | ⟨_, z⟩ | ⟨hs, ⟨rfl, z⟩ | z | ⟨d', v, z, e2, rv⟩⟩
    · cases z
    · cases z
    · cases z
      refine ⟨a, l, g, by rw [hs, e0]; rfl, ha, fun _ _ => sl, fun _ _ => ?_⟩
      have e : N.length - 2 + 1 = N.length - 1 := by omega
      rw [e]
      exact sg
    · cases z
    · cases z
theorem bk_end {N : List Str} {s s' : HS} {σ' : L2.St} (i : InH K H Z a l g s) (hn : 3 ≤ N.length) (ok : Ok K (none, some a, none) (but (but H l) g) Z Z' H' σ' ρ') (h : gh2 N.length ρ' = some s') : Bk K H Z H' Z' l g s' := by
  obtain ⟨vl, vg, sZ, ha, zl, zg, ne, hl, hg, rl, rg⟩ := i
  unfold gh2 at h
  split at h
  · rename_i j rs gs h0 h1 h2
    split at h
    · rename_i hj
      subst hj
      cases h
      have f0 := ok.fixG 0 a rfl _ h0
      obtain ⟨a', l', g', k1, k2, k3, k4⟩ := ok.lnk 0 _ h0
      rw [f0] at k1
      cases k1
      obtain ⟨rfl, rfl⟩ := (ha.mono ok.zz).fn k2
      have e : N.length - 2 + 1 = N.length - 1 := by omega
      rw [e] at k4
      obtain ⟨p, vl', x1, x2, x3, x4, x5⟩ := ok.gw h1
      obtain ⟨q, vg', y1, y2, y3, y4, y5⟩ := ok.gw h2
      rw [k3 _ h1] at x1
      cases x1
      rw [k4 _ h2] at y1
      cases y1
      refine ⟨vl', vg', fun p o n1 n2 e => ok.bh p o (by rw [but_ne n2, but_ne n1]; exact e), ⟨ok.zz, ok.zh, fun p o e => ?_⟩, x2, y2, x4, y4, x5, y5⟩
      rcases ok.nb p o e with z | z
      · exact .inl z
      · rw [but_ne (ne_of_none e y2), but_ne (ne_of_none e x2)] at z
        exact .inr z
    · cases h
  · cases h
theorem finH_ok {n : Nat} {r : RX D} {Q : VK} {E : XK} (h : EndH K H Z l g Q E (finH n r ρ')) : ∃ s', gh2 n ρ' = some s' ∧ EndH K H Z l g Q E (r, s') := by
  unfold finH at h
  split at h
  · exact ⟨_, by assumption, h⟩
  · exact h.elim
theorem run_H {N : List Str} {np : Nat} {g0 : GS} {vs : List V} {Q : VK} {E : XK} (h : DS K (fun cls d _ H => E cls d H) t g0) (hs : spH K np (callH np N.length g0) vs H Q E) : tGh (N.length - 2) (N.length - 1) t { nx := fun _ H' => Q .non H', rt := Q } (L2.start N vs) H := by
  obtain ⟨hl, Z, a, l, g, rest, ds, s, rfl, hi, ra, q⟩ := hs
  unfold callH at q
  split at q
  · exact q.elim
  rename_i hc
  have hN : rest.length + 3 ≤ N.length := by rw [List.length_cons] at hl; omega
  have ok := ok_startH (N := N) hi ra hN
  refine ⟨_, _, h _ _ _ _ _ _ _ _ ok ?_⟩
  cases e' : g0 (envH N.length s ds) with
  | rt d ρ' =>
    rw [e'] at q
    obtain ⟨s', h1, q⟩ := finH_ok q
    exact fun v σ' H' Z' ok' r => q v H' Z' (bk_end (N := N) hi (by omega) ok' h1) r
  | nx ρ' =>
    rw [e'] at q
    obtain ⟨s', h1, q⟩ := finH_ok q
    exact fun σ' H' Z' ok' => q .non H' Z' (bk_end (N := N) hi (by omega) ok' h1) .non
  | rf ds' ρ' =>
    rw [e'] at q
    obtain ⟨s', h1, q⟩ := finH_ok q
    intro p ws σ' H' Z' ok' zp bp ap hp r
    obtain ⟨ok2, s2⟩ := ok'.freeze zp bp ap hp
    exact q (.ref p) H' _ (bk_end (N := N) hi (by omega) ok2 h1) (.lst upd_same (r.mono s2))
  | ex c d ρ' =>
    rw [e'] at q
    obtain ⟨s', h1, q⟩ := finH_ok q
    exact fun σ' H' Z' C dx v ok' hc hx r => q C dx v H' Z' (bk_end (N := N) hi (by omega) ok' h1) hc hx r
  | bk ρ' => rw [e'] at q; exact q.elim
  | ct ρ' => rw [e'] at q; exact q.elim
  | bad => rw [e'] at q; exact q.elim
theorem run_H0 {N : List Str} {np : Nat} {g0 : GS} {vs : List V} {Q : VK} {E : XK} (h : DS K (fun _ _ _ _ => False) t g0) (hs : spH K np (callH0 np N.length g0) vs H Q E) : tGh (N.length - 2) (N.length - 1) t { nx := fun _ H' => Q .non H', rt := Q } (L2.start N vs) H := by
  obtain ⟨hl, Z, a, l, g, rest, ds, s, rfl, hi, ra, q⟩ := hs
  unfold callH0 at q
  split at q
  · exact q.elim
  rename_i hc
  have hN : rest.length + 3 ≤ N.length := by rw [List.length_cons] at hl; omega
  have ok := ok_startH (N := N) hi ra hN
  refine ⟨_, _, h _ _ _ _ _ _ _ _ ok ?_⟩
  cases e' : g0 (envH N.length s ds) with
  | rt d ρ' =>
    rw [e'] at q
    obtain ⟨s', h1, q⟩ := finH_ok q
    exact fun v σ' H' Z' ok' r => q v H' Z' (bk_end (N := N) hi (by omega) ok' h1) r
  | nx ρ' =>
    rw [e'] at q
    obtain ⟨s', h1, q⟩ := finH_ok q
    exact fun σ' H' Z' ok' => q .non H' Z' (bk_end (N := N) hi (by omega) ok' h1) .non
  | rf ds' ρ' =>
    rw [e'] at q
    obtain ⟨s', h1, q⟩ := finH_ok q
    intro p ws σ' H' Z' ok' zp bp ap hp r
    obtain ⟨ok2, s2⟩ := ok'.freeze zp bp ap hp
    exact q (.ref p) H' _ (bk_end (N := N) hi (by omega) ok2 h1) (.lst upd_same (r.mono s2))
  | ex c d ρ' => rw [e'] at q; exact q.elim
  | bk ρ' => rw [e'] at q; exact q.elim
  | ct ρ' => rw [e'] at q; exact q.elim
  | bad => rw [e'] at q; exact q.elim
end
end DL
namespace DL
open PySem PySem.Spec PyProof.Rows L2
/-- the class Hall -/
structure HallC (K : PySem.W.Frag) (C : Addr) : Prop where
  c : DL.Cls K "Hall" C
  k : L2.Cls K C
  nr : NoAttr K C "own_rows"
  nl : NoAttr K C "own_log"
theorem cls_fn {K : PySem.W.Frag} {n : PySem.Str} {C C' : Addr} (h : DL.Cls K n C) (h' : DL.Cls K n C') : C = C' := by
  have e : PySem.W.nsIn K mainGlobals n = some (some (.ref C)) := h
  have e' : PySem.W.nsIn K mainGlobals n = some (some (.ref C')) := h'
  rw [e] at e'
  cases e'
  rfl
section
variable {X : Cx} {CX : CXT} {k : Nat} {f C : Addr} {fd : FuncData} {ps : List PySem.Str} {sp : Sp} {E : L2.St → XK} {m : PySem.Str} {apos pos : Pos} {e o : Expr} {es : List Expr} {ta : TE} {t : TA}
def tMethS (C : Addr) (m : PySem.Str) (sp : Sp) (E : L2.St → XK) (ta : TE) (t : TA) : TE := fun σ H Q => ta σ H fun x H1 => ∃ a dx fs, x = .ref a ∧ H1 a = some (.ins C dx fs) ∧ fs.lookup m = none ∧ t σ H1 fun vs H2 => sp (x :: vs) H2 Q (E σ)
theorem pe_methS {pl : Sem Bool} (he : PE X o ta) (c : L2.Cls X.K C) (hm : Meth X.K C m f) (F : FnOk X.prog X.w X.K X.mg X.base CX k f fd ps sp) (hr : Room k X.A) (hb : Binds X.K fd ps []) (hx : ∀ σ, PassesAt CX X σ (E σ)) (ha : PA X (e :: es) t)
    (hst : starEach (e :: es) X.env = (false, eval e X.env) :: starEach es X.env := by rfl) (hpl : (backTo pos (starEach es X.env)).any (·.1) = false := by rfl)
    (ht : eval (.Call (.Attribute o m apos) (e :: es) [] pos) X.env = (do
      let ov ← eval o X.env
      standAt apos.atName
      let (f, first) ← holding [ov] (getMethod ov m pl)
      callWith pos f first (backTo pos (starEach (e :: es) X.env)) (backToKw pos (keywordEach [] X.env))) := by rfl) :
    PE X (.Call (.Attribute o m apos) (e :: es) [] pos) (tMethS C m sp E ta t) := by
  refine ⟨fun pins s σ H Q I h => ?_⟩
  refine PySem.W.methodCall_KW (pl := pl) (thn (he.run pins s σ H _ I h) fun u s1 ⟨x, H1, I1, rx, a, dx, fs, ex, ea, l, q⟩ => ?_) ht
  subst ex
  obtain rfl : u = Value.ref a := rx
  refine getmeth_ok I1 ea c hm l ?_
  refine PySem.W.callWith_K (first := [.ref a]) (h₀ := X.base) I.ok.mod.kin hm.kp (thn (ha.run pos pins s1 σ H1 _ I1 q) fun us s2 ⟨vs, H2, I2, r, q2⟩ => ⟨I2.kIn, ?_⟩) hst hpl
  exact run_fnS (us := .ref a :: us) (vs := .ref a :: vs) F hr hb (hx σ) I2 (.cons rfl r) q2
end
section
variable {K : PySem.W.Frag} {Wx : WX} {ta tb te : TE} {tt tu : TT} {tas : TA} {t u : TS} {b0 : Bx} {B Z0 Z Z' Z1 H H' H1 : Hp} {σ : L2.St} {ρ ρ' ρ1 : Rho} {p a l g C : Addr} {o o' : HO} {i j : Nat}
theorem Ok.hall {r w : List D} (ok : Ok K b0 B Z0 Z H σ ρ) (hi : ρ[i]? = some (.hl j)) (h1 : ρ[j]? = some (.gw r)) (h2 : ρ[j + 1]? = some (.gw w)) :
    ∃ a l g, σ[i]? = some (some (.ref a)) ∧ InH K H Z a l g (r, w) ∧ σ[j]? = some (some (.ref l)) ∧ σ[j + 1]? = some (some (.ref g)) := by
  obtain ⟨a, l, g, k1, k2, k3, k4⟩ := ok.lnk i j hi
  obtain ⟨p, vl, x1, x2, x3, x4, x5⟩ := ok.gw h1
  obtain ⟨q, vg, y1, y2, y3, y4, y5⟩ := ok.gw h2
  have s1 := k3 _ h1
  have s2 := k4 _ h2
  rw [s1] at x1
  cases x1
  rw [s2] at y1
  cases y1
  exact ⟨a, l, g, k1, ⟨vl, vg, ok.zh, k2, x2, y2, fun z => by subst z; exact absurd (ok.sepS j (j + 1) l _ _ h1 h2 rfl rfl s1 s2) (by omega), x4, y4, x5, y5⟩, s1, s2⟩
def RH.at (x : RH) (j : Nat) (ρ : Rho) : R D := match x with
  | (.ok d, s) => .ok d ((ρ.set j (.gw s.1)).set (j + 1) (.gw s.2))
  | (.ex c d, s) => .ex c d ((ρ.set j (.gw s.1)).set (j + 1) (.gw s.2))
  | (.bad, _) => .bad
def eCallH (F : HS → List D → RH) (i : Nat) (ga : GA) (ρ : Rho) : R D := match ρ[i]? with
  | some (.hl _) => (match ga ρ with
    | .ok os ρ1 => (match ρ1[i]?, valA os with
      | some (.hl j), some ds => (match ρ1[j]?, ρ1[j + 1]? with
        | some (.gw r), some (.gw w) => (F (r, w) ds).at j ρ1
        | _, _ => .bad)
      | _, _ => .bad)
    | _ => .bad)
  | _ => .bad
theorem callH_ok {F : HS → List D → RH} {ga : GA} (h : eCallH F i ga ρ ≠ .bad) : ∃ j0 os ρ1 ds j r w, ρ[i]? = some (.hl j0) ∧ ga ρ = .ok os ρ1 ∧ ρ1[i]? = some (.hl j) ∧ valA os = some ds ∧ ρ1[j]? = some (.gw r) ∧ ρ1[j + 1]? = some (.gw w) ∧ eCallH F i ga ρ = (F (r, w) ds).at j ρ1 := by
  generalize e : eCallH F i ga ρ = x at *
  unfold eCallH at e
  split at e
  · rename_i j0 h0
    split at e
    · rename_i os ρ1 h1
      split at e
      · rename_i j ds h2 h3
        split at e
        · rename_i r w h4 h5
          exact ⟨j0, os, ρ1, ds, j, r, w, h0, h1, h2, h3, h4, h5, e.symm⟩
        · exact absurd e.symm h
      · exact absurd e.symm h
    · exact absurd e.symm h
  · exact absurd e.symm h
theorem callH_len {np n : Nat} {g0 : GS} : ∀ s ds, (callH np n g0 s ds).1 ≠ .bad → ds.length + 1 = np := fun s ds h => by
  unfold callH at h
  split at h
  · exact absurd rfl h
  · omega
theorem callH0_len {np n : Nat} {g0 : GS} : ∀ s ds, (callH0 np n g0 s ds).1 ≠ .bad → ds.length + 1 = np := fun s ds h => by
  unfold callH0 at h
  split at h
  · exact absurd rfl h
  · omega
/-- the caller's state behind the call -/
theorem Ok.back {r w : List D} {s' : HS} (ok : Ok K b0 B Z0 Z H σ ρ) (h1 : ρ[j]? = some (.gw r)) (h2 : ρ[j + 1]? = some (.gw w)) (s1 : σ[j]? = some (some (.ref l))) (s2 : σ[j + 1]? = some (some (.ref g))) (b : Bk K H Z H' Z' l g s') :
    Ok K b0 B Z0 Z' H' σ ((ρ.set j (.gw s'.1)).set (j + 1) (.gw s'.2)) := by
  obtain ⟨vl, vg, hh, gr, zl, zg, hl, hg, rl, rg⟩ := b
  exact ok.growG h1 h2 s1 s2 hh gr zl zg hl hg rl rg
theorem Bk.same {s' : HS} (b : Bk K H Z H' Z' l g s') : Same Z Z' := by
  obtain ⟨vl, vg, hh, gr, _⟩ := b
  exact gr.1
theorem spH_run {np : Nat} {F : HS → List D → RH} {vs : List V} {ds : List D} {r w : List D} {Q : VK} (hF : ∀ s ds, (F s ds).1 ≠ .bad → ds.length + 1 = np) (ok1 : Ok K b0 B Z0 Z1 H1 σ ρ1) (s1 : Same Z Z1) (ha : σ[i]? = some (some (.ref a))) (hi : ρ1[i]? = some (.hl j)) (h1 : ρ1[j]? = some (.gw r)) (h2 : ρ1[j + 1]? = some (.gw w))
    (rA : RpA K Z1 vs ds) (s : SatE K Wx b0 B Z0 Z σ Q ((F (r, w) ds).at j ρ1)) : spH K np F (.ref a :: vs) H1 Q (WE Wx σ) := by
  obtain ⟨a', l, g, k1, hin, k3, k4⟩ := ok1.hall hi h1 h2
  rw [ha] at k1
  cases k1
  rcases e : F (r, w) ds with ⟨x, s'⟩
  have hx : x ≠ .bad := fun z => by
    rw [e, z] at s
    exact s
  have hlen : (V.ref a :: vs).length = np := by
    rw [List.length_cons, rA.length]
    exact hF (r, w) ds (by rw [e]; exact hx)
  refine ⟨hlen, Z1, a, l, g, vs, ds, (r, w), rfl, hin, rA, ?_⟩
  rw [e] at s ⊢
  cases x with
  | ok d => exact fun v H' Z' b rv => s v H' Z' (ok1.back h1 h2 k3 k4 b) (s1.trans b.same) rv
  | ex c d => exact fun C dx v H' Z' b hc hdx rv => s H' Z' C dx v (ok1.back h1 h2 k3 k4 b) (s1.trans b.same) hc hdx rv
  | bad => exact s.elim
/-- a call that comes back with data asks nothing of exceptions -/
theorem spH_runE {np : Nat} {F : HS → List D → RH} {vs : List V} {ds : List D} {r w : List D} {Q : VK} {E : XK} {d : D} (hF : ∀ s ds, (F s ds).1 ≠ .bad → ds.length + 1 = np) (ok1 : Ok K b0 B Z0 Z1 H1 σ ρ1) (s1 : Same Z Z1) (ha : σ[i]? = some (some (.ref a))) (hi : ρ1[i]? = some (.hl j)) (h1 : ρ1[j]? = some (.gw r)) (h2 : ρ1[j + 1]? = some (.gw w))
    (rA : RpA K Z1 vs ds) (e0 : (F (r, w) ds).at j ρ1 = .ok d ρ') (q : ∀ v H' Z', Ok K b0 B Z0 Z' H' σ ρ' → Same Z Z' → Rp K Z' v d → Q v H') : spH K np F (.ref a :: vs) H1 Q E := by
  obtain ⟨a', l, g, k1, hin, k3, k4⟩ := ok1.hall hi h1 h2
  rw [ha] at k1
  cases k1
  rcases e : F (r, w) ds with ⟨x, s'⟩
  have hx : x ≠ .bad := fun z => by
    rw [e, z] at e0
    cases e0
  have hlen : (V.ref a :: vs).length = np := by
    rw [List.length_cons, rA.length]
    exact hF (r, w) ds (by rw [e]; exact hx)
  refine ⟨hlen, Z1, a, l, g, vs, ds, (r, w), rfl, hin, rA, ?_⟩
  rw [e] at e0 ⊢
  cases x with
  | ok d => cases e0; exact fun v H' Z' b rv => q v H' Z' (ok1.back h1 h2 k3 k4 b) (s1.trans b.same) rv
  | ex c d => cases e0
  | bad => cases e0
theorem de_callH {np : Nat} {F : HS → List D → RH} {ga : GA} {E : XK} (hF : ∀ s ds, (F s ds).1 ≠ .bad → ds.length + 1 = np) (ha : DA K tas ga) : DE K (tCall (spH K np F) [] E (tCons (tVar i) tas)) (eCallH F i ga) := fun b0 B Z0 Z H σ ρ d ρ' Q ok e q => by
  obtain ⟨j0, os, ρ1, ds, j, r, w, h0, h1, h2, h3, h4, h5, h6⟩ := callH_ok (by rw [e]; exact fun z => nomatch z)
  rw [h6] at e
  obtain ⟨a, l, g, k1, _⟩ := ok.lnk i j0 h0
  refine ⟨.ref a, k1, ha b0 B Z0 Z H σ ρ os ρ1 _ ok h1 fun vs H1 Z1 ok1 s1 r1 => ?_⟩
  show spH K np F ((.ref a :: vs) ++ []) H1 Q E
  rw [List.append_nil]
  exact spH_runE hF ok1 s1 k1 h2 h4 h5 (valA_ok r1 h3) e q
theorem xd_callH {np : Nat} {F : HS → List D → RH} {ga : GA} (hF : ∀ s ds, (F s ds).1 ≠ .bad → ds.length + 1 = np) (ha : DA K tas ga) : XD K Wx (tCallS (spH K np F) (WE Wx) (tCons (tVar i) tas)) (eCallH F i ga) := fun b0 B Z0 Z H σ ρ Q ok s => by
  obtain ⟨j0, os, ρ1, ds, j, r, w, h0, h1, h2, h3, h4, h5, h6⟩ := callH_ok (F := F) (i := i) (ga := ga) (ρ := ρ) (fun z => by rw [z] at s; exact s)
  rw [h6] at s
  obtain ⟨a, l, g, k1, _⟩ := ok.lnk i j0 h0
  refine ⟨.ref a, k1, ha b0 B Z0 Z H σ ρ os ρ1 _ ok h1 fun vs H1 Z1 ok1 s1 r1 => ?_⟩
  exact spH_run hF ok1 s1 k1 h2 h4 h5 (valA_ok r1 h3) s
theorem Ok.ins (ok : Ok K b0 B Z0 Z H σ ρ) (hc : HallC K C) (hi : ρ[i]? = some (.hl j)) : ∃ a dx l g, σ[i]? = some (some (.ref a)) ∧ H a = some (hallO C dx l g) ∧ (∀ ds, ρ[j]? = some (.gw ds) → σ[j]? = some (some (.ref l))) ∧ (∀ ds, ρ[j + 1]? = some (.gw ds) → σ[j + 1]? = some (some (.ref g))) := by
  obtain ⟨a, l, g, k1, ⟨C', dx, hc', ha⟩, k3, k4⟩ := ok.lnk i j hi
  obtain rfl := cls_fn hc.c hc'
  exact ⟨a, dx, l, g, k1, ok.zh _ _ ha, k3, k4⟩
theorem de_methH {np : Nat} {F : HS → List D → RH} {ga : GA} {E : XK} {m : PySem.Str} (hc : HallC K C) (hm : ∀ l g : V, ([("own_rows", l), ("own_log", g)] : List (PySem.Str × V)).lookup m = none) (hF : ∀ s ds, (F s ds).1 ≠ .bad → ds.length + 1 = np) (ha : DA K tas ga) :
    DE K (tMeth C m (spH K np F) [] E (tVar i) tas) (eCallH F i ga) := fun b0 B Z0 Z H σ ρ d ρ' Q ok e q => by
  obtain ⟨j0, os, ρ1, ds, j, r, w, h0, h1, h2, h3, h4, h5, h6⟩ := callH_ok (by rw [e]; exact fun z => nomatch z)
  rw [h6] at e
  obtain ⟨a, dx, l, g, k1, k2, _⟩ := ok.ins hc h0
  refine ⟨.ref a, k1, a, dx, _, rfl, k2, hm _ _, ha b0 B Z0 Z H σ ρ os ρ1 _ ok h1 fun vs H1 Z1 ok1 s1 r1 => ?_⟩
  show spH K np F (.ref a :: (vs ++ [])) H1 Q E
  rw [List.append_nil]
  exact spH_runE hF ok1 s1 k1 h2 h4 h5 (valA_ok r1 h3) e q
theorem xd_methH {np : Nat} {F : HS → List D → RH} {ga : GA} {m : PySem.Str} (hc : HallC K C) (hm : ∀ l g : V, ([("own_rows", l), ("own_log", g)] : List (PySem.Str × V)).lookup m = none) (hF : ∀ s ds, (F s ds).1 ≠ .bad → ds.length + 1 = np) (ha : DA K tas ga) :
    XD K Wx (tMethS C m (spH K np F) (WE Wx) (tVar i) tas) (eCallH F i ga) := fun b0 B Z0 Z H σ ρ Q ok s => by
  obtain ⟨j0, os, ρ1, ds, j, r, w, h0, h1, h2, h3, h4, h5, h6⟩ := callH_ok (F := F) (i := i) (ga := ga) (ρ := ρ) (fun z => by rw [z] at s; exact s)
  rw [h6] at s
  obtain ⟨a, dx, l, g, k1, k2, _⟩ := ok.ins hc h0
  refine ⟨.ref a, k1, a, dx, _, rfl, k2, hm _ _, ha b0 B Z0 Z H σ ρ os ρ1 _ ok h1 fun vs H1 Z1 ok1 s1 r1 => ?_⟩
  exact spH_run hF ok1 s1 k1 h2 h4 h5 (valA_ok r1 h3) s
def oRows (i : Nat) (ρ : Rho) : R Op := match ρ[i]? with
  | some (.hl j) => (match ρ[j]? with
    | some (.gw _) => .ok (.own j) ρ
    | _ => .bad)
  | _ => .bad
theorem do_rows (hc : HallC K C) : DO K (L2.tFld K (tVar i) "own_rows") (oRows i) := fun b0 B Z0 Z H σ ρ o ρ' Q ok e q => by
  unfold oRows at e
  split at e
  · rename_i j hi
    split at e
    · rename_i ds hj
      cases e
      obtain ⟨a, dx, l, g, k1, k2, k3, _⟩ := ok.ins hc hi
      exact ⟨.ref a, k1, a, C, dx, _, .ref l, rfl, k2, hc.k, hc.nr, rfl, q (.ref l) H Z ok (Same.refl Z) (k3 _ hj)⟩
    · cases e
  · cases e
theorem Ok.rewriteG {ds es : List D} {vs' : List V} (ok : Ok K b0 B Z0 Z H σ ρ) (h : ρ[j]? = some (.gw ds)) (hp : σ[j]? = some (some (.ref p))) (r : RpA K Z vs' es) : Ok K b0 B Z0 Z (upd H p (.lst vs')) σ (ρ.set j (.gw es)) := by
  obtain ⟨q, vs, e1, e2, e3, e4, e5⟩ := ok.gw h
  rw [hp] at e1
  cases e1
  refine ok.growS (fun i => i = j) (by rw [List.length_set]) (fun i s e => ?_) (fun q o e n => ?_) ⟨Same.refl Z, fun q o e => ?_, fun q o e => .inl e⟩
  · rcases set_get e with ⟨rfl, rfl⟩ | ⟨n1, e⟩
    · exact .inr ⟨_, p, _, rfl, h, rfl, rfl, rfl, hp, e2, upd_same, vs', rfl, r⟩
    · exact .inl ⟨fun z => n1 z.symm, e⟩
  · rw [upd_ne fun z => n j _ rfl h rfl (by rw [hp, z])]
    exact e
  · rw [upd_ne (ne_of_none e e2)]
    exact ok.zh q o e
/-- self.own_rows.append(e), e may raise -/
def sAppR (i : Nat) (g : GE) (ρ : Rho) : O := match ρ[i]? with
  | some (.hl j) => (match ρ[j]? with
    | some (.gw _) => (g ρ).toX fun d ρ1 => (match ρ1[j]? with
      | some (.gw ds) => if ds.length < sizeLine then .nx (ρ1.set j (.gw (ds ++ [d]))) else .bad
      | _ => .bad)
    | _ => .bad)
  | _ => .bad
theorem ds_appR {g : GE} (hc : HallC K C) (h : XD K Wx te g) : DS K Wx (tDrop (tBM K "list" rAppend (L2.tFld K (tVar i) "own_rows") (tCons te tNil))) (sAppR i g) := fun b0 B Z0 Z H σ ρ E ok s => by
  unfold sAppR at s
  split at s
  · rename_i j hi
    split at s
    · rename_i ds0 hj
      obtain ⟨a, dx, l, g', k1, k2, k3, _⟩ := ok.ins hc hi
      have sl := k3 _ hj
      obtain ⟨q, vs0, f1, _, _, f4, _⟩ := ok.gw hj
      rw [sl] at f1
      cases f1
      refine ⟨.ref a, k1, a, C, dx, _, .ref l, rfl, k2, hc.k, hc.nr, rfl, .inl ⟨rfl, vs0, .inl (.inl f4)⟩, ?_⟩
      refine h b0 B Z0 Z H σ ρ _ ok (Sat.toX s ok fun d ρ1 e1 s v H1 Z1 ok1 r1 => ?_)
      split at s
      · rename_i ds hi1
        split at s
        · rename_i hs
          obtain ⟨q, vs, y1, y2, y3, y4, y5⟩ := ok1.gw hi1
          rw [sl] at y1
          cases y1
          exact ⟨l, vs, v, rfl, rfl, y4, by rw [y5.length]; exact hs, s σ _ Z1 (ok1.rewriteG hi1 sl (y5.append (.one r1)))⟩
        · exact s.elim
      · exact s.elim
    · exact s.elim
  · exact s.elim
/-- self.own_rows.pop() -/
def sPopR (i : Nat) (ρ : Rho) : O := match ρ[i]? with
  | some (.hl j) => (match ρ[j]? with
    | some (.gw ds) => if ds.isEmpty then .bad else .nx (ρ.set j (.gw ds.dropLast))
    | _ => .bad)
  | _ => .bad
theorem ds_popR (hc : HallC K C) : DS K Wx (tDrop (tBM0 K "list" rPop (L2.tFld K (tVar i) "own_rows"))) (sPopR i) := fun b0 B Z0 Z H σ ρ E ok s => by
  unfold sPopR at s
  split at s
  · rename_i j hi
    split at s
    · rename_i ds hj
      split at s
      · exact s.elim
      · rename_i he
        obtain ⟨a, dx, l, g', k1, k2, k3, _⟩ := ok.ins hc hi
        have sl := k3 _ hj
        obtain ⟨q, vs, f1, f2, f3, f4, f5⟩ := ok.gw hj
        rw [sl] at f1
        cases f1
        have hl := f5.length
        have hn : 0 < vs.length := by
          rw [hl]
          cases ds with
          | nil => exact absurd rfl he
          | cons _ _ => exact Nat.succ_pos _
        have g : vs[vs.length - 1]? = some vs[vs.length - 1] := List.getElem?_eq_getElem (by omega)
        refine ⟨.ref a, k1, a, C, dx, _, .ref l, rfl, k2, hc.k, hc.nr, rfl, .inl ⟨rfl, vs, .inl (.inl f4)⟩, l, vs, _, rfl, rfl, f4, g, s σ _ Z (ok.rewriteG hj sl ?_)⟩
        rw [List.dropLast_eq_take, List.dropLast_eq_take, hl]
        exact f5.take _
    · exact s.elim
  · exact s.elim
end
end DL
namespace DL
open PySem PySem.Spec PyProof.Rows L2
/-- a def of the text with defaults -/
structure FunD (K : PySem.W.Frag) (x qual : PySem.Str) (st : Stmt) (f : Addr) (fd : FuncData) : Prop where
  ex : ∃ (oc : Value) (od : Option Addr) (dV kV doc pm : Value) (an : Option Addr) (cdv ct : Value) (osl : Array (Option Value)),
    fd = PySem.W.fnOf x qual (defArgs st) (defBody st) (defScope st) dV kV doc pm an cdv ct ∧ K.lookup f = some ⟨oc, od, .func fd, osl⟩ ∧ PySem.W.codeIn K cdv qual = true ∧ ∃ (T : Addr) (o : Obj) (v : Value) (n : Nat), dV = .ref T ∧ K.lookup T = some o ∧ o.data = .seq #[v] n
  kp : PySem.W.keepIn K (.ref f) = true
section
variable {P : Program} {w : World} {K : PySem.W.Frag} {mg : PySem.Str → Option Value} {base : Heap}
theorem FunD.ok {x qual : PySem.Str} {st : Stmt} {f : Addr} {fd : FuncData} {N ps : List PySem.Str} {k : Nat} {sp : Sp} (F : FunD K x qual st f fd) (S : FnScope N ps (defScope st)) (len : ∀ vs H Q E, sp vs H Q E → vs.length = ps.length)
    (hbody : ∀ (cdv : Value) (A : Around) (outer : List Env) (s : Shared) (H : Hp) (vs : List V) (Q : VK) (E : XK), Room k (A.deeper (envOfC qual (defScope st) s.heap.objs.size f cdv)) → sp vs H Q E →
      ∃ t, PSs (cxOf CX0 P w K mg base N qual (defScope st) f cdv A outer s H E).nox (defBody st) t ∧ t { nx := fun _ H' => Q .non H', rt := Q } (L2.start N vs) H) : FnOk P w K mg base CX0 (k + 1) f fd ps sp := by
  obtain ⟨oc, od, dV, kV, doc, pm, an, cdv, ct, osl, rfl, lk, hcd, _⟩ := F.ex
  refine fn_of lk hcd S len fun A outer s H vs Q E hr hsp => ?_
  obtain ⟨t, h, q⟩ := hbody cdv A outer s H vs Q E hr hsp
  exact ⟨t, h.nox, q⟩
theorem FunD.binds {x qual : PySem.Str} {st : Stmt} {f : Addr} {fd : FuncData} {ps : List PySem.Str} (F : FunD K x qual st f fd)
    (h : ∀ (T : Addr) (v kV doc pm : Value) (an : Option Addr) (cdv ct : Value) (us : List Value), us.length = ps.length →
      ∃ k, bindArgs (PySem.W.fnOf x qual (defArgs st) (defBody st) (defScope st) (.ref T) kV doc pm an cdv ct) ⟨us, []⟩ = seqItems? (.ref T) >>= k ∧ k (some #[v]) = pure (ps.zip us)) : Binds K fd ps [] := by
  obtain ⟨oc, od, dV, kV, doc, pm, an, cdv, ct, osl, rfl, lk, hcd, T, o, v, n, rfl, lT, oT⟩ := F.ex
  intro s us X hl
  rw [List.append_nil] at hl ⊢
  obtain ⟨k, e1, e2⟩ := h T v kV doc pm an cdv ct us hl
  refine BindsTo.of_looks fun M => ?_
  rw [e1]
  exact looks_items X lT oT (.of_pure e2)
end
section
variable {K : PySem.W.Frag} {Wx : WX} {ta tb te : TE} {tt tu : TT} {tas : TA} {t u : TS} {b0 : Bx} {B Z0 Z Z' Z1 H H' H1 : Hp} {σ : L2.St} {ρ ρ' ρ1 : Rho} {p a l g C dx : Addr} {o o' : HO} {i j : Nat}
theorem ok_plain (hl : σ.length = ρ.length) (s : Same Z H) (hp : ∀ (i : Nat) (t : Sl), ρ[i]? = some t → t = .no ∨ ∃ d v, t = .sh d ∧ σ[i]? = some (some v) ∧ Rp K Z v d) : Ok K noB H Z Z H σ ρ := by
  refine ⟨hl, Same.refl H, s, Same.refl Z, fun _ _ e => .inl e, fun i d h => ?_, fun i t h ho => ?_, (fun _ z => nomatch z), fun i j p t u h _ ho _ _ _ => ?_, (fun _ _ z => absurd z hAt_no), fun i j h => ?_⟩
  · rcases hp i _ h with z | ⟨d', v, z, e, r⟩
    · cases z
    · cases z; exact ⟨v, e, r⟩
  · rcases hp i _ h with z | ⟨d', v, z, e, r⟩
    · subst z; cases ho
    · subst z; cases ho
  · rcases hp i _ h with z | ⟨d', v, z, e, r⟩
    · subst z; cases ho
    · subst z; cases ho
  · rcases hp i _ h with z | ⟨d', v, z, e, r⟩
    · cases z
    · cases z
/-- what Hall.__init__ does: gi is what stands in the first row's place -/
def spHI (K : PySem.W.Frag) (gi : GE) : Sp := fun vs H Q E => ∃ Z a C dx v d dt ρ', vs = [.ref a, v] ∧ Same Z H ∧ Z a = none ∧ H a = some (.ins C dx []) ∧ HallC K C ∧ Rp K Z v d ∧ gi [.no, .sh d] = .ok dt ρ' ∧
  ∀ H' Z' l g vl, (∀ p o, p ≠ a → H p = some o → H' p = some o) → Grow H Z Z' H' → H l = none → H g = none → l ≠ g → Z' l = none → Z' g = none → Z' a = none → H' a = some (hallO C dx l g) → H' l = some (.lst vl) → H' g = some (.lst []) → RpA K Z' vl [dt] → Q .non H'
theorem run_HI {gi : GE} {vs : List V} {Q : VK} {E : XK} (h : DE K te gi) (hs : spHI K gi vs H Q E) :
    tSeq (L2.sFld K (tVar 0) (tLst (tCons te tNil)) "own_rows") (L2.sFld K (tVar 0) (tLst tNil) "own_log") { nx := fun _ H' => Q .non H', rt := Q } (L2.start ["self", "row"] vs) H := by
  obtain ⟨Z, a, C, dx, v, d, dt, ρ', rfl, sZ, za, ha, hc, rv, e, q⟩ := hs
  have e0 : L2.start ["self", "row"] [.ref a, v] = [some (.ref a), some v] := rfl
  rw [e0]
  have ok0 : Ok K noB H Z Z H [some (.ref a), some v] [.no, .sh d] := by
    refine ok_plain rfl sZ fun i t ht => ?_
    match i, ht with
    | 0, ht => cases ht; exact .inl rfl
    | 1, ht => cases ht; exact .inr ⟨d, v, rfl, rfl, rv⟩
    | i + 2, ht => cases ht
  refine h noB H Z Z H _ _ dt ρ' _ ok0 e fun v1 H1 Z1 ok1 s1 r1 => ?_
  refine ⟨by show 1 ≤ sizeLine; rw [sizeLine_eq]; decide, fun l hl => ?_⟩
  have ha1 : H1 a = some (.ins C dx []) := ok1.bh _ _ ha
  have nal : a ≠ l := ne_of_none ha1 hl
  refine ⟨.ref a, rfl, a, C, dx, [], rfl, by rw [upd_ne nal]; exact ha1, hc.k, hc.nr, by decide, ?_⟩
  refine ⟨by rw [sizeLine_eq]; decide, fun g hg => ?_⟩
  have nga : g ≠ a := fun z => by subst z; rw [upd_same] at hg; cases hg
  rw [upd_ne nga] at hg
  have ngl : g ≠ l := fun z => by subst z; rw [upd_same] at hg; cases hg
  rw [upd_ne ngl] at hg
  refine ⟨.ref a, rfl, a, C, dx, _, rfl, by rw [upd_ne nga.symm, upd_same], hc.k, hc.nl, by show 1 < 1000; decide, ?_⟩
  have za1 : Z1 a = none := by
    cases z : Z1 a with
    | none => rfl
    | some x =>
      rcases ok1.nb a x z with y | y
      · rw [za] at y; cases y
      · rw [ha] at y; cases y
  have hl0 : H l = none := ok1.bh.free hl
  have hg0 : H g = none := ok1.bh.free hg
  have zl : Z1 l = none := ok1.zh.free hl
  have zg : Z1 g = none := ok1.zh.free hg
  have at1 : ∀ p o, p ≠ a → H1 p = some o → (upd (upd (upd (upd H1 l (.lst [v1])) a (.ins C dx (putF "own_rows" (.ref l) []))) g (.lst [])) a (.ins C dx (putF "own_log" (.ref g) (putF "own_rows" (.ref l) [])))) p = some o := fun p o n e => by
    rw [upd_ne n, upd_ne (ne_of_none e hg), upd_ne n, upd_ne (ne_of_none e hl)]
    exact e
  refine q _ Z1 l g [v1] (fun p o n e => at1 p o n (ok1.bh p o e)) ⟨s1, fun p o e => at1 p o (ne_of_none e za1) (ok1.zh p o e), ok1.nb⟩ hl0 hg0 ngl.symm zl zg za1 (by rw [upd_same]; rfl) ?_ ?_ (.one r1)
  · rw [upd_ne nal.symm, upd_ne ngl.symm, upd_ne nal.symm, upd_same]
  · rw [upd_ne nga, upd_same]
/-- no Hall but the one in slot i has a list in the slots j, j + 1 -/
def hlFree (j : Nat) : Rho → Bool
  | [] => true
  | .hl m :: r => (decide (m + 1 < j) || decide (j + 1 < m)) && hlFree j r
  | _ :: r => hlFree j r
theorem hlFree_at : ∀ {ρ : Rho} {i m : Nat}, hlFree j ρ = true → ρ[i]? = some (.hl m) → m + 1 < j ∨ j + 1 < m
  | [], i, m, h, e => by cases i <;> cases e
  | .hl n :: r, 0, m, h, e => by
    cases e
    unfold hlFree at h
    rw [Bool.and_eq_true, Bool.or_eq_true, decide_eq_true_eq, decide_eq_true_eq] at h
    exact h.1
  | .hl n :: r, i + 1, m, h, e => by
    unfold hlFree at h
    rw [Bool.and_eq_true] at h
    exact hlFree_at (ρ := r) h.2 (by simpa using e)
  | .no :: r, 0, m, h, e => nomatch e
  | .sh _ :: r, 0, m, h, e => nomatch e
  | .ow _ :: r, 0, m, h, e => nomatch e
  | .od _ :: r, 0, m, h, e => nomatch e
  | .gw _ :: r, 0, m, h, e => nomatch e
  | .no :: r, i + 1, m, h, e => hlFree_at (ρ := r) h (by simpa using e)
  | .sh _ :: r, i + 1, m, h, e => hlFree_at (ρ := r) h (by simpa using e)
  | .ow _ :: r, i + 1, m, h, e => hlFree_at (ρ := r) h (by simpa using e)
  | .od _ :: r, i + 1, m, h, e => hlFree_at (ρ := r) h (by simpa using e)
  | .gw _ :: r, i + 1, m, h, e => hlFree_at (ρ := r) h (by simpa using e)
/-- a Hall goes into slot i, its lists into the slots j, j + 1 -/
theorem Ok.putHall {vl vg : List V} {rs gs : List D} (ok : Ok K b0 B Z0 Z H σ ρ) (ha : HallAt K Z a l g) (zl : Z l = none) (zg : Z g = none) (bl : B l = none) (bg : B g = none) (al : Apart σ ρ l) (ag : Apart σ ρ g) (ne : l ≠ g) (hl : H l = some (.lst vl)) (hg : H g = some (.lst vg)) (rl : RpA K Z vl rs) (rg : RpA K Z vg gs)
    (hi : 2 ≤ i) (hij : i ≠ j) (hij1 : i ≠ j + 1) (hf : hlFree j (ρ.set i .no) = true) : Ok K b0 B Z0 Z H (((σ.set i (some (.ref a))).set j (some (.ref l))).set (j + 1) (some (.ref g))) (((ρ.set i (.hl j)).set j (.gw rs)).set (j + 1) (.gw gs)) := by
  have len := ok.len
  have W : ∀ {k : Nat} {s : Sl}, (((ρ.set i (.hl j)).set j (.gw rs)).set (j + 1) (.gw gs))[k]? = some s →
      (k = j + 1 ∧ s = .gw gs ∧ (((σ.set i (some (.ref a))).set j (some (.ref l))).set (j + 1) (some (.ref g)))[k]? = some (some (.ref g))) ∨
      (k = j ∧ s = .gw rs ∧ (((σ.set i (some (.ref a))).set j (some (.ref l))).set (j + 1) (some (.ref g)))[k]? = some (some (.ref l))) ∨
      (k = i ∧ s = .hl j ∧ (((σ.set i (some (.ref a))).set j (some (.ref l))).set (j + 1) (some (.ref g)))[k]? = some (some (.ref a))) ∨
      (k ≠ i ∧ k ≠ j ∧ k ≠ j + 1 ∧ ρ[k]? = some s ∧ (((σ.set i (some (.ref a))).set j (some (.ref l))).set (j + 1) (some (.ref g)))[k]? = σ[k]?) := by
    intro k s h
    have hk : k < σ.length := by
      have := (List.getElem?_eq_some_iff.mp h).1
      simp only [List.length_set] at this
      omega
    rcases set_get h with ⟨rfl, rfl⟩ | ⟨n1, h⟩
    · exact .inl ⟨rfl, rfl, List.getElem?_set_self (by simp only [List.length_set]; exact hk)⟩
    · rcases set_get h with ⟨rfl, rfl⟩ | ⟨n2, h⟩
      · exact .inr (.inl ⟨rfl, rfl, by rw [List.getElem?_set_ne n1]; exact List.getElem?_set_self (by rw [List.length_set]; exact hk)⟩)
      · rcases set_get h with ⟨rfl, rfl⟩ | ⟨n3, h⟩
        · exact .inr (.inr (.inl ⟨rfl, rfl, by rw [List.getElem?_set_ne n1, List.getElem?_set_ne n2]; exact List.getElem?_set_self hk⟩))
        · exact .inr (.inr (.inr ⟨fun z => n3 z.symm, fun z => n2 z.symm, fun z => n1 z.symm, h, by rw [List.getElem?_set_ne n1, List.getElem?_set_ne n2, List.getElem?_set_ne n3]⟩))
  refine ⟨by simp only [List.length_set]; exact len, ok.bh, ok.zh, ok.zz, ok.nb, fun k d h => ?_, fun k s h ho => ?_, fun b hb ds h => ?_, fun k m p s t h1 h2 o1 o2 e1 e2 => ?_, fun k b hb m h => ?_, fun k m h => ?_⟩
  · rcases W h with ⟨_, z, _⟩ | ⟨_, z, _⟩ | ⟨_, z, _⟩ | ⟨_, _, _, h, e⟩
    · cases z
    · cases z
    · cases z
    · rw [e]; exact ok.sh k d h
  · rcases W h with ⟨rfl, rfl, e⟩ | ⟨rfl, rfl, e⟩ | ⟨_, z, _⟩ | ⟨_, _, _, h, e⟩
    · exact ⟨g, _, e, zg, bg, hg, vg, rfl, rg⟩
    · exact ⟨l, _, e, zl, bl, hl, vl, rfl, rl⟩
    · subst z; cases ho
    · rw [e]; exact ok.own k s h ho
  · rcases W h with ⟨_, z, _⟩ | ⟨_, z, _⟩ | ⟨_, z, _⟩ | ⟨_, _, _, h, e⟩
    · cases z
    · cases z
    · cases z
    · rw [e]; exact ok.fix b hb ds h
  · rcases W h1 with ⟨rfl, rfl, f1⟩ | ⟨rfl, rfl, f1⟩ | ⟨_, z, _⟩ | ⟨_, n1, n1', g1, f1⟩
    · rw [f1] at e1; cases e1
      rcases W h2 with ⟨rfl, rfl, f2⟩ | ⟨rfl, rfl, f2⟩ | ⟨_, z, _⟩ | ⟨_, n2, n2', g2, f2⟩
      · rfl
      · rw [f2] at e2; cases e2; exact absurd rfl ne
      · subst z; cases o2
      · rw [f2] at e2; exact absurd e2 (ag m t g2 o2)
    · rw [f1] at e1; cases e1
      rcases W h2 with ⟨rfl, rfl, f2⟩ | ⟨rfl, rfl, f2⟩ | ⟨_, z, _⟩ | ⟨_, n2, n2', g2, f2⟩
      · rw [f2] at e2; cases e2; exact absurd rfl ne
      · rfl
      · subst z; cases o2
      · rw [f2] at e2; exact absurd e2 (al m t g2 o2)
    · subst z; cases o1
    · rw [f1] at e1
      rcases W h2 with ⟨rfl, rfl, f2⟩ | ⟨rfl, rfl, f2⟩ | ⟨_, z, _⟩ | ⟨_, n2, n2', g2, f2⟩
      · rw [f2] at e2; cases e2; exact absurd e1 (ag k s g1 o1)
      · rw [f2] at e2; cases e2; exact absurd e1 (al k s g1 o1)
      · subst z; cases o2
      · rw [f2] at e2; exact ok.sepS k m p s t g1 g2 o1 o2 e1 e2
  · rcases W h with ⟨_, z, _⟩ | ⟨_, z, _⟩ | ⟨rfl, z, _⟩ | ⟨_, _, _, h, e⟩
    · cases z
    · cases z
    · match k, hi, hb with
      | k + 2, _, hb => cases hb
    · rw [e]; exact ok.fixG k b hb m h
  · rcases W h with ⟨_, z, _⟩ | ⟨_, z, _⟩ | ⟨rfl, z, f⟩ | ⟨ni, nj, nj1, h, e⟩
    · cases z
    · cases z
    · cases z
      refine ⟨a, l, g, f, ha, fun ds e => ?_, fun ds e => ?_⟩
      · rcases W e with ⟨y, _, _⟩ | ⟨_, _, f⟩ | ⟨y, _, _⟩ | ⟨_, y, _⟩
        · omega
        · exact f
        · exact absurd y.symm hij
        · exact absurd rfl y
      · rcases W e with ⟨_, _, f⟩ | ⟨y, _, _⟩ | ⟨y, _, _⟩ | ⟨_, _, y, _⟩
        · exact f
        · omega
        · exact absurd y.symm hij1
        · exact absurd rfl y
    · have hm := hlFree_at hf (i := k) (m := m) (by rw [List.getElem?_set_ne (fun z => ni z.symm)]; exact h)
      obtain ⟨a', l', g', k1, k2, k3, k4⟩ := ok.lnk k m h
      refine ⟨a', l', g', e.trans k1, k2, fun ds e => ?_, fun ds e => ?_⟩
      · rcases W e with ⟨y, _, _⟩ | ⟨y, _, f⟩ | ⟨_, y, _⟩ | ⟨_, _, _, h', f⟩
        · omega
        · omega
        · cases y
        · exact f.trans (k3 ds h')
      · rcases W e with ⟨y, _, _⟩ | ⟨y, _, f⟩ | ⟨_, y, _⟩ | ⟨_, _, _, h', f⟩
        · omega
        · omega
        · cases y
        · exact f.trans (k4 ds h')
/-- h = Hall(e) -/
def sHall (i j : Nat) (gi g : GE) (ρ : Rho) : O := (g ρ).to fun d ρ1 => match gi [.no, .sh d] with
  | .ok dt _ => if hlFree j (ρ1.set i .no) then .nx (((ρ1.set i (.hl j)).set j (.gw [dt])).set (j + 1) (.gw [])) else .bad
  | _ => .bad
theorem ds_hall {gi g : GE} {E' : XK} (hc : HallC K C) (h : DE K te g) (hi : 2 ≤ i := by decide) (hij : i ≠ j := by decide) (hij1 : i ≠ j + 1 := by decide) : DS K Wx (tGhA j (j + 1) (tAsg (tMake C (spHI K gi) [] E' (tCons te tNil)) (gName i))) (sHall i j gi g) := fun b0 B Z0 Z H σ ρ E ok s => by
  obtain ⟨d, ρ1, e, s⟩ := Sat.to s
  split at s
  · rename_i dt ρ2 e2
    split at s
    · rename_i hf
      refine h b0 B Z0 Z H σ ρ d ρ1 _ ok e fun v H1 Z1 ok1 s1 r1 => fun x dx hx hdx ndx => ?_
      have nx : x ≠ dx := fun z => ndx z.symm
      have up : ∀ p o, H1 p = some o → upd (upd H1 dx (.own x)) x (.ins C dx []) p = some o := fun p o e => by rw [upd_ne (ne_of_none e hx), upd_ne (ne_of_none e hdx)]; exact e
      have zx : Z1 x = none := ok1.zh.free hx
      refine ⟨Z1, x, C, dx, v, d, dt, ρ2, rfl, fun p o e => up p o (ok1.zh p o e), zx, upd_same, hc, r1, e2, fun H' Z' l g vl k1 k2 hl0 hg0 nlg zl zg zx' k3 k4 k5 k6 => ⟨rfl, ?_⟩⟩
      have dn : ∀ {q : Addr}, upd (upd H1 dx (.own x)) x (.ins C dx []) q = none → H1 q = none := fun {q} e => by
        cases z : H1 q with
        | none => rfl
        | some o => rw [up q o z] at e; cases e
      have same : Same H1 H' := fun p o e => k1 p o (ne_of_none e hx) (up p o e)
      have ok2 := ok1.grow same ⟨k2.1, k2.2.1, fun p o e => (k2.2.2 p o e).imp id dn⟩
      have apx : ∀ {q : Addr}, H1 q = none → Apart σ ρ1 q := fun {q} hq => apart_new ok1 hq
      obtain ⟨ok3, s3⟩ := ok2.freeze zx' (ok1.bh.free hx) (apx hx) k3
      have nlx : l ≠ x := fun z => by subst z; rw [upd_same] at hl0; cases hl0
      have ngx : g ≠ x := fun z => by subst z; rw [upd_same] at hg0; cases hg0
      have ok4 := ok3.putHall (i := i) (j := j) (a := x) ⟨C, dx, hc.c, upd_same⟩ (by rw [upd_ne nlx]; exact zl) (by rw [upd_ne ngx]; exact zg) (ok1.bh.free (dn hl0)) (ok1.bh.free (dn hg0)) (apx (dn hl0)) (apx (dn hg0)) nlg k4 k5 (k6.mono s3) .nil hi hij hij1 hf
      exact ⟨_, _, s _ H' _ ok4⟩
    · exact s.elim
  · exact s.elim
end
end DL
namespace DL
open PySem PySem.Spec PyProof.Rows L2
section
variable {X : Cx} {K : PySem.W.Frag} {Wx : WX} {to ta tb te : TE} {tt tu : TT} {tas : TA} {t u : TS} {b0 : Bx} {B Z0 Z Z' Z1 H H' H1 : Hp} {σ : L2.St} {ρ ρ' ρ1 : Rho} {p a l g C dx : Addr} {o o' : HO} {i j : Nat}
def partS : D → D → Option D
  | .str a, .str b => if (b.length == 0) = false ∧ a.length ≤ sizeLine then some (.tuple [.str (Txt.partition a b).1, .str (Txt.partition a b).2.1, .str (Txt.partition a b).2.2]) else none
  | _, _ => none
def ePart (f g : GE) (ρ : Rho) : R D := (f ρ).bind fun x ρ1 => (g ρ1).bind fun y ρ2 => R.lift (partS x y) ρ2
theorem de_part {f g : GE} (hf : DE K to f) (hg : DE K te g) : DE K (tM1 (fun x xs H Q => ∃ a b, x = .str a ∧ xs = [.str b] ∧ (b.length == 0) = false ∧ a.length ≤ sizeLine ∧
      ∀ p, H p = none → Q (.ref p) (upd H p (.tup [.str (Txt.partition a b).1, .str (Txt.partition a b).2.1, .str (Txt.partition a b).2.2]))) to te) (ePart f g) := fun b0 B Z0 Z H σ ρ d ρ' Q ok e q => by
  obtain ⟨x, ρ1, e1, e⟩ := R.bind_ok e
  obtain ⟨y, ρ2, e2, e⟩ := R.bind_ok e
  obtain ⟨e3, rfl⟩ := R.lift_ok e
  unfold partS at e3
  split at e3
  · split at e3
    · rename_i hb
      cases e3
      refine hf b0 B Z0 Z H σ ρ _ _ _ ok e1 fun v H1 Z1 ok1 s1 r1 => ?_
      cases r1
      refine ⟨⟨_, rfl⟩, ?_⟩
      refine hg b0 B Z0 Z1 H1 σ ρ1 _ _ _ ok1 e2 fun w H2 Z2 ok2 s2 r2 => ?_
      cases r2
      refine ⟨_, _, rfl, rfl, hb.1, hb.2, fun p hp => ?_⟩
      obtain ⟨ok3, s3⟩ := ok2.new (o := .tup [.str _, .str _, .str _]) hp
      exact q (.ref p) _ _ ok3 ((s1.trans s2).trans s3) (.tup (.inl (.inl upd_same)) (.cons (.str _) (.cons (.str _) (.cons (.str _) .nil))))
    · cases e3
  · cases e3
def gStar1 (K : PySem.W.Frag) (t : TGs) : TG := fun v σ H Q => ∃ a x xs, v = .ref a ∧ SqT K H a (x :: xs) ∧ xs.length ≤ 1000 ∧ ∀ p, H p = none → t [x, .ref p] σ (upd H p (.lst xs)) Q
theorem star_two {prog : Program} {w : World} {A : Around} {E : Value → Shared → Prop} {s : Shared} {l : Addr} {x : Value} {its : List Value} {Q : List Value → Shared → Prop} (hl : IsTup s.heap l (x :: its).toArray) (hh : A.handled = none) (hz : its.length ≤ 1000)
    (h : ∀ (h' : Heap) (tk : Nat), (∀ (b : Addr) (o : Obj), s.heap.get? b = some o → h'.get? b = some o) → Q [x, .ref h'.objs.size] { s with heap := h'.push { cls := .type "list", data := .seq its.toArray }, toks := tk }) : wpAny (model prog w) A (unpackItems (.ref l) 2 (some 1)) Q E s := by
  obtain ⟨ol, hol, _⟩ := id hl
  have hll : l < s.heap.objs.size := Heap.lt_size hol
  unfold unpackItems notIterableAtAll
  refine wpAny_bind (wpAny_bind (wpAny_specialOf hl.typeIs slot_tuple_iter.lookup (wpAny_pure ?_)))
  simp only [Bool.false_eq_true, if_false]
  refine wpAny_bind (wpAny_holding (iter_tuple hl ?_))
  refine wpAny_bind (wpAny_holding (draw_tuple (Nat.ne_of_lt hll) 1 0 _ _ ⟨_, Heap.get?_push_size _ rfl, rfl, rfl⟩ (hl.push _) (by simp) fun h1 hit hs => ?_))
  have hl1 : IsTup h1 l (x :: its).toArray := (hl.push _).extBut hs.extBut (Nat.ne_of_lt hll)
  obtain ⟨oi, hoi, _⟩ := id hit
  obtain ⟨ol1, hol1, _⟩ := id hl1
  have e1 : ((x :: its).toArray.toList.drop 0).take 1 = [x] := rfl
  rw [e1]
  show wpAny _ _ (if ([x] : List Value).length < 1 then _ else _) _ _ _
  rw [if_neg (by simp)]
  refine wpAny_bind (wpAny_holding (PySem.W.kun_collect (s := { s with heap := h1 }) (T := "tuple_iterator") (.inr (.inr (.inr rfl))) (Walks.tuple (A := A.in1) hh s.heap.objs.size l (Nat.ne_of_lt hll) (x :: its).toArray) (fun j u st => st.1.typeIs) (k := 1) (by simp) ⟨hit, hl1⟩ (Heap.lt_size hoi) (Heap.lt_size hol1) (fun h2 tk hk => ?_) (by rw [sizeLine_eq, List.size_toArray, List.length_cons]; omega)))
  have e2 : (x :: its).toArray.toList.drop 1 = its := rfl
  rw [e2]
  show wpAny _ _ (if its.length < 0 then _ else _) _ _ _
  rw [if_neg (Nat.not_lt_zero _)]
  show wpAny _ _ (newList (its.take (its.length - 0)) >>= fun d => pure ([x] ++ [d] ++ its.drop (its.length - 0))) _ _ _
  rw [Nat.sub_zero, List.take_length, List.drop_length]
  refine wpAny_bind (wpAny_newList ?_ (by rw [sizeLine_eq]; omega))
  refine wpAny_pure (h h2 tk fun b o e => ?_)
  have nb : b ≠ s.heap.objs.size := Nat.ne_of_lt (Heap.lt_size e)
  exact hk b o nb (hs.extBut b o nb (Heap.get?_push_of_some _ e))
theorem pg_star1 {e1 e2 : Expr} {k : Nat} {pos spos : Pos} {t : TGs} (hc : X.calm = true) (h : PGs X [e1, e2] t) (he : (assignEach [e1, .Starred e2 spos] X.env).map (·.2) = (assignEach [e1, e2] X.env).map (·.2) := by rfl) (hlen : (assignEach [e1, .Starred e2 spos] X.env).length = 2 := by rfl)
    (hst : (assignEach [e1, .Starred e2 spos] X.env).findIdx? (·.1) = some 1 := by rfl) : PG X (.Tuple [e1, .Starred e2 spos] k pos) (gStar1 X.K t) := by
  refine ⟨fun pins s σ H v u Q I r hw => ?_⟩
  obtain ⟨a, x, xs, ev, hq, hz, hw⟩ := hw
  subst ev
  cases r
  obtain ⟨its, rv, ht, _⟩ := I.tuple hq
  cases rv with
  | @cons _ x' _ its' rx rv =>
  rw [assign_Tuple]
  refine wpAny_bind (wpAny_standAt ?_)
  unfold unpack
  rw [hlen, hst]
  have hl' : its'.length ≤ 1000 := by rw [← rv.length]; exact hz
  refine wpAny_bind (wpAny_holding (star_two ht (I.ok.hd hc) hl' fun h' tk hk => ?_))
  rw [he]
  have I1 : Inv X pins σ H { s with heap := h', toks := tk } := I.kept (t' := tk) hk
  have hf : H h'.objs.size = none := I1.hok.fresh (Nat.le_refl _)
  refine h.run pins _ σ (upd H h'.objs.size (.lst xs)) [x, .ref h'.objs.size] _ Q (I1.laid (t' := tk) (fun b u e => Heap.get?_push_of_some _ e) (Nat.le_refl _) ?_) (.cons rx (.cons rfl .nil)) (hw _ hf)
  exact ⟨by rw [sizeLine_eq]; omega, its', 0, rv, Heap.get?_push_size _ rfl⟩
/-- a, *b = e: the slots i, j -/
def sStar (i j : Nat) (g : GE) (ρ : Rho) : O := (g ρ).to fun d ρ1 => match d with
  | .tuple (x :: xs) => if xs.length ≤ 1000 then .nx ((ρ1.set i (.sh x)).set j (.sh (.list xs))) else .bad
  | _ => .bad
theorem ds_star {g : GE} (h : DE K te g) : DS K Wx (tAsg te (gStar1 K (gCons (gName i) (gCons (gName j) gNil)))) (sStar i j g) := fun b0 B Z0 Z H σ ρ E ok s => by
  obtain ⟨d, ρ1, e, s⟩ := Sat.to s
  split at s
  · rename_i x xs
    split at s
    · rename_i hz
      refine h b0 B Z0 Z H σ ρ _ ρ1 _ ok e fun v H1 Z1 ok1 s1 r1 => ?_
      cases r1 with
      | @tup a vs _ hs ra =>
        cases ra with
        | @cons v0 vs _ _ rx ra =>
          refine ⟨a, v0, vs, rfl, same_t ok1.zh hs, by rw [ra.length]; exact hz, fun p hp => ?_⟩
          obtain ⟨ok2, s2⟩ := ok1.new (o := .lst vs) hp
          exact ⟨v0, [.ref p], rfl, .ref p, [], rfl, rfl, s _ _ _ ((ok2.put (rx.mono s2)).put (.lst upd_same (ra.mono s2)))⟩
    · exact s.elim
  · exact s.elim
def rLenH (C : Addr) (sp : Sp) : List V → Hp → VK → Prop := fun xs H Q => ∃ a dx fs, xs = [.ref a] ∧ H a = some (.ins C dx fs) ∧ sp [.ref a] H (fun v H' => ∃ n : Int, v = .int n ∧ 0 ≤ n ∧ n < 2 ^ 63 ∧ Q v H') E0
theorem call_lenH {k : Nat} {f : Addr} {fd : FuncData} {ps : List PySem.Str} {sp : Sp} (c : L2.Cls X.K C) (hm : PySem.W.findIn X.K (.ref C) "__len__" = some (some (.ref f))) (hf : PySem.W.isFn X.K (.ref f) = true) (F : FnOk X.prog X.w X.K X.mg X.base CX0 k f fd ps sp) (hb : Binds X.K fd ps []) (hr : Room (k + 1) X.A) :
    CallR X (.builtin "len") (rLenH C sp) := by
  intro pins s σ H xs us Q I r h
  obtain ⟨a, dx, fs, rfl, e, hsp⟩ := h
  obtain ⟨u, rfl, ru⟩ := vals1 r
  obtain rfl : u = Value.ref a := ru
  obtain ⟨mA, O, _, _, _, _⟩ := ins_get I.hok e
  obtain ⟨od, J, _⟩ := O.look
  obtain ⟨m, fr⟩ := I.fr
  refine PySem.W.len_K fr I.ok.mod.kin J hm hf ?_
  have hl : ([Value.ref a] : List Value).length = ps.length := F.len _ _ _ _ hsp
  have b := hb s [.ref a] I.kIn (by rw [List.append_nil]; exact hl)
  rw [List.append_nil] at b
  refine wpAny_call (codeAny_mono (F.run X.A.in1 X.stack s H ⟨[.ref a], []⟩ [.ref a] [.ref a] _ E0 hr.in1 I.env0.in1 b (.cons rfl .nil) hsp) fun r s' hq => ?_)
  cases r with
  | error e => exact False.elim hq
  | ok fl =>
    cases fl with
    | ret u =>
      obtain ⟨v, H', I', rv, n, rfl, n0, n1, q⟩ := I.after hq
      obtain ⟨t, rfl⟩ := rv
      exact ⟨⟨n0, n1⟩, .int n, H', I'.tok _, ⟨_, rfl⟩, q⟩
    | next => exact False.elim hq
    | brk => exact False.elim hq
    | cont => exact False.elim hq
def eLenH (F : HS → List D → RH) (i : Nat) (ρ : Rho) : R D := match eCallH F i aNil ρ with
  | .ok (.int n) ρ' => if 0 ≤ n ∧ n < 2 ^ 63 then .ok (.int n) ρ' else .bad
  | _ => .bad
theorem de_lenH {np : Nat} {F : HS → List D → RH} (hc : HallC K C) (hF : ∀ s ds, (F s ds).1 ≠ .bad → ds.length + 1 = np) : DE K (tCB (rLenH C (spH K np F)) (tCons (tVar i) tNil)) (eLenH F i) := fun b0 B Z0 Z H σ ρ d ρ' Q ok e q => by
  unfold eLenH at e
  split at e
  · rename_i n ρ2 e1
    split at e
    · rename_i hn
      cases e
      obtain ⟨j0, os, ρ1, ds, j, r, w, h0, h1, h2, h3, h4, h5, h6⟩ := callH_ok (by rw [e1]; exact fun z => nomatch z)
      rw [h6] at e1
      cases h1
      cases h3
      obtain ⟨a, dx, l, g, k1, k2, _⟩ := ok.ins hc h0
      refine ⟨.ref a, k1, a, dx, _, rfl, k2, ?_⟩
      exact spH_runE hF ok (Same.refl Z) k1 h2 h4 h5 .nil e1 fun v H' Z' ok' s' r' => by
        cases r'
        exact ⟨n, rfl, hn.1, hn.2, q _ H' Z' ok' s' (.int n)⟩
    · cases e
  · cases e
def sTryR (Cs : List PySem.Str) (hs : List (PySem.Str × PySem.Str)) (g : GS) (ρ : Rho) : O := match g ρ with
  | .ex c d ρ' => if Cs.contains c then (match hs.find? (fun p => subC c p.1) with
    | some p => .rt (.str p.2) ρ'
    | none => .ex c d ρ') else .bad
  | o => o
inductive HsL (K : PySem.W.Frag) (Us : List PySem.Str) : List (PySem.Str × PySem.Str) → List (Value × (Addr → Value → Option Addr → TS)) → Prop
  | nil : HsL K Us [] []
  | cons {T x : PySem.Str} {u : Value} {hs : List (PySem.Str × PySem.Str)} {l : List (Value × (Addr → Value → Option Addr → TS))} (e : valOf K T = some u) (hT : T ∈ Us) (r : HsL K Us hs l) : HsL K Us ((T, x) :: hs) ((u, fun _ _ _ => tRet (tC (.str x))) :: l)
theorem hs_own {Us : List PySem.Str} {T x : PySem.Str} {C : Addr} {hs : List (PySem.Str × PySem.Str)} {l : List (Value × (Addr → Value → Option Addr → TS))} (h : DL.Cls K T C) (hT : T ∈ Us) (r : HsL K Us hs l) : HsL K Us ((T, x) :: hs) ((.ref C, fun _ _ _ => tRet (tC (.str x))) :: l) :=
  .cons (by unfold valOf; rw [show PySem.W.nsIn K mainGlobals T = some (some (.ref C)) from h]) hT r
theorem ds_tryR {Cs Us : List PySem.Str} {hs : List (PySem.Str × PySem.Str)} {l : List (Value × (Addr → Value → Option Addr → TS))} {tb : WX → TS} {g : GS} (et : etB K Cs Us = true) (hl : HsL K Us hs l) (h : ∀ W : WX, DS K W (tb W) g) :
    DS K Wx (fun D σ H => tb (L2.wMany K Wx D l) D σ H) (sTryR Cs hs g) := fun b0 B Z0 Z H σ ρ E ok s => by
  refine h _ b0 B Z0 Z H σ ρ E ok ?_
  unfold sTryR at s
  cases e : g ρ with
  | ex c d ρ1 =>
    rw [e] at s
    dsimp only at s
    split at s
    · rename_i hc
      have hc := List.contains_iff_mem.mp hc
      intro σ1 H1 Z1 C dx v ok1 hC hx rv
      induction hl with
      | nil => exact s σ1 H1 Z1 C dx v ok1 hC hx rv
      | @cons T x u hs l e1 hT r ih =>
        refine ⟨subC c T, (et_sub et hT e1 hc hC).2, fun z a ha => ?_, fun z => ih ?_⟩
        · rw [List.find?_cons, z] at s
          exact s (.str x) σ1 H1 Z1 ok1 (.str x)
        · rw [List.find?_cons, z] at s
          exact s
    · exact s.elim
  | nx ρ1 => rw [e] at s; exact s
  | rt d ρ1 => rw [e] at s; exact s
  | rf ds ρ1 => rw [e] at s; exact s
  | bk ρ1 => rw [e] at s; exact s
  | ct ρ1 => rw [e] at s; exact s
  | bad => rw [e] at s; exact s
def keyOfE (e : DictEntry) : PySem.Str := match e.key with
  | .str x _ => x
  | _ => ""
/-- the keys of the dict at d -/
def DKeys (K : PySem.W.Frag) (w : World) (d : Addr) (ks : List PySem.Str) : Prop := ∃ es n, L2.KDict K w d es n ∧ es.toList.map keyOfE = ks
theorem lit_find {P : Params} {x : PySem.Str} : ∀ {es : List DictEntry}, PySem.W.KeysLit P es → (es.any (·.refKey) = false) ∧ (es.find? (·.key.isStr x)).isSome = (es.map keyOfE).contains x
  | [], _ => ⟨rfl, rfl⟩
  | e :: r, h => by
    obtain ⟨⟨y, t, hk, _⟩, h2⟩ := h
    obtain ⟨i1, i2⟩ := lit_find (x := x) h2
    have e1 : e.refKey = false := by unfold DictEntry.refKey; rw [hk]
    have e2 : keyOfE e = y := by unfold keyOfE; rw [hk]
    refine ⟨by rw [List.any_cons, e1, i1]; rfl, ?_⟩
    rw [List.find?_cons, List.map_cons, List.contains_cons, e2]
    have e3 : e.key.isStr x = (x == y) := by
      rw [hk]
      show (y == x) = (x == y)
      exact Bool.beq_comm
    rw [e3]
    cases x == y with
    | true => rfl
    | false => exact i2
theorem DKeys.ns {w : World} {d : Addr} {ks : List PySem.Str} (h : DKeys K w d ks) (x : PySem.Str) : ∃ r, PySem.W.nsIn K d x = some r ∧ r.isSome = ks.contains x := by
  obtain ⟨es, n, ⟨e, lit, _⟩, rfl⟩ := h
  obtain ⟨i1, i2⟩ := lit_find (x := x) lit
  unfold PySem.W.nsIn
  rw [e]
  dsimp only
  cases q : es.toList.find? (·.key.isStr x) with
  | some y => rw [q] at i2; exact ⟨_, rfl, i2⟩
  | none => rw [q] at i2; exact ⟨none, by rw [i1]; rfl, i2⟩
theorem op_inKs {d : Addr} {ks : List PySem.Str} (D : DKeys X.K X.w d ks) : OpR X (compareOp .In) (fun x y H Q => ∃ z, x = .str z ∧ y = .ref d ∧ Q (.bl (ks.contains z)) H) := by
  intro pins s σ H x y v u Q I rx ry h
  obtain ⟨z, rfl, rfl, q⟩ := h
  obtain ⟨r, e1, e2⟩ := D.ns z
  obtain ⟨es, n, kd, _⟩ := D
  exact op_in_kd kd pins s σ H _ _ v u Q I rx ry ⟨z, r, rfl, rfl, e1, by rw [e2]; exact q⟩
def eInK (ks : List PySem.Str) (g : GE) (ρ : Rho) : R D := (g ρ).bind fun x ρ1 => match x with
  | .str z => .ok (.bool (ks.contains z)) ρ1
  | _ => .bad
theorem de_inK {d : Addr} {ks : List PySem.Str} {g : GE} (h : DE K te g) : DE K (tOp (fun x y H Q => ∃ z, x = .str z ∧ y = .ref d ∧ Q (.bl (ks.contains z)) H) te (tC (.ref d))) (eInK ks g) := fun b0 B Z0 Z H σ ρ d ρ' Q ok e q => by
  obtain ⟨x, ρ1, e1, e⟩ := R.bind_ok e
  split at e
  · cases e
    refine h b0 B Z0 Z H σ ρ _ _ _ ok e1 fun v H1 Z1 ok1 s1 r1 => ?_
    cases r1
    exact ⟨_, rfl, rfl, q _ H1 Z1 ok1 s1 (.bl _)⟩
  · cases e
def TupK (K : PySem.W.Frag) (a : Addr) (ks : List PySem.Str) : Prop := ∃ (o : Obj) (its : Array Value) (n : Nat), K.lookup a = some o ∧ o.cls = .type "tuple" ∧ o.data = .seq its n ∧ its.size ≤ sizeLine ∧ Vals (ks.map V.str) its.toList
theorem TupK.rp {a : Addr} {ks : List PySem.Str} (h : TupK K a ks) (Z : Hp) : Rp K Z (.ref a) (.tuple (ks.map .str)) := .tup (.inr h) (RpA.strs ks)
def xCall1 (F : List D → Option D) (g : GE) (ρ : Rho) : R D := (g ρ).bind fun d ρ1 => R.lift (F [d]) ρ1
theorem xd_call1 {F : List D → Option D} {g : GE} {E : XK} (h : XD K Wx te g) (hF : ∀ ds d, F ds = some d → ds.length = 1) : XD K Wx (tCall (spP K 1 F) [] E (tCons te tNil)) (xCall1 F g) := fun b0 B Z0 Z H σ ρ Q ok s => by
  refine h b0 B Z0 Z H σ ρ _ ok ?_
  unfold xCall1 at s
  cases e : g ρ with
  | ok d ρ1 =>
    rw [e] at s
    intro v H1 Z1 ok1 s1 r1
    cases e2 : F [d] with
    | none => rw [R.ok_bind, e2] at s; exact s.elim
    | some c =>
      rw [R.ok_bind, e2] at s
      exact ⟨rfl, Z1, [d], c, ok1.zh, .cons r1 .nil, e2, fun w H2 Z2 hh g r2 => s w H2 Z2 (ok1.grow hh g) (s1.trans g.1) r2⟩
  | ex c d ρ1 => rw [e] at s; exact s
  | bad => rw [e] at s; exact s
def sToX (g : GE) (k : GG) (ρ : Rho) : O := (g ρ).toX fun d ρ1 => match k d ρ1 with
  | some ρ2 => .nx ρ2
  | none => .bad
theorem ds_toX {ws : List Nat} {tg : TG} {g : GE} {k : GG} (h : XD K Wx te g) (h2 : DG K ws tg k) : DS K Wx (tAsg te tg) (sToX g k) := fun b0 B Z0 Z H σ ρ E ok s =>
  h b0 B Z0 Z H σ ρ _ ok (Sat.toX s ok fun d ρ' _ s v H' Z' ok' r => by
    split at s
    · exact h2 b0 B Z0 Z' H' σ ρ' v d _ _ ok' r (by assumption) fun σ' ok2 _ => s σ' H' Z' ok2
    · exact s.elim)
end
end DL
namespace DL
open PySem L2
section
variable {α : Type} (le : α → α → Bool)
def mgF : Nat → List α → List α → List α
  | 0, xs, ys => xs ++ ys
  | _ + 1, [], ys => ys
  | _ + 1, x :: xs, [] => x :: xs
  | n + 1, x :: xs, y :: ys => if le x y = true then x :: mgF n xs (y :: ys) else y :: mgF n (x :: xs) ys
theorem mgF_eq : ∀ (n : Nat) (xs ys : List α), xs.length + ys.length ≤ n → mgF le n xs ys = List.merge xs ys le
  | 0, xs, ys, h => by
    have h1 : xs = [] := List.eq_nil_of_length_eq_zero (by omega)
    have h2 : ys = [] := List.eq_nil_of_length_eq_zero (by omega)
    subst h1 h2
    unfold mgF
    simp
  | n + 1, [], ys, h => by
    unfold mgF
    simp
  | n + 1, x :: xs, [], h => by
    unfold mgF
    simp
  | n + 1, x :: xs, y :: ys, h => by
    unfold mgF
    rw [List.cons_merge_cons]
    simp only [List.length_cons] at h
    rw [mgF_eq n xs (y :: ys) (by rw [List.length_cons]; omega), mgF_eq n (x :: xs) ys (by rw [List.length_cons]; omega)]
def msF : Nat → List α → List α
  | 0, xs => xs
  | _ + 1, [] => []
  | _ + 1, [a] => [a]
  | n + 1, a :: b :: r => mgF le (r.length + 2) (msF n ((a :: b :: r).take ((r.length + 3) / 2))) (msF n ((a :: b :: r).drop ((r.length + 3) / 2)))
theorem msF_eq : ∀ (n : Nat) (xs : List α), xs.length ≤ n → msF le n xs = xs.mergeSort le
  | 0, xs, h => by
    have h1 : xs = [] := List.eq_nil_of_length_eq_zero (by omega)
    subst h1
    unfold msF
    simp
  | n + 1, [], h => by
    unfold msF
    simp
  | n + 1, [a], h => by
    unfold msF
    simp
  | n + 1, a :: b :: r, h => by
    simp only [List.length_cons] at h
    unfold msF
    have l1 : ((a :: b :: r).take ((r.length + 3) / 2)).length = (r.length + 3) / 2 := by simp only [List.length_take, List.length_cons]; omega
    have l2 : ((a :: b :: r).drop ((r.length + 3) / 2)).length = r.length + 2 - (r.length + 3) / 2 := by simp only [List.length_drop, List.length_cons]
    rw [msF_eq n _ (by omega), msF_eq n _ (by omega), mgF_eq le _ _ _ (by rw [List.length_mergeSort, List.length_mergeSort]; omega)]
    conv => rhs; rw [List.mergeSort]
    simp only [List.MergeSort.Internal.splitInTwo_fst, List.MergeSort.Internal.splitInTwo_snd, List.length_cons]
end
def sortDF : List D → Option (List D)
  | [x] => match itemsSD x with
    | some ds => if sortableB ds = true ∧ (ds.all fun d => noD d && decide (d.depth ≤ 50)) = true then some (msF (PySem.W.dataLe false id) ds.length ds) else none
    | none => none
  | _ => none
theorem sortDD_eq : sortDD = sortDF := by
  funext xs
  unfold sortDD sortDF
  match xs with
  | [] => rfl
  | [x] =>
    dsimp only
    cases itemsSD x with
    | none => rfl
    | some ds =>
      dsimp only
      rw [msF_eq _ _ _ (Nat.le_refl _)]
  | _ :: _ :: _ => rfl
theorem sn_sortNF {K : PySem.W.Frag} {r : List V → Hp → VK → Prop} (h : SnAF K r sortDD) : SnAF K r sortDF := sortDD_eq ▸ h
end DL
namespace W
open PySem L2 DL
def topS (i : Nat) : Stmt := PySem.Challenge.pw_middlecall_k68_known_desks.main.body.getD i (.Pass ⟨0, 0, 0, 0⟩)
abbrev CsL : List Str := ["NoPerson", "NoPlace", "Full", "OtherPeople", "Barred", "BadLine"]
abbrev UsL : List Str := ["Full", "Barred", "OtherPeople", "NoPlace", "NoPerson"]
abbrev tl_LookupError : List Value := [.type "LookupError", .type "Exception", .type "BaseException", .type "object"]
abbrev tl_OverflowError : List Value := [.type "OverflowError", .type "ArithmeticError", .type "Exception", .type "BaseException", .type "object"]
abbrev tl_ValueError : List Value := [.type "ValueError", .type "Exception", .type "BaseException", .type "object"]
abbrev tl_RuntimeError : List Value := [.type "RuntimeError", .type "Exception", .type "BaseException", .type "object"]
abbrev si_NoPerson : Stmt := inClass (topS 2) 0
theorem sci_NoPerson : FnScope ["self", "person"] ["self", "person"] (defScope si_NoPerson) := ⟨rfl, rfl, rfl, by decide +kernel, rfl, by decide +kernel, by decide +kernel⟩
abbrev si_NoPlace : Stmt := inClass (topS 3) 0
theorem sci_NoPlace : FnScope ["self", "place"] ["self", "place"] (defScope si_NoPlace) := ⟨rfl, rfl, rfl, by decide +kernel, rfl, by decide +kernel, by decide +kernel⟩
abbrev si_Full : Stmt := inClass (topS 8) 0
theorem sci_Full : FnScope ["self", "many"] ["self", "many"] (defScope si_Full) := ⟨rfl, rfl, rfl, by decide +kernel, rfl, by decide +kernel, by decide +kernel⟩
abbrev si_OtherPeople : Stmt := inClass (topS 4) 0
theorem sci_OtherPeople : FnScope ["self", "many"] ["self", "many"] (defScope si_OtherPeople) := ⟨rfl, rfl, rfl, by decide +kernel, rfl, by decide +kernel, by decide +kernel⟩
abbrev si_Barred : Stmt := inClass (topS 7) 0
theorem sci_Barred : FnScope ["self", "reason"] ["self", "reason"] (defScope si_Barred) := ⟨rfl, rfl, rfl, by decide +kernel, rfl, by decide +kernel, by decide +kernel⟩
abbrev si_BadLine : Stmt := inClass (topS 6) 0
theorem sci_BadLine : FnScope ["self", "at"] ["self", "at"] (defScope si_BadLine) := ⟨rfl, rfl, rfl, by decide +kernel, rfl, by decide +kernel, by decide +kernel⟩
abbrev si_Hall : Stmt := inClass (topS 54) 0
theorem sci_Hall : FnScope ["self", "row"] ["self", "row"] (defScope si_Hall) := ⟨rfl, rfl, rfl, by decide +kernel, rfl, by decide +kernel, by decide +kernel⟩
def gi_Hall : GE := (eApp tupleD (aCons (oE (eV 1)) aNil))
abbrev s__law_folded : Stmt := topS 102
abbrev N__law_folded : List Str := ["_law_script", "_law_most", "_law_cells", "_law_k", "_law_cell"]
theorem sc__law_folded : FnScope N__law_folded ["_law_script", "_law_most"] (defScope s__law_folded) := ⟨rfl, rfl, rfl, by decide +kernel, rfl, by decide +kernel, by decide +kernel⟩
def gb__law_folded_1 : GS :=
    (sPutIx 2 (eOp2 modD (oE (eV 3)) (oE (eV 1))) (eOp2 addU (oE (eOp2 ixD (oV 2) (oE (eOp2 modD (oE (eV 3)) (oE (eV 1)))))) (oE (eOp2 mulV (oE (eV 4)) (oE (eOp2 addU (oE (eV 3)) (oE (eC (.int 2)))))))))
def g__law_folded : GS :=
    (sSeq (sSetO 2 (eOrF (eApp listD (aCons (oE (eSl sliceU (oE (eV 0)) pNo (pSo (eV 1)))) aNil)) (eSeq (aCons (oE (eC (.int 0))) aNil))))
    (sSeq (sFor (eCall enum1D (aCons (oE (eSl sliceU (oE (eV 0)) (pSo (eV 1)) (pSo (eC (.int 63))))) aNil)) (gT 2 (gsCons (gN 3) (gsCons (gN 4) gsNil))) gb__law_folded_1)
    (sRetO 2)))
def F__law_folded : List D → Option (List D) := callF 2 5 g__law_folded
abbrev s__law_draw : Stmt := topS 101
abbrev N__law_draw : List Str := ["_law_source", "_law_bound", "_law_once", "_law_twice", "_law_found"]
theorem sc__law_draw : FnScope N__law_draw ["_law_source", "_law_bound"] (defScope s__law_draw) := ⟨rfl, rfl, rfl, by decide +kernel, rfl, by decide +kernel, by decide +kernel⟩
def g__law_draw (Frec : List D → List D → Option (D × List D)) : GS :=
    (sSeq (sIf (tstE (eOp2 gtD (oE (eOp2 ixD (oV 0) (oE (eC (.int 0))))) (oE (eC (.int 0))))) (sSeq (sSet 4 (eOp2 modD (oE (eOp2 ixD (oV 0) (oE (eC (.int 0))))) (oE (eV 1))))
    (sSeq (sPutIx 0 (eC (.int 0)) (eOp2 fdivD (oE (eOp2 ixD (oV 0) (oE (eC (.int 0))))) (oE (eV 1))))
    (sRet (eV 4))))
    sNext)
    (sSeq (sIf (tstE (eOp2 gtD (oE (eV 1)) (oE (eOp2 powD (oE (eC (.int 10))) (oE (eC (.int 7))))))) (sRet (eOp2 modD (oE (eOp2 addU (oE (eCallB Frec 0 (aCons (oE (eOp2 powD (oE (eC (.int 10))) (oE (eC (.int 7))))) aNil))) (oE (eOp2 mulV (oE (eOp2 powD (oE (eC (.int 10))) (oE (eC (.int 7))))) (oE (eCallB Frec 0 (aCons (oE (eOp2 addU (oE (eOp2 fdivD (oE (eOp2 subD (oE (eV 1)) (oE (eC (.int 1))))) (oE (eOp2 powD (oE (eC (.int 10))) (oE (eC (.int 7))))))) (oE (eC (.int 1))))) aNil))))))) (oE (eV 1))))
    sNext)
    (sSeq (sPutIx 0 (eC (.int 2)) (eOp2 addU (oE (eOp2 ixD (oV 0) (oE (eC (.int 2))))) (oE (eC (.int 1)))))
    (sSeq (sSet 2 (eOp2 modD (oE (eOp2 mulV (oE (eOp2 addU (oE (eOp2 ixD (oV 0) (oE (eC (.int 1))))) (oE (eOp2 mulV (oE (eC (.int 48271))) (oE (eOp2 ixD (oV 0) (oE (eC (.int 2))))))))) (oE (eOp2 addU (oE (eC (.int 39373))) (oE (eOp2 ixD (oV 0) (oE (eC (.int 2))))))))) (oE (eC (.int 2147483647)))))
    (sSeq (sSet 3 (eOp2 modD (oE (eOp2 mulV (oE (eOp2 addU (oE (eOp2 addU (oE (eV 2)) (oE (eOp2 ixD (oV 0) (oE (eC (.int 2))))))) (oE (eOp2 fdivD (oE (eOp2 ixD (oV 0) (oE (eC (.int 1))))) (oE (eC (.int 1000003))))))) (oE (eOp2 addU (oE (eOp2 modD (oE (eV 2)) (oE (eC (.int 40009))))) (oE (eC (.int 7))))))) (oE (eC (.int 2147483629)))))
    (sRet (eOp2 modD (oE (eOp2 fdivD (oE (eOp2 modD (oE (eOp2 addU (oE (eOp2 mulV (oE (eV 3)) (oE (eC (.int 48271))))) (oE (eV 2)))) (oE (eC (.int 2147483587))))) (oE (eC (.int 64))))) (oE (eV 1)))))))))
def F__law_draw : Nat → List D → List D → Option (D × List D)
  | 0 => fun _ _ => none
  | n + 1 => callB 2 5 (g__law_draw (F__law_draw n))
theorem Fl__law_draw : ∀ (n : Nat) b ds d, F__law_draw n b ds = some d → ds.length + 1 = 2
  | 0, b, ds, d, h => nomatch h
  | n + 1, b, ds, d, h => callB_len b ds d h
abbrev s__law_same : Stmt := topS 103
abbrev N__law_same : List Str := ["_law_found", "_law_due", "_law_mine", "_law_its"]
theorem sc__law_same : FnScope N__law_same ["_law_found", "_law_due"] (defScope s__law_same) := ⟨rfl, rfl, rfl, by decide +kernel, rfl, by decide +kernel, by decide +kernel⟩
def ce__law_same_1 (Frec : List D → Option D) : GE :=
    (eCall Frec (aCons (oE (eV 2)) (aCons (oE (eV 3)) aNil)))
def g__law_same (Frec : List D → Option D) : GS :=
    (sSeq (sIf (tstE (eOp1 (isiTD ["list", "tuple"]) (oE (eV 1)))) (sSeq (sIf (tOrG (tstE (eOp2 neW (oE (eOp1 (isiD "list") (oE (eV 0)))) (oE (eOp1 (isiD "list") (oE (eV 1)))))) (tstE (eOp2 neW (oE (eOp1 (isiD "tuple") (oE (eV 0)))) (oE (eOp1 (isiD "tuple") (oE (eV 1))))))) (sRet (eC (.bool false)))
    sNext)
    (sRet (eAndG (eOp2 eqW (oE (eApp lenD (aCons (oE (eV 0)) aNil))) (oE (eApp lenD (aCons (oE (eV 1)) aNil)))) (eApp allD (aCons (oE (eL (eLc [2, 3] (eCall zip2D (aCons (oE (eV 0)) (aCons (oE (eV 1)) aNil))) (gT 2 (gsCons (gN 2) (gsCons (gN 3) gsNil))) gYes (ce__law_same_1 Frec)))) aNil)))))
    sNext)
    (sSeq (sIf (tOrG (tstE (eOp2 isD (oE (eV 1)) (oE (eC .none)))) (tstE (eOp1 (isiTD ["bool", "str"]) (oE (eV 1))))) (sRet (eAndG (eOp2 eqW (oE (eV 0)) (oE (eV 1))) (eAndG (eOp2 eqW (oE (eOp1 (isiD "bool") (oE (eV 0)))) (oE (eOp1 (isiD "bool") (oE (eV 1))))) (eOp2 eqW (oE (eOp2 isD (oE (eV 0)) (oE (eC .none)))) (oE (eOp2 isD (oE (eV 1)) (oE (eC .none))))))))
    sNext)
    (sRet (eAndG (eOp1 (isiD "int") (oE (eV 0))) (eAndG (eNotG (eOp1 (isiD "bool") (oE (eV 0)))) (eOp2 eqW (oE (eV 0)) (oE (eV 1))))))))
def F__law_same : Nat → List D → Option D
  | 0 => fun _ => none
  | n + 1 => callP 2 4 (g__law_same (F__law_same n))
theorem Fl__law_same : ∀ (n : Nat) ds d, F__law_same n ds = some d → ds.length = 2
  | 0, ds, d, h => nomatch h
  | n + 1, ds, d, h => callP_len ds d h
abbrev s_Hall_row : Stmt := inClass (topS 54) 1
abbrev N_Hall_row : List Str := ["self", "0", "1"]
theorem sc_Hall_row : FnScope N_Hall_row ["self"] (defScope s_Hall_row) := ⟨rfl, rfl, rfl, by decide +kernel, rfl, by decide +kernel, by decide +kernel⟩
def g_Hall_row : GS :=
    (sRet (eOp2 ixD (oRows 0) (oE (eOp1 negD (oE (eC (.int 1)))))))
def F_Hall_row : HS → List D → RH := callH0 1 3 g_Hall_row
abbrev s_look_person : Stmt := topS 10
abbrev N_look_person : List Str := ["row", "person"]
theorem sc_look_person : FnScope N_look_person ["row", "person"] (defScope s_look_person) := ⟨rfl, rfl, rfl, by decide +kernel, rfl, by decide +kernel, by decide +kernel⟩
def g_look_person : GS :=
    (sIf (tNotG (tstE (eChain leD ltD (oE (eC (.int 0))) (oE (eV 1)) (oE (eApp lenD (aCons (oE (eV 0)) aNil)))))) (sRaise "NoPerson" (eV 1))
    sNext)
def F_look_person : List D → RX D := callX 2 2 g_look_person
abbrev s_middle_of : Stmt := topS 43
abbrev N_middle_of : List Str := ["row", "person"]
theorem sc_middle_of : FnScope N_middle_of ["row", "person"] (defScope s_middle_of) := ⟨rfl, rfl, rfl, by decide +kernel, rfl, by decide +kernel, by decide +kernel⟩
def g_middle_of : GS :=
    (sSeq (sIf (tstE (eOp2 inD (oE (eV 1)) (oE (eT (eSeq (aCons (oE (eC (.int 0))) (aCons (oE (eOp2 subD (oE (eApp lenD (aCons (oE (eV 0)) aNil))) (oE (eC (.int 1))))) aNil))))))) (sRet (eOp2 ixD (oE (eV 0)) (oE (eV 1))))
    sNext)
    (sRet (eOp2 ixD (oE (eL (eApp sortedD (aCons (oE (eL (eSeq (aCons (oE (eOp2 ixD (oE (eV 0)) (oE (eOp2 subD (oE (eV 1)) (oE (eC (.int 1))))))) (aCons (oE (eOp2 ixD (oE (eV 0)) (oE (eV 1)))) (aCons (oE (eOp2 ixD (oE (eV 0)) (oE (eOp2 addU (oE (eV 1)) (oE (eC (.int 1))))))) aNil)))))) aNil)))) (oE (eC (.int 1))))))
def F_middle_of : List D → Option D := callP 2 2 g_middle_of
abbrev s_called : Stmt := topS 44
abbrev N_called : List Str := ["row", "person", "number", "other", "own"]
theorem sc_called : FnScope N_called ["row", "person"] (defScope s_called) := ⟨rfl, rfl, rfl, by decide +kernel, rfl, by decide +kernel, by decide +kernel⟩
def ce_called_1 : GE :=
    (eIf (tstE (eOp2 eqW (oE (eV 3)) (oE (eV 1)))) (eV 2) (eV 4))
def g_called : GS :=
    (sSeq (sDropX (eCallX F_look_person (aCons (oE (eV 0)) (aCons (oE (eV 1)) aNil))))
    (sSeq (sSet 2 (eCall F_middle_of (aCons (oE (eV 0)) (aCons (oE (eV 1)) aNil))))
    (sRet (eApp tupleD (aCons (oE (eL (eLc [3, 4] (eCall enum1D (aCons (oE (eV 0)) aNil)) (gT 2 (gsCons (gN 3) (gsCons (gN 4) gsNil))) gYes ce_called_1))) aNil)))))
def F_called : List D → RX D := callX 2 5 g_called
abbrev s_Hall_call : Stmt := inClass (topS 54) 7
abbrev N_Hall_call : List Str := ["self", "person", "0", "1"]
theorem sc_Hall_call : FnScope N_Hall_call ["self", "person"] (defScope s_Hall_call) := ⟨rfl, rfl, rfl, by decide +kernel, rfl, by decide +kernel, by decide +kernel⟩
def g_Hall_call : GS :=
    (sSeq (sAppR 0 (eCallX F_called (aCons (oE (eCallH F_Hall_row 0 aNil)) (aCons (oE (eV 1)) aNil))))
    (sRet (eOp2 ixD (oE (eCallH F_Hall_row 0 aNil)) (oE (eV 1)))))
def F_Hall_call : HS → List D → RH := callH 2 4 g_Hall_call
abbrev s_Hall___len__ : Stmt := inClass (topS 54) 19
abbrev N_Hall___len__ : List Str := ["self", "0", "1"]
theorem sc_Hall___len__ : FnScope N_Hall___len__ ["self"] (defScope s_Hall___len__) := ⟨rfl, rfl, rfl, by decide +kernel, rfl, by decide +kernel, by decide +kernel⟩
def g_Hall___len__ : GS :=
    (sRet (eApp lenD (aCons (oE (eOp2 ixD (oRows 0) (oE (eOp1 negD (oE (eC (.int 1))))))) aNil)))
def F_Hall___len__ : HS → List D → RH := callH0 1 3 g_Hall___len__
abbrev s_Hall_come : Stmt := inClass (topS 54) 11
abbrev N_Hall_come : List Str := ["self", "place", "number", "before", "0", "1"]
theorem sc_Hall_come : FnScope N_Hall_come ["self", "place", "number"] (defScope s_Hall_come) := ⟨rfl, rfl, rfl, by decide +kernel, rfl, by decide +kernel, by decide +kernel⟩
def g_Hall_come : GS :=
    (sSeq (sSet 3 (eCallH F_Hall_row 0 aNil))
    (sSeq (sIf (tNotG (tstE (eChain leD leD (oE (eC (.int 0))) (oE (eV 1)) (oE (eApp lenD (aCons (oE (eV 3)) aNil)))))) (sRaise "NoPlace" (eV 1))
    sNext)
    (sSeq (sIf (tstE (eOp2 geD (oE (eApp lenD (aCons (oE (eV 3)) aNil))) (oE (eC (.int 16))))) (sRaise "Full" (eC (.int 16)))
    sNext)
    (sSeq (sAppR 0 (xE (eOp2 addU (oE (eOp2 addU (oE (eSl sliceU (oE (eV 3)) pNo (pSo (eV 1)))) (oE (eT (eSeq (aCons (oE (eV 2)) aNil)))))) (oE (eSl sliceU (oE (eV 3)) (pSo (eV 1)) pNo)))))
    (sRet (eLenH F_Hall___len__ 0))))))
def F_Hall_come : HS → List D → RH := callH 3 6 g_Hall_come
abbrev s_look_many : Stmt := topS 21
abbrev N_look_many : List Str := ["one", "other"]
theorem sc_look_many : FnScope N_look_many ["one", "other"] (defScope s_look_many) := ⟨rfl, rfl, rfl, by decide +kernel, rfl, by decide +kernel, by decide +kernel⟩
def g_look_many : GS :=
    (sIf (tstE (eOp2 neW (oE (eApp lenD (aCons (oE (eV 0)) aNil))) (oE (eApp lenD (aCons (oE (eV 1)) aNil))))) (sRaise "OtherPeople" (eApp lenD (aCons (oE (eV 1)) aNil)))
    sNext)
def F_look_many : List D → RX D := callX 2 2 g_look_many
abbrev s_inner : Stmt := topS 11
abbrev N_inner : List Str := ["row"]
theorem sc_inner : FnScope N_inner ["row"] (defScope s_inner) := ⟨rfl, rfl, rfl, by decide +kernel, rfl, by decide +kernel, by decide +kernel⟩
def g_inner : GS :=
    (sRetF (eRg2 (eC (.int 1)) (eOp2 subD (oE (eApp lenD (aCons (oE (eV 0)) aNil))) (oE (eC (.int 1))))))
def F_inner : List D → Option (List D) := callF 1 1 g_inner
abbrev s_dips : Stmt := topS 14
abbrev N_dips : List Str := ["row", "person"]
theorem sc_dips : FnScope N_dips ["row"] (defScope s_dips) := ⟨rfl, rfl, rfl, by decide +kernel, rfl, by decide +kernel, by decide +kernel⟩
def ct_dips_1 : GT :=
    (tstE (eChain gtD ltD (oE (eOp2 ixD (oE (eV 0)) (oE (eOp2 subD (oE (eV 1)) (oE (eC (.int 1))))))) (oE (eOp2 ixD (oE (eV 0)) (oE (eV 1)))) (oE (eOp2 ixD (oE (eV 0)) (oE (eOp2 addU (oE (eV 1)) (oE (eC (.int 1)))))))))
def ce_dips_2 : GE :=
    (eV 1)
def g_dips : GS :=
    (sRetF (eLc [1] (gSeq (eL (eCall F_inner (aCons (oE (eV 0)) aNil)))) (gN 1) ct_dips_1 ce_dips_2))
def F_dips : List D → Option (List D) := callF 1 2 g_dips
abbrev s_tops : Stmt := topS 12
abbrev N_tops : List Str := ["row", "person"]
theorem sc_tops : FnScope N_tops ["row"] (defScope s_tops) := ⟨rfl, rfl, rfl, by decide +kernel, rfl, by decide +kernel, by decide +kernel⟩
def ct_tops_1 : GT :=
    (tstE (eChain ltD gtD (oE (eOp2 ixD (oE (eV 0)) (oE (eOp2 subD (oE (eV 1)) (oE (eC (.int 1))))))) (oE (eOp2 ixD (oE (eV 0)) (oE (eV 1)))) (oE (eOp2 ixD (oE (eV 0)) (oE (eOp2 addU (oE (eV 1)) (oE (eC (.int 1)))))))))
def ce_tops_2 : GE :=
    (eV 1)
def g_tops : GS :=
    (sRetF (eLc [1] (gSeq (eL (eCall F_inner (aCons (oE (eV 0)) aNil)))) (gN 1) ct_tops_1 ce_tops_2))
def F_tops : List D → Option (List D) := callF 1 2 g_tops
abbrev s_wrong_changes : Stmt := topS 22
abbrev N_wrong_changes : List Str := ["one", "other", "high", "low", "found", "person", "mine", "its"]
theorem sc_wrong_changes : FnScope N_wrong_changes ["one", "other"] (defScope s_wrong_changes) := ⟨rfl, rfl, rfl, by decide +kernel, rfl, by decide +kernel, by decide +kernel⟩
def gb_wrong_changes_1 : GS :=
    (sIf (tNotG (tOrG (tstE (eOp2 eqW (oE (eV 6)) (oE (eV 7)))) (tOrG (tAndG (tstE (eOp2 inD (oE (eV 5)) (oE (eV 2)))) (tstE (eOp2 ltD (oE (eV 7)) (oE (eV 6))))) (tAndG (tstE (eOp2 inD (oE (eV 5)) (oE (eV 3)))) (tstE (eOp2 gtD (oE (eV 7)) (oE (eV 6)))))))) (sApp 4 (eV 5))
    sNext)
def g_wrong_changes : GS :=
    (sSeq (sPar3 2 3 4 (nS (eL (eCall F_tops (aCons (oE (eV 0)) aNil)))) (nS (eL (eCall F_dips (aCons (oE (eV 0)) aNil)))) (nF (eSeq aNil)))
    (sSeq (sFor (eCall enumZipD (aCons (oE (eV 0)) (aCons (oE (eV 1)) aNil))) (gT 2 (gsCons (gN 5) (gsCons (gT 2 (gsCons (gN 6) (gsCons (gN 7) gsNil))) gsNil))) gb_wrong_changes_1)
    (sRetO 4)))
def F_wrong_changes : List D → Option (List D) := callF 2 8 g_wrong_changes
abbrev s_wrong_orders : Stmt := topS 23
abbrev N_wrong_orders : List Str := ["one", "other", "found", "person", "mine", "its"]
theorem sc_wrong_orders : FnScope N_wrong_orders ["one", "other"] (defScope s_wrong_orders) := ⟨rfl, rfl, rfl, by decide +kernel, rfl, by decide +kernel, by decide +kernel⟩
def gb_wrong_orders_1 : GS :=
    (sSeq (sPar 4 5 (nS (eOp2 subD (oE (eOp2 ixD (oE (eV 0)) (oE (eOp2 addU (oE (eV 3)) (oE (eC (.int 1))))))) (oE (eOp2 ixD (oE (eV 0)) (oE (eV 3)))))) (nS (eOp2 subD (oE (eOp2 ixD (oE (eV 1)) (oE (eOp2 addU (oE (eV 3)) (oE (eC (.int 1))))))) (oE (eOp2 ixD (oE (eV 1)) (oE (eV 3)))))))
    (sIf (tOrG (tstE (eChain ltD ltD (oE (eV 4)) (oE (eC (.int 0))) (oE (eV 5)))) (tOrG (tstE (eChain gtD gtD (oE (eV 4)) (oE (eC (.int 0))) (oE (eV 5)))) (tstE (eChain eqW neW (oE (eV 4)) (oE (eC (.int 0))) (oE (eV 5)))))) (sApp 2 (eV 3))
    sNext))
def g_wrong_orders : GS :=
    (sSeq (sSetO 2 (eSeq aNil))
    (sSeq (sFor (eCall rng1 (aCons (oE (eOp2 subD (oE (eApp lenD (aCons (oE (eV 0)) aNil))) (oE (eC (.int 1))))) aNil)) (gN 3) gb_wrong_orders_1)
    (sRetO 2)))
def F_wrong_orders : List D → Option (List D) := callF 2 6 g_wrong_orders
abbrev s_runs : Stmt := topS 16
abbrev N_runs : List Str := ["row", "begins", "person", "first", "last"]
theorem sc_runs : FnScope N_runs ["row"] (defScope s_runs) := ⟨rfl, rfl, rfl, by decide +kernel, rfl, by decide +kernel, by decide +kernel⟩
def ct_runs_1 : GT :=
    (tOrG (tstE (eOp2 eqW (oE (eV 2)) (oE (eC (.int 0))))) (tstE (eOp2 neW (oE (eOp2 ixD (oE (eV 0)) (oE (eV 2)))) (oE (eOp2 ixD (oE (eV 0)) (oE (eOp2 subD (oE (eV 2)) (oE (eC (.int 1))))))))))
def ce_runs_2 : GE :=
    (eV 2)
def ce_runs_3 : GE :=
    (eT (eSeq (aCons (oE (eV 3)) (aCons (oE (eOp2 subD (oE (eV 4)) (oE (eC (.int 1))))) aNil))))
def g_runs : GS :=
    (sSeq (sSet 1 (eL (eLc [2] (eCall rng1 (aCons (oE (eApp lenD (aCons (oE (eV 0)) aNil))) aNil)) (gN 2) ct_runs_1 ce_runs_2)))
    (sRetF (eLc [3, 4] (eCall zip2D (aCons (oE (eV 1)) (aCons (oE (eOp2 addU (oE (eSl sliceU (oE (eV 1)) (pSo (eC (.int 1))) pNo)) (oE (eL (eSeq (aCons (oE (eApp lenD (aCons (oE (eV 0)) aNil))) aNil)))))) aNil))) (gT 2 (gsCons (gN 3) (gsCons (gN 4) gsNil))) gYes ce_runs_3)))
def F_runs : List D → Option (List D) := callF 1 5 g_runs
abbrev s_stayed : Stmt := topS 24
abbrev N_stayed : List Str := ["one", "other", "first", "last", "person"]
theorem sc_stayed : FnScope N_stayed ["one", "other", "first", "last"] (defScope s_stayed) := ⟨rfl, rfl, rfl, by decide +kernel, rfl, by decide +kernel, by decide +kernel⟩
def ct_stayed_1 : GT :=
    (tstE (eOp2 eqW (oE (eOp2 ixD (oE (eV 0)) (oE (eV 4)))) (oE (eOp2 ixD (oE (eV 1)) (oE (eV 4))))))
def ce_stayed_2 : GE :=
    (eV 4)
def g_stayed : GS :=
    (sRetF (eLc [4] (eCall rng2 (aCons (oE (eV 2)) (aCons (oE (eOp2 addU (oE (eV 3)) (oE (eC (.int 1))))) aNil))) (gN 4) ct_stayed_1 ce_stayed_2))
def F_stayed : List D → Option (List D) := callF 4 5 g_stayed
abbrev s_wrong_runs : Stmt := topS 25
abbrev N_wrong_runs : List Str := ["one", "other", "first", "last"]
theorem sc_wrong_runs : FnScope N_wrong_runs ["one", "other"] (defScope s_wrong_runs) := ⟨rfl, rfl, rfl, by decide +kernel, rfl, by decide +kernel, by decide +kernel⟩
def ct_wrong_runs_1 : GT :=
    (tstE (eOp2 eqW (oE (eApp lenD (aCons (oE (eL (eCall F_stayed (aCons (oE (eV 0)) (aCons (oE (eV 1)) (aCons (oE (eV 2)) (aCons (oE (eV 3)) aNil))))))) aNil))) (oE (eC (.int 0)))))
def ce_wrong_runs_2 : GE :=
    (eV 2)
def g_wrong_runs : GS :=
    (sRetF (eLc [2, 3] (gSeq (eL (eCall F_runs (aCons (oE (eV 1)) aNil)))) (gT 2 (gsCons (gN 2) (gsCons (gN 3) gsNil))) ct_wrong_runs_1 ce_wrong_runs_2))
def F_wrong_runs : List D → Option (List D) := callF 2 4 g_wrong_runs
abbrev s_bar : Stmt := topS 26
abbrev N_bar : List Str := ["one", "other", "word", "found"]
theorem sc_bar : FnScope N_bar ["one", "other"] (defScope s_bar) := ⟨rfl, rfl, rfl, by decide +kernel, rfl, by decide +kernel, by decide +kernel⟩
def gb_bar_1 : GS :=
    (sIf (tstE (eOp2 gtD (oE (eApp lenD (aCons (oE (eV 3)) aNil))) (oE (eC (.int 0))))) (sRet (eT (eSeq (aCons (oE (eV 2)) (aCons (oE (eOp2 ixD (oE (eV 3)) (oE (eC (.int 0))))) aNil)))))
    sNext)
def g_bar : GS :=
    (sSeq (sDropX (eCallX F_look_many (aCons (oE (eV 0)) (aCons (oE (eV 1)) aNil))))
    (sSeq (sFor (gSeq (eT (eSeq (aCons (oE (eT (eSeq (aCons (oE (eC (.str "change"))) (aCons (oE (eL (eCall F_wrong_changes (aCons (oE (eV 0)) (aCons (oE (eV 1)) aNil))))) aNil))))) (aCons (oE (eT (eSeq (aCons (oE (eC (.str "order"))) (aCons (oE (eL (eCall F_wrong_orders (aCons (oE (eV 0)) (aCons (oE (eV 1)) aNil))))) aNil))))) aNil))))) (gT 2 (gsCons (gN 2) (gsCons (gN 3) gsNil))) gb_bar_1)
    (sSeq (sSet 3 (eL (eCall F_wrong_runs (aCons (oE (eV 0)) (aCons (oE (eV 1)) aNil)))))
    (sRet (eIf (tstE (eOp2 gtD (oE (eApp lenD (aCons (oE (eV 3)) aNil))) (oE (eC (.int 0))))) (eT (eSeq (aCons (oE (eC (.str "run"))) (aCons (oE (eOp2 ixD (oE (eV 3)) (oE (eC (.int 0))))) aNil)))) (eC .none))))))
def F_bar : List D → RX D := callX 2 4 g_bar
abbrev s_look_leads : Stmt := topS 27
abbrev N_look_leads : List Str := ["one", "other", "reason"]
theorem sc_look_leads : FnScope N_look_leads ["one", "other"] (defScope s_look_leads) := ⟨rfl, rfl, rfl, by decide +kernel, rfl, by decide +kernel, by decide +kernel⟩
def g_look_leads : GS :=
    (sSeq (sSetX 2 (eCallX F_bar (aCons (oE (eV 0)) (aCons (oE (eV 1)) aNil))))
    (sIf (tstE (eOp2 isNotD (oE (eV 2)) (oE (eC .none)))) (sRaise "Barred" (eV 2))
    sNext))
def F_look_leads : List D → RX D := callX 2 3 g_look_leads
abbrev s_changed : Stmt := topS 28
abbrev N_changed : List Str := ["one", "other", "person", "mine", "its"]
theorem sc_changed : FnScope N_changed ["one", "other"] (defScope s_changed) := ⟨rfl, rfl, rfl, by decide +kernel, rfl, by decide +kernel, by decide +kernel⟩
def ct_changed_1 : GT :=
    (tstE (eOp2 neW (oE (eV 3)) (oE (eV 4))))
def ce_changed_2 : GE :=
    (eV 2)
def g_changed : GS :=
    (sSeq (sDropX (eCallX F_look_leads (aCons (oE (eV 0)) (aCons (oE (eV 1)) aNil))))
    (sRetF (eLc [2, 3, 4] (eCall enumZipD (aCons (oE (eV 0)) (aCons (oE (eV 1)) aNil))) (gT 2 (gsCons (gN 2) (gsCons (gT 2 (gsCons (gN 3) (gsCons (gN 4) gsNil))) gsNil))) ct_changed_1 ce_changed_2)))
def F_changed : List D → RX (List D) := callXF 2 5 g_changed
abbrev s_distance : Stmt := topS 29
abbrev N_distance : List Str := ["one", "other"]
theorem sc_distance : FnScope N_distance ["one", "other"] (defScope s_distance) := ⟨rfl, rfl, rfl, by decide +kernel, rfl, by decide +kernel, by decide +kernel⟩
def g_distance : GS :=
    (sRetX (xCb1 lenD (xL (eCallX F_changed (aCons (oE (eV 0)) (aCons (oE (eV 1)) aNil))))))
def F_distance : List D → RX D := callX 2 2 g_distance
abbrev s_Hall_go : Stmt := inClass (topS 54) 9
abbrev N_Hall_go : List Str := ["self", "goal", "far", "0", "1"]
theorem sc_Hall_go : FnScope N_Hall_go ["self", "goal"] (defScope s_Hall_go) := ⟨rfl, rfl, rfl, by decide +kernel, rfl, by decide +kernel, by decide +kernel⟩
def g_Hall_go : GS :=
    (sSeq (sSetX 2 (eCallX F_distance (aCons (oE (eCallH F_Hall_row 0 aNil)) (aCons (oE (eV 1)) aNil))))
    (sSeq (sAppR 0 (xE (eApp tupleD (aCons (oE (eV 1)) aNil))))
    (sRet (eV 2))))
def F_Hall_go : HS → List D → RH := callH 2 5 g_Hall_go
abbrev s_Hall_leave : Stmt := inClass (topS 54) 12
abbrev N_Hall_leave : List Str := ["self", "person", "before", "0", "1"]
theorem sc_Hall_leave : FnScope N_Hall_leave ["self", "person"] (defScope s_Hall_leave) := ⟨rfl, rfl, rfl, by decide +kernel, rfl, by decide +kernel, by decide +kernel⟩
def g_Hall_leave : GS :=
    (sSeq (sSet 2 (eCallH F_Hall_row 0 aNil))
    (sSeq (sDropX (eCallX F_look_person (aCons (oE (eV 2)) (aCons (oE (eV 1)) aNil))))
    (sSeq (sAppR 0 (xE (eOp2 addU (oE (eSl sliceU (oE (eV 2)) pNo (pSo (eV 1)))) (oE (eSl sliceU (oE (eV 2)) (pSo (eOp2 addU (oE (eV 1)) (oE (eC (.int 1))))) pNo)))))
    (sRet (eOp2 ixD (oE (eV 2)) (oE (eV 1)))))))
def F_Hall_leave : HS → List D → RH := callH 2 5 g_Hall_leave
abbrev s_idle : Stmt := topS 47
abbrev N_idle : List Str := ["row", "calls", "here", "found", "place", "person", "later"]
theorem sc_idle : FnScope N_idle ["row", "calls"] (defScope s_idle) := ⟨rfl, rfl, rfl, by decide +kernel, rfl, by decide +kernel, by decide +kernel⟩
def gb_idle_1 : GS :=
    (sSeq (sSetX 6 (eCallX F_called (aCons (oE (eV 2)) (aCons (oE (eV 5)) aNil))))
    (sSeq (sIf (tstE (eOp2 eqW (oE (eV 6)) (oE (eV 2)))) (sApp 3 (eV 4))
    sNext)
    (sSet 2 (eV 6))))
def g_idle : GS :=
    (sSeq (sPar 2 3 (nS (eApp tupleD (aCons (oE (eV 0)) aNil))) (nF (eSeq aNil)))
    (sSeq (sFor (eCall enum1D (aCons (oE (eV 1)) aNil)) (gT 2 (gsCons (gN 4) (gsCons (gN 5) gsNil))) gb_idle_1)
    (sRetO 3)))
def F_idle : List D → RX (List D) := callXF 2 7 g_idle
abbrev s_run : Stmt := topS 45
abbrev N_run : List Str := ["row", "calls", "found", "person"]
theorem sc_run : FnScope N_run ["row", "calls"] (defScope s_run) := ⟨rfl, rfl, rfl, by decide +kernel, rfl, by decide +kernel, by decide +kernel⟩
def gb_run_1 : GS :=
    (sSetX 2 (eCallX F_called (aCons (oE (eV 2)) (aCons (oE (eV 3)) aNil))))
def g_run : GS :=
    (sSeq (sSet 2 (eApp tupleD (aCons (oE (eV 0)) aNil)))
    (sSeq (sFor (gSeq (eV 1)) (gN 3) gb_run_1)
    (sRet (eV 2))))
def F_run : List D → RX D := callX 2 4 g_run
abbrev s_Hall_run : Stmt := inClass (topS 54) 8
abbrev N_Hall_run : List Str := ["self", "calls", "before", "0", "1"]
theorem sc_Hall_run : FnScope N_Hall_run ["self", "calls"] (defScope s_Hall_run) := ⟨rfl, rfl, rfl, by decide +kernel, rfl, by decide +kernel, by decide +kernel⟩
def g_Hall_run : GS :=
    (sSeq (sSet 2 (eCallH F_Hall_row 0 aNil))
    (sSeq (sAppR 0 (eCallX F_run (aCons (oE (eV 2)) (aCons (oE (eV 1)) aNil))))
    (sRet (eOp2 subD (oE (eApp lenD (aCons (oE (eV 1)) aNil))) (oE (eApp lenD (aCons (oE (eL (eCallX F_idle (aCons (oE (eV 2)) (aCons (oE (eV 1)) aNil))))) aNil)))))))
def F_Hall_run : HS → List D → RH := callH 2 5 g_Hall_run
abbrev s_Hall_tell : Stmt := inClass (topS 54) 10
abbrev N_Hall_tell : List Str := ["self", "person", "number", "before", "0", "1"]
theorem sc_Hall_tell : FnScope N_Hall_tell ["self", "person", "number"] (defScope s_Hall_tell) := ⟨rfl, rfl, rfl, by decide +kernel, rfl, by decide +kernel, by decide +kernel⟩
def g_Hall_tell : GS :=
    (sSeq (sSet 3 (eCallH F_Hall_row 0 aNil))
    (sSeq (sDropX (eCallX F_look_person (aCons (oE (eV 3)) (aCons (oE (eV 1)) aNil))))
    (sSeq (sAppR 0 (xE (eOp2 addU (oE (eOp2 addU (oE (eSl sliceU (oE (eV 3)) pNo (pSo (eV 1)))) (oE (eT (eSeq (aCons (oE (eV 2)) aNil)))))) (oE (eSl sliceU (oE (eV 3)) (pSo (eOp2 addU (oE (eV 1)) (oE (eC (.int 1))))) pNo)))))
    (sRet (eOp2 ixD (oE (eV 3)) (oE (eV 1)))))))
def F_Hall_tell : HS → List D → RH := callH 3 6 g_Hall_tell
abbrev s_Hall_done : Stmt := inClass (topS 54) 14
abbrev N_Hall_done : List Str := ["self", "deed", "name", "things", "0", "1"]
theorem sc_Hall_done : FnScope N_Hall_done ["self", "deed"] (defScope s_Hall_done) := ⟨rfl, rfl, rfl, by decide +kernel, rfl, by decide +kernel, by decide +kernel⟩
def g_Hall_done : GS :=
    (sSeq (sStar 2 3 (eV 1))
    (sSeq (sIf (tstE (eOp2 eqW (oE (eV 2)) (oE (eC (.str "call"))))) (sRetX (eCallH F_Hall_call 0 (aCons (oE (eOp2 ixD (oE (eV 3)) (oE (eC (.int 0))))) aNil)))
    sNext)
    (sSeq (sIf (tstE (eOp2 eqW (oE (eV 2)) (oE (eC (.str "run"))))) (sRetX (eCallH F_Hall_run 0 (aCons (oE (eOp2 ixD (oE (eV 3)) (oE (eC (.int 0))))) aNil)))
    sNext)
    (sSeq (sIf (tstE (eOp2 eqW (oE (eV 2)) (oE (eC (.str "go"))))) (sRetX (eCallH F_Hall_go 0 (aCons (oE (eOp2 ixD (oE (eV 3)) (oE (eC (.int 0))))) aNil)))
    sNext)
    (sSeq (sIf (tstE (eOp2 eqW (oE (eV 2)) (oE (eC (.str "tell"))))) (sRetX (eCallH F_Hall_tell 0 (aCons (oE (eOp2 ixD (oE (eV 3)) (oE (eC (.int 0))))) (aCons (oE (eOp2 ixD (oE (eV 3)) (oE (eC (.int 1))))) aNil))))
    sNext)
    (sRetX (xIf (tstE (eOp2 eqW (oE (eV 2)) (oE (eC (.str "come"))))) (eCallH F_Hall_come 0 (aCons (oE (eOp2 ixD (oE (eV 3)) (oE (eC (.int 0))))) (aCons (oE (eOp2 ixD (oE (eV 3)) (oE (eC (.int 1))))) aNil))) (eCallH F_Hall_leave 0 (aCons (oE (eOp2 ixD (oE (eV 3)) (oE (eC (.int 0))))) aNil)))))))))
def F_Hall_done : HS → List D → RH := callH 2 6 g_Hall_done
abbrev s_bar_text : Stmt := topS 93
abbrev N_bar_text : List Str := ["reason"]
theorem sc_bar_text : FnScope N_bar_text ["reason"] (defScope s_bar_text) := ⟨rfl, rfl, rfl, by decide +kernel, rfl, by decide +kernel, by decide +kernel⟩
def g_bar_text : GS :=
    (sRet (eIf (tstE (eOp2 isD (oE (eV 0)) (oE (eC .none)))) (eC (.str "none")) (eOp2 addU (oE (eOp2 addU (oE (eOp2 ixD (oE (eV 0)) (oE (eC (.int 0))))) (oE (eC (.str " "))))) (oE (eApp strD (aCons (oE (eOp2 ixD (oE (eV 0)) (oE (eC (.int 1))))) aNil))))))
def F_bar_text : List D → Option D := callP 1 1 g_bar_text
abbrev s_open_parts : Stmt := topS 30
abbrev N_open_parts : List Str := ["one", "other", "found", "first", "last", "edges", "left", "right"]
theorem sc_open_parts : FnScope N_open_parts ["one", "other"] (defScope s_open_parts) := ⟨rfl, rfl, rfl, by decide +kernel, rfl, by decide +kernel, by decide +kernel⟩
def gb_open_parts_1 : GS :=
    (sIf (tstE (eOp2 gtD (oE (eOp2 subD (oE (eV 7)) (oE (eV 6)))) (oE (eC (.int 1))))) (sApp 2 (eT (eSeq (aCons (oE (eOp2 addU (oE (eV 6)) (oE (eC (.int 1))))) (aCons (oE (eOp2 subD (oE (eV 7)) (oE (eC (.int 1))))) (aCons (oE (eOp2 geD (oE (eV 6)) (oE (eV 3)))) (aCons (oE (eOp2 leD (oE (eV 7)) (oE (eV 4)))) aNil)))))))
    sNext)
def gb_open_parts_2 : GS :=
    (sSeq (sSet 5 (eOp2 addU (oE (eOp2 addU (oE (eL (eSeq (aCons (oE (eOp2 subD (oE (eV 3)) (oE (eC (.int 1))))) aNil)))) (oE (eL (eCall F_stayed (aCons (oE (eV 0)) (aCons (oE (eV 1)) (aCons (oE (eV 3)) (aCons (oE (eV 4)) aNil))))))))) (oE (eL (eSeq (aCons (oE (eOp2 addU (oE (eV 4)) (oE (eC (.int 1))))) aNil))))))
    (sFor (eCall zip2D (aCons (oE (eV 5)) (aCons (oE (eSl sliceU (oE (eV 5)) (pSo (eC (.int 1))) pNo)) aNil))) (gT 2 (gsCons (gN 6) (gsCons (gN 7) gsNil))) gb_open_parts_1))
def g_open_parts : GS :=
    (sSeq (sSetO 2 (eSeq aNil))
    (sSeq (sFor (gSeq (eL (eCall F_runs (aCons (oE (eV 1)) aNil)))) (gT 2 (gsCons (gN 3) (gsCons (gN 4) gsNil))) gb_open_parts_2)
    (sRetO 2)))
def F_open_parts : List D → Option (List D) := callF 2 8 g_open_parts
abbrev s_choices : Stmt := topS 85
abbrev N_choices : List Str := ["total", "some", "found", "turn"]
theorem sc_choices : FnScope N_choices ["total", "some"] (defScope s_choices) := ⟨rfl, rfl, rfl, by decide +kernel, rfl, by decide +kernel, by decide +kernel⟩
def gb_choices_1 : GS :=
    (sSet 2 (eOp2 fdivD (oE (eOp2 mulV (oE (eV 2)) (oE (eOp2 subD (oE (eV 0)) (oE (eV 3)))))) (oE (eOp2 addU (oE (eV 3)) (oE (eC (.int 1)))))))
def g_choices : GS :=
    (sSeq (sSet 2 (eC (.int 1)))
    (sSeq (sFor (eCall rng1 (aCons (oE (eV 1)) aNil)) (gN 3) gb_choices_1)
    (sRet (eV 2))))
def F_choices : List D → Option D := callP 2 4 g_choices
abbrev s_orders : Stmt := topS 86
abbrev N_orders : List Str := ["first", "last", "left", "right", "found", "turn"]
theorem sc_orders : FnScope N_orders ["first", "last", "left", "right"] (defScope s_orders) := ⟨rfl, rfl, rfl, by decide +kernel, rfl, by decide +kernel, by decide +kernel⟩
def gb_orders_1 : GS :=
    (sAug 4 iMul (eC (.int 2)))
def g_orders : GS :=
    (sSeq (sSet 4 (eC (.int 1)))
    (sSeq (sFor (eCall rng1 (aCons (oE (eOp2 mulV (oE (eOp2 subD (oE (eV 1)) (oE (eV 0)))) (oE (eApp intD (aCons (oE (eAndG (eV 2) (eV 3))) aNil))))) aNil)) (gN 5) gb_orders_1)
    (sRet (eV 4))))
def F_orders : List D → Option D := callP 4 6 g_orders
abbrev s_ways_of : Stmt := topS 87
abbrev N_ways_of : List Str := ["some", "found", "total", "first", "last", "left", "right"]
theorem sc_ways_of : FnScope N_ways_of ["some"] (defScope s_ways_of) := ⟨rfl, rfl, rfl, by decide +kernel, rfl, by decide +kernel, by decide +kernel⟩
def gb_ways_of_1 : GS :=
    (sSeq (sAug 2 iAdd (eOp2 addU (oE (eOp2 subD (oE (eV 4)) (oE (eV 3)))) (oE (eC (.int 1)))))
    (sAug 1 iMul (eOp2 mulV (oE (eCall F_choices (aCons (oE (eV 2)) (aCons (oE (eOp2 addU (oE (eOp2 subD (oE (eV 4)) (oE (eV 3)))) (oE (eC (.int 1))))) aNil)))) (oE (eCall F_orders (aCons (oE (eV 3)) (aCons (oE (eV 4)) (aCons (oE (eV 5)) (aCons (oE (eV 6)) aNil)))))))))
def g_ways_of : GS :=
    (sSeq (sTo (eT (eSeq (aCons (oE (eC (.int 1))) (aCons (oE (eC (.int 0))) aNil)))) (gT 2 (gsCons (gN 1) (gsCons (gN 2) gsNil))))
    (sSeq (sFor (gSeq (eV 0)) (gT 4 (gsCons (gN 3) (gsCons (gN 4) (gsCons (gN 5) (gsCons (gN 6) gsNil))))) gb_ways_of_1)
    (sRet (eV 1))))
def F_ways_of : List D → Option D := callP 1 7 g_ways_of
abbrev s_ways_many : Stmt := topS 88
abbrev N_ways_many : List Str := ["one", "other"]
theorem sc_ways_many : FnScope N_ways_many ["one", "other"] (defScope s_ways_many) := ⟨rfl, rfl, rfl, by decide +kernel, rfl, by decide +kernel, by decide +kernel⟩
def g_ways_many : GS :=
    (sSeq (sDropX (eCallX F_look_leads (aCons (oE (eV 0)) (aCons (oE (eV 1)) aNil))))
    (sRet (eCall F_ways_of (aCons (oE (eL (eCall F_open_parts (aCons (oE (eV 0)) (aCons (oE (eV 1)) aNil))))) aNil))))
def F_ways_many : List D → RX D := callX 2 2 g_ways_many
abbrev s_look_wish : Stmt := topS 90
abbrev N_look_wish : List Str := ["row", "wish"]
theorem sc_look_wish : FnScope N_look_wish ["row", "wish"] (defScope s_look_wish) := ⟨rfl, rfl, rfl, by decide +kernel, rfl, by decide +kernel, by decide +kernel⟩
def g_look_wish : GS :=
    (sIf (tstE (eOp2 neW (oE (eApp lenD (aCons (oE (eV 0)) aNil))) (oE (eApp lenD (aCons (oE (eV 1)) aNil))))) (sRaise "OtherPeople" (eApp lenD (aCons (oE (eV 1)) aNil)))
    sNext)
def F_look_wish : List D → RX D := callX 2 2 g_look_wish
abbrev s_parted : Stmt := topS 33
abbrev N_parted : List Str := ["row", "place", "state", "option", "calm", "before", "stays", "came", "wide", "number", "changes", "turn"]
theorem sc_parted : FnScope N_parted ["row", "place", "state", "option", "calm"] (defScope s_parted) := ⟨rfl, rfl, rfl, by decide +kernel, rfl, by decide +kernel, by decide +kernel⟩
def g_parted : GS :=
    (sSeq (sTo (eT (eSeq (aCons (oE (eV 2)) (aCons (oE (eV 3)) aNil)))) (gT 2 (gsCons (gT 4 (gsCons (gN 5) (gsCons (gN 6) (gsCons (gN 7) (gsCons (gN 8) gsNil))))) (gsCons (gT 2 (gsCons (gN 9) (gsCons (gN 10) gsNil))) gsNil))))
    (sSeq (sIf (tOrG (tNotG (tstE (eV 6))) (tOrG (tstE (eOp2 eqW (oE (eOp2 ixD (oE (eV 0)) (oE (eOp2 subD (oE (eV 1)) (oE (eC (.int 1))))))) (oE (eOp2 ixD (oE (eV 0)) (oE (eV 1)))))) (tstE (eOp2 neW (oE (eOp2 ltD (oE (eOp2 ixD (oE (eV 0)) (oE (eOp2 subD (oE (eV 1)) (oE (eC (.int 1))))))) (oE (eOp2 ixD (oE (eV 0)) (oE (eV 1)))))) (oE (eOp2 ltD (oE (eV 5)) (oE (eV 9)))))))) (sRet (eC .none))
    sNext)
    (sSeq (sSet 11 (eIf (tstE (eOp2 ltD (oE (eV 5)) (oE (eV 9)))) (eC (.int 1)) (eOp1 negD (oE (eC (.int 1))))))
    (sSeq (sIf (tAndG (tstE (eV 4)) (tAndG (tNotG (tstE (eV 8))) (tstE (eOp2 notInD (oE (eV 7)) (oE (eT (eSeq (aCons (oE (eC (.int 0))) (aCons (oE (eV 11)) aNil))))))))) (sRet (eC .none))
    sNext)
    (sRet (eT (eSeq (aCons (oE (eV 9)) (aCons (oE (eNotG (eV 10))) (aCons (oE (eIf (tstE (eV 4)) (eV 11) (eC (.int 0)))) (aCons (oE (eC (.bool false))) aNil)))))))))))
def F_parted : List D → Option D := callP 5 12 g_parted
abbrev s_next_state : Stmt := topS 34
abbrev N_next_state : List Str := ["row", "place", "state", "option", "calm"]
theorem sc_next_state : FnScope N_next_state ["row", "place", "state", "option", "calm"] (defScope s_next_state) := ⟨rfl, rfl, rfl, by decide +kernel, rfl, by decide +kernel, by decide +kernel⟩
def g_next_state : GS :=
    (sSeq (sIf (tstE (eOp2 isD (oE (eV 2)) (oE (eC .none)))) (sRet (eT (eSeq (aCons (oE (eOp2 ixD (oE (eV 3)) (oE (eC (.int 0))))) (aCons (oE (eNotG (eOp2 ixD (oE (eV 3)) (oE (eC (.int 1)))))) (aCons (oE (eC (.int 0))) (aCons (oE (eC (.bool false))) aNil)))))))
    sNext)
    (sSeq (sIf (tstE (eOp2 eqW (oE (eOp2 ixD (oE (eV 3)) (oE (eC (.int 0))))) (oE (eOp2 ixD (oE (eV 2)) (oE (eC (.int 0))))))) (sRet (eT (eSeq (aCons (oE (eOp2 ixD (oE (eV 2)) (oE (eC (.int 0))))) (aCons (oE (eOrG (eOp2 ixD (oE (eV 2)) (oE (eC (.int 1)))) (eNotG (eOp2 ixD (oE (eV 3)) (oE (eC (.int 1))))))) (aCons (oE (eOp2 ixD (oE (eV 2)) (oE (eC (.int 2))))) (aCons (oE (eV 4)) aNil)))))))
    sNext)
    (sRet (eCall F_parted (aCons (oE (eV 0)) (aCons (oE (eV 1)) (aCons (oE (eV 2)) (aCons (oE (eV 3)) (aCons (oE (eV 4)) aNil)))))))))
def F_next_state : List D → Option D := callP 5 5 g_next_state
abbrev s_next_states : Stmt := topS 35
abbrev N_next_states : List Str := ["row", "place", "state", "options", "calm", "found", "option", "later"]
theorem sc_next_states : FnScope N_next_states ["row", "place", "state", "options", "calm"] (defScope s_next_states) := ⟨rfl, rfl, rfl, by decide +kernel, rfl, by decide +kernel, by decide +kernel⟩
def ce_next_states_1 : GE :=
    (eCall F_next_state (aCons (oE (eV 0)) (aCons (oE (eV 1)) (aCons (oE (eV 2)) (aCons (oE (eV 6)) (aCons (oE (eV 4)) aNil))))))
def ct_next_states_2 : GT :=
    (tstE (eOp2 isNotD (oE (eV 7)) (oE (eC .none))))
def ce_next_states_3 : GE :=
    (eV 7)
def g_next_states : GS :=
    (sSeq (sSet 5 (eL (eLc [6] (gSeq (eOp2 ixD (oE (eV 3)) (oE (eV 1)))) (gN 6) gYes ce_next_states_1)))
    (sRetF (eLc [7] (gSeq (eV 5)) (gN 7) ct_next_states_2 ce_next_states_3)))
def F_next_states : List D → Option (List D) := callF 5 8 g_next_states
abbrev s_endings : Stmt := topS 36
abbrev N_endings : List Str := ["row", "options", "calm", "layers", "place", "tables", "found", "state", "here", "later", "some"]
theorem sc_endings : FnScope N_endings ["row", "options", "calm"] (defScope s_endings) := ⟨rfl, rfl, rfl, by decide +kernel, rfl, by decide +kernel, by decide +kernel⟩
def gb_endings_1 : GS :=
    (sPutD 6 (eV 9) (eC (.bool true)))
def gb_endings_2 : GS :=
    (sFor (gSeq (eL (eCall F_next_states (aCons (oE (eV 0)) (aCons (oE (eV 4)) (aCons (oE (eV 7)) (aCons (oE (eV 1)) (aCons (oE (eV 2)) aNil)))))))) (gN 9) gb_endings_1)
def gb_endings_3 : GS :=
    (sSeq (sSetD 6 (fun ρ => .ok [] ρ))
    (sSeq (sFor (gSeq (eOp2 ixD (oV 3) (oE (eOp1 negD (oE (eC (.int 1))))))) (gN 7) gb_endings_2)
    (sApp 3 (eL (eApp dKeysD (aCons (oV 6) aNil))))))
def ce_endings_4 : GE :=
    (eT (eSeq (aCons (oE (eV 7)) (aCons (oE (eApp intD (aCons (oE (eOrG (eOp2 isD (oE (eV 7)) (oE (eC .none))) (eOp2 ixD (oE (eV 7)) (oE (eC (.int 1)))))) aNil))) aNil))))
def ce_endings_5 : GE :=
    (eOp2 dGetD (oE (eOp2 ixD (oE (eV 5)) (oE (eC (.int 0))))) (oE (eV 10)))
def gb_endings_6 : GS :=
    (sSeq (sSet 9 (eL (eCall F_next_states (aCons (oE (eV 0)) (aCons (oE (eV 4)) (aCons (oE (eV 7)) (aCons (oE (eV 1)) (aCons (oE (eV 2)) aNil))))))))
    (sPutD 8 (eV 7) (eApp sumD (aCons (oE (eL (eLc [10] (gSeq (eV 9)) (gN 10) gYes ce_endings_5))) aNil))))
def gb_endings_7 : GS :=
    (sSeq (sSetD 8 (fun ρ => .ok [] ρ))
    (sSeq (sFor (gSeq (eOp2 ixD (oV 3) (oE (eV 4)))) (gN 7) gb_endings_6)
    (sFz 8 (sSet 5 (eOp2 addU (oE (eL (eSeq (aCons (oE (eV 8)) aNil)))) (oE (eV 5)))))))
def g_endings : GS :=
    (sSeq (sSetO 3 (eSeq (aCons (oE (eL (eSeq (aCons (oE (eC .none)) aNil)))) aNil)))
    (sSeq (sFor (eCall rng1 (aCons (oE (eApp lenD (aCons (oE (eV 0)) aNil))) aNil)) (gN 4) gb_endings_3)
    (sSeq (sSet 5 (eL (eSeq (aCons (oE (eApp dDictD (aCons (oE (eL (eLc [7] (gSeq (eOp2 ixD (oV 3) (oE (eOp1 negD (oE (eC (.int 1))))))) (gN 7) gYes ce_endings_4))) aNil))) aNil))))
    (sSeq (sFor (eCall rng3 (aCons (oE (eOp2 subD (oE (eApp lenD (aCons (oE (eV 0)) aNil))) (oE (eC (.int 1))))) (aCons (oE (eOp1 negD (oE (eC (.int 1))))) (aCons (oE (eOp1 negD (oE (eC (.int 1))))) aNil)))) (gN 4) gb_endings_7)
    (sRet (eV 5))))))
def F_endings : List D → Option D := callP 3 11 g_endings
abbrev s_options_of : Stmt := topS 32
abbrev N_options_of : List Str := ["row", "wish", "high", "low", "found", "person", "own", "some", "number", "option"]
theorem sc_options_of : FnScope N_options_of ["row", "wish"] (defScope s_options_of) := ⟨rfl, rfl, rfl, by decide +kernel, rfl, by decide +kernel, by decide +kernel⟩
def ct_options_of_1 : GT :=
    (tstE (eOp2 ltD (oE (eV 8)) (oE (eV 6))))
def ce_options_of_2 : GE :=
    (eT (eSeq (aCons (oE (eV 8)) (aCons (oE (eC (.bool true))) aNil))))
def ct_options_of_3 : GT :=
    (tstE (eOp2 gtD (oE (eV 8)) (oE (eV 6))))
def ct_options_of_4 : GT :=
    (tOrG (tstE (eOp2 isD (oE (eOp2 ixD (oE (eV 1)) (oE (eV 5)))) (oE (eC .none)))) (tstE (eOp2 eqW (oE (eOp2 ixD (oE (eV 1)) (oE (eV 5)))) (oE (eOp2 ixD (oE (eV 9)) (oE (eC (.int 0))))))))
def ce_options_of_5 : GE :=
    (eV 9)
def gb_options_of_6 : GS :=
    (sSeq (sSetO 7 (eSeq (aCons (oE (eT (eSeq (aCons (oE (eV 6)) (aCons (oE (eC (.bool false))) aNil))))) aNil)))
    (sSeq (sIf (tstE (eOp2 inD (oE (eV 5)) (oE (eV 2)))) (sExt 7 (eLc [8] (gSeq (eL (eSrtSet (eV 0)))) (gN 8) ct_options_of_1 ce_options_of_2))
    sNext)
    (sSeq (sIf (tstE (eOp2 inD (oE (eV 5)) (oE (eV 3)))) (sExt 7 (eLc [8] (gSeq (eL (eSrtSet (eV 0)))) (gN 8) ct_options_of_3 ce_options_of_2))
    sNext)
    (sFz 7 (sApp 4 (eL (eApp sortDF (aCons (oE (eL (eLc [9] (gSeq (eV 7)) (gN 9) ct_options_of_4 ce_options_of_5))) aNil))))))))
def g_options_of : GS :=
    (sSeq (sPar3 2 3 4 (nS (eL (eCall F_tops (aCons (oE (eV 0)) aNil)))) (nS (eL (eCall F_dips (aCons (oE (eV 0)) aNil)))) (nF (eSeq aNil)))
    (sSeq (sFor (eCall enum1D (aCons (oE (eV 0)) aNil)) (gT 2 (gsCons (gN 5) (gsCons (gN 6) gsNil))) gb_options_of_6)
    (sRetO 4)))
def F_options_of : List D → Option (List D) := callF 2 10 g_options_of
abbrev s_rows_many : Stmt := topS 37
abbrev N_rows_many : List Str := ["row", "wish", "calm"]
theorem sc_rows_many : FnScope N_rows_many ["row", "wish", "calm"] (defScope s_rows_many) := ⟨rfl, rfl, rfl, by decide +kernel, rfl, by decide +kernel, by decide +kernel⟩
def g_rows_many : GS :=
    (sRet (eOp2 dGetD (oE (eOp2 ixD (oE (eCall F_endings (aCons (oE (eV 0)) (aCons (oE (eL (eCall F_options_of (aCons (oE (eV 0)) (aCons (oE (eV 1)) aNil))))) (aCons (oE (eV 2)) aNil))))) (oE (eC (.int 0))))) (oE (eC .none))))
def F_rows_many : List D → Option D := callP 3 3 g_rows_many
abbrev s_wish_many : Stmt := topS 91
abbrev N_wish_many : List Str := ["row", "wish"]
theorem sc_wish_many : FnScope N_wish_many ["row", "wish"] (defScope s_wish_many) := ⟨rfl, rfl, rfl, by decide +kernel, rfl, by decide +kernel, by decide +kernel⟩
def g_wish_many : GS :=
    (sSeq (sDropX (eCallX F_look_wish (aCons (oE (eV 0)) (aCons (oE (eV 1)) aNil))))
    (sRet (eCall F_rows_many (aCons (oE (eV 0)) (aCons (oE (eV 1)) (aCons (oE (eC (.bool false))) aNil))))))
def F_wish_many : List D → RX D := callX 2 2 g_wish_many
abbrev s_asked : Stmt := topS 94
abbrev N_asked : List Str := ["hall", "name", "thing", "0", "1"]
theorem sc_asked : FnScope N_asked ["hall", "name", "thing"] (defScope s_asked) := ⟨rfl, rfl, rfl, by decide +kernel, rfl, by decide +kernel, by decide +kernel⟩
def g_asked : GS :=
    (sSeq (sIf (tstE (eOp2 eqW (oE (eV 1)) (oE (eC (.str "far"))))) (sRetX (xCb1 strD (eCallX F_distance (aCons (oE (eCallH F_Hall_row 0 aNil)) (aCons (oE (eV 2)) aNil)))))
    sNext)
    (sSeq (sIf (tstE (eOp2 eqW (oE (eV 1)) (oE (eC (.str "ways"))))) (sRetX (xCb1 strD (eCallX F_ways_many (aCons (oE (eCallH F_Hall_row 0 aNil)) (aCons (oE (eV 2)) aNil)))))
    sNext)
    (sRetX (xIf (tstE (eOp2 eqW (oE (eV 1)) (oE (eC (.str "bar"))))) (xCall1 F_bar_text (eCallX F_bar (aCons (oE (eCallH F_Hall_row 0 aNil)) (aCons (oE (eV 2)) aNil)))) (xCb1 strD (eCallX F_wish_many (aCons (oE (eCallH F_Hall_row 0 aNil)) (aCons (oE (eV 2)) aNil))))))))
def F_asked : HS → List D → RH := callH 3 5 g_asked
abbrev s_Hall_dips : Stmt := inClass (topS 54) 3
abbrev N_Hall_dips : List Str := ["self", "0", "1"]
theorem sc_Hall_dips : FnScope N_Hall_dips ["self"] (defScope s_Hall_dips) := ⟨rfl, rfl, rfl, by decide +kernel, rfl, by decide +kernel, by decide +kernel⟩
def g_Hall_dips : GS :=
    (sRet (eL (eCall F_dips (aCons (oE (eCallH F_Hall_row 0 aNil)) aNil))))
def F_Hall_dips : HS → List D → RH := callH0 1 3 g_Hall_dips
abbrev s_free_wish : Stmt := topS 39
abbrev N_free_wish : List Str := ["row"]
theorem sc_free_wish : FnScope N_free_wish ["row"] (defScope s_free_wish) := ⟨rfl, rfl, rfl, by decide +kernel, rfl, by decide +kernel, by decide +kernel⟩
def g_free_wish : GS :=
    (sRetF (eOp2 repL (oE (eL (eSeq (aCons (oE (eC .none)) aNil)))) (oE (eApp lenD (aCons (oE (eV 0)) aNil)))))
def F_free_wish : List D → Option (List D) := callF 1 1 g_free_wish
abbrev s_futures_many : Stmt := topS 40
abbrev N_futures_many : List Str := ["row"]
theorem sc_futures_many : FnScope N_futures_many ["row"] (defScope s_futures_many) := ⟨rfl, rfl, rfl, by decide +kernel, rfl, by decide +kernel, by decide +kernel⟩
def g_futures_many : GS :=
    (sRet (eCall F_rows_many (aCons (oE (eV 0)) (aCons (oE (eL (eCall F_free_wish (aCons (oE (eV 0)) aNil)))) (aCons (oE (eC (.bool false))) aNil)))))
def F_futures_many : List D → Option D := callP 1 1 g_futures_many
abbrev s_Hall_futures : Stmt := inClass (topS 54) 4
abbrev N_Hall_futures : List Str := ["self", "0", "1"]
theorem sc_Hall_futures : FnScope N_Hall_futures ["self"] (defScope s_Hall_futures) := ⟨rfl, rfl, rfl, by decide +kernel, rfl, by decide +kernel, by decide +kernel⟩
def g_Hall_futures : GS :=
    (sRet (eCall F_futures_many (aCons (oE (eCallH F_Hall_row 0 aNil)) aNil)))
def F_Hall_futures : HS → List D → RH := callH0 1 3 g_Hall_futures
abbrev s_Hall_tops : Stmt := inClass (topS 54) 2
abbrev N_Hall_tops : List Str := ["self", "0", "1"]
theorem sc_Hall_tops : FnScope N_Hall_tops ["self"] (defScope s_Hall_tops) := ⟨rfl, rfl, rfl, by decide +kernel, rfl, by decide +kernel, by decide +kernel⟩
def g_Hall_tops : GS :=
    (sRet (eL (eCall F_tops (aCons (oE (eCallH F_Hall_row 0 aNil)) aNil))))
def F_Hall_tops : HS → List D → RH := callH0 1 3 g_Hall_tops
abbrev s_Hall_deeds : Stmt := inClass (topS 54) 6
abbrev N_Hall_deeds : List Str := ["self", "0", "1"]
theorem sc_Hall_deeds : FnScope N_Hall_deeds ["self"] (defScope s_Hall_deeds) := ⟨rfl, rfl, rfl, by decide +kernel, rfl, by decide +kernel, by decide +kernel⟩
def g_Hall_deeds : GS :=
    (sRet (eOp2 subD (oE (eApp lenD (aCons (oRows 0) aNil))) (oE (eC (.int 1)))))
def F_Hall_deeds : HS → List D → RH := callH0 1 3 g_Hall_deeds
abbrev s_Hall_undo : Stmt := inClass (topS 54) 13
abbrev N_Hall_undo : List Str := ["self", "0", "1"]
theorem sc_Hall_undo : FnScope N_Hall_undo ["self"] (defScope s_Hall_undo) := ⟨rfl, rfl, rfl, by decide +kernel, rfl, by decide +kernel, by decide +kernel⟩
def g_Hall_undo : GS :=
    (sSeq (sIf (tstE (eOp2 eqW (oE (eCallH F_Hall_deeds 0 aNil)) (oE (eC (.int 0))))) (sRet (eC (.bool false)))
    sNext)
    (sSeq (sPopR 0)
    (sRet (eC (.bool true)))))
def F_Hall_undo : HS → List D → RH := callH0 1 3 g_Hall_undo
abbrev s_joined_text : Stmt := topS 62
abbrev N_joined_text : List Str := ["words"]
theorem sc_joined_text : FnScope N_joined_text ["words"] (defScope s_joined_text) := ⟨rfl, rfl, rfl, by decide +kernel, rfl, by decide +kernel, by decide +kernel⟩
def g_joined_text : GS :=
    (sRet (eIf (tstE (eOp2 gtD (oE (eApp lenD (aCons (oE (eV 0)) aNil))) (oE (eC (.int 0))))) (eJoin (eC (.str " ")) (eV 0)) (eC (.str "-"))))
def F_joined_text : List D → Option D := callP 1 1 g_joined_text
abbrev s_numbers_text : Stmt := topS 63
abbrev N_numbers_text : List Str := ["numbers", "number"]
theorem sc_numbers_text : FnScope N_numbers_text ["numbers"] (defScope s_numbers_text) := ⟨rfl, rfl, rfl, by decide +kernel, rfl, by decide +kernel, by decide +kernel⟩
def ce_numbers_text_1 : GE :=
    (eApp strD (aCons (oE (eV 1)) aNil))
def g_numbers_text : GS :=
    (sRet (eCall F_joined_text (aCons (oE (eL (eLc [1] (gSeq (eV 0)) (gN 1) gYes ce_numbers_text_1))) aNil)))
def F_numbers_text : List D → Option D := callP 1 2 g_numbers_text
abbrev s_rests_many : Stmt := topS 41
abbrev N_rests_many : List Str := ["row"]
theorem sc_rests_many : FnScope N_rests_many ["row"] (defScope s_rests_many) := ⟨rfl, rfl, rfl, by decide +kernel, rfl, by decide +kernel, by decide +kernel⟩
def g_rests_many : GS :=
    (sRet (eCall F_rows_many (aCons (oE (eV 0)) (aCons (oE (eL (eCall F_free_wish (aCons (oE (eV 0)) aNil)))) (aCons (oE (eC (.bool true))) aNil)))))
def F_rests_many : List D → Option D := callP 1 1 g_rests_many
abbrev s_row_text : Stmt := topS 64
abbrev N_row_text : List Str := ["row"]
theorem sc_row_text : FnScope N_row_text ["row"] (defScope s_row_text) := ⟨rfl, rfl, rfl, by decide +kernel, rfl, by decide +kernel, by decide +kernel⟩
def g_row_text : GS :=
    (sRet (eCall F_numbers_text (aCons (oE (eV 0)) aNil)))
def F_row_text : List D → Option D := callP 1 1 g_row_text
abbrev s_bare_answer : Stmt := topS 95
abbrev N_bare_answer : List Str := ["hall", "name", "0", "1"]
theorem sc_bare_answer : FnScope N_bare_answer ["hall", "name"] (defScope s_bare_answer) := ⟨rfl, rfl, rfl, by decide +kernel, rfl, by decide +kernel, by decide +kernel⟩
def g_bare_answer : GS :=
    (sSeq (sIf (tstE (eOp2 eqW (oE (eV 1)) (oE (eC (.str "undo"))))) (sRet (eIf (tstE (eCallH F_Hall_undo 0 aNil)) (eC (.str "done")) (eC (.str "nothing"))))
    sNext)
    (sSeq (sIf (tstE (eOp2 eqW (oE (eV 1)) (oE (eC (.str "show"))))) (sRet (eCall F_row_text (aCons (oE (eCallH F_Hall_row 0 aNil)) aNil)))
    sNext)
    (sSeq (sIf (tstE (eOp2 eqW (oE (eV 1)) (oE (eC (.str "tops"))))) (sRet (eCall F_numbers_text (aCons (oE (eCallH F_Hall_tops 0 aNil)) aNil)))
    sNext)
    (sSeq (sIf (tstE (eOp2 eqW (oE (eV 1)) (oE (eC (.str "dips"))))) (sRet (eCall F_numbers_text (aCons (oE (eCallH F_Hall_dips 0 aNil)) aNil)))
    sNext)
    (sRet (eApp strD (aCons (oE (eIf (tstE (eOp2 eqW (oE (eV 1)) (oE (eC (.str "futures"))))) (eCallH F_Hall_futures 0 aNil) (eCall F_rests_many (aCons (oE (eCallH F_Hall_row 0 aNil)) aNil)))) aNil)))))))
def F_bare_answer : HS → List D → RH := callH0 2 4 g_bare_answer
abbrev s_answered : Stmt := topS 96
abbrev N_answered : List Str := ["hall", "name", "things", "0", "1"]
theorem sc_answered : FnScope N_answered ["hall", "name", "things"] (defScope s_answered) := ⟨rfl, rfl, rfl, by decide +kernel, rfl, by decide +kernel, by decide +kernel⟩
def g_answered : GS :=
    (sSeq (sIf (tstE (eInK ["call", "run", "go", "tell", "come", "leave"] (eV 1))) (sRetX (xCb1 strD (eCallH F_Hall_done 0 (aCons (oE (eOp2 addU (oE (eT (eSeq (aCons (oE (eV 1)) aNil)))) (oE (eApp tupleD (aCons (oE (eV 2)) aNil))))) aNil))))
    sNext)
    (sRetX (xIf (tstE (eOp2 eqW (oE (eApp lenD (aCons (oE (eV 2)) aNil))) (oE (eC (.int 0))))) (xE (eCallH F_bare_answer 0 (aCons (oE (eV 1)) aNil))) (eCallH F_asked 0 (aCons (oE (eV 1)) (aCons (oE (eOp2 ixD (oE (eV 2)) (oE (eC (.int 0))))) aNil))))))
def F_answered : HS → List D → RH := callH 3 5 g_answered
abbrev s_answer : Stmt := topS 97
abbrev N_answer : List Str := ["hall", "name", "things", "0", "1"]
theorem sc_answer : FnScope N_answer ["hall", "name", "things"] (defScope s_answer) := ⟨rfl, rfl, rfl, by decide +kernel, rfl, by decide +kernel, by decide +kernel⟩
def gb_answer_1 : GS :=
    (sRetX (eCallH F_answered 0 (aCons (oE (eV 1)) (aCons (oE (eV 2)) aNil))))
def g_answer : GS :=
    (sTryR CsL [("NoPerson", "refused NoPerson"), ("NoPlace", "refused NoPlace"), ("OtherPeople", "refused OtherPeople"), ("Barred", "refused Barred"), ("Full", "refused Full")] gb_answer_1)
def F_answer : HS → List D → RH := callH0 3 5 g_answer
abbrev s_count_in : Stmt := topS 65
abbrev N_count_in : List Str := ["part", "digit"]
theorem sc_count_in : FnScope N_count_in ["part"] (defScope s_count_in) := ⟨rfl, rfl, rfl, by decide +kernel, rfl, by decide +kernel, by decide +kernel⟩
def ce_count_in_1 : GE :=
    (eOp2 inS (oE (eV 1)) (oE (eC (.str "0123456789"))))
def g_count_in : GS :=
    (sSeq (sIf (tOrG (tNotG (tstE (eChain leD leD (oE (eC (.int 1))) (oE (eApp lenD (aCons (oE (eV 0)) aNil))) (oE (eC (.int 50)))))) (tNotG (tstE (eApp allD (aCons (oE (eL (eLc [1] (gStr (eV 0)) (gN 1) gYes ce_count_in_1))) aNil))))) (sRet (eC .none))
    sNext)
    (sRet (eIf (tOrG (tstE (eOp2 eqW (oE (eV 0)) (oE (eC (.str "0"))))) (tstE (eOp2 neW (oE (eOp2 ixD (oE (eV 0)) (oE (eC (.int 0))))) (oE (eC (.str "0")))))) (eApp intS (aCons (oE (eV 0)) aNil)) (eC .none))))
def F_count_in : List D → Option D := callP 1 2 g_count_in
abbrev s_integer_in : Stmt := topS 66
abbrev N_integer_in : List Str := ["part", "found"]
theorem sc_integer_in : FnScope N_integer_in ["part"] (defScope s_integer_in) := ⟨rfl, rfl, rfl, by decide +kernel, rfl, by decide +kernel, by decide +kernel⟩
def g_integer_in : GS :=
    (sSeq (sIf (tstE (eOp2 neW (oE (eSl sliceS (oE (eV 0)) pNo (pSo (eC (.int 1))))) (oE (eC (.str "-"))))) (sRet (eCall F_count_in (aCons (oE (eV 0)) aNil)))
    sNext)
    (sSeq (sSet 1 (eCall F_count_in (aCons (oE (eSl sliceS (oE (eV 0)) (pSo (eC (.int 1))) pNo)) aNil)))
    (sRet (eIf (tAndG (tstE (eOp2 isNotD (oE (eV 1)) (oE (eC .none)))) (tstE (eOp2 gtD (oE (eV 1)) (oE (eC (.int 0)))))) (eOp1 negD (oE (eV 1))) (eC .none)))))
def F_integer_in : List D → Option D := callP 1 2 g_integer_in
abbrev s_both_in : Stmt := topS 80
abbrev N_both_in : List Str := ["text", "first", "blank", "second", "found"]
theorem sc_both_in : FnScope N_both_in ["text"] (defScope s_both_in) := ⟨rfl, rfl, rfl, by decide +kernel, rfl, by decide +kernel, by decide +kernel⟩
def g_both_in : GS :=
    (sSeq (sTo (ePart (eV 0) (eC (.str " "))) (gT 3 (gsCons (gN 1) (gsCons (gN 2) (gsCons (gN 3) gsNil)))))
    (sSeq (sSet 4 (eL (eSeq (aCons (oE (eCall F_count_in (aCons (oE (eV 1)) aNil))) (aCons (oE (eCall F_integer_in (aCons (oE (eV 3)) aNil))) aNil)))))
    (sRet (eIf (tOrG (tstE (eOp2 eqW (oE (eV 2)) (oE (eC (.str ""))))) (tstE (eOp2 inX (oE (eC .none)) (oE (eV 4))))) (eC .none) (eV 4)))))
def F_both_in : List D → Option D := callP 1 5 g_both_in
abbrev s_all_or_none : Stmt := topS 68
abbrev N_all_or_none : List Str := ["found"]
theorem sc_all_or_none : FnScope N_all_or_none ["found"] (defScope s_all_or_none) := ⟨rfl, rfl, rfl, by decide +kernel, rfl, by decide +kernel, by decide +kernel⟩
def g_all_or_none : GS :=
    (sRet (eIf (tstE (eOp2 inX (oE (eC .none)) (oE (eV 0)))) (eC .none) (eV 0)))
def F_all_or_none : List D → Option D := callP 1 1 g_all_or_none
abbrev s_words_of : Stmt := topS 67
abbrev N_words_of : List Str := ["text"]
theorem sc_words_of : FnScope N_words_of ["text"] (defScope s_words_of) := ⟨rfl, rfl, rfl, by decide +kernel, rfl, by decide +kernel, by decide +kernel⟩
def g_words_of : GS :=
    (sRet (eIf (tstE (eOp2 eqW (oE (eV 0)) (oE (eC (.str "-"))))) (eL (eSeq aNil)) (eL (eSplit (eV 0) (eC (.str " "))))))
def F_words_of : List D → Option D := callP 1 1 g_words_of
abbrev s_calls_or_none : Stmt := topS 70
abbrev N_calls_or_none : List Str := ["text", "word"]
theorem sc_calls_or_none : FnScope N_calls_or_none ["text"] (defScope s_calls_or_none) := ⟨rfl, rfl, rfl, by decide +kernel, rfl, by decide +kernel, by decide +kernel⟩
def ce_calls_or_none_1 : GE :=
    (eCall F_count_in (aCons (oE (eV 1)) aNil))
def g_calls_or_none : GS :=
    (sRet (eCall F_all_or_none (aCons (oE (eL (eLc [1] (gSeq (eCall F_words_of (aCons (oE (eV 0)) aNil))) (gN 1) gYes ce_calls_or_none_1))) aNil)))
def F_calls_or_none : List D → Option D := callP 1 2 g_calls_or_none
abbrev s_one_in : Stmt := topS 79
abbrev N_one_in : List Str := ["found"]
theorem sc_one_in : FnScope N_one_in ["found"] (defScope s_one_in) := ⟨rfl, rfl, rfl, by decide +kernel, rfl, by decide +kernel, by decide +kernel⟩
def g_one_in : GS :=
    (sRet (eIf (tstE (eOp2 isD (oE (eV 0)) (oE (eC .none)))) (eC .none) (eL (eSeq (aCons (oE (eV 0)) aNil)))))
def F_one_in : List D → Option D := callP 1 1 g_one_in
abbrev s_row_or_none : Stmt := topS 69
abbrev N_row_or_none : List Str := ["text", "found", "word"]
theorem sc_row_or_none : FnScope N_row_or_none ["text"] (defScope s_row_or_none) := ⟨rfl, rfl, rfl, by decide +kernel, rfl, by decide +kernel, by decide +kernel⟩
def ce_row_or_none_1 : GE :=
    (eCall F_integer_in (aCons (oE (eV 2)) aNil))
def g_row_or_none : GS :=
    (sSeq (sSet 1 (eCall F_all_or_none (aCons (oE (eL (eLc [2] (gSeq (eCall F_words_of (aCons (oE (eV 0)) aNil))) (gN 2) gYes ce_row_or_none_1))) aNil)))
    (sRet (eIf (tstE (eOp2 isD (oE (eV 1)) (oE (eC .none)))) (eC .none) (eApp tupleD (aCons (oE (eV 1)) aNil)))))
def F_row_or_none : List D → Option D := callP 1 3 g_row_or_none
abbrev s_wish_or_none : Stmt := topS 71
abbrev N_wish_or_none : List Str := ["text", "words", "word"]
theorem sc_wish_or_none : FnScope N_wish_or_none ["text"] (defScope s_wish_or_none) := ⟨rfl, rfl, rfl, by decide +kernel, rfl, by decide +kernel, by decide +kernel⟩
def ce_wish_or_none_1 : GE :=
    (eOrG (eOp2 eqW (oE (eV 2)) (oE (eC (.str "?")))) (eOp2 isNotD (oE (eCall F_integer_in (aCons (oE (eV 2)) aNil))) (oE (eC .none))))
def ce_wish_or_none_2 : GE :=
    (eCall F_integer_in (aCons (oE (eV 2)) aNil))
def g_wish_or_none : GS :=
    (sSeq (sSet 1 (eCall F_words_of (aCons (oE (eV 0)) aNil)))
    (sSeq (sIf (tNotG (tstE (eApp allD (aCons (oE (eL (eLc [2] (gSeq (eV 1)) (gN 2) gYes ce_wish_or_none_1))) aNil)))) (sRet (eC .none))
    sNext)
    (sRet (eApp tupleD (aCons (oE (eL (eLc [2] (gSeq (eV 1)) (gN 2) gYes ce_wish_or_none_2))) aNil)))))
def F_wish_or_none : List D → Option D := callP 1 3 g_wish_or_none
abbrev s_arguments_in : Stmt := topS 81
abbrev N_arguments_in : List Str := ["name", "text"]
theorem sc_arguments_in : FnScope N_arguments_in ["name", "text"] (defScope s_arguments_in) := ⟨rfl, rfl, rfl, by decide +kernel, rfl, by decide +kernel, by decide +kernel⟩
def g_arguments_in : GS :=
    (sSeq (sIf (tstE (eOp2 inX (oE (eV 0)) (oE (eC (.tuple ((["call", "leave"] : List Str).map .str)))))) (sRet (eCall F_one_in (aCons (oE (eCall F_count_in (aCons (oE (eV 1)) aNil))) aNil)))
    sNext)
    (sSeq (sIf (tstE (eOp2 inX (oE (eV 0)) (oE (eC (.tuple ((["tell", "come"] : List Str).map .str)))))) (sRet (eCall F_both_in (aCons (oE (eV 1)) aNil)))
    sNext)
    (sSeq (sIf (tstE (eOp2 inX (oE (eV 0)) (oE (eC (.tuple ((["go", "far", "ways", "bar"] : List Str).map .str)))))) (sRet (eCall F_one_in (aCons (oE (eCall F_row_or_none (aCons (oE (eV 1)) aNil))) aNil)))
    sNext)
    (sSeq (sIf (tstE (eOp2 eqW (oE (eV 0)) (oE (eC (.str "run"))))) (sRet (eCall F_one_in (aCons (oE (eCall F_calls_or_none (aCons (oE (eV 1)) aNil))) aNil)))
    sNext)
    (sRet (eIf (tstE (eOp2 eqW (oE (eV 0)) (oE (eC (.str "wish"))))) (eCall F_one_in (aCons (oE (eCall F_wish_or_none (aCons (oE (eV 1)) aNil))) aNil)) (eC .none)))))))
def F_arguments_in : List D → Option D := callP 2 2 g_arguments_in
abbrev s_request_in : Stmt := topS 82
abbrev N_request_in : List Str := ["line", "name", "blank", "text", "found"]
theorem sc_request_in : FnScope N_request_in ["line"] (defScope s_request_in) := ⟨rfl, rfl, rfl, by decide +kernel, rfl, by decide +kernel, by decide +kernel⟩
def g_request_in : GS :=
    (sSeq (sTo (ePart (eV 0) (eC (.str " "))) (gT 3 (gsCons (gN 1) (gsCons (gN 2) (gsCons (gN 3) gsNil)))))
    (sSeq (sIf (tstE (eOp2 eqW (oE (eV 2)) (oE (eC (.str ""))))) (sRet (eIf (tstE (eOp2 inX (oE (eV 1)) (oE (eC (.tuple ((["undo", "show", "tops", "dips", "futures", "rests"] : List Str).map .str)))))) (eT (eSeq (aCons (oE (eV 1)) (aCons (oE (eL (eSeq aNil))) aNil)))) (eC .none)))
    sNext)
    (sSeq (sSet 4 (eCall F_arguments_in (aCons (oE (eV 1)) (aCons (oE (eV 3)) aNil))))
    (sRet (eIf (tstE (eOp2 isD (oE (eV 4)) (oE (eC .none)))) (eC .none) (eT (eSeq (aCons (oE (eV 1)) (aCons (oE (eV 4)) aNil)))))))))
def F_request_in : List D → Option D := callP 1 5 g_request_in
abbrev s_requests_in : Stmt := topS 83
abbrev N_requests_in : List Str := ["text", "lines", "found", "row", "place", "line", "request"]
theorem sc_requests_in : FnScope N_requests_in ["text"] (defScope s_requests_in) := ⟨rfl, rfl, rfl, by decide +kernel, rfl, by decide +kernel, by decide +kernel⟩
def gb_requests_in_1 : GS :=
    (sSeq (sSet 6 (eCall F_request_in (aCons (oE (eV 5)) aNil)))
    (sSeq (sIf (tstE (eOp2 isD (oE (eV 6)) (oE (eC .none)))) (sRaise "BadLine" (eOp2 addU (oE (eV 4)) (oE (eC (.int 1)))))
    sNext)
    (sApp 2 (eV 6))))
def g_requests_in : GS :=
    (sSeq (sPar 1 2 (nS (eL (eSplit (eV 0) (eC (.str "\n"))))) (nF (eSeq aNil)))
    (sSeq (sSet 3 (eCall F_row_or_none (aCons (oE (eOp2 ixD (oE (eV 1)) (oE (eC (.int 0))))) aNil)))
    (sSeq (sIf (tOrG (tstE (eOp2 isD (oE (eV 3)) (oE (eC .none)))) (tstE (eOp2 gtD (oE (eApp lenD (aCons (oE (eV 3)) aNil))) (oE (eC (.int 16)))))) (sRaise "BadLine" (eC (.int 0)))
    sNext)
    (sSeq (sFor (eCall enum1D (aCons (oE (eSl sliceU (oE (eV 1)) (pSo (eC (.int 1))) pNo)) aNil)) (gT 2 (gsCons (gN 4) (gsCons (gN 5) gsNil))) gb_requests_in_1)
    (sFz 2 (sRet (eT (eSeq (aCons (oE (eV 3)) (aCons (oE (eV 2)) aNil))))))))))
def F_requests_in : List D → RX D := callX 1 7 g_requests_in
abbrev s_answers : Stmt := topS 98
abbrev N_answers : List Str := ["text", "row", "requests", "hall", "name", "things", "0hall", "1hall"]
theorem sc_answers : FnScope N_answers ["text"] (defScope s_answers) := ⟨rfl, rfl, rfl, by decide +kernel, rfl, by decide +kernel, by decide +kernel⟩
def ce_answers_1 : GE :=
    (eCallH F_answer 3 (aCons (oE (eV 4)) (aCons (oE (eV 5)) aNil)))
def g_answers : GS :=
    (sSeq (sToX (eCallX F_requests_in (aCons (oE (eV 0)) aNil)) (gT 2 (gsCons (gN 1) (gsCons (gN 2) gsNil))))
    (sSeq (sHall 3 6 gi_Hall (eV 1))
    (sRetF (eLc [4, 5] (gSeq (eV 2)) (gT 2 (gsCons (gN 4) (gsCons (gN 5) gsNil))) gYes ce_answers_1))))
def F_answers : List D → RX (List D) := callXF 1 8 g_answers
abbrev s__law_first_right : Stmt := topS 104
abbrev N__law_first_right : List Str := ["_law_more", "_law_rows", "_law_due"]
theorem sc__law_first_right : FnScope N__law_first_right ["_law_more"] (defScope s__law_first_right) := ⟨rfl, rfl, rfl, by decide +kernel, rfl, by decide +kernel, by decide +kernel⟩
def g__law_first_right : GS :=
    (sSeq (sSet 1 (eL (eSeq (aCons (oE (eC (.str "0 5 2 4 0"))) (aCons (oE (eC (.str "tops"))) (aCons (oE (eC (.str "dips"))) (aCons (oE (eC (.str "futures"))) (aCons (oE (eC (.str "rests"))) (aCons (oE (eC (.str "bar 0 3 3 4 0"))) (aCons (oE (eC (.str "bar 0 5 2 5 0"))) (aCons (oE (eC (.str "bar 0 3 4 4 0"))) aNil)))))))))))
    (sSeq (sSet 1 (eOp2 addU (oE (eV 1)) (oE (eL (eSeq (aCons (oE (eC (.str "bar 0 2 2 2 0"))) (aCons (oE (eC (.str "far 0 2 2 2 0"))) (aCons (oE (eC (.str "ways 0 2 2 2 0"))) aNil))))))))
    (sSeq (sSet 1 (eOp2 addU (oE (eV 1)) (oE (eL (eSeq (aCons (oE (eC (.str "far 0 3 2 4 0"))) (aCons (oE (eC (.str "far 0 5"))) (aCons (oE (eC (.str "wish ? 2 ? ? ?"))) aNil))))))))
    (sSeq (sSet 1 (eOp2 addU (oE (eV 1)) (oE (eL (eSeq (aCons (oE (eC (.str "wish ? ?"))) (aCons (oE (eC (.str "call 5"))) (aCons (oE (eC (.str "leave 5"))) (aCons (oE (eC (.str "tell 5 1"))) aNil)))))))))
    (sSeq (sSet 1 (eOp2 addU (oE (eV 1)) (oE (eL (eSeq (aCons (oE (eC (.str "come 6 1"))) (aCons (oE (eC (.str "run 3 0 3 1"))) (aCons (oE (eC (.str "show"))) (aCons (oE (eC (.str "go 0 4 4 4 0"))) aNil)))))))))
    (sSeq (sSet 1 (eOp2 addU (oE (eV 1)) (oE (eL (eSeq (aCons (oE (eC (.str "undo"))) (aCons (oE (eC (.str "undo"))) (aCons (oE (eC (.str "go 0 4 4 4 0"))) (aCons (oE (eC (.str "undo"))) aNil)))))))))
    (sSeq (sSet 2 (eL (eSeq (aCons (oE (eC (.str "1 3"))) (aCons (oE (eC (.str "2"))) (aCons (oE (eC (.str "6"))) (aCons (oE (eC (.str "2"))) (aCons (oE (eC (.str "run 1"))) (aCons (oE (eC (.str "change 3"))) aNil)))))))))
    (sSeq (sSet 2 (eOp2 addU (oE (eV 2)) (oE (eL (eSeq (aCons (oE (eC (.str "order 1"))) (aCons (oE (eC (.str "none"))) (aCons (oE (eC (.str "2"))) (aCons (oE (eC (.str "2"))) (aCons (oE (eC (.str "refused Barred"))) (aCons (oE (eC (.str "refused OtherPeople"))) aNil)))))))))))
    (sSeq (sSet 2 (eOp2 addU (oE (eV 2)) (oE (eL (eSeq (aCons (oE (eC (.str "2"))) (aCons (oE (eC (.str "refused OtherPeople"))) (aCons (oE (eC (.str "refused NoPerson"))) aNil))))))))
    (sSeq (sSet 2 (eOp2 addU (oE (eV 2)) (oE (eL (eSeq (aCons (oE (eC (.str "refused NoPerson"))) (aCons (oE (eC (.str "refused NoPerson"))) (aCons (oE (eC (.str "refused NoPlace"))) aNil))))))))
    (sSeq (sSet 2 (eOp2 addU (oE (eV 2)) (oE (eL (eSeq (aCons (oE (eC (.str "2"))) (aCons (oE (eC (.str "0 2 2 2 0"))) (aCons (oE (eC (.str "refused Barred"))) (aCons (oE (eC (.str "done"))) (aCons (oE (eC (.str "nothing"))) (aCons (oE (eC (.str "2"))) (aCons (oE (eC (.str "done"))) aNil))))))))))))
    (sRet (eCall (F__law_same 6) (aCons (oE (eL (eCallX F_answers (aCons (oE (eJoin (eC (.str "\n")) (eOp2 addU (oE (eV 1)) (oE (eOp2 mulV (oE (eL (eSeq (aCons (oE (eC (.str "futures"))) aNil)))) (oE (eV 0))))))) aNil)))) (aCons (oE (eOp2 addU (oE (eV 2)) (oE (eOp2 mulV (oE (eL (eSeq (aCons (oE (eC (.str "6"))) aNil)))) (oE (eV 0)))))) aNil)))))))))))))))
def F__law_first_right : List D → Option D := callP 1 3 g__law_first_right
abbrev s__law_second_right : Stmt := topS 105
abbrev N__law_second_right : List Str := ["_law_more", "_law_high", "_law_rows", "_law_due"]
theorem sc__law_second_right : FnScope N__law_second_right ["_law_more"] (defScope s__law_second_right) := ⟨rfl, rfl, rfl, by decide +kernel, rfl, by decide +kernel, by decide +kernel⟩
def g__law_second_right : GS :=
    (sSeq (sSet 1 (eOp2 addU (oE (eC (.str "1"))) (oE (eOp2 repS (oE (eC (.str "0"))) (oE (eC (.int 40)))))))
    (sSeq (sSet 2 (eL (eSeq (aCons (oE (eOp2 addU (oE (eOp2 addU (oE (eOp2 addU (oE (eC (.str "0 "))) (oE (eV 1)))) (oE (eC (.str " -"))))) (oE (eV 1)))) (aCons (oE (eC (.str "futures"))) (aCons (oE (eC (.str "tell 2 -5"))) (aCons (oE (eC (.str "come 3 7"))) (aCons (oE (eC (.str "tops"))) aNil))))))))
    (sSeq (sSet 2 (eOp2 addU (oE (eV 2)) (oE (eL (eSeq (aCons (oE (eC (.str "dips"))) (aCons (oE (eC (.str "show"))) (aCons (oE (eC (.str "rests"))) (aCons (oE (eC (.str "call 2"))) (aCons (oE (eC (.str "call 1"))) aNil))))))))))
    (sSeq (sSet 2 (eOp2 addU (oE (eV 2)) (oE (eL (eSeq (aCons (oE (eC (.str "show"))) (aCons (oE (eC (.str "ways 0 0 0 7"))) (aCons (oE (eC (.str "undo"))) (aCons (oE (eC (.str "undo"))) aNil)))))))))
    (sSeq (sSet 2 (eOp2 addU (oE (eV 2)) (oE (eL (eSeq (aCons (oE (eC (.str "far 0 0 0 7"))) (aCons (oE (eC (.str "ways 0 0 0 7"))) (aCons (oE (eC (.str "ways 0 7 7 7"))) (aCons (oE (eC (.str "wish ? ? 7 ?"))) aNil)))))))))
    (sSeq (sSet 2 (eOp2 addU (oE (eV 2)) (oE (eL (eSeq (aCons (oE (eC (.str "leave 1"))) aNil))))))
    (sSeq (sSet 3 (eL (eSeq (aCons (oE (eC (.str "2"))) (aCons (oE (eOp2 addU (oE (eC (.str "-"))) (oE (eV 1)))) (aCons (oE (eC (.str "4"))) (aCons (oE (eC (.str "1"))) (aCons (oE (eC (.str "2"))) (aCons (oE (eOp2 addU (oE (eOp2 addU (oE (eC (.str "0 "))) (oE (eV 1)))) (oE (eC (.str " -5 7"))))) aNil)))))))))
    (sSeq (sSet 3 (eOp2 addU (oE (eV 3)) (oE (eL (eSeq (aCons (oE (eC (.str "2"))) (aCons (oE (eC (.str "7"))) (aCons (oE (eC (.str "7"))) (aCons (oE (eC (.str "0 7 7 7"))) (aCons (oE (eC (.str "refused Barred"))) (aCons (oE (eC (.str "done"))) aNil)))))))))))
    (sSeq (sSet 3 (eOp2 addU (oE (eV 3)) (oE (eL (eSeq (aCons (oE (eC (.str "done"))) (aCons (oE (eC (.str "2"))) (aCons (oE (eC (.str "1"))) (aCons (oE (eC (.str "1"))) (aCons (oE (eC (.str "2"))) (aCons (oE (eV 1)) aNil)))))))))))
    (sRet (eCall (F__law_same 6) (aCons (oE (eL (eCallX F_answers (aCons (oE (eJoin (eC (.str "\n")) (eOp2 addU (oE (eV 2)) (oE (eOp2 mulV (oE (eL (eSeq (aCons (oE (eC (.str "futures"))) aNil)))) (oE (eV 0))))))) aNil)))) (aCons (oE (eOp2 addU (oE (eV 3)) (oE (eOp2 mulV (oE (eL (eSeq (aCons (oE (eC (.str "2"))) aNil)))) (oE (eV 0)))))) aNil)))))))))))))
def F__law_second_right : List D → Option D := callP 1 4 g__law_second_right
abbrev s__law_third_right : Stmt := topS 106
abbrev N__law_third_right : List Str := ["_law_more", "_law_wave", "_law_low", "_law_high", "_law_rows", "_law_due"]
theorem sc__law_third_right : FnScope N__law_third_right ["_law_more"] (defScope s__law_third_right) := ⟨rfl, rfl, rfl, by decide +kernel, rfl, by decide +kernel, by decide +kernel⟩
def g__law_third_right : GS :=
    (sSeq (sPar3 1 2 3 (nS (eJoin (eC (.str " ")) (eOp2 mulV (oE (eL (eSeq (aCons (oE (eC (.str "0"))) (aCons (oE (eC (.str "9"))) aNil))))) (oE (eC (.int 8)))))) (nS (eJoin (eC (.str " ")) (eOp2 addU (oE (eOp2 mulV (oE (eL (eSeq (aCons (oE (eC (.str "0"))) aNil)))) (oE (eC (.int 15))))) (oE (eL (eSeq (aCons (oE (eC (.str "9"))) aNil))))))) (nS (eJoin (eC (.str " ")) (eOp2 addU (oE (eL (eSeq (aCons (oE (eC (.str "0"))) aNil)))) (oE (eOp2 mulV (oE (eL (eSeq (aCons (oE (eC (.str "9"))) aNil)))) (oE (eC (.int 15)))))))))
    (sSeq (sSet 4 (eL (eSeq (aCons (oE (eV 1)) (aCons (oE (eC (.str "come 0 1"))) (aCons (oE (eC (.str "tops"))) (aCons (oE (eOp2 addU (oE (eC (.str "far "))) (oE (eV 2)))) (aCons (oE (eOp2 addU (oE (eC (.str "ways "))) (oE (eV 2)))) aNil))))))))
    (sSeq (sSet 4 (eOp2 addU (oE (eV 4)) (oE (eL (eSeq (aCons (oE (eOp2 addU (oE (eC (.str "far "))) (oE (eV 3)))) (aCons (oE (eOp2 addU (oE (eC (.str "go "))) (oE (eV 2)))) (aCons (oE (eC (.str "show"))) (aCons (oE (eC (.str "futures"))) (aCons (oE (eC (.str "undo"))) aNil))))))))))
    (sSeq (sSet 4 (eOp2 addU (oE (eV 4)) (oE (eL (eSeq (aCons (oE (eC (.str "call 1"))) (aCons (oE (eC (.str "call 2"))) (aCons (oE (eC (.str "call 3"))) (aCons (oE (eOp2 addU (oE (eC (.str "bar "))) (oE (eV 2)))) (aCons (oE (eC (.str "leave 15"))) (aCons (oE (eC (.str "come 15 9"))) aNil)))))))))))
    (sSeq (sSet 4 (eOp2 addU (oE (eV 4)) (oE (eL (eSeq (aCons (oE (eC (.str "undo"))) (aCons (oE (eC (.str "undo"))) (aCons (oE (eC (.str "undo"))) (aCons (oE (eC (.str "undo"))) (aCons (oE (eC (.str "undo"))) aNil))))))))))
    (sSeq (sSet 5 (eL (eSeq (aCons (oE (eC (.str "refused Full"))) (aCons (oE (eC (.str "1 3 5 7 9 11 13"))) (aCons (oE (eC (.str "7"))) (aCons (oE (eC (.str "5040"))) (aCons (oE (eC (.str "7"))) (aCons (oE (eC (.str "7"))) (aCons (oE (eV 2)) (aCons (oE (eC (.str "1"))) aNil)))))))))))
    (sSeq (sSet 5 (eOp2 addU (oE (eV 5)) (oE (eL (eSeq (aCons (oE (eC (.str "done"))) (aCons (oE (eC (.str "0"))) (aCons (oE (eC (.str "0"))) (aCons (oE (eC (.str "0"))) (aCons (oE (eC (.str "none"))) (aCons (oE (eC (.str "9"))) (aCons (oE (eC (.str "16"))) aNil))))))))))))
    (sSeq (sSet 5 (eOp2 addU (oE (eV 5)) (oE (eOp2 mulV (oE (eL (eSeq (aCons (oE (eC (.str "done"))) aNil)))) (oE (eC (.int 5)))))))
    (sRet (eCall (F__law_same 6) (aCons (oE (eL (eCallX F_answers (aCons (oE (eJoin (eC (.str "\n")) (eOp2 addU (oE (eV 4)) (oE (eOp2 mulV (oE (eL (eSeq (aCons (oE (eC (.str "dips"))) aNil)))) (oE (eV 0))))))) aNil)))) (aCons (oE (eOp2 addU (oE (eV 5)) (oE (eOp2 mulV (oE (eL (eSeq (aCons (oE (eC (.str "2 4 6 8 10 12 14"))) aNil)))) (oE (eV 0)))))) aNil))))))))))))
def F__law_third_right : List D → Option D := callP 1 6 g__law_third_right
abbrev s__law_right : Stmt := topS 107
abbrev N__law_right : List Str := ["_law_source", "_law_more"]
theorem sc__law_right : FnScope N__law_right ["_law_source"] (defScope s__law_right) := ⟨rfl, rfl, rfl, by decide +kernel, rfl, by decide +kernel, by decide +kernel⟩
def g__law_right : GS :=
    (sSeq (sSet 1 (eCallB (F__law_draw 8) 0 (aCons (oE (eC (.int 31))) aNil)))
    (sRet (eAndG (eCall F__law_first_right (aCons (oE (eV 1)) aNil)) (eAndG (eCall F__law_second_right (aCons (oE (eV 1)) aNil)) (eCall F__law_third_right (aCons (oE (eV 1)) aNil))))))
def F__law_right : List D → List D → Option (D × List D) := callB 1 2 g__law_right
abbrev s__law_stream : Stmt := topS 100
abbrev N__law_stream : List Str := ["_law_script", "_law_k", "_law_cell"]
theorem sc__law_stream : FnScope N__law_stream ["_law_script", "_law_k"] (defScope s__law_stream) := ⟨rfl, rfl, rfl, by decide +kernel, rfl, by decide +kernel, by decide +kernel⟩
def g__law_stream : GS :=
    (sSeq (sSet 2 (eC (.int 0)))
    (sSeq (sIf (tstE (eOp2 ltD (oE (eV 1)) (oE (eApp lenD (aCons (oE (eV 0)) aNil))))) (sSet 2 (eOp2 ixD (oE (eV 0)) (oE (eV 1))))
    sNext)
    (sRetF (eSeq (aCons (oE (eOp2 mulV (oE (eApp absD (aCons (oE (eV 2)) aNil))) (oE (eApp intD (aCons (oE (eOp2 geD (oE (eApp absD (aCons (oE (eV 2)) aNil))) (oE (eOp2 powD (oE (eC (.int 10))) (oE (eC (.int 18))))))) aNil))))) (aCons (oE (eOp2 addU (oE (eOp2 addU (oE (eOp2 modD (oE (eV 2)) (oE (eC (.int 2305843009213693951))))) (oE (eOp2 mulV (oE (eC (.int 39373))) (oE (eV 1)))))) (oE (eC (.int 29))))) (aCons (oE (eC (.int 0))) aNil)))))))
def F__law_stream : List D → Option (List D) := callF 2 3 g__law_stream
abbrev s_law : Stmt := topS 108
abbrev N_law : List Str := ["_law_script", "_law_cells", "_law_k"]
theorem sc_law : FnScope N_law ["_law_script"] (defScope s_law) := ⟨rfl, rfl, rfl, by decide +kernel, rfl, by decide +kernel, by decide +kernel⟩
def ce_law_1 : GE :=
    (eCallBX F__law_right (eCall F__law_stream (aCons (oE (eV 1)) (aCons (oE (eV 2)) aNil))) aNil)
def g_law : GS :=
    (sSeq (sSet 1 (eL (eCall F__law_folded (aCons (oE (eV 0)) (aCons (oE (eC (.int 3))) aNil)))))
    (sRet (eApp allD (aCons (oE (eL (eLc [2] (eCall rng1 (aCons (oE (eApp lenD (aCons (oE (eV 1)) aNil))) aNil)) (gN 2) gYes ce_law_1))) aNil))))
def F_law : List D → Option D := callP 1 3 g_law
set_option genInjectivity false
set_option genSizeOf false
structure Tx (K : PySem.W.Frag) (mg : Str → Option Value) (w : World) where
  c_Hall : Addr
  m_Hall : mg "Hall" = some (.ref c_Hall)
  hc_Hall : HallC K c_Hall
  fi_Hall : Addr
  fd_Hall : FuncData
  Fi_Hall : FunD K "__init__" "Hall.__init__" si_Hall fi_Hall fd_Hall
  mk_Hall : Mk K c_Hall fi_Hall
  bi_Hall : Binds K fd_Hall ["self", "row"] []
  a__law_folded : Addr
  d__law_folded : FuncData
  F__law_folded : Fun K "_law_folded" "_law_folded" s__law_folded a__law_folded d__law_folded
  m__law_folded : mg "_law_folded" = some (.ref a__law_folded)
  b__law_folded : Binds K d__law_folded ["_law_script", "_law_most"] []
  a__law_draw : Addr
  d__law_draw : FuncData
  F__law_draw : Fun K "_law_draw" "_law_draw" s__law_draw a__law_draw d__law_draw
  m__law_draw : mg "_law_draw" = some (.ref a__law_draw)
  b__law_draw : Binds K d__law_draw ["_law_source", "_law_bound"] []
  a__law_same : Addr
  d__law_same : FuncData
  F__law_same : Fun K "_law_same" "_law_same" s__law_same a__law_same d__law_same
  m__law_same : mg "_law_same" = some (.ref a__law_same)
  b__law_same : Binds K d__law_same ["_law_found", "_law_due"] []
  a_Hall_row : Addr
  d_Hall_row : FuncData
  F_Hall_row : Fun K "row" "Hall.row" s_Hall_row a_Hall_row d_Hall_row
  mt_Hall_row : Meth K c_Hall "row" a_Hall_row
  b_Hall_row : Binds K d_Hall_row ["self"] []
  a_look_person : Addr
  d_look_person : FuncData
  F_look_person : Fun K "look_person" "look_person" s_look_person a_look_person d_look_person
  m_look_person : mg "look_person" = some (.ref a_look_person)
  b_look_person : Binds K d_look_person ["row", "person"] []
  a_middle_of : Addr
  d_middle_of : FuncData
  F_middle_of : Fun K "middle_of" "middle_of" s_middle_of a_middle_of d_middle_of
  m_middle_of : mg "middle_of" = some (.ref a_middle_of)
  b_middle_of : Binds K d_middle_of ["row", "person"] []
  a_called : Addr
  d_called : FuncData
  F_called : Fun K "called" "called" s_called a_called d_called
  m_called : mg "called" = some (.ref a_called)
  b_called : Binds K d_called ["row", "person"] []
  a_Hall_call : Addr
  d_Hall_call : FuncData
  F_Hall_call : Fun K "call" "Hall.call" s_Hall_call a_Hall_call d_Hall_call
  mt_Hall_call : Meth K c_Hall "call" a_Hall_call
  b_Hall_call : Binds K d_Hall_call ["self", "person"] []
  a_Hall___len__ : Addr
  d_Hall___len__ : FuncData
  F_Hall___len__ : Fun K "__len__" "Hall.__len__" s_Hall___len__ a_Hall___len__ d_Hall___len__
  mt_Hall___len__ : Meth K c_Hall "__len__" a_Hall___len__
  b_Hall___len__ : Binds K d_Hall___len__ ["self"] []
  a_Hall_come : Addr
  d_Hall_come : FuncData
  F_Hall_come : Fun K "come" "Hall.come" s_Hall_come a_Hall_come d_Hall_come
  mt_Hall_come : Meth K c_Hall "come" a_Hall_come
  b_Hall_come : Binds K d_Hall_come ["self", "place", "number"] []
  a_look_many : Addr
  d_look_many : FuncData
  F_look_many : Fun K "look_many" "look_many" s_look_many a_look_many d_look_many
  m_look_many : mg "look_many" = some (.ref a_look_many)
  b_look_many : Binds K d_look_many ["one", "other"] []
  a_inner : Addr
  d_inner : FuncData
  F_inner : Fun K "inner" "inner" s_inner a_inner d_inner
  m_inner : mg "inner" = some (.ref a_inner)
  b_inner : Binds K d_inner ["row"] []
  a_dips : Addr
  d_dips : FuncData
  F_dips : Fun K "dips" "dips" s_dips a_dips d_dips
  m_dips : mg "dips" = some (.ref a_dips)
  b_dips : Binds K d_dips ["row"] []
  a_tops : Addr
  d_tops : FuncData
  F_tops : Fun K "tops" "tops" s_tops a_tops d_tops
  m_tops : mg "tops" = some (.ref a_tops)
  b_tops : Binds K d_tops ["row"] []
  a_wrong_changes : Addr
  d_wrong_changes : FuncData
  F_wrong_changes : Fun K "wrong_changes" "wrong_changes" s_wrong_changes a_wrong_changes d_wrong_changes
  m_wrong_changes : mg "wrong_changes" = some (.ref a_wrong_changes)
  b_wrong_changes : Binds K d_wrong_changes ["one", "other"] []
  a_wrong_orders : Addr
  d_wrong_orders : FuncData
  F_wrong_orders : Fun K "wrong_orders" "wrong_orders" s_wrong_orders a_wrong_orders d_wrong_orders
  m_wrong_orders : mg "wrong_orders" = some (.ref a_wrong_orders)
  b_wrong_orders : Binds K d_wrong_orders ["one", "other"] []
  a_runs : Addr
  d_runs : FuncData
  F_runs : Fun K "runs" "runs" s_runs a_runs d_runs
  m_runs : mg "runs" = some (.ref a_runs)
  b_runs : Binds K d_runs ["row"] []
  a_stayed : Addr
  d_stayed : FuncData
  F_stayed : Fun K "stayed" "stayed" s_stayed a_stayed d_stayed
  m_stayed : mg "stayed" = some (.ref a_stayed)
  b_stayed : Binds K d_stayed ["one", "other", "first", "last"] []
  a_wrong_runs : Addr
  d_wrong_runs : FuncData
  F_wrong_runs : Fun K "wrong_runs" "wrong_runs" s_wrong_runs a_wrong_runs d_wrong_runs
  m_wrong_runs : mg "wrong_runs" = some (.ref a_wrong_runs)
  b_wrong_runs : Binds K d_wrong_runs ["one", "other"] []
  a_bar : Addr
  d_bar : FuncData
  F_bar : Fun K "bar" "bar" s_bar a_bar d_bar
  m_bar : mg "bar" = some (.ref a_bar)
  b_bar : Binds K d_bar ["one", "other"] []
  a_look_leads : Addr
  d_look_leads : FuncData
  F_look_leads : Fun K "look_leads" "look_leads" s_look_leads a_look_leads d_look_leads
  m_look_leads : mg "look_leads" = some (.ref a_look_leads)
  b_look_leads : Binds K d_look_leads ["one", "other"] []
  a_changed : Addr
  d_changed : FuncData
  F_changed : Fun K "changed" "changed" s_changed a_changed d_changed
  m_changed : mg "changed" = some (.ref a_changed)
  b_changed : Binds K d_changed ["one", "other"] []
  a_distance : Addr
  d_distance : FuncData
  F_distance : Fun K "distance" "distance" s_distance a_distance d_distance
  m_distance : mg "distance" = some (.ref a_distance)
  b_distance : Binds K d_distance ["one", "other"] []
  a_Hall_go : Addr
  d_Hall_go : FuncData
  F_Hall_go : Fun K "go" "Hall.go" s_Hall_go a_Hall_go d_Hall_go
  mt_Hall_go : Meth K c_Hall "go" a_Hall_go
  b_Hall_go : Binds K d_Hall_go ["self", "goal"] []
  a_Hall_leave : Addr
  d_Hall_leave : FuncData
  F_Hall_leave : Fun K "leave" "Hall.leave" s_Hall_leave a_Hall_leave d_Hall_leave
  mt_Hall_leave : Meth K c_Hall "leave" a_Hall_leave
  b_Hall_leave : Binds K d_Hall_leave ["self", "person"] []
  a_idle : Addr
  d_idle : FuncData
  F_idle : Fun K "idle" "idle" s_idle a_idle d_idle
  m_idle : mg "idle" = some (.ref a_idle)
  b_idle : Binds K d_idle ["row", "calls"] []
  a_run : Addr
  d_run : FuncData
  F_run : Fun K "run" "run" s_run a_run d_run
  m_run : mg "run" = some (.ref a_run)
  b_run : Binds K d_run ["row", "calls"] []
  a_Hall_run : Addr
  d_Hall_run : FuncData
  F_Hall_run : Fun K "run" "Hall.run" s_Hall_run a_Hall_run d_Hall_run
  mt_Hall_run : Meth K c_Hall "run" a_Hall_run
  b_Hall_run : Binds K d_Hall_run ["self", "calls"] []
  a_Hall_tell : Addr
  d_Hall_tell : FuncData
  F_Hall_tell : Fun K "tell" "Hall.tell" s_Hall_tell a_Hall_tell d_Hall_tell
  mt_Hall_tell : Meth K c_Hall "tell" a_Hall_tell
  b_Hall_tell : Binds K d_Hall_tell ["self", "person", "number"] []
  a_Hall_done : Addr
  d_Hall_done : FuncData
  F_Hall_done : Fun K "done" "Hall.done" s_Hall_done a_Hall_done d_Hall_done
  mt_Hall_done : Meth K c_Hall "done" a_Hall_done
  b_Hall_done : Binds K d_Hall_done ["self", "deed"] []
  a_bar_text : Addr
  d_bar_text : FuncData
  F_bar_text : Fun K "bar_text" "bar_text" s_bar_text a_bar_text d_bar_text
  m_bar_text : mg "bar_text" = some (.ref a_bar_text)
  b_bar_text : Binds K d_bar_text ["reason"] []
  a_open_parts : Addr
  d_open_parts : FuncData
  F_open_parts : Fun K "open_parts" "open_parts" s_open_parts a_open_parts d_open_parts
  m_open_parts : mg "open_parts" = some (.ref a_open_parts)
  b_open_parts : Binds K d_open_parts ["one", "other"] []
  a_choices : Addr
  d_choices : FuncData
  F_choices : Fun K "choices" "choices" s_choices a_choices d_choices
  m_choices : mg "choices" = some (.ref a_choices)
  b_choices : Binds K d_choices ["total", "some"] []
  a_orders : Addr
  d_orders : FuncData
  F_orders : Fun K "orders" "orders" s_orders a_orders d_orders
  m_orders : mg "orders" = some (.ref a_orders)
  b_orders : Binds K d_orders ["first", "last", "left", "right"] []
  a_ways_of : Addr
  d_ways_of : FuncData
  F_ways_of : Fun K "ways_of" "ways_of" s_ways_of a_ways_of d_ways_of
  m_ways_of : mg "ways_of" = some (.ref a_ways_of)
  b_ways_of : Binds K d_ways_of ["some"] []
  a_ways_many : Addr
  d_ways_many : FuncData
  F_ways_many : Fun K "ways_many" "ways_many" s_ways_many a_ways_many d_ways_many
  m_ways_many : mg "ways_many" = some (.ref a_ways_many)
  b_ways_many : Binds K d_ways_many ["one", "other"] []
  a_look_wish : Addr
  d_look_wish : FuncData
  F_look_wish : Fun K "look_wish" "look_wish" s_look_wish a_look_wish d_look_wish
  m_look_wish : mg "look_wish" = some (.ref a_look_wish)
  b_look_wish : Binds K d_look_wish ["row", "wish"] []
  a_parted : Addr
  d_parted : FuncData
  F_parted : Fun K "parted" "parted" s_parted a_parted d_parted
  m_parted : mg "parted" = some (.ref a_parted)
  b_parted : Binds K d_parted ["row", "place", "state", "option", "calm"] []
  a_next_state : Addr
  d_next_state : FuncData
  F_next_state : Fun K "next_state" "next_state" s_next_state a_next_state d_next_state
  m_next_state : mg "next_state" = some (.ref a_next_state)
  b_next_state : Binds K d_next_state ["row", "place", "state", "option", "calm"] []
  a_next_states : Addr
  d_next_states : FuncData
  F_next_states : Fun K "next_states" "next_states" s_next_states a_next_states d_next_states
  m_next_states : mg "next_states" = some (.ref a_next_states)
  b_next_states : Binds K d_next_states ["row", "place", "state", "options", "calm"] []
  a_endings : Addr
  d_endings : FuncData
  F_endings : Fun K "endings" "endings" s_endings a_endings d_endings
  m_endings : mg "endings" = some (.ref a_endings)
  b_endings : Binds K d_endings ["row", "options", "calm"] []
  a_options_of : Addr
  d_options_of : FuncData
  F_options_of : Fun K "options_of" "options_of" s_options_of a_options_of d_options_of
  m_options_of : mg "options_of" = some (.ref a_options_of)
  b_options_of : Binds K d_options_of ["row", "wish"] []
  a_rows_many : Addr
  d_rows_many : FuncData
  F_rows_many : Fun K "rows_many" "rows_many" s_rows_many a_rows_many d_rows_many
  m_rows_many : mg "rows_many" = some (.ref a_rows_many)
  b_rows_many : Binds K d_rows_many ["row", "wish", "calm"] []
  a_wish_many : Addr
  d_wish_many : FuncData
  F_wish_many : Fun K "wish_many" "wish_many" s_wish_many a_wish_many d_wish_many
  m_wish_many : mg "wish_many" = some (.ref a_wish_many)
  b_wish_many : Binds K d_wish_many ["row", "wish"] []
  a_asked : Addr
  d_asked : FuncData
  F_asked : Fun K "asked" "asked" s_asked a_asked d_asked
  m_asked : mg "asked" = some (.ref a_asked)
  b_asked : Binds K d_asked ["hall", "name", "thing"] []
  a_Hall_dips : Addr
  d_Hall_dips : FuncData
  F_Hall_dips : Fun K "dips" "Hall.dips" s_Hall_dips a_Hall_dips d_Hall_dips
  mt_Hall_dips : Meth K c_Hall "dips" a_Hall_dips
  b_Hall_dips : Binds K d_Hall_dips ["self"] []
  a_free_wish : Addr
  d_free_wish : FuncData
  F_free_wish : Fun K "free_wish" "free_wish" s_free_wish a_free_wish d_free_wish
  m_free_wish : mg "free_wish" = some (.ref a_free_wish)
  b_free_wish : Binds K d_free_wish ["row"] []
  a_futures_many : Addr
  d_futures_many : FuncData
  F_futures_many : Fun K "futures_many" "futures_many" s_futures_many a_futures_many d_futures_many
  m_futures_many : mg "futures_many" = some (.ref a_futures_many)
  b_futures_many : Binds K d_futures_many ["row"] []
  a_Hall_futures : Addr
  d_Hall_futures : FuncData
  F_Hall_futures : Fun K "futures" "Hall.futures" s_Hall_futures a_Hall_futures d_Hall_futures
  mt_Hall_futures : Meth K c_Hall "futures" a_Hall_futures
  b_Hall_futures : Binds K d_Hall_futures ["self"] []
  a_Hall_tops : Addr
  d_Hall_tops : FuncData
  F_Hall_tops : Fun K "tops" "Hall.tops" s_Hall_tops a_Hall_tops d_Hall_tops
  mt_Hall_tops : Meth K c_Hall "tops" a_Hall_tops
  b_Hall_tops : Binds K d_Hall_tops ["self"] []
  a_Hall_deeds : Addr
  d_Hall_deeds : FuncData
  F_Hall_deeds : Fun K "deeds" "Hall.deeds" s_Hall_deeds a_Hall_deeds d_Hall_deeds
  mt_Hall_deeds : Meth K c_Hall "deeds" a_Hall_deeds
  b_Hall_deeds : Binds K d_Hall_deeds ["self"] []
  a_Hall_undo : Addr
  d_Hall_undo : FuncData
  F_Hall_undo : Fun K "undo" "Hall.undo" s_Hall_undo a_Hall_undo d_Hall_undo
  mt_Hall_undo : Meth K c_Hall "undo" a_Hall_undo
  b_Hall_undo : Binds K d_Hall_undo ["self"] []
  a_joined_text : Addr
  d_joined_text : FuncData
  F_joined_text : Fun K "joined_text" "joined_text" s_joined_text a_joined_text d_joined_text
  m_joined_text : mg "joined_text" = some (.ref a_joined_text)
  b_joined_text : Binds K d_joined_text ["words"] []
  a_numbers_text : Addr
  d_numbers_text : FuncData
  F_numbers_text : Fun K "numbers_text" "numbers_text" s_numbers_text a_numbers_text d_numbers_text
  m_numbers_text : mg "numbers_text" = some (.ref a_numbers_text)
  b_numbers_text : Binds K d_numbers_text ["numbers"] []
  a_rests_many : Addr
  d_rests_many : FuncData
  F_rests_many : Fun K "rests_many" "rests_many" s_rests_many a_rests_many d_rests_many
  m_rests_many : mg "rests_many" = some (.ref a_rests_many)
  b_rests_many : Binds K d_rests_many ["row"] []
  a_row_text : Addr
  d_row_text : FuncData
  F_row_text : Fun K "row_text" "row_text" s_row_text a_row_text d_row_text
  m_row_text : mg "row_text" = some (.ref a_row_text)
  b_row_text : Binds K d_row_text ["row"] []
  a_bare_answer : Addr
  d_bare_answer : FuncData
  F_bare_answer : Fun K "bare_answer" "bare_answer" s_bare_answer a_bare_answer d_bare_answer
  m_bare_answer : mg "bare_answer" = some (.ref a_bare_answer)
  b_bare_answer : Binds K d_bare_answer ["hall", "name"] []
  a_answered : Addr
  d_answered : FuncData
  F_answered : Fun K "answered" "answered" s_answered a_answered d_answered
  m_answered : mg "answered" = some (.ref a_answered)
  b_answered : Binds K d_answered ["hall", "name", "things"] []
  a_answer : Addr
  d_answer : FuncData
  F_answer : Fun K "answer" "answer" s_answer a_answer d_answer
  m_answer : mg "answer" = some (.ref a_answer)
  b_answer : Binds K d_answer ["hall", "name", "things"] []
  a_count_in : Addr
  d_count_in : FuncData
  F_count_in : Fun K "count_in" "count_in" s_count_in a_count_in d_count_in
  m_count_in : mg "count_in" = some (.ref a_count_in)
  b_count_in : Binds K d_count_in ["part"] []
  a_integer_in : Addr
  d_integer_in : FuncData
  F_integer_in : Fun K "integer_in" "integer_in" s_integer_in a_integer_in d_integer_in
  m_integer_in : mg "integer_in" = some (.ref a_integer_in)
  b_integer_in : Binds K d_integer_in ["part"] []
  a_both_in : Addr
  d_both_in : FuncData
  F_both_in : Fun K "both_in" "both_in" s_both_in a_both_in d_both_in
  m_both_in : mg "both_in" = some (.ref a_both_in)
  b_both_in : Binds K d_both_in ["text"] []
  a_all_or_none : Addr
  d_all_or_none : FuncData
  F_all_or_none : Fun K "all_or_none" "all_or_none" s_all_or_none a_all_or_none d_all_or_none
  m_all_or_none : mg "all_or_none" = some (.ref a_all_or_none)
  b_all_or_none : Binds K d_all_or_none ["found"] []
  a_words_of : Addr
  d_words_of : FuncData
  F_words_of : Fun K "words_of" "words_of" s_words_of a_words_of d_words_of
  m_words_of : mg "words_of" = some (.ref a_words_of)
  b_words_of : Binds K d_words_of ["text"] []
  a_calls_or_none : Addr
  d_calls_or_none : FuncData
  F_calls_or_none : Fun K "calls_or_none" "calls_or_none" s_calls_or_none a_calls_or_none d_calls_or_none
  m_calls_or_none : mg "calls_or_none" = some (.ref a_calls_or_none)
  b_calls_or_none : Binds K d_calls_or_none ["text"] []
  a_one_in : Addr
  d_one_in : FuncData
  F_one_in : Fun K "one_in" "one_in" s_one_in a_one_in d_one_in
  m_one_in : mg "one_in" = some (.ref a_one_in)
  b_one_in : Binds K d_one_in ["found"] []
  a_row_or_none : Addr
  d_row_or_none : FuncData
  F_row_or_none : Fun K "row_or_none" "row_or_none" s_row_or_none a_row_or_none d_row_or_none
  m_row_or_none : mg "row_or_none" = some (.ref a_row_or_none)
  b_row_or_none : Binds K d_row_or_none ["text"] []
  a_wish_or_none : Addr
  d_wish_or_none : FuncData
  F_wish_or_none : Fun K "wish_or_none" "wish_or_none" s_wish_or_none a_wish_or_none d_wish_or_none
  m_wish_or_none : mg "wish_or_none" = some (.ref a_wish_or_none)
  b_wish_or_none : Binds K d_wish_or_none ["text"] []
  a_arguments_in : Addr
  d_arguments_in : FuncData
  F_arguments_in : Fun K "arguments_in" "arguments_in" s_arguments_in a_arguments_in d_arguments_in
  m_arguments_in : mg "arguments_in" = some (.ref a_arguments_in)
  b_arguments_in : Binds K d_arguments_in ["name", "text"] []
  a_request_in : Addr
  d_request_in : FuncData
  F_request_in : Fun K "request_in" "request_in" s_request_in a_request_in d_request_in
  m_request_in : mg "request_in" = some (.ref a_request_in)
  b_request_in : Binds K d_request_in ["line"] []
  a_requests_in : Addr
  d_requests_in : FuncData
  F_requests_in : Fun K "requests_in" "requests_in" s_requests_in a_requests_in d_requests_in
  m_requests_in : mg "requests_in" = some (.ref a_requests_in)
  b_requests_in : Binds K d_requests_in ["text"] []
  a_answers : Addr
  d_answers : FuncData
  F_answers : Fun K "answers" "answers" s_answers a_answers d_answers
  m_answers : mg "answers" = some (.ref a_answers)
  b_answers : Binds K d_answers ["text"] []
  a__law_first_right : Addr
  d__law_first_right : FuncData
  F__law_first_right : Fun K "_law_first_right" "_law_first_right" s__law_first_right a__law_first_right d__law_first_right
  m__law_first_right : mg "_law_first_right" = some (.ref a__law_first_right)
  b__law_first_right : Binds K d__law_first_right ["_law_more"] []
  a__law_second_right : Addr
  d__law_second_right : FuncData
  F__law_second_right : Fun K "_law_second_right" "_law_second_right" s__law_second_right a__law_second_right d__law_second_right
  m__law_second_right : mg "_law_second_right" = some (.ref a__law_second_right)
  b__law_second_right : Binds K d__law_second_right ["_law_more"] []
  a__law_third_right : Addr
  d__law_third_right : FuncData
  F__law_third_right : Fun K "_law_third_right" "_law_third_right" s__law_third_right a__law_third_right d__law_third_right
  m__law_third_right : mg "_law_third_right" = some (.ref a__law_third_right)
  b__law_third_right : Binds K d__law_third_right ["_law_more"] []
  a__law_right : Addr
  d__law_right : FuncData
  F__law_right : Fun K "_law_right" "_law_right" s__law_right a__law_right d__law_right
  m__law_right : mg "_law_right" = some (.ref a__law_right)
  b__law_right : Binds K d__law_right ["_law_source"] []
  a__law_stream : Addr
  d__law_stream : FuncData
  F__law_stream : Fun K "_law_stream" "_law_stream" s__law_stream a__law_stream d__law_stream
  m__law_stream : mg "_law_stream" = some (.ref a__law_stream)
  b__law_stream : Binds K d__law_stream ["_law_script", "_law_k"] []
  a_law : Addr
  d_law : FuncData
  F_law : Fun K "law" "law" s_law a_law d_law
  m_law : mg "law" = some (.ref a_law)
  b_law : Binds K d_law ["_law_script"] []
  m_tops_rows : mg "tops_rows" = some (.ref a_tops)
  m_dips_rows : mg "dips_rows" = some (.ref a_dips)
  m_run_calling : mg "run_calling" = some (.ref a_run)
  n_list : mg "list" = none
  n_enumerate : mg "enumerate" = none
  n_isinstance : mg "isinstance" = none
  n_tuple : mg "tuple" = none
  n_len : mg "len" = none
  n_zip : mg "zip" = none
  n_all : mg "all" = none
  n_str : mg "str" = none
  n_bool : mg "bool" = none
  n_int : mg "int" = none
  n_LookupError : mg "LookupError" = none
  n_sorted : mg "sorted" = none
  n_OverflowError : mg "OverflowError" = none
  n_ValueError : mg "ValueError" = none
  n_range : mg "range" = none
  n_RuntimeError : mg "RuntimeError" = none
  n_dict : mg "dict" = none
  n_sum : mg "sum" = none
  n_set : mg "set" = none
  n_abs : mg "abs" = none
  c_NoPerson : Addr
  cc_NoPerson : Cls K "NoPerson" c_NoPerson
  m_NoPerson : mg "NoPerson" = some (.ref c_NoPerson)
  c_NoPlace : Addr
  cc_NoPlace : Cls K "NoPlace" c_NoPlace
  m_NoPlace : mg "NoPlace" = some (.ref c_NoPlace)
  c_Full : Addr
  cc_Full : Cls K "Full" c_Full
  m_Full : mg "Full" = some (.ref c_Full)
  c_OtherPeople : Addr
  cc_OtherPeople : Cls K "OtherPeople" c_OtherPeople
  m_OtherPeople : mg "OtherPeople" = some (.ref c_OtherPeople)
  c_Barred : Addr
  cc_Barred : Cls K "Barred" c_Barred
  m_Barred : mg "Barred" = some (.ref c_Barred)
  c_BadLine : Addr
  cc_BadLine : Cls K "BadLine" c_BadLine
  m_BadLine : mg "BadLine" = some (.ref c_BadLine)
  oc_NoPerson : OxC K "LookupError.__new__" tl_LookupError c_NoPerson
  no_NoPerson : PySem.W.findIn K (.ref c_NoPerson) "person" = some none
  fi_NoPerson : Addr
  fd_NoPerson : FuncData
  Fi_NoPerson : Fun K "__init__" "NoPerson.__init__" si_NoPerson fi_NoPerson fd_NoPerson
  iC_NoPerson : PySem.W.findIn K (.ref c_NoPerson) "__init__" = some (some (.ref fi_NoPerson))
  ti_NoPerson : PySem.W.typeIn K (.ref fi_NoPerson) = some (.type "function")
  bi_NoPerson : Binds K fd_NoPerson ["self", "person"] []
  oc_NoPlace : OxC K "LookupError.__new__" tl_LookupError c_NoPlace
  no_NoPlace : PySem.W.findIn K (.ref c_NoPlace) "place" = some none
  fi_NoPlace : Addr
  fd_NoPlace : FuncData
  Fi_NoPlace : Fun K "__init__" "NoPlace.__init__" si_NoPlace fi_NoPlace fd_NoPlace
  iC_NoPlace : PySem.W.findIn K (.ref c_NoPlace) "__init__" = some (some (.ref fi_NoPlace))
  ti_NoPlace : PySem.W.typeIn K (.ref fi_NoPlace) = some (.type "function")
  bi_NoPlace : Binds K fd_NoPlace ["self", "place"] []
  oc_Full : OxC K "OverflowError.__new__" tl_OverflowError c_Full
  no_Full : PySem.W.findIn K (.ref c_Full) "many" = some none
  fi_Full : Addr
  fd_Full : FuncData
  Fi_Full : Fun K "__init__" "Full.__init__" si_Full fi_Full fd_Full
  iC_Full : PySem.W.findIn K (.ref c_Full) "__init__" = some (some (.ref fi_Full))
  ti_Full : PySem.W.typeIn K (.ref fi_Full) = some (.type "function")
  bi_Full : Binds K fd_Full ["self", "many"] []
  oc_OtherPeople : OxC K "ValueError.__new__" tl_ValueError c_OtherPeople
  no_OtherPeople : PySem.W.findIn K (.ref c_OtherPeople) "many" = some none
  fi_OtherPeople : Addr
  fd_OtherPeople : FuncData
  Fi_OtherPeople : Fun K "__init__" "OtherPeople.__init__" si_OtherPeople fi_OtherPeople fd_OtherPeople
  iC_OtherPeople : PySem.W.findIn K (.ref c_OtherPeople) "__init__" = some (some (.ref fi_OtherPeople))
  ti_OtherPeople : PySem.W.typeIn K (.ref fi_OtherPeople) = some (.type "function")
  bi_OtherPeople : Binds K fd_OtherPeople ["self", "many"] []
  oc_Barred : OxC K "RuntimeError.__new__" tl_RuntimeError c_Barred
  no_Barred : PySem.W.findIn K (.ref c_Barred) "reason" = some none
  fi_Barred : Addr
  fd_Barred : FuncData
  Fi_Barred : Fun K "__init__" "Barred.__init__" si_Barred fi_Barred fd_Barred
  iC_Barred : PySem.W.findIn K (.ref c_Barred) "__init__" = some (some (.ref fi_Barred))
  ti_Barred : PySem.W.typeIn K (.ref fi_Barred) = some (.type "function")
  bi_Barred : Binds K fd_Barred ["self", "reason"] []
  oc_BadLine : OxC K "ValueError.__new__" tl_ValueError c_BadLine
  no_BadLine : PySem.W.findIn K (.ref c_BadLine) "at" = some none
  fi_BadLine : Addr
  fd_BadLine : FuncData
  Fi_BadLine : Fun K "__init__" "BadLine.__init__" si_BadLine fi_BadLine fd_BadLine
  iC_BadLine : PySem.W.findIn K (.ref c_BadLine) "__init__" = some (some (.ref fi_BadLine))
  ti_BadLine : PySem.W.typeIn K (.ref fi_BadLine) = some (.type "function")
  bi_BadLine : Binds K fd_BadLine ["self", "at"] []
  vB_LookupError : PySem.W.findCls K (.type "LookupError") (.type "type") "__init__" = some (.val (.builtin "LookupError.__init__"))
  vB_OverflowError : PySem.W.findCls K (.type "OverflowError") (.type "type") "__init__" = some (.val (.builtin "OverflowError.__init__"))
  vB_ValueError : PySem.W.findCls K (.type "ValueError") (.type "type") "__init__" = some (.val (.builtin "ValueError.__init__"))
  vB_RuntimeError : PySem.W.findCls K (.type "RuntimeError") (.type "type") "__init__" = some (.val (.builtin "RuntimeError.__init__"))
  et : etB K CsL UsL = true
  t_MOST_PEOPLE : Tok
  c_MOST_PEOPLE : mg "MOST_PEOPLE" = some (.int 16 t_MOST_PEOPLE)
  t_ORDER : Tok
  c_ORDER : mg "ORDER" = some (.str "order" t_ORDER)
  t_CHANGE : Tok
  c_CHANGE : mg "CHANGE" = some (.str "change" t_CHANGE)
  t_RUN_leading : Tok
  c_RUN_leading : mg "RUN_leading" = some (.str "run" t_RUN_leading)
  t_BLANK : Tok
  c_BLANK : mg "BLANK" = some (.str " " t_BLANK)
  t_EMPTY : Tok
  c_EMPTY : mg "EMPTY" = some (.str "-" t_EMPTY)
  a_SIZES : Addr
  c_SIZES : mg "SIZES" = some (.ref a_SIZES)
  q_SIZES : DKeys K w a_SIZES ["call", "run", "go", "tell", "come", "leave"]
  t_MOST_DIGITS : Tok
  c_MOST_DIGITS : mg "MOST_DIGITS" = some (.int 50 t_MOST_DIGITS)
  t_DIGITS : Tok
  c_DIGITS : mg "DIGITS" = some (.str "0123456789" t_DIGITS)
  t_MINUS : Tok
  c_MINUS : mg "MINUS" = some (.str "-" t_MINUS)
  t_OPEN : Tok
  c_OPEN : mg "OPEN" = some (.str "?" t_OPEN)
  a_WITH_PERSON : Addr
  c_WITH_PERSON : mg "WITH_PERSON" = some (.ref a_WITH_PERSON)
  q_WITH_PERSON : TupK K a_WITH_PERSON ["call", "leave"]
  a_WITH_BOTH : Addr
  c_WITH_BOTH : mg "WITH_BOTH" = some (.ref a_WITH_BOTH)
  q_WITH_BOTH : TupK K a_WITH_BOTH ["tell", "come"]
  a_WITH_ROW : Addr
  c_WITH_ROW : mg "WITH_ROW" = some (.ref a_WITH_ROW)
  q_WITH_ROW : TupK K a_WITH_ROW ["go", "far", "ways", "bar"]
  t_RUN_desklines : Tok
  c_RUN_desklines : mg "RUN_desklines" = some (.str "run" t_RUN_desklines)
  t_WISH : Tok
  c_WISH : mg "WISH" = some (.str "wish" t_WISH)
  a_ALONE : Addr
  c_ALONE : mg "ALONE" = some (.ref a_ALONE)
  q_ALONE : TupK K a_ALONE ["undo", "show", "tops", "dips", "futures", "rests"]
section
variable {P : Program} {w : World} {K : PySem.W.Frag} {mg : Str → Option Value} {base : Heap}
theorem oki_NoPerson (T : Tx K mg w) : FnOk P w K mg base CX0 1 T.fi_NoPerson T.fd_NoPerson ["self", "person"] (spIni K "LookupError.__new__" tl_LookupError "person") := by
  refine T.Fi_NoPerson.ok sci_NoPerson (fun vs H Q E h => ?_) (fun cdv A outer s H vs Q E hr h => ⟨_, pss_cons (ps_expr (pe_bini DLX.bs_L (by rfl) T.n_LookupError (by decide +kernel) (by decide) (by decide) T.vB_LookupError (pa_cons (pv 0) (pa_cons (pv 1) pa_nil)))) (pss_one (ps_fld DLX.bs_L (pv 0) (pv 1))), ini_run h rfl⟩)
  obtain ⟨a, C, v, rfl, _⟩ := h
  rfl
theorem ox_NoPerson (T : Tx K mg w) : OxI P w K mg base "LookupError.__new__" tl_LookupError T.c_NoPerson "person" := ⟨T.oc_NoPerson, T.no_NoPerson, T.fi_NoPerson, T.fd_NoPerson, T.iC_NoPerson, T.ti_NoPerson, oki_NoPerson T, T.bi_NoPerson⟩
theorem oki_NoPlace (T : Tx K mg w) : FnOk P w K mg base CX0 1 T.fi_NoPlace T.fd_NoPlace ["self", "place"] (spIni K "LookupError.__new__" tl_LookupError "place") := by
  refine T.Fi_NoPlace.ok sci_NoPlace (fun vs H Q E h => ?_) (fun cdv A outer s H vs Q E hr h => ⟨_, pss_cons (ps_expr (pe_bini DLX.bs_L (by rfl) T.n_LookupError (by decide +kernel) (by decide) (by decide) T.vB_LookupError (pa_cons (pv 0) (pa_cons (pv 1) pa_nil)))) (pss_one (ps_fld DLX.bs_L (pv 0) (pv 1))), ini_run h rfl⟩)
  obtain ⟨a, C, v, rfl, _⟩ := h
  rfl
theorem ox_NoPlace (T : Tx K mg w) : OxI P w K mg base "LookupError.__new__" tl_LookupError T.c_NoPlace "place" := ⟨T.oc_NoPlace, T.no_NoPlace, T.fi_NoPlace, T.fd_NoPlace, T.iC_NoPlace, T.ti_NoPlace, oki_NoPlace T, T.bi_NoPlace⟩
theorem oki_Full (T : Tx K mg w) : FnOk P w K mg base CX0 1 T.fi_Full T.fd_Full ["self", "many"] (spIni K "OverflowError.__new__" tl_OverflowError "many") := by
  refine T.Fi_Full.ok sci_Full (fun vs H Q E h => ?_) (fun cdv A outer s H vs Q E hr h => ⟨_, pss_cons (ps_expr (pe_bini DLX.bs_O (by rfl) T.n_OverflowError (by decide +kernel) (by decide) (by decide) T.vB_OverflowError (pa_cons (pv 0) (pa_cons (pv 1) pa_nil)))) (pss_one (ps_fld DLX.bs_O (pv 0) (pv 1))), ini_run h rfl⟩)
  obtain ⟨a, C, v, rfl, _⟩ := h
  rfl
theorem ox_Full (T : Tx K mg w) : OxI P w K mg base "OverflowError.__new__" tl_OverflowError T.c_Full "many" := ⟨T.oc_Full, T.no_Full, T.fi_Full, T.fd_Full, T.iC_Full, T.ti_Full, oki_Full T, T.bi_Full⟩
theorem oki_OtherPeople (T : Tx K mg w) : FnOk P w K mg base CX0 1 T.fi_OtherPeople T.fd_OtherPeople ["self", "many"] (spIni K "ValueError.__new__" tl_ValueError "many") := by
  refine T.Fi_OtherPeople.ok sci_OtherPeople (fun vs H Q E h => ?_) (fun cdv A outer s H vs Q E hr h => ⟨_, pss_cons (ps_expr (pe_bini DLX.bs_V (by rfl) T.n_ValueError (by decide +kernel) (by decide) (by decide) T.vB_ValueError (pa_cons (pv 0) (pa_cons (pv 1) pa_nil)))) (pss_one (ps_fld DLX.bs_V (pv 0) (pv 1))), ini_run h rfl⟩)
  obtain ⟨a, C, v, rfl, _⟩ := h
  rfl
theorem ox_OtherPeople (T : Tx K mg w) : OxI P w K mg base "ValueError.__new__" tl_ValueError T.c_OtherPeople "many" := ⟨T.oc_OtherPeople, T.no_OtherPeople, T.fi_OtherPeople, T.fd_OtherPeople, T.iC_OtherPeople, T.ti_OtherPeople, oki_OtherPeople T, T.bi_OtherPeople⟩
theorem oki_Barred (T : Tx K mg w) : FnOk P w K mg base CX0 1 T.fi_Barred T.fd_Barred ["self", "reason"] (spIni K "RuntimeError.__new__" tl_RuntimeError "reason") := by
  refine T.Fi_Barred.ok sci_Barred (fun vs H Q E h => ?_) (fun cdv A outer s H vs Q E hr h => ⟨_, pss_cons (ps_expr (pe_bini DLX.bs_R (by rfl) T.n_RuntimeError (by decide +kernel) (by decide) (by decide) T.vB_RuntimeError (pa_cons (pv 0) (pa_cons (pv 1) pa_nil)))) (pss_one (ps_fld DLX.bs_R (pv 0) (pv 1))), ini_run h rfl⟩)
  obtain ⟨a, C, v, rfl, _⟩ := h
  rfl
theorem ox_Barred (T : Tx K mg w) : OxI P w K mg base "RuntimeError.__new__" tl_RuntimeError T.c_Barred "reason" := ⟨T.oc_Barred, T.no_Barred, T.fi_Barred, T.fd_Barred, T.iC_Barred, T.ti_Barred, oki_Barred T, T.bi_Barred⟩
theorem oki_BadLine (T : Tx K mg w) : FnOk P w K mg base CX0 1 T.fi_BadLine T.fd_BadLine ["self", "at"] (spIni K "ValueError.__new__" tl_ValueError "at") := by
  refine T.Fi_BadLine.ok sci_BadLine (fun vs H Q E h => ?_) (fun cdv A outer s H vs Q E hr h => ⟨_, pss_cons (ps_expr (pe_bini DLX.bs_V (by rfl) T.n_ValueError (by decide +kernel) (by decide) (by decide) T.vB_ValueError (pa_cons (pv 0) (pa_cons (pv 1) pa_nil)))) (pss_one (ps_fld DLX.bs_V (pv 0) (pv 1))), ini_run h rfl⟩)
  obtain ⟨a, C, v, rfl, _⟩ := h
  rfl
theorem ox_BadLine (T : Tx K mg w) : OxI P w K mg base "ValueError.__new__" tl_ValueError T.c_BadLine "at" := ⟨T.oc_BadLine, T.no_BadLine, T.fi_BadLine, T.fd_BadLine, T.iC_BadLine, T.ti_BadLine, oki_BadLine T, T.bi_BadLine⟩
theorem oki_Hall (T : Tx K mg w) : FnOk P w K mg base CX0 1 T.fi_Hall T.fd_Hall ["self", "row"] (spHI K gi_Hall) := by
  refine T.Fi_Hall.ok sci_Hall (fun vs H Q E h => ?_) (fun cdv A outer s H vs Q E hr h => ⟨_, pss_cons (ps_fld (pv 0) (pe_lst (pa_cons (pe_callTy call_tupleU (by rfl) T.n_tuple (by decide +kernel) (pa_cons (pv 1) pa_nil)) pa_nil)) (by rfl)) (pss_one (ps_fld (pv 0) (pe_lst pa_nil) (by rfl))), run_HI (de_cb sn_tuple (da_cons (do_e de_v) da_nil)) h⟩)
  obtain ⟨_, _, _, _, _, _, _, _, rfl, _⟩ := h
  rfl
theorem ok__law_folded (T : Tx K mg w) : FnOk P w K mg base CX0 1 T.a__law_folded T.d__law_folded ["_law_script", "_law_most"] (spF K 2 F__law_folded) := by
    refine T.F__law_folded.ok sc__law_folded (fun vs H Q E h => h.1) (fun cdv A outer s H vs Q E hr h => ?_)
    have nd := sc__law_folded.nd
    exact ⟨_, (pss_cons (ps_set (i := 2) nd rfl (Or.inl rfl) (pe_orT (pe_callTy call_listU (by rfl) T.n_list (by decide +kernel) (pa_cons (pe_slice sl_U (pv 0) po_none (po_some (pv 1))) pa_nil)) (pe_one (pe_lst (pa_cons pe_int pa_nil))))) (pss_cons (ps_for PassesOwn.never rfl (pi_enumU (by rfl) T.n_enumerate (pa_cons (pe_slice sl_U (pv 0) (po_some (pv 1)) (po_some pe_int)) pa_nil)) (pg_tup rfl (pgs_cons (pg_name (i := 3) nd rfl (Or.inl rfl)) (pgs_cons (pg_name (i := 4) nd rfl (Or.inl rfl)) pgs_nil))) (pss_one (ps_asg (pe_op op_addU (pe_ix ix_seq (pv 2) (pe_op op_mod (pv 3) (pv 1)) (fun _ _ => rfl)) (pe_op op_mulT (pv 4) (pe_op op_addU (pv 3) pe_int))) (pg_sub (pv 2) (pe_op op_mod (pv 3) (pv 1)) set_list)))) (pss_one (ps_ret (pv 2))))),
      run_F (N := N__law_folded) (ds_seq (ds_setO (i := 2) (df_or (df_cb sn_list (da_cons (do_e (de_sl sn_sliceU (do_e de_v) dp_no (dp_so de_v))) da_nil)) (df_lst (da_cons (do_e de_int) da_nil)))) (ds_seq (ds_for (ws := [3, 4]) (di_enum (da_cons (do_e (de_sl sn_sliceU (do_e de_v) (dp_so de_v) (dp_so de_int))) da_nil)) (dg_tup (dgs_cons (dg_name (by decide)) (dgs_cons (dg_name (by decide)) dgs_nil))) (ds_putIx (de_op sn_addU (do_e (de_op sn_ix do_v (do_e (de_op sn_mod (do_e de_v) (do_e de_v))))) (do_e (de_op sn_mulV (do_e de_v) (do_e (de_op sn_addU (do_e de_v) (do_e de_int)))))) (de_op sn_mod (do_e de_v) (do_e de_v)))) ds_retO)) (by decide) h⟩
theorem ok__law_draw (T : Tx K mg w) : ∀ n : Nat, FnOk P w K mg base CX0 (0 + n) T.a__law_draw T.d__law_draw ["_law_source", "_law_bound"] (spB K 2 (F__law_draw n))
  | 0 => fn_noneB rfl
  | n + 1 => by
    have ih := ok__law_draw T n
    have hFl := Fl__law_draw n
    refine T.F__law_draw.ok sc__law_draw (fun vs H Q E h => h.1) (fun cdv A outer s H vs Q E hr h => ?_)
    have nd := sc__law_draw.nd
    exact ⟨_, (pss_cons (ps_if (pt_cmpR op_gt (pe_ix ix_seq (pv 0) pe_int (fun _ _ => rfl)) pe_int (nomark _)) (pss_cons (ps_set (i := 4) nd rfl (Or.inl rfl) (pe_op op_mod (pe_ix ix_seq (pv 0) pe_int (fun _ _ => rfl)) (pv 1))) (pss_cons (ps_asg (pe_op op_fdivW (pe_ix ix_seq (pv 0) pe_int (fun _ _ => rfl)) (pv 1)) (pg_sub (pv 0) pe_int set_list)) (pss_one (ps_ret (pv 4))))) pss_nil) (pss_cons (ps_if (pt_cmpR op_gt (pv 1) (pe_op op_pow pe_int pe_int) (nomark _)) (pss_one (ps_ret (pe_op op_mod (pe_op op_addU (pe_call ih (hr.mono (Nat.le_refl _)) (by rfl) T.m__law_draw T.F__law_draw.kp T.b__law_draw .nil pass0 (pa_cons (pv 0) (pa_cons (pe_op op_pow pe_int pe_int) pa_nil))) (pe_op op_mulT (pe_op op_pow pe_int pe_int) (pe_call ih (hr.mono (Nat.le_refl _)) (by rfl) T.m__law_draw T.F__law_draw.kp T.b__law_draw .nil pass0 (pa_cons (pv 0) (pa_cons (pe_op op_addU (pe_op op_fdivW (pe_op op_sub (pv 1) pe_int) (pe_op op_pow pe_int pe_int)) pe_int) pa_nil))))) (pv 1)))) pss_nil) (pss_cons (ps_asg (pe_op op_addU (pe_ix ix_seq (pv 0) pe_int (fun _ _ => rfl)) pe_int) (pg_sub (pv 0) pe_int set_list)) (pss_cons (ps_set (i := 2) nd rfl (Or.inl rfl) (pe_op op_mod (pe_op op_mulT (pe_op op_addU (pe_ix ix_seq (pv 0) pe_int (fun _ _ => rfl)) (pe_op op_mulT pe_int (pe_ix ix_seq (pv 0) pe_int (fun _ _ => rfl)))) (pe_op op_addU pe_int (pe_ix ix_seq (pv 0) pe_int (fun _ _ => rfl)))) pe_int)) (pss_cons (ps_set (i := 3) nd rfl (Or.inl rfl) (pe_op op_mod (pe_op op_mulT (pe_op op_addU (pe_op op_addU (pv 2) (pe_ix ix_seq (pv 0) pe_int (fun _ _ => rfl))) (pe_op op_fdivW (pe_ix ix_seq (pv 0) pe_int (fun _ _ => rfl)) pe_int)) (pe_op op_addU (pe_op op_mod (pv 2) pe_int) pe_int)) pe_int)) (pss_one (ps_ret (pe_op op_mod (pe_op op_fdivW (pe_op op_mod (pe_op op_addU (pe_op op_mulT (pv 3) pe_int) (pv 2)) pe_int) pe_int) (pv 1))))))))),
      run_B (N := N__law_draw) (ds_seq (ds_if (dt_test (de_op sn_gt (do_e (de_op sn_ix do_v (do_e de_int))) (do_e de_int))) (ds_seq (ds_set (i := 4) (de_op sn_mod (do_e (de_op sn_ix do_v (do_e de_int))) (do_e de_v))) (ds_seq (ds_putIx (de_op sn_fdiv (do_e (de_op sn_ix do_v (do_e de_int))) (do_e de_v)) de_int) (ds_ret de_v))) ds_next) (ds_seq (ds_if (dt_test (de_op sn_gt (do_e de_v) (do_e (de_op sn_pow (do_e de_int) (do_e de_int))))) (ds_ret (de_op sn_mod (do_e (de_op sn_addU (do_e (de_callB hFl (da_cons (do_e (de_op sn_pow (do_e de_int) (do_e de_int))) da_nil))) (do_e (de_op sn_mulV (do_e (de_op sn_pow (do_e de_int) (do_e de_int))) (do_e (de_callB hFl (da_cons (do_e (de_op sn_addU (do_e (de_op sn_fdiv (do_e (de_op sn_sub (do_e de_v) (do_e de_int))) (do_e (de_op sn_pow (do_e de_int) (do_e de_int))))) (do_e de_int))) da_nil))))))) (do_e de_v))) ds_next) (ds_seq (ds_putIx (de_op sn_addU (do_e (de_op sn_ix do_v (do_e de_int))) (do_e de_int)) de_int) (ds_seq (ds_set (i := 2) (de_op sn_mod (do_e (de_op sn_mulV (do_e (de_op sn_addU (do_e (de_op sn_ix do_v (do_e de_int))) (do_e (de_op sn_mulV (do_e de_int) (do_e (de_op sn_ix do_v (do_e de_int))))))) (do_e (de_op sn_addU (do_e de_int) (do_e (de_op sn_ix do_v (do_e de_int))))))) (do_e de_int))) (ds_seq (ds_set (i := 3) (de_op sn_mod (do_e (de_op sn_mulV (do_e (de_op sn_addU (do_e (de_op sn_addU (do_e de_v) (do_e (de_op sn_ix do_v (do_e de_int))))) (do_e (de_op sn_fdiv (do_e (de_op sn_ix do_v (do_e de_int))) (do_e de_int))))) (do_e (de_op sn_addU (do_e (de_op sn_mod (do_e de_v) (do_e de_int))) (do_e de_int))))) (do_e de_int))) (ds_ret (de_op sn_mod (do_e (de_op sn_fdiv (do_e (de_op sn_mod (do_e (de_op sn_addU (do_e (de_op sn_mulV (do_e de_v) (do_e de_int))) (do_e de_v))) (do_e de_int))) (do_e de_int))) (do_e de_v)))))))) (by decide) h⟩
theorem ok__law_same (T : Tx K mg w) : ∀ n : Nat, FnOk P w K mg base CX0 (0 + n) T.a__law_same T.d__law_same ["_law_found", "_law_due"] (spP K 2 (F__law_same n))
  | 0 => fn_noneP rfl
  | n + 1 => by
    have ih := ok__law_same T n
    have hFl := Fl__law_same n
    refine T.F__law_same.ok sc__law_same (fun vs H Q E h => h.1) (fun cdv A outer s H vs Q E hr h => ?_)
    have nd := sc__law_same.nd
    exact ⟨_, (pss_cons (ps_if (pt_val (pe_callB call_isiT (by rfl) T.n_isinstance (by decide +kernel) (pa_cons (pv 1) (pa_cons (pe_tup (pa_cons (pe_bltn (v := .ty "list") (by rfl) T.n_list (by decide +kernel) rfl) (pa_cons (pe_bltn (v := .ty "tuple") (by rfl) T.n_tuple (by decide +kernel) rfl) pa_nil))) pa_nil)))) (pss_cons (ps_if (PW.pt (pw_or (pt_cmpR (op_neU hr) (pe_callB call_isi (by rfl) T.n_isinstance (by decide +kernel) (pa_cons (pv 0) (pa_cons (pe_bltn (v := .ty "list") (by rfl) T.n_list (by decide +kernel) rfl) pa_nil))) (pe_callB call_isi (by rfl) T.n_isinstance (by decide +kernel) (pa_cons (pv 1) (pa_cons (pe_bltn (v := .ty "list") (by rfl) T.n_list (by decide +kernel) rfl) pa_nil))) (nomark _)) (pw_or1 (pt_cmpR (op_neU hr) (pe_callB call_isi (by rfl) T.n_isinstance (by decide +kernel) (pa_cons (pv 0) (pa_cons (pe_bltn (v := .ty "tuple") (by rfl) T.n_tuple (by decide +kernel) rfl) pa_nil))) (pe_callB call_isi (by rfl) T.n_isinstance (by decide +kernel) (pa_cons (pv 1) (pa_cons (pe_bltn (v := .ty "tuple") (by rfl) T.n_tuple (by decide +kernel) rfl) pa_nil))) (nomark _))))) (pss_one (ps_ret pe_bl)) pss_nil) (pss_one (ps_ret (pe_and (pe_cmpR (op_eqU hr) (pe_callB call_lenU (by rfl) T.n_len (by decide +kernel) (pa_cons (pv 0) pa_nil)) (pe_callB call_lenU (by rfl) T.n_len (by decide +kernel) (pa_cons (pv 1) pa_nil)) (nomark _)) (pe_one (pe_callB (cr_all rfl) (by rfl) T.n_all (by decide +kernel) (pa_cons (pe_lc (own := [("_law_mine", 2), ("_law_its", 3)]) (by rfl) nd (pi_zipU (by rfl) T.n_zip (pa_cons (pv 0) (pa_cons (pv 1) pa_nil))) (blkOk_by (own := [("_law_mine", 2), ("_law_its", 3)]) (N := N__law_same) (sc := defScope s__law_same) (by decide +kernel)) (fun _ _ _ _ _ => (pg_tup rfl (pgs_cons (pg_name (i := 2) nd rfl (Or.inl rfl)) (pgs_cons (pg_name (i := 3) nd rfl (Or.inl rfl)) pgs_nil)))) (fun _ _ _ _ _ => pts_nil) (fun _ _ _ _ _ => (pe_call ih (hr.mono (Nat.le_refl _)) (by rfl) T.m__law_same T.F__law_same.kp T.b__law_same .nil pass0 (pa_cons (pv 2) (pa_cons (pv 3) pa_nil))))) pa_nil))))))) pss_nil) (pss_cons (ps_if (PW.pt (pw_or (pt_cmpR op_isU (pv 1) pe_non (nomark _)) (pw_or1 (pt_val (pe_callB call_isiT (by rfl) T.n_isinstance (by decide +kernel) (pa_cons (pv 1) (pa_cons (pe_tup (pa_cons (pe_bltn (v := .ty "bool") (by rfl) T.n_bool (by decide +kernel) rfl) (pa_cons (pe_bltn (v := .ty "str") (by rfl) T.n_str (by decide +kernel) rfl) pa_nil))) pa_nil))))))) (pss_one (ps_ret (pe_and (pe_cmpR (op_eqU hr) (pv 0) (pv 1) (nomark _)) (pe_and (pe_cmpR (op_eqU hr) (pe_callB call_isi (by rfl) T.n_isinstance (by decide +kernel) (pa_cons (pv 0) (pa_cons (pe_bltn (v := .ty "bool") (by rfl) T.n_bool (by decide +kernel) rfl) pa_nil))) (pe_callB call_isi (by rfl) T.n_isinstance (by decide +kernel) (pa_cons (pv 1) (pa_cons (pe_bltn (v := .ty "bool") (by rfl) T.n_bool (by decide +kernel) rfl) pa_nil))) (nomark _)) (pe_one (pe_cmpR (op_eqU hr) (pe_cmpR op_isU (pv 0) pe_non (nomark _)) (pe_cmpR op_isU (pv 1) pe_non (nomark _)) (nomark _))))))) pss_nil) (pss_one (ps_ret (pe_and (pe_callB call_isi (by rfl) T.n_isinstance (by decide +kernel) (pa_cons (pv 0) (pa_cons (pe_bltn (v := .ty "int") (by rfl) T.n_int (by decide +kernel) rfl) pa_nil))) (pe_and (pe_not (pe_callB call_isi (by rfl) T.n_isinstance (by decide +kernel) (pa_cons (pv 0) (pa_cons (pe_bltn (v := .ty "bool") (by rfl) T.n_bool (by decide +kernel) rfl) pa_nil)))) (pe_one (pe_cmpR (op_eqU hr) (pv 0) (pv 1) (nomark _))))))))),
      run_P (N := N__law_same) (ds_seq (ds_if (dt_B (de_isiT (Ts := ["list", "tuple"]) (by decide) (do_e de_v))) (ds_seq (ds_if (dt_or (dt_test (de_op sn_neW (do_e (de_isi (do_e de_v))) (do_e (de_isi (do_e de_v))))) (dt_test (de_op sn_neW (do_e (de_isi (do_e de_v))) (do_e (de_isi (do_e de_v)))))) (ds_ret de_bl) ds_next) (ds_ret (de_and (de_op sn_eqW (do_e (de_cb sn_len (da_cons (do_e de_v) da_nil))) (do_e (de_cb sn_len (da_cons (do_e de_v) da_nil)))) (de_cb sn_all (da_cons (do_e (de_l (df_lc (di_zip (da_cons (do_e de_v) (da_cons (do_e de_v) da_nil))) (dg_tup (dgs_cons (dg_name (by decide)) (dgs_cons (dg_name (by decide)) dgs_nil))) dt_yes (de_call hFl (da_cons (do_e de_v) (da_cons (do_e de_v) da_nil)))))) da_nil))))) ds_next) (ds_seq (ds_if (dt_or (dt_test (de_op sn_is (do_e de_v) (do_e de_non))) (dt_B (de_isiT (Ts := ["bool", "str"]) (by decide) (do_e de_v)))) (ds_ret (de_and (de_op sn_eqW (do_e de_v) (do_e de_v)) (de_and (de_op sn_eqW (do_e (de_isi (do_e de_v))) (do_e (de_isi (do_e de_v)))) (de_op sn_eqW (do_e (de_op sn_is (do_e de_v) (do_e de_non))) (do_e (de_op sn_is (do_e de_v) (do_e de_non))))))) ds_next) (ds_ret (de_and (de_isi (do_e de_v)) (de_and (de_not (de_isi (do_e de_v))) (de_op sn_eqW (do_e de_v) (do_e de_v))))))) (by decide) h⟩
theorem ok_Hall_row (T : Tx K mg w) : FnOk P w K mg base CX0 1 T.a_Hall_row T.d_Hall_row ["self"] (spH K 1 F_Hall_row) := by
    refine T.F_Hall_row.ok sc_Hall_row (fun vs H Q E h => h.1) (fun cdv A outer s H vs Q E hr h => ?_)
    have nd := sc_Hall_row.nd
    exact ⟨_, pss_gh (i := 1) (j := 2) ⟨_, rfl, rfl⟩ ⟨_, rfl, rfl⟩ (pss_one (ps_ret (pe_ix ix_seq (pe_fld (pv 0) rfl) (pe_un un_neg pe_int) (fun _ _ => rfl)))),
      run_H0 (N := N_Hall_row) (ds_ret (de_op sn_ix (do_rows T.hc_Hall) (do_e (de_un sn_neg (do_e de_int))))) h⟩
theorem ok_look_person (T : Tx K mg w) : FnOk P w K mg base (L2.CX P w) 3 T.a_look_person T.d_look_person ["row", "person"] (spX K 2 F_look_person) := by
    refine T.F_look_person.okX sc_look_person (fun vs H Q E h => h.1) (fun cdv A outer s H vs Q E hr h => ?_)
    have nd := sc_look_person.nd
    exact ⟨_, (pss_one (ps_if (pt_not (pt_chain op_le op_lt pe_int (pv 1) (pe_callB call_lenU (by rfl) T.n_len (by decide +kernel) (pa_cons (pv 0) pa_nil)))) (pss_one (ps_raise rfl (takes_of rfl rfl rfl rfl) (pmk_ox DLX.bs_L (ox_NoPerson T) (hr.mono (by decide)) (by rfl) T.m_NoPerson (pa_cons (pv 1) pa_nil)))) pss_nil)),
      run_X (N := N_look_person) (ds_if (dt_not (dt_test (de_chain sn_le sn_lt (do_e de_int) (do_e de_v) (do_e (de_cb sn_len (da_cons (do_e de_v) da_nil)))))) (ds_raise T.cc_NoPerson rfl de_v) ds_next) (by decide) h⟩
theorem ok_middle_of (T : Tx K mg w) : FnOk P w K mg base CX0 1 T.a_middle_of T.d_middle_of ["row", "person"] (spP K 2 F_middle_of) := by
    refine T.F_middle_of.ok sc_middle_of (fun vs H Q E h => h.1) (fun cdv A outer s H vs Q E hr h => ?_)
    have nd := sc_middle_of.nd
    exact ⟨_, (pss_cons (ps_if (pt_cmpR op_in_seq (pv 1) (pe_tup (pa_cons pe_int (pa_cons (pe_op op_sub (pe_callB call_lenU (by rfl) T.n_len (by decide +kernel) (pa_cons (pv 0) pa_nil)) pe_int) pa_nil))) (by rfl)) (pss_one (ps_ret (pe_ix ix_seq (pv 0) (pv 1) (fun _ _ => rfl)))) pss_nil) (pss_one (ps_ret (pe_ix ix_seq (pe_callB cr_sortedU (by rfl) T.n_sorted (by decide +kernel) (pa_cons (pe_lst (pa_cons (pe_ix ix_seq (pv 0) (pe_op op_sub (pv 1) pe_int) (fun _ _ => rfl)) (pa_cons (pe_ix ix_seq (pv 0) (pv 1) (fun _ _ => rfl)) (pa_cons (pe_ix ix_seq (pv 0) (pe_op op_addU (pv 1) pe_int) (fun _ _ => rfl)) pa_nil)))) pa_nil)) pe_int (fun _ _ => rfl))))),
      run_P (N := N_middle_of) (ds_seq (ds_if (dt_test (de_op sn_in (do_e de_v) (do_e (de_tup (da_cons (do_e de_int) (da_cons (do_e (de_op sn_sub (do_e (de_cb sn_len (da_cons (do_e de_v) da_nil))) (do_e de_int))) da_nil)))))) (ds_ret (de_op sn_ix (do_e de_v) (do_e de_v))) ds_next) (ds_ret (de_op sn_ix (do_e (de_l (df_cb sn_sorted (da_cons (do_e (de_l (df_lst (da_cons (do_e (de_op sn_ix (do_e de_v) (do_e (de_op sn_sub (do_e de_v) (do_e de_int))))) (da_cons (do_e (de_op sn_ix (do_e de_v) (do_e de_v))) (da_cons (do_e (de_op sn_ix (do_e de_v) (do_e (de_op sn_addU (do_e de_v) (do_e de_int))))) da_nil)))))) da_nil)))) (do_e de_int)))) (by decide) h⟩
theorem ok_called (T : Tx K mg w) : FnOk P w K mg base (L2.CX P w) 4 T.a_called T.d_called ["row", "person"] (spX K 2 F_called) := by
    refine T.F_called.okX sc_called (fun vs H Q E h => h.1) (fun cdv A outer s H vs Q E hr h => ?_)
    have nd := sc_called.nd
    exact ⟨_, (pss_cons (ps_expr (pe_callS (ok_look_person T) (hr.mono (by decide)) (by rfl) T.m_look_person T.F_look_person.kp T.b_look_person (fun σ => passAt (takes_of rfl rfl rfl rfl) σ) (pa_cons (pv 0) (pa_cons (pv 1) pa_nil)))) (pss_cons (ps_set (i := 2) nd rfl (Or.inr rfl) (pe_call (ok_middle_of T) (hr.mono (by decide)) (by rfl) T.m_middle_of T.F_middle_of.kp T.b_middle_of .nil pass0 (pa_cons (pv 0) (pa_cons (pv 1) pa_nil)))) (pss_one (ps_ret (pe_callTy call_tupleU (by rfl) T.n_tuple (by decide +kernel) (pa_cons (pe_lc (own := [("other", 3), ("own", 4)]) (by rfl) nd (pi_enumU (by rfl) T.n_enumerate (pa_cons (pv 0) pa_nil)) (blkOk_by (own := [("other", 3), ("own", 4)]) (N := N_called) (sc := defScope s_called) (by decide +kernel)) (fun _ _ _ _ _ => (pg_tup rfl (pgs_cons (pg_name (i := 3) nd rfl (Or.inl rfl)) (pgs_cons (pg_name (i := 4) nd rfl (Or.inl rfl)) pgs_nil)))) (fun _ _ _ _ _ => pts_nil) (fun _ _ _ _ _ => (pe_ifExp (pt_cmpR (op_eqU hr) (pv 3) (pv 1) (nomark _)) (pv 2) (pv 4)))) pa_nil)))))),
      run_X (N := N_called) (ds_seq (ds_dropX (xd_callX callX_len (da_cons (do_e de_v) (da_cons (do_e de_v) da_nil)))) (ds_seq (ds_set (i := 2) (de_call callP_len (da_cons (do_e de_v) (da_cons (do_e de_v) da_nil)))) (ds_ret (de_cb sn_tuple (da_cons (do_e (de_l (df_lc (di_enum (da_cons (do_e de_v) da_nil)) (dg_tup (dgs_cons (dg_name (by decide)) (dgs_cons (dg_name (by decide)) dgs_nil))) dt_yes (de_if (dt_test (de_op sn_eqW (do_e de_v) (do_e de_v))) de_v de_v)))) da_nil))))) (by decide) h⟩
theorem ok_Hall_call (T : Tx K mg w) : FnOk P w K mg base (L2.CX P w) 5 T.a_Hall_call T.d_Hall_call ["self", "person"] (spH K 2 F_Hall_call) := by
    refine T.F_Hall_call.okX sc_Hall_call (fun vs H Q E h => h.1) (fun cdv A outer s H vs Q E hr h => ?_)
    have nd := sc_Hall_call.nd
    exact ⟨_, pss_gh (i := 2) (j := 3) ⟨_, rfl, rfl⟩ ⟨_, rfl, rfl⟩ (pss_cons (ps_expr (pe_bm PySem.F.plainAttrs_list PySem.F.slot_list_append PySem.F.type_list_append mt_append (pe_fld (pv 0) rfl) (pa_cons (pe_callS (ok_called T) (hr.mono (by decide)) (by rfl) T.m_called T.F_called.kp T.b_called (fun σ => passAt (takes_of rfl rfl rfl rfl) σ) (pa_cons (pe_meth0 (pv 0) T.hc_Hall.k T.mt_Hall_row (ok_Hall_row T) (hr.mono (by decide)) T.b_Hall_row .nil pass0) (pa_cons (pv 1) pa_nil))) pa_nil))) (pss_one (ps_ret (pe_ix ix_seq (pe_meth0 (pv 0) T.hc_Hall.k T.mt_Hall_row (ok_Hall_row T) (hr.mono (by decide)) T.b_Hall_row .nil pass0) (pv 1) (fun _ _ => rfl))))),
      run_H (N := N_Hall_call) (ds_seq (ds_appR T.hc_Hall (xd_callX callX_len (da_cons (do_e (de_methH T.hc_Hall (fun _ _ => rfl) callH0_len da_nil)) (da_cons (do_e de_v) da_nil)))) (ds_ret (de_op sn_ix (do_e (de_methH T.hc_Hall (fun _ _ => rfl) callH0_len da_nil)) (do_e de_v)))) h⟩
theorem ok_Hall___len__ (T : Tx K mg w) : FnOk P w K mg base CX0 1 T.a_Hall___len__ T.d_Hall___len__ ["self"] (spH K 1 F_Hall___len__) := by
    refine T.F_Hall___len__.ok sc_Hall___len__ (fun vs H Q E h => h.1) (fun cdv A outer s H vs Q E hr h => ?_)
    have nd := sc_Hall___len__.nd
    exact ⟨_, pss_gh (i := 1) (j := 2) ⟨_, rfl, rfl⟩ ⟨_, rfl, rfl⟩ (pss_one (ps_ret (pe_callB call_lenU (by rfl) T.n_len (by decide +kernel) (pa_cons (pe_ix ix_seq (pe_fld (pv 0) rfl) (pe_un un_neg pe_int) (fun _ _ => rfl)) pa_nil)))),
      run_H0 (N := N_Hall___len__) (ds_ret (de_cb sn_len (da_cons (do_e (de_op sn_ix (do_rows T.hc_Hall) (do_e (de_un sn_neg (do_e de_int))))) da_nil))) h⟩
theorem ok_Hall_come (T : Tx K mg w) : FnOk P w K mg base (L2.CX P w) 3 T.a_Hall_come T.d_Hall_come ["self", "place", "number"] (spH K 3 F_Hall_come) := by
    refine T.F_Hall_come.okX sc_Hall_come (fun vs H Q E h => h.1) (fun cdv A outer s H vs Q E hr h => ?_)
    have nd := sc_Hall_come.nd
    exact ⟨_, pss_gh (i := 4) (j := 5) ⟨_, rfl, rfl⟩ ⟨_, rfl, rfl⟩ (pss_cons (ps_set (i := 3) nd rfl (Or.inl rfl) (pe_meth0 (pv 0) T.hc_Hall.k T.mt_Hall_row (ok_Hall_row T) (hr.mono (by decide)) T.b_Hall_row .nil pass0)) (pss_cons (ps_if (pt_not (pt_chain op_le op_le pe_int (pv 1) (pe_callB call_lenU (by rfl) T.n_len (by decide +kernel) (pa_cons (pv 3) pa_nil)))) (pss_one (ps_raise rfl (takes_of rfl rfl rfl rfl) (pmk_ox DLX.bs_L (ox_NoPlace T) (hr.mono (by decide)) (by rfl) T.m_NoPlace (pa_cons (pv 1) pa_nil)))) pss_nil) (pss_cons (ps_if (pt_cmpR op_ge (pe_callB call_lenU (by rfl) T.n_len (by decide +kernel) (pa_cons (pv 3) pa_nil)) (pe_glob (v := .int 16) (by rfl) T.c_MOST_PEOPLE ⟨_, rfl⟩) (nomark _)) (pss_one (ps_raise rfl (takes_of rfl rfl rfl rfl) (pmk_ox DLX.bs_O (ox_Full T) (hr.mono (by decide)) (by rfl) T.m_Full (pa_cons (pe_glob (v := .int 16) (by rfl) T.c_MOST_PEOPLE ⟨_, rfl⟩) pa_nil)))) pss_nil) (pss_cons (ps_expr (pe_bm PySem.F.plainAttrs_list PySem.F.slot_list_append PySem.F.type_list_append mt_append (pe_fld (pv 0) rfl) (pa_cons (pe_op op_addU (pe_op op_addU (pe_slice sl_U (pv 3) po_none (po_some (pv 1))) (pe_tup (pa_cons (pv 2) pa_nil))) (pe_slice sl_U (pv 3) (po_some (pv 1)) po_none)) pa_nil))) (pss_one (ps_ret (pe_callB (call_lenH T.hc_Hall.k T.mt_Hall___len__.at_ T.mt_Hall___len__.fn (ok_Hall___len__ T) T.b_Hall___len__ (hr.mono (by decide))) (by rfl) T.n_len (by decide +kernel) (pa_cons (pv 0) pa_nil)))))))),
      run_H (N := N_Hall_come) (ds_seq (ds_set (i := 3) (de_methH T.hc_Hall (fun _ _ => rfl) callH0_len da_nil)) (ds_seq (ds_if (dt_not (dt_test (de_chain sn_le sn_le (do_e de_int) (do_e de_v) (do_e (de_cb sn_len (da_cons (do_e de_v) da_nil)))))) (ds_raise T.cc_NoPlace rfl de_v) ds_next) (ds_seq (ds_if (dt_test (de_op sn_ge (do_e (de_cb sn_len (da_cons (do_e de_v) da_nil))) (do_e de_int))) (ds_raise T.cc_Full rfl de_int) ds_next) (ds_seq (ds_appR T.hc_Hall (xd_e (de_op sn_addU (do_e (de_op sn_addU (do_e (de_sl sn_sliceU (do_e de_v) dp_no (dp_so de_v))) (do_e (de_tup (da_cons (do_e de_v) da_nil))))) (do_e (de_sl sn_sliceU (do_e de_v) (dp_so de_v) dp_no))))) (ds_ret (de_lenH T.hc_Hall callH0_len)))))) h⟩
theorem ok_look_many (T : Tx K mg w) : FnOk P w K mg base (L2.CX P w) 3 T.a_look_many T.d_look_many ["one", "other"] (spX K 2 F_look_many) := by
    refine T.F_look_many.okX sc_look_many (fun vs H Q E h => h.1) (fun cdv A outer s H vs Q E hr h => ?_)
    have nd := sc_look_many.nd
    exact ⟨_, (pss_one (ps_if (pt_cmpR (op_neU hr) (pe_callB call_lenU (by rfl) T.n_len (by decide +kernel) (pa_cons (pv 0) pa_nil)) (pe_callB call_lenU (by rfl) T.n_len (by decide +kernel) (pa_cons (pv 1) pa_nil)) (nomark _)) (pss_one (ps_raise rfl (takes_of rfl rfl rfl rfl) (pmk_ox DLX.bs_V (ox_OtherPeople T) (hr.mono (by decide)) (by rfl) T.m_OtherPeople (pa_cons (pe_callB call_lenU (by rfl) T.n_len (by decide +kernel) (pa_cons (pv 1) pa_nil)) pa_nil)))) pss_nil)),
      run_X (N := N_look_many) (ds_if (dt_test (de_op sn_neW (do_e (de_cb sn_len (da_cons (do_e de_v) da_nil))) (do_e (de_cb sn_len (da_cons (do_e de_v) da_nil))))) (ds_raise T.cc_OtherPeople rfl (de_cb sn_len (da_cons (do_e de_v) da_nil))) ds_next) (by decide) h⟩
theorem ok_inner (T : Tx K mg w) : FnOk P w K mg base CX0 1 T.a_inner T.d_inner ["row"] (spF K 1 F_inner) := by
    refine T.F_inner.ok sc_inner (fun vs H Q E h => h.1) (fun cdv A outer s H vs Q E hr h => ?_)
    have nd := sc_inner.nd
    exact ⟨_, (pss_one (ps_ret (pe_listRg (by rfl) (by rfl) T.n_list (prg_2 (by rfl) T.n_range pe_int (pe_op op_sub (pe_callB call_lenU (by rfl) T.n_len (by decide +kernel) (pa_cons (pv 0) pa_nil)) pe_int))))),
      run_F (N := N_inner) (ds_retF (df_listRg2 de_int (de_op sn_sub (do_e (de_cb sn_len (da_cons (do_e de_v) da_nil))) (do_e de_int)))) (by decide) h⟩
theorem ok_dips (T : Tx K mg w) : FnOk P w K mg base CX0 2 T.a_dips T.d_dips ["row"] (spF K 1 F_dips) := by
    refine T.F_dips.ok sc_dips (fun vs H Q E h => h.1) (fun cdv A outer s H vs Q E hr h => ?_)
    have nd := sc_dips.nd
    exact ⟨_, (pss_one (ps_ret (pe_lc (own := [("person", 1)]) (by rfl) nd (pi_seqU (pe_call (ok_inner T) (hr.mono (by decide)) (by rfl) T.m_inner T.F_inner.kp T.b_inner .nil pass0 (pa_cons (pv 0) pa_nil))) (blkOk_by (own := [("person", 1)]) (N := N_dips) (sc := defScope s_dips) (by decide +kernel)) (fun _ _ _ _ _ => (pg_name (i := 1) nd rfl (Or.inl rfl))) (fun _ _ _ _ _ => (pts_one (pt_chain op_gt op_lt (pe_ix ix_seq (pv 0) (pe_op op_sub (pv 1) pe_int) (fun _ _ => rfl)) (pe_ix ix_seq (pv 0) (pv 1) (fun _ _ => rfl)) (pe_ix ix_seq (pv 0) (pe_op op_addU (pv 1) pe_int) (fun _ _ => rfl))))) (fun _ _ _ _ _ => (pv 1))))),
      run_F (N := N_dips) (ds_retF (df_lc (di_seq (de_l (df_call callF_len (da_cons (do_e de_v) da_nil)))) (dg_name (by decide)) (dt_test (de_chain sn_gt sn_lt (do_e (de_op sn_ix (do_e de_v) (do_e (de_op sn_sub (do_e de_v) (do_e de_int))))) (do_e (de_op sn_ix (do_e de_v) (do_e de_v))) (do_e (de_op sn_ix (do_e de_v) (do_e (de_op sn_addU (do_e de_v) (do_e de_int))))))) de_v)) (by decide) h⟩
theorem ok_tops (T : Tx K mg w) : FnOk P w K mg base CX0 2 T.a_tops T.d_tops ["row"] (spF K 1 F_tops) := by
    refine T.F_tops.ok sc_tops (fun vs H Q E h => h.1) (fun cdv A outer s H vs Q E hr h => ?_)
    have nd := sc_tops.nd
    exact ⟨_, (pss_one (ps_ret (pe_lc (own := [("person", 1)]) (by rfl) nd (pi_seqU (pe_call (ok_inner T) (hr.mono (by decide)) (by rfl) T.m_inner T.F_inner.kp T.b_inner .nil pass0 (pa_cons (pv 0) pa_nil))) (blkOk_by (own := [("person", 1)]) (N := N_tops) (sc := defScope s_tops) (by decide +kernel)) (fun _ _ _ _ _ => (pg_name (i := 1) nd rfl (Or.inl rfl))) (fun _ _ _ _ _ => (pts_one (pt_chain op_lt op_gt (pe_ix ix_seq (pv 0) (pe_op op_sub (pv 1) pe_int) (fun _ _ => rfl)) (pe_ix ix_seq (pv 0) (pv 1) (fun _ _ => rfl)) (pe_ix ix_seq (pv 0) (pe_op op_addU (pv 1) pe_int) (fun _ _ => rfl))))) (fun _ _ _ _ _ => (pv 1))))),
      run_F (N := N_tops) (ds_retF (df_lc (di_seq (de_l (df_call callF_len (da_cons (do_e de_v) da_nil)))) (dg_name (by decide)) (dt_test (de_chain sn_lt sn_gt (do_e (de_op sn_ix (do_e de_v) (do_e (de_op sn_sub (do_e de_v) (do_e de_int))))) (do_e (de_op sn_ix (do_e de_v) (do_e de_v))) (do_e (de_op sn_ix (do_e de_v) (do_e (de_op sn_addU (do_e de_v) (do_e de_int))))))) de_v)) (by decide) h⟩
theorem ok_wrong_changes (T : Tx K mg w) : FnOk P w K mg base CX0 3 T.a_wrong_changes T.d_wrong_changes ["one", "other"] (spF K 2 F_wrong_changes) := by
    refine T.F_wrong_changes.ok sc_wrong_changes (fun vs H Q E h => h.1) (fun cdv A outer s H vs Q E hr h => ?_)
    have nd := sc_wrong_changes.nd
    exact ⟨_, (pss_cons (ps_par3 (i := 2) (j := 3) (l := 4) (by rfl) nd rfl rfl rfl (by decide) (by decide) (by decide) rfl rfl rfl (pa_cons (pe_call (ok_tops T) (hr.mono (by decide)) (by rfl) T.m_tops_rows T.F_tops.kp T.b_tops .nil pass0 (pa_cons (pv 0) pa_nil)) (pa_cons (pe_call (ok_dips T) (hr.mono (by decide)) (by rfl) T.m_dips_rows T.F_dips.kp T.b_dips .nil pass0 (pa_cons (pv 0) pa_nil)) (pa_cons (pe_lst pa_nil) pa_nil))) (by rfl)) (pss_cons (ps_for PassesOwn.never rfl (pi_enumZip (by rfl) T.n_enumerate (by rfl) T.n_zip (pa_cons (pv 0) (pa_cons (pv 1) pa_nil))) (pg_tup rfl (pgs_cons (pg_name (i := 5) nd rfl (Or.inl rfl)) (pgs_cons (pg_tup rfl (pgs_cons (pg_name (i := 6) nd rfl (Or.inl rfl)) (pgs_cons (pg_name (i := 7) nd rfl (Or.inl rfl)) pgs_nil))) pgs_nil))) (pss_one (ps_if (pt_not (PW.pt (pw_or (pt_cmpR (op_eqU hr) (pv 6) (pv 7) (nomark _)) (pw_or (PW.pt (pw_and (pt_cmpR op_in_seq (pv 5) (pv 2) (by rfl)) (pw_and1 (pt_cmpR op_lt (pv 7) (pv 6) (nomark _))))) (pw_or1 (PW.pt (pw_and (pt_cmpR op_in_seq (pv 5) (pv 3) (by rfl)) (pw_and1 (pt_cmpR op_gt (pv 7) (pv 6) (nomark _)))))))))) (pss_one (ps_expr (pe_bm PySem.F.plainAttrs_list PySem.F.slot_list_append PySem.F.type_list_append mt_append (pv 4) (pa_cons (pv 5) pa_nil)))) pss_nil))) (pss_one (ps_ret (pv 4))))),
      run_F (N := N_wrong_changes) (ds_seq (ds_par3f (de_l (df_call callF_len (da_cons (do_e de_v) da_nil))) (de_l (df_call callF_len (da_cons (do_e de_v) da_nil))) (df_lst da_nil)) (ds_seq (ds_for (ws := [5, 6, 7]) (di_enumZip (da_cons (do_e de_v) (da_cons (do_e de_v) da_nil))) (dg_tup (dgs_cons (dg_name (by decide)) (dgs_cons (dg_tup (dgs_cons (dg_name (by decide)) (dgs_cons (dg_name (by decide)) dgs_nil))) dgs_nil))) (ds_if (dt_not (dt_or (dt_test (de_op sn_eqW (do_e de_v) (do_e de_v))) (dt_or (dt_and (dt_test (de_op sn_in (do_e de_v) (do_e de_v))) (dt_test (de_op sn_lt (do_e de_v) (do_e de_v)))) (dt_and (dt_test (de_op sn_in (do_e de_v) (do_e de_v))) (dt_test (de_op sn_gt (do_e de_v) (do_e de_v))))))) (ds_app de_v) ds_next)) ds_retO)) (by decide) h⟩
theorem ok_wrong_orders (T : Tx K mg w) : FnOk P w K mg base CX0 1 T.a_wrong_orders T.d_wrong_orders ["one", "other"] (spF K 2 F_wrong_orders) := by
    refine T.F_wrong_orders.ok sc_wrong_orders (fun vs H Q E h => h.1) (fun cdv A outer s H vs Q E hr h => ?_)
    have nd := sc_wrong_orders.nd
    exact ⟨_, (pss_cons (ps_set (i := 2) nd rfl (Or.inl rfl) (pe_lst pa_nil)) (pss_cons (ps_for PassesOwn.never rfl (pi_range1 (by rfl) T.n_range (pa_cons (pe_op op_sub (pe_callB call_lenU (by rfl) T.n_len (by decide +kernel) (pa_cons (pv 0) pa_nil)) pe_int) pa_nil)) (pg_name (i := 3) nd rfl (Or.inl rfl)) (pss_cons (ps_par (i := 4) (j := 5) (by rfl) nd rfl rfl (by decide) rfl rfl (pa_cons (pe_op op_sub (pe_ix ix_seq (pv 0) (pe_op op_addU (pv 3) pe_int) (fun _ _ => rfl)) (pe_ix ix_seq (pv 0) (pv 3) (fun _ _ => rfl))) (pa_cons (pe_op op_sub (pe_ix ix_seq (pv 1) (pe_op op_addU (pv 3) pe_int) (fun _ _ => rfl)) (pe_ix ix_seq (pv 1) (pv 3) (fun _ _ => rfl))) pa_nil)) (by rfl)) (pss_one (ps_if (PW.pt (pw_or (pt_chain op_lt op_lt (pv 4) pe_int (pv 5)) (pw_or (pt_chain op_gt op_gt (pv 4) pe_int (pv 5)) (pw_or1 (pt_chain (op_eqU hr) (op_neU hr) (pv 4) pe_int (pv 5)))))) (pss_one (ps_expr (pe_bm PySem.F.plainAttrs_list PySem.F.slot_list_append PySem.F.type_list_append mt_append (pv 2) (pa_cons (pv 3) pa_nil)))) pss_nil)))) (pss_one (ps_ret (pv 2))))),
      run_F (N := N_wrong_orders) (ds_seq (ds_setO (i := 2) (df_lst da_nil)) (ds_seq (ds_for (ws := [3]) (di_rng1 (da_cons (do_e (de_op sn_sub (do_e (de_cb sn_len (da_cons (do_e de_v) da_nil))) (do_e de_int))) da_nil)) (dg_name (by decide)) (ds_seq (ds_par (dn_s (de_op sn_sub (do_e (de_op sn_ix (do_e de_v) (do_e (de_op sn_addU (do_e de_v) (do_e de_int))))) (do_e (de_op sn_ix (do_e de_v) (do_e de_v))))) (dn_s (de_op sn_sub (do_e (de_op sn_ix (do_e de_v) (do_e (de_op sn_addU (do_e de_v) (do_e de_int))))) (do_e (de_op sn_ix (do_e de_v) (do_e de_v)))))) (ds_if (dt_or (dt_test (de_chain sn_lt sn_lt (do_e de_v) (do_e de_int) (do_e de_v))) (dt_or (dt_test (de_chain sn_gt sn_gt (do_e de_v) (do_e de_int) (do_e de_v))) (dt_test (de_chain sn_eqW sn_neW (do_e de_v) (do_e de_int) (do_e de_v))))) (ds_app de_v) ds_next))) ds_retO)) (by decide) h⟩
theorem ok_runs (T : Tx K mg w) : FnOk P w K mg base CX0 1 T.a_runs T.d_runs ["row"] (spF K 1 F_runs) := by
    refine T.F_runs.ok sc_runs (fun vs H Q E h => h.1) (fun cdv A outer s H vs Q E hr h => ?_)
    have nd := sc_runs.nd
    exact ⟨_, (pss_cons (ps_setLc (i := 1) (own := [("person", 2)]) (by rfl) nd rfl rfl (sw_true rfl rfl rfl (by decide +kernel)) (pi_range1 (by rfl) T.n_range (pa_cons (pe_callB call_lenU (by rfl) T.n_len (by decide +kernel) (pa_cons (pv 0) pa_nil)) pa_nil)) (blkOk_by (own := [("person", 2)]) (N := N_runs) (sc := defScope s_runs) (by decide +kernel)) (fun _ _ _ _ _ => (pg_name (i := 2) nd rfl (Or.inl rfl))) (fun _ _ _ _ _ => (pts_one (PW.pt (pw_or (pt_cmpR (op_eqU hr) (pv 2) pe_int (nomark _)) (pw_or1 (pt_cmpR (op_neU hr) (pe_ix ix_seq (pv 0) (pv 2) (fun _ _ => rfl)) (pe_ix ix_seq (pv 0) (pe_op op_sub (pv 2) pe_int) (fun _ _ => rfl)) (nomark _))))))) (fun _ _ _ _ _ => (pv 2))) (pss_one (ps_ret (pe_lc (own := [("first", 3), ("last", 4)]) (by rfl) nd (pi_zipU (by rfl) T.n_zip (pa_cons (pv 1) (pa_cons (pe_op op_addU (pe_slice sl_U (pv 1) (po_some pe_int) po_none) (pe_lst (pa_cons (pe_callB call_lenU (by rfl) T.n_len (by decide +kernel) (pa_cons (pv 0) pa_nil)) pa_nil))) pa_nil))) (blkOk_by (own := [("first", 3), ("last", 4)]) (N := N_runs) (sc := defScope s_runs) (by decide +kernel)) (fun _ _ _ _ _ => (pg_tup rfl (pgs_cons (pg_name (i := 3) nd rfl (Or.inl rfl)) (pgs_cons (pg_name (i := 4) nd rfl (Or.inl rfl)) pgs_nil)))) (fun _ _ _ _ _ => pts_nil) (fun _ _ _ _ _ => (pe_tup (pa_cons (pv 3) (pa_cons (pe_op op_sub (pv 4) pe_int) pa_nil)))))))),
      run_F (N := N_runs) (ds_seq (ds_set (i := 1) (de_l (df_lc (di_rng1 (da_cons (do_e (de_cb sn_len (da_cons (do_e de_v) da_nil))) da_nil)) (dg_name (by decide)) (dt_or (dt_test (de_op sn_eqW (do_e de_v) (do_e de_int))) (dt_test (de_op sn_neW (do_e (de_op sn_ix (do_e de_v) (do_e de_v))) (do_e (de_op sn_ix (do_e de_v) (do_e (de_op sn_sub (do_e de_v) (do_e de_int)))))))) de_v))) (ds_retF (df_lc (di_zip (da_cons (do_e de_v) (da_cons (do_e (de_op sn_addU (do_e (de_sl sn_sliceU (do_e de_v) (dp_so de_int) dp_no)) (do_e (de_l (df_lst (da_cons (do_e (de_cb sn_len (da_cons (do_e de_v) da_nil))) da_nil)))))) da_nil))) (dg_tup (dgs_cons (dg_name (by decide)) (dgs_cons (dg_name (by decide)) dgs_nil))) dt_yes (de_tup (da_cons (do_e de_v) (da_cons (do_e (de_op sn_sub (do_e de_v) (do_e de_int))) da_nil)))))) (by decide) h⟩
theorem ok_stayed (T : Tx K mg w) : FnOk P w K mg base CX0 1 T.a_stayed T.d_stayed ["one", "other", "first", "last"] (spF K 4 F_stayed) := by
    refine T.F_stayed.ok sc_stayed (fun vs H Q E h => h.1) (fun cdv A outer s H vs Q E hr h => ?_)
    have nd := sc_stayed.nd
    exact ⟨_, (pss_one (ps_ret (pe_lc (own := [("person", 4)]) (by rfl) nd (pi_range2 (by rfl) T.n_range (pa_cons (pv 2) (pa_cons (pe_op op_addU (pv 3) pe_int) pa_nil))) (blkOk_by (own := [("person", 4)]) (N := N_stayed) (sc := defScope s_stayed) (by decide +kernel)) (fun _ _ _ _ _ => (pg_name (i := 4) nd rfl (Or.inl rfl))) (fun _ _ _ _ _ => (pts_one (pt_cmpR (op_eqU hr) (pe_ix ix_seq (pv 0) (pv 4) (fun _ _ => rfl)) (pe_ix ix_seq (pv 1) (pv 4) (fun _ _ => rfl)) (nomark _)))) (fun _ _ _ _ _ => (pv 4))))),
      run_F (N := N_stayed) (ds_retF (df_lc (di_rng2 (da_cons (do_e de_v) (da_cons (do_e (de_op sn_addU (do_e de_v) (do_e de_int))) da_nil))) (dg_name (by decide)) (dt_test (de_op sn_eqW (do_e (de_op sn_ix (do_e de_v) (do_e de_v))) (do_e (de_op sn_ix (do_e de_v) (do_e de_v))))) de_v)) (by decide) h⟩
theorem ok_wrong_runs (T : Tx K mg w) : FnOk P w K mg base CX0 2 T.a_wrong_runs T.d_wrong_runs ["one", "other"] (spF K 2 F_wrong_runs) := by
    refine T.F_wrong_runs.ok sc_wrong_runs (fun vs H Q E h => h.1) (fun cdv A outer s H vs Q E hr h => ?_)
    have nd := sc_wrong_runs.nd
    exact ⟨_, (pss_one (ps_ret (pe_lc (own := [("first", 2), ("last", 3)]) (by rfl) nd (pi_seqU (pe_call (ok_runs T) (hr.mono (by decide)) (by rfl) T.m_runs T.F_runs.kp T.b_runs .nil pass0 (pa_cons (pv 1) pa_nil))) (blkOk_by (own := [("first", 2), ("last", 3)]) (N := N_wrong_runs) (sc := defScope s_wrong_runs) (by decide +kernel)) (fun _ _ _ _ _ => (pg_tup rfl (pgs_cons (pg_name (i := 2) nd rfl (Or.inl rfl)) (pgs_cons (pg_name (i := 3) nd rfl (Or.inl rfl)) pgs_nil)))) (fun _ _ _ _ _ => (pts_one (pt_cmpR (op_eqU hr) (pe_callB call_lenU (by rfl) T.n_len (by decide +kernel) (pa_cons (pe_call (ok_stayed T) (hr.mono (by decide)) (by rfl) T.m_stayed T.F_stayed.kp T.b_stayed .nil pass0 (pa_cons (pv 0) (pa_cons (pv 1) (pa_cons (pv 2) (pa_cons (pv 3) pa_nil))))) pa_nil)) pe_int (nomark _)))) (fun _ _ _ _ _ => (pv 2))))),
      run_F (N := N_wrong_runs) (ds_retF (df_lc (di_seq (de_l (df_call callF_len (da_cons (do_e de_v) da_nil)))) (dg_tup (dgs_cons (dg_name (by decide)) (dgs_cons (dg_name (by decide)) dgs_nil))) (dt_test (de_op sn_eqW (do_e (de_cb sn_len (da_cons (do_e (de_l (df_call callF_len (da_cons (do_e de_v) (da_cons (do_e de_v) (da_cons (do_e de_v) (da_cons (do_e de_v) da_nil))))))) da_nil))) (do_e de_int))) de_v)) (by decide) h⟩
theorem ok_bar (T : Tx K mg w) : FnOk P w K mg base (L2.CX P w) 4 T.a_bar T.d_bar ["one", "other"] (spX K 2 F_bar) := by
    refine T.F_bar.okX sc_bar (fun vs H Q E h => h.1) (fun cdv A outer s H vs Q E hr h => ?_)
    have nd := sc_bar.nd
    exact ⟨_, (pss_cons (ps_expr (pe_callS (ok_look_many T) (hr.mono (by decide)) (by rfl) T.m_look_many T.F_look_many.kp T.b_look_many (fun σ => passAt (takes_of rfl rfl rfl rfl) σ) (pa_cons (pv 0) (pa_cons (pv 1) pa_nil)))) (pss_cons (ps_for (passes_of rfl) rfl (pi_seqU (pe_tup (pa_cons (pe_tup (pa_cons (pe_glob (v := .str "change") (by rfl) T.c_CHANGE ⟨_, rfl⟩) (pa_cons (pe_call (ok_wrong_changes T) (hr.mono (by decide)) (by rfl) T.m_wrong_changes T.F_wrong_changes.kp T.b_wrong_changes .nil pass0 (pa_cons (pv 0) (pa_cons (pv 1) pa_nil))) pa_nil))) (pa_cons (pe_tup (pa_cons (pe_glob (v := .str "order") (by rfl) T.c_ORDER ⟨_, rfl⟩) (pa_cons (pe_call (ok_wrong_orders T) (hr.mono (by decide)) (by rfl) T.m_wrong_orders T.F_wrong_orders.kp T.b_wrong_orders .nil pass0 (pa_cons (pv 0) (pa_cons (pv 1) pa_nil))) pa_nil))) pa_nil)))) (pg_tup rfl (pgs_cons (pg_name (i := 2) nd rfl (Or.inl rfl)) (pgs_cons (pg_name (i := 3) nd rfl (Or.inl rfl)) pgs_nil))) (pss_one (ps_if (pt_cmpR op_gt (pe_callB call_lenU (by rfl) T.n_len (by decide +kernel) (pa_cons (pv 3) pa_nil)) pe_int (nomark _)) (pss_one (ps_ret (pe_tup (pa_cons (pv 2) (pa_cons (pe_ix ix_seq (pv 3) pe_int (fun _ _ => rfl)) pa_nil))))) pss_nil))) (pss_cons (ps_set (i := 3) nd rfl (Or.inl rfl) (pe_call (ok_wrong_runs T) (hr.mono (by decide)) (by rfl) T.m_wrong_runs T.F_wrong_runs.kp T.b_wrong_runs .nil pass0 (pa_cons (pv 0) (pa_cons (pv 1) pa_nil)))) (pss_one (ps_ret (pe_ifExp (pt_cmpR op_gt (pe_callB call_lenU (by rfl) T.n_len (by decide +kernel) (pa_cons (pv 3) pa_nil)) pe_int (nomark _)) (pe_tup (pa_cons (pe_glob (v := .str "run") (by rfl) T.c_RUN_leading ⟨_, rfl⟩) (pa_cons (pe_ix ix_seq (pv 3) pe_int (fun _ _ => rfl)) pa_nil))) pe_non)))))),
      run_X (N := N_bar) (ds_seq (ds_dropX (xd_callX callX_len (da_cons (do_e de_v) (da_cons (do_e de_v) da_nil)))) (ds_seq (ds_for (ws := [2, 3]) (di_seq (de_tup (da_cons (do_e (de_tup (da_cons (do_e de_str) (da_cons (do_e (de_l (df_call callF_len (da_cons (do_e de_v) (da_cons (do_e de_v) da_nil))))) da_nil)))) (da_cons (do_e (de_tup (da_cons (do_e de_str) (da_cons (do_e (de_l (df_call callF_len (da_cons (do_e de_v) (da_cons (do_e de_v) da_nil))))) da_nil)))) da_nil)))) (dg_tup (dgs_cons (dg_name (by decide)) (dgs_cons (dg_name (by decide)) dgs_nil))) (ds_if (dt_test (de_op sn_gt (do_e (de_cb sn_len (da_cons (do_e de_v) da_nil))) (do_e de_int))) (ds_ret (de_tup (da_cons (do_e de_v) (da_cons (do_e (de_op sn_ix (do_e de_v) (do_e de_int))) da_nil)))) ds_next)) (ds_seq (ds_set (i := 3) (de_l (df_call callF_len (da_cons (do_e de_v) (da_cons (do_e de_v) da_nil))))) (ds_ret (de_if (dt_test (de_op sn_gt (do_e (de_cb sn_len (da_cons (do_e de_v) da_nil))) (do_e de_int))) (de_tup (da_cons (do_e de_str) (da_cons (do_e (de_op sn_ix (do_e de_v) (do_e de_int))) da_nil))) de_non))))) (by decide) h⟩
theorem ok_look_leads (T : Tx K mg w) : FnOk P w K mg base (L2.CX P w) 5 T.a_look_leads T.d_look_leads ["one", "other"] (spX K 2 F_look_leads) := by
    refine T.F_look_leads.okX sc_look_leads (fun vs H Q E h => h.1) (fun cdv A outer s H vs Q E hr h => ?_)
    have nd := sc_look_leads.nd
    exact ⟨_, (pss_cons (ps_set (i := 2) nd rfl (Or.inl rfl) (pe_callS (ok_bar T) (hr.mono (by decide)) (by rfl) T.m_bar T.F_bar.kp T.b_bar (fun σ => passAt (takes_of rfl rfl rfl rfl) σ) (pa_cons (pv 0) (pa_cons (pv 1) pa_nil)))) (pss_one (ps_if (pt_cmpR op_isNotU (pv 2) pe_non (nomark _)) (pss_one (ps_raise rfl (takes_of rfl rfl rfl rfl) (pmk_ox DLX.bs_R (ox_Barred T) (hr.mono (by decide)) (by rfl) T.m_Barred (pa_cons (pv 2) pa_nil)))) pss_nil))),
      run_X (N := N_look_leads) (ds_seq (ds_setX (i := 2) (xd_callX callX_len (da_cons (do_e de_v) (da_cons (do_e de_v) da_nil)))) (ds_if (dt_test (de_op sn_isNot (do_e de_v) (do_e de_non))) (ds_raise T.cc_Barred rfl de_v) ds_next)) (by decide) h⟩
theorem ok_changed (T : Tx K mg w) : FnOk P w K mg base (L2.CX P w) 6 T.a_changed T.d_changed ["one", "other"] (spXF K 2 F_changed) := by
    refine T.F_changed.okX sc_changed (fun vs H Q E h => h.1) (fun cdv A outer s H vs Q E hr h => ?_)
    have nd := sc_changed.nd
    exact ⟨_, (pss_cons (ps_expr (pe_callS (ok_look_leads T) (hr.mono (by decide)) (by rfl) T.m_look_leads T.F_look_leads.kp T.b_look_leads (fun σ => passAt (takes_of rfl rfl rfl rfl) σ) (pa_cons (pv 0) (pa_cons (pv 1) pa_nil)))) (pss_one (ps_ret (pe_lc (own := [("person", 2), ("mine", 3), ("its", 4)]) (by rfl) nd (pi_enumZip (by rfl) T.n_enumerate (by rfl) T.n_zip (pa_cons (pv 0) (pa_cons (pv 1) pa_nil))) (blkOk_by (own := [("person", 2), ("mine", 3), ("its", 4)]) (N := N_changed) (sc := defScope s_changed) (by decide +kernel)) (fun _ _ _ _ _ => (pg_tup rfl (pgs_cons (pg_name (i := 2) nd rfl (Or.inl rfl)) (pgs_cons (pg_tup rfl (pgs_cons (pg_name (i := 3) nd rfl (Or.inl rfl)) (pgs_cons (pg_name (i := 4) nd rfl (Or.inl rfl)) pgs_nil))) pgs_nil)))) (fun _ _ _ _ _ => (pts_one (pt_cmpR (op_neU hr) (pv 3) (pv 4) (nomark _)))) (fun _ _ _ _ _ => (pv 2)))))),
      run_XF (N := N_changed) (ds_seq (ds_dropX (xd_callX callX_len (da_cons (do_e de_v) (da_cons (do_e de_v) da_nil)))) (ds_retF (df_lc (di_enumZip (da_cons (do_e de_v) (da_cons (do_e de_v) da_nil))) (dg_tup (dgs_cons (dg_name (by decide)) (dgs_cons (dg_tup (dgs_cons (dg_name (by decide)) (dgs_cons (dg_name (by decide)) dgs_nil))) dgs_nil))) (dt_test (de_op sn_neW (do_e de_v) (do_e de_v))) de_v))) (by decide) h⟩
theorem ok_distance (T : Tx K mg w) : FnOk P w K mg base (L2.CX P w) 7 T.a_distance T.d_distance ["one", "other"] (spX K 2 F_distance) := by
    refine T.F_distance.okX sc_distance (fun vs H Q E h => h.1) (fun cdv A outer s H vs Q E hr h => ?_)
    have nd := sc_distance.nd
    exact ⟨_, (pss_one (ps_ret (pe_callB call_lenU (by rfl) T.n_len (by decide +kernel) (pa_cons (pe_callS (ok_changed T) (hr.mono (by decide)) (by rfl) T.m_changed T.F_changed.kp T.b_changed (fun σ => passAt (takes_of rfl rfl rfl rfl) σ) (pa_cons (pv 0) (pa_cons (pv 1) pa_nil))) pa_nil)))),
      run_X (N := N_distance) (ds_retX (xd_cb1 sn_len (xd_callXF callXF_len (da_cons (do_e de_v) (da_cons (do_e de_v) da_nil))))) (by decide) h⟩
theorem ok_Hall_go (T : Tx K mg w) : FnOk P w K mg base (L2.CX P w) 8 T.a_Hall_go T.d_Hall_go ["self", "goal"] (spH K 2 F_Hall_go) := by
    refine T.F_Hall_go.okX sc_Hall_go (fun vs H Q E h => h.1) (fun cdv A outer s H vs Q E hr h => ?_)
    have nd := sc_Hall_go.nd
    exact ⟨_, pss_gh (i := 3) (j := 4) ⟨_, rfl, rfl⟩ ⟨_, rfl, rfl⟩ (pss_cons (ps_set (i := 2) nd rfl (Or.inl rfl) (pe_callS (ok_distance T) (hr.mono (by decide)) (by rfl) T.m_distance T.F_distance.kp T.b_distance (fun σ => passAt (takes_of rfl rfl rfl rfl) σ) (pa_cons (pe_meth0 (pv 0) T.hc_Hall.k T.mt_Hall_row (ok_Hall_row T) (hr.mono (by decide)) T.b_Hall_row .nil pass0) (pa_cons (pv 1) pa_nil)))) (pss_cons (ps_expr (pe_bm PySem.F.plainAttrs_list PySem.F.slot_list_append PySem.F.type_list_append mt_append (pe_fld (pv 0) rfl) (pa_cons (pe_callTy call_tupleU (by rfl) T.n_tuple (by decide +kernel) (pa_cons (pv 1) pa_nil)) pa_nil))) (pss_one (ps_ret (pv 2))))),
      run_H (N := N_Hall_go) (ds_seq (ds_setX (i := 2) (xd_callX callX_len (da_cons (do_e (de_methH T.hc_Hall (fun _ _ => rfl) callH0_len da_nil)) (da_cons (do_e de_v) da_nil)))) (ds_seq (ds_appR T.hc_Hall (xd_e (de_cb sn_tuple (da_cons (do_e de_v) da_nil)))) (ds_ret de_v))) h⟩
theorem ok_Hall_leave (T : Tx K mg w) : FnOk P w K mg base (L2.CX P w) 4 T.a_Hall_leave T.d_Hall_leave ["self", "person"] (spH K 2 F_Hall_leave) := by
    refine T.F_Hall_leave.okX sc_Hall_leave (fun vs H Q E h => h.1) (fun cdv A outer s H vs Q E hr h => ?_)
    have nd := sc_Hall_leave.nd
    exact ⟨_, pss_gh (i := 3) (j := 4) ⟨_, rfl, rfl⟩ ⟨_, rfl, rfl⟩ (pss_cons (ps_set (i := 2) nd rfl (Or.inl rfl) (pe_meth0 (pv 0) T.hc_Hall.k T.mt_Hall_row (ok_Hall_row T) (hr.mono (by decide)) T.b_Hall_row .nil pass0)) (pss_cons (ps_expr (pe_callS (ok_look_person T) (hr.mono (by decide)) (by rfl) T.m_look_person T.F_look_person.kp T.b_look_person (fun σ => passAt (takes_of rfl rfl rfl rfl) σ) (pa_cons (pv 2) (pa_cons (pv 1) pa_nil)))) (pss_cons (ps_expr (pe_bm PySem.F.plainAttrs_list PySem.F.slot_list_append PySem.F.type_list_append mt_append (pe_fld (pv 0) rfl) (pa_cons (pe_op op_addU (pe_slice sl_U (pv 2) po_none (po_some (pv 1))) (pe_slice sl_U (pv 2) (po_some (pe_op op_addU (pv 1) pe_int)) po_none)) pa_nil))) (pss_one (ps_ret (pe_ix ix_seq (pv 2) (pv 1) (fun _ _ => rfl))))))),
      run_H (N := N_Hall_leave) (ds_seq (ds_set (i := 2) (de_methH T.hc_Hall (fun _ _ => rfl) callH0_len da_nil)) (ds_seq (ds_dropX (xd_callX callX_len (da_cons (do_e de_v) (da_cons (do_e de_v) da_nil)))) (ds_seq (ds_appR T.hc_Hall (xd_e (de_op sn_addU (do_e (de_sl sn_sliceU (do_e de_v) dp_no (dp_so de_v))) (do_e (de_sl sn_sliceU (do_e de_v) (dp_so (de_op sn_addU (do_e de_v) (do_e de_int))) dp_no))))) (ds_ret (de_op sn_ix (do_e de_v) (do_e de_v)))))) h⟩
theorem ok_idle (T : Tx K mg w) : FnOk P w K mg base (L2.CX P w) 5 T.a_idle T.d_idle ["row", "calls"] (spXF K 2 F_idle) := by
    refine T.F_idle.okX sc_idle (fun vs H Q E h => h.1) (fun cdv A outer s H vs Q E hr h => ?_)
    have nd := sc_idle.nd
    exact ⟨_, (pss_cons (ps_par (i := 2) (j := 3) (by rfl) nd rfl rfl (by decide) rfl rfl (pa_cons (pe_callTy call_tupleU (by rfl) T.n_tuple (by decide +kernel) (pa_cons (pv 0) pa_nil)) (pa_cons (pe_lst pa_nil) pa_nil)) (by rfl)) (pss_cons (ps_for (passes_of rfl) rfl (pi_enumU (by rfl) T.n_enumerate (pa_cons (pv 1) pa_nil)) (pg_tup rfl (pgs_cons (pg_name (i := 4) nd rfl (Or.inl rfl)) (pgs_cons (pg_name (i := 5) nd rfl (Or.inl rfl)) pgs_nil))) (pss_cons (ps_set (i := 6) nd rfl (Or.inl rfl) (pe_callS (ok_called T) (hr.mono (by decide)) (by rfl) T.m_called T.F_called.kp T.b_called (fun σ => passAt (takes_of rfl rfl rfl rfl) σ) (pa_cons (pv 2) (pa_cons (pv 5) pa_nil)))) (pss_cons (ps_if (pt_cmpR (op_eqU hr) (pv 6) (pv 2) (nomark _)) (pss_one (ps_expr (pe_bm PySem.F.plainAttrs_list PySem.F.slot_list_append PySem.F.type_list_append mt_append (pv 3) (pa_cons (pv 4) pa_nil)))) pss_nil) (pss_one (ps_set (i := 2) nd rfl (Or.inl rfl) (pv 6)))))) (pss_one (ps_ret (pv 3))))),
      run_XF (N := N_idle) (ds_seq (ds_par (dn_s (de_cb sn_tuple (da_cons (do_e de_v) da_nil))) (dn_f (df_lst da_nil))) (ds_seq (ds_for (ws := [4, 5]) (di_enum (da_cons (do_e de_v) da_nil)) (dg_tup (dgs_cons (dg_name (by decide)) (dgs_cons (dg_name (by decide)) dgs_nil))) (ds_seq (ds_setX (i := 6) (xd_callX callX_len (da_cons (do_e de_v) (da_cons (do_e de_v) da_nil)))) (ds_seq (ds_if (dt_test (de_op sn_eqW (do_e de_v) (do_e de_v))) (ds_app de_v) ds_next) (ds_set (i := 2) de_v)))) ds_retO)) (by decide) h⟩
theorem ok_run (T : Tx K mg w) : FnOk P w K mg base (L2.CX P w) 5 T.a_run T.d_run ["row", "calls"] (spX K 2 F_run) := by
    refine T.F_run.okX sc_run (fun vs H Q E h => h.1) (fun cdv A outer s H vs Q E hr h => ?_)
    have nd := sc_run.nd
    exact ⟨_, (pss_cons (ps_set (i := 2) nd rfl (Or.inl rfl) (pe_callTy call_tupleU (by rfl) T.n_tuple (by decide +kernel) (pa_cons (pv 0) pa_nil))) (pss_cons (ps_for (passes_of rfl) rfl (pi_seqU (pv 1)) (pg_name (i := 3) nd rfl (Or.inl rfl)) (pss_one (ps_set (i := 2) nd rfl (Or.inl rfl) (pe_callS (ok_called T) (hr.mono (by decide)) (by rfl) T.m_called T.F_called.kp T.b_called (fun σ => passAt (takes_of rfl rfl rfl rfl) σ) (pa_cons (pv 2) (pa_cons (pv 3) pa_nil)))))) (pss_one (ps_ret (pv 2))))),
      run_X (N := N_run) (ds_seq (ds_set (i := 2) (de_cb sn_tuple (da_cons (do_e de_v) da_nil))) (ds_seq (ds_for (ws := [3]) (di_seq de_v) (dg_name (by decide)) (ds_setX (i := 2) (xd_callX callX_len (da_cons (do_e de_v) (da_cons (do_e de_v) da_nil))))) (ds_ret de_v))) (by decide) h⟩
theorem ok_Hall_run (T : Tx K mg w) : FnOk P w K mg base (L2.CX P w) 6 T.a_Hall_run T.d_Hall_run ["self", "calls"] (spH K 2 F_Hall_run) := by
    refine T.F_Hall_run.okX sc_Hall_run (fun vs H Q E h => h.1) (fun cdv A outer s H vs Q E hr h => ?_)
    have nd := sc_Hall_run.nd
    exact ⟨_, pss_gh (i := 3) (j := 4) ⟨_, rfl, rfl⟩ ⟨_, rfl, rfl⟩ (pss_cons (ps_set (i := 2) nd rfl (Or.inl rfl) (pe_meth0 (pv 0) T.hc_Hall.k T.mt_Hall_row (ok_Hall_row T) (hr.mono (by decide)) T.b_Hall_row .nil pass0)) (pss_cons (ps_expr (pe_bm PySem.F.plainAttrs_list PySem.F.slot_list_append PySem.F.type_list_append mt_append (pe_fld (pv 0) rfl) (pa_cons (pe_callS (ok_run T) (hr.mono (by decide)) (by rfl) T.m_run_calling T.F_run.kp T.b_run (fun σ => passAt (takes_of rfl rfl rfl rfl) σ) (pa_cons (pv 2) (pa_cons (pv 1) pa_nil))) pa_nil))) (pss_one (ps_ret (pe_op op_sub (pe_callB call_lenU (by rfl) T.n_len (by decide +kernel) (pa_cons (pv 1) pa_nil)) (pe_callB call_lenU (by rfl) T.n_len (by decide +kernel) (pa_cons (pe_call (ok_idle T) (hr.mono (by decide)) (by rfl) T.m_idle T.F_idle.kp T.b_idle .nil passL (pa_cons (pv 2) (pa_cons (pv 1) pa_nil))) pa_nil))))))),
      run_H (N := N_Hall_run) (ds_seq (ds_set (i := 2) (de_methH T.hc_Hall (fun _ _ => rfl) callH0_len da_nil)) (ds_seq (ds_appR T.hc_Hall (xd_callX callX_len (da_cons (do_e de_v) (da_cons (do_e de_v) da_nil)))) (ds_ret (de_op sn_sub (do_e (de_cb sn_len (da_cons (do_e de_v) da_nil))) (do_e (de_cb sn_len (da_cons (do_e (de_l (df_callXF callXF_len (da_cons (do_e de_v) (da_cons (do_e de_v) da_nil))))) da_nil))))))) h⟩
theorem ok_Hall_tell (T : Tx K mg w) : FnOk P w K mg base (L2.CX P w) 4 T.a_Hall_tell T.d_Hall_tell ["self", "person", "number"] (spH K 3 F_Hall_tell) := by
    refine T.F_Hall_tell.okX sc_Hall_tell (fun vs H Q E h => h.1) (fun cdv A outer s H vs Q E hr h => ?_)
    have nd := sc_Hall_tell.nd
    exact ⟨_, pss_gh (i := 4) (j := 5) ⟨_, rfl, rfl⟩ ⟨_, rfl, rfl⟩ (pss_cons (ps_set (i := 3) nd rfl (Or.inl rfl) (pe_meth0 (pv 0) T.hc_Hall.k T.mt_Hall_row (ok_Hall_row T) (hr.mono (by decide)) T.b_Hall_row .nil pass0)) (pss_cons (ps_expr (pe_callS (ok_look_person T) (hr.mono (by decide)) (by rfl) T.m_look_person T.F_look_person.kp T.b_look_person (fun σ => passAt (takes_of rfl rfl rfl rfl) σ) (pa_cons (pv 3) (pa_cons (pv 1) pa_nil)))) (pss_cons (ps_expr (pe_bm PySem.F.plainAttrs_list PySem.F.slot_list_append PySem.F.type_list_append mt_append (pe_fld (pv 0) rfl) (pa_cons (pe_op op_addU (pe_op op_addU (pe_slice sl_U (pv 3) po_none (po_some (pv 1))) (pe_tup (pa_cons (pv 2) pa_nil))) (pe_slice sl_U (pv 3) (po_some (pe_op op_addU (pv 1) pe_int)) po_none)) pa_nil))) (pss_one (ps_ret (pe_ix ix_seq (pv 3) (pv 1) (fun _ _ => rfl))))))),
      run_H (N := N_Hall_tell) (ds_seq (ds_set (i := 3) (de_methH T.hc_Hall (fun _ _ => rfl) callH0_len da_nil)) (ds_seq (ds_dropX (xd_callX callX_len (da_cons (do_e de_v) (da_cons (do_e de_v) da_nil)))) (ds_seq (ds_appR T.hc_Hall (xd_e (de_op sn_addU (do_e (de_op sn_addU (do_e (de_sl sn_sliceU (do_e de_v) dp_no (dp_so de_v))) (do_e (de_tup (da_cons (do_e de_v) da_nil))))) (do_e (de_sl sn_sliceU (do_e de_v) (dp_so (de_op sn_addU (do_e de_v) (do_e de_int))) dp_no))))) (ds_ret (de_op sn_ix (do_e de_v) (do_e de_v)))))) h⟩
theorem ok_Hall_done (T : Tx K mg w) : FnOk P w K mg base (L2.CX P w) 9 T.a_Hall_done T.d_Hall_done ["self", "deed"] (spH K 2 F_Hall_done) := by
    refine T.F_Hall_done.okX sc_Hall_done (fun vs H Q E h => h.1) (fun cdv A outer s H vs Q E hr h => ?_)
    have nd := sc_Hall_done.nd
    exact ⟨_, pss_gh (i := 4) (j := 5) ⟨_, rfl, rfl⟩ ⟨_, rfl, rfl⟩ (pss_cons (ps_asg (pv 1) (pg_star1 rfl (pgs_cons (pg_name (i := 2) nd rfl (Or.inl rfl)) (pgs_cons (pg_name (i := 3) nd rfl (Or.inl rfl)) pgs_nil)))) (pss_cons (ps_if (pt_cmpR (op_eqU hr) (pv 2) pe_str (nomark _)) (pss_one (ps_ret (pe_methS (pv 0) T.hc_Hall.k T.mt_Hall_call (ok_Hall_call T) (hr.mono (by decide)) T.b_Hall_call (fun σ => passAt (takes_of rfl rfl rfl rfl) σ) (pa_cons (pe_ix ix_seq (pv 3) pe_int (fun _ _ => rfl)) pa_nil)))) pss_nil) (pss_cons (ps_if (pt_cmpR (op_eqU hr) (pv 2) pe_str (nomark _)) (pss_one (ps_ret (pe_methS (pv 0) T.hc_Hall.k T.mt_Hall_run (ok_Hall_run T) (hr.mono (by decide)) T.b_Hall_run (fun σ => passAt (takes_of rfl rfl rfl rfl) σ) (pa_cons (pe_ix ix_seq (pv 3) pe_int (fun _ _ => rfl)) pa_nil)))) pss_nil) (pss_cons (ps_if (pt_cmpR (op_eqU hr) (pv 2) pe_str (nomark _)) (pss_one (ps_ret (pe_methS (pv 0) T.hc_Hall.k T.mt_Hall_go (ok_Hall_go T) (hr.mono (by decide)) T.b_Hall_go (fun σ => passAt (takes_of rfl rfl rfl rfl) σ) (pa_cons (pe_ix ix_seq (pv 3) pe_int (fun _ _ => rfl)) pa_nil)))) pss_nil) (pss_cons (ps_if (pt_cmpR (op_eqU hr) (pv 2) pe_str (nomark _)) (pss_one (ps_ret (pe_methS (pv 0) T.hc_Hall.k T.mt_Hall_tell (ok_Hall_tell T) (hr.mono (by decide)) T.b_Hall_tell (fun σ => passAt (takes_of rfl rfl rfl rfl) σ) (pa_cons (pe_ix ix_seq (pv 3) pe_int (fun _ _ => rfl)) (pa_cons (pe_ix ix_seq (pv 3) pe_int (fun _ _ => rfl)) pa_nil))))) pss_nil) (pss_one (ps_ret (pe_ifExp (pt_cmpR (op_eqU hr) (pv 2) pe_str (nomark _)) (pe_methS (pv 0) T.hc_Hall.k T.mt_Hall_come (ok_Hall_come T) (hr.mono (by decide)) T.b_Hall_come (fun σ => passAt (takes_of rfl rfl rfl rfl) σ) (pa_cons (pe_ix ix_seq (pv 3) pe_int (fun _ _ => rfl)) (pa_cons (pe_ix ix_seq (pv 3) pe_int (fun _ _ => rfl)) pa_nil))) (pe_methS (pv 0) T.hc_Hall.k T.mt_Hall_leave (ok_Hall_leave T) (hr.mono (by decide)) T.b_Hall_leave (fun σ => passAt (takes_of rfl rfl rfl rfl) σ) (pa_cons (pe_ix ix_seq (pv 3) pe_int (fun _ _ => rfl)) pa_nil)))))))))),
      run_H (N := N_Hall_done) (ds_seq (ds_star (i := 2) (j := 3) de_v) (ds_seq (ds_if (dt_test (de_op sn_eqW (do_e de_v) (do_e de_str))) (ds_retX (xd_methH T.hc_Hall (fun _ _ => rfl) callH_len (da_cons (do_e (de_op sn_ix (do_e de_v) (do_e de_int))) da_nil))) ds_next) (ds_seq (ds_if (dt_test (de_op sn_eqW (do_e de_v) (do_e de_str))) (ds_retX (xd_methH T.hc_Hall (fun _ _ => rfl) callH_len (da_cons (do_e (de_op sn_ix (do_e de_v) (do_e de_int))) da_nil))) ds_next) (ds_seq (ds_if (dt_test (de_op sn_eqW (do_e de_v) (do_e de_str))) (ds_retX (xd_methH T.hc_Hall (fun _ _ => rfl) callH_len (da_cons (do_e (de_op sn_ix (do_e de_v) (do_e de_int))) da_nil))) ds_next) (ds_seq (ds_if (dt_test (de_op sn_eqW (do_e de_v) (do_e de_str))) (ds_retX (xd_methH T.hc_Hall (fun _ _ => rfl) callH_len (da_cons (do_e (de_op sn_ix (do_e de_v) (do_e de_int))) (da_cons (do_e (de_op sn_ix (do_e de_v) (do_e de_int))) da_nil)))) ds_next) (ds_retX (xd_if (dt_test (de_op sn_eqW (do_e de_v) (do_e de_str))) (xd_methH T.hc_Hall (fun _ _ => rfl) callH_len (da_cons (do_e (de_op sn_ix (do_e de_v) (do_e de_int))) (da_cons (do_e (de_op sn_ix (do_e de_v) (do_e de_int))) da_nil))) (xd_methH T.hc_Hall (fun _ _ => rfl) callH_len (da_cons (do_e (de_op sn_ix (do_e de_v) (do_e de_int))) da_nil))))))))) h⟩
theorem ok_bar_text (T : Tx K mg w) : FnOk P w K mg base CX0 1 T.a_bar_text T.d_bar_text ["reason"] (spP K 1 F_bar_text) := by
    refine T.F_bar_text.ok sc_bar_text (fun vs H Q E h => h.1) (fun cdv A outer s H vs Q E hr h => ?_)
    have nd := sc_bar_text.nd
    exact ⟨_, (pss_one (ps_ret (pe_ifExp (pt_cmpR op_isU (pv 0) pe_non (nomark _)) pe_str (pe_op op_addU (pe_op op_addU (pe_ix ix_seq (pv 0) pe_int (fun _ _ => rfl)) (pe_glob (v := .str " ") (by rfl) T.c_BLANK ⟨_, rfl⟩)) (pe_callTy call_strU (by rfl) T.n_str (by decide +kernel) (pa_cons (pe_ix ix_seq (pv 0) pe_int (fun _ _ => rfl)) pa_nil)))))),
      run_P (N := N_bar_text) (ds_ret (de_if (dt_test (de_op sn_is (do_e de_v) (do_e de_non))) de_str (de_op sn_addU (do_e (de_op sn_addU (do_e (de_op sn_ix (do_e de_v) (do_e de_int))) (do_e de_str))) (do_e (de_cb sn_str (da_cons (do_e (de_op sn_ix (do_e de_v) (do_e de_int))) da_nil)))))) (by decide) h⟩
theorem ok_open_parts (T : Tx K mg w) : FnOk P w K mg base CX0 2 T.a_open_parts T.d_open_parts ["one", "other"] (spF K 2 F_open_parts) := by
    refine T.F_open_parts.ok sc_open_parts (fun vs H Q E h => h.1) (fun cdv A outer s H vs Q E hr h => ?_)
    have nd := sc_open_parts.nd
    exact ⟨_, (pss_cons (ps_set (i := 2) nd rfl (Or.inl rfl) (pe_lst pa_nil)) (pss_cons (ps_for PassesOwn.never rfl (pi_seqU (pe_call (ok_runs T) (hr.mono (by decide)) (by rfl) T.m_runs T.F_runs.kp T.b_runs .nil pass0 (pa_cons (pv 1) pa_nil))) (pg_tup rfl (pgs_cons (pg_name (i := 3) nd rfl (Or.inl rfl)) (pgs_cons (pg_name (i := 4) nd rfl (Or.inl rfl)) pgs_nil))) (pss_cons (ps_set (i := 5) nd rfl (Or.inl rfl) (pe_op op_addU (pe_op op_addU (pe_lst (pa_cons (pe_op op_sub (pv 3) pe_int) pa_nil)) (pe_call (ok_stayed T) (hr.mono (by decide)) (by rfl) T.m_stayed T.F_stayed.kp T.b_stayed .nil pass0 (pa_cons (pv 0) (pa_cons (pv 1) (pa_cons (pv 3) (pa_cons (pv 4) pa_nil)))))) (pe_lst (pa_cons (pe_op op_addU (pv 4) pe_int) pa_nil)))) (pss_one (ps_for PassesOwn.never rfl (pi_zipU (by rfl) T.n_zip (pa_cons (pv 5) (pa_cons (pe_slice sl_U (pv 5) (po_some pe_int) po_none) pa_nil))) (pg_tup rfl (pgs_cons (pg_name (i := 6) nd rfl (Or.inl rfl)) (pgs_cons (pg_name (i := 7) nd rfl (Or.inl rfl)) pgs_nil))) (pss_one (ps_if (pt_cmpR op_gt (pe_op op_sub (pv 7) (pv 6)) pe_int (nomark _)) (pss_one (ps_expr (pe_bm PySem.F.plainAttrs_list PySem.F.slot_list_append PySem.F.type_list_append mt_append (pv 2) (pa_cons (pe_tup (pa_cons (pe_op op_addU (pv 6) pe_int) (pa_cons (pe_op op_sub (pv 7) pe_int) (pa_cons (pe_cmpR op_ge (pv 6) (pv 3) (nomark _)) (pa_cons (pe_cmpR op_le (pv 7) (pv 4) (nomark _)) pa_nil))))) pa_nil)))) pss_nil)))))) (pss_one (ps_ret (pv 2))))),
      run_F (N := N_open_parts) (ds_seq (ds_setO (i := 2) (df_lst da_nil)) (ds_seq (ds_for (ws := [3, 4]) (di_seq (de_l (df_call callF_len (da_cons (do_e de_v) da_nil)))) (dg_tup (dgs_cons (dg_name (by decide)) (dgs_cons (dg_name (by decide)) dgs_nil))) (ds_seq (ds_set (i := 5) (de_op sn_addU (do_e (de_op sn_addU (do_e (de_l (df_lst (da_cons (do_e (de_op sn_sub (do_e de_v) (do_e de_int))) da_nil)))) (do_e (de_l (df_call callF_len (da_cons (do_e de_v) (da_cons (do_e de_v) (da_cons (do_e de_v) (da_cons (do_e de_v) da_nil))))))))) (do_e (de_l (df_lst (da_cons (do_e (de_op sn_addU (do_e de_v) (do_e de_int))) da_nil)))))) (ds_for (ws := [6, 7]) (di_zip (da_cons (do_e de_v) (da_cons (do_e (de_sl sn_sliceU (do_e de_v) (dp_so de_int) dp_no)) da_nil))) (dg_tup (dgs_cons (dg_name (by decide)) (dgs_cons (dg_name (by decide)) dgs_nil))) (ds_if (dt_test (de_op sn_gt (do_e (de_op sn_sub (do_e de_v) (do_e de_v))) (do_e de_int))) (ds_app (de_tup (da_cons (do_e (de_op sn_addU (do_e de_v) (do_e de_int))) (da_cons (do_e (de_op sn_sub (do_e de_v) (do_e de_int))) (da_cons (do_e (de_op sn_ge (do_e de_v) (do_e de_v))) (da_cons (do_e (de_op sn_le (do_e de_v) (do_e de_v))) da_nil)))))) ds_next)))) ds_retO)) (by decide) h⟩
theorem ok_choices (T : Tx K mg w) : FnOk P w K mg base CX0 1 T.a_choices T.d_choices ["total", "some"] (spP K 2 F_choices) := by
    refine T.F_choices.ok sc_choices (fun vs H Q E h => h.1) (fun cdv A outer s H vs Q E hr h => ?_)
    have nd := sc_choices.nd
    exact ⟨_, (pss_cons (ps_set (i := 2) nd rfl (Or.inl rfl) pe_int) (pss_cons (ps_for PassesOwn.never rfl (pi_range1 (by rfl) T.n_range (pa_cons (pv 1) pa_nil)) (pg_name (i := 3) nd rfl (Or.inl rfl)) (pss_one (ps_set (i := 2) nd rfl (Or.inl rfl) (pe_op op_fdivW (pe_op op_mulT (pv 2) (pe_op op_sub (pv 0) (pv 3))) (pe_op op_addU (pv 3) pe_int))))) (pss_one (ps_ret (pv 2))))),
      run_P (N := N_choices) (ds_seq (ds_set (i := 2) de_int) (ds_seq (ds_for (ws := [3]) (di_rng1 (da_cons (do_e de_v) da_nil)) (dg_name (by decide)) (ds_set (i := 2) (de_op sn_fdiv (do_e (de_op sn_mulV (do_e de_v) (do_e (de_op sn_sub (do_e de_v) (do_e de_v))))) (do_e (de_op sn_addU (do_e de_v) (do_e de_int)))))) (ds_ret de_v))) (by decide) h⟩
theorem ok_orders (T : Tx K mg w) : FnOk P w K mg base CX0 1 T.a_orders T.d_orders ["first", "last", "left", "right"] (spP K 4 F_orders) := by
    refine T.F_orders.ok sc_orders (fun vs H Q E h => h.1) (fun cdv A outer s H vs Q E hr h => ?_)
    have nd := sc_orders.nd
    exact ⟨_, (pss_cons (ps_set (i := 4) nd rfl (Or.inl rfl) pe_int) (pss_cons (ps_for PassesOwn.never rfl (pi_range1 (by rfl) T.n_range (pa_cons (pe_op op_mulT (pe_op op_sub (pv 1) (pv 0)) (pe_callTy call_intU (by rfl) T.n_int (by decide +kernel) (pa_cons (pe_and (pv 2) (pe_one (pv 3))) pa_nil))) pa_nil)) (pg_name (i := 5) nd rfl (Or.inl rfl)) (pss_one (ps_aug (i := 4) nd rfl (Or.inl rfl) pe_int ip_mulU))) (pss_one (ps_ret (pv 4))))),
      run_P (N := N_orders) (ds_seq (ds_set (i := 4) de_int) (ds_seq (ds_for (ws := [5]) (di_rng1 (da_cons (do_e (de_op sn_mulV (do_e (de_op sn_sub (do_e de_v) (do_e de_v))) (do_e (de_cb sn_int (da_cons (do_e (de_and de_v de_v)) da_nil))))) da_nil)) (dg_name (by decide)) (ds_aug sn_ipMul de_int)) (ds_ret de_v))) (by decide) h⟩
theorem ok_ways_of (T : Tx K mg w) : FnOk P w K mg base CX0 2 T.a_ways_of T.d_ways_of ["some"] (spP K 1 F_ways_of) := by
    refine T.F_ways_of.ok sc_ways_of (fun vs H Q E h => h.1) (fun cdv A outer s H vs Q E hr h => ?_)
    have nd := sc_ways_of.nd
    exact ⟨_, (pss_cons (ps_asg (pe_tup (pa_cons pe_int (pa_cons pe_int pa_nil))) (pg_tup rfl (pgs_cons (pg_name (i := 1) nd rfl (Or.inl rfl)) (pgs_cons (pg_name (i := 2) nd rfl (Or.inl rfl)) pgs_nil)))) (pss_cons (ps_for PassesOwn.never rfl (pi_seqU (pv 0)) (pg_tup rfl (pgs_cons (pg_name (i := 3) nd rfl (Or.inl rfl)) (pgs_cons (pg_name (i := 4) nd rfl (Or.inl rfl)) (pgs_cons (pg_name (i := 5) nd rfl (Or.inl rfl)) (pgs_cons (pg_name (i := 6) nd rfl (Or.inl rfl)) pgs_nil))))) (pss_cons (ps_aug (i := 2) nd rfl (Or.inl rfl) (pe_op op_addU (pe_op op_sub (pv 4) (pv 3)) pe_int) ip_add) (pss_one (ps_aug (i := 1) nd rfl (Or.inl rfl) (pe_op op_mulT (pe_call (ok_choices T) (hr.mono (by decide)) (by rfl) T.m_choices T.F_choices.kp T.b_choices .nil pass0 (pa_cons (pv 2) (pa_cons (pe_op op_addU (pe_op op_sub (pv 4) (pv 3)) pe_int) pa_nil))) (pe_call (ok_orders T) (hr.mono (by decide)) (by rfl) T.m_orders T.F_orders.kp T.b_orders .nil pass0 (pa_cons (pv 3) (pa_cons (pv 4) (pa_cons (pv 5) (pa_cons (pv 6) pa_nil)))))) ip_mulU)))) (pss_one (ps_ret (pv 1))))),
      run_P (N := N_ways_of) (ds_seq (ds_to (ws := [1, 2]) (de_tup (da_cons (do_e de_int) (da_cons (do_e de_int) da_nil))) (dg_tup (dgs_cons (dg_name (by decide)) (dgs_cons (dg_name (by decide)) dgs_nil)))) (ds_seq (ds_for (ws := [3, 4, 5, 6]) (di_seq de_v) (dg_tup (dgs_cons (dg_name (by decide)) (dgs_cons (dg_name (by decide)) (dgs_cons (dg_name (by decide)) (dgs_cons (dg_name (by decide)) dgs_nil))))) (ds_seq (ds_aug sn_ipAdd (de_op sn_addU (do_e (de_op sn_sub (do_e de_v) (do_e de_v))) (do_e de_int))) (ds_aug sn_ipMul (de_op sn_mulV (do_e (de_call callP_len (da_cons (do_e de_v) (da_cons (do_e (de_op sn_addU (do_e (de_op sn_sub (do_e de_v) (do_e de_v))) (do_e de_int))) da_nil)))) (do_e (de_call callP_len (da_cons (do_e de_v) (da_cons (do_e de_v) (da_cons (do_e de_v) (da_cons (do_e de_v) da_nil)))))))))) (ds_ret de_v))) (by decide) h⟩
theorem ok_ways_many (T : Tx K mg w) : FnOk P w K mg base (L2.CX P w) 6 T.a_ways_many T.d_ways_many ["one", "other"] (spX K 2 F_ways_many) := by
    refine T.F_ways_many.okX sc_ways_many (fun vs H Q E h => h.1) (fun cdv A outer s H vs Q E hr h => ?_)
    have nd := sc_ways_many.nd
    exact ⟨_, (pss_cons (ps_expr (pe_callS (ok_look_leads T) (hr.mono (by decide)) (by rfl) T.m_look_leads T.F_look_leads.kp T.b_look_leads (fun σ => passAt (takes_of rfl rfl rfl rfl) σ) (pa_cons (pv 0) (pa_cons (pv 1) pa_nil)))) (pss_one (ps_ret (pe_call (ok_ways_of T) (hr.mono (by decide)) (by rfl) T.m_ways_of T.F_ways_of.kp T.b_ways_of .nil pass0 (pa_cons (pe_call (ok_open_parts T) (hr.mono (by decide)) (by rfl) T.m_open_parts T.F_open_parts.kp T.b_open_parts .nil pass0 (pa_cons (pv 0) (pa_cons (pv 1) pa_nil))) pa_nil))))),
      run_X (N := N_ways_many) (ds_seq (ds_dropX (xd_callX callX_len (da_cons (do_e de_v) (da_cons (do_e de_v) da_nil)))) (ds_ret (de_call callP_len (da_cons (do_e (de_l (df_call callF_len (da_cons (do_e de_v) (da_cons (do_e de_v) da_nil))))) da_nil)))) (by decide) h⟩
theorem ok_look_wish (T : Tx K mg w) : FnOk P w K mg base (L2.CX P w) 3 T.a_look_wish T.d_look_wish ["row", "wish"] (spX K 2 F_look_wish) := by
    refine T.F_look_wish.okX sc_look_wish (fun vs H Q E h => h.1) (fun cdv A outer s H vs Q E hr h => ?_)
    have nd := sc_look_wish.nd
    exact ⟨_, (pss_one (ps_if (pt_cmpR (op_neU hr) (pe_callB call_lenU (by rfl) T.n_len (by decide +kernel) (pa_cons (pv 0) pa_nil)) (pe_callB call_lenU (by rfl) T.n_len (by decide +kernel) (pa_cons (pv 1) pa_nil)) (nomark _)) (pss_one (ps_raise rfl (takes_of rfl rfl rfl rfl) (pmk_ox DLX.bs_V (ox_OtherPeople T) (hr.mono (by decide)) (by rfl) T.m_OtherPeople (pa_cons (pe_callB call_lenU (by rfl) T.n_len (by decide +kernel) (pa_cons (pv 1) pa_nil)) pa_nil)))) pss_nil)),
      run_X (N := N_look_wish) (ds_if (dt_test (de_op sn_neW (do_e (de_cb sn_len (da_cons (do_e de_v) da_nil))) (do_e (de_cb sn_len (da_cons (do_e de_v) da_nil))))) (ds_raise T.cc_OtherPeople rfl (de_cb sn_len (da_cons (do_e de_v) da_nil))) ds_next) (by decide) h⟩
theorem ok_parted (T : Tx K mg w) : FnOk P w K mg base CX0 1 T.a_parted T.d_parted ["row", "place", "state", "option", "calm"] (spP K 5 F_parted) := by
    refine T.F_parted.ok sc_parted (fun vs H Q E h => h.1) (fun cdv A outer s H vs Q E hr h => ?_)
    have nd := sc_parted.nd
    exact ⟨_, (pss_cons (ps_asg (pe_tup (pa_cons (pv 2) (pa_cons (pv 3) pa_nil))) (pg_tup rfl (pgs_cons (pg_tup rfl (pgs_cons (pg_name (i := 5) nd rfl (Or.inl rfl)) (pgs_cons (pg_name (i := 6) nd rfl (Or.inl rfl)) (pgs_cons (pg_name (i := 7) nd rfl (Or.inl rfl)) (pgs_cons (pg_name (i := 8) nd rfl (Or.inl rfl)) pgs_nil))))) (pgs_cons (pg_tup rfl (pgs_cons (pg_name (i := 9) nd rfl (Or.inl rfl)) (pgs_cons (pg_name (i := 10) nd rfl (Or.inl rfl)) pgs_nil))) pgs_nil)))) (pss_cons (ps_if (PW.pt (pw_or (pt_not (pt_val (pv 6))) (pw_or (pt_cmpR (op_eqU hr) (pe_ix ix_seq (pv 0) (pe_op op_sub (pv 1) pe_int) (fun _ _ => rfl)) (pe_ix ix_seq (pv 0) (pv 1) (fun _ _ => rfl)) (nomark _)) (pw_or1 (pt_cmpR (op_neU hr) (pe_cmpR op_lt (pe_ix ix_seq (pv 0) (pe_op op_sub (pv 1) pe_int) (fun _ _ => rfl)) (pe_ix ix_seq (pv 0) (pv 1) (fun _ _ => rfl)) (nomark _)) (pe_cmpR op_lt (pv 5) (pv 9) (nomark _)) (nomark _)))))) (pss_one (ps_ret pe_non)) pss_nil) (pss_cons (ps_set (i := 11) nd rfl (Or.inl rfl) (pe_ifExp (pt_cmpR op_lt (pv 5) (pv 9) (nomark _)) pe_int (pe_un un_neg pe_int))) (pss_cons (ps_if (PW.pt (pw_and (pt_val (pv 4)) (pw_and (pt_not (pt_val (pv 8))) (pw_and1 (pt_cmpR op_notIn_seq (pv 7) (pe_tup (pa_cons pe_int (pa_cons (pv 11) pa_nil))) (by rfl)))))) (pss_one (ps_ret pe_non)) pss_nil) (pss_one (ps_ret (pe_tup (pa_cons (pv 9) (pa_cons (pe_not (pv 10)) (pa_cons (pe_ifExp (pt_val (pv 4)) (pv 11) pe_int) (pa_cons pe_bl pa_nil))))))))))),
      run_P (N := N_parted) (ds_seq (ds_to (ws := [5, 6, 7, 8, 9, 10]) (de_tup (da_cons (do_e de_v) (da_cons (do_e de_v) da_nil))) (dg_tup (dgs_cons (dg_tup (dgs_cons (dg_name (by decide)) (dgs_cons (dg_name (by decide)) (dgs_cons (dg_name (by decide)) (dgs_cons (dg_name (by decide)) dgs_nil))))) (dgs_cons (dg_tup (dgs_cons (dg_name (by decide)) (dgs_cons (dg_name (by decide)) dgs_nil))) dgs_nil)))) (ds_seq (ds_if (dt_or (dt_not (dt_B de_v)) (dt_or (dt_test (de_op sn_eqW (do_e (de_op sn_ix (do_e de_v) (do_e (de_op sn_sub (do_e de_v) (do_e de_int))))) (do_e (de_op sn_ix (do_e de_v) (do_e de_v))))) (dt_test (de_op sn_neW (do_e (de_op sn_lt (do_e (de_op sn_ix (do_e de_v) (do_e (de_op sn_sub (do_e de_v) (do_e de_int))))) (do_e (de_op sn_ix (do_e de_v) (do_e de_v))))) (do_e (de_op sn_lt (do_e de_v) (do_e de_v))))))) (ds_ret de_non) ds_next) (ds_seq (ds_set (i := 11) (de_if (dt_test (de_op sn_lt (do_e de_v) (do_e de_v))) de_int (de_un sn_neg (do_e de_int)))) (ds_seq (ds_if (dt_and (dt_B de_v) (dt_and (dt_not (dt_B de_v)) (dt_test (de_op sn_notIn (do_e de_v) (do_e (de_tup (da_cons (do_e de_int) (da_cons (do_e de_v) da_nil)))))))) (ds_ret de_non) ds_next) (ds_ret (de_tup (da_cons (do_e de_v) (da_cons (do_e (de_not de_v)) (da_cons (do_e (de_if (dt_B de_v) de_v de_int)) (da_cons (do_e de_bl) da_nil)))))))))) (by decide) h⟩
theorem ok_next_state (T : Tx K mg w) : FnOk P w K mg base CX0 2 T.a_next_state T.d_next_state ["row", "place", "state", "option", "calm"] (spP K 5 F_next_state) := by
    refine T.F_next_state.ok sc_next_state (fun vs H Q E h => h.1) (fun cdv A outer s H vs Q E hr h => ?_)
    have nd := sc_next_state.nd
    exact ⟨_, (pss_cons (ps_if (pt_cmpR op_isU (pv 2) pe_non (nomark _)) (pss_one (ps_ret (pe_tup (pa_cons (pe_ix ix_seq (pv 3) pe_int (fun _ _ => rfl)) (pa_cons (pe_not (pe_ix ix_seq (pv 3) pe_int (fun _ _ => rfl))) (pa_cons pe_int (pa_cons pe_bl pa_nil))))))) pss_nil) (pss_cons (ps_if (pt_cmpR (op_eqU hr) (pe_ix ix_seq (pv 3) pe_int (fun _ _ => rfl)) (pe_ix ix_seq (pv 2) pe_int (fun _ _ => rfl)) (nomark _)) (pss_one (ps_ret (pe_tup (pa_cons (pe_ix ix_seq (pv 2) pe_int (fun _ _ => rfl)) (pa_cons (pe_or (pe_ix ix_seq (pv 2) pe_int (fun _ _ => rfl)) (pe_one (pe_not (pe_ix ix_seq (pv 3) pe_int (fun _ _ => rfl))))) (pa_cons (pe_ix ix_seq (pv 2) pe_int (fun _ _ => rfl)) (pa_cons (pv 4) pa_nil))))))) pss_nil) (pss_one (ps_ret (pe_call (ok_parted T) (hr.mono (by decide)) (by rfl) T.m_parted T.F_parted.kp T.b_parted .nil pass0 (pa_cons (pv 0) (pa_cons (pv 1) (pa_cons (pv 2) (pa_cons (pv 3) (pa_cons (pv 4) pa_nil)))))))))),
      run_P (N := N_next_state) (ds_seq (ds_if (dt_test (de_op sn_is (do_e de_v) (do_e de_non))) (ds_ret (de_tup (da_cons (do_e (de_op sn_ix (do_e de_v) (do_e de_int))) (da_cons (do_e (de_not (de_op sn_ix (do_e de_v) (do_e de_int)))) (da_cons (do_e de_int) (da_cons (do_e de_bl) da_nil)))))) ds_next) (ds_seq (ds_if (dt_test (de_op sn_eqW (do_e (de_op sn_ix (do_e de_v) (do_e de_int))) (do_e (de_op sn_ix (do_e de_v) (do_e de_int))))) (ds_ret (de_tup (da_cons (do_e (de_op sn_ix (do_e de_v) (do_e de_int))) (da_cons (do_e (de_or (de_op sn_ix (do_e de_v) (do_e de_int)) (de_not (de_op sn_ix (do_e de_v) (do_e de_int))))) (da_cons (do_e (de_op sn_ix (do_e de_v) (do_e de_int))) (da_cons (do_e de_v) da_nil)))))) ds_next) (ds_ret (de_call callP_len (da_cons (do_e de_v) (da_cons (do_e de_v) (da_cons (do_e de_v) (da_cons (do_e de_v) (da_cons (do_e de_v) da_nil))))))))) (by decide) h⟩
theorem ok_next_states (T : Tx K mg w) : FnOk P w K mg base CX0 3 T.a_next_states T.d_next_states ["row", "place", "state", "options", "calm"] (spF K 5 F_next_states) := by
    refine T.F_next_states.ok sc_next_states (fun vs H Q E h => h.1) (fun cdv A outer s H vs Q E hr h => ?_)
    have nd := sc_next_states.nd
    exact ⟨_, (pss_cons (ps_setLc (i := 5) (own := [("option", 6)]) (by rfl) nd rfl rfl (sw_true rfl rfl rfl (by decide +kernel)) (pi_seqU (pe_ix ix_seq (pv 3) (pv 1) (fun _ _ => rfl))) (blkOk_by (own := [("option", 6)]) (N := N_next_states) (sc := defScope s_next_states) (by decide +kernel)) (fun _ _ _ _ _ => (pg_name (i := 6) nd rfl (Or.inl rfl))) (fun _ _ _ _ _ => pts_nil) (fun _ _ _ _ _ => (pe_call (ok_next_state T) (hr.mono (by decide)) (by rfl) T.m_next_state T.F_next_state.kp T.b_next_state .nil pass0 (pa_cons (pv 0) (pa_cons (pv 1) (pa_cons (pv 2) (pa_cons (pv 6) (pa_cons (pv 4) pa_nil)))))))) (pss_one (ps_ret (pe_lc (own := [("later", 7)]) (by rfl) nd (pi_seqU (pv 5)) (blkOk_by (own := [("later", 7)]) (N := N_next_states) (sc := defScope s_next_states) (by decide +kernel)) (fun _ _ _ _ _ => (pg_name (i := 7) nd rfl (Or.inl rfl))) (fun _ _ _ _ _ => (pts_one (pt_cmpR op_isNotU (pv 7) pe_non (nomark _)))) (fun _ _ _ _ _ => (pv 7)))))),
      run_F (N := N_next_states) (ds_seq (ds_set (i := 5) (de_l (df_lc (di_seq (de_op sn_ix (do_e de_v) (do_e de_v))) (dg_name (by decide)) dt_yes (de_call callP_len (da_cons (do_e de_v) (da_cons (do_e de_v) (da_cons (do_e de_v) (da_cons (do_e de_v) (da_cons (do_e de_v) da_nil))))))))) (ds_retF (df_lc (di_seq de_v) (dg_name (by decide)) (dt_test (de_op sn_isNot (do_e de_v) (do_e de_non))) de_v))) (by decide) h⟩
theorem ok_endings (T : Tx K mg w) : FnOk P w K mg base CX0 4 T.a_endings T.d_endings ["row", "options", "calm"] (spP K 3 F_endings) := by
    refine T.F_endings.ok sc_endings (fun vs H Q E h => h.1) (fun cdv A outer s H vs Q E hr h => ?_)
    have nd := sc_endings.nd
    exact ⟨_, (pss_cons (ps_set (i := 3) nd rfl (Or.inl rfl) (pe_lst (pa_cons (pe_lst (pa_cons pe_non pa_nil)) pa_nil))) (pss_cons (ps_for PassesOwn.never rfl (pi_range1 (by rfl) T.n_range (pa_cons (pe_callB call_lenU (by rfl) T.n_len (by decide +kernel) (pa_cons (pv 0) pa_nil)) pa_nil)) (pg_name (i := 4) nd rfl (Or.inl rfl)) (pss_cons (ps_set (i := 6) nd rfl (Or.inl rfl) pe_nnew) (pss_cons (ps_for PassesOwn.never rfl (pi_seqU (pe_ix ix_seq (pv 3) (pe_un un_neg pe_int) (fun _ _ => rfl))) (pg_name (i := 7) nd rfl (Or.inl rfl)) (pss_one (ps_for PassesOwn.never rfl (pi_seqU (pe_call (ok_next_states T) (hr.mono (by decide)) (by rfl) T.m_next_states T.F_next_states.kp T.b_next_states .nil pass0 (pa_cons (pv 0) (pa_cons (pv 4) (pa_cons (pv 7) (pa_cons (pv 1) (pa_cons (pv 2) pa_nil))))))) (pg_name (i := 9) nd rfl (Or.inl rfl)) (pss_one (ps_nput hr (pv 6) (pv 9) pe_bl))))) (pss_one (ps_expr (pe_bm PySem.F.plainAttrs_list PySem.F.slot_list_append PySem.F.type_list_append mt_append (pv 3) (pa_cons (pe_callTy (call_listN rfl) (by rfl) T.n_list (by decide +kernel) (pa_cons (pv 6) pa_nil)) pa_nil))))))) (pss_cons (ps_set (i := 5) nd rfl (Or.inr rfl) (pe_lst (pa_cons (pe_callTy (call_dictN hr rfl) (by rfl) T.n_dict (by decide +kernel) (pa_cons (pe_lc (own := [("state", 7)]) (by rfl) nd (pi_seqU (pe_ix ix_seq (pv 3) (pe_un un_neg pe_int) (fun _ _ => rfl))) (blkOk_by (own := [("state", 7)]) (N := N_endings) (sc := defScope s_endings) (by decide +kernel)) (fun _ _ _ _ _ => (pg_name (i := 7) nd rfl (Or.inl rfl))) (fun _ _ _ _ _ => pts_nil) (fun _ _ _ _ _ => (pe_tup (pa_cons (pv 7) (pa_cons (pe_callTy call_intU (by rfl) T.n_int (by decide +kernel) (pa_cons (pe_or (pe_cmpR op_isU (pv 7) pe_non (nomark _)) (pe_one (pe_ix ix_seq (pv 7) pe_int (fun _ _ => rfl)))) pa_nil)) pa_nil))))) pa_nil)) pa_nil))) (pss_cons (ps_for PassesOwn.never rfl (pi_range3 (by rfl) T.n_range (pa_cons (pe_op op_sub (pe_callB call_lenU (by rfl) T.n_len (by decide +kernel) (pa_cons (pv 0) pa_nil)) pe_int) (pa_cons (pe_un un_neg pe_int) (pa_cons (pe_un un_neg pe_int) pa_nil)))) (pg_name (i := 4) nd rfl (Or.inl rfl)) (pss_cons (ps_set (i := 8) nd rfl (Or.inl rfl) pe_nnew) (pss_cons (ps_for PassesOwn.never rfl (pi_seqU (pe_ix ix_seq (pv 3) (pv 4) (fun _ _ => rfl))) (pg_name (i := 7) nd rfl (Or.inl rfl)) (pss_cons (ps_set (i := 9) nd rfl (Or.inl rfl) (pe_call (ok_next_states T) (hr.mono (by decide)) (by rfl) T.m_next_states T.F_next_states.kp T.b_next_states .nil pass0 (pa_cons (pv 0) (pa_cons (pv 4) (pa_cons (pv 7) (pa_cons (pv 1) (pa_cons (pv 2) pa_nil))))))) (pss_one (ps_nput hr (pv 8) (pv 7) (pe_callB (cr_sum rfl) (by rfl) T.n_sum (by decide +kernel) (pa_cons (pe_lc (own := [("some", 10)]) (by rfl) nd (pi_seqU (pv 9)) (blkOk_by (own := [("some", 10)]) (N := N_endings) (sc := defScope s_endings) (by decide +kernel)) (fun _ _ _ _ _ => (pg_name (i := 10) nd rfl (Or.inl rfl))) (fun _ _ _ _ _ => pts_nil) (fun _ _ _ _ _ => (pe_ix (ix_dict hr) (pe_ix ix_seq (pv 5) pe_int (fun _ _ => rfl)) (pv 10) (fun _ _ => rfl)))) pa_nil)))))) (pss_one (ps_set (i := 5) nd rfl (Or.inr rfl) (pe_op op_addU (pe_lst (pa_cons (pv 8) pa_nil)) (pv 5))))))) (pss_one (ps_ret (pv 5))))))),
      run_P (N := N_endings) (ds_seq (ds_setO (i := 3) (df_lst (da_cons (do_e (de_l (df_lst (da_cons (do_e de_non) da_nil)))) da_nil))) (ds_seq (ds_for (ws := [4]) (di_rng1 (da_cons (do_e (de_cb sn_len (da_cons (do_e de_v) da_nil))) da_nil)) (dg_name (by decide)) (ds_seq (ds_setD (i := 6) dd_new) (ds_seq (ds_for (ws := [7]) (di_seq (de_op sn_ix do_v (do_e (de_un sn_neg (do_e de_int))))) (dg_name (by decide)) (ds_for (ws := [9]) (di_seq (de_l (df_call callF_len (da_cons (do_e de_v) (da_cons (do_e de_v) (da_cons (do_e de_v) (da_cons (do_e de_v) (da_cons (do_e de_v) da_nil)))))))) (dg_name (by decide)) (ds_putD de_bl de_v))) (ds_app (de_l (df_cb sn_nkeys (da_cons do_v da_nil))))))) (ds_seq (ds_set (i := 5) (de_l (df_lst (da_cons (do_e (de_cb sn_ndict (da_cons (do_e (de_l (df_lc (di_seq (de_op sn_ix do_v (do_e (de_un sn_neg (do_e de_int))))) (dg_name (by decide)) dt_yes (de_tup (da_cons (do_e de_v) (da_cons (do_e (de_cb sn_int (da_cons (do_e (de_or (de_op sn_is (do_e de_v) (do_e de_non)) (de_op sn_ix (do_e de_v) (do_e de_int)))) da_nil))) da_nil)))))) da_nil))) da_nil)))) (ds_seq (ds_for (ws := [4]) (di_rng3 (da_cons (do_e (de_op sn_sub (do_e (de_cb sn_len (da_cons (do_e de_v) da_nil))) (do_e de_int))) (da_cons (do_e (de_un sn_neg (do_e de_int))) (da_cons (do_e (de_un sn_neg (do_e de_int))) da_nil)))) (dg_name (by decide)) (ds_seq (ds_setD (i := 8) dd_new) (ds_seq (ds_for (ws := [7]) (di_seq (de_op sn_ix do_v (do_e de_v))) (dg_name (by decide)) (ds_seq (ds_set (i := 9) (de_l (df_call callF_len (da_cons (do_e de_v) (da_cons (do_e de_v) (da_cons (do_e de_v) (da_cons (do_e de_v) (da_cons (do_e de_v) da_nil)))))))) (ds_putD (de_cb sn_sum (da_cons (do_e (de_l (df_lc (di_seq de_v) (dg_name (by decide)) dt_yes (de_op sn_nget (do_e (de_op sn_ix (do_e de_v) (do_e de_int))) (do_e de_v))))) da_nil)) de_v))) (ds_fz (i := 8) (ds_set (i := 5) (de_op sn_addU (do_e (de_l (df_lst (da_cons (do_e de_v) da_nil)))) (do_e de_v))))))) (ds_ret de_v))))) (by decide) h⟩
theorem ok_options_of (T : Tx K mg w) : FnOk P w K mg base CX0 3 T.a_options_of T.d_options_of ["row", "wish"] (spF K 2 F_options_of) := by
    refine T.F_options_of.ok sc_options_of (fun vs H Q E h => h.1) (fun cdv A outer s H vs Q E hr h => ?_)
    have nd := sc_options_of.nd
    exact ⟨_, (pss_cons (ps_par3 (i := 2) (j := 3) (l := 4) (by rfl) nd rfl rfl rfl (by decide) (by decide) (by decide) rfl rfl rfl (pa_cons (pe_call (ok_tops T) (hr.mono (by decide)) (by rfl) T.m_tops_rows T.F_tops.kp T.b_tops .nil pass0 (pa_cons (pv 0) pa_nil)) (pa_cons (pe_call (ok_dips T) (hr.mono (by decide)) (by rfl) T.m_dips_rows T.F_dips.kp T.b_dips .nil pass0 (pa_cons (pv 0) pa_nil)) (pa_cons (pe_lst pa_nil) pa_nil))) (by rfl)) (pss_cons (ps_for PassesOwn.never rfl (pi_enumU (by rfl) T.n_enumerate (pa_cons (pv 0) pa_nil)) (pg_tup rfl (pgs_cons (pg_name (i := 5) nd rfl (Or.inr rfl)) (pgs_cons (pg_name (i := 6) nd rfl (Or.inr rfl)) pgs_nil))) (pss_cons (ps_set (i := 7) nd rfl (Or.inl rfl) (pe_lst (pa_cons (pe_tup (pa_cons (pv 6) (pa_cons pe_bl pa_nil))) pa_nil))) (pss_cons (ps_if (pt_cmpR op_in_seq (pv 5) (pv 2) (by rfl)) (pss_one (ps_expr (pe_bm PySem.F.plainAttrs_list PySem.F.slot_list_extend PySem.F.type_list_extend mt_extend (pv 7) (pa_cons (pe_lc (own := [("number", 8)]) (by rfl) nd (pi_seqU (pe_srtSet (by rfl) T.n_sorted (by rfl) T.n_set (pv 0))) (blkOk_by (own := [("number", 8)]) (N := N_options_of) (sc := defScope s_options_of) (by decide +kernel)) (fun _ _ _ _ _ => (pg_name (i := 8) nd rfl (Or.inl rfl))) (fun _ _ _ _ _ => (pts_one (pt_cmpR op_lt (pv 8) (pv 6) (nomark _)))) (fun _ _ _ _ _ => (pe_tup (pa_cons (pv 8) (pa_cons pe_bl pa_nil))))) pa_nil)))) pss_nil) (pss_cons (ps_if (pt_cmpR op_in_seq (pv 5) (pv 3) (by rfl)) (pss_one (ps_expr (pe_bm PySem.F.plainAttrs_list PySem.F.slot_list_extend PySem.F.type_list_extend mt_extend (pv 7) (pa_cons (pe_lc (own := [("number", 8)]) (by rfl) nd (pi_seqU (pe_srtSet (by rfl) T.n_sorted (by rfl) T.n_set (pv 0))) (blkOk_by (own := [("number", 8)]) (N := N_options_of) (sc := defScope s_options_of) (by decide +kernel)) (fun _ _ _ _ _ => (pg_name (i := 8) nd rfl (Or.inl rfl))) (fun _ _ _ _ _ => (pts_one (pt_cmpR op_gt (pv 8) (pv 6) (nomark _)))) (fun _ _ _ _ _ => (pe_tup (pa_cons (pv 8) (pa_cons pe_bl pa_nil))))) pa_nil)))) pss_nil) (pss_one (ps_expr (pe_bm PySem.F.plainAttrs_list PySem.F.slot_list_append PySem.F.type_list_append mt_append (pv 4) (pa_cons (pe_callB (cr_sortN hr rfl) (by rfl) T.n_sorted (by decide +kernel) (pa_cons (pe_lc (own := [("option", 9)]) (by rfl) nd (pi_seqU (pv 7)) (blkOk_by (own := [("option", 9)]) (N := N_options_of) (sc := defScope s_options_of) (by decide +kernel)) (fun _ _ _ _ _ => (pg_name (i := 9) nd rfl (Or.inl rfl))) (fun _ _ _ _ _ => (pts_one (PW.pt (pw_or (pt_cmpR op_isU (pe_ix ix_seq (pv 1) (pv 5) (fun _ _ => rfl)) pe_non (nomark _)) (pw_or1 (pt_cmpR (op_eqU hr) (pe_ix ix_seq (pv 1) (pv 5) (fun _ _ => rfl)) (pe_ix ix_seq (pv 9) pe_int (fun _ _ => rfl)) (nomark _))))))) (fun _ _ _ _ _ => (pv 9))) pa_nil)) pa_nil)))))))) (pss_one (ps_ret (pv 4))))),
      run_F (N := N_options_of) (ds_seq (ds_par3f (de_l (df_call callF_len (da_cons (do_e de_v) da_nil))) (de_l (df_call callF_len (da_cons (do_e de_v) da_nil))) (df_lst da_nil)) (ds_seq (ds_for (ws := [5, 6]) (di_enum (da_cons (do_e de_v) da_nil)) (dg_tup (dgs_cons (dg_name (by decide)) (dgs_cons (dg_name (by decide)) dgs_nil))) (ds_seq (ds_setO (i := 7) (df_lst (da_cons (do_e (de_tup (da_cons (do_e de_v) (da_cons (do_e de_bl) da_nil)))) da_nil))) (ds_seq (ds_if (dt_test (de_op sn_in (do_e de_v) (do_e de_v))) (ds_ext (df_lc (di_seq (de_l (df_srtSet de_v))) (dg_name (by decide)) (dt_test (de_op sn_lt (do_e de_v) (do_e de_v))) (de_tup (da_cons (do_e de_v) (da_cons (do_e de_bl) da_nil))))) ds_next) (ds_seq (ds_if (dt_test (de_op sn_in (do_e de_v) (do_e de_v))) (ds_ext (df_lc (di_seq (de_l (df_srtSet de_v))) (dg_name (by decide)) (dt_test (de_op sn_gt (do_e de_v) (do_e de_v))) (de_tup (da_cons (do_e de_v) (da_cons (do_e de_bl) da_nil))))) ds_next) (ds_fz (i := 7) (ds_app (de_l (df_cb (sn_sortNF sn_sortN) (da_cons (do_e (de_l (df_lc (di_seq de_v) (dg_name (by decide)) (dt_or (dt_test (de_op sn_is (do_e (de_op sn_ix (do_e de_v) (do_e de_v))) (do_e de_non))) (dt_test (de_op sn_eqW (do_e (de_op sn_ix (do_e de_v) (do_e de_v))) (do_e (de_op sn_ix (do_e de_v) (do_e de_int)))))) de_v))) da_nil))))))))) ds_retO)) (by decide) h⟩
theorem ok_rows_many (T : Tx K mg w) : FnOk P w K mg base CX0 5 T.a_rows_many T.d_rows_many ["row", "wish", "calm"] (spP K 3 F_rows_many) := by
    refine T.F_rows_many.ok sc_rows_many (fun vs H Q E h => h.1) (fun cdv A outer s H vs Q E hr h => ?_)
    have nd := sc_rows_many.nd
    exact ⟨_, (pss_one (ps_ret (pe_ix (ix_dict hr) (pe_ix ix_seq (pe_call (ok_endings T) (hr.mono (by decide)) (by rfl) T.m_endings T.F_endings.kp T.b_endings .nil pass0 (pa_cons (pv 0) (pa_cons (pe_call (ok_options_of T) (hr.mono (by decide)) (by rfl) T.m_options_of T.F_options_of.kp T.b_options_of .nil pass0 (pa_cons (pv 0) (pa_cons (pv 1) pa_nil))) (pa_cons (pv 2) pa_nil)))) pe_int (fun _ _ => rfl)) pe_non (fun _ _ => rfl)))),
      run_P (N := N_rows_many) (ds_ret (de_op sn_nget (do_e (de_op sn_ix (do_e (de_call callP_len (da_cons (do_e de_v) (da_cons (do_e (de_l (df_call callF_len (da_cons (do_e de_v) (da_cons (do_e de_v) da_nil))))) (da_cons (do_e de_v) da_nil))))) (do_e de_int))) (do_e de_non))) (by decide) h⟩
theorem ok_wish_many (T : Tx K mg w) : FnOk P w K mg base (L2.CX P w) 6 T.a_wish_many T.d_wish_many ["row", "wish"] (spX K 2 F_wish_many) := by
    refine T.F_wish_many.okX sc_wish_many (fun vs H Q E h => h.1) (fun cdv A outer s H vs Q E hr h => ?_)
    have nd := sc_wish_many.nd
    exact ⟨_, (pss_cons (ps_expr (pe_callS (ok_look_wish T) (hr.mono (by decide)) (by rfl) T.m_look_wish T.F_look_wish.kp T.b_look_wish (fun σ => passAt (takes_of rfl rfl rfl rfl) σ) (pa_cons (pv 0) (pa_cons (pv 1) pa_nil)))) (pss_one (ps_ret (pe_call (ok_rows_many T) (hr.mono (by decide)) (by rfl) T.m_rows_many T.F_rows_many.kp T.b_rows_many .nil pass0 (pa_cons (pv 0) (pa_cons (pv 1) (pa_cons pe_bl pa_nil))))))),
      run_X (N := N_wish_many) (ds_seq (ds_dropX (xd_callX callX_len (da_cons (do_e de_v) (da_cons (do_e de_v) da_nil)))) (ds_ret (de_call callP_len (da_cons (do_e de_v) (da_cons (do_e de_v) (da_cons (do_e de_bl) da_nil)))))) (by decide) h⟩
theorem ok_asked (T : Tx K mg w) : FnOk P w K mg base (L2.CX P w) 8 T.a_asked T.d_asked ["hall", "name", "thing"] (spH K 3 F_asked) := by
    refine T.F_asked.okX sc_asked (fun vs H Q E h => h.1) (fun cdv A outer s H vs Q E hr h => ?_)
    have nd := sc_asked.nd
    exact ⟨_, pss_gh (i := 3) (j := 4) ⟨_, rfl, rfl⟩ ⟨_, rfl, rfl⟩ (pss_cons (ps_if (pt_cmpR (op_eqU hr) (pv 1) pe_str (nomark _)) (pss_one (ps_ret (pe_callTy call_strU (by rfl) T.n_str (by decide +kernel) (pa_cons (pe_callS (ok_distance T) (hr.mono (by decide)) (by rfl) T.m_distance T.F_distance.kp T.b_distance (fun σ => passAt (takes_of rfl rfl rfl rfl) σ) (pa_cons (pe_meth0 (pv 0) T.hc_Hall.k T.mt_Hall_row (ok_Hall_row T) (hr.mono (by decide)) T.b_Hall_row .nil pass0) (pa_cons (pv 2) pa_nil))) pa_nil)))) pss_nil) (pss_cons (ps_if (pt_cmpR (op_eqU hr) (pv 1) pe_str (nomark _)) (pss_one (ps_ret (pe_callTy call_strU (by rfl) T.n_str (by decide +kernel) (pa_cons (pe_callS (ok_ways_many T) (hr.mono (by decide)) (by rfl) T.m_ways_many T.F_ways_many.kp T.b_ways_many (fun σ => passAt (takes_of rfl rfl rfl rfl) σ) (pa_cons (pe_meth0 (pv 0) T.hc_Hall.k T.mt_Hall_row (ok_Hall_row T) (hr.mono (by decide)) T.b_Hall_row .nil pass0) (pa_cons (pv 2) pa_nil))) pa_nil)))) pss_nil) (pss_one (ps_ret (pe_ifExp (pt_cmpR (op_eqU hr) (pv 1) pe_str (nomark _)) (pe_call (ok_bar_text T) (hr.mono (by decide)) (by rfl) T.m_bar_text T.F_bar_text.kp T.b_bar_text .nil pass0 (pa_cons (pe_callS (ok_bar T) (hr.mono (by decide)) (by rfl) T.m_bar T.F_bar.kp T.b_bar (fun σ => passAt (takes_of rfl rfl rfl rfl) σ) (pa_cons (pe_meth0 (pv 0) T.hc_Hall.k T.mt_Hall_row (ok_Hall_row T) (hr.mono (by decide)) T.b_Hall_row .nil pass0) (pa_cons (pv 2) pa_nil))) pa_nil)) (pe_callTy call_strU (by rfl) T.n_str (by decide +kernel) (pa_cons (pe_callS (ok_wish_many T) (hr.mono (by decide)) (by rfl) T.m_wish_many T.F_wish_many.kp T.b_wish_many (fun σ => passAt (takes_of rfl rfl rfl rfl) σ) (pa_cons (pe_meth0 (pv 0) T.hc_Hall.k T.mt_Hall_row (ok_Hall_row T) (hr.mono (by decide)) T.b_Hall_row .nil pass0) (pa_cons (pv 2) pa_nil))) pa_nil))))))),
      run_H (N := N_asked) (ds_seq (ds_if (dt_test (de_op sn_eqW (do_e de_v) (do_e de_str))) (ds_retX (xd_cb1 sn_str (xd_callX callX_len (da_cons (do_e (de_methH T.hc_Hall (fun _ _ => rfl) callH0_len da_nil)) (da_cons (do_e de_v) da_nil))))) ds_next) (ds_seq (ds_if (dt_test (de_op sn_eqW (do_e de_v) (do_e de_str))) (ds_retX (xd_cb1 sn_str (xd_callX callX_len (da_cons (do_e (de_methH T.hc_Hall (fun _ _ => rfl) callH0_len da_nil)) (da_cons (do_e de_v) da_nil))))) ds_next) (ds_retX (xd_if (dt_test (de_op sn_eqW (do_e de_v) (do_e de_str))) (xd_call1 (xd_callX callX_len (da_cons (do_e (de_methH T.hc_Hall (fun _ _ => rfl) callH0_len da_nil)) (da_cons (do_e de_v) da_nil))) callP_len) (xd_cb1 sn_str (xd_callX callX_len (da_cons (do_e (de_methH T.hc_Hall (fun _ _ => rfl) callH0_len da_nil)) (da_cons (do_e de_v) da_nil)))))))) h⟩
theorem ok_Hall_dips (T : Tx K mg w) : FnOk P w K mg base CX0 3 T.a_Hall_dips T.d_Hall_dips ["self"] (spH K 1 F_Hall_dips) := by
    refine T.F_Hall_dips.ok sc_Hall_dips (fun vs H Q E h => h.1) (fun cdv A outer s H vs Q E hr h => ?_)
    have nd := sc_Hall_dips.nd
    exact ⟨_, pss_gh (i := 1) (j := 2) ⟨_, rfl, rfl⟩ ⟨_, rfl, rfl⟩ (pss_one (ps_ret (pe_call (ok_dips T) (hr.mono (by decide)) (by rfl) T.m_dips_rows T.F_dips.kp T.b_dips .nil pass0 (pa_cons (pe_meth0 (pv 0) T.hc_Hall.k T.mt_Hall_row (ok_Hall_row T) (hr.mono (by decide)) T.b_Hall_row .nil pass0) pa_nil)))),
      run_H0 (N := N_Hall_dips) (ds_ret (de_l (df_call callF_len (da_cons (do_e (de_methH T.hc_Hall (fun _ _ => rfl) callH0_len da_nil)) da_nil)))) h⟩
theorem ok_free_wish (T : Tx K mg w) : FnOk P w K mg base CX0 1 T.a_free_wish T.d_free_wish ["row"] (spF K 1 F_free_wish) := by
    refine T.F_free_wish.ok sc_free_wish (fun vs H Q E h => h.1) (fun cdv A outer s H vs Q E hr h => ?_)
    have nd := sc_free_wish.nd
    exact ⟨_, (pss_one (ps_ret (pe_op op_mulT (pe_lst (pa_cons pe_non pa_nil)) (pe_callB call_lenU (by rfl) T.n_len (by decide +kernel) (pa_cons (pv 0) pa_nil))))),
      run_F (N := N_free_wish) (ds_retF (df_op sn_repLT (do_e (de_l (df_lst (da_cons (do_e de_non) da_nil)))) (do_e (de_cb sn_len (da_cons (do_e de_v) da_nil))))) (by decide) h⟩
theorem ok_futures_many (T : Tx K mg w) : FnOk P w K mg base CX0 6 T.a_futures_many T.d_futures_many ["row"] (spP K 1 F_futures_many) := by
    refine T.F_futures_many.ok sc_futures_many (fun vs H Q E h => h.1) (fun cdv A outer s H vs Q E hr h => ?_)
    have nd := sc_futures_many.nd
    exact ⟨_, (pss_one (ps_ret (pe_call (ok_rows_many T) (hr.mono (by decide)) (by rfl) T.m_rows_many T.F_rows_many.kp T.b_rows_many .nil pass0 (pa_cons (pv 0) (pa_cons (pe_call (ok_free_wish T) (hr.mono (by decide)) (by rfl) T.m_free_wish T.F_free_wish.kp T.b_free_wish .nil pass0 (pa_cons (pv 0) pa_nil)) (pa_cons pe_bl pa_nil)))))),
      run_P (N := N_futures_many) (ds_ret (de_call callP_len (da_cons (do_e de_v) (da_cons (do_e (de_l (df_call callF_len (da_cons (do_e de_v) da_nil)))) (da_cons (do_e de_bl) da_nil))))) (by decide) h⟩
theorem ok_Hall_futures (T : Tx K mg w) : FnOk P w K mg base CX0 7 T.a_Hall_futures T.d_Hall_futures ["self"] (spH K 1 F_Hall_futures) := by
    refine T.F_Hall_futures.ok sc_Hall_futures (fun vs H Q E h => h.1) (fun cdv A outer s H vs Q E hr h => ?_)
    have nd := sc_Hall_futures.nd
    exact ⟨_, pss_gh (i := 1) (j := 2) ⟨_, rfl, rfl⟩ ⟨_, rfl, rfl⟩ (pss_one (ps_ret (pe_call (ok_futures_many T) (hr.mono (by decide)) (by rfl) T.m_futures_many T.F_futures_many.kp T.b_futures_many .nil pass0 (pa_cons (pe_meth0 (pv 0) T.hc_Hall.k T.mt_Hall_row (ok_Hall_row T) (hr.mono (by decide)) T.b_Hall_row .nil pass0) pa_nil)))),
      run_H0 (N := N_Hall_futures) (ds_ret (de_call callP_len (da_cons (do_e (de_methH T.hc_Hall (fun _ _ => rfl) callH0_len da_nil)) da_nil))) h⟩
theorem ok_Hall_tops (T : Tx K mg w) : FnOk P w K mg base CX0 3 T.a_Hall_tops T.d_Hall_tops ["self"] (spH K 1 F_Hall_tops) := by
    refine T.F_Hall_tops.ok sc_Hall_tops (fun vs H Q E h => h.1) (fun cdv A outer s H vs Q E hr h => ?_)
    have nd := sc_Hall_tops.nd
    exact ⟨_, pss_gh (i := 1) (j := 2) ⟨_, rfl, rfl⟩ ⟨_, rfl, rfl⟩ (pss_one (ps_ret (pe_call (ok_tops T) (hr.mono (by decide)) (by rfl) T.m_tops_rows T.F_tops.kp T.b_tops .nil pass0 (pa_cons (pe_meth0 (pv 0) T.hc_Hall.k T.mt_Hall_row (ok_Hall_row T) (hr.mono (by decide)) T.b_Hall_row .nil pass0) pa_nil)))),
      run_H0 (N := N_Hall_tops) (ds_ret (de_l (df_call callF_len (da_cons (do_e (de_methH T.hc_Hall (fun _ _ => rfl) callH0_len da_nil)) da_nil)))) h⟩
theorem ok_Hall_deeds (T : Tx K mg w) : FnOk P w K mg base CX0 1 T.a_Hall_deeds T.d_Hall_deeds ["self"] (spH K 1 F_Hall_deeds) := by
    refine T.F_Hall_deeds.ok sc_Hall_deeds (fun vs H Q E h => h.1) (fun cdv A outer s H vs Q E hr h => ?_)
    have nd := sc_Hall_deeds.nd
    exact ⟨_, pss_gh (i := 1) (j := 2) ⟨_, rfl, rfl⟩ ⟨_, rfl, rfl⟩ (pss_one (ps_ret (pe_op op_sub (pe_callB call_lenU (by rfl) T.n_len (by decide +kernel) (pa_cons (pe_fld (pv 0) rfl) pa_nil)) pe_int))),
      run_H0 (N := N_Hall_deeds) (ds_ret (de_op sn_sub (do_e (de_cb sn_len (da_cons (do_rows T.hc_Hall) da_nil))) (do_e de_int))) h⟩
theorem ok_Hall_undo (T : Tx K mg w) : FnOk P w K mg base CX0 2 T.a_Hall_undo T.d_Hall_undo ["self"] (spH K 1 F_Hall_undo) := by
    refine T.F_Hall_undo.ok sc_Hall_undo (fun vs H Q E h => h.1) (fun cdv A outer s H vs Q E hr h => ?_)
    have nd := sc_Hall_undo.nd
    exact ⟨_, pss_gh (i := 1) (j := 2) ⟨_, rfl, rfl⟩ ⟨_, rfl, rfl⟩ (pss_cons (ps_if (pt_cmpR (op_eqU hr) (pe_meth0 (pv 0) T.hc_Hall.k T.mt_Hall_deeds (ok_Hall_deeds T) (hr.mono (by decide)) T.b_Hall_deeds .nil pass0) pe_int (nomark _)) (pss_one (ps_ret pe_bl)) pss_nil) (pss_cons (ps_expr (pe_bm0 PySem.F.plainAttrs_list PySem.F.slot_list_pop PySem.F.type_list_pop mt_pop (pe_fld (pv 0) rfl))) (pss_one (ps_ret pe_bl)))),
      run_H0 (N := N_Hall_undo) (ds_seq (ds_if (dt_test (de_op sn_eqW (do_e (de_methH T.hc_Hall (fun _ _ => rfl) callH0_len da_nil)) (do_e de_int))) (ds_ret de_bl) ds_next) (ds_seq (ds_popR T.hc_Hall) (ds_ret de_bl))) h⟩
theorem ok_joined_text (T : Tx K mg w) : FnOk P w K mg base CX0 1 T.a_joined_text T.d_joined_text ["words"] (spP K 1 F_joined_text) := by
    refine T.F_joined_text.ok sc_joined_text (fun vs H Q E h => h.1) (fun cdv A outer s H vs Q E hr h => ?_)
    have nd := sc_joined_text.nd
    exact ⟨_, (pss_one (ps_ret (pe_ifExp (pt_cmpR op_gt (pe_callB call_lenU (by rfl) T.n_len (by decide +kernel) (pa_cons (pv 0) pa_nil)) pe_int (nomark _)) (pe_join (pe_glob (v := .str " ") (by rfl) T.c_BLANK ⟨_, rfl⟩) (pv 0)) (pe_glob (v := .str "-") (by rfl) T.c_EMPTY ⟨_, rfl⟩)))),
      run_P (N := N_joined_text) (ds_ret (de_if (dt_test (de_op sn_gt (do_e (de_cb sn_len (da_cons (do_e de_v) da_nil))) (do_e de_int))) (de_join de_str de_v) de_str)) (by decide) h⟩
theorem ok_numbers_text (T : Tx K mg w) : FnOk P w K mg base CX0 2 T.a_numbers_text T.d_numbers_text ["numbers"] (spP K 1 F_numbers_text) := by
    refine T.F_numbers_text.ok sc_numbers_text (fun vs H Q E h => h.1) (fun cdv A outer s H vs Q E hr h => ?_)
    have nd := sc_numbers_text.nd
    exact ⟨_, (pss_one (ps_ret (pe_call (ok_joined_text T) (hr.mono (by decide)) (by rfl) T.m_joined_text T.F_joined_text.kp T.b_joined_text .nil pass0 (pa_cons (pe_lc (own := [("number", 1)]) (by rfl) nd (pi_seqU (pv 0)) (blkOk_by (own := [("number", 1)]) (N := N_numbers_text) (sc := defScope s_numbers_text) (by decide +kernel)) (fun _ _ _ _ _ => (pg_name (i := 1) nd rfl (Or.inl rfl))) (fun _ _ _ _ _ => pts_nil) (fun _ _ _ _ _ => (pe_callTy call_strU (by rfl) T.n_str (by decide +kernel) (pa_cons (pv 1) pa_nil)))) pa_nil)))),
      run_P (N := N_numbers_text) (ds_ret (de_call callP_len (da_cons (do_e (de_l (df_lc (di_seq de_v) (dg_name (by decide)) dt_yes (de_cb sn_str (da_cons (do_e de_v) da_nil))))) da_nil))) (by decide) h⟩
theorem ok_rests_many (T : Tx K mg w) : FnOk P w K mg base CX0 6 T.a_rests_many T.d_rests_many ["row"] (spP K 1 F_rests_many) := by
    refine T.F_rests_many.ok sc_rests_many (fun vs H Q E h => h.1) (fun cdv A outer s H vs Q E hr h => ?_)
    have nd := sc_rests_many.nd
    exact ⟨_, (pss_one (ps_ret (pe_call (ok_rows_many T) (hr.mono (by decide)) (by rfl) T.m_rows_many T.F_rows_many.kp T.b_rows_many .nil pass0 (pa_cons (pv 0) (pa_cons (pe_call (ok_free_wish T) (hr.mono (by decide)) (by rfl) T.m_free_wish T.F_free_wish.kp T.b_free_wish .nil pass0 (pa_cons (pv 0) pa_nil)) (pa_cons pe_bl pa_nil)))))),
      run_P (N := N_rests_many) (ds_ret (de_call callP_len (da_cons (do_e de_v) (da_cons (do_e (de_l (df_call callF_len (da_cons (do_e de_v) da_nil)))) (da_cons (do_e de_bl) da_nil))))) (by decide) h⟩
theorem ok_row_text (T : Tx K mg w) : FnOk P w K mg base CX0 3 T.a_row_text T.d_row_text ["row"] (spP K 1 F_row_text) := by
    refine T.F_row_text.ok sc_row_text (fun vs H Q E h => h.1) (fun cdv A outer s H vs Q E hr h => ?_)
    have nd := sc_row_text.nd
    exact ⟨_, (pss_one (ps_ret (pe_call (ok_numbers_text T) (hr.mono (by decide)) (by rfl) T.m_numbers_text T.F_numbers_text.kp T.b_numbers_text .nil pass0 (pa_cons (pv 0) pa_nil)))),
      run_P (N := N_row_text) (ds_ret (de_call callP_len (da_cons (do_e de_v) da_nil))) (by decide) h⟩
theorem ok_bare_answer (T : Tx K mg w) : FnOk P w K mg base CX0 8 T.a_bare_answer T.d_bare_answer ["hall", "name"] (spH K 2 F_bare_answer) := by
    refine T.F_bare_answer.ok sc_bare_answer (fun vs H Q E h => h.1) (fun cdv A outer s H vs Q E hr h => ?_)
    have nd := sc_bare_answer.nd
    exact ⟨_, pss_gh (i := 2) (j := 3) ⟨_, rfl, rfl⟩ ⟨_, rfl, rfl⟩ (pss_cons (ps_if (pt_cmpR (op_eqU hr) (pv 1) pe_str (nomark _)) (pss_one (ps_ret (pe_ifExp (pt_val (pe_meth0 (pv 0) T.hc_Hall.k T.mt_Hall_undo (ok_Hall_undo T) (hr.mono (by decide)) T.b_Hall_undo .nil pass0)) pe_str pe_str))) pss_nil) (pss_cons (ps_if (pt_cmpR (op_eqU hr) (pv 1) pe_str (nomark _)) (pss_one (ps_ret (pe_call (ok_row_text T) (hr.mono (by decide)) (by rfl) T.m_row_text T.F_row_text.kp T.b_row_text .nil pass0 (pa_cons (pe_meth0 (pv 0) T.hc_Hall.k T.mt_Hall_row (ok_Hall_row T) (hr.mono (by decide)) T.b_Hall_row .nil pass0) pa_nil)))) pss_nil) (pss_cons (ps_if (pt_cmpR (op_eqU hr) (pv 1) pe_str (nomark _)) (pss_one (ps_ret (pe_call (ok_numbers_text T) (hr.mono (by decide)) (by rfl) T.m_numbers_text T.F_numbers_text.kp T.b_numbers_text .nil pass0 (pa_cons (pe_meth0 (pv 0) T.hc_Hall.k T.mt_Hall_tops (ok_Hall_tops T) (hr.mono (by decide)) T.b_Hall_tops .nil pass0) pa_nil)))) pss_nil) (pss_cons (ps_if (pt_cmpR (op_eqU hr) (pv 1) pe_str (nomark _)) (pss_one (ps_ret (pe_call (ok_numbers_text T) (hr.mono (by decide)) (by rfl) T.m_numbers_text T.F_numbers_text.kp T.b_numbers_text .nil pass0 (pa_cons (pe_meth0 (pv 0) T.hc_Hall.k T.mt_Hall_dips (ok_Hall_dips T) (hr.mono (by decide)) T.b_Hall_dips .nil pass0) pa_nil)))) pss_nil) (pss_one (ps_ret (pe_callTy call_strU (by rfl) T.n_str (by decide +kernel) (pa_cons (pe_ifExp (pt_cmpR (op_eqU hr) (pv 1) pe_str (nomark _)) (pe_meth0 (pv 0) T.hc_Hall.k T.mt_Hall_futures (ok_Hall_futures T) (hr.mono (by decide)) T.b_Hall_futures .nil pass0) (pe_call (ok_rests_many T) (hr.mono (by decide)) (by rfl) T.m_rests_many T.F_rests_many.kp T.b_rests_many .nil pass0 (pa_cons (pe_meth0 (pv 0) T.hc_Hall.k T.mt_Hall_row (ok_Hall_row T) (hr.mono (by decide)) T.b_Hall_row .nil pass0) pa_nil))) pa_nil)))))))),
      run_H0 (N := N_bare_answer) (ds_seq (ds_if (dt_test (de_op sn_eqW (do_e de_v) (do_e de_str))) (ds_ret (de_if (dt_B (de_methH T.hc_Hall (fun _ _ => rfl) callH0_len da_nil)) de_str de_str)) ds_next) (ds_seq (ds_if (dt_test (de_op sn_eqW (do_e de_v) (do_e de_str))) (ds_ret (de_call callP_len (da_cons (do_e (de_methH T.hc_Hall (fun _ _ => rfl) callH0_len da_nil)) da_nil))) ds_next) (ds_seq (ds_if (dt_test (de_op sn_eqW (do_e de_v) (do_e de_str))) (ds_ret (de_call callP_len (da_cons (do_e (de_methH T.hc_Hall (fun _ _ => rfl) callH0_len da_nil)) da_nil))) ds_next) (ds_seq (ds_if (dt_test (de_op sn_eqW (do_e de_v) (do_e de_str))) (ds_ret (de_call callP_len (da_cons (do_e (de_methH T.hc_Hall (fun _ _ => rfl) callH0_len da_nil)) da_nil))) ds_next) (ds_ret (de_cb sn_str (da_cons (do_e (de_if (dt_test (de_op sn_eqW (do_e de_v) (do_e de_str))) (de_methH T.hc_Hall (fun _ _ => rfl) callH0_len da_nil) (de_call callP_len (da_cons (do_e (de_methH T.hc_Hall (fun _ _ => rfl) callH0_len da_nil)) da_nil)))) da_nil))))))) h⟩
theorem ok_answered (T : Tx K mg w) : FnOk P w K mg base (L2.CX P w) 10 T.a_answered T.d_answered ["hall", "name", "things"] (spH K 3 F_answered) := by
    refine T.F_answered.okX sc_answered (fun vs H Q E h => h.1) (fun cdv A outer s H vs Q E hr h => ?_)
    have nd := sc_answered.nd
    exact ⟨_, pss_gh (i := 3) (j := 4) ⟨_, rfl, rfl⟩ ⟨_, rfl, rfl⟩ (pss_cons (ps_if (pt_cmpR (op_inKs T.q_SIZES) (pv 1) (pe_glob (v := .ref T.a_SIZES) (by rfl) T.c_SIZES rfl) (by rfl)) (pss_one (ps_ret (pe_callTy call_strU (by rfl) T.n_str (by decide +kernel) (pa_cons (pe_methS (pv 0) T.hc_Hall.k T.mt_Hall_done (ok_Hall_done T) (hr.mono (by decide)) T.b_Hall_done (fun σ => passAt (takes_of rfl rfl rfl rfl) σ) (pa_cons (pe_op op_addU (pe_tup (pa_cons (pv 1) pa_nil)) (pe_callTy call_tupleU (by rfl) T.n_tuple (by decide +kernel) (pa_cons (pv 2) pa_nil))) pa_nil)) pa_nil)))) pss_nil) (pss_one (ps_ret (pe_ifExp (pt_cmpR (op_eqU hr) (pe_callB call_lenU (by rfl) T.n_len (by decide +kernel) (pa_cons (pv 2) pa_nil)) pe_int (nomark _)) (pe_call (ok_bare_answer T) (hr.mono (by decide)) (by rfl) T.m_bare_answer T.F_bare_answer.kp T.b_bare_answer .nil pass0 (pa_cons (pv 0) (pa_cons (pv 1) pa_nil))) (pe_callS (ok_asked T) (hr.mono (by decide)) (by rfl) T.m_asked T.F_asked.kp T.b_asked (fun σ => passAt (takes_of rfl rfl rfl rfl) σ) (pa_cons (pv 0) (pa_cons (pv 1) (pa_cons (pe_ix ix_seq (pv 2) pe_int (fun _ _ => rfl)) pa_nil)))))))),
      run_H (N := N_answered) (ds_seq (ds_if (dt_test (de_inK de_v)) (ds_retX (xd_cb1 sn_str (xd_methH T.hc_Hall (fun _ _ => rfl) callH_len (da_cons (do_e (de_op sn_addU (do_e (de_tup (da_cons (do_e de_v) da_nil))) (do_e (de_cb sn_tuple (da_cons (do_e de_v) da_nil))))) da_nil)))) ds_next) (ds_retX (xd_if (dt_test (de_op sn_eqW (do_e (de_cb sn_len (da_cons (do_e de_v) da_nil))) (do_e de_int))) (xd_e (de_callH callH0_len (da_cons (do_e de_v) da_nil))) (xd_callH callH_len (da_cons (do_e de_v) (da_cons (do_e (de_op sn_ix (do_e de_v) (do_e de_int))) da_nil)))))) h⟩
theorem ok_answer (T : Tx K mg w) : FnOk P w K mg base CX0 11 T.a_answer T.d_answer ["hall", "name", "things"] (spH K 3 F_answer) := by
    refine T.F_answer.ok sc_answer (fun vs H Q E h => h.1) (fun cdv A outer s H vs Q E hr h => ?_)
    have nd := sc_answer.nd
    exact ⟨_, pss_gh (i := 3) (j := 4) ⟨_, rfl, rfl⟩ ⟨_, rfl, rfl⟩ (pss_one (ps_try_many rfl rfl takes0 (fun W pn xe tk po => (pss_one (ps_ret (pe_callS (ok_answered T) (hr.mono (by decide)) (by rfl) T.m_answered T.F_answered.kp T.b_answered (fun σ => passAt tk σ) (pa_cons (pv 0) (pa_cons (pv 1) (pa_cons (pv 2) pa_nil))))))) (HdsOk.cons ⟨rfl, by decide, Or.inl T.m_NoPerson⟩ (fun _ _ _ _ _ _ _ => pss_one (ps_ret pe_str)) (HdsOk.cons ⟨rfl, by decide, Or.inl T.m_NoPlace⟩ (fun _ _ _ _ _ _ _ => pss_one (ps_ret pe_str)) (HdsOk.cons ⟨rfl, by decide, Or.inl T.m_OtherPeople⟩ (fun _ _ _ _ _ _ _ => pss_one (ps_ret pe_str)) (HdsOk.cons ⟨rfl, by decide, Or.inl T.m_Barred⟩ (fun _ _ _ _ _ _ _ => pss_one (ps_ret pe_str)) (HdsOk.cons ⟨rfl, by decide, Or.inl T.m_Full⟩ (fun _ _ _ _ _ _ _ => pss_one (ps_ret pe_str)) HdsOk.nil))))))),
      run_H0 (N := N_answer) (ds_tryR T.et (hs_own T.cc_NoPerson (by decide +kernel) (hs_own T.cc_NoPlace (by decide +kernel) (hs_own T.cc_OtherPeople (by decide +kernel) (hs_own T.cc_Barred (by decide +kernel) (hs_own T.cc_Full (by decide +kernel) HsL.nil))))) (fun W => (ds_retX (xd_callH callH_len (da_cons (do_e de_v) (da_cons (do_e de_v) da_nil)))))) h⟩
theorem ok_count_in (T : Tx K mg w) : FnOk P w K mg base CX0 1 T.a_count_in T.d_count_in ["part"] (spP K 1 F_count_in) := by
    refine T.F_count_in.ok sc_count_in (fun vs H Q E h => h.1) (fun cdv A outer s H vs Q E hr h => ?_)
    have nd := sc_count_in.nd
    exact ⟨_, (pss_cons (ps_if (PW.pt (pw_or (pt_not (pt_chain op_le op_le pe_int (pe_callB call_lenU (by rfl) T.n_len (by decide +kernel) (pa_cons (pv 0) pa_nil)) (pe_glob (v := .int 50) (by rfl) T.c_MOST_DIGITS ⟨_, rfl⟩))) (pw_or1 (pt_not (pt_val (pe_callB (cr_all rfl) (by rfl) T.n_all (by decide +kernel) (pa_cons (pe_lc (own := [("digit", 1)]) (by rfl) nd (pi_str (pv 0)) (blkOk_by (own := [("digit", 1)]) (N := N_count_in) (sc := defScope s_count_in) (by decide +kernel)) (fun _ _ _ _ _ => (pg_name (i := 1) nd rfl (Or.inl rfl))) (fun _ _ _ _ _ => pts_nil) (fun _ _ _ _ _ => (pe_cmpR op_inS (pv 1) (pe_glob (v := .str "0123456789") (by rfl) T.c_DIGITS ⟨_, rfl⟩) (by rfl)))) pa_nil))))))) (pss_one (ps_ret pe_non)) pss_nil) (pss_one (ps_ret (pe_ifExp (PW.pt (pw_or (pt_cmpR (op_eqU hr) (pv 0) pe_str (nomark _)) (pw_or1 (pt_cmpR (op_neU hr) (pe_ix ix_seq (pv 0) pe_int (fun _ _ => rfl)) pe_str (nomark _))))) (pe_callTy call_intS (by rfl) T.n_int (by decide +kernel) (pa_cons (pv 0) pa_nil)) pe_non)))),
      run_P (N := N_count_in) (ds_seq (ds_if (dt_or (dt_not (dt_test (de_chain sn_le sn_le (do_e de_int) (do_e (de_cb sn_len (da_cons (do_e de_v) da_nil))) (do_e de_int)))) (dt_not (dt_B (de_cb sn_all (da_cons (do_e (de_l (df_lc (di_str de_v) (dg_name (by decide)) dt_yes (de_op sn_inS (do_e de_v) (do_e de_str))))) da_nil))))) (ds_ret de_non) ds_next) (ds_ret (de_if (dt_or (dt_test (de_op sn_eqW (do_e de_v) (do_e de_str))) (dt_test (de_op sn_neW (do_e (de_op sn_ix (do_e de_v) (do_e de_int))) (do_e de_str)))) (de_cb sn_intS (da_cons (do_e de_v) da_nil)) de_non))) (by decide) h⟩
theorem ok_integer_in (T : Tx K mg w) : FnOk P w K mg base CX0 2 T.a_integer_in T.d_integer_in ["part"] (spP K 1 F_integer_in) := by
    refine T.F_integer_in.ok sc_integer_in (fun vs H Q E h => h.1) (fun cdv A outer s H vs Q E hr h => ?_)
    have nd := sc_integer_in.nd
    exact ⟨_, (pss_cons (ps_if (pt_cmpR (op_neU hr) (pe_slice sl_str (pv 0) po_none (po_some pe_int)) (pe_glob (v := .str "-") (by rfl) T.c_MINUS ⟨_, rfl⟩) (nomark _)) (pss_one (ps_ret (pe_call (ok_count_in T) (hr.mono (by decide)) (by rfl) T.m_count_in T.F_count_in.kp T.b_count_in .nil pass0 (pa_cons (pv 0) pa_nil)))) pss_nil) (pss_cons (ps_set (i := 1) nd rfl (Or.inl rfl) (pe_call (ok_count_in T) (hr.mono (by decide)) (by rfl) T.m_count_in T.F_count_in.kp T.b_count_in .nil pass0 (pa_cons (pe_slice sl_str (pv 0) (po_some pe_int) po_none) pa_nil))) (pss_one (ps_ret (pe_ifExp (PW.pt (pw_and (pt_cmpR op_isNotU (pv 1) pe_non (nomark _)) (pw_and1 (pt_cmpR op_gt (pv 1) pe_int (nomark _))))) (pe_un un_neg (pv 1)) pe_non))))),
      run_P (N := N_integer_in) (ds_seq (ds_if (dt_test (de_op sn_neW (do_e (de_sl sn_sliceS (do_e de_v) dp_no (dp_so de_int))) (do_e de_str))) (ds_ret (de_call callP_len (da_cons (do_e de_v) da_nil))) ds_next) (ds_seq (ds_set (i := 1) (de_call callP_len (da_cons (do_e (de_sl sn_sliceS (do_e de_v) (dp_so de_int) dp_no)) da_nil))) (ds_ret (de_if (dt_and (dt_test (de_op sn_isNot (do_e de_v) (do_e de_non))) (dt_test (de_op sn_gt (do_e de_v) (do_e de_int)))) (de_un sn_neg (do_e de_v)) de_non)))) (by decide) h⟩
theorem ok_both_in (T : Tx K mg w) : FnOk P w K mg base CX0 3 T.a_both_in T.d_both_in ["text"] (spP K 1 F_both_in) := by
    refine T.F_both_in.ok sc_both_in (fun vs H Q E h => h.1) (fun cdv A outer s H vs Q E hr h => ?_)
    have nd := sc_both_in.nd
    exact ⟨_, (pss_cons (ps_asg (pe_partition (pv 0) (pe_glob (v := .str " ") (by rfl) T.c_BLANK ⟨_, rfl⟩)) (pg_tup rfl (pgs_cons (pg_name (i := 1) nd rfl (Or.inl rfl)) (pgs_cons (pg_name (i := 2) nd rfl (Or.inl rfl)) (pgs_cons (pg_name (i := 3) nd rfl (Or.inl rfl)) pgs_nil))))) (pss_cons (ps_set (i := 4) nd rfl (Or.inl rfl) (pe_lst (pa_cons (pe_call (ok_count_in T) (hr.mono (by decide)) (by rfl) T.m_count_in T.F_count_in.kp T.b_count_in .nil pass0 (pa_cons (pv 1) pa_nil)) (pa_cons (pe_call (ok_integer_in T) (hr.mono (by decide)) (by rfl) T.m_integer_in T.F_integer_in.kp T.b_integer_in .nil pass0 (pa_cons (pv 3) pa_nil)) pa_nil)))) (pss_one (ps_ret (pe_ifExp (PW.pt (pw_or (pt_cmpR (op_eqU hr) (pv 2) pe_str (nomark _)) (pw_or1 (pt_cmpR (op_inX hr) pe_non (pv 4) (by rfl))))) pe_non (pv 4)))))),
      run_P (N := N_both_in) (ds_seq (ds_to (ws := [1, 2, 3]) (de_part de_v de_str) (dg_tup (dgs_cons (dg_name (by decide)) (dgs_cons (dg_name (by decide)) (dgs_cons (dg_name (by decide)) dgs_nil))))) (ds_seq (ds_set (i := 4) (de_l (df_lst (da_cons (do_e (de_call callP_len (da_cons (do_e de_v) da_nil))) (da_cons (do_e (de_call callP_len (da_cons (do_e de_v) da_nil))) da_nil))))) (ds_ret (de_if (dt_or (dt_test (de_op sn_eqW (do_e de_v) (do_e de_str))) (dt_test (de_op sn_inX (do_e de_non) (do_e de_v)))) de_non de_v)))) (by decide) h⟩
theorem ok_all_or_none (T : Tx K mg w) : FnOk P w K mg base CX0 1 T.a_all_or_none T.d_all_or_none ["found"] (spP K 1 F_all_or_none) := by
    refine T.F_all_or_none.ok sc_all_or_none (fun vs H Q E h => h.1) (fun cdv A outer s H vs Q E hr h => ?_)
    have nd := sc_all_or_none.nd
    exact ⟨_, (pss_one (ps_ret (pe_ifExp (pt_cmpR (op_inX hr) pe_non (pv 0) (by rfl)) pe_non (pv 0)))),
      run_P (N := N_all_or_none) (ds_ret (de_if (dt_test (de_op sn_inX (do_e de_non) (do_e de_v))) de_non de_v)) (by decide) h⟩
theorem ok_words_of (T : Tx K mg w) : FnOk P w K mg base CX0 1 T.a_words_of T.d_words_of ["text"] (spP K 1 F_words_of) := by
    refine T.F_words_of.ok sc_words_of (fun vs H Q E h => h.1) (fun cdv A outer s H vs Q E hr h => ?_)
    have nd := sc_words_of.nd
    exact ⟨_, (pss_one (ps_ret (pe_ifExp (pt_cmpR (op_eqU hr) (pv 0) (pe_glob (v := .str "-") (by rfl) T.c_EMPTY ⟨_, rfl⟩) (nomark _)) (pe_lst pa_nil) (pe_split (pv 0) (pe_glob (v := .str " ") (by rfl) T.c_BLANK ⟨_, rfl⟩))))),
      run_P (N := N_words_of) (ds_ret (de_if (dt_test (de_op sn_eqW (do_e de_v) (do_e de_str))) (de_l (df_lst da_nil)) (de_l (df_split de_v de_str)))) (by decide) h⟩
theorem ok_calls_or_none (T : Tx K mg w) : FnOk P w K mg base CX0 2 T.a_calls_or_none T.d_calls_or_none ["text"] (spP K 1 F_calls_or_none) := by
    refine T.F_calls_or_none.ok sc_calls_or_none (fun vs H Q E h => h.1) (fun cdv A outer s H vs Q E hr h => ?_)
    have nd := sc_calls_or_none.nd
    exact ⟨_, (pss_one (ps_ret (pe_call (ok_all_or_none T) (hr.mono (by decide)) (by rfl) T.m_all_or_none T.F_all_or_none.kp T.b_all_or_none .nil pass0 (pa_cons (pe_lc (own := [("word", 1)]) (by rfl) nd (pi_seqU (pe_call (ok_words_of T) (hr.mono (by decide)) (by rfl) T.m_words_of T.F_words_of.kp T.b_words_of .nil pass0 (pa_cons (pv 0) pa_nil))) (blkOk_by (own := [("word", 1)]) (N := N_calls_or_none) (sc := defScope s_calls_or_none) (by decide +kernel)) (fun _ _ _ _ _ => (pg_name (i := 1) nd rfl (Or.inl rfl))) (fun _ _ _ _ _ => pts_nil) (fun _ _ _ _ _ => (pe_call (ok_count_in T) (hr.mono (by decide)) (by rfl) T.m_count_in T.F_count_in.kp T.b_count_in .nil pass0 (pa_cons (pv 1) pa_nil)))) pa_nil)))),
      run_P (N := N_calls_or_none) (ds_ret (de_call callP_len (da_cons (do_e (de_l (df_lc (di_seq (de_call callP_len (da_cons (do_e de_v) da_nil))) (dg_name (by decide)) dt_yes (de_call callP_len (da_cons (do_e de_v) da_nil))))) da_nil))) (by decide) h⟩
theorem ok_one_in (T : Tx K mg w) : FnOk P w K mg base CX0 1 T.a_one_in T.d_one_in ["found"] (spP K 1 F_one_in) := by
    refine T.F_one_in.ok sc_one_in (fun vs H Q E h => h.1) (fun cdv A outer s H vs Q E hr h => ?_)
    have nd := sc_one_in.nd
    exact ⟨_, (pss_one (ps_ret (pe_ifExp (pt_cmpR op_isU (pv 0) pe_non (nomark _)) pe_non (pe_lst (pa_cons (pv 0) pa_nil))))),
      run_P (N := N_one_in) (ds_ret (de_if (dt_test (de_op sn_is (do_e de_v) (do_e de_non))) de_non (de_l (df_lst (da_cons (do_e de_v) da_nil))))) (by decide) h⟩
theorem ok_row_or_none (T : Tx K mg w) : FnOk P w K mg base CX0 3 T.a_row_or_none T.d_row_or_none ["text"] (spP K 1 F_row_or_none) := by
    refine T.F_row_or_none.ok sc_row_or_none (fun vs H Q E h => h.1) (fun cdv A outer s H vs Q E hr h => ?_)
    have nd := sc_row_or_none.nd
    exact ⟨_, (pss_cons (ps_set (i := 1) nd rfl (Or.inl rfl) (pe_call (ok_all_or_none T) (hr.mono (by decide)) (by rfl) T.m_all_or_none T.F_all_or_none.kp T.b_all_or_none .nil pass0 (pa_cons (pe_lc (own := [("word", 2)]) (by rfl) nd (pi_seqU (pe_call (ok_words_of T) (hr.mono (by decide)) (by rfl) T.m_words_of T.F_words_of.kp T.b_words_of .nil pass0 (pa_cons (pv 0) pa_nil))) (blkOk_by (own := [("word", 2)]) (N := N_row_or_none) (sc := defScope s_row_or_none) (by decide +kernel)) (fun _ _ _ _ _ => (pg_name (i := 2) nd rfl (Or.inl rfl))) (fun _ _ _ _ _ => pts_nil) (fun _ _ _ _ _ => (pe_call (ok_integer_in T) (hr.mono (by decide)) (by rfl) T.m_integer_in T.F_integer_in.kp T.b_integer_in .nil pass0 (pa_cons (pv 2) pa_nil)))) pa_nil))) (pss_one (ps_ret (pe_ifExp (pt_cmpR op_isU (pv 1) pe_non (nomark _)) pe_non (pe_callTy call_tupleU (by rfl) T.n_tuple (by decide +kernel) (pa_cons (pv 1) pa_nil)))))),
      run_P (N := N_row_or_none) (ds_seq (ds_set (i := 1) (de_call callP_len (da_cons (do_e (de_l (df_lc (di_seq (de_call callP_len (da_cons (do_e de_v) da_nil))) (dg_name (by decide)) dt_yes (de_call callP_len (da_cons (do_e de_v) da_nil))))) da_nil))) (ds_ret (de_if (dt_test (de_op sn_is (do_e de_v) (do_e de_non))) de_non (de_cb sn_tuple (da_cons (do_e de_v) da_nil))))) (by decide) h⟩
theorem ok_wish_or_none (T : Tx K mg w) : FnOk P w K mg base CX0 3 T.a_wish_or_none T.d_wish_or_none ["text"] (spP K 1 F_wish_or_none) := by
    refine T.F_wish_or_none.ok sc_wish_or_none (fun vs H Q E h => h.1) (fun cdv A outer s H vs Q E hr h => ?_)
    have nd := sc_wish_or_none.nd
    exact ⟨_, (pss_cons (ps_set (i := 1) nd rfl (Or.inl rfl) (pe_call (ok_words_of T) (hr.mono (by decide)) (by rfl) T.m_words_of T.F_words_of.kp T.b_words_of .nil pass0 (pa_cons (pv 0) pa_nil))) (pss_cons (ps_if (pt_not (pt_val (pe_callB (cr_all rfl) (by rfl) T.n_all (by decide +kernel) (pa_cons (pe_lc (own := [("word", 2)]) (by rfl) nd (pi_seqU (pv 1)) (blkOk_by (own := [("word", 2)]) (N := N_wish_or_none) (sc := defScope s_wish_or_none) (by decide +kernel)) (fun _ _ _ _ _ => (pg_name (i := 2) nd rfl (Or.inl rfl))) (fun _ _ _ _ _ => pts_nil) (fun _ _ _ _ _ => (pe_or (pe_cmpR (op_eqU hr) (pv 2) (pe_glob (v := .str "?") (by rfl) T.c_OPEN ⟨_, rfl⟩) (nomark _)) (pe_one (pe_cmpR op_isNotU (pe_call (ok_integer_in T) (hr.mono (by decide)) (by rfl) T.m_integer_in T.F_integer_in.kp T.b_integer_in .nil pass0 (pa_cons (pv 2) pa_nil)) pe_non (nomark _)))))) pa_nil)))) (pss_one (ps_ret pe_non)) pss_nil) (pss_one (ps_ret (pe_callTy call_tupleU (by rfl) T.n_tuple (by decide +kernel) (pa_cons (pe_lc (own := [("word", 2)]) (by rfl) nd (pi_seqU (pv 1)) (blkOk_by (own := [("word", 2)]) (N := N_wish_or_none) (sc := defScope s_wish_or_none) (by decide +kernel)) (fun _ _ _ _ _ => (pg_name (i := 2) nd rfl (Or.inl rfl))) (fun _ _ _ _ _ => pts_nil) (fun _ _ _ _ _ => (pe_call (ok_integer_in T) (hr.mono (by decide)) (by rfl) T.m_integer_in T.F_integer_in.kp T.b_integer_in .nil pass0 (pa_cons (pv 2) pa_nil)))) pa_nil)))))),
      run_P (N := N_wish_or_none) (ds_seq (ds_set (i := 1) (de_call callP_len (da_cons (do_e de_v) da_nil))) (ds_seq (ds_if (dt_not (dt_B (de_cb sn_all (da_cons (do_e (de_l (df_lc (di_seq de_v) (dg_name (by decide)) dt_yes (de_or (de_op sn_eqW (do_e de_v) (do_e de_str)) (de_op sn_isNot (do_e (de_call callP_len (da_cons (do_e de_v) da_nil))) (do_e de_non)))))) da_nil)))) (ds_ret de_non) ds_next) (ds_ret (de_cb sn_tuple (da_cons (do_e (de_l (df_lc (di_seq de_v) (dg_name (by decide)) dt_yes (de_call callP_len (da_cons (do_e de_v) da_nil))))) da_nil))))) (by decide) h⟩
theorem ok_arguments_in (T : Tx K mg w) : FnOk P w K mg base CX0 4 T.a_arguments_in T.d_arguments_in ["name", "text"] (spP K 2 F_arguments_in) := by
    refine T.F_arguments_in.ok sc_arguments_in (fun vs H Q E h => h.1) (fun cdv A outer s H vs Q E hr h => ?_)
    have nd := sc_arguments_in.nd
    exact ⟨_, (pss_cons (ps_if (pt_cmpR (op_inX hr) (pv 0) (pe_glob (v := .ref T.a_WITH_PERSON) (by rfl) T.c_WITH_PERSON rfl) (by rfl)) (pss_one (ps_ret (pe_call (ok_one_in T) (hr.mono (by decide)) (by rfl) T.m_one_in T.F_one_in.kp T.b_one_in .nil pass0 (pa_cons (pe_call (ok_count_in T) (hr.mono (by decide)) (by rfl) T.m_count_in T.F_count_in.kp T.b_count_in .nil pass0 (pa_cons (pv 1) pa_nil)) pa_nil)))) pss_nil) (pss_cons (ps_if (pt_cmpR (op_inX hr) (pv 0) (pe_glob (v := .ref T.a_WITH_BOTH) (by rfl) T.c_WITH_BOTH rfl) (by rfl)) (pss_one (ps_ret (pe_call (ok_both_in T) (hr.mono (by decide)) (by rfl) T.m_both_in T.F_both_in.kp T.b_both_in .nil pass0 (pa_cons (pv 1) pa_nil)))) pss_nil) (pss_cons (ps_if (pt_cmpR (op_inX hr) (pv 0) (pe_glob (v := .ref T.a_WITH_ROW) (by rfl) T.c_WITH_ROW rfl) (by rfl)) (pss_one (ps_ret (pe_call (ok_one_in T) (hr.mono (by decide)) (by rfl) T.m_one_in T.F_one_in.kp T.b_one_in .nil pass0 (pa_cons (pe_call (ok_row_or_none T) (hr.mono (by decide)) (by rfl) T.m_row_or_none T.F_row_or_none.kp T.b_row_or_none .nil pass0 (pa_cons (pv 1) pa_nil)) pa_nil)))) pss_nil) (pss_cons (ps_if (pt_cmpR (op_eqU hr) (pv 0) (pe_glob (v := .str "run") (by rfl) T.c_RUN_desklines ⟨_, rfl⟩) (nomark _)) (pss_one (ps_ret (pe_call (ok_one_in T) (hr.mono (by decide)) (by rfl) T.m_one_in T.F_one_in.kp T.b_one_in .nil pass0 (pa_cons (pe_call (ok_calls_or_none T) (hr.mono (by decide)) (by rfl) T.m_calls_or_none T.F_calls_or_none.kp T.b_calls_or_none .nil pass0 (pa_cons (pv 1) pa_nil)) pa_nil)))) pss_nil) (pss_one (ps_ret (pe_ifExp (pt_cmpR (op_eqU hr) (pv 0) (pe_glob (v := .str "wish") (by rfl) T.c_WISH ⟨_, rfl⟩) (nomark _)) (pe_call (ok_one_in T) (hr.mono (by decide)) (by rfl) T.m_one_in T.F_one_in.kp T.b_one_in .nil pass0 (pa_cons (pe_call (ok_wish_or_none T) (hr.mono (by decide)) (by rfl) T.m_wish_or_none T.F_wish_or_none.kp T.b_wish_or_none .nil pass0 (pa_cons (pv 1) pa_nil)) pa_nil)) pe_non))))))),
      run_P (N := N_arguments_in) (ds_seq (ds_if (dt_test (de_op sn_inX (do_e de_v) (do_e (de_c T.q_WITH_PERSON.rp)))) (ds_ret (de_call callP_len (da_cons (do_e (de_call callP_len (da_cons (do_e de_v) da_nil))) da_nil))) ds_next) (ds_seq (ds_if (dt_test (de_op sn_inX (do_e de_v) (do_e (de_c T.q_WITH_BOTH.rp)))) (ds_ret (de_call callP_len (da_cons (do_e de_v) da_nil))) ds_next) (ds_seq (ds_if (dt_test (de_op sn_inX (do_e de_v) (do_e (de_c T.q_WITH_ROW.rp)))) (ds_ret (de_call callP_len (da_cons (do_e (de_call callP_len (da_cons (do_e de_v) da_nil))) da_nil))) ds_next) (ds_seq (ds_if (dt_test (de_op sn_eqW (do_e de_v) (do_e de_str))) (ds_ret (de_call callP_len (da_cons (do_e (de_call callP_len (da_cons (do_e de_v) da_nil))) da_nil))) ds_next) (ds_ret (de_if (dt_test (de_op sn_eqW (do_e de_v) (do_e de_str))) (de_call callP_len (da_cons (do_e (de_call callP_len (da_cons (do_e de_v) da_nil))) da_nil)) de_non)))))) (by decide) h⟩
theorem ok_request_in (T : Tx K mg w) : FnOk P w K mg base CX0 5 T.a_request_in T.d_request_in ["line"] (spP K 1 F_request_in) := by
    refine T.F_request_in.ok sc_request_in (fun vs H Q E h => h.1) (fun cdv A outer s H vs Q E hr h => ?_)
    have nd := sc_request_in.nd
    exact ⟨_, (pss_cons (ps_asg (pe_partition (pv 0) (pe_glob (v := .str " ") (by rfl) T.c_BLANK ⟨_, rfl⟩)) (pg_tup rfl (pgs_cons (pg_name (i := 1) nd rfl (Or.inl rfl)) (pgs_cons (pg_name (i := 2) nd rfl (Or.inl rfl)) (pgs_cons (pg_name (i := 3) nd rfl (Or.inl rfl)) pgs_nil))))) (pss_cons (ps_if (pt_cmpR (op_eqU hr) (pv 2) pe_str (nomark _)) (pss_one (ps_ret (pe_ifExp (pt_cmpR (op_inX hr) (pv 1) (pe_glob (v := .ref T.a_ALONE) (by rfl) T.c_ALONE rfl) (by rfl)) (pe_tup (pa_cons (pv 1) (pa_cons (pe_lst pa_nil) pa_nil))) pe_non))) pss_nil) (pss_cons (ps_set (i := 4) nd rfl (Or.inl rfl) (pe_call (ok_arguments_in T) (hr.mono (by decide)) (by rfl) T.m_arguments_in T.F_arguments_in.kp T.b_arguments_in .nil pass0 (pa_cons (pv 1) (pa_cons (pv 3) pa_nil)))) (pss_one (ps_ret (pe_ifExp (pt_cmpR op_isU (pv 4) pe_non (nomark _)) pe_non (pe_tup (pa_cons (pv 1) (pa_cons (pv 4) pa_nil))))))))),
      run_P (N := N_request_in) (ds_seq (ds_to (ws := [1, 2, 3]) (de_part de_v de_str) (dg_tup (dgs_cons (dg_name (by decide)) (dgs_cons (dg_name (by decide)) (dgs_cons (dg_name (by decide)) dgs_nil))))) (ds_seq (ds_if (dt_test (de_op sn_eqW (do_e de_v) (do_e de_str))) (ds_ret (de_if (dt_test (de_op sn_inX (do_e de_v) (do_e (de_c T.q_ALONE.rp)))) (de_tup (da_cons (do_e de_v) (da_cons (do_e (de_l (df_lst da_nil))) da_nil))) de_non)) ds_next) (ds_seq (ds_set (i := 4) (de_call callP_len (da_cons (do_e de_v) (da_cons (do_e de_v) da_nil)))) (ds_ret (de_if (dt_test (de_op sn_is (do_e de_v) (do_e de_non))) de_non (de_tup (da_cons (do_e de_v) (da_cons (do_e de_v) da_nil)))))))) (by decide) h⟩
theorem ok_requests_in (T : Tx K mg w) : FnOk P w K mg base (L2.CX P w) 6 T.a_requests_in T.d_requests_in ["text"] (spX K 1 F_requests_in) := by
    refine T.F_requests_in.okX sc_requests_in (fun vs H Q E h => h.1) (fun cdv A outer s H vs Q E hr h => ?_)
    have nd := sc_requests_in.nd
    exact ⟨_, (pss_cons (ps_par (i := 1) (j := 2) (by rfl) nd rfl rfl (by decide) rfl rfl (pa_cons (pe_split (pv 0) pe_str) (pa_cons (pe_lst pa_nil) pa_nil)) (by rfl)) (pss_cons (ps_set (i := 3) nd rfl (Or.inl rfl) (pe_call (ok_row_or_none T) (hr.mono (by decide)) (by rfl) T.m_row_or_none T.F_row_or_none.kp T.b_row_or_none .nil pass0 (pa_cons (pe_ix ix_seq (pv 1) pe_int (fun _ _ => rfl)) pa_nil))) (pss_cons (ps_if (PW.pt (pw_or (pt_cmpR op_isU (pv 3) pe_non (nomark _)) (pw_or1 (pt_cmpR op_gt (pe_callB call_lenU (by rfl) T.n_len (by decide +kernel) (pa_cons (pv 3) pa_nil)) (pe_glob (v := .int 16) (by rfl) T.c_MOST_PEOPLE ⟨_, rfl⟩) (nomark _))))) (pss_one (ps_raise rfl (takes_of rfl rfl rfl rfl) (pmk_ox DLX.bs_V (ox_BadLine T) (hr.mono (by decide)) (by rfl) T.m_BadLine (pa_cons pe_int pa_nil)))) pss_nil) (pss_cons (ps_for (passes_of rfl) rfl (pi_enumU (by rfl) T.n_enumerate (pa_cons (pe_slice sl_U (pv 1) (po_some pe_int) po_none) pa_nil)) (pg_tup rfl (pgs_cons (pg_name (i := 4) nd rfl (Or.inl rfl)) (pgs_cons (pg_name (i := 5) nd rfl (Or.inl rfl)) pgs_nil))) (pss_cons (ps_set (i := 6) nd rfl (Or.inl rfl) (pe_call (ok_request_in T) (hr.mono (by decide)) (by rfl) T.m_request_in T.F_request_in.kp T.b_request_in .nil pass0 (pa_cons (pv 5) pa_nil))) (pss_cons (ps_if (pt_cmpR op_isU (pv 6) pe_non (nomark _)) (pss_one (ps_raise rfl (takes_of rfl rfl rfl rfl) (pmk_ox DLX.bs_V (ox_BadLine T) (hr.mono (by decide)) (by rfl) T.m_BadLine (pa_cons (pe_op op_addU (pv 4) pe_int) pa_nil)))) pss_nil) (pss_one (ps_expr (pe_bm PySem.F.plainAttrs_list PySem.F.slot_list_append PySem.F.type_list_append mt_append (pv 2) (pa_cons (pv 6) pa_nil))))))) (pss_one (ps_ret (pe_tup (pa_cons (pv 3) (pa_cons (pv 2) pa_nil))))))))),
      run_X (N := N_requests_in) (ds_seq (ds_par (dn_s (de_l (df_split de_v de_str))) (dn_f (df_lst da_nil))) (ds_seq (ds_set (i := 3) (de_call callP_len (da_cons (do_e (de_op sn_ix (do_e de_v) (do_e de_int))) da_nil))) (ds_seq (ds_if (dt_or (dt_test (de_op sn_is (do_e de_v) (do_e de_non))) (dt_test (de_op sn_gt (do_e (de_cb sn_len (da_cons (do_e de_v) da_nil))) (do_e de_int)))) (ds_raise T.cc_BadLine rfl de_int) ds_next) (ds_seq (ds_for (ws := [4, 5]) (di_enum (da_cons (do_e (de_sl sn_sliceU (do_e de_v) (dp_so de_int) dp_no)) da_nil)) (dg_tup (dgs_cons (dg_name (by decide)) (dgs_cons (dg_name (by decide)) dgs_nil))) (ds_seq (ds_set (i := 6) (de_call callP_len (da_cons (do_e de_v) da_nil))) (ds_seq (ds_if (dt_test (de_op sn_is (do_e de_v) (do_e de_non))) (ds_raise T.cc_BadLine rfl (de_op sn_addU (do_e de_v) (do_e de_int))) ds_next) (ds_app de_v)))) (ds_fz (i := 2) (ds_ret (de_tup (da_cons (do_e de_v) (da_cons (do_e de_v) da_nil))))))))) (by decide) h⟩
theorem ok_answers (T : Tx K mg w) : FnOk P w K mg base (L2.CX P w) 12 T.a_answers T.d_answers ["text"] (spXF K 1 F_answers) := by
    refine T.F_answers.okX sc_answers (fun vs H Q E h => h.1) (fun cdv A outer s H vs Q E hr h => ?_)
    have nd := sc_answers.nd
    exact ⟨_, (pss_cons (ps_asg (pe_callS (ok_requests_in T) (hr.mono (by decide)) (by rfl) T.m_requests_in T.F_requests_in.kp T.b_requests_in (fun σ => passAt (takes_of rfl rfl rfl rfl) σ) (pa_cons (pv 0) pa_nil)) (pg_tup rfl (pgs_cons (pg_name (i := 1) nd rfl (Or.inl rfl)) (pgs_cons (pg_name (i := 2) nd rfl (Or.inl rfl)) pgs_nil)))) (pss_cons (ps_ghA (i := 6) (j := 7) ⟨_, rfl, rfl⟩ ⟨_, rfl, rfl⟩ (ps_set (i := 3) nd rfl (Or.inr rfl) (pe_make T.mk_Hall (oki_Hall T) (hr.mono (by decide)) (by rfl) T.m_Hall T.bi_Hall .nil pass0 (pa_cons (pv 1) pa_nil)))) (pss_one (ps_ret (pe_lc (own := [("name", 4), ("things", 5)]) (by rfl) nd (pi_seqU (pv 2)) (blkOk_by (own := [("name", 4), ("things", 5)]) (N := N_answers) (sc := defScope s_answers) (by decide +kernel)) (fun _ _ _ _ _ => (pg_tup rfl (pgs_cons (pg_name (i := 4) nd rfl (Or.inl rfl)) (pgs_cons (pg_name (i := 5) nd rfl (Or.inl rfl)) pgs_nil)))) (fun _ _ _ _ _ => pts_nil) (fun _ _ _ _ _ => (pe_call (ok_answer T) (hr.mono (by decide)) (by rfl) T.m_answer T.F_answer.kp T.b_answer .nil pass0 (pa_cons (pv 3) (pa_cons (pv 4) (pa_cons (pv 5) pa_nil)))))))))),
      run_XF (N := N_answers) (ds_seq (ds_toX (ws := [1, 2]) (xd_callX callX_len (da_cons (do_e de_v) da_nil)) (dg_tup (dgs_cons (dg_name (by decide)) (dgs_cons (dg_name (by decide)) dgs_nil)))) (ds_seq (ds_hall (i := 3) (j := 6) T.hc_Hall de_v) (ds_retF (df_lc (di_seq de_v) (dg_tup (dgs_cons (dg_name (by decide)) (dgs_cons (dg_name (by decide)) dgs_nil))) dt_yes (de_callH callH0_len (da_cons (do_e de_v) (da_cons (do_e de_v) da_nil))))))) (by decide) h⟩
theorem ok__law_first_right (T : Tx K mg w) : FnOk P w K mg base CX0 13 T.a__law_first_right T.d__law_first_right ["_law_more"] (spP K 1 F__law_first_right) := by
    refine T.F__law_first_right.ok sc__law_first_right (fun vs H Q E h => h.1) (fun cdv A outer s H vs Q E hr h => ?_)
    have nd := sc__law_first_right.nd
    exact ⟨_, (pss_cons (ps_set (i := 1) nd rfl (Or.inl rfl) (pe_lst (pa_cons pe_str (pa_cons pe_str (pa_cons pe_str (pa_cons pe_str (pa_cons pe_str (pa_cons pe_str (pa_cons pe_str (pa_cons pe_str pa_nil)))))))))) (pss_cons (ps_set (i := 1) nd rfl (Or.inl rfl) (pe_op op_addU (pv 1) (pe_lst (pa_cons pe_str (pa_cons pe_str (pa_cons pe_str pa_nil)))))) (pss_cons (ps_set (i := 1) nd rfl (Or.inl rfl) (pe_op op_addU (pv 1) (pe_lst (pa_cons pe_str (pa_cons pe_str (pa_cons pe_str pa_nil)))))) (pss_cons (ps_set (i := 1) nd rfl (Or.inl rfl) (pe_op op_addU (pv 1) (pe_lst (pa_cons pe_str (pa_cons pe_str (pa_cons pe_str (pa_cons pe_str pa_nil))))))) (pss_cons (ps_set (i := 1) nd rfl (Or.inl rfl) (pe_op op_addU (pv 1) (pe_lst (pa_cons pe_str (pa_cons pe_str (pa_cons pe_str (pa_cons pe_str pa_nil))))))) (pss_cons (ps_set (i := 1) nd rfl (Or.inl rfl) (pe_op op_addU (pv 1) (pe_lst (pa_cons pe_str (pa_cons pe_str (pa_cons pe_str (pa_cons pe_str pa_nil))))))) (pss_cons (ps_set (i := 2) nd rfl (Or.inl rfl) (pe_lst (pa_cons pe_str (pa_cons pe_str (pa_cons pe_str (pa_cons pe_str (pa_cons pe_str (pa_cons pe_str pa_nil)))))))) (pss_cons (ps_set (i := 2) nd rfl (Or.inl rfl) (pe_op op_addU (pv 2) (pe_lst (pa_cons pe_str (pa_cons pe_str (pa_cons pe_str (pa_cons pe_str (pa_cons pe_str (pa_cons pe_str pa_nil))))))))) (pss_cons (ps_set (i := 2) nd rfl (Or.inl rfl) (pe_op op_addU (pv 2) (pe_lst (pa_cons pe_str (pa_cons pe_str (pa_cons pe_str pa_nil)))))) (pss_cons (ps_set (i := 2) nd rfl (Or.inl rfl) (pe_op op_addU (pv 2) (pe_lst (pa_cons pe_str (pa_cons pe_str (pa_cons pe_str pa_nil)))))) (pss_cons (ps_set (i := 2) nd rfl (Or.inl rfl) (pe_op op_addU (pv 2) (pe_lst (pa_cons pe_str (pa_cons pe_str (pa_cons pe_str (pa_cons pe_str (pa_cons pe_str (pa_cons pe_str (pa_cons pe_str pa_nil)))))))))) (pss_one (ps_ret (pe_call (ok__law_same T 6) (hr.mono (by decide)) (by rfl) T.m__law_same T.F__law_same.kp T.b__law_same .nil pass0 (pa_cons (pe_call (ok_answers T) (hr.mono (by decide)) (by rfl) T.m_answers T.F_answers.kp T.b_answers .nil passL (pa_cons (pe_join pe_str (pe_op op_addU (pv 1) (pe_op op_mulT (pe_lst (pa_cons pe_str pa_nil)) (pv 0)))) pa_nil)) (pa_cons (pe_op op_addU (pv 2) (pe_op op_mulT (pe_lst (pa_cons pe_str pa_nil)) (pv 0))) pa_nil)))))))))))))))),
      run_P (N := N__law_first_right) (ds_seq (ds_set (i := 1) (de_l (df_lst (da_cons (do_e de_str) (da_cons (do_e de_str) (da_cons (do_e de_str) (da_cons (do_e de_str) (da_cons (do_e de_str) (da_cons (do_e de_str) (da_cons (do_e de_str) (da_cons (do_e de_str) da_nil))))))))))) (ds_seq (ds_set (i := 1) (de_op sn_addU (do_e de_v) (do_e (de_l (df_lst (da_cons (do_e de_str) (da_cons (do_e de_str) (da_cons (do_e de_str) da_nil)))))))) (ds_seq (ds_set (i := 1) (de_op sn_addU (do_e de_v) (do_e (de_l (df_lst (da_cons (do_e de_str) (da_cons (do_e de_str) (da_cons (do_e de_str) da_nil)))))))) (ds_seq (ds_set (i := 1) (de_op sn_addU (do_e de_v) (do_e (de_l (df_lst (da_cons (do_e de_str) (da_cons (do_e de_str) (da_cons (do_e de_str) (da_cons (do_e de_str) da_nil))))))))) (ds_seq (ds_set (i := 1) (de_op sn_addU (do_e de_v) (do_e (de_l (df_lst (da_cons (do_e de_str) (da_cons (do_e de_str) (da_cons (do_e de_str) (da_cons (do_e de_str) da_nil))))))))) (ds_seq (ds_set (i := 1) (de_op sn_addU (do_e de_v) (do_e (de_l (df_lst (da_cons (do_e de_str) (da_cons (do_e de_str) (da_cons (do_e de_str) (da_cons (do_e de_str) da_nil))))))))) (ds_seq (ds_set (i := 2) (de_l (df_lst (da_cons (do_e de_str) (da_cons (do_e de_str) (da_cons (do_e de_str) (da_cons (do_e de_str) (da_cons (do_e de_str) (da_cons (do_e de_str) da_nil))))))))) (ds_seq (ds_set (i := 2) (de_op sn_addU (do_e de_v) (do_e (de_l (df_lst (da_cons (do_e de_str) (da_cons (do_e de_str) (da_cons (do_e de_str) (da_cons (do_e de_str) (da_cons (do_e de_str) (da_cons (do_e de_str) da_nil))))))))))) (ds_seq (ds_set (i := 2) (de_op sn_addU (do_e de_v) (do_e (de_l (df_lst (da_cons (do_e de_str) (da_cons (do_e de_str) (da_cons (do_e de_str) da_nil)))))))) (ds_seq (ds_set (i := 2) (de_op sn_addU (do_e de_v) (do_e (de_l (df_lst (da_cons (do_e de_str) (da_cons (do_e de_str) (da_cons (do_e de_str) da_nil)))))))) (ds_seq (ds_set (i := 2) (de_op sn_addU (do_e de_v) (do_e (de_l (df_lst (da_cons (do_e de_str) (da_cons (do_e de_str) (da_cons (do_e de_str) (da_cons (do_e de_str) (da_cons (do_e de_str) (da_cons (do_e de_str) (da_cons (do_e de_str) da_nil)))))))))))) (ds_ret (de_call (Fl__law_same _) (da_cons (do_e (de_l (df_callXF callXF_len (da_cons (do_e (de_join de_str (de_op sn_addU (do_e de_v) (do_e (de_op sn_mulV (do_e (de_l (df_lst (da_cons (do_e de_str) da_nil)))) (do_e de_v)))))) da_nil)))) (da_cons (do_e (de_op sn_addU (do_e de_v) (do_e (de_op sn_mulV (do_e (de_l (df_lst (da_cons (do_e de_str) da_nil)))) (do_e de_v))))) da_nil))))))))))))))) (by decide) h⟩
theorem ok__law_second_right (T : Tx K mg w) : FnOk P w K mg base CX0 13 T.a__law_second_right T.d__law_second_right ["_law_more"] (spP K 1 F__law_second_right) := by
    refine T.F__law_second_right.ok sc__law_second_right (fun vs H Q E h => h.1) (fun cdv A outer s H vs Q E hr h => ?_)
    have nd := sc__law_second_right.nd
    exact ⟨_, (pss_cons (ps_set (i := 1) nd rfl (Or.inl rfl) (pe_op op_addU pe_str (pe_op op_repS pe_str pe_int))) (pss_cons (ps_set (i := 2) nd rfl (Or.inl rfl) (pe_lst (pa_cons (pe_op op_addU (pe_op op_addU (pe_op op_addU pe_str (pv 1)) pe_str) (pv 1)) (pa_cons pe_str (pa_cons pe_str (pa_cons pe_str (pa_cons pe_str pa_nil))))))) (pss_cons (ps_set (i := 2) nd rfl (Or.inl rfl) (pe_op op_addU (pv 2) (pe_lst (pa_cons pe_str (pa_cons pe_str (pa_cons pe_str (pa_cons pe_str (pa_cons pe_str pa_nil)))))))) (pss_cons (ps_set (i := 2) nd rfl (Or.inl rfl) (pe_op op_addU (pv 2) (pe_lst (pa_cons pe_str (pa_cons pe_str (pa_cons pe_str (pa_cons pe_str pa_nil))))))) (pss_cons (ps_set (i := 2) nd rfl (Or.inl rfl) (pe_op op_addU (pv 2) (pe_lst (pa_cons pe_str (pa_cons pe_str (pa_cons pe_str (pa_cons pe_str pa_nil))))))) (pss_cons (ps_set (i := 2) nd rfl (Or.inl rfl) (pe_op op_addU (pv 2) (pe_lst (pa_cons pe_str pa_nil)))) (pss_cons (ps_set (i := 3) nd rfl (Or.inl rfl) (pe_lst (pa_cons pe_str (pa_cons (pe_op op_addU pe_str (pv 1)) (pa_cons pe_str (pa_cons pe_str (pa_cons pe_str (pa_cons (pe_op op_addU (pe_op op_addU pe_str (pv 1)) pe_str) pa_nil)))))))) (pss_cons (ps_set (i := 3) nd rfl (Or.inl rfl) (pe_op op_addU (pv 3) (pe_lst (pa_cons pe_str (pa_cons pe_str (pa_cons pe_str (pa_cons pe_str (pa_cons pe_str (pa_cons pe_str pa_nil))))))))) (pss_cons (ps_set (i := 3) nd rfl (Or.inl rfl) (pe_op op_addU (pv 3) (pe_lst (pa_cons pe_str (pa_cons pe_str (pa_cons pe_str (pa_cons pe_str (pa_cons pe_str (pa_cons (pv 1) pa_nil))))))))) (pss_one (ps_ret (pe_call (ok__law_same T 6) (hr.mono (by decide)) (by rfl) T.m__law_same T.F__law_same.kp T.b__law_same .nil pass0 (pa_cons (pe_call (ok_answers T) (hr.mono (by decide)) (by rfl) T.m_answers T.F_answers.kp T.b_answers .nil passL (pa_cons (pe_join pe_str (pe_op op_addU (pv 2) (pe_op op_mulT (pe_lst (pa_cons pe_str pa_nil)) (pv 0)))) pa_nil)) (pa_cons (pe_op op_addU (pv 3) (pe_op op_mulT (pe_lst (pa_cons pe_str pa_nil)) (pv 0))) pa_nil)))))))))))))),
      run_P (N := N__law_second_right) (ds_seq (ds_set (i := 1) (de_op sn_addU (do_e de_str) (do_e (de_op sn_repS (do_e de_str) (do_e de_int))))) (ds_seq (ds_set (i := 2) (de_l (df_lst (da_cons (do_e (de_op sn_addU (do_e (de_op sn_addU (do_e (de_op sn_addU (do_e de_str) (do_e de_v))) (do_e de_str))) (do_e de_v))) (da_cons (do_e de_str) (da_cons (do_e de_str) (da_cons (do_e de_str) (da_cons (do_e de_str) da_nil)))))))) (ds_seq (ds_set (i := 2) (de_op sn_addU (do_e de_v) (do_e (de_l (df_lst (da_cons (do_e de_str) (da_cons (do_e de_str) (da_cons (do_e de_str) (da_cons (do_e de_str) (da_cons (do_e de_str) da_nil)))))))))) (ds_seq (ds_set (i := 2) (de_op sn_addU (do_e de_v) (do_e (de_l (df_lst (da_cons (do_e de_str) (da_cons (do_e de_str) (da_cons (do_e de_str) (da_cons (do_e de_str) da_nil))))))))) (ds_seq (ds_set (i := 2) (de_op sn_addU (do_e de_v) (do_e (de_l (df_lst (da_cons (do_e de_str) (da_cons (do_e de_str) (da_cons (do_e de_str) (da_cons (do_e de_str) da_nil))))))))) (ds_seq (ds_set (i := 2) (de_op sn_addU (do_e de_v) (do_e (de_l (df_lst (da_cons (do_e de_str) da_nil)))))) (ds_seq (ds_set (i := 3) (de_l (df_lst (da_cons (do_e de_str) (da_cons (do_e (de_op sn_addU (do_e de_str) (do_e de_v))) (da_cons (do_e de_str) (da_cons (do_e de_str) (da_cons (do_e de_str) (da_cons (do_e (de_op sn_addU (do_e (de_op sn_addU (do_e de_str) (do_e de_v))) (do_e de_str))) da_nil))))))))) (ds_seq (ds_set (i := 3) (de_op sn_addU (do_e de_v) (do_e (de_l (df_lst (da_cons (do_e de_str) (da_cons (do_e de_str) (da_cons (do_e de_str) (da_cons (do_e de_str) (da_cons (do_e de_str) (da_cons (do_e de_str) da_nil))))))))))) (ds_seq (ds_set (i := 3) (de_op sn_addU (do_e de_v) (do_e (de_l (df_lst (da_cons (do_e de_str) (da_cons (do_e de_str) (da_cons (do_e de_str) (da_cons (do_e de_str) (da_cons (do_e de_str) (da_cons (do_e de_v) da_nil))))))))))) (ds_ret (de_call (Fl__law_same _) (da_cons (do_e (de_l (df_callXF callXF_len (da_cons (do_e (de_join de_str (de_op sn_addU (do_e de_v) (do_e (de_op sn_mulV (do_e (de_l (df_lst (da_cons (do_e de_str) da_nil)))) (do_e de_v)))))) da_nil)))) (da_cons (do_e (de_op sn_addU (do_e de_v) (do_e (de_op sn_mulV (do_e (de_l (df_lst (da_cons (do_e de_str) da_nil)))) (do_e de_v))))) da_nil))))))))))))) (by decide) h⟩
theorem ok__law_third_right (T : Tx K mg w) : FnOk P w K mg base CX0 13 T.a__law_third_right T.d__law_third_right ["_law_more"] (spP K 1 F__law_third_right) := by
    refine T.F__law_third_right.ok sc__law_third_right (fun vs H Q E h => h.1) (fun cdv A outer s H vs Q E hr h => ?_)
    have nd := sc__law_third_right.nd
    exact ⟨_, (pss_cons (ps_par3 (i := 1) (j := 2) (l := 3) (by rfl) nd rfl rfl rfl (by decide) (by decide) (by decide) rfl rfl rfl (pa_cons (pe_join pe_str (pe_op op_mulT (pe_lst (pa_cons pe_str (pa_cons pe_str pa_nil))) pe_int)) (pa_cons (pe_join pe_str (pe_op op_addU (pe_op op_mulT (pe_lst (pa_cons pe_str pa_nil)) pe_int) (pe_lst (pa_cons pe_str pa_nil)))) (pa_cons (pe_join pe_str (pe_op op_addU (pe_lst (pa_cons pe_str pa_nil)) (pe_op op_mulT (pe_lst (pa_cons pe_str pa_nil)) pe_int))) pa_nil))) (by rfl)) (pss_cons (ps_set (i := 4) nd rfl (Or.inl rfl) (pe_lst (pa_cons (pv 1) (pa_cons pe_str (pa_cons pe_str (pa_cons (pe_op op_addU pe_str (pv 2)) (pa_cons (pe_op op_addU pe_str (pv 2)) pa_nil))))))) (pss_cons (ps_set (i := 4) nd rfl (Or.inl rfl) (pe_op op_addU (pv 4) (pe_lst (pa_cons (pe_op op_addU pe_str (pv 3)) (pa_cons (pe_op op_addU pe_str (pv 2)) (pa_cons pe_str (pa_cons pe_str (pa_cons pe_str pa_nil)))))))) (pss_cons (ps_set (i := 4) nd rfl (Or.inl rfl) (pe_op op_addU (pv 4) (pe_lst (pa_cons pe_str (pa_cons pe_str (pa_cons pe_str (pa_cons (pe_op op_addU pe_str (pv 2)) (pa_cons pe_str (pa_cons pe_str pa_nil))))))))) (pss_cons (ps_set (i := 4) nd rfl (Or.inl rfl) (pe_op op_addU (pv 4) (pe_lst (pa_cons pe_str (pa_cons pe_str (pa_cons pe_str (pa_cons pe_str (pa_cons pe_str pa_nil)))))))) (pss_cons (ps_set (i := 5) nd rfl (Or.inl rfl) (pe_lst (pa_cons pe_str (pa_cons pe_str (pa_cons pe_str (pa_cons pe_str (pa_cons pe_str (pa_cons pe_str (pa_cons (pv 2) (pa_cons pe_str pa_nil)))))))))) (pss_cons (ps_set (i := 5) nd rfl (Or.inl rfl) (pe_op op_addU (pv 5) (pe_lst (pa_cons pe_str (pa_cons pe_str (pa_cons pe_str (pa_cons pe_str (pa_cons pe_str (pa_cons pe_str (pa_cons pe_str pa_nil)))))))))) (pss_cons (ps_set (i := 5) nd rfl (Or.inl rfl) (pe_op op_addU (pv 5) (pe_op op_mulT (pe_lst (pa_cons pe_str pa_nil)) pe_int))) (pss_one (ps_ret (pe_call (ok__law_same T 6) (hr.mono (by decide)) (by rfl) T.m__law_same T.F__law_same.kp T.b__law_same .nil pass0 (pa_cons (pe_call (ok_answers T) (hr.mono (by decide)) (by rfl) T.m_answers T.F_answers.kp T.b_answers .nil passL (pa_cons (pe_join pe_str (pe_op op_addU (pv 4) (pe_op op_mulT (pe_lst (pa_cons pe_str pa_nil)) (pv 0)))) pa_nil)) (pa_cons (pe_op op_addU (pv 5) (pe_op op_mulT (pe_lst (pa_cons pe_str pa_nil)) (pv 0))) pa_nil))))))))))))),
      run_P (N := N__law_third_right) (ds_seq (ds_par3s (de_join de_str (de_op sn_mulV (do_e (de_l (df_lst (da_cons (do_e de_str) (da_cons (do_e de_str) da_nil))))) (do_e de_int))) (de_join de_str (de_op sn_addU (do_e (de_op sn_mulV (do_e (de_l (df_lst (da_cons (do_e de_str) da_nil)))) (do_e de_int))) (do_e (de_l (df_lst (da_cons (do_e de_str) da_nil)))))) (de_join de_str (de_op sn_addU (do_e (de_l (df_lst (da_cons (do_e de_str) da_nil)))) (do_e (de_op sn_mulV (do_e (de_l (df_lst (da_cons (do_e de_str) da_nil)))) (do_e de_int)))))) (ds_seq (ds_set (i := 4) (de_l (df_lst (da_cons (do_e de_v) (da_cons (do_e de_str) (da_cons (do_e de_str) (da_cons (do_e (de_op sn_addU (do_e de_str) (do_e de_v))) (da_cons (do_e (de_op sn_addU (do_e de_str) (do_e de_v))) da_nil)))))))) (ds_seq (ds_set (i := 4) (de_op sn_addU (do_e de_v) (do_e (de_l (df_lst (da_cons (do_e (de_op sn_addU (do_e de_str) (do_e de_v))) (da_cons (do_e (de_op sn_addU (do_e de_str) (do_e de_v))) (da_cons (do_e de_str) (da_cons (do_e de_str) (da_cons (do_e de_str) da_nil)))))))))) (ds_seq (ds_set (i := 4) (de_op sn_addU (do_e de_v) (do_e (de_l (df_lst (da_cons (do_e de_str) (da_cons (do_e de_str) (da_cons (do_e de_str) (da_cons (do_e (de_op sn_addU (do_e de_str) (do_e de_v))) (da_cons (do_e de_str) (da_cons (do_e de_str) da_nil))))))))))) (ds_seq (ds_set (i := 4) (de_op sn_addU (do_e de_v) (do_e (de_l (df_lst (da_cons (do_e de_str) (da_cons (do_e de_str) (da_cons (do_e de_str) (da_cons (do_e de_str) (da_cons (do_e de_str) da_nil)))))))))) (ds_seq (ds_set (i := 5) (de_l (df_lst (da_cons (do_e de_str) (da_cons (do_e de_str) (da_cons (do_e de_str) (da_cons (do_e de_str) (da_cons (do_e de_str) (da_cons (do_e de_str) (da_cons (do_e de_v) (da_cons (do_e de_str) da_nil))))))))))) (ds_seq (ds_set (i := 5) (de_op sn_addU (do_e de_v) (do_e (de_l (df_lst (da_cons (do_e de_str) (da_cons (do_e de_str) (da_cons (do_e de_str) (da_cons (do_e de_str) (da_cons (do_e de_str) (da_cons (do_e de_str) (da_cons (do_e de_str) da_nil)))))))))))) (ds_seq (ds_set (i := 5) (de_op sn_addU (do_e de_v) (do_e (de_op sn_mulV (do_e (de_l (df_lst (da_cons (do_e de_str) da_nil)))) (do_e de_int))))) (ds_ret (de_call (Fl__law_same _) (da_cons (do_e (de_l (df_callXF callXF_len (da_cons (do_e (de_join de_str (de_op sn_addU (do_e de_v) (do_e (de_op sn_mulV (do_e (de_l (df_lst (da_cons (do_e de_str) da_nil)))) (do_e de_v)))))) da_nil)))) (da_cons (do_e (de_op sn_addU (do_e de_v) (do_e (de_op sn_mulV (do_e (de_l (df_lst (da_cons (do_e de_str) da_nil)))) (do_e de_v))))) da_nil)))))))))))) (by decide) h⟩
theorem ok__law_right (T : Tx K mg w) : FnOk P w K mg base CX0 14 T.a__law_right T.d__law_right ["_law_source"] (spB K 1 F__law_right) := by
    refine T.F__law_right.ok sc__law_right (fun vs H Q E h => h.1) (fun cdv A outer s H vs Q E hr h => ?_)
    have nd := sc__law_right.nd
    exact ⟨_, (pss_cons (ps_set (i := 1) nd rfl (Or.inl rfl) (pe_call (ok__law_draw T 8) (hr.mono (by decide)) (by rfl) T.m__law_draw T.F__law_draw.kp T.b__law_draw .nil pass0 (pa_cons (pv 0) (pa_cons pe_int pa_nil)))) (pss_one (ps_ret (pe_and (pe_call (ok__law_first_right T) (hr.mono (by decide)) (by rfl) T.m__law_first_right T.F__law_first_right.kp T.b__law_first_right .nil pass0 (pa_cons (pv 1) pa_nil)) (pe_and (pe_call (ok__law_second_right T) (hr.mono (by decide)) (by rfl) T.m__law_second_right T.F__law_second_right.kp T.b__law_second_right .nil pass0 (pa_cons (pv 1) pa_nil)) (pe_one (pe_call (ok__law_third_right T) (hr.mono (by decide)) (by rfl) T.m__law_third_right T.F__law_third_right.kp T.b__law_third_right .nil pass0 (pa_cons (pv 1) pa_nil)))))))),
      run_B (N := N__law_right) (ds_seq (ds_set (i := 1) (de_callB (Fl__law_draw _) (da_cons (do_e de_int) da_nil))) (ds_ret (de_and (de_call callP_len (da_cons (do_e de_v) da_nil)) (de_and (de_call callP_len (da_cons (do_e de_v) da_nil)) (de_call callP_len (da_cons (do_e de_v) da_nil)))))) (by decide) h⟩
theorem ok__law_stream (T : Tx K mg w) : FnOk P w K mg base CX0 1 T.a__law_stream T.d__law_stream ["_law_script", "_law_k"] (spF K 2 F__law_stream) := by
    refine T.F__law_stream.ok sc__law_stream (fun vs H Q E h => h.1) (fun cdv A outer s H vs Q E hr h => ?_)
    have nd := sc__law_stream.nd
    exact ⟨_, (pss_cons (ps_set (i := 2) nd rfl (Or.inl rfl) pe_int) (pss_cons (ps_if (pt_cmpR op_lt (pv 1) (pe_callB call_lenU (by rfl) T.n_len (by decide +kernel) (pa_cons (pv 0) pa_nil)) (nomark _)) (pss_one (ps_set (i := 2) nd rfl (Or.inl rfl) (pe_ix ix_seq (pv 0) (pv 1) (fun _ _ => rfl)))) pss_nil) (pss_one (ps_ret (pe_lst (pa_cons (pe_op op_mulT (pe_callB call_absU (by rfl) T.n_abs (by decide +kernel) (pa_cons (pv 2) pa_nil)) (pe_callTy call_intU (by rfl) T.n_int (by decide +kernel) (pa_cons (pe_cmpR op_ge (pe_callB call_absU (by rfl) T.n_abs (by decide +kernel) (pa_cons (pv 2) pa_nil)) (pe_op op_pow pe_int pe_int) (nomark _)) pa_nil))) (pa_cons (pe_op op_addU (pe_op op_addU (pe_op op_mod (pv 2) pe_int) (pe_op op_mulT pe_int (pv 1))) pe_int) (pa_cons pe_int pa_nil)))))))),
      run_F (N := N__law_stream) (ds_seq (ds_set (i := 2) de_int) (ds_seq (ds_if (dt_test (de_op sn_lt (do_e de_v) (do_e (de_cb sn_len (da_cons (do_e de_v) da_nil))))) (ds_set (i := 2) (de_op sn_ix (do_e de_v) (do_e de_v))) ds_next) (ds_retF (df_lst (da_cons (do_e (de_op sn_mulV (do_e (de_cb sn_abs (da_cons (do_e de_v) da_nil))) (do_e (de_cb sn_int (da_cons (do_e (de_op sn_ge (do_e (de_cb sn_abs (da_cons (do_e de_v) da_nil))) (do_e (de_op sn_pow (do_e de_int) (do_e de_int))))) da_nil))))) (da_cons (do_e (de_op sn_addU (do_e (de_op sn_addU (do_e (de_op sn_mod (do_e de_v) (do_e de_int))) (do_e (de_op sn_mulV (do_e de_int) (do_e de_v))))) (do_e de_int))) (da_cons (do_e de_int) da_nil))))))) (by decide) h⟩
theorem ok_law (T : Tx K mg w) : FnOk P w K mg base CX0 15 T.a_law T.d_law ["_law_script"] (spP K 1 F_law) := by
    refine T.F_law.ok sc_law (fun vs H Q E h => h.1) (fun cdv A outer s H vs Q E hr h => ?_)
    have nd := sc_law.nd
    exact ⟨_, (pss_cons (ps_set (i := 1) nd rfl (Or.inr rfl) (pe_call (ok__law_folded T) (hr.mono (by decide)) (by rfl) T.m__law_folded T.F__law_folded.kp T.b__law_folded .nil pass0 (pa_cons (pv 0) (pa_cons pe_int pa_nil)))) (pss_one (ps_ret (pe_callB (cr_all rfl) (by rfl) T.n_all (by decide +kernel) (pa_cons (pe_lc (own := [("_law_k", 2)]) (by rfl) nd (pi_range1 (by rfl) T.n_range (pa_cons (pe_callB call_lenU (by rfl) T.n_len (by decide +kernel) (pa_cons (pv 1) pa_nil)) pa_nil)) (blkOk_by (own := [("_law_k", 2)]) (N := N_law) (sc := defScope s_law) (by decide +kernel)) (fun _ _ _ _ _ => (pg_name (i := 2) nd rfl (Or.inl rfl))) (fun _ _ _ _ _ => pts_nil) (fun _ _ _ _ _ => (pe_call (ok__law_right T) (hr.mono (by decide)) (by rfl) T.m__law_right T.F__law_right.kp T.b__law_right .nil pass0 (pa_cons (pe_call (ok__law_stream T) (hr.mono (by decide)) (by rfl) T.m__law_stream T.F__law_stream.kp T.b__law_stream .nil pass0 (pa_cons (pv 1) (pa_cons (pv 2) pa_nil))) pa_nil)))) pa_nil))))),
      run_P (N := N_law) (ds_seq (ds_set (i := 1) (de_l (df_call callF_len (da_cons (do_e de_v) (da_cons (do_e de_int) da_nil))))) (ds_ret (de_cb sn_all (da_cons (do_e (de_l (df_lc (di_rng1 (da_cons (do_e (de_cb sn_len (da_cons (do_e de_v) da_nil))) da_nil)) (dg_name (by decide)) dt_yes (de_callBX callB_len (df_call callF_len (da_cons (do_e de_v) (da_cons (do_e de_v) da_nil))) da_nil)))) da_nil)))) (by decide) h⟩
end
end W
namespace W
open PySem L2 DL
local macro_rules | `(tactic| walk_at "ev") => `(tactic| simp only [eC, eV, oE, oV, eL, eT, aNil, aCons, eOp2, eOp1, eApp, tstE, eB, tNotG, tAndG, tOrG, eAndG, eOrG, eNotG, eIf, eSeq, eCall, eCallO, eCallB, eCallBF, eCallBX, sSeq, sNext, sRet, sRetF, sRetO, sRetN, sDrop, sIf, sSet, sSetO, sBreak, sCont, sBad, sPar, sPar3, fz, sFz, eCallW, idL, sApp, sPutIx, sAug, sFor, gN, gT, gsCons, gsNil, gYes, eLc, gSeq, nS, nF, Nw.sl, R.ok_bind, R.ok_map, R.lift_some, to_ok, toX_ok, toX_ex, bind_nx, bind_rt, bind_rf, bind_ex, bind_bk, bind_ct, at_ok, at_ex, res_val, map_ex, rbind_ex, Op.res, resA, valA, isOw, box0, Option.map_some, Option.bind_some, sHeardT, nlCons, nlNil, Nw.dat, mSet, eChain, eRg1, eRg2, eSl, pNo, pSo,
  List.getElem?_cons_zero, List.getElem?_cons_succ, List.set_cons_zero, List.set_cons_succ, List.length_cons, List.length_nil, if_true, if_false, Bool.false_eq_true, ite_true, ite_false, reduceIte,
  addU_int, subD_int, ltD_int, leD_int, gtD_int, geD_int, negD_int, absD_int, intD_bool, intD_int, lenD_list, lenD_tuple, lenD_scr, pow10_7, pow10_18, pow10_40, eqW_ints, neW_ints, eqW_strs, neW_strs, eqW_none, eqW_in, eqW_ni, ixD_list, ixD_tuple, ixD_scr, atI_3_0, atI_3_1, atI_3_2, ixN_3_0, ixN_3_1, ixN_3_2, wipeR, zip2D, skOf, isiD_n, isiD_b, isiD_i, isiD_s, isiD_l, isiD_t, isiTD_n, isiTD_b, isiTD_i, isiTD_s, isiTD_l, isiTD_t, isiAny, eCallX, eCallWX, xE, xIf, xL, xCb1, sSetX, sRetX, sDropX, sRaise, sTo, eMk, isX_n, sKeep, kt_ll, kt_lt, kt_ls, kt_li, kt_lb, kt_tl, kt_tt, kt_ts, kt_ti, kt_tb, kt_sl, kt_st, kt_ss, kt_si, kt_sb, kt_il, kt_it, kt_is, kt_ii, kt_ib, kt_bl, kt_bt, kt_bs, kt_bi, kt_bb, kt_nl, kt_nt, kt_ns, kt_ni, kt_nb, eqW_bools, neW_bools, isD_none, isNotD_none, isNoneD, isNone_e, List.map_cons, List.map_nil, List.replicate, List.append_nil, List.cons_append, List.nil_append, nc0, nc1, nc2, nc3, nc4, nc5, nc6, nc7, nc8, nc9, nc10, nc11, nc12, nc13, nc14, nc15, nc16, nc17, nc18, nc19, nc20, Nat.reduceAdd, Nat.reduceSub, ne_eq, decide_true, decide_false, not_true_eq_false, not_false_eq_true, reduceCtorEq, Bool.and_true, Bool.true_and, Bool.and_false, Bool.false_and, Bool.or_true, Bool.true_or, Bool.or_false, Bool.false_or, Bool.not_true, Bool.not_false])
local macro_rules | `(tactic| walk_at "evh") => `(tactic| simp only [eC, eV, oE, oV, eL, eT, aNil, aCons, eOp2, eOp1, eApp, tstE, eB, tNotG, tAndG, tOrG, eAndG, eOrG, eNotG, eIf, eSeq, eCall, eCallO, eCallB, eCallBF, eCallBX, sSeq, sNext, sRet, sRetF, sRetO, sRetN, sDrop, sIf, sSet, sSetO, sBreak, sCont, sBad, sPar, sPar3, fz, sFz, eCallW, idL, sApp, sPutIx, sAug, sFor, gN, gT, gsCons, gsNil, gYes, eLc, gSeq, nS, nF, Nw.sl, R.ok_bind, R.ok_map, R.lift_some, to_ok, toX_ok, toX_ex, bind_nx, bind_rt, bind_rf, bind_ex, bind_bk, bind_ct, at_ok, at_ex, res_val, map_ex, rbind_ex, Op.res, resA, valA, isOw, box0, Option.map_some, Option.bind_some, sHeardT, nlCons, nlNil, Nw.dat, mSet, eChain, eRg1, eRg2, eSl, pNo, pSo,
  List.getElem?_cons_zero, List.getElem?_cons_succ, List.set_cons_zero, List.set_cons_succ, List.length_cons, List.length_nil, if_true, if_false, Bool.false_eq_true, ite_true, ite_false, reduceIte,
  addU_int, subD_int, ltD_int, leD_int, gtD_int, geD_int, negD_int, absD_int, intD_bool, intD_int, lenD_list, lenD_tuple, lenD_scr, pow10_7, pow10_18, pow10_40, eqW_ints, neW_ints, eqW_strs, neW_strs, eqW_none, eqW_in, eqW_ni, ixD_list, ixD_tuple, ixD_scr, atI_3_0, atI_3_1, atI_3_2, ixN_3_0, ixN_3_1, ixN_3_2, wipeR, zip2D, skOf, isiD_n, isiD_b, isiD_i, isiD_s, isiD_l, isiD_t, isiTD_n, isiTD_b, isiTD_i, isiTD_s, isiTD_l, isiTD_t, isiAny, eCallX, eCallWX, xE, xIf, xL, xCb1, sSetX, sRetX, sDropX, sRaise, sTo, eMk, isX_n, sKeep, kt_ll, kt_lt, kt_ls, kt_li, kt_lb, kt_tl, kt_tt, kt_ts, kt_ti, kt_tb, kt_sl, kt_st, kt_ss, kt_si, kt_sb, kt_il, kt_it, kt_is, kt_ii, kt_ib, kt_bl, kt_bt, kt_bs, kt_bi, kt_bb, kt_nl, kt_nt, kt_ns, kt_ni, kt_nb, eqW_bools, neW_bools, isD_none, isNotD_none, isNoneD, isNone_e, List.map_cons, List.map_nil, List.replicate, List.append_nil, List.cons_append, List.nil_append, nc0, nc1, nc2, nc3, nc4, nc5, nc6, nc7, nc8, nc9, nc10, nc11, nc12, nc13, nc14, nc15, nc16, nc17, nc18, nc19, nc20, Nat.reduceAdd, Nat.reduceSub, ne_eq, decide_true, decide_false, not_true_eq_false, not_false_eq_true, reduceCtorEq, Bool.and_true, Bool.true_and, Bool.and_false, Bool.false_and, Bool.or_true, Bool.true_or, Bool.or_false, Bool.false_or, Bool.not_true, Bool.not_false, *])
theorem take1 {a b c span : Int} (Fr : List D → List D → Option (D × List D)) (ha : 0 < a) (hs : 0 < span) (hs2 : span < 2 ^ 300) : callB 2 5 (g__law_draw Fr) [.int a, .int b, .int c] [.int span] = some (.int (a % span), [.int (a / span), .int b, .int c]) := by
  have d1 : decide ((0:Int) < a) = true := decide_eq_true ha
  have e1 : modD (.int a) (.int span) = some (.int (a % span)) := modD_int hs
  have e2 : fdivD (.int a) (.int span) = some (.int (a / span)) := fdivD_int hs hs2
  unfold callB g__law_draw envB
  walk_at "evh"
theorem take2 {b c span : Int} (Fr : List D → List D → Option (D × List D)) (hb : 0 ≤ b ∧ b < 2 ^ 62) (hc : 0 ≤ c ∧ c < 2 ^ 40) (hs : 0 < span) (hs2 : span ≤ 10000000) : ∃ r, callB 2 5 (g__law_draw Fr) [.int 0, .int b, .int c] [.int span] = some (.int r, [.int 0, .int b, .int (c + 1)]) ∧ 0 ≤ r ∧ r < span := by
  have d2 : decide ((10000000:Int) < span) = false := decide_eq_false (by omega)
  have m1 : mulV (.int 48271) (.int (c + 1)) = some (.int (48271 * (c + 1))) := cmul_l (by omega)
  have m2 : mulV (.int (b + 48271 * (c + 1))) (.int (39373 + (c + 1))) = some (.int ((b + 48271 * (c + 1)) * (39373 + (c + 1)))) := cmul_r (by omega)
  generalize hx : (b + 48271 * (c + 1)) * (39373 + (c + 1)) = x at m2
  have m3 : modD (.int x) (.int 2147483647) = some (.int (x % 2147483647)) := modD_int (by omega)
  generalize hy : x % 2147483647 = y at m3
  have hy0 : 0 ≤ y ∧ y < 2147483647 := by omega
  have m4 : modD (.int y) (.int 40009) = some (.int (y % 40009)) := modD_int (by omega)
  have m4b : fdivD (.int b) (.int 1000003) = some (.int (b / 1000003)) := fdivD_int (by omega) (by omega)
  have m5 : mulV (.int (y + (c + 1) + b / 1000003)) (.int (y % 40009 + 7)) = some (.int ((y + (c + 1) + b / 1000003) * (y % 40009 + 7))) := cmul_r (by omega)
  generalize hz : (y + (c + 1) + b / 1000003) * (y % 40009 + 7) = z at m5
  have m6 : modD (.int z) (.int 2147483629) = some (.int (z % 2147483629)) := modD_int (by omega)
  generalize hv : z % 2147483629 = v at m6
  have m7 : mulV (.int v) (.int 48271) = some (.int (v * 48271)) := cmul_r (by omega)
  generalize hw : v * 48271 + y = w
  have m8 : modD (.int w) (.int 2147483587) = some (.int (w % 2147483587)) := modD_int (by omega)
  have m9 : fdivD (.int (w % 2147483587)) (.int 64) = some (.int (w % 2147483587 / 64)) := fdivD_int (by omega) (by omega)
  have m10 : modD (.int (w % 2147483587 / 64)) (.int span) = some (.int (w % 2147483587 / 64 % span)) := modD_int hs
  refine ⟨w % 2147483587 / 64 % span, ?_, Int.emod_nonneg _ (by omega), Int.emod_lt_of_pos _ hs⟩
  have d1 : decide ((0:Int) < 0) = false := rfl
  unfold callB g__law_draw envB
  clear hx hy hz hv
  walk_at "evh"
theorem take_small (k : Nat) {span n : Int} {box : List D} (hb : GoodBox n box) (hn : n < 2 ^ 40) (hs : 0 < span) (hs2 : span ≤ 10000000) : ∃ r box', F__law_draw (k + 1) box [.int span] = some (.int r, box') ∧ 0 ≤ r ∧ r < span ∧ GoodBox (n + 1) box' := by
  obtain ⟨a, b, c, rfl, h1, h2, h3, h4, h5⟩ := hb
  by_cases ha : 0 < a
  · refine ⟨_, _, take1 _ ha hs (by omega), Int.emod_nonneg _ (by omega), Int.emod_lt_of_pos _ hs, _, _, _, rfl, ?_, h2, h3, h4, by omega⟩
    exact Int.ediv_nonneg h1 (by omega)
  · have e : a = 0 := by omega
    subst e
    obtain ⟨r, e, r1, r2⟩ := take2 (F__law_draw k) ⟨h2, h3⟩ ⟨h4, by omega⟩ hs hs2
    exact ⟨r, _, e, r1, r2, _, _, _, rfl, by omega, h2, h3, by omega, by omega⟩
theorem take3 {b c span : Int} (Fr : List D → List D → Option (D × List D)) {r1 r2 : Int} {box1 box2 : List D} (hs : 10000000 < span) (hs2 : span < 2 ^ 300)
    (e1 : Fr [.int 0, .int b, .int c] [.int 10000000] = some (.int r1, box1)) (e2 : Fr box1 [.int ((span - 1) / 10000000 + 1)] = some (.int r2, box2)) :
    callB 2 5 (g__law_draw Fr) [.int 0, .int b, .int c] [.int span] = some (.int ((r1 + 10000000 * r2) % span), box2) := by
  have d1 : decide ((0:Int) < 0) = false := rfl
  have d2 : decide ((10000000:Int) < span) = true := decide_eq_true hs
  have m1 : fdivD (.int (span - 1)) (.int 10000000) = some (.int ((span - 1) / 10000000)) := fdivD_int (by omega) (by omega)
  have m2 : mulV (.int 10000000) (.int r2) = some (.int (10000000 * r2)) := cmul_l (by omega)
  have m3 : modD (.int (r1 + 10000000 * r2)) (.int span) = some (.int ((r1 + 10000000 * r2) % span)) := modD_int (by omega)
  unfold callB g__law_draw envB
  walk_at "evh"
def spB : Nat → Int
  | 0 => 10000000
  | k + 1 => spB k * 10000000
theorem spB_lt : ∀ k : Nat, k ≤ 7 → spB k < 2 ^ 300
  | 0, _ => by decide
  | 1, _ => by decide
  | 2, _ => by decide
  | 3, _ => by decide
  | 4, _ => by decide
  | 5, _ => by decide
  | 6, _ => by decide
  | 7, _ => by decide
  | k + 8, h => by omega
theorem take_spec : ∀ (k : Nat) {span n : Int} {box : List D}, GoodBox n box → n + k < 2 ^ 40 → 0 < span → span ≤ spB k → k ≤ 7 → ∃ r box', F__law_draw (k + 1) box [.int span] = some (.int r, box') ∧ 0 ≤ r ∧ r < span ∧ GoodBox (n + k + 1) box'
  | 0, span, n, box, hb, hn, hs, hs2, hk => by
    obtain ⟨r, box', e, r1, r2, g⟩ := take_small 0 hb (by omega) hs hs2
    exact ⟨r, box', e, r1, r2, g.mono (by omega)⟩
  | k + 1, span, n, box, hb, hn, hs, hs2, hk => by
    by_cases hsm : span ≤ 10000000
    · obtain ⟨r, box', e, r1, r2, g⟩ := take_small (k + 1) hb (by omega) hs hsm
      exact ⟨r, box', e, r1, r2, g.mono (by omega)⟩
    · have hlt : span < 2 ^ 300 := by
        have := spB_lt (k + 1) hk
        omega
      obtain ⟨a, b, c, rfl, h1, h2, h3, h4, h5⟩ := id hb
      by_cases ha : 0 < a
      · refine ⟨_, _, take1 _ ha hs hlt, Int.emod_nonneg _ (by omega), Int.emod_lt_of_pos _ hs, _, _, _, rfl, ?_, h2, h3, h4, by omega⟩
        exact Int.ediv_nonneg h1 (by omega)
      · have e : a = 0 := by omega
        subst e
        have hX : span ≤ spB k * 10000000 := hs2
        obtain ⟨r1, box1, e1, q1, q2, g1⟩ := take_small k (span := 10000000) hb (by omega) (by omega) (by omega)
        obtain ⟨r2, box2, e2, q3, q4, g2⟩ := take_spec k (span := (span - 1) / 10000000 + 1) g1 (by omega) (by omega) (by omega) (by omega)
        exact ⟨_, _, take3 (F__law_draw (k + 1)) (by omega) hlt e1 e2, Int.emod_nonneg _ (by omega), Int.emod_lt_of_pos _ hs, g2.mono (by omega)⟩
/-- the draw that the law's defs use -/
theorem take8 {span n : Int} {box : List D} (hb : GoodBox n box) (hn : n < 2 ^ 39) (hs : 0 < span) (hs2 : span ≤ 10 ^ 50) : ∃ r box', F__law_draw 8 box [.int span] = some (.int r, box') ∧ 0 ≤ r ∧ r < span ∧ GoodBox (n + 8) box' := by
  obtain ⟨r, box', e, r1, r2, g⟩ := take_spec 7 hb (by omega) hs (by
    have : (10:Int) ^ 50 ≤ spB 7 := by decide
    omega) (by omega)
  exact ⟨r, box', e, r1, r2, g.mono (by omega)⟩
theorem all_true : ∀ xs : List D, allD [.list (xs.map fun _ => PyData.bool true)] = some (.bool true) := fun xs => by
  have e : boolsOf (xs.map fun _ => PyData.bool true) = some (xs.map fun _ => true) := by
    rw [← boolsOf_map (xs.map fun _ => true), List.map_map]; rfl
  unfold allD
  dsimp only
  rw [e]
  show some (PyData.bool _) = _
  congr 2
  rw [List.all_map]
  exact List.all_eq_true.mpr fun _ _ => rfl
theorem same_refl : ∀ (n : Nat) {d : D}, Pl n d → F__law_same (n + 1) [d, d] = some (.bool true)
  | n, _, .none _ => by
    show callP 2 4 _ _ = _
    unfold callP g__law_same env0

    walk_at "evh"
  | n, _, .bool _ b => by
    show callP 2 4 _ _ = _
    unfold callP g__law_same env0
    walk_at "evh"
  | n, _, .int _ i => by
    show callP 2 4 _ _ = _
    unfold callP g__law_same env0
    walk_at "evh"
  | n, _, .str _ x => by
    show callP 2 4 _ _ = _
    unfold callP g__law_same env0
    have e : decide (x = x) = true := decide_eq_true rfl
    walk_at "evh"
  | n + 1, _, .list (xs := xs) hl h => by
    show callP 2 4 _ _ = _
    unfold callP g__law_same env0
    have hz : (zipD xs xs).length ≤ sizeLine := by rw [zipD_self, List.length_map]; exact hl
    have a := all_true xs
    have e : lcL [2, 3] (gT 2 (gsCons (gN 2) (gsCons (gN 3) gsNil))) gYes (ce__law_same_1 (F__law_same (n + 1))) (zipD xs xs) [.sh (.list xs), .sh (.list xs), .no, .no] = .ok (xs.map fun _ => PyData.bool true) [.sh (.list xs), .sh (.list xs), .no, .no] := by
      rw [zipD_self, lc_map (fun _ => PyData.bool true), List.map_map]
      · rfl
      · intro d hd
        obtain ⟨x, hx, rfl⟩ := List.mem_map.mp hd
        have ih := same_refl n (h x hx)
        refine ⟨[.sh (.list xs), .sh (.list xs), .sh x, .sh x], rfl, rfl, rfl, ?_⟩
        clear a hz
        unfold ce__law_same_1
        walk_at "evh"
    walk_at "evh"
  | n + 1, _, .tuple (xs := xs) hl h => by
    show callP 2 4 _ _ = _
    unfold callP g__law_same env0
    have hz : (zipD xs xs).length ≤ sizeLine := by rw [zipD_self, List.length_map]; exact hl
    have a := all_true xs
    have e : lcL [2, 3] (gT 2 (gsCons (gN 2) (gsCons (gN 3) gsNil))) gYes (ce__law_same_1 (F__law_same (n + 1))) (zipD xs xs) [.sh (.tuple xs), .sh (.tuple xs), .no, .no] = .ok (xs.map fun _ => PyData.bool true) [.sh (.tuple xs), .sh (.tuple xs), .no, .no] := by
      rw [zipD_self, lc_map (fun _ => PyData.bool true), List.map_map]
      · rfl
      · intro d hd
        obtain ⟨x, hx, rfl⟩ := List.mem_map.mp hd
        have ih := same_refl n (h x hx)
        refine ⟨[.sh (.tuple xs), .sh (.tuple xs), .sh x, .sh x], rfl, rfl, rfl, ?_⟩
        clear a hz
        unfold ce__law_same_1
        walk_at "evh"
    walk_at "evh"
end W
namespace W
open PySem L2 DL
local macro_rules | `(tactic| walk_at "ev") => `(tactic| simp only [eC, eV, oE, oV, eL, eT, aNil, aCons, eOp2, eOp1, eApp, tstE, eB, tNotG, tAndG, tOrG, eAndG, eOrG, eNotG, eIf, eSeq, eCall, eCallO, eCallB, eCallBF, eCallBX, sSeq, sNext, sRet, sRetF, sRetO, sRetN, sDrop, sIf, sSet, sSetO, sBreak, sCont, sBad, sPar, sPar3, fz, sFz, eCallW, idL, sApp, sPutIx, sAug, sFor, gN, gT, gsCons, gsNil, gYes, eLc, gSeq, nS, nF, Nw.sl, R.ok_bind, R.ok_map, R.lift_some, to_ok, toX_ok, toX_ex, bind_nx, bind_rt, bind_rf, bind_ex, bind_bk, bind_ct, at_ok, at_ex, res_val, map_ex, rbind_ex, Op.res, resA, valA, isOw, box0, Option.map_some, Option.bind_some, sHeardT, nlCons, nlNil, Nw.dat, mSet, eChain, eRg1, eRg2, eSl, pNo, pSo,
  List.getElem?_cons_zero, List.getElem?_cons_succ, List.set_cons_zero, List.set_cons_succ, List.length_cons, List.length_nil, if_true, if_false, Bool.false_eq_true, ite_true, ite_false, reduceIte,
  addU_int, subD_int, ltD_int, leD_int, gtD_int, geD_int, negD_int, absD_int, intD_bool, intD_int, lenD_list, lenD_tuple, lenD_scr, pow10_7, pow10_18, pow10_40, eqW_ints, neW_ints, eqW_strs, neW_strs, eqW_none, eqW_in, eqW_ni, ixD_list, ixD_tuple, ixD_scr, atI_3_0, atI_3_1, atI_3_2, ixN_3_0, ixN_3_1, ixN_3_2, wipeR, zip2D, skOf, isiD_n, isiD_b, isiD_i, isiD_s, isiD_l, isiD_t, isiTD_n, isiTD_b, isiTD_i, isiTD_s, isiTD_l, isiTD_t, isiAny, eCallX, eCallWX, xE, xIf, xL, xCb1, sSetX, sRetX, sDropX, sRaise, sTo, eMk, isX_n, sKeep, kt_ll, kt_lt, kt_ls, kt_li, kt_lb, kt_tl, kt_tt, kt_ts, kt_ti, kt_tb, kt_sl, kt_st, kt_ss, kt_si, kt_sb, kt_il, kt_it, kt_is, kt_ii, kt_ib, kt_bl, kt_bt, kt_bs, kt_bi, kt_bb, kt_nl, kt_nt, kt_ns, kt_ni, kt_nb, eqW_bools, neW_bools, isD_none, isNotD_none, isNoneD, isNone_e, List.map_cons, List.map_nil, List.replicate, List.append_nil, List.cons_append, List.nil_append, nc0, nc1, nc2, nc3, nc4, nc5, nc6, nc7, nc8, nc9, nc10, nc11, nc12, nc13, nc14, nc15, nc16, nc17, nc18, nc19, nc20, Nat.reduceAdd, Nat.reduceSub, ne_eq, decide_true, decide_false, not_true_eq_false, not_false_eq_true, reduceCtorEq, Bool.and_true, Bool.true_and, Bool.and_false, Bool.false_and, Bool.or_true, Bool.true_or, Bool.or_false, Bool.false_or, Bool.not_true, Bool.not_false, eOrF])
local macro_rules | `(tactic| walk_at "evh") => `(tactic| simp only [eC, eV, oE, oV, eL, eT, aNil, aCons, eOp2, eOp1, eApp, tstE, eB, tNotG, tAndG, tOrG, eAndG, eOrG, eNotG, eIf, eSeq, eCall, eCallO, eCallB, eCallBF, eCallBX, sSeq, sNext, sRet, sRetF, sRetO, sRetN, sDrop, sIf, sSet, sSetO, sBreak, sCont, sBad, sPar, sPar3, fz, sFz, eCallW, idL, sApp, sPutIx, sAug, sFor, gN, gT, gsCons, gsNil, gYes, eLc, gSeq, nS, nF, Nw.sl, R.ok_bind, R.ok_map, R.lift_some, to_ok, toX_ok, toX_ex, bind_nx, bind_rt, bind_rf, bind_ex, bind_bk, bind_ct, at_ok, at_ex, res_val, map_ex, rbind_ex, Op.res, resA, valA, isOw, box0, Option.map_some, Option.bind_some, sHeardT, nlCons, nlNil, Nw.dat, mSet, eChain, eRg1, eRg2, eSl, pNo, pSo,
  List.getElem?_cons_zero, List.getElem?_cons_succ, List.set_cons_zero, List.set_cons_succ, List.length_cons, List.length_nil, if_true, if_false, Bool.false_eq_true, ite_true, ite_false, reduceIte,
  addU_int, subD_int, ltD_int, leD_int, gtD_int, geD_int, negD_int, absD_int, intD_bool, intD_int, lenD_list, lenD_tuple, lenD_scr, pow10_7, pow10_18, pow10_40, eqW_ints, neW_ints, eqW_strs, neW_strs, eqW_none, eqW_in, eqW_ni, ixD_list, ixD_tuple, ixD_scr, atI_3_0, atI_3_1, atI_3_2, ixN_3_0, ixN_3_1, ixN_3_2, wipeR, zip2D, skOf, isiD_n, isiD_b, isiD_i, isiD_s, isiD_l, isiD_t, isiTD_n, isiTD_b, isiTD_i, isiTD_s, isiTD_l, isiTD_t, isiAny, eCallX, eCallWX, xE, xIf, xL, xCb1, sSetX, sRetX, sDropX, sRaise, sTo, eMk, isX_n, sKeep, kt_ll, kt_lt, kt_ls, kt_li, kt_lb, kt_tl, kt_tt, kt_ts, kt_ti, kt_tb, kt_sl, kt_st, kt_ss, kt_si, kt_sb, kt_il, kt_it, kt_is, kt_ii, kt_ib, kt_bl, kt_bt, kt_bs, kt_bi, kt_bb, kt_nl, kt_nt, kt_ns, kt_ni, kt_nb, eqW_bools, neW_bools, isD_none, isNotD_none, isNoneD, isNone_e, List.map_cons, List.map_nil, List.replicate, List.append_nil, List.cons_append, List.nil_append, nc0, nc1, nc2, nc3, nc4, nc5, nc6, nc7, nc8, nc9, nc10, nc11, nc12, nc13, nc14, nc15, nc16, nc17, nc18, nc19, nc20, Nat.reduceAdd, Nat.reduceSub, ne_eq, decide_true, decide_false, not_true_eq_false, not_false_eq_true, reduceCtorEq, Bool.and_true, Bool.true_and, Bool.and_false, Bool.false_and, Bool.or_true, Bool.true_or, Bool.or_false, Bool.false_or, Bool.not_true, Bool.not_false, eOrF, *])
theorem int_set (ms : List Int) (k : Nat) (y : Int) : (ms.map PyData.int).set k (.int y) = (ms.set k y).map .int := by rw [List.map_set]
theorem fo_1a {r Y : D} {m : Int} (sl : sliceU r none (some m) = some Y) (li : listD [Y] = some []) (z : 1 ≤ sizeLine) : (sSetO 2 (eOrF (eApp listD (aCons (oE (eSl sliceU (oE (eV 0)) pNo (pSo (eV 1)))) aNil)) (eSeq (aCons (oE (eC (.int 0))) aNil)))) [.sh r, .sh (.int m), .no, .no, .no] = .nx [.sh r, .sh (.int m), .ow [.int 0], .no, .no] := by
  walk_at "evh"
theorem fo_1b {r Y x : D} {E : List D} {m : Int} (sl : sliceU r none (some m) = some Y) (li : listD [Y] = some (x :: E)) (z : 1 ≤ sizeLine) : (sSetO 2 (eOrF (eApp listD (aCons (oE (eSl sliceU (oE (eV 0)) pNo (pSo (eV 1)))) aNil)) (eSeq (aCons (oE (eC (.int 0))) aNil)))) [.sh r, .sh (.int m), .no, .no, .no] = .nx [.sh r, .sh (.int m), .ow (x :: E), .no, .no] := by
  walk_at "evh"
theorem fo_s {r Y : D} {E : List D} {m : Int} {s2 s3 s4 : Sl} (sl : sliceU r (some m) (some 63) = some Y) (en : enum1D [Y] = some E) : (eCall enum1D (aCons (oE (eSl sliceU (oE (eV 0)) (pSo (eV 1)) (pSo (eC (.int 63))))) aNil)) [.sh r, .sh (.int m), s2, s3, s4] = .ok E [.sh r, .sh (.int m), s2, s3, s4] := by
  walk_at "evh"
/-- the cells: at most m of them, at least one -/
theorem cells_eq {ns : List Int} {m : Nat} (hm : 1 ≤ m ∧ m ≤ 60) : ∃ ms : List Int, F__law_folded [.dict [(.list (ns.map .int), .none)], .int (m : Int)] = some (ms.map .int) ∧ ms.length ≤ m ∧ 1 ≤ ms.length := by
  have s1 : sliceU (.dict [(.list (ns.map PyData.int), .none)]) none (some (m : Int)) = some (.list ((ns.take m).map .int)) := by
    show some (PyData.list (cutD (ns.map PyData.int) none (some (m : Int)))) = _
    rw [cut_map, cut_to]
  have s2 : sliceU (.dict [(.list (ns.map PyData.int), .none)]) (some (m : Int)) (some 63) = some (.list ((cutD ns (some (m : Int)) (some 63)).map .int)) := by
    show some (PyData.list (cutD (ns.map PyData.int) (some (m : Int)) (some 63))) = _
    rw [cut_map]
  have hcl : (cutD ns (some (m : Int)) (some 63)).length ≤ ns.length - m := cut_ft_len ns m 63
  have hcl2 : (cutD ns (some (m : Int)) (some 63)).length ≤ 63 := by
    unfold cutD
    rw [show (some (63 : Int)) = some ((63 : Nat) : Int) from rfl, HT.sIx_nat, HT.sIx_nat, List.length_take, List.length_drop]
    omega
  generalize hcs : cutD ns (some (m : Int)) (some 63) = cs at s2 hcl hcl2
  have en : enum1D [.list (cs.map .int)] = some (enumFrom 0 (cs.map .int)) := rfl
  obtain ⟨bs, S1, hb, hb1, hbm⟩ : ∃ bs : List Int, (sSetO 2 (eOrF (eApp listD (aCons (oE (eSl sliceU (oE (eV 0)) pNo (pSo (eV 1)))) aNil)) (eSeq (aCons (oE (eC (.int 0))) aNil)))) [.sh (.dict [(.list (ns.map .int), .none)]), .sh (.int (m : Int)), .no, .no, .no] = .nx [.sh (.dict [(.list (ns.map .int), .none)]), .sh (.int (m : Int)), .ow (bs.map .int), .no, .no] ∧ bs.length ≤ m ∧ 1 ≤ bs.length ∧ (0 < cs.length → bs.length = m) := by
    cases hn : ns.take m with
    | nil =>
      rw [hn] at s1
      have l := congrArg List.length hn
      rw [List.length_take, List.length_nil] at l
      exact ⟨[0], fo_1a s1 rfl (by decide), hm.1, Nat.le_refl _, fun h => by omega⟩
    | cons x E =>
      rw [hn] at s1
      have l := congrArg List.length hn
      rw [List.length_take, List.length_cons] at l
      exact ⟨x :: E, fo_1b s1 rfl (by decide), by rw [List.length_cons]; omega, by rw [List.length_cons]; omega, fun h => by rw [List.length_cons]; omega⟩
  obtain ⟨ρ', e3, ms, s3, s4, rfl, hl⟩ := for_inv (k := gT 2 (gsCons (gN 3) (gsCons (gN 4) gsNil))) (b := gb__law_folded_1) (ds := enumFrom 0 (cs.map PyData.int))
    (fun i ρ => ∃ (ms : List Int) (s3 s4 : Sl), ρ = [.sh (.dict [(.list (ns.map .int), .none)]), .sh (.int (m : Int)), .ow (ms.map .int), s3, s4] ∧ ms.length = bs.length)
    (fun i d ρ hd h => by
      obtain ⟨ms, s3, s4, rfl, hl⟩ := h
      have hi : i < cs.length := by
        have := (List.getElem?_eq_some_iff.mp hd).1
        rw [enumFrom_len, List.length_map] at this
        exact this
      obtain ⟨c, hc⟩ : ∃ c, cs[i]? = some c := ⟨_, List.getElem?_eq_getElem hi⟩
      have hg : (cs.map PyData.int)[i]? = some (.int c) := by rw [List.getElem?_map, hc]; rfl
      rw [enumFrom_get _ 0 i _ hg] at hd
      cases hd
      have hlm : ms.length = m := by have := hbm (by omega); omega
      have hj : i % m < ms.length := by rw [hlm]; exact Nat.mod_lt _ (by omega)
      obtain ⟨v, hv⟩ : ∃ v, ms[i % m]? = some v := ⟨_, List.getElem?_eq_getElem hj⟩
      have m1 : modD (.int ((0 + i : Nat) : Int)) (.int (m : Int)) = some (.int ((i % m : Nat) : Int)) := by
        rw [modD_int (by omega), Nat.zero_add]; rfl
      have ix : atI (ms.map PyData.int) ((i % m : Nat) : Int) = some (.int v) := atI_nat (by rw [List.getElem?_map, hv]; rfl)
      have iN : ixN (ms.map PyData.int).length ((i % m : Nat) : Int) = some (i % m) := by
        unfold ixN
        rw [if_pos (by omega), if_pos (by rw [List.length_map]; omega)]
        rfl
      have m2 : mulV (.int c) (.int (((0 + i : Nat) : Int) + 2)) = some (.int (c * (((0 + i : Nat) : Int) + 2))) := cmul_r (by omega)
      have st := int_set ms (i % m)
      refine ⟨[.sh (.dict [(.list (ns.map .int), .none)]), .sh (.int (m : Int)), .ow (ms.map .int), .sh (.int ((0 + i : Nat) : Int)), .sh (.int c)], rfl, _, .inl ?_, ms.set (i % m) (v + c * (((0 + i : Nat) : Int) + 2)), .sh (.int ((0 + i : Nat) : Int)), .sh (.int c), rfl, by rw [List.length_set]; exact hl⟩
      have st := st (v + c * (((0 + i : Nat) : Int) + 2))
      clear hg hlm hl hj hcs s1 s2 hv hc hi S1 hb hb1 hbm hm
      unfold gb__law_folded_1
      walk_at "evh")
    (ρ := [.sh (.dict [(.list (ns.map .int), .none)]), .sh (.int (m : Int)), .ow (bs.map .int), .no, .no]) ⟨_, .no, .no, rfl, rfl⟩
  refine ⟨ms, ?_, by omega, by omega⟩
  unfold F__law_folded callF env0
  have st := seq_nx S1 (seq_nx (sFor_nx (fo_s s2 en) e3) (rfl : sRetO 2 [.sh (.dict [(.list (ns.map .int), .none)]), .sh (.int (m : Int)), .ow (ms.map .int), s3, s4] = .rf (ms.map .int) _))
  rw [if_neg (by simp)]
  show (match g__law_folded [.sh (.dict [(.list (ns.map .int), .none)]), .sh (.int (m : Int)), .no, .no, .no] with
    | .rf ds _ => some ds
    | _ => none) = _
  have st2 : g__law_folded [.sh (.dict [(.list (ns.map .int), .none)]), .sh (.int (m : Int)), .no, .no, .no] = _ := st
  rw [st2]; rfl
theorem st_1 {r : D} {k : Int} {s2 : Sl} : (sSet 2 (eC (.int 0))) [.sh r, .sh (.int k), s2] = .nx [.sh r, .sh (.int k), .sh (.int 0)] := by
  walk_at "evh"
theorem st_2a {r : D} {n k c : Int} {s2 : Sl} (l : lenD [r] = some (.int n)) (d : decide (k < n) = true) (i : ixD r (.int k) = some (.int c)) : (sIf (tstE (eOp2 ltD (oE (eV 1)) (oE (eApp lenD (aCons (oE (eV 0)) aNil))))) (sSet 2 (eOp2 ixD (oE (eV 0)) (oE (eV 1))))
    sNext) [.sh r, .sh (.int k), s2] = .nx [.sh r, .sh (.int k), .sh (.int c)] := by
  walk_at "evh"
theorem st_2b {r : D} {n k : Int} {s2 : Sl} (l : lenD [r] = some (.int n)) (d : decide (k < n) = false) : (sIf (tstE (eOp2 ltD (oE (eV 1)) (oE (eApp lenD (aCons (oE (eV 0)) aNil))))) (sSet 2 (eOp2 ixD (oE (eV 0)) (oE (eV 1))))
    sNext) [.sh r, .sh (.int k), s2] = .nx [.sh r, .sh (.int k), s2] := by
  walk_at "evh"
theorem st_3 {r : D} {k c a p q : Int} {v : Bool} (e0 : absD [.int c] = some (.int a)) (d : decide (1000000000000000000 ≤ a) = v) (e1 : mulV (.int a) (.int (if v = true then 1 else 0)) = some (.int p)) (e2 : modD (.int c) (.int 2305843009213693951) = some (.int q)) (e3 : mulV (.int 39373) (.int k) = some (.int (39373 * k))) (z : 3 ≤ sizeLine) : (sRetF (eSeq (aCons (oE (eOp2 mulV (oE (eApp absD (aCons (oE (eV 2)) aNil))) (oE (eApp intD (aCons (oE (eOp2 geD (oE (eApp absD (aCons (oE (eV 2)) aNil))) (oE (eOp2 powD (oE (eC (.int 10))) (oE (eC (.int 18))))))) aNil))))) (aCons (oE (eOp2 addU (oE (eOp2 addU (oE (eOp2 modD (oE (eV 2)) (oE (eC (.int 2305843009213693951))))) (oE (eOp2 mulV (oE (eC (.int 39373))) (oE (eV 1)))))) (oE (eC (.int 29))))) (aCons (oE (eC (.int 0))) aNil))))) [.sh r, .sh (.int k), .sh (.int c)] = .rf [.int p, .int (q + 39373 * k + 29), .int 0] [.sh r, .sh (.int k), .sh (.int c)] := by
  walk_at "evh"
theorem box_eq {ns : List Int} {k : Nat} (hk : k ≤ 1000) : ∃ box, F__law_stream [.list (ns.map .int), .int (k : Int)] = some box ∧ GoodBox 0 box := by
  have key : ∀ c : Int, ∃ box, (sRetF (eSeq (aCons (oE (eOp2 mulV (oE (eApp absD (aCons (oE (eV 2)) aNil))) (oE (eApp intD (aCons (oE (eOp2 geD (oE (eApp absD (aCons (oE (eV 2)) aNil))) (oE (eOp2 powD (oE (eC (.int 10))) (oE (eC (.int 18))))))) aNil))))) (aCons (oE (eOp2 addU (oE (eOp2 addU (oE (eOp2 modD (oE (eV 2)) (oE (eC (.int 2305843009213693951))))) (oE (eOp2 mulV (oE (eC (.int 39373))) (oE (eV 1)))))) (oE (eC (.int 29))))) (aCons (oE (eC (.int 0))) aNil))))) [.sh (.list (ns.map .int)), .sh (.int (k : Int)), .sh (.int c)] = .rf box [.sh (.list (ns.map .int)), .sh (.int (k : Int)), .sh (.int c)] ∧ GoodBox 0 box := fun c => by
    have e0 : absD [.int c] = some (.int (if c < 0 then -c else c)) := rfl
    have ha : 0 ≤ (if c < 0 then -c else c) := by split <;> omega
    generalize (if c < 0 then -c else c) = a at e0 ha
    have e1 : mulV (.int a) (.int (if decide (1000000000000000000 ≤ a) = true then 1 else 0)) = some (.int (a * (if decide (1000000000000000000 ≤ a) = true then 1 else 0))) := cmul_r (by split <;> omega)
    refine ⟨_, st_3 e0 rfl e1 (modD_int (by omega)) (cmul_l ⟨by omega, by omega⟩) (by decide), _, _, _, rfl, Int.mul_nonneg ha (by split <;> omega), by omega, by omega, by omega, by omega⟩
  have fin : ∀ {c : Int} {box : List D}, (sIf (tstE (eOp2 ltD (oE (eV 1)) (oE (eApp lenD (aCons (oE (eV 0)) aNil))))) (sSet 2 (eOp2 ixD (oE (eV 0)) (oE (eV 1))))
    sNext) [.sh (.list (ns.map .int)), .sh (.int (k : Int)), .sh (.int 0)] = .nx [.sh (.list (ns.map .int)), .sh (.int (k : Int)), .sh (.int c)] → (sRetF (eSeq (aCons (oE (eOp2 mulV (oE (eApp absD (aCons (oE (eV 2)) aNil))) (oE (eApp intD (aCons (oE (eOp2 geD (oE (eApp absD (aCons (oE (eV 2)) aNil))) (oE (eOp2 powD (oE (eC (.int 10))) (oE (eC (.int 18))))))) aNil))))) (aCons (oE (eOp2 addU (oE (eOp2 addU (oE (eOp2 modD (oE (eV 2)) (oE (eC (.int 2305843009213693951))))) (oE (eOp2 mulV (oE (eC (.int 39373))) (oE (eV 1)))))) (oE (eC (.int 29))))) (aCons (oE (eC (.int 0))) aNil))))) [.sh (.list (ns.map .int)), .sh (.int (k : Int)), .sh (.int c)] = .rf box [.sh (.list (ns.map .int)), .sh (.int (k : Int)), .sh (.int c)] → F__law_stream [.list (ns.map .int), .int (k : Int)] = some box := fun {c box} h2 h3 => by
    unfold F__law_stream callF env0
    rw [if_neg (by simp)]
    have st : g__law_stream [.sh (.list (ns.map .int)), .sh (.int (k : Int)), .no] = _ := seq_nx st_1 (seq_nx h2 h3)
    show (match g__law_stream [.sh (.list (ns.map .int)), .sh (.int (k : Int)), .no] with
      | .rf ds _ => some ds
      | _ => none) = _
    rw [st]
  have ln : lenD [.list (ns.map .int)] = some (.int (ns.length : Nat)) := by rw [lenD_list, List.length_map]
  by_cases hi : k < ns.length
  · have ix : ixD (.list (ns.map .int)) (.int (k : Int)) = some (.int ns[k]) := by
      rw [ixD_list]
      exact atI_nat (by rw [List.getElem?_map, List.getElem?_eq_getElem hi]; rfl)
    obtain ⟨box, e, g⟩ := key ns[k]
    exact ⟨box, fin (st_2a ln (decide_eq_true (by omega)) ix) e, g⟩
  · obtain ⟨box, e, g⟩ := key 0
    exact ⟨box, fin (st_2b ln (decide_eq_false (by omega))) e, g⟩
end W
namespace W
open PySem L2 DL
local macro_rules | `(tactic| walk_at "ev") => `(tactic| simp only [eC, eV, oE, oV, eL, eT, aNil, aCons, eOp2, eOp1, eApp, tstE, eB, tNotG, tAndG, tOrG, eAndG, eOrG, eNotG, eIf, eSeq, eCall, eCallO, eCallB, eCallBF, eCallBX, sSeq, sNext, sRet, sRetF, sRetO, sRetN, sDrop, sIf, sSet, sSetO, sBreak, sCont, sBad, sPar, sPar3, fz, sFz, eCallW, idL, sApp, sPutIx, sAug, sFor, gN, gT, gsCons, gsNil, gYes, eLc, gSeq, nS, nF, Nw.sl, R.ok_bind, R.ok_map, R.lift_some, to_ok, toX_ok, toX_ex, bind_nx, bind_rt, bind_rf, bind_ex, bind_bk, bind_ct, at_ok, at_ex, res_val, map_ex, rbind_ex, Op.res, resA, valA, isOw, box0, Option.map_some, Option.bind_some, sHeardT, nlCons, nlNil, Nw.dat, mSet, eChain, eRg1, eRg2, eSl, pNo, pSo,
  List.getElem?_cons_zero, List.getElem?_cons_succ, List.set_cons_zero, List.set_cons_succ, List.length_cons, List.length_nil, if_true, if_false, Bool.false_eq_true, ite_true, ite_false, reduceIte,
  addU_int, subD_int, ltD_int, leD_int, gtD_int, geD_int, negD_int, absD_int, intD_bool, intD_int, lenD_list, lenD_tuple, lenD_scr, pow10_7, pow10_18, pow10_40, eqW_ints, neW_ints, eqW_strs, neW_strs, eqW_none, eqW_in, eqW_ni, ixD_list, ixD_tuple, ixD_scr, atI_3_0, atI_3_1, atI_3_2, ixN_3_0, ixN_3_1, ixN_3_2, wipeR, zip2D, skOf, isiD_n, isiD_b, isiD_i, isiD_s, isiD_l, isiD_t, isiTD_n, isiTD_b, isiTD_i, isiTD_s, isiTD_l, isiTD_t, isiAny, eCallX, eCallWX, xE, xIf, xL, xCb1, sSetX, sRetX, sDropX, sRaise, sTo, eMk, isX_n, sKeep, kt_ll, kt_lt, kt_ls, kt_li, kt_lb, kt_tl, kt_tt, kt_ts, kt_ti, kt_tb, kt_sl, kt_st, kt_ss, kt_si, kt_sb, kt_il, kt_it, kt_is, kt_ii, kt_ib, kt_bl, kt_bt, kt_bs, kt_bi, kt_bb, kt_nl, kt_nt, kt_ns, kt_ni, kt_nb, eqW_bools, neW_bools, isD_none, isNotD_none, isNoneD, isNone_e, List.map_cons, List.map_nil, List.replicate, List.append_nil, List.cons_append, List.nil_append, nc0, nc1, nc2, nc3, nc4, nc5, nc6, nc7, nc8, nc9, nc10, nc11, nc12, nc13, nc14, nc15, nc16, nc17, nc18, nc19, nc20, Nat.reduceAdd, Nat.reduceSub, ne_eq, decide_true, decide_false, not_true_eq_false, not_false_eq_true, reduceCtorEq, Bool.and_true, Bool.true_and, Bool.and_false, Bool.false_and, Bool.or_true, Bool.true_or, Bool.or_false, Bool.false_or, Bool.not_true, Bool.not_false, sTupN, setN, Nw.sl])
local macro_rules | `(tactic| walk_at "evh") => `(tactic| simp only [eC, eV, oE, oV, eL, eT, aNil, aCons, eOp2, eOp1, eApp, tstE, eB, tNotG, tAndG, tOrG, eAndG, eOrG, eNotG, eIf, eSeq, eCall, eCallO, eCallB, eCallBF, eCallBX, sSeq, sNext, sRet, sRetF, sRetO, sRetN, sDrop, sIf, sSet, sSetO, sBreak, sCont, sBad, sPar, sPar3, fz, sFz, eCallW, idL, sApp, sPutIx, sAug, sFor, gN, gT, gsCons, gsNil, gYes, eLc, gSeq, nS, nF, Nw.sl, R.ok_bind, R.ok_map, R.lift_some, to_ok, toX_ok, toX_ex, bind_nx, bind_rt, bind_rf, bind_ex, bind_bk, bind_ct, at_ok, at_ex, res_val, map_ex, rbind_ex, Op.res, resA, valA, isOw, box0, Option.map_some, Option.bind_some, sHeardT, nlCons, nlNil, Nw.dat, mSet, eChain, eRg1, eRg2, eSl, pNo, pSo,
  List.getElem?_cons_zero, List.getElem?_cons_succ, List.set_cons_zero, List.set_cons_succ, List.length_cons, List.length_nil, if_true, if_false, Bool.false_eq_true, ite_true, ite_false, reduceIte,
  addU_int, subD_int, ltD_int, leD_int, gtD_int, geD_int, negD_int, absD_int, intD_bool, intD_int, lenD_list, lenD_tuple, lenD_scr, pow10_7, pow10_18, pow10_40, eqW_ints, neW_ints, eqW_strs, neW_strs, eqW_none, eqW_in, eqW_ni, ixD_list, ixD_tuple, ixD_scr, atI_3_0, atI_3_1, atI_3_2, ixN_3_0, ixN_3_1, ixN_3_2, wipeR, zip2D, skOf, isiD_n, isiD_b, isiD_i, isiD_s, isiD_l, isiD_t, isiTD_n, isiTD_b, isiTD_i, isiTD_s, isiTD_l, isiTD_t, isiAny, eCallX, eCallWX, xE, xIf, xL, xCb1, sSetX, sRetX, sDropX, sRaise, sTo, eMk, isX_n, sKeep, kt_ll, kt_lt, kt_ls, kt_li, kt_lb, kt_tl, kt_tt, kt_ts, kt_ti, kt_tb, kt_sl, kt_st, kt_ss, kt_si, kt_sb, kt_il, kt_it, kt_is, kt_ii, kt_ib, kt_bl, kt_bt, kt_bs, kt_bi, kt_bb, kt_nl, kt_nt, kt_ns, kt_ni, kt_nb, eqW_bools, neW_bools, isD_none, isNotD_none, isNoneD, isNone_e, List.map_cons, List.map_nil, List.replicate, List.append_nil, List.cons_append, List.nil_append, nc0, nc1, nc2, nc3, nc4, nc5, nc6, nc7, nc8, nc9, nc10, nc11, nc12, nc13, nc14, nc15, nc16, nc17, nc18, nc19, nc20, Nat.reduceAdd, Nat.reduceSub, ne_eq, decide_true, decide_false, not_true_eq_false, not_false_eq_true, reduceCtorEq, Bool.and_true, Bool.true_and, Bool.and_false, Bool.false_and, Bool.or_true, Bool.true_or, Bool.or_false, Bool.false_or, Bool.not_true, Bool.not_false, sTupN, setN, Nw.sl, *])
end W
namespace W
open PySem L2 DL
local macro_rules | `(tactic| walk_at "ev") => `(tactic| simp only [eC, eV, oE, oV, eL, eT, aNil, aCons, eOp2, eOp1, eApp, tstE, eB, tNotG, tAndG, tOrG, eAndG, eOrG, eNotG, eIf, eSeq, eCall, eCallO, eCallB, eCallBF, eCallBX, sSeq, sNext, sRet, sRetF, sRetO, sRetN, sDrop, sIf, sSet, sSetO, sBreak, sCont, sBad, sPar, sPar3, fz, sFz, eCallW, idL, sApp, sPutIx, sAug, sFor, gN, gT, gsCons, gsNil, gYes, eLc, gSeq, nS, nF, Nw.sl, R.ok_bind, R.ok_map, R.lift_some, to_ok, toX_ok, toX_ex, bind_nx, bind_rt, bind_rf, bind_ex, bind_bk, bind_ct, at_ok, at_ex, res_val, map_ex, rbind_ex, Op.res, resA, valA, isOw, box0, Option.map_some, Option.bind_some, sHeardT, nlCons, nlNil, Nw.dat, mSet, eChain, eRg1, eRg2, eSl, pNo, pSo,
  List.getElem?_cons_zero, List.getElem?_cons_succ, List.set_cons_zero, List.set_cons_succ, List.length_cons, List.length_nil, if_true, if_false, Bool.false_eq_true, ite_true, ite_false, reduceIte,
  addU_int, subD_int, ltD_int, leD_int, gtD_int, geD_int, negD_int, absD_int, intD_bool, intD_int, lenD_list, lenD_tuple, lenD_scr, pow10_7, pow10_18, pow10_40, eqW_ints, neW_ints, eqW_strs, neW_strs, eqW_none, eqW_in, eqW_ni, ixD_list, ixD_tuple, ixD_scr, atI_3_0, atI_3_1, atI_3_2, ixN_3_0, ixN_3_1, ixN_3_2, wipeR, zip2D, skOf, isiD_n, isiD_b, isiD_i, isiD_s, isiD_l, isiD_t, isiTD_n, isiTD_b, isiTD_i, isiTD_s, isiTD_l, isiTD_t, isiAny, eCallX, eCallWX, xE, xIf, xL, xCb1, sSetX, sRetX, sDropX, sRaise, sTo, eMk, isX_n, sKeep, kt_ll, kt_lt, kt_ls, kt_li, kt_lb, kt_tl, kt_tt, kt_ts, kt_ti, kt_tb, kt_sl, kt_st, kt_ss, kt_si, kt_sb, kt_il, kt_it, kt_is, kt_ii, kt_ib, kt_bl, kt_bt, kt_bs, kt_bi, kt_bb, kt_nl, kt_nt, kt_ns, kt_ni, kt_nb, eqW_bools, neW_bools, isD_none, isNotD_none, isNoneD, isNone_e, List.map_cons, List.map_nil, List.replicate, List.append_nil, List.cons_append, List.nil_append, nc0, nc1, nc2, nc3, nc4, nc5, nc6, nc7, nc8, nc9, nc10, nc11, nc12, nc13, nc14, nc15, nc16, nc17, nc18, nc19, nc20, Nat.reduceAdd, Nat.reduceSub, ne_eq, decide_true, decide_false, not_true_eq_false, not_false_eq_true, reduceCtorEq, Bool.and_true, Bool.true_and, Bool.and_false, Bool.false_and, Bool.or_true, Bool.true_or, Bool.or_false, Bool.false_or, Bool.not_true, Bool.not_false, eSplit, eJoin, ePart, sToX, sHall, eCallH, RH.at, hlFree, R.toX])
local macro_rules | `(tactic| walk_at "evh") => `(tactic| simp only [eC, eV, oE, oV, eL, eT, aNil, aCons, eOp2, eOp1, eApp, tstE, eB, tNotG, tAndG, tOrG, eAndG, eOrG, eNotG, eIf, eSeq, eCall, eCallO, eCallB, eCallBF, eCallBX, sSeq, sNext, sRet, sRetF, sRetO, sRetN, sDrop, sIf, sSet, sSetO, sBreak, sCont, sBad, sPar, sPar3, fz, sFz, eCallW, idL, sApp, sPutIx, sAug, sFor, gN, gT, gsCons, gsNil, gYes, eLc, gSeq, nS, nF, Nw.sl, R.ok_bind, R.ok_map, R.lift_some, to_ok, toX_ok, toX_ex, bind_nx, bind_rt, bind_rf, bind_ex, bind_bk, bind_ct, at_ok, at_ex, res_val, map_ex, rbind_ex, Op.res, resA, valA, isOw, box0, Option.map_some, Option.bind_some, sHeardT, nlCons, nlNil, Nw.dat, mSet, eChain, eRg1, eRg2, eSl, pNo, pSo,
  List.getElem?_cons_zero, List.getElem?_cons_succ, List.set_cons_zero, List.set_cons_succ, List.length_cons, List.length_nil, if_true, if_false, Bool.false_eq_true, ite_true, ite_false, reduceIte,
  addU_int, subD_int, ltD_int, leD_int, gtD_int, geD_int, negD_int, absD_int, intD_bool, intD_int, lenD_list, lenD_tuple, lenD_scr, pow10_7, pow10_18, pow10_40, eqW_ints, neW_ints, eqW_strs, neW_strs, eqW_none, eqW_in, eqW_ni, ixD_list, ixD_tuple, ixD_scr, atI_3_0, atI_3_1, atI_3_2, ixN_3_0, ixN_3_1, ixN_3_2, wipeR, zip2D, skOf, isiD_n, isiD_b, isiD_i, isiD_s, isiD_l, isiD_t, isiTD_n, isiTD_b, isiTD_i, isiTD_s, isiTD_l, isiTD_t, isiAny, eCallX, eCallWX, xE, xIf, xL, xCb1, sSetX, sRetX, sDropX, sRaise, sTo, eMk, isX_n, sKeep, kt_ll, kt_lt, kt_ls, kt_li, kt_lb, kt_tl, kt_tt, kt_ts, kt_ti, kt_tb, kt_sl, kt_st, kt_ss, kt_si, kt_sb, kt_il, kt_it, kt_is, kt_ii, kt_ib, kt_bl, kt_bt, kt_bs, kt_bi, kt_bb, kt_nl, kt_nt, kt_ns, kt_ni, kt_nb, eqW_bools, neW_bools, isD_none, isNotD_none, isNoneD, isNone_e, List.map_cons, List.map_nil, List.replicate, List.append_nil, List.cons_append, List.nil_append, nc0, nc1, nc2, nc3, nc4, nc5, nc6, nc7, nc8, nc9, nc10, nc11, nc12, nc13, nc14, nc15, nc16, nc17, nc18, nc19, nc20, Nat.reduceAdd, Nat.reduceSub, ne_eq, decide_true, decide_false, not_true_eq_false, not_false_eq_true, reduceCtorEq, Bool.and_true, Bool.true_and, Bool.and_false, Bool.false_and, Bool.or_true, Bool.true_or, Bool.or_false, Bool.false_or, Bool.not_true, Bool.not_false, eSplit, eJoin, ePart, sToX, sHall, eCallH, RH.at, hlFree, R.toX, *])
theorem nl_list : ("\n" : Str).cps.toList = [10] := by decide +kernel
theorem kind_nl (x : Str) : ¬ Builtin.Str.strKind x < Builtin.Str.strKind "\n" := by
  have e : Builtin.Str.strKind "\n" = 1 := by decide +kernel
  rw [e]
  unfold Builtin.Str.strKind
  split <;> (try split) <;> (try split) <;> omega
theorem split_nl {ws : List Str} (hne : ws ≠ []) (hf : ∀ w ∈ ws, 10 ∉ w.cps.toList) : Txt.split (Txt.join "\n" ws) "\n" = ws := by
  refine TL.map_tl_inj ?_
  rw [TL.split_spl _ _ (by show ("\n" : Str).cps.toList ≠ []; rw [nl_list]; exact fun z => nomatch z) (kind_nl _)]
  have j : TL.tl (Txt.join "\n" ws) = TL.joinL [10] (ws.map TL.tl) := by
    show TL.tl (Builtin.Str.glued "\n" ws) = _
    rw [PySem.StrLaws.glued_eq_join, TL.tl_join, show TL.tl "\n" = [10] from nl_list]
  rw [j, show TL.tl "\n" = [10] from nl_list]
  refine TL.spl_join (fun z => hne (List.map_eq_nil_iff.mp z)) fun p hp => ?_
  obtain ⟨w, hw, rfl⟩ := List.mem_map.mp hp
  exact hf w hw
theorem strs_back : ∀ ys : List Str, strsOf (ys.map PyData.str) = some ys
  | [] => rfl
  | y :: ys => by
    show (strsOf (ys.map PyData.str)).map (y :: ·) = _
    rw [strs_back ys]
    rfl
theorem sum_le {k : Nat} : ∀ {ys : List Str}, (∀ y ∈ ys, y.length ≤ k) → (ys.map (·.length)).sum ≤ ys.length * k
  | [], _ => Nat.zero_le _
  | y :: ys, h => by
    have a := h y (List.mem_cons_self ..)
    have b := sum_le fun z hz => h z (List.mem_cons_of_mem _ hz)
    rw [List.map_cons, List.sum_cons, List.length_cons, Nat.add_mul]
    omega
/-- lines are put together -/
theorem nl_eq {ys : List Str} (h : ∀ y ∈ ys, y.length ≤ 2000) (hl : ys.length ≤ 100) : joinS (.str "\n") (.list (ys.map .str)) = some (.str (Txt.join "\n" ys)) ∧ (Txt.join "\n" ys).length ≤ 250000 := by
  have s := sum_le h
  have s2 : ys.length * 2000 ≤ 100 * 2000 := Nat.mul_le_mul_right _ hl
  have b1 : ("\n" : Str).length = 1 := by decide +kernel
  have j : (Txt.join "\n" ys).length ≤ (ys.map (·.length)).sum + ys.length * ("\n" : Str).length := by
    show (Builtin.Str.glued "\n" ys).length ≤ _
    rw [PySem.StrLaws.glued_eq_join]
    exact PySem.StrLaws.join_length_le "\n" ys
  rw [b1] at j
  refine ⟨?_, by omega⟩
  show (strsOf (ys.map .str)).bind _ = _
  rw [strs_back]
  show (if (ys.map (·.length)).sum + ys.length * ("\n" : Str).length ≤ 16777216 then _ else none) = _
  rw [if_pos (by rw [b1]; omega)]
theorem lines_eq {ws : List Str} (hne : ws ≠ []) (hf : ∀ w ∈ ws, 10 ∉ w.cps.toList) (hz : (Txt.join "\n" ws).length ≤ 250000) : splitS (.str (Txt.join "\n" ws)) (.str "\n") = some (ws.map .str) := by
  show (if (("\n" : Str).length == 0) = false ∧ (Txt.join "\n" ws).length + 2 ≤ sizeLine then some ((Txt.split (Txt.join "\n" ws) "\n").map PyData.str) else none) = _
  rw [split_nl hne hf, if_pos ⟨by decide +kernel, by rw [sizeLine_eq]; omega⟩]
theorem rq_1 {x : Str} {ys : List D} {s3 s4 s5 s6 : Sl} (h : splitS (.str x) (.str "\n") = some ys) (z : 0 ≤ sizeLine) : (sPar 1 2 (nS (eL (eSplit (eV 0) (eC (.str "\n"))))) (nF (eSeq aNil))) [.sh (.str x), .no, .no, s3, s4, s5, s6] = .nx [.sh (.str x), .sh (.list ys), .ow [], s3, s4, s5, s6] := by
  walk_at "evh"
theorem rq_2 {l r : D} {s0 s2 s3 s4 s5 s6 : Sl} {w : D} (i : ixD l (.int 0) = some w) (h : F_row_or_none [w] = some r) : (sSet 3 (eCall F_row_or_none (aCons (oE (eOp2 ixD (oE (eV 1)) (oE (eC (.int 0))))) aNil))) [s0, .sh l, s2, s3, s4, s5, s6] = .nx [s0, .sh l, s2, .sh r, s4, s5, s6] := by
  walk_at "evh"
theorem rq_3 {l : D} {as : List D} {s0 s2 s4 s5 s6 : Sl} {n : Int} (i : isD (.tuple as) .none = some (.bool false)) (h : lenD [.tuple as] = some (.int n)) (d : decide (n > 16) = false) : (sIf (tOrG (tstE (eOp2 isD (oE (eV 3)) (oE (eC .none)))) (tstE (eOp2 gtD (oE (eApp lenD (aCons (oE (eV 3)) aNil))) (oE (eC (.int 16)))))) (sRaise "BadLine" (eC (.int 0)))
    sNext) [s0, .sh l, s2, .sh (.tuple as), s4, s5, s6] = .nx [s0, .sh l, s2, .sh (.tuple as), s4, s5, s6] := by
  walk_at "evh"
theorem rq_s {l l2 : D} {E : List D} {s0 s2 s3 s4 s5 s6 : Sl} (h : sliceU l (some 1) none = some l2) (e : enum1D [l2] = some E) : (eCall enum1D (aCons (oE (eSl sliceU (oE (eV 1)) (pSo (eC (.int 1))) pNo)) aNil)) [s0, .sh l, s2, s3, s4, s5, s6] = .ok E [s0, .sh l, s2, s3, s4, s5, s6] := by
  walk_at "evh"
theorem rq_g {s0 s1 s3 s6 : Sl} {F as : List D} {i : Int} {y : D} (h : F_request_in [y] = some (.tuple as)) (is : isD (.tuple as) .none = some (.bool false)) (z : F.length < sizeLine) : gb_requests_in_1 [s0, s1, .ow F, s3, .sh (.int i), .sh y, s6] = .nx [s0, s1, .ow (F ++ [.tuple as]), s3, .sh (.int i), .sh y, .sh (.tuple as)] := by
  unfold gb_requests_in_1
  walk_at "evh"
theorem rq_e {s0 s1 s4 s5 s6 : Sl} {F : List D} {r : D} (z : 2 ≤ sizeLine) : (sFz 2 (sRet (eT (eSeq (aCons (oE (eV 3)) (aCons (oE (eV 2)) aNil)))))) [s0, s1, .ow F, .sh r, s4, s5, s6] = .rt (.tuple [r, .list F]) [s0, s1, .sh (.list F), .sh r, s4, s5, s6] := by
  walk_at "evh"
/-- what a line asks -/
def ReqOf (y : Str) (as : List D) : Prop := F_request_in [.str y] = some (.tuple as)
theorem rq_loop {s0 s1 s3 : Sl} : ∀ {ys : List Str} {ds : List (List D)}, Paired ReqOf ys ds → ∀ (i : Nat) (F : List D) (s4 s5 s6 : Sl), F.length + ys.length ≤ 1000 →
    ∃ t4 t5 t6, forL (gT 2 (gsCons (gN 4) (gsCons (gN 5) gsNil))) gb_requests_in_1 (enumFrom i (ys.map .str)) [s0, s1, .ow F, s3, s4, s5, s6] = .nx [s0, s1, .ow (F ++ ds.map .tuple), s3, t4, t5, t6]
  | [], [], .nil, i, F, s4, s5, s6, h => ⟨s4, s5, s6, by
    show _ = O.nx [s0, s1, Sl.ow (F ++ []), s3, s4, s5, s6]
    rw [List.append_nil]
    rfl⟩
  | y :: ys, as :: ds, .cons h r, i, F, s4, s5, s6, hl => by
    rw [List.length_cons] at hl
    obtain ⟨t4, t5, t6, e⟩ := rq_loop r (i + 1) (F ++ [.tuple as]) (.sh (.int (i : Int))) (.sh (.str y)) (.sh (.tuple as)) (by rw [List.length_append, List.length_singleton]; omega)
    refine ⟨t4, t5, t6, ?_⟩
    rw [List.append_assoc] at e
    exact for_cons (ρ1 := [s0, s1, .ow F, s3, .sh (.int (i : Int)), .sh (.str y), s6]) rfl (rq_g h rfl (by rw [sizeLine_eq]; omega)) e
theorem reqs_ok {h : Str} {ys : List Str} {as : List D} {ds : List (List D)} (hr : F_row_or_none [.str h] = some (.tuple as)) (ha : as.length ≤ 16) (hp : Paired ReqOf ys ds) (hl : ys.length ≤ 99) (hf : ∀ w ∈ h :: ys, 10 ∉ w.cps.toList) (hz : ∀ w ∈ h :: ys, w.length ≤ 2000) :
    F_requests_in [.str (Txt.join "\n" (h :: ys))] = .ok (.tuple [.tuple as, .list (ds.map .tuple)]) := by
  obtain ⟨_, jl⟩ := nl_eq hz (by rw [List.length_cons]; omega)
  have sp := lines_eq (List.cons_ne_nil _ _) hf jl
  have S1 := rq_1 (s3 := .no) (s4 := .no) (s5 := .no) (s6 := .no) sp (by decide)
  have S2 := rq_2 (l := .list ((h :: ys).map .str)) (s0 := .sh (.str (Txt.join "\n" (h :: ys)))) (s2 := .ow []) (s3 := .no) (s4 := .no) (s5 := .no) (s6 := .no) (w := .str h) (by rw [ixD_list]; exact atI_of (n := 0) rfl rfl) hr
  have S3 := rq_3 (l := .list ((h :: ys).map .str)) (s0 := .sh (.str (Txt.join "\n" (h :: ys)))) (s2 := .ow []) (s4 := .no) (s5 := .no) (s6 := .no) (as := as) rfl (lenD_tuple _) (decide_eq_false (by omega))
  have sl : sliceU (.list ((h :: ys).map .str)) (some 1) none = some (.list (ys.map .str)) := by
    show some (PyData.list (cutD ((h :: ys).map PyData.str) (some 1) none)) = _
    rw [cut_map]
    have : cutD (h :: ys) (some (1 : Nat)) none = ys := by rw [cut_from]; rfl
    rw [show (some (1 : Int)) = some ((1 : Nat) : Int) from rfl, this]
  have rs := rq_s (s0 := .sh (.str (Txt.join "\n" (h :: ys)))) (s2 := .ow []) (s3 := .sh (.tuple as)) (s4 := .no) (s5 := .no) (s6 := .no) sl (E := enumFrom 0 (ys.map .str)) rfl
  obtain ⟨t4, t5, t6, lp⟩ := rq_loop (s0 := .sh (.str (Txt.join "\n" (h :: ys)))) (s1 := .sh (.list ((h :: ys).map .str))) (s3 := .sh (.tuple as)) hp 0 [] .no .no .no (by rw [List.length_nil]; omega)
  unfold F_requests_in
  refine callX_rt rfl (ρ := [.sh (.str (Txt.join "\n" (h :: ys))), .sh (.list ((h :: ys).map .str)), .sh (.list ([] ++ ds.map .tuple)), .sh (.tuple as), t4, t5, t6]) ?_
  unfold g_requests_in
  exact seq_nx S1 (seq_nx S2 (seq_nx S3 (seq_nx (sFor_nx rs lp) (rq_e (by decide)))))
theorem lc_two {vs : List Nat} {k : GG} {t : GT} {e : GE} : ∀ {xs ys : List D} {ρ ρ1 ρ2 : Rho} {a b : List D}, lcL vs k t e xs ρ = .ok a ρ1 → lcL vs k t e ys ρ1 = .ok b ρ2 → lcL vs k t e (xs ++ ys) ρ = .ok (a ++ b) ρ2
  | [], ys, ρ, ρ1, ρ2, a, b, h1, h2 => by cases h1; exact h2
  | x :: xs, ys, ρ, ρ1, ρ2, a, b, h1, h2 => by
    show (match k x ρ with | none => R.bad | some ρ1 => (t ρ1).bind fun c ρ2 => if c then (e ρ2).bind fun y ρ3 => (lcL vs k t e (xs ++ ys) (wipeR ρ3 vs)).map (y :: ·) else lcL vs k t e (xs ++ ys) (wipeR ρ2 vs)) = _
    have h1 : (match k x ρ with | none => R.bad | some ρ1 => (t ρ1).bind fun c ρ2 => if c then (e ρ2).bind fun y ρ3 => (lcL vs k t e xs (wipeR ρ3 vs)).map (y :: ·) else lcL vs k t e xs (wipeR ρ2 vs)) = .ok a ρ1 := h1
    split at h1
    · cases h1
    · rename_i ρ3 hk
      obtain ⟨c, ρ4, e1, h1⟩ := R.bind_ok h1
      rw [e1, R.ok_bind]
      cases c with
      | true =>
        rw [if_pos rfl] at h1 ⊢
        obtain ⟨y, ρ5, e2, h1⟩ := R.bind_ok h1
        obtain ⟨a', e3, rfl⟩ := R.map_ok h1
        rw [e2, R.ok_bind, lc_two e3 h2]
        rfl
      | false =>
        rw [if_neg Bool.false_ne_true] at h1 ⊢
        exact lc_two h1 h2
theorem lc_rep {vs : List Nat} {k : GG} {t : GT} {e : GE} {x y : D} {ρ ρ1 ρ2 ρ3 : Rho} (h1 : k x ρ = some ρ1) (h2 : t ρ1 = .ok true ρ2) (h3 : e ρ2 = .ok y ρ3) (h4 : wipeR ρ3 vs = ρ) : ∀ m : Nat, lcL vs k t e (List.replicate m x) ρ = .ok (List.replicate m y) ρ
  | 0 => rfl
  | m + 1 => by
    rw [List.replicate_succ, List.replicate_succ]
    exact lc_cons h1 h2 h3 (by rw [h4]; exact lc_rep h1 h2 h3 h4 m)
theorem an_1 {x rs : D} {as : List D} (h : F_requests_in [x] = .ok (.tuple [.tuple as, rs])) : (sToX (eCallX F_requests_in (aCons (oE (eV 0)) aNil)) (gT 2 (gsCons (gN 1) (gsCons (gN 2) gsNil)))) [.sh x, .no, .no, .no, .no, .no, .no, .no] = .nx [.sh x, .sh (.tuple as), .sh rs, .no, .no, .no, .no, .no] := by
  walk_at "evh"
theorem an_2 {x rs : D} {as : List D} : (sHall 3 6 gi_Hall (eV 1)) [.sh x, .sh (.tuple as), .sh rs, .no, .no, .no, .no, .no] = .nx [.sh x, .sh (.tuple as), .sh rs, .hl 6, .no, .no, .gw [.tuple as], .gw []] := rfl
theorem an_s {rs : List D} {s0 s1 s3 s4 s5 s6 s7 : Sl} : (gSeq (eV 2)) [s0, s1, .sh (.list rs), s3, s4, s5, s6, s7] = .ok rs [s0, s1, .sh (.list rs), s3, s4, s5, s6, s7] := rfl
theorem ans_ok {x : Str} {as rs ys : List D} {ρ2 : Rho} (h1 : F_requests_in [.str x] = .ok (.tuple [.tuple as, .list rs])) (hz : rs.length ≤ 1000) (h2 : lcL [4, 5] (gT 2 (gsCons (gN 4) (gsCons (gN 5) gsNil))) gYes ce_answers_1 rs [.sh (.str x), .sh (.tuple as), .sh (.list rs), .hl 6, .no, .no, .gw [.tuple as], .gw []] = .ok ys ρ2) :
    F_answers [.str x] = .ok ys := by
  have lc := eLc_ok (vs := [4, 5]) (k := gT 2 (gsCons (gN 4) (gsCons (gN 5) gsNil))) (t := gYes) (e := ce_answers_1) (an_s (rs := rs) (s0 := .sh (.str x)) (s1 := .sh (.tuple as)) (s3 := .hl 6) (s4 := .no) (s5 := .no) (s6 := .gw [.tuple as]) (s7 := .gw [])) (size_of (by omega)) h2
  unfold F_answers
  refine callXF_rf rfl (ρ := wipeR ρ2 [4, 5]) ?_
  unfold g_answers
  refine seq_nx (an_1 h1) (seq_nx an_2 ?_)
  show (eLc _ _ _ _ _ _).to _ = _
  rw [lc]
  rfl
end W
namespace W
open PySem L2 DL
local macro_rules | `(tactic| walk_at "ev") => `(tactic| simp only [eC, eV, oE, oV, eL, eT, aNil, aCons, eOp2, eOp1, eApp, tstE, eB, tNotG, tAndG, tOrG, eAndG, eOrG, eNotG, eIf, eSeq, eCall, eCallO, eCallB, eCallBF, eCallBX, sSeq, sNext, sRet, sRetF, sRetO, sRetN, sDrop, sIf, sSet, sSetO, sBreak, sCont, sBad, sPar, sPar3, fz, sFz, eCallW, idL, sApp, sPutIx, sAug, sFor, gN, gT, gsCons, gsNil, gYes, eLc, gSeq, nS, nF, Nw.sl, R.ok_bind, R.ok_map, R.lift_some, to_ok, toX_ok, toX_ex, bind_nx, bind_rt, bind_rf, bind_ex, bind_bk, bind_ct, at_ok, at_ex, res_val, map_ex, rbind_ex, Op.res, resA, valA, isOw, box0, Option.map_some, Option.bind_some, sHeardT, nlCons, nlNil, Nw.dat, mSet, eChain, eRg1, eRg2, eSl, pNo, pSo,
  List.getElem?_cons_zero, List.getElem?_cons_succ, List.set_cons_zero, List.set_cons_succ, List.length_cons, List.length_nil, if_true, if_false, Bool.false_eq_true, ite_true, ite_false, reduceIte,
  addU_int, subD_int, ltD_int, leD_int, gtD_int, geD_int, negD_int, absD_int, intD_bool, intD_int, lenD_list, lenD_tuple, lenD_scr, pow10_7, pow10_18, pow10_40, eqW_ints, neW_ints, eqW_strs, neW_strs, eqW_none, eqW_in, eqW_ni, ixD_list, ixD_tuple, ixD_scr, atI_3_0, atI_3_1, atI_3_2, ixN_3_0, ixN_3_1, ixN_3_2, wipeR, zip2D, skOf, isiD_n, isiD_b, isiD_i, isiD_s, isiD_l, isiD_t, isiTD_n, isiTD_b, isiTD_i, isiTD_s, isiTD_l, isiTD_t, isiAny, eCallX, eCallWX, xE, xIf, xL, xCb1, sSetX, sRetX, sDropX, sRaise, sTo, eMk, isX_n, sKeep, kt_ll, kt_lt, kt_ls, kt_li, kt_lb, kt_tl, kt_tt, kt_ts, kt_ti, kt_tb, kt_sl, kt_st, kt_ss, kt_si, kt_sb, kt_il, kt_it, kt_is, kt_ii, kt_ib, kt_bl, kt_bt, kt_bs, kt_bi, kt_bb, kt_nl, kt_nt, kt_ns, kt_ni, kt_nb, eqW_bools, neW_bools, isD_none, isNotD_none, isNoneD, isNone_e, List.map_cons, List.map_nil, List.replicate, List.append_nil, List.cons_append, List.nil_append, nc0, nc1, nc2, nc3, nc4, nc5, nc6, nc7, nc8, nc9, nc10, nc11, nc12, nc13, nc14, nc15, nc16, nc17, nc18, nc19, nc20, Nat.reduceAdd, Nat.reduceSub, ne_eq, decide_true, decide_false, not_true_eq_false, not_false_eq_true, reduceCtorEq, Bool.and_true, Bool.true_and, Bool.and_false, Bool.false_and, Bool.or_true, Bool.true_or, Bool.or_false, Bool.false_or, Bool.not_true, Bool.not_false, eJoin, repS])
local macro_rules | `(tactic| walk_at "evh") => `(tactic| simp only [eC, eV, oE, oV, eL, eT, aNil, aCons, eOp2, eOp1, eApp, tstE, eB, tNotG, tAndG, tOrG, eAndG, eOrG, eNotG, eIf, eSeq, eCall, eCallO, eCallB, eCallBF, eCallBX, sSeq, sNext, sRet, sRetF, sRetO, sRetN, sDrop, sIf, sSet, sSetO, sBreak, sCont, sBad, sPar, sPar3, fz, sFz, eCallW, idL, sApp, sPutIx, sAug, sFor, gN, gT, gsCons, gsNil, gYes, eLc, gSeq, nS, nF, Nw.sl, R.ok_bind, R.ok_map, R.lift_some, to_ok, toX_ok, toX_ex, bind_nx, bind_rt, bind_rf, bind_ex, bind_bk, bind_ct, at_ok, at_ex, res_val, map_ex, rbind_ex, Op.res, resA, valA, isOw, box0, Option.map_some, Option.bind_some, sHeardT, nlCons, nlNil, Nw.dat, mSet, eChain, eRg1, eRg2, eSl, pNo, pSo,
  List.getElem?_cons_zero, List.getElem?_cons_succ, List.set_cons_zero, List.set_cons_succ, List.length_cons, List.length_nil, if_true, if_false, Bool.false_eq_true, ite_true, ite_false, reduceIte,
  addU_int, subD_int, ltD_int, leD_int, gtD_int, geD_int, negD_int, absD_int, intD_bool, intD_int, lenD_list, lenD_tuple, lenD_scr, pow10_7, pow10_18, pow10_40, eqW_ints, neW_ints, eqW_strs, neW_strs, eqW_none, eqW_in, eqW_ni, ixD_list, ixD_tuple, ixD_scr, atI_3_0, atI_3_1, atI_3_2, ixN_3_0, ixN_3_1, ixN_3_2, wipeR, zip2D, skOf, isiD_n, isiD_b, isiD_i, isiD_s, isiD_l, isiD_t, isiTD_n, isiTD_b, isiTD_i, isiTD_s, isiTD_l, isiTD_t, isiAny, eCallX, eCallWX, xE, xIf, xL, xCb1, sSetX, sRetX, sDropX, sRaise, sTo, eMk, isX_n, sKeep, kt_ll, kt_lt, kt_ls, kt_li, kt_lb, kt_tl, kt_tt, kt_ts, kt_ti, kt_tb, kt_sl, kt_st, kt_ss, kt_si, kt_sb, kt_il, kt_it, kt_is, kt_ii, kt_ib, kt_bl, kt_bt, kt_bs, kt_bi, kt_bb, kt_nl, kt_nt, kt_ns, kt_ni, kt_nb, eqW_bools, neW_bools, isD_none, isNotD_none, isNoneD, isNone_e, List.map_cons, List.map_nil, List.replicate, List.append_nil, List.cons_append, List.nil_append, nc0, nc1, nc2, nc3, nc4, nc5, nc6, nc7, nc8, nc9, nc10, nc11, nc12, nc13, nc14, nc15, nc16, nc17, nc18, nc19, nc20, Nat.reduceAdd, Nat.reduceSub, ne_eq, decide_true, decide_false, not_true_eq_false, not_false_eq_true, reduceCtorEq, Bool.and_true, Bool.true_and, Bool.and_false, Bool.false_and, Bool.or_true, Bool.true_or, Bool.or_false, Bool.false_or, Bool.not_true, Bool.not_false, eJoin, repS, *])
theorem paired_two {α β : Type} {F : α → β → Prop} : ∀ {xs zs : List α} {ys ws : List β}, Paired F xs ys → Paired F zs ws → Paired F (xs ++ zs) (ys ++ ws)
  | _, _, _, _, .nil, h => h
  | _, _, _, _, .cons h r, h2 => .cons h (paired_two r h2)
theorem paired_rep {α β : Type} {F : α → β → Prop} {x : α} {y : β} (h : F x y) : ∀ m : Nat, Paired F (List.replicate m x) (List.replicate m y)
  | 0 => .nil
  | m + 1 => by rw [List.replicate_succ, List.replicate_succ]; exact .cons h (paired_rep h m)
theorem add_lists {a b : List D} (h : a.length + b.length ≤ 1000) : addU (.list a) (.list b) = some (.list (a ++ b)) := by
  show (addL (.list a) (.list b)).map PyData.list = _
  show (if a.length + b.length ≤ sizeLine then some (a ++ b) else none).map PyData.list = _
  rw [if_pos (by rw [sizeLine_eq]; omega)]
  rfl
theorem flat_rep {x : D} : ∀ m : Nat, (List.replicate m [x]).flatten = List.replicate m x
  | 0 => rfl
  | m + 1 => by
    rw [List.replicate_succ, List.flatten_cons, flat_rep m]
    rfl
theorem rep_list {x : D} {m : Nat} (h : m ≤ 100) : mulV (.list [x]) (.int (m : Int)) = some (.list (List.replicate m x)) := by
  rw [repLk (xs := [x]) (k := m) (by omega) (by show 1 * m ≤ 100000; omega), flat_rep]
theorem ans_two {x : Str} {as rs1 rs2 ys1 ys2 : List D} {ρ1 ρ2 : Rho} (h1 : F_requests_in [.str x] = .ok (.tuple [.tuple as, .list (rs1 ++ rs2)])) (hz : (rs1 ++ rs2).length ≤ 1000) (h2 : lcL [4, 5] (gT 2 (gsCons (gN 4) (gsCons (gN 5) gsNil))) gYes ce_answers_1 rs1 [.sh (.str x), .sh (.tuple as), .sh (.list (rs1 ++ rs2)), .hl 6, .no, .no, .gw [.tuple as], .gw []] = .ok ys1 ρ1)
    (h3 : lcL [4, 5] (gT 2 (gsCons (gN 4) (gsCons (gN 5) gsNil))) gYes ce_answers_1 rs2 ρ1 = .ok ys2 ρ2) : F_answers [.str x] = .ok (ys1 ++ ys2) := ans_ok h1 hz (lc_two h2 h3)
def H_first : Str := "0 5 2 4 0"
def L_first : List Str := ["tops",
  "dips",
  "futures",
  "rests",
  "bar 0 3 3 4 0",
  "bar 0 5 2 5 0",
  "bar 0 3 4 4 0",
  "bar 0 2 2 2 0",
  "far 0 2 2 2 0",
  "ways 0 2 2 2 0",
  "far 0 3 2 4 0",
  "far 0 5",
  "wish ? 2 ? ? ?",
  "wish ? ?",
  "call 5",
  "leave 5",
  "tell 5 1",
  "come 6 1",
  "run 3 0 3 1",
  "show",
  "go 0 4 4 4 0",
  "undo",
  "undo",
  "go 0 4 4 4 0",
  "undo"]
def R_first : List (List D) := [[.str "tops", .list []],
  [.str "dips", .list []],
  [.str "futures", .list []],
  [.str "rests", .list []],
  [.str "bar", .list [.tuple [.int 0, .int 3, .int 3, .int 4, .int 0]]],
  [.str "bar", .list [.tuple [.int 0, .int 5, .int 2, .int 5, .int 0]]],
  [.str "bar", .list [.tuple [.int 0, .int 3, .int 4, .int 4, .int 0]]],
  [.str "bar", .list [.tuple [.int 0, .int 2, .int 2, .int 2, .int 0]]],
  [.str "far", .list [.tuple [.int 0, .int 2, .int 2, .int 2, .int 0]]],
  [.str "ways", .list [.tuple [.int 0, .int 2, .int 2, .int 2, .int 0]]],
  [.str "far", .list [.tuple [.int 0, .int 3, .int 2, .int 4, .int 0]]],
  [.str "far", .list [.tuple [.int 0, .int 5]]],
  [.str "wish", .list [.tuple [.none, .int 2, .none, .none, .none]]],
  [.str "wish", .list [.tuple [.none, .none]]],
  [.str "call", .list [.int 5]],
  [.str "leave", .list [.int 5]],
  [.str "tell", .list [.int 5, .int 1]],
  [.str "come", .list [.int 6, .int 1]],
  [.str "run", .list [.list [.int 3, .int 0, .int 3, .int 1]]],
  [.str "show", .list []],
  [.str "go", .list [.tuple [.int 0, .int 4, .int 4, .int 4, .int 0]]],
  [.str "undo", .list []],
  [.str "undo", .list []],
  [.str "go", .list [.tuple [.int 0, .int 4, .int 4, .int 4, .int 0]]],
  [.str "undo", .list []]]
def O_first : List Str := ["1 3",
  "2",
  "6",
  "2",
  "run 1",
  "change 3",
  "order 1",
  "none",
  "2",
  "2",
  "refused Barred",
  "refused OtherPeople",
  "2",
  "refused OtherPeople",
  "refused NoPerson",
  "refused NoPerson",
  "refused NoPerson",
  "refused NoPlace",
  "2",
  "0 2 2 2 0",
  "refused Barred",
  "done",
  "nothing",
  "2",
  "done"]
theorem row_first : F_row_or_none [.str H_first] = some (.tuple [.int 0, .int 5, .int 2, .int 4, .int 0]) := by kernel_rfl
theorem req_first : Paired ReqOf L_first R_first := by
  unfold L_first R_first
  exact .cons (show F_request_in _ = _ by kernel_rfl) (.cons (show F_request_in _ = _ by kernel_rfl) (.cons (show F_request_in _ = _ by kernel_rfl) (.cons (show F_request_in _ = _ by kernel_rfl) (.cons (show F_request_in _ = _ by kernel_rfl) (.cons (show F_request_in _ = _ by kernel_rfl) (.cons (show F_request_in _ = _ by kernel_rfl) (.cons (show F_request_in _ = _ by kernel_rfl) (.cons (show F_request_in _ = _ by kernel_rfl) (.cons (show F_request_in _ = _ by kernel_rfl) (.cons (show F_request_in _ = _ by kernel_rfl) (.cons (show F_request_in _ = _ by kernel_rfl) (.cons (show F_request_in _ = _ by kernel_rfl) (.cons (show F_request_in _ = _ by kernel_rfl) (.cons (show F_request_in _ = _ by kernel_rfl) (.cons (show F_request_in _ = _ by kernel_rfl) (.cons (show F_request_in _ = _ by kernel_rfl) (.cons (show F_request_in _ = _ by kernel_rfl) (.cons (show F_request_in _ = _ by kernel_rfl) (.cons (show F_request_in _ = _ by kernel_rfl) (.cons (show F_request_in _ = _ by kernel_rfl) (.cons (show F_request_in _ = _ by kernel_rfl) (.cons (show F_request_in _ = _ by kernel_rfl) (.cons (show F_request_in _ = _ by kernel_rfl) (.cons (show F_request_in _ = _ by kernel_rfl) (.nil)))))))))))))))))))))))))
theorem rep_first : ReqOf "futures" [.str "futures", .list []] := by
  show F_request_in _ = _
  kernel_rfl
theorem run_first (s0 s1 s2 : Sl) : lcL [4, 5] (gT 2 (gsCons (gN 4) (gsCons (gN 5) gsNil))) gYes ce_answers_1 (R_first.map .tuple) [s0, s1, s2, .hl 6, .no, .no, .gw [.tuple [.int 0, .int 5, .int 2, .int 4, .int 0]], .gw []] = .ok (O_first.map .str) [s0, s1, s2, .hl 6, .no, .no, .gw [.tuple [.int 0, .int 5, .int 2, .int 4, .int 0]], .gw []] := by
  kernel_rfl
theorem go_first (s0 s1 s2 : Sl) : ce_answers_1 [s0, s1, s2, .hl 6, .sh (.str "futures"), .sh (.list []), .gw [.tuple [.int 0, .int 5, .int 2, .int 4, .int 0]], .gw []] = .ok (.str "6") [s0, s1, s2, .hl 6, .sh (.str "futures"), .sh (.list []), .gw [.tuple [.int 0, .int 5, .int 2, .int 4, .int 0]], .gw []] := by
  kernel_rfl
theorem reps_first (s0 s1 s2 : Sl) (m : Nat) : lcL [4, 5] (gT 2 (gsCons (gN 4) (gsCons (gN 5) gsNil))) gYes ce_answers_1 (List.replicate m (.tuple [.str "futures", .list []])) [s0, s1, s2, .hl 6, .no, .no, .gw [.tuple [.int 0, .int 5, .int 2, .int 4, .int 0]], .gw []] = .ok (List.replicate m (.str "6")) [s0, s1, s2, .hl 6, .no, .no, .gw [.tuple [.int 0, .int 5, .int 2, .int 4, .int 0]], .gw []] :=
  lc_rep (ρ1 := [s0, s1, s2, .hl 6, .sh (.str "futures"), .sh (.list []), .gw [.tuple [.int 0, .int 5, .int 2, .int 4, .int 0]], .gw []]) (ρ2 := [s0, s1, s2, .hl 6, .sh (.str "futures"), .sh (.list []), .gw [.tuple [.int 0, .int 5, .int 2, .int 4, .int 0]], .gw []]) (ρ3 := [s0, s1, s2, .hl 6, .sh (.str "futures"), .sh (.list []), .gw [.tuple [.int 0, .int 5, .int 2, .int 4, .int 0]], .gw []]) rfl rfl (go_first s0 s1 s2) rfl m
theorem all_first {m : Nat} (hm : m ≤ 31) : ∃ T, joinS (.str "\n") (.list ((H_first :: (L_first ++ List.replicate m ("futures" : Str))).map .str)) = some (.str T) ∧ F_answers [.str T] = .ok ((O_first ++ List.replicate m ("6" : Str)).map .str) := by
  have nb : (H_first :: ("futures" : Str) :: L_first).all (fun w => !w.cps.toList.contains 10 && decide (w.length ≤ 2000)) = true := by kernel_rfl
  have nw : ∀ w ∈ H_first :: (L_first ++ List.replicate m ("futures" : Str)), 10 ∉ w.cps.toList ∧ w.length ≤ 2000 := fun w hw => by
    have hw2 : w ∈ H_first :: ("futures" : Str) :: L_first := by
      rcases List.mem_cons.mp hw with z | z
      · exact z ▸ List.mem_cons_self ..
      · rcases List.mem_append.mp z with z | z
        · exact List.mem_cons_of_mem _ (List.mem_cons_of_mem _ z)
        · rw [(List.mem_replicate.mp z).2]; exact List.mem_cons_of_mem _ (List.mem_cons_self ..)
    have a := List.all_eq_true.mp nb w hw2
    rw [Bool.and_eq_true, Bool.not_eq_true', decide_eq_true_eq] at a
    exact ⟨fun z => (by rw [List.contains_iff_mem.mpr z] at a; exact nomatch a.1), a.2⟩
  have ll : L_first.length = 25 := rfl
  have lm : (H_first :: (L_first ++ List.replicate m ("futures" : Str))).length ≤ 100 := by rw [List.length_cons, List.length_append, List.length_replicate, ll]; omega
  obtain ⟨j, _⟩ := nl_eq (fun w hw => (nw w hw).2) lm
  refine ⟨_, j, ?_⟩
  have rq := reqs_ok row_first (by decide) (paired_two req_first (paired_rep rep_first m)) (by rw [List.length_append, List.length_replicate, ll]; omega) (fun w hw => (nw w hw).1) fun w hw => (nw w hw).2
  have rl : R_first.length = 25 := rfl
  rw [List.map_append, List.map_replicate] at rq
  rw [List.map_append, List.map_replicate]
  exact ans_two rq (by rw [List.length_append, List.length_map, List.length_replicate, rl]; omega) (run_first _ _ _) (reps_first _ _ _ m)
def H_second : Str := "0 10000000000000000000000000000000000000000 -10000000000000000000000000000000000000000"
def L_second : List Str := ["futures",
  "tell 2 -5",
  "come 3 7",
  "tops",
  "dips",
  "show",
  "rests",
  "call 2",
  "call 1",
  "show",
  "ways 0 0 0 7",
  "undo",
  "undo",
  "far 0 0 0 7",
  "ways 0 0 0 7",
  "ways 0 7 7 7",
  "wish ? ? 7 ?",
  "leave 1"]
def R_second : List (List D) := [[.str "futures", .list []],
  [.str "tell", .list [.int 2, .int (-5)]],
  [.str "come", .list [.int 3, .int 7]],
  [.str "tops", .list []],
  [.str "dips", .list []],
  [.str "show", .list []],
  [.str "rests", .list []],
  [.str "call", .list [.int 2]],
  [.str "call", .list [.int 1]],
  [.str "show", .list []],
  [.str "ways", .list [.tuple [.int 0, .int 0, .int 0, .int 7]]],
  [.str "undo", .list []],
  [.str "undo", .list []],
  [.str "far", .list [.tuple [.int 0, .int 0, .int 0, .int 7]]],
  [.str "ways", .list [.tuple [.int 0, .int 0, .int 0, .int 7]]],
  [.str "ways", .list [.tuple [.int 0, .int 7, .int 7, .int 7]]],
  [.str "wish", .list [.tuple [.none, .none, .int 7, .none]]],
  [.str "leave", .list [.int 1]]]
def O_second : List Str := ["2",
  "-10000000000000000000000000000000000000000",
  "4",
  "1",
  "2",
  "0 10000000000000000000000000000000000000000 -5 7",
  "2",
  "7",
  "7",
  "0 7 7 7",
  "refused Barred",
  "done",
  "done",
  "2",
  "1",
  "1",
  "2",
  "10000000000000000000000000000000000000000"]
theorem row_second : F_row_or_none [.str H_second] = some (.tuple [.int 0, .int 10000000000000000000000000000000000000000, .int (-10000000000000000000000000000000000000000)]) := by kernel_rfl
theorem req_second : Paired ReqOf L_second R_second := by
  unfold L_second R_second
  exact .cons (show F_request_in _ = _ by kernel_rfl) (.cons (show F_request_in _ = _ by kernel_rfl) (.cons (show F_request_in _ = _ by kernel_rfl) (.cons (show F_request_in _ = _ by kernel_rfl) (.cons (show F_request_in _ = _ by kernel_rfl) (.cons (show F_request_in _ = _ by kernel_rfl) (.cons (show F_request_in _ = _ by kernel_rfl) (.cons (show F_request_in _ = _ by kernel_rfl) (.cons (show F_request_in _ = _ by kernel_rfl) (.cons (show F_request_in _ = _ by kernel_rfl) (.cons (show F_request_in _ = _ by kernel_rfl) (.cons (show F_request_in _ = _ by kernel_rfl) (.cons (show F_request_in _ = _ by kernel_rfl) (.cons (show F_request_in _ = _ by kernel_rfl) (.cons (show F_request_in _ = _ by kernel_rfl) (.cons (show F_request_in _ = _ by kernel_rfl) (.cons (show F_request_in _ = _ by kernel_rfl) (.cons (show F_request_in _ = _ by kernel_rfl) (.nil))))))))))))))))))
theorem rep_second : ReqOf "futures" [.str "futures", .list []] := by
  show F_request_in _ = _
  kernel_rfl
theorem run_second (s0 s1 s2 : Sl) : lcL [4, 5] (gT 2 (gsCons (gN 4) (gsCons (gN 5) gsNil))) gYes ce_answers_1 (R_second.map .tuple) [s0, s1, s2, .hl 6, .no, .no, .gw [.tuple [.int 0, .int 10000000000000000000000000000000000000000, .int (-10000000000000000000000000000000000000000)]], .gw []] = .ok (O_second.map .str) [s0, s1, s2, .hl 6, .no, .no, .gw [.tuple [.int 0, .int 10000000000000000000000000000000000000000, .int (-10000000000000000000000000000000000000000)], .tuple [.int 0, .int 10000000000000000000000000000000000000000, .int (-5)], .tuple [.int 0, .int 10000000000000000000000000000000000000000, .int (-5), .int 7], .tuple [.int 0, .int (-5), .int 7]], .gw []] := by
  kernel_rfl
theorem go_second (s0 s1 s2 : Sl) : ce_answers_1 [s0, s1, s2, .hl 6, .sh (.str "futures"), .sh (.list []), .gw [.tuple [.int 0, .int 10000000000000000000000000000000000000000, .int (-10000000000000000000000000000000000000000)], .tuple [.int 0, .int 10000000000000000000000000000000000000000, .int (-5)], .tuple [.int 0, .int 10000000000000000000000000000000000000000, .int (-5), .int 7], .tuple [.int 0, .int (-5), .int 7]], .gw []] = .ok (.str "2") [s0, s1, s2, .hl 6, .sh (.str "futures"), .sh (.list []), .gw [.tuple [.int 0, .int 10000000000000000000000000000000000000000, .int (-10000000000000000000000000000000000000000)], .tuple [.int 0, .int 10000000000000000000000000000000000000000, .int (-5)], .tuple [.int 0, .int 10000000000000000000000000000000000000000, .int (-5), .int 7], .tuple [.int 0, .int (-5), .int 7]], .gw []] := by
  kernel_rfl
theorem reps_second (s0 s1 s2 : Sl) (m : Nat) : lcL [4, 5] (gT 2 (gsCons (gN 4) (gsCons (gN 5) gsNil))) gYes ce_answers_1 (List.replicate m (.tuple [.str "futures", .list []])) [s0, s1, s2, .hl 6, .no, .no, .gw [.tuple [.int 0, .int 10000000000000000000000000000000000000000, .int (-10000000000000000000000000000000000000000)], .tuple [.int 0, .int 10000000000000000000000000000000000000000, .int (-5)], .tuple [.int 0, .int 10000000000000000000000000000000000000000, .int (-5), .int 7], .tuple [.int 0, .int (-5), .int 7]], .gw []] = .ok (List.replicate m (.str "2")) [s0, s1, s2, .hl 6, .no, .no, .gw [.tuple [.int 0, .int 10000000000000000000000000000000000000000, .int (-10000000000000000000000000000000000000000)], .tuple [.int 0, .int 10000000000000000000000000000000000000000, .int (-5)], .tuple [.int 0, .int 10000000000000000000000000000000000000000, .int (-5), .int 7], .tuple [.int 0, .int (-5), .int 7]], .gw []] :=
  lc_rep (ρ1 := [s0, s1, s2, .hl 6, .sh (.str "futures"), .sh (.list []), .gw [.tuple [.int 0, .int 10000000000000000000000000000000000000000, .int (-10000000000000000000000000000000000000000)], .tuple [.int 0, .int 10000000000000000000000000000000000000000, .int (-5)], .tuple [.int 0, .int 10000000000000000000000000000000000000000, .int (-5), .int 7], .tuple [.int 0, .int (-5), .int 7]], .gw []]) (ρ2 := [s0, s1, s2, .hl 6, .sh (.str "futures"), .sh (.list []), .gw [.tuple [.int 0, .int 10000000000000000000000000000000000000000, .int (-10000000000000000000000000000000000000000)], .tuple [.int 0, .int 10000000000000000000000000000000000000000, .int (-5)], .tuple [.int 0, .int 10000000000000000000000000000000000000000, .int (-5), .int 7], .tuple [.int 0, .int (-5), .int 7]], .gw []]) (ρ3 := [s0, s1, s2, .hl 6, .sh (.str "futures"), .sh (.list []), .gw [.tuple [.int 0, .int 10000000000000000000000000000000000000000, .int (-10000000000000000000000000000000000000000)], .tuple [.int 0, .int 10000000000000000000000000000000000000000, .int (-5)], .tuple [.int 0, .int 10000000000000000000000000000000000000000, .int (-5), .int 7], .tuple [.int 0, .int (-5), .int 7]], .gw []]) rfl rfl (go_second s0 s1 s2) rfl m
theorem all_second {m : Nat} (hm : m ≤ 31) : ∃ T, joinS (.str "\n") (.list ((H_second :: (L_second ++ List.replicate m ("futures" : Str))).map .str)) = some (.str T) ∧ F_answers [.str T] = .ok ((O_second ++ List.replicate m ("2" : Str)).map .str) := by
  have nb : (H_second :: ("futures" : Str) :: L_second).all (fun w => !w.cps.toList.contains 10 && decide (w.length ≤ 2000)) = true := by kernel_rfl
  have nw : ∀ w ∈ H_second :: (L_second ++ List.replicate m ("futures" : Str)), 10 ∉ w.cps.toList ∧ w.length ≤ 2000 := fun w hw => by
    have hw2 : w ∈ H_second :: ("futures" : Str) :: L_second := by
      rcases List.mem_cons.mp hw with z | z
      · exact z ▸ List.mem_cons_self ..
      · rcases List.mem_append.mp z with z | z
        · exact List.mem_cons_of_mem _ (List.mem_cons_of_mem _ z)
        · rw [(List.mem_replicate.mp z).2]; exact List.mem_cons_of_mem _ (List.mem_cons_self ..)
    have a := List.all_eq_true.mp nb w hw2
    rw [Bool.and_eq_true, Bool.not_eq_true', decide_eq_true_eq] at a
    exact ⟨fun z => (by rw [List.contains_iff_mem.mpr z] at a; exact nomatch a.1), a.2⟩
  have ll : L_second.length = 18 := rfl
  have lm : (H_second :: (L_second ++ List.replicate m ("futures" : Str))).length ≤ 100 := by rw [List.length_cons, List.length_append, List.length_replicate, ll]; omega
  obtain ⟨j, _⟩ := nl_eq (fun w hw => (nw w hw).2) lm
  refine ⟨_, j, ?_⟩
  have rq := reqs_ok row_second (by decide) (paired_two req_second (paired_rep rep_second m)) (by rw [List.length_append, List.length_replicate, ll]; omega) (fun w hw => (nw w hw).1) fun w hw => (nw w hw).2
  have rl : R_second.length = 18 := rfl
  rw [List.map_append, List.map_replicate] at rq
  rw [List.map_append, List.map_replicate]
  exact ans_two rq (by rw [List.length_append, List.length_map, List.length_replicate, rl]; omega) (run_second _ _ _) (reps_second _ _ _ m)
def H_third : Str := "0 9 0 9 0 9 0 9 0 9 0 9 0 9 0 9"
def L_third : List Str := ["come 0 1",
  "tops",
  "far 0 0 0 0 0 0 0 0 0 0 0 0 0 0 0 9",
  "ways 0 0 0 0 0 0 0 0 0 0 0 0 0 0 0 9",
  "far 0 9 9 9 9 9 9 9 9 9 9 9 9 9 9 9",
  "go 0 0 0 0 0 0 0 0 0 0 0 0 0 0 0 9",
  "show",
  "futures",
  "undo",
  "call 1",
  "call 2",
  "call 3",
  "bar 0 0 0 0 0 0 0 0 0 0 0 0 0 0 0 9",
  "leave 15",
  "come 15 9",
  "undo",
  "undo",
  "undo",
  "undo",
  "undo"]
def R_third : List (List D) := [[.str "come", .list [.int 0, .int 1]],
  [.str "tops", .list []],
  [.str "far", .list [.tuple [.int 0, .int 0, .int 0, .int 0, .int 0, .int 0, .int 0, .int 0, .int 0, .int 0, .int 0, .int 0, .int 0, .int 0, .int 0, .int 9]]],
  [.str "ways", .list [.tuple [.int 0, .int 0, .int 0, .int 0, .int 0, .int 0, .int 0, .int 0, .int 0, .int 0, .int 0, .int 0, .int 0, .int 0, .int 0, .int 9]]],
  [.str "far", .list [.tuple [.int 0, .int 9, .int 9, .int 9, .int 9, .int 9, .int 9, .int 9, .int 9, .int 9, .int 9, .int 9, .int 9, .int 9, .int 9, .int 9]]],
  [.str "go", .list [.tuple [.int 0, .int 0, .int 0, .int 0, .int 0, .int 0, .int 0, .int 0, .int 0, .int 0, .int 0, .int 0, .int 0, .int 0, .int 0, .int 9]]],
  [.str "show", .list []],
  [.str "futures", .list []],
  [.str "undo", .list []],
  [.str "call", .list [.int 1]],
  [.str "call", .list [.int 2]],
  [.str "call", .list [.int 3]],
  [.str "bar", .list [.tuple [.int 0, .int 0, .int 0, .int 0, .int 0, .int 0, .int 0, .int 0, .int 0, .int 0, .int 0, .int 0, .int 0, .int 0, .int 0, .int 9]]],
  [.str "leave", .list [.int 15]],
  [.str "come", .list [.int 15, .int 9]],
  [.str "undo", .list []],
  [.str "undo", .list []],
  [.str "undo", .list []],
  [.str "undo", .list []],
  [.str "undo", .list []]]
def O_third : List Str := ["refused Full",
  "1 3 5 7 9 11 13",
  "7",
  "5040",
  "7",
  "7",
  "0 0 0 0 0 0 0 0 0 0 0 0 0 0 0 9",
  "1",
  "done",
  "0",
  "0",
  "0",
  "none",
  "9",
  "16",
  "done",
  "done",
  "done",
  "done",
  "done"]
theorem row_third : F_row_or_none [.str H_third] = some (.tuple [.int 0, .int 9, .int 0, .int 9, .int 0, .int 9, .int 0, .int 9, .int 0, .int 9, .int 0, .int 9, .int 0, .int 9, .int 0, .int 9]) := by kernel_rfl
theorem req_third : Paired ReqOf L_third R_third := by
  unfold L_third R_third
  exact .cons (show F_request_in _ = _ by kernel_rfl) (.cons (show F_request_in _ = _ by kernel_rfl) (.cons (show F_request_in _ = _ by kernel_rfl) (.cons (show F_request_in _ = _ by kernel_rfl) (.cons (show F_request_in _ = _ by kernel_rfl) (.cons (show F_request_in _ = _ by kernel_rfl) (.cons (show F_request_in _ = _ by kernel_rfl) (.cons (show F_request_in _ = _ by kernel_rfl) (.cons (show F_request_in _ = _ by kernel_rfl) (.cons (show F_request_in _ = _ by kernel_rfl) (.cons (show F_request_in _ = _ by kernel_rfl) (.cons (show F_request_in _ = _ by kernel_rfl) (.cons (show F_request_in _ = _ by kernel_rfl) (.cons (show F_request_in _ = _ by kernel_rfl) (.cons (show F_request_in _ = _ by kernel_rfl) (.cons (show F_request_in _ = _ by kernel_rfl) (.cons (show F_request_in _ = _ by kernel_rfl) (.cons (show F_request_in _ = _ by kernel_rfl) (.cons (show F_request_in _ = _ by kernel_rfl) (.cons (show F_request_in _ = _ by kernel_rfl) (.nil))))))))))))))))))))
theorem rep_third : ReqOf "dips" [.str "dips", .list []] := by
  show F_request_in _ = _
  kernel_rfl
theorem run_third (s0 s1 s2 : Sl) : lcL [4, 5] (gT 2 (gsCons (gN 4) (gsCons (gN 5) gsNil))) gYes ce_answers_1 (R_third.map .tuple) [s0, s1, s2, .hl 6, .no, .no, .gw [.tuple [.int 0, .int 9, .int 0, .int 9, .int 0, .int 9, .int 0, .int 9, .int 0, .int 9, .int 0, .int 9, .int 0, .int 9, .int 0, .int 9]], .gw []] = .ok (O_third.map .str) [s0, s1, s2, .hl 6, .no, .no, .gw [.tuple [.int 0, .int 9, .int 0, .int 9, .int 0, .int 9, .int 0, .int 9, .int 0, .int 9, .int 0, .int 9, .int 0, .int 9, .int 0, .int 9]], .gw []] := by
  kernel_rfl
theorem go_third (s0 s1 s2 : Sl) : ce_answers_1 [s0, s1, s2, .hl 6, .sh (.str "dips"), .sh (.list []), .gw [.tuple [.int 0, .int 9, .int 0, .int 9, .int 0, .int 9, .int 0, .int 9, .int 0, .int 9, .int 0, .int 9, .int 0, .int 9, .int 0, .int 9]], .gw []] = .ok (.str "2 4 6 8 10 12 14") [s0, s1, s2, .hl 6, .sh (.str "dips"), .sh (.list []), .gw [.tuple [.int 0, .int 9, .int 0, .int 9, .int 0, .int 9, .int 0, .int 9, .int 0, .int 9, .int 0, .int 9, .int 0, .int 9, .int 0, .int 9]], .gw []] := by
  kernel_rfl
theorem reps_third (s0 s1 s2 : Sl) (m : Nat) : lcL [4, 5] (gT 2 (gsCons (gN 4) (gsCons (gN 5) gsNil))) gYes ce_answers_1 (List.replicate m (.tuple [.str "dips", .list []])) [s0, s1, s2, .hl 6, .no, .no, .gw [.tuple [.int 0, .int 9, .int 0, .int 9, .int 0, .int 9, .int 0, .int 9, .int 0, .int 9, .int 0, .int 9, .int 0, .int 9, .int 0, .int 9]], .gw []] = .ok (List.replicate m (.str "2 4 6 8 10 12 14")) [s0, s1, s2, .hl 6, .no, .no, .gw [.tuple [.int 0, .int 9, .int 0, .int 9, .int 0, .int 9, .int 0, .int 9, .int 0, .int 9, .int 0, .int 9, .int 0, .int 9, .int 0, .int 9]], .gw []] :=
  lc_rep (ρ1 := [s0, s1, s2, .hl 6, .sh (.str "dips"), .sh (.list []), .gw [.tuple [.int 0, .int 9, .int 0, .int 9, .int 0, .int 9, .int 0, .int 9, .int 0, .int 9, .int 0, .int 9, .int 0, .int 9, .int 0, .int 9]], .gw []]) (ρ2 := [s0, s1, s2, .hl 6, .sh (.str "dips"), .sh (.list []), .gw [.tuple [.int 0, .int 9, .int 0, .int 9, .int 0, .int 9, .int 0, .int 9, .int 0, .int 9, .int 0, .int 9, .int 0, .int 9, .int 0, .int 9]], .gw []]) (ρ3 := [s0, s1, s2, .hl 6, .sh (.str "dips"), .sh (.list []), .gw [.tuple [.int 0, .int 9, .int 0, .int 9, .int 0, .int 9, .int 0, .int 9, .int 0, .int 9, .int 0, .int 9, .int 0, .int 9, .int 0, .int 9]], .gw []]) rfl rfl (go_third s0 s1 s2) rfl m
theorem all_third {m : Nat} (hm : m ≤ 31) : ∃ T, joinS (.str "\n") (.list ((H_third :: (L_third ++ List.replicate m ("dips" : Str))).map .str)) = some (.str T) ∧ F_answers [.str T] = .ok ((O_third ++ List.replicate m ("2 4 6 8 10 12 14" : Str)).map .str) := by
  have nb : (H_third :: ("dips" : Str) :: L_third).all (fun w => !w.cps.toList.contains 10 && decide (w.length ≤ 2000)) = true := by kernel_rfl
  have nw : ∀ w ∈ H_third :: (L_third ++ List.replicate m ("dips" : Str)), 10 ∉ w.cps.toList ∧ w.length ≤ 2000 := fun w hw => by
    have hw2 : w ∈ H_third :: ("dips" : Str) :: L_third := by
      rcases List.mem_cons.mp hw with z | z
      · exact z ▸ List.mem_cons_self ..
      · rcases List.mem_append.mp z with z | z
        · exact List.mem_cons_of_mem _ (List.mem_cons_of_mem _ z)
        · rw [(List.mem_replicate.mp z).2]; exact List.mem_cons_of_mem _ (List.mem_cons_self ..)
    have a := List.all_eq_true.mp nb w hw2
    rw [Bool.and_eq_true, Bool.not_eq_true', decide_eq_true_eq] at a
    exact ⟨fun z => (by rw [List.contains_iff_mem.mpr z] at a; exact nomatch a.1), a.2⟩
  have ll : L_third.length = 20 := rfl
  have lm : (H_third :: (L_third ++ List.replicate m ("dips" : Str))).length ≤ 100 := by rw [List.length_cons, List.length_append, List.length_replicate, ll]; omega
  obtain ⟨j, _⟩ := nl_eq (fun w hw => (nw w hw).2) lm
  refine ⟨_, j, ?_⟩
  have rq := reqs_ok row_third (by decide) (paired_two req_third (paired_rep rep_third m)) (by rw [List.length_append, List.length_replicate, ll]; omega) (fun w hw => (nw w hw).1) fun w hw => (nw w hw).2
  have rl : R_third.length = 20 := rfl
  rw [List.map_append, List.map_replicate] at rq
  rw [List.map_append, List.map_replicate]
  exact ans_two rq (by rw [List.length_append, List.length_map, List.length_replicate, rl]; omega) (run_third _ _ _) (reps_third _ _ _ m)
theorem end_first {rows due F F2 G G2 : D} {m : Int} {T : Str} {ys : List D} (e1 : mulV (.list [.str "futures"]) (.int m) = some F) (e2 : addU rows F = some G) (e3 : joinS (.str "\n") G = some (.str T)) (e4 : F_answers [.str T] = .ok ys) (e5 : mulV (.list [.str "6"]) (.int m) = some F2) (e6 : addU due F2 = some G2) (e7 : F__law_same 6 [.list ys, G2] = some (.bool true)) (z : 1 ≤ sizeLine) :
    (sRet (eCall (F__law_same 6) (aCons (oE (eL (eCallX F_answers (aCons (oE (eJoin (eC (.str "\n")) (eOp2 addU (oE (eV 1)) (oE (eOp2 mulV (oE (eL (eSeq (aCons (oE (eC (.str "futures"))) aNil)))) (oE (eV 0))))))) aNil)))) (aCons (oE (eOp2 addU (oE (eV 2)) (oE (eOp2 mulV (oE (eL (eSeq (aCons (oE (eC (.str "6"))) aNil)))) (oE (eV 0)))))) aNil)))) [.sh (.int m), .sh rows, .sh due] = .rt (.bool true) [.sh (.int m), .sh rows, .sh due] := by
  walk_at "evh"
theorem pre_first {m : Int} : g__law_first_right [.sh (.int m), .no, .no] = (sRet (eCall (F__law_same 6) (aCons (oE (eL (eCallX F_answers (aCons (oE (eJoin (eC (.str "\n")) (eOp2 addU (oE (eV 1)) (oE (eOp2 mulV (oE (eL (eSeq (aCons (oE (eC (.str "futures"))) aNil)))) (oE (eV 0))))))) aNil)))) (aCons (oE (eOp2 addU (oE (eV 2)) (oE (eOp2 mulV (oE (eL (eSeq (aCons (oE (eC (.str "6"))) aNil)))) (oE (eV 0)))))) aNil)))) [.sh (.int m), .sh (.list ((H_first :: L_first).map .str)), .sh (.list (O_first.map .str))] := by
  kernel_rfl
theorem right_first {m : Nat} (hm : m ≤ 31) : F__law_first_right [.int (m : Int)] = some (.bool true) := by
  obtain ⟨T, j, a⟩ := all_first hm
  have ll : (H_first :: L_first).length = 26 := rfl
  have lo : O_first.length = 25 := rfl
  have e2 : addU (.list ((H_first :: L_first).map .str)) (.list (List.replicate m (.str "futures"))) = some (.list ((H_first :: (L_first ++ List.replicate m ("futures" : Str))).map .str)) := by
    rw [add_lists (by rw [List.length_map, List.length_replicate, ll]; omega), ← List.cons_append, List.map_append, List.map_replicate]
  have e6 : addU (.list (O_first.map .str)) (.list (List.replicate m (.str "6"))) = some (.list ((O_first ++ List.replicate m ("6" : Str)).map .str)) := by
    rw [add_lists (by rw [List.length_map, List.length_replicate, lo]; omega), List.map_append, List.map_replicate]
  have sm := same_refl 5 (d := .list ((O_first ++ List.replicate m ("6" : Str)).map .str)) (.list (by rw [List.length_map, List.length_append, List.length_replicate, lo]; exact size_of (by omega)) fun d hd => by
    obtain ⟨x, _, rfl⟩ := List.mem_map.mp hd
    exact .str _ x)
  unfold F__law_first_right
  refine callP_rt rfl (ρ := [.sh (.int (m : Int)), .sh (.list ((H_first :: L_first).map .str)), .sh (.list (O_first.map .str))]) ?_
  refine Eq.trans (pre_first (m := (m : Int))) ?_
  exact end_first (rep_list (by omega)) e2 j a (rep_list (by omega)) e6 sm (by decide)
theorem end_second {rows due F F2 G G2 : D} {m : Int} {T : Str} {ys : List D} (e1 : mulV (.list [.str "futures"]) (.int m) = some F) (e2 : addU rows F = some G) (e3 : joinS (.str "\n") G = some (.str T)) (e4 : F_answers [.str T] = .ok ys) (e5 : mulV (.list [.str "2"]) (.int m) = some F2) (e6 : addU due F2 = some G2) (e7 : F__law_same 6 [.list ys, G2] = some (.bool true)) (z : 1 ≤ sizeLine) :
    (sRet (eCall (F__law_same 6) (aCons (oE (eL (eCallX F_answers (aCons (oE (eJoin (eC (.str "\n")) (eOp2 addU (oE (eV 2)) (oE (eOp2 mulV (oE (eL (eSeq (aCons (oE (eC (.str "futures"))) aNil)))) (oE (eV 0))))))) aNil)))) (aCons (oE (eOp2 addU (oE (eV 3)) (oE (eOp2 mulV (oE (eL (eSeq (aCons (oE (eC (.str "2"))) aNil)))) (oE (eV 0)))))) aNil)))) [.sh (.int m), .sh (.str "10000000000000000000000000000000000000000"), .sh rows, .sh due] = .rt (.bool true) [.sh (.int m), .sh (.str "10000000000000000000000000000000000000000"), .sh rows, .sh due] := by
  walk_at "evh"
theorem pre_second {m : Int} : g__law_second_right [.sh (.int m), .no, .no, .no] = (sRet (eCall (F__law_same 6) (aCons (oE (eL (eCallX F_answers (aCons (oE (eJoin (eC (.str "\n")) (eOp2 addU (oE (eV 2)) (oE (eOp2 mulV (oE (eL (eSeq (aCons (oE (eC (.str "futures"))) aNil)))) (oE (eV 0))))))) aNil)))) (aCons (oE (eOp2 addU (oE (eV 3)) (oE (eOp2 mulV (oE (eL (eSeq (aCons (oE (eC (.str "2"))) aNil)))) (oE (eV 0)))))) aNil)))) [.sh (.int m), .sh (.str "10000000000000000000000000000000000000000"), .sh (.list ((H_second :: L_second).map .str)), .sh (.list (O_second.map .str))] := by
  kernel_rfl
theorem right_second {m : Nat} (hm : m ≤ 31) : F__law_second_right [.int (m : Int)] = some (.bool true) := by
  obtain ⟨T, j, a⟩ := all_second hm
  have ll : (H_second :: L_second).length = 19 := rfl
  have lo : O_second.length = 18 := rfl
  have e2 : addU (.list ((H_second :: L_second).map .str)) (.list (List.replicate m (.str "futures"))) = some (.list ((H_second :: (L_second ++ List.replicate m ("futures" : Str))).map .str)) := by
    rw [add_lists (by rw [List.length_map, List.length_replicate, ll]; omega), ← List.cons_append, List.map_append, List.map_replicate]
  have e6 : addU (.list (O_second.map .str)) (.list (List.replicate m (.str "2"))) = some (.list ((O_second ++ List.replicate m ("2" : Str)).map .str)) := by
    rw [add_lists (by rw [List.length_map, List.length_replicate, lo]; omega), List.map_append, List.map_replicate]
  have sm := same_refl 5 (d := .list ((O_second ++ List.replicate m ("2" : Str)).map .str)) (.list (by rw [List.length_map, List.length_append, List.length_replicate, lo]; exact size_of (by omega)) fun d hd => by
    obtain ⟨x, _, rfl⟩ := List.mem_map.mp hd
    exact .str _ x)
  unfold F__law_second_right
  refine callP_rt rfl (ρ := [.sh (.int (m : Int)), .sh (.str "10000000000000000000000000000000000000000"), .sh (.list ((H_second :: L_second).map .str)), .sh (.list (O_second.map .str))]) ?_
  refine Eq.trans (pre_second (m := (m : Int))) ?_
  exact end_second (rep_list (by omega)) e2 j a (rep_list (by omega)) e6 sm (by decide)
theorem end_third {rows due F F2 G G2 : D} {m : Int} {T : Str} {ys : List D} (e1 : mulV (.list [.str "dips"]) (.int m) = some F) (e2 : addU rows F = some G) (e3 : joinS (.str "\n") G = some (.str T)) (e4 : F_answers [.str T] = .ok ys) (e5 : mulV (.list [.str "2 4 6 8 10 12 14"]) (.int m) = some F2) (e6 : addU due F2 = some G2) (e7 : F__law_same 6 [.list ys, G2] = some (.bool true)) (z : 1 ≤ sizeLine) :
    (sRet (eCall (F__law_same 6) (aCons (oE (eL (eCallX F_answers (aCons (oE (eJoin (eC (.str "\n")) (eOp2 addU (oE (eV 4)) (oE (eOp2 mulV (oE (eL (eSeq (aCons (oE (eC (.str "dips"))) aNil)))) (oE (eV 0))))))) aNil)))) (aCons (oE (eOp2 addU (oE (eV 5)) (oE (eOp2 mulV (oE (eL (eSeq (aCons (oE (eC (.str "2 4 6 8 10 12 14"))) aNil)))) (oE (eV 0)))))) aNil)))) [.sh (.int m), .sh (.str "0 9 0 9 0 9 0 9 0 9 0 9 0 9 0 9"), .sh (.str "0 0 0 0 0 0 0 0 0 0 0 0 0 0 0 9"), .sh (.str "0 9 9 9 9 9 9 9 9 9 9 9 9 9 9 9"), .sh rows, .sh due] = .rt (.bool true) [.sh (.int m), .sh (.str "0 9 0 9 0 9 0 9 0 9 0 9 0 9 0 9"), .sh (.str "0 0 0 0 0 0 0 0 0 0 0 0 0 0 0 9"), .sh (.str "0 9 9 9 9 9 9 9 9 9 9 9 9 9 9 9"), .sh rows, .sh due] := by
  walk_at "evh"
theorem pre_third {m : Int} : g__law_third_right [.sh (.int m), .no, .no, .no, .no, .no] = (sRet (eCall (F__law_same 6) (aCons (oE (eL (eCallX F_answers (aCons (oE (eJoin (eC (.str "\n")) (eOp2 addU (oE (eV 4)) (oE (eOp2 mulV (oE (eL (eSeq (aCons (oE (eC (.str "dips"))) aNil)))) (oE (eV 0))))))) aNil)))) (aCons (oE (eOp2 addU (oE (eV 5)) (oE (eOp2 mulV (oE (eL (eSeq (aCons (oE (eC (.str "2 4 6 8 10 12 14"))) aNil)))) (oE (eV 0)))))) aNil)))) [.sh (.int m), .sh (.str "0 9 0 9 0 9 0 9 0 9 0 9 0 9 0 9"), .sh (.str "0 0 0 0 0 0 0 0 0 0 0 0 0 0 0 9"), .sh (.str "0 9 9 9 9 9 9 9 9 9 9 9 9 9 9 9"), .sh (.list ((H_third :: L_third).map .str)), .sh (.list (O_third.map .str))] := by
  kernel_rfl
theorem right_third {m : Nat} (hm : m ≤ 31) : F__law_third_right [.int (m : Int)] = some (.bool true) := by
  obtain ⟨T, j, a⟩ := all_third hm
  have ll : (H_third :: L_third).length = 21 := rfl
  have lo : O_third.length = 20 := rfl
  have e2 : addU (.list ((H_third :: L_third).map .str)) (.list (List.replicate m (.str "dips"))) = some (.list ((H_third :: (L_third ++ List.replicate m ("dips" : Str))).map .str)) := by
    rw [add_lists (by rw [List.length_map, List.length_replicate, ll]; omega), ← List.cons_append, List.map_append, List.map_replicate]
  have e6 : addU (.list (O_third.map .str)) (.list (List.replicate m (.str "2 4 6 8 10 12 14"))) = some (.list ((O_third ++ List.replicate m ("2 4 6 8 10 12 14" : Str)).map .str)) := by
    rw [add_lists (by rw [List.length_map, List.length_replicate, lo]; omega), List.map_append, List.map_replicate]
  have sm := same_refl 5 (d := .list ((O_third ++ List.replicate m ("2 4 6 8 10 12 14" : Str)).map .str)) (.list (by rw [List.length_map, List.length_append, List.length_replicate, lo]; exact size_of (by omega)) fun d hd => by
    obtain ⟨x, _, rfl⟩ := List.mem_map.mp hd
    exact .str _ x)
  unfold F__law_third_right
  refine callP_rt rfl (ρ := [.sh (.int (m : Int)), .sh (.str "0 9 0 9 0 9 0 9 0 9 0 9 0 9 0 9"), .sh (.str "0 0 0 0 0 0 0 0 0 0 0 0 0 0 0 9"), .sh (.str "0 9 9 9 9 9 9 9 9 9 9 9 9 9 9 9"), .sh (.list ((H_third :: L_third).map .str)), .sh (.list (O_third.map .str))]) ?_
  refine Eq.trans (pre_third (m := (m : Int))) ?_
  exact end_third (rep_list (by omega)) e2 j a (rep_list (by omega)) e6 sm (by decide)
theorem rt_go {box box1 : List D} {m : Int} (e : F__law_draw 8 box [.int 31] = some (.int m, box1)) (e1 : F__law_first_right [.int m] = some (.bool true)) (e2 : F__law_second_right [.int m] = some (.bool true)) (e3 : F__law_third_right [.int m] = some (.bool true)) : F__law_right box [] = some (.bool true, box1) := by
  unfold F__law_right callB g__law_right envB
  walk_at "evh"
theorem right_eq {n : Int} {box : List D} (hb : GoodBox n box) (hn : n < 2 ^ 30) : ∃ box', F__law_right box [] = some (.bool true, box') := by
  obtain ⟨m, box1, e, m0, m1, g⟩ := take8 (span := 31) hb (by omega) (by omega) (by omega)
  obtain ⟨k, rfl⟩ : ∃ k : Nat, m = (k : Int) := ⟨m.toNat, by omega⟩
  exact ⟨box1, rt_go e (right_first (by omega)) (right_second (by omega)) (right_third (by omega))⟩
end W
namespace W
open PySem L2 DL
local macro_rules | `(tactic| walk_at "ev") => `(tactic| simp only [eC, eV, oE, oV, eL, eT, aNil, aCons, eOp2, eOp1, eApp, tstE, eB, tNotG, tAndG, tOrG, eAndG, eOrG, eNotG, eIf, eSeq, eCall, eCallO, eCallB, eCallBF, eCallBX, sSeq, sNext, sRet, sRetF, sRetO, sRetN, sDrop, sIf, sSet, sSetO, sBreak, sCont, sBad, sPar, sPar3, fz, sFz, eCallW, idL, sApp, sPutIx, sAug, sFor, gN, gT, gsCons, gsNil, gYes, eLc, gSeq, nS, nF, Nw.sl, R.ok_bind, R.ok_map, R.lift_some, to_ok, toX_ok, toX_ex, bind_nx, bind_rt, bind_rf, bind_ex, bind_bk, bind_ct, at_ok, at_ex, res_val, map_ex, rbind_ex, Op.res, resA, valA, isOw, box0, Option.map_some, Option.bind_some, sHeardT, nlCons, nlNil, Nw.dat, mSet, eChain, eRg1, eRg2, eSl, pNo, pSo,
  List.getElem?_cons_zero, List.getElem?_cons_succ, List.set_cons_zero, List.set_cons_succ, List.length_cons, List.length_nil, if_true, if_false, Bool.false_eq_true, ite_true, ite_false, reduceIte,
  addU_int, subD_int, ltD_int, leD_int, gtD_int, geD_int, negD_int, absD_int, intD_bool, intD_int, lenD_list, lenD_tuple, lenD_scr, pow10_7, pow10_18, pow10_40, eqW_ints, neW_ints, eqW_strs, neW_strs, eqW_none, eqW_in, eqW_ni, ixD_list, ixD_tuple, ixD_scr, atI_3_0, atI_3_1, atI_3_2, ixN_3_0, ixN_3_1, ixN_3_2, wipeR, zip2D, skOf, isiD_n, isiD_b, isiD_i, isiD_s, isiD_l, isiD_t, isiTD_n, isiTD_b, isiTD_i, isiTD_s, isiTD_l, isiTD_t, isiAny, eCallX, eCallWX, xE, xIf, xL, xCb1, sSetX, sRetX, sDropX, sRaise, sTo, eMk, isX_n, sKeep, kt_ll, kt_lt, kt_ls, kt_li, kt_lb, kt_tl, kt_tt, kt_ts, kt_ti, kt_tb, kt_sl, kt_st, kt_ss, kt_si, kt_sb, kt_il, kt_it, kt_is, kt_ii, kt_ib, kt_bl, kt_bt, kt_bs, kt_bi, kt_bb, kt_nl, kt_nt, kt_ns, kt_ni, kt_nb, eqW_bools, neW_bools, isD_none, isNotD_none, isNoneD, isNone_e, List.map_cons, List.map_nil, List.replicate, List.append_nil, List.cons_append, List.nil_append, nc0, nc1, nc2, nc3, nc4, nc5, nc6, nc7, nc8, nc9, nc10, nc11, nc12, nc13, nc14, nc15, nc16, nc17, nc18, nc19, nc20, Nat.reduceAdd, Nat.reduceSub, ne_eq, decide_true, decide_false, not_true_eq_false, not_false_eq_true, reduceCtorEq, Bool.and_true, Bool.true_and, Bool.and_false, Bool.false_and, Bool.or_true, Bool.true_or, Bool.or_false, Bool.false_or, Bool.not_true, Bool.not_false])
local macro_rules | `(tactic| walk_at "evh") => `(tactic| simp only [eC, eV, oE, oV, eL, eT, aNil, aCons, eOp2, eOp1, eApp, tstE, eB, tNotG, tAndG, tOrG, eAndG, eOrG, eNotG, eIf, eSeq, eCall, eCallO, eCallB, eCallBF, eCallBX, sSeq, sNext, sRet, sRetF, sRetO, sRetN, sDrop, sIf, sSet, sSetO, sBreak, sCont, sBad, sPar, sPar3, fz, sFz, eCallW, idL, sApp, sPutIx, sAug, sFor, gN, gT, gsCons, gsNil, gYes, eLc, gSeq, nS, nF, Nw.sl, R.ok_bind, R.ok_map, R.lift_some, to_ok, toX_ok, toX_ex, bind_nx, bind_rt, bind_rf, bind_ex, bind_bk, bind_ct, at_ok, at_ex, res_val, map_ex, rbind_ex, Op.res, resA, valA, isOw, box0, Option.map_some, Option.bind_some, sHeardT, nlCons, nlNil, Nw.dat, mSet, eChain, eRg1, eRg2, eSl, pNo, pSo,
  List.getElem?_cons_zero, List.getElem?_cons_succ, List.set_cons_zero, List.set_cons_succ, List.length_cons, List.length_nil, if_true, if_false, Bool.false_eq_true, ite_true, ite_false, reduceIte,
  addU_int, subD_int, ltD_int, leD_int, gtD_int, geD_int, negD_int, absD_int, intD_bool, intD_int, lenD_list, lenD_tuple, lenD_scr, pow10_7, pow10_18, pow10_40, eqW_ints, neW_ints, eqW_strs, neW_strs, eqW_none, eqW_in, eqW_ni, ixD_list, ixD_tuple, ixD_scr, atI_3_0, atI_3_1, atI_3_2, ixN_3_0, ixN_3_1, ixN_3_2, wipeR, zip2D, skOf, isiD_n, isiD_b, isiD_i, isiD_s, isiD_l, isiD_t, isiTD_n, isiTD_b, isiTD_i, isiTD_s, isiTD_l, isiTD_t, isiAny, eCallX, eCallWX, xE, xIf, xL, xCb1, sSetX, sRetX, sDropX, sRaise, sTo, eMk, isX_n, sKeep, kt_ll, kt_lt, kt_ls, kt_li, kt_lb, kt_tl, kt_tt, kt_ts, kt_ti, kt_tb, kt_sl, kt_st, kt_ss, kt_si, kt_sb, kt_il, kt_it, kt_is, kt_ii, kt_ib, kt_bl, kt_bt, kt_bs, kt_bi, kt_bb, kt_nl, kt_nt, kt_ns, kt_ni, kt_nb, eqW_bools, neW_bools, isD_none, isNotD_none, isNoneD, isNone_e, List.map_cons, List.map_nil, List.replicate, List.append_nil, List.cons_append, List.nil_append, nc0, nc1, nc2, nc3, nc4, nc5, nc6, nc7, nc8, nc9, nc10, nc11, nc12, nc13, nc14, nc15, nc16, nc17, nc18, nc19, nc20, Nat.reduceAdd, Nat.reduceSub, ne_eq, decide_true, decide_false, not_true_eq_false, not_false_eq_true, reduceCtorEq, Bool.and_true, Bool.true_and, Bool.and_false, Bool.false_and, Bool.or_true, Bool.true_or, Bool.or_false, Bool.false_or, Bool.not_true, Bool.not_false, *])
theorem ce_go {r c : D} {k : Int} {box box' : List D} (e1 : F__law_stream [c, .int k] = some box) (e2 : F__law_right box [] = some (.bool true, box')) : ce_law_1 [.sh r, .sh c, .sh (.int k)] = .ok (.bool true) [.sh r, .sh c, .sh (.int k)] := by
  unfold ce_law_1
  walk_at "evh"
theorem lw_1 {r : D} {C : List D} (e1 : F__law_folded [r, .int 3] = some C) : (sSet 1 (eL (eCall F__law_folded (aCons (oE (eV 0)) (aCons (oE (eC (.int 3))) aNil))))) [.sh r, .no, .no] = .nx [.sh r, .sh (.list C), .no] := by
  walk_at "evh"
theorem lw_s {r c : D} {j : Int} {Rg : List D} (hj : lenD [c] = some (.int j)) (rg : rng1 [.int j] = some Rg) : (eCall rng1 (aCons (oE (eApp lenD (aCons (oE (eV 1)) aNil))) aNil)) [.sh r, .sh c, .no] = .ok Rg [.sh r, .sh c, .no] := by
  walk_at "evh"
theorem lw_2 {r c : D} {Y : List D} {g : GF} (eg : g [.sh r, .sh c, .no] = .ok Y [.sh r, .sh c, .no]) (al : allD [.list Y] = some (.bool true)) : (sRet (eApp allD (aCons (oE (eL g)) aNil))) [.sh r, .sh c, .no] = .rt (.bool true) [.sh r, .sh c, .no] := by
  walk_at "evh"
theorem law_true (ns : List Int) (hl : ns.length ≤ 63) : F_law [.dict [(.list (ns.map .int), .none)]] = some (.bool true) := by
  obtain ⟨ms, e1, m1, m2⟩ := cells_eq (ns := ns) (m := 3) (by decide)
  have rg : rng1 [.int (ms.length : Nat)] = some (rangeD 0 ms.length) := by rw [rng1_eq (by omega) (by omega), Int.toNat_natCast]
  have lc : lcL [2] (gN 2) gYes ce_law_1 (rangeD 0 ms.length) [.sh (.dict [(.list (ns.map .int), .none)]), .sh (.list (ms.map .int)), .no] = .ok ((rangeD 0 ms.length).map fun _ => PyData.bool true) [.sh (.dict [(.list (ns.map .int), .none)]), .sh (.list (ms.map .int)), .no] := by
    refine lc_map _ fun d hd => ?_
    obtain ⟨i, hi, ed⟩ := List.mem_iff_getElem.mp hd
    obtain ⟨rfl, hi⟩ := rangeD_at (List.getElem?_eq_some_iff.mpr ⟨hi, ed⟩)
    obtain ⟨box, e1, g⟩ := box_eq (ns := ms) (k := i) (by omega)
    obtain ⟨box', e2⟩ := right_eq g (by decide)
    exact ⟨_, rfl, rfl, rfl, ce_go e1 e2⟩
  unfold F_law
  refine callP_rt rfl (ρ := [.sh (.dict [(.list (ns.map .int), .none)]), .sh (.list (ms.map .int)), .no]) ?_
  show g_law [.sh (.dict [(.list (ns.map .int), .none)]), .no, .no] = _
  unfold g_law
  refine seq_nx (lw_1 e1) ?_
  exact lw_2 (eLc_ok (lw_s (by rw [lenD_list, List.length_map]) rg) (by rw [rangeD_len]; exact size_of (by omega)) lc) (all_true _)
end W
namespace W
open PySem L2 DL
def FF (K : PySem.W.Frag) (name : Str) (st : Stmt) : Prop := ∃ (f : Addr) (fd : FuncData), PySem.W.nsIn K mainGlobals name = some (some (.ref f)) ∧ Fun K name name st f fd
theorem ff_mk {K : PySem.W.Frag} {name : Str} {st : Stmt} {f : Addr} {oc : Value} {od an : Option Addr} {osl : Array (Option Value)} {kV doc pm cdv ct : Value} (a : PySem.W.nsIn K mainGlobals name = some (some (.ref f)))
    (l : K.lookup f = some ⟨oc, od, .func (PySem.W.fnOf name name (defArgs st) (defBody st) (defScope st) .none kV doc pm an cdv ct), osl⟩) (c : PySem.W.codeIn K cdv name = true) (k : PySem.W.keepIn K (.ref f) = true) : FF K name st := ⟨f, _, a, fun_mk l c k⟩
def FFm (K : PySem.W.Frag) (C : Addr) (m qual : Str) (st : Stmt) : Prop := ∃ (f : Addr) (fd : FuncData), Meth K C m f ∧ Fun K m qual st f fd
theorem ffm_mk {K : PySem.W.Frag} {C : Addr} {m qual : Str} {st : Stmt} {f : Addr} {oc : Value} {od an : Option Addr} {osl : Array (Option Value)} {kV doc pm cdv ct : Value} (a : PySem.W.findIn K (.ref C) m = some (some (.ref f))) (t : PySem.W.typeIn K (.ref f) = some (.type "function"))
    (l : K.lookup f = some ⟨oc, od, .func (PySem.W.fnOf m qual (defArgs st) (defBody st) (defScope st) .none kV doc pm an cdv ct), osl⟩) (c : PySem.W.codeIn K cdv qual = true) (k : PySem.W.keepIn K (.ref f) = true) : FFm K C m qual st := ⟨f, _, ⟨a, beq_iff_eq.mpr t, k⟩, fun_mk l c k⟩
theorem all_mk {l : PySem.W.OpenLaw} {w : World} {K : PySem.W.Frag} {h : Heap} {mg : Str → Option Value} {fa : Addr} (X : K.In h) (G : h.Ns mainGlobals mg) (hfa : mg "law" = some (.ref fa))
    {C_Hall : Addr} (f__law_folded : FF K "_law_folded" s__law_folded) (f__law_draw : FF K "_law_draw" s__law_draw) (f__law_same : FF K "_law_same" s__law_same) (f_Hall_row : FFm K C_Hall "row" "Hall.row" s_Hall_row) (f_look_person : FF K "look_person" s_look_person) (f_middle_of : FF K "middle_of" s_middle_of) (f_called : FF K "called" s_called) (f_Hall_call : FFm K C_Hall "call" "Hall.call" s_Hall_call) (f_Hall___len__ : FFm K C_Hall "__len__" "Hall.__len__" s_Hall___len__) (f_Hall_come : FFm K C_Hall "come" "Hall.come" s_Hall_come) (f_look_many : FF K "look_many" s_look_many) (f_inner : FF K "inner" s_inner) (f_dips : FF K "dips" s_dips) (f_tops : FF K "tops" s_tops) (f_wrong_changes : FF K "wrong_changes" s_wrong_changes) (f_wrong_orders : FF K "wrong_orders" s_wrong_orders) (f_runs : FF K "runs" s_runs) (f_stayed : FF K "stayed" s_stayed) (f_wrong_runs : FF K "wrong_runs" s_wrong_runs) (f_bar : FF K "bar" s_bar) (f_look_leads : FF K "look_leads" s_look_leads) (f_changed : FF K "changed" s_changed) (f_distance : FF K "distance" s_distance) (f_Hall_go : FFm K C_Hall "go" "Hall.go" s_Hall_go) (f_Hall_leave : FFm K C_Hall "leave" "Hall.leave" s_Hall_leave) (f_idle : FF K "idle" s_idle) (f_run : FF K "run" s_run) (f_Hall_run : FFm K C_Hall "run" "Hall.run" s_Hall_run) (f_Hall_tell : FFm K C_Hall "tell" "Hall.tell" s_Hall_tell) (f_Hall_done : FFm K C_Hall "done" "Hall.done" s_Hall_done) (f_bar_text : FF K "bar_text" s_bar_text) (f_open_parts : FF K "open_parts" s_open_parts) (f_choices : FF K "choices" s_choices) (f_orders : FF K "orders" s_orders) (f_ways_of : FF K "ways_of" s_ways_of) (f_ways_many : FF K "ways_many" s_ways_many) (f_look_wish : FF K "look_wish" s_look_wish) (f_parted : FF K "parted" s_parted) (f_next_state : FF K "next_state" s_next_state) (f_next_states : FF K "next_states" s_next_states) (f_endings : FF K "endings" s_endings) (f_options_of : FF K "options_of" s_options_of) (f_rows_many : FF K "rows_many" s_rows_many) (f_wish_many : FF K "wish_many" s_wish_many) (f_asked : FF K "asked" s_asked) (f_Hall_dips : FFm K C_Hall "dips" "Hall.dips" s_Hall_dips) (f_free_wish : FF K "free_wish" s_free_wish) (f_futures_many : FF K "futures_many" s_futures_many) (f_Hall_futures : FFm K C_Hall "futures" "Hall.futures" s_Hall_futures) (f_Hall_tops : FFm K C_Hall "tops" "Hall.tops" s_Hall_tops) (f_Hall_deeds : FFm K C_Hall "deeds" "Hall.deeds" s_Hall_deeds) (f_Hall_undo : FFm K C_Hall "undo" "Hall.undo" s_Hall_undo) (f_joined_text : FF K "joined_text" s_joined_text) (f_numbers_text : FF K "numbers_text" s_numbers_text) (f_rests_many : FF K "rests_many" s_rests_many) (f_row_text : FF K "row_text" s_row_text) (f_bare_answer : FF K "bare_answer" s_bare_answer) (f_answered : FF K "answered" s_answered) (f_answer : FF K "answer" s_answer) (f_count_in : FF K "count_in" s_count_in) (f_integer_in : FF K "integer_in" s_integer_in) (f_both_in : FF K "both_in" s_both_in) (f_all_or_none : FF K "all_or_none" s_all_or_none) (f_words_of : FF K "words_of" s_words_of) (f_calls_or_none : FF K "calls_or_none" s_calls_or_none) (f_one_in : FF K "one_in" s_one_in) (f_row_or_none : FF K "row_or_none" s_row_or_none) (f_wish_or_none : FF K "wish_or_none" s_wish_or_none) (f_arguments_in : FF K "arguments_in" s_arguments_in) (f_request_in : FF K "request_in" s_request_in) (f_requests_in : FF K "requests_in" s_requests_in) (f_answers : FF K "answers" s_answers) (f__law_first_right : FF K "_law_first_right" s__law_first_right) (f__law_second_right : FF K "_law_second_right" s__law_second_right) (f__law_third_right : FF K "_law_third_right" s__law_third_right) (f__law_right : FF K "_law_right" s__law_right) (f__law_stream : FF K "_law_stream" s__law_stream) (f_law : FF K "law" s_law) (al_tops_rows : PySem.W.nsIn K mainGlobals "tops_rows" = PySem.W.nsIn K mainGlobals "tops") (al_dips_rows : PySem.W.nsIn K mainGlobals "dips_rows" = PySem.W.nsIn K mainGlobals "dips") (al_run_calling : PySem.W.nsIn K mainGlobals "run_calling" = PySem.W.nsIn K mainGlobals "run")
    (z_list : PySem.W.nsIn K mainGlobals "list" = some none) (z_enumerate : PySem.W.nsIn K mainGlobals "enumerate" = some none) (z_isinstance : PySem.W.nsIn K mainGlobals "isinstance" = some none) (z_tuple : PySem.W.nsIn K mainGlobals "tuple" = some none) (z_len : PySem.W.nsIn K mainGlobals "len" = some none) (z_zip : PySem.W.nsIn K mainGlobals "zip" = some none) (z_all : PySem.W.nsIn K mainGlobals "all" = some none) (z_str : PySem.W.nsIn K mainGlobals "str" = some none) (z_bool : PySem.W.nsIn K mainGlobals "bool" = some none) (z_int : PySem.W.nsIn K mainGlobals "int" = some none) (z_LookupError : PySem.W.nsIn K mainGlobals "LookupError" = some none) (z_sorted : PySem.W.nsIn K mainGlobals "sorted" = some none) (z_OverflowError : PySem.W.nsIn K mainGlobals "OverflowError" = some none) (z_ValueError : PySem.W.nsIn K mainGlobals "ValueError" = some none) (z_range : PySem.W.nsIn K mainGlobals "range" = some none) (z_RuntimeError : PySem.W.nsIn K mainGlobals "RuntimeError" = some none) (z_dict : PySem.W.nsIn K mainGlobals "dict" = some none) (z_sum : PySem.W.nsIn K mainGlobals "sum" = some none) (z_set : PySem.W.nsIn K mainGlobals "set" = some none) (z_abs : PySem.W.nsIn K mainGlobals "abs" = some none) {u_MOST_PEOPLE : Tok} (w_MOST_PEOPLE : PySem.W.nsIn K mainGlobals "MOST_PEOPLE" = some (some (.int 16 u_MOST_PEOPLE))) {u_ORDER : Tok} (w_ORDER : PySem.W.nsIn K mainGlobals "ORDER" = some (some (.str "order" u_ORDER))) {u_CHANGE : Tok} (w_CHANGE : PySem.W.nsIn K mainGlobals "CHANGE" = some (some (.str "change" u_CHANGE))) {u_RUN_leading : Tok} (w_RUN_leading : PySem.W.nsIn K mainGlobals "RUN_leading" = some (some (.str "run" u_RUN_leading))) {u_BLANK : Tok} (w_BLANK : PySem.W.nsIn K mainGlobals "BLANK" = some (some (.str " " u_BLANK))) {u_EMPTY : Tok} (w_EMPTY : PySem.W.nsIn K mainGlobals "EMPTY" = some (some (.str "-" u_EMPTY))) {u_SIZES : Addr} (w_SIZES : PySem.W.nsIn K mainGlobals "SIZES" = some (some (.ref u_SIZES))) {es_SIZES : Array DictEntry} {n_SIZES : Nat} (qa_SIZES : K.lookup u_SIZES = some ⟨.type "dict", none, .dict es_SIZES n_SIZES, #[]⟩) (ql_SIZES : PySem.W.KeysLit w.params es_SIZES.toList) (qb_SIZES : (u_SIZES == sysModules) = false) (qk_SIZES : es_SIZES.toList.map keyOfE = (["call", "run", "go", "tell", "come", "leave"] : List Str)) {u_MOST_DIGITS : Tok} (w_MOST_DIGITS : PySem.W.nsIn K mainGlobals "MOST_DIGITS" = some (some (.int 50 u_MOST_DIGITS))) {u_DIGITS : Tok} (w_DIGITS : PySem.W.nsIn K mainGlobals "DIGITS" = some (some (.str "0123456789" u_DIGITS))) {u_MINUS : Tok} (w_MINUS : PySem.W.nsIn K mainGlobals "MINUS" = some (some (.str "-" u_MINUS))) {u_OPEN : Tok} (w_OPEN : PySem.W.nsIn K mainGlobals "OPEN" = some (some (.str "?" u_OPEN))) {u_WITH_PERSON : Addr} (w_WITH_PERSON : PySem.W.nsIn K mainGlobals "WITH_PERSON" = some (some (.ref u_WITH_PERSON))) {od_WITH_PERSON : Option Addr} {es_WITH_PERSON : Array Value} {n_WITH_PERSON : Nat} {sl_WITH_PERSON : Array (Option Value)} (qa_WITH_PERSON : K.lookup u_WITH_PERSON = some ⟨.type "tuple", od_WITH_PERSON, .seq es_WITH_PERSON n_WITH_PERSON, sl_WITH_PERSON⟩) (qs_WITH_PERSON : es_WITH_PERSON.size ≤ sizeLine) (qv_WITH_PERSON : Vals ((["call", "leave"] : List Str).map V.str) es_WITH_PERSON.toList) {u_WITH_BOTH : Addr} (w_WITH_BOTH : PySem.W.nsIn K mainGlobals "WITH_BOTH" = some (some (.ref u_WITH_BOTH))) {od_WITH_BOTH : Option Addr} {es_WITH_BOTH : Array Value} {n_WITH_BOTH : Nat} {sl_WITH_BOTH : Array (Option Value)} (qa_WITH_BOTH : K.lookup u_WITH_BOTH = some ⟨.type "tuple", od_WITH_BOTH, .seq es_WITH_BOTH n_WITH_BOTH, sl_WITH_BOTH⟩) (qs_WITH_BOTH : es_WITH_BOTH.size ≤ sizeLine) (qv_WITH_BOTH : Vals ((["tell", "come"] : List Str).map V.str) es_WITH_BOTH.toList) {u_WITH_ROW : Addr} (w_WITH_ROW : PySem.W.nsIn K mainGlobals "WITH_ROW" = some (some (.ref u_WITH_ROW))) {od_WITH_ROW : Option Addr} {es_WITH_ROW : Array Value} {n_WITH_ROW : Nat} {sl_WITH_ROW : Array (Option Value)} (qa_WITH_ROW : K.lookup u_WITH_ROW = some ⟨.type "tuple", od_WITH_ROW, .seq es_WITH_ROW n_WITH_ROW, sl_WITH_ROW⟩) (qs_WITH_ROW : es_WITH_ROW.size ≤ sizeLine) (qv_WITH_ROW : Vals ((["go", "far", "ways", "bar"] : List Str).map V.str) es_WITH_ROW.toList) {u_RUN_desklines : Tok} (w_RUN_desklines : PySem.W.nsIn K mainGlobals "RUN_desklines" = some (some (.str "run" u_RUN_desklines))) {u_WISH : Tok} (w_WISH : PySem.W.nsIn K mainGlobals "WISH" = some (some (.str "wish" u_WISH))) {u_ALONE : Addr} (w_ALONE : PySem.W.nsIn K mainGlobals "ALONE" = some (some (.ref u_ALONE))) {od_ALONE : Option Addr} {es_ALONE : Array Value} {n_ALONE : Nat} {sl_ALONE : Array (Option Value)} (qa_ALONE : K.lookup u_ALONE = some ⟨.type "tuple", od_ALONE, .seq es_ALONE n_ALONE, sl_ALONE⟩) (qs_ALONE : es_ALONE.size ≤ sizeLine) (qv_ALONE : Vals ((["undo", "show", "tops", "dips", "futures", "rests"] : List Str).map V.str) es_ALONE.toList)
        (aC_Hall : PySem.W.nsIn K mainGlobals "Hall" = some (some (.ref C_Hall))) (pg_Hall : PySem.W.plainGet K C_Hall Str.empty = true) (hd_Hall : PySem.W.hasDictIn K C_Hall = true) (po_Hall : PySem.W.plainOver K C_Hall = true) (sa_Hall : PySem.W.findIn K (.ref C_Hall) "__setattr__" = some (some (.builtin "object.__setattr__"))) (nr_Hall : PySem.W.findIn K (.ref C_Hall) "own_rows" = some none) (nl_Hall : PySem.W.findIn K (.ref C_Hall) "own_log" = some none)
    {fi_Hall : Addr} (mk_Hall : PySem.W.makesIn K C_Hall = true) (iC_Hall : PySem.W.findIn K (.ref C_Hall) "__init__" = some (some (.ref fi_Hall))) (ti_Hall : PySem.W.typeIn K (.ref fi_Hall) = some (.type "function")) (kp_Hall : PySem.W.keepIn K (.ref C_Hall) = true)
    {T_Hall : Addr} {v_Hall c1_Hall : Value} {d1_Hall : Option Addr} {n_Hall : Nat} {s1_Hall : Array (Option Value)} {oc_Hall kV_Hall doc_Hall pm_Hall cdv_Hall ct_Hall : Value} {od_Hall an_Hall : Option Addr} {osl_Hall : Array (Option Value)}
    (li_Hall : K.lookup fi_Hall = some ⟨oc_Hall, od_Hall, .func (PySem.W.fnOf "__init__" "Hall.__init__" (defArgs si_Hall) (defBody si_Hall) (defScope si_Hall) (.ref T_Hall) kV_Hall doc_Hall pm_Hall an_Hall cdv_Hall ct_Hall), osl_Hall⟩) (lT_Hall : K.lookup T_Hall = some ⟨c1_Hall, d1_Hall, .seq #[v_Hall] n_Hall, s1_Hall⟩) (ci_Hall : PySem.W.codeIn K cdv_Hall "Hall.__init__" = true) (ki_Hall : PySem.W.keepIn K (.ref fi_Hall) = true)
    {C_NoPerson : Addr} (aC_NoPerson : PySem.W.nsIn K mainGlobals "NoPerson" = some (some (.ref C_NoPerson)))
    {C_NoPlace : Addr} (aC_NoPlace : PySem.W.nsIn K mainGlobals "NoPlace" = some (some (.ref C_NoPlace)))
    {C_Full : Addr} (aC_Full : PySem.W.nsIn K mainGlobals "Full" = some (some (.ref C_Full)))
    {C_OtherPeople : Addr} (aC_OtherPeople : PySem.W.nsIn K mainGlobals "OtherPeople" = some (some (.ref C_OtherPeople)))
    {C_Barred : Addr} (aC_Barred : PySem.W.nsIn K mainGlobals "Barred" = some (some (.ref C_Barred)))
    {C_BadLine : Addr} (aC_BadLine : PySem.W.nsIn K mainGlobals "BadLine" = some (some (.ref C_BadLine)))
    {f_iNoPerson N_NoPerson : Addr} {nm_NoPerson q_NoPerson : Str} {bs_NoPerson sub_NoPerson : List Value} {sn_NoPerson : List Str} {ab_NoPerson : Bool} {col_NoPerson : Option Bool} {dd_NoPerson : Option Addr} {k0_NoPerson k1_NoPerson k2_NoPerson k3_NoPerson k5_NoPerson : Option Value}
    {oc_NoPerson kV_NoPerson doc_NoPerson pm_NoPerson cdv_NoPerson ct_NoPerson : Value} {od_NoPerson an_NoPerson : Option Addr} {osl_NoPerson : Array (Option Value)}
    (xL_NoPerson : K.lookup C_NoPerson = some (excClassObj nm_NoPerson q_NoPerson C_NoPerson N_NoPerson bs_NoPerson tl_LookupError true sn_NoPerson sub_NoPerson ab_NoPerson col_NoPerson dd_NoPerson k0_NoPerson k1_NoPerson k2_NoPerson k3_NoPerson k5_NoPerson "LookupError.__new__"))
    (sa_NoPerson : PySem.W.findIn K (.ref C_NoPerson) "__setattr__" = some (some (.builtin "object.__setattr__"))) (ex_NoPerson : PySem.W.subIn K (.ref C_NoPerson) (.type "BaseException") = some true) (ty_NoPerson : PySem.W.typeIn K (.ref C_NoPerson) = some (.type "type")) (kp_NoPerson : PySem.W.keepIn K (.ref C_NoPerson) = true)
    (no_NoPerson : PySem.W.findIn K (.ref C_NoPerson) "person" = some none) (iC_NoPerson : PySem.W.findIn K (.ref C_NoPerson) "__init__" = some (some (.ref f_iNoPerson))) (ti_NoPerson : PySem.W.typeIn K (.ref f_iNoPerson) = some (.type "function"))
    (li_NoPerson : K.lookup f_iNoPerson = some ⟨oc_NoPerson, od_NoPerson, .func (PySem.W.fnOf "__init__" "NoPerson.__init__" (defArgs si_NoPerson) (defBody si_NoPerson) (defScope si_NoPerson) .none kV_NoPerson doc_NoPerson pm_NoPerson an_NoPerson cdv_NoPerson ct_NoPerson), osl_NoPerson⟩) (ci_NoPerson : PySem.W.codeIn K cdv_NoPerson "NoPerson.__init__" = true) (ki_NoPerson : PySem.W.keepIn K (.ref f_iNoPerson) = true)
    {f_iNoPlace N_NoPlace : Addr} {nm_NoPlace q_NoPlace : Str} {bs_NoPlace sub_NoPlace : List Value} {sn_NoPlace : List Str} {ab_NoPlace : Bool} {col_NoPlace : Option Bool} {dd_NoPlace : Option Addr} {k0_NoPlace k1_NoPlace k2_NoPlace k3_NoPlace k5_NoPlace : Option Value}
    {oc_NoPlace kV_NoPlace doc_NoPlace pm_NoPlace cdv_NoPlace ct_NoPlace : Value} {od_NoPlace an_NoPlace : Option Addr} {osl_NoPlace : Array (Option Value)}
    (xL_NoPlace : K.lookup C_NoPlace = some (excClassObj nm_NoPlace q_NoPlace C_NoPlace N_NoPlace bs_NoPlace tl_LookupError true sn_NoPlace sub_NoPlace ab_NoPlace col_NoPlace dd_NoPlace k0_NoPlace k1_NoPlace k2_NoPlace k3_NoPlace k5_NoPlace "LookupError.__new__"))
    (sa_NoPlace : PySem.W.findIn K (.ref C_NoPlace) "__setattr__" = some (some (.builtin "object.__setattr__"))) (ex_NoPlace : PySem.W.subIn K (.ref C_NoPlace) (.type "BaseException") = some true) (ty_NoPlace : PySem.W.typeIn K (.ref C_NoPlace) = some (.type "type")) (kp_NoPlace : PySem.W.keepIn K (.ref C_NoPlace) = true)
    (no_NoPlace : PySem.W.findIn K (.ref C_NoPlace) "place" = some none) (iC_NoPlace : PySem.W.findIn K (.ref C_NoPlace) "__init__" = some (some (.ref f_iNoPlace))) (ti_NoPlace : PySem.W.typeIn K (.ref f_iNoPlace) = some (.type "function"))
    (li_NoPlace : K.lookup f_iNoPlace = some ⟨oc_NoPlace, od_NoPlace, .func (PySem.W.fnOf "__init__" "NoPlace.__init__" (defArgs si_NoPlace) (defBody si_NoPlace) (defScope si_NoPlace) .none kV_NoPlace doc_NoPlace pm_NoPlace an_NoPlace cdv_NoPlace ct_NoPlace), osl_NoPlace⟩) (ci_NoPlace : PySem.W.codeIn K cdv_NoPlace "NoPlace.__init__" = true) (ki_NoPlace : PySem.W.keepIn K (.ref f_iNoPlace) = true)
    {f_iFull N_Full : Addr} {nm_Full q_Full : Str} {bs_Full sub_Full : List Value} {sn_Full : List Str} {ab_Full : Bool} {col_Full : Option Bool} {dd_Full : Option Addr} {k0_Full k1_Full k2_Full k3_Full k5_Full : Option Value}
    {oc_Full kV_Full doc_Full pm_Full cdv_Full ct_Full : Value} {od_Full an_Full : Option Addr} {osl_Full : Array (Option Value)}
    (xL_Full : K.lookup C_Full = some (excClassObj nm_Full q_Full C_Full N_Full bs_Full tl_OverflowError true sn_Full sub_Full ab_Full col_Full dd_Full k0_Full k1_Full k2_Full k3_Full k5_Full "OverflowError.__new__"))
    (sa_Full : PySem.W.findIn K (.ref C_Full) "__setattr__" = some (some (.builtin "object.__setattr__"))) (ex_Full : PySem.W.subIn K (.ref C_Full) (.type "BaseException") = some true) (ty_Full : PySem.W.typeIn K (.ref C_Full) = some (.type "type")) (kp_Full : PySem.W.keepIn K (.ref C_Full) = true)
    (no_Full : PySem.W.findIn K (.ref C_Full) "many" = some none) (iC_Full : PySem.W.findIn K (.ref C_Full) "__init__" = some (some (.ref f_iFull))) (ti_Full : PySem.W.typeIn K (.ref f_iFull) = some (.type "function"))
    (li_Full : K.lookup f_iFull = some ⟨oc_Full, od_Full, .func (PySem.W.fnOf "__init__" "Full.__init__" (defArgs si_Full) (defBody si_Full) (defScope si_Full) .none kV_Full doc_Full pm_Full an_Full cdv_Full ct_Full), osl_Full⟩) (ci_Full : PySem.W.codeIn K cdv_Full "Full.__init__" = true) (ki_Full : PySem.W.keepIn K (.ref f_iFull) = true)
    {f_iOtherPeople N_OtherPeople : Addr} {nm_OtherPeople q_OtherPeople : Str} {bs_OtherPeople sub_OtherPeople : List Value} {sn_OtherPeople : List Str} {ab_OtherPeople : Bool} {col_OtherPeople : Option Bool} {dd_OtherPeople : Option Addr} {k0_OtherPeople k1_OtherPeople k2_OtherPeople k3_OtherPeople k5_OtherPeople : Option Value}
    {oc_OtherPeople kV_OtherPeople doc_OtherPeople pm_OtherPeople cdv_OtherPeople ct_OtherPeople : Value} {od_OtherPeople an_OtherPeople : Option Addr} {osl_OtherPeople : Array (Option Value)}
    (xL_OtherPeople : K.lookup C_OtherPeople = some (excClassObj nm_OtherPeople q_OtherPeople C_OtherPeople N_OtherPeople bs_OtherPeople tl_ValueError true sn_OtherPeople sub_OtherPeople ab_OtherPeople col_OtherPeople dd_OtherPeople k0_OtherPeople k1_OtherPeople k2_OtherPeople k3_OtherPeople k5_OtherPeople "ValueError.__new__"))
    (sa_OtherPeople : PySem.W.findIn K (.ref C_OtherPeople) "__setattr__" = some (some (.builtin "object.__setattr__"))) (ex_OtherPeople : PySem.W.subIn K (.ref C_OtherPeople) (.type "BaseException") = some true) (ty_OtherPeople : PySem.W.typeIn K (.ref C_OtherPeople) = some (.type "type")) (kp_OtherPeople : PySem.W.keepIn K (.ref C_OtherPeople) = true)
    (no_OtherPeople : PySem.W.findIn K (.ref C_OtherPeople) "many" = some none) (iC_OtherPeople : PySem.W.findIn K (.ref C_OtherPeople) "__init__" = some (some (.ref f_iOtherPeople))) (ti_OtherPeople : PySem.W.typeIn K (.ref f_iOtherPeople) = some (.type "function"))
    (li_OtherPeople : K.lookup f_iOtherPeople = some ⟨oc_OtherPeople, od_OtherPeople, .func (PySem.W.fnOf "__init__" "OtherPeople.__init__" (defArgs si_OtherPeople) (defBody si_OtherPeople) (defScope si_OtherPeople) .none kV_OtherPeople doc_OtherPeople pm_OtherPeople an_OtherPeople cdv_OtherPeople ct_OtherPeople), osl_OtherPeople⟩) (ci_OtherPeople : PySem.W.codeIn K cdv_OtherPeople "OtherPeople.__init__" = true) (ki_OtherPeople : PySem.W.keepIn K (.ref f_iOtherPeople) = true)
    {f_iBarred N_Barred : Addr} {nm_Barred q_Barred : Str} {bs_Barred sub_Barred : List Value} {sn_Barred : List Str} {ab_Barred : Bool} {col_Barred : Option Bool} {dd_Barred : Option Addr} {k0_Barred k1_Barred k2_Barred k3_Barred k5_Barred : Option Value}
    {oc_Barred kV_Barred doc_Barred pm_Barred cdv_Barred ct_Barred : Value} {od_Barred an_Barred : Option Addr} {osl_Barred : Array (Option Value)}
    (xL_Barred : K.lookup C_Barred = some (excClassObj nm_Barred q_Barred C_Barred N_Barred bs_Barred tl_RuntimeError true sn_Barred sub_Barred ab_Barred col_Barred dd_Barred k0_Barred k1_Barred k2_Barred k3_Barred k5_Barred "RuntimeError.__new__"))
    (sa_Barred : PySem.W.findIn K (.ref C_Barred) "__setattr__" = some (some (.builtin "object.__setattr__"))) (ex_Barred : PySem.W.subIn K (.ref C_Barred) (.type "BaseException") = some true) (ty_Barred : PySem.W.typeIn K (.ref C_Barred) = some (.type "type")) (kp_Barred : PySem.W.keepIn K (.ref C_Barred) = true)
    (no_Barred : PySem.W.findIn K (.ref C_Barred) "reason" = some none) (iC_Barred : PySem.W.findIn K (.ref C_Barred) "__init__" = some (some (.ref f_iBarred))) (ti_Barred : PySem.W.typeIn K (.ref f_iBarred) = some (.type "function"))
    (li_Barred : K.lookup f_iBarred = some ⟨oc_Barred, od_Barred, .func (PySem.W.fnOf "__init__" "Barred.__init__" (defArgs si_Barred) (defBody si_Barred) (defScope si_Barred) .none kV_Barred doc_Barred pm_Barred an_Barred cdv_Barred ct_Barred), osl_Barred⟩) (ci_Barred : PySem.W.codeIn K cdv_Barred "Barred.__init__" = true) (ki_Barred : PySem.W.keepIn K (.ref f_iBarred) = true)
    {f_iBadLine N_BadLine : Addr} {nm_BadLine q_BadLine : Str} {bs_BadLine sub_BadLine : List Value} {sn_BadLine : List Str} {ab_BadLine : Bool} {col_BadLine : Option Bool} {dd_BadLine : Option Addr} {k0_BadLine k1_BadLine k2_BadLine k3_BadLine k5_BadLine : Option Value}
    {oc_BadLine kV_BadLine doc_BadLine pm_BadLine cdv_BadLine ct_BadLine : Value} {od_BadLine an_BadLine : Option Addr} {osl_BadLine : Array (Option Value)}
    (xL_BadLine : K.lookup C_BadLine = some (excClassObj nm_BadLine q_BadLine C_BadLine N_BadLine bs_BadLine tl_ValueError true sn_BadLine sub_BadLine ab_BadLine col_BadLine dd_BadLine k0_BadLine k1_BadLine k2_BadLine k3_BadLine k5_BadLine "ValueError.__new__"))
    (sa_BadLine : PySem.W.findIn K (.ref C_BadLine) "__setattr__" = some (some (.builtin "object.__setattr__"))) (ex_BadLine : PySem.W.subIn K (.ref C_BadLine) (.type "BaseException") = some true) (ty_BadLine : PySem.W.typeIn K (.ref C_BadLine) = some (.type "type")) (kp_BadLine : PySem.W.keepIn K (.ref C_BadLine) = true)
    (no_BadLine : PySem.W.findIn K (.ref C_BadLine) "at" = some none) (iC_BadLine : PySem.W.findIn K (.ref C_BadLine) "__init__" = some (some (.ref f_iBadLine))) (ti_BadLine : PySem.W.typeIn K (.ref f_iBadLine) = some (.type "function"))
    (li_BadLine : K.lookup f_iBadLine = some ⟨oc_BadLine, od_BadLine, .func (PySem.W.fnOf "__init__" "BadLine.__init__" (defArgs si_BadLine) (defBody si_BadLine) (defScope si_BadLine) .none kV_BadLine doc_BadLine pm_BadLine an_BadLine cdv_BadLine ct_BadLine), osl_BadLine⟩) (ci_BadLine : PySem.W.codeIn K cdv_BadLine "BadLine.__init__" = true) (ki_BadLine : PySem.W.keepIn K (.ref f_iBadLine) = true)
    (vB_LookupError : PySem.W.findCls K (.type "LookupError") (.type "type") "__init__" = some (.val (.builtin "LookupError.__init__")))
    (vB_OverflowError : PySem.W.findCls K (.type "OverflowError") (.type "type") "__init__" = some (.val (.builtin "OverflowError.__init__")))
    (vB_ValueError : PySem.W.findCls K (.type "ValueError") (.type "type") "__init__" = some (.val (.builtin "ValueError.__init__")))
    (vB_RuntimeError : PySem.W.findCls K (.type "RuntimeError") (.type "type") "__init__" = some (.val (.builtin "RuntimeError.__init__")))
    (et : etB K CsL UsL = true) :
    ∃ fd : FuncData, (∀ (s : Shared) (v : Value), BindsTo s fd ⟨[v], []⟩ [("_law_script", v)]) ∧ ∀ base : Heap, K.In base → base.Ns mainGlobals mg → FnOk l.prog w K mg base CX0 15 fa fd ["_law_script"] (spP K 1 F_law) := by
  obtain ⟨f__law_folded, d__law_folded, a__law_folded, F__law_folded⟩ := f__law_folded
  obtain ⟨f__law_draw, d__law_draw, a__law_draw, F__law_draw⟩ := f__law_draw
  obtain ⟨f__law_same, d__law_same, a__law_same, F__law_same⟩ := f__law_same
  obtain ⟨f_Hall_row, d_Hall_row, a_Hall_row, F_Hall_row⟩ := f_Hall_row
  obtain ⟨f_look_person, d_look_person, a_look_person, F_look_person⟩ := f_look_person
  obtain ⟨f_middle_of, d_middle_of, a_middle_of, F_middle_of⟩ := f_middle_of
  obtain ⟨f_called, d_called, a_called, F_called⟩ := f_called
  obtain ⟨f_Hall_call, d_Hall_call, a_Hall_call, F_Hall_call⟩ := f_Hall_call
  obtain ⟨f_Hall___len__, d_Hall___len__, a_Hall___len__, F_Hall___len__⟩ := f_Hall___len__
  obtain ⟨f_Hall_come, d_Hall_come, a_Hall_come, F_Hall_come⟩ := f_Hall_come
  obtain ⟨f_look_many, d_look_many, a_look_many, F_look_many⟩ := f_look_many
  obtain ⟨f_inner, d_inner, a_inner, F_inner⟩ := f_inner
  obtain ⟨f_dips, d_dips, a_dips, F_dips⟩ := f_dips
  obtain ⟨f_tops, d_tops, a_tops, F_tops⟩ := f_tops
  obtain ⟨f_wrong_changes, d_wrong_changes, a_wrong_changes, F_wrong_changes⟩ := f_wrong_changes
  obtain ⟨f_wrong_orders, d_wrong_orders, a_wrong_orders, F_wrong_orders⟩ := f_wrong_orders
  obtain ⟨f_runs, d_runs, a_runs, F_runs⟩ := f_runs
  obtain ⟨f_stayed, d_stayed, a_stayed, F_stayed⟩ := f_stayed
  obtain ⟨f_wrong_runs, d_wrong_runs, a_wrong_runs, F_wrong_runs⟩ := f_wrong_runs
  obtain ⟨f_bar, d_bar, a_bar, F_bar⟩ := f_bar
  obtain ⟨f_look_leads, d_look_leads, a_look_leads, F_look_leads⟩ := f_look_leads
  obtain ⟨f_changed, d_changed, a_changed, F_changed⟩ := f_changed
  obtain ⟨f_distance, d_distance, a_distance, F_distance⟩ := f_distance
  obtain ⟨f_Hall_go, d_Hall_go, a_Hall_go, F_Hall_go⟩ := f_Hall_go
  obtain ⟨f_Hall_leave, d_Hall_leave, a_Hall_leave, F_Hall_leave⟩ := f_Hall_leave
  obtain ⟨f_idle, d_idle, a_idle, F_idle⟩ := f_idle
  obtain ⟨f_run, d_run, a_run, F_run⟩ := f_run
  obtain ⟨f_Hall_run, d_Hall_run, a_Hall_run, F_Hall_run⟩ := f_Hall_run
  obtain ⟨f_Hall_tell, d_Hall_tell, a_Hall_tell, F_Hall_tell⟩ := f_Hall_tell
  obtain ⟨f_Hall_done, d_Hall_done, a_Hall_done, F_Hall_done⟩ := f_Hall_done
  obtain ⟨f_bar_text, d_bar_text, a_bar_text, F_bar_text⟩ := f_bar_text
  obtain ⟨f_open_parts, d_open_parts, a_open_parts, F_open_parts⟩ := f_open_parts
  obtain ⟨f_choices, d_choices, a_choices, F_choices⟩ := f_choices
  obtain ⟨f_orders, d_orders, a_orders, F_orders⟩ := f_orders
  obtain ⟨f_ways_of, d_ways_of, a_ways_of, F_ways_of⟩ := f_ways_of
  obtain ⟨f_ways_many, d_ways_many, a_ways_many, F_ways_many⟩ := f_ways_many
  obtain ⟨f_look_wish, d_look_wish, a_look_wish, F_look_wish⟩ := f_look_wish
  obtain ⟨f_parted, d_parted, a_parted, F_parted⟩ := f_parted
  obtain ⟨f_next_state, d_next_state, a_next_state, F_next_state⟩ := f_next_state
  obtain ⟨f_next_states, d_next_states, a_next_states, F_next_states⟩ := f_next_states
  obtain ⟨f_endings, d_endings, a_endings, F_endings⟩ := f_endings
  obtain ⟨f_options_of, d_options_of, a_options_of, F_options_of⟩ := f_options_of
  obtain ⟨f_rows_many, d_rows_many, a_rows_many, F_rows_many⟩ := f_rows_many
  obtain ⟨f_wish_many, d_wish_many, a_wish_many, F_wish_many⟩ := f_wish_many
  obtain ⟨f_asked, d_asked, a_asked, F_asked⟩ := f_asked
  obtain ⟨f_Hall_dips, d_Hall_dips, a_Hall_dips, F_Hall_dips⟩ := f_Hall_dips
  obtain ⟨f_free_wish, d_free_wish, a_free_wish, F_free_wish⟩ := f_free_wish
  obtain ⟨f_futures_many, d_futures_many, a_futures_many, F_futures_many⟩ := f_futures_many
  obtain ⟨f_Hall_futures, d_Hall_futures, a_Hall_futures, F_Hall_futures⟩ := f_Hall_futures
  obtain ⟨f_Hall_tops, d_Hall_tops, a_Hall_tops, F_Hall_tops⟩ := f_Hall_tops
  obtain ⟨f_Hall_deeds, d_Hall_deeds, a_Hall_deeds, F_Hall_deeds⟩ := f_Hall_deeds
  obtain ⟨f_Hall_undo, d_Hall_undo, a_Hall_undo, F_Hall_undo⟩ := f_Hall_undo
  obtain ⟨f_joined_text, d_joined_text, a_joined_text, F_joined_text⟩ := f_joined_text
  obtain ⟨f_numbers_text, d_numbers_text, a_numbers_text, F_numbers_text⟩ := f_numbers_text
  obtain ⟨f_rests_many, d_rests_many, a_rests_many, F_rests_many⟩ := f_rests_many
  obtain ⟨f_row_text, d_row_text, a_row_text, F_row_text⟩ := f_row_text
  obtain ⟨f_bare_answer, d_bare_answer, a_bare_answer, F_bare_answer⟩ := f_bare_answer
  obtain ⟨f_answered, d_answered, a_answered, F_answered⟩ := f_answered
  obtain ⟨f_answer, d_answer, a_answer, F_answer⟩ := f_answer
  obtain ⟨f_count_in, d_count_in, a_count_in, F_count_in⟩ := f_count_in
  obtain ⟨f_integer_in, d_integer_in, a_integer_in, F_integer_in⟩ := f_integer_in
  obtain ⟨f_both_in, d_both_in, a_both_in, F_both_in⟩ := f_both_in
  obtain ⟨f_all_or_none, d_all_or_none, a_all_or_none, F_all_or_none⟩ := f_all_or_none
  obtain ⟨f_words_of, d_words_of, a_words_of, F_words_of⟩ := f_words_of
  obtain ⟨f_calls_or_none, d_calls_or_none, a_calls_or_none, F_calls_or_none⟩ := f_calls_or_none
  obtain ⟨f_one_in, d_one_in, a_one_in, F_one_in⟩ := f_one_in
  obtain ⟨f_row_or_none, d_row_or_none, a_row_or_none, F_row_or_none⟩ := f_row_or_none
  obtain ⟨f_wish_or_none, d_wish_or_none, a_wish_or_none, F_wish_or_none⟩ := f_wish_or_none
  obtain ⟨f_arguments_in, d_arguments_in, a_arguments_in, F_arguments_in⟩ := f_arguments_in
  obtain ⟨f_request_in, d_request_in, a_request_in, F_request_in⟩ := f_request_in
  obtain ⟨f_requests_in, d_requests_in, a_requests_in, F_requests_in⟩ := f_requests_in
  obtain ⟨f_answers, d_answers, a_answers, F_answers⟩ := f_answers
  obtain ⟨f__law_first_right, d__law_first_right, a__law_first_right, F__law_first_right⟩ := f__law_first_right
  obtain ⟨f__law_second_right, d__law_second_right, a__law_second_right, F__law_second_right⟩ := f__law_second_right
  obtain ⟨f__law_third_right, d__law_third_right, a__law_third_right, F__law_third_right⟩ := f__law_third_right
  obtain ⟨f__law_right, d__law_right, a__law_right, F__law_right⟩ := f__law_right
  obtain ⟨f__law_stream, d__law_stream, a__law_stream, F__law_stream⟩ := f__law_stream
  obtain ⟨f_law, d_law, a_law, F_law⟩ := f_law
  have e := hfa.symm.trans (PySem.W.mg_of X G a_law)
  cases e
  let T : Tx K mg w := {
    c_Hall := C_Hall, m_Hall := PySem.W.mg_of X G aC_Hall, hc_Hall := ⟨aC_Hall, ⟨pg_Hall, hd_Hall, po_Hall, sa_Hall⟩, nr_Hall, nl_Hall⟩,
    fi_Hall := fi_Hall, fd_Hall := _, Fi_Hall := ⟨⟨_, _, _, _, _, _, _, _, _, _, rfl, li_Hall, ci_Hall, _, _, _, _, rfl, lT_Hall, rfl⟩, ki_Hall⟩, mk_Hall := ⟨mk_Hall, iC_Hall, beq_iff_eq.mpr ti_Hall, kp_Hall⟩, bi_Hall := (FunD.binds (st := si_Hall) ⟨⟨_, _, _, _, _, _, _, _, _, _, rfl, li_Hall, ci_Hall, _, _, _, _, rfl, lT_Hall, rfl⟩, ki_Hall⟩ fun _ _ _ _ _ _ _ _ us hl => match us, hl with | [_, _], _ => ⟨_, rfl, rfl⟩),
    a__law_folded := f__law_folded, d__law_folded := d__law_folded, F__law_folded := F__law_folded, m__law_folded := PySem.W.mg_of X G a__law_folded, b__law_folded := (F__law_folded.binds fun _ _ _ _ _ _ us hl => match us, hl with | [_, _], _ => rfl),
    a__law_draw := f__law_draw, d__law_draw := d__law_draw, F__law_draw := F__law_draw, m__law_draw := PySem.W.mg_of X G a__law_draw, b__law_draw := (F__law_draw.binds fun _ _ _ _ _ _ us hl => match us, hl with | [_, _], _ => rfl),
    a__law_same := f__law_same, d__law_same := d__law_same, F__law_same := F__law_same, m__law_same := PySem.W.mg_of X G a__law_same, b__law_same := (F__law_same.binds fun _ _ _ _ _ _ us hl => match us, hl with | [_, _], _ => rfl),
    a_Hall_row := f_Hall_row, d_Hall_row := d_Hall_row, F_Hall_row := F_Hall_row, mt_Hall_row := a_Hall_row, b_Hall_row := (F_Hall_row.binds fun _ _ _ _ _ _ us hl => match us, hl with | [_], _ => rfl),
    a_look_person := f_look_person, d_look_person := d_look_person, F_look_person := F_look_person, m_look_person := PySem.W.mg_of X G a_look_person, b_look_person := (F_look_person.binds fun _ _ _ _ _ _ us hl => match us, hl with | [_, _], _ => rfl),
    a_middle_of := f_middle_of, d_middle_of := d_middle_of, F_middle_of := F_middle_of, m_middle_of := PySem.W.mg_of X G a_middle_of, b_middle_of := (F_middle_of.binds fun _ _ _ _ _ _ us hl => match us, hl with | [_, _], _ => rfl),
    a_called := f_called, d_called := d_called, F_called := F_called, m_called := PySem.W.mg_of X G a_called, b_called := (F_called.binds fun _ _ _ _ _ _ us hl => match us, hl with | [_, _], _ => rfl),
    a_Hall_call := f_Hall_call, d_Hall_call := d_Hall_call, F_Hall_call := F_Hall_call, mt_Hall_call := a_Hall_call, b_Hall_call := (F_Hall_call.binds fun _ _ _ _ _ _ us hl => match us, hl with | [_, _], _ => rfl),
    a_Hall___len__ := f_Hall___len__, d_Hall___len__ := d_Hall___len__, F_Hall___len__ := F_Hall___len__, mt_Hall___len__ := a_Hall___len__, b_Hall___len__ := (F_Hall___len__.binds fun _ _ _ _ _ _ us hl => match us, hl with | [_], _ => rfl),
    a_Hall_come := f_Hall_come, d_Hall_come := d_Hall_come, F_Hall_come := F_Hall_come, mt_Hall_come := a_Hall_come, b_Hall_come := (F_Hall_come.binds fun _ _ _ _ _ _ us hl => match us, hl with | [_, _, _], _ => rfl),
    a_look_many := f_look_many, d_look_many := d_look_many, F_look_many := F_look_many, m_look_many := PySem.W.mg_of X G a_look_many, b_look_many := (F_look_many.binds fun _ _ _ _ _ _ us hl => match us, hl with | [_, _], _ => rfl),
    a_inner := f_inner, d_inner := d_inner, F_inner := F_inner, m_inner := PySem.W.mg_of X G a_inner, b_inner := (F_inner.binds fun _ _ _ _ _ _ us hl => match us, hl with | [_], _ => rfl),
    a_dips := f_dips, d_dips := d_dips, F_dips := F_dips, m_dips := PySem.W.mg_of X G a_dips, b_dips := (F_dips.binds fun _ _ _ _ _ _ us hl => match us, hl with | [_], _ => rfl),
    a_tops := f_tops, d_tops := d_tops, F_tops := F_tops, m_tops := PySem.W.mg_of X G a_tops, b_tops := (F_tops.binds fun _ _ _ _ _ _ us hl => match us, hl with | [_], _ => rfl),
    a_wrong_changes := f_wrong_changes, d_wrong_changes := d_wrong_changes, F_wrong_changes := F_wrong_changes, m_wrong_changes := PySem.W.mg_of X G a_wrong_changes, b_wrong_changes := (F_wrong_changes.binds fun _ _ _ _ _ _ us hl => match us, hl with | [_, _], _ => rfl),
    a_wrong_orders := f_wrong_orders, d_wrong_orders := d_wrong_orders, F_wrong_orders := F_wrong_orders, m_wrong_orders := PySem.W.mg_of X G a_wrong_orders, b_wrong_orders := (F_wrong_orders.binds fun _ _ _ _ _ _ us hl => match us, hl with | [_, _], _ => rfl),
    a_runs := f_runs, d_runs := d_runs, F_runs := F_runs, m_runs := PySem.W.mg_of X G a_runs, b_runs := (F_runs.binds fun _ _ _ _ _ _ us hl => match us, hl with | [_], _ => rfl),
    a_stayed := f_stayed, d_stayed := d_stayed, F_stayed := F_stayed, m_stayed := PySem.W.mg_of X G a_stayed, b_stayed := (F_stayed.binds fun _ _ _ _ _ _ us hl => match us, hl with | [_, _, _, _], _ => rfl),
    a_wrong_runs := f_wrong_runs, d_wrong_runs := d_wrong_runs, F_wrong_runs := F_wrong_runs, m_wrong_runs := PySem.W.mg_of X G a_wrong_runs, b_wrong_runs := (F_wrong_runs.binds fun _ _ _ _ _ _ us hl => match us, hl with | [_, _], _ => rfl),
    a_bar := f_bar, d_bar := d_bar, F_bar := F_bar, m_bar := PySem.W.mg_of X G a_bar, b_bar := (F_bar.binds fun _ _ _ _ _ _ us hl => match us, hl with | [_, _], _ => rfl),
    a_look_leads := f_look_leads, d_look_leads := d_look_leads, F_look_leads := F_look_leads, m_look_leads := PySem.W.mg_of X G a_look_leads, b_look_leads := (F_look_leads.binds fun _ _ _ _ _ _ us hl => match us, hl with | [_, _], _ => rfl),
    a_changed := f_changed, d_changed := d_changed, F_changed := F_changed, m_changed := PySem.W.mg_of X G a_changed, b_changed := (F_changed.binds fun _ _ _ _ _ _ us hl => match us, hl with | [_, _], _ => rfl),
    a_distance := f_distance, d_distance := d_distance, F_distance := F_distance, m_distance := PySem.W.mg_of X G a_distance, b_distance := (F_distance.binds fun _ _ _ _ _ _ us hl => match us, hl with | [_, _], _ => rfl),
    a_Hall_go := f_Hall_go, d_Hall_go := d_Hall_go, F_Hall_go := F_Hall_go, mt_Hall_go := a_Hall_go, b_Hall_go := (F_Hall_go.binds fun _ _ _ _ _ _ us hl => match us, hl with | [_, _], _ => rfl),
    a_Hall_leave := f_Hall_leave, d_Hall_leave := d_Hall_leave, F_Hall_leave := F_Hall_leave, mt_Hall_leave := a_Hall_leave, b_Hall_leave := (F_Hall_leave.binds fun _ _ _ _ _ _ us hl => match us, hl with | [_, _], _ => rfl),
    a_idle := f_idle, d_idle := d_idle, F_idle := F_idle, m_idle := PySem.W.mg_of X G a_idle, b_idle := (F_idle.binds fun _ _ _ _ _ _ us hl => match us, hl with | [_, _], _ => rfl),
    a_run := f_run, d_run := d_run, F_run := F_run, m_run := PySem.W.mg_of X G a_run, b_run := (F_run.binds fun _ _ _ _ _ _ us hl => match us, hl with | [_, _], _ => rfl),
    a_Hall_run := f_Hall_run, d_Hall_run := d_Hall_run, F_Hall_run := F_Hall_run, mt_Hall_run := a_Hall_run, b_Hall_run := (F_Hall_run.binds fun _ _ _ _ _ _ us hl => match us, hl with | [_, _], _ => rfl),
    a_Hall_tell := f_Hall_tell, d_Hall_tell := d_Hall_tell, F_Hall_tell := F_Hall_tell, mt_Hall_tell := a_Hall_tell, b_Hall_tell := (F_Hall_tell.binds fun _ _ _ _ _ _ us hl => match us, hl with | [_, _, _], _ => rfl),
    a_Hall_done := f_Hall_done, d_Hall_done := d_Hall_done, F_Hall_done := F_Hall_done, mt_Hall_done := a_Hall_done, b_Hall_done := (F_Hall_done.binds fun _ _ _ _ _ _ us hl => match us, hl with | [_, _], _ => rfl),
    a_bar_text := f_bar_text, d_bar_text := d_bar_text, F_bar_text := F_bar_text, m_bar_text := PySem.W.mg_of X G a_bar_text, b_bar_text := (F_bar_text.binds fun _ _ _ _ _ _ us hl => match us, hl with | [_], _ => rfl),
    a_open_parts := f_open_parts, d_open_parts := d_open_parts, F_open_parts := F_open_parts, m_open_parts := PySem.W.mg_of X G a_open_parts, b_open_parts := (F_open_parts.binds fun _ _ _ _ _ _ us hl => match us, hl with | [_, _], _ => rfl),
    a_choices := f_choices, d_choices := d_choices, F_choices := F_choices, m_choices := PySem.W.mg_of X G a_choices, b_choices := (F_choices.binds fun _ _ _ _ _ _ us hl => match us, hl with | [_, _], _ => rfl),
    a_orders := f_orders, d_orders := d_orders, F_orders := F_orders, m_orders := PySem.W.mg_of X G a_orders, b_orders := (F_orders.binds fun _ _ _ _ _ _ us hl => match us, hl with | [_, _, _, _], _ => rfl),
    a_ways_of := f_ways_of, d_ways_of := d_ways_of, F_ways_of := F_ways_of, m_ways_of := PySem.W.mg_of X G a_ways_of, b_ways_of := (F_ways_of.binds fun _ _ _ _ _ _ us hl => match us, hl with | [_], _ => rfl),
    a_ways_many := f_ways_many, d_ways_many := d_ways_many, F_ways_many := F_ways_many, m_ways_many := PySem.W.mg_of X G a_ways_many, b_ways_many := (F_ways_many.binds fun _ _ _ _ _ _ us hl => match us, hl with | [_, _], _ => rfl),
    a_look_wish := f_look_wish, d_look_wish := d_look_wish, F_look_wish := F_look_wish, m_look_wish := PySem.W.mg_of X G a_look_wish, b_look_wish := (F_look_wish.binds fun _ _ _ _ _ _ us hl => match us, hl with | [_, _], _ => rfl),
    a_parted := f_parted, d_parted := d_parted, F_parted := F_parted, m_parted := PySem.W.mg_of X G a_parted, b_parted := (F_parted.binds fun _ _ _ _ _ _ us hl => match us, hl with | [_, _, _, _, _], _ => rfl),
    a_next_state := f_next_state, d_next_state := d_next_state, F_next_state := F_next_state, m_next_state := PySem.W.mg_of X G a_next_state, b_next_state := (F_next_state.binds fun _ _ _ _ _ _ us hl => match us, hl with | [_, _, _, _, _], _ => rfl),
    a_next_states := f_next_states, d_next_states := d_next_states, F_next_states := F_next_states, m_next_states := PySem.W.mg_of X G a_next_states, b_next_states := (F_next_states.binds fun _ _ _ _ _ _ us hl => match us, hl with | [_, _, _, _, _], _ => rfl),
    a_endings := f_endings, d_endings := d_endings, F_endings := F_endings, m_endings := PySem.W.mg_of X G a_endings, b_endings := (F_endings.binds fun _ _ _ _ _ _ us hl => match us, hl with | [_, _, _], _ => rfl),
    a_options_of := f_options_of, d_options_of := d_options_of, F_options_of := F_options_of, m_options_of := PySem.W.mg_of X G a_options_of, b_options_of := (F_options_of.binds fun _ _ _ _ _ _ us hl => match us, hl with | [_, _], _ => rfl),
    a_rows_many := f_rows_many, d_rows_many := d_rows_many, F_rows_many := F_rows_many, m_rows_many := PySem.W.mg_of X G a_rows_many, b_rows_many := (F_rows_many.binds fun _ _ _ _ _ _ us hl => match us, hl with | [_, _, _], _ => rfl),
    a_wish_many := f_wish_many, d_wish_many := d_wish_many, F_wish_many := F_wish_many, m_wish_many := PySem.W.mg_of X G a_wish_many, b_wish_many := (F_wish_many.binds fun _ _ _ _ _ _ us hl => match us, hl with | [_, _], _ => rfl),
    a_asked := f_asked, d_asked := d_asked, F_asked := F_asked, m_asked := PySem.W.mg_of X G a_asked, b_asked := (F_asked.binds fun _ _ _ _ _ _ us hl => match us, hl with | [_, _, _], _ => rfl),
    a_Hall_dips := f_Hall_dips, d_Hall_dips := d_Hall_dips, F_Hall_dips := F_Hall_dips, mt_Hall_dips := a_Hall_dips, b_Hall_dips := (F_Hall_dips.binds fun _ _ _ _ _ _ us hl => match us, hl with | [_], _ => rfl),
    a_free_wish := f_free_wish, d_free_wish := d_free_wish, F_free_wish := F_free_wish, m_free_wish := PySem.W.mg_of X G a_free_wish, b_free_wish := (F_free_wish.binds fun _ _ _ _ _ _ us hl => match us, hl with | [_], _ => rfl),
    a_futures_many := f_futures_many, d_futures_many := d_futures_many, F_futures_many := F_futures_many, m_futures_many := PySem.W.mg_of X G a_futures_many, b_futures_many := (F_futures_many.binds fun _ _ _ _ _ _ us hl => match us, hl with | [_], _ => rfl),
    a_Hall_futures := f_Hall_futures, d_Hall_futures := d_Hall_futures, F_Hall_futures := F_Hall_futures, mt_Hall_futures := a_Hall_futures, b_Hall_futures := (F_Hall_futures.binds fun _ _ _ _ _ _ us hl => match us, hl with | [_], _ => rfl),
    a_Hall_tops := f_Hall_tops, d_Hall_tops := d_Hall_tops, F_Hall_tops := F_Hall_tops, mt_Hall_tops := a_Hall_tops, b_Hall_tops := (F_Hall_tops.binds fun _ _ _ _ _ _ us hl => match us, hl with | [_], _ => rfl),
    a_Hall_deeds := f_Hall_deeds, d_Hall_deeds := d_Hall_deeds, F_Hall_deeds := F_Hall_deeds, mt_Hall_deeds := a_Hall_deeds, b_Hall_deeds := (F_Hall_deeds.binds fun _ _ _ _ _ _ us hl => match us, hl with | [_], _ => rfl),
    a_Hall_undo := f_Hall_undo, d_Hall_undo := d_Hall_undo, F_Hall_undo := F_Hall_undo, mt_Hall_undo := a_Hall_undo, b_Hall_undo := (F_Hall_undo.binds fun _ _ _ _ _ _ us hl => match us, hl with | [_], _ => rfl),
    a_joined_text := f_joined_text, d_joined_text := d_joined_text, F_joined_text := F_joined_text, m_joined_text := PySem.W.mg_of X G a_joined_text, b_joined_text := (F_joined_text.binds fun _ _ _ _ _ _ us hl => match us, hl with | [_], _ => rfl),
    a_numbers_text := f_numbers_text, d_numbers_text := d_numbers_text, F_numbers_text := F_numbers_text, m_numbers_text := PySem.W.mg_of X G a_numbers_text, b_numbers_text := (F_numbers_text.binds fun _ _ _ _ _ _ us hl => match us, hl with | [_], _ => rfl),
    a_rests_many := f_rests_many, d_rests_many := d_rests_many, F_rests_many := F_rests_many, m_rests_many := PySem.W.mg_of X G a_rests_many, b_rests_many := (F_rests_many.binds fun _ _ _ _ _ _ us hl => match us, hl with | [_], _ => rfl),
    a_row_text := f_row_text, d_row_text := d_row_text, F_row_text := F_row_text, m_row_text := PySem.W.mg_of X G a_row_text, b_row_text := (F_row_text.binds fun _ _ _ _ _ _ us hl => match us, hl with | [_], _ => rfl),
    a_bare_answer := f_bare_answer, d_bare_answer := d_bare_answer, F_bare_answer := F_bare_answer, m_bare_answer := PySem.W.mg_of X G a_bare_answer, b_bare_answer := (F_bare_answer.binds fun _ _ _ _ _ _ us hl => match us, hl with | [_, _], _ => rfl),
    a_answered := f_answered, d_answered := d_answered, F_answered := F_answered, m_answered := PySem.W.mg_of X G a_answered, b_answered := (F_answered.binds fun _ _ _ _ _ _ us hl => match us, hl with | [_, _, _], _ => rfl),
    a_answer := f_answer, d_answer := d_answer, F_answer := F_answer, m_answer := PySem.W.mg_of X G a_answer, b_answer := (F_answer.binds fun _ _ _ _ _ _ us hl => match us, hl with | [_, _, _], _ => rfl),
    a_count_in := f_count_in, d_count_in := d_count_in, F_count_in := F_count_in, m_count_in := PySem.W.mg_of X G a_count_in, b_count_in := (F_count_in.binds fun _ _ _ _ _ _ us hl => match us, hl with | [_], _ => rfl),
    a_integer_in := f_integer_in, d_integer_in := d_integer_in, F_integer_in := F_integer_in, m_integer_in := PySem.W.mg_of X G a_integer_in, b_integer_in := (F_integer_in.binds fun _ _ _ _ _ _ us hl => match us, hl with | [_], _ => rfl),
    a_both_in := f_both_in, d_both_in := d_both_in, F_both_in := F_both_in, m_both_in := PySem.W.mg_of X G a_both_in, b_both_in := (F_both_in.binds fun _ _ _ _ _ _ us hl => match us, hl with | [_], _ => rfl),
    a_all_or_none := f_all_or_none, d_all_or_none := d_all_or_none, F_all_or_none := F_all_or_none, m_all_or_none := PySem.W.mg_of X G a_all_or_none, b_all_or_none := (F_all_or_none.binds fun _ _ _ _ _ _ us hl => match us, hl with | [_], _ => rfl),
    a_words_of := f_words_of, d_words_of := d_words_of, F_words_of := F_words_of, m_words_of := PySem.W.mg_of X G a_words_of, b_words_of := (F_words_of.binds fun _ _ _ _ _ _ us hl => match us, hl with | [_], _ => rfl),
    a_calls_or_none := f_calls_or_none, d_calls_or_none := d_calls_or_none, F_calls_or_none := F_calls_or_none, m_calls_or_none := PySem.W.mg_of X G a_calls_or_none, b_calls_or_none := (F_calls_or_none.binds fun _ _ _ _ _ _ us hl => match us, hl with | [_], _ => rfl),
    a_one_in := f_one_in, d_one_in := d_one_in, F_one_in := F_one_in, m_one_in := PySem.W.mg_of X G a_one_in, b_one_in := (F_one_in.binds fun _ _ _ _ _ _ us hl => match us, hl with | [_], _ => rfl),
    a_row_or_none := f_row_or_none, d_row_or_none := d_row_or_none, F_row_or_none := F_row_or_none, m_row_or_none := PySem.W.mg_of X G a_row_or_none, b_row_or_none := (F_row_or_none.binds fun _ _ _ _ _ _ us hl => match us, hl with | [_], _ => rfl),
    a_wish_or_none := f_wish_or_none, d_wish_or_none := d_wish_or_none, F_wish_or_none := F_wish_or_none, m_wish_or_none := PySem.W.mg_of X G a_wish_or_none, b_wish_or_none := (F_wish_or_none.binds fun _ _ _ _ _ _ us hl => match us, hl with | [_], _ => rfl),
    a_arguments_in := f_arguments_in, d_arguments_in := d_arguments_in, F_arguments_in := F_arguments_in, m_arguments_in := PySem.W.mg_of X G a_arguments_in, b_arguments_in := (F_arguments_in.binds fun _ _ _ _ _ _ us hl => match us, hl with | [_, _], _ => rfl),
    a_request_in := f_request_in, d_request_in := d_request_in, F_request_in := F_request_in, m_request_in := PySem.W.mg_of X G a_request_in, b_request_in := (F_request_in.binds fun _ _ _ _ _ _ us hl => match us, hl with | [_], _ => rfl),
    a_requests_in := f_requests_in, d_requests_in := d_requests_in, F_requests_in := F_requests_in, m_requests_in := PySem.W.mg_of X G a_requests_in, b_requests_in := (F_requests_in.binds fun _ _ _ _ _ _ us hl => match us, hl with | [_], _ => rfl),
    a_answers := f_answers, d_answers := d_answers, F_answers := F_answers, m_answers := PySem.W.mg_of X G a_answers, b_answers := (F_answers.binds fun _ _ _ _ _ _ us hl => match us, hl with | [_], _ => rfl),
    a__law_first_right := f__law_first_right, d__law_first_right := d__law_first_right, F__law_first_right := F__law_first_right, m__law_first_right := PySem.W.mg_of X G a__law_first_right, b__law_first_right := (F__law_first_right.binds fun _ _ _ _ _ _ us hl => match us, hl with | [_], _ => rfl),
    a__law_second_right := f__law_second_right, d__law_second_right := d__law_second_right, F__law_second_right := F__law_second_right, m__law_second_right := PySem.W.mg_of X G a__law_second_right, b__law_second_right := (F__law_second_right.binds fun _ _ _ _ _ _ us hl => match us, hl with | [_], _ => rfl),
    a__law_third_right := f__law_third_right, d__law_third_right := d__law_third_right, F__law_third_right := F__law_third_right, m__law_third_right := PySem.W.mg_of X G a__law_third_right, b__law_third_right := (F__law_third_right.binds fun _ _ _ _ _ _ us hl => match us, hl with | [_], _ => rfl),
    a__law_right := f__law_right, d__law_right := d__law_right, F__law_right := F__law_right, m__law_right := PySem.W.mg_of X G a__law_right, b__law_right := (F__law_right.binds fun _ _ _ _ _ _ us hl => match us, hl with | [_], _ => rfl),
    a__law_stream := f__law_stream, d__law_stream := d__law_stream, F__law_stream := F__law_stream, m__law_stream := PySem.W.mg_of X G a__law_stream, b__law_stream := (F__law_stream.binds fun _ _ _ _ _ _ us hl => match us, hl with | [_, _], _ => rfl),
    a_law := fa, d_law := d_law, F_law := F_law, m_law := PySem.W.mg_of X G a_law, b_law := (F_law.binds fun _ _ _ _ _ _ us hl => match us, hl with | [_], _ => rfl),
    m_tops_rows := PySem.W.mg_of X G (al_tops_rows.trans a_tops),
    m_dips_rows := PySem.W.mg_of X G (al_dips_rows.trans a_dips),
    m_run_calling := PySem.W.mg_of X G (al_run_calling.trans a_run),
    n_list := PySem.W.mg_none_of X G z_list,
    n_enumerate := PySem.W.mg_none_of X G z_enumerate,
    n_isinstance := PySem.W.mg_none_of X G z_isinstance,
    n_tuple := PySem.W.mg_none_of X G z_tuple,
    n_len := PySem.W.mg_none_of X G z_len,
    n_zip := PySem.W.mg_none_of X G z_zip,
    n_all := PySem.W.mg_none_of X G z_all,
    n_str := PySem.W.mg_none_of X G z_str,
    n_bool := PySem.W.mg_none_of X G z_bool,
    n_int := PySem.W.mg_none_of X G z_int,
    n_LookupError := PySem.W.mg_none_of X G z_LookupError,
    n_sorted := PySem.W.mg_none_of X G z_sorted,
    n_OverflowError := PySem.W.mg_none_of X G z_OverflowError,
    n_ValueError := PySem.W.mg_none_of X G z_ValueError,
    n_range := PySem.W.mg_none_of X G z_range,
    n_RuntimeError := PySem.W.mg_none_of X G z_RuntimeError,
    n_dict := PySem.W.mg_none_of X G z_dict,
    n_sum := PySem.W.mg_none_of X G z_sum,
    n_set := PySem.W.mg_none_of X G z_set,
    n_abs := PySem.W.mg_none_of X G z_abs,
    t_MOST_PEOPLE := u_MOST_PEOPLE, c_MOST_PEOPLE := PySem.W.mg_of X G w_MOST_PEOPLE,
    t_ORDER := u_ORDER, c_ORDER := PySem.W.mg_of X G w_ORDER,
    t_CHANGE := u_CHANGE, c_CHANGE := PySem.W.mg_of X G w_CHANGE,
    t_RUN_leading := u_RUN_leading, c_RUN_leading := PySem.W.mg_of X G w_RUN_leading,
    t_BLANK := u_BLANK, c_BLANK := PySem.W.mg_of X G w_BLANK,
    t_EMPTY := u_EMPTY, c_EMPTY := PySem.W.mg_of X G w_EMPTY,
    a_SIZES := u_SIZES, c_SIZES := PySem.W.mg_of X G w_SIZES, q_SIZES := ⟨_, _, ⟨qa_SIZES, ql_SIZES, qb_SIZES⟩, qk_SIZES⟩,
    t_MOST_DIGITS := u_MOST_DIGITS, c_MOST_DIGITS := PySem.W.mg_of X G w_MOST_DIGITS,
    t_DIGITS := u_DIGITS, c_DIGITS := PySem.W.mg_of X G w_DIGITS,
    t_MINUS := u_MINUS, c_MINUS := PySem.W.mg_of X G w_MINUS,
    t_OPEN := u_OPEN, c_OPEN := PySem.W.mg_of X G w_OPEN,
    a_WITH_PERSON := u_WITH_PERSON, c_WITH_PERSON := PySem.W.mg_of X G w_WITH_PERSON, q_WITH_PERSON := ⟨_, _, _, qa_WITH_PERSON, rfl, rfl, qs_WITH_PERSON, qv_WITH_PERSON⟩,
    a_WITH_BOTH := u_WITH_BOTH, c_WITH_BOTH := PySem.W.mg_of X G w_WITH_BOTH, q_WITH_BOTH := ⟨_, _, _, qa_WITH_BOTH, rfl, rfl, qs_WITH_BOTH, qv_WITH_BOTH⟩,
    a_WITH_ROW := u_WITH_ROW, c_WITH_ROW := PySem.W.mg_of X G w_WITH_ROW, q_WITH_ROW := ⟨_, _, _, qa_WITH_ROW, rfl, rfl, qs_WITH_ROW, qv_WITH_ROW⟩,
    t_RUN_desklines := u_RUN_desklines, c_RUN_desklines := PySem.W.mg_of X G w_RUN_desklines,
    t_WISH := u_WISH, c_WISH := PySem.W.mg_of X G w_WISH,
    a_ALONE := u_ALONE, c_ALONE := PySem.W.mg_of X G w_ALONE, q_ALONE := ⟨_, _, _, qa_ALONE, rfl, rfl, qs_ALONE, qv_ALONE⟩,
    c_NoPerson := C_NoPerson, cc_NoPerson := aC_NoPerson, m_NoPerson := PySem.W.mg_of X G aC_NoPerson,
    c_NoPlace := C_NoPlace, cc_NoPlace := aC_NoPlace, m_NoPlace := PySem.W.mg_of X G aC_NoPlace,
    c_Full := C_Full, cc_Full := aC_Full, m_Full := PySem.W.mg_of X G aC_Full,
    c_OtherPeople := C_OtherPeople, cc_OtherPeople := aC_OtherPeople, m_OtherPeople := PySem.W.mg_of X G aC_OtherPeople,
    c_Barred := C_Barred, cc_Barred := aC_Barred, m_Barred := PySem.W.mg_of X G aC_Barred,
    c_BadLine := C_BadLine, cc_BadLine := aC_BadLine, m_BadLine := PySem.W.mg_of X G aC_BadLine,
    oc_NoPerson := ⟨⟨_, _, _, _, _, _, _, _, _, _, _, _, _, _, xL_NoPerson⟩, sa_NoPerson, ex_NoPerson, ty_NoPerson, kp_NoPerson⟩, no_NoPerson := no_NoPerson, fi_NoPerson := f_iNoPerson, fd_NoPerson := _, Fi_NoPerson := fun_mk (st := si_NoPerson) li_NoPerson ci_NoPerson ki_NoPerson, iC_NoPerson := iC_NoPerson, ti_NoPerson := ti_NoPerson, bi_NoPerson := ((fun_mk (st := si_NoPerson) li_NoPerson ci_NoPerson ki_NoPerson).binds fun _ _ _ _ _ _ us hl => match us, hl with | [_, _], _ => rfl),
    oc_NoPlace := ⟨⟨_, _, _, _, _, _, _, _, _, _, _, _, _, _, xL_NoPlace⟩, sa_NoPlace, ex_NoPlace, ty_NoPlace, kp_NoPlace⟩, no_NoPlace := no_NoPlace, fi_NoPlace := f_iNoPlace, fd_NoPlace := _, Fi_NoPlace := fun_mk (st := si_NoPlace) li_NoPlace ci_NoPlace ki_NoPlace, iC_NoPlace := iC_NoPlace, ti_NoPlace := ti_NoPlace, bi_NoPlace := ((fun_mk (st := si_NoPlace) li_NoPlace ci_NoPlace ki_NoPlace).binds fun _ _ _ _ _ _ us hl => match us, hl with | [_, _], _ => rfl),
    oc_Full := ⟨⟨_, _, _, _, _, _, _, _, _, _, _, _, _, _, xL_Full⟩, sa_Full, ex_Full, ty_Full, kp_Full⟩, no_Full := no_Full, fi_Full := f_iFull, fd_Full := _, Fi_Full := fun_mk (st := si_Full) li_Full ci_Full ki_Full, iC_Full := iC_Full, ti_Full := ti_Full, bi_Full := ((fun_mk (st := si_Full) li_Full ci_Full ki_Full).binds fun _ _ _ _ _ _ us hl => match us, hl with | [_, _], _ => rfl),
    oc_OtherPeople := ⟨⟨_, _, _, _, _, _, _, _, _, _, _, _, _, _, xL_OtherPeople⟩, sa_OtherPeople, ex_OtherPeople, ty_OtherPeople, kp_OtherPeople⟩, no_OtherPeople := no_OtherPeople, fi_OtherPeople := f_iOtherPeople, fd_OtherPeople := _, Fi_OtherPeople := fun_mk (st := si_OtherPeople) li_OtherPeople ci_OtherPeople ki_OtherPeople, iC_OtherPeople := iC_OtherPeople, ti_OtherPeople := ti_OtherPeople, bi_OtherPeople := ((fun_mk (st := si_OtherPeople) li_OtherPeople ci_OtherPeople ki_OtherPeople).binds fun _ _ _ _ _ _ us hl => match us, hl with | [_, _], _ => rfl),
    oc_Barred := ⟨⟨_, _, _, _, _, _, _, _, _, _, _, _, _, _, xL_Barred⟩, sa_Barred, ex_Barred, ty_Barred, kp_Barred⟩, no_Barred := no_Barred, fi_Barred := f_iBarred, fd_Barred := _, Fi_Barred := fun_mk (st := si_Barred) li_Barred ci_Barred ki_Barred, iC_Barred := iC_Barred, ti_Barred := ti_Barred, bi_Barred := ((fun_mk (st := si_Barred) li_Barred ci_Barred ki_Barred).binds fun _ _ _ _ _ _ us hl => match us, hl with | [_, _], _ => rfl),
    oc_BadLine := ⟨⟨_, _, _, _, _, _, _, _, _, _, _, _, _, _, xL_BadLine⟩, sa_BadLine, ex_BadLine, ty_BadLine, kp_BadLine⟩, no_BadLine := no_BadLine, fi_BadLine := f_iBadLine, fd_BadLine := _, Fi_BadLine := fun_mk (st := si_BadLine) li_BadLine ci_BadLine ki_BadLine, iC_BadLine := iC_BadLine, ti_BadLine := ti_BadLine, bi_BadLine := ((fun_mk (st := si_BadLine) li_BadLine ci_BadLine ki_BadLine).binds fun _ _ _ _ _ _ us hl => match us, hl with | [_, _], _ => rfl),
    vB_LookupError := vB_LookupError,
    vB_OverflowError := vB_OverflowError,
    vB_ValueError := vB_ValueError,
    vB_RuntimeError := vB_RuntimeError,
    et := et }
  obtain ⟨oc, od, kV, doc, pm, an, cdv, ct, osl, ed, lk, hcd⟩ := F_law.ex
  refine ⟨d_law, fun s v => ?_, fun base _ _ => ok_law T⟩
  subst ed
  exact .of_eq rfl
end W
open PySem PySem.W PyProof.Rows
set_option maxHeartbeats 0 in
theorem PySem.Challenge.cw_middlecall_k68_known_desks_holds : PySem.Challenge.rw_middlecall_k68_known_desks.Holds := by
  w_on; o_law; k_head; (case hw => w_witness2)
  k_fill
  refine L2.walk_of (l := PySem.Challenge.rw_middlecall_k68_known_desks) (n := 63) (k := 15) (x := "_law_script") (CX := fun _ => L2.CX0) (sp := fun w => DL.spP _ 1 W.F_law) rfl (by decide) rfl ⟨rfl, by decide, by decide⟩ (fun w h Y => PySem.W.kIn_of Y) ?F (fun _ H a ns hl _ hS => ⟨rfl, H, _, _, L2.Same.refl H, DL.RpA.cons (DL.Rp.scr hS (DL.RpA.ints ns)) DL.RpA.nil, W.law_true ns hl, fun v H1 Z1 _ _ r => by cases r; rfl⟩) (fun _ _ _ _ _ h => h)
  case F =>
    intro w mg fa h KX G hmg
    refine' W.all_mk KX G hmg (W.ff_mk ?a0 ?l0 ?c0 ?k0) (W.ff_mk ?a1 ?l1 ?c1 ?k1) (W.ff_mk ?a2 ?l2 ?c2 ?k2) (W.ffm_mk ?a3 ?t3 ?l3 ?c3 ?k3) (W.ff_mk ?a4 ?l4 ?c4 ?k4) (W.ff_mk ?a5 ?l5 ?c5 ?k5) (W.ff_mk ?a6 ?l6 ?c6 ?k6) (W.ffm_mk ?a7 ?t7 ?l7 ?c7 ?k7) (W.ffm_mk ?a8 ?t8 ?l8 ?c8 ?k8) (W.ffm_mk ?a9 ?t9 ?l9 ?c9 ?k9) (W.ff_mk ?a10 ?l10 ?c10 ?k10) (W.ff_mk ?a11 ?l11 ?c11 ?k11) (W.ff_mk ?a12 ?l12 ?c12 ?k12) (W.ff_mk ?a13 ?l13 ?c13 ?k13) (W.ff_mk ?a14 ?l14 ?c14 ?k14) (W.ff_mk ?a15 ?l15 ?c15 ?k15) (W.ff_mk ?a16 ?l16 ?c16 ?k16) (W.ff_mk ?a17 ?l17 ?c17 ?k17) (W.ff_mk ?a18 ?l18 ?c18 ?k18) (W.ff_mk ?a19 ?l19 ?c19 ?k19) (W.ff_mk ?a20 ?l20 ?c20 ?k20) (W.ff_mk ?a21 ?l21 ?c21 ?k21) (W.ff_mk ?a22 ?l22 ?c22 ?k22) (W.ffm_mk ?a23 ?t23 ?l23 ?c23 ?k23) (W.ffm_mk ?a24 ?t24 ?l24 ?c24 ?k24) (W.ff_mk ?a25 ?l25 ?c25 ?k25) (W.ff_mk ?a26 ?l26 ?c26 ?k26) (W.ffm_mk ?a27 ?t27 ?l27 ?c27 ?k27) (W.ffm_mk ?a28 ?t28 ?l28 ?c28 ?k28) (W.ffm_mk ?a29 ?t29 ?l29 ?c29 ?k29) (W.ff_mk ?a30 ?l30 ?c30 ?k30) (W.ff_mk ?a31 ?l31 ?c31 ?k31) (W.ff_mk ?a32 ?l32 ?c32 ?k32) (W.ff_mk ?a33 ?l33 ?c33 ?k33) (W.ff_mk ?a34 ?l34 ?c34 ?k34) (W.ff_mk ?a35 ?l35 ?c35 ?k35) (W.ff_mk ?a36 ?l36 ?c36 ?k36) (W.ff_mk ?a37 ?l37 ?c37 ?k37) (W.ff_mk ?a38 ?l38 ?c38 ?k38) (W.ff_mk ?a39 ?l39 ?c39 ?k39) (W.ff_mk ?a40 ?l40 ?c40 ?k40) (W.ff_mk ?a41 ?l41 ?c41 ?k41) (W.ff_mk ?a42 ?l42 ?c42 ?k42) (W.ff_mk ?a43 ?l43 ?c43 ?k43) (W.ff_mk ?a44 ?l44 ?c44 ?k44) (W.ffm_mk ?a45 ?t45 ?l45 ?c45 ?k45) (W.ff_mk ?a46 ?l46 ?c46 ?k46) (W.ff_mk ?a47 ?l47 ?c47 ?k47) (W.ffm_mk ?a48 ?t48 ?l48 ?c48 ?k48) (W.ffm_mk ?a49 ?t49 ?l49 ?c49 ?k49) (W.ffm_mk ?a50 ?t50 ?l50 ?c50 ?k50) (W.ffm_mk ?a51 ?t51 ?l51 ?c51 ?k51) (W.ff_mk ?a52 ?l52 ?c52 ?k52) (W.ff_mk ?a53 ?l53 ?c53 ?k53) (W.ff_mk ?a54 ?l54 ?c54 ?k54) (W.ff_mk ?a55 ?l55 ?c55 ?k55) (W.ff_mk ?a56 ?l56 ?c56 ?k56) (W.ff_mk ?a57 ?l57 ?c57 ?k57) (W.ff_mk ?a58 ?l58 ?c58 ?k58) (W.ff_mk ?a59 ?l59 ?c59 ?k59) (W.ff_mk ?a60 ?l60 ?c60 ?k60) (W.ff_mk ?a61 ?l61 ?c61 ?k61) (W.ff_mk ?a62 ?l62 ?c62 ?k62) (W.ff_mk ?a63 ?l63 ?c63 ?k63) (W.ff_mk ?a64 ?l64 ?c64 ?k64) (W.ff_mk ?a65 ?l65 ?c65 ?k65) (W.ff_mk ?a66 ?l66 ?c66 ?k66) (W.ff_mk ?a67 ?l67 ?c67 ?k67) (W.ff_mk ?a68 ?l68 ?c68 ?k68) (W.ff_mk ?a69 ?l69 ?c69 ?k69) (W.ff_mk ?a70 ?l70 ?c70 ?k70) (W.ff_mk ?a71 ?l71 ?c71 ?k71) (W.ff_mk ?a72 ?l72 ?c72 ?k72) (W.ff_mk ?a73 ?l73 ?c73 ?k73) (W.ff_mk ?a74 ?l74 ?c74 ?k74) (W.ff_mk ?a75 ?l75 ?c75 ?k75) (W.ff_mk ?a76 ?l76 ?c76 ?k76) (W.ff_mk ?a77 ?l77 ?c77 ?k77) ?al_tops_rows ?al_dips_rows ?al_run_calling ?z0 ?z1 ?z2 ?z3 ?z4 ?z5 ?z6 ?z7 ?z8 ?z9 ?z10 ?z11 ?z12 ?z13 ?z14 ?z15 ?z16 ?z17 ?z18 ?z19 ?w0 ?w1 ?w2 ?w3 ?w4 ?w5 ?w6 ?qa6 ?ql6 ?qb6 ?qk6 ?w7 ?w8 ?w9 ?w10 ?w11 ?qa11 ?qs11 ?qv11 ?w12 ?qa12 ?qs12 ?qv12 ?w13 ?qa13 ?qs13 ?qv13 ?w14 ?w15 ?w16 ?qa16 ?qs16 ?qv16 ?aC_Hall ?pg_Hall ?hd_Hall ?po_Hall ?sa_Hall ?nr_Hall ?nl_Hall ?mk_Hall ?iC_Hall ?ti_Hall ?kp_Hall ?li_Hall ?lT_Hall ?ci_Hall ?ki_Hall ?aC_NoPerson ?aC_NoPlace ?aC_Full ?aC_OtherPeople ?aC_Barred ?aC_BadLine ?xL_NoPerson ?sa_NoPerson ?ex_NoPerson ?ty_NoPerson ?kp_NoPerson ?no_NoPerson ?iC_NoPerson ?ti_NoPerson ?li_NoPerson ?ci_NoPerson ?ki_NoPerson ?xL_NoPlace ?sa_NoPlace ?ex_NoPlace ?ty_NoPlace ?kp_NoPlace ?no_NoPlace ?iC_NoPlace ?ti_NoPlace ?li_NoPlace ?ci_NoPlace ?ki_NoPlace ?xL_Full ?sa_Full ?ex_Full ?ty_Full ?kp_Full ?no_Full ?iC_Full ?ti_Full ?li_Full ?ci_Full ?ki_Full ?xL_OtherPeople ?sa_OtherPeople ?ex_OtherPeople ?ty_OtherPeople ?kp_OtherPeople ?no_OtherPeople ?iC_OtherPeople ?ti_OtherPeople ?li_OtherPeople ?ci_OtherPeople ?ki_OtherPeople ?xL_Barred ?sa_Barred ?ex_Barred ?ty_Barred ?kp_Barred ?no_Barred ?iC_Barred ?ti_Barred ?li_Barred ?ci_Barred ?ki_Barred ?xL_BadLine ?sa_BadLine ?ex_BadLine ?ty_BadLine ?kp_BadLine ?no_BadLine ?iC_BadLine ?ti_BadLine ?li_BadLine ?ci_BadLine ?ki_BadLine ?vB_LookupError ?vB_OverflowError ?vB_ValueError ?vB_RuntimeError ?et
    (case aC_Hall => k_is)
    (case a0 => k_is); (case l0 => k_is); (case c0 => k_is); (case k0 => k_is); (case a1 => k_is); (case l1 => k_is); (case c1 => k_is); (case k1 => k_is); (case a2 => k_is); (case l2 => k_is); (case c2 => k_is); (case k2 => k_is); (case a3 => k_is); (case t3 => k_is); (case l3 => k_is); (case c3 => k_is); (case k3 => k_is); (case a4 => k_is); (case l4 => k_is); (case c4 => k_is); (case k4 => k_is); (case a5 => k_is); (case l5 => k_is); (case c5 => k_is); (case k5 => k_is); (case a6 => k_is); (case l6 => k_is); (case c6 => k_is); (case k6 => k_is); (case a7 => k_is); (case t7 => k_is); (case l7 => k_is); (case c7 => k_is); (case k7 => k_is); (case a8 => k_is); (case t8 => k_is); (case l8 => k_is); (case c8 => k_is); (case k8 => k_is); (case a9 => k_is); (case t9 => k_is); (case l9 => k_is); (case c9 => k_is); (case k9 => k_is); (case a10 => k_is); (case l10 => k_is); (case c10 => k_is); (case k10 => k_is); (case a11 => k_is); (case l11 => k_is); (case c11 => k_is); (case k11 => k_is); (case a12 => k_is); (case l12 => k_is); (case c12 => k_is); (case k12 => k_is); (case a13 => k_is); (case l13 => k_is); (case c13 => k_is); (case k13 => k_is); (case a14 => k_is); (case l14 => k_is); (case c14 => k_is); (case k14 => k_is); (case a15 => k_is); (case l15 => k_is); (case c15 => k_is); (case k15 => k_is); (case a16 => k_is); (case l16 => k_is); (case c16 => k_is); (case k16 => k_is); (case a17 => k_is); (case l17 => k_is); (case c17 => k_is); (case k17 => k_is); (case a18 => k_is); (case l18 => k_is); (case c18 => k_is); (case k18 => k_is); (case a19 => k_is); (case l19 => k_is); (case c19 => k_is); (case k19 => k_is); (case a20 => k_is); (case l20 => k_is); (case c20 => k_is); (case k20 => k_is); (case a21 => k_is); (case l21 => k_is); (case c21 => k_is); (case k21 => k_is); (case a22 => k_is); (case l22 => k_is); (case c22 => k_is); (case k22 => k_is); (case a23 => k_is); (case t23 => k_is); (case l23 => k_is); (case c23 => k_is); (case k23 => k_is); (case a24 => k_is); (case t24 => k_is); (case l24 => k_is); (case c24 => k_is); (case k24 => k_is); (case a25 => k_is); (case l25 => k_is); (case c25 => k_is); (case k25 => k_is); (case a26 => k_is); (case l26 => k_is); (case c26 => k_is); (case k26 => k_is); (case a27 => k_is); (case t27 => k_is); (case l27 => k_is); (case c27 => k_is); (case k27 => k_is); (case a28 => k_is); (case t28 => k_is); (case l28 => k_is); (case c28 => k_is); (case k28 => k_is); (case a29 => k_is); (case t29 => k_is); (case l29 => k_is); (case c29 => k_is); (case k29 => k_is); (case a30 => k_is); (case l30 => k_is); (case c30 => k_is); (case k30 => k_is); (case a31 => k_is); (case l31 => k_is); (case c31 => k_is); (case k31 => k_is); (case a32 => k_is); (case l32 => k_is); (case c32 => k_is); (case k32 => k_is); (case a33 => k_is); (case l33 => k_is); (case c33 => k_is); (case k33 => k_is); (case a34 => k_is); (case l34 => k_is); (case c34 => k_is); (case k34 => k_is); (case a35 => k_is); (case l35 => k_is); (case c35 => k_is); (case k35 => k_is); (case a36 => k_is); (case l36 => k_is); (case c36 => k_is); (case k36 => k_is); (case a37 => k_is); (case l37 => k_is); (case c37 => k_is); (case k37 => k_is); (case a38 => k_is); (case l38 => k_is); (case c38 => k_is); (case k38 => k_is); (case a39 => k_is); (case l39 => k_is); (case c39 => k_is); (case k39 => k_is); (case a40 => k_is); (case l40 => k_is); (case c40 => k_is); (case k40 => k_is); (case a41 => k_is); (case l41 => k_is); (case c41 => k_is); (case k41 => k_is); (case a42 => k_is); (case l42 => k_is); (case c42 => k_is); (case k42 => k_is); (case a43 => k_is); (case l43 => k_is); (case c43 => k_is); (case k43 => k_is); (case a44 => k_is); (case l44 => k_is); (case c44 => k_is); (case k44 => k_is); (case a45 => k_is); (case t45 => k_is); (case l45 => k_is); (case c45 => k_is); (case k45 => k_is); (case a46 => k_is); (case l46 => k_is); (case c46 => k_is); (case k46 => k_is); (case a47 => k_is); (case l47 => k_is); (case c47 => k_is); (case k47 => k_is); (case a48 => k_is); (case t48 => k_is); (case l48 => k_is); (case c48 => k_is); (case k48 => k_is); (case a49 => k_is); (case t49 => k_is); (case l49 => k_is); (case c49 => k_is); (case k49 => k_is); (case a50 => k_is); (case t50 => k_is); (case l50 => k_is); (case c50 => k_is); (case k50 => k_is); (case a51 => k_is); (case t51 => k_is); (case l51 => k_is); (case c51 => k_is); (case k51 => k_is); (case a52 => k_is); (case l52 => k_is); (case c52 => k_is); (case k52 => k_is); (case a53 => k_is); (case l53 => k_is); (case c53 => k_is); (case k53 => k_is); (case a54 => k_is); (case l54 => k_is); (case c54 => k_is); (case k54 => k_is); (case a55 => k_is); (case l55 => k_is); (case c55 => k_is); (case k55 => k_is); (case a56 => k_is); (case l56 => k_is); (case c56 => k_is); (case k56 => k_is); (case a57 => k_is); (case l57 => k_is); (case c57 => k_is); (case k57 => k_is); (case a58 => k_is); (case l58 => k_is); (case c58 => k_is); (case k58 => k_is); (case a59 => k_is); (case l59 => k_is); (case c59 => k_is); (case k59 => k_is); (case a60 => k_is); (case l60 => k_is); (case c60 => k_is); (case k60 => k_is); (case a61 => k_is); (case l61 => k_is); (case c61 => k_is); (case k61 => k_is); (case a62 => k_is); (case l62 => k_is); (case c62 => k_is); (case k62 => k_is); (case a63 => k_is); (case l63 => k_is); (case c63 => k_is); (case k63 => k_is); (case a64 => k_is); (case l64 => k_is); (case c64 => k_is); (case k64 => k_is); (case a65 => k_is); (case l65 => k_is); (case c65 => k_is); (case k65 => k_is); (case a66 => k_is); (case l66 => k_is); (case c66 => k_is); (case k66 => k_is); (case a67 => k_is); (case l67 => k_is); (case c67 => k_is); (case k67 => k_is); (case a68 => k_is); (case l68 => k_is); (case c68 => k_is); (case k68 => k_is); (case a69 => k_is); (case l69 => k_is); (case c69 => k_is); (case k69 => k_is); (case a70 => k_is); (case l70 => k_is); (case c70 => k_is); (case k70 => k_is); (case a71 => k_is); (case l71 => k_is); (case c71 => k_is); (case k71 => k_is); (case a72 => k_is); (case l72 => k_is); (case c72 => k_is); (case k72 => k_is); (case a73 => k_is); (case l73 => k_is); (case c73 => k_is); (case k73 => k_is); (case a74 => k_is); (case l74 => k_is); (case c74 => k_is); (case k74 => k_is); (case a75 => k_is); (case l75 => k_is); (case c75 => k_is); (case k75 => k_is); (case a76 => k_is); (case l76 => k_is); (case c76 => k_is); (case k76 => k_is); (case a77 => k_is); (case l77 => k_is); (case c77 => k_is); (case k77 => k_is)
    (case al_tops_rows => first | rfl | kernel_rfl | k_is)
    (case al_dips_rows => first | rfl | kernel_rfl | k_is)
    (case al_run_calling => first | rfl | kernel_rfl | k_is)
    (case z0 => k_is); (case z1 => k_is); (case z2 => k_is); (case z3 => k_is); (case z4 => k_is); (case z5 => k_is); (case z6 => k_is); (case z7 => k_is); (case z8 => k_is); (case z9 => k_is); (case z10 => k_is); (case z11 => k_is); (case z12 => k_is); (case z13 => k_is); (case z14 => k_is); (case z15 => k_is); (case z16 => k_is); (case z17 => k_is); (case z18 => k_is); (case z19 => k_is)
    (case w0 => k_is); (case w1 => k_is); (case w2 => k_is); (case w3 => k_is); (case w4 => k_is); (case w5 => k_is); (case w6 => k_is); (case w7 => k_is); (case w8 => k_is); (case w9 => k_is); (case w10 => k_is); (case w11 => k_is); (case w12 => k_is); (case w13 => k_is); (case w14 => k_is); (case w15 => k_is); (case w16 => k_is)
    (case qa6 => k_is); (case ql6 => exact ⟨⟨_, _, rfl, rfl⟩, ⟨⟨_, _, rfl, rfl⟩, ⟨⟨_, _, rfl, rfl⟩, ⟨⟨_, _, rfl, rfl⟩, ⟨⟨_, _, rfl, rfl⟩, ⟨⟨_, _, rfl, rfl⟩, True.intro⟩⟩⟩⟩⟩⟩); (case qb6 => first | rfl | decide); (case qk6 => rfl)
    (case qa11 => k_is); (case qs11 => decide); (case qv11 => exact .cons ⟨_, rfl⟩ (.cons ⟨_, rfl⟩ (.nil)))
    (case qa12 => k_is); (case qs12 => decide); (case qv12 => exact .cons ⟨_, rfl⟩ (.cons ⟨_, rfl⟩ (.nil)))
    (case qa13 => k_is); (case qs13 => decide); (case qv13 => exact .cons ⟨_, rfl⟩ (.cons ⟨_, rfl⟩ (.cons ⟨_, rfl⟩ (.cons ⟨_, rfl⟩ (.nil)))))
    (case qa16 => k_is); (case qs16 => decide); (case qv16 => exact .cons ⟨_, rfl⟩ (.cons ⟨_, rfl⟩ (.cons ⟨_, rfl⟩ (.cons ⟨_, rfl⟩ (.cons ⟨_, rfl⟩ (.cons ⟨_, rfl⟩ (.nil)))))))
    (case pg_Hall => first | k_is | rfl)
    (case hd_Hall => first | k_is | rfl)
    (case po_Hall => first | k_is | rfl)
    (case sa_Hall => first | k_is | rfl)
    (case nr_Hall => first | k_is | rfl)
    (case nl_Hall => first | k_is | rfl)
    (case mk_Hall => first | k_is | rfl)
    (case iC_Hall => first | k_is | rfl)
    (case ti_Hall => first | k_is | rfl)
    (case kp_Hall => first | k_is | rfl)
    (case li_Hall => first | k_is | rfl)
    (case lT_Hall => first | k_is | rfl)
    (case ci_Hall => first | k_is | rfl)
    (case ki_Hall => first | k_is | rfl)
    (case aC_NoPerson => first | k_is | rfl)
    (case aC_NoPlace => first | k_is | rfl)
    (case aC_Full => first | k_is | rfl)
    (case aC_OtherPeople => first | k_is | rfl)
    (case aC_Barred => first | k_is | rfl)
    (case aC_BadLine => first | k_is | rfl)
    (case xL_NoPerson => first | k_is | rfl)
    (case sa_NoPerson => first | k_is | rfl)
    (case ex_NoPerson => first | k_is | rfl)
    (case ty_NoPerson => first | k_is | rfl)
    (case kp_NoPerson => first | k_is | rfl)
    (case no_NoPerson => first | k_is | rfl)
    (case iC_NoPerson => first | k_is | rfl)
    (case ti_NoPerson => first | k_is | rfl)
    (case li_NoPerson => first | k_is | rfl)
    (case ci_NoPerson => first | k_is | rfl)
    (case ki_NoPerson => first | k_is | rfl)
    (case xL_NoPlace => first | k_is | rfl)
    (case sa_NoPlace => first | k_is | rfl)
    (case ex_NoPlace => first | k_is | rfl)
    (case ty_NoPlace => first | k_is | rfl)
    (case kp_NoPlace => first | k_is | rfl)
    (case no_NoPlace => first | k_is | rfl)
    (case iC_NoPlace => first | k_is | rfl)
    (case ti_NoPlace => first | k_is | rfl)
    (case li_NoPlace => first | k_is | rfl)
    (case ci_NoPlace => first | k_is | rfl)
    (case ki_NoPlace => first | k_is | rfl)
    (case xL_Full => first | k_is | rfl)
    (case sa_Full => first | k_is | rfl)
    (case ex_Full => first | k_is | rfl)
    (case ty_Full => first | k_is | rfl)
    (case kp_Full => first | k_is | rfl)
    (case no_Full => first | k_is | rfl)
    (case iC_Full => first | k_is | rfl)
    (case ti_Full => first | k_is | rfl)
    (case li_Full => first | k_is | rfl)
    (case ci_Full => first | k_is | rfl)
    (case ki_Full => first | k_is | rfl)
    (case xL_OtherPeople => first | k_is | rfl)
    (case sa_OtherPeople => first | k_is | rfl)
    (case ex_OtherPeople => first | k_is | rfl)
    (case ty_OtherPeople => first | k_is | rfl)
    (case kp_OtherPeople => first | k_is | rfl)
    (case no_OtherPeople => first | k_is | rfl)
    (case iC_OtherPeople => first | k_is | rfl)
    (case ti_OtherPeople => first | k_is | rfl)
    (case li_OtherPeople => first | k_is | rfl)
    (case ci_OtherPeople => first | k_is | rfl)
    (case ki_OtherPeople => first | k_is | rfl)
    (case xL_Barred => first | k_is | rfl)
    (case sa_Barred => first | k_is | rfl)
    (case ex_Barred => first | k_is | rfl)
    (case ty_Barred => first | k_is | rfl)
    (case kp_Barred => first | k_is | rfl)
    (case no_Barred => first | k_is | rfl)
    (case iC_Barred => first | k_is | rfl)
    (case ti_Barred => first | k_is | rfl)
    (case li_Barred => first | k_is | rfl)
    (case ci_Barred => first | k_is | rfl)
    (case ki_Barred => first | k_is | rfl)
    (case xL_BadLine => first | k_is | rfl)
    (case sa_BadLine => first | k_is | rfl)
    (case ex_BadLine => first | k_is | rfl)
    (case ty_BadLine => first | k_is | rfl)
    (case kp_BadLine => first | k_is | rfl)
    (case no_BadLine => first | k_is | rfl)
    (case iC_BadLine => first | k_is | rfl)
    (case ti_BadLine => first | k_is | rfl)
    (case li_BadLine => first | k_is | rfl)
    (case ci_BadLine => first | k_is | rfl)
    (case ki_BadLine => first | k_is | rfl)
    (case vB_LookupError => first | k_is | rfl)
    (case vB_OverflowError => first | k_is | rfl)
    (case vB_ValueError => first | k_is | rfl)
    (case vB_RuntimeError => first | k_is | rfl)
    (case et => first | kernel_rfl | rfl | k_is)
