import PyProof.Rows.All
import Wide.All
import OpenK.AllK
import Wide.FinOn
import HandS.TupMul
import HandS.TupAny
import HandS.ForMost
import KE.SortData
import KE.DataCmp
import KE.DataMinMax
import KE.KDictKeyed
import KE.KDictWalk
import HandS.IsInst
import HandS.Deep
import HandS.Style
import HandS.Wide
import HandS.Conv
import HandS.List
import HandS.Zip
import HandS.Star
import HandS.SetFor
import HandS.Strs
import HandS.SortInts
import HandS.TupLe
import HandS.Defaults
import HandS.Base
import PyProof.SumWalkG
import PyProof.WalksMore
import KE.GoesMore
import KE.DataFind
import KE.SortCalls
import PyProof.EnumIter
import HandS.SetKeys
import HandS.TupSets
import KE.KDictDisplayH
import HandS.SortKw
import HandS.DictComp
import HandS.HeadEnd
import HandS.Dict
import KE.KStateDown
import Lean
import HandS.Head0
import HandS.Head1
import HandS.Head2
import HandS.HeadHook1
import HandS.HeadHook2
import HandS.Words
import PySem.Challenge.RW_echofields_k67_rings_of_some_fields
set_option Elab.async false
set_option linter.all false
set_option maxRecDepth 100000
set_option maxHeartbeats 4000000
section
set_option autoImplicit false
namespace L2
open PySem PySem.Spec PyProof.Rows
/-- () * k, t * 1: the tuple itself -/
theorem ef_tuple_mul1 (l : Addr) (items : Array Value) (n : Nat) (dd : Option Addr) (sl : Array (Option Value)) (x : Int) (u : Tok) (c0 : (decide (x < -(2 ^ 63)) || decide (x ≥ 2 ^ 63)) = false) (c1 : (items.isEmpty || x == 1) = true) :
    Meets (Builtin.«tuple.__mul__» ⟨[.ref l, .int x u], []⟩) (fun _ R s => s.heap.get? l = some { cls := .type "tuple", dict := dd, data := .seq items n, slots := sl } ∧ R (.ok (.ret (Value.ref l))) s) :=
  .of_wp fun prog w A R s h => by
    obtain ⟨hp, g, d, tk, os⟩ := s
    obtain ⟨hl, h⟩ := h
    have f1 := AutoSeq1.idx_int
    wp_walk using wpAny_loadPart' hl
    repeat (first
      | (refine wpAny_ite_false (decide_eq_false (by rw [c0]; exact Bool.false_ne_true)) ?_; wp_walk using wpAny_loadPart' hl)
      | (refine wpAny_ite_true (decide_eq_true c1) ?_; wp_walk using wpAny_loadPart' hl))
    exact ⟨_, rfl, h⟩
def rRepT1 (K : PySem.W.Frag) : R2 := fun x y H Q => ∃ l k xs, x = .ref l ∧ y = .int k ∧ SqT K H l xs ∧ (xs = [] ∨ k = 1) ∧ 1 ≤ k ∧ k < 2 ^ 63 ∧ Q (.ref l) H
section
variable {X : Cx}
theorem op_repT1 : OpR X (binaryOp .Mult) (rRepT1 X.K) := by
  intro pins s σ H x y v u Q I rx ry h
  obtain ⟨l, k, xs, rfl, rfl, hT, hne, h1, h2, q⟩ := h
  cases rx
  obtain ⟨t, rfl⟩ := ry
  obtain ⟨its, r, ⟨⟨cls, dd, data, sl⟩, ho, hc, n, hd⟩, hs⟩ := I.tuple hT
  simp only at hc hd
  subst hc hd
  have c0 : (decide (k < -(2 ^ 63)) || decide (k ≥ 2 ^ 63)) = false := by
    rw [decide_eq_false (by omega), decide_eq_false (by omega)] <;> rfl
  have c1 : (its.toArray.isEmpty || k == 1) = true := by
    rcases hne with rfl | rfl
    · cases r; rfl
    · simp
  refine wpAny_binaryOp_repeat_ref (T := "tuple") (U := "int") (by decide) ⟨_, ho, rfl⟩ (fun s' => typeIs_int s' k t) noFill_tuple_mul F.fills_int_mul F.slot_int_rmul repeat_tuple F.slot_int_index.lookup
    (call_meets F.slot_int_rmul (typeIs_int s k t) F.entry_int_rmul (F.args_int_rmul_2 _ _) (int_rmul_tuple k t l its.toArray n dd sl)
      ⟨ho, rfl, ⟨_, ho, rfl⟩, call_meets F.slot_tuple_mul ⟨_, ho, rfl⟩ F.entry_tuple_mul (F.args_tuple_mul_2 _ _) (ef_tuple_mul1 l its.toArray n dd sl k t c0 c1) ⟨ho, ?_⟩⟩)
  exact ⟨.ref l, H, I, rfl, q⟩
end
end L2

end

section
set_option autoImplicit false
namespace Ef
open PySem L2
/-! ### data that may be keys of dicts: None, whole numbers, tuples of such -/
mutual
def okN : PyData → Bool
  | .none => true
  | .int _ => true
  | .tuple xs => okNs xs
  | _ => false
def okNs : List PyData → Bool
  | [] => true
  | x :: xs => okN x && okNs xs
end
mutual
def nk : PyData → NestedKey
  | .int i => .num i
  | .tuple xs => .tup (nks xs)
  | _ => .none
def nks : List PyData → List NestedKey
  | [] => []
  | x :: xs => nk x :: nks xs
end
mutual
def nhash : NestedKey → Int
  | .none => reduceHash 0xFCA86420
  | .num i => hashInt i
  | .text _ => 0
  | .tup ks => reduceHash (Builtin.Tuple.tupleHashOf (nhashes ks))
def nhashes : List NestedKey → List Int
  | [] => []
  | k :: ks => nhash k :: nhashes ks
end
mutual
theorem nhash_eq (w : World) : ∀ d : PyData, okN d = true → (nk d).hash w = nhash (nk d)
  | .none, _ => by simp only [nk, NestedKey.hash, nhash]
  | .int i, _ => by simp only [nk, NestedKey.hash, nhash]
  | .tuple xs, h => by
    simp only [okN] at h
    simp only [nk, NestedKey.hash, nhash, nhashes_eq w xs h]
  | .bool _, h => by simp [okN] at h
  | .str _, h => by simp [okN] at h
  | .list _, h => by simp [okN] at h
  | .dict _, h => by simp [okN] at h
theorem nhashes_eq (w : World) : ∀ ds : List PyData, okNs ds = true → NestedKey.hashes w (nks ds) = nhashes (nks ds)
  | [], _ => rfl
  | x :: xs, h => by
    simp only [okNs, Bool.and_eq_true] at h
    simp only [nks, NestedKey.hashes, nhashes, nhash_eq w x h.1, nhashes_eq w xs h.2]
end
mutual
theorem nk_inj : ∀ a b : PyData, okN a = true → okN b = true → nk a = nk b → a = b
  | .none, .none, _, _, _ => rfl
  | .none, .int _, _, _, e => by simp [nk] at e
  | .none, .tuple _, _, _, e => by simp [nk] at e
  | .int _, .none, _, _, e => by simp [nk] at e
  | .int i, .int j, _, _, e => by simp only [nk, NestedKey.num.injEq] at e; rw [e]
  | .int _, .tuple _, _, _, e => by simp [nk] at e
  | .tuple _, .none, _, _, e => by simp [nk] at e
  | .tuple _, .int _, _, _, e => by simp [nk] at e
  | .tuple xs, .tuple ys, h, q, e => by
    simp only [okN] at h q
    simp only [nk, NestedKey.tup.injEq] at e
    rw [nks_inj xs ys h q e]
  | .bool _, _, h, _, _ => by simp [okN] at h
  | .str _, _, h, _, _ => by simp [okN] at h
  | .list _, _, h, _, _ => by simp [okN] at h
  | .dict _, _, h, _, _ => by simp [okN] at h
  | .none, .bool _, _, h, _ => by simp [okN] at h
  | .none, .str _, _, h, _ => by simp [okN] at h
  | .none, .list _, _, h, _ => by simp [okN] at h
  | .none, .dict _, _, h, _ => by simp [okN] at h
  | .int _, .bool _, _, h, _ => by simp [okN] at h
  | .int _, .str _, _, h, _ => by simp [okN] at h
  | .int _, .list _, _, h, _ => by simp [okN] at h
  | .int _, .dict _, _, h, _ => by simp [okN] at h
  | .tuple _, .bool _, _, h, _ => by simp [okN] at h
  | .tuple _, .str _, _, h, _ => by simp [okN] at h
  | .tuple _, .list _, _, h, _ => by simp [okN] at h
  | .tuple _, .dict _, _, h, _ => by simp [okN] at h
theorem nks_inj : ∀ a b : List PyData, okNs a = true → okNs b = true → nks a = nks b → a = b
  | [], [], _, _, _ => rfl
  | [], _ :: _, _, _, e => by simp [nks] at e
  | _ :: _, [], _, _, e => by simp [nks] at e
  | x :: xs, y :: ys, h, q, e => by
    simp only [okNs, Bool.and_eq_true] at h q
    simp only [nks, List.cons.injEq] at e
    rw [nk_inj x y h.1 q.1 e.1, nks_inj xs ys h.2 q.2 e.2]
end
mutual
theorem nk_depth : ∀ d : PyData, (nk d).depth ≤ d.depth
  | .tuple xs => by simp only [nk, NestedKey.depth, PyData.depth]; have := nks_depth xs; omega
  | .none => by simp [nk, NestedKey.depth]
  | .int _ => by simp [nk, NestedKey.depth]
  | .bool _ => by simp [nk, NestedKey.depth]
  | .str _ => by simp [nk, NestedKey.depth]
  | .list _ => by simp [nk, NestedKey.depth]
  | .dict _ => by simp [nk, NestedKey.depth]
theorem nks_depth : ∀ ds : List PyData, NestedKey.depthAll (nks ds) ≤ PyData.depthAll ds
  | [] => by simp [nks, NestedKey.depthAll]
  | x :: xs => by
    simp only [nks, NestedKey.depthAll, PyData.depthAll]
    have := nk_depth x
    have := nks_depth xs
    omega
end
mutual
theorem eqvN : ∀ a b : PyData, okN a = true → okN b = true → (PyData.eqv a b = true ↔ a = b)
  | .none, .none, _, _ => by simp [PyData.eqv]
  | .none, .int _, _, _ => by simp [PyData.eqv]
  | .none, .tuple _, _, _ => by simp [PyData.eqv]
  | .int _, .none, _, _ => by simp [PyData.eqv]
  | .int i, .int j, _, _ => by simp [PyData.eqv]
  | .int _, .tuple _, _, _ => by simp [PyData.eqv]
  | .tuple _, .none, _, _ => by simp [PyData.eqv]
  | .tuple _, .int _, _, _ => by simp [PyData.eqv]
  | .tuple xs, .tuple ys, h, q => by
    simp only [okN] at h q
    simp only [PyData.eqv, PyData.tuple.injEq]
    exact eqvNs xs ys h q
  | .bool _, _, h, _ => by simp [okN] at h
  | .str _, _, h, _ => by simp [okN] at h
  | .list _, _, h, _ => by simp [okN] at h
  | .dict _, _, h, _ => by simp [okN] at h
  | .none, .bool _, _, h => by simp [okN] at h
  | .none, .str _, _, h => by simp [okN] at h
  | .none, .list _, _, h => by simp [okN] at h
  | .none, .dict _, _, h => by simp [okN] at h
  | .int _, .bool _, _, h => by simp [okN] at h
  | .int _, .str _, _, h => by simp [okN] at h
  | .int _, .list _, _, h => by simp [okN] at h
  | .int _, .dict _, _, h => by simp [okN] at h
  | .tuple _, .bool _, _, h => by simp [okN] at h
  | .tuple _, .str _, _, h => by simp [okN] at h
  | .tuple _, .list _, _, h => by simp [okN] at h
  | .tuple _, .dict _, _, h => by simp [okN] at h
theorem eqvNs : ∀ a b : List PyData, okNs a = true → okNs b = true → (PyData.eqvAll a b = true ↔ a = b)
  | [], [], _, _ => by simp [PyData.eqvAll]
  | [], _ :: _, _, _ => by simp [PyData.eqvAll]
  | _ :: _, [], _, _ => by simp [PyData.eqvAll]
  | x :: xs, y :: ys, h, q => by
    simp only [okNs, Bool.and_eq_true] at h q
    simp only [PyData.eqvAll, Bool.and_eq_true, List.cons.injEq]
    rw [eqvN x y h.1 q.1, eqvNs xs ys h.2 q.2]
end
/-- a tuple that may be a key -/
def keyN : PyData → Bool
  | .tuple xs => okNs xs && decide (PyData.depthAll xs ≤ 7)
  | _ => false
theorem keyN_ok {d : PyData} (h : keyN d = true) : okN d = true ∧ d.depth ≤ 8 := by
  cases d with
  | tuple xs =>
    simp only [keyN, Bool.and_eq_true, decide_eq_true_eq] at h
    simp only [okN, PyData.depth]
    exact ⟨h.1, by omega⟩
  | _ => simp [keyN] at h
theorem nk_eq {a b : PyData} (ha : keyN a = true) (hb : keyN b = true) : decide (nk a = nk b) = PyData.eqv a b := by
  rw [Bool.eq_iff_iff, decide_eq_true_eq, eqvN a b (keyN_ok ha).1 (keyN_ok hb).1]
  exact ⟨nk_inj a b (keyN_ok ha).1 (keyN_ok hb).1, fun e => by rw [e]⟩
/-- entries of a dict whose keys are tuples -/
def ent0 (x : NestedKey × Addr × Value) : DictEntry := ⟨nhash x.1, .ref x.2.1, x.2.2⟩
/-- such a dict's object -/
def DnObj (o : Obj) (xs : List (NestedKey × Addr × Value)) : Prop := o.ExactDict ∧ (∃ es ep, o.data = .dict es ep ∧ es.toList = xs.map ent0) ∧ (xs.map (·.1)).Nodup ∧ xs.length ≤ sizeLine
def DnO (a : Addr) (o : Obj) (xs : List (NestedKey × Addr × Value)) : HO := .ext fun h => (a == sysModules) = false ∧ h.get? a = some o ∧ DnObj o xs
theorem dnO_of {P : Program} {w : World} {H : Hp} {h : Heap} {a b : Addr} {o : Obj} {xs : List (NestedKey × Addr × Value)} (x : ObjOk P w H h a (DnO b o xs)) : b = a ∧ h.get? a = some o ∧ (a == sysModules) = false ∧ DnObj o xs := by
  obtain ⟨⟨h2, h3, h4⟩, _, st⟩ := x
  have e : b = a := Classical.byContradiction fun ne => by
    have z := st h (h.update b (fun _ => { cls := .none, data := .fields #[] })) ⟨h2, h3, h4⟩ fun o' q => by
      rw [Heap.get?_update_ne _ _ _ _ (fun z => ne z.symm)]; exact q
    have z2 := z.2.1
    rw [Heap.get?_update_self _ h3 rfl] at z2
    have := Option.some.inj z2
    rw [← this] at h4
    have := h4.1.1
    cases this
  subst e
  exact ⟨rfl, h3, h2, h4⟩
theorem dnO_new {P : Program} {w : World} {H : Hp} {h : Heap} {a : Addr} {o : Obj} {xs : List (NestedKey × Addr × Value)} (h1 : h.get? a = some o) (h2 : (a == sysModules) = false) (h3 : DnObj o xs) : ObjOk P w H h a (DnO a o xs) :=
  ⟨⟨h2, h1, h3⟩, ⟨o, h1⟩, fun h1' h2' ⟨a1, a2, a3⟩ k => ⟨a1, k _ a2, a3⟩⟩
end Ef

end

section
set_option autoImplicit false
/-! Ef: an own small language, its weakest preconditions over plain data, and the look that a text of Python is it. -/
namespace Ef
open PySem L2

/-! ### slots, contracts -/
inductive Sl where
  | un
  | dat (d : PyData)
  | own (ds : List PyData)
  | dic (kvs : List (PyData × PyData))
  | dol (kvs : List (PyData × List PyData))
  | box
abbrev Rho := List Sl
structure Con where
  α : Type
  pre : α → List Sl → Prop
  post : α → PyData → Prop
structure Gm where
  con : String → Option Con
  glb : String → Option PyData
  kc : String → Option (Con × PyData × String) := fun _ => none

/-! ### the language -/
inductive Tg where
  | nm (i : Nat)
  | tp (js : List Nat)
inductive Bf where
  | len | abs | int | bool | tuple | list | repr | all | any | min | max | sum
  deriving DecidableEq
mutual
inductive Ex where
  | var (i : Nat)
  | bor (i : Nat)
  | cst (d : PyData)
  | glb (x : String)
  | bin (op : Operator) (a b : Ex)
  | neg (a : Ex)
  | cmp (op : CmpOp) (a b : Ex)
  | chn (o p : CmpOp) (a b c : Ex)
  | and (a b : Ex)
  | or (a b : Ex)
  | not (a : Ex)
  | ite (c a b : Ex)
  | tup (es : Exs)
  | lst (es : Exs)
  | idx (a i : Ex)
  | slc (a : Ex) (lo hi : Ox)
  | call (f : String) (es : Exs)
  | calk (f kw : String) (es : Exs) (o : Ox)
  | dnw
  | dc1 (k : String) (i : Int)
  | rev (a : Ex)
  | lrg (it : It)
  | srt (a : Ex)
  | sst (a : Ex)
  | cat (a b : Ex)
  | srn (a : Ex)
  | ssn (a : Ex)
  | get (a k x : Ex)
  | dcd (k v : Ex)
  | dcc (k v : Ex) (tg : Tg) (it : It) (c : Ox) (own : List Nat)
  | trg (it : It)
  | lix (a x : Ex)
  | cou (a x : Ex)
  | bcl (f : String) (es : Exs)
  | mxd (a : Ex)
  | mxl (a : Ex)
  | mnl (a : Ex)
  | tus (a b : Ex)
  | blt (f : Bf) (es : Exs)
  | isi (a : Ex) (t : String)
  | lc (el : Ex) (tg : Tg) (it : It) (c : Ox) (own : List Nat)
  | lc2 (el : Ex) (tg : Tg) (it : It) (c : Ox) (tg2 : Tg) (it2 : It) (c2 : Ox) (own own2 : List Nat)
inductive Exs where
  | nil
  | cons (e : Ex) (es : Exs)
inductive Ox where
  | no
  | so (e : Ex)
inductive It where
  | sq (e : Ex)
  | rg (a : Ex)
  | rg2 (a b : Ex)
  | zp (a b : Ex)
  | zm (a b : Ex)
  | en (a : Ex)
  | di (a : Ex)
end
mutual
inductive Sx where
  | pass
  | set (tg : Tg) (e : Ex)
  | par (js : List Nat) (fl : List Bool) (es : Exs)
  | own (i : Nat) (e : Ex)
  | app (i : Nat) (e : Ex)
  | ext (i : Nat) (e : Ex)
  | put (i : Nat) (j e : Ex)
  | ins (i : Nat) (j e : Ex)
  | pop (tg : Tg) (i : Nat)
  | sdf (i : Nat) (k v e : Ex) (a b : Sxs)
  | sde (i : Nat) (k v : Ex)
  | sda (j i : Nat) (k v : Ex)
  | dlc (i : Nat) (k : Ex) (tg : Tg) (it : It) (own : List Nat)
  | dla (i : Nat) (k e : Ex)
  | aug (i : Nat) (e : Ex)
  | exp (e : Ex)
  | ret (e : Ex)
  | ife (c : Ex) (a b : Sxs)
  | for_ (tg : Tg) (it : It) (b : Sxs)
  | whl (c : Ex) (b : Sxs)
  | brk
  | cnt
  | nev
inductive Sxs where
  | nil
  | cons (s : Sx) (r : Sxs)
  | frz (i : Nat) (r : Sxs)
  | dlz (i : Nat) (r : Sxs)
  | al2 (i j : Nat) (k e : Ex) (r : Sxs)
end

/-! ### what operators do with data -/
def cutD (xs : List PyData) (lo hi : Option Int) : List PyData := (xs.drop (HT.sIx xs.length 0 lo)).take (HT.sIx xs.length xs.length hi - HT.sIx xs.length 0 lo)
def rgD (lo : Int) (n : Nat) : List PyData := (List.range n).map fun i => .int (lo + (i : Nat))
def tySub (t : String) : PyData → Bool
  | .none => t == "NoneType"
  | .bool _ => t == "bool" || t == "int"
  | .int _ => t == "int"
  | .str _ => t == "str"
  | .list _ => t == "list"
  | .tuple _ => t == "tuple"
  | .dict _ => t == "dict"
/-- a list or a dict, by what owns it -/
def frD : PyData → Bool
  | .list _ => true
  | .dict _ => true
  | _ => false
def slOf : PyData → Sl
  | .list ds => .own ds
  | .dict kvs => .dic kvs
  | d => .dat d
def mutS : Sl → Option PyData
  | .own ds => some (.list ds)
  | .dic kvs => some (.dict kvs)
  | _ => none
def keyB : PyData → Bool
  | .int _ => true
  | .str _ => true
  | _ => false
def keyEq : PyData → PyData → Bool
  | .int i, .int j => decide (i = j)
  | .str x, .str y => decide (x = y)
  | .tuple xs, .tuple ys => PyData.eqvAll xs ys
  | _, _ => false
/-- a key that may be looked for in a dict: of the kind of its keys -/
def keyFor (kvs : List (PyData × PyData)) (k : PyData) : Bool := (keyB k && kvs.all fun p => keyB p.1) || (keyN k && kvs.all fun p => keyN p.1)
def lookD (kvs : List (PyData × PyData)) (k : PyData) : Option PyData := (kvs.find? fun p => keyEq p.1 k).map (·.2)
def storeD (kvs : List (PyData × PyData)) (k v : PyData) : List (PyData × PyData) :=
  if (kvs.any fun p => keyEq p.1 k) = true then kvs.map (fun p => if keyEq p.1 k = true then (p.1, v) else p) else kvs ++ [(k, v)]
/-- d.setdefault(k, v) -/
def sdD (kvs : List (PyData × PyData)) (k v : PyData) : List (PyData × PyData) := if (lookD kvs k).isSome = true then kvs else storeD kvs k v
mutual
/-- no list and no dict in it -/
def noFr : PyData → Bool
  | .list _ => false
  | .dict _ => false
  | .tuple xs => noFrs xs
  | _ => true
def noFrs : List PyData → Bool
  | [] => true
  | x :: xs => noFr x && noFrs xs
end
/-- the greatest, d of none -/
def maxI (d : Int) : List Int → Int
  | [] => d
  | n :: ns => ns.foldl max n
/-- the first of the least -/
def mnD (x : PyData) (xs : List PyData) : PyData := xs.foldl (fun a y => if PySem.W.dataLt y a then y else a) x
/-- dicts of lists of one's own -/
def lookL (kvs : List (PyData × List PyData)) (k : PyData) : Option (List PyData) := (kvs.find? fun p => keyEq p.1 k).map (·.2)
def addL : List (PyData × List PyData) → PyData → PyData → List (PyData × List PyData)
  | [], k, d => [(k, [d])]
  | (j, ds) :: r, k, d => if keyEq j k = true then (j, ds ++ [d]) :: r else (j, ds) :: addL r k d
def sdL (kvs : List (PyData × List PyData)) (k : PyData) : List (PyData × List PyData) := if (kvs.any fun p => keyEq p.1 k) = true then kvs else kvs ++ [(k, [])]
def lsD (kvs : List (PyData × List PyData)) : List (PyData × PyData) := kvs.map fun p => (p.1, .list p.2)
def isDol : Sl → Bool
  | .dol _ => true
  | _ => false
def noDol (ρ : Rho) : Bool := ρ.all fun s => !isDol s
def isNoneD : PyData → Bool
  | .none => true
  | _ => false
def itemsOf : PyData → Option (List PyData)
  | .list ds => some ds
  | .tuple ds => some ds
  | _ => none
/-- what a loop goes through: items, or the keys of a dict with tuples as keys -/
def walkOf : PyData → Option (List PyData)
  | .list ds => some ds
  | .tuple ds => some ds
  | .dict kvs => if (kvs.all fun p => keyN p.1) = true then some (kvs.map (·.1)) else none
  | _ => none
def pairOf (kvs : List (PyData × PyData)) : List PyData := kvs.map fun p => .tuple [p.1, p.2]
/-- data that sorted takes -/
def srtOk (ds : List PyData) : Prop := okNs ds = true ∧ PySem.W.AllAlike ds ∧ (PySem.W.Sortable ds ∨ (ds.head? = some (.tuple []) ∧ ∀ d ∈ ds, ∃ xs, d = .tuple xs)) ∧ (∀ d ∈ ds, d.depth ≤ 20) ∧ ds.length ≤ sizeLine
def tI (t : List Int) : PyData := .tuple (t.map .int)
def leD (a b : PyData) : Prop := PySem.W.dataLt b a = false
def CRep (xs : List PyData) (k : Int) : Prop := (xs ≠ [] ∧ 2 ≤ k ∧ k ≤ 1000 ∧ xs.length ≤ 1000) ∨ ((xs = [] ∨ k = 1) ∧ 1 ≤ k ∧ k < 2 ^ 63)
def binW : Operator → PyData → PyData → (PyData → Prop) → Prop
  | .Add, .int i, .int j, Q => Q (.int (i + j))
  | .Add, .tuple xs, .tuple ys, Q => xs.length + ys.length ≤ sizeLine ∧ Q (.tuple (xs ++ ys))
  | .Add, .list xs, .list ys, Q => xs.length + ys.length ≤ sizeLine ∧ Q (.list (xs ++ ys))
  | .Add, .str x, .str y, Q => x.length + y.length ≤ sizeLine ∧ Q (.str (x ++ y))
  | .Sub, .int i, .int j, Q => Q (.int (i - j))
  | .Mult, .int i, .int j, Q => CMul i j ∧ Q (.int (i * j))
  | .Mult, .tuple xs, .int k, Q => CRep xs k ∧ Q (.tuple (List.replicate k.toNat xs).flatten)
  | .Mult, .list xs, .int k, Q => -(2 ^ 63) ≤ k ∧ k < 2 ^ 63 ∧ xs.length * k.toNat ≤ sizeLine ∧ Q (.list (List.replicate k.toNat xs).flatten)
  | .FloorDiv, .int i, .int j, Q => (0 < j ∧ j < 2 ^ 64) ∧ Q (.int (i / j))
  | .Mod, .int i, .int j, Q => 0 < j ∧ Q (.int (i % j))
  | .Pow, .int i, .int j, Q => CPow i j ∧ Q (.int (i ^ j.toNat))
  | _, _, _, _ => False
def nilSame : PyData → PyData → Bool
  | .tuple _, .tuple [] => true
  | .list _, .list [] => true
  | _, _ => false
/-- data that may be compared: both without dicts, or with an empty one of its kind -/
def eqOk (d e : PyData) : Bool := (SeqAt.shaped d && SeqAt.shaped e) || nilSame d e
theorem eqOk_of {d e : PyData} (h1 : SeqAt.shaped d = true) (h2 : SeqAt.shaped e = true) : eqOk d e = true := by simp [eqOk, h1, h2]
theorem eqOk_l (x : List PyData) : eqOk (.list x) (.list []) = true := by simp [eqOk, nilSame]
theorem eqOk_t (x : List PyData) : eqOk (.tuple x) (.tuple []) = true := by simp [eqOk, nilSame]
def cmpW : CmpOp → PyData → PyData → (PyData → Prop) → Prop
  | .Eq, d, e, Q => eqOk d e = true ∧ Q (.bool (PyData.eqv d e))
  | .NotEq, d, e, Q => eqOk d e = true ∧ Q (.bool (!PyData.eqv d e))
  | .Lt, .int i, .int j, Q => Q (.bool (decide (i < j)))
  | .Lt, .tuple xs, .tuple ys, Q => (∃ ns ms : List Int, xs = ns.map .int ∧ ys = ms.map .int ∧ Q (.bool (HT.lexLt ns ms))) ∨ ((okNs xs = true ∧ okNs ys = true ∧ PySem.W.alikeAll xs ys = true ∧ PyData.depthAll xs ≤ 20) ∧ Q (.bool (PySem.W.dataLt (.tuple xs) (.tuple ys))))
  | .LtE, .int i, .int j, Q => Q (.bool (decide (i ≤ j)))
  | .Gt, .int i, .int j, Q => Q (.bool (decide (j < i)))
  | .GtE, .int i, .int j, Q => Q (.bool (decide (j ≤ i)))
  | .GtE, .tuple xs, .tuple ys, Q => (okNs xs = true ∧ okNs ys = true ∧ PySem.W.alikeAll xs ys = true ∧ PyData.depthAll xs ≤ 20) ∧ Q (.bool (!PySem.W.dataLt (.tuple xs) (.tuple ys)))
  | .Is, d, .none, Q => Q (.bool (isNoneD d))
  | .IsNot, d, .none, Q => Q (.bool (!isNoneD d))
  | .Is, .bool a, .bool b, Q => Q (.bool (decide (a = b)))
  | .IsNot, .bool a, .bool b, Q => Q (.bool (!decide (a = b)))
  | .In, d, .list ds, Q => SeqAt.shaped d = true ∧ SeqAt.shaped (.list ds) = true ∧ Q (.bool (ds.any fun z => PyData.eqv z d))
  | .In, d, .tuple ds, Q => SeqAt.shaped d = true ∧ SeqAt.shaped (.tuple ds) = true ∧ Q (.bool (ds.any fun z => PyData.eqv z d))
  | .NotIn, d, .list ds, Q => SeqAt.shaped d = true ∧ SeqAt.shaped (.list ds) = true ∧ Q (.bool (!ds.any fun z => PyData.eqv z d))
  | .NotIn, d, .tuple ds, Q => SeqAt.shaped d = true ∧ SeqAt.shaped (.tuple ds) = true ∧ Q (.bool (!ds.any fun z => PyData.eqv z d))
  | .In, d, .dict kvs, Q => keyFor kvs d = true ∧ Q (.bool (lookD kvs d).isSome)
  | .NotIn, d, .dict kvs, Q => keyFor kvs d = true ∧ Q (.bool (!(lookD kvs d).isSome))
  | _, _, _, _ => False
def negW : PyData → (PyData → Prop) → Prop
  | .int i, Q => Q (.int (-i))
  | _, _ => False
def idxW (d i : PyData) (Q : PyData → Prop) : Prop :=
  match d, i with
  | .list ds, .int k => ∃ z, atI ds k = some z ∧ Q z
  | .tuple ds, .int k => ∃ z, atI ds k = some z ∧ Q z
  | .dict kvs, k => keyFor kvs k = true ∧ ∃ z, lookD kvs k = some z ∧ Q z
  | _, _ => False
def slcW (d : PyData) (lo hi : Option Int) (Q : PyData → Prop) : Prop :=
  match d with
  | .list ds => Q (.list (cutD ds lo hi))
  | .tuple ds => Q (.tuple (cutD ds lo hi))
  | _ => False
mutual
def noLst : PyData → Bool
  | .list _ => false
  | .tuple xs => noLsts xs
  | .dict kvs => noLstKv kvs
  | _ => true
def noLsts : List PyData → Bool
  | [] => true
  | x :: xs => noLst x && noLsts xs
def noLstKv : List (PyData × PyData) → Bool
  | [] => true
  | (_, x) :: xs => noLst x && noLstKv xs
end
/-- data whose repr is told -/
def rpB (d : PyData) : Bool := decide (d.depth ≤ 64)
def bltW : Bf → List PyData → (PyData → Prop) → Prop
  | .len, [.list ds], Q => Q (.int (ds.length : Nat))
  | .len, [.tuple ds], Q => Q (.int (ds.length : Nat))
  | .len, [.dict kvs], Q => Q (.int (kvs.length : Nat))
  | .len, [.str z], Q => z.length ≤ sizeLine ∧ Q (.int (z.length : Nat))
  | .abs, [.int i], Q => Q (.int (if i < 0 then -i else i))
  | .int, [.int i], Q => Q (.int i)
  | .int, [.bool b], Q => Q (.int (if b then 1 else 0))
  | .bool, [.int i], Q => Q (.bool (i != 0))
  | .bool, [.bool b], Q => Q (.bool b)
  | .tuple, [.list ds], Q => Q (.tuple ds)
  | .tuple, [.tuple ds], Q => Q (.tuple ds)
  | .list, [.list ds], Q => Q (.list ds)
  | .list, [.tuple ds], Q => Q (.list ds)
  | .list, [.dict kvs], Q => (kvs.all fun p => keyN p.1) = true ∧ Q (.list (kvs.map (·.1)))
  | .repr, [d], Q => d.showable = true ∧ rpB d = true ∧ d.shown.length ≤ sizeLine ∧ Q (.str d.shown)
  | .all, [.list ds], Q => ∃ bs : List Bool, ds = bs.map .bool ∧ Q (.bool (bs.all id))
  | .any, [.list ds], Q => ∃ bs : List Bool, ds = bs.map .bool ∧ Q (.bool (bs.any id))
  | .min, [.int i, .int j], Q => Q (.int (if j < i then j else i))
  | .max, [.int i, .int j], Q => Q (.int (if i < j then j else i))
  | .sum, [.list ds], Q => ∃ ns : List Int, ds = ns.map .int ∧ Q (.int ns.sum)
  | .sum, [.tuple ds], Q => ∃ ns : List Int, ds = ns.map .int ∧ Q (.int ns.sum)
  | _, _, _ => False
/-- truth of a value in a test -/
def truD : PyData → Option Bool
  | .none => some false
  | .bool b => some b
  | .int i => some (i != 0)
  | .list ds => some (!ds.isEmpty)
  | .tuple ds => some (!ds.isEmpty)
  | _ => none

/-! ### targets, loops -/
def setAll (ρ : Rho) : List Nat → List PyData → Rho
  | i :: js, d :: ds => setAll (ρ.set i (.dat d)) js ds
  | _, _ => ρ
def asg : Tg → PyData → Rho → (Rho → Prop) → Prop
  | .nm i, d, ρ, Q => Q (ρ.set i (.dat d))
  | .tp js, .tuple ds, ρ, Q => ds.length = js.length ∧ Q (setAll ρ js ds)
  | .tp js, .list ds, ρ, Q => ds.length = js.length ∧ Q (setAll ρ js ds)
  | .tp _, _, _, _ => False
def wipeR (ρ : Rho) : List Nat → Rho
  | [] => ρ
  | v :: vs => (wipeR ρ vs).set v .un
def setPar (ρ : Rho) : List Nat → List Bool → List PyData → Rho
  | i :: js, true :: fl, d :: ds => setPar (ρ.set i (slOf d)) js fl ds
  | i :: js, false :: fl, d :: ds => setPar (ρ.set i (.dat d)) js fl ds
  | _, _, _ => ρ
structure Kn where
  nx : Rho → Prop
  rt : PyData → Prop
  bk : Rho → Prop
  ct : Rho → Prop
def wpComp (tg : Tg) (c : Rho → (Bool → Prop) → Prop) (el : Rho → (PyData → Prop) → Prop) (ρ : Rho) : List PyData → List PyData → (List PyData → Prop) → Prop
  | [], acc, Q => Q acc
  | d :: ds, acc, Q => asg tg d ρ fun ρ' => c ρ' fun b => if b = true then el ρ' fun y => acc.length < sizeLine ∧ wpComp tg c el ρ ds (acc ++ [y]) Q else wpComp tg c el ρ ds acc Q
/-- the inner loop of two: from acc to a longer one -/
def wpComp2 (tg : Tg) (c : Rho → (Bool → Prop) → Prop) (inn : Rho → List PyData → (List PyData → Prop) → Prop) (ρ : Rho) : List PyData → List PyData → (List PyData → Prop) → Prop
  | [], acc, Q => Q acc
  | d :: ds, acc, Q => asg tg d ρ fun ρ' => c ρ' fun b => if b = true then inn ρ' acc fun acc' => wpComp2 tg c inn ρ ds acc' Q else wpComp2 tg c inn ρ ds acc Q
/-- a dict comprehension: from acc on -/
def wpDcc (tg : Tg) (c : Rho → (Bool → Prop) → Prop) (k v : Rho → (PyData → Prop) → Prop) (ρ : Rho) : List PyData → List (PyData × PyData) → (List (PyData × PyData) → Prop) → Prop
  | [], acc, Q => Q acc
  | d :: ds, acc, Q => asg tg d ρ fun ρ' => c ρ' fun b => if b = true then k ρ' fun x => v ρ' fun y => keyN x = true ∧ (acc.all fun p => keyN p.1) = true ∧ acc.length < sizeLine ∧ wpDcc tg c k v ρ ds (storeD acc x y) Q else wpDcc tg c k v ρ ds acc Q
/-- {k: [] for ..}: unlike keys -/
def wpDlc (tg : Tg) (k : Rho → (PyData → Prop) → Prop) (ρ : Rho) : List PyData → List (PyData × List PyData) → (List (PyData × List PyData) → Prop) → Prop
  | [], acc, Q => Q acc
  | d :: ds, acc, Q => asg tg d ρ fun ρ' => k ρ' fun x => keyN x = true ∧ (acc.any fun p => keyEq p.1 x) = false ∧ acc.length < sizeLine ∧ wpDlc tg k ρ ds (acc ++ [(x, [])]) Q
def wpFor (tg : Tg) (body : Rho → Kn → Prop) : List PyData → Rho → Kn → Prop
  | [], ρ, K => K.nx ρ
  | d :: ds, ρ, K => asg tg d ρ fun ρ' => body ρ' ⟨fun r => wpFor tg body ds r K, K.rt, K.nx, fun r => wpFor tg body ds r K⟩
def wpWhl (c : Rho → (Bool → Prop) → Prop) (body : Rho → Kn → Prop) : Nat → Rho → Kn → Prop
  | 0, _, _ => False
  | n + 1, ρ, K => c ρ fun b => if b = true then body ρ ⟨fun r => wpWhl c body n r K, K.rt, K.nx, fun r => wpWhl c body n r K⟩ else K.nx ρ

/-! ### weakest preconditions -/
def isBoxArg (ρ : Rho) : Ex → Bool
  | .var i => match ρ.getD i .un with | .box => true | _ => false
  | _ => false
mutual
def wpE (G : Gm) : Ex → Rho → (PyData → Prop) → Prop
  | .var i, ρ, Q => (match ρ.getD i .un with | .dat d => Q d | _ => False)
  | .bor i, ρ, Q => (match ρ.getD i .un with | .dat d => Q d | .own ds => Q (.list ds) | .dic kvs => Q (.dict kvs) | _ => False)
  | .cst d, _, Q => Q d
  | .glb x, _, Q => (match G.glb x with | some d => Q d | none => False)
  | .bin op a b, ρ, Q => wpE G a ρ fun x => wpE G b ρ fun y => binW op x y Q
  | .neg a, ρ, Q => wpE G a ρ fun x => negW x Q
  | .cmp op a b, ρ, Q => wpE G a ρ fun x => wpE G b ρ fun y => cmpW op x y Q
  | .chn o p a b c, ρ, Q => wpE G a ρ fun x => wpE G b ρ fun y => cmpW o x y fun z => ∃ k, z = .bool k ∧ if k = true then wpE G c ρ fun w => cmpW p y w Q else Q (.bool false)
  | .and a b, ρ, Q => wpE G a ρ fun x => ∃ k, x = .bool k ∧ if k = true then wpE G b ρ Q else Q (.bool false)
  | .or a b, ρ, Q => wpE G a ρ fun x => ∃ k, x = .bool k ∧ if k = true then Q (.bool true) else wpE G b ρ Q
  | .not a, ρ, Q => wpE G a ρ fun x => ∃ k, x = .bool k ∧ Q (.bool (!k))
  | .ite c a b, ρ, Q => wpT G c ρ fun k => if k = true then wpE G a ρ Q else wpE G b ρ Q
  | .tup es, ρ, Q => wpEs G es ρ fun ds => ds.length ≤ sizeLine ∧ Q (.tuple ds)
  | .lst es, ρ, Q => wpEs G es ρ fun ds => ds.length ≤ sizeLine ∧ Q (.list ds)
  | .idx a i, ρ, Q => wpE G a ρ fun x => wpE G i ρ fun y => idxW x y Q
  | .slc a lo hi, ρ, Q => wpE G a ρ fun x => wpO G lo ρ fun l => wpO G hi ρ fun h => slcW x l h Q
  | .call f es, ρ, Q => (match G.con f with | some c => wpAs G es ρ fun as => ∃ a, c.pre a as ∧ ∀ r, c.post a r → Q r | none => False)
  | .calk f kw es o, ρ, Q => (match G.kc f with | some (c, d0, k) => k = kw ∧ wpAs G es ρ fun as => wpD G d0 o ρ fun d => ∃ a, c.pre a (as ++ [.dat d]) ∧ ∀ r, c.post a r → Q r | none => False)
  | .dnw, _, Q => Q (.dict [])
  | .dc1 k i, _, Q => Q (.dict [(.str (Str.ofString k), .int i)])
  | .rev a, ρ, Q => wpE G a ρ fun x => ∃ ds, x = .tuple ds ∧ Q (.tuple ds.reverse)
  | .lrg it, ρ, Q => wpI G it ρ fun ds => ds.length ≤ 16777216 ∧ Q (.list ds)
  | .srt a, ρ, Q => wpE G a ρ fun x => ∃ ns : List Int, itemsOf x = some (ns.map .int) ∧ ∀ ms : List Int, ms.Perm ns → ms.Pairwise (· ≤ ·) → Q (.list (ms.map .int))
  | .sst a, ρ, Q => wpE G a ρ fun x => ∃ ns : List Int, itemsOf x = some (ns.map .int) ∧ ns.length < 64 ∧ ∀ ms : List Int, ms.Pairwise (· < ·) → (∀ k, k ∈ ms ↔ k ∈ ns) → Q (.list (ms.map .int))
  | .cat a b, ρ, Q => wpE G a ρ fun x => ∃ xs, itemsOf x = some xs ∧ wpE G b ρ fun y => ∃ ys, itemsOf y = some ys ∧ xs.length + ys.length ≤ sizeLine ∧ Q (.list (xs ++ ys))
  | .srn a, ρ, Q => wpE G a ρ fun x => ∃ ds, walkOf x = some ds ∧ srtOk ds ∧ ∀ ms, ms.Perm ds → ms.Pairwise leD → Q (.list ms)
  | .ssn a, ρ, Q => wpE G a ρ fun x => ∃ ds us : List PyData, x = .list ds ∧ ds.all keyN = true ∧ us.length < 298 ∧ (∀ d ∈ ds, d ∈ us) ∧ PySem.W.AllAlike ds ∧ PySem.W.Sortable ds ∧ ∀ ms, ms.Pairwise leD → ms.Nodup → (∀ d, d ∈ ms ↔ d ∈ ds) → Q (.list ms)
  | .get a k x, ρ, Q => wpE G a ρ fun d => ∃ kvs, d = .dict kvs ∧ wpE G k ρ fun y => wpE G x ρ fun z => keyFor kvs y = true ∧ Q ((lookD kvs y).getD z)
  | .dcd k v, ρ, Q => wpE G k ρ fun x => wpE G v ρ fun y => keyN x = true ∧ Q (.dict [(x, y)])
  | .dcc k v tg it c own, ρ, Q => wpI G it ρ fun ds => wpDcc tg (wpC G c) (wpE G k) (wpE G v) (wipeR ρ own) ds [] fun kvs => Q (.dict kvs)
  | .trg it, ρ, Q => wpI G it ρ fun ds => ds.length ≤ 16777216 ∧ Q (.tuple ds)
  | .lix a x, ρ, Q => wpE G a ρ fun d => ∃ ds, (d = .list ds ∨ d = .tuple ds) ∧ wpE G x ρ fun y => ∃ n, SeqAt.shaped (.list ds) = true ∧ SeqAt.shaped y = true ∧ ds.findIdx? (fun z => PyData.eqv z y) = some n ∧ Q (.int (n : Nat))
  | .cou a x, ρ, Q => wpE G a ρ fun d => ∃ ds, (d = .list ds ∨ d = .tuple ds) ∧ wpE G x ρ fun y => SeqAt.shaped (.list ds) = true ∧ SeqAt.shaped y = true ∧ Q (.int ((ds.countP fun z => PyData.eqv z y : Nat) : Int))
  | .bcl f es, ρ, Q => (match G.con f with | some c => wpEs G es ρ fun ds => ∃ a, c.pre a (ds.map .dat) ∧ ∀ r, c.post a r → noFr r = true ∧ Q r | none => False)
  | .mxd a, ρ, Q => wpE G a ρ fun x => ∃ ns : List Int, x = .list (ns.map .int) ∧ Q (.int (maxI 0 ns))
  | .mxl a, ρ, Q => wpE G a ρ fun x => ∃ ns : List Int, x = .list (ns.map .int) ∧ ns ≠ [] ∧ Q (.int (maxI 0 ns))
  | .mnl a, ρ, Q => wpE G a ρ fun x => ∃ d ds, x = .list (d :: ds) ∧ okNs (d :: ds) = true ∧ PySem.W.AllAlike (d :: ds) ∧ (∀ y ∈ d :: ds, y ≠ .none) ∧ PyData.depthAll (d :: ds) ≤ 20 ∧ Q (mnD d ds)
  | .tus a b, ρ, Q => wpE G a ρ fun x => wpE G b ρ fun y => ∃ ys, itemsOf y = some ys ∧ ys.length < sizeLine ∧ Q (.tuple (x :: ys))
  | .blt f es, ρ, Q => wpEs G es ρ fun ds => bltW f ds Q
  | .isi a t, ρ, Q => wpE G a ρ fun x => Q (.bool (tySub t x))
  | .lc el tg it c own, ρ, Q => wpI G it ρ fun ds => wpComp tg (wpC G c) (wpE G el) (wipeR ρ own) ds [] fun ys => Q (.list ys)
  | .lc2 el tg it c tg2 it2 c2 own own2, ρ, Q => wpI G it ρ fun ds => wpComp2 tg (wpC G c) (fun ρ' acc R => wpI G it2 ρ' fun es => wpComp tg2 (wpC G c2) (wpE G el) (wipeR ρ' own2) es acc R) (wipeR ρ own) ds [] fun ys => Q (.list ys)
def wpEs (G : Gm) : Exs → Rho → (List PyData → Prop) → Prop
  | .nil, _, Q => Q []
  | .cons e es, ρ, Q => wpE G e ρ fun d => wpEs G es ρ fun ds => Q (d :: ds)
def wpAs (G : Gm) : Exs → Rho → (List Sl → Prop) → Prop
  | .nil, _, Q => Q []
  | .cons e es, ρ, Q => if isBoxArg ρ e = true then wpAs G es ρ fun as => Q (.box :: as) else wpE G e ρ fun d => wpAs G es ρ fun as => Q (.dat d :: as)
def wpO (G : Gm) : Ox → Rho → (Option Int → Prop) → Prop
  | .no, _, Q => Q none
  | .so e, ρ, Q => wpE G e ρ fun d => ∃ i, d = .int i ∧ Q (some i)
def wpD (G : Gm) (d0 : PyData) : Ox → Rho → (PyData → Prop) → Prop
  | .no, _, Q => Q d0
  | .so e, ρ, Q => wpE G e ρ Q
def wpC (G : Gm) : Ox → Rho → (Bool → Prop) → Prop
  | .no, _, Q => Q true
  | .so e, ρ, Q => wpT G e ρ Q
def wpI (G : Gm) : It → Rho → (List PyData → Prop) → Prop
  | .sq e, ρ, Q => wpE G e ρ fun d => ∃ ds, walkOf d = some ds ∧ Q ds
  | .di e, ρ, Q => wpE G e ρ fun d => ∃ kvs, d = .dict kvs ∧ walkOf d = some (kvs.map (·.1)) ∧ Q (pairOf kvs)
  | .rg a, ρ, Q => wpE G a ρ fun d => ∃ n : Int, d = .int n ∧ -(2 ^ 62) ≤ n ∧ n < 2 ^ 62 ∧ Q (rgD 0 n.toNat)
  | .rg2 a b, ρ, Q => wpE G a ρ fun d => wpE G b ρ fun e => ∃ m n : Int, d = .int m ∧ e = .int n ∧ (-(2 ^ 62) ≤ m ∧ m < 2 ^ 62 ∧ -(2 ^ 62) ≤ n ∧ n < 2 ^ 62) ∧ Q (rgD m (n - m).toNat)
  | .zp a b, ρ, Q => wpE G a ρ fun d => wpE G b ρ fun e => (∃ xs ys, d = .list xs ∧ e = .list ys ∧ Q (List.zipWith (fun x y => .tuple [x, y]) xs ys)) ∨ ∃ xs ys, d = .tuple xs ∧ e = .tuple ys ∧ Q (List.zipWith (fun x y => .tuple [x, y]) xs ys)
  | .zm a b, ρ, Q => wpE G a ρ fun d => wpE G b ρ fun e => ∃ xs ys, d = .tuple xs ∧ e = .list ys ∧ Q (List.zipWith (fun x y => .tuple [x, y]) xs ys)
  | .en a, ρ, Q => wpE G a ρ fun d => ∃ ds, itemsOf d = some ds ∧ Q (ds.zipIdx.map fun p => .tuple [.int (p.2 : Nat), p.1])
def wpT (G : Gm) : Ex → Rho → (Bool → Prop) → Prop
  | .and a b, ρ, Q => wpT G a ρ fun k => if k = true then wpT G b ρ Q else Q false
  | .or a b, ρ, Q => wpT G a ρ fun k => if k = true then Q true else wpT G b ρ Q
  | .not a, ρ, Q => wpT G a ρ fun k => Q (!k)
  | .var i, ρ, Q => (match ρ.getD i .un with | .dat d => ∃ k, truD d = some k ∧ Q k | _ => False)
  | .cmp op a b, ρ, Q => wpE G a ρ fun x => wpE G b ρ fun y => cmpW op x y fun z => ∃ k, z = .bool k ∧ Q k
  | .chn o p a b c, ρ, Q => wpE G a ρ fun x => wpE G b ρ fun y => cmpW o x y fun z => ∃ k, z = .bool k ∧ if k = true then wpE G c ρ fun w => cmpW p y w fun z' => ∃ k', z' = .bool k' ∧ Q k' else Q false
  | .call f es, ρ, Q => (match G.con f with | some c => wpAs G es ρ fun as => ∃ a, c.pre a as ∧ ∀ r, c.post a r → ∃ k, truD r = some k ∧ Q k | none => False)
  | .blt f es, ρ, Q => wpEs G es ρ fun ds => bltW f ds fun z => ∃ k, truD z = some k ∧ Q k
  | .isi a t, ρ, Q => wpE G a ρ fun x => Q (tySub t x)
  | .idx a i, ρ, Q => wpE G a ρ fun x => wpE G i ρ fun y => idxW x y fun z => ∃ k, truD z = some k ∧ Q k
  | _, _, _ => False
end
/-- values for several names: true: a list of one's own -/
def wpPs (G : Gm) : List Bool → Exs → Rho → (List PyData → Prop) → Prop
  | [], .nil, _, Q => Q []
  | false :: fl, .cons e es, ρ, Q => wpE G e ρ fun d => wpPs G fl es ρ fun ds => Q (d :: ds)
  | true :: fl, .cons e es, ρ, Q => wpE G e ρ fun d => frD d = true ∧ wpPs G fl es ρ fun ds => Q (d :: ds)
  | _, _, _, _ => False
mutual
def wpS (G : Gm) : Sx → Rho → Kn → Prop
  | .pass, ρ, K => K.nx ρ
  | .set tg e, ρ, K => wpE G e ρ fun d => asg tg d ρ K.nx
  | .par js fl es, ρ, K => wpPs G fl es ρ fun ds => K.nx (setPar ρ js fl ds)
  | .own i e, ρ, K => wpE G e ρ fun d => frD d = true ∧ K.nx (ρ.set i (slOf d))
  | .app i e, ρ, K => (match ρ.getD i .un with | .own ds => wpE G e ρ fun d => ds.length < sizeLine ∧ K.nx (ρ.set i (.own (ds ++ [d]))) | _ => False)
  | .ext i e, ρ, K => (match ρ.getD i .un with | .own ds => wpE G e ρ fun d => ∃ es, d = .list es ∧ ds.length + es.length ≤ sizeLine ∧ K.nx (ρ.set i (.own (ds ++ es))) | _ => False)
  | .put i j e, ρ, K => (match ρ.getD i .un with | .own ds => wpE G e ρ fun d => wpE G j ρ fun x => ∃ k n, x = .int k ∧ ixN ds.length k = some n ∧ K.nx (ρ.set i (.own (ds.set n d))) | .dic kvs => wpE G e ρ fun d => wpE G j ρ fun x => keyFor kvs x = true ∧ kvs.length < sizeLine ∧ K.nx (ρ.set i (.dic (storeD kvs x d))) | _ => False)
  | .ins i j e, ρ, K => (match ρ.getD i .un with | .own ds => wpE G j ρ fun x => wpE G e ρ fun d => ∃ n : Nat, x = .int (n : Nat) ∧ n ≤ ds.length ∧ ds.length < sizeLine ∧ K.nx (ρ.set i (.own (ds.take n ++ [d] ++ ds.drop n))) | _ => False)
  | .pop tg i, ρ, K => (match ρ.getD i .un with | .own ds => ∃ r d, ds = r ++ [d] ∧ asg tg d (ρ.set i (.own r)) K.nx | _ => False)
  | .sdf i k v e a b, ρ, K => (match ρ.getD i .un with | .dic kvs => wpE G k ρ fun x => wpE G v ρ fun y => keyFor kvs x = true ∧ kvs.length < sizeLine ∧ wpE G e (ρ.set i (.dic (sdD kvs x y))) fun z => cmpW .NotEq ((lookD kvs x).getD y) z fun t => ∃ kb, t = .bool kb ∧ if kb = true then wpSs G a (ρ.set i (.dic (sdD kvs x y))) K else wpSs G b (ρ.set i (.dic (sdD kvs x y))) K | _ => False)
  | .sde i k v, ρ, K => (match ρ.getD i .un with | .dic kvs => wpE G k ρ fun x => wpE G v ρ fun y => keyFor kvs x = true ∧ kvs.length < sizeLine ∧ K.nx (ρ.set i (.dic (sdD kvs x y))) | _ => False)
  | .sda j i k v, ρ, K => (match ρ.getD i .un with | .dic kvs => wpE G k ρ fun x => wpE G v ρ fun y => keyFor kvs x = true ∧ kvs.length < sizeLine ∧ K.nx ((ρ.set i (.dic (sdD kvs x y))).set j (.dat ((lookD kvs x).getD y))) | _ => False)
  | .dlc i k tg it own, ρ, K => wpI G it ρ fun ds => wpDlc tg (wpE G k) (wipeR ρ own) ds [] fun kvs => noDol ρ = true ∧ K.nx (ρ.set i (.dol kvs))
  | .dla i k e, ρ, K => (match ρ.getD i .un with | .dol kvs => wpE G k ρ fun x => keyN x = true ∧ (kvs.any fun p => keyEq p.1 x) = true ∧ wpE G e ρ fun d => (∀ ds, lookL kvs x = some ds → ds.length < sizeLine) ∧ K.nx (ρ.set i (.dol (addL kvs x d))) | _ => False)
  | .aug i e, ρ, K => (match ρ.getD i .un with | .dat d => wpE G e ρ fun y => ∃ n m, d = .int n ∧ y = .int m ∧ K.nx (ρ.set i (.dat (.int (n + m)))) | _ => False)
  | .exp e, ρ, K => wpE G e ρ fun _ => K.nx ρ
  | .ret e, ρ, K => wpE G e ρ K.rt
  | .ife c a b, ρ, K => wpT G c ρ fun k => if k = true then wpSs G a ρ K else wpSs G b ρ K
  | .for_ tg it b, ρ, K => wpI G it ρ fun ds => wpFor tg (wpSs G b) ds ρ K
  | .whl c b, ρ, K => ∃ n, wpWhl (wpT G c) (wpSs G b) n ρ K
  | .brk, ρ, K => K.bk ρ
  | .cnt, ρ, K => K.ct ρ
  | .nev, _, _ => False
def wpSs (G : Gm) : Sxs → Rho → Kn → Prop
  | .nil, ρ, K => K.nx ρ
  | .cons s r, ρ, K => wpS G s ρ ⟨fun ρ' => wpSs G r ρ' K, K.rt, K.bk, K.ct⟩
  | .frz i r, ρ, K => wpSs G r (match ρ.getD i .un with | .own ds => ρ.set i (.dat (.list ds)) | .dic kvs => ρ.set i (.dat (.dict kvs)) | .dol kvs => ρ.set i (.dat (.dict (lsD kvs))) | _ => ρ) K
  | .dlz i r, ρ, K => (match ρ.getD i .un with | .dic [] => noDol ρ = true ∧ wpSs G r (ρ.set i (.dol [])) K | _ => False)
  | .al2 i j k e r, ρ, K => (match ρ.getD i .un with | .dol kvs => wpE G k ρ fun x => keyN x = true ∧ kvs.length < sizeLine ∧ i ≠ j ∧ wpE G e ((ρ.set j .un).set i (.dol (sdL kvs x))) fun d => (∀ ds, lookL kvs x = some ds → ds.length < sizeLine) ∧ wpSs G r ((ρ.set j .un).set i (.dol (addL kvs x d))) K | _ => False)
end
end Ef

end

section
set_option autoImplicit false
namespace Ef
open PySem L2

/-! ### all of it is monotone -/
theorem binW_mono {op d e} {Q R : PyData → Prop} (h : ∀ x, Q x → R x) : binW op d e Q → binW op d e R := by
  intro q
  unfold binW at q ⊢
  split at q <;> simp_all
theorem cmpW_mono {op d e} {Q R : PyData → Prop} (h : ∀ x, Q x → R x) : cmpW op d e Q → cmpW op d e R := by
  intro q
  unfold cmpW at q ⊢
  split at q
  case h_4 =>
    rcases q with ⟨ns, ms, e1, e2, q⟩ | ⟨e1, q⟩
    · exact .inl ⟨ns, ms, e1, e2, h _ q⟩
    · exact .inr ⟨e1, h _ q⟩
  all_goals simp_all
theorem negW_mono {d} {Q R : PyData → Prop} (h : ∀ x, Q x → R x) : negW d Q → negW d R := by
  intro q
  unfold negW at q ⊢
  split at q <;> simp_all
theorem idxW_mono {d i} {Q R : PyData → Prop} (h : ∀ x, Q x → R x) : idxW d i Q → idxW d i R := by
  intro q
  unfold idxW at q ⊢
  split at q
  · obtain ⟨z, e, q⟩ := q; exact ⟨z, e, h _ q⟩
  · obtain ⟨z, e, q⟩ := q; exact ⟨z, e, h _ q⟩
  · obtain ⟨k, z, e, q⟩ := q; exact ⟨k, z, e, h _ q⟩
  · exact q.elim
theorem slcW_mono {d lo hi} {Q R : PyData → Prop} (h : ∀ x, Q x → R x) : slcW d lo hi Q → slcW d lo hi R := by
  intro q
  unfold slcW at q ⊢
  split at q <;> simp_all
theorem bltW_mono {f ds} {Q R : PyData → Prop} (h : ∀ x, Q x → R x) : bltW f ds Q → bltW f ds R := by
  intro q
  unfold bltW at q ⊢
  split at q <;> first
    | exact h _ q
    | (obtain ⟨bs, e, q⟩ := q; exact ⟨bs, e, h _ q⟩)
    | exact ⟨q.1, h _ q.2⟩
    | exact ⟨q.1, q.2.1, q.2.2.1, h _ q.2.2.2⟩
    | exact q.elim
theorem asg_mono {tg d ρ} {Q R : Rho → Prop} (h : ∀ x, Q x → R x) : asg tg d ρ Q → asg tg d ρ R := by
  intro q
  unfold asg at q ⊢
  split at q <;> simp_all
theorem wpComp_mono {tg ρ} {c : Rho → (Bool → Prop) → Prop} {el : Rho → (PyData → Prop) → Prop} (hc : ∀ ρ (Q R : Bool → Prop), (∀ x, Q x → R x) → c ρ Q → c ρ R) (he : ∀ ρ (Q R : PyData → Prop), (∀ x, Q x → R x) → el ρ Q → el ρ R) :
    ∀ (ds acc : List PyData) {Q R : List PyData → Prop}, (∀ x, Q x → R x) → wpComp tg c el ρ ds acc Q → wpComp tg c el ρ ds acc R
  | [], acc, Q, R, h, q => h _ q
  | d :: ds, acc, Q, R, h, q => by
    refine asg_mono (fun ρ' q => hc _ _ _ (fun b q => ?_) q) q
    cases b with
    | true => exact he _ _ _ (fun y q => ⟨q.1, wpComp_mono hc he ds _ h q.2⟩) q
    | false => exact wpComp_mono hc he ds _ h q
theorem wpComp2_mono {tg ρ} {c : Rho → (Bool → Prop) → Prop} {inn : Rho → List PyData → (List PyData → Prop) → Prop} (hc : ∀ ρ (Q R : Bool → Prop), (∀ x, Q x → R x) → c ρ Q → c ρ R)
    (he : ∀ ρ acc (Q R : List PyData → Prop), (∀ x, Q x → R x) → inn ρ acc Q → inn ρ acc R) :
    ∀ (ds acc : List PyData) {Q R : List PyData → Prop}, (∀ x, Q x → R x) → wpComp2 tg c inn ρ ds acc Q → wpComp2 tg c inn ρ ds acc R
  | [], acc, Q, R, h, q => h _ q
  | d :: ds, acc, Q, R, h, q => by
    refine asg_mono (fun ρ' q => hc _ _ _ (fun b q => ?_) q) q
    cases b with
    | true => exact he _ _ _ _ (fun y q => wpComp2_mono hc he ds _ h q) q
    | false => exact wpComp2_mono hc he ds _ h q
theorem wpDcc_mono {tg ρ} {c : Rho → (Bool → Prop) → Prop} {ke ve : Rho → (PyData → Prop) → Prop} (hc : ∀ ρ (Q R : Bool → Prop), (∀ x, Q x → R x) → c ρ Q → c ρ R) (hk : ∀ ρ (Q R : PyData → Prop), (∀ x, Q x → R x) → ke ρ Q → ke ρ R) (hv : ∀ ρ (Q R : PyData → Prop), (∀ x, Q x → R x) → ve ρ Q → ve ρ R) :
    ∀ (ds : List PyData) (acc : List (PyData × PyData)) {Q R : List (PyData × PyData) → Prop}, (∀ x, Q x → R x) → wpDcc tg c ke ve ρ ds acc Q → wpDcc tg c ke ve ρ ds acc R
  | [], acc, Q, R, h, q => h _ q
  | d :: ds, acc, Q, R, h, q => by
    refine asg_mono (fun ρ' q => hc _ _ _ (fun b q => ?_) q) q
    cases b with
    | true => exact hk _ _ _ (fun x q => hv _ _ _ (fun y q => ⟨q.1, q.2.1, q.2.2.1, wpDcc_mono hc hk hv ds _ h q.2.2.2⟩) q) q
    | false => exact wpDcc_mono hc hk hv ds _ h q
theorem wpDlc_mono {tg ρ} {ke : Rho → (PyData → Prop) → Prop} (hk : ∀ ρ (Q R : PyData → Prop), (∀ x, Q x → R x) → ke ρ Q → ke ρ R) :
    ∀ (ds : List PyData) (acc : List (PyData × List PyData)) {Q R : List (PyData × List PyData) → Prop}, (∀ x, Q x → R x) → wpDlc tg ke ρ ds acc Q → wpDlc tg ke ρ ds acc R
  | [], acc, Q, R, h, q => h _ q
  | d :: ds, acc, Q, R, h, q => asg_mono (fun ρ' q => hk _ _ _ (fun x q => ⟨q.1, q.2.1, q.2.2.1, wpDlc_mono hk ds _ h q.2.2.2⟩) q) q
theorem ifm {k : Bool} {A B C D : Prop} (h1 : A → C) (h2 : B → D) : (if k = true then A else B) → (if k = true then C else D) := by
  cases k
  · exact h2
  · exact h1
mutual
theorem wpE_mono {G : Gm} : ∀ (e : Ex) {ρ} {Q R : PyData → Prop}, (∀ x, Q x → R x) → wpE G e ρ Q → wpE G e ρ R
  | .var i, ρ, Q, R, h, q => by
    simp only [wpE] at q ⊢
    split at q <;> simp_all
  | .bor i, ρ, Q, R, h, q => by
    simp only [wpE] at q ⊢
    split at q <;> simp_all
  | .cst d, ρ, Q, R, h, q => by simp only [wpE] at q ⊢; exact h _ q
  | .glb x, ρ, Q, R, h, q => by
    simp only [wpE] at q ⊢
    split at q <;> simp_all
  | .bin op a b, ρ, Q, R, h, q => by simp only [wpE] at q ⊢; exact wpE_mono a (fun x q => wpE_mono b (fun y q => binW_mono h q) q) q
  | .neg a, ρ, Q, R, h, q => by simp only [wpE] at q ⊢; exact wpE_mono a (fun x q => negW_mono h q) q
  | .cmp op a b, ρ, Q, R, h, q => by simp only [wpE] at q ⊢; exact wpE_mono a (fun x q => wpE_mono b (fun y q => cmpW_mono h q) q) q
  | .chn o p a b c, ρ, Q, R, h, q => by
    simp only [wpE] at q ⊢
    exact wpE_mono a (fun x q => wpE_mono b (fun y q => cmpW_mono (fun z ⟨k, e, q⟩ => ⟨k, e, ifm (fun q => wpE_mono c (fun w q => cmpW_mono h q) q) (h _) q⟩) q) q) q
  | .and a b, ρ, Q, R, h, q => by simp only [wpE] at q ⊢; exact wpE_mono a (fun x ⟨k, e, q⟩ => ⟨k, e, ifm (fun q => wpE_mono b h q) (h _) q⟩) q
  | .or a b, ρ, Q, R, h, q => by simp only [wpE] at q ⊢; exact wpE_mono a (fun x ⟨k, e, q⟩ => ⟨k, e, ifm (h _) (fun q => wpE_mono b h q) q⟩) q
  | .not a, ρ, Q, R, h, q => by simp only [wpE] at q ⊢; exact wpE_mono a (fun x ⟨k, e, q⟩ => ⟨k, e, h _ q⟩) q
  | .ite c a b, ρ, Q, R, h, q => by simp only [wpE] at q ⊢; exact wpT_mono c (fun k q => ifm (fun q => wpE_mono a h q) (fun q => wpE_mono b h q) q) q
  | .tup es, ρ, Q, R, h, q => by simp only [wpE] at q ⊢; exact wpEs_mono es (fun ds q => ⟨q.1, h _ q.2⟩) q
  | .lst es, ρ, Q, R, h, q => by simp only [wpE] at q ⊢; exact wpEs_mono es (fun ds q => ⟨q.1, h _ q.2⟩) q
  | .idx a i, ρ, Q, R, h, q => by simp only [wpE] at q ⊢; exact wpE_mono a (fun x q => wpE_mono i (fun y q => idxW_mono h q) q) q
  | .slc a lo hi, ρ, Q, R, h, q => by simp only [wpE] at q ⊢; exact wpE_mono a (fun x q => wpO_mono lo (fun l q => wpO_mono hi (fun u q => slcW_mono h q) q) q) q
  | .call f es, ρ, Q, R, h, q => by
    simp only [wpE] at q ⊢
    split at q
    · exact wpAs_mono es (fun as ⟨a, p0, q⟩ => ⟨a, p0, fun r p => h _ (q r p)⟩) q
    · exact q.elim
  | .calk f kw es o, ρ, Q, R, h, q => by
    simp only [wpE] at q ⊢
    split at q
    · exact ⟨q.1, wpAs_mono es (fun as q => wpD_mono o (fun d ⟨a, p0, q⟩ => ⟨a, p0, fun r p => h _ (q r p)⟩) q) q.2⟩
    · exact q.elim
  | .dnw, ρ, Q, R, h, q => by simp only [wpE] at q ⊢; exact h _ q
  | .dc1 _ _, ρ, Q, R, h, q => by simp only [wpE] at q ⊢; exact h _ q
  | .rev a, ρ, Q, R, h, q => by simp only [wpE] at q ⊢; exact wpE_mono a (fun x ⟨ds, e, q⟩ => ⟨ds, e, h _ q⟩) q
  | .lrg it, ρ, Q, R, h, q => by simp only [wpE] at q ⊢; exact wpI_mono it (fun ds q => ⟨q.1, h _ q.2⟩) q
  | .srt a, ρ, Q, R, h, q => by simp only [wpE] at q ⊢; exact wpE_mono a (fun x ⟨ns, e, q⟩ => ⟨ns, e, fun ms h1 h2 => h _ (q ms h1 h2)⟩) q
  | .sst a, ρ, Q, R, h, q => by simp only [wpE] at q ⊢; exact wpE_mono a (fun x ⟨ns, e, l, q⟩ => ⟨ns, e, l, fun ms h1 h2 => h _ (q ms h1 h2)⟩) q
  | .cat a b, ρ, Q, R, h, q => by simp only [wpE] at q ⊢; exact wpE_mono a (fun x ⟨xs, e1, q⟩ => ⟨xs, e1, wpE_mono b (fun y ⟨ys, e2, l, q⟩ => ⟨ys, e2, l, h _ q⟩) q⟩) q
  | .srn a, ρ, Q, R, h, q => by simp only [wpE] at q ⊢; exact wpE_mono a (fun x ⟨ns, e, o, q⟩ => ⟨ns, e, o, fun ms h1 h2 => h _ (q ms h1 h2)⟩) q
  | .ssn a, ρ, Q, R, h, q => by simp only [wpE] at q ⊢; exact wpE_mono a (fun x ⟨ds, us, e1, e2, e3, e4, e5, e6, q⟩ => ⟨ds, us, e1, e2, e3, e4, e5, e6, fun ms h1 h2 h3 => h _ (q ms h1 h2 h3)⟩) q
  | .get a k x, ρ, Q, R, h, q => by simp only [wpE] at q ⊢; exact wpE_mono a (fun d ⟨kvs, e1, q⟩ => ⟨kvs, e1, wpE_mono k (fun y q => wpE_mono x (fun z ⟨e2, q⟩ => ⟨e2, h _ q⟩) q) q⟩) q
  | .dcd k v, ρ, Q, R, h, q => by simp only [wpE] at q ⊢; exact wpE_mono k (fun x q => wpE_mono v (fun y q => ⟨q.1, h _ q.2⟩) q) q
  | .dcc k v tg it c own, ρ, Q, R, h, q => by
    simp only [wpE] at q ⊢
    exact wpI_mono it (fun ds q => wpDcc_mono (tg := tg) (c := wpC G c) (ke := wpE G k) (ve := wpE G v) (ρ := wipeR ρ own) (fun ρ _ _ h q => wpC_mono c h q) (fun ρ _ _ h q => wpE_mono k h q) (fun ρ _ _ h q => wpE_mono v h q) ds [] (Q := fun kvs => Q (.dict kvs)) (fun kvs q => h _ q) q) q
  | .trg it, ρ, Q, R, h, q => by simp only [wpE] at q ⊢; exact wpI_mono it (fun ds q => ⟨q.1, h _ q.2⟩) q
  | .cou a x, ρ, Q, R, h, q => by simp only [wpE] at q ⊢; exact wpE_mono a (fun d ⟨ds, e1, q⟩ => ⟨ds, e1, wpE_mono x (fun y ⟨e2, e3, q⟩ => ⟨e2, e3, h _ q⟩) q⟩) q
  | .lix a x, ρ, Q, R, h, q => by simp only [wpE] at q ⊢; exact wpE_mono a (fun d ⟨ds, e1, q⟩ => ⟨ds, e1, wpE_mono x (fun y ⟨n, e2, e3, e4, q⟩ => ⟨n, e2, e3, e4, h _ q⟩) q⟩) q
  | .bcl f es, ρ, Q, R, h, q => by
    simp only [wpE] at q ⊢
    split at q
    · exact wpEs_mono es (fun as ⟨a, p0, q⟩ => ⟨a, p0, fun r p => ⟨(q r p).1, h _ (q r p).2⟩⟩) q
    · exact q.elim
  | .mxd a, ρ, Q, R, h, q => by simp only [wpE] at q ⊢; exact wpE_mono a (fun x ⟨ns, e, q⟩ => ⟨ns, e, h _ q⟩) q
  | .mxl a, ρ, Q, R, h, q => by simp only [wpE] at q ⊢; exact wpE_mono a (fun x ⟨ns, e, n, q⟩ => ⟨ns, e, n, h _ q⟩) q
  | .mnl a, ρ, Q, R, h, q => by simp only [wpE] at q ⊢; exact wpE_mono a (fun x ⟨d, ds, e1, e2, e3, e4, e5, q⟩ => ⟨d, ds, e1, e2, e3, e4, e5, h _ q⟩) q
  | .tus a b, ρ, Q, R, h, q => by simp only [wpE] at q ⊢; exact wpE_mono a (fun x q => wpE_mono b (fun y ⟨ys, e, l, q⟩ => ⟨ys, e, l, h _ q⟩) q) q
  | .blt f es, ρ, Q, R, h, q => by simp only [wpE] at q ⊢; exact wpEs_mono es (fun ds q => bltW_mono h q) q
  | .isi a t, ρ, Q, R, h, q => by simp only [wpE] at q ⊢; exact wpE_mono a (fun x q => h _ q) q
  | .lc el tg it c own, ρ, Q, R, h, q => by
    simp only [wpE] at q ⊢
    exact wpI_mono it (fun ds q => wpComp_mono (tg := tg) (c := wpC G c) (el := wpE G el) (ρ := wipeR ρ own) (fun ρ _ _ h q => wpC_mono c h q) (fun ρ _ _ h q => wpE_mono el h q) ds [] (Q := fun ys => Q (.list ys)) (fun ys q => h _ q) q) q
  | .lc2 el tg it c tg2 it2 c2 own own2, ρ, Q, R, h, q => by
    simp only [wpE] at q ⊢
    exact wpI_mono it (fun ds q => wpComp2_mono (tg := tg) (c := wpC G c) (ρ := wipeR ρ own) (inn := fun ρ' acc R => wpI G it2 ρ' fun es => wpComp tg2 (wpC G c2) (wpE G el) (wipeR ρ' own2) es acc R) (fun ρ _ _ h q => wpC_mono c h q)
      (fun ρ acc _ _ h q => wpI_mono it2 (fun es q => wpComp_mono (tg := tg2) (c := wpC G c2) (el := wpE G el) (fun ρ _ _ h q => wpC_mono c2 h q) (fun ρ _ _ h q => wpE_mono el h q) es acc h q) q) ds [] (Q := fun ys => Q (.list ys)) (fun ys q => h _ q) q) q
theorem wpEs_mono {G : Gm} : ∀ (e : Exs) {ρ} {Q R : List PyData → Prop}, (∀ x, Q x → R x) → wpEs G e ρ Q → wpEs G e ρ R
  | .nil, ρ, Q, R, h, q => by simp only [wpEs] at q ⊢; exact h _ q
  | .cons e es, ρ, Q, R, h, q => by simp only [wpEs] at q ⊢; exact wpE_mono e (fun d q => wpEs_mono es (fun ds q => h _ q) q) q
theorem wpAs_mono {G : Gm} : ∀ (e : Exs) {ρ} {Q R : List Sl → Prop}, (∀ x, Q x → R x) → wpAs G e ρ Q → wpAs G e ρ R
  | .nil, ρ, Q, R, h, q => by simp only [wpAs] at q ⊢; exact h _ q
  | .cons e es, ρ, Q, R, h, q => by
    simp only [wpAs] at q ⊢
    exact ifm (fun q => wpAs_mono es (fun ds q => h _ q) q) (fun q => wpE_mono e (fun d q => wpAs_mono es (fun ds q => h _ q) q) q) q
theorem wpO_mono {G : Gm} : ∀ (e : Ox) {ρ} {Q R : Option Int → Prop}, (∀ x, Q x → R x) → wpO G e ρ Q → wpO G e ρ R
  | .no, ρ, Q, R, h, q => by simp only [wpO] at q ⊢; exact h _ q
  | .so e, ρ, Q, R, h, q => by simp only [wpO] at q ⊢; exact wpE_mono e (fun d ⟨i, e, q⟩ => ⟨i, e, h _ q⟩) q
theorem wpD_mono {G : Gm} {d0 : PyData} : ∀ (e : Ox) {ρ} {Q R : PyData → Prop}, (∀ x, Q x → R x) → wpD G d0 e ρ Q → wpD G d0 e ρ R
  | .no, ρ, Q, R, h, q => by simp only [wpD] at q ⊢; exact h _ q
  | .so e, ρ, Q, R, h, q => by simp only [wpD] at q ⊢; exact wpE_mono e h q
theorem wpC_mono {G : Gm} : ∀ (e : Ox) {ρ} {Q R : Bool → Prop}, (∀ x, Q x → R x) → wpC G e ρ Q → wpC G e ρ R
  | .no, ρ, Q, R, h, q => by simp only [wpC] at q ⊢; exact h _ q
  | .so e, ρ, Q, R, h, q => by simp only [wpC] at q ⊢; exact wpT_mono e h q
theorem wpI_mono {G : Gm} : ∀ (e : It) {ρ} {Q R : List PyData → Prop}, (∀ x, Q x → R x) → wpI G e ρ Q → wpI G e ρ R
  | .sq e, ρ, Q, R, h, q => by simp only [wpI] at q ⊢; exact wpE_mono e (fun d ⟨ds, e, q⟩ => ⟨ds, e, h _ q⟩) q
  | .rg a, ρ, Q, R, h, q => by simp only [wpI] at q ⊢; exact wpE_mono a (fun d ⟨n, e, l, u, q⟩ => ⟨n, e, l, u, h _ q⟩) q
  | .rg2 a b, ρ, Q, R, h, q => by simp only [wpI] at q ⊢; exact wpE_mono a (fun d q => wpE_mono b (fun e ⟨m, n, e1, e2, l, q⟩ => ⟨m, n, e1, e2, l, h _ q⟩) q) q
  | .zp a b, ρ, Q, R, h, q => by
    simp only [wpI] at q ⊢
    refine wpE_mono a (fun d q => wpE_mono b (fun e q => ?_) q) q
    rcases q with ⟨xs, ys, e1, e2, q⟩ | ⟨xs, ys, e1, e2, q⟩
    · exact .inl ⟨xs, ys, e1, e2, h _ q⟩
    · exact .inr ⟨xs, ys, e1, e2, h _ q⟩
  | .zm a b, ρ, Q, R, h, q => by
    simp only [wpI] at q ⊢
    exact wpE_mono a (fun d q => wpE_mono b (fun e ⟨xs, ys, e1, e2, q⟩ => ⟨xs, ys, e1, e2, h _ q⟩) q) q
  | .en a, ρ, Q, R, h, q => by simp only [wpI] at q ⊢; exact wpE_mono a (fun d ⟨ds, e, q⟩ => ⟨ds, e, h _ q⟩) q
  | .di a, ρ, Q, R, h, q => by simp only [wpI] at q ⊢; exact wpE_mono a (fun d ⟨ds, e, e2, q⟩ => ⟨ds, e, e2, h _ q⟩) q
theorem wpT_mono {G : Gm} : ∀ (e : Ex) {ρ} {Q R : Bool → Prop}, (∀ x, Q x → R x) → wpT G e ρ Q → wpT G e ρ R
  | .and a b, ρ, Q, R, h, q => by simp only [wpT] at q ⊢; exact wpT_mono a (fun k q => ifm (fun q => wpT_mono b h q) (h _) q) q
  | .or a b, ρ, Q, R, h, q => by simp only [wpT] at q ⊢; exact wpT_mono a (fun k q => ifm (h _) (fun q => wpT_mono b h q) q) q
  | .not a, ρ, Q, R, h, q => by simp only [wpT] at q ⊢; exact wpT_mono a (fun k q => h _ q) q
  | .var i, ρ, Q, R, h, q => by
    simp only [wpT] at q ⊢
    split at q
    · obtain ⟨k, e, q⟩ := q; exact ⟨k, e, h _ q⟩
    · exact q.elim
  | .cmp op a b, ρ, Q, R, h, q => by simp only [wpT] at q ⊢; exact wpE_mono a (fun x q => wpE_mono b (fun y q => cmpW_mono (fun z ⟨k, e, q⟩ => ⟨k, e, h _ q⟩) q) q) q
  | .chn o p a b c, ρ, Q, R, h, q => by
    simp only [wpT] at q ⊢
    exact wpE_mono a (fun x q => wpE_mono b (fun y q => cmpW_mono (fun z ⟨k, e, q⟩ => ⟨k, e, ifm (fun q => wpE_mono c (fun w q => cmpW_mono (fun z ⟨k, e, q⟩ => ⟨k, e, h _ q⟩) q) q) (h _) q⟩) q) q) q
  | .call f es, ρ, Q, R, h, q => by
    simp only [wpT] at q ⊢
    split at q
    · exact wpAs_mono es (fun as ⟨a, p0, q⟩ => ⟨a, p0, fun r p => let ⟨k, e, q⟩ := q r p; ⟨k, e, h _ q⟩⟩) q
    · exact q.elim
  | .blt f es, ρ, Q, R, h, q => by simp only [wpT] at q ⊢; exact wpEs_mono es (fun ds q => bltW_mono (fun z ⟨k, e, q⟩ => ⟨k, e, h _ q⟩) q) q
  | .isi a t, ρ, Q, R, h, q => by simp only [wpT] at q ⊢; exact wpE_mono a (fun x q => h _ q) q
  | .idx a i, ρ, Q, R, h, q => by simp only [wpT] at q ⊢; exact wpE_mono a (fun x q => wpE_mono i (fun y q => idxW_mono (fun z ⟨k, e, q⟩ => ⟨k, e, h _ q⟩) q) q) q
  | .bor _, ρ, Q, R, h, q => by simp only [wpT] at q
  | .cst _, ρ, Q, R, h, q => by simp only [wpT] at q
  | .glb _, ρ, Q, R, h, q => by simp only [wpT] at q
  | .bin _ _ _, ρ, Q, R, h, q => by simp only [wpT] at q
  | .neg _, ρ, Q, R, h, q => by simp only [wpT] at q
  | .ite _ _ _, ρ, Q, R, h, q => by simp only [wpT] at q
  | .tup _, ρ, Q, R, h, q => by simp only [wpT] at q
  | .lst _, ρ, Q, R, h, q => by simp only [wpT] at q
  | .slc _ _ _, ρ, Q, R, h, q => by simp only [wpT] at q
  | .calk _ _ _ _, ρ, Q, R, h, q => by simp only [wpT] at q
  | .dnw, ρ, Q, R, h, q => by simp only [wpT] at q
  | .dc1 _ _, ρ, Q, R, h, q => by simp only [wpT] at q
  | .rev _, ρ, Q, R, h, q => by simp only [wpT] at q
  | .lrg _, ρ, Q, R, h, q => by simp only [wpT] at q
  | .srt _, ρ, Q, R, h, q => by simp only [wpT] at q
  | .sst _, ρ, Q, R, h, q => by simp only [wpT] at q
  | .cat _ _, ρ, Q, R, h, q => by simp only [wpT] at q
  | .srn _, ρ, Q, R, h, q => by simp only [wpT] at q
  | .ssn _, ρ, Q, R, h, q => by simp only [wpT] at q
  | .get _ _ _, ρ, Q, R, h, q => by simp only [wpT] at q
  | .dcd _ _, ρ, Q, R, h, q => by simp only [wpT] at q
  | .dcc _ _ _ _ _ _, ρ, Q, R, h, q => by simp only [wpT] at q
  | .trg _, ρ, Q, R, h, q => by simp only [wpT] at q
  | .lix _ _, ρ, Q, R, h, q => by simp only [wpT] at q
  | .cou _ _, ρ, Q, R, h, q => by simp only [wpT] at q
  | .bcl _ _, ρ, Q, R, h, q => by simp only [wpT] at q
  | .mxd _, ρ, Q, R, h, q => by simp only [wpT] at q
  | .mxl _, ρ, Q, R, h, q => by simp only [wpT] at q
  | .mnl _, ρ, Q, R, h, q => by simp only [wpT] at q
  | .tus _ _, ρ, Q, R, h, q => by simp only [wpT] at q
  | .lc _ _ _ _ _, ρ, Q, R, h, q => by simp only [wpT] at q
  | .lc2 _ _ _ _ _ _ _ _ _, ρ, Q, R, h, q => by simp only [wpT] at q
end
theorem wpPs_mono {G : Gm} : ∀ (fl : List Bool) (e : Exs) {ρ} {Q R : List PyData → Prop}, (∀ x, Q x → R x) → wpPs G fl e ρ Q → wpPs G fl e ρ R
  | [], .nil, ρ, Q, R, h, q => h _ q
  | false :: fl, .cons e es, ρ, Q, R, h, q => wpE_mono e (fun d q => wpPs_mono fl es (Q := fun ds => Q (d :: ds)) (fun ds q => h _ q) q) q
  | true :: fl, .cons e es, ρ, Q, R, h, q => wpE_mono e (fun d ⟨e1, q⟩ => ⟨e1, wpPs_mono fl es (Q := fun ds => Q (d :: ds)) (fun ds q => h _ q) q⟩) q
  | [], .cons _ _, ρ, Q, R, h, q => q.elim
  | _ :: _, .nil, ρ, Q, R, h, q => by simp [wpPs] at q
/-- one continuation implies another -/
structure Kn.Le (K L : Kn) : Prop where
  nx : ∀ ρ, K.nx ρ → L.nx ρ
  rt : ∀ d, K.rt d → L.rt d
  bk : ∀ ρ, K.bk ρ → L.bk ρ
  ct : ∀ ρ, K.ct ρ → L.ct ρ
theorem wpFor_mono {tg} {body : Rho → Kn → Prop} (hb : ∀ ρ (K L : Kn), K.Le L → body ρ K → body ρ L) : ∀ (ds : List PyData) {ρ} {K L : Kn}, K.Le L → wpFor tg body ds ρ K → wpFor tg body ds ρ L
  | [], ρ, K, L, h, q => h.nx _ q
  | d :: ds, ρ, K, L, h, q => asg_mono (fun ρ' q => hb _ ⟨fun r => wpFor tg body ds r K, K.rt, K.nx, fun r => wpFor tg body ds r K⟩ _ ⟨fun r q => wpFor_mono hb ds h q, h.rt, h.nx, fun r q => wpFor_mono hb ds h q⟩ q) q
theorem wpWhl_mono {c : Rho → (Bool → Prop) → Prop} {body : Rho → Kn → Prop} (hc : ∀ ρ (Q R : Bool → Prop), (∀ x, Q x → R x) → c ρ Q → c ρ R) (hb : ∀ ρ (K L : Kn), K.Le L → body ρ K → body ρ L) :
    ∀ (n : Nat) {ρ} {K L : Kn}, K.Le L → wpWhl c body n ρ K → wpWhl c body n ρ L
  | 0, ρ, K, L, h, q => q.elim
  | n + 1, ρ, K, L, h, q => hc _ _ _ (fun b q => ifm (fun q => hb _ ⟨fun r => wpWhl c body n r K, K.rt, K.nx, fun r => wpWhl c body n r K⟩ _ ⟨fun r q => wpWhl_mono hc hb n h q, h.rt, h.nx, fun r q => wpWhl_mono hc hb n h q⟩ q) (h.nx _) q) q
mutual
theorem wpS_mono {G : Gm} : ∀ (s : Sx) {ρ} {K L : Kn}, K.Le L → wpS G s ρ K → wpS G s ρ L
  | .pass, ρ, K, L, h, q => by simp only [wpS] at q ⊢; exact h.nx _ q
  | .set tg e, ρ, K, L, h, q => by simp only [wpS] at q ⊢; exact wpE_mono e (fun d q => asg_mono h.nx q) q
  | .par js fl es, ρ, K, L, h, q => by simp only [wpS] at q ⊢; exact wpPs_mono fl es (fun ds q => h.nx _ q) q
  | .own i e, ρ, K, L, h, q => by simp only [wpS] at q ⊢; exact wpE_mono e (fun d ⟨e, q⟩ => ⟨e, h.nx _ q⟩) q
  | .app i e, ρ, K, L, h, q => by
    simp only [wpS] at q ⊢
    split at q
    · exact wpE_mono e (fun d q => ⟨q.1, h.nx _ q.2⟩) q
    · exact q.elim
  | .ext i e, ρ, K, L, h, q => by
    simp only [wpS] at q ⊢
    split at q
    · exact wpE_mono e (fun d ⟨es, e1, l, q⟩ => ⟨es, e1, l, h.nx _ q⟩) q
    · exact q.elim
  | .put i j e, ρ, K, L, h, q => by
    simp only [wpS] at q ⊢
    split at q
    · exact wpE_mono e (fun d q => wpE_mono j (fun x ⟨k, n, e1, e2, q⟩ => ⟨k, n, e1, e2, h.nx _ q⟩) q) q
    · exact wpE_mono e (fun d q => wpE_mono j (fun x ⟨e1, e2, q⟩ => ⟨e1, e2, h.nx _ q⟩) q) q
    · exact q.elim
  | .ins i j e, ρ, K, L, h, q => by
    simp only [wpS] at q ⊢
    split at q
    · exact wpE_mono j (fun x q => wpE_mono e (fun d ⟨n, e1, e2, e3, q⟩ => ⟨n, e1, e2, e3, h.nx _ q⟩) q) q
    · exact q.elim
  | .pop tg i, ρ, K, L, h, q => by
    simp only [wpS] at q ⊢
    split at q
    · obtain ⟨r, d, e1, q⟩ := q; exact ⟨r, d, e1, asg_mono h.nx q⟩
    · exact q.elim
  | .sdf i k v e a b, ρ, K, L, h, q => by
    simp only [wpS] at q ⊢
    split at q
    · exact wpE_mono k (fun x q => wpE_mono v (fun y ⟨e1, e2, q⟩ => ⟨e1, e2, wpE_mono e (fun z q => cmpW_mono (fun t ⟨kb, e3, q⟩ => ⟨kb, e3, ifm (fun q => wpSs_mono a h q) (fun q => wpSs_mono b h q) q⟩) q) q⟩) q) q
    · exact q.elim
  | .sde i k v, ρ, K, L, h, q => by
    simp only [wpS] at q ⊢
    split at q
    · exact wpE_mono k (fun x q => wpE_mono v (fun y ⟨e1, e2, q⟩ => ⟨e1, e2, h.nx _ q⟩) q) q
    · exact q.elim
  | .sda j i k v, ρ, K, L, h, q => by
    simp only [wpS] at q ⊢
    split at q
    · exact wpE_mono k (fun x q => wpE_mono v (fun y ⟨e1, e2, q⟩ => ⟨e1, e2, h.nx _ q⟩) q) q
    · exact q.elim
  | .dlc i k tg it own, ρ, K, L, h, q => by
    simp only [wpS] at q ⊢
    exact wpI_mono it (fun ds q => wpDlc_mono (ke := wpE G k) (fun ρ _ _ h q => wpE_mono k h q) ds [] (fun kvs q => ⟨q.1, h.nx _ q.2⟩) q) q
  | .dla i k e, ρ, K, L, h, q => by
    simp only [wpS] at q ⊢
    split at q
    · exact wpE_mono k (fun x ⟨e1, e2, q⟩ => ⟨e1, e2, wpE_mono e (fun d q => ⟨q.1, h.nx _ q.2⟩) q⟩) q
    · exact q.elim
  | .aug i e, ρ, K, L, h, q => by
    simp only [wpS] at q ⊢
    split at q
    · exact wpE_mono e (fun x ⟨n, m, e1, e2, q⟩ => ⟨n, m, e1, e2, h.nx _ q⟩) q
    · exact q.elim
  | .exp e, ρ, K, L, h, q => by simp only [wpS] at q ⊢; exact wpE_mono e (fun d q => h.nx _ q) q
  | .ret e, ρ, K, L, h, q => by simp only [wpS] at q ⊢; exact wpE_mono e h.rt q
  | .ife c a b, ρ, K, L, h, q => by simp only [wpS] at q ⊢; exact wpT_mono c (fun k q => ifm (fun q => wpSs_mono a h q) (fun q => wpSs_mono b h q) q) q
  | .for_ tg it b, ρ, K, L, h, q => by simp only [wpS] at q ⊢; exact wpI_mono it (fun ds q => wpFor_mono (tg := tg) (body := wpSs G b) (fun ρ _ _ h q => wpSs_mono b h q) ds h q) q
  | .whl c b, ρ, K, L, h, q => by
    simp only [wpS] at q ⊢
    obtain ⟨n, q⟩ := q
    exact ⟨n, wpWhl_mono (c := wpT G c) (body := wpSs G b) (fun ρ _ _ h q => wpT_mono c h q) (fun ρ _ _ h q => wpSs_mono b h q) n h q⟩
  | .brk, ρ, K, L, h, q => by simp only [wpS] at q ⊢; exact h.bk _ q
  | .cnt, ρ, K, L, h, q => by simp only [wpS] at q ⊢; exact h.ct _ q
  | .nev, ρ, K, L, h, q => by simp only [wpS] at q
theorem wpSs_mono {G : Gm} : ∀ (s : Sxs) {ρ} {K L : Kn}, K.Le L → wpSs G s ρ K → wpSs G s ρ L
  | .nil, ρ, K, L, h, q => by simp only [wpSs] at q ⊢; exact h.nx _ q
  | .cons s r, ρ, K, L, h, q => by simp only [wpSs] at q ⊢; exact wpS_mono s (K := ⟨fun ρ' => wpSs G r ρ' K, K.rt, K.bk, K.ct⟩) ⟨fun ρ q => wpSs_mono r h q, h.rt, h.bk, h.ct⟩ q
  | .frz i r, ρ, K, L, h, q => by simp only [wpSs] at q ⊢; exact wpSs_mono r h q
  | .dlz i r, ρ, K, L, h, q => by
    simp only [wpSs] at q ⊢
    split at q
    · exact ⟨q.1, wpSs_mono r h q.2⟩
    · exact q.elim
  | .al2 i j k e r, ρ, K, L, h, q => by
    simp only [wpSs] at q ⊢
    split at q
    · exact wpE_mono k (fun x ⟨e1, e2, e3, q⟩ => ⟨e1, e2, e3, wpE_mono e (fun d q => ⟨q.1, wpSs_mono r h q.2⟩) q⟩) q
    · exact q.elim
end
end Ef

end

section
set_option autoImplicit false
namespace L2
open PySem PySem.Spec PyProof.Rows
/-- a tuple of one's own: its object is known, and has no dict -/
def Tq (H : Hp) (a : Addr) (xs : List V) : Prop := ∃ o : Obj, H a = some (.frz o (.tup xs)) ∧ o.cls = .type "tuple" ∧ o.dict = none
theorem Tq.sq {K : PySem.W.Frag} {H : Hp} {a : Addr} {xs : List V} (h : Tq H a xs) : SqT K H a xs := by
  obtain ⟨o, h, _⟩ := h
  exact .inl (.inr ⟨o, h⟩)
theorem Tq.new {H : Hp} {a : Addr} {xs : List V} {o : Obj} (c : o.cls = .type "tuple") (d : o.dict = none) : Tq (upd H a (.frz o (.tup xs))) a xs := ⟨o, upd_same, c, d⟩
/-- what a maker of tuples asks of its rest -/
def MkT (xs : List V) (H : Hp) (Q : VK) : Prop := ∀ (p : Addr) (o : Obj), o.cls = .type "tuple" → o.dict = none → H p = none → Q (.ref p) (upd H p (.frz o (.tup xs)))
section
variable {X : Cx} {e : Expr} {es : List Expr} {te : TE} {t : TA} {pos : Pos}
theorem mkT {X : Cx} {pz : List (Addr × Obj)} {σ : St} {H : Hp} {s : Shared} {Q : VK} {xs : List V} {ut : List Value} (I : Inv X pz σ H s) (r : Vals xs ut) (z : xs.length ≤ sizeLine) (q : MkT xs H Q) (tk : Nat := s.toks) :
    EP X pz σ Q (.ref s.heap.objs.size) { s with heap := s.heap.push { cls := .type "tuple", data := .seq ut.toArray }, toks := tk } :=
  ⟨.ref s.heap.objs.size, _, I.laid (t' := tk) (o := .frz { cls := .type "tuple", data := .seq ut.toArray } (.tup xs)) (fun b u e => Heap.get?_push_of_some _ e) (Nat.le_refl _) ⟨Heap.get?_push_size _ rfl, z, ut, r, IsTup.new _ _⟩, rfl, q _ _ rfl rfl (I.hok.fresh (Nat.le_refl _))⟩
def tTupF (t : TA) : TE := fun σ H Q => t σ H fun xs H1 => xs.length ≤ sizeLine ∧ MkT xs H1 Q
theorem pe_tupF {x1} (h : PA X es t) : PE X (.Tuple es x1 pos) (tTupF t) := by
  refine ⟨fun pz s σ H Q I kq => ?_⟩
  refine wpAny_Tuple_spliced (thn (h.run pos pz s σ H _ I kq) fun us s1 ⟨xs, H1, V1, r, z, q⟩ => ⟨by rw [← r.length]; exact z, ?_⟩)
  exact mkT V1 r z q
def rCatF (K : PySem.W.Frag) : R2 := fun x y H Q => ∃ a b xs ys, x = .ref a ∧ y = .ref b ∧ SqT K H a xs ∧ SqT K H b ys ∧ xs.length + ys.length ≤ sizeLine ∧
  (xs = [] → Q (.ref b) H) ∧ (xs ≠ [] → ys = [] → Q (.ref a) H) ∧ (xs ≠ [] → ys ≠ [] → MkT (xs ++ ys) H Q)
theorem op_catF : OpR X (binaryOp .Add) (rCatF X.K) := by
  intro pz s σ H x y v u Q I rx ry h
  obtain ⟨a, b, xs, ys, rfl, rfl, ha, hb, lz, q0, q1, q2⟩ := h
  cases rx
  cases ry
  obtain ⟨ut, r1, p1, _⟩ := I.tuple ha
  obtain ⟨its2, r2, p2, _⟩ := I.tuple hb
  by_cases hx : xs = []
  · subst hx
    cases r1
    exact cat_tup0 p1 p2 ⟨.ref b, H, I, rfl, q0 rfl⟩
  · refine HT.cat_tup p1 p2 (fun z => hx (r1.nil_iff.mp z)) (fun z => ⟨.ref a, H, I, rfl, q1 hx (r2.nil_iff.mp z)⟩) (fun z => ?_) (by rw [← r1.length, ← r2.length]; exact lz)
    exact mkT I (r1.append r2) (by rw [List.length_append]; exact lz) (q2 hx (fun w => z (r2.nil_iff.mpr w)))
def rSlF (K : PySem.W.Frag) : V → Option Int → Option Int → Hp → VK → Prop := fun x lo ji H Q => ∃ a xs, x = .ref a ∧ SqT K H a xs ∧
  (HT.sIx xs.length 0 lo = 0 ∧ HT.sIx xs.length xs.length ji = xs.length → Q (.ref a) H) ∧ (¬ (HT.sIx xs.length 0 lo = 0 ∧ HT.sIx xs.length xs.length ji = xs.length) → MkT (cutV xs lo ji) H Q)
theorem sl_tupF : SlR X (rSlF X.K) := by
  intro pz s σ H x v vl vu lo ji sl Q I rx hs pl pu h
  obtain ⟨a, xs, rfl, hx, q1, q2⟩ := h
  cases rx
  obtain ⟨ut, r, ht, lz⟩ := I.tuple hx
  have ln9 : ut.toArray.size = xs.length := by rw [List.size_toArray]; exact r.length.symm
  by_cases hw : HT.sIx xs.length 0 lo = 0 ∧ HT.sIx xs.length xs.length ji = xs.length
  · refine ⟨"tuple", _, PyProof.Rows.slot_tuple_getitem.lookup, ht.typeIs, ?_⟩
    exact getItem_tuple_whole ht hs pl pu (by rw [ln9]; exact hw) ⟨.ref a, H, I, rfl, q1 hw⟩
  · refine ⟨"tuple", _, PyProof.Rows.slot_tuple_getitem.lookup, ht.typeIs, ?_⟩
    refine HT.getItem_tuple_cut ht hs pl pu (by rw [ln9]; exact hw) ?_ (by rw [ln9]; exact lz)
    rw [ln9]
    exact mkT I ((r.drop (HT.sIx xs.length 0 lo)).take (HT.sIx xs.length xs.length ji - HT.sIx xs.length 0 lo)) (Nat.le_trans (cutV_length xs lo ji) lz) (q2 hw)
theorem call_tuple_F : CallR X (.type "tuple") (fun xs H Q => ∃ p ys, xs = [.ref p] ∧ ((SqL X.K H p ys ∧ MkT ys H Q) ∨ (SqT X.K H p ys ∧ Q (.ref p) H))) := by
  intro pz s σ H xs us Q I r h
  obtain ⟨p, ys, rfl, h⟩ := h
  obtain ⟨u, rfl, rx⟩ := vals1 r
  cases rx
  rcases h with ⟨kq, q⟩ | ⟨kq, q⟩
  · obtain ⟨ut, r', pl, lz⟩ := I.list kq
    have ln9 := r'.length
    refine call_tuple_list pl.isList (fun h' kp => ?_) (by simp only [List.size_toArray] <;> omega)
    have V1 : Inv X pz σ H { s with heap := h' } := I.kept (t' := s.toks) kp
    exact mkT V1 r' lz q
  · obtain ⟨ut, r', pl, lz⟩ := I.tuple kq
    exact call_tuple_same pl ⟨.ref p, H, I, rfl, q⟩
def tTupRgF (te : St → Hp → (Int → Int → Hp → Prop) → Prop) : TE := fun σ H Q => te σ H fun a b H1 => RgOk a b ∧ MkT (rgV a b) H1 Q
theorem pe_tupRgF {te : St → Hp → (Int → Int → Hp → Prop) → Prop} {p pos : Pos} (hc : X.calm = true) (hg : Gl X "tuple") (mm : X.mg "tuple" = none) (he : PRg X e te) (na : starEach [e] X.env = (false, eval e X.env) :: starEach [] X.env := by rfl) : PE X (.Call (.Name "tuple" p) [e] [] pos) (tTupRgF te) := by
  refine ⟨fun pz s σ H Q I h => ?_⟩
  refine Call_ (ld_blt I hg mm boot_tuple (PyProof.Rows.callWith_type1 (args_cons (thn (he pz s σ H _ I h) fun x s1 ⟨r, a, b, t, u, v, H1, ex, hr, V1, ok, q⟩ => args_nil ?_) na) na))
  subst ex
  obtain ⟨b1, b2, b3, b4, b5⟩ := ok
  refine call_tuple_range (n := (b - a).toNat) (V1.ok.hd hc) hr (small_one b1 b2 b3 b4) (rangeSize_nat a b) b5 fun h' tk acc hk ji => ?_
  have I2 : Inv X pz σ H1 { s1 with heap := h', toks := tk } := V1.kept hk
  have h := mkT I2 (vals_rg ji) (by rw [rgV_length, sizeLine_eq]; omega) q
  rw [Array.toArray_toList] at h
  exact h
def rRepF (K : PySem.W.Frag) : R2 := fun x y H Q => ∃ l k xs, x = .ref l ∧ y = .int k ∧ SqT K H l xs ∧ xs ≠ [] ∧ 2 ≤ k ∧ k ≤ 1000 ∧ xs.length ≤ 1000 ∧ MkT (List.replicate k.toNat xs).flatten H Q
theorem op_repF : OpR X (binaryOp .Mult) (rRepF X.K) := by
  intro pz s σ H x y v u Q I rx ry h
  obtain ⟨l, k, xs, rfl, rfl, hT, hne, w1, w2, lz, q⟩ := h
  cases rx
  obtain ⟨t, rfl⟩ := ry
  obtain ⟨ut, r, ⟨⟨cls, dd, data, sl⟩, ho, hc, n, hd⟩, hs⟩ := I.tuple hT
  simp only at hc hd
  subst hc hd
  have le9 : ut.length = xs.length := r.length.symm
  have hn : ut ≠ [] := fun e => hne (by
    rw [e] at le9
    exact List.eq_nil_of_length_eq_zero le9.symm)
  have ji : ut.toArray.isEmpty = false := by
    cases ut with
    | nil => exact absurd rfl hn
    | cons a b => rfl
  have sz9 : ut.toArray.size = xs.length := by rw [List.size_toArray, le9]
  have mm : ((ut.toArray.size : Nat) : Int) * k ≤ 1000000 := by
    rw [sz9]
    have a1 : ((xs.length : Nat) : Int) * k ≤ 1000 * k := Int.mul_le_mul_of_nonneg_right (by omega) (by omega)
    omega
  have fl9 : (List.replicate k.toNat ut).flatten.length ≤ sizeLine := by
    rw [PyProof.Rows.lm_len_rep_flat, le9, sizeLine_eq]
    have a1 : k.toNat * xs.length ≤ 1000 * 1000 := Nat.mul_le_mul (by omega) lz
    omega
  have g0 : (decide (k < -(2 ^ 63)) || decide (k ≥ 2 ^ 63)) = false := by
    rw [decide_eq_false (by omega), decide_eq_false (by omega)] <;> rfl
  have g1 : (ut.toArray.isEmpty || k == 1) = false := by
    rw [ji, Bool.false_or]
    exact beq_eq_false_iff_ne.mpr (by omega)
  have g2 : (decide (k ≤ 0) || ut.toArray.isEmpty) = false := by
    rw [ji, Bool.or_false]
    exact decide_eq_false (by omega)
  have g4 : Builtin.Tuple.tupleTooMany (((ut.toArray.size : Nat) : Int) * k) = false := by
    unfold Builtin.Tuple.tupleTooMany
    rw [sizeLine_eq]
    exact decide_eq_false (by omega)
  refine wpAny_binaryOp_repeat_ref (T := "tuple") (U := "int") (by decide) ⟨_, ho, rfl⟩ (fun s' => typeIs_int s' k t) noFill_tuple_mul F.fills_int_mul F.slot_int_rmul repeat_tuple F.slot_int_index.lookup
    (call_meets F.slot_int_rmul (typeIs_int s k t) F.entry_int_rmul (F.args_int_rmul_2 _ _) (int_rmul_tuple k t l ut.toArray n dd sl)
      ⟨ho, rfl, ⟨_, ho, rfl⟩, call_meets F.slot_tuple_mul ⟨_, ho, rfl⟩ F.entry_tuple_mul (F.args_tuple_mul_2 _ _) (tuple_mulW l ut.toArray n dd sl k t g0 g1 g2 (by omega) g4 (by rw [size_rep, List.size_toArray]; exact fl9)) ⟨ho, ?_⟩⟩)
  rw [size_rep]
  exact mkT I (r.rep k.toNat) (by rw [PyProof.Rows.lm_len_rep_flat, sizeLine_eq]; have a1 : k.toNat * xs.length ≤ 1000 * 1000 := Nat.mul_le_mul (by omega) lz; omega) q
end
end L2

end

section
set_option autoImplicit false
namespace Ef
open PySem L2

/-! ### data in a heap -/
def kD : Key → PyData
  | .inl i => .int i
  | .inr x => .str x
mutual
inductive Dq (K : PySem.W.Frag) (I : Hp) : V → PyData → Prop
  | non : Dq K I .non .none
  | bl (b : Bool) : Dq K I (.bl b) (.bool b)
  | int (i : Int) : Dq K I (.int i) (.int i)
  | str (x : Str) : Dq K I (.str x) (.str x)
  | lst {a : Addr} {xs : List V} {ds : List PyData} : I a = some (.lst xs) → DqAll K I xs ds → Dq K I (.ref a) (.list ds)
  | tup {a : Addr} {xs : List V} {ds : List PyData} : Tq I a xs → DqAll K I xs ds → Dq K I (.ref a) (.tuple ds)
  | dic {a : Addr} {xs : List (Key × V)} {kvs : List (PyData × PyData)} : I a = some (.dK xs) → xs ≠ [] → DqKv K I xs kvs → Dq K I (.ref a) (.dict kvs)
  | dcn {a b : Addr} {o : Obj} {xs : List (NestedKey × Addr × Value)} {kvs : List (PyData × PyData)} : I a = some (DnO b o xs) → DqNs K I xs kvs → Dq K I (.ref a) (.dict kvs)
inductive DqAll (K : PySem.W.Frag) (I : Hp) : List V → List PyData → Prop
  | nil : DqAll K I [] []
  | cons {v : V} {vs : List V} {d : PyData} {ds : List PyData} : Dq K I v d → DqAll K I vs ds → DqAll K I (v :: vs) (d :: ds)
inductive DqKv (K : PySem.W.Frag) (I : Hp) : List (Key × V) → List (PyData × PyData) → Prop
  | nil : DqKv K I [] []
  | cons {k : Key} {v : V} {xs : List (Key × V)} {d : PyData} {kvs : List (PyData × PyData)} : Dq K I v d → DqKv K I xs kvs → DqKv K I ((k, v) :: xs) ((kD k, d) :: kvs)
inductive DqNs (K : PySem.W.Frag) (I : Hp) : List (NestedKey × Addr × Value) → List (PyData × PyData) → Prop
  | nil : DqNs K I [] []
  | cons {b : Addr} {u : Value} {v : V} {k d : PyData} {xs : List (NestedKey × Addr × Value)} {kvs : List (PyData × PyData)} : Dq K I (.ref b) k → keyN k = true → RelV v u → Dq K I v d → DqNs K I xs kvs → DqNs K I ((nk k, b, u) :: xs) ((k, d) :: kvs)
end
def Sub (I H : Hp) : Prop := ∀ b o, I b = some o → H b = some o
theorem SqT.sub {K : PySem.W.Frag} {I H : Hp} (s : Sub I H) {a xs} (h : SqT K I a xs) : SqT K H a xs := by
  rcases h with (h | ⟨o, h⟩) | h
  · exact .inl (.inl (s _ _ h))
  · exact .inl (.inr ⟨o, s _ _ h⟩)
  · exact .inr h
theorem Tq.sub {I H : Hp} (s : Sub I H) {a xs} (h : Tq I a xs) : Tq H a xs := by
  obtain ⟨o, h, q⟩ := h
  exact ⟨o, s _ _ h, q⟩
mutual
theorem Dq.sub {K : PySem.W.Frag} {I H : Hp} (s : Sub I H) : ∀ {v : V} {d : PyData}, Dq K I v d → Dq K H v d
  | _, _, .non => .non
  | _, _, .bl b => .bl b
  | _, _, .int i => .int i
  | _, _, .str x => .str x
  | _, _, .lst h q => .lst (s _ _ h) (DqAll.sub s q)
  | _, _, .tup h q => .tup (Tq.sub s h) (DqAll.sub s q)
  | _, _, .dic h n q => .dic (s _ _ h) n (DqKv.sub s q)
  | _, _, .dcn h q => .dcn (s _ _ h) (DqNs.sub s q)
theorem DqAll.sub {K : PySem.W.Frag} {I H : Hp} (s : Sub I H) : ∀ {v : List V} {d : List PyData}, DqAll K I v d → DqAll K H v d
  | _, _, .nil => .nil
  | _, _, .cons h q => .cons (Dq.sub s h) (DqAll.sub s q)
theorem DqKv.sub {K : PySem.W.Frag} {I H : Hp} (s : Sub I H) : ∀ {v : List (Key × V)} {d : List (PyData × PyData)}, DqKv K I v d → DqKv K H v d
  | _, _, .nil => .nil
  | _, _, .cons h q => .cons (Dq.sub s h) (DqKv.sub s q)
theorem DqNs.sub {K : PySem.W.Frag} {I H : Hp} (s : Sub I H) : ∀ {v : List (NestedKey × Addr × Value)} {d : List (PyData × PyData)}, DqNs K I v d → DqNs K H v d
  | _, _, .nil => .nil
  | _, _, .cons h hk r hv q => .cons (Dq.sub s h) hk r (Dq.sub s hv) (DqNs.sub s q)
end
mutual
theorem Dq.dp {K : PySem.W.Frag} {H : Hp} : ∀ {v : V} {d : PyData}, Dq K H v d → d.canLay0 = true → Dp K H v d
  | _, _, .non, _ => .non
  | _, _, .bl b, _ => .bl b
  | _, _, .int i, _ => .int i
  | _, _, .str x, _ => .str x
  | _, _, .lst h q, c => .lst (SqL.of h) (DqAll.dp q (by simpa [PyData.canLay0] using c))
  | _, _, .tup h q, c => .tup h.sq (DqAll.dp q (by simpa [PyData.canLay0] using c))
  | _, _, .dic h n q, c => by simp [PyData.canLay0] at c
  | _, _, .dcn h q, c => by simp [PyData.canLay0] at c
theorem DqAll.dp {K : PySem.W.Frag} {H : Hp} : ∀ {v : List V} {d : List PyData}, DqAll K H v d → PyData.canLayAll0 d = true → DpAll K H v d
  | _, _, .nil, _ => .nil
  | _, _, .cons h q, c => by
    simp only [PyData.canLayAll0, Bool.and_eq_true] at c
    exact .cons (Dq.dp h c.1) (DqAll.dp q c.2)
end
theorem kD_key {d : PyData} (h : keyB d = true) : ∃ k, d = kD k := by
  cases d <;> simp only [keyB] at h <;> try (cases h; done)
  · exact ⟨.inl _, rfl⟩
  · exact ⟨.inr _, rfl⟩
theorem kD_eq (j k : Key) : keyEq (kD j) (kD k) = decide (j = k) := by
  cases j <;> cases k <;> simp [kD, keyEq]
theorem Dq.kvE {K : PySem.W.Frag} {I : Hp} {v : V} {k : Key} (h : Dq K I v (kD k)) : v = kV k := by
  cases k <;> cases h <;> rfl
theorem DqKv.length {K : PySem.W.Frag} {I : Hp} : ∀ {xs kvs}, DqKv K I xs kvs → xs.length = kvs.length
  | _, _, .nil => rfl
  | _, _, .cons _ q => by simp [DqKv.length q]
theorem DqKv.look {K : PySem.W.Frag} {I : Hp} (k : Key) : ∀ {xs kvs}, DqKv K I xs kvs → (lookD kvs (kD k) = none ∧ valV xs k = none) ∨ ∃ v d, lookD kvs (kD k) = some d ∧ valV xs k = some v ∧ Dq K I v d
  | _, _, .nil => .inl ⟨rfl, rfl⟩
  | _, _, .cons (k := j) (v := v) (d := d) (kvs := kvs) h q => by
    have ih := DqKv.look k q
    by_cases e : j = k
    · subst e
      refine .inr ⟨v, d, ?_, valV_pos rfl, h⟩
      simp [lookD, kD_eq]
    · have e1 : lookD ((kD j, d) :: kvs) (kD k) = lookD kvs (kD k) := by simp [lookD, kD_eq, e]
      rw [e1, valV_neg e]
      exact ih
theorem DqKv.any {K : PySem.W.Frag} {I : Hp} (k : Key) : ∀ {xs kvs}, DqKv K I xs kvs → (kvs.any fun p => keyEq p.1 (kD k)) = (xs.any fun kv => decide (kv.1 = k))
  | _, _, .nil => rfl
  | _, _, .cons (k := j) h q => by simp only [List.any_cons, kD_eq, DqKv.any k q]
theorem DqKv.app {K : PySem.W.Frag} {I : Hp} {k : Key} {v : V} {d : PyData} (h : Dq K I v d) : ∀ {xs kvs}, DqKv K I xs kvs → DqKv K I (xs ++ [(k, v)]) (kvs ++ [(kD k, d)])
  | _, _, .nil => .cons h .nil
  | _, _, .cons h' q => .cons h' (DqKv.app h q)
theorem DqKv.rep {K : PySem.W.Frag} {I : Hp} {k : Key} {v : V} {d : PyData} (h : Dq K I v d) : ∀ {xs kvs}, DqKv K I xs kvs → DqKv K I (xs.map (fun kv => if kv.1 = k then (kv.1, v) else kv)) (kvs.map (fun p => if keyEq p.1 (kD k) = true then (p.1, d) else p))
  | _, _, .nil => .nil
  | _, _, .cons (k := j) h' q => by
    simp only [List.map_cons, kD_eq, decide_eq_true_eq]
    by_cases e : j = k
    · simp only [e, if_true]
      exact .cons h (DqKv.rep h q)
    · simp only [e, if_false]
      exact .cons h' (DqKv.rep h q)
theorem DqKv.put {K : PySem.W.Frag} {I : Hp} {k : Key} {v : V} {d : PyData} {xs kvs} (q : DqKv K I xs kvs) (h : Dq K I v d) : DqKv K I (putK xs k v) (storeD kvs (kD k) d) := by
  unfold putK storeD
  rw [q.any k]
  split
  · exact q.rep h
  · exact q.app h
/-- what is one's own: a list or a dict -/
inductive FrO (K : PySem.W.Frag) (I : Hp) : HO → PyData → Prop
  | lst {xs : List V} {ds : List PyData} : DqAll K I xs ds → FrO K I (.lst xs) (.list ds)
  | dic {xs : List (Key × V)} {kvs : List (PyData × PyData)} : xs ≠ [] → DqKv K I xs kvs → FrO K I (.dK xs) (.dict kvs)
  | dcn {b : Addr} {o : Obj} {xs : List (NestedKey × Addr × Value)} {kvs : List (PyData × PyData)} : DqNs K I xs kvs → FrO K I (DnO b o xs) (.dict kvs)
theorem FrO.sub {K : PySem.W.Frag} {I H : Hp} (s : Sub I H) : ∀ {o d}, FrO K I o d → FrO K H o d
  | _, _, .lst q => .lst (q.sub s)
  | _, _, .dic n q => .dic n (q.sub s)
  | _, _, .dcn q => .dcn (q.sub s)
theorem FrO.frD {K : PySem.W.Frag} {I : Hp} : ∀ {o d}, FrO K I o d → frD d = true
  | _, _, .lst q => rfl
  | _, _, .dic n q => rfl
  | _, _, .dcn q => rfl
theorem FrO.mutS {K : PySem.W.Frag} {I : Hp} : ∀ {o d}, FrO K I o d → mutS (slOf d) = some d
  | _, _, .lst q => rfl
  | _, _, .dic n q => rfl
  | _, _, .dcn q => rfl
theorem FrO.dq {K : PySem.W.Frag} {I : Hp} {a : Addr} : ∀ {o d}, FrO K I o d → I a = some o → Dq K I (.ref a) d
  | _, _, .lst q, h => .lst h q
  | _, _, .dic n q, h => .dic h n q
  | _, _, .dcn q, h => .dcn h q
section
variable {K : PySem.W.Frag} {I : Hp}
theorem DqAll.length : ∀ {xs : List V} {ds : List PyData}, DqAll K I xs ds → xs.length = ds.length
  | _, _, .nil => rfl
  | _, _, .cons _ q => by simp [DqAll.length q]
theorem DqAll.append : ∀ {xs ys : List V} {ds es : List PyData}, DqAll K I xs ds → DqAll K I ys es → DqAll K I (xs ++ ys) (ds ++ es)
  | _, _, _, _, .nil, q => q
  | _, _, _, _, .cons h p, q => .cons h (DqAll.append p q)
theorem DqAll.get : ∀ {xs : List V} {ds : List PyData} {i : Nat} {v : V}, DqAll K I xs ds → xs[i]? = some v → ∃ d, ds[i]? = some d ∧ Dq K I v d
  | _, _, _, _, .nil, e => by simp at e
  | _, _, 0, _, .cons h q, e => by simp at e; subst e; exact ⟨_, rfl, h⟩
  | _, _, i + 1, v, .cons h q, e => by
    obtain ⟨d, h1, h2⟩ := DqAll.get (i := i) (v := v) q (by simpa using e)
    exact ⟨d, by simpa using h1, h2⟩
theorem DqAll.get' : ∀ {xs : List V} {ds : List PyData} {i : Nat} {d : PyData}, DqAll K I xs ds → ds[i]? = some d → ∃ v, xs[i]? = some v ∧ Dq K I v d
  | _, _, _, _, .nil, e => by simp at e
  | _, _, 0, _, .cons h q, e => by simp at e; subst e; exact ⟨_, rfl, h⟩
  | _, _, i + 1, v, .cons h q, e => by
    obtain ⟨d, h1, h2⟩ := DqAll.get' (i := i) (d := v) q (by simpa using e)
    exact ⟨d, by simpa using h1, h2⟩
theorem DqAll.take : ∀ {xs : List V} {ds : List PyData} (n : Nat), DqAll K I xs ds → DqAll K I (xs.take n) (ds.take n)
  | _, _, 0, _ => .nil
  | _, _, _ + 1, .nil => .nil
  | _, _, n + 1, .cons h q => .cons h (DqAll.take n q)
theorem DqAll.drop : ∀ {xs : List V} {ds : List PyData} (n : Nat), DqAll K I xs ds → DqAll K I (xs.drop n) (ds.drop n)
  | _, _, 0, q => q
  | _, _, _ + 1, .nil => .nil
  | _, _, n + 1, .cons h q => DqAll.drop n q
theorem DqAll.set {v : V} {d : PyData} (h : Dq K I v d) : ∀ {xs : List V} {ds : List PyData} (n : Nat), DqAll K I xs ds → DqAll K I (xs.set n v) (ds.set n d)
  | _, _, _, .nil => .nil
  | _, _, 0, .cons _ q => .cons h q
  | _, _, n + 1, .cons k q => .cons k (DqAll.set h n q)
theorem DqAll.rep {xs : List V} {ds : List PyData} (q : DqAll K I xs ds) : ∀ n : Nat, DqAll K I (List.replicate n xs).flatten (List.replicate n ds).flatten
  | 0 => .nil
  | n + 1 => by simp only [List.replicate_succ, List.flatten_cons]; exact q.append (DqAll.rep q n)
theorem DqAll.cut {xs : List V} {ds : List PyData} (q : DqAll K I xs ds) (lo hi : Option Int) : DqAll K I (cutV xs lo hi) (cutD ds lo hi) := by
  unfold cutV cutD
  rw [q.length]
  exact (q.drop _).take _
theorem Dq.intE {v : V} {i : Int} (h : Dq K I v (.int i)) : v = .int i := by cases h; rfl
theorem Dq.blE {v : V} {b : Bool} (h : Dq K I v (.bool b)) : v = .bl b := by cases h; rfl
theorem Dq.strE {v : V} {x : Str} (h : Dq K I v (.str x)) : v = .str x := by cases h; rfl
theorem Dq.nonE {v : V} (h : Dq K I v .none) : v = .non := by cases h; rfl
theorem Dq.lstE {v : V} {ds : List PyData} (h : Dq K I v (.list ds)) : ∃ a xs, v = .ref a ∧ I a = some (.lst xs) ∧ DqAll K I xs ds := by
  cases h with | lst h q => exact ⟨_, _, rfl, h, q⟩
/-- how a dict stands in H: with texts and numbers as keys, or with tuples -/
def DcH (K : PySem.W.Frag) (I H : Hp) (a : Addr) (kvs : List (PyData × PyData)) : Prop := (∃ xs, H a = some (.dK xs) ∧ xs ≠ [] ∧ DqKv K I xs kvs) ∨ ∃ b o xs, H a = some (DnO b o xs) ∧ DqNs K I xs kvs
theorem Dq.dicE {v : V} {kvs : List (PyData × PyData)} (h : Dq K I v (.dict kvs)) : ∃ a, v = .ref a ∧ DcH K I I a kvs := by
  cases h with
  | dic h n q => exact ⟨_, rfl, .inl ⟨_, h, n, q⟩⟩
  | dcn h q => exact ⟨_, rfl, .inr ⟨_, _, _, h, q⟩⟩
theorem Dq.tupE {v : V} {ds : List PyData} (h : Dq K I v (.tuple ds)) : ∃ a xs, v = .ref a ∧ SqT K I a xs ∧ DqAll K I xs ds := by
  cases h with | tup h q => exact ⟨_, _, rfl, h.sq, q⟩
theorem Dq.tupQ {v : V} {ds : List PyData} (h : Dq K I v (.tuple ds)) : ∃ a xs, v = .ref a ∧ Tq I a xs ∧ DqAll K I xs ds := by
  cases h with | tup h q => exact ⟨_, _, rfl, h, q⟩
theorem Dq.isNon {v : V} {d : PyData} (h : Dq K I v d) : decide (v = .non) = isNoneD d := by
  cases h <;> rfl
theorem DqAll.bools : ∀ {xs : List V} {bs : List Bool}, DqAll K I xs (bs.map .bool) → xs = bs.map .bl
  | _, [], .nil => rfl
  | _, b :: bs, .cons h q => by rw [List.map_cons, h.blE, DqAll.bools q]
theorem DqAll.ints : ∀ {xs : List V} {ns : List Int}, DqAll K I xs (ns.map .int) → xs = ns.map .int
  | _, [], .nil => rfl
  | _, b :: bs, .cons h q => by rw [List.map_cons, h.intE, DqAll.ints q]
end

/-! ### the drawing box -/
structure BoxT where
  here : Addr → List Addr → Hp → Prop
  frame : ∀ {a : Addr} {fp : List Addr} {H H' : Hp}, (∀ b ∈ fp, H' b = H b) → here a fp H → here a fp H'
  has : ∀ {a : Addr} {fp : List Addr} {H : Hp}, here a fp H → ∀ b ∈ fp, ∃ o, H b = some o
abbrev Bx := Option (Addr × List Addr)
def fpOf : Bx → List Addr
  | none => []
  | some (_, fp) => fp
/-- I: what never changes; H: all that is tracked -/
structure Hv (T : BoxT) (bx : Bx) (I H : Hp) : Prop where
  sub : Sub I H
  bok : ∀ a fp, bx = some (a, fp) → T.here a fp H
  bno : ∀ b ∈ fpOf bx, I b = none
theorem Hv.hasb {T : BoxT} {bx : Bx} {I H : Hp} (h : Hv T bx I H) : ∀ b ∈ fpOf bx, ∃ o, H b = some o := fun b hb => by
  cases bx with
  | none => cases hb
  | some p => exact T.has (h.bok p.1 p.2 rfl) b hb
structure Gw (T : BoxT) (bx : Bx) (I H I' H' : Hp) : Prop where
  hv : Hv T bx I' H'
  im : ∀ b o, H b = some o → I' b = I b
  hp : ∀ b o, H b = some o → b ∉ fpOf bx → H' b = some o
  al : ∀ b o, H b = some o → ∃ o', H' b = some o'
section
variable {T : BoxT} {bx : Bx} {I H I' H' I2 H2 : Hp}
theorem Gw.refl (h : Hv T bx I H) : Gw T bx I H I H := ⟨h, fun _ _ _ => rfl, fun _ _ e _ => e, fun _ o e => ⟨o, e⟩⟩
theorem Gw.trans (a : Gw T bx I H I' H') (b : Gw T bx I' H' I2 H2) : Gw T bx I H I2 H2 :=
  ⟨b.hv, fun c o e => let ⟨o', e'⟩ := a.al c o e; (b.im c o' e').trans (a.im c o e), fun c o e n => b.hp c o (a.hp c o e n) n, fun c o e => let ⟨o', e'⟩ := a.al c o e; b.al c o' e'⟩
theorem Gw.sub (g : Gw T bx I H I' H') (h : Hv T bx I H) : Sub I I' := fun b o e => by rw [g.im b o (h.sub b o e)]; exact e
theorem Gw.free (g : Gw T bx I H I' H') {b : Addr} (h : H' b = none) : H b = none := by
  cases e : H b with
  | none => rfl
  | some o => obtain ⟨o', e'⟩ := g.al b o e; rw [h] at e'; cases e'
theorem hv_upd {p : Addr} {o : HO} (h : Hv T bx I H) (hp : H p = none) : (∀ a fp, bx = some (a, fp) → T.here a fp (upd H p o)) ∧ p ∉ fpOf bx := by
  have np : p ∉ fpOf bx := fun z => by obtain ⟨u, e⟩ := h.hasb p z; rw [hp] at e; cases e
  refine ⟨fun a fp e => T.frame (fun b hb => upd_ne fun z => ?_) (h.bok a fp e), np⟩
  subst z
  rw [e] at np
  exact np hb
/-- a new thing that will never change -/
theorem Gw.new {p : Addr} (o : HO) (h : Hv T bx I H) (hp : H p = none) : Gw T bx I H (upd I p o) (upd H p o) := by
  obtain ⟨h1, np⟩ := hv_upd (o := o) h hp
  have ne : ∀ b u, H b = some u → b ≠ p := fun b u e z => by subst z; rw [hp] at e; cases e
  refine ⟨⟨fun b u e => ?_, h1, fun b hb => ?_⟩, fun b u e => upd_ne (ne b u e), fun b u e _ => by rw [upd_ne (ne b u e)]; exact e, fun b u e => ⟨u, by rw [upd_ne (ne b u e)]; exact e⟩⟩
  · by_cases hb : b = p
    · subst hb; rw [upd_same] at e; rw [upd_same]; exact e
    · rw [upd_ne hb] at e; rw [upd_ne hb]; exact h.sub b u e
  · have : b ≠ p := fun z => by subst z; exact np hb
    rw [upd_ne this]; exact h.bno b hb
/-- a new thing that may change -/
theorem Gw.mut {p : Addr} (o : HO) (h : Hv T bx I H) (hp : H p = none) : Gw T bx I H I (upd H p o) := by
  obtain ⟨h1, np⟩ := hv_upd (o := o) h hp
  have ne : ∀ b u, H b = some u → b ≠ p := fun b u e z => by subst z; rw [hp] at e; cases e
  refine ⟨⟨fun b u e => ?_, h1, h.bno⟩, fun b u e => rfl, fun b u e _ => by rw [upd_ne (ne b u e)]; exact e, fun b u e => ⟨u, by rw [upd_ne (ne b u e)]; exact e⟩⟩
  rw [upd_ne (ne b u (h.sub b u e))]; exact h.sub b u e
/-- a thing of one's own becomes one that will never change -/
theorem Gw.freeze {p : Addr} {o : HO} (g : Gw T bx I H I' H') (hp : H p = none) (h2 : H' p = some o) (np : p ∉ fpOf bx) : Gw T bx I H (upd I' p o) H' := by
  have ne : ∀ b u, H b = some u → b ≠ p := fun b u e z => by subst z; rw [hp] at e; cases e
  refine ⟨⟨fun b u e => ?_, g.hv.bok, fun b hb => ?_⟩, fun b u e => by rw [upd_ne (ne b u e)]; exact g.im b u e, g.hp, g.al⟩
  · by_cases hb : b = p
    · subst hb; rw [upd_same] at e; cases e; exact h2
    · rw [upd_ne hb] at e; exact g.hv.sub b u e
  · have : b ≠ p := fun z => by subst z; exact np hb
    rw [upd_ne this]; exact g.hv.bno b hb
/-- a thing of one's own is written -/
theorem Gw.write {p : Addr} (o : HO) (g : Gw T bx I H I' H') (hp : H p = none) (hi : I' p = none) (np : p ∉ fpOf bx) : Gw T bx I H I' (upd H' p o) := by
  have ne : ∀ b u, H b = some u → b ≠ p := fun b u e z => by subst z; rw [hp] at e; cases e
  refine ⟨⟨fun b u e => ?_, fun a fp e => T.frame (fun b hb => upd_ne fun z => ?_) (g.hv.bok a fp e), g.hv.bno⟩, g.im, fun b u e n => by rw [upd_ne (ne b u e)]; exact g.hp b u e n, fun b u e => by rw [upd_ne (ne b u e)]; exact g.al b u e⟩
  · have : b ≠ p := fun z => by subst z; rw [hi] at e; cases e
    rw [upd_ne this]; exact g.hv.sub b u e
  · subst z
    rw [e] at np
    exact np hb
end

/-! ### slots -/
def SlOk (K : PySem.W.Frag) (bx : Bx) (H0 I H : Hp) : Sl → Option (Option V) → Prop
  | .un, _ => True
  | .dat d, o => ∃ v, o = some (some v) ∧ Dq K I v d
  | .own ds, o => ∃ a u, o = some (some (.ref a)) ∧ H0 a = none ∧ I a = none ∧ H a = some u ∧ FrO K I u (.list ds) ∧ a ∉ fpOf bx
  | .dic kvs, o => ∃ a u, o = some (some (.ref a)) ∧ H0 a = none ∧ I a = none ∧ H a = some u ∧ FrO K I u (.dict kvs) ∧ a ∉ fpOf bx
  | .box, o => ∃ a fp, bx = some (a, fp) ∧ o = some (some (.ref a))
  | .dol _, _ => True
/-- the lists of a dict of lists, each at a place of its own -/
inductive DlNs (K : PySem.W.Frag) (bx : Bx) (H0 I H : Hp) : List (NestedKey × Addr × Value) → List (PyData × List PyData) → List Addr → Prop
  | nil : DlNs K bx H0 I H [] [] []
  | cons {b c : Addr} {k : PyData} {ys : List V} {ds : List PyData} {xs : List (NestedKey × Addr × Value)} {kvs : List (PyData × List PyData)} {fp : List Addr} : Dq K I (.ref b) k → keyN k = true → H0 c = none → I c = none → H c = some (.lst ys) → DqAll K I ys ds → c ∉ fpOf bx → c ∉ fp → DlNs K bx H0 I H xs kvs fp → DlNs K bx H0 I H ((nk k, b, .ref c) :: xs) ((k, ds) :: kvs) (c :: fp)
/-- a dict of lists at a -/
def DlAt (K : PySem.W.Frag) (bx : Bx) (H0 I H : Hp) (a : Addr) (kvs : List (PyData × List PyData)) (fp : List Addr) : Prop := ∃ b o xs, H0 a = none ∧ I a = none ∧ H a = some (DnO b o xs) ∧ a ∉ fpOf bx ∧ a ∉ fp ∧ DlNs K bx H0 I H xs kvs fp
/-- the slots with dicts of lists stand apart from all else that may change, and from the places as -/
def DlOk (K : PySem.W.Frag) (bx : Bx) (H0 : Hp) (ρ : Rho) (σ : St) (I H : Hp) (as : List Addr) : Prop := ∀ (i : Nat) (kvs : List (PyData × List PyData)), ρ[i]? = some (.dol kvs) → ∃ a fp, σ[i]? = some (some (.ref a)) ∧ DlAt K bx H0 I H a kvs fp ∧
  (∀ (j : Nat) (t : Sl) (d : PyData) (b : Addr), ρ[j]? = some t → mutS t = some d → σ[j]? = some (some (.ref b)) → b ≠ a ∧ b ∉ fp) ∧ (∀ b ∈ as, b ≠ a ∧ b ∉ fp) ∧ ∀ (j : Nat) (kvs' : List (PyData × List PyData)), ρ[j]? = some (.dol kvs') → j = i
structure SA (K : PySem.W.Frag) (T : BoxT) (bx : Bx) (I0 H0 : Hp) (ρ : Rho) (σ : St) (I H : Hp) : Prop where
  gw : Gw T bx I0 H0 I H
  len : ρ.length = σ.length
  sl : ∀ (i : Nat) (s : Sl), ρ[i]? = some s → SlOk K bx H0 I H s σ[i]?
  dj : ∀ (i j : Nat) (s t : Sl) (d e : PyData), i ≠ j → ρ[i]? = some s → ρ[j]? = some t → mutS s = some d → mutS t = some e → σ[i]? ≠ σ[j]?
  dl : DlOk K bx H0 ρ σ I H []
theorem DlNs.keep {K : PySem.W.Frag} {bx : Bx} {H0 I H I' H' : Hp} (sb : Sub I I') : ∀ {xs kvs fp}, DlNs K bx H0 I H xs kvs fp → (∀ c ∈ fp, I' c = none) → (∀ c ∈ fp, H' c = H c) → DlNs K bx H0 I' H' xs kvs fp
  | _, _, _, .nil, _, _ => .nil
  | _, _, _, .cons (c := c) h1 h2 h3 h4 h5 h6 h7 h8 q, hi, hh => .cons (h1.sub sb) h2 h3 (hi c List.mem_cons_self) (by rw [hh c List.mem_cons_self]; exact h5) (h6.sub sb) h7 h8 (DlNs.keep sb q (fun c hc => hi c (List.mem_cons_of_mem _ hc)) fun c hc => hh c (List.mem_cons_of_mem _ hc))
theorem DlNs.at_ {K : PySem.W.Frag} {bx : Bx} {H0 I H : Hp} : ∀ {xs kvs fp}, DlNs K bx H0 I H xs kvs fp → ∀ c ∈ fp, H0 c = none ∧ I c = none ∧ (∃ ys, H c = some (.lst ys)) ∧ c ∉ fpOf bx
  | _, _, _, .nil, c, h => by cases h
  | _, _, _, .cons h1 h2 h3 h4 h5 h6 h7 h8 q, c, h => by
    rcases List.mem_cons.mp h with rfl | h
    · exact ⟨h3, h4, ⟨_, h5⟩, h7⟩
    · exact DlNs.at_ q c h
theorem slMu {K : PySem.W.Frag} {bx : Bx} {H0 I H : Hp} {s : Sl} {d : PyData} {o : Option (Option V)} (e : mutS s = some d) : SlOk K bx H0 I H s o ↔ ∃ a u, o = some (some (.ref a)) ∧ H0 a = none ∧ I a = none ∧ H a = some u ∧ FrO K I u d ∧ a ∉ fpOf bx := by
  cases s <;> simp only [mutS] at e <;> cases e <;> exact Iff.rfl
/-- a value that may still be of one's own: read here and now -/
def Bo (K : PySem.W.Frag) (bx : Bx) (I H : Hp) (v : V) (d : PyData) : Prop :=
  Dq K I v d ∨ ∃ a u, v = .ref a ∧ H a = some u ∧ FrO K I u d ∧ a ∉ fpOf bx
inductive Md where | st | bo | fr
/-- I, H: ahead; I', H': behind -/
def Vl (K : PySem.W.Frag) (bx : Bx) (H I' H' : Hp) : Md → V → PyData → Prop
  | .st, v, d => Dq K I' v d
  | .bo, v, d => Bo K bx I' H' v d
  | .fr, v, d => (∃ a u, v = .ref a ∧ H a = none ∧ I' a = none ∧ H' a = some u ∧ FrO K I' u d) ∨ Dq K I' v d ∧ frD d = false
section
variable {K : PySem.W.Frag} {T : BoxT} {bx : Bx} {I0 H0 I H I' H' : Hp} {ρ : Rho} {σ : St}
theorem SA.hv (s : SA K T bx I0 H0 ρ σ I H) : Hv T bx I H := s.gw.hv
theorem DlAt.grow (hv : Hv T bx I H) (g : Gw T bx I H I' H') {a : Addr} {kvs : List (PyData × List PyData)} {fp : List Addr} (h : DlAt K bx H0 I H a kvs fp) : DlAt K bx H0 I' H' a kvs fp := by
  obtain ⟨b, o, xs, h1, h2, h3, h4, h5, q⟩ := h
  refine ⟨b, o, xs, h1, (g.im a _ h3).trans h2, g.hp a _ h3 h4, h4, h5, q.keep (g.sub hv) (fun c hc => ?_) fun c hc => ?_⟩
  · obtain ⟨_, k2, ⟨ys, k3⟩, _⟩ := q.at_ c hc
    exact (g.im c _ k3).trans k2
  · obtain ⟨_, _, ⟨ys, k3⟩, k4⟩ := q.at_ c hc
    rw [k3]; exact g.hp c _ k3 k4
theorem DlAt.has {a : Addr} {kvs : List (PyData × List PyData)} {fp : List Addr} (h : DlAt K bx H0 I H a kvs fp) {b : Addr} (hb : H b = none) : b ≠ a ∧ b ∉ fp := by
  obtain ⟨_, o, xs, h1, h2, h3, h4, h5, q⟩ := h
  refine ⟨(fun z => by subst z; rw [hb] at h3; cases h3), fun z => ?_⟩
  obtain ⟨_, _, ⟨ys, k3⟩, _⟩ := q.at_ b z
  rw [hb] at k3; cases k3
theorem SA.dlGrow (s : SA K T bx I0 H0 ρ σ I H) (g : Gw T bx I H I' H') {as : List Addr} (ha : ∀ a ∈ as, H a = none) : DlOk K bx H0 ρ σ I' H' as := fun i kvs e => by
  obtain ⟨a, fp, e1, h, h2, _, h4⟩ := s.dl i kvs e
  exact ⟨a, fp, e1, h.grow s.gw.hv g, h2, fun b hb => h.has (ha b hb), h4⟩
theorem SA.grow (s : SA K T bx I0 H0 ρ σ I H) (g : Gw T bx I H I' H') : SA K T bx I0 H0 ρ σ I' H' := by
  refine ⟨s.gw.trans g, s.len, fun i sl e => ?_, s.dj, s.dlGrow g (fun _ h => nomatch h)⟩
  have q := s.sl i sl e
  have sb : Sub I I' := g.sub s.hv
  cases sl with
  | dol _ => trivial
  | un => trivial
  | dat d => obtain ⟨v, e1, q⟩ := q; exact ⟨v, e1, q.sub sb⟩
  | own ds => obtain ⟨a, xs, e1, h0, i1, h1, q, n⟩ := q; exact ⟨a, xs, e1, h0, (g.im a _ h1).trans i1, g.hp a _ h1 n, q.sub sb, n⟩
  | dic ds => obtain ⟨a, xs, e1, h0, i1, h1, q, n⟩ := q; exact ⟨a, xs, e1, h0, (g.im a _ h1).trans i1, g.hp a _ h1 n, q.sub sb, n⟩
  | box => exact q
theorem Bo.grow (hv : Hv T bx I H) (g : Gw T bx I H I' H') {v d} (b : Bo K bx I H v d) : Bo K bx I' H' v d := by
  rcases b with b | ⟨a, u, e1, h, q, n⟩
  · exact .inl (b.sub (g.sub hv))
  · exact .inr ⟨a, u, e1, g.hp a _ h n, q.sub (g.sub hv), n⟩
theorem Vl.bo {m v d} (hv : Hv T bx I H) (g : Gw T bx I H I' H') (h : Vl K bx H I' H' m v d) : Bo K bx I' H' v d := by
  cases m with
  | st => exact .inl h
  | bo => exact h
  | fr =>
    rcases h with ⟨a, u, e1, hn, hi, h, q⟩ | h
    · refine .inr ⟨a, u, e1, h, q, fun z => ?_⟩
      obtain ⟨o, e⟩ := hv.hasb a z
      rw [hn] at e; cases e
    · exact .inl h.1
theorem Vl.st {v d} (hv : Hv T bx I H) (g : Gw T bx I H I' H') (h : Vl K bx H I' H' .fr v d) : ∃ I2, Gw T bx I H I2 H' ∧ Dq K I2 v d := by
  rcases h with ⟨a, u, e1, hn, hi, h, q⟩ | h
  · have np : a ∉ fpOf bx := fun z => by
      obtain ⟨o, e⟩ := hv.hasb a z
      rw [hn] at e; cases e
    have g2 := g.freeze hn h np
    refine ⟨_, g2, ?_⟩
    subst e1
    refine FrO.dq (q.sub fun b o e => ?_) upd_same
    rw [upd_ne (fun z => by subst z; rw [hi] at e; cases e)]
    exact e
  · exact ⟨I', g, h.1⟩
theorem Bo.dp (hv : Hv T bx I H) {v d} (b : Bo K bx I H v d) (c : d.canLay0 = true) : Dp K H v d := by
  rcases b with b | ⟨a, u, e1, h, q, n⟩
  · exact (b.sub hv.sub).dp c
  · subst e1
    cases q with
    | lst q => exact .lst (SqL.of h) ((q.sub hv.sub).dp (by simpa [PyData.canLay0] using c))
    | dic n q => simp [PyData.canLay0] at c
    | dcn q => simp [PyData.canLay0] at c
theorem Bo.intE {v : V} {i : Int} (h : Bo K bx I H v (.int i)) : v = .int i := by
  rcases h with h | ⟨_, _, _, _, e, _⟩
  · exact h.intE
  · cases e
theorem Bo.blE {v : V} {i : Bool} (h : Bo K bx I H v (.bool i)) : v = .bl i := by
  rcases h with h | ⟨_, _, _, _, e, _⟩
  · exact h.blE
  · cases e
theorem Bo.strE {v : V} {i : Str} (h : Bo K bx I H v (.str i)) : v = .str i := by
  rcases h with h | ⟨_, _, _, _, e, _⟩
  · exact h.strE
  · cases e
theorem Bo.nonE {v : V} (h : Bo K bx I H v .none) : v = .non := by
  rcases h with h | ⟨_, _, _, _, e, _⟩
  · exact h.nonE
  · cases e
theorem Bo.tupE {v : V} {ds : List PyData} (h : Bo K bx I H v (.tuple ds)) : ∃ a xs, v = .ref a ∧ SqT K I a xs ∧ DqAll K I xs ds := by
  rcases h with h | ⟨_, _, _, _, e, _⟩
  · exact h.tupE
  · cases e
theorem Bo.tupQ {v : V} {ds : List PyData} (h : Bo K bx I H v (.tuple ds)) : ∃ a xs, v = .ref a ∧ Tq I a xs ∧ DqAll K I xs ds := by
  rcases h with h | ⟨_, _, _, _, e, _⟩
  · exact h.tupQ
  · cases e
theorem Bo.lstE (hv : Hv T bx I H) {v : V} {ds : List PyData} (h : Bo K bx I H v (.list ds)) : ∃ a xs, v = .ref a ∧ H a = some (.lst xs) ∧ DqAll K I xs ds := by
  rcases h with h | ⟨a, u, e1, h, q, _⟩
  · obtain ⟨a, xs, e, h, q⟩ := h.lstE
    exact ⟨a, xs, e, hv.sub _ _ h, q⟩
  · cases q with | lst q => exact ⟨a, _, e1, h, q⟩
theorem Bo.dicE (hv : Hv T bx I H) {v : V} {kvs : List (PyData × PyData)} (h : Bo K bx I H v (.dict kvs)) : ∃ a, v = .ref a ∧ DcH K I H a kvs := by
  rcases h with h | ⟨a, u, e1, h, q, _⟩
  · obtain ⟨a, e, ⟨xs, h, n, q⟩ | ⟨b, o, xs, h, q⟩⟩ := h.dicE
    · exact ⟨a, e, .inl ⟨xs, hv.sub _ _ h, n, q⟩⟩
    · exact ⟨a, e, .inr ⟨b, o, xs, hv.sub _ _ h, q⟩⟩
  · cases q with
    | dic n q => exact ⟨a, e1, .inl ⟨_, h, n, q⟩⟩
    | dcn q => exact ⟨a, e1, .inr ⟨_, _, _, h, q⟩⟩
theorem Bo.isNon {v : V} {d : PyData} (h : Bo K bx I H v d) : decide (v = .non) = isNoneD d := by
  rcases h with h | ⟨a, u, e1, h, q, _⟩
  · exact h.isNon
  · subst e1; cases q <;> rfl
theorem SA.dat {i : Nat} {d} (s : SA K T bx I0 H0 ρ σ I H) (e : ρ.getD i .un = .dat d) : ∃ v, σ[i]? = some (some v) ∧ Dq K I v d := by
  have e2 : ρ[i]? = some (.dat d) := by
    rw [List.getD_eq_getElem?_getD] at e
    cases q : ρ[i]? with
    | none => rw [q] at e; cases e
    | some z => rw [q] at e; exact congrArg some e
  exact s.sl i _ e2
theorem getD_sl {ρ : Rho} {i : Nat} {s : Sl} (e : ρ.getD i .un = s) (h : s ≠ .un) : ρ[i]? = some s := by
  rw [List.getD_eq_getElem?_getD] at e
  cases q : ρ[i]? with
  | none => rw [q] at e; exact absurd e.symm h
  | some z => rw [q] at e; exact congrArg some e
theorem SA.own {i : Nat} {ds} (s : SA K T bx I0 H0 ρ σ I H) (e : ρ.getD i .un = .own ds) : ∃ a xs, σ[i]? = some (some (.ref a)) ∧ H0 a = none ∧ I a = none ∧ H a = some (.lst xs) ∧ DqAll K I xs ds ∧ a ∉ fpOf bx := by
  obtain ⟨a, u, e1, h0, h1, h2, q, n⟩ := s.sl i _ (getD_sl e (fun z => nomatch z))
  cases q with | lst q => exact ⟨a, _, e1, h0, h1, h2, q, n⟩
theorem SA.dic {i : Nat} {kvs} (s : SA K T bx I0 H0 ρ σ I H) (e : ρ.getD i .un = .dic kvs) : ∃ a u, σ[i]? = some (some (.ref a)) ∧ H0 a = none ∧ I a = none ∧ H a = some u ∧ FrO K I u (.dict kvs) ∧ a ∉ fpOf bx :=
  s.sl i _ (getD_sl e (fun z => nomatch z))
theorem FrO.dc {a : Addr} {u : HO} {kvs : List (PyData × PyData)} (q : FrO K I u (.dict kvs)) (h : H a = some u) : DcH K I H a kvs := by
  cases q with
  | dic n q => exact .inl ⟨_, h, n, q⟩
  | dcn q => exact .inr ⟨_, _, _, h, q⟩
theorem SA.isbox {i : Nat} (s : SA K T bx I0 H0 ρ σ I H) (e : ρ.getD i .un = .box) : ∃ a fp, bx = some (a, fp) ∧ σ[i]? = some (some (.ref a)) := by
  have e2 : ρ[i]? = some .box := by
    rw [List.getD_eq_getElem?_getD] at e
    cases q : ρ[i]? with
    | none => rw [q] at e; cases e
    | some z => rw [q] at e; exact congrArg some e
  exact s.sl i _ e2
theorem getD_own {ρ : Rho} {i : Nat} {ds} (e : ρ.getD i .un = .own ds) : ρ[i]? = some (.own ds) := by
  rw [List.getD_eq_getElem?_getD] at e
  cases q : ρ[i]? with
  | none => rw [q] at e; cases e
  | some z => rw [q] at e; exact congrArg some e
theorem set_cell {α : Type} {l : List α} {i j : Nat} {x y : α} (e : (l.set i x)[j]? = some y) : (i = j ∧ y = x) ∨ (i ≠ j ∧ l[j]? = some y) := by
  by_cases hj : i = j
  · subst hj
    by_cases hl : i < l.length
    · rw [List.getElem?_set_self hl] at e; cases e; exact .inl ⟨rfl, rfl⟩
    · rw [List.getElem?_eq_none (by simp; omega)] at e; cases e
  · rw [List.getElem?_set_ne hj] at e; exact .inr ⟨hj, e⟩
theorem DlOk.setDat {as : List Addr} {i : Nat} {d : PyData} {v : V} (h : DlOk K bx H0 ρ σ I H as) : DlOk K bx H0 (ρ.set i (.dat d)) (σ.set i (some v)) I H as := fun j kvs e => by
  rcases set_cell e with ⟨_, z⟩ | ⟨ne, e⟩
  · cases z
  obtain ⟨a, fp, e1, h1, h2, h3, h4⟩ := h j kvs e
  refine ⟨a, fp, by rw [List.getElem?_set_ne ne]; exact e1, h1, fun k t c b e2 m e3 => ?_, h3, fun k kvs' e2 => ?_⟩
  · rcases set_cell e2 with ⟨_, z⟩ | ⟨ne2, e2⟩
    · subst z; cases m
    · rw [List.getElem?_set_ne ne2] at e3; exact h2 k t c b e2 m e3
  · rcases set_cell e2 with ⟨_, z⟩ | ⟨_, e2⟩
    · cases z
    · exact h4 k kvs' e2
theorem DlOk.setMu {as : List Addr} {i : Nat} {sl : Sl} {d : PyData} {a : Addr} (hs : mutS sl = some d) (h : DlOk K bx H0 ρ σ I H (a :: as)) : DlOk K bx H0 (ρ.set i sl) (σ.set i (some (.ref a))) I H as := fun j kvs e => by
  rcases set_cell e with ⟨_, z⟩ | ⟨ne, e⟩
  · subst z; cases hs
  obtain ⟨a', fp, e1, h1, h2, h3, h4⟩ := h j kvs e
  refine ⟨a', fp, by rw [List.getElem?_set_ne ne]; exact e1, h1, fun k t c b e2 m e3 => ?_, fun b hb => h3 b (List.mem_cons_of_mem _ hb), fun k kvs' e2 => ?_⟩
  · rcases set_cell e2 with ⟨z1, z⟩ | ⟨ne2, e2⟩
    · subst z1
      rcases set_cell e3 with ⟨_, z3⟩ | ⟨n3, _⟩
      · cases z3; exact h3 _ List.mem_cons_self
      · exact absurd rfl n3
    · rw [List.getElem?_set_ne ne2] at e3; exact h2 k t c b e2 m e3
  · rcases set_cell e2 with ⟨_, z⟩ | ⟨_, e2⟩
    · subst z; cases hs
    · exact h4 k kvs' e2
theorem DlOk.less {as bs : List Addr} (h : DlOk K bx H0 ρ σ I H as) (hb : ∀ b ∈ bs, b ∈ as) : DlOk K bx H0 ρ σ I H bs := fun j kvs e => by
  obtain ⟨a, fp, e1, h1, h2, h3, h4⟩ := h j kvs e
  exact ⟨a, fp, e1, h1, h2, fun b hb' => h3 b (hb b hb'), h4⟩
/-- a slot is set to data -/
theorem SA.setDat {i : Nat} {v d} (s : SA K T bx I0 H0 ρ σ I H) (h : Dq K I v d) : SA K T bx I0 H0 (ρ.set i (.dat d)) (σ.set i (some v)) I H := by
  refine ⟨s.gw, by simp [s.len], fun j sl e => ?_, fun j k s1 s2 d1 d2 hjk e1 e2 m1 m2 => ?_, s.dl.setDat⟩
  · by_cases hj : i = j
    · subst hj
      by_cases hl : i < ρ.length
      · rw [List.getElem?_set_self hl] at e
        cases e
        rw [List.getElem?_set_self (by rw [← s.len]; exact hl)]
        exact ⟨v, rfl, h⟩
      · rw [List.getElem?_eq_none (by simp; omega)] at e; cases e
    · rw [List.getElem?_set_ne hj] at e ⊢
      exact s.sl j sl e
  · have ne : ∀ (j : Nat) (s1 : Sl) (d1 : PyData), (ρ.set i (.dat d))[j]? = some s1 → mutS s1 = some d1 → i ≠ j := fun j s1 d1 e1 m1 z => by
      subst z
      by_cases hl : i < ρ.length
      · rw [List.getElem?_set_self hl] at e1; cases e1; cases m1
      · rw [List.getElem?_eq_none (by simp; omega)] at e1; cases e1
    have ne1 := ne j s1 d1 e1 m1
    have ne2 := ne k s2 d2 e2 m2
    rw [List.getElem?_set_ne ne1] at e1 ⊢
    rw [List.getElem?_set_ne ne2] at e2 ⊢
    exact s.dj j k s1 s2 d1 d2 hjk e1 e2 m1 m2
/-- a slot is set to a thing of one's own -/
theorem SA.setMu {i : Nat} {a u d} {sl : Sl} (hs : mutS sl = some d) (s : SA K T bx I0 H0 ρ σ I H) (h0 : H0 a = none) (h1 : I a = none) (h2 : H a = some u) (q : FrO K I u d) (n : a ∉ fpOf bx)
    (hd : ∀ (j : Nat) (t : Sl) (e : PyData), j ≠ i → ρ[j]? = some t → mutS t = some e → σ[j]? ≠ some (some (.ref a))) (hl : DlOk K bx H0 ρ σ I H [a]) : SA K T bx I0 H0 (ρ.set i sl) (σ.set i (some (.ref a))) I H := by
  refine ⟨s.gw, by simp [s.len], fun j t e => ?_, fun j k s1 s2 d1 d2 hjk e1 e2 m1 m2 => ?_, hl.setMu hs⟩
  · by_cases hj : i = j
    · subst hj
      by_cases hl : i < ρ.length
      · rw [List.getElem?_set_self hl] at e
        cases e
        rw [List.getElem?_set_self (by rw [← s.len]; exact hl)]
        exact (slMu hs).mpr ⟨a, u, rfl, h0, h1, h2, q, n⟩
      · rw [List.getElem?_eq_none (by simp; omega)] at e; cases e
    · rw [List.getElem?_set_ne hj] at e ⊢
      exact s.sl j t e
  · by_cases h1 : i = j
    · subst h1
      rw [List.getElem?_set_ne hjk] at e2
      rw [List.getElem?_set_ne hjk]
      by_cases hl : i < σ.length
      · rw [List.getElem?_set_self hl]
        exact fun z => hd k s2 d2 (fun w => hjk w.symm) e2 m2 z.symm
      · rw [List.getElem?_eq_none (by rw [List.length_set, s.len]; omega)] at e1; cases e1
    · rw [List.getElem?_set_ne h1] at e1 ⊢
      by_cases h2 : i = k
      · subst h2
        by_cases hl : i < σ.length
        · rw [List.getElem?_set_self hl]
          exact hd j s1 d1 hjk e1 m1
        · rw [List.getElem?_eq_none (by rw [List.length_set, s.len]; omega)] at e2; cases e2
      · rw [List.getElem?_set_ne h2] at e2 ⊢
        exact s.dj j k s1 s2 d1 d2 hjk e1 e2 m1 m2
/-- a thing of one's own is written -/
theorem SA.writeMu {i : Nat} {a u s1 d1 s2 d2} (s : SA K T bx I0 H0 ρ σ I H) (e : ρ[i]? = some s1) (m1 : mutS s1 = some d1) (ea : σ[i]? = some (some (.ref a))) (m2 : mutS s2 = some d2) (q : FrO K I u d2) : SA K T bx I0 H0 (ρ.set i s2) σ I (upd H a u) := by
  obtain ⟨a', u', e1, h0, h1, h2, q', n⟩ := (slMu m1).mp (s.sl i _ e)
  rw [ea] at e1; cases e1
  have g := s.gw.write u h0 h1 n
  have hl : i < ρ.length := (List.getElem?_eq_some_iff.mp e).1
  refine ⟨g, by simp [s.len], fun j sl ej => ?_, fun j k t1 t2 c1 c2 hjk e3 e4 k1 k2 => ?_, fun j kvs ej => ?_⟩
  rotate_right
  · rcases set_cell ej with ⟨_, z⟩ | ⟨ne, ej⟩
    · subst z; cases m2
    obtain ⟨a2, fp, e3, h4, h5, _, h7⟩ := s.dl j kvs ej
    obtain ⟨n1, n2⟩ := h5 i s1 d1 a e m1 ea
    obtain ⟨b, o, xs, k1, k2, k3, k4, k5, q2⟩ := h4
    refine ⟨a2, fp, e3, ⟨b, o, xs, k1, k2, by rw [upd_ne (Ne.symm n1)]; exact k3, k4, k5, q2.keep (fun _ _ e => e) (fun c hc => (q2.at_ c hc).2.1) fun c hc => upd_ne fun z => n2 (z ▸ hc)⟩, fun k t c b' e4 m e5 => ?_, (fun _ h => nomatch h), fun k kvs' e4 => ?_⟩
    · rcases set_cell e4 with ⟨z1, z⟩ | ⟨_, e4⟩
      · subst z1; rw [ea] at e5; cases e5; exact ⟨n1, n2⟩
      · exact h5 k t c b' e4 m e5
    · rcases set_cell e4 with ⟨_, z⟩ | ⟨_, e4⟩
      · subst z; cases m2
      · exact h7 k kvs' e4
  · by_cases hj : i = j
    · subst hj
      rw [List.getElem?_set_self hl] at ej
      cases ej
      exact (slMu m2).mpr ⟨a, u, ea, h0, h1, upd_same, q, n⟩
    · rw [List.getElem?_set_ne hj] at ej
      have z := s.sl j sl ej
      have mu : ∀ c, mutS sl = some c → SlOk K bx H0 I (upd H a u) sl σ[j]? := fun c hc => by
        obtain ⟨b, ys, e3, k0, k1, k2, q2, m⟩ := (slMu hc).mp z
        refine (slMu hc).mpr ⟨b, ys, e3, k0, k1, ?_, q2, m⟩
        rw [upd_ne (fun w => by subst w; exact s.dj i j _ _ _ _ hj e ej m1 hc (ea.trans e3.symm))]
        exact k2
      cases sl with
      | un => trivial
      | dat d => exact z
      | own fs => exact mu _ rfl
      | dic fs => exact mu _ rfl
      | dol _ => trivial
      | box => exact z
  · have aux : ∀ (m : Nat) (t : Sl) (c : PyData), (ρ.set i s2)[m]? = some t → mutS t = some c → ∃ t' c', ρ[m]? = some t' ∧ mutS t' = some c' := fun m t c e5 k5 => by
      by_cases hm : i = m
      · subst hm; exact ⟨s1, d1, e, m1⟩
      · rw [List.getElem?_set_ne hm] at e5; exact ⟨t, c, e5, k5⟩
    obtain ⟨f1, g1, e5, k5⟩ := aux j _ _ e3 k1
    obtain ⟨f2, g2, e6, k6⟩ := aux k _ _ e4 k2
    exact s.dj j k f1 f2 g1 g2 hjk e5 e6 k5 k6
theorem SA.write {i : Nat} {a xs ds es} (s : SA K T bx I0 H0 ρ σ I H) (e : ρ.getD i .un = .own ds) (ea : σ[i]? = some (some (.ref a))) (q : DqAll K I xs es) : SA K T bx I0 H0 (ρ.set i (.own es)) σ I (upd H a (.lst xs)) :=
  s.writeMu (getD_sl e (fun z => nomatch z)) rfl ea rfl (.lst q)
theorem SA.writeD {i : Nat} {a xs kvs es} (s : SA K T bx I0 H0 ρ σ I H) (e : ρ.getD i .un = .dic kvs) (ea : σ[i]? = some (some (.ref a))) (n : xs ≠ []) (q : DqKv K I xs es) : SA K T bx I0 H0 (ρ.set i (.dic es)) σ I (upd H a (.dK xs)) :=
  s.writeMu (getD_sl e (fun z => nomatch z)) rfl ea rfl (.dic n q)
theorem SA.writeF {i : Nat} {a u kvs es} (s : SA K T bx I0 H0 ρ σ I H) (e : ρ.getD i .un = .dic kvs) (ea : σ[i]? = some (some (.ref a))) (q : FrO K I u (.dict es)) : SA K T bx I0 H0 (ρ.set i (.dic es)) σ I (upd H a u) :=
  s.writeMu (getD_sl e (fun z => nomatch z)) rfl ea rfl q
/-- a thing of one's own is given up: from now on it never changes -/
theorem SA.frzMu {i : Nat} {sl : Sl} {d : PyData} (s : SA K T bx I0 H0 ρ σ I H) (e2 : ρ[i]? = some sl) (hm : mutS sl = some d) : ∃ I', SA K T bx I0 H0 (ρ.set i (.dat d)) σ I' H ∧ Sub I I' := by
  obtain ⟨a, u, e1, h0, h1, h2, q, n⟩ := (slMu hm).mp (s.sl i _ e2)
  have g := s.gw.freeze h0 h2 n
  have hl : i < ρ.length := (List.getElem?_eq_some_iff.mp e2).1
  have sb : Sub I (upd I a u) := fun b o e => by
    rw [upd_ne (fun z => by subst z; rw [h1] at e; cases e)]; exact e
  refine ⟨upd I a u, ⟨g, by simp [s.len], fun j sj e => ?_, fun j k t1 t2 c1 c2 hjk e3 e4 k1 k2 => ?_, fun j kvs ej => ?_⟩, sb⟩
  rotate_right
  · rcases set_cell ej with ⟨_, z⟩ | ⟨ne, ej⟩
    · cases z
    obtain ⟨a2, fp, e3, h4, h5, _, h7⟩ := s.dl j kvs ej
    obtain ⟨n1, n2⟩ := h5 i sl d a e2 hm e1
    obtain ⟨b, o, xs, k1, k2, k3, k4, k5, q2⟩ := h4
    refine ⟨a2, fp, e3, ⟨b, o, xs, k1, by rw [upd_ne (Ne.symm n1)]; exact k2, k3, k4, k5, q2.keep sb (fun c hc => by rw [upd_ne (show c ≠ a from fun z => n2 (z ▸ hc))]; exact (q2.at_ c hc).2.1) fun c hc => rfl⟩, fun k t c b' e4 m e5 => ?_, (fun _ h => nomatch h), fun k kvs' e4 => ?_⟩
    · rcases set_cell e4 with ⟨_, z⟩ | ⟨_, e4⟩
      · subst z; cases m
      · exact h5 k t c b' e4 m e5
    · rcases set_cell e4 with ⟨_, z⟩ | ⟨_, e4⟩
      · cases z
      · exact h7 k kvs' e4
  · by_cases hj : i = j
    · subst hj
      rw [List.getElem?_set_self hl] at e
      cases e
      exact ⟨.ref a, e1, (q.sub sb).dq upd_same⟩
    · rw [List.getElem?_set_ne hj] at e
      have z := s.sl j sj e
      have mu : ∀ c, mutS sj = some c → SlOk K bx H0 (upd I a u) H sj σ[j]? := fun c hc => by
        obtain ⟨b, ys, e3, k0, k1, k2, q2, m⟩ := (slMu hc).mp z
        refine (slMu hc).mpr ⟨b, ys, e3, k0, ?_, k2, q2.sub sb, m⟩
        rw [upd_ne (fun w => by subst w; exact s.dj i j _ _ _ _ hj e2 e hm hc (e1.trans e3.symm))]
        exact k1
      cases sj with
      | un => trivial
      | dat d => obtain ⟨v, e, z⟩ := z; exact ⟨v, e, z.sub sb⟩
      | own fs => exact mu _ rfl
      | dic fs => exact mu _ rfl
      | dol _ => trivial
      | box => exact z
  · have ne : ∀ (m : Nat) (t : Sl) (c : PyData), (ρ.set i (.dat d))[m]? = some t → mutS t = some c → i ≠ m := fun m t c e5 k5 z => by
      subst z
      rw [List.getElem?_set_self hl] at e5; cases e5; cases k5
    rw [List.getElem?_set_ne (ne _ _ _ e3 k1)] at e3
    rw [List.getElem?_set_ne (ne _ _ _ e4 k2)] at e4
    exact s.dj j k t1 t2 c1 c2 hjk e3 e4 k1 k2
/-- many things become such that never change -/
def updL (I : Hp) (H : Hp) : List Addr → Hp
  | [] => I
  | c :: fp => match H c with
    | some o => upd (updL I H fp) c o
    | none => updL I H fp
theorem updL_in {I H : Hp} : ∀ {fp : List Addr} {c : Addr}, c ∈ fp → (∀ x ∈ fp, ∃ o, H x = some o) → updL I H fp c = H c
  | b :: fp, c, hc, ha => by
    obtain ⟨o, ho⟩ := ha b List.mem_cons_self
    simp only [updL, ho]
    by_cases e : c = b
    · subst e; rw [upd_same, ho]
    · rw [upd_ne e]
      exact updL_in ((List.mem_cons.mp hc).resolve_left e) fun x hx => ha x (List.mem_cons_of_mem _ hx)
theorem updL_out {I H : Hp} : ∀ {fp : List Addr} {c : Addr}, c ∉ fp → updL I H fp c = I c
  | [], c, _ => rfl
  | b :: fp, c, hc => by
    have h1 : c ≠ b := fun z => hc (z ▸ List.mem_cons_self)
    have h2 : c ∉ fp := fun z => hc (List.mem_cons_of_mem _ z)
    cases hb : H b with
    | none => simp only [updL, hb]; exact updL_out h2
    | some o => simp only [updL, hb]; rw [upd_ne h1]; exact updL_out h2
theorem Gw.freezeL (g : Gw T bx I H I' H') : ∀ {fp : List Addr}, (∀ c ∈ fp, H c = none ∧ (∃ o, H' c = some o) ∧ c ∉ fpOf bx) → Gw T bx I H (updL I' H' fp) H'
  | [], _ => g
  | c :: fp, h => by
    obtain ⟨h1, ⟨o, h2⟩, h3⟩ := h c List.mem_cons_self
    have ih := Gw.freezeL g (fp := fp) fun x hx => h x (List.mem_cons_of_mem _ hx)
    simp only [updL, h2]
    exact ih.freeze h1 h2 h3
theorem DlNs.dq {I2 : Hp} (sb : Sub I I2) : ∀ {xs kvs fp}, DlNs K bx H0 I H xs kvs fp → (∀ c ∈ fp, I2 c = H c) → DqNs K I2 xs (lsD kvs)
  | _, _, _, .nil, _ => .nil
  | _, _, _, .cons (c := c) h1 h2 h3 h4 h5 h6 h7 h8 q, hi => .cons (h1.sub sb) h2 (v := .ref c) rfl (.lst (by rw [hi c List.mem_cons_self]; exact h5) (h6.sub sb)) (DlNs.dq sb q fun c hc => hi c (List.mem_cons_of_mem _ hc))
theorem SA.frzDl {i : Nat} {kvs : List (PyData × List PyData)} (s : SA K T bx I0 H0 ρ σ I H) (e2 : ρ[i]? = some (.dol kvs)) : ∃ I', SA K T bx I0 H0 (ρ.set i (.dat (.dict (lsD kvs)))) σ I' H ∧ Sub I I' := by
  obtain ⟨a, fp, e1, ⟨b, o, xs, k1, k2, k3, k4, k5, q⟩, h2, _, h4⟩ := s.dl i kvs e2
  have hl : i < ρ.length := (List.getElem?_eq_some_iff.mp e2).1
  have all : ∀ c ∈ a :: fp, H0 c = none ∧ (∃ o, H c = some o) ∧ c ∉ fpOf bx := fun c hc => by
    rcases List.mem_cons.mp hc with rfl | hc
    · exact ⟨k1, ⟨_, k3⟩, k4⟩
    · obtain ⟨m1, m2, ⟨ys, m3⟩, m4⟩ := q.at_ c hc
      exact ⟨m1, ⟨_, m3⟩, m4⟩
  have none_ : ∀ c ∈ a :: fp, I c = none := fun c hc => by
    rcases List.mem_cons.mp hc with rfl | hc
    · exact k2
    · exact (q.at_ c hc).2.1
  have g := s.gw.freezeL all
  have has : ∀ c ∈ a :: fp, ∃ o, H c = some o := fun c hc => (all c hc).2.1
  have sb : Sub I (updL I H (a :: fp)) := fun c o e => by
    by_cases hc : c ∈ a :: fp
    · rw [none_ c hc] at e; cases e
    · rw [updL_out hc]; exact e
  have inn : ∀ c ∈ a :: fp, updL I H (a :: fp) c = H c := fun c hc => updL_in hc has
  refine ⟨updL I H (a :: fp), ⟨g, by simp [s.len], fun j sj e => ?_, fun j k t1 t2 c1 c2 hjk e3 e4 m1 m2 => ?_, fun j kvs' ej => ?_⟩, sb⟩
  · rcases set_cell e with ⟨z1, z⟩ | ⟨ne, e⟩
    · subst z1 z
      exact ⟨.ref a, e1, .dcn (by rw [inn a List.mem_cons_self]; exact k3) (q.dq sb fun c hc => inn c (List.mem_cons_of_mem _ hc))⟩
    · have z := s.sl j sj e
      have mu : ∀ c, mutS sj = some c → SlOk K bx H0 (updL I H (a :: fp)) H sj σ[j]? := fun c hc => by
        obtain ⟨b', ys, e3, m0, m1, m2, q2, m⟩ := (slMu hc).mp z
        refine (slMu hc).mpr ⟨b', ys, e3, m0, ?_, m2, q2.sub sb, m⟩
        obtain ⟨n1, n2⟩ := h2 j sj c b' e hc e3
        rw [updL_out (fun hm => (List.mem_cons.mp hm).elim n1 n2)]
        exact m1
      cases sj with
      | un => trivial
      | dat d => obtain ⟨v, e, z⟩ := z; exact ⟨v, e, z.sub sb⟩
      | own fs => exact mu _ rfl
      | dic fs => exact mu _ rfl
      | dol _ => trivial
      | box => exact z
  · rcases set_cell e3 with ⟨_, z⟩ | ⟨_, e3⟩
    · subst z; cases m1
    rcases set_cell e4 with ⟨_, z⟩ | ⟨_, e4⟩
    · subst z; cases m2
    exact s.dj j k t1 t2 c1 c2 hjk e3 e4 m1 m2
  · rcases set_cell ej with ⟨_, z⟩ | ⟨ne, ej⟩
    · cases z
    · exact absurd (h4 j kvs' ej) (fun z => ne z.symm)
theorem SA.frz' {i : Nat} (s : SA K T bx I0 H0 ρ σ I H) : ∃ I', SA K T bx I0 H0 (match ρ.getD i .un with | .own ds => ρ.set i (.dat (.list ds)) | .dic kvs => ρ.set i (.dat (.dict kvs)) | .dol kvs => ρ.set i (.dat (.dict (lsD kvs))) | _ => ρ) σ I' H ∧ Sub I I' := by
  cases e : ρ.getD i .un with
  | dol kvs => exact s.frzDl (getD_sl e (fun z => nomatch z))
  | un => exact ⟨I, s, fun _ _ e => e⟩
  | dat d => exact ⟨I, s, fun _ _ e => e⟩
  | box => exact ⟨I, s, fun _ _ e => e⟩
  | own ds => exact s.frzMu (getD_sl e (fun z => nomatch z)) rfl
  | dic kvs => exact s.frzMu (getD_sl e (fun z => nomatch z)) rfl
/-- slots forgotten -/
theorem SA.wipe (s : SA K T bx I0 H0 ρ σ I H) : ∀ vs : List Nat, SA K T bx I0 H0 (wipeR ρ vs) (wipe σ vs) I H
  | [] => s
  | v :: vs => by
    have s' := SA.wipe s vs
    have key : ∀ (j : Nat) (sl : Sl), ((wipeR ρ vs).set v .un)[j]? = some sl → (v = j ∧ sl = .un) ∨ (v ≠ j ∧ (wipeR ρ vs)[j]? = some sl) := fun j sl e => by
      by_cases hj : v = j
      · subst hj
        by_cases hl : v < (wipeR ρ vs).length
        · rw [List.getElem?_set_self hl] at e; cases e; exact .inl ⟨rfl, rfl⟩
        · rw [List.getElem?_eq_none (by simp; omega)] at e; cases e
      · rw [List.getElem?_set_ne hj] at e; exact .inr ⟨hj, e⟩
    refine ⟨s'.gw, ?_, fun j sl e => ?_, fun j k s1 s2 d1 d2 hjk e1 e2 m1 m2 => ?_, fun j kvs ej => ?_⟩
    rotate_right
    · rcases key j _ ej with ⟨_, z⟩ | ⟨ne, ej⟩
      · cases z
      obtain ⟨a2, fp, e3, h4, h5, h6, h7⟩ := s'.dl j kvs ej
      refine ⟨a2, fp, ?_, h4, fun k t c b' e4 m e5 => ?_, h6, fun k kvs' e4 => ?_⟩
      · show ((L2.wipe σ vs).set v none)[j]? = _
        rw [List.getElem?_set_ne ne]; exact e3
      · rcases key k _ e4 with ⟨_, z⟩ | ⟨ne2, e4⟩
        · subst z; cases m
        · have e5 : ((L2.wipe σ vs).set v none)[k]? = some (some (.ref b')) := e5
          rw [List.getElem?_set_ne ne2] at e5
          exact h5 k t c b' e4 m e5
      · rcases key k _ e4 with ⟨_, z⟩ | ⟨_, e4⟩
        · cases z
        · exact h7 k kvs' e4
    · show ((wipeR ρ vs).set v .un).length = ((L2.wipe σ vs).set v none).length
      simp [s'.len]
    · rcases key j sl e with ⟨_, rfl⟩ | ⟨hj, e⟩
      · trivial
      · show SlOk K bx H0 I H sl ((L2.wipe σ vs).set v none)[j]?
        rw [List.getElem?_set_ne hj]; exact s'.sl j sl e
    · rcases key j _ e1 with ⟨_, z⟩ | ⟨hj, e1⟩
      · subst z; cases m1
      · rcases key k _ e2 with ⟨_, z⟩ | ⟨hk, e2⟩
        · subst z; cases m2
        · show ((L2.wipe σ vs).set v none)[j]? ≠ ((L2.wipe σ vs).set v none)[k]?
          rw [List.getElem?_set_ne hj, List.getElem?_set_ne hk]
          exact s'.dj j k s1 s2 d1 d2 hjk e1 e2 m1 m2
end
end Ef

end

section
set_option autoImplicit false
namespace Ef
open PySem L2

/-! ### what stands in the text -/
structure Ck where
  N : List Str
  sc : Scope
  rs : Scope
def Ck.blk (c : Ck) (scope : Scope) : Ck := ⟨c.N, relS scope c.sc, scope⟩
def okName (x : Str) : Bool := !(x == ("__debug__" : Str)) && !(x == ("__classdict__" : Str)) && !(x == ("__name__" : Str))
def visB (c : Ck) (i : Nat) (x : Str) : Bool := decide (c.N[i]? = some x) && okName x && (match c.sc.names.lookup x with
  | some .local => true
  | some .cell => true
  | some .free => true
  | _ => false)
def stoB (c : Ck) (i : Nat) (x : Str) : Bool := decide (c.N[i]? = some x) && (match c.sc.names.lookup x with
  | some .local => true
  | some .cell => decide (c.rs.names.lookup x = some .cell)
  | _ => false)
def glbB (c : Ck) (x : Str) : Bool := okName x && decide (c.sc.names.lookup x = some .globalImplicit)
def chkNs (c : Ck) : List Nat → List Expr → Bool
  | [], [] => true
  | i :: js, .Name x _ :: es => stoB c i x && chkNs c js es
  | _, _ => false
def chkTg (c : Ck) : Tg → Expr → Bool
  | .nm i, .Name x _ => stoB c i x
  | .tp js, .Tuple es _ _ => chkNs c js es
  | _, _ => false
def cstB : PyData → Const → Bool
  | .none, .none => true
  | .bool b, .bool k => b == k
  | .int i, .int j => decide (i = j)
  | .str x, .str y => decide (x = y)
  | _, _ => false
def Bf.name : Bf → String
  | .len => "len" | .abs => "abs" | .int => "int" | .bool => "bool" | .tuple => "tuple" | .list => "list" | .repr => "repr" | .all => "all" | .any => "any" | .min => "min" | .max => "max" | .sum => "sum"
def Ex.mode : Ex → Md
  | .bor _ => .bo
  | .bin _ _ _ => .fr
  | .lst _ => .fr
  | .dnw => .fr
  | .dc1 _ _ => .fr
  | .lrg _ => .fr
  | .srt _ => .fr
  | .sst _ => .fr
  | .cat _ _ => .fr
  | .srn _ => .fr
  | .ssn _ => .fr
  | .dcd _ _ => .fr
  | .dcc _ _ _ _ _ _ => .fr
  | .slc _ _ _ => .fr
  | .blt .list _ => .fr
  | .lc _ _ _ _ _ => .fr
  | .lc2 _ _ _ _ _ _ _ _ _ => .fr
  | _ => .st
def Ex.firm (e : Ex) : Bool := match e.mode with | .bo => false | _ => true
def plainE : Expr → Bool
  | .Starred _ _ => false
  | .Set _ _ _ => false
  | .Slice _ _ _ _ => false
  | .GeneratorExp _ _ _ _ => false
  | _ => true
/-- what stands ahead of a method's name -/
def baseB : Expr → Bool
  | .Name _ _ => true
  | .Subscript _ _ _ => true
  | .Call (.Name _ _) (_ :: _) [] _ => true
  | _ => false
theorem base_ok {o : Expr} (h : baseB o = true) (n : Str) (env : Env) (w : Sem Value) : attributeBase o n env w = w := by
  cases o with
  | Name => rfl
  | Subscript => rfl
  | Call f as ks p =>
    cases f with
    | Name =>
      cases as with
      | nil => simp [baseB] at h
      | cons =>
        cases ks with
        | nil => rfl
        | cons => simp [baseB] at h
    | _ => simp [baseB] at h
  | _ => simp [baseB] at h
/-- its test is its value's truth -/
def truthE : Expr → Bool
  | .UnaryOp _ _ _ => false
  | .BoolOp _ _ _ => false
  | .IfExp _ _ _ _ => false
  | .Compare _ _ _ _ => false
  | _ => true
def isRg : It → Bool
  | .rg _ => true
  | .rg2 _ _ => true
  | _ => false
def ownP (c : Ck) (own : List Nat) : List (Str × Nat) := own.map fun i => (c.N.getD i "", i)
mutual
def chkE (c : Ck) : Ex → Expr → Bool
  | .var i, .Name x _ => visB c i x
  | .bor i, .Name x _ => visB c i x
  | .cst d, .Constant k _ _ => cstB d k
  | .glb y, .Name x _ => decide (x = Str.ofString y) && glbB c x
  | .bin op a b, .BinOp x o y _ => decide (o = op) && plainE x && plainE y && chkE c a x && chkE c b y
  | .neg a, .UnaryOp .USub x _ => plainE x && chkE c a x
  | .cmp op a b, .Compare x [o] [y] _ => decide (o = op) && plainE y && chkE c a x && chkE c b y
  | .chn p q a b d, .Compare x [o1, o2] [y, z] _ => decide (o1 = p) && decide (o2 = q) && plainE y && plainE z && chkE c a x && chkE c b y && chkE c d z
  | .and a b, .BoolOp .And [x, y] _ => a.firm && b.firm && chkE c a x && chkE c b y
  | .and a b, .BoolOp .And (x :: y :: z :: r) pos => a.firm && b.firm && chkE c a x && chkE c b (.BoolOp .And (y :: z :: r) pos)
  | .or a b, .BoolOp .Or [x, y] _ => a.firm && b.firm && chkE c a x && chkE c b y
  | .or a b, .BoolOp .Or (x :: y :: z :: r) pos => a.firm && b.firm && chkE c a x && chkE c b (.BoolOp .Or (y :: z :: r) pos)
  | .not a, .UnaryOp .Not x _ => chkE c a x
  | .ite t a b, .IfExp x y z _ => a.firm && b.firm && chkT c t x && chkE c a y && chkE c b z
  | .tup es, .Tuple xs _ _ => chkEs c true es xs
  | .lst es, .List xs _ => chkEs c true es xs
  | .idx a i, .Subscript x y _ => plainE y && chkE c a x && chkE c i y
  | .slc a lo hi, .Subscript x (.Slice l u none _) _ => chkE c a x && chkO c lo l && chkO c hi u
  | .call f es, .Call (.Name g _) xs [] _ => decide (g = Str.ofString f) && glbB c g && chkAs c es xs
  | .calk f _ es .no, .Call (.Name g _) xs [] _ => decide (g = Str.ofString f) && glbB c g && !xs.isEmpty && chkAs c es xs
  | .calk f kw es (.so e), .Call (.Name g _) xs [⟨some k, x, _⟩] _ => decide (g = Str.ofString f) && glbB c g && decide (k = Str.ofString kw) && !xs.isEmpty && chkAs c es xs && plainE x && e.firm && chkE c e x
  | .dnw, .Dict [] [] _ => true
  | .dc1 k i, .Dict [some (.Constant (.str x) n1 _)] [.Constant (.int j) n2 _] _ => decide (x = Str.ofString k) && decide (j = i) && decide (n1 = 0) && decide (n2 = 0)
  | .rev a, .Subscript x (.Slice none none (some (.UnaryOp .USub (.Constant (.int j) n1 _) _)) _) _ => decide (j = 1) && decide (n1 = 0) && chkE c a x
  | .lrg it, .Call (.Name g _) [x] [] _ => decide (g = Str.ofString "list") && glbB c g && isRg it && chkI c it x x
  | .srt a, .Call (.Name g _) [x] [] _ => decide (g = Str.ofString "sorted") && glbB c g && plainE x && chkE c a x
  | .sst a, .Call (.Name g _) [.Call (.Name f _) [x] [] _] [] _ => decide (g = Str.ofString "sorted") && glbB c g && decide (f = Str.ofString "set") && glbB c f && plainE x && chkE c a x
  | .cat a b, .List [.Starred x _, .Starred y _] _ => chkE c a x && chkE c b y
  | .srn a, .Call (.Name g _) [x] [] _ => decide (g = Str.ofString "sorted") && glbB c g && plainE x && chkE c a x
  | .ssn a, .Call (.Name g _) [.Call (.Name f _) [x] [] _] [] _ => decide (g = Str.ofString "sorted") && glbB c g && decide (f = Str.ofString "set") && glbB c f && plainE x && chkE c a x
  | .get a k (.cst .none), .Call (.Attribute o n p) [y] [] q => decide (n = "get") && decide (p.endLine = q.line) && plainE y && plainE o && baseB o && chkE c a o && chkE c k y
  | .get a k x, .Call (.Attribute o n p) [y, z] [] q => decide (n = "get") && decide (p.endLine = q.line) && plainE y && plainE z && plainE o && baseB o && x.firm && chkE c a o && chkE c k y && chkE c x z
  | .trg it, .Call (.Name g _) [x] [] _ => decide (g = Str.ofString "tuple") && glbB c g && isRg it && chkI c it x x
  | .lix a x, .Call (.Attribute o n p) [y] [] q => decide (n = "index") && decide (p.endLine = q.line) && plainE y && plainE o && baseB o && chkE c a o && chkE c x y
  | .cou a x, .Call (.Attribute o n p) [y] [] q => decide (n = "count") && decide (p.endLine = q.line) && plainE y && plainE o && baseB o && chkE c a o && chkE c x y
  | .bcl f es, .Call (.Name g _) xs [] _ => decide (g = Str.ofString f) && glbB c g && !xs.isEmpty && chkEs c false es xs
  | .mxd a, .Call (.Name g _) [x] [⟨some k, .Constant (.int j) n1 _, _⟩] _ => decide (g = Str.ofString "max") && glbB c g && decide (k = Str.ofString "default") && decide (j = 0) && decide (n1 = 0) && plainE x && chkE c a x
  | .mxl a, .Call (.Name g _) [x] [] _ => decide (g = Str.ofString "max") && glbB c g && plainE x && chkE c a x
  | .mnl a, .Call (.Name g _) [x] [] _ => decide (g = Str.ofString "min") && glbB c g && plainE x && chkE c a x
  | .tus a b, .Tuple [x, .Starred y _] _ _ => a.firm && plainE x && chkE c a x && chkE c b y
  | .dcd k v, .Dict [some x] [y] _ => k.firm && v.firm && plainE x && plainE y && chkE c k x && chkE c v y
  | .dcc k v tg it cd own, .DictComp x y [⟨t, i, ifs, kk⟩] scope _ => decide (kk = 0) && chkI c it t i && blkC c.N c.sc scope (ownP c own) && chkTg (c.blk scope) tg t && ownT tg own && chkC (c.blk scope) cd ifs && k.firm && v.firm && chkE (c.blk scope) k x && chkE (c.blk scope) v y
  | .blt f es, .Call (.Name g _) xs [] _ => decide (g = Str.ofString f.name) && glbB c g && !xs.isEmpty && chkEs c false es xs
  | .isi a t, .Call (.Name g _) [x, .Name y _] [] _ => decide (g = Str.ofString "isinstance") && glbB c g && decide (y = Str.ofString t) && glbB c y && (t == "int" || t == "bool" || t == "tuple" || t == "str" || t == "list" || t == "dict") && plainE x && chkE c a x
  | .lc el tg it cd own, .ListComp x [⟨t, i, ifs, k⟩] scope _ => decide (k = 0) && chkI c it t i && blkC c.N c.sc scope (ownP c own) && chkTg (c.blk scope) tg t && ownT tg own && chkC (c.blk scope) cd ifs && el.firm && chkE (c.blk scope) el x
  | .lc2 el tg it cd tg2 it2 cd2 own own2, .ListComp x [⟨t, i, ifs, k⟩, ⟨t2, i2, ifs2, k2⟩] scope _ => decide (k = 0) && decide (k2 = 0) && chkI c it t i && blkC c.N c.sc scope (ownP c own) && chkTg (c.blk scope) tg t && ownT tg own && chkC (c.blk scope) cd ifs &&
      chkI (c.blk scope) it2 t2 i2 && chkTg (c.blk scope) tg2 t2 && ownT tg2 own2 && chkC (c.blk scope) cd2 ifs2 && (own2.all fun i => own.contains i) && el.firm && chkE (c.blk scope) el x
  | _, _ => false
def chkEs (c : Ck) (firm : Bool) : Exs → List Expr → Bool
  | .nil, [] => true
  | .cons e es, x :: xs => plainE x && (!firm || e.firm) && chkE c e x && chkEs c firm es xs
  | _, _ => false
def chkAs (c : Ck) : Exs → List Expr → Bool
  | .nil, [] => true
  | .cons e es, x :: xs => plainE x && e.firm && chkE c e x && chkAs c es xs
  | _, _ => false
def chkO (c : Ck) : Ox → Option Expr → Bool
  | .no, none => true
  | .so e, some x => chkE c e x
  | _, _ => false
def chkC (c : Ck) : Ox → List Expr → Bool
  | .no, [] => true
  | .so e, [x] => chkT c e x
  | _, _ => false
def chkI (c : Ck) : It → Expr → Expr → Bool
  | .sq e, _, x => plainE x && e.firm && chkE c e x
  | .rg a, _, .Call (.Name g _) [x] [] _ => decide (g = Str.ofString "range") && glbB c g && plainE x && chkE c a x
  | .rg2 a b, _, .Call (.Name g _) [x, y] [] _ => decide (g = Str.ofString "range") && glbB c g && plainE x && plainE y && chkE c a x && chkE c b y
  | .en a, .Tuple _ _ _, .Call (.Name g _) [x] [] _ => decide (g = Str.ofString "enumerate") && glbB c g && plainE x && a.firm && chkE c a x
  | .di a, .Tuple _ _ _, .Call (.Attribute o n p) [] [] q => decide (n = "items") && decide (p.endLine = q.line) && plainE o && baseB o && a.firm && chkE c a o
  | .zp a b, .Tuple _ _ _, .Call (.Name g _) [x, y] [] _ => decide (g = Str.ofString "zip") && glbB c g && plainE x && plainE y && a.firm && b.firm && chkE c a x && chkE c b y
  | .zm a b, .Tuple _ _ _, .Call (.Name g _) [x, y] [] _ => decide (g = Str.ofString "zip") && glbB c g && plainE x && plainE y && a.firm && b.firm && chkE c a x && chkE c b y
  | _, _, _ => false
def chkT (c : Ck) : Ex → Expr → Bool
  | .and a b, .BoolOp .And [x, y] _ => chkT c a x && chkT c b y
  | .and a b, .BoolOp .And (x :: y :: z :: r) pos => chkT c a x && chkT c b (.BoolOp .And (y :: z :: r) pos)
  | .or a b, .BoolOp .Or [x, y] _ => chkT c a x && chkT c b y
  | .or a b, .BoolOp .Or (x :: y :: z :: r) pos => chkT c a x && chkT c b (.BoolOp .Or (y :: z :: r) pos)
  | .not a, .UnaryOp .Not x _ => chkT c a x
  | .cmp op a b, .Compare x [o] [y] _ => decide (o = op) && plainE y && chkE c a x && chkE c b y
  | .chn p q a b d, .Compare x [o1, o2] [y, z] _ => decide (o1 = p) && decide (o2 = q) && plainE y && plainE z && chkE c a x && chkE c b y && chkE c d z
  | .var i, .Name x _ => visB c i x
  | .call f es, .Call (.Name g _) xs [] _ => decide (g = Str.ofString f) && glbB c g && chkAs c es xs
  | .blt f es, .Call (.Name g _) xs [] _ => decide (g = Str.ofString f.name) && glbB c g && !xs.isEmpty && chkEs c false es xs
  | .isi a t, .Call (.Name g _) [x, .Name y _] [] _ => decide (g = Str.ofString "isinstance") && glbB c g && decide (y = Str.ofString t) && glbB c y && (t == "int" || t == "bool" || t == "tuple" || t == "str" || t == "list" || t == "dict") && plainE x && chkE c a x
  | .idx a i, .Subscript x y _ => plainE y && chkE c a x && chkE c i y
  | _, _ => false
/-- a target's places are among the block's own -/
def ownT : Tg → List Nat → Bool
  | .nm i, own => own.contains i
  | .tp js, own => js.all fun i => own.contains i
end
end Ef

end

section
set_option autoImplicit false
namespace Ef
open PySem L2 PySem.Spec PyProof.Rows
/-! ### sorted(t), sorted(set(l)): ints -/
section
variable {P : Program} {w : World} {A : Around} {E : Value → Shared → Prop} {s : Shared}
theorem collect_tup {t : Addr} {vs : List Value} {Q : List Value → Shared → Prop} (ht : s.heap.IsTuple t vs.toArray) (hz : vs.length ≤ sizeLine)
    (q : ∀ h', (∀ b o, s.heap.get? b = some o → h'.get? b = some o) → s.heap.objs.size ≤ h'.objs.size → Q vs { s with heap := h' }) : wpAny (model P w) A (collect (.ref t)) Q E s := by
  obtain ⟨ob, e0, ec, nn, ed⟩ := id ht
  have e1 : (s.heap.push (seqObj "list" #[] 0)).get? t = some ob := Heap.get?_push_of_some _ e0
  have en : (s.heap.push (seqObj "list" #[] 0)).get? s.heap.objs.size = some (seqObj "list" #[] 0) := Heap.get?_push_size _ rfl
  unfold collect
  refine wpAny_bind (wpAny_runValue (codeAny_builtin entry_proto_collect' ?_))
  show wpAny _ _ (newList [] >>= fun r => again (.builtin "list.__iadd__" ⟨[r, .ref t], []⟩)) _ _ s
  refine wpAny_bind (wpAny_newList (wpAny_pure ⟨Code.quiet_builtin _ (by decide +kernel), codeAny_builtin entry_list_iadd' ?_⟩))
  show wpAny _ _ (Builtin.List.listExtendWith (.ref s.heap.objs.size) (.ref t) (.ref s.heap.objs.size)) _ _ _
  unfold Builtin.List.listExtendWith
  refine wpAny_bind (wpAny_typeOf (T := "tuple") ⟨ob, e1, ec⟩ ?_)
  have tt : (Value.type "tuple" == Value.type "tuple") = true := rfl
  rw [if_pos (by rw [tt]; simp)]
  refine wpAny_bind (listItems_at e1 ed (wpAny_bind (listItems_at (xs := #[]) (n := 0) en rfl ?_)))
  rw [if_neg (by simp)]
  refine wpAny_bind (listUpdate_at (xs := #[]) (n := 0) en rfl (wpAny_pure ?_) (Nat.zero_le _) ?_)
  · show wpAny (model P w) A (load s.heap.objs.size >>= fun o => match o.data with
        | .seq xs _ => pure xs.toList
        | _ => unsupported "internal:collect") Q E _
    refine wpAny_bind (wpAny_load (get?_update_seq en _) ?_)
    show wpAny _ _ (pure ((#[] : Array Value) ++ vs.toArray).toList) Q E _
    rw [show ((#[] : Array Value) ++ vs.toArray).toList = vs by simp]
    refine wpAny_pure (q _ (fun b o e => ?_) ?_)
    · rw [Heap.get?_update_ne _ _ _ _ (Nat.ne_of_lt (Heap.lt_size e))]
      exact Heap.get?_push_of_some _ e
    · rw [Heap.size_update, Heap.size_push]
      exact Nat.le_succ _
  · show (#[] ++ vs.toArray).size ≤ sizeLine + 1
    simp only [Array.size_append, List.size_toArray, List.length_nil]
    omega
/-- sorted(t), a tuple of ints -/
theorem sorted_tup {t : Addr} {vs : List Value} {ns : List Int} {Q : Value → Shared → Prop} (ht : s.heap.IsTuple t vs.toArray) (hI : IntsAre vs ns) (hz : vs.length ≤ sizeLine)
    (q : ∀ h' p c (out : List Value) (ms : List Int), (∀ b o, s.heap.get? b = some o → h'.get? b = some o) → s.heap.objs.size ≤ p → h'.get? p = some (seqObj "list" out.toArray c) → IntsAre out ms → ms.Perm ns → ms.Pairwise (· ≤ ·) → Q (.ref p) { s with heap := h' }) :
    wpAny (model P w) A (call (.builtin "sorted") [.ref t]) Q E s := by
  refine Calls.call_function_entry kind_sorted plain_sorted entry_sorted (args_sorted1 _) ?_
  unfold Builtin.«sorted»
  refine wpAny_bind (m := checkCount "sorted" 1 1 _) (wpAny_pure ?_)
  refine wpAny_bind (collect_tup ht hz fun h1 k1 z1 => wpAny_bind (wpAny_newList ?_ hz))
  have en : (h1.push (seqObj "list" vs.toArray 0)).get? h1.objs.size = some (seqObj "list" vs.toArray 0) := Heap.get?_push_size _ rfl
  refine wpAny_bind (wpAny_holding (wpAny_call_entry slot_list_sort ⟨_, en, rfl⟩ entry_list_sort (SrtO.list_sort_ord SrtO.swo_int en hz (fun h2 => SrtO.ints_sortable hI h2) fun out b1 b2 => ⟨_, rfl, ?_⟩) (args_list_sort _)))
  obtain ⟨i1, i2, i3⟩ := SrtO.ints_out hI b1 b2
  obtain ⟨c, ec⟩ := sortedHeap_at (vs := vs) (out := out.toArray) en
  refine wpAny_pure ⟨_, rfl, q _ _ c out _ (fun b o e => ?_) z1 ec i1 i2 i3⟩
  have e1 := k1 b o e
  have lt := Heap.lt_size e1
  rw [sortedHeap_old (Nat.ne_of_lt lt) (by rw [size_push']; exact Nat.lt_succ_of_lt lt)]
  exact Heap.get?_push_of_some _ e1
end
end Ef

end

section
set_option autoImplicit false
namespace Ef
open PySem L2 PySem.Spec PyProof.Rows
/-- a fresh set -/
abbrev freshS (w : World) : Obj := { cls := .type "set", dict := none, data := .set #[] 0 (.fresh 0 0 (!w.params.followText "set-order")) }
section
variable {P : Program} {w : World} {A : Around} {E : Value → Shared → Prop} {s : Shared}
/-- set(l), a list of ints -/
theorem call_set_lst {l : Addr} {its : Array Value} (ns : List Int) {Q : Value → Shared → Prop} (hh : A.handled = none) (hl : s.heap.IsList l its) (hi : IntsAre its.toList ns) (hb : ns.length + 1 < scanBound)
    (q : ∀ (h' : Heap) (tk c : Nat), SetR w h' s.heap.objs.size (fun j => decide (j ∈ ns)) c → c ≤ ns.length → (∀ b o, s.heap.get? b = some o → h'.get? b = some o) → Q (.ref s.heap.objs.size) { s with heap := h', toks := tk }) : wpAny (model P w) A (call (.type "set") [.ref l]) Q E s := by
  have len : its.size = ns.length := by simpa using IntsAre.length hi
  obtain ⟨c0, tl, hmro⟩ := F.called_set.mro
  have hmade := F.called_set.made
  have hsub := F.called_set.sub
  have hnt := F.called_set.notType
  have hcc := F.called_set.canCreate
  have htc := F.typeCall_set_1 (.ref l)
  refine wpAny_call (codeAny_of_tree ?_)
  show wpAny _ _ (callAny (.type "set") _) _ _ _
  refine wpAny_pure ⟨Code.quiet_builtin _ (by decide +kernel), codeAny_builtin F.entry_type_call ?_⟩
  rw [Around.under_plain (weight_type_call_type "set" [.ref l] []) rfl]
  repeat (any_goals (first | assumption | wp_step))
  refine codeAny_mono (code_set_led1 (.ref l) (E := E) (Q₁ := fun v z => v = .ref s.heap.objs.size ∧ z = { s with heap := s.heap.push (freshS w) }) ⟨rfl, rfl⟩) fun r s1 hr => ?_
  cases r with
  | error e => exact hr
  | ok fl =>
    cases fl with
    | next => exact hr.elim
    | brk => exact hr.elim
    | cont => exact hr.elim
    | ret v =>
      obtain ⟨rfl, rfl⟩ := hr
      have gS : (s.heap.push (freshS w)).get? s.heap.objs.size = some (freshS w) := Heap.get?_push_size _ rfl
      have hT : Shared.TypeIs { s with heap := s.heap.push (freshS w) } (.ref s.heap.objs.size) "set" := ⟨_, gS, rfl⟩
      have hli := F.called_set.init.lookup
      have hbi := F.called_set.init.bind (.ref s.heap.objs.size)
      repeat (any_goals (first | assumption | wp_step))
      refine codeAny_mono (codeAny_call_builtin (R := wants (fun v z => v = .none ∧ ∃ h' tk c, z = { s with heap := h', toks := tk } ∧ SetR w h' s.heap.objs.size (fun j => decide (j ∈ ns)) c ∧ c ≤ ns.length ∧ (∀ b o, s.heap.get? b = some o → h'.get? b = some o)) E) F.called_set.init.plain F.entry_set_init (check_set_init_1 hT ?_)) fun r2 s2 hr2 => ?_
      · obtain ⟨⟨oc, od, odt, osl⟩, gl, ec, nl, ed⟩ := id hl
        simp only at ec ed
        subst ec ed
        have gl1 : (s.heap.push (freshS w)).get? l = some ⟨.type "list", od, .seq its nl, osl⟩ := Heap.get?_push_of_some _ gl
        have f1 := F.sub_list_set
        have f2 := F.sub_list_frozenset
        have f3 : (Value.type "list" == Value.type "dict") = false := by decide
        have hl1 : (s.heap.push (freshS w)).IsList l its := ⟨_, gl1, rfl, nl, rfl⟩
        have lS : l < s.heap.objs.size := Heap.lt_size gl
        have sz : (s.heap.push (freshS w)).objs.size = s.heap.objs.size + 1 := Heap.size_push ..
        unfold Builtin.«set.__init__» noKeywords Builtin.Frozenset.updateFrom
        generalize hPI : pyIter = PI
        wp_walk
        subst hPI
        refine wpAny_pyIter_list hl1 (wpAny_bind (wpAny_runValue ?_))
        have ne1 : l ≠ (s.heap.push (freshS w)).objs.size := by rw [sz]; exact Nat.ne_of_lt (Nat.lt_succ_of_lt lS)
        have nf1 : s.heap.objs.size ∉ [(s.heap.push (freshS w)).objs.size, l] := by
          rw [sz]
          simp only [List.mem_cons, List.not_mem_nil, or_false, not_or]
          exact ⟨Nat.ne_of_lt (Nat.lt_succ_self _), Nat.ne_of_gt lS⟩
        have vals : ∀ (i : Nat) (v : Value), its[i]? = some v → ∃ k t, ns[i]? = some k ∧ v = .int k t := fun i v hv => by
          have lt : i < ns.length := by rw [← len]; exact (Array.getElem?_eq_some_iff.mp hv).1
          obtain ⟨t, e⟩ := IntsAre.int_at hi i v (by rw [Array.getElem?_toList]; exact hv)
          exact ⟨ns[i], t, List.getElem?_eq_getElem lt, by rw [e, List.getD_eq_getElem?_getD, List.getElem?_eq_getElem lt]; rfl⟩
        refine set_update_ints ((Walks.list (by simp [hh]) _ l ne1 its).toS) s.heap.objs.size nf1 ns len hb vals (its.size - 0) 0 _ (by omega) (Nat.zero_le _) ⟨⟨_, Heap.get?_push_size _ rfl, rfl, rfl⟩, hl1.push _⟩ ⟨0, Nat.le_refl 0, setR_new_at (Heap.get?_push_of_some _ gS)⟩ ?_
        rintro ⟨h', g', d', tk', os'⟩ c mv hc hS
        have eg : g' = s.gens := mv.gens
        have ed : d' = s.drawn := mv.drawn
        have eo : os' = s.os := mv.os
        subst eg ed eo
        show wpAny _ _ _ _ _ _
        refine wpAny_pure ?_
        show wpAny _ _ (ret Value.none) _ _ _
        refine wpAny_pure ⟨rfl, h', tk', c, rfl, hS, by rw [← len]; exact hc, fun b o e => ?_⟩
        have lb : b < s.heap.objs.size := Heap.lt_size e
        refine mv.heap b o ?_ (Heap.get?_push_of_some _ (Heap.get?_push_of_some _ e))
        rw [sz]
        simp only [List.mem_cons, List.not_mem_nil, or_false, not_or]
        exact ⟨Nat.ne_of_lt lb, Nat.ne_of_lt (Nat.lt_succ_of_lt lb)⟩
      · cases r2 with
        | error e => exact hr2
        | ok fl2 =>
          cases fl2 with
          | ret v2 =>
            obtain ⟨rfl, h', tk, c, rfl, hS, hc, hk⟩ := hr2
            repeat (any_goals (first | assumption | wp_step))
            exact q _ _ _ hS hc hk
          | _ => exact hr2.elim
end
end Ef

end

section
set_option autoImplicit false
namespace Ef
open PySem L2 PySem.Spec PyProof.Rows
/-- sorted(e), ints, a list or a tuple -/
def rSrt (K : PySem.W.Frag) : List V → Hp → VK → Prop := fun vs H Q => ∃ (a : Addr) (ns : List Int), vs = [.ref a] ∧ (SqL K H a (ns.map V.int) ∨ SqT K H a (ns.map V.int)) ∧ ∀ (ms : List Int) (p : Addr), ms.Perm ns → ms.Pairwise (· ≤ ·) → H p = none → Q (.ref p) (upd H p (.lst (ms.map V.int)))
section
variable {X : Cx}
theorem isT_of {h : Heap} {a : Addr} {its : Array Value} (x : IsTup h a its) : h.IsTuple a its := by
  obtain ⟨o, e, c, n, d⟩ := x
  exact ⟨o, e, c, n, d⟩
theorem cr_srt : CallR X (.builtin "sorted") (rSrt X.K) := by
  intro pins s σ H vs us Q I r h
  obtain ⟨a, ns, rfl, hs | hs, q⟩ := h
  · exact cr_sortedI pins s σ H [.ref a] us Q I r ⟨a, ns, rfl, hs, fun ms p h1 h2 h3 => q ms p h1 h2 h3⟩
  · obtain ⟨its, rv, ht, hz⟩ := I.tuple hs
    rw [Vals.ref1 r]
    refine sorted_tup (isT_of ht) rv.ints (by rw [← rv.length]; exact hz) fun h' p c out ms k hp hg hi pm pw => ?_
    have hl : (ms.map V.int).length ≤ sizeLine := by
      rw [List.length_map, pm.length_eq]
      rw [List.length_map] at hz
      exact hz
    exact ⟨.ref p, upd H p (.lst (ms.map V.int)), I.laid (o := .lst (ms.map V.int)) (t' := s.toks) k hp ⟨hl, out, c, vals_of_ints hi, hg⟩, rfl, q ms p pm pw (I.hok.fresh hp)⟩
def tSst (K : PySem.W.Frag) (te : TE) : TE := fun σ H Q => te σ H fun x H1 => ∃ (a : Addr) (ns : List Int), x = .ref a ∧ (SqL K H1 a (ns.map V.int) ∨ SqT K H1 a (ns.map V.int)) ∧ ns.length < 64 ∧ ∀ (ms : List Int) (p : Addr), ms.Pairwise (· < ·) → (∀ k, k ∈ ms ↔ k ∈ ns) → H1 p = none → Q (.ref p) (upd H1 p (.lst (ms.map V.int)))
/-- sorted(set(e)), ints, a list or a tuple -/
theorem pe_sst {e : Expr} {te : TE} {p1 p2 p3 p4 : Pos} (hc : X.calm = true) (g1 : Gl X "sorted") (m1 : X.mg "sorted" = none) (g2 : Gl X "set") (m2 : X.mg "set" = none) (he : PE X e te) (st : starEach [e] X.env = (false, eval e X.env) :: starEach [] X.env) : PE X (.Call (.Name "sorted" p1) [.Call (.Name "set" p2) [e] [] p3] [] p4) (tSst X.K te) := by
  refine ⟨fun pins s σ H Q I h => ?_⟩
  refine Call_ (ld_blt I g1 m1 boot_sorted (callWith_builtin1 (args_cons ?_ rfl) rfl rfl))
  refine Call_ (ld_blt I g2 m2 boot_set (callWith_type1 (args_cons (thn (he.run pins s σ H _ I h) fun v s1 ⟨x, H1, I1, r1, q1⟩ => args_nil ?_) st) st rfl))
  obtain ⟨a, ns, rfl, hq, h64, q⟩ := q1
  cases r1
  have fin : ∀ (h' : Heap) (tk c : Nat), SetR X.w h' s1.heap.objs.size (fun j => decide (j ∈ ns)) c → c ≤ ns.length → (∀ b o, s1.heap.get? b = some o → h'.get? b = some o) → wpAny (model X.prog X.w) X.A (call (.builtin "sorted") [.ref s1.heap.objs.size]) (EP X pins σ Q) X.xe { s1 with heap := h', toks := tk } := by
    intro h' tk c R hcn kp
    have I2 : Inv X pins σ H1 { s1 with heap := h', toks := tk } := I1.kept kp
    refine sorted_set R (I2.ok.hd hc) (by omega) fun s3 p out c3 ms k3 e1 e2 hp hg hi hs hm hl => ?_
    have hlen : (ms.map V.int).length ≤ sizeLine := by rw [List.length_map, hl, sizeLine_eq]; omega
    have hn : H1 p = none := I2.hok.fresh hp
    have J : Inv X pins σ (upd H1 p (.lst (ms.map V.int))) { ({ s1 with heap := h', toks := tk } : Shared) with heap := s3.heap, gens := s3.gens, drawn := s3.drawn, toks := s3.toks } :=
      I2.call (ch := []) (Un.laid k3 hp hn) (I2.hok.laid k3 hp ⟨hlen, out.toList, c3, vals_of_ints hi, hg⟩) (by rw [e1]; exact I2.bare) (fun _ z => nomatch z)
    have e : s3 = { s1 with heap := s3.heap, gens := s3.gens, drawn := s3.drawn, toks := s3.toks } := by
      cases s3
      cases s1
      cases e2
      rfl
    rw [e]
    exact ⟨.ref p, _, J, rfl, q ms p hs (fun k => by rw [hm k, decide_eq_true_eq]) hn⟩
  rcases hq with hq | hq
  · obtain ⟨its, rv, pl, hz⟩ := I1.list hq
    exact call_set_lst ns (I1.ok.hd hc) pl.isList (by simpa using rv.ints) (by unfold scanBound; omega) fun h' tk c R hcn kp => args_nil (fin h' tk c R hcn kp)
  · obtain ⟨its, rv, pl, hz⟩ := I1.tuple hq
    exact call_set_tupI ns (I1.ok.hd hc) (isT_of pl) (by simpa using rv.ints) (by unfold scanBound; omega) fun h' tk c R hcn kp => args_nil (fin h' tk c R hcn kp)
end
end Ef

end

section
set_option autoImplicit false
namespace Ef
open PySem L2 PySem.Spec PyProof.Rows
/-! ### dicts whose keys are tuples -/
section
variable {X : Cx} {pins : List (Addr × Obj)} {σ : L2.St} {H : Hp} {s : Shared}
mutual
theorem nested_of (I : Inv X pins σ H s) : ∀ (d : PyData) (v : V) (u : Value), okN d = true → Dq X.K H v d → RelV v u → NestedIs s.heap (nk d) u
  | .none, v, u, _, h, r => by
    cases h
    obtain rfl : u = .none := r
    exact .none
  | .int i, v, u, _, h, r => by
    cases h
    obtain ⟨t, rfl⟩ := r
    exact .int i t
  | .tuple ds, v, u, ok, h, r => by
    cases h with
    | tup hq q =>
      cases r
      obtain ⟨its, rv, pl, hz⟩ := I.tuple hq.sq
      obtain ⟨o, e, c, n, dd⟩ := pl
      exact .tup e c dd (nested_all I ds _ its (by simpa [okN] using ok) q rv)
  | .bool _, _, _, ok, _, _ => by simp [okN] at ok
  | .str _, _, _, ok, _, _ => by simp [okN] at ok
  | .list _, _, _, ok, _, _ => by simp [okN] at ok
  | .dict _, _, _, ok, _, _ => by simp [okN] at ok
theorem nested_all (I : Inv X pins σ H s) : ∀ (ds : List PyData) (vs : List V) (us : List Value), okNs ds = true → DqAll X.K H vs ds → Vals vs us → NestedAll s.heap (nks ds) us
  | [], _, _, _, h, r => by
    cases h
    cases r
    exact .nil
  | d :: ds, _, _, ok, h, r => by
    cases h with
    | cons h1 h2 =>
      cases r with
      | cons r1 r2 =>
        simp only [okNs, Bool.and_eq_true] at ok
        exact .cons (nested_of I d _ _ ok.1 h1 r1) (nested_all I ds _ _ ok.2 h2 r2)
end
mutual
theorem reads_of (I : Inv X pins σ H s) : ∀ (d : PyData) (v : V) (u : Value), okN d = true → Dq X.K H v d → RelV v u → ∃ as, Reads s.heap u d as
  | .none, v, u, _, h, r => by
    cases h
    obtain rfl : u = .none := r
    exact ⟨_, .none⟩
  | .int i, v, u, _, h, r => by
    cases h
    obtain ⟨t, rfl⟩ := r
    exact ⟨_, .int i t⟩
  | .tuple ds, v, u, ok, h, r => by
    cases h with
    | tup hq q =>
      cases r
      obtain ⟨its, rv, pl, hz⟩ := I.tuple hq.sq
      obtain ⟨o, e, c, n, dd⟩ := pl
      obtain ⟨as, ra⟩ := reads_all I ds _ its (by simpa [okN] using ok) q rv
      exact ⟨_, .tuple e c dd (by simpa using ra)⟩
  | .bool _, _, _, ok, _, _ => by simp [okN] at ok
  | .str _, _, _, ok, _, _ => by simp [okN] at ok
  | .list _, _, _, ok, _, _ => by simp [okN] at ok
  | .dict _, _, _, ok, _, _ => by simp [okN] at ok
theorem reads_all (I : Inv X pins σ H s) : ∀ (ds : List PyData) (vs : List V) (us : List Value), okNs ds = true → DqAll X.K H vs ds → Vals vs us → ∃ as, ReadsAll s.heap us ds as
  | [], _, _, _, h, r => by
    cases h
    cases r
    exact ⟨_, .nil⟩
  | d :: ds, _, _, ok, h, r => by
    cases h with
    | cons h1 h2 =>
      cases r with
      | cons r1 r2 =>
        simp only [okNs, Bool.and_eq_true] at ok
        obtain ⟨as, ra⟩ := reads_of I d _ _ ok.1 h1 r1
        obtain ⟨bs, rb⟩ := reads_all I ds _ _ ok.2 h2 r2
        exact ⟨_, .cons ra rb⟩
end
theorem key_is (I : Inv X pins σ H s) {d : PyData} {b : Addr} (hk : keyN d = true) (h : Dq X.K H (.ref b) d) : (nestedKind X.prog X.w).is s.heap (nk d) b :=
  ⟨nested_of I d _ _ (keyN_ok hk).1 h rfl, Nat.le_trans (nk_depth d) (keyN_ok hk).2⟩
theorem DqNs.length {K : PySem.W.Frag} {I : Hp} : ∀ {xs kvs}, DqNs K I xs kvs → xs.length = kvs.length
  | _, _, .nil => rfl
  | _, _, .cons _ _ _ _ q => by simp [DqNs.length q]
theorem DqNs.is (I : Inv X pins σ H s) : ∀ {xs kvs}, DqNs X.K H xs kvs → ∀ x ∈ xs, (nestedKind X.prog X.w).is s.heap x.1 x.2.1
  | _, _, .nil, x, h => by cases h
  | _, _, .cons h hk _ _ q, x, hx => by
    rcases List.mem_cons.mp hx with rfl | hx
    · exact key_is I hk h
    · exact DqNs.is I q x hx
theorem DqNs.ent {K : PySem.W.Frag} {I : Hp} (P : Program) (w : World) : ∀ {xs kvs}, DqNs K I xs kvs → xs.map (entryOfKey (nestedKind P w)) = xs.map ent0
  | _, _, .nil => rfl
  | _, _, .cons (k := k) h hk _ _ q => by
    rw [List.map_cons, List.map_cons, DqNs.ent P w q]
    congr 1
    show (⟨(nk k).hash w, _, _⟩ : DictEntry) = ⟨nhash (nk k), _, _⟩
    rw [nhash_eq w k (keyN_ok hk).1]
theorem dn_at {a b : Addr} {o : Obj} {xs kvs} (I : Inv X pins σ H s) (h : H a = some (DnO b o xs)) (q : DqNs X.K H xs kvs) : b = a ∧ s.heap.get? a = some o ∧ (a == sysModules) = false ∧ DnObj o xs ∧ s.heap.DictOfH (nestedKind X.prog X.w) a xs := by
  obtain ⟨h1, h2, h3, h4⟩ := dnO_of (I.hok a _ h)
  refine ⟨h1, h2, h3, h4, ?_⟩
  obtain ⟨ex, ⟨es, ep, hd, he⟩, nd, _⟩ := h4
  exact ⟨o, es, ep, h2, ex, hd, by rw [q.ent]; exact he, q.is I, nd⟩
theorem DqNs.look {K : PySem.W.Frag} {I : Hp} {k : PyData} (hk : keyN k = true) : ∀ {xs kvs}, DqNs K I xs kvs → (lookD kvs k = none ∧ atKey xs (nk k) = none) ∨ ∃ b u v d, lookD kvs k = some d ∧ atKey xs (nk k) = some (b, u) ∧ RelV v u ∧ Dq K I v d
  | _, _, .nil => .inl ⟨rfl, rfl⟩
  | _, _, .cons (b := b) (u := u) (v := v) (k := j) (d := d) (xs := xs) (kvs := kvs) h hj r hv q => by
    have e : keyEq j k = decide (nk j = nk k) := by
      rw [nk_eq hj hk]
      cases j <;> simp [keyN] at hj
      cases k <;> simp [keyN] at hk
      simp [keyEq, PyData.eqv]
    by_cases e2 : nk j = nk k
    · refine .inr ⟨b, u, v, d, ?_, ?_, r, hv⟩
      · simp [lookD, e, e2]
      · simp [atKey, e2]
    · have e1 : lookD ((j, d) :: kvs) k = lookD kvs k := by simp [lookD, e, e2]
      have e3 : atKey ((nk j, b, u) :: xs) (nk k) = atKey xs (nk k) := by simp [atKey, e2]
      rw [e1, e3]
      exact DqNs.look hk q
theorem key_eq {j k : PyData} (hj : keyN j = true) (hk : keyN k = true) : keyEq j k = decide (nk j = nk k) := by
  rw [nk_eq hj hk]
  cases j <;> simp [keyN] at hj
  cases k <;> simp [keyN] at hk
  simp [keyEq, PyData.eqv]
theorem DqNs.any {K : PySem.W.Frag} {I : Hp} {k : PyData} (hk : keyN k = true) : ∀ {xs kvs}, DqNs K I xs kvs → (kvs.any fun p => keyEq p.1 k) = (atKey xs (nk k)).isSome
  | _, _, .nil => rfl
  | _, _, .cons (k := j) h hj _ _ q => by
    have ih := DqNs.any hk q
    by_cases e2 : nk j = nk k
    · simp [atKey, key_eq hj hk, e2]
    · simp only [List.any_cons, key_eq hj hk, e2, decide_false, Bool.false_or, ih]
      simp [atKey, e2]
theorem DqNs.app {K : PySem.W.Frag} {I : Hp} {k : PyData} {b : Addr} {u : Value} {v : V} {d : PyData} (hk : keyN k = true) (hb : Dq K I (.ref b) k) (r : RelV v u) (h : Dq K I v d) : ∀ {xs kvs}, DqNs K I xs kvs → DqNs K I (xs ++ [(nk k, b, u)]) (kvs ++ [(k, d)])
  | _, _, .nil => .cons hb hk r h .nil
  | _, _, .cons h1 h2 h3 h4 q => .cons h1 h2 h3 h4 (DqNs.app hk hb r h q)
theorem DqNs.rep {K : PySem.W.Frag} {I : Hp} {k : PyData} {u : Value} {v : V} {d : PyData} (hk : keyN k = true) (r : RelV v u) (h : Dq K I v d) : ∀ {xs kvs}, DqNs K I xs kvs → DqNs K I (xs.map (putAt (nk k) u)) (kvs.map fun p => if keyEq p.1 k = true then (p.1, d) else p)
  | _, _, .nil => .nil
  | _, _, .cons (b := b) (u := u') (k := j) h1 h2 h3 h4 q => by
    simp only [List.map_cons, key_eq h2 hk, decide_eq_true_eq]
    by_cases e : nk j = nk k
    · rw [if_pos e]
      have e1 : putAt (nk k) u (nk j, b, u') = (nk j, b, u) := by simp [putAt, e]
      rw [e1]
      exact .cons h1 h2 r h (DqNs.rep hk r h q)
    · rw [if_neg e]
      have e1 : putAt (nk k) u (nk j, b, u') = (nk j, b, u') := by simp [putAt, e]
      rw [e1]
      exact .cons h1 h2 h3 h4 (DqNs.rep hk r h q)
theorem DqNs.put {K : PySem.W.Frag} {I : Hp} {k : PyData} {b : Addr} {u : Value} {v : V} {d : PyData} {xs kvs} (q : DqNs K I xs kvs) (hk : keyN k = true) (hb : Dq K I (.ref b) k) (r : RelV v u) (h : Dq K I v d) : DqNs K I (storedH xs (nk k) b u) (storeD kvs k d) := by
  unfold storedH storeD
  rw [q.any hk]
  split
  · exact q.rep hk r h
  · exact q.app hk hb r h
/-- the key's object -/
theorem key_ref {K : PySem.W.Frag} {bx : Bx} {I H : Hp} {k : PyData} {v : V} (hk : keyN k = true) (h : Bo K bx I H v k) : ∃ b, v = .ref b ∧ Dq K I (.ref b) k := by
  cases k <;> simp [keyN] at hk
  rcases h with h | ⟨_, _, _, _, e, _⟩
  · obtain ⟨b, xs, rfl, h1, h2⟩ := h.tupQ
    exact ⟨b, rfl, .tup h1 h2⟩
  · cases e
theorem all_nil {kvs : List (PyData × PyData)} (h1 : (kvs.all fun p => keyB p.1) = true) (h2 : (kvs.all fun p => keyN p.1) = true) : kvs = [] := by
  cases kvs with
  | nil => rfl
  | cons p r =>
    simp only [List.all_cons, Bool.and_eq_true] at h1 h2
    cases e : p.1 <;> rw [e] at h1 h2 <;> simp [keyB, keyN] at h1 h2
theorem DqNs.keys {K : PySem.W.Frag} {I : Hp} : ∀ {xs kvs}, DqNs K I xs kvs → (kvs.all fun p => keyN p.1) = true
  | _, _, .nil => rfl
  | _, _, .cons _ hk _ _ q => by simp only [List.all_cons, hk, DqNs.keys q, Bool.and_self]
theorem DqKv.keys {K : PySem.W.Frag} {I : Hp} : ∀ {xs kvs}, DqKv K I xs kvs → (kvs.all fun p => keyB p.1) = true
  | _, _, .nil => rfl
  | _, _, .cons (k := k) _ q => by
    have : keyB (kD k) = true := by cases k <;> rfl
    simp only [List.all_cons, this, DqKv.keys q, Bool.and_self]
/-- an empty dict, as one with tuples as keys -/
theorem dk_nil (I : Inv X pins σ H s) {a : Addr} (h : H a = some (.dK [])) : (a == sysModules) = false ∧ s.heap.DictOfH (nestedKind X.prog X.w) a [] := by
  obtain ⟨_, hs, vs, kv, o, es, ep, e, ex, d, ko, p, nd⟩ := I.hok a _ h
  cases kv
  have : es.toList = [] := by
    cases hh : es.toList with
    | nil => rfl
    | cons x r => rw [hh] at p; cases p
  exact ⟨hs, o, es, ep, e, ex, d, by rw [this]; rfl, (fun _ z => by cases z), by simp⟩
/-- a dict as one with tuples as keys -/
theorem dcn_of (I : Inv X pins σ H s) {J : Hp} {a : Addr} {kvs : List (PyData × PyData)} (hs : Sub J H) (dc : DcH X.K J H a kvs) (hall : (kvs.all fun p => keyN p.1) = true) : ∃ xs, (a == sysModules) = false ∧ DqNs X.K J xs kvs ∧ s.heap.DictOfH (nestedKind X.prog X.w) a xs ∧ xs.length ≤ sizeLine := by
  rcases dc with ⟨xs, h, n, q⟩ | ⟨b, o, xs, h, q⟩
  · have e := all_nil q.keys hall
    subst e
    cases q
    exact absurd rfl n
  · obtain ⟨_, _, h1, h2, h3⟩ := dn_at I h (q.sub hs)
    exact ⟨xs, h1, q, h3, h2.2.2.2⟩
theorem dict_H {K : PySem.W.Frag} {J : Hp} {P : Program} {w : World} {h : Heap} {a : Addr} {xs kvs} (q : DqNs K J xs kvs) (hm : h.DictOfH (nestedKind P w) a xs) (hz : xs.length ≤ sizeLine) : ∃ o, h.get? a = some o ∧ DnObj o xs := by
  obtain ⟨o, es, ep, e, ex, d, he, _, nd⟩ := hm
  exact ⟨o, e, ex, ⟨es, ep, d, by rw [← q.ent P w]; exact he⟩, nd, hz⟩
theorem storedH_len (xs : List (NestedKey × Addr × Value)) (k : NestedKey) (b : Addr) (u : Value) : (storedH xs k b u).length ≤ xs.length + 1 ∧ storedH xs k b u ≠ [] := by
  unfold storedH
  split
  · rename_i h
    constructor
    · simp
    · intro z
      have : xs = [] := List.map_eq_nil_iff.mp z
      subst this
      simp [atKey] at h
  · simp
theorem bo_key {K : PySem.W.Frag} {bx : Bx} {I H : Hp} {x : V} {k : Key} (h : Bo K bx I H x (kD k)) : x = kV k := by
  rcases h with h | ⟨_, _, _, _, e, _⟩
  · exact h.kvE
  · cases k <;> cases e
theorem room_n (hu : X.A.units + 65 < cLine) : (nestedKind X.prog X.w).room X.A.in1 := by
  show X.A.units + 1 + 8 < cLine
  omega
end
end Ef

end

section
set_option autoImplicit false
namespace Ef
open PySem L2 PySem.Spec PyProof.Rows
section
variable {X : Cx} {pins : List (Addr × Obj)} {σ : L2.St} {H J : Hp} {s : Shared} {A : Around} {E : Value → Shared → Prop} {T : BoxT}
theorem keyFor_N {kvs : List (PyData × PyData)} {k : PyData} (h : keyFor kvs k = true) : (∃ kk, k = kD kk ∧ (kvs.all fun p => keyB p.1) = true) ∨ (keyN k = true ∧ (kvs.all fun p => keyN p.1) = true) := by
  unfold keyFor at h
  rcases Bool.or_eq_true_iff.mp h with h | h
  · obtain ⟨h1, h2⟩ := Bool.and_eq_true_iff.mp h
    obtain ⟨kk, e⟩ := kD_key h1
    exact .inl ⟨kk, e, h2⟩
  · obtain ⟨h1, h2⟩ := Bool.and_eq_true_iff.mp h
    exact .inr ⟨h1, h2⟩
/-- an empty dict, of whatever keys -/
theorem dn_nil (I : Inv X pins σ H s) {a b : Addr} {o : Obj} (h : H a = some (DnO b o [])) : (a == sysModules) = false ∧ s.heap.DictOf (mixKind X.prog X.w) a [] := by
  obtain ⟨_, hg, hs, hx, ⟨es, ep, hd, he⟩, _⟩ := dnO_of (I.hok a _ h)
  have e0 : es = #[] := by
    have : es.toList = [] := he
    exact Array.toList_eq_nil_iff.mp this
  subst e0
  exact ⟨hs, o, #[], ep, hg, hx, hd, (fun i x => by simp at x), .nil, .nil⟩
/-- what is known of a is told otherwise -/
theorem Inv.retold {a : Addr} {u : HO} (I : Inv X pins σ H s) (mu : Mut (H a)) (he : ∃ q, s.heap.get? a = some q) (ok : ObjOk X.prog X.w (upd H a u) s.heap a u) : Inv X pins σ (upd H a u) s :=
  d_write (h' := s.heap) (t' := s.toks) I mu (Heap.SameBut.refl a s.heap) he ok
theorem dn_dk (I : Inv X pins σ H s) {a b : Addr} {o : Obj} (h : H a = some (DnO b o [])) : Inv X pins σ (upd H a (.dK [])) s := by
  obtain ⟨hs, dd⟩ := dn_nil I h
  obtain ⟨_, hg, _⟩ := dnO_of (I.hok a _ h)
  exact Inv.retold I (by rw [h]; exact True.intro) ⟨o, hg⟩ (dk_new (Nat.zero_le _) hs .nil dd)
theorem dk_dn (I : Inv X pins σ H s) {a : Addr} (h : H a = some (.dK [])) : ∃ o, Inv X pins σ (upd H a (DnO a o [])) s := by
  obtain ⟨hs, o, es, ep, e, ex, d, he, _, _⟩ := dk_nil I h
  have e0 : es.toList = [] := he
  refine ⟨o, Inv.retold I (by rw [h]; exact True.intro) ⟨o, e⟩ (dnO_new e hs ⟨ex, ⟨es, ep, d, by rw [e0]; rfl⟩, .nil, Nat.zero_le _⟩)⟩
/-- texts and numbers as keys: so it stands -/
theorem dk_rep (I : Inv X pins σ H s) (hs : Sub J H) {a : Addr} {kvs : List (PyData × PyData)} (dc : DcH X.K J H a kvs) (hall : (kvs.all fun p => keyB p.1) = true) : (∃ xs, H a = some (.dK xs) ∧ DqKv X.K J xs kvs) ∨ (kvs = [] ∧ ∃ b o, H a = some (DnO b o [])) := by
  rcases dc with ⟨xs, h, _, q⟩ | ⟨b, o, xs, h, q⟩
  · exact .inl ⟨xs, h, q⟩
  · have e := all_nil hall q.keys
    subst e
    cases q
    exact .inr ⟨rfl, b, o, h⟩
theorem dk_map (I : Inv X pins σ H s) (hs : Sub J H) {a : Addr} {kvs : List (PyData × PyData)} (dc : DcH X.K J H a kvs) (hall : (kvs.all fun p => keyB p.1) = true) : ∃ xs vs, DqKv X.K J xs kvs ∧ KV xs vs ∧ s.heap.DictOf (mixKind X.prog X.w) a vs ∧ (a == sysModules) = false := by
  rcases dk_rep I hs dc hall with ⟨xs, h, q⟩ | ⟨rfl, b, o, h⟩
  · obtain ⟨_, hd, vs, rel, dd⟩ := dk_of I.hok h
    exact ⟨xs, vs, q, rel, dd, hd⟩
  · obtain ⟨h1, h2⟩ := dn_nil I h
    exact ⟨[], [], .nil, .nil, h2, h1⟩
/-- k in d, by what is known of it -/
theorem ev_in (hu : X.A.units + 65 < cLine) (I : Inv X pins σ H s) {bx : Bx} (hv : Hv T bx J H) {a : Addr} {x : V} {u : Value} {k : PyData} {kvs : List (PyData × PyData)} {Q : Value → Shared → Prop} (hk : keyFor kvs k = true) (bd : Bo X.K bx J H x k) (rx : RelV x u) (dc : DcH X.K J H a kvs)
    (q : ∀ s', Inv X pins σ H s' → Q (.bool (lookD kvs k).isSome) s') : wpAny (model X.prog X.w) X.A (compareOp .In u (.ref a)) Q E s := by
  rcases keyFor_N hk with ⟨kk, rfl, hall⟩ | ⟨hkn, hall⟩
  · obtain ⟨xs, vs, dq, rel, dd, hd⟩ := dk_map I hv.sub dc hall
    have ex : x = kV kk := bo_key bd
    subst ex
    refine wpAny_in_of (kV_is rx) hd dd.mapOf ?_
    rw [← (rel.val kk).isSome_eq]
    rcases dq.look kk with ⟨e1, e2⟩ | ⟨v', d', e1, e2, _⟩
    · rw [e2]; rw [e1] at q; exact q _ (I.tok _)
    · rw [e2]; rw [e1] at q; exact q _ (I.tok _)
  · obtain ⟨xs, hd, dq, hm, _⟩ := dcn_of I hv.sub dc hall
    obtain ⟨b, rfl, hb⟩ := key_ref hkn bd
    cases rx
    refine wpAny_in_heap (room_n hu) (key_is I hkn (hb.sub hv.sub)) hd hm ?_
    rcases dq.look hkn with ⟨e1, e2⟩ | ⟨_, _, _, _, e1, e2, _⟩
    · rw [e2]; rw [e1] at q; exact q _ (I.tok _)
    · rw [e2]; rw [e1] at q; exact q _ (I.tok _)
theorem ev_notIn (hu : X.A.units + 65 < cLine) (I : Inv X pins σ H s) {bx : Bx} (hv : Hv T bx J H) {a : Addr} {x : V} {u : Value} {k : PyData} {kvs : List (PyData × PyData)} {Q : Value → Shared → Prop} (hk : keyFor kvs k = true) (bd : Bo X.K bx J H x k) (rx : RelV x u) (dc : DcH X.K J H a kvs)
    (q : ∀ s', Inv X pins σ H s' → Q (.bool (!(lookD kvs k).isSome)) s') : wpAny (model X.prog X.w) X.A (compareOp .NotIn u (.ref a)) Q E s := by
  rcases keyFor_N hk with ⟨kk, rfl, hall⟩ | ⟨hkn, hall⟩
  · obtain ⟨xs, vs, dq, rel, dd, hd⟩ := dk_map I hv.sub dc hall
    have ex : x = kV kk := bo_key bd
    subst ex
    refine wpAny_notIn_of (kV_is rx) hd dd.mapOf ?_
    rw [← (rel.val kk).isSome_eq]
    rcases dq.look kk with ⟨e1, e2⟩ | ⟨v', d', e1, e2, _⟩
    · rw [e2]; rw [e1] at q; exact q _ (I.tok _)
    · rw [e2]; rw [e1] at q; exact q _ (I.tok _)
  · obtain ⟨xs, hd, dq, hm, _⟩ := dcn_of I hv.sub dc hall
    obtain ⟨b, rfl, hb⟩ := key_ref hkn bd
    cases rx
    refine notIn_keyed (kvs := pairsH xs) (room_n hu) (key_is I hkn (hb.sub hv.sub)) hd ⟨xs, hm, rfl⟩ ?_
    rw [valueAt_pairsH, Option.isSome_map]
    rcases dq.look hkn with ⟨e1, e2⟩ | ⟨_, _, _, _, e1, e2, _⟩
    · rw [e2]; rw [e1] at q; exact q _ (I.tok _)
    · rw [e2]; rw [e1] at q; exact q _ (I.tok _)
/-- d[k] -/
theorem ev_getItem (hu : X.A.units + 65 < cLine) (I : Inv X pins σ H s) {bx : Bx} (hv : Hv T bx J H) {a : Addr} {x : V} {u : Value} {k z : PyData} {kvs : List (PyData × PyData)} {Q : Value → Shared → Prop} (hk : keyFor kvs k = true) (hz : lookD kvs k = some z) (bd : Bo X.K bx J H x k) (rx : RelV x u) (dc : DcH X.K J H a kvs)
    (q : ∀ v w s', Dq X.K J v z → RelV v w → Inv X pins σ H s' → Q w s') : wpAny (model X.prog X.w) X.A (getItem (.ref a) u) Q E s := by
  rcases keyFor_N hk with ⟨kk, rfl, hall⟩ | ⟨hkn, hall⟩
  · obtain ⟨xs, h2, dq⟩ : ∃ xs, H a = some (.dK xs) ∧ DqKv X.K J xs kvs := by
      rcases dk_rep I hv.sub dc hall with h | ⟨rfl, _⟩
      · exact h
      · simp [lookD] at hz
    have ex : x = kV kk := bo_key bd
    subst ex
    rcases dq.look kk with ⟨e1, _⟩ | ⟨v', d', e1, e2, dv⟩
    · rw [e1] at hz; cases hz
    · rw [e1] at hz; cases hz
      have g : DGet H a (kV kk) (some v') := by rw [← e2]; exact DGet.k h2
      exact d_getItem (by omega) I g rx fun w' s3 I3 rw' => q _ _ _ dv rw' I3
  · obtain ⟨xs, hd, dq, hm, _⟩ := dcn_of I hv.sub dc hall
    obtain ⟨b, rfl, hb⟩ := key_ref hkn bd
    cases rx
    rcases dq.look hkn with ⟨e1, e2⟩ | ⟨b', u', v', d', e1, e2, r, dv⟩
    · rw [e1] at hz; cases hz
    · rw [e1] at hz; cases hz
      exact wpAny_getItem_heap (room_n hu) (key_is I hkn (hb.sub hv.sub)) hm e2 (q _ _ _ dv r (I.tok _))
theorem dc_type (I : Inv X pins σ H s) (hs : Sub J H) {a : Addr} {kvs : List (PyData × PyData)} (dc : DcH X.K J H a kvs) : (a == sysModules) = false ∧ ∃ es ep, s.heap.DictRaw a es ep ∧ es.size = kvs.length ∧ kvs.length ≤ sizeLine := by
  rcases dc with ⟨xs, h, _, q⟩ | ⟨b, o, xs, h, q⟩
  · obtain ⟨zl, hs, vs, kv, dd⟩ := I.hok a _ h
    obtain ⟨es, ep, r, hz, _⟩ := Heap.DictOf.raw dd
    have := Paired.length kv
    exact ⟨hs, es, ep, r, by rw [hz, ← this, q.length], by rw [← q.length]; exact zl⟩
  · obtain ⟨_, e, hs, hx, _⟩ := dn_at I h (q.sub hs)
    obtain ⟨ex, ⟨es, ep, hd, he⟩, _, zl⟩ := hx
    refine ⟨hs, es, ep, ⟨o, e, ex, hd⟩, ?_, by rw [← q.length]; exact zl⟩
    have := congrArg List.length he
    simp at this
    rw [this, q.length]
/-- the entries of a dict that is walked -/
theorem dc_walk (I : Inv X pins σ H s) (hs : Sub J H) {a : Addr} {kvs : List (PyData × PyData)} {ds : List PyData} (dc : DcH X.K J H a kvs) (hw : walkOf (.dict kvs) = some ds) : ds = kvs.map (·.1) ∧ (a == sysModules) = false ∧ ∃ o xs es ep, H a = some (DnO a o xs) ∧ DqNs X.K J xs kvs ∧ s.heap.get? a = some o ∧ o.ExactDict ∧ o.data = .dict es ep ∧ es.toList = xs.map ent0 ∧ es.size = kvs.length ∧ kvs.length ≤ sizeLine := by
  simp only [walkOf] at hw
  split at hw
  · rename_i hc
    rcases dc with ⟨xs, h, n, q⟩ | ⟨b, o, xs, h, q⟩
    · have e := all_nil q.keys hc
      subst e
      cases q
      exact absurd rfl n
    · obtain ⟨rfl, e, hs, hx, _⟩ := dn_at I h (q.sub hs)
      obtain ⟨ex, ⟨es, ep, hd, he⟩, _, hz⟩ := hx
      refine ⟨by cases hw; rfl, hs, o, xs, es, ep, h, q, e, ex, hd, he, ?_, by rw [← q.length]; exact hz⟩
      have := congrArg List.length he
      simp at this
      rw [this, q.length]
  · cases hw
theorem DqNs.key_at {K : PySem.W.Frag} {I : Hp} : ∀ {xs kvs}, DqNs K I xs kvs → ∀ {i : Nat} {x}, xs[i]? = some x → ∃ p, kvs[i]? = some p ∧ Dq K I (.ref x.2.1) p.1 ∧ ∃ v, RelV v x.2.2 ∧ Dq K I v p.2
  | _, _, .nil, i, x, h => by simp at h
  | _, _, .cons h _ r hv q, 0, x, e => by simp at e; subst e; exact ⟨_, rfl, h, _, r, hv⟩
  | _, _, .cons _ _ _ _ q, i + 1, x, e => by
    obtain ⟨p, h1, h2⟩ := DqNs.key_at q (i := i) (x := x) (by simpa using e)
    exact ⟨p, by simpa using h1, h2⟩
theorem DqNs.refs {K : PySem.W.Frag} {I : Hp} : ∀ {xs kvs}, DqNs K I xs kvs → DqAll K I (xs.map fun x => V.ref x.2.1) (kvs.map (·.1))
  | _, _, .nil => .nil
  | _, _, .cons h _ _ _ q => .cons h (DqNs.refs q)
theorem vals_refs : ∀ xs : List (NestedKey × Addr × Value), Vals (xs.map fun x => V.ref x.2.1) (xs.map fun x => Value.ref x.2.1)
  | [] => .nil
  | x :: xs => .cons rfl (vals_refs xs)
theorem keys_acc {es : Array DictEntry} {xs : List (NestedKey × Addr × Value)} (he : es.toList = xs.map ent0) {acc : Array Value} (h : ItemsOf (fun i v => ∃ hi : i < es.size, v = es[i].key) acc es.size) : acc.toList = xs.map fun x => Value.ref x.2.1 := by
  have hz : es.size = xs.length := by simpa using congrArg List.length he
  apply List.ext_getElem?
  intro i
  rw [Array.getElem?_toList, List.getElem?_map]
  by_cases hi : i < xs.length
  · have hi2 : i < acc.size := by rw [h.1, hz]; exact hi
    obtain ⟨h3, e⟩ := h.2 i acc[i] (by simp [hi2])
    rw [Array.getElem?_eq_getElem hi2, e, List.getElem?_eq_getElem hi]
    have e2 : es.toList[i]? = (xs.map ent0)[i]? := by rw [he]
    rw [Array.getElem?_toList, Array.getElem?_eq_getElem h3, List.getElem?_map, List.getElem?_eq_getElem hi] at e2
    have e3 : es[i] = ent0 xs[i] := Option.some.inj e2
    rw [e3]
    rfl
  · rw [Array.getElem?_eq_none (by rw [h.1, hz]; omega), List.getElem?_eq_none (by omega)]
    rfl
/-- list(d) -/
theorem ev_list (hc : X.calm = true) (I : Inv X pins σ H s) (hs : Sub J H) {a : Addr} {kvs : List (PyData × PyData)} {Q : Value → Shared → Prop} (dc : DcH X.K J H a kvs) (hw : (kvs.all fun p => keyN p.1) = true)
    (q : ∀ p vs s', H p = none → DqAll X.K J vs (kvs.map (·.1)) → Inv X pins σ (upd H p (.lst vs)) s' → Q (.ref p) s') : wpAny (model X.prog X.w) X.A (call (.type "list") [.ref a]) Q E s := by
  obtain ⟨xs, hd, dq, ⟨o, es, ep, ho, hx, hdat, he0, _, _⟩, hl⟩ := dcn_of I hs dc hw
  have he : es.toList = xs.map ent0 := by rw [← dq.ent X.prog X.w]; exact he0
  have hz : es.size = xs.length := by simpa using congrArg List.length he
  refine PySem.W.kdl_call (PySem.KdlSrc.rawDict (es := es) (ep := ep) hd) (I.ok.hd hc) ⟨o, ho, hx, hdat⟩ (by rw [hz]; exact hl) fun h' tk acc c kp hn hi => ?_
  have hfresh : H s.heap.objs.size = none := I.hok.fresh (Nat.le_refl _)
  have ea := keys_acc he hi
  refine q _ (xs.map fun x => V.ref x.2.1) _ hfresh dq.refs (I.laid (t' := tk) kp (Nat.le_refl _) ⟨?_, acc.toList, c, by rw [ea]; exact vals_refs xs, ?_⟩)
  · rw [List.length_map]; exact hl
  · rw [hn]
theorem putK_ne (xs : List (Key × V)) (k : Key) (v : V) : putK xs k v ≠ [] := by
  unfold putK
  split
  · rename_i h
    intro z
    have : xs = [] := List.map_eq_nil_iff.mp z
    subst this
    simp at h
  · simp
/-- d[k] = v, d one's own -/
theorem ev_put (hu : X.A.units + 65 < cLine) (I : Inv X pins σ H s) (hs : Sub J H) {a : Addr} {uo : HO} {kvs : List (PyData × PyData)} {x y : V} {u r : Value} {k d : PyData} {bx : Bx} {Q : Unit → Shared → Prop} (hk : keyFor kvs k = true) (bd : Bo X.K bx J H x k) (rx : RelV x u) (ha : H a = some uo) (fo : FrO X.K J uo (.dict kvs)) (hz : kvs.length < sizeLine) (ry : RelV y r) (dy : Dq X.K J y d)
    (q : ∀ u' s', FrO X.K J u' (.dict (storeD kvs k d)) → Inv X pins σ (upd H a u') s' → Q () s') : wpAny (model X.prog X.w) X.A (setItem (.ref a) u r) Q E s := by
  have dc := fo.dc ha
  rcases keyFor_N hk with ⟨kk, rfl, hall⟩ | ⟨hkn, hall⟩
  · have ex : x = kV kk := bo_key bd
    subst ex
    rcases dk_rep I hs dc hall with ⟨xs, h2, dq⟩ | ⟨rfl, b, o, h2⟩
    · exact d_setItem (by omega) I (DPut.k h2 (by rw [dq.length]; exact hz)) rx ry fun s' I' => q _ _ (.dic (putK_ne _ _ _) (dq.put dy)) I'
    · exact d_setItem (by omega) (dn_dk I h2) (DPut.k upd_same (by rw [sizeLine_eq]; decide)) rx ry fun s' I' => q _ _ (.dic (putK_ne _ _ _) (DqKv.put .nil dy)) (by rw [upd_upd] at I'; exact I')
  · obtain ⟨xs, hd, dq, hm, hl⟩ := dcn_of I hs dc hall
    obtain ⟨b, rfl, hb⟩ := key_ref hkn bd
    cases rx
    refine wpAny_setItem_heap (hsz := hl) (room_n hu) (key_is I hkn (hb.sub hs)) hm fun h' hm' sb => ?_
    have dq' := dq.put hkn hb ry dy
    obtain ⟨l1, l2⟩ := storedH_len xs (nk k) b r
    obtain ⟨o', e', ho'⟩ := dict_H dq' hm' (by have := dq.length; omega)
    refine q (DnO a o' _) _ (.dcn dq') (d_write I ?_ sb ⟨o', e'⟩ (dnO_new e' hd ho'))
    rw [ha]
    cases fo <;> exact True.intro
end
end Ef

end

section
set_option autoImplicit false
namespace Ef
open PySem L2 PySem.Spec PyProof.Rows

/-! ### contracts of defs -/
inductive ArAll (K : PySem.W.Frag) (bx : Bx) (I : Hp) : List V → List Sl → Prop
  | nil : ArAll K bx I [] []
  | dat {v vs d as} : Dq K I v d → ArAll K bx I vs as → ArAll K bx I (v :: vs) (.dat d :: as)
  | box {a fp vs as} : bx = some (a, fp) → ArAll K bx I vs as → ArAll K bx I (.ref a :: vs) (.box :: as)
theorem ArAll.sub {K : PySem.W.Frag} {bx : Bx} {I J : Hp} (s : Sub I J) : ∀ {vs as}, ArAll K bx I vs as → ArAll K bx J vs as
  | _, _, .nil => .nil
  | _, _, .dat h q => .dat (h.sub s) (ArAll.sub s q)
  | _, _, .box h q => .box h (ArAll.sub s q)
theorem ArAll.length {K : PySem.W.Frag} {bx : Bx} {I : Hp} : ∀ {vs as}, ArAll K bx I vs as → vs.length = as.length
  | _, _, .nil => rfl
  | _, _, .dat h q => by simp [ArAll.length q]
  | _, _, .box h q => by simp [ArAll.length q]
structure FnG (P : Program) (w : World) (K : PySem.W.Frag) (mg : Str → Option Value) (base : Heap) (T : BoxT) (k : Nat) (f : Addr) (fd : FuncData) (ps : List Str) (c : Con) : Prop where
  len : ∀ a as, c.pre a as → as.length = ps.length
  run : ∀ (A : Around) (outer : List Env) (s : Shared) (H I : Hp) (bx : Bx) (args : Args) (us : List Value) (vs : List V) (as : List Sl) (a : c.α), Room k A → A.guards = some [] → Env0 P w K mg base A outer s H → BindsTo s fd args (ps.zip us) → Vals vs us → Hv T bx I H → ArAll K bx I vs as → c.pre a as →
    codeAny (model P w) A (.call (.ref f) args) (CR L2.CX0 outer P w H s (fun v H' => ∃ I' d, Gw T bx I H I' H' ∧ Dq K I' v d ∧ c.post a d) L2.E0) s
theorem FnG.mono {P : Program} {w : World} {K : PySem.W.Frag} {mg : Str → Option Value} {base : Heap} {T : BoxT} {j k : Nat} {f : Addr} {fd : FuncData} {ps : List Str} {c : Con} (F : FnG P w K mg base T j f fd ps c) (h : j ≤ k) : FnG P w K mg base T k f fd ps c :=
  ⟨F.len, fun A outer s H I bx args us vs as a hr => F.run A outer s H I bx args us vs as a (hr.mono h)⟩
/-- a def whose last parameter is a keyword's, with a default -/
structure Kal (P : Program) (w : World) (K : PySem.W.Frag) (mg : Str → Option Value) (base : Heap) (T : BoxT) (k : Nat) (x : Str) (c : Con) (d0 : PyData) (kw : Str) : Prop where
  ex : ∃ f fd ps n, mg x = some (.ref f) ∧ PySem.W.keepIn K (.ref f) = true ∧ FnG P w K mg base T k f fd ps c ∧ ps.length = n + 1 ∧ (∃ ds dv, Binds K fd ps ds ∧ Vals [dv] ds ∧ ∀ I, Dq K I dv d0) ∧ KBn K fd ps n [kw] (fun us ws => us ++ ws) (fun vs zs => vs ++ zs)
/-- a def is called by its name -/
structure Cal (P : Program) (w : World) (K : PySem.W.Frag) (mg : Str → Option Value) (base : Heap) (T : BoxT) (k : Nat) (x : Str) (c : Con) : Prop where
  ex : ∃ f fd ps, mg x = some (.ref f) ∧ PySem.W.keepIn K (.ref f) = true ∧ Binds K fd ps [] ∧ FnG P w K mg base T k f fd ps c
def bltNames : List String := ["len", "abs", "int", "bool", "tuple", "list", "repr", "all", "any", "min", "max", "sum", "isinstance", "range", "zip", "enumerate", "str", "dict", "sorted", "set"]
/-- the context is as the look supposes -/
structure Gd (T : BoxT) (G : Gm) (k : Nat) (c : Ck) (X : Cx) : Prop where
  nn : X.N = c.N
  nd : X.N.Nodup
  sc : X.env.scope = c.sc
  calm : X.calm = true
  room : Room k X.A
  grd : X.A.guards = some []
  xe : X.xe = fun _ _ => False
  fn : ∀ x, c.rs.names.lookup x = some .cell → X.fn x = true
  con : ∀ f d, G.con f = some d → Cal X.prog X.w X.K X.mg X.base T k (Str.ofString f) d
  glb : ∀ x d, G.glb x = some d → ∃ u v, X.mg (Str.ofString x) = some u ∧ RelV v u ∧ ∀ I, Dq X.K I v d
  kc : ∀ f d d0 kw, G.kc f = some (d, d0, kw) → Kal X.prog X.w X.K X.mg X.base T k (Str.ofString f) d d0 (Str.ofString kw)
  blt : ∀ x ∈ bltNames, X.mg (Str.ofString x) = none
theorem Gd.blk {T : BoxT} {G : Gm} {k : Nat} {c : Ck} {X : Cx} (g : Gd T G k c X) (scope : Scope) (s : Shared) (H : Hp) (C : Addr) (cl : List (Str × Addr)) (fp : List Addr) : Gd T G k (c.blk scope) (X.blk s H scope (compEnvC scope cl C X.env) fp) := by
  refine ⟨g.nn, g.nd, ?_, g.calm, g.room, g.grd, rfl, fun x e => ?_, g.con, g.glb, g.kc, g.blt⟩
  · show relS scope X.env.scope = relS scope c.sc
    rw [g.sc]
  · show (scope.names.lookup x == some .cell) = true
    have e : scope.names.lookup x = some .cell := e
    rw [e]; rfl

/-! ### lifts -/
def lfE (K : PySem.W.Frag) (T : BoxT) (m : Md) (f : Rho → (PyData → Prop) → Prop) : TE := fun σ H Q => ∃ bx I0 H0 ρ I, SA K T bx I0 H0 ρ σ I H ∧ f ρ fun d => ∀ v I' H', Gw T bx I H I' H' → Vl K bx H I' H' m v d → Q v H'
def lfT (K : PySem.W.Frag) (T : BoxT) (f : Rho → (Bool → Prop) → Prop) : TT := fun σ H Q => ∃ bx I0 H0 ρ I, SA K T bx I0 H0 ρ σ I H ∧ f ρ fun b => ∀ I' H', Gw T bx I H I' H' → Q b H'
inductive BoAll (K : PySem.W.Frag) (bx : Bx) (I H : Hp) : List V → List PyData → Prop
  | nil : BoAll K bx I H [] []
  | cons {v vs d ds} : Bo K bx I H v d → BoAll K bx I H vs ds → BoAll K bx I H (v :: vs) (d :: ds)
def VlAll (K : PySem.W.Frag) (bx : Bx) (I H : Hp) (firm : Bool) (vs : List V) (ds : List PyData) : Prop := match firm with
  | true => DqAll K I vs ds
  | false => BoAll K bx I H vs ds
def lfEs (K : PySem.W.Frag) (T : BoxT) (firm : Bool) (f : Rho → (List PyData → Prop) → Prop) : TA := fun σ H Q => ∃ bx I0 H0 ρ I, SA K T bx I0 H0 ρ σ I H ∧ f ρ fun ds => ∀ vs I' H', Gw T bx I H I' H' → VlAll K bx I' H' firm vs ds → Q vs H'
def lfAs (K : PySem.W.Frag) (T : BoxT) (f : Rho → (List Sl → Prop) → Prop) : TA := fun σ H Q => ∃ bx I0 H0 ρ I, SA K T bx I0 H0 ρ σ I H ∧ f ρ fun as => ∀ vs I' H', Gw T bx I H I' H' → ArAll K bx I' vs as → Q vs H'
def lfO (K : PySem.W.Frag) (T : BoxT) (f : Rho → (Option Int → Prop) → Prop) : TO := fun σ H Q => ∃ bx I0 H0 ρ I, SA K T bx I0 H0 ρ σ I H ∧ f ρ fun o => ∀ I' H', Gw T bx I H I' H' → Q o H'
/-- what a walk gives: data, or a plain pair that does not last -/
def Dy (K : PySem.W.Frag) (I : Hp) : Bool → V → PyData → Prop
  | false, v, d => Dq K I v d
  | true, v, d => ∃ a xs ds, v = .ref a ∧ d = .tuple ds ∧ SqT K I a xs ∧ DqAll K I xs ds
def It.prs : It → Bool
  | .zp _ _ => true
  | .zm _ _ => true
  | .en _ => true
  | .di _ => true
  | _ => false
def tpB : Tg → Bool
  | .tp _ => true
  | .nm _ => false
def Wk (K : PySem.W.Frag) (T : BoxT) (bx : Bx) (I : Hp) (fl : Bool) (J : L2.It) (ds : List PyData) : Prop := ∀ (i : Nat) (I' H' : Hp), Sub I I' → Hv T bx I' H' →
  (∀ d, ds[i]? = some d → J.go i H' ∧ ∀ x H2, J.yld i H' x H2 → ∃ I2, Gw T bx I' H' I2 H2 ∧ Dy K I2 fl x d) ∧ (ds.length ≤ i → J.stop i H')
def lfI (K : PySem.W.Frag) (T : BoxT) (fl : Bool) (f : Rho → (List PyData → Prop) → Prop) : TI := fun σ H R => ∃ bx I0 H0 ρ I, SA K T bx I0 H0 ρ σ I H ∧ f ρ fun ds => ∀ J I' H', Gw T bx I H I' H' → Wk K T bx I' fl J ds → R J H'
section
variable {X : Cx} {T : BoxT}
theorem PE.imp {e : Expr} {t t' : TE} (h : PE X e t) (i : ∀ σ H Q, t' σ H Q → t σ H Q) : PE X e t' := ⟨fun pins s σ H Q I q => h.run pins s σ H Q I (i σ H Q q)⟩
theorem PT.imp {e : Expr} {t t' : TT} (h : PT X e t) (i : ∀ σ H Q, t' σ H Q → t σ H Q) : PT X e t' := ⟨fun pins s σ H Q I q => h.run pins s σ H Q I (i σ H Q q)⟩
theorem PW.imp {e : Expr} {t t' : TT} (h : PW X e t) (i : ∀ σ H Q, t' σ H Q → t σ H Q) : PW X e t' := ⟨fun w pins s σ H Q I q => h.run w pins s σ H Q I (i σ H Q q)⟩
theorem PA.imp {e : List Expr} {t t' : TA} (h : PA X e t) (i : ∀ σ H Q, t' σ H Q → t σ H Q) : PA X e t' := ⟨fun p pins s σ H Q I q => h.run p pins s σ H Q I (i σ H Q q)⟩
theorem PO.imp {e : Option Expr} {t t' : TO} (h : PO X e t) (i : ∀ σ H Q, t' σ H Q → t σ H Q) : PO X e t' := ⟨fun pins s σ H Q I q => h.run pins s σ H Q I (i σ H Q q)⟩
theorem PI.imp {tg e : Expr} {t t' : TI} (h : PI X tg e t) (i : ∀ σ H Q, t' σ H Q → t σ H Q) : PI X tg e t' := ⟨fun pins s σ H Q I q => h.run pins s σ H Q I (i σ H Q q)⟩
theorem PS.imp {e : Stmt} {t t' : TS} (h : PS X e t) (i : ∀ D σ H, t' D σ H → t D σ H) : PS X e t' := ⟨fun pins s σ H D I q => h.run pins s σ H D I (i D σ H q)⟩
theorem PSs.imp {e : List Stmt} {t t' : TS} (h : PSs X e t) (i : ∀ D σ H, t' D σ H → t D σ H) : PSs X e t' := ⟨fun pins s σ H D I q => h.run pins s σ H D I (i D σ H q)⟩
theorem PTs.imp {e : List Expr} {t t' : TT} (h : PTs X e t) (i : ∀ σ H Q, t' σ H Q → t σ H Q) : PTs X e t' := ⟨fun pins s σ H Q I q => h.run pins s σ H Q I (i σ H Q q)⟩
/-- weaker results -/
theorem lf_bo {e : Expr} {m : Md} {f : Rho → (PyData → Prop) → Prop} (hf : ∀ ρ (Q R : PyData → Prop), (∀ x, Q x → R x) → f ρ Q → f ρ R) (h : PE X e (lfE X.K T m f)) : PE X e (lfE X.K T .bo f) :=
  PE.imp h fun σ H Q ⟨bx, I0, H0, ρ, I, s, q⟩ => ⟨bx, I0, H0, ρ, I, s, hf ρ _ _ (fun d k v I' H' g vl => k v I' H' g (vl.bo s.hv g)) q⟩
theorem lf_st {e : Expr} {m : Md} {f : Rho → (PyData → Prop) → Prop} (hf : ∀ ρ (Q R : PyData → Prop), (∀ x, Q x → R x) → f ρ Q → f ρ R) (hm : m ≠ .bo) (h : PE X e (lfE X.K T m f)) : PE X e (lfE X.K T .st f) := by
  cases m with
  | st => exact h
  | bo => exact absurd rfl hm
  | fr => exact PE.imp h fun σ H Q ⟨bx, I0, H0, ρ, I, s, q⟩ => ⟨bx, I0, H0, ρ, I, s, hf ρ _ _ (fun d k v I' H' g vl => let ⟨I2, g2, dq⟩ := vl.st s.hv g; k v I2 H' g2 dq) q⟩

/-! ### operators -/
def rW (K : PySem.W.Frag) (T : BoxT) (m : Md) (W : PyData → PyData → (PyData → Prop) → Prop) : R2 := fun x y H Q => ∃ bx I d e, Hv T bx I H ∧ Bo K bx I H x d ∧ Bo K bx I H y e ∧ W d e fun z => ∀ v I' H', Gw T bx I H I' H' → Vl K bx H I' H' m v z → Q v H'
/-- two operands -/
theorem lf_two {a b : Expr} {m : Md} {fa fb : Rho → (PyData → Prop) → Prop} {W : PyData → PyData → (PyData → Prop) → Prop} {σ : L2.St} {H : Hp} {Q : VK}
    (ma : ∀ ρ (Q R : PyData → Prop), (∀ x, Q x → R x) → fa ρ Q → fa ρ R) (mb : ∀ ρ (Q R : PyData → Prop), (∀ x, Q x → R x) → fb ρ Q → fb ρ R) (mW : ∀ d e (Q R : PyData → Prop), (∀ x, Q x → R x) → W d e Q → W d e R)
    (h : lfE X.K T m (fun ρ Q => fa ρ fun x => fb ρ fun y => W x y Q) σ H Q) : tOp (rW X.K T m W) (lfE X.K T .bo fa) (lfE X.K T .bo fb) σ H Q := by
  obtain ⟨bx, I0, H0, ρ, I, s, q⟩ := h
  refine ⟨bx, I0, H0, ρ, I, s, ma _ _ _ (fun d q v I1 H1 g1 b1 => ?_) q⟩
  refine ⟨bx, I0, H0, ρ, I1, s.grow g1, mb _ _ _ (fun e q v2 I2 H2 g2 b2 => ?_) q⟩
  refine ⟨bx, I2, d, e, g2.hv, Bo.grow g1.hv g2 b1, b2, mW _ _ _ _ (fun z k v3 I3 H3 g3 vl => k v3 I3 H3 ((g1.trans g2).trans g3) ?_) q⟩
  cases m with
  | st => exact vl
  | bo => exact vl
  | fr =>
    rcases vl with ⟨a, o, e1, hn, r⟩ | vl
    · exact .inl ⟨a, o, e1, (g1.trans g2).free hn, r⟩
    · exact .inr vl
theorem lay_of {d : PyData} (h : SeqAt.shaped d = true) : d.canLay0 = true := by
  unfold SeqAt.shaped at h
  rw [Bool.and_eq_true] at h
  exact h.1
theorem op_bin {op : Operator} : OpR X (binaryOp op) (rW X.K T .fr (binW op)) := by
  intro pins s σ H x y v u Q I rx ry h
  obtain ⟨bx, J, d, e, hv, bd, be, w⟩ := h
  unfold binW at w
  split at w
  · cases bd.intE; cases be.intE
    exact op_add pins s σ H _ _ v u Q I rx ry ⟨_, _, rfl, rfl, w _ J H (Gw.refl hv) (.inr ⟨.int _, rfl⟩)⟩
  · obtain ⟨z, w⟩ := w
    obtain ⟨a, xs, e1, h1, q1⟩ := bd.tupQ
    obtain ⟨b, ys, e2, h2, q2⟩ := be.tupQ
    subst e1 e2
    refine op_catF pins s σ H _ _ v u Q I rx ry ⟨a, b, xs, ys, rfl, rfl, SqT.sub hv.sub h1.sq, SqT.sub hv.sub h2.sq, by rw [q1.length, q2.length]; exact z, fun e => ?_, fun e f => ?_, fun e f p ob oc od hp => ?_⟩
    · subst e
      cases q1
      exact w _ J H (Gw.refl hv) (.inr ⟨.tup h2 q2, rfl⟩)
    · subst f
      cases q2
      exact w _ J H (Gw.refl hv) (.inr ⟨.tup h1 (by rw [List.append_nil]; exact q1), rfl⟩)
    · have g := Gw.new (.frz ob (.tup (xs ++ ys))) hv hp
      exact w _ _ _ g (.inr ⟨.tup (Tq.new oc od) ((q1.append q2).sub (g.sub hv)), rfl⟩)
  · obtain ⟨z, w⟩ := w
    obtain ⟨a, xs, e1, h1, q1⟩ := bd.lstE hv
    obtain ⟨b, ys, e2, h2, q2⟩ := be.lstE hv
    subst e1 e2
    refine op_cat pins s σ H _ _ v u Q I rx ry ⟨a, b, xs, ys, rfl, rfl, h1, h2, by rw [q1.length, q2.length]; exact z, fun p hp => ?_⟩
    have g := Gw.mut (.lst (xs ++ ys)) hv hp
    refine w _ _ _ g (.inl ⟨p, _, rfl, hp, ?_, upd_same, .lst (q1.append q2)⟩)
    cases e : J p with
    | none => rfl
    | some o => rw [hv.sub p o e] at hp; cases hp
  · obtain ⟨z, w⟩ := w
    cases bd.strE; cases be.strE
    exact op_add_str pins s σ H _ _ v u Q I rx ry ⟨_, _, rfl, rfl, z, w _ J H (Gw.refl hv) (.inr ⟨.str _, rfl⟩)⟩
  · cases bd.intE; cases be.intE
    exact op_sub pins s σ H _ _ v u Q I rx ry ⟨_, _, rfl, rfl, w _ J H (Gw.refl hv) (.inr ⟨.int _, rfl⟩)⟩
  · cases bd.intE; cases be.intE
    exact op_mul pins s σ H _ _ v u Q I rx ry ⟨_, _, rfl, rfl, w.1, w.2 _ J H (Gw.refl hv) (.inr ⟨.int _, rfl⟩)⟩
  · rename_i xs0 k0
    obtain ⟨z, w⟩ := w
    obtain ⟨a, xs, e1, h1, q1⟩ := bd.tupQ
    subst e1
    cases be.intE
    rcases z with ⟨z1, z2, z3, z4⟩ | ⟨z1, z2, z3⟩
    · refine op_repF pins s σ H _ _ v u Q I rx ry ⟨a, _, xs, rfl, rfl, SqT.sub hv.sub h1.sq, fun e => z1 ?_, z2, z3, by rw [q1.length]; exact z4, fun p ob oc od hp => ?_⟩
      · subst e; cases q1; rfl
      · have g := Gw.new (.frz ob (.tup (List.replicate k0.toNat xs).flatten)) hv hp
        exact w _ _ _ g (.inr ⟨.tup (Tq.new oc od) ((q1.rep _).sub (g.sub hv)), rfl⟩)
    · have e9 : (List.replicate k0.toNat xs0).flatten = xs0 := by
        rcases z1 with rfl | rfl
        · simp
        · simp
      rw [e9] at w
      refine op_repT1 pins s σ H _ _ v u Q I rx ry ⟨a, _, xs, rfl, rfl, SqT.sub hv.sub h1.sq, ?_, z2, z3, w _ J H (Gw.refl hv) (.inr ⟨.tup h1 q1, rfl⟩)⟩
      rcases z1 with rfl | rfl
      · cases q1; exact .inl rfl
      · exact .inr rfl
  · rename_i xs0 k0
    obtain ⟨z1, z2, z3, w⟩ := w
    obtain ⟨a, xs, e1, h1, q1⟩ := bd.lstE hv
    subst e1
    cases be.intE
    refine op_rep pins s σ H _ _ v u Q I rx ry ⟨a, _, xs, rfl, rfl, h1, z1, z2, by rw [q1.length]; exact z3, fun p hp => ?_⟩
    have g := Gw.mut (.lst (List.replicate k0.toNat xs).flatten) hv hp
    refine w _ _ _ g (.inl ⟨p, _, rfl, hp, ?_, upd_same, .lst (q1.rep _)⟩)
    cases e : J p with
    | none => rfl
    | some o => rw [hv.sub p o e] at hp; cases hp
  · cases bd.intE; cases be.intE
    exact op_fdivW pins s σ H _ _ v u Q I rx ry ⟨_, _, rfl, rfl, wide_div (b := 64) w.1.1 (by have h1 := w.1.1; have h2 := w.1.2; omega) (by decide) (by decide), w.2 _ J H (Gw.refl hv) (.inr ⟨.int _, rfl⟩)⟩
  · cases bd.intE; cases be.intE
    exact op_mod pins s σ H _ _ v u Q I rx ry ⟨_, _, rfl, rfl, w.1, w.2 _ J H (Gw.refl hv) (.inr ⟨.int _, rfl⟩)⟩
  · cases bd.intE; cases be.intE
    exact op_pow pins s σ H _ _ v u Q I rx ry ⟨_, _, rfl, rfl, w.1, w.2 _ J H (Gw.refl hv) (.inr ⟨.int _, rfl⟩)⟩
  · exact w.elim
theorem eqOk_or {d e : PyData} (h : eqOk d e = true) : (SeqAt.shaped d = true ∧ SeqAt.shaped e = true) ∨ (∃ xs, d = .tuple xs ∧ e = .tuple []) ∨ ∃ xs, d = .list xs ∧ e = .list [] := by
  unfold eqOk at h
  rw [Bool.or_eq_true, Bool.and_eq_true] at h
  rcases h with h | h
  · exact .inl h
  · unfold nilSame at h
    split at h
    · exact .inr (.inl ⟨_, rfl, rfl⟩)
    · exact .inr (.inr ⟨_, rfl, rfl⟩)
    · cases h
theorem nil_eqv {xs : List PyData} {n : Nat} (h : n = xs.length) : ((List.range (min n (#[] : Array Value).size)).all (fun _ => true) && n == (#[] : Array Value).size) = PyData.eqv (.tuple xs) (.tuple []) := by
  subst h
  cases xs <;> simp [PyData.eqv, PyData.eqvAll]
theorem op_cmp {op : CmpOp} (hu : X.A.units + 65 < cLine) : OpR X (compareOp op) (rW X.K T .st (cmpW op)) := by
  intro pins s σ H x y v u Q I rx ry h
  obtain ⟨bx, J, d, e, hv, bd, be, w⟩ := h
  unfold cmpW at w
  split at w
  · obtain ⟨w0, w⟩ := w
    rcases eqOk_or w0 with ⟨w1, w2⟩ | ⟨xs, e1, e2⟩ | ⟨xs, e1, e2⟩
    · exact op_eqD (by omega) pins s σ H _ _ v u Q I rx ry ⟨_, _, bd.dp hv (lay_of w1), be.dp hv (lay_of w2), w1, w2, w _ J H (Gw.refl hv) (.bl _)⟩
    · subst e1 e2
      obtain ⟨a1, vs, rfl, k1, q1⟩ := bd.tupE
      obtain ⟨a2, us, rfl, k2, q2⟩ := be.tupE
      cases q2
      cases rx; cases ry
      obtain ⟨its, rv, p1, z1⟩ := I.tuple (SqT.sub hv.sub k1)
      obtain ⟨it2, rv2, p2, z2⟩ := I.tuple (SqT.sub hv.sub k2)
      cases rv2
      have hl := rv.length
      have hl2 := q1.length
      refine SeqAt.eq_tupleAt (e := fun _ => true) p1 p2 (by omega) (fun j h1 h2 => by simp at h2) ⟨.bl _, H, I, rfl, ?_⟩
      have e3 : ((List.range (min its.toArray.size (#[] : Array Value).size)).all (fun _ => true) && its.toArray.size == (#[] : Array Value).size) = PyData.eqv (.tuple xs) (.tuple []) := nil_eqv (by simp; omega)
      rw [e3]
      exact w _ J H (Gw.refl hv) (.bl _)
    · subst e1 e2
      obtain ⟨a1, vs, rfl, k1, q1⟩ := bd.lstE hv
      obtain ⟨a2, us, rfl, k2, q2⟩ := be.lstE hv
      cases q2
      cases rx; cases ry
      obtain ⟨its, rv, p1, z1⟩ := I.list (SqL.of k1)
      obtain ⟨it2, rv2, p2, z2⟩ := I.list (SqL.of k2)
      cases rv2
      have hl := rv.length
      have hl2 := q1.length
      have qq := w _ J H (Gw.refl hv) (.bl _)
      by_cases hz : its.length = 0
      · refine SeqAt.eq_listAt (e := fun _ => true) p1.isList p2.isList (by simpa using hz) (by omega) (fun j h1 h2 => by simp at h2) ⟨.bl _, H, I, rfl, ?_⟩
        have e3 : ((List.range its.toArray.size).all fun _ => true) = PyData.eqv (.list xs) (.list []) := by
          have : xs = [] := List.length_eq_zero_iff.mp (by omega)
          subst this; simp [PyData.eqv, PyData.eqvAll]
        rw [e3]; exact qq
      · refine SeqAt.eq_list_lengthsAt p1.isList p2.isList (by simpa using hz) (by omega) ⟨.bl false, H, I, rfl, ?_⟩
        have e3 : PyData.eqv (.list xs) (.list []) = false := by
          cases xs with
          | nil => exact absurd (hl.symm.trans hl2) hz
          | cons x r => simp [PyData.eqv, PyData.eqvAll]
        rw [e3] at qq; exact qq
  · obtain ⟨w0, w⟩ := w
    rcases eqOk_or w0 with ⟨w1, w2⟩ | ⟨xs, e1, e2⟩ | ⟨xs, e1, e2⟩
    · exact op_neD (by omega) pins s σ H _ _ v u Q I rx ry ⟨_, _, bd.dp hv (lay_of w1), be.dp hv (lay_of w2), w1, w2, w _ J H (Gw.refl hv) (.bl _)⟩
    · subst e1 e2
      obtain ⟨a1, vs, rfl, k1, q1⟩ := bd.tupE
      obtain ⟨a2, us, rfl, k2, q2⟩ := be.tupE
      cases q2
      cases rx; cases ry
      obtain ⟨its, rv, p1, z1⟩ := I.tuple (SqT.sub hv.sub k1)
      obtain ⟨it2, rv2, p2, z2⟩ := I.tuple (SqT.sub hv.sub k2)
      cases rv2
      have hl := rv.length
      have hl2 := q1.length
      refine SeqAt.RcNeAt.tuples (e := fun _ => true) p1 p2 (by omega) (fun j h1 h2 => by simp at h2) _ _ _ _ ⟨.bl _, H, I, rfl, ?_⟩
      have e3 : ((List.range (min its.toArray.size (#[] : Array Value).size)).all (fun _ => true) && its.toArray.size == (#[] : Array Value).size) = PyData.eqv (.tuple xs) (.tuple []) := nil_eqv (by simp; omega)
      rw [e3]
      exact w _ J H (Gw.refl hv) (.bl _)
    · subst e1 e2
      obtain ⟨a1, vs, rfl, k1, q1⟩ := bd.lstE hv
      obtain ⟨a2, us, rfl, k2, q2⟩ := be.lstE hv
      cases q2
      cases rx; cases ry
      obtain ⟨its, rv, p1, z1⟩ := I.list (SqL.of k1)
      obtain ⟨it2, rv2, p2, z2⟩ := I.list (SqL.of k2)
      cases rv2
      have hl := rv.length
      have hl2 := q1.length
      have qq := w _ J H (Gw.refl hv) (.bl _)
      by_cases hz : its.length = 0
      · refine SeqAt.RcNeAt.lists (e := fun _ => true) p1.isList p2.isList (by simpa using hz) (by omega) (fun j h1 h2 => by simp at h2) _ _ _ _ ⟨.bl _, H, I, rfl, ?_⟩
        have e3 : ((List.range its.toArray.size).all fun _ => true) = PyData.eqv (.list xs) (.list []) := by
          have : xs = [] := List.length_eq_zero_iff.mp (by omega)
          subst this; simp [PyData.eqv, PyData.eqvAll]
        rw [e3]; exact qq
      · refine SeqAt.RcNeAt.lists_lengths p1.isList p2.isList (by simpa using hz) (by omega) _ _ _ _ ⟨.bl true, H, I, rfl, ?_⟩
        have e3 : PyData.eqv (.list xs) (.list []) = false := by
          cases xs with
          | nil => exact absurd (hl.symm.trans hl2) hz
          | cons x r => simp [PyData.eqv, PyData.eqvAll]
        rw [e3] at qq; exact qq
  · cases bd.intE; cases be.intE
    exact op_lt pins s σ H _ _ v u Q I rx ry ⟨_, _, rfl, rfl, w _ J H (Gw.refl hv) (.bl _)⟩
  · rcases w with ⟨ns, ms, rfl, rfl, w⟩ | ⟨⟨ox, oy, hal, hdp⟩, w⟩
    · obtain ⟨a1, vs, rfl, k1, q1⟩ := bd.tupE
      obtain ⟨a2, us, rfl, k2, q2⟩ := be.tupE
      cases q1.ints; cases q2.ints
      exact op_ltT (by omega) pins s σ H _ _ v u Q I rx ry ⟨_, _, _, _, rfl, rfl, SqT.sub hv.sub k1, SqT.sub hv.sub k2, w _ J H (Gw.refl hv) (.bl _)⟩
    · obtain ⟨a1, vs, rfl, k1, q1⟩ := bd.tupQ
      obtain ⟨a2, us, rfl, k2, q2⟩ := be.tupQ
      obtain ⟨as, r1⟩ := reads_of I _ _ v (by simpa [okN] using ox) (.tup (Tq.sub hv.sub k1) (q1.sub hv.sub)) rx
      obtain ⟨bs, r2⟩ := reads_of I _ _ u (by simpa [okN] using oy) (.tup (Tq.sub hv.sub k2) (q2.sub hv.sub)) ry
      refine PySem.W.lt_data r1 r2 (by simpa [PySem.W.alike] using hal) (fun z => nomatch z) ?_ ⟨.bl _, H, I, rfl, w _ J H (Gw.refl hv) (.bl _)⟩
      simp only [PyData.depth]
      omega
  · cases bd.intE; cases be.intE
    exact op_le pins s σ H _ _ v u Q I rx ry ⟨_, _, rfl, rfl, w _ J H (Gw.refl hv) (.bl _)⟩
  · cases bd.intE; cases be.intE
    exact op_gt pins s σ H _ _ v u Q I rx ry ⟨_, _, rfl, rfl, w _ J H (Gw.refl hv) (.bl _)⟩
  · cases bd.intE; cases be.intE
    exact op_ge pins s σ H _ _ v u Q I rx ry ⟨_, _, rfl, rfl, w _ J H (Gw.refl hv) (.bl _)⟩
  · obtain ⟨⟨ox, oy, hal, hdp⟩, w⟩ := w
    obtain ⟨a1, vs, rfl, k1, q1⟩ := bd.tupQ
    obtain ⟨a2, us, rfl, k2, q2⟩ := be.tupQ
    obtain ⟨as, r1⟩ := reads_of I _ _ v (by simpa [okN] using ox) (.tup (Tq.sub hv.sub k1) (q1.sub hv.sub)) rx
    obtain ⟨bs, r2⟩ := reads_of I _ _ u (by simpa [okN] using oy) (.tup (Tq.sub hv.sub k2) (q2.sub hv.sub)) ry
    refine PySem.W.ge_data r1 r2 (by simpa [PySem.W.alike] using hal) (fun z => nomatch z) ?_ ⟨.bl _, H, I, rfl, w _ J H (Gw.refl hv) (.bl _)⟩
    simp only [PyData.depth]
    omega
  · cases be.nonE
    exact op_isN pins s σ H _ _ v u Q I rx ry ⟨rfl, by rw [bd.isNon]; exact w _ J H (Gw.refl hv) (.bl _)⟩
  · cases be.nonE
    exact op_notN pins s σ H _ _ v u Q I rx ry ⟨rfl, by rw [bd.isNon]; exact w _ J H (Gw.refl hv) (.bl _)⟩
  · cases bd.blE; cases be.blE
    exact op_is_bl pins s σ H _ _ v u Q I rx ry ⟨_, _, rfl, rfl, w _ J H (Gw.refl hv) (.bl _)⟩
  · cases bd.blE; cases be.blE
    exact op_isnot_bl pins s σ H _ _ v u Q I rx ry ⟨_, _, rfl, rfl, w _ J H (Gw.refl hv) (.bl _)⟩
  · exact op_inD hu pins s σ H _ _ v u Q I rx ry ⟨_, _, bd.dp hv (lay_of w.1), be.dp hv (lay_of w.2.1), w.1, w.2.1, w.2.2 _ J H (Gw.refl hv) (.bl _)⟩
  · obtain ⟨as, r1⟩ := Dp.reads I _ x v (bd.dp hv (lay_of w.1)) rx
    obtain ⟨bs, r2⟩ := Dp.reads I _ y u (be.dp hv (lay_of w.2.1)) ry
    exact SeqAt.in_tuple_reads r2 r1 (SeqAt.canLay_of_shaped w.2.1) (SeqAt.canLay_of_shaped w.1) (room_in_shaped w.1 hu) ⟨.bl _, H, I, rfl, w.2.2 _ J H (Gw.refl hv) (.bl _)⟩
  · exact op_notInD hu pins s σ H _ _ v u Q I rx ry ⟨_, _, bd.dp hv (lay_of w.1), be.dp hv (lay_of w.2.1), w.1, w.2.1, w.2.2 _ J H (Gw.refl hv) (.bl _)⟩
  · obtain ⟨as, r1⟩ := Dp.reads I _ x v (bd.dp hv (lay_of w.1)) rx
    obtain ⟨bs, r2⟩ := Dp.reads I _ y u (be.dp hv (lay_of w.2.1)) ry
    exact SeqAt.notIn_tuple_reads r2 r1 (SeqAt.canLay_of_shaped w.2.1) (SeqAt.canLay_of_shaped w.1) (room_in_shaped w.1 hu) ⟨.bl _, H, I, rfl, w.2.2 _ J H (Gw.refl hv) (.bl _)⟩
  · obtain ⟨w1, w⟩ := w
    obtain ⟨a, rfl, dc⟩ := be.dicE hv
    cases ry
    exact ev_in hu I hv w1 bd rx dc fun s' I' => ⟨.bl _, H, I', rfl, w _ J H (Gw.refl hv) (.bl _)⟩
  · obtain ⟨w1, w⟩ := w
    obtain ⟨a, rfl, dc⟩ := be.dicE hv
    cases ry
    exact ev_notIn hu I hv w1 bd rx dc fun s' I' => ⟨.bl _, H, I', rfl, w _ J H (Gw.refl hv) (.bl _)⟩
  · exact w.elim
end
end Ef

end

section
set_option autoImplicit false
namespace Ef
open PySem L2 PySem.Spec PyProof.Rows
open Sem (wp)
/-! ### a, b = a list -/
section
variable {prog : Program} {w : World} {A : Around} {E : Value → Shared → Prop} {s : Shared}
theorem draw_lst {it t : Addr} {items : Array Value} (hne : t ≠ it) : ∀ (n i : Nat) (s : Shared) (Q : List Value → Shared → Prop), s.heap.IsListIter it t i → s.heap.IsList t items → i + n ≤ items.size →
    (∀ h', Heap.IsListIter h' it t (i + n) → Heap.SameBut it s.heap h' → Q ((items.toList.drop i).take n) { s with heap := h' }) → wpAny (model prog w) A (draw (.ref it) n) Q E s
  | 0, i, s, Q, hit, _, _, hQ => by
    show wpAny _ _ (pure []) Q E s
    exact wpAny_pure (by simpa using hQ s.heap hit (Heap.SameBut.refl ..))
  | n + 1, i, s, Q, hit, ht, hle, hQ => by
    have hlt : i < items.size := by omega
    show wpAny _ _ (pyNext (.ref it) >>= _) Q E s
    refine wpAny_bind (wpAny_pyNext_list_item hit ht (x := items[i]) (by simp [hlt]) fun h₁ hit₁ hs₁ => ?_)
    refine wpAny_bind (wpAny_holding (draw_lst hne n (i + 1) _ _ hit₁ (ht.extBut hs₁.extBut hne) (by omega) fun h₂ hit₂ hs₂ => wpAny_pure ?_))
    have hd : items.toList.drop i = items[i] :: items.toList.drop (i + 1) := by simp [List.drop_eq_getElem_cons, hlt]
    have := hQ h₂ (by rw [show i + (n + 1) = i + 1 + n by omega]; exact hit₂) (hs₁.trans hs₂)
    rw [hd, List.take_succ_cons] at this
    exact this
theorem unpackItems_lst {t : Addr} {items : Array Value} {Q : List Value → Shared → Prop} (hh : A.handled = none) (ht : s.heap.IsList t items)
    (hQ : ∀ h', Heap.ExtBut s.heap.objs.size s.heap h' → Q items.toList { s with heap := h' }) : wpAny (model prog w) A (unpackItems (.ref t) items.size none) Q E s := by
  have hlt : t ≠ s.heap.objs.size := by obtain ⟨o, ho, _⟩ := ht; exact Nat.ne_of_lt (Heap.lt_size ho)
  unfold unpackItems
  refine wpAny_bind ?_
  · unfold notIterableAtAll
    refine wpAny_bind (wpAny_specialOf ht.typeIs slot_list_iter.lookup ?_)
    refine wpAny_pure ?_
    simp only [Bool.false_eq_true, if_false]
    refine wpAny_bind (wpAny_holding (wpAny_pyIter_list ht ?_))
    refine wpAny_bind (wpAny_holding (draw_lst hlt items.size 0 _ _ ⟨_, Heap.get?_push_size _ rfl, rfl, rfl⟩ (ht.push _) (by omega) fun h₁ hit₁ hs₁ => ?_))
    have hall : List.take items.size (List.drop 0 items.toList) = items.toList := by
      rw [List.drop_zero]; exact List.take_of_length_le (by simp)
    rw [hall]
    rw [if_neg (by simp)]
    have ht₁ : Heap.IsList h₁ t items := (ht.push _).extBut hs₁.extBut hlt
    refine wpAny_bind (wpAny_holding (wpAny_pyNext_list_end hh hit₁ ht₁ (by simp) fun h₂ he₂ => ?_))
    simp only [Option.isSome_none, Bool.false_eq_true, if_false]
    refine wpAny_pure (hQ h₂ fun b o hb e => he₂ b o hb (hs₁.extBut b o hb (Heap.get?_push_of_some _ e)))
theorem assign_Tuple_lst {env : Env} {elts : List Expr} {x1} {pos : Pos} {t : Addr} {items : Array Value} {Q : Unit → Shared → Prop} (hh : A.handled = none) (ht : s.heap.IsList t items)
    (hn : (assignEach elts env).length = items.size) (hstar : (assignEach elts env).findIdx? (·.1) = none)
    (h : ∀ h', Heap.ExtBut s.heap.objs.size s.heap h' → wpAny (model prog w) A (assignInOrder ((assignEach elts env).map (·.2)) items.toList) Q E { s with heap := h' }) :
    wpAny (model prog w) A (assign (.Tuple elts x1 pos) env (.ref t)) Q E s := by
  rw [assign_Tuple]
  refine wpAny_bind (wpAny_standAt ?_)
  unfold unpack
  rw [hn, hstar]
  exact wpAny_bind (wpAny_holding (unpackItems_lst hh ht h))
end
section
variable {X : Cx} {pos : Pos}
/-- (a, b, ..) = a tuple or a list of that length -/
def gSeq (K : PySem.W.Frag) (n : Nat) (t : TGs) : TG := fun v σ H Q => ∃ a xs, v = .ref a ∧ (SqT K H a xs ∨ SqL K H a xs) ∧ xs.length = n ∧ t xs σ H Q
theorem pg_seq {es : List Expr} {k : Nat} {t : TGs} {n : Nat} (hc : X.calm = true) (h : PGs X es t)
    (hn : (assignEach es X.env).length = n := by rfl) (hst : (assignEach es X.env).findIdx? (·.1) = none := by rfl) : PG X (.Tuple es k pos) (gSeq X.K n t) := by
  refine ⟨fun pins s σ H v u Q I r hw => ?_⟩
  obtain ⟨a, xs, e1, hq | hq, hl, hw⟩ := hw
  · exact (pg_tup (k := k) (pos := pos) hc h hn hst).run pins s σ H v u Q I r ⟨a, xs, e1, hq, hl, hw⟩
  · subst e1
    cases r
    obtain ⟨its, rv, ht, hz⟩ := I.list hq
    refine assign_Tuple_lst (I.ok.hd hc) ht.isList (by simp [hn, ← hl, rv.length]) hst fun h' hx => ?_
    have I1 : Inv X pins σ H { s with heap := h' } := I.kept (t' := s.toks) fun b o e => hx b o (Nat.ne_of_lt (Heap.lt_size e)) e
    exact h.run pins _ σ H xs _ Q I1 (by simpa using rv) hw
end
/-! ### sum of a tuple -/
section
variable {prog : Program} {w : World} {A : Around} {E : Value → Shared → Prop} {s : Shared} {l : Addr} {its : List Value} {ns : List Int} {Q : Value → Shared → Prop}
theorem sum_rawT (hh : A.handled = none) (hl : s.heap.IsTuple l its.toArray) (hi : IntsAre its ns)
    (h : ∀ h' tk t', (∀ b o, s.heap.get? b = some o → h'.get? b = some o) → Q (.int ns.sum t') { s with heap := h', toks := tk }) : wpAny (model prog w) A (call (.builtin "sum") [.ref l]) Q E s := by
  obtain ⟨xs, e⟩ := hi.allInts.items
  have hn : numsOf (intItems xs).toList = ns := by rw [← e]; exact hi.numsOf
  rw [nums_intItems] at hn
  rw [e] at hl
  have hlt : l < s.heap.objs.size := by obtain ⟨_, z, _⟩ := hl; exact Heap.lt_size z
  refine call_sum_walkG (wpAny_pyIter_tuple hl ?_)
  refine ⟨_, _, _, _, _, _, numAt xs, rfl, Walks.tuple (A := A.in1) hh _ l (Nat.ne_of_lt hlt) (intItems xs), ⟨⟨_, Heap.get?_push_size _ rfl, rfl, rfl⟩, hl.push _⟩, fun b hb => ?_, (fun _ _ => intItems_at), fun h' tk t' hk => ?_⟩
  · show b < (s.heap.push _).objs.size
    rw [Heap.size_push]
    rcases List.mem_cons.mp hb with rfl | hb
    · exact Nat.lt_succ_self _
    · rcases List.mem_cons.mp hb with rfl | hb
      · exact Nat.lt_succ_of_lt hlt
      · cases hb
  · have := h h' tk t' fun b o z => hk b o (fun hb => absurd (Heap.lt_size z) ((List.mem_singleton.mp hb) ▸ Nat.lt_irrefl _)) (Heap.get?_push_of_some _ z)
    rw [← hn] at this
    have e3 : preSum (numAt xs) (intItems xs).size = (xs.toList.map (·.1)).sum := by
      have e4 : (intItems xs).size = xs.size := by simp [intItems]
      rw [e4, preSum_eq, List.take_of_length_le (by simp)]
    rw [e3]
    exact this
end
section
variable {X : Cx}
def rSumT (K : PySem.W.Frag) : List V → Hp → VK → Prop := fun vs H Q => ∃ (a : Addr) (ns : List Int), vs = [V.ref a] ∧ SqT K H a (ns.map V.int) ∧ Q (.int ns.sum) H
theorem cr_sumT (hc : X.calm = true) : CallR X (.builtin "sum") (rSumT X.K) := by
  intro pins s σ H vs us Q I r h
  obtain ⟨a, ns, rfl, hs, q⟩ := h
  obtain ⟨its, rv, hl, _⟩ := I.tuple hs
  rw [Vals.ref1 r]
  exact sum_rawT (I.ok.hd hc) hl rv.ints fun h' tk t' hk => ⟨.int _, H, I.kept hk, ⟨_, rfl⟩, q⟩
end
end Ef

end

section
set_option autoImplicit false
namespace Ef
open PySem L2 PySem.Spec PyProof.Rows
section
variable {X : Cx} {T : BoxT}
/-! ### built-in functions -/
def Bf.val : Bf → Value
  | .len => .builtin "len" | .abs => .builtin "abs" | .int => .type "int" | .bool => .type "bool" | .tuple => .type "tuple" | .list => .type "list" | .repr => .builtin "repr" | .all => .builtin "all" | .any => .builtin "any" | .min => .builtin "min" | .max => .builtin "max" | .sum => .builtin "sum"
def Bf.md : Bf → Md
  | .list => .fr
  | _ => .st
def rB (K : PySem.W.Frag) (T : BoxT) (f : Bf) : List V → Hp → VK → Prop := fun vs H Q => ∃ bx I ds, Hv T bx I H ∧ BoAll K bx I H vs ds ∧ bltW f ds fun z => ∀ v I' H', Gw T bx I H I' H' → Vl K bx H I' H' f.md v z → Q v H'
theorem BoAll.one {K : PySem.W.Frag} {bx : Bx} {I H : Hp} {vs : List V} {d : PyData} (h : BoAll K bx I H vs [d]) : ∃ v, vs = [v] ∧ Bo K bx I H v d := by
  cases h with
  | cons h q => cases q; exact ⟨_, rfl, h⟩
theorem BoAll.two {K : PySem.W.Frag} {bx : Bx} {I H : Hp} {vs : List V} {d e : PyData} (h : BoAll K bx I H vs [d, e]) : ∃ v u, vs = [v, u] ∧ Bo K bx I H v d ∧ Bo K bx I H u e := by
  cases h with
  | cons h q =>
    cases q with
    | cons h2 q => cases q; exact ⟨_, _, rfl, h, h2⟩
theorem repr_any {s : Shared} {u : Value} {d : PyData} {as : List Addr} {P : Program} {w : World} {A : Around} {E : Value → Shared → Prop} {Q : Value → Shared → Prop} (r : Reads s.heap u d as) (hs : d.showable = true) (hd : SeqAt.shaped d = true) (hz : d.shown.length ≤ sizeLine) (hg : A.guards = some []) (hu : A.units + 65 < cLine)
    (hQ : ∀ h' t tk, (∀ b o, s.heap.get? b = some o → h'.get? b = some o) → Q (.str d.shown t) { s with heap := h', toks := tk }) : wpAny (model P w) A (call (.builtin "repr") [u]) Q E s := by
  have hdep := SeqAt.depth_of_shaped hd
  have hnd : d.hasDict = false := PyData.hasDict_of_canLay d (SeqAt.canLay_of_shaped hd)
  cases r with
  | none => exact PySem.P.repr_of_none (by have := hQ s.heap s.toks (s.toks + 1) (fun _ _ e => e); simpa [PyData.shown] using this)
  | bool b => exact PySem.P.repr_of_bool (by have := hQ s.heap s.toks (s.toks + 1) (fun _ _ e => e); simpa [PyData.shown] using this)
  | int i t => exact PySem.P.repr_of_int (by simpa [PyData.showable] using hs) (by have := hQ s.heap s.toks (s.toks + 1) (fun _ _ e => e); simpa [PyData.shown] using this)
  | str x t => exact PySem.P.repr_of_str (by have := hQ s.heap s.toks (s.toks + 1) (fun _ _ e => e); simpa [PyData.shown] using this) (by simpa [PyData.shown] using hz)
  | list h1 h2 h3 h4 => exact repr_of_reads' (.list h1 h2 h3 h4) hs (PyData.noDict_hsm hnd) hg (by omega) (fun _ _ e => e) hQ hz
  | tuple h1 h2 h3 h4 => exact repr_of_reads' (.tuple h1 h2 h3 h4) hs (PyData.noDict_hsm hnd) hg (by omega) (fun _ _ e => e) hQ hz
  | dict h1 h2 h3 h4 h5 => simp [PyData.hasDict] at hnd
theorem Bo.dqH {K : PySem.W.Frag} {bx : Bx} {I H : Hp} (hv : Hv T bx I H) {v d} (b : Bo K bx I H v d) : Dq K H v d := by
  rcases b with b | ⟨a, u, e1, h, q, n⟩
  · exact b.sub hv.sub
  · subst e1
    cases q with
    | lst q => exact .lst h (q.sub hv.sub)
    | dic n q => exact .dic h n (q.sub hv.sub)
    | dcn q => exact .dcn h (q.sub hv.sub)
/-- what repr asks of a value that is data: lists, tuples and dicts, mixed -/
structure Rk (P : Program) (w : World) (h : Heap) (d : PyData) (u : Value) : Prop where
  rd : ∃ as, Reads h u d as
  nest : ∃ bs, ReadAtMost h d.depth bs ∧ ReprK P w bs h d.depth u d.shown
  top : ∀ (A : Around) (E : Value → Shared → Prop) (s : Shared) (Q : Value → Shared → Prop), A.guards = some [] → A.units + (d.depth + 1) < cLine → (∀ b o, h.get? b = some o → s.heap.get? b = some o) →
    (∀ h' t tk, (∀ b o, s.heap.get? b = some o → h'.get? b = some o) → Q (.str d.shown t) { s with heap := h', toks := tk }) → wpAny (model P w) A (call (.builtin "repr") [u]) Q E s
structure RkAll (P : Program) (w : World) (h : Heap) (ds : List PyData) (us : List Value) : Prop where
  rd : ∃ as, ReadsAll h us ds as
  nest : ∃ bs, ReadAtMost h (PyData.depthAll ds) bs ∧ ReprAllK P w bs h (PyData.depthAll ds) us (PyData.shownAll ds)
theorem Rk.cons {P : Program} {w : World} {h : Heap} {d : PyData} {ds : List PyData} {u : Value} {us : List Value} (r : Rk P w h d u) (q : RkAll P w h ds us) : RkAll P w h (d :: ds) (u :: us) := by
  obtain ⟨as, r1⟩ := r.rd
  obtain ⟨bs, r2⟩ := q.rd
  obtain ⟨b1, m1, k1⟩ := r.nest
  obtain ⟨b2, m2, k2⟩ := q.nest
  refine ⟨⟨_, .cons r1 r2⟩, b1 ++ b2, ?_, ?_⟩
  · simp only [PyData.depthAll]
    exact (m1.mono (Nat.le_max_left _ _)).append (m2.mono (Nat.le_max_right _ _))
  · simp only [PyData.depthAll, PyData.shownAll]
    exact .cons ((k1.more fun b hb => List.mem_append_left _ hb).level_le (Nat.le_max_left _ _)) (k2.more_le (fun b hb => List.mem_append_right _ hb) (Nat.le_max_right _ _))
theorem Rk.small {P : Program} {w : World} {h : Heap} {d : PyData} {u : Value} {as : List Addr} (r : Reads h u d as) (hs : d.showable = true) (hn : d.hasDict = false) (hz : d.shown.length ≤ sizeLine) (t : ∀ (A : Around) (E : Value → Shared → Prop) (s : Shared) (Q : Value → Shared → Prop), (∀ t, Q (.str d.shown t) { s with toks := s.toks + 1 }) → wpAny (model P w) A (call (.builtin "repr") [u]) Q E s) : Rk P w h d u :=
  ⟨⟨_, r⟩, ReprK.of_reads r hs (PyData.noDict_hsm hn) hz, fun A E s Q _ _ _ hQ => t A E s Q fun t => hQ s.heap t _ fun _ _ e => e⟩
theorem rk_dict {P : Program} {w : World} {h : Heap} {a : Addr} {o : Obj} {es : Array DictEntry} {ep : Nat} {kvs : List (PyData × PyData)} (ho : h.get? a = some o) (hx : o.ExactDict) (hd : o.data = .dict es ep) (hm : (a == sysModules) = false) (hz' : (dictText (PyData.shownKv kvs)).length ≤ sizeLine)
    (q1 : RkAll P w h (kvs.map (·.1)) (es.toList.map (·.key))) (q2 : RkAll P w h (kvs.map (·.2)) (es.toList.map (·.val))) : Rk P w h (.dict kvs) (.ref a) := by
  obtain ⟨⟨as, r1⟩, b1, hb1, k1⟩ := q1
  obtain ⟨⟨bs, r2⟩, b2, hb2, k2⟩ := q2
  have r : Reads h (.ref a) (.dict kvs) _ := .dict ho hx.1 hd r1 r2
  have hb : ReadAtMost h (PyData.depthKv kvs) (b1 ++ b2) := (hb1.mono (PyData.depthAll_keys_le kvs)).append (hb2.mono (PyData.depthAll_vals_le kvs))
  have hna : a ∉ b1 ++ b2 := not_mem_of_deeper r (by simp only [PyData.depth]; omega) hb
  have hE := ReprEntriesK.of_two es.toList _ _ (k1.more_le (fun b hb => List.mem_append_left b2 hb) (PyData.depthAll_keys_le kvs)) (k2.more_le (fun b hb => List.mem_append_right b1 hb) (PyData.depthAll_vals_le kvs))
  refine ⟨⟨_, r⟩, ⟨a :: (b1 ++ b2), ReadAtMost.cons r (by simp only [PyData.depth]; omega) hb, ?_⟩, fun A E s1 Q hg hu hk0 hQ => ?_⟩
  · simp only [PyData.depth, PyData.shown, PyData.shownKv_eq]
    exact ReprK.dict ho hx.1 hd hm hna hE
  · simp only [PyData.depth] at hu
    simp only [PyData.shown, PyData.shownKv_eq] at hQ
    exact call_repr_slot (by omega) ⟨o, hk0 _ _ ho, hx.1⟩ F.slot_dict_repr (call_dict_reprK ho hx.1 hd hm hna hE (A := A.in1) hg (fun b _ => Clear.nil b) (by show A.units + 1 + _ < cLine; omega) hk0 (fun h' u tk hk => ⟨_, _, rfl, hQ h' u tk hk⟩) (by rw [← PyData.shownKv_eq]; exact hz'))
mutual
theorem Dq.rk {pins : List (Addr × Obj)} {σ : L2.St} {H : Hp} {s : Shared} (I : Inv X pins σ H s) : ∀ (d : PyData) (v : V) (u : Value), Dq X.K H v d → RelV v u → d.showable = true → d.shown.length ≤ sizeLine → Rk X.prog X.w s.heap d u
  | .none, _, _, h, r, hs, hz => by
    cases h
    cases r
    exact Rk.small .none hs rfl hz fun A E s Q q => PySem.P.repr_of_none (by simpa [PyData.shown] using q s.toks)
  | .bool b, _, _, h, r, hs, hz => by
    cases h
    cases r
    exact Rk.small (.bool b) hs rfl hz fun A E s Q q => PySem.P.repr_of_bool (by simpa [PyData.shown] using q s.toks)
  | .int i, _, _, h, r, hs, hz => by
    cases h
    obtain ⟨t, rfl⟩ := r
    exact Rk.small (.int i t) hs rfl hz fun A E s Q q => PySem.P.repr_of_int (by simpa [PyData.showable] using hs) (by simpa [PyData.shown] using q s.toks)
  | .str x, _, _, h, r, hs, hz => by
    cases h
    obtain ⟨t, rfl⟩ := r
    exact Rk.small (.str x t) hs rfl hz fun A E s Q q => PySem.P.repr_of_str (by simpa [PyData.shown] using q s.toks) (by simpa [PyData.shown] using hz)
  | .list ds, _, _, h, r, hs, hz => by
    cases h with
    | lst hl ha =>
      cases r
      rename_i a xs
      have hz' : (listText (PyData.shownAll ds)).length ≤ sizeLine := by simpa only [PyData.shown] using hz
      obtain ⟨its, rv, ⟨o, n, ho, hc, _, hd⟩, _⟩ := I.list (SqL.of hl)
      obtain ⟨⟨as, ra⟩, bs, hb, hk⟩ := Dq.rkAll I ds _ its ha rv (by simpa [PyData.showable] using hs) (fun t ht => Nat.le_trans (listText_mem_le ht) hz')
      have r : Reads s.heap (.ref a) (.list ds) _ := .list ho hc hd ra
      have hna : a ∉ bs := not_mem_of_deeper r (by simp only [PyData.depth]; omega) hb
      cases its with
      | nil =>
        cases ra
        refine ⟨⟨_, r⟩, ReprK.of_reads r hs (PyData.noDict_hsm rfl) hz, fun A E s1 Q hg hu hk0 hQ => ?_⟩
        exact repr_of_reads' r hs (PyData.noDict_hsm rfl) hg hu hk0 hQ hz
      | cons x l =>
        have hlen : (PyData.shownAll ds).length = (x :: l).toArray.size := by simpa using hk.length_eq
        have hit : ∀ (i : Nat) (y : Value), (x :: l).toArray[i]? = some y → ∃ t, (PyData.shownAll ds)[i]? = some t ∧ ReprK X.prog X.w bs s.heap (PyData.depthAll ds) y t := fun i y e => hk.item i y (by simpa using e)
        refine ⟨⟨_, r⟩, ⟨a :: bs, ReadAtMost.cons r (by simp only [PyData.depth]; omega) hb, ?_⟩, fun A E s1 Q hg hu hk0 hQ => ?_⟩
        · simp only [PyData.depth, PyData.shown]
          exact ReprK.list ho hc hd hna hlen hit
        · simp only [PyData.depth] at hu
          simp only [PyData.shown] at hQ
          exact call_repr_slot (by omega) ⟨o, hk0 _ _ ho, hc⟩ F.slot_list_repr.toG (call_list_reprK ho hc hd hna hlen hit (A := A.in1) hg (fun b _ => Clear.nil b) (by show A.units + 1 + _ < cLine; omega) hk0 (fun h' u tk hk => ⟨_, _, rfl, hQ h' u tk hk⟩) hz')
  | .tuple ds, _, _, h, r, hs, hz => by
    cases h with
    | tup hl ha =>
      cases r
      rename_i a xs
      have hz' : (tupleText (PyData.shownAll ds)).length ≤ sizeLine := by simpa only [PyData.shown] using hz
      obtain ⟨its, rv, ⟨o, ho, hc, n, hd⟩, _⟩ := I.tuple hl.sq
      obtain ⟨⟨as, ra⟩, bs, hb, hk⟩ := Dq.rkAll I ds _ its ha rv (by simpa [PyData.showable] using hs) (fun t ht => Nat.le_trans (tupleText_mem_le ht) hz')
      have r : Reads s.heap (.ref a) (.tuple ds) _ := .tuple ho hc hd ra
      have hna : a ∉ bs := not_mem_of_deeper r (by simp only [PyData.depth]; omega) hb
      refine ⟨⟨_, r⟩, ⟨a :: bs, ReadAtMost.cons r (by simp only [PyData.depth]; omega) hb, ?_⟩, fun A E s1 Q hg hu hk0 hQ => ?_⟩
      · simp only [PyData.depth, PyData.shown]
        exact ReprK.tuple ho hc hd hna hk
      · simp only [PyData.depth] at hu
        simp only [PyData.shown] at hQ
        exact call_repr_slot (by omega) ⟨o, hk0 _ _ ho, hc⟩ F.slot_tuple_repr (call_tuple_reprK ho hc hd hna hk (A := A.in1) hg (fun b _ => Clear.nil b) (by show A.units + 1 + _ < cLine; omega) hk0 (fun h' u tk hk => ⟨_, _, rfl, hQ h' u tk hk⟩) hz')
  | .dict kvs, _, _, h, r, hs, hz => by
    cases h with
    | dic hl hn ha =>
      cases r
      rename_i a xs
      have hz' : (dictText (PyData.shownKv kvs)).length ≤ sizeLine := by simpa only [PyData.shown] using hz
      obtain ⟨hs1, hs2⟩ := PyData.showableKv_split kvs (by simpa [PyData.showable] using hs)
      obtain ⟨_, hm, vs, kv, o, es, ep, ho, hx, hd, _, hp, _⟩ := L2.dk_of I.hok hl
      obtain ⟨⟨⟨as, r1⟩, b1, hb1, k1⟩, ⟨⟨bs, r2⟩, b2, hb2, k2⟩⟩ := Dq.rkKv I kvs _ vs es.toList ha kv hp hs1 hs2 (fun t ht => let ⟨p, hp, hl⟩ := PyData.shownKv_key_le kvs t ht; Nat.le_trans hl (Nat.le_trans (dictText_mem_le hp) hz')) (fun t ht => let ⟨p, hp, hl⟩ := PyData.shownKv_val_le kvs t ht; Nat.le_trans hl (Nat.le_trans (dictText_mem_le hp) hz'))
      exact rk_dict ho hx hd hm hz' ⟨⟨as, r1⟩, b1, hb1, k1⟩ ⟨⟨bs, r2⟩, b2, hb2, k2⟩
    | dcn hl ha =>
      cases r
      rename_i a b o xs
      have hz' : (dictText (PyData.shownKv kvs)).length ≤ sizeLine := by simpa only [PyData.shown] using hz
      obtain ⟨hs1, hs2⟩ := PyData.showableKv_split kvs (by simpa [PyData.showable] using hs)
      obtain ⟨_, ho, hm, ⟨hx, ⟨es, ep, hd, he⟩, _⟩, _⟩ := dn_at I hl ha
      have q := Dq.rkNs I kvs xs ha hs1 hs2 (fun t ht => let ⟨p, hp, hl⟩ := PyData.shownKv_key_le kvs t ht; Nat.le_trans hl (Nat.le_trans (dictText_mem_le hp) hz')) (fun t ht => let ⟨p, hp, hl⟩ := PyData.shownKv_val_le kvs t ht; Nat.le_trans hl (Nat.le_trans (dictText_mem_le hp) hz'))
      rw [← he] at q
      exact rk_dict ho hx hd hm hz' q.1 q.2
theorem Dq.rkAll {pins : List (Addr × Obj)} {σ : L2.St} {H : Hp} {s : Shared} (I : Inv X pins σ H s) : ∀ (ds : List PyData) (vs : List V) (us : List Value), DqAll X.K H vs ds → Vals vs us → PyData.showableAll ds = true → (∀ t ∈ PyData.shownAll ds, t.length ≤ sizeLine) → RkAll X.prog X.w s.heap ds us
  | [], _, _, h, r, _, _ => by
    cases h
    cases r
    exact ⟨⟨_, .nil⟩, [], (fun _ h => nomatch h), by simp only [PyData.shownAll]; exact .nil⟩
  | d :: ds, _, _, h, r, hs, hz => by
    cases h with
    | cons h1 h2 =>
      cases r with
      | cons r1 r2 =>
        have hs' : d.showable = true ∧ PyData.showableAll ds = true := by simpa [PyData.showableAll] using hs
        exact Rk.cons (Dq.rk I d _ _ h1 r1 hs'.1 (hz _ (by simp only [PyData.shownAll]; exact List.mem_cons_self ..))) (Dq.rkAll I ds _ _ h2 r2 hs'.2 fun t ht => hz t (by simp only [PyData.shownAll]; exact List.mem_cons_of_mem _ ht))
theorem Dq.rkKv {pins : List (Addr × Obj)} {σ : L2.St} {H : Hp} {s : Shared} (I : Inv X pins σ H s) : ∀ (kvs : List (PyData × PyData)) (xs : List (Key × V)) (vs : List (Key × Value)) (es : List DictEntry), DqKv X.K H xs kvs → KV xs vs → Pairs (mixKind X.prog X.w) es vs →
    PyData.showableAll (kvs.map (·.1)) = true → PyData.showableAll (kvs.map (·.2)) = true → (∀ t ∈ PyData.shownAll (kvs.map (·.1)), t.length ≤ sizeLine) → (∀ t ∈ PyData.shownAll (kvs.map (·.2)), t.length ≤ sizeLine) →
    RkAll X.prog X.w s.heap (kvs.map (·.1)) (es.map (·.key)) ∧ RkAll X.prog X.w s.heap (kvs.map (·.2)) (es.map (·.val))
  | [], _, _, _, h, r, p, _, _, _, _ => by
    cases h
    cases r
    cases p
    exact ⟨⟨⟨_, .nil⟩, [], (fun _ h => nomatch h), .nil⟩, ⟨⟨_, .nil⟩, [], (fun _ h => nomatch h), .nil⟩⟩
  | (k, d) :: kvs, _, _, _, h, r, p, s1, s2, z1, z2 => by
    cases h with
    | cons h1 h2 =>
      cases r with
      | cons r1 r2 =>
        cases p with
        | cons p1 p2 p3 =>
          rename_i kk _ _ _ _ ee _
          simp only [List.map_cons] at s1 s2 z1 z2
          have s1' : (kD kk).showable = true ∧ PyData.showableAll (kvs.map (·.1)) = true := by simpa [PyData.showableAll] using s1
          have s2' : d.showable = true ∧ PyData.showableAll (kvs.map (·.2)) = true := by simpa [PyData.showableAll] using s2
          obtain ⟨e1, rv⟩ := r1
          simp only at e1 rv
          rw [← p2] at rv
          rw [← e1] at p1
          obtain ⟨q1, q2⟩ := Dq.rkKv I kvs _ _ _ h2 r2 p3 s1'.2 s2'.2 (fun t ht => z1 t (by simp only [PyData.shownAll]; exact List.mem_cons_of_mem _ ht)) (fun t ht => z2 t (by simp only [PyData.shownAll]; exact List.mem_cons_of_mem _ ht))
          have hzk : (kD kk).shown.length ≤ sizeLine := z1 _ (by simp only [PyData.shownAll]; exact List.mem_cons_self ..)
          have kr : Rk X.prog X.w s.heap (kD kk) ee.key := by
            rcases keyIs_shape p1 with ⟨i, t, e1, e2⟩ | ⟨x, t, e1, e2⟩
            · subst e1
              rw [e2]
              exact Rk.small (.int i t) s1'.1 rfl hzk fun A E s Q q => PySem.P.repr_of_int (by have := s1'.1; simpa [kD, PyData.showable] using this) (by simpa [kD, PyData.shown] using q s.toks)
            · subst e1
              rw [e2]
              exact Rk.small (.str x t) s1'.1 rfl hzk fun A E s Q q => PySem.P.repr_of_str (by simpa [kD, PyData.shown] using q s.toks) (by simpa [kD, PyData.shown] using hzk)
          exact ⟨Rk.cons kr q1, Rk.cons (Dq.rk I d _ _ h1 rv s2'.1 (z2 _ (by simp only [PyData.shownAll]; exact List.mem_cons_self ..))) q2⟩
theorem Dq.rkNs {pins : List (Addr × Obj)} {σ : L2.St} {H : Hp} {s : Shared} (I : Inv X pins σ H s) : ∀ (kvs : List (PyData × PyData)) (xs : List (NestedKey × Addr × Value)), DqNs X.K H xs kvs →
    PyData.showableAll (kvs.map (·.1)) = true → PyData.showableAll (kvs.map (·.2)) = true → (∀ t ∈ PyData.shownAll (kvs.map (·.1)), t.length ≤ sizeLine) → (∀ t ∈ PyData.shownAll (kvs.map (·.2)), t.length ≤ sizeLine) →
    RkAll X.prog X.w s.heap (kvs.map (·.1)) ((xs.map ent0).map (·.key)) ∧ RkAll X.prog X.w s.heap (kvs.map (·.2)) ((xs.map ent0).map (·.val))
  | [], _, h, _, _, _, _ => by
    cases h
    exact ⟨⟨⟨_, .nil⟩, [], (fun _ h => nomatch h), .nil⟩, ⟨⟨_, .nil⟩, [], (fun _ h => nomatch h), .nil⟩⟩
  | (k, d) :: kvs, _, h, s1, s2, z1, z2 => by
    cases h with
    | cons h1 hk r h2 h3 =>
      simp only [List.map_cons] at s1 s2 z1 z2
      have s1' : k.showable = true ∧ PyData.showableAll (kvs.map (·.1)) = true := by simpa [PyData.showableAll] using s1
      have s2' : d.showable = true ∧ PyData.showableAll (kvs.map (·.2)) = true := by simpa [PyData.showableAll] using s2
      obtain ⟨q1, q2⟩ := Dq.rkNs I kvs _ h3 s1'.2 s2'.2 (fun t ht => z1 t (by simp only [PyData.shownAll]; exact List.mem_cons_of_mem _ ht)) (fun t ht => z2 t (by simp only [PyData.shownAll]; exact List.mem_cons_of_mem _ ht))
      have kr := Dq.rk I k _ _ h1 rfl s1'.1 (z1 _ (by simp only [PyData.shownAll]; exact List.mem_cons_self ..))
      exact ⟨Rk.cons kr q1, Rk.cons (Dq.rk I d _ _ h2 r s2'.1 (z2 _ (by simp only [PyData.shownAll]; exact List.mem_cons_self ..))) q2⟩
end
theorem call_blt (hc : X.calm = true) (hg : X.A.guards = some []) (hu : X.A.units + 65 < cLine) : ∀ f : Bf, CallR X f.val (rB X.K T f) := by
  intro f pins s σ H xs us Q I r h
  obtain ⟨bx, J, ds, hv, bo, w⟩ := h
  unfold bltW at w
  split at w
  · obtain ⟨v, rfl, b⟩ := bo.one
    obtain ⟨a, ys, e1, h1, q1⟩ := b.lstE hv
    subst e1
    exact call_len_seq pins s σ H _ us Q I r ⟨a, ys, rfl, .inl (SqL.of h1), by rw [q1.length]; exact w _ J H (Gw.refl hv) (.int _)⟩
  · obtain ⟨v, rfl, b⟩ := bo.one
    obtain ⟨a, ys, e1, h1, q1⟩ := b.tupE
    subst e1
    exact call_len_seq pins s σ H _ us Q I r ⟨a, ys, rfl, .inr (SqT.sub hv.sub h1), by rw [q1.length]; exact w _ J H (Gw.refl hv) (.int _)⟩
  · obtain ⟨v, rfl, b⟩ := bo.one
    obtain ⟨a, rfl, dc⟩ := b.dicE hv
    obtain ⟨u, rfl, ru⟩ := vals1 r
    cases ru
    obtain ⟨hd, es, ep, hr, hz, hl⟩ := dc_type I hv.sub dc
    refine PyProof.Rows.call_len_slot (n := (es.size : Nat)) hr.typeIs PySem.F.slot_dict_len (fun Q' hq => PySem.call_len_raw hd hr hq) (by omega) ?_ ⟨.int _, H, I.tok _, ⟨_, rfl⟩, ?_⟩
    · rw [hz]; rw [sizeLine_eq] at hl; omega
    · rw [hz]; exact w _ J H (Gw.refl hv) (.int _)
  · obtain ⟨v, rfl, b⟩ := bo.one
    cases b.strE
    exact call_len_str pins s σ H _ us Q I r ⟨_, rfl, w.1, w.2 _ J H (Gw.refl hv) (.int _)⟩
  · obtain ⟨v, rfl, b⟩ := bo.one
    cases b.intE
    exact call_abs pins s σ H _ us Q I r ⟨_, rfl, w _ J H (Gw.refl hv) (.int _)⟩
  · obtain ⟨v, rfl, b⟩ := bo.one
    cases b.intE
    exact call_int1 pins s σ H _ us Q I r (.inl ⟨_, rfl, w _ J H (Gw.refl hv) (.int _)⟩)
  · obtain ⟨v, rfl, b⟩ := bo.one
    cases b.blE
    exact call_int1 pins s σ H _ us Q I r (.inr ⟨_, rfl, w _ J H (Gw.refl hv) (.int _)⟩)
  · obtain ⟨v, rfl, b⟩ := bo.one
    cases b.intE
    exact call_bool1 pins s σ H _ us Q I r (.inl ⟨_, rfl, w _ J H (Gw.refl hv) (.bl _)⟩)
  · obtain ⟨v, rfl, b⟩ := bo.one
    cases b.blE
    exact call_bool1 pins s σ H _ us Q I r (.inr ⟨_, rfl, w _ J H (Gw.refl hv) (.bl _)⟩)
  · obtain ⟨v, rfl, b⟩ := bo.one
    obtain ⟨a, ys, e1, h1, q1⟩ := b.lstE hv
    subst e1
    refine call_tuple_F pins s σ H _ us Q I r ⟨a, ys, rfl, .inl ⟨SqL.of h1, fun p ob oc od hp => ?_⟩⟩
    have g := Gw.new (.frz ob (.tup ys)) hv hp
    exact w _ _ _ g (.tup (Tq.new oc od) (q1.sub (g.sub hv)))
  · obtain ⟨v, rfl, b⟩ := bo.one
    obtain ⟨a, ys, e1, h1, q1⟩ := b.tupQ
    subst e1
    exact call_tuple_F pins s σ H _ us Q I r ⟨a, ys, rfl, .inr ⟨SqT.sub hv.sub h1.sq, w _ J H (Gw.refl hv) (.tup h1 q1)⟩⟩
  · obtain ⟨v, rfl, b⟩ := bo.one
    obtain ⟨a, ys, e1, h1, q1⟩ := b.lstE hv
    subst e1
    refine call_list_of pins s σ H _ us Q I r ⟨a, ys, rfl, .inl (SqL.of h1), fun p hp => ?_⟩
    refine w _ _ _ (Gw.mut (.lst ys) hv hp) (.inl ⟨p, _, rfl, hp, ?_, upd_same, .lst q1⟩)
    cases e : J p with
    | none => rfl
    | some o => rw [hv.sub p o e] at hp; cases hp
  · obtain ⟨v, rfl, b⟩ := bo.one
    obtain ⟨a, ys, e1, h1, q1⟩ := b.tupE
    subst e1
    refine call_list_of pins s σ H _ us Q I r ⟨a, ys, rfl, .inr (SqT.sub hv.sub h1), fun p hp => ?_⟩
    refine w _ _ _ (Gw.mut (.lst ys) hv hp) (.inl ⟨p, _, rfl, hp, ?_, upd_same, .lst q1⟩)
    cases e : J p with
    | none => rfl
    | some o => rw [hv.sub p o e] at hp; cases hp
  · obtain ⟨v, rfl, b⟩ := bo.one
    obtain ⟨hw, w⟩ := w
    obtain ⟨a, rfl, dc⟩ := b.dicE hv
    obtain ⟨u, rfl, ru⟩ := vals1 r
    cases ru
    refine ev_list hc I hv.sub dc hw fun p vs s' hp dq I' => ⟨.ref p, _, I', rfl, w _ _ _ (Gw.mut (.lst vs) hv hp) (.inl ⟨p, _, rfl, hp, ?_, upd_same, .lst dq⟩)⟩
    cases e : J p with
    | none => rfl
    | some o => rw [hv.sub p o e] at hp; cases hp
  · obtain ⟨v, rfl, b⟩ := bo.one
    obtain ⟨u, rfl, ru⟩ := vals1 r
    obtain ⟨w1, w2, w3, w4⟩ := w
    have fin : ∀ h' t tk, (∀ b o, s.heap.get? b = some o → h'.get? b = some o) → EP X pins σ Q (.str _ t) { s with heap := h', toks := tk } := fun h' t tk hk => ⟨.str _, H, I.kept (h' := h') (t' := tk) hk, ⟨_, rfl⟩, w4 _ J H (Gw.refl hv) (.str _)⟩
    have w5 : PyData.depth _ ≤ 64 := of_decide_eq_true w2
    exact (Dq.rk I _ v u (b.dqH hv) ru w1 w3).top X.A X.xe s _ hg (by omega) (fun _ _ e => e) fin
    -- h' t tk hk => ⟨.str _, H, I.kept (h' := h') (t' := tk) hk, ⟨_, rfl⟩, w.2.2.2 _ J H (Gw.refl hv) (.str _)⟩
  · obtain ⟨v, rfl, b⟩ := bo.one
    obtain ⟨bs, e, w⟩ := w
    subst e
    obtain ⟨a, ys, e1, h1, q1⟩ := b.lstE hv
    subst e1
    cases q1.bools
    exact cr_all hc pins s σ H _ us Q I r ⟨a, bs, rfl, SqL.of h1, w _ J H (Gw.refl hv) (.bl _)⟩
  · obtain ⟨v, rfl, b⟩ := bo.one
    obtain ⟨bs, e, w⟩ := w
    subst e
    obtain ⟨a, ys, e1, h1, q1⟩ := b.lstE hv
    subst e1
    cases q1.bools
    exact cr_any hc pins s σ H _ us Q I r ⟨a, bs, rfl, SqL.of h1, w _ J H (Gw.refl hv) (.bl _)⟩
  · obtain ⟨v, v2, rfl, b, b2⟩ := bo.two
    cases b.intE; cases b2.intE
    exact call_min2 hc pins s σ H _ us Q I r ⟨_, _, rfl, w _ J H (Gw.refl hv) (.int _)⟩
  · obtain ⟨v, v2, rfl, b, b2⟩ := bo.two
    cases b.intE; cases b2.intE
    exact call_max2 hc pins s σ H _ us Q I r ⟨_, _, rfl, w _ J H (Gw.refl hv) (.int _)⟩
  · obtain ⟨v, rfl, b⟩ := bo.one
    obtain ⟨ns, e, w⟩ := w
    subst e
    obtain ⟨a, ys, e1, h1, q1⟩ := b.lstE hv
    subst e1
    cases q1.ints
    exact cr_sum hc pins s σ H _ us Q I r ⟨a, ns, rfl, SqL.of h1, w _ J H (Gw.refl hv) (.int _)⟩
  · obtain ⟨v, rfl, b⟩ := bo.one
    obtain ⟨ns, e, w⟩ := w
    subst e
    obtain ⟨a, ys, e1, h1, q1⟩ := b.tupQ
    subst e1
    cases q1.ints
    exact cr_sumT hc pins s σ H _ us Q I r ⟨a, ns, rfl, (Tq.sub hv.sub h1).sq, w _ J H (Gw.refl hv) (.int _)⟩
  · exact w.elim
theorem boot_bf : ∀ f : Bf, bootBuiltins (Str.ofString f.name) = some f.val := by
  intro f
  cases f <;> decide +kernel
theorem ne_name : ∀ f : Bf, Str.ofString f.name ≠ "__name__" := by
  intro f
  cases f <;> decide +kernel
/-! ### isinstance -/
theorem isi_kit : ∀ (t : String), (t == "int" || t == "bool" || t == "tuple" || t == "str" || t == "list" || t == "dict") = true → ∀ n ∈ ["NoneType", "bool", "int", "str", "list", "tuple", "dict"], kitB n t = some (t == n || (n == "bool" && t == "int")) := by
  intro t ht
  simp only [Bool.or_eq_true, beq_iff_eq] at ht
  rcases ht with ((((rfl | rfl) | rfl) | rfl) | rfl) | rfl <;> decide +kernel
theorem boot_ty : ∀ (t : String), (t == "int" || t == "bool" || t == "tuple" || t == "str" || t == "list" || t == "dict") = true → bootBuiltins (Str.ofString t) = some (.type t) ∧ Str.ofString t ≠ "__name__" ∧ t ∈ bltNames := by
  intro t ht
  simp only [Bool.or_eq_true, beq_iff_eq] at ht
  rcases ht with ((((rfl | rfl) | rfl) | rfl) | rfl) | rfl <;> decide +kernel
/-- the type of a value: a dict with tuples as keys, too -/
def TyY (K : PySem.W.Frag) (H : Hp) (v : V) (t : Value) : Prop := TyX K H v t ∨ (∃ a b o xs, v = .ref a ∧ H a = some (DnO b o xs) ∧ t = .type "dict")
theorem kit_ofY {X : Cx} {pins : List (Addr × Obj)} {σ : L2.St} {H : Hp} {s : Shared} {x : V} {u t : Value} (I : L2.Inv X pins σ H s) (rx : RelV x u) (ty : TyY X.K H x t) : ∃ P : Heap → Prop, PySem.W.KitX X.K u t P ∧ P s.heap ∧ u ≠ .builtin "__main__.__loader__#opaque" := by
  rcases ty with ty | ⟨a, b, o, xs, rfl, h, rfl⟩
  · exact kit_of I rx ty
  · cases rx
    obtain ⟨_, e, _, hx, _⟩ := dnO_of (I.hok a _ h)
    exact ⟨_, PySem.W.kitx_dict, ⟨o, e, hx.1⟩, fun z => nomatch z⟩
def rIsiY (K : PySem.W.Frag) : List V → Hp → VK → Prop := fun xs H Q => ∃ (x c : V) (t u : Value) (b : Bool), xs = [x, c] ∧ ClsV c u ∧ TyY K H x t ∧ PySem.W.kitOne K t u = some b ∧ Q (.bl b) H
theorem call_isiY {X : Cx} : CallR X (.builtin "isinstance") (rIsiY X.K) := by
  intro pins s σ H xs us Q I r h
  obtain ⟨x, c, t, u, b, rfl, k, ty, e, q⟩ := h
  obtain ⟨u1, u2, rfl, r1, r2⟩ := vals2 r
  have e2 := k.eq r2
  subst e2
  obtain ⟨P, Z, p, hx⟩ := kit_ofY I r1 ty
  exact PySem.W.kia_one Z I.kIn p e hx fun tk => ⟨.bl b, H, I.tok tk, rfl, q⟩
theorem tyX_of {K : PySem.W.Frag} {bx : Bx} {I H : Hp} {v : V} {d : PyData} (hv : Hv T bx I H) (b : Bo K bx I H v d) : ∃ n ∈ ["NoneType", "bool", "int", "str", "list", "tuple", "dict"], TyY K H v (.type n) ∧ ∀ t, tySub t d = (t == n || (n == "bool" && t == "int")) := by
  cases d with
  | none => cases b.nonE; exact ⟨"NoneType", by decide, .inl (.base .non), fun t => by simp [tySub]⟩
  | bool k => cases b.blE; exact ⟨"bool", by decide, .inl (.base (.bl _)), fun t => by simp [tySub]⟩
  | int k => cases b.intE; exact ⟨"int", by decide, .inl (.base (.int _)), fun t => by simp [tySub]⟩
  | str k => cases b.strE; exact ⟨"str", by decide, .inl (.base (.str _)), fun t => by simp [tySub]⟩
  | list ds =>
    obtain ⟨a, xs, rfl, h1, q1⟩ := b.lstE hv
    exact ⟨"list", by decide, .inl (.base (.lst h1)), fun t => by simp [tySub]⟩
  | tuple ds =>
    obtain ⟨a, xs, rfl, h1, q1⟩ := b.tupE
    refine ⟨"tuple", by decide, ?_, fun t => by simp [tySub]⟩
    rcases SqT.sub hv.sub h1 with (h | ⟨o, h⟩) | ⟨o, its, n, h, hc, _⟩
    · exact .inl (.base (.tup h))
    · exact .inl (.fTuple h)
    · exact .inl (.kTuple h hc)
  | dict kvs =>
    obtain ⟨a, rfl, ⟨xs, h1, q1⟩ | ⟨c, o, xs, h1, q1⟩⟩ := b.dicE hv
    · exact ⟨"dict", by decide, .inl (.base (.dK h1)), fun t => by simp [tySub]⟩
    · exact ⟨"dict", by decide, .inr ⟨a, c, o, xs, rfl, h1, rfl⟩, fun t => by simp [tySub]⟩
/-! ### subscripts, slices -/
theorem atI_get {K : PySem.W.Frag} {I : Hp} {xs : List V} {ds : List PyData} {k : Int} {z : PyData} (q : DqAll K I xs ds) (h : atI ds k = some z) : ∃ v, atI xs k = some v ∧ Dq K I v z := by
  unfold atI at h ⊢
  rw [q.length]
  cases e : ixN ds.length k with
  | none => rw [e] at h; cases h
  | some j =>
    rw [e] at h
    obtain ⟨v, h1, h2⟩ := q.get' (show ds[j]? = some z from h)
    exact ⟨v, h1, h2⟩
theorem ix_dictN {a : Addr} {value slice : Expr} {pins : List (Addr × Obj)} {s : Shared} {σ : L2.St} {u : Value} {Q : VK} (hT : s.TypeIs (.ref a) "dict") (h2 : wpAny (model X.prog X.w) X.A (getItem (.ref a) u) (EP X pins σ Q) X.xe s)
    (hs : subscripted slice false (.ref a) u = operate [.ref a, u] (getItem (.ref a) u)) : wpAny (model X.prog X.w) X.A (subscriptTail value slice (.ref a) u) (EP X pins σ Q) X.xe s := by
  unfold subscriptTail
  refine wpAny_bind ?_
  rw [getitemInPython_of_ne hT.not_modules]
  refine wpAny_bind (wpAny_specialOf hT PySem.F.slot_dict_getitem.lookup ?_)
  have fin : wpAny (model X.prog X.w) X.A (subscripted slice false (.ref a) u) (fun r s₃ => wpAny (model X.prog X.w) X.A (letTemporaryGo value (.ref a) r >>= fun _ => pure r) (EP X pins σ Q) X.xe s₃) X.xe s := by
    rw [hs]
    exact wpAny_operating (wpAny_mono h2 (fun r s₃ h₃ => wpAny_bind (wpAny_letTemporaryGo (wpAny_pure h₃))) fun _ _ x => x)
  first
    | exact wpAny_pure (wpAny_bind fin)
    | exact wpAny_pure fin
theorem ix_data (hu : X.A.units + 65 < cLine) : IxR X (rW X.K T .st idxW) := by
  intro value slice pins s σ H x y v u Q I rx ry h hs
  obtain ⟨bx, J, d, e, hv, bd, be, w⟩ := h
  unfold idxW at w
  split at w
  · obtain ⟨z, hz, w⟩ := w
    cases be.intE
    obtain ⟨a, xs, rfl, h2, q⟩ := bd.lstE hv
    obtain ⟨v', e1, dq⟩ := atI_get q hz
    exact ix_list value slice pins s σ H _ _ v u Q I rx ry ⟨a, xs, _, v', rfl, rfl, SqL.of h2, e1, w _ J H (Gw.refl hv) dq⟩ hs
  · obtain ⟨z, hz, w⟩ := w
    cases be.intE
    obtain ⟨a, xs, rfl, h2, q⟩ := bd.tupE
    obtain ⟨v', e1, dq⟩ := atI_get q hz
    exact ix_tup value slice pins s σ H _ _ v u Q I rx ry ⟨a, xs, _, v', rfl, rfl, SqT.sub hv.sub h2, e1, w _ J H (Gw.refl hv) dq⟩ hs
  · obtain ⟨kb, z, hz, w⟩ := w
    obtain ⟨a, rfl, dc⟩ := bd.dicE hv
    cases rx
    obtain ⟨_, es, ep, hr, _⟩ := dc_type I hv.sub dc
    exact ix_dictN hr.typeIs (ev_getItem hu I hv kb hz be ry dc fun v w' s' dq rw' I' => ⟨v, H, I', rw', w _ J H (Gw.refl hv) dq⟩) hs
  · exact w.elim
def rS (K : PySem.W.Frag) (T : BoxT) : V → Option Int → Option Int → Hp → VK → Prop := fun x lo hi H Q => ∃ bx I d, Hv T bx I H ∧ Bo K bx I H x d ∧ slcW d lo hi fun z => ∀ v I' H', Gw T bx I H I' H' → Vl K bx H I' H' .fr v z → Q v H'
theorem cutV_whole {xs : List V} {lo hi : Option Int} (h : HT.sIx xs.length 0 lo = 0 ∧ HT.sIx xs.length xs.length hi = xs.length) : cutV xs lo hi = xs := by
  unfold cutV
  rw [h.1, h.2]
  simp
theorem sl_data : SlR X (rS X.K T) := by
  intro pins s σ H x v vl vu lo hi sl Q I rx hs pl pu h
  obtain ⟨bx, J, d, hv, bd, w⟩ := h
  unfold slcW at w
  split at w
  · obtain ⟨a, xs, rfl, h2, q⟩ := bd.lstE hv
    refine sl_list pins s σ H _ v vl vu lo hi sl Q I rx hs pl pu ⟨a, xs, rfl, SqL.of h2, fun p hp => ?_⟩
    refine w _ _ _ (Gw.mut (.lst (cutV xs lo hi)) hv hp) (.inl ⟨p, _, rfl, hp, ?_, upd_same, .lst (q.cut lo hi)⟩)
    cases e : J p with
    | none => rfl
    | some o => rw [hv.sub p o e] at hp; cases hp
  · obtain ⟨a, xs, rfl, h2, q⟩ := bd.tupQ
    refine sl_tupF pins s σ H _ v vl vu lo hi sl Q I rx hs pl pu ⟨a, xs, rfl, SqT.sub hv.sub h2.sq, fun hw => ?_, fun hw p ob oc od hp => ?_⟩
    · refine w _ J H (Gw.refl hv) (.inr ⟨.tup h2 ?_, rfl⟩)
      have := q.cut lo hi
      rw [cutV_whole hw] at this
      exact this
    · have g := Gw.new (.frz ob (.tup (cutV xs lo hi))) hv hp
      exact w _ _ _ g (.inr ⟨.tup (Tq.new oc od) ((q.cut lo hi).sub (g.sub hv)), rfl⟩)
  · exact w.elim
/-! ### truth -/
theorem tru_of {K : PySem.W.Frag} {bx : Bx} {I H : Hp} {v : V} {d : PyData} {k : Bool} (hv : Hv T bx I H) (b : Dq K I v d) (h : truD d = some k) : TruV K v H k := by
  cases d with
  | none => cases b.nonE; cases h; rfl
  | bool k => cases b.blE; cases h; rfl
  | int k => cases b.intE; cases h; rfl
  | str k => cases h
  | list ds =>
    obtain ⟨a, xs, rfl, h1, q1⟩ := b.lstE
    cases h
    refine .inl ⟨xs, SqL.of (hv.sub _ _ h1), ?_⟩
    cases q1 <;> rfl
  | tuple ds =>
    obtain ⟨a, xs, rfl, h1, q1⟩ := b.tupE
    cases h
    refine .inr (.inl ⟨xs, SqT.sub hv.sub h1, ?_⟩)
    cases q1 <;> rfl
  | dict kvs => cases h
end
end Ef

end

section
set_option autoImplicit false
namespace Ef
open PySem L2 PySem.Spec PyProof.Rows
/-! ### what plain forms mean -/
theorem star_plain {e : Expr} (h : plainE e = true) (es : List Expr) (env : Env) : starEach (e :: es) env = (false, eval e env) :: starEach es env := by
  cases e <;> first | rfl | (simp [plainE] at h)
theorem folded_plain {e : Expr} (h : plainE e = true) (env : Env) (x : Value) : foldedSetIterable e env x = pure x := by
  cases e <;> first | rfl | (simp [plainE] at h)
theorem marks_plain {e : Expr} (h : plainE e = true) (op : CmpOp) : behindInMarks op e = false := by
  cases e <;> first | rfl | (simp [plainE] at h)
theorem ix_plain {e : Expr} (h : plainE e = true) : PlainIx e := by
  intro o i
  cases e <;> first | rfl | (simp [plainE] at h)
theorem truth_plain {e : Expr} (h : truthE e = true) (env : Env) (whole : Sem Value) : isTrue e env whole = (do let v ← whole; standAt e.pos; holding [v] (truthy v)) := by
  cases e <;> first | rfl | (simp [truthE] at h)
def plainAll (es : List Expr) : Bool := es.all plainE
theorem stars_plain (pos : Pos) (env : Env) : ∀ es : List Expr, plainAll es = true → (backTo pos (starEach es env)).any (·.1) = false
  | [], _ => rfl
  | e :: es, h => by
    have h1 : plainE e = true ∧ plainAll es = true := by simpa [plainAll] using h
    rw [star_plain h1.1]
    exact stars_plain pos env es h1.2
theorem chkEs_plain {c : Ck} {firm : Bool} : ∀ {es : Exs} {xs : List Expr}, chkEs c firm es xs = true → plainAll xs = true
  | .nil, [], _ => rfl
  | .nil, _ :: _, h => by simp [chkEs] at h
  | .cons _ _, [], h => by simp [chkEs] at h
  | .cons e es, x :: xs, h => by
    simp only [chkEs, Bool.and_eq_true] at h
    simp only [plainAll, List.all_cons, Bool.and_eq_true]
    exact ⟨h.1.1.1, chkEs_plain h.2⟩
theorem chkAs_plain {c : Ck} : ∀ {es : Exs} {xs : List Expr}, chkAs c es xs = true → plainAll xs = true
  | .nil, [], _ => rfl
  | .nil, _ :: _, h => by simp [chkAs] at h
  | .cons _ _, [], h => by simp [chkAs] at h
  | .cons e es, x :: xs, h => by
    simp only [chkAs, Bool.and_eq_true] at h
    simp only [plainAll, List.all_cons, Bool.and_eq_true]
    exact ⟨h.1.1.1, chkAs_plain h.2⟩
section
variable {X : Cx} {T : BoxT} {G : Gm} {k : Nat} {c : Ck}
theorem Gd.vis (g : Gd T G k c X) {i : Nat} {x : Str} (h : visB c i x = true) : X.N[i]? = some x ∧ Vis X.env.scope x ∧ (x == ("__debug__" : Str)) = false ∧ (x == ("__classdict__" : Str)) = false := by
  simp only [visB, okName, Bool.and_eq_true, decide_eq_true_eq, Bool.not_eq_true'] at h
  obtain ⟨⟨h1, ⟨h2, h3⟩, h4⟩, h5⟩ := h
  refine ⟨by rw [g.nn]; exact h1, ?_, h2, h3⟩
  unfold Vis
  rw [g.sc]
  split at h5
  · exact .inl (by assumption)
  · exact .inr (.inl (by assumption))
  · exact .inr (.inr (by assumption))
  · cases h5
theorem Gd.gl (g : Gd T G k c X) {x : Str} (h : glbB c x = true) : Gl X x ∧ (x == ("__debug__" : Str)) = false ∧ x ≠ "__name__" := by
  simp only [glbB, okName, Bool.and_eq_true, decide_eq_true_eq, Bool.not_eq_true'] at h
  obtain ⟨⟨⟨h2, h3⟩, h4⟩, h5⟩ := h
  refine ⟨?_, h2, by simpa using h4⟩
  show X.env.scope.names.lookup x = some .globalImplicit
  rw [g.sc]; exact h5
theorem Gd.sto (g : Gd T G k c X) {i : Nat} {x : Str} (h : stoB c i x = true) : X.N[i]? = some x ∧ L2.Loc X.env.scope x ∧ (X.fn x = true ∨ X.env.scope.names.lookup x = some .local) := by
  simp only [stoB, Bool.and_eq_true, decide_eq_true_eq] at h
  obtain ⟨h1, h5⟩ := h
  refine ⟨by rw [g.nn]; exact h1, ?_⟩
  unfold L2.Loc
  rw [g.sc]
  split at h5
  · rename_i e; exact ⟨.inl e, .inr e⟩
  · rename_i e; exact ⟨.inr e, .inl (g.fn x (of_decide_eq_true h5))⟩
  · cases h5
theorem Gd.units (g : Gd T G k c X) : X.A.units + 65 < cLine := by have := g.room.un; omega
theorem firm_md {e : Ex} (h : e.firm = true) : e.mode ≠ .bo := by
  unfold Ex.firm at h
  intro e
  rw [e] at h
  cases h
/-! ### targets -/
def gsOf : List Nat → TGs
  | [] => gNil
  | i :: js => gCons (gName i) (gsOf js)
def gOf (K : PySem.W.Frag) : Tg → TG
  | .nm i => gName i
  | .tp js => gSeq K js.length (gsOf js)
theorem names_assign (env : Env) : ∀ (js : List Nat) (es : List Expr), chkNs c js es = true → (assignEach es env).length = js.length ∧ (assignEach es env).findIdx? (·.1) = none
  | [], [], _ => ⟨rfl, rfl⟩
  | [], _ :: _, h => by simp [chkNs] at h
  | _ :: _, [], h => by simp [chkNs] at h
  | i :: js, e :: es, h => by
    cases e <;> simp only [chkNs, Bool.and_eq_true] at h <;> try (cases h; done)
    rename_i x pos
    obtain ⟨h1, h2⟩ := names_assign env js es h.2
    have e1 : assignEach (.Name x pos :: es) env = (false, assign (.Name x pos) env) :: assignEach es env := rfl
    rw [e1]
    refine ⟨by simp [h1], ?_⟩
    rw [List.findIdx?_cons]
    simp [h2]
theorem pgs_names (g : Gd T G k c X) : ∀ (js : List Nat) (es : List Expr), chkNs c js es = true → PGs X es (gsOf js)
  | [], [], _ => pgs_nil
  | [], _ :: _, h => by simp [chkNs] at h
  | _ :: _, [], h => by simp [chkNs] at h
  | i :: js, e :: es, h => by
    cases e <;> simp only [chkNs, Bool.and_eq_true] at h <;> try (cases h; done)
    obtain ⟨h1, h2, h3⟩ := g.sto h.1
    exact pgs_cons (pg_name g.nd h1 h2 h3) (pgs_names g js es h.2)
theorem pg_tg (g : Gd T G k c X) {tg : Tg} {e : Expr} (h : chkTg c tg e = true) : PG X e (gOf X.K tg) := by
  cases tg with
  | nm i =>
    cases e <;> simp only [chkTg] at h <;> try (cases h; done)
    obtain ⟨h1, h2, h3⟩ := g.sto h
    exact pg_name g.nd h1 h2 h3
  | tp js =>
    cases e <;> simp only [chkTg] at h <;> try (cases h; done)
    obtain ⟨h1, h2⟩ := names_assign X.env js _ h
    exact pg_seq g.calm (pgs_names g js _ h) h1 h2
theorem wipe_get {σ : L2.St} {j : Nat} : ∀ (own : List Nat), (L2.wipe σ own)[j]? = if j ∈ own then (if j < σ.length then some none else none) else σ[j]?
  | [] => by simp [L2.wipe]
  | v :: vs => by
    unfold L2.wipe
    by_cases h : v = j
    · subst h
      by_cases hl : v < σ.length
      · rw [List.getElem?_set_self (by rw [wipe_length]; exact hl)]
        simp [hl]
      · rw [List.getElem?_eq_none (by rw [List.length_set, wipe_length]; omega)]
        simp [hl]
    · rw [List.getElem?_set_ne h, wipe_get vs]
      have : j ∈ v :: vs ↔ j ∈ vs := by
        simp only [List.mem_cons]
        constructor
        · rintro (e | e)
          · exact absurd e.symm h
          · exact e
        · exact .inr
      simp only [this]
theorem wipe_set {σ : L2.St} {i : Nat} {v : Option V} {own : List Nat} (h : i ∈ own) : L2.wipe (σ.set i v) own = L2.wipe σ own := by
  apply List.ext_getElem?
  intro j
  rw [wipe_get, wipe_get]
  by_cases hj : j ∈ own
  · simp [hj]
  · simp only [hj, if_false]
    rw [List.getElem?_set_ne (fun (e : i = j) => hj (e ▸ h))]
theorem wipe_wipe (σ : L2.St) (own : List Nat) : L2.wipe (L2.wipe σ own) own = L2.wipe σ own := by
  apply List.ext_getElem?
  intro j
  rw [wipe_get, wipe_get, wipe_length]
  by_cases hj : j ∈ own <;> simp [hj]
theorem gs_ok {K : PySem.W.Frag} {bx : Bx} {I0 H0 I H H' : Hp} : ∀ {js : List Nat} {xs : List V} {ds : List PyData} {ρ : Rho} {σ : L2.St} {Q : L2.St → Hp → Prop}, SA K T bx I0 H0 ρ σ I H → DqAll K I xs ds → ds.length = js.length →
    (∀ σ2, SA K T bx I0 H0 (setAll ρ js ds) σ2 I H → (∀ own : List Nat, (∀ i ∈ js, i ∈ own) → L2.wipe σ2 own = L2.wipe σ own) → Q σ2 H') → gsOf js xs σ H' Q
  | [], _, _, ρ, σ, Q, s, .nil, hl, k => ⟨rfl, k _ s fun _ _ => rfl⟩
  | [], _, _, ρ, σ, Q, s, .cons _ _, hl, k => by simp at hl
  | i :: js, _, _, ρ, σ, Q, s, .nil, hl, k => by simp at hl
  | i :: js, _, _, ρ, σ, Q, s, .cons h q, hl, k => ⟨_, _, rfl, gs_ok (s.setDat h) q (by simpa using hl) fun σ2 s2 hw => k σ2 s2 fun own ho => (hw own fun j hj => ho j (List.mem_cons_of_mem _ hj)).trans (wipe_set (ho i List.mem_cons_self))⟩
theorem asg_ok {K : PySem.W.Frag} {bx : Bx} {I0 H0 I H H' : Hp} {tg : Tg} {x : V} {d : PyData} {ρ : Rho} {σ : L2.St} {R : Rho → Prop} {Q : L2.St → Hp → Prop} {fl : Bool} (ht : fl = true → tpB tg = true) (s : SA K T bx I0 H0 ρ σ I H) (sb : Sub I H') (h : Dy K I fl x d) (w : asg tg d ρ R)
    (kk : ∀ ρ2 σ2, SA K T bx I0 H0 ρ2 σ2 I H → R ρ2 → (∀ own : List Nat, ownT tg own = true → L2.wipe σ2 own = L2.wipe σ own) → Q σ2 H') : gOf K tg x σ H' Q := by
  cases tg with
  | nm i =>
    cases fl with
    | true => cases ht rfl
    | false => exact kk _ _ (s.setDat h) w fun own ho => wipe_set (by simpa [ownT] using ho)
  | tp js =>
    cases d <;> simp only [asg] at w
    · rename_i es
      have h2 : ∃ a xs, x = .ref a ∧ I a = some (.lst xs) ∧ DqAll K I xs es := by
        cases fl with
        | true =>
          obtain ⟨a, xs, ds, e, e2, r⟩ := h
          cases e2
        | false => cases h with | lst h q => exact ⟨_, _, rfl, h, q⟩
      obtain ⟨a, xs, rfl, h1, q1⟩ := h2
      refine ⟨a, xs, rfl, .inr (SqL.of (sb _ _ h1)), by rw [q1.length]; exact w.1, gs_ok s q1 w.1 fun σ2 s2 hw => kk _ _ s2 w.2 fun own ho => hw own ?_⟩
      simpa [ownT] using ho
    · rename_i es
      have h2 : ∃ a xs, x = .ref a ∧ SqT K I a xs ∧ DqAll K I xs es := by
        cases fl with
        | true =>
          obtain ⟨a, xs, ds, e, e2, r⟩ := h
          cases e2
          exact ⟨a, xs, e, r⟩
        | false => exact Dq.tupE h
      obtain ⟨a, xs, rfl, h1, q1⟩ := h2
      refine ⟨a, xs, rfl, .inl (SqT.sub sb h1), by rw [q1.length]; exact w.1, gs_ok s q1 w.1 fun σ2 s2 hw => kk _ _ s2 w.2 fun own ho => hw own ?_⟩
      simpa [ownT] using ho
/-! ### one thing not looked at -/
def hid (D : Addr) (H : Hp) : Hp := fun b => if b = D then none else H b
theorem hid_ne {D b : Addr} {H : Hp} (h : b ≠ D) : hid D H b = H b := if_neg h
theorem hid_some {D b : Addr} {H : Hp} {o : HO} (h : hid D H b = some o) : b ≠ D ∧ H b = some o := by
  unfold hid at h
  split at h
  · cases h
  · rename_i n; exact ⟨n, h⟩
theorem hid_upd {D : Addr} {H : Hp} {o : HO} : hid D (upd H D o) = hid D H := by
  funext b
  unfold hid upd
  split <;> rfl
theorem hid_new {D : Addr} {H : Hp} (h : H D = none) : hid D H = H := by
  funext b
  unfold hid
  split
  · rename_i e; rw [e, h]
  · rfl
section
variable {bx : Bx} {I0 H0 I H I' H' : Hp} {D : Addr}
theorem Hv.unhide (np : D ∉ fpOf bx) (h : Hv T bx I (hid D H)) : Hv T bx I H :=
  ⟨fun b o e => (hid_some (h.sub b o e)).2, fun a fp e => T.frame (fun b hb => (hid_ne (fun z => by subst z; rw [e] at np; exact np hb)).symm) (h.bok a fp e), h.bno⟩
theorem Hv.hide (np : D ∉ fpOf bx) (iD : I D = none) (h : Hv T bx I H) : Hv T bx I (hid D H) :=
  ⟨fun b o e => by rw [hid_ne (fun z => by subst z; rw [iD] at e; cases e)]; exact h.sub b o e, fun a fp e => T.frame (fun b hb => hid_ne (fun z => by subst z; rw [e] at np; exact np hb)) (h.bok a fp e), h.bno⟩
/-- behind: D looked at again -/
theorem Gw.unhide (np : D ∉ fpOf bx) (g : Gw T bx I H I' (hid D H')) : Gw T bx I H I' H' :=
  ⟨g.hv.unhide np, g.im, fun b o e n => (hid_some (g.hp b o e n)).2, fun b o e => let ⟨o', e'⟩ := g.al b o e; ⟨o', (hid_some e').2⟩⟩
theorem Gw.hide (np : D ∉ fpOf bx) (iD : I' D = none) (g : Gw T bx I H I' H') : Gw T bx I (hid D H) I' (hid D H') :=
  ⟨g.hv.hide np iD, fun b o e => g.im b o (hid_some e).2, fun b o e n => by rw [hid_ne (hid_some e).1]; exact g.hp b o (hid_some e).2 n, fun b o e => by rw [hid_ne (hid_some e).1]; exact g.al b o (hid_some e).2⟩
theorem SA.unhide {K : PySem.W.Frag} {ρ : Rho} {σ : L2.St} (np : D ∉ fpOf bx) (s : SA K T bx I0 H0 ρ σ I (hid D H)) : SA K T bx I0 H0 ρ σ I H := by
  refine ⟨s.gw.unhide np, s.len, fun i sl e => ?_, s.dj, fun i kvs e => ?_⟩
  rotate_right
  · obtain ⟨a, fp, e1, ⟨b, o, xs, k1, k2, k3, k4, k5, q⟩, h2, h3, h4⟩ := s.dl i kvs e
    refine ⟨a, fp, e1, ⟨b, o, xs, k1, k2, (hid_some k3).2, k4, k5, q.keep (fun _ _ e => e) (fun c hc => (q.at_ c hc).2.1) fun c hc => ?_⟩, h2, h3, h4⟩
    obtain ⟨_, _, ⟨ys, m⟩, _⟩ := q.at_ c hc
    rw [m]; exact (hid_some m).2
  have z := s.sl i sl e
  cases sl with
  | un => trivial
  | dat d => exact z
  | own ds => obtain ⟨a, xs, e1, h0, h1, h2, q, n⟩ := z; exact ⟨a, xs, e1, h0, h1, (hid_some h2).2, q, n⟩
  | dol _ => trivial
  | dic ds => obtain ⟨a, xs, e1, h0, h1, h2, q, n⟩ := z; exact ⟨a, xs, e1, h0, h1, (hid_some h2).2, q, n⟩
  | box => exact z
end
end
end Ef

end

section
set_option autoImplicit false
namespace PySem
open Sem (wp)
open AutoSeq1 (wpAny_loadPart')
theorem ef_enumerate_newT (l : Addr) (items : Array Value) (n : Nat) (dct : Option Addr) (sl : Array (Option Value)) :
    Meets (Builtin.«enumerate.__new__» ⟨[.type "enumerate", .ref l], []⟩) (fun _ R s => s.heap.get? l = some { cls := .type "tuple", dict := dct, data := .seq items n, slots := sl } ∧
      R (.ok (.ret (.ref (s.heap.push { cls := .type "tuple_iterator", data := .fields #[.ref l, .int 0 0] }).objs.size)))
        { s with heap := (s.heap.push { cls := .type "tuple_iterator", data := .fields #[.ref l, .int 0 0] }).push { cls := .type "enumerate", data := .fields #[.none, .bool false, .ref s.heap.objs.size, rawInt 0, .none, .none] } }) :=
  .of_wp fun prog w A R s h => by
    obtain ⟨hp, g, d, tk, os⟩ := s; obtain ⟨hl, h⟩ := h
    have hsub := sub_enumerate
    have hL : Heap.IsTuple (Shared.heap ⟨hp, g, d, tk, os⟩) l items := ⟨_, hl, rfl, n, rfl⟩
    wp_walk using wpAny_loadPart' hl
    refine wpAny_stack_any fun st => wpAny_pure ?_
    split
    · rename_i c _ _ _ _ _
      cases (c == Value.type "enumerate")
      · wp_walk using wpAny_loadPart' hl, wpAny_pyIter_tuple hL
        exact ⟨_, rfl, h⟩
      · wp_walk using wpAny_loadPart' hl, wpAny_pyIter_tuple hL
        exact ⟨_, rfl, h⟩
    · wp_walk using wpAny_loadPart' hl, wpAny_pyIter_tuple hL
      exact ⟨_, rfl, h⟩
theorem ef_call_enumerate_tuple {prog : Program} {w : World} {A : Around} {E : Value → Shared → Prop} {s : Shared} {l : Addr} {items : Array Value} {Q : Value → Shared → Prop} (hL : s.heap.IsTuple l items)
    (h : ∀ h', IsEnum h' (s.heap.objs.size + 1) s.heap.objs.size 0 .none → h'.IsTupleIter s.heap.objs.size l 0 → h'.objs.size = s.heap.objs.size + 2 →
      (∀ b o, s.heap.get? b = some o → h'.get? b = some o) → Q (.ref (s.heap.objs.size + 1)) { s with heap := h' }) :
    wpAny (model prog w) A (call (.type "enumerate") [.ref l]) Q E s := by
  obtain ⟨⟨c, dct, dt, sl⟩, hl, hc, n, hd⟩ := hL
  replace hc : c = .type "tuple" := hc
  replace hd : dt = .seq items n := hd
  subst hc hd
  refine callType_new F.called_enumerate (by decide) (F.typeCall_enumerate_1 _) (F.newCall_enumerate_1 _) (fun obj => F.args_object_init_2 obj _) F.entry_enumerate_new
    (ef_enumerate_newT l items n dct sl) ⟨hl, ?_⟩
  have hz : (s.heap.push { cls := .type "tuple_iterator", data := .fields #[.ref l, .int 0 0] }).objs.size = s.heap.objs.size + 1 := Heap.size_push ..
  show _ ∧ _
  rw [hz]
  have he : IsEnum ((s.heap.push { cls := .type "tuple_iterator", data := .fields #[.ref l, .int 0 0] }).push
      { cls := .type "enumerate", data := .fields #[.none, .bool false, .ref s.heap.objs.size, rawInt 0, .none, .none] }) (s.heap.objs.size + 1) s.heap.objs.size 0 .none := by
    have := Heap.get?_push_size (s.heap.push { cls := .type "tuple_iterator", data := .fields #[.ref l, .int 0 0] })
      (o := { cls := .type "enumerate", data := .fields #[.none, .bool false, .ref s.heap.objs.size, rawInt 0, .none, .none] }) rfl
    rw [hz] at this; exact this
  refine ⟨⟨_, he, rfl⟩, h _ he ⟨_, Heap.get?_push_of_some _ (Heap.get?_push_size _ rfl), rfl, rfl⟩ (by rw [Heap.size_push, hz]) fun b o x => Heap.get?_push_of_some _ (Heap.get?_push_of_some _ x)⟩
theorem ef_next_enumT_end {prog : Program} {w : World} {A : Around} {E : Value → Shared → Prop} {s : Shared} {e it t : Addr} {i : Nat} {items : Array Value} {j : Int} {old : Value} {Q : Option Value → Shared → Prop}
    (hh : A.handled = none) (he : IsEnum s.heap e it j old) (hit : s.heap.IsTupleIter it t i) (ht : s.heap.IsTuple t items) (hx : items[i]? = none)
    (hQ : ∀ h', Heap.ExtBut it s.heap h' → Q none { s with heap := h' }) : wpAny (model prog w) A (pyNext (.ref e)) Q E s := by
  have hT : s.TypeIs (.ref e) "enumerate" := ⟨_, he, rfl⟩
  unfold pyNext
  refine wpAny_bind (wpAny_attempt (wpAny_callSpecial?_slot (name := Str.ofString "__next__") hT F.slot_enumerate_next
    (wpAny_call_entry F.slot_enumerate_next hT F.entry_enumerate_next ?_ (F.args_enumerate_next_1 _))))
  show wpAny _ _ (field (.ref e) 2 >>= _) _ _ _
  refine wpAny_bind (wpAny_field he rfl (x := .ref it) rfl ?_)
  refine wpAny_bind (wpAny_nextOf_tuple_end hh hit ht hx fun h' x he' hx' => ?_)
  obtain ⟨o, ho, hc⟩ := hx'
  refine wpAny_bind (wpAny_isInstance (T := "StopIteration") (b := true) ⟨o, ho, hc⟩ isSubtype_stop ?_)
  exact wpAny_pure (hQ _ he')
end PySem
namespace Ef
open PySem L2 PySem.Spec PyProof.Rows
/-- the tuple at a, each item in a new pair -/
def IteT (K : PySem.W.Frag) (a : Addr) : L2.It :=
  ⟨fun i H => ∃ (xs : List V) (x : V), SqT K H a xs ∧ xs[i]? = some x, fun i H v H' => ∃ T x, v = .ref T ∧ H T = none ∧ H' = upd H T (.tup [.int (i : Nat), x]) ∧ ∀ xs, SqT K H a xs → xs[i]? = some x, fun i H => ∃ xs : List V, SqT K H a xs ∧ xs.length ≤ i⟩
theorem turn_enumT {P : Program} {w : World} {K : PySem.W.Frag} {elts : List Expr} {kk : Nat} {tpos : Pos} (a e it : Addr) :
    Turn P w K (.Tuple elts kk tpos) (IteT K a) [e, it] e (fun i h => (∃ old, IsEnum h e it ((i : Nat) : Int) old) ∧ h.IsTupleIter it a i ∧ e ≠ it ∧ a ≠ it ∧ a ≠ e) where
  mem := by simp
  obj := fun i h st b hb => by
    obtain ⟨⟨old, he⟩, ⟨o, ho, hc, hd⟩, _⟩ := st
    have e' : b = e ∨ b = it := by simpa using hb
    rcases e' with z | z
    · rw [z]; exact ⟨_, he, fun v q => nomatch q⟩
    · rw [z]; exact ⟨o, ho, fun v q => by rw [hd] at q; cases q⟩
  keep := fun i h h' st k => let ⟨⟨old, he⟩, hi, hne⟩ := st; ⟨⟨old, k e (by simp) _ he⟩, hi.at fun o q => k it (by simp) o q, hne⟩
  item := by
    intro X hP hw hK hc i pins s σ H E I hf st hg
    subst hP hw hK
    obtain ⟨⟨old, he⟩, hit, hne, hai, hae⟩ := st
    obtain ⟨xs, x, hq, hx⟩ := hg
    obtain ⟨its, rv, p, hz⟩ := I.tuple hq
    obtain ⟨u, hu, ru⟩ := rv.get hx
    have hel : e < s.heap.objs.size := Heap.lt_size he
    have hil : it < s.heap.objs.size := by obtain ⟨_, q, _⟩ := hit; exact Heap.lt_size q
    have hlt : i < its.toArray.size := by
      have := (List.getElem?_eq_some_iff.mp hu).1
      simpa using this
    have D := Draws.tuple (prog := X.prog) (w := X.w) (A := X.A.in1) (I.ok.hd hc) it a hai its.toArray
    refine wpAny_pyNext_enum_itemD D he ⟨hit, p⟩ hlt hne (by simp [hne]; exact Ne.symm hae) fun x1 h' tk hx1 ho hst hT hsz hk => ?_
    have hxu : x1 = u := by
      have : its.toArray[i]? = some u := by simpa using hu
      rw [this] at hx1
      exact (Option.some.inj hx1).symm
    subst hxu
    refine ⟨_, rfl, wpAny_letOwnedTupleGo_enum (s := { s with heap := h', toks := tk + 1 }) ho fun h'' he' sb => ?_⟩
    have hT2 : h''.get? s.heap.objs.size = some { cls := .type "tuple", data := .seq #[.int i tk, x1] } := (sb.2 _ (Nat.ne_of_gt hel)).trans hT
    have new : ObjOk X.prog X.w (upd H s.heap.objs.size (.tup [.int (i : Nat), x])) h'' s.heap.objs.size (.tup [.int (i : Nat), x]) :=
      ⟨by show 2 ≤ sizeLine; decide, [.int i tk, x1], .cons ⟨_, rfl⟩ (.cons ru .nil), ⟨_, hT2, rfl, _, rfl⟩⟩
    have I1 : Inv X pins σ (upd H s.heap.objs.size (.tup [.int (i : Nat), x])) { s with heap := h'', toks := tk + 1 } :=
      I.turnedNew (ch := [e, it]) (fun b ob hb q => (sb.2 b (fun z => hb (by simp [z]))).trans (hk b ob (fun z => hb (by simp [z])) (fun z => hb (by simp [z])) q)) hf (Nat.le_refl _) new
    refine ⟨.ref s.heap.objs.size, _, I1, rfl, ⟨_, x, rfl, I.hok.fresh (Nat.le_refl _), rfl, fun ys hy => by rw [I.tuple_inj hy hq]; exact hx⟩, ⟨⟨x1, ?_⟩, hst.1.at fun o q => (sb.2 it (Ne.symm hne)).trans q, hne, hai, hae⟩, fun b hb => ?_⟩
    · have e1 : ((i + 1 : Nat) : Int) = (i : Int) + 1 := by omega
      rw [e1]; exact he'
    · have hb' : b < s.heap.objs.size := by
        have e' : b = e ∨ b = it := by simpa using hb
        rcases e' with z | z
        · rw [z]; exact hel
        · rw [z]; exact hil
      rw [upd_ne (Nat.ne_of_lt hb')]
      exact (hf b hb).1
  done := by
    intro X hP hw hK hc i pins s σ H E I hf st hg
    subst hP hw hK
    obtain ⟨⟨old, he⟩, hit, hne, hai, hae⟩ := st
    obtain ⟨xs, hq, hx⟩ := hg
    obtain ⟨its, rv, p, hz⟩ := I.tuple hq
    obtain ⟨f0, f1, f2, f3, f4, f5⟩ := hf it (by simp)
    have hl := rv.length
    exact ef_next_enumT_end (I.ok.hd hc) he hit p (by simp; omega) fun h' eb => ⟨rfl, I.turned (t' := s.toks) (fun b o hb q => eb b o hb q) f0 f1 f3 f4 f5⟩
  self := fun A i s Q E st h => let ⟨⟨_, he⟩, _⟩ := st; wpAny_pyIter_enum he h
/-- enumerate over a list or a tuple -/
def iEnumA (K : PySem.W.Frag) (ta : TA) : TI := fun σ H R => ta σ H fun vs H1 => ∃ a xs, vs = [.ref a] ∧ ((SqL K H1 a xs ∧ R (Ite K a) H1) ∨ (SqT K H1 a xs ∧ R (IteT K a) H1))
theorem pi_enumA {X : Cx} {e : Expr} {ta : TA} {p pos tpos : Pos} {elts : List Expr} {kk : Nat} (hg : Gl X "enumerate") (hm : X.mg "enumerate" = none) (ha : PA X [e] ta) (hs : starEach [e] X.env = [(false, eval e X.env)] := by rfl) :
    PI X (.Tuple elts kk tpos) (.Call (.Name "enumerate" p) [e] [] pos) (iEnumA X.K ta) := by
  refine ⟨fun pins s σ H R I h => ?_⟩
  refine Call_ (ld_blt I hg hm boot_enumerate (PyProof.Rows.callWith_type1 (thn (ha.run pos pins s σ H _ I h) fun us s1 ⟨vs, H1, I1, r1, q1⟩ => ?_) hs rfl))
  obtain ⟨a, xs, ex, hq⟩ := q1
  subst ex
  cases r1 with
  | cons r rr =>
    cases rr
    cases r
    have fpo : ∀ b, b ∈ [s1.heap.objs.size + 1, s1.heap.objs.size] → s1.heap.objs.size ≤ b := fun b hb => by
      have e' : b = s1.heap.objs.size + 1 ∨ b = s1.heap.objs.size := by simpa using hb
      rcases e' with z | z
      · rw [z]; exact Nat.le_add_right _ _
      · rw [z]; exact Nat.le_refl _
    rcases hq with ⟨hq, q⟩ | ⟨hq, q⟩
    · obtain ⟨its, rv, p', hz⟩ := I1.list hq
      refine call_enumerate_list p'.isList fun h' he hit hsz hk => wpAny_pyIter_enum he ?_
      have I2 : Inv X pins σ H1 { s1 with heap := h' } := I1.kept (t' := s1.toks) hk
      refine ⟨s1.heap.objs.size + 1, [s1.heap.objs.size + 1, s1.heap.objs.size], _, _, H1, rfl, I2, turn_enum a (s1.heap.objs.size + 1) s1.heap.objs.size, ⟨⟨.none, he⟩, hit, Nat.succ_ne_self _⟩, fun b hb => ?_, q⟩
      exact I1.fpOk (fpo b hb) (I1.hok.fresh (fpo b hb))
    · obtain ⟨its, rv, p', hz⟩ := I1.tuple hq
      have hal : a < s1.heap.objs.size := by obtain ⟨o, ho, _⟩ := p'; exact Heap.lt_size ho
      refine ef_call_enumerate_tuple p' fun h' he hit hsz hk => wpAny_pyIter_enum he ?_
      have I2 : Inv X pins σ H1 { s1 with heap := h' } := I1.kept (t' := s1.toks) hk
      refine ⟨s1.heap.objs.size + 1, [s1.heap.objs.size + 1, s1.heap.objs.size], _, _, H1, rfl, I2, turn_enumT a (s1.heap.objs.size + 1) s1.heap.objs.size, ⟨⟨.none, he⟩, hit, Nat.succ_ne_self _, Nat.ne_of_lt hal, Nat.ne_of_lt (Nat.lt_succ_of_lt hal)⟩, fun b hb => ?_, q⟩
      exact I1.fpOk (fpo b hb) (I1.hok.fresh (fpo b hb))
end Ef
namespace HT
open PySem PySem.Spec PyProof.Rows L2
section
variable {prog : Program} {w : World} {A : Around} {E : Value → Shared → Prop} {s : Shared}
theorem ef_revApplied {sl : Addr} {t : Tok} {n : Nat} {Q : Int × Int × Nat → Shared → Prop} (hs : s.heap.IsSliceOf sl .none .none (.int (-1) t))
    (h : Q ((n : Int) - 1, -1, n) s) : wpAny (model prog w) A (Builtin.Slice.sliceApplied (.ref sl) (pure (n : Int))) Q E s := by
  obtain ⟨os, hos, hcs, hds⟩ := id hs
  unfold Builtin.Slice.sliceApplied Builtin.Slice.sliceFields
  refine wpAny_bind (wpAny_bind (wpAny_field hos hds (x := .none) rfl (wpAny_bind (wpAny_field hos hds (x := .none) rfl (wpAny_bind (wpAny_field hos hds (x := .int (-1) t) rfl (wpAny_pure ?_)))))))
  refine wpAny_bind (slicePart_int ?_)
  show wpAny _ _ (if ((-1 : Int) == 0) = true then _ else _) _ _ s
  rw [if_neg (by decide)]
  refine wpAny_bind (slicePart_none (wpAny_bind (slicePart_none (wpAny_bind (wpAny_pure ?_)))))
  show wpAny _ _ (match Builtin.Slice.sliceAdjust none none (-1) (n : Int) with | (lo, hi) => pure (lo, (-1 : Int), Builtin.Slice.slicePlaces lo hi (-1))) _ _ s
  have e1 : Builtin.Slice.sliceAdjust none none (-1) (n : Int) = ((n : Int) - 1, -1) := by
    unfold Builtin.Slice.sliceAdjust
    simp
  have e2 : Builtin.Slice.slicePlaces ((n : Int) - 1) (-1) (-1) = n := by
    unfold Builtin.Slice.slicePlaces
    rw [if_neg (by decide)]
    by_cases h0 : n = 0
    · subst h0; rfl
    · rw [if_pos (by omega)]
      simp
  rw [e1]
  show wpAny _ _ (pure ((n : Int) - 1, (-1 : Int), Builtin.Slice.slicePlaces ((n : Int) - 1) (-1) (-1))) _ _ s
  rw [e2]
  exact wpAny_pure h
theorem ef_rev_pick (l : List Value) : ((List.range l.toArray.size).filterMap fun (m : Nat) => l.toArray[((l.toArray.size : Int) - 1 + (m : Int) * (-1)).toNat]?) = l.reverse := by
  have key : ∀ n, n ≤ l.length → ((List.range n).filterMap fun (m : Nat) => l[((l.length : Int) - 1 + (m : Int) * (-1)).toNat]?) = l.reverse.take n := by
    intro n
    induction n with
    | zero => intro _; simp
    | succ n ih =>
      intro hn
      rw [List.range_succ, List.filterMap_append, ih (by omega)]
      have e : ((l.length : Int) - 1 + (n : Int) * (-1)).toNat = l.length - 1 - n := by omega
      have hlt : l.length - 1 - n < l.length := by omega
      simp only [List.filterMap_cons, List.filterMap_nil, e, List.getElem?_eq_getElem hlt]
      rw [List.take_add_one]
      congr 1
      rw [List.getElem?_reverse (by omega), List.getElem?_eq_getElem (by omega)]
      rfl
  have := key l.length (Nat.le_refl _)
  rw [List.take_of_length_le (by simp)] at this
  rw [← this]
  simp
theorem ef_getItem_tuple_rev {t sl : Addr} {l : List Value} {tk : Tok} {Q : Value → Shared → Prop} (ht : IsTup s.heap t l.toArray) (hs : s.heap.IsSliceOf sl .none .none (.int (-1) tk))
    (h : Q (.ref s.heap.objs.size) { s with heap := s.heap.push { cls := .type "tuple", data := .seq l.reverse.toArray } })
    (hsz : l.length ≤ sizeLine) : wpAny (model prog w) A (getItem (.ref t) (.ref sl)) Q E s := by
  have htake : sizeOk (.seq l.reverse.toArray) := by
    show l.reverse.toArray.size ≤ sizeLine
    simpa using hsz
  obtain ⟨os, hos, hcs, hds⟩ := id hs
  have hTs : s.TypeIs (.ref sl) "slice" := ⟨os, hos, hcs⟩
  unfold getItem
  try with_reducible refine wpAny_holding ?_
  first | refine wpAny_bind (wpAny_pure ?_) | skip
  refine wpAny_bind (wpAny_sequenceKey ht.typeIs (by decide) ?_)
  refine wpAny_bind (wpAny_callSpecial?_slot (name := Str.ofString "__getitem__") ht.typeIs PyProof.Rows.slot_tuple_getitem
    (wpAny_call_entry PyProof.Rows.slot_tuple_getitem ht.typeIs entry_tuple_getitem ?_ (args_tuple_getitem _ _)))
  show wpAny _ _ (Builtin.Tuple.tupleItemsOf (.ref t) >>= _) _ _ s
  refine wpAny_bind (tupleItemsOf_ ht ?_)
  refine wpAny_bind (wpAny_typeOf hTs ?_)
  rw [if_pos (by decide)]
  refine wpAny_bind (ef_revApplied hs ?_)
  have hno : ¬ (((l.toArray.size : Int) - 1 == 0 && (-1 : Int) == 1 && l.toArray.size == l.toArray.size) = true) := by
    intro q
    rw [Bool.and_eq_true, Bool.and_eq_true] at q
    exact absurd (eq_of_beq q.1.2) (by decide)
  show wpAny _ _ (if ((l.toArray.size : Int) - 1 == 0 && (-1 : Int) == 1 && l.toArray.size == l.toArray.size) = true then _ else _) _ _ s
  rw [if_neg hno, ef_rev_pick]
  first
    | exact wpAny_bind (m := Builtin.Tuple.tupleExact _) (wpAny_newObj_type (wpAny_pure ⟨_, rfl, wpAny_pure h⟩) htake)
    | exact wpAny_bind (m := Builtin.Tuple.tupleExact _) (wpAny_newObj_type (wpAny_bind (wpAny_pure (wpAny_pure ⟨_, rfl, wpAny_pure h⟩))) htake)
    | exact wpAny_bind (wpAny_bind (m := Builtin.Tuple.tupleExact _) (wpAny_newObj_type (wpAny_pure (wpAny_pure ⟨_, rfl, wpAny_pure h⟩)) htake))
    | exact wpAny_bind (wpAny_bind (m := Builtin.Tuple.tupleExact _) (wpAny_newObj_type (wpAny_pure ⟨_, rfl, wpAny_pure h⟩) htake))
end
end HT
namespace Ef
open PySem L2 PySem.Spec PyProof.Rows
section
variable {X : Cx} {e : Expr} {te : TE}
/-- t[::-1] -/
def tRevT (K : PySem.W.Frag) (te : TE) : TE := fun σ H Q => te σ H fun x H1 => ∃ a xs, x = .ref a ∧ SqT K H1 a xs ∧ MkT xs.reverse H1 Q
theorem vals_reverse {xs : List V} {us : List Value} (h : Vals xs us) : Vals xs.reverse us.reverse := by
  induction h with
  | nil => exact .nil
  | cons r t ih =>
    rw [List.reverse_cons, List.reverse_cons]
    exact ih.append (.cons r .nil)
theorem pe_revT {p1 p2 p3 pos : Pos} (he : PE X e te) : PE X (.Subscript e (.Slice none none (some (.UnaryOp .USub (.Constant (.int 1) 0 p1) p2)) p3) pos) (tRevT X.K te) := by
  refine ⟨fun pins s σ H Q I h => ?_⟩
  refine Subscript_ (thn (he.run pins s σ H _ I h) fun v s1 ⟨x, H1, I1, r1, q1⟩ => ?_)
  obtain ⟨a, xs, rfl, hx, q⟩ := q1
  cases r1
  refine wpAny_Slice ?_
  rw [evalPart_none]
  refine wpAny_pure (wpAny_pure ?_)
  have hn : PE X (.UnaryOp .USub (.Constant (.int 1) 0 p1) p2) (tUn (fun x H Q => ∃ i : Int, x = .int i ∧ Q (.int (-i)) H) (tC (.int 1))) := pe_un un_neg pe_int
  rw [evalPart_some]
  refine thn (hn.run pins s1 σ H1 (fun v H' => v = .int (-1) ∧ H' = H1) I1 ⟨1, rfl, rfl, rfl⟩) fun vs s2 ⟨y, H2, I2, r2, e2, e3⟩ => ?_
  subst e2 e3
  obtain ⟨tk, rfl⟩ := r2
  have I4 : Inv X pins σ H2 { s2 with heap := s2.heap.push { cls := .type "slice", data := .fields #[.none, .none, .int (-1) tk] } } := I2.kept (t' := s2.toks) fun b ob q => Heap.get?_push_of_some _ q
  obtain ⟨its, rv, ht, hz⟩ := I4.tuple hx
  have hlen := rv.length
  refine tail_any (ops := [.ref a, .ref s2.heap.objs.size]) ht.typeIs PyProof.Rows.slot_tuple_getitem.lookup (HT.ef_getItem_tuple_rev ht (Heap.IsSliceOf.new ..) ?_ (by omega)) (by with_unfolding_all rfl)
  have h := mkT I4 (vals_reverse rv) (by simpa using hz) q
  simpa using h
end
end Ef

end

section
set_option autoImplicit false
namespace Ef
open PySem L2
section
variable {c : Ck} {x : Expr}
theorem invE_var {i : Nat} (h : chkE c (.var i) x = true) : ∃ y p, x = .Name y p ∧ visB c i y = true := by
  unfold chkE at h
  split at h <;> grind
theorem invE_bor {i : Nat} (h : chkE c (.bor i) x = true) : ∃ y p, x = .Name y p ∧ visB c i y = true := by
  unfold chkE at h
  split at h <;> grind
theorem invE_cst {d : PyData} (h : chkE c (.cst d) x = true) : ∃ k j p, x = .Constant k j p ∧ cstB d k = true := by
  unfold chkE at h
  split at h <;> grind
theorem invE_glb {y : String} (h : chkE c (.glb y) x = true) : ∃ n p, x = .Name n p ∧ n = Str.ofString y ∧ glbB c n = true := by
  unfold chkE at h
  split at h <;> grind
theorem invE_bin {op : Operator} {a b : Ex} (h : chkE c (.bin op a b) x = true) : ∃ l o r p, x = .BinOp l o r p ∧ o = op ∧ plainE l = true ∧ plainE r = true ∧ chkE c a l = true ∧ chkE c b r = true := by
  unfold chkE at h
  split at h <;> grind
theorem invE_neg {a : Ex} (h : chkE c (.neg a) x = true) : ∃ l p, x = .UnaryOp .USub l p ∧ chkE c a l = true := by
  unfold chkE at h
  split at h <;> grind
theorem invE_cmp {op : CmpOp} {a b : Ex} (h : chkE c (.cmp op a b) x = true) : ∃ l o r p, x = .Compare l [o] [r] p ∧ o = op ∧ plainE r = true ∧ chkE c a l = true ∧ chkE c b r = true := by
  unfold chkE at h
  split at h <;> grind
theorem invE_chn {o q : CmpOp} {a b d : Ex} (h : chkE c (.chn o q a b d) x = true) : ∃ l o1 o2 r z p, x = .Compare l [o1, o2] [r, z] p ∧ o1 = o ∧ o2 = q ∧ plainE r = true ∧ plainE z = true ∧ chkE c a l = true ∧ chkE c b r = true ∧ chkE c d z = true := by
  unfold chkE at h
  split at h <;> grind
theorem invE_not {a : Ex} (h : chkE c (.not a) x = true) : ∃ l p, x = .UnaryOp .Not l p ∧ chkE c a l = true := by
  unfold chkE at h
  split at h <;> grind
theorem invE_ite {t a b : Ex} (h : chkE c (.ite t a b) x = true) : ∃ l r z p, x = .IfExp l r z p ∧ a.firm = true ∧ b.firm = true ∧ chkT c t l = true ∧ chkE c a r = true ∧ chkE c b z = true := by
  unfold chkE at h
  split at h <;> grind
theorem invE_tup {es : Exs} (h : chkE c (.tup es) x = true) : ∃ xs k p, x = .Tuple xs k p ∧ chkEs c true es xs = true := by
  unfold chkE at h
  split at h <;> grind
theorem invE_lst {es : Exs} (h : chkE c (.lst es) x = true) : ∃ xs p, x = .List xs p ∧ chkEs c true es xs = true := by
  unfold chkE at h
  split at h <;> grind
theorem invE_idx {a i : Ex} (h : chkE c (.idx a i) x = true) : ∃ l r p, x = .Subscript l r p ∧ plainE r = true ∧ chkE c a l = true ∧ chkE c i r = true := by
  unfold chkE at h
  split at h <;> grind
theorem invE_slc {a : Ex} {lo hi : Ox} (h : chkE c (.slc a lo hi) x = true) : ∃ l u v q p, x = .Subscript l (.Slice u v none q) p ∧ chkE c a l = true ∧ chkO c lo u = true ∧ chkO c hi v = true := by
  unfold chkE at h
  split at h <;> grind
theorem invE_call {f : String} {es : Exs} (h : chkE c (.call f es) x = true) : ∃ n q xs p, x = .Call (.Name n q) xs [] p ∧ n = Str.ofString f ∧ glbB c n = true ∧ chkAs c es xs = true := by
  unfold chkE at h
  split at h <;> grind
theorem invE_calk0 {f kw : String} {es : Exs} (h : chkE c (.calk f kw es .no) x = true) : ∃ n q xs p, x = .Call (.Name n q) xs [] p ∧ n = Str.ofString f ∧ glbB c n = true ∧ xs.isEmpty = false ∧ chkAs c es xs = true := by
  unfold chkE at h
  split at h <;> grind
theorem invE_calk1 {f kw : String} {es : Exs} {e : Ex} (h : chkE c (.calk f kw es (.so e)) x = true) : ∃ n q xs k y r p, x = .Call (.Name n q) xs [⟨some k, y, r⟩] p ∧ n = Str.ofString f ∧ k = Str.ofString kw ∧ glbB c n = true ∧ xs.isEmpty = false ∧ chkAs c es xs = true ∧ plainE y = true ∧ e.firm = true ∧ chkE c e y = true := by
  unfold chkE at h
  split at h <;> grind
theorem invE_dnw (h : chkE c .dnw x = true) : ∃ p, x = .Dict [] [] p := by
  unfold chkE at h
  split at h <;> grind
theorem invE_dc1 {k : String} {i : Int} (h : chkE c (.dc1 k i) x = true) : ∃ y n1 p1 m n2 p2 p, x = .Dict [some (.Constant (.str y) n1 p1)] [.Constant (.int m) n2 p2] p ∧ y = Str.ofString k ∧ m = i ∧ n1 = 0 ∧ n2 = 0 := by
  unfold chkE at h
  split at h <;> grind
theorem invE_rev {a : Ex} (h : chkE c (.rev a) x = true) : ∃ l m n1 p1 p2 p3 p, x = .Subscript l (.Slice none none (some (.UnaryOp .USub (.Constant (.int m) n1 p1) p2)) p3) p ∧ m = 1 ∧ n1 = 0 ∧ chkE c a l = true := by
  unfold chkE at h
  split at h <;> grind
theorem invE_srt {a : Ex} (h : chkE c (.srt a) x = true) : ∃ n q l p, x = .Call (.Name n q) [l] [] p ∧ n = Str.ofString "sorted" ∧ glbB c n = true ∧ plainE l = true ∧ chkE c a l = true := by
  unfold chkE at h
  split at h <;> grind
theorem invE_sst {a : Ex} (h : chkE c (.sst a) x = true) : ∃ n q m r l p1 p, x = .Call (.Name n q) [.Call (.Name m r) [l] [] p1] [] p ∧ n = Str.ofString "sorted" ∧ glbB c n = true ∧ m = Str.ofString "set" ∧ glbB c m = true ∧ plainE l = true ∧ chkE c a l = true := by
  unfold chkE at h
  split at h <;> grind
theorem invE_cat {a b : Ex} (h : chkE c (.cat a b) x = true) : ∃ l p1 r p2 p, x = .List [.Starred l p1, .Starred r p2] p ∧ chkE c a l = true ∧ chkE c b r = true := by
  unfold chkE at h
  split at h <;> grind
theorem invE_lrg {it : It} (h : chkE c (.lrg it) x = true) : ∃ n q l p, x = .Call (.Name n q) [l] [] p ∧ n = Str.ofString "list" ∧ glbB c n = true ∧ isRg it = true ∧ chkI c it l l = true := by
  unfold chkE at h
  split at h <;> grind
theorem invE_blt {f : Bf} {es : Exs} (h : chkE c (.blt f es) x = true) : ∃ n q xs p, x = .Call (.Name n q) xs [] p ∧ n = Str.ofString f.name ∧ glbB c n = true ∧ xs.isEmpty = false ∧ chkEs c false es xs = true := by
  unfold chkE at h
  split at h <;> grind
theorem invE_isi {a : Ex} {t : String} (h : chkE c (.isi a t) x = true) : ∃ n q l m r p, x = .Call (.Name n q) [l, .Name m r] [] p ∧ n = Str.ofString "isinstance" ∧ m = Str.ofString t ∧ glbB c n = true ∧ glbB c m = true ∧ (t == "int" || t == "bool" || t == "tuple" || t == "str" || t == "list" || t == "dict") = true ∧ plainE l = true ∧ chkE c a l = true := by
  unfold chkE at h
  split at h <;> grind
theorem invE_lc {el : Ex} {tg : Tg} {it : It} {cd : Ox} {own : List Nat} (h : chkE c (.lc el tg it cd own) x = true) : ∃ y t i ifs k scope p, x = .ListComp y [⟨t, i, ifs, k⟩] scope p ∧ k = 0 ∧ chkI c it t i = true ∧ blkC c.N c.sc scope (ownP c own) = true ∧ chkTg (c.blk scope) tg t = true ∧ ownT tg own = true ∧ chkC (c.blk scope) cd ifs = true ∧ el.firm = true ∧ chkE (c.blk scope) el y = true := by
  unfold chkE at h
  split at h <;> grind
theorem invE_lc2 {el : Ex} {tg : Tg} {it : It} {cd : Ox} {tg2 : Tg} {it2 : It} {cd2 : Ox} {own own2 : List Nat} (h : chkE c (.lc2 el tg it cd tg2 it2 cd2 own own2) x = true) : ∃ y t i ifs k t2 i2 ifs2 k2 scope p, x = .ListComp y [⟨t, i, ifs, k⟩, ⟨t2, i2, ifs2, k2⟩] scope p ∧ k = 0 ∧ k2 = 0 ∧ chkI c it t i = true ∧ blkC c.N c.sc scope (ownP c own) = true ∧ chkTg (c.blk scope) tg t = true ∧ ownT tg own = true ∧ chkC (c.blk scope) cd ifs = true ∧ chkI (c.blk scope) it2 t2 i2 = true ∧ chkTg (c.blk scope) tg2 t2 = true ∧ ownT tg2 own2 = true ∧ chkC (c.blk scope) cd2 ifs2 = true ∧ (own2.all fun i => own.contains i) = true ∧ el.firm = true ∧ chkE (c.blk scope) el y = true := by
  unfold chkE at h
  split at h <;> grind
theorem invT_not {a : Ex} (h : chkT c (.not a) x = true) : ∃ l p, x = .UnaryOp .Not l p ∧ chkT c a l = true := by
  unfold chkT at h
  split at h <;> grind
theorem invT_cmp {op : CmpOp} {a b : Ex} (h : chkT c (.cmp op a b) x = true) : ∃ l o r p, x = .Compare l [o] [r] p ∧ o = op ∧ plainE r = true ∧ chkE c a l = true ∧ chkE c b r = true := by
  unfold chkT at h
  split at h <;> grind
theorem invT_chn {o q : CmpOp} {a b d : Ex} (h : chkT c (.chn o q a b d) x = true) : ∃ l o1 o2 r z p, x = .Compare l [o1, o2] [r, z] p ∧ o1 = o ∧ o2 = q ∧ plainE r = true ∧ plainE z = true ∧ chkE c a l = true ∧ chkE c b r = true ∧ chkE c d z = true := by
  unfold chkT at h
  split at h <;> grind
theorem invT_var {i : Nat} (h : chkT c (.var i) x = true) : ∃ y p, x = .Name y p ∧ visB c i y = true := by
  unfold chkT at h
  split at h <;> grind
theorem invT_call {f : String} {es : Exs} (h : chkT c (.call f es) x = true) : ∃ n q xs p, x = .Call (.Name n q) xs [] p ∧ n = Str.ofString f ∧ glbB c n = true ∧ chkAs c es xs = true := by
  unfold chkT at h
  split at h <;> grind
theorem invT_blt {f : Bf} {es : Exs} (h : chkT c (.blt f es) x = true) : ∃ n q xs p, x = .Call (.Name n q) xs [] p ∧ n = Str.ofString f.name ∧ glbB c n = true ∧ xs.isEmpty = false ∧ chkEs c false es xs = true := by
  unfold chkT at h
  split at h <;> grind
theorem invT_isi {a : Ex} {t : String} (h : chkT c (.isi a t) x = true) : ∃ n q l m r p, x = .Call (.Name n q) [l, .Name m r] [] p ∧ n = Str.ofString "isinstance" ∧ m = Str.ofString t ∧ glbB c n = true ∧ glbB c m = true ∧ (t == "int" || t == "bool" || t == "tuple" || t == "str" || t == "list" || t == "dict") = true ∧ plainE l = true ∧ chkE c a l = true := by
  unfold chkT at h
  split at h <;> grind
theorem invT_idx {a i : Ex} (h : chkT c (.idx a i) x = true) : ∃ l r p, x = .Subscript l r p ∧ plainE r = true ∧ chkE c a l = true ∧ chkE c i r = true := by
  unfold chkT at h
  split at h <;> grind
theorem invE_and {a b : Ex} (h : chkE c (.and a b) x = true) : (∃ l r p, x = .BoolOp .And [l, r] p ∧ a.firm = true ∧ b.firm = true ∧ chkE c a l = true ∧ chkE c b r = true) ∨ ∃ l r z rest p, x = .BoolOp .And (l :: r :: z :: rest) p ∧ a.firm = true ∧ b.firm = true ∧ chkE c a l = true ∧ chkE c b (.BoolOp .And (r :: z :: rest) p) = true := by
  unfold chkE at h
  split at h <;> grind
theorem invE_or {a b : Ex} (h : chkE c (.or a b) x = true) : (∃ l r p, x = .BoolOp .Or [l, r] p ∧ a.firm = true ∧ b.firm = true ∧ chkE c a l = true ∧ chkE c b r = true) ∨ ∃ l r z rest p, x = .BoolOp .Or (l :: r :: z :: rest) p ∧ a.firm = true ∧ b.firm = true ∧ chkE c a l = true ∧ chkE c b (.BoolOp .Or (r :: z :: rest) p) = true := by
  unfold chkE at h
  split at h <;> grind
theorem invT_and {a b : Ex} (h : chkT c (.and a b) x = true) : (∃ l r p, x = .BoolOp .And [l, r] p ∧ chkT c a l = true ∧ chkT c b r = true) ∨ ∃ l r z rest p, x = .BoolOp .And (l :: r :: z :: rest) p ∧ chkT c a l = true ∧ chkT c b (.BoolOp .And (r :: z :: rest) p) = true := by
  unfold chkT at h
  split at h <;> grind
theorem invT_or {a b : Ex} (h : chkT c (.or a b) x = true) : (∃ l r p, x = .BoolOp .Or [l, r] p ∧ chkT c a l = true ∧ chkT c b r = true) ∨ ∃ l r z rest p, x = .BoolOp .Or (l :: r :: z :: rest) p ∧ chkT c a l = true ∧ chkT c b (.BoolOp .Or (r :: z :: rest) p) = true := by
  unfold chkT at h
  split at h <;> grind
variable {t : Expr}
theorem invI_rg {a : Ex} (h : chkI c (.rg a) t x = true) : ∃ n q l p, x = .Call (.Name n q) [l] [] p ∧ n = Str.ofString "range" ∧ glbB c n = true ∧ plainE l = true ∧ chkE c a l = true := by
  unfold chkI at h
  split at h <;> grind
theorem invI_rg2 {a b : Ex} (h : chkI c (.rg2 a b) t x = true) : ∃ n q l r p, x = .Call (.Name n q) [l, r] [] p ∧ n = Str.ofString "range" ∧ glbB c n = true ∧ plainE l = true ∧ plainE r = true ∧ chkE c a l = true ∧ chkE c b r = true := by
  unfold chkI at h
  split at h <;> grind
theorem invI_en {a : Ex} (h : chkI c (.en a) t x = true) : ∃ ts kk tp n q l p, t = .Tuple ts kk tp ∧ x = .Call (.Name n q) [l] [] p ∧ n = Str.ofString "enumerate" ∧ glbB c n = true ∧ plainE l = true ∧ a.firm = true ∧ chkE c a l = true := by
  unfold chkI at h
  split at h <;> grind
theorem invI_zp {a b : Ex} (h : chkI c (.zp a b) t x = true) : ∃ ts kk tp n q l r p, t = .Tuple ts kk tp ∧ x = .Call (.Name n q) [l, r] [] p ∧ n = Str.ofString "zip" ∧ glbB c n = true ∧ plainE l = true ∧ plainE r = true ∧ a.firm = true ∧ b.firm = true ∧ chkE c a l = true ∧ chkE c b r = true := by
  unfold chkI at h
  split at h <;> grind
theorem invI_zm {a b : Ex} (h : chkI c (.zm a b) t x = true) : ∃ ts kk tp n q l r p, t = .Tuple ts kk tp ∧ x = .Call (.Name n q) [l, r] [] p ∧ n = Str.ofString "zip" ∧ glbB c n = true ∧ plainE l = true ∧ plainE r = true ∧ a.firm = true ∧ b.firm = true ∧ chkE c a l = true ∧ chkE c b r = true := by
  unfold chkI at h
  split at h <;> grind
end
end Ef

end

section
set_option autoImplicit false
namespace Ef
open PySem L2 PySem.Spec PyProof.Rows
section
variable {X : Cx} {T : BoxT} {G : Gm} {k : Nat} {c : Ck}
/-! ### calls of defs -/
def tCG (K : PySem.W.Frag) (T : BoxT) (d : Con) (t : TA) : TE := fun σ H Q => t σ H fun vs H1 => ∃ bx I as a, Hv T bx I H1 ∧ ArAll K bx I vs as ∧ d.pre a as ∧ ∀ v I' H' r, Gw T bx I H1 I' H' → Dq K I' v r → d.post a r → Q v H'
theorem run_G {f : Addr} {fd : FuncData} {ps : List Str} {d : Con} {pins : List (Addr × Obj)} {σ : L2.St} {H : Hp} {s : Shared} {Q : VK} {us : List Value} {vs : List V} (F : FnG X.prog X.w X.K X.mg X.base T k f fd ps d) (hr : Room k X.A) (hg : X.A.guards = some []) (hb : Binds X.K fd ps [])
    (I : L2.Inv X pins σ H s) (r : Vals vs us) (h : ∃ bx J as a, Hv T bx J H ∧ ArAll X.K bx J vs as ∧ d.pre a as ∧ ∀ v I' H' r, Gw T bx J H I' H' → Dq X.K I' v r → d.post a r → Q v H') : wpAny (model X.prog X.w) X.A (call (.ref f) us) (L2.EP X pins σ Q) X.xe s := by
  obtain ⟨bx, J, as, gh, hv, ar, pre, q⟩ := h
  have hl : us.length = ps.length := by rw [← F.len gh as pre, ← ar.length, r.length]
  have hb2 := hb s us I.kIn (by simpa using hl)
  rw [List.append_nil] at hb2
  refine wpAny_call (codeAny_mono (F.run X.A X.stack s H J bx ⟨us, []⟩ us vs as gh hr hg I.env0 hb2 r hv ar pre) fun z s' hz => ?_)
  cases z with
  | error e => exact (show False from hz).elim
  | ok fl =>
    cases fl with
    | ret u =>
      obtain ⟨v, H', h1, h2, h3, h4, h5, I', dd, g1, g2, g3⟩ := hz
      exact I.after ⟨v, H', h1, h2, h3, h4, h5, q v I' H' dd g1 g2 g3⟩
    | next => exact False.elim hz
    | brk => exact False.elim hz
    | cont => exact False.elim hz
theorem pe_G {f : Addr} {fd : FuncData} {ps : List Str} {d : Con} {x : Str} {p pos : Pos} {e : Expr} {es : List Expr} {t : TA} (F : FnG X.prog X.w X.K X.mg X.base T k f fd ps d) (hr : Room k X.A) (hgu : X.A.guards = some []) (hg : Gl X x) (hm : X.mg x = some (.ref f)) (hk : PySem.W.keepIn X.K (.ref f) = true)
    (hb : Binds X.K fd ps []) (ha : PA X (e :: es) t) (hpl : plainAll (e :: es) = true) (hdb : (x == ("__debug__" : Str)) = false) : PE X (.Call (.Name x p) (e :: es) [] pos) (tCG X.K T d t) := by
  refine ⟨fun pins s σ H Q I h => ?_⟩
  refine wpAny_Call_Name_kw (ld_glob I hg hm ?_ hdb)
  have h1 : plainE e = true ∧ plainAll es = true := by simpa [plainAll] using hpl
  refine PySem.W.callWith_K (h₀ := X.base) I.ok.mod.kin hk (thn (ha.run pos pins s σ H _ I h) fun us s1 ⟨vs, H1, I1, r, q⟩ => ⟨I1.kIn, ?_⟩) (star_plain h1.1 es X.env) (stars_plain pos X.env es h1.2)
  exact run_G F hr hgu hb I1 r q
theorem pe_G0 {f : Addr} {fd : FuncData} {ps : List Str} {d : Con} {x : Str} {p pos : Pos} (F : FnG X.prog X.w X.K X.mg X.base T k f fd ps d) (hr : Room k X.A) (hgu : X.A.guards = some []) (hg : Gl X x) (hm : X.mg x = some (.ref f)) (hk : PySem.W.keepIn X.K (.ref f) = true)
    (hb : Binds X.K fd ps []) (hdb : (x == ("__debug__" : Str)) = false) : PE X (.Call (.Name x p) [] [] pos) (tCG X.K T d tNil) := by
  refine ⟨fun pins s σ H Q I h => ?_⟩
  refine wpAny_Call_Name_kw (ld_glob I hg hm ?_ hdb)
  exact PySem.W.callWith_K0 I.kIn hk (run_G (us := []) F hr hgu hb I .nil h)
theorem lf_call (g : Gd T G k c X) {f : String} {d : Con} {q pos : Pos} {es : Exs} {xs : List Expr} (hd : G.con f = some d) (hgl : glbB c (Str.ofString f) = true) (hc : chkAs c es xs = true) (ha : PA X xs (lfAs X.K T (wpAs G es))) :
    PE X (.Call (.Name (Str.ofString f) q) xs [] pos) (tCG X.K T d (lfAs X.K T (wpAs G es))) := by
  obtain ⟨fa, fd, ps, hm, hk, hb, F⟩ := (g.con f d hd).ex
  obtain ⟨h1, h2, h3⟩ := g.gl hgl
  cases xs with
  | nil =>
    refine PE.imp (pe_G0 F g.room g.grd h1 hm hk hb h2) fun σ H Q h => ?_
    cases es with
    | nil =>
      obtain ⟨bx, I0, H0, ρ, I, s, w⟩ := h
      simp only [wpAs] at w
      exact w [] I H (Gw.refl s.hv) .nil
    | cons e es => simp [chkAs] at hc
  | cons e es' => exact pe_G F g.room g.grd h1 hm hk hb ha (chkAs_plain hc) h2
/-! ### calls with a keyword, or its default -/
def tCGK (K : PySem.W.Frag) (T : BoxT) (d : Con) (n : Nat) (t tk : TA) : TE := fun σ H Q => t σ H fun vs H1 => tk σ H1 fun zs H2 => vs.length = n ∧ zs.length = 1 ∧ ∃ bx I as a, Hv T bx I H2 ∧ ArAll K bx I (vs ++ zs) as ∧ d.pre a as ∧ ∀ v I' H' r, Gw T bx I H2 I' H' → Dq K I' v r → d.post a r → Q v H'
theorem pe_GK {f : Addr} {fd : FuncData} {ps : List Str} {n : Nat} {kw : Str} {d : Con} {x : Str} {p pos kpos : Pos} {e y : Expr} {es : List Expr} {t : TA} {te : TE} (F : FnG X.prog X.w X.K X.mg X.base T k f fd ps d) (hr : Room k X.A) (hgu : X.A.guards = some []) (hg : Gl X x) (hm : X.mg x = some (.ref f)) (hk : PySem.W.keepIn X.K (.ref f) = true)
    (hb : KBn X.K fd ps n [kw] (fun us ws => us ++ ws) (fun vs zs => vs ++ zs)) (ha : PA X (e :: es) t) (hpl : plainAll (e :: es) = true) (hdb : (x == ("__debug__" : Str)) = false) (hy : PE X y te) : PE X (.Call (.Name x p) (e :: es) [⟨some kw, y, kpos⟩] pos) (tCGK X.K T d n t (tCons te tNil)) := by
  refine ⟨fun pins s σ H Q I h => ?_⟩
  refine wpAny_Call_Name_kw (ld_glob I hg hm ?_ hdb)
  have h1 : plainE e = true ∧ plainAll es = true := by simpa [plainAll] using hpl
  have hkw : PK X [⟨some kw, y, kpos⟩] (tCons te tNil) := pk_cons hy pk_nil
  have hno : ((backTo pos (starEach (e :: es) X.env)).any (·.1) || (backToKw pos (keywordEach [⟨some kw, y, kpos⟩] X.env)).any (·.1.isNone)) = false := by
    have z1 := stars_plain pos X.env es h1.2
    have z2 := star_plain h1.1 es X.env
    rw [z2]
    have z3 : ((backTo pos ((false, eval e X.env) :: starEach es X.env)).any (·.1)) = (backTo pos (starEach es X.env)).any (·.1) := rfl
    rw [z3]
    simp only [Bool.or_eq_false_iff]
    refine ⟨?_, rfl⟩
    simpa using z1
  refine PySem.W.callWith_KW (h₀ := X.base) I.ok.mod.kin hk rfl (thn (ha.run pos pins s σ H _ I h) fun us s1 ⟨vs, H1, I1, r, q⟩ => ?_) hno (star_plain h1.1 es X.env)
  refine thn (hkw.run pos pins s1 σ H1 _ I1 q) fun ws s2 ⟨zs, H2, I2, rz, l1, l2, bx, J, as, gh, hv, ar, pre, q2⟩ => ⟨I2.kIn, ?_⟩
  have rr := hb.rel r rz
  refine wpAny_call (codeAny_mono (F.run X.A X.stack s2 H2 J bx ⟨us, [kw].zip ws⟩ (us ++ ws) (vs ++ zs) as gh hr hgu I2.env0 (hb.to s2 us ws I2.kIn (r.length.symm.trans l1) (rz.length.symm.trans l2)) rr hv ar pre) fun z s' hz => ?_)
  cases z with
  | error e => exact (show False from hz).elim
  | ok fl =>
    cases fl with
    | ret u =>
      obtain ⟨v, H', h1, h2, h3, h4, h5, I', dd, g1, g2, g3⟩ := hz
      exact I2.after ⟨v, H', h1, h2, h3, h4, h5, q2 v I' H' dd g1 g2 g3⟩
    | next => exact False.elim hz
    | brk => exact False.elim hz
    | cont => exact False.elim hz
theorem ArAll.app {K : PySem.W.Frag} {bx : Bx} {I : Hp} {v : V} {d : PyData} (h : Dq K I v d) : ∀ {vs as}, ArAll K bx I vs as → ArAll K bx I (vs ++ [v]) (as ++ [.dat d])
  | _, _, .nil => .dat h .nil
  | _, _, .dat h' q => .dat h' (ArAll.app h q)
  | _, _, .box h' q => .box h' (ArAll.app h q)
def tCGD (K : PySem.W.Frag) (T : BoxT) (d : Con) (d0 : PyData) (t : TA) : TE := fun σ H Q => t σ H fun vs H1 => ∃ bx I as a, Hv T bx I H1 ∧ ArAll K bx I vs as ∧ d.pre a (as ++ [.dat d0]) ∧ ∀ v I' H' r, Gw T bx I H1 I' H' → Dq K I' v r → d.post a r → Q v H'
theorem pe_GD {f : Addr} {fd : FuncData} {ps : List Str} {d : Con} {d0 : PyData} {ds : List Value} {dv : V} {x : Str} {p pos : Pos} {e : Expr} {es : List Expr} {t : TA} (F : FnG X.prog X.w X.K X.mg X.base T k f fd ps d) (hr : Room k X.A) (hgu : X.A.guards = some []) (hg : Gl X x) (hm : X.mg x = some (.ref f)) (hk : PySem.W.keepIn X.K (.ref f) = true)
    (hb : Binds X.K fd ps ds) (hdv : Vals [dv] ds) (hdq : ∀ I, Dq X.K I dv d0) (ha : PA X (e :: es) t) (hpl : plainAll (e :: es) = true) (hdb : (x == ("__debug__" : Str)) = false) : PE X (.Call (.Name x p) (e :: es) [] pos) (tCGD X.K T d d0 t) := by
  refine ⟨fun pins s σ H Q I h => ?_⟩
  refine wpAny_Call_Name_kw (ld_glob I hg hm ?_ hdb)
  have h1 : plainE e = true ∧ plainAll es = true := by simpa [plainAll] using hpl
  refine PySem.W.callWith_K (h₀ := X.base) I.ok.mod.kin hk (thn (ha.run pos pins s σ H _ I h) fun us s1 ⟨vs, H1, I1, r, bx, J, as, gh, hv, ar, pre, q⟩ => ⟨I1.kIn, ?_⟩) (star_plain h1.1 es X.env) (stars_plain pos X.env es h1.2)
  have rr := r.append hdv
  have ar2 := ArAll.app (hdq J) ar
  have hl : (us ++ ds).length = ps.length := by rw [← F.len gh _ pre, ← ar2.length, rr.length]
  have hb2 := hb s1 us I1.kIn hl
  refine wpAny_call (codeAny_mono (F.run X.A X.stack s1 H1 J bx ⟨us, []⟩ (us ++ ds) (vs ++ [dv]) (as ++ [.dat d0]) gh hr hgu I1.env0 hb2 rr hv ar2 pre) fun z s' hz => ?_)
  cases z with
  | error e => exact (show False from hz).elim
  | ok fl =>
    cases fl with
    | ret u =>
      obtain ⟨v, H', h1, h2, h3, h4, h5, I', dd, g1, g2, g3⟩ := hz
      exact I1.after ⟨v, H', h1, h2, h3, h4, h5, q v I' H' dd g1 g2 g3⟩
    | next => exact False.elim hz
    | brk => exact False.elim hz
    | cont => exact False.elim hz
/-! ### built-ins by name -/
theorem pe_blt (g : Gd T G k c X) {f : Bf} {q pos : Pos} {e : Expr} {es : List Expr} {t : TA} (hgl : glbB c (Str.ofString f.name) = true) (hpl : plainAll (e :: es) = true) (ha : PA X (e :: es) t) :
    PE X (.Call (.Name (Str.ofString f.name) q) (e :: es) [] pos) (tCB (rB X.K T f) t) := by
  obtain ⟨h1, h2, h3⟩ := g.gl hgl
  have h4 : plainE e = true ∧ plainAll es = true := by simpa [plainAll] using hpl
  have hm : X.mg (Str.ofString f.name) = none := g.blt _ (by cases f <;> decide)
  have hc := call_blt (T := T) g.calm g.grd g.units f
  have hbt := boot_bf f
  have s1 := star_plain h4.1 es X.env
  have s2 := stars_plain pos X.env es h4.2
  cases f <;> first
    | exact pe_callB hc h1 hm hbt ha h3 h2 s1 s2
    | exact pe_callTy hc h1 hm hbt ha h3 h2 s1 s2
theorem lf_blt {f : Bf} {es : Exs} {m : Md} (hm : m = f.md) {σ : L2.St} {H : Hp} {Q : VK} (h : lfE X.K T m (fun ρ Q => wpEs G es ρ fun ds => bltW f ds Q) σ H Q) : tCB (rB X.K T f) (lfEs X.K T false (wpEs G es)) σ H Q := by
  subst hm
  obtain ⟨bx, I0, H0, ρ, I, s, q⟩ := h
  refine ⟨bx, I0, H0, ρ, I, s, wpEs_mono es (fun ds w vs I1 H1 g1 b1 => ?_) q⟩
  refine ⟨bx, I1, ds, g1.hv, b1, bltW_mono (fun z kk v I2 H2 g2 vl => kk v I2 H2 (g1.trans g2) ?_) w⟩
  cases f <;> first
    | exact vl
    | (rcases vl with ⟨a, o, e1, hn, r⟩ | vl
       · exact .inl ⟨a, o, e1, g1.free hn, r⟩
       · exact .inr vl)
/-! ### isinstance -/
theorem lf_isi (g : Gd T G k c X) {t : String} {q pos r : Pos} {l : Expr} {fa : Rho → (PyData → Prop) → Prop} (ma : ∀ ρ (Q R : PyData → Prop), (∀ x, Q x → R x) → fa ρ Q → fa ρ R) (hn : glbB c (Str.ofString "isinstance") = true) (hm : glbB c (Str.ofString t) = true)
    (ht : (t == "int" || t == "bool" || t == "tuple" || t == "str" || t == "list" || t == "dict") = true) (hp : plainE l = true) (ha : PE X l (lfE X.K T .bo fa)) :
    PE X (.Call (.Name (Str.ofString "isinstance") q) [l, .Name (Str.ofString t) r] [] pos) (lfE X.K T .st fun ρ Q => fa ρ fun x => Q (.bool (tySub t x))) := by
  obtain ⟨h1, h2, h3⟩ := g.gl hn
  obtain ⟨k1, k2, k3⟩ := g.gl hm
  obtain ⟨b1, b2, b3⟩ := boot_ty t ht
  have e2 : PE X (.Name (Str.ofString t) r) (tC (.ty t)) := pe_bltn k1 (g.blt t b3) b1 rfl k3 k2
  have pa : PA X [l, .Name (Str.ofString t) r] _ := pa_cons ha (pa_cons e2 pa_nil) (star_plain hp _ _)
  refine PE.imp (pe_callB call_isiY h1 (g.blt "isinstance" (by decide)) (by decide +kernel) pa h3 h2 (star_plain hp _ _) rfl) fun σ H Q h => ?_
  obtain ⟨bx, I0, H0, ρ, I, s, q⟩ := h
  refine ⟨bx, I0, H0, ρ, I, s, ma _ _ _ (fun d w v I1 H1 g1 b => ?_) q⟩
  obtain ⟨n, hn, ty, e⟩ := tyX_of g1.hv b
  exact ⟨v, .ty t, .type n, .type t, _, rfl, .ty t, ty, kit_ty (isi_kit t ht n hn), by rw [← e t]; exact w _ I1 H1 g1 (.bl _)⟩
/-! ### list comprehensions -/
theorem hv_none {bx : Bx} {I H : Hp} (hv : Hv T bx I H) {p : Addr} (hp : H p = none) : I p = none := by
  cases e : I p with
  | none => rfl
  | some o => rw [hv.sub p o e] at hp; cases hp
theorem hv_nfp {bx : Bx} {I H : Hp} (hv : Hv T bx I H) {p : Addr} (hp : H p = none) : p ∉ fpOf bx := fun z => by
  obtain ⟨u, e⟩ := hv.hasb p z
  rw [hp] at e; cases e
theorem drop_cons {ds : List PyData} {i : Nat} {d : PyData} (h : ds[i]? = some d) : ds.drop i = d :: ds.drop (i + 1) := by
  obtain ⟨h1, h2⟩ := List.getElem?_eq_some_iff.mp h
  rw [List.drop_eq_getElem_cons h1, h2]
/-- what a turn of a block is to reach: the list at D as it is then -/
def At (K : PySem.W.Frag) (T : BoxT) (bx : Bx) (Ia Ha : Hp) (D : Addr) (R : List PyData → Prop) (H : Hp) : Prop := ∃ I xs acc, Gw T bx Ia Ha I (hid D H) ∧ I D = none ∧ H D = some (.lst xs) ∧ DqAll K I xs acc ∧ R acc
theorem tg_ok {c c' : Ck} {it : It} {tg : Tg} {t i : Expr} (h : chkI c it t i = true) (h2 : chkTg c' tg t = true) (hp : it.prs = true) : tpB tg = true := by
  cases tg with
  | tp js => rfl
  | nm j =>
    cases it <;> simp only [It.prs] at hp <;> try (cases hp; done)
    all_goals (cases t <;> simp only [chkI, chkTg] at h h2 <;> first | (cases h; done) | (cases h2; done))
/-- one walk of a block: from a list at D to a longer one -/
theorem comp_ok {K : PySem.W.Frag} {bx : Bx} {I0 H0 Ia Ha : Hp} {ρ : Rho} {σv : L2.St} {own : List Nat} {D : Addr} {J : L2.It} {ds : List PyData} {tg : Tg} {fc : Rho → (Bool → Prop) → Prop} {fe : Rho → (PyData → Prop) → Prop} {Qd : List PyData → Prop} {Fin : Hp → Prop} {Hb : Hp}
    (mc : ∀ ρ (Q R : Bool → Prop), (∀ x, Q x → R x) → fc ρ Q → fc ρ R) (me : ∀ ρ (Q R : PyData → Prop), (∀ x, Q x → R x) → fe ρ Q → fe ρ R)
    (s : SA K T bx I0 H0 ρ (L2.wipe σv own) Ia Ha) (np : D ∉ fpOf bx) {fl : Bool} (wk : Wk K T bx Ia fl J ds) (ho : ownT tg own = true) (ht : fl = true → tpB tg = true)
    (w : At K T bx Ia Ha D (fun acc => wpComp tg fc fe ρ ds acc Qd) Hb) (fin : ∀ H, At K T bx Ia Ha D Qd H → Fin H) :
    ∃ W : Nat → Nat → Hp → Prop, (∃ m, W 0 m Hb) ∧ ∀ i m H, W i m H → (J.stop i H ∧ Fin H) ∨ (J.go i H ∧ ∃ Nx : Hp → Prop, (∀ H', Nx H' → ∃ m', m' < m ∧ W (i + 1) m' H') ∧ ∀ x H', J.yld i H x H' → gOf K tg x (L2.wipe σv own) H' fun σ2 H2 => L2.wipe σ2 own = L2.wipe σv own ∧ lfT K T fc σ2 H2 fun b H3 =>
      if b = true then lfE K T .st fe σ2 H3 fun y H4 => ∃ acc, H4 D = some (.lst acc) ∧ acc.length < sizeLine ∧ Nx (upd H4 D (.lst (acc ++ [y]))) else Nx H3) := by
  refine ⟨fun i m H => m = ds.length - i ∧ i ≤ ds.length ∧ At K T bx Ia Ha D (fun acc => wpComp tg fc fe ρ (ds.drop i) acc Qd) H, ⟨ds.length, by simp, Nat.zero_le _, by simpa using w⟩, ?_⟩
  rintro i m H ⟨rfl, hi, I, xs, acc, g, iD, hHD, dq, w⟩
  have sI : Sub Ia I := g.sub s.hv
  have hvH : Hv T bx I H := g.hv.unhide np
  by_cases hlt : i < ds.length
  · have hd : ds[i]? = some ds[i] := List.getElem?_eq_getElem hlt
    obtain ⟨go, yl⟩ := (wk i I H sI hvH).1 _ hd
    rw [drop_cons hd] at w
    refine .inr ⟨go, At K T bx Ia Ha D fun acc => wpComp tg fc fe ρ (ds.drop (i + 1)) acc Qd, fun H' n => ⟨ds.length - (i + 1), by omega, rfl, hlt, n⟩, fun x H' y => ?_⟩
    obtain ⟨I2, g2, dx⟩ := yl x H' y
    have i2 : I2 D = none := (g2.im D _ hHD).trans iD
    have e2 : H' D = some (.lst xs) := g2.hp D _ hHD np
    have gg2 := g.trans (g2.hide np i2)
    have s2 := s.grow gg2
    refine asg_ok ht s2 g2.hv.sub dx w fun ρ2 σ2 s3 w2 hw => ⟨(hw own ho).trans (wipe_wipe σv own), ?_⟩
    refine ⟨bx, I0, H0, ρ2, I2, s3.unhide np, mc _ _ _ (fun b w3 I3 H3 g3 => ?_) w2⟩
    have e3 : H3 D = some (.lst xs) := g3.hp D _ e2 np
    have i3 : I3 D = none := (g3.im D _ e2).trans i2
    have gg3 := gg2.trans (g3.hide np i3)
    have dq3 : DqAll K I3 xs acc := (dq.sub (g2.sub hvH)).sub (g3.sub g2.hv)
    cases b with
    | false => exact ⟨I3, xs, acc, gg3, i3, e3, dq3, w3⟩
    | true =>
      refine ⟨bx, I0, H0, ρ2, I3, (s3.grow (g3.hide np i3)).unhide np, me _ _ _ (fun y w4 v I4 H4 g4 dv => ?_) w3⟩
      have e4 : H4 D = some (.lst xs) := g4.hp D _ e3 np
      have i4 : I4 D = none := (g4.im D _ e3).trans i3
      have dq4 : DqAll K I4 xs acc := dq3.sub (g4.sub g3.hv)
      refine ⟨xs, e4, by rw [dq4.length]; exact w4.1, I4, xs ++ [v], acc ++ [y], ?_, i4, upd_same, dq4.append (.cons dv .nil), w4.2⟩
      rw [hid_upd]
      exact gg3.trans (g4.hide np i4)
  · have e : i = ds.length := by omega
    subst e
    refine .inl ⟨(wk _ I H sI hvH).2 (Nat.le_refl _), fin H ⟨I, xs, acc, g, iD, hHD, dq, ?_⟩⟩
    rw [List.drop_length] at w
    exact w
theorem lf_lc {it : It} {tg : Tg} {cd : Ox} {el : Ex} {own : List Nat} (ho : ownT tg own = true) (ht : it.prs = true → tpB tg = true) {σ : L2.St} {H : Hp} {Q : VK} (h : lfE X.K T .fr (wpE G (.lc el tg it cd own)) σ H Q) :
    tLc (lfI X.K T it.prs (wpI G it)) (gOf X.K tg) (lfT X.K T (wpC G cd)) (lfE X.K T .st (wpE G el)) own σ H Q := by
  obtain ⟨bx, I0, H0, ρ, I, s, q⟩ := h
  simp only [wpE] at q
  refine ⟨bx, I0, H0, ρ, I, s, wpI_mono it (fun ds w J I1 H1 g1 wk D hD => ?_) q⟩
  have s1 := (s.grow g1).wipe own
  have i1 : I1 D = none := hv_none g1.hv hD
  have np := hv_nfp g1.hv hD
  refine comp_ok (Ha := H1) (Qd := fun ys => ∀ v I' H', Gw T bx I H I' H' → Vl X.K bx H I' H' .fr v (.list ys) → Q v H') (fun ρ _ _ h q => wpC_mono cd h q) (fun ρ _ _ h q => wpE_mono el h q) s1 np wk ho ht
    ⟨I1, [], [], by rw [hid_upd, hid_new hD]; exact Gw.refl g1.hv, i1, upd_same, .nil, w⟩ ?_
  rintro H2 ⟨I2, xs, ys, g2, i2, h2, dq, qd⟩
  exact qd _ I2 H2 (g1.trans (g2.unhide np)) (.inl ⟨D, _, rfl, g1.free hD, i2, h2, .lst dq⟩)
theorem wipe_sub {σ2 σ : L2.St} {own own2 : List Nat} (h : L2.wipe σ2 own2 = L2.wipe σ own2) (hs : ∀ i ∈ own2, i ∈ own) : L2.wipe σ2 own = L2.wipe σ own := by
  apply List.ext_getElem?
  intro j
  have e := congrArg (fun l => l[j]?) h
  simp only [wipe_get] at e ⊢
  have hl : σ2.length = σ.length := by have := congrArg List.length h; simpa [wipe_length] using this
  by_cases hj : j ∈ own
  · simp [hj, hl]
  · have : j ∉ own2 := fun z => hj (hs j z)
    simpa [hj, this] using e
theorem lf_lc2 {it it2 : It} {tg tg2 : Tg} {cd cd2 : Ox} {el : Ex} {own own2 : List Nat} (ho : ownT tg own = true) (ho2 : ownT tg2 own2 = true) (ht : it.prs = true → tpB tg = true) (ht2 : it2.prs = true → tpB tg2 = true) {σ : L2.St} {H : Hp} {Q : VK}
    (h : lfE X.K T .fr (wpE G (.lc2 el tg it cd tg2 it2 cd2 own own2)) σ H Q) :
    tLc2 (lfI X.K T it.prs (wpI G it)) (gOf X.K tg) (lfT X.K T (wpC G cd)) (lfI X.K T it2.prs (wpI G it2)) (gOf X.K tg2) (lfT X.K T (wpC G cd2)) (lfE X.K T .st (wpE G el)) own own2 σ H Q := by
  obtain ⟨bx, I0, H0, ρ, I, s, q⟩ := h
  simp only [wpE] at q
  refine ⟨bx, I0, H0, ρ, I, s, wpI_mono it (fun ds w J I1 H1 g1 wk D hD => ?_) q⟩
  have s1 := (s.grow g1).wipe own
  have i1 : I1 D = none := hv_none g1.hv hD
  have np := hv_nfp g1.hv hD
  generalize hinn : (fun (ρ' : Rho) (acc : List PyData) (R : List PyData → Prop) => wpI G it2 ρ' fun es => wpComp tg2 (wpC G cd2) (wpE G el) (wipeR ρ' own2) es acc R) = inn at w
  generalize hQd : (fun (ys : List PyData) => ∀ v I' H', Gw T bx I H I' H' → Vl X.K bx H I' H' .fr v (.list ys) → Q v H') = Qd at w
  refine ⟨fun i m H => m = ds.length - i ∧ i ≤ ds.length ∧ At X.K T bx I1 H1 D (fun acc => wpComp2 tg (wpC G cd) inn (wipeR ρ own) (ds.drop i) acc Qd) H,
    ⟨ds.length, by simp, Nat.zero_le _, I1, [], [], by rw [hid_upd, hid_new hD]; exact Gw.refl g1.hv, i1, upd_same, .nil, by simpa using w⟩, ?_⟩
  rintro i m Hc ⟨rfl, hi, Ic, xs, acc, g, iD, hHD, dq, w⟩
  have sI : Sub I1 Ic := g.sub s1.hv
  have hvH : Hv T bx Ic Hc := g.hv.unhide np
  by_cases hlt : i < ds.length
  · have hd : ds[i]? = some ds[i] := List.getElem?_eq_getElem hlt
    obtain ⟨go, yl⟩ := (wk i Ic Hc sI hvH).1 _ hd
    rw [drop_cons hd] at w
    refine .inr ⟨go, At X.K T bx I1 H1 D fun acc => wpComp2 tg (wpC G cd) inn (wipeR ρ own) (ds.drop (i + 1)) acc Qd, fun H' n => ⟨ds.length - (i + 1), by omega, rfl, hlt, n⟩, fun x H' y => ?_⟩
    obtain ⟨I2, g2, dx⟩ := yl x H' y
    have i2 : I2 D = none := (g2.im D _ hHD).trans iD
    have e2 : H' D = some (.lst xs) := g2.hp D _ hHD np
    have gg2 := g.trans (g2.hide np i2)
    have s2 := s1.grow gg2
    refine asg_ok ht s2 g2.hv.sub dx w fun ρ2 σ2 s3 w2 hw => ⟨(hw own ho).trans (wipe_wipe σ own), ?_⟩
    refine ⟨bx, I0, H0, ρ2, I2, s3.unhide np, wpC_mono cd (fun b w3 I3 H3 g3 => ?_) w2⟩
    have e3 : H3 D = some (.lst xs) := g3.hp D _ e2 np
    have i3 : I3 D = none := (g3.im D _ e2).trans i2
    have gg3 := gg2.trans (g3.hide np i3)
    have s4 := s3.grow (g3.hide np i3)
    have dq3 : DqAll X.K I3 xs acc := (dq.sub (g2.sub hvH)).sub (g3.sub g2.hv)
    cases b with
    | false => exact ⟨I3, xs, acc, gg3, i3, e3, dq3, w3⟩
    | true =>
      simp only [if_true] at w3
      rw [← hinn] at w3
      refine ⟨bx, I0, H0, ρ2, I3, s4.unhide np, wpI_mono it2 (fun es w4 J1 I4 H4 g4 wk4 => ?_) w3⟩
      have e4 : H4 D = some (.lst xs) := g4.hp D _ e3 np
      have i4 : I4 D = none := (g4.im D _ e3).trans i3
      have dq4 : DqAll X.K I4 xs acc := dq3.sub (g4.sub g3.hv)
      have s5 := (s4.grow (g4.hide np i4)).wipe own2
      have gg4 := gg3.trans (g4.hide np i4)
      refine comp_ok (Ha := hid D H4) (Qd := fun acc' => wpComp2 tg (wpC G cd) inn (wipeR ρ own) (ds.drop (i + 1)) acc' Qd) (fun ρ _ _ h q => wpC_mono cd2 h q) (fun ρ _ _ h q => wpE_mono el h q) s5 np wk4 ho2 ht2
        ⟨I4, xs, acc, Gw.refl s5.hv, i4, e4, dq4, by rw [← hinn]; exact w4⟩ ?_
      rintro H5 ⟨I5, xs5, ys5, g5, i5, h5, dq5, w5⟩
      exact ⟨I5, xs5, ys5, gg4.trans g5, i5, h5, dq5, w5⟩
  · have e : i = ds.length := by omega
    subst e
    refine .inl ⟨(wk _ Ic Hc sI hvH).2 (Nat.le_refl _), ?_⟩
    rw [List.drop_length] at w
    have w : Qd acc := w
    rw [← hQd] at w
    exact w _ Ic Hc (g1.trans (g.unhide np)) (.inl ⟨D, _, rfl, g1.free hD, iD, hHD, .lst dq⟩)
end
end Ef

end

section
set_option autoImplicit false
namespace Ef
open PySem L2 PySem.Spec PyProof.Rows
/-! ### dicts with tuples as keys: their loops -/
section
variable {c : Ck} {x t : Expr}
theorem invE_srn {a : Ex} (h : chkE c (.srn a) x = true) : ∃ n q l p, x = .Call (.Name n q) [l] [] p ∧ n = Str.ofString "sorted" ∧ glbB c n = true ∧ plainE l = true ∧ chkE c a l = true := by
  unfold chkE at h
  split at h <;> grind
theorem invE_ssn {a : Ex} (h : chkE c (.ssn a) x = true) : ∃ n q m r l p1 p, x = .Call (.Name n q) [.Call (.Name m r) [l] [] p1] [] p ∧ n = Str.ofString "sorted" ∧ glbB c n = true ∧ m = Str.ofString "set" ∧ glbB c m = true ∧ plainE l = true ∧ chkE c a l = true := by
  unfold chkE at h
  split at h <;> grind
theorem invE_get {a k d : Ex} (h : chkE c (.get a k d) x = true) : (∃ o p y q, d = .cst .none ∧ x = .Call (.Attribute o (Str.ofString "get") p) [y] [] q ∧ p.endLine = q.line ∧ plainE y = true ∧ plainE o = true ∧ baseB o = true ∧ chkE c a o = true ∧ chkE c k y = true) ∨
    (∃ o p y z q, x = .Call (.Attribute o (Str.ofString "get") p) [y, z] [] q ∧ p.endLine = q.line ∧ plainE y = true ∧ plainE z = true ∧ plainE o = true ∧ baseB o = true ∧ d.firm = true ∧ chkE c a o = true ∧ chkE c k y = true ∧ chkE c d z = true) := by
  unfold chkE at h
  split at h <;> grind
theorem invE_lix {a y : Ex} (h : chkE c (.lix a y) x = true) : ∃ o p z q, x = .Call (.Attribute o (Str.ofString "index") p) [z] [] q ∧ p.endLine = q.line ∧ plainE z = true ∧ plainE o = true ∧ baseB o = true ∧ chkE c a o = true ∧ chkE c y z = true := by
  unfold chkE at h
  split at h <;> grind
theorem invE_cou {a y : Ex} (h : chkE c (.cou a y) x = true) : ∃ o p z q, x = .Call (.Attribute o (Str.ofString "count") p) [z] [] q ∧ p.endLine = q.line ∧ plainE z = true ∧ plainE o = true ∧ baseB o = true ∧ chkE c a o = true ∧ chkE c y z = true := by
  unfold chkE at h
  split at h <;> grind
theorem invE_bcl {f : String} {es : Exs} (h : chkE c (.bcl f es) x = true) : ∃ n q xs p, x = .Call (.Name n q) xs [] p ∧ n = Str.ofString f ∧ glbB c n = true ∧ (!xs.isEmpty) = true ∧ chkEs c false es xs = true := by
  unfold chkE at h
  split at h <;> grind
theorem invE_trg {it : It} (h : chkE c (.trg it) x = true) : ∃ n q l p, x = .Call (.Name n q) [l] [] p ∧ n = Str.ofString "tuple" ∧ glbB c n = true ∧ isRg it = true ∧ chkI c it l l = true := by
  unfold chkE at h
  split at h <;> grind
theorem invE_mxd {a : Ex} (h : chkE c (.mxd a) x = true) : ∃ n q l m j n1 p1 p2 p, x = .Call (.Name n q) [l] [⟨some m, .Constant (.int j) n1 p1, p2⟩] p ∧ j = 0 ∧ n = Str.ofString "max" ∧ glbB c n = true ∧ m = Str.ofString "default" ∧ n1 = 0 ∧ plainE l = true ∧ chkE c a l = true := by
  unfold chkE at h
  split at h <;> grind
theorem invE_mxl {a : Ex} (h : chkE c (.mxl a) x = true) : ∃ n q l p, x = .Call (.Name n q) [l] [] p ∧ n = Str.ofString "max" ∧ glbB c n = true ∧ plainE l = true ∧ chkE c a l = true := by
  unfold chkE at h
  split at h <;> grind
theorem invE_mnl {a : Ex} (h : chkE c (.mnl a) x = true) : ∃ n q l p, x = .Call (.Name n q) [l] [] p ∧ n = Str.ofString "min" ∧ glbB c n = true ∧ plainE l = true ∧ chkE c a l = true := by
  unfold chkE at h
  split at h <;> grind
theorem invE_tus {a b : Ex} (h : chkE c (.tus a b) x = true) : ∃ l r p1 kk p, x = .Tuple [l, .Starred r p1] kk p ∧ a.firm = true ∧ plainE l = true ∧ chkE c a l = true ∧ chkE c b r = true := by
  unfold chkE at h
  split at h <;> grind
theorem invE_dcd {k v : Ex} (h : chkE c (.dcd k v) x = true) : ∃ y z p, x = .Dict [some y] [z] p ∧ k.firm = true ∧ v.firm = true ∧ plainE y = true ∧ plainE z = true ∧ chkE c k y = true ∧ chkE c v z = true := by
  unfold chkE at h
  split at h <;> grind
theorem invE_dcc {k v : Ex} {tg : Tg} {it : It} {cd : Ox} {own : List Nat} (h : chkE c (.dcc k v tg it cd own) x = true) : ∃ y z t i ifs kk scope p, x = .DictComp y z [⟨t, i, ifs, kk⟩] scope p ∧ kk = 0 ∧ chkI c it t i = true ∧ blkC c.N c.sc scope (ownP c own) = true ∧ chkTg (c.blk scope) tg t = true ∧ ownT tg own = true ∧ chkC (c.blk scope) cd ifs = true ∧ k.firm = true ∧ v.firm = true ∧ chkE (c.blk scope) k y = true ∧ chkE (c.blk scope) v z = true := by
  unfold chkE at h
  split at h <;> grind
theorem invI_di {a : Ex} (h : chkI c (.di a) t x = true) : ∃ ts kk tp o p q, t = .Tuple ts kk tp ∧ x = .Call (.Attribute o (Str.ofString "items") p) [] [] q ∧ p.endLine = q.line ∧ plainE o = true ∧ baseB o = true ∧ a.firm = true ∧ chkE c a o = true := by
  unfold chkI at h
  split at h <;> grind
end
def Itn (d : Addr) (o : Obj) (xs : List (NestedKey × Addr × Value)) : L2.It :=
  ⟨fun i H => H d = some (DnO d o xs) ∧ i < xs.length, fun i H x H' => H' = H ∧ ∃ y, xs[i]? = some y ∧ x = .ref y.2.1, fun i H => H d = some (DnO d o xs) ∧ xs.length ≤ i⟩
/-- the pairs: a new tuple at each turn -/
def Itp (d : Addr) (o : Obj) (xs : List (NestedKey × Addr × Value)) (vs : List V) : L2.It :=
  ⟨fun i H => H d = some (DnO d o xs) ∧ i < xs.length, fun i H x H' => ∃ p y v, xs[i]? = some y ∧ vs[i]? = some v ∧ x = .ref p ∧ H p = none ∧ H' = upd H p (.tup [.ref y.2.1, v]), fun i H => H d = some (DnO d o xs) ∧ xs.length ≤ i⟩
section
variable {P : Program} {w : World} {K : PySem.W.Frag} {tg : Expr} {d : Addr} {o : Obj} {es : Array DictEntry} {ep : Nat} {xs : List (NestedKey × Addr × Value)}
theorem ent_at (he : es.toList = xs.map ent0) {i : Nat} (hi : i < xs.length) : ∃ (h2 : i < es.size), es[i] = ent0 xs[i] := by
  have hz : es.size = xs.length := by simpa using congrArg List.length he
  have h2 : i < es.size := by omega
  refine ⟨h2, ?_⟩
  have e2 : es.toList[i]? = (xs.map ent0)[i]? := by rw [he]
  rw [Array.getElem?_toList, Array.getElem?_eq_getElem h2, List.getElem?_map, List.getElem?_eq_getElem hi] at e2
  exact Option.some.inj e2
theorem turn_keysN (it : Addr) (hod : o.data = .dict es ep) (he : es.toList = xs.map ent0) : Turn P w K tg (Itn d o xs) [it] it (fun i h => h.IsKeyIter it d i xs.length ep) where
  mem := List.mem_cons_self
  obj := fun i h st b hb => by
    obtain rfl := List.mem_singleton.mp hb
    obtain ⟨oi, e1, _, e2⟩ := st
    exact ⟨oi, e1, fun v z => by rw [e2] at z; cases z⟩
  keep := fun i h h' st k => st.at fun oi e1 => k it List.mem_cons_self oi e1
  item := by
    rintro X rfl rfl rfl hc i pins s σ H E I fr st ⟨hd, hi⟩
    have fp := fr it List.mem_cons_self
    obtain ⟨_, hg, _, _⟩ := dnO_of (I.hok d _ hd)
    have hz : es.size = xs.length := by simpa using congrArg List.length he
    obtain ⟨h2, e2⟩ := ent_at he hi
    refine next_key_item st hg hod hz (Array.getElem?_eq_getElem h2) fun h' st' sb => ?_
    have I1 : L2.Inv X pins σ H { s with heap := h' } := I.turned (t' := s.toks) (fun b ob hb q => (sb.2 b hb).trans q) fp.1 fp.2.1 fp.2.2.2.1 fp.2.2.2.2.1 fp.2.2.2.2.2
    obtain ⟨oi, g1, g2, g3⟩ := id st'
    refine ⟨_, rfl, go_of (s := { s with heap := h' }) g1 g2 g3 (by decide) ⟨.ref xs[i].2.1, H, I1, by rw [e2]; rfl, ⟨rfl, xs[i], List.getElem?_eq_getElem hi, rfl⟩, st', fun b hb => (fr b hb).1⟩⟩
  done := by
    rintro X rfl rfl rfl hc i pins s σ H E I fr st ⟨hd, hi⟩
    have fp := fr it List.mem_cons_self
    obtain ⟨_, hg, _, _⟩ := dnO_of (I.hok d _ hd)
    have hz : es.size = xs.length := by simpa using congrArg List.length he
    exact next_key_end (I.ok.hd hc) st hg hod hz hi fun h' eb => ⟨rfl, I.turned (t' := s.toks) (fun b ob hb q => eb b ob hb q) fp.1 fp.2.1 fp.2.2.2.1 fp.2.2.2.2.1 fp.2.2.2.2.2⟩
  self := fun A i s Q E st h => wpAny_pyIter_keyiter st h
theorem turn_pairsN {vs : List V} {elts : List Expr} {kk : Nat} {tpos : Pos} (it : Addr) (hod : o.data = .dict es ep) (he : es.toList = xs.map ent0) (hl : vs.length = xs.length) (hr : ∀ i (h1 : i < vs.length) (h2 : i < xs.length), RelV vs[i] xs[i].2.2) :
    Turn P w K (.Tuple elts kk tpos) (Itp d o xs vs) [it] it (fun i h => ∃ a b, IsItemIter h it d i es.size ep a b) where
  mem := List.mem_cons_self
  obj := fun i h st b hb => by
    obtain rfl := List.mem_singleton.mp hb
    obtain ⟨_, _, e1⟩ := st
    exact ⟨_, e1, fun v z => nomatch z⟩
  keep := fun i h h' st k => let ⟨a, b, e1⟩ := st; ⟨a, b, k it List.mem_cons_self _ e1⟩
  item := by
    rintro X rfl rfl rfl hc i pins s σ H E I fr st ⟨hd, hi⟩
    obtain ⟨_, hg, _, hx, _⟩ := dnO_of (I.hok d _ hd)
    obtain ⟨a0, b0, st⟩ := st
    obtain ⟨h2, e2⟩ := ent_at he hi
    have raw : s.heap.DictRaw d es ep := ⟨o, hg, hx, hod⟩
    have lt : it < s.heap.objs.size := Heap.lt_size st
    refine PySem.wpAny_pyNext_items_item_raw st raw h2 fun h1 out hT hsz kp => ⟨_, rfl, wpAny_letOwnedTupleGo_items (s := { s with heap := h1 }) out fun h3 st3 sb => ?_⟩
    have hT2 : h3.get? s.heap.objs.size = some { cls := .type "tuple", data := .seq #[es[i].key, es[i].val] } := (sb.2 _ (Nat.ne_of_gt lt)).trans hT
    have hv : i < vs.length := by rw [hl]; exact hi
    have rk : RelV (.ref xs[i].2.1) es[i].key := by rw [e2]; rfl
    have rv : RelV vs[i] es[i].val := by rw [e2]; exact hr i hv hi
    have ok2 : ObjOk X.prog X.w (upd H s.heap.objs.size (.tup [.ref xs[i].2.1, vs[i]])) h3 s.heap.objs.size (.tup [.ref xs[i].2.1, vs[i]]) :=
      ⟨(by rw [sizeLine_eq]; exact Nat.le_of_ble_eq_true rfl), [es[i].key, es[i].val], .cons rk (.cons rv .nil), _, hT2, rfl, _, rfl⟩
    have I1 : L2.Inv X pins σ (upd H s.heap.objs.size (.tup [.ref xs[i].2.1, vs[i]])) { s with heap := h3 } := by
      refine I.turnedNew (t' := s.toks) (ch := [it]) (fun b ob hb q => ?_) fr (Nat.le_refl _) ok2
      have hb' : b ≠ it := fun z => hb (by rw [z]; exact List.mem_cons_self)
      exact (sb.2 b hb').trans (kp b ob hb' q)
    refine ⟨.ref s.heap.objs.size, _, I1, rfl, ⟨_, xs[i], vs[i], List.getElem?_eq_getElem hi, List.getElem?_eq_getElem hv, rfl, I.hok.fresh (Nat.le_refl _), rfl⟩, ⟨_, _, st3⟩, fun b hb => ?_⟩
    obtain rfl := List.mem_singleton.mp hb
    rw [upd_ne (Nat.ne_of_lt lt)]
    exact (fr b hb).1
  done := by
    rintro X rfl rfl rfl hc i pins s σ H E I fr st ⟨hd, hi⟩
    have fp := fr it List.mem_cons_self
    obtain ⟨_, hg, _, hx, _⟩ := dnO_of (I.hok d _ hd)
    obtain ⟨a0, b0, st⟩ := st
    have hz : es.size = xs.length := by simpa using congrArg List.length he
    exact PySem.wpAny_pyNext_items_end_raw (I.ok.hd hc) st ⟨o, hg, hx, hod⟩ (by omega) fun h' eb => ⟨rfl, I.turned (t' := s.toks) (fun b ob hb q => eb b ob hb q) fp.1 fp.2.1 fp.2.2.2.1 fp.2.2.2.2.1 fp.2.2.2.2.2⟩
  self := fun A i s Q E st h => let ⟨_, _, e1⟩ := st; PySem.wpAny_pyIter_itemiter e1 h
end
end Ef

end

section
set_option autoImplicit false
namespace Ef
open PySem L2 PySem.Spec PyProof.Rows
def iKeysN (td : TE) : TI := fun σ H R => td σ H fun x H1 => ∃ d o xs, x = .ref d ∧ H1 d = some (DnO d o xs) ∧ R (Itn d o xs) H1
def iPairsN (td : TE) : TI := fun σ H R => td σ H fun x H1 => ∃ d b o xs vs, x = .ref d ∧ H1 d = some (DnO b o xs) ∧ vs.length = xs.length ∧ (∀ i (h1 : i < vs.length) (h2 : i < xs.length), RelV vs[i] xs[i].2.2) ∧ (b = d → R (Itp d o xs vs) H1)
section
variable {X : Cx} {tg e : Expr} {td : TE} {pp qq : Pos}
theorem pi_keysN (he : PE X e td) : PI X tg e (iKeysN td) := by
  refine ⟨fun pins s σ H R I h => thn (he.run pins s σ H _ I h) fun u s1 ⟨x, H1, I1, rx, d, o, xs, ex, hd, q⟩ => ?_⟩
  subst ex
  cases rx
  obtain ⟨_, hg, hs, hx, ⟨es, ep, hod, hent⟩, _⟩ := dnO_of (I1.hok d _ hd)
  have hz : es.size = xs.length := by simpa using congrArg List.length hent
  refine iter_keys hs hg hx hod (pi_one (tk := s1.toks) I1 _ (turn_keysN _ hod hent) ⟨_, Heap.get?_push_size _ rfl, rfl, ?_⟩ q)
  rw [hz]; rfl
theorem pi_pairsN {elts : List Expr} {kk : Nat} {tpos : Pos} (he : PE X e td) (hb : attributeBase e (Str.ofString "items") X.env (eval e X.env) = eval e X.env) (hl : (pp.endLine == qq.line) = true) :
    PI X (.Tuple elts kk tpos) (.Call (.Attribute e (Str.ofString "items") pp) [] [] qq) (iPairsN td) := by
  refine ⟨fun pins s σ H R I h => wpAny_Call_method (T := "dict") (id := "dict.items") hb rfl hl F.plainAttrs_dict F.slot_dict_items F.type_dict_items (thn (he.run pins s σ H _ I h) fun u s1 ⟨x, H1, I1, rx, d, b0, o, xs, vs, ex, hd, hlen, hrel, q⟩ => ?_)⟩
  subst ex
  cases rx
  obtain ⟨hbd, hg, hs, hx, ⟨es, ep, hod, hent⟩, _⟩ := dnO_of (I1.hok d _ hd)
  subst b0
  have q := q rfl
  have raw : s1.heap.DictRaw d es ep := ⟨o, hg, hx, hod⟩
  refine ⟨raw.typeIs, fun b q => ?_, ?_⟩
  · cases q
    exact ⟨o, hg, hx.2.1⟩
  have I2 : L2.Inv X pins σ H1 { s1 with heap := s1.heap.push { cls := .type "dict_items", data := .fields #[.ref d] } } := I1.kept (t' := s1.toks) fun b ob q => Heap.get?_push_of_some _ q
  have fin : wpAny (model X.prog X.w) X.A (pyIter (.ref s1.heap.objs.size)) (PIE X pins σ (.Tuple elts kk tpos) R) X.xe { s1 with heap := s1.heap.push { cls := .type "dict_items", data := .fields #[.ref d] } } := by
    refine PySem.wpAny_pyIter_items_raw (d := d) (es := es) (ep := ep) ⟨_, Heap.get?_push_size _ rfl, rfl, rfl⟩ (raw.at fun o2 q2 => Heap.get?_push_of_some _ q2) ?_
    exact pi_one (tk := s1.toks) I2 _ (turn_pairsN _ hod hent hlen hrel) ⟨.none, .none, Heap.get?_push_size _ rfl⟩ q
  show wpAny _ _ (callWith qq (.builtin "dict.items") [.ref d] [] []) _ X.xe s1
  exact method_meetsIn F.slot_dict_items F.entry_dict_items rfl (PySem.evalArgs_none ⟨rfl, raw.typeIs, F.args_dict_items_1 _, _, PySem.meets_dict_items_raw d hs, ⟨es, ep, raw⟩, fin⟩)
end
/-! ### d.get(k), d.get(k, x) -/
/-- a is a dict, whatever its keys -/
def isDc (H : Hp) (a : Addr) : Prop := (∃ xs, H a = some (.dK xs)) ∨ ∃ b o xs, H a = some (DnO b o xs)
theorem DcH.is {K : PySem.W.Frag} {J H : Hp} {a : Addr} {kvs : List (PyData × PyData)} (h : DcH K J H a kvs) : isDc H a := by
  rcases h with ⟨xs, h, _, _⟩ | ⟨b, o, xs, h, _⟩
  · exact .inl ⟨xs, h⟩
  · exact .inr ⟨b, o, xs, h⟩
section
variable {X : Cx} {pins : List (Addr × Obj)} {σ : L2.St} {H J : Hp} {s : Shared} {T : BoxT}
theorem isDc_at {a : Addr} (I : L2.Inv X pins σ H s) (d : isDc H a) : s.TypeIs (.ref a) "dict" ∧ ∀ b, Value.ref a = .ref b → ∃ ob, s.heap.get? b = some ob ∧ ob.dict = none := by
  rcases d with ⟨xs, h⟩ | ⟨b, o, xs, h⟩
  · obtain ⟨t1, t2, _⟩ := isD_at I (.inl ⟨xs, .inl h⟩)
    exact ⟨t1, t2⟩
  · obtain ⟨_, hg, _, hx, _⟩ := dnO_of (I.hok a _ h)
    refine ⟨⟨o, hg, hx.1⟩, fun b q => ?_⟩
    cases q
    exact ⟨o, hg, hx.2.1⟩
/-- d.get(k, x) of the values -/
theorem ev_get (hu : X.A.units + 65 < cLine) (I : L2.Inv X pins σ H s) {bx : Bx} (hv : Hv T bx J H) {a : Addr} {x : V} {u r : Value} {k : PyData} {z : V} {kvs : List (PyData × PyData)} {Q : Value → Shared → Prop} (one : Bool) (hone : one = true → r = .none ∧ z = .non) (hk : keyFor kvs k = true) (bd : Bo X.K bx J H x k) (rx : RelV x u) (rz : RelV z r) (dc : DcH X.K J H a kvs)
    (q1 : ∀ d v w s', lookD kvs k = some d → Dq X.K J v d → RelV v w → L2.Inv X pins σ H s' → Q w s') (q2 : ∀ w s', lookD kvs k = none → RelV z w → L2.Inv X pins σ H s' → Q w s') : wpAny (model X.prog X.w) X.A (call (.builtin "dict.get") (if one = true then [.ref a, u] else [.ref a, u, r])) Q X.xe s := by
  rcases keyFor_N hk with ⟨kk, rfl, hall⟩ | ⟨hkn, hall⟩
  · obtain ⟨xs, vs, dq, rel, dd, hd⟩ := dk_map I hv.sub dc hall
    have ex : x = kV kk := bo_key bd
    subst ex
    have fin : ∀ w' s', L2.Inv X pins σ H s' → RelV ((valV xs kk).getD z) w' → Q w' s' := fun w' s' I' rw' => by
      rcases dq.look kk with ⟨e1, e2⟩ | ⟨v', d', e1, e2, dv⟩
      · rw [e2] at rw'; exact q2 w' s' e1 rw' I'
      · rw [e2] at rw'; exact q1 d' v' w' s' e1 dv rw' I'
    cases one with
    | true =>
      obtain ⟨rfl, rfl⟩ := hone rfl
      exact call_meetsIn F.slot_dict_get dd.typeIs F.entry_dict_get (F.args_dict_get_2 _ _) (meets_dict_get (mixKind X.prog X.w) a (kV_is rx) hd) ⟨_, dd.mapOf, fin _ _ (I.tok _) ((rel.val kk).getD rfl)⟩
    | false => exact call_meetsIn F.slot_dict_get dd.typeIs F.entry_dict_get (F.args_dict_get_3 _ _ _) (meets_dict_get_default (mixKind X.prog X.w) a (kV_is rx) hd r) ⟨_, dd.mapOf, fin _ _ (I.tok _) ((rel.val kk).getD rz)⟩
  · obtain ⟨xs, hd, dq, hm, _⟩ := dcn_of I hv.sub dc hall
    obtain ⟨b, rfl, hb⟩ := key_ref hkn bd
    cases rx
    have ki := key_is I hkn (hb.sub hv.sub)
    have fin : ∀ {r' : Value}, RelV z r' → Q (((atKey xs (nk k)).map (·.2)).getD r') { s with toks := s.toks + (nestedKind X.prog X.w).draws (nk k) } := fun {r'} rz' => by
      rcases dq.look hkn with ⟨e1, e2⟩ | ⟨b', u', v', d', e1, e2, r2, dv⟩
      · rw [e2]; exact q2 _ _ e1 rz' (I.tok _)
      · rw [e2]; exact q1 d' v' _ _ e1 dv r2 (I.tok _)
    cases one with
    | true =>
      obtain ⟨rfl, rfl⟩ := hone rfl
      exact call_meetsIn F.slot_dict_get hm.typeIs F.entry_dict_get (F.args_dict_get_2 _ _) (meetsH_dict_get (nestedKind X.prog X.w) a b hd) ⟨room_n hu, nk k, xs, ki, hm, fin rfl⟩
    | false => exact call_meetsIn F.slot_dict_get hm.typeIs F.entry_dict_get (F.args_dict_get_3 _ _ _) (meetsH_dict_get_default (nestedKind X.prog X.w) a b hd r) ⟨room_n hu, nk k, xs, ki, hm, fin rz⟩
end
def tGetN (K : PySem.W.Frag) (T : BoxT) (to ty tz : TE) : TE := fun σ H Q => to σ H fun x H1 => ∃ a, x = .ref a ∧ isDc H1 a ∧ ty σ H1 fun y H2 => tz σ H2 fun z H3 => ∃ bx J k kvs, Hv T bx J H3 ∧ DcH K J H3 a kvs ∧ Bo K bx J H3 y k ∧ keyFor kvs k = true ∧
  (∀ d v, lookD kvs k = some d → Dq K J v d → Q v H3) ∧ (lookD kvs k = none → Q z H3)
section
variable {X : Cx} {o y z : Expr} {to ty tz : TE} {T : BoxT} {pp qq : Pos}
theorem pe_getN (hu : X.A.units + 65 < cLine) (ho : PE X o to) (hy : PE X y ty) (hz : PE X z tz) (py : plainE y = true) (pz : plainE z = true) (hb : attributeBase o (Str.ofString "get") X.env (eval o X.env) = eval o X.env) (hl : (pp.endLine == qq.line) = true) : PE X (.Call (.Attribute o (Str.ofString "get") pp) [y, z] [] qq) (tGetN X.K T to ty tz) := by
  have s1 := star_plain py [z] X.env
  have s2 := star_plain pz [] X.env
  refine ⟨fun pins s σ H Q I h => wpAny_Call_method hb (by rw [s1, s2]; rfl) hl F.plainAttrs_dict F.slot_dict_get F.type_dict_get (thn (ho.run pins s σ H _ I h) fun u s1' ⟨x, H1, I1, rx, a, ex, d, q1⟩ => ?_)⟩
  subst ex
  cases rx
  obtain ⟨t1, t2⟩ := isDc_at I1 d
  refine ⟨t1, t2, ?_⟩
  rw [show backTo qq (starEach [y, z] X.env) = [(false, eval y X.env), (false, eval z X.env)] by rw [s1, s2]; rfl]
  refine Calls.callWith_builtin rfl (Calls.evalArgs_plain (Calls.spliced_cons (thn (hy.run pins s1' σ H1 _ I1 q1) fun iv s2' ⟨yv, H2, I2, ry, q2⟩ => Calls.spliced_cons (thn (hz.run pins s2' σ H2 _ I2 q2) fun fv s3 ⟨zv, H3, I3, rz, bx, J, k, kvs, hv, dc, bk, kf, f1, f2⟩ => Calls.spliced_nil ?_))))
  exact ev_get (r := fv) hu I3 hv false (fun h => nomatch h) kf bk ry rz dc (fun dd v w s' e dv rv I' => ⟨v, H3, I', rv, f1 dd v e dv⟩) fun w s' e rw' I' => ⟨zv, H3, I', rw', f2 e⟩
theorem pe_getN1 (hu : X.A.units + 65 < cLine) (ho : PE X o to) (hy : PE X y ty) (py : plainE y = true) (hb : attributeBase o (Str.ofString "get") X.env (eval o X.env) = eval o X.env) (hl : (pp.endLine == qq.line) = true) : PE X (.Call (.Attribute o (Str.ofString "get") pp) [y] [] qq) (tGetN X.K T to ty (fun σ H Q => Q .non H)) := by
  have s1 := star_plain py [] X.env
  refine ⟨fun pins s σ H Q I h => wpAny_Call_method hb (by rw [s1]; rfl) hl F.plainAttrs_dict F.slot_dict_get F.type_dict_get (thn (ho.run pins s σ H _ I h) fun u s1' ⟨x, H1, I1, rx, a, ex, d, q1⟩ => ?_)⟩
  subst ex
  cases rx
  obtain ⟨t1, t2⟩ := isDc_at I1 d
  refine ⟨t1, t2, ?_⟩
  rw [show backTo qq (starEach [y] X.env) = [(false, eval y X.env)] by rw [s1]; rfl]
  refine Calls.callWith_builtin rfl (Calls.evalArgs_plain (Calls.spliced_cons (thn (hy.run pins s1' σ H1 _ I1 q1) fun iv s2' ⟨yv, H2, I2, ry, bx, J, k, kvs, hv, dc, bk, kf, f1, f2⟩ => Calls.spliced_nil ?_)))
  exact ev_get (r := .none) (z := .non) hu I2 hv true (fun _ => ⟨rfl, rfl⟩) kf bk ry rfl dc (fun dd v w s' e dv rv I' => ⟨v, H2, I', rv, f1 dd v e dv⟩) fun w s' e rw' I' => ⟨.non, H2, I', rw', f2 e⟩
end
end Ef

end

section
set_option autoImplicit false
namespace Ef
open PySem L2 PySem.Spec PyProof.Rows
open PySem.W (EachIs Looks alike alikeAll dataLt dataKind AllAlike Sortable SortsAt sortVals dataLe dataKind_inv dataKind_some dataType looks_reads)
/-! ### sorted, of nested tuples -/
section
variable {P : Program} {w : World} {A : Around} {E : Value → Shared → Prop} {s : Shared}
theorem tup_less {Q : Value → Shared → Prop} {a b : Addr} {us vs : Array Value} {e r : Nat → Bool} (ha : s.heap.IsTuple a us) (hb : s.heap.IsTuple b vs)
    (q : Q (.bool (SeqAt.firstLt e r (decide (us.size < vs.size)) (List.range (min us.size vs.size)))) s)
    (hr : ∀ j (i1 : j < us.size) (i2 : j < vs.size), e j = false → SeqAt.RcLt A.in1 s us[j] vs[j] (r j)) (he : ∀ j (i1 : j < us.size) (i2 : j < vs.size), SeqAt.EqAt A.in1 s us[j] vs[j] (e j)) : wpAny (model P w) A (call (.builtin "tuple.__lt__") [.ref a, .ref b]) Q E s := by
  rcases ha with ⟨⟨c1, d1, x1, y1⟩, g1, k1, n1, z1⟩
  rcases hb with ⟨⟨c2, d2, x2, y2⟩, g2, k2, n2, z2⟩
  cases k1; cases k2; cases z1; cases z2
  exact PySem.call_meets F.slot_tuple_lt ⟨_, g1, rfl⟩ F.entry_tuple_lt (F.args_tuple_lt_2 _ _) (SeqAt.tuple_ltAt a b us vs n1 n2 d1 d2 y1 y2 e r) ⟨g1, g2, he, hr, q⟩
theorem one_tup {xs ys : List PyData} {u v : Value} {as bs : List Addr} {Q : Bool → Shared → Prop} (ru : Reads s.heap u (.tuple xs) as) (rv : Reads s.heap v (.tuple ys) bs) (al : alikeAll xs ys = true) (hu : A.units + min (PyData.tuple xs).depth (PyData.tuple ys).depth < cLine)
    (q : Q (dataLt (.tuple xs) (.tuple ys)) s) : wpAny (model P w) A (oneLt' true u v) Q E s := by
  cases ru with
  | @tuple l o us n _ as1 h1 h2 h3 h4 =>
    cases rv with
    | @tuple l' o' vs n' _ bs1 k1 k2 k3 k4 =>
      have n1 : us.size = xs.length := by simpa using SeqAt.ReadsAll.length _ _ _ h4
      have n2 : vs.size = ys.length := by simpa using SeqAt.ReadsAll.length _ _ _ k4
      have le := PySem.W.firstLt_toks xs ys al
      rw [oneLt'_eq]
      simp only [if_true]
      refine wpAny_bind (wpAny_cRoomFor (SeqAt.room_here hu) (wpAny_bind ?_))
      refine wpAny_callSpecialIfBound?_slot (T := "tuple") ⟨o, h1, h2⟩ F.slot_tuple_lt (tup_less (e := SeqAt.pairEq xs ys) (r := fun j => dataLt (xs.getD j .none) (ys.getD j .none)) ⟨o, h1, h2, n, h3⟩ ⟨o', k1, k2, n', k3⟩ ?_ (fun j i1 i2 hj => ?_) fun j i1 i2 => ?_)
      · rw [PySem.W.dataLt_tuple, ← le, ← n1, ← n2] at q
        exact wpAny_truthy_bool q
      · exact PySem.W.rcLt_alikeAll xs ys A.in1 s us.toList vs.toList _ _ h4 k4 al (SeqAt.room_in hu) j i1 i2 hj
      · exact PySem.W.eqAt_alikeAll xs ys A.in1 s us.toList vs.toList _ _ h4 k4 al (SeqAt.room_in hu) j i1 i2
/-- the firsts of tuples, where some are empty -/
theorem firsts_of {ds : List PyData} : ∀ {vs : List Value}, EachIs (fun v d => ∃ as, Reads s.heap v d as) vs ds → (∀ d ∈ ds, ∃ xs, d = .tuple xs) → ∃ fs : List (Option Value), (ds.head? = some (.tuple []) → fs.head? = some none) ∧ (∀ v ∈ vs, Looks (model P w) s.heap (typeOf v) (.type "tuple")) ∧
    ∀ (R : List (Option Value) → Shared → Prop), R fs s → wpAny (model P w) A (vs.mapM firstOfTuple') R E s := by
  induction ds with
  | nil => exact fun e _ => by cases e; exact ⟨[], (fun h => nomatch h), (fun v hv => nomatch hv), fun R h => by rw [List.mapM_nil]; exact wpAny_pure h⟩
  | cons d ds ih =>
    intro vs e ht
    cases e with
    | @cons v _ vs' _ hd et =>
      obtain ⟨as, rd⟩ := hd
      obtain ⟨fs, _, f2, f3⟩ := ih et fun x hx => ht x (List.mem_cons_of_mem _ hx)
      obtain ⟨xs, rfl⟩ := ht d List.mem_cons_self
      cases rd with
      | @tuple a o us n _ _ h1 h2 h3 h4 =>
        have lk : Looks (model P w) s.heap (typeOf (.ref a)) (.type "tuple") := h2 ▸ (Looks.ld h1).andThen .now
        refine ⟨us[0]? :: fs, fun h => ?_, fun v hv => ?_, fun R h => ?_⟩
        · cases h
          have : us.size = 0 := by simpa using SeqAt.ReadsAll.length _ _ _ h4
          simp [this]
        · rcases List.mem_cons.mp hv with rfl | hv
          · exact lk
          · exact f2 v hv
        · rw [List.mapM_cons, PySem.W.kas_first_eq]
          refine wpAny_bind (wpAny_bind (lk.here ?_))
          rw [if_neg (by simp)]
          refine wpAny_bind (listItems_at h1 h3 (wpAny_pure ?_))
          exact wpAny_bind (f3 (fun bs s' => wpAny (model P w) A (pure (us[0]? :: bs)) R E s') (wpAny_pure h))
/-- tuples, the first of them empty: the kind of sorting -/
theorem kind_mixed {vs : List Value} {ds : List PyData} {Q : SortKind → Shared → Prop} (e : EachIs (fun v d => ∃ as, Reads s.heap v d as) vs ds) (hh : ds.head? = some (.tuple [])) (ht : ∀ d ∈ ds, ∃ xs, d = .tuple xs) (q : Q oneType' s) : wpAny (model P w) A (keyKind' vs.toArray) Q E s := by
  obtain ⟨fs, f1, f2, f3⟩ := firsts_of (P := P) (w := w) (A := A) (E := E) e ht
  have f1 := f1 hh
  cases fs with
  | nil => cases f1
  | cons f fs =>
    obtain rfl : f = none := Option.some.inj f1
    rw [keyKind'_eq, List.mapM_toArray, map_eq_pure_bind]
    refine wpAny_bind (wpAny_bind (f3 _ (wpAny_pure ?_)))
    rw [if_neg (by simp), if_neg (by simp)]
    cases vs with
    | nil => cases e; cases hh
    | cons v vs =>
      rw [oneTypeOnly'_eq, List.mapM_toArray, map_eq_pure_bind]
      refine wpAny_bind (wpAny_bind (wpAny_bind (PySem.W.kas_mapM (r := Value.type "tuple") _ (fun x hx R r => (f2 x hx).here r) (wpAny_pure ?_))))
      have e1 : ((List.map (fun _ => Value.type "tuple") (v :: vs)).toArray)[0]? = some (Value.type "tuple") := by simp
      have e2 : ((List.map (fun _ => Value.type "tuple") (v :: vs)).toArray.all fun x => x == Value.type "tuple") = true := by
        rw [List.all_toArray, List.all_map, List.all_eq_true]
        exact fun _ _ => rfl
      rw [e1]
      simp only [e2, if_true]
      exact wpAny_pure (wpAny_pure q)
theorem sorts_of {vs : List Value} {ds : List PyData} (e : EachIs (fun v d => ∃ as, Reads s.heap v d as) vs ds) (al : AllAlike ds) (hk : Sortable ds ∨ (ds.head? = some (.tuple []) ∧ ∀ d ∈ ds, ∃ xs, d = .tuple xs)) (hu : ∀ d, d ∈ ds → A.units + d.depth < cLine) : SortsAt P w A s (dataKind s.heap ds) vs := by
  rcases hk with hk | ⟨hh, ht⟩
  · exact SortsAt.data e al hk hu
  · refine ⟨fun v hv => ?_, oneType', ?_, fun _ E' Q q => kind_mixed e hh ht q⟩
    · obtain ⟨d, hd, as, r⟩ := e.left v hv
      exact ⟨_, dataKind_some al hd r⟩
    · intro E' x y a b Q ha hb q
      obtain ⟨d, as, hd, ra, rfl⟩ := dataKind_inv ha
      obtain ⟨d', bs, hd', rb, rfl⟩ := dataKind_inv hb
      obtain ⟨xs, rfl⟩ := ht d hd
      obtain ⟨ys, rfl⟩ := ht d' hd'
      have h2 := al _ hd _ hd'
      rw [keyLt'_oneType]
      exact one_tup ra rb (by simpa [alike] using h2) (Nat.lt_of_le_of_lt (Nat.add_le_add_left (Nat.min_le_left _ _) _) (hu _ hd)) q
/-- sorted(e): e's items are known -/
theorem sorted_data' {src : Value} {vs : List Value} {ds : List PyData} {R : Value → PyData → Prop} {Q : Value → Shared → Prop}
    (hc : ∀ (E' : Value → Shared → Prop) (Q' : List Value → Shared → Prop), (∀ h' tk, (∀ b o, s.heap.get? b = some o → h'.get? b = some o) → s.heap.objs.size ≤ h'.objs.size → Q' vs { s with heap := h', toks := tk }) → wpAny (model P w) A.in1 (collect src) Q' E' s)
    (hz : vs.length ≤ sizeLine) (e : EachIs R vs ds) (er : EachIs (fun v d => ∃ as, Reads s.heap v d as) vs ds) (al : AllAlike ds) (hk : Sortable ds ∨ (ds.head? = some (.tuple []) ∧ ∀ d ∈ ds, ∃ xs, d = .tuple xs)) (hu : ∀ d, d ∈ ds → A.units + 2 + d.depth < cLine)
    (q : ∀ h' tk p c (out : List Value) (ms : List PyData), (∀ b o, s.heap.get? b = some o → h'.get? b = some o) → s.heap.objs.size ≤ p → h'.get? p = some (seqObj "list" out.toArray c) → EachIs R out ms → ms.Perm ds → ms.Pairwise leD → Q (.ref p) { s with heap := h', toks := tk }) :
    wpAny (model P w) A (call (.builtin "sorted") [src]) Q E s := by
  refine Calls.call_function_entry kind_sorted plain_sorted entry_sorted (args_sorted1 _) ?_
  unfold Builtin.«sorted»
  refine wpAny_bind (m := checkCount "sorted" 1 1 _) (wpAny_pure ?_)
  refine wpAny_bind (hc _ _ fun h1 tk k1 z1 => wpAny_bind (wpAny_newList ?_ hz))
  have en : (h1.push (seqObj "list" vs.toArray 0)).get? h1.objs.size = some (seqObj "list" vs.toArray 0) := Heap.get?_push_size _ rfl
  have kp : ∀ b o, s.heap.get? b = some o → (PySem.W.sortingHeap (h1.push (seqObj "list" vs.toArray 0)) h1.objs.size vs).get? b = some o := fun b o g => by
    have g1 := k1 b o g
    exact PySem.W.sortingHeap_old (Nat.ne_of_lt (Heap.lt_size g1)) (Heap.get?_push_of_some _ g1)
  have er' : EachIs (fun v d => ∃ as, Reads (PySem.W.sortingHeap (h1.push (seqObj "list" vs.toArray 0)) h1.objs.size vs) v d as) vs ds := er.mono fun _ _ ⟨as, r⟩ => ⟨as, PyProof.Rows.Reads.keeps kp r⟩
  have S := sorts_of (P := P) (w := w) (A := A.in1.in1) (s := { s with heap := PySem.W.sortingHeap (h1.push (seqObj "list" vs.toArray 0)) h1.objs.size vs, toks := tk }) er' al hk hu
  refine wpAny_bind (wpAny_holding (wpAny_call_entry slot_list_sort ⟨_, en, rfl⟩ entry_list_sort (PySem.W.list_sort_vals (s := { s with heap := h1.push (seqObj "list" vs.toArray 0), toks := tk }) en S hz ⟨_, rfl, ?_⟩) (args_list_sort _)))
  have em : EachIs R (sortVals (dataKind (PySem.W.sortingHeap (h1.push (seqObj "list" vs.toArray 0)) h1.objs.size vs) ds) false vs vs) (ds.mergeSort (dataLe false id)) := by
    have := PySem.W.sortVals_data (enc := id) false e er' (by rw [List.map_id]; exact al)
    rw [List.map_id] at this
    exact this
  obtain ⟨c, ec⟩ := sortedHeap_at (vs := vs) (out := (sortVals (dataKind (PySem.W.sortingHeap (h1.push (seqObj "list" vs.toArray 0)) h1.objs.size vs) ds) false vs vs).toArray) en
  refine wpAny_pure ⟨_, rfl, q _ tk _ c _ _ (fun b o g => ?_) z1 ec em (List.mergeSort_perm _ _) ?_⟩
  · have g1 := k1 b o g
    have lt := Heap.lt_size g1
    rw [sortedHeap_old (Nat.ne_of_lt lt) (by rw [size_push']; exact Nat.lt_succ_of_lt lt)]
    exact Heap.get?_push_of_some _ g1
  · refine (PySem.W.sort_pairwise (PySem.W.sortLe_total (listOrd itemOrd) false fun b => PySem.W.keyToks b) ds).imp fun {a b} h => ?_
    simpa [leD, PySem.W.dataLt, PySem.W.sortLe] using h
/-- what goes over into a list, from a source that keeps still -/
theorem collect_src {P1 : Nat → Value → Prop} {OK : Heap → Prop} {T : String} {x d : Addr} {n : Nat} {R : List Value → Shared → Prop} (K : PySem.W.KdlSrc P w T x d n P1 OK) (hok : OK s.heap) (hn : n ≤ sizeLine) (hh : A.handled = none)
    (q : ∀ h' tk acc, ItemsOf P1 acc n → s.heap.objs.size ≤ h'.objs.size → (∀ b o, s.heap.get? b = some o → h'.get? b = some o) → R acc.toList { s with heap := h', toks := tk }) : wpAny (model P w) A (collect (.ref x)) R E s := by
  obtain ⟨t1, t2⟩ := K.there _ hok
  have en : (s.heap.push (seqObj "list" #[] 0)).get? s.heap.objs.size = some (seqObj "list" #[] 0) := Heap.get?_push_size _ rfl
  have ok2 : OK (s.heap.push (seqObj "list" #[] 0)) := K.keep _ _ hok fun b _ o e => Heap.get?_push_of_some _ e
  unfold collect
  refine wpAny_bind (wpAny_runValue (codeAny_builtin entry_proto_collect' ?_))
  rw [Around.under_plainId PySem.F.plain_proto_collect _]
  show wpAny _ A.in1 (newList [] >>= fun r => again (.builtin "list.__iadd__" ⟨[r, .ref x], []⟩)) _ _ s
  refine wpAny_bind (wpAny_newList (wpAny_pure ⟨Code.quiet_builtin _ (by decide +kernel), codeAny_builtin entry_list_iadd' ?_⟩))
  rw [Around.under_plainId PySem.F.plain_list_iadd _]
  refine wpAny_mono (PySem.W.kdl_extend (A := A) (s := { s with heap := s.heap.push (seqObj "list" #[] 0) }) (c₀ := 0)
    (R := fun z t => ∃ h' tk acc c, z = .ok (.ret (.ref s.heap.objs.size)) ∧ t = { s with heap := h', toks := tk } ∧ (∀ b o, s.heap.get? b = some o → h'.get? b = some o) ∧ h'.get? s.heap.objs.size = some { cls := .type "list", dict := none, data := .seq acc c, slots := #[] } ∧ ItemsOf P1 acc n)
    K hh ok2 s.heap.objs.size (Nat.ne_of_gt t1) (Nat.ne_of_gt t2) (.ref s.heap.objs.size) en (fun h' tk acc c kp hg hi => ⟨h', tk, acc, c, rfl, rfl, fun b o e => kp b o (Nat.ne_of_lt (Heap.lt_size e)) (Heap.get?_push_of_some _ e), hg, hi⟩) hn) ?_ ?_
  · intro fin s' z
    have last : ∀ h' tk acc c, (∀ b o, s.heap.get? b = some o → h'.get? b = some o) → h'.get? s.heap.objs.size = some { cls := .type "list", dict := none, data := .seq acc c, slots := #[] } → ItemsOf P1 acc n → R acc.toList { s with heap := h', toks := tk } := fun h' tk acc c k1 k2 k3 => q h' tk acc k3 (Nat.le_of_lt (Heap.lt_size k2)) k1
    cases fin with
    | again c1 =>
      refine ⟨z.1, codeAny_mono z.2 fun r s2 y => ?_⟩
      obtain ⟨h', tk, acc, c, rfl, rfl, k1, k2, k3⟩ := y
      show wpAny _ A (load s.heap.objs.size >>= _) _ _ _
      exact wpAny_bind (wpAny_load k2 (wpAny_pure (last _ _ _ _ k1 k2 k3)))
    | done f =>
      obtain ⟨h', tk, acc, c, e, rfl, k1, k2, k3⟩ := z
      cases e
      show wpAny _ A (load s.heap.objs.size >>= _) _ _ _
      exact wpAny_bind (wpAny_load k2 (wpAny_pure (last _ _ _ _ k1 k2 k3)))
  · rintro e s' ⟨_, _, _, _, z, _⟩
    cases z
end
/-! ### the rule -/
def rSrn (K : PySem.W.Frag) (T : BoxT) : List V → Hp → VK → Prop := fun vs H Q => ∃ x bx J d ds, vs = [x] ∧ Hv T bx J H ∧ Bo K bx J H x d ∧ walkOf d = some ds ∧ srtOk ds ∧ ∀ ms p us, ms.Perm ds → ms.Pairwise leD → H p = none → DqAll K J us ms → Q (.ref p) (upd H p (.lst us))
theorem each_of {R : Value → PyData → Prop} {K : PySem.W.Frag} {J : Hp} (h : ∀ x v d, RelV x v → Dq K J x d → okN d = true → R v d) : ∀ {xs vs ds}, Vals xs vs → DqAll K J xs ds → okNs ds = true → EachIs R vs ds
  | [], _, _, r, q, _ => by cases r; cases q; exact .nil
  | x :: xs, _, _, r, q, o => by
    cases r with
    | cons r1 r2 =>
      cases q with
      | cons q1 q2 =>
        simp only [okNs, Bool.and_eq_true] at o
        exact .cons (h _ _ _ r1 q1 o.1) (each_of h r2 q2 o.2)
theorem back_of {K : PySem.W.Frag} {J : Hp} : ∀ {vs ds}, EachIs (fun v d => ∃ x, RelV x v ∧ Dq K J x d) vs ds → ∃ us, Vals us vs ∧ DqAll K J us ds
  | _, _, .nil => ⟨[], .nil, .nil⟩
  | _, _, .cons ⟨x, r, q⟩ t => by
    obtain ⟨us, h1, h2⟩ := back_of t
    exact ⟨x :: us, .cons r h1, .cons q h2⟩
section
variable {X : Cx} {T : BoxT}
theorem cr_srn (hc : X.calm = true) (hu : X.A.units + 65 < cLine) : CallR X (.builtin "sorted") (rSrn X.K T) := by
  intro pins s σ H vs us Q I r h
  obtain ⟨x, bx, J, d, ds, rfl, hv, bd, hw, ⟨o1, o2, o3, o4, o5⟩, q⟩ := h
  have I0 : Inv X pins σ H s := I
  have go : ∀ {src : Value} {xs : List V} {its : List Value}, (∀ (E' : Value → Shared → Prop) (Q' : List Value → Shared → Prop), (∀ h' tk, (∀ b o, s.heap.get? b = some o → h'.get? b = some o) → s.heap.objs.size ≤ h'.objs.size → Q' its { s with heap := h', toks := tk }) → wpAny (model X.prog X.w) X.A.in1 (collect src) Q' E' s) →
      Vals xs its → DqAll X.K J xs ds → wpAny (model X.prog X.w) X.A (call (.builtin "sorted") [src]) (EP X pins σ Q) X.xe s := fun {src xs its} hc rv dq => by
    have l1 : its.length = ds.length := by rw [← rv.length, dq.length]
    refine sorted_data' (R := fun v d => ∃ x, RelV x v ∧ Dq X.K J x d) hc (by rw [l1]; exact o5) (each_of (fun x v d r q _ => ⟨x, r, q⟩) rv dq o1) (each_of (fun x v d r q o => reads_of I d x v o (q.sub hv.sub) r) rv dq o1) o2 o3 (fun d hd => ?_) fun h' tk p c out ms kp hp hg eo pm pw => ?_
    · have := o4 d hd
      omega
    · obtain ⟨zs, z1, z2⟩ := back_of eo
      have hl : zs.length ≤ sizeLine := by rw [z2.length, pm.length_eq]; exact o5
      exact ⟨.ref p, upd H p (.lst zs), I.laid (o := .lst zs) (t' := tk) kp hp ⟨hl, out, c, z1, hg⟩, rfl, q ms p zs pm pw (I.hok.fresh hp) z2⟩
  cases d with
  | list es =>
    cases hw
    obtain ⟨a, xs, rfl, k1, dq⟩ := Bo.lstE hv bd
    obtain ⟨its, rv, pl, hz⟩ := I.list (SqL.of k1)
    rw [Vals.ref1 r]
    refine go (its := its) (fun E' Q' k => collect_list pl.isList (k _ _ (fun b o e => ?_) ?_) (by rw [← rv.length]; exact hz)) rv dq
    · rw [Heap.get?_update_ne _ _ _ _ (Nat.ne_of_lt (Heap.lt_size e))]
      exact Heap.get?_push_of_some _ e
    · rw [Heap.size_update, Heap.size_push]
      exact Nat.le_succ _
  | tuple es =>
    cases hw
    obtain ⟨a, xs, rfl, k1, dq⟩ := bd.tupE
    obtain ⟨its, rv, pl, hz⟩ := I.tuple (SqT.sub hv.sub k1)
    rw [Vals.ref1 r]
    exact go (its := its) (fun E' Q' k => collect_tup (isT_of pl) (by rw [← rv.length]; exact hz) fun h' k1 k2 => k h' _ k1 k2) rv dq
  | dict kvs =>
    obtain ⟨a, rfl, dc⟩ := Bo.dicE hv bd
    obtain ⟨rfl, hd, o, xs, es, ep, ha, dq, ho, hx, hdat, he, hz, hl⟩ := dc_walk I hv.sub dc hw
    rw [Vals.ref1 r]
    refine go (its := xs.map fun y => Value.ref y.2.1) (fun E' Q' k => collect_src (PySem.KdlSrc.rawDict (es := es) (ep := ep) hd) ⟨o, ho, hx, hdat⟩ (by rw [hz]; exact hl) (I.ok.hd hc) fun h' tk acc hi hs kp => ?_) (vals_refs xs) dq.refs
    have z := k h' tk kp hs
    rw [← keys_acc he hi] at z
    exact z
  | _ => cases hw
end
end Ef

end

section
set_option autoImplicit false
namespace RZ
open PySem PySem.Spec PyProof.Rows L2
open PySem.Sem (wp)
section
variable {prog : Program} {w : World} {A : Around} {E : Value → Shared → Prop} {s : Shared}
theorem zipM_next_item {z TI TO i1 i2 l1 l2 : Addr} {k1 k2 : Nat} {xs ys : Array Value} {x y a b : Value} {Q : Value → Shared → Prop} (D : ZipApart z TI TO i1 i2 l1 l2)
    (gz : IsZip s.heap z TI TO .none) (gTI : IsPair s.heap TI (.ref i1) (.ref i2)) (gTO : IsPair s.heap TO a b)
    (h1 : s.heap.IsTupleIter i1 l1 k1) (h2 : s.heap.IsListIter i2 l2 k2) (gl1 : s.heap.IsTuple l1 xs) (gl2 : s.heap.IsList l2 ys) (hx : xs[k1]? = some x) (hy : ys[k2]? = some y)
    (hQ : ∀ h', IsZip h' z TI TO (rawInt s.heap.objs.size) → IsPair h' TO x y → h'.IsTupleIter i1 l1 (k1 + 1) → h'.IsListIter i2 l2 (k2 + 1) → IsPair h' s.heap.objs.size x y → h'.objs.size = s.heap.objs.size + 1 →
      (∀ c o, c ≠ z → c ≠ TO → c ≠ i1 → c ≠ i2 → s.heap.get? c = some o → h'.get? c = some o) → Q (.ref s.heap.objs.size) { s with heap := h' }) :
    wpAny (model prog w) A (Builtin.«zip.__next__» ⟨[.ref z], []⟩) (fun fin s' => ∃ v, fin = .done (.ret v) ∧ Q v s') E s := by
  show wpAny _ _ (field (.ref z) 2 >>= _) _ _ _
  refine wpAny_bind (wpAny_field gz rfl (x := .bool false) rfl ?_)
  show wpAny _ _ (field (.ref z) 3 >>= _) _ _ _
  refine wpAny_bind (wpAny_field gz rfl (x := .ref TI) rfl ?_)
  refine wpAny_bind (wpAny_seqItems gTI rfl ?_)
  show wpAny _ _ (Builtin.SmallTypes.ownedTupleIsFree (.ref z) >>= _) _ _ _
  refine wpAny_bind ?_
  unfold Builtin.SmallTypes.ownedTupleIsFree
  refine wpAny_bind (wpAny_field gz rfl (x := .none) rfl (wpAny_pure ?_))
  simp only [if_true]
  refine wpAny_bind (wpAny_rule ?_)
  refine wpAny_bind (wpAny_field gz rfl (x := .ref TO) rfl ?_)
  refine wpAny_bind (wpAny_setField_rec gz (by simp) fun h₁ hz₁ gs₁ => ?_)
  replace hz₁ : IsZip h₁ z TI TO .ellipsis := hz₁
  refine wpAny_bind ?_
  simp only [List.zipIdx_cons, List.zipIdx_nil, List.forIn_cons, List.forIn_nil]

  refine wpAny_bind (wpAny_bind (wpAny_onRaise ?_))
  show wpAny _ _ (Builtin.SmallTypes.nextOf (.ref i1) >>= _) _ _ _
  refine wpAny_bind (nextOf_tuple_item (h1.extBut gs₁.extBut D.i1z) (gl1.extBut gs₁.extBut D.l1z) hx fun h₂ h1₂ gs₂ => wpAny_pure ?_)
  have gTO₂ : IsPair h₂ TO a b := gs₂.extBut _ _ D.TOi1 (gs₁.extBut _ _ D.TOz gTO)
  refine wpAny_bind (wpAny_seqItems gTO₂ rfl ?_)
  refine wpAny_bind (wpAny_updateSeq_pair gTO₂ fun h₃ gTO₃ gs₃ => ?_)
  replace gTO₃ : IsPair h₃ TO x b := gTO₃
  refine wpAny_bind (wpAny_letGo (wpAny_pure ?_))

  refine wpAny_bind (wpAny_bind (wpAny_onRaise ?_))
  show wpAny _ _ (Builtin.SmallTypes.nextOf (.ref i2) >>= _) _ _ _
  refine wpAny_bind (wpAny_nextOf_list_item (((h2.extBut gs₁.extBut D.i2z).extBut gs₂.extBut D.i12.symm).extBut gs₃.extBut D.TOi2.symm)
    (((gl2.extBut gs₁.extBut D.l2z).extBut gs₂.extBut D.l2i1).extBut gs₃.extBut D.l2TO) hy fun h₄ h2₄ gs₄ => wpAny_pure ?_)
  have gTO₄ : IsPair h₄ TO x b := gs₄.extBut _ _ D.TOi2 gTO₃
  refine wpAny_bind (wpAny_seqItems gTO₄ rfl ?_)
  refine wpAny_bind (wpAny_updateSeq_pair gTO₄ fun h₅ gTO₅ gs₅ => ?_)
  replace gTO₅ : IsPair h₅ TO x y := gTO₅
  refine wpAny_bind (wpAny_letGo (wpAny_pure (wpAny_pure ?_)))

  refine wpAny_bind (wpAny_seqItems gTO₅ rfl ?_)
  refine wpAny_bind (wpAny_newTuple ?_)
  have gsz : h₅.objs.size = s.heap.objs.size := by rw [gs₅.1, gs₄.1, gs₃.1, gs₂.1, gs₁.1]
  have hz₅ : IsZip h₅ z TI TO .ellipsis := gs₅.extBut _ _ D.TOz.symm (gs₄.extBut _ _ D.i2z.symm (gs₃.extBut _ _ D.TOz.symm (gs₂.extBut _ _ D.i1z.symm hz₁)))
  have hk₅ : ∀ c o, c ≠ z → c ≠ TO → c ≠ i1 → c ≠ i2 → s.heap.get? c = some o → h₅.get? c = some o := fun c o c1 c2 c3 c4 e =>
    gs₅.extBut _ _ c2 (gs₄.extBut _ _ c4 (gs₃.extBut _ _ c2 (gs₂.extBut _ _ c3 (gs₁.extBut _ _ c1 e))))
  have h1₅ : h₅.IsTupleIter i1 l1 (k1 + 1) := ((h1₂.extBut gs₃.extBut D.TOi1.symm).extBut gs₄.extBut D.i12).extBut gs₅.extBut D.TOi1.symm
  have h2₅ : h₅.IsListIter i2 l2 (k2 + 1) := h2₄.extBut gs₅.extBut D.TOi2.symm
  have hzlt : z < h₅.objs.size := Heap.lt_size hz₅
  have hTOlt : TO < h₅.objs.size := Heap.lt_size gTO₅
  have hi1lt : i1 < h₅.objs.size := by obtain ⟨_, e, _⟩ := h1₅; exact Heap.lt_size e
  have hi2lt : i2 < h₅.objs.size := by obtain ⟨_, e, _⟩ := h2₅; exact Heap.lt_size e
  show wpAny _ _ (Builtin.SmallTypes.ownedTupleHandOut (.ref z) (.ref h₅.objs.size) >>= _) _ _ _
  refine wpAny_bind ?_
  unfold Builtin.SmallTypes.ownedTupleHandOut
  have hz₆ : IsZip (h₅.push { cls := .type "tuple", data := .seq #[x, y] }) z TI TO .ellipsis := Heap.get?_push_of_some _ hz₅
  refine wpAny_bind (wpAny_setField_rec hz₆ (by simp) fun h₇ hz₇ gs₇ => ?_)
  replace hz₇ : IsZip h₇ z TI TO (rawInt h₅.objs.size) := hz₇
  refine wpAny_setField_rec hz₇ (by simp) fun h₈ hz₈ gs₈ => ?_
  replace hz₈ : IsZip h₈ z TI TO (rawInt h₅.objs.size) := hz₈
  have upp : ∀ c o, c ≠ z → h₅.get? c = some o → h₈.get? c = some o := fun c o c1 e => gs₈.extBut _ _ c1 (gs₇.extBut _ _ c1 (Heap.get?_push_of_some _ e))
  have hT₈ : IsPair h₈ h₅.objs.size x y := gs₈.extBut _ _ (Nat.ne_of_gt hzlt) (gs₇.extBut _ _ (Nat.ne_of_gt hzlt) (Heap.get?_push_size _ rfl))
  have hz8 : h₈.objs.size = h₅.objs.size + 1 := by rw [gs₈.1, gs₇.1, Heap.size_push]
  rw [gsz] at hz₈ hT₈ hz8
  refine wpAny_pure ⟨_, rfl, ?_⟩
  show Q (.ref h₅.objs.size) _
  rw [gsz]
  exact hQ h₈ hz₈ (upp _ _ D.TOz gTO₅) (h1₅.at fun o e => upp _ o D.i1z e) (h2₅.at fun o e => upp _ o D.i2z e) hT₈ hz8 fun c o c1 c2 c3 c4 e => upp c o c1 (hk₅ c o c1 c2 c3 c4 e)

theorem zipM_next_end {z TI TO i1 i2 l1 l2 : Addr} {k1 k2 : Nat} {xs ys : Array Value} {a b : Value} {Q : Fin → Shared → Prop} (hh : A.handled = none) (D : ZipApart z TI TO i1 i2 l1 l2)
    (gz : IsZip s.heap z TI TO .none) (gTI : IsPair s.heap TI (.ref i1) (.ref i2)) (gTO : IsPair s.heap TO a b)
    (h1 : s.heap.IsTupleIter i1 l1 k1) (h2 : s.heap.IsListIter i2 l2 k2) (gl1 : s.heap.IsTuple l1 xs) (gl2 : s.heap.IsList l2 ys) (hfin : xs[k1]? = none ∨ ys[k2]? = none)
    (hE : ∀ h' e, (∀ c o, c ≠ z → c ≠ TO → c ≠ i1 → c ≠ i2 → s.heap.get? c = some o → h'.get? c = some o) → (∃ o, h'.get? e = some o ∧ o.cls = .type "StopIteration") → E (.ref e) { s with heap := h' }) :
    wpAny (model prog w) A (Builtin.«zip.__next__» ⟨[.ref z], []⟩) Q E s := by
  show wpAny _ _ (field (.ref z) 2 >>= _) _ _ _
  refine wpAny_bind (wpAny_field gz rfl (x := .bool false) rfl ?_)
  show wpAny _ _ (field (.ref z) 3 >>= _) _ _ _
  refine wpAny_bind (wpAny_field gz rfl (x := .ref TI) rfl ?_)
  refine wpAny_bind (wpAny_seqItems gTI rfl ?_)
  show wpAny _ _ (Builtin.SmallTypes.ownedTupleIsFree (.ref z) >>= _) _ _ _
  refine wpAny_bind ?_
  unfold Builtin.SmallTypes.ownedTupleIsFree
  refine wpAny_bind (wpAny_field gz rfl (x := .none) rfl (wpAny_pure ?_))
  simp only [if_true]
  refine wpAny_bind (wpAny_rule ?_)
  refine wpAny_bind (wpAny_field gz rfl (x := .ref TO) rfl ?_)
  refine wpAny_bind (wpAny_setField_rec gz (by simp) fun h₁ hz₁ gs₁ => ?_)
  replace hz₁ : IsZip h₁ z TI TO .ellipsis := hz₁
  refine wpAny_bind ?_
  simp only [List.zipIdx_cons, List.zipIdx_nil, List.forIn_cons, List.forIn_nil]
  refine wpAny_bind (wpAny_bind (wpAny_onRaise ?_))
  show wpAny _ _ (Builtin.SmallTypes.nextOf (.ref i1) >>= _) _ _ _
  cases hx : xs[k1]? with
  | none =>
    refine wpAny_bind (nextOf_tuple_end hh (h1.extBut gs₁.extBut D.i1z) (gl1.extBut gs₁.extBut D.l1z) hx fun h₂ e gs₂ he => ?_)
    obtain ⟨oe, hoe, hce⟩ := he
    have hz₂ : IsZip h₂ z TI TO .ellipsis := gs₂ _ _ D.i1z.symm hz₁
    have hez : e ≠ z := fun x => by subst x; rw [hz₂] at hoe; cases hoe; simp at hce
    refine wpAny_setField_rec hz₂ (by simp) fun h₃ _ gs₃ => hE h₃ e (fun c o c1 _ c3 _ x => gs₃.extBut _ _ c1 (gs₂ _ _ c3 (gs₁.extBut _ _ c1 x))) ⟨oe, gs₃.extBut _ _ hez hoe, hce⟩
  | some x =>
    have hy : ys[k2]? = none := by rcases hfin with h | h; rw [hx] at h; cases h; exact h
    refine wpAny_bind (nextOf_tuple_item (h1.extBut gs₁.extBut D.i1z) (gl1.extBut gs₁.extBut D.l1z) hx fun h₂ h1₂ gs₂ => wpAny_pure ?_)
    have gTO₂ : IsPair h₂ TO a b := gs₂.extBut _ _ D.TOi1 (gs₁.extBut _ _ D.TOz gTO)
    refine wpAny_bind (wpAny_seqItems gTO₂ rfl ?_)
    refine wpAny_bind (wpAny_updateSeq_pair gTO₂ fun h₃ gTO₃ gs₃ => ?_)
    refine wpAny_bind (wpAny_letGo (wpAny_pure ?_))
    refine wpAny_bind (wpAny_bind (wpAny_onRaise ?_))
    show wpAny _ _ (Builtin.SmallTypes.nextOf (.ref i2) >>= _) _ _ _
    refine wpAny_bind (wpAny_nextOf_list_end hh (((h2.extBut gs₁.extBut D.i2z).extBut gs₂.extBut D.i12.symm).extBut gs₃.extBut D.TOi2.symm)
      (((gl2.extBut gs₁.extBut D.l2z).extBut gs₂.extBut D.l2i1).extBut gs₃.extBut D.l2TO) hy fun h₄ e gs₄ he => ?_)
    obtain ⟨oe, hoe, hce⟩ := he
    have hz₄ : IsZip h₄ z TI TO .ellipsis := gs₄ _ _ D.i2z.symm (gs₃.extBut _ _ D.TOz.symm (gs₂.extBut _ _ D.i1z.symm hz₁))
    have hez : e ≠ z := fun x => by subst x; rw [hz₄] at hoe; cases hoe; simp at hce
    refine wpAny_setField_rec hz₄ (by simp) fun h₅ _ gs₅ => hE h₅ e (fun c o c1 c2 c3 c4 x => gs₅.extBut _ _ c1 (gs₄ _ _ c4 (gs₃.extBut _ _ c2 (gs₂.extBut _ _ c3 (gs₁.extBut _ _ c1 x))))) ⟨oe, gs₅.extBut _ _ hez hoe, hce⟩

theorem pyNext_zipM_item {z TI TO i1 i2 l1 l2 : Addr} {k1 k2 : Nat} {xs ys : Array Value} {x y a b : Value} {Q : Option Value → Shared → Prop} (D : ZipApart z TI TO i1 i2 l1 l2)
    (gz : IsZip s.heap z TI TO .none) (gTI : IsPair s.heap TI (.ref i1) (.ref i2)) (gTO : IsPair s.heap TO a b)
    (h1 : s.heap.IsTupleIter i1 l1 k1) (h2 : s.heap.IsListIter i2 l2 k2) (gl1 : s.heap.IsTuple l1 xs) (gl2 : s.heap.IsList l2 ys) (hx : xs[k1]? = some x) (hy : ys[k2]? = some y)
    (hQ : ∀ h', IsZip h' z TI TO (rawInt s.heap.objs.size) → IsPair h' TO x y → h'.IsTupleIter i1 l1 (k1 + 1) → h'.IsListIter i2 l2 (k2 + 1) → IsPair h' s.heap.objs.size x y → h'.objs.size = s.heap.objs.size + 1 →
      (∀ c o, c ≠ z → c ≠ TO → c ≠ i1 → c ≠ i2 → s.heap.get? c = some o → h'.get? c = some o) → Q (some (.ref s.heap.objs.size)) { s with heap := h' }) :
    wpAny (model prog w) A (pyNext (.ref z)) Q E s := by
  have hT : s.TypeIs (.ref z) "zip" := ⟨_, gz, rfl⟩
  unfold pyNext
  exact wpAny_bind (wpAny_attempt (wpAny_callSpecial?_slot (name := Str.ofString "__next__") hT F.slot_zip_next
    (wpAny_call_entry F.slot_zip_next hT F.entry_zip_next
      (zipM_next_item D gz gTI gTO h1 h2 gl1 gl2 hx hy fun h' a1 a2 a3 a4 a5 a6 a7 => wpAny_pure (hQ h' a1 a2 a3 a4 a5 a6 a7)) (F.args_zip_next_1 _))))

theorem pyNext_zipM_end {z TI TO i1 i2 l1 l2 : Addr} {k1 k2 : Nat} {xs ys : Array Value} {a b : Value} {Q : Option Value → Shared → Prop} (hh : A.handled = none) (D : ZipApart z TI TO i1 i2 l1 l2)
    (gz : IsZip s.heap z TI TO .none) (gTI : IsPair s.heap TI (.ref i1) (.ref i2)) (gTO : IsPair s.heap TO a b)
    (h1 : s.heap.IsTupleIter i1 l1 k1) (h2 : s.heap.IsListIter i2 l2 k2) (gl1 : s.heap.IsTuple l1 xs) (gl2 : s.heap.IsList l2 ys) (hfin : xs[k1]? = none ∨ ys[k2]? = none)
    (hQ : ∀ h', (∀ c o, c ≠ z → c ≠ TO → c ≠ i1 → c ≠ i2 → s.heap.get? c = some o → h'.get? c = some o) → Q none { s with heap := h' }) : wpAny (model prog w) A (pyNext (.ref z)) Q E s := by
  have hT : s.TypeIs (.ref z) "zip" := ⟨_, gz, rfl⟩
  unfold pyNext
  refine wpAny_bind (wpAny_attempt (wpAny_callSpecial?_slot (name := Str.ofString "__next__") hT F.slot_zip_next
    (wpAny_call_entry F.slot_zip_next hT F.entry_zip_next (zipM_next_end hh D gz gTI gTO h1 h2 gl1 gl2 hfin fun h' e gk he => ?_) (F.args_zip_next_1 _))))
  obtain ⟨o, ho, hc⟩ := he
  refine wpAny_bind (wpAny_isInstance (T := "StopIteration") (b := true) ⟨o, ho, hc⟩ isSubtype_stop ?_)
  exact wpAny_pure (hQ _ gk)
end

abbrev zipMH1 (h : Heap) (l1 : Addr) : Heap := h.push { cls := .type "tuple_iterator", data := .fields #[.ref l1, .int 0 0] }
abbrev zipMH2 (h : Heap) (l1 l2 : Addr) : Heap := (zipMH1 h l1).push { cls := .type "list_iterator", data := .fields #[.ref l2, .int 0 0] }
abbrev zipMH3 (h : Heap) (l1 l2 : Addr) : Heap := (zipMH2 h l1 l2).push { cls := .type "tuple", data := .seq #[.ref h.objs.size, .ref (zipMH1 h l1).objs.size] }
abbrev zipMH4 (h : Heap) (l1 l2 : Addr) : Heap := (zipMH3 h l1 l2).push { cls := .type "tuple", data := .seq #[.none, .none] }
abbrev zipMH5 (h : Heap) (l1 l2 : Addr) : Heap := (zipMH4 h l1 l2).push { cls := .type "zip", data := .fields #[.none, .bool false, .bool false, .ref (zipMH2 h l1 l2).objs.size, .ref (zipMH3 h l1 l2).objs.size] }

theorem meets_zipM_new (l1 l2 : Addr) (xs ys : Array Value) :
    Meets (Builtin.«zip.__new__» ⟨[.type "zip", .ref l1, .ref l2], []⟩) (fun _ R s => s.heap.IsTuple l1 xs ∧ s.heap.IsList l2 ys ∧
      R (.ok (.ret (.ref (zipMH4 s.heap l1 l2).objs.size))) { s with heap := zipMH5 s.heap l1 l2 }) :=
  .of_wp fun prog w A R s h => by
    obtain ⟨hp, g, d, tk, os⟩ := s; obtain ⟨gl1, gl2, h⟩ := h
    have hsub := sub_zip
    have hL1 : Heap.IsTuple (Shared.heap ⟨hp, g, d, tk, os⟩) l1 xs := gl1
    have hL2 : Heap.IsList (Shared.heap ⟨hp.push { cls := .type "tuple_iterator", data := .fields #[.ref l1, .int 0 0] }, g, d, tk, os⟩) l2 ys := (gl2.at fun o e => Heap.get?_push_of_some _ e)
    wp_walk using wpAny_pyIter_tuple hL1, wpAny_pyIter_list hL2
    exact ⟨_, rfl, h⟩

section
variable {prog : Program} {w : World} {A : Around} {E : Value → Shared → Prop} {s : Shared}

theorem call_zipM {l1 l2 : Addr} {xs ys : Array Value} {Q : Value → Shared → Prop} (gl1 : s.heap.IsTuple l1 xs) (gl2 : s.heap.IsList l2 ys)
    (h : ∀ h', IsZip h' (s.heap.objs.size + 4) (s.heap.objs.size + 2) (s.heap.objs.size + 3) .none → IsPair h' (s.heap.objs.size + 2) (.ref s.heap.objs.size) (.ref (s.heap.objs.size + 1)) →
      IsPair h' (s.heap.objs.size + 3) .none .none → h'.IsTupleIter s.heap.objs.size l1 0 → h'.IsListIter (s.heap.objs.size + 1) l2 0 → h'.objs.size = s.heap.objs.size + 5 →
      (∀ c o, s.heap.get? c = some o → h'.get? c = some o) → Q (.ref (s.heap.objs.size + 4)) { s with heap := h' }) :
    wpAny (model prog w) A (call (.type "zip") [.ref l1, .ref l2]) Q E s := by
  refine callType_new F.called_zip (by decide) (F.typeCall_zip_2 _ _) (F.newCall_zip_2 _ _) (fun obj => F.args_object_init_3 obj _ _) F.entry_zip_new
    (meets_zipM_new l1 l2 xs ys) ⟨gl1, gl2, ?_⟩
  have z1 : (zipMH1 s.heap l1).objs.size = s.heap.objs.size + 1 := Heap.size_push ..
  have z2 : (zipMH2 s.heap l1 l2).objs.size = s.heap.objs.size + 2 := by rw [Heap.size_push, z1]
  have z3 : (zipMH3 s.heap l1 l2).objs.size = s.heap.objs.size + 3 := by rw [Heap.size_push, z2]
  have z4 : (zipMH4 s.heap l1 l2).objs.size = s.heap.objs.size + 4 := by rw [Heap.size_push, z3]
  have z5 : (zipMH5 s.heap l1 l2).objs.size = s.heap.objs.size + 5 := by rw [Heap.size_push, z4]
  have g5 : (zipMH5 s.heap l1 l2).get? (zipMH4 s.heap l1 l2).objs.size = some _ := Heap.get?_push_size _ rfl
  have g4 : (zipMH5 s.heap l1 l2).get? (zipMH3 s.heap l1 l2).objs.size = some _ := Heap.get?_push_of_some _ (Heap.get?_push_size _ rfl)
  have g3 : (zipMH5 s.heap l1 l2).get? (zipMH2 s.heap l1 l2).objs.size = some _ := Heap.get?_push_of_some _ (Heap.get?_push_of_some _ (Heap.get?_push_size _ rfl))
  have g2 : (zipMH5 s.heap l1 l2).get? (zipMH1 s.heap l1).objs.size = some _ := Heap.get?_push_of_some _ (Heap.get?_push_of_some _ (Heap.get?_push_of_some _ (Heap.get?_push_size _ rfl)))
  have g1 : (zipMH5 s.heap l1 l2).get? s.heap.objs.size = some _ := Heap.get?_push_of_some _ (Heap.get?_push_of_some _ (Heap.get?_push_of_some _ (Heap.get?_push_of_some _ (Heap.get?_push_size _ rfl))))
  show _ ∧ _
  rw [z2, z3, z4] at g5
  rw [z1, z2] at g3
  rw [z3] at g4
  rw [z1] at g2
  rw [z4]
  exact ⟨⟨_, g5, rfl⟩, h _ g5 g3 g4 ⟨_, g1, rfl, rfl⟩ ⟨_, g2, rfl, rfl⟩ z5 fun c o x =>
    Heap.get?_push_of_some _ (Heap.get?_push_of_some _ (Heap.get?_push_of_some _ (Heap.get?_push_of_some _ (Heap.get?_push_of_some _ x))))⟩
end
/-- the tuples at a and b as they stand at each turn, the items in new pairs -/
def ItzM (K : PySem.W.Frag) (a b : Addr) : It :=
  ⟨fun i H => ∃ (xs ys : List V) (x y : V), SqT K H a xs ∧ SqL K H b ys ∧ xs[i]? = some x ∧ ys[i]? = some y,
    fun i H v H' => ∃ T x y, v = .ref T ∧ H T = none ∧ H' = upd H T (.tup [x, y]) ∧ (∀ xs, SqT K H a xs → xs[i]? = some x) ∧ ∀ ys, SqL K H b ys → ys[i]? = some y,
    fun i H => ∃ xs ys : List V, SqT K H a xs ∧ SqL K H b ys ∧ (xs.length ≤ i ∨ ys.length ≤ i)⟩
theorem turn_zipM {P : Program} {w : World} {K : PySem.W.Frag} {elts : List Expr} {kk : Nat} {tpos : Pos} {a b z TI TO i1 i2 : Addr} (D : ZipApart z TI TO i1 i2 a b) :
    Turn P w K (.Tuple elts kk tpos) (ItzM K a b) [z, TI, TO, i1, i2] z (fun i h => IsZip h z TI TO .none ∧ IsPair h TI (.ref i1) (.ref i2) ∧ (∃ x y, IsPair h TO x y) ∧ h.IsTupleIter i1 a i ∧ h.IsListIter i2 b i) where
  mem := by simp
  obj := fun i h st c hc => by
    obtain ⟨gz, gTI, ⟨x, y, gTO⟩, ⟨o1, e1, _, d1⟩, ⟨o2, e2, _, d2⟩⟩ := st
    have e' : c = z ∨ c = TI ∨ c = TO ∨ c = i1 ∨ c = i2 := by simpa using hc
    rcases e' with q | q | q | q | q
    · rw [q]; exact ⟨_, gz, fun v q => nomatch q⟩
    · rw [q]; exact ⟨_, gTI, fun v q => nomatch q⟩
    · rw [q]; exact ⟨_, gTO, fun v q => nomatch q⟩
    · rw [q]; exact ⟨o1, e1, fun v q => by rw [d1] at q; cases q⟩
    · rw [q]; exact ⟨o2, e2, fun v q => by rw [d2] at q; cases q⟩
  keep := fun i h h' st k => by
    obtain ⟨gz, gTI, ⟨x, y, gTO⟩, h1, h2⟩ := st
    exact ⟨k z (by simp) _ gz, k TI (by simp) _ gTI, ⟨x, y, k TO (by simp) _ gTO⟩, h1.at fun o q => k i1 (by simp) o q, h2.at fun o q => k i2 (by simp) o q⟩
  item := by
    intro X hP hw hK hc i pz s σ H E I hf st hg
    subst hP hw hK
    obtain ⟨gz, gTI, ⟨x0, y0, gTO⟩, h1, h2⟩ := st
    obtain ⟨xs, ys, x, y, kx, ky, hx, hy⟩ := hg
    obtain ⟨ut, rv, p, _⟩ := I.tuple kx
    obtain ⟨uw, rw2, p2, _⟩ := I.list ky
    obtain ⟨u, hu, ru⟩ := rv.get hx
    obtain ⟨u2, hu2, ru2⟩ := rw2.get hy
    have hzl : z < s.heap.objs.size := Heap.lt_size gz
    refine pyNext_zipM_item D gz gTI gTO h1 h2 p p2.isList (x := u) (y := u2) (by simpa using hu) (by simpa using hu2) fun h' z' TOx h1' h2' hT gsz gk => ?_
    refine ⟨_, rfl, wpAny_letOwnedTupleGo_zip (s := { s with heap := h' }) z' fun h'' z'' sb => ?_⟩
    have hT2 : h''.get? s.heap.objs.size = some { cls := .type "tuple", data := .seq #[u, u2] } := (sb.2 _ (Nat.ne_of_gt hzl)).trans hT
    have new : ObjOk X.prog X.w (upd H s.heap.objs.size (.tup [x, y])) h'' s.heap.objs.size (.tup [x, y]) :=
      ⟨by show 2 ≤ sizeLine; decide, [u, u2], .cons ru (.cons ru2 .nil), ⟨_, hT2, rfl, _, rfl⟩⟩
    have V1 : Inv X pz σ (upd H s.heap.objs.size (.tup [x, y])) { s with heap := h'' } :=
      I.turnedNew (t' := s.toks) (ch := [z, TI, TO, i1, i2]) (fun c o hb q => (sb.2 c (fun q' => hb (by simp [q']))).trans (gk c o (fun q' => hb (by simp [q'])) (fun q' => hb (by simp [q'])) (fun q' => hb (by simp [q'])) (fun q' => hb (by simp [q'])) q)) hf (Nat.le_refl _) new
    refine ⟨.ref s.heap.objs.size, _, V1, rfl, ⟨_, x, y, rfl, I.hok.fresh (Nat.le_refl _), rfl, fun l hl => by rw [I.tuple_inj hl kx]; exact hx, fun l hl => by rw [I.list_inj hl ky]; exact hy⟩, ⟨z'', ?_, ⟨u, u2, ?_⟩, ?_, ?_⟩, fun c hcm => ?_⟩
    · exact (sb.2 _ D.TIz).trans (gk _ _ D.TIz D.TITO D.TIi1 D.TIi2 gTI)
    · exact (sb.2 _ D.TOz).trans TOx
    · exact h1'.at fun o q => (sb.2 _ D.i1z).trans q
    · exact h2'.at fun o q => (sb.2 _ D.i2z).trans q
    · have hlt : c < s.heap.objs.size := by
        have e' : c = z ∨ c = TI ∨ c = TO ∨ c = i1 ∨ c = i2 := by simpa using hcm
        rcases e' with q | q | q | q | q
        · rw [q]; exact hzl
        · rw [q]; exact Heap.lt_size gTI
        · rw [q]; exact Heap.lt_size gTO
        · rw [q]; obtain ⟨_, e1, _⟩ := h1; exact Heap.lt_size e1
        · rw [q]; obtain ⟨_, e2, _⟩ := h2; exact Heap.lt_size e2
      rw [upd_ne (Nat.ne_of_lt hlt)]
      exact (hf c hcm).1
  done := by
    intro X hP hw hK hc i pz s σ H E I hf st hg
    subst hP hw hK
    obtain ⟨gz, gTI, ⟨x0, y0, gTO⟩, h1, h2⟩ := st
    obtain ⟨xs, ys, kx, ky, hfin⟩ := hg
    obtain ⟨ut, rv, p, _⟩ := I.tuple kx
    obtain ⟨uw, rw2, p2, _⟩ := I.list ky
    have l1 := rv.length
    have l2 := rw2.length
    have he : ut.toArray[i]? = none ∨ uw.toArray[i]? = none := by
      rcases hfin with q | q
      · exact .inl (by simp; omega)
      · exact .inr (by simp; omega)
    exact pyNext_zipM_end (I.ok.hd hc) D gz gTI gTO h1 h2 p p2.isList he fun h' gk => ⟨rfl, I.turnedL (t' := s.toks) (ch := [z, TI, TO, i1, i2]) (fun c o hb q =>
      gk c o (fun q' => hb (by simp [q'])) (fun q' => hb (by simp [q'])) (fun q' => hb (by simp [q'])) (fun q' => hb (by simp [q'])) q) hf⟩
  self := fun A i s Q E st h => wpAny_pyIter_zip st.1 h

def iZipM (K : PySem.W.Frag) (ta : TA) : TI := fun σ H R => ta σ H fun vs H1 => ∃ a b xs ys, vs = [.ref a, .ref b] ∧ SqT K H1 a xs ∧ SqL K H1 b ys ∧ R (ItzM K a b) H1
theorem pi_zipM {X : Cx} {e e2 : Expr} {ta : TA} {p pos tpos : Pos} {elts : List Expr} {kk : Nat} (hg : Gl X "zip") (hm : X.mg "zip" = none) (ha : PA X [e, e2] ta)
    (hs : starEach [e, e2] X.env = (false, eval e X.env) :: starEach [e2] X.env := by rfl) (hpl : (backTo pos (starEach [e2] X.env)).any (·.1) = false := by rfl) :
    PI X (.Tuple elts kk tpos) (.Call (.Name "zip" p) [e, e2] [] pos) (iZipM X.K ta) := by
  refine ⟨fun pz s σ H R I h => ?_⟩
  refine Call_ (ld_blt I hg hm PyProof.Rows.boot_zip (PyProof.Rows.callWith_type1 (thn (ha.run pos pz s σ H _ I h) fun us s1 ⟨vs, H1, V1, r1, q1⟩ => ?_) hs hpl))
  obtain ⟨a, b, xs, ys, ex, q1⟩ := q1
  subst ex
  cases r1 with
  | cons r rr =>
    cases rr with
    | cons r' rr =>
      cases rr
      cases r
      cases r'
      have fresh5 : ∀ c, c ∈ [s1.heap.objs.size + 4, s1.heap.objs.size + 2, s1.heap.objs.size + 3, s1.heap.objs.size, s1.heap.objs.size + 1] → FpOk X pz H1 c := fun c hcm => by
        have e' : c = s1.heap.objs.size + 4 ∨ c = s1.heap.objs.size + 2 ∨ c = s1.heap.objs.size + 3 ∨ c = s1.heap.objs.size ∨ c = s1.heap.objs.size + 1 := by simpa using hcm
        have hle : s1.heap.objs.size ≤ c := by
          rcases e' with z | z | z | z | z
          · rw [z]; exact Nat.le_add_right _ _
          · rw [z]; exact Nat.le_add_right _ _
          · rw [z]; exact Nat.le_add_right _ _
          · rw [z]; exact Nat.le_refl _
          · rw [z]; exact Nat.le_add_right _ _
        exact V1.fpOk hle (V1.hok.fresh hle)
      obtain ⟨kx, ky, q⟩ := q1
      obtain ⟨ut, rv, p1, _⟩ := V1.tuple kx
      obtain ⟨uw, rw2, p2, _⟩ := V1.list ky
      obtain ⟨o1, ho1, _⟩ := id p1
      obtain ⟨o2, _, ho2, _⟩ := id p2
      refine call_zipM (show s1.heap.IsTuple a ut.toArray from p1) p2.isList fun h' gz gTI gTO h1 h2 gsz gk => wpAny_pyIter_zip gz ?_
      have I2 : Inv X pz σ H1 { s1 with heap := h' } := V1.kept (t' := s1.toks) gk
      exact ⟨s1.heap.objs.size + 4, [s1.heap.objs.size + 4, s1.heap.objs.size + 2, s1.heap.objs.size + 3, s1.heap.objs.size, s1.heap.objs.size + 1], _, _, H1, rfl, I2, turn_zipM (PySem.W.ktu_apart s1.heap.objs.size a b (Heap.lt_size ho1) (Heap.lt_size ho2)), ⟨gz, gTI, ⟨_, _, gTO⟩, h1, h2⟩, fresh5, q⟩

end RZ

end

section
set_option autoImplicit false
namespace Ef
open PySem L2 PySem.Spec PyProof.Rows
section
variable {X : Cx}
/-- x.index(y), x a tuple -/
def rIndexT (K : PySem.W.Frag) : V → List V → Hp → VK → Prop := fun x ws H Q => ∃ (a : Addr) (y : V) (d : PyData) (ds : List PyData) (j : Nat) (z : PyData), x = V.ref a ∧ ws = [y] ∧ Dp K H (V.ref a) (.tuple ds) ∧ Dp K H y d ∧
  SeqAt.shaped (.list ds) = true ∧ SeqAt.shaped d = true ∧ ds[j]? = some z ∧ PyData.eqv z d = true ∧ (∀ (m : Nat) (z' : PyData), m < j → ds[m]? = some z' → PyData.eqv z' d = false) ∧ Q (.int (j : Nat)) H
theorem mt_indexT (hu : X.A.units + 65 < cLine) : MtR X "tuple.index" (rIndexT X.K) := by
  intro pz s σs H x ws v us Q I rx rws h
  obtain ⟨a, y, d, ds, j, z, rfl, rfl, hl, hy, sl, sd, gz, gzj, hno, q⟩ := h
  cases rx
  cases rws with
  | cons ry rt =>
    rename_i uy ut
    cases rt
    obtain ⟨bs, w1⟩ := Dp.reads I d y uy hy ry
    have lay : PyData.canLayAll0 ds = true := SeqAt.canLay_of_shaped sl
    have room : X.A.units + 1 + min (PyData.depthAll ds) d.depth < cLine := room_in_shaped sd hu
    cases hl with
    | tup hs ha =>
      obtain ⟨ts, rv, ⟨⟨cls, dd, data, sls⟩, ho, hc, n, hdt⟩, hlen⟩ := I.tuple hs
      simp only at hc hdt
      subst hc hdt
      obtain ⟨as, w4⟩ := Dp.readsAll I ds _ ts ha rv
      have hn : ts.length = ds.length := SeqAt.ReadsAll.length ds ts as w4
      have hmp : ts.map (SeqAt.readOf s.heap) = ds := SeqAt.readsAll_map ds ts as lay w4
      obtain ⟨hjd, _⟩ := List.getElem?_eq_some_iff.mp gz
      have hjl : j < ts.length := by omega
      have hj : j < ts.toArray.size := by simpa using hjl
      have key : ∀ (m : Nat) (hm : m < ts.toArray.size) (z' : PyData), ds[m]? = some z' → SeqAt.readOf s.heap ts.toArray[m] = z' := by
        intro m hm z' e'
        have hml : m < ts.length := by simpa using hm
        rw [← hmp, List.getElem?_map, List.getElem?_eq_getElem hml] at e'
        have e1 : SeqAt.readOf s.heap ts[m] = z' := Option.some.inj (show some (SeqAt.readOf s.heap ts[m]) = some z' from e')
        simpa using e1
      refine call_meets PySem.F.slot_tuple_index ⟨_, ho, rfl⟩ PySem.F.entry_tuple_index (PySem.F.args_tuple_index_2 _ _)
        (TI.tuple_indexAt a ts.toArray n dd sls uy (fun u => PyData.eqv (SeqAt.readOf s.heap u) d) j hj ?_ ?_) ⟨ho, SeqAt.items_eqAt (vs := ts.toArray) (show ReadsAll s.heap ts.toArray.toList ds as from w4) w1 lay (SeqAt.canLay_of_shaped sd) room, ?_⟩
      · show PyData.eqv (SeqAt.readOf s.heap ts.toArray[j]) d = true
        rw [key j hj z gz]
        exact gzj
      · intro m hm hmj
        have hmd : m < ds.length := by omega
        have e' : ds[m]? = some ds[m] := List.getElem?_eq_getElem hmd
        show PyData.eqv (SeqAt.readOf s.heap ts.toArray[m]) d = false
        rw [key m hm _ e']
        exact hno m _ hmj e'
      · exact ⟨.int (j : Nat), H, I.tok _, ⟨_, rfl⟩, q⟩
def tLix (K : PySem.W.Frag) (to ty : TE) : TE := fun σ H Q => to σ H fun x H1 => ((∃ a xs, x = .ref a ∧ SqL K H1 a xs) ∧ ty σ H1 fun y H2 => rIndexD K x [y] H2 Q) ∨ ((∃ a xs, x = .ref a ∧ Tq H1 a xs) ∧ ty σ H1 fun y H2 => rIndexT K x [y] H2 Q)
/-- l.index(x), t.index(x) -/
theorem pe_lix {o z : Expr} {to ty : TE} {pp qq : Pos} (hu : X.A.units + 65 < cLine) (ho : PE X o to) (hy : PE X z ty) (pz : plainE z = true) (hb : attributeBase o (Str.ofString "index") X.env (eval o X.env) = eval o X.env) (hl : (pp.endLine == qq.line) = true) :
    PE X (.Call (.Attribute o (Str.ofString "index") pp) [z] [] qq) (tLix X.K to ty) := by
  have s1 := star_plain pz [] X.env
  refine ⟨fun pins s σ H Q I h => ?_⟩
  refine wpAny_Call_method_late hb (by rw [s1]; rfl) hl rfl (thn (ho.run pins s σ H _ I h) fun v sv ⟨x, H1, I1, r1, q1⟩ => ?_)
  rcases q1 with ⟨⟨a, xs, rfl, hs⟩, q1⟩ | ⟨⟨a, xs, rfl, ot, hs, oc, od⟩, q1⟩
  · obtain ⟨t1, t2⟩ := tyV_is (T := "list") I1 r1 (.inl ⟨rfl, xs, hs⟩)
    refine ⟨"list", "list.index", PySem.F.plainAttrs_list, PySem.F.slot_list_index, PySem.F.type_list_index, t1, t2, ?_⟩
    rw [s1]
    refine Calls.callWith_builtin rfl (Calls.evalArgs_plain (Calls.spliced_cons (thn (hy.run pins sv σ H1 _ I1 q1) fun u s2 ⟨y, H2, I2, r2, q2⟩ => Calls.spliced_nil ?_)))
    exact mt_indexD hu pins s2 σ H2 _ [y] v [u] Q I2 r1 (.cons r2 .nil) q2
  · cases r1
    obtain ⟨g0, _⟩ := I1.hok a _ hs
    refine ⟨"tuple", "tuple.index", PySem.F.plainAttrs_tuple, PySem.F.slot_tuple_index, PySem.F.type_tuple_index, ⟨ot, g0, oc⟩, fun b e => by cases e; exact ⟨ot, g0, od⟩, ?_⟩
    rw [s1]
    refine Calls.callWith_builtin rfl (Calls.evalArgs_plain (Calls.spliced_cons (thn (hy.run pins sv σ H1 _ I1 q1) fun u s2 ⟨y, H2, I2, r2, q2⟩ => Calls.spliced_nil ?_)))
    exact mt_indexT hu pins s2 σ H2 (.ref a) [y] (.ref a) [u] Q I2 rfl (.cons r2 .nil) q2
/-- x.count(y), x a list or a tuple -/
def rCouD (K : PySem.W.Frag) (f : List PyData → PyData) : V → List V → Hp → VK → Prop := fun x ws H Q => ∃ (a : Addr) (y : V) (d : PyData) (ds : List PyData), x = V.ref a ∧ ws = [y] ∧ Dp K H (V.ref a) (f ds) ∧ Dp K H y d ∧
  SeqAt.shaped (.list ds) = true ∧ SeqAt.shaped d = true ∧ Q (.int ((ds.countP fun z => PyData.eqv z d : Nat) : Int)) H
theorem cou_reads {h : Heap} {d : PyData} {ts : List Value} {ds : List PyData} (e : ts.map (SeqAt.readOf h) = ds) : ts.countP (fun u => PyData.eqv (SeqAt.readOf h u) d) = ds.countP fun z => PyData.eqv z d := by
  subst e
  rw [List.countP_map]
  rfl
theorem mt_couT (hu : X.A.units + 65 < cLine) : MtR X "tuple.count" (rCouD X.K .tuple) := by
  intro pz s σs H x ws v us Q I rx rws h
  obtain ⟨a, y, d, ds, rfl, rfl, hl, hy, sl, sd, q⟩ := h
  cases rx
  cases rws with
  | cons ry rt =>
    rename_i uy ut
    cases rt
    obtain ⟨bs, w1⟩ := Dp.reads I d y uy hy ry
    have lay : PyData.canLayAll0 ds = true := SeqAt.canLay_of_shaped sl
    have room : X.A.units + 1 + min (PyData.depthAll ds) d.depth < cLine := room_in_shaped sd hu
    cases hl with
    | tup hs ha =>
      obtain ⟨ts, rv, ⟨⟨cls, dd, data, sls⟩, ho, hc, n, hdt⟩, hlen⟩ := I.tuple hs
      simp only at hc hdt
      subst hc hdt
      obtain ⟨as, w4⟩ := Dp.readsAll I ds _ ts ha rv
      have hmp : ts.map (SeqAt.readOf s.heap) = ds := SeqAt.readsAll_map ds ts as lay w4
      refine call_meets PySem.F.slot_tuple_count ⟨_, ho, rfl⟩ PySem.F.entry_tuple_count (PySem.F.args_tuple_count_2 _ _)
        (SeqAt.tuple_countAt a ts.toArray n dd sls uy (fun u => PyData.eqv (SeqAt.readOf s.heap u) d)) ⟨ho, SeqAt.items_eqAt (vs := ts.toArray) (show ReadsAll s.heap ts.toArray.toList ds as from w4) w1 lay (SeqAt.canLay_of_shaped sd) room, ?_⟩
      have ec : (ts.toArray.toList.countP fun u => PyData.eqv (SeqAt.readOf s.heap u) d) = ds.countP fun z => PyData.eqv z d := cou_reads hmp
      rw [ec]
      exact ⟨.int _, H, I.tok _, ⟨_, rfl⟩, q⟩
theorem mt_couL (hu : X.A.units + 65 < cLine) : MtR X "list.count" (rCouD X.K .list) := by
  intro pz s σs H x ws v us Q I rx rws h
  obtain ⟨a, y, d, ds, rfl, rfl, hl, hy, sl, sd, q⟩ := h
  cases rx
  cases rws with
  | cons ry rt =>
    rename_i uy ut
    cases rt
    obtain ⟨bs, w1⟩ := Dp.reads I d y uy hy ry
    have lay : PyData.canLayAll0 ds = true := SeqAt.canLay_of_shaped sl
    have room : X.A.units + 1 + min (PyData.depthAll ds) d.depth < cLine := room_in_shaped sd hu
    cases hl with
    | lst hs ha =>
      obtain ⟨ts, rv, ⟨⟨cls, dd, data, sls⟩, n, ho, hc, hdd, hdt⟩, hlen⟩ := I.list hs
      simp only at hc hdt hdd
      subst hc hdt hdd
      obtain ⟨as, w4⟩ := Dp.readsAll I ds _ ts ha rv
      have hmp : ts.map (SeqAt.readOf s.heap) = ds := SeqAt.readsAll_map ds ts as lay w4
      refine call_meets PySem.F.slot_list_count ⟨_, ho, rfl⟩ PySem.F.entry_list_count (PySem.F.args_list_count_2 _ _)
        (SeqAt.list_countAt a ts.toArray n none sls uy (fun u => PyData.eqv (SeqAt.readOf s.heap u) d)) ⟨ho, SeqAt.items_eqAt (vs := ts.toArray) (show ReadsAll s.heap ts.toArray.toList ds as from w4) w1 lay (SeqAt.canLay_of_shaped sd) room, ?_⟩
      have ec : (ts.toArray.toList.countP fun u => PyData.eqv (SeqAt.readOf s.heap u) d) = ds.countP fun z => PyData.eqv z d := cou_reads hmp
      rw [ec]
      exact ⟨.int _, H, I.tok _, ⟨_, rfl⟩, q⟩
def tCou (K : PySem.W.Frag) (to ty : TE) : TE := fun σ H Q => to σ H fun x H1 => ((∃ a xs, x = .ref a ∧ SqL K H1 a xs) ∧ ty σ H1 fun y H2 => rCouD K .list x [y] H2 Q) ∨ ((∃ a xs, x = .ref a ∧ Tq H1 a xs) ∧ ty σ H1 fun y H2 => rCouD K .tuple x [y] H2 Q)
/-- l.count(x), t.count(x) -/
theorem pe_cou {o z : Expr} {to ty : TE} {pp qq : Pos} (hu : X.A.units + 65 < cLine) (ho : PE X o to) (hy : PE X z ty) (pz : plainE z = true) (hb : attributeBase o (Str.ofString "count") X.env (eval o X.env) = eval o X.env) (hl : (pp.endLine == qq.line) = true) :
    PE X (.Call (.Attribute o (Str.ofString "count") pp) [z] [] qq) (tCou X.K to ty) := by
  have s1 := star_plain pz [] X.env
  refine ⟨fun pins s σ H Q I h => ?_⟩
  refine wpAny_Call_method_late hb (by rw [s1]; rfl) hl rfl (thn (ho.run pins s σ H _ I h) fun v sv ⟨x, H1, I1, r1, q1⟩ => ?_)
  rcases q1 with ⟨⟨a, xs, rfl, hs⟩, q1⟩ | ⟨⟨a, xs, rfl, ot, hs, oc, od⟩, q1⟩
  · obtain ⟨t1, t2⟩ := tyV_is (T := "list") I1 r1 (.inl ⟨rfl, xs, hs⟩)
    refine ⟨"list", "list.count", PySem.F.plainAttrs_list, PySem.F.slot_list_count, PySem.F.type_list_count, t1, t2, ?_⟩
    rw [s1]
    refine Calls.callWith_builtin rfl (Calls.evalArgs_plain (Calls.spliced_cons (thn (hy.run pins sv σ H1 _ I1 q1) fun u s2 ⟨y, H2, I2, r2, q2⟩ => Calls.spliced_nil ?_)))
    exact mt_couL hu pins s2 σ H2 _ [y] v [u] Q I2 r1 (.cons r2 .nil) q2
  · cases r1
    obtain ⟨g0, _⟩ := I1.hok a _ hs
    refine ⟨"tuple", "tuple.count", PySem.F.plainAttrs_tuple, PySem.F.slot_tuple_count, PySem.F.type_tuple_count, ⟨ot, g0, oc⟩, fun b e => by cases e; exact ⟨ot, g0, od⟩, ?_⟩
    rw [s1]
    refine Calls.callWith_builtin rfl (Calls.evalArgs_plain (Calls.spliced_cons (thn (hy.run pins sv σ H1 _ I1 q1) fun u s2 ⟨y, H2, I2, r2, q2⟩ => Calls.spliced_nil ?_)))
    exact mt_couT hu pins s2 σ H2 (.ref a) [y] (.ref a) [u] Q I2 rfl (.cons r2 .nil) q2
end
end Ef

end

section
set_option autoImplicit false
namespace Ef
open PySem L2 PySem.Spec PyProof.Rows
/-! ### d.setdefault(k, v), d[k] = v: all kinds of keys -/
theorem upd_self' {H : Hp} {a : Addr} {u : HO} (h : H a = some u) : upd H a u = H := by
  funext b
  by_cases e : b = a
  · subst e; rw [upd_same, h]
  · rw [upd_ne e]
section
variable {X : Cx} {pins : List (Addr × Obj)} {σ : L2.St} {H J : Hp} {s : Shared} {T : BoxT}
theorem ev_setd (hu : X.A.units + 65 < cLine) (I : Inv X pins σ H s) (hs : Sub J H) {a : Addr} {uo : HO} {kvs : List (PyData × PyData)} {x y : V} {u r : Value} {k d : PyData} {bx : Bx} {Q : Value → Shared → Prop} (hk : keyFor kvs k = true) (bd : Bo X.K bx J H x k) (rx : RelV x u) (ha : H a = some uo) (fo : FrO X.K J uo (.dict kvs)) (hz : kvs.length < sizeLine) (ry : RelV y r) (dy : Dq X.K J y d)
    (q : ∀ v w u' s', Dq X.K J v ((lookD kvs k).getD d) → RelV v w → FrO X.K J u' (.dict (sdD kvs k d)) → Inv X pins σ (upd H a u') s' → Q w s') : wpAny (model X.prog X.w) X.A (call (.builtin "dict.setdefault") [.ref a, u, r]) Q X.xe s := by
  have dc := fo.dc ha
  rcases keyFor_N hk with ⟨kk, rfl, hall⟩ | ⟨hkn, hall⟩
  · have ex : x = kV kk := bo_key bd
    subst ex
    rcases dk_rep I hs dc hall with ⟨xs, h2, dq⟩ | ⟨rfl, b0, o0, h2⟩
    rotate_left
    · refine d_setd (dn_dk I h2) upd_same rx ry (by rw [sizeLine_eq]; decide) (fun v hv => by cases hv) fun hn w' s' I' rw' => ?_
      rw [upd_upd] at I'
      exact q y w' _ s' dy rw' (.dic (putK_ne _ _ _) (DqKv.put .nil dy)) I'
    refine d_setd I h2 rx ry (by rw [dq.length]; exact hz) (fun v hv w' s' I' rw' => ?_) fun hn w' s' I' rw' => ?_
    · rcases dq.look kk with ⟨e1, e2⟩ | ⟨v', d', e1, e2, dv⟩
      · rw [e2] at hv; cases hv
      · rw [e2] at hv; cases hv
        refine q v w' (.dK xs) s' (by rw [e1]; exact dv) rw' ?_ (by rw [upd_self' h2]; exact I')
        have : sdD kvs (kD kk) d = kvs := by simp [sdD, e1]
        rw [this]
        exact .dic (fun z => by subst z; cases e2) dq
    · rcases dq.look kk with ⟨e1, e2⟩ | ⟨v', d', e1, e2, dv⟩
      · refine q y w' _ s' (by rw [e1]; exact dy) rw' ?_ I'
        have : sdD kvs (kD kk) d = storeD kvs (kD kk) d := by simp [sdD, e1]
        rw [this]
        exact .dic (putK_ne _ _ _) (dq.put dy)
      · rw [e2] at hn; cases hn
  · obtain ⟨xs, hd, dq, hm, hl⟩ := dcn_of I hs dc hall
    obtain ⟨b, rfl, hb⟩ := key_ref hkn bd
    cases rx
    refine call_setdefault_heap (hsz := hl) (room_n hu) (key_is I hkn (hb.sub hs)) hd hm (fun p hp => ?_) fun hn h' hm' sb => ?_
    · rcases dq.look hkn with ⟨e1, e2⟩ | ⟨b', u', v', d', e1, e2, rr, dv⟩
      · rw [e2] at hp; cases hp
      · rw [e2] at hp; cases hp
        refine q v' u' uo _ (by rw [e1]; exact dv) rr ?_ (by rw [upd_self' ha]; exact I.tok _)
        have : sdD kvs k d = kvs := by simp [sdD, e1]
        rw [this]
        exact fo
    · rcases dq.look hkn with ⟨e1, e2⟩ | ⟨b', u', v', d', e1, e2, rr, dv⟩
      · have dq' := dq.put hkn hb ry dy
        obtain ⟨l1, l2⟩ := storedH_len xs (nk k) b r
        obtain ⟨o', e', ho'⟩ := dict_H dq' hm' (by have := dq.length; omega)
        refine q y r (DnO a o' _) _ (by rw [e1]; exact dy) ry ?_ (d_write I ?_ sb ⟨o', e'⟩ (dnO_new e' hd ho'))
        · have : sdD kvs k d = storeD kvs k d := by simp [sdD, e1]
          rw [this]
          exact .dcn dq'
        · rw [ha]
          cases fo <;> exact True.intro
      · rw [e2] at hn; cases hn
end
def tSd (K : PySem.W.Frag) (T : BoxT) (to ty tz : TE) : TE := fun σ H Q => to σ H fun x H1 => ∃ a, x = .ref a ∧ isDc H1 a ∧ ty σ H1 fun y H2 => tz σ H2 fun z H3 => ∃ bx J k d kvs uo, Hv T bx J H3 ∧ H3 a = some uo ∧ FrO K J uo (.dict kvs) ∧ Bo K bx J H3 y k ∧ keyFor kvs k = true ∧ Dq K J z d ∧ kvs.length < sizeLine ∧
  ∀ v u', Dq K J v ((lookD kvs k).getD d) → FrO K J u' (.dict (sdD kvs k d)) → Q v (upd H3 a u')
section
variable {X : Cx} {o y z : Expr} {to ty tz : TE} {T : BoxT} {pp qq : Pos}
theorem pe_sd (hu : X.A.units + 65 < cLine) (ho : PE X o to) (hy : PE X y ty) (hz : PE X z tz) (py : plainE y = true) (pz : plainE z = true) (hb : attributeBase o (Str.ofString "setdefault") X.env (eval o X.env) = eval o X.env) (hl : (pp.endLine == qq.line) = true) : PE X (.Call (.Attribute o (Str.ofString "setdefault") pp) [y, z] [] qq) (tSd X.K T to ty tz) := by
  have s1 := star_plain py [z] X.env
  have s2 := star_plain pz [] X.env
  refine ⟨fun pins s σ H Q I h => wpAny_Call_method hb (by rw [s1, s2]; rfl) hl F.plainAttrs_dict F.slot_dict_setdefault F.type_dict_setdefault (thn (ho.run pins s σ H _ I h) fun u s1' ⟨x, H1, I1, rx, a, ex, d, q1⟩ => ?_)⟩
  subst ex
  cases rx
  obtain ⟨t1, t2⟩ := isDc_at I1 d
  refine ⟨t1, t2, ?_⟩
  rw [show backTo qq (starEach [y, z] X.env) = [(false, eval y X.env), (false, eval z X.env)] by rw [s1, s2]; rfl]
  refine Calls.callWith_builtin rfl (Calls.evalArgs_plain (Calls.spliced_cons (thn (hy.run pins s1' σ H1 _ I1 q1) fun iv s2' ⟨yv, H2, I2, ry, q2⟩ => Calls.spliced_cons (thn (hz.run pins s2' σ H2 _ I2 q2) fun fv s3 ⟨zv, H3, I3, rz, bx, J, k, dd, kvs, uo, hv, hao, fo, bk, kf, dz, hzl, f1⟩ => Calls.spliced_nil ?_))))
  exact ev_setd hu I3 hv.sub kf bk ry hao fo hzl rz dz fun v w u' s' dv rv fo' I' => ⟨v, _, I', rv, f1 v u' dv fo'⟩
end
/-- x[j] = e: a dict of one's own, all kinds of keys -/
def rSetN (K : PySem.W.Frag) (T : BoxT) : V → V → V → Hp → (Hp → Prop) → Prop := fun o i v H Q => rSetL o i v H Q ∨ ∃ a bx J k d kvs uo, o = .ref a ∧ Hv T bx J H ∧ H a = some uo ∧ FrO K J uo (.dict kvs) ∧ Bo K bx J H i k ∧ keyFor kvs k = true ∧ kvs.length < sizeLine ∧ Dq K J v d ∧ ∀ u', FrO K J u' (.dict (storeD kvs k d)) → Q (upd H a u')
theorem set_ownN {X : Cx} {T : BoxT} (hu : X.A.units + 65 < cLine) : PSet X (rSetN X.K T) := by
  intro pins s σ H o i v ov iv u Q I ro ri rv h
  rcases h with h | ⟨a, bx, J, k, d, kvs, uo, rfl, hv, ha, fo, bk, kf, hz, dv, q⟩
  · exact set_list pins s σ H o i v ov iv u Q I ro ri rv h
  · cases ro
    exact ev_put hu I hv.sub kf bk ri ha fo hz rv dv fun u' s' fo' I' => ⟨_, I', q u' fo'⟩
/-! ### things of one's own lent to a call -/
/-- an own thing's object: no tuple -/
def ownO : HO → Prop
  | .tup _ => False
  | .frz _ _ => False
  | _ => True
theorem FrO.ownO {K : PySem.W.Frag} {I : Hp} : ∀ {o d}, FrO K I o d → ownO o
  | _, _, .lst _ => True.intro
  | _, _, .dic _ _ => True.intro
  | _, _, .dcn _ => True.intro
mutual
theorem Dq.back {K : PySem.W.Frag} {I I' : Hp} (h : ∀ a xs, Tq I a xs → Tq I' a xs) : ∀ {v : V} {d : PyData}, Dq K I v d → noFr d = true → Dq K I' v d
  | _, _, .non, _ => .non
  | _, _, .bl b, _ => .bl b
  | _, _, .int i, _ => .int i
  | _, _, .str x, _ => .str x
  | _, _, .lst _ _, n => by simp [noFr] at n
  | _, _, .dic _ _ _, n => by simp [noFr] at n
  | _, _, .dcn _ _, n => by simp [noFr] at n
  | _, _, .tup hs q, n => .tup (h _ _ hs) (DqAll.back h q (by simpa [noFr] using n))
theorem DqAll.back {K : PySem.W.Frag} {I I' : Hp} (h : ∀ a xs, Tq I a xs → Tq I' a xs) : ∀ {vs : List V} {ds : List PyData}, DqAll K I vs ds → noFrs ds = true → DqAll K I' vs ds
  | _, _, .nil, _ => .nil
  | _, _, .cons h1 q, n => by
    simp only [noFrs, Bool.and_eq_true] at n
    exact .cons (Dq.back h h1 n.1) (DqAll.back h q n.2)
end
/-- what is lent stands for as long as the call lasts -/
theorem lend {K : PySem.W.Frag} {T : BoxT} {bx : Bx} {J H : Hp} (hv : Hv T bx J H) : ∀ {vs ds}, BoAll K bx J H vs ds → ∃ J', Hv T bx J' H ∧ Sub J J' ∧ DqAll K J' vs ds ∧ ∀ b o, J' b = some o → J b = some o ∨ (J b = none ∧ ownO o)
  | _, _, .nil => ⟨J, hv, fun _ _ e => e, .nil, fun _ _ e => .inl e⟩
  | _, _, .cons (v := v) (vs := vs) (d := d) (ds := ds) h q => by
    obtain ⟨J', hv', sb, dq, hf⟩ := lend hv q
    rcases h with h | ⟨a, u, rfl, ha, fo, hn⟩
    · exact ⟨J', hv', sb, .cons (h.sub sb) dq, hf⟩
    · cases e : J' a with
      | some o =>
        have := hv'.sub a o e
        rw [ha] at this
        cases this
        exact ⟨J', hv', sb, .cons ((fo.sub sb).dq e) dq, hf⟩
      | none =>
        have sb2 : Sub J' (upd J' a u) := fun b o e2 => by
          rw [upd_ne (fun z => by subst z; rw [e] at e2; cases e2)]; exact e2
        refine ⟨upd J' a u, ⟨fun b o e2 => ?_, hv'.bok, fun b hb => ?_⟩, fun b o e2 => sb2 b o (sb b o e2), .cons (((fo.sub sb).sub sb2).dq upd_same) (dq.sub sb2), fun b o e2 => ?_⟩
        · by_cases z : b = a
          · subst z; rw [upd_same] at e2; cases e2; exact ha
          · rw [upd_ne z] at e2; exact hv'.sub b o e2
        · rw [upd_ne (fun z => by subst z; exact hn hb)]
          exact hv'.bno b hb
        · by_cases z : b = a
          · subst z
            rw [upd_same] at e2
            cases e2
            refine .inr ⟨?_, fo.ownO⟩
            cases e3 : J b with
            | none => rfl
            | some o => rw [sb b o e3] at e; cases e
          · rw [upd_ne z] at e2; exact hf b o e2
/-- and is one's own again behind it -/
theorem unlend {K : PySem.W.Frag} {T : BoxT} {bx : Bx} {J J' H I' H' : Hp} {v : V} {r : PyData} (hv : Hv T bx J' H) (sb : Sub J J') (hf : ∀ b o, J' b = some o → J b = some o ∨ (J b = none ∧ ownO o)) (g : Gw T bx J' H I' H') (dq : Dq K I' v r) (n : noFr r = true) : ∃ I2, Gw T bx J H I2 H' ∧ Dq K I2 v r := by
  classical
  refine ⟨fun b => if J b = none ∧ J' b ≠ none then none else I' b, ⟨⟨fun b o e => ?_, g.hv.bok, fun b hb => ?_⟩, fun b o e => ?_, g.hp, g.al⟩, Dq.back (fun a xs h => ?_) dq n⟩
  · split at e
    · cases e
    · exact g.hv.sub b o e
  · show (if _ then _ else _) = _
    split
    · rfl
    · exact g.hv.bno b hb
  · show (if _ then _ else _) = _
    split
    · rename_i h; exact h.1.symm
    · rename_i h
      rw [g.im b o e]
      cases e1 : J b with
      | some o1 => exact sb b o1 e1
      | none =>
        cases e2 : J' b with
        | none => rfl
        | some o2 => exact absurd ⟨e1, by rw [e2]; exact fun z => nomatch z⟩ h
  · have key : ¬ (J a = none ∧ J' a ≠ none) := fun ⟨e1, e2⟩ => by
      cases e3 : J' a with
      | none => exact e2 e3
      | some o =>
        have e4 := g.im a o (hv.sub a o e3)
        rcases hf a o e3 with e5 | ⟨_, ho⟩
        · rw [e1] at e5; cases e5
        · rw [e3] at e4
          obtain ⟨o', h, _⟩ := h
          rw [e4] at h; cases h; exact ho
    obtain ⟨o', h, hq⟩ := h
    exact ⟨o', (if_neg key).trans h, hq⟩
theorem ar_dat {K : PySem.W.Frag} {bx : Bx} {J : Hp} : ∀ {vs ds}, DqAll K J vs ds → ArAll K bx J vs (ds.map .dat)
  | _, _, .nil => .nil
  | _, _, .cons h q => .dat h (ar_dat q)
section
variable {X : Cx} {T : BoxT} {G : Gm} {k : Nat} {c : Ck}
/-- a call to which things of one's own are lent: what comes back has no list and no dict in it -/
theorem lf_bcl (g : Gd T G k c X) {f : String} {d : Con} {q pos : Pos} {e : Expr} {es' : List Expr} {es : Exs} (hd : G.con f = some d) (hgl : glbB c (Str.ofString f) = true) (hpl : plainAll (e :: es') = true) (ha : PA X (e :: es') (lfEs X.K T false (wpEs G es))) :
    PE X (.Call (.Name (Str.ofString f) q) (e :: es') [] pos) (lfE X.K T .st fun ρ Q => wpEs G es ρ fun ds => ∃ a, d.pre a (ds.map .dat) ∧ ∀ r, d.post a r → noFr r = true ∧ Q r) := by
  obtain ⟨fa, fd, ps, hm, hk, hb, F⟩ := (g.con f d hd).ex
  obtain ⟨h1, h2, h3⟩ := g.gl hgl
  refine PE.imp (pe_G F g.room g.grd h1 hm hk hb ha hpl h2) fun σ H Q ⟨bx, I0, H0, ρ, I, s, w⟩ => ?_
  refine ⟨bx, I0, H0, ρ, I, s, wpEs_mono es (fun ds w vs I1 H1 g1 b1 => ?_) w⟩
  obtain ⟨gh, w1, w2⟩ := w
  have b1 : BoAll X.K bx I1 H1 vs ds := b1
  obtain ⟨J', hv', sb, dq, hf⟩ := lend g1.hv b1
  refine ⟨bx, J', _, gh, hv', ar_dat dq, w1, fun v I' H' r g2 dr po => ?_⟩
  obtain ⟨n, w3⟩ := w2 r po
  obtain ⟨I2, g3, dr2⟩ := unlend hv' sb hf g2 dr n
  exact w3 v I2 H' (g1.trans g3) dr2
end
end Ef

end

section
set_option autoImplicit false
namespace Ef
open PySem L2 PySem.Spec PyProof.Rows
section
variable {K : PySem.W.Frag} {T : BoxT} {bx : Bx} {I : Hp}
theorem wk_keysN {a b : Addr} {o : Obj} {xs kvs} (h : I a = some (DnO b o xs)) (hb : b = a) (q : DqNs K I xs kvs) : Wk K T bx I false (Itn a o xs) (kvs.map (·.1)) := by
  subst hb
  intro i I' H' sb hv
  have hl : H' b = some (DnO b o xs) := hv.sub _ _ (sb _ _ h)
  have ln := q.length
  refine ⟨fun d hd => ?_, fun hle => ⟨hl, by rw [ln]; simpa using hle⟩⟩
  have hi : i < xs.length := by
    have := (List.getElem?_eq_some_iff.mp hd).1
    rw [ln]; simpa using this
  refine ⟨⟨hl, hi⟩, fun x H2 y => ?_⟩
  obtain ⟨rfl, z, hz, rfl⟩ := y
  obtain ⟨p, hp, dp, _⟩ := q.key_at hz
  have e : d = p.1 := by
    rw [List.getElem?_map, hp] at hd
    exact (Option.some.inj hd).symm
  subst e
  exact ⟨I', Gw.refl hv, dp.sub sb⟩
theorem DqNs.vals : ∀ {xs kvs}, DqNs K I xs kvs → ∃ vs, vs.length = xs.length ∧ (∀ i (h1 : i < vs.length) (h2 : i < xs.length), RelV vs[i] xs[i].2.2) ∧ DqAll K I vs (kvs.map (·.2))
  | _, _, .nil => ⟨[], rfl, (fun i h1 => absurd h1 (Nat.not_lt_zero _)), .nil⟩
  | _, _, .cons (v := v) h _ r hv q => by
    obtain ⟨vs, h1, h2, h3⟩ := DqNs.vals q
    refine ⟨v :: vs, by simp [h1], fun i i1 i2 => ?_, .cons hv h3⟩
    cases i with
    | zero => exact r
    | succ i => exact h2 i (Nat.lt_of_succ_lt_succ i1) (Nat.lt_of_succ_lt_succ i2)
theorem wk_pairsN {a b : Addr} {o : Obj} {xs kvs} {vs : List V} (h : I a = some (DnO b o xs)) (hb : b = a) (q : DqNs K I xs kvs) (hl : vs.length = xs.length) (qv : DqAll K I vs (kvs.map (·.2))) : Wk K T bx I true (Itp a o xs vs) (pairOf kvs) := by
  subst hb
  intro i I' H' sb hv
  have ha : H' b = some (DnO b o xs) := hv.sub _ _ (sb _ _ h)
  have ln := q.length
  refine ⟨fun d hd => ?_, fun hle => ⟨ha, by rw [ln]; simpa [pairOf] using hle⟩⟩
  have hi : i < xs.length := by
    have := (List.getElem?_eq_some_iff.mp hd).1
    rw [ln]; simpa [pairOf] using this
  refine ⟨⟨ha, hi⟩, fun x H2 y => ?_⟩
  obtain ⟨p, z, v, hz, hv1, rfl, hn, rfl⟩ := y
  obtain ⟨pr, hp, dp, _⟩ := q.key_at hz
  have hk : (kvs.map (·.2))[i]? = some pr.2 := by rw [List.getElem?_map, hp]; rfl
  obtain ⟨v', hv2, dv⟩ := qv.get' hk
  rw [hv1] at hv2; cases hv2
  have e : d = .tuple [pr.1, pr.2] := by
    simp only [pairOf] at hd
    rw [List.getElem?_map, hp] at hd
    exact (Option.some.inj hd).symm
  subst e
  have g := Gw.new (.tup [.ref z.2.1, v]) hv hn
  exact ⟨_, g, _, _, _, rfl, rfl, SqT.of upd_same, .cons ((dp.sub sb).sub (g.sub hv)) (.cons ((dv.sub sb).sub (g.sub hv)) .nil)⟩
end
end Ef

end

section
set_option autoImplicit false
namespace Ef
open PySem L2 PySem.Spec PyProof.Rows
/-! ### set(l), few different things: by what is known of adding one -/
section
variable {P : Program} {w : World} {A : Around} {E : Value → Shared → Prop} {s : Shared} {κ : Type} {is : Heap → κ → Addr → Prop} {Rp : Heap → Addr → List (Addr × κ) → Prop}
/-- a kind of sets: Rp h a L: the set at a has the things of L -/
structure SetK (P : Program) (w : World) (A : Around) (is : Heap → κ → Addr → Prop) (Rp : Heap → Addr → List (Addr × κ) → Prop) : Prop where
  fresh : ∀ h a, h.get? a = some (freshS w) → Rp h a []
  keep : ∀ h h' a L, Rp h a L → (∀ o, h.get? a = some o → h'.get? a = some o) → (∀ p ∈ L, is h' p.2 p.1) → Rp h' a L
  isKeep : ∀ h h' k x, is h k x → (∀ b o, h.get? b = some o → h'.get? b = some o) → is h' k x
  nodup : ∀ h a L, Rp h a L → (L.map (·.2)).Nodup
  add : ∀ (E : Value → Shared → Prop) (s : Shared) (a : Addr) (L : List (Addr × κ)) (x : Addr) (k : κ) (Q : Bool → Shared → Prop), Rp s.heap a L → is s.heap k x → L.length + 1 < 300 →
    (∀ b h' tk L', Heap.SameBut a s.heap h' → s.toks ≤ tk → Rp h' a L' → (k ∈ L.map (·.2) → L' = L) → (k ∉ L.map (·.2) → L'.Perm ((x, k) :: L)) → Q b { s with heap := h', toks := tk }) → wpAny (model P w) A (setAdd a (.ref x)) Q E s
/-- what the first i things have brought in -/
structure Took (ks : List (Addr × κ)) (i : Nat) (L : List (Addr × κ)) : Prop where
  from_ : ∀ p ∈ L, p ∈ ks.take i
  all_ : ∀ p ∈ ks.take i, p.2 ∈ L.map (·.2)
theorem Took.next {ks L L' : List (Addr × κ)} {i : Nat} {x : Addr × κ} (g : Took ks i L) (h : ks[i]? = some x) (h1 : x.2 ∈ L.map (·.2) → L' = L) (h2 : x.2 ∉ L.map (·.2) → L'.Perm (x :: L)) : Took ks (i + 1) L' := by
  have e : ks.take (i + 1) = ks.take i ++ [x] := by rw [List.take_succ, h]; rfl
  by_cases c : x.2 ∈ L.map (·.2)
  · have z := h1 c
    subst z
    refine ⟨fun p hp => by rw [e]; exact List.mem_append_left _ (g.from_ p hp), fun p hp => ?_⟩
    rw [e, List.mem_append, List.mem_singleton] at hp
    rcases hp with hp | rfl
    · exact g.all_ p hp
    · exact c
  · have pm := h2 c
    refine ⟨fun p hp => ?_, fun p hp => ?_⟩
    · rw [e, List.mem_append, List.mem_singleton]
      rcases List.mem_cons.mp (pm.mem_iff.mp hp) with z | z
      · exact .inr z
      · exact .inl (g.from_ p z)
    · have pm2 : (L'.map (·.2)).Perm ((x :: L).map (·.2)) := pm.map _
      rw [pm2.mem_iff]
      rw [e, List.mem_append, List.mem_singleton] at hp
      rcases hp with hp | rfl
      · exact List.mem_cons_of_mem _ (g.all_ p hp)
      · exact List.mem_cons_self
theorem fill_set {I S : Addr} {fp wr : List Addr} {Gg : Array GenState → Array GenState → Prop} {n : Nat} {Pv : Nat → Value → Prop} {St : Nat → Shared → Prop} {R : Result → Shared → Prop} (K : SetK P w A.in1 is Rp) (W : WalksS P w A.in1 I fp wr Gg n Pv St) (nf : S ∉ fp)
    (ks : List (Addr × κ)) (us : List κ) (hus : us.length < 298) (hin : ∀ p ∈ ks, p.2 ∈ us) (hn : n = ks.length) (hval : ∀ i v, Pv i v → ∃ p, ks[i]? = some p ∧ v = .ref p.1) (h0 : Heap) (hk : ∀ p ∈ ks, is h0 p.2 p.1) (hS0 : h0.get? S = none) (hw0 : ∀ b ∈ wr, h0.get? b = none) :
    ∀ (m i : Nat) (s : Shared), n - i = m → i ≤ n → St i s → (∀ b o, h0.get? b = some o → s.heap.get? b = some o) → (∃ L, Rp s.heap S L ∧ Took ks i L) →
      (∀ s' L, Moved (S :: wr) Gg s s' → Rp s'.heap S L → Took ks n L → (∀ b o, h0.get? b = some o → s'.heap.get? b = some o) → R (.ok (.ret .none)) s') →
      codeAny (model P w) A (.builtin "set.update.loop" ⟨[.ref S, .ref I], []⟩) R s := by
  have nw : S ∉ wr := fun z => nf (W.sub _ z)
  have up : ∀ b ∈ wr, b ∈ S :: wr := fun b hb => List.mem_cons_of_mem _ hb
  have still : ∀ {s s' : Shared}, Moved wr Gg s s' → (∀ b o, h0.get? b = some o → s.heap.get? b = some o) → ∀ b o, h0.get? b = some o → s'.heap.get? b = some o := fun mv kp b o e =>
    mv.heap b o (fun z => by rw [hw0 b z] at e; cases e) (kp b o e)
  intro m
  induction m with
  | zero =>
    intro i s hm hi st kp ⟨L, rp, g⟩ q
    obtain rfl : i = n := by omega
    refine codeAny_builtin F.entry_set_update_loop ?_
    rw [Around.under_plainId F.plain_set_update_loop _]
    show wpAny _ A.in1 (pyNext (.ref I) >>= _) _ _ s
    refine wpAny_bind (W.done s _ _ st fun s1 mv => ?_)
    have kp1 := still mv kp
    have rp1 := K.keep _ s1.heap _ _ rp (fun o e => mv.heap S o nw e) fun p hp => K.isKeep _ _ _ _ (hk p (List.mem_of_mem_take (g.from_ p hp))) kp1
    show wpAny _ A.in1 (ret Value.none) _ _ s1
    exact wpAny_pure (q s1 L (mv.mono up) rp1 g kp1)
  | succ m ih =>
    intro i s hm hi st kp ⟨L, rp, g⟩ q
    have lt : i < n := by omega
    refine codeAny_builtin F.entry_set_update_loop ?_
    rw [Around.under_plainId F.plain_set_update_loop _]
    show wpAny _ A.in1 (pyNext (.ref I) >>= _) _ _ s
    refine wpAny_bind (W.item i s _ _ lt st fun v s1 hv st1 mv => ?_)
    obtain ⟨p, hp, rfl⟩ := hval i v hv
    have kp1 := still mv kp
    have rp1 := K.keep _ s1.heap _ _ rp (fun o e => mv.heap S o nw e) fun r hr => K.isKeep _ _ _ _ (hk r (List.mem_of_mem_take (g.from_ r hr))) kp1
    have ip := K.isKeep _ _ _ _ (hk p (List.mem_of_getElem? hp)) kp1
    have few : L.length + 1 < 300 := by
      have h1 := K.nodup _ _ _ rp
      have h2 := h1.length_le_of_subset (l₂ := us) fun k hkm => by
        obtain ⟨r, hr, rfl⟩ := List.mem_map.mp hkm
        exact hin r (List.mem_of_mem_take (g.from_ r hr))
      rw [List.length_map] at h2
      omega
    show wpAny _ A.in1 (holding [Value.ref p.1] (setAdd S (.ref p.1)) >>= _) _ _ s1
    refine wpAny_bind (wpAny_holding (K.add _ s1 S L p.1 p.2 _ rp1 ip few fun b h2 tk L2 sb ht rp2 c1 c2 => ?_))
    have g2 := g.next hp c1 c2
    have kp2 : ∀ b o, h0.get? b = some o → h2.get? b = some o := fun b o e => (sb.2 b (fun z => by subst z; rw [hS0] at e; cases e)).trans (kp1 b o e)
    have st2 : St (i + 1) { s1 with heap := h2, toks := tk } := W.frame _ s1 _ _ st1 ht fun b hb o e => (sb.2 b (fun z => nf (by rw [← z]; exact hb))).trans e
    refine wpAny_pure ⟨plainId_quiet F.plain_set_update_loop _, ih (i + 1) _ (by omega) lt st2 kp2 ⟨L2, rp2, g2⟩ fun s3 L3 mv3 rp3 g3 kp3 => ?_⟩
    refine q s3 L3 (Moved.trans W.gtrans ((mv.mono up).then_heap ht fun b o hb e => ?_) mv3) rp3 g3 kp3
    exact (sb.2 b (fun z => hb (by rw [z]; exact List.mem_cons_self))).trans e
/-- set(l) of a list -/
theorem call_set_few {l : Addr} {its : Array Value} (K : SetK P w A.in1.in1.in1 is Rp) (ks : List (Addr × κ)) (us : List κ) (hus : us.length < 298) (hin : ∀ p ∈ ks, p.2 ∈ us) {Q : Value → Shared → Prop} (hh : A.handled = none) (hl : s.heap.IsList l its) (hi : its.toList = ks.map fun p => Value.ref p.1) (hk : ∀ p ∈ ks, is s.heap p.2 p.1)
    (q : ∀ (h' : Heap) (tk : Nat) (L : List (Addr × κ)), Rp h' s.heap.objs.size L → Took ks ks.length L → (∀ b o, s.heap.get? b = some o → h'.get? b = some o) → Q (.ref s.heap.objs.size) { s with heap := h', toks := tk }) : wpAny (model P w) A (call (.type "set") [.ref l]) Q E s := by
  have len : its.size = ks.length := by
    have := congrArg List.length hi
    simpa using this
  obtain ⟨c0, tl, hmro⟩ := F.called_set.mro
  have hmade := F.called_set.made
  have hsub := F.called_set.sub
  have hnt := F.called_set.notType
  have hcc := F.called_set.canCreate
  have htc := F.typeCall_set_1 (.ref l)
  refine wpAny_call (codeAny_of_tree ?_)
  show wpAny _ _ (callAny (.type "set") _) _ _ _
  refine wpAny_pure ⟨Code.quiet_builtin _ (by decide +kernel), codeAny_builtin F.entry_type_call ?_⟩
  rw [Around.under_plain (weight_type_call_type "set" [.ref l] []) rfl]
  repeat (any_goals (first | assumption | wp_step))
  refine codeAny_mono (code_set_led1 (.ref l) (E := E) (Q₁ := fun v z => v = .ref s.heap.objs.size ∧ z = { s with heap := s.heap.push (freshS w) }) ⟨rfl, rfl⟩) fun r s1 hr => ?_
  cases r with
  | error e => exact hr
  | ok fl =>
    cases fl with
    | next => exact hr.elim
    | brk => exact hr.elim
    | cont => exact hr.elim
    | ret v =>
      obtain ⟨rfl, rfl⟩ := hr
      have gS : (s.heap.push (freshS w)).get? s.heap.objs.size = some (freshS w) := Heap.get?_push_size _ rfl
      have hT : Shared.TypeIs { s with heap := s.heap.push (freshS w) } (.ref s.heap.objs.size) "set" := ⟨_, gS, rfl⟩
      have hli := F.called_set.init.lookup
      have hbi := F.called_set.init.bind (.ref s.heap.objs.size)
      repeat (any_goals (first | assumption | wp_step))
      refine codeAny_mono (codeAny_call_builtin (R := wants (fun v z => v = .none ∧ ∃ h' tk L, z = { s with heap := h', toks := tk } ∧ Rp h' s.heap.objs.size L ∧ Took ks ks.length L ∧ (∀ b o, s.heap.get? b = some o → h'.get? b = some o)) E) F.called_set.init.plain F.entry_set_init (check_set_init_1 hT ?_)) fun r2 s2 hr2 => ?_
      · obtain ⟨⟨oc, od, odt, osl⟩, gl, ec, nl, ed⟩ := id hl
        simp only at ec ed
        subst ec ed
        have gl1 : (s.heap.push (freshS w)).get? l = some ⟨.type "list", od, .seq its nl, osl⟩ := Heap.get?_push_of_some _ gl
        have f1 := F.sub_list_set
        have f2 := F.sub_list_frozenset
        have f3 : (Value.type "list" == Value.type "dict") = false := by decide
        have hl1 : (s.heap.push (freshS w)).IsList l its := ⟨_, gl1, rfl, nl, rfl⟩
        have lS : l < s.heap.objs.size := Heap.lt_size gl
        have sz : (s.heap.push (freshS w)).objs.size = s.heap.objs.size + 1 := Heap.size_push ..
        unfold Builtin.«set.__init__» noKeywords Builtin.Frozenset.updateFrom
        generalize hPI : pyIter = PI
        wp_walk
        subst hPI
        refine wpAny_pyIter_list hl1 (wpAny_bind (wpAny_runValue ?_))
        have ne1 : l ≠ (s.heap.push (freshS w)).objs.size := by rw [sz]; exact Nat.ne_of_lt (Nat.lt_succ_of_lt lS)
        have nf1 : s.heap.objs.size ∉ [(s.heap.push (freshS w)).objs.size, l] := by
          rw [sz]
          simp only [List.mem_cons, List.not_mem_nil, or_false, not_or]
          exact ⟨Nat.ne_of_lt (Nat.lt_succ_self _), Nat.ne_of_gt lS⟩
        have vals : ∀ (i : Nat) (v : Value), its[i]? = some v → ∃ p, ks[i]? = some p ∧ v = .ref p.1 := fun i v hv => by
          have e : its.toList[i]? = some v := by rw [Array.getElem?_toList]; exact hv
          rw [hi, List.getElem?_map] at e
          cases hq : ks[i]? with
          | none => rw [hq] at e; cases e
          | some p =>
            rw [hq] at e
            exact ⟨p, rfl, (Option.some.inj e).symm⟩
        have gone : ∀ b, s.heap.objs.size ≤ b → s.heap.get? b = none := fun b hb => by
          cases e : s.heap.get? b with
          | none => rfl
          | some o => exact absurd (Heap.lt_size e) (Nat.not_lt.mpr hb)
        have w0 : ∀ b ∈ [(s.heap.push (freshS w)).objs.size], s.heap.get? b = none := fun b hb => gone b (by rw [List.mem_singleton.mp hb, sz]; exact Nat.le_succ _)
        have hh3 : A.in1.in1.in1.handled = none := by simp [hh]
        refine fill_set K ((Walks.list hh3 _ l ne1 its).toS) nf1 ks us hus hin len vals s.heap hk (gone _ (Nat.le_refl _)) w0 (its.size - 0) 0 _ (by omega) (Nat.zero_le _) ?_ ?_ ?_ ?_
        · exact ⟨⟨_, Heap.get?_push_size _ rfl, rfl, rfl⟩, hl1.push _⟩
        · exact fun b o e => Heap.get?_push_of_some _ (Heap.get?_push_of_some _ e)
        · exact ⟨[], K.fresh _ _ (Heap.get?_push_of_some _ gS), ⟨fun p hp => (by cases hp), fun p hp => (by simp at hp)⟩⟩
        rintro ⟨h', g', d', tk', os'⟩ L mv rp g kp
        have eg : g' = s.gens := mv.gens
        have ed : d' = s.drawn := mv.drawn
        have eo : os' = s.os := mv.os
        subst eg ed eo
        show wpAny _ _ _ _ _ _
        refine wpAny_pure ?_
        show wpAny _ _ (ret Value.none) _ _ _
        exact wpAny_pure ⟨rfl, h', tk', L, rfl, rp, by rw [← len]; exact g, kp⟩
      · cases r2 with
        | error e => exact hr2
        | ok fl2 =>
          cases fl2 with
          | ret v2 =>
            obtain ⟨rfl, h', tk, L, rfl, rp, g, kp⟩ := hr2
            repeat (any_goals (first | assumption | wp_step))
            exact q _ _ _ rp g kp
          | _ => exact hr2.elim
end
end Ef

end

section
set_option autoImplicit false
namespace Ef
open PySem L2 PySem.Spec PyProof.Rows
/-! ### tables of sets with up to 512 slots -/
def inv5 : List Nat := [0, 1, 326, 495, 412, 365, 2, 379, 376, 281, 254, 327, 404, 261, 58, 339, 496, 305, 438, 415, 140, 413, 370, 43, 360, 73, 366, 247, 132, 309, 426, 3, 480, 97, 38, 335, 380, 461, 226, 219, 344, 377, 478, 167, 372, 357, 282, 179, 464, 401, 150, 255, 108, 509, 82, 395, 328, 169, 78, 87, 100, 405, 138, 355, 448, 193, 262, 175, 348, 45, 450, 59, 312, 473, 190, 7, 340, 453, 506, 19, 432, 497, 374, 95, 76, 93, 306, 235, 296, 265, 302, 439, 68, 501, 362, 195, 416, 289, 486, 15, 316, 141, 162, 411, 280, 57, 414, 359, 308, 37, 218, 371, 400, 81, 86, 447, 44, 189, 18, 75, 264, 361, 14, 279, 36, 85, 74, 35, 384, 385, 198, 367, 284, 237, 386, 251, 248, 153, 126, 199, 276, 133, 442, 211, 368, 177, 310, 287, 12, 285, 242, 427, 232, 457, 238, 119, 4, 181, 298, 387, 352, 481, 422, 207, 252, 333, 98, 91, 216, 249, 350, 39, 244, 229, 154, 51, 336, 273, 22, 127, 492, 381, 466, 267, 200, 41, 462, 471, 484, 277, 10, 227, 320, 65, 134, 47, 220, 429, 322, 443, 184, 345, 62, 391, 212, 325, 378, 403, 304, 369, 246, 479, 460, 477, 178, 107, 168, 137, 174, 311, 452, 373, 234, 67, 288, 161, 358, 399, 188, 13, 34, 283, 152, 441, 286, 231, 180, 421, 90, 243, 272, 465, 470, 319, 428, 61, 402, 459, 136, 233, 398, 151, 420, 469, 458, 419, 256, 257, 70, 239, 156, 109, 258, 123, 120, 25, 510, 71, 148, 5, 314, 83, 240, 49, 182, 159, 396, 157, 114, 299, 104, 329, 110, 503, 388, 53, 170, 259, 224, 353, 294, 79, 124, 205, 482, 475, 88, 121, 222, 423, 116, 101, 26, 435, 208, 145, 406, 511, 364, 253, 338, 139, 72, 425, 334, 343, 356, 149, 394, 99, 192, 449, 6, 431, 92, 301, 194, 315, 56, 217, 446, 263, 84, 197, 250, 275, 176, 241, 118, 351, 332, 349, 50, 491, 40, 9, 46, 183, 324, 245, 106, 451, 160, 33, 230, 271, 60, 397, 418, 155, 24, 313, 158, 103, 52, 293, 474, 115, 144, 337, 342, 191, 300, 445, 274, 331, 8, 105, 270, 23, 292, 341, 330, 291, 128, 129, 454, 111, 28, 493, 130, 507, 504, 409, 382, 455, 20, 389, 186, 467, 112, 433, 54, 31, 268, 29, 498, 171, 488, 201, 494, 375, 260, 437, 42, 131, 96, 225, 166, 463, 508, 77, 354, 347, 472, 505, 94, 295, 500, 485, 410, 307, 80, 17, 278, 383, 236, 125, 210, 11, 456, 297, 206, 215, 228, 21, 266, 483, 64, 321, 390, 303, 476, 173, 66, 187, 440, 89, 318, 135, 468, 69, 122, 147, 48, 113, 502, 223, 204, 221, 434, 363, 424, 393, 430, 55, 196, 117, 490, 323, 32, 417, 102, 143, 444, 269, 290, 27, 408, 185, 30, 487, 436, 165, 346, 499, 16, 209, 214, 63, 172, 317, 146, 203, 392, 489, 142, 407, 164, 213, 202, 163]
theorem inv5_ok : (List.range 512).all (fun j => decide (inv5.getD j 0 ≤ 511) && (lcgN 511 (inv5.getD j 0) == j)) = true := by decide +kernel
theorem hit5 {j : Nat} (hj : j ≤ 511) : ∃ b, b ≤ 511 ∧ lcgN 511 b = j := by
  have z := List.all_eq_true.mp inv5_ok j (List.mem_range.mpr (by omega))
  rw [Bool.and_eq_true, decide_eq_true_eq, beq_iff_eq] at z
  exact ⟨_, z.1, z.2⟩
theorem back5 : ∀ c : Nat, lcgN 511 (512 + c) = lcgN 511 c
  | 0 => by decide +kernel
  | c + 1 => by
    have z := back5 c
    show (lcgN 511 (512 + c) * 5 + 1) % 512 = (lcgN 511 c * 5 + 1) % 512
    rw [z]
theorem all5 {p q : Nat} (hp : p ≤ 511) (hq : q ≤ 511) : ∃ c, c ≤ 511 ∧ lcgI 511 p c = q := by
  obtain ⟨u, hu, eu⟩ := hit5 hp
  obtain ⟨v, hv, ev⟩ := hit5 hq
  subst eu ev
  by_cases le : u ≤ v
  · exact ⟨v - u, by omega, by rw [lcgN_add, show u + (v - u) = v by omega]⟩
  · exact ⟨v + 512 - u, by omega, by rw [lcgN_add, show u + (v + 512 - u) = 512 + v by omega, back5]⟩
/-- masks of which each slot is met -/
def MaskG (m : Nat) : Prop := m = 7 ∨ m = 31 ∨ m = 127 ∨ m = 511
theorem MaskG.old {m : Nat} (g : MaskG m) : MaskOk m ∨ m = 511 := by
  rcases g with g | g | g | g
  · exact .inl (.inl g)
  · exact .inl (.inr (.inl g))
  · exact .inl (.inr (.inr g))
  · exact .inr g
theorem MaskG.odd {m : Nat} (g : MaskG m) : m % 2 = 1 := by
  rcases g with g | g | g | g <;> rw [g]
theorem MaskG.turns {m : Nat} (g : MaskG m) : 10 * SetTable.turns m ≤ 6000 := by
  unfold SetTable.turns
  rcases g with g | g | g | g <;> rw [g] <;> decide
theorem MaskG.run {m : Nat} (g : MaskG m) (x : Int) {j : Nat} (hj : j ≤ m) : ∃ n, n ≤ m + 12 ∧ runI m (SetTable.bits x) n = j := by
  rcases g.old with o | rfl
  · exact run_meets o x hj
  · obtain ⟨c, hc, e⟩ := all5 (runI_le 511 (SetTable.bits x) 12) hj
    refine ⟨12 + c, by omega, ?_⟩
    rw [runI_tail (bits_lt x)]
    exact e
theorem MaskG.meet {m : Nat} (g : MaskG m) (x : Int) {j : Nat} (hj : j ≤ m) : ∃ c, c < 10 * SetTable.turns m ∧ way m x c = j := by
  obtain ⟨n, hn, e⟩ := g.run x hj
  obtain ⟨c, hc, e2⟩ := run_nth m (SetTable.bits x) n
  refine ⟨c, by unfold SetTable.turns; omega, ?_⟩
  unfold way
  rw [e2]
  exact e
theorem wayG_le (m : Nat) (x : Int) (c : Nat) : way m x c ≤ m := by
  have lt : SetTable.bits x % (m + 1) ≤ m := Nat.le_of_lt_succ (Nat.mod_lt _ (Nat.succ_pos _))
  have re := runEnd_bd lt
  have z := nth_in (m := m) c (runAt m (SetTable.bits x % (m + 1)) (SetTable.bits x)) (by simp only [runAt]; omega)
  unfold way
  omega
/-- a table whose slots are found again -/
structure TabG (t : SetTable) (hs : List Int) : Prop where
  ris : Ris t.place.toList
  dm : t.dummies = #[]
  sz : t.place.size = hs.length
  mok : MaskG t.mask
  bd : ∀ y ∈ t.place.toList, y ≤ t.mask
  reach : ∀ (i : Nat) (x : Int) (j : Nat), hs[i]? = some x → t.place.toList[i]? = some j → ∃ c, way t.mask x c = j ∧ ∀ d, d < c → way t.mask x d ∈ t.place.toList
theorem TabG.first {t : SetTable} {hs : List Int} (G : TabG t hs) (le : hs.length ≤ t.mask) (x : Int) : ∃ c, c < 10 * SetTable.turns t.mask ∧ way t.mask x c ∉ t.place.toList ∧ ∀ d, d < c → way t.mask x d ∈ t.place.toList := by
  have few : t.place.toList.length < t.mask + 1 := by rw [Array.length_toList, G.sz]; omega
  obtain ⟨j, hj, out⟩ := st_missing t.place.toList (t.mask + 1) few
  obtain ⟨c, hc, e⟩ := G.mok.meet x (Nat.le_of_lt_succ hj)
  obtain ⟨b, b1, b2, b3⟩ := st_least (p := fun d => way t.mask x d ∉ t.place.toList) c (by show way t.mask x c ∉ _; rw [e]; exact out)
  exact ⟨b, Nat.lt_of_le_of_lt b1 hc, b2, fun d hd => Classical.byContradiction fun z => b3 d hd z⟩
theorem TabG.before {t : SetTable} {hs : List Int} (G : TabG t hs) {x : Int} {c i j : Nat} (out : way t.mask x c ∉ t.place.toList) (hi : hs[i]? = some x) (hj : t.place.toList[i]? = some j) : ∃ d, d < c ∧ way t.mask x d = j := by
  obtain ⟨d, e, z⟩ := G.reach i x j hi hj
  refine ⟨d, Nat.lt_of_not_le fun le => ?_, e⟩
  rcases Nat.lt_or_eq_of_le le with lt | eq
  · exact out (z c lt)
  · rw [eq, e] at out
    exact out (List.mem_of_getElem? hj)
theorem TabG.put {t : SetTable} {hs : List Int} (G : TabG t hs) {x : Int} {c : Nat} (out : way t.mask x c ∉ t.place.toList) (full : ∀ d, d < c → way t.mask x d ∈ t.place.toList) :
    (t.put (way t.mask x c)).2 = SetTable.below t.place (way t.mask x c) ∧ SetTable.below t.place (way t.mask x c) ≤ hs.length ∧
    TabG (t.put (way t.mask x c)).1 (hs.take (SetTable.below t.place (way t.mask x c)) ++ x :: hs.drop (SetTable.below t.place (way t.mask x c))) ∧
    (t.put (way t.mask x c)).1.mask = t.mask ∧ (t.put (way t.mask x c)).1.led = t.led ∧ (t.put (way t.mask x c)).1.plain = t.plain ∧ (t.put (way t.mask x c)).1.fill = hs.length + 1 := by
  have top := wayG_le t.mask x c
  obtain ⟨j, hj⟩ : ∃ j, j = way t.mask x c := ⟨_, rfl⟩
  rw [← hj] at out top ⊢
  have cut := (below_cut G.ris j).1
  have cutH : SetTable.below t.place j ≤ hs.length := G.sz ▸ cut
  have cutP : SetTable.below t.place j ≤ t.place.toList.length := by rw [Array.length_toList]; exact cut
  have absent : t.place[SetTable.below t.place j]? ≠ some j := fun e => out (List.mem_of_getElem? (by rw [Array.getElem?_toList]; exact e))
  have now := put_place t j
  have grown : (t.put j).1.place.size = hs.length + 1 := by
    rw [← Array.length_toList, now, len_ins _ cutP, Array.length_toList, G.sz]
  have more : ∀ y, y ∈ t.place.toList → y ∈ (t.put j).1.place.toList := fun y hy => by rw [now]; exact mem_ins.2 (.inr hy)
  refine ⟨rfl, cutH, ⟨ris_insert G.ris absent, put_dm G.dm j, by rw [len_ins _ cutH]; exact grown, G.mok, fun y hy => ?_, fun i y k e1 e2 => ?_⟩, rfl, rfl, rfl, ?_⟩
  · rw [now] at hy
    rcases mem_ins.1 hy with rfl | z
    · exact top
    · exact G.bd y z
  · rw [tins_get hs cutH] at e1
    rw [now, tins_get _ cutP] at e2
    have old : ∀ i', hs[i']? = some y → t.place.toList[i']? = some k → ∃ d, way t.mask y d = k ∧ ∀ b, b < d → way t.mask y b ∈ (t.put j).1.place.toList := fun i' a1 a2 =>
      let ⟨d, f1, f2⟩ := G.reach i' y k a1 a2
      ⟨d, f1, fun b hb => more _ (f2 b hb)⟩
    by_cases lt : i < SetTable.below t.place j
    · rw [if_pos lt] at e1 e2
      exact old i e1 e2
    · rw [if_neg lt] at e1 e2
      by_cases eq : i = SetTable.below t.place j
      · rw [if_pos eq] at e1 e2
        cases e1
        cases e2
        exact ⟨c, hj.symm, fun b hb => more _ (full b hb)⟩
      · rw [if_neg eq] at e1 e2
        exact old (i - 1) e1 e2
  · show (t.put j).1.place.size + (t.put j).1.dummies.size = _
    rw [grown, put_dm G.dm j]
    rfl
/-! #### laid anew -/
theorem freeG {m : Nat} (g : MaskG m) (owner : Array (Option Nat)) (x : Int) {j : Nat} (hj : j ≤ m) (empty : oAt owner j = none) :
    ∃ c, SetTable.layClean.free m owner (SetTable.turns m) (SetTable.bits x % (m + 1)) (SetTable.bits x) = some (way m x c) ∧ oAt owner (way m x c) = none ∧ ∀ d, d < c → oAt owner (way m x d) ≠ none := by
  obtain ⟨n, hn, e⟩ := g.run x hj
  have there : way m x (off m (SetTable.bits x % (m + 1)) (SetTable.bits x) n) = j := by
    unfold way
    rw [nth_off, itL_run]
    exact e
  obtain ⟨c, c1, c2, c3⟩ := st_least (p := fun d => oAt owner (way m x d) = none) _ (by show oAt owner (way m x _) = none; rw [there]; exact empty)
  refine ⟨c, free_spec m owner (SetTable.turns m) n _ _ c (by unfold SetTable.turns; omega) c1 (fun d hd => ?_) (by rw [c2]; rfl), c2, c3⟩
  have z := c3 d hd
  cases y : oAt owner (way m x d) with
  | none => exact absurd y z
  | some _ => rfl
theorem ownG {m : Nat} (g : MaskG m) {done : List Int} {owner : Array (Option Nat)} (W : Own m done owner) (le : done.length ≤ m) (x : Int) :
    ∃ j, SetTable.layClean.free m owner (SetTable.turns m) (SetTable.bits x % (m + 1)) (SetTable.bits x) = some j ∧ Own m (done ++ [x]) (owner.setIfInBounds j (some done.length)) := by
  obtain ⟨ps, lps, all⟩ := W.ps
  obtain ⟨e0, he0, out⟩ := st_missing ps (m + 1) (by omega)
  have empty : oAt owner e0 = none := Classical.byContradiction fun z => out (all e0 (by omega) z)
  obtain ⟨c, f1, f2, f3⟩ := freeG g owner x (by omega : e0 ≤ m) empty
  have top := wayG_le m x c
  refine ⟨way m x c, f1, ?_⟩
  generalize hw : way m x c = j at f2 top
  have inn : j < owner.size := by rw [W.sz]; omega
  have me : oAt (owner.setIfInBounds j (some done.length)) j = some done.length := oAt_set_self _ inn
  have rest : ∀ i, i ≠ j → oAt (owner.setIfInBounds j (some done.length)) i = oAt owner i := fun i ne => oAt_set_ne _ ne
  have keep : ∀ i, oAt owner i ≠ none → oAt (owner.setIfInBounds j (some done.length)) i ≠ none := fun i hi => by
    by_cases eq : i = j
    · rw [eq, me]; exact Option.some_ne_none _
    · rw [rest i eq]; exact hi
  refine ⟨by rw [Array.size_setIfInBounds, W.sz], fun i k hi e => ?_, fun k hk => ?_, ⟨j :: ps, by simp [lps], fun i hi e => ?_⟩⟩
  · by_cases eq : i = j
    · rw [eq, me] at e
      cases e
      exact ⟨x, c, by simp, hw.trans eq.symm, fun d hd => keep _ (f3 d hd)⟩
    · rw [rest i eq] at e
      obtain ⟨y, d, a1, a2, a3⟩ := W.at_ i k hi e
      exact ⟨y, d, by rw [List.getElem?_append_left (List.getElem?_eq_some_iff.mp a1).1]; exact a1, a2, fun b hb => keep _ (a3 b hb)⟩
  · by_cases lt : k < done.length
    · obtain ⟨i, hi, e⟩ := W.all k lt
      refine ⟨i, hi, ?_⟩
      rw [rest i fun z => by rw [z, f2] at e; cases e]
      exact e
    · have : k = done.length := by simp at hk; omega
      exact ⟨j, top, by rw [this]; exact me⟩
  · by_cases eq : i = j
    · rw [eq]; exact List.mem_cons_self
    · rw [rest i eq] at e
      exact List.mem_cons_of_mem _ (all i hi e)
theorem foldG {m : Nat} (g : MaskG m) : ∀ (xs done : List Int) (owner : Array (Option Nat)), Own m done owner → done.length + xs.length ≤ m →
    ∃ o2, xs.foldl (stepF m) (some (owner, done.length)) = some (o2, (done ++ xs).length) ∧ Own m (done ++ xs) o2
  | [], done, owner, W, _ => ⟨owner, by simp, by simpa using W⟩
  | x :: xs, done, owner, W, le => by
    have le' : done.length + (xs.length + 1) ≤ m := by simpa using le
    obtain ⟨j, e, W1⟩ := ownG g W (by omega) x
    obtain ⟨o2, f, W2⟩ := foldG g xs (done ++ [x]) _ W1 (by simp; omega)
    refine ⟨o2, ?_, by simpa using W2⟩
    rw [List.foldl_cons, stepF_some e]
    simpa using f
theorem relaidG (t : SetTable) {hs : Array Int} {want M : Nat} (hw : SetTable.sizeAbove want - 1 = M) (g : MaskG M) (le : hs.size ≤ M) :
    ∃ t2 order, t.relaid hs want = some (t2, order) ∧ order.toList.Perm (List.range hs.size) ∧ TabG t2 (order.toList.map fun i => hs.getD i 0) ∧ t2.mask = M ∧ t2.led = t.led ∧ t2.plain = t.plain := by
  obtain ⟨owner, f, W⟩ := foldG g hs.toList [] _ (Own.init M) (by simpa using le)
  rw [List.nil_append] at W
  have lc : SetTable.layClean M hs = some owner := by
    rw [layClean_eq]
    have f2 : hs.toList.foldl (stepF M) (some (Array.replicate (M + 1) none, 0)) = some (owner, ([] ++ hs.toList).length) := f
    rw [f2]
    rfl
  have made : t.relaid hs want = some (tabOf t M owner, ((liveOf M owner).map (·.2)).toArray) := by
    rw [relaid_eq, hw, lc]
    rfl
  have asc := ris_live (fun j => owner.getD j none) (List.range (M + 1)) (by unfold Ris; exact List.pairwise_lt_range)
  have a1 : Ris ((liveOf M owner).map (·.1)) := asc.1
  have a2 : ∀ y ∈ (liveOf M owner).map (·.1), y ∈ List.range (M + 1) := asc.2
  have nd : ((liveOf M owner).map (·.1)).Nodup := a1.imp fun z => Nat.ne_of_lt z
  have has : ∀ k, k < hs.size → k ∈ (liveOf M owner).map (·.2) := fun k hk => by
    obtain ⟨j, b1, b2⟩ := W.all k (by simpa using hk)
    exact List.mem_map.mpr ⟨(j, k), (mem_live W.sz).2 ⟨b1, b2⟩, rfl⟩
  have len : (liveOf M owner).length = hs.size := by
    obtain ⟨ps, p1, p2⟩ := W.ps
    have u := nat_nodup_len ((liveOf M owner).map (·.1)) ps nd fun y hy => by
      obtain ⟨⟨j, k⟩, hq, rfl⟩ := List.mem_map.mp hy
      obtain ⟨b1, b2⟩ := (mem_live W.sz).1 hq
      exact p2 j b1 (by rw [b2]; exact Option.some_ne_none _)
    have v := nat_nodup_len (List.range hs.size) ((liveOf M owner).map (·.2)) List.nodup_range fun k hk => has k (List.mem_range.mp hk)
    simp at u v p1
    omega
  refine ⟨tabOf t M owner, ((liveOf M owner).map (·.2)).toArray, made, perm_range hs.size _ (by simp [len]) has, ⟨a1, rfl, ?_, g, fun y hy => ?_, fun i x j e1 e2 => ?_⟩, rfl, rfl, rfl⟩
  · simp [tabOf]
  · exact Nat.le_of_lt_succ (List.mem_range.mp (a2 y hy))
  · have e1' : (((liveOf M owner).map (·.2)).map fun i => hs.getD i 0)[i]? = some x := e1
    have e2' : ((liveOf M owner).map (·.1))[i]? = some j := e2
    simp only [List.getElem?_map] at e1' e2'
    cases hq : (liveOf M owner)[i]? with
    | none => rw [hq] at e2'; cases e2'
    | some q =>
      obtain ⟨j', k⟩ := q
      rw [hq] at e1' e2'
      simp only [Option.map_some, Option.some.injEq] at e1' e2'
      subst e1' e2'
      obtain ⟨b1, b2⟩ := (mem_live W.sz).1 (List.mem_of_getElem? hq)
      obtain ⟨y, c, d1, d2, d3⟩ := W.at_ j' k b1 b2
      have ey : hs.getD k 0 = y := by
        rw [Array.getElem?_toList] at d1
        rw [Array.getD_eq_getD_getElem?, d1]
        rfl
      rw [ey]
      refine ⟨c, d2, fun d hd => ?_⟩
      cases o : oAt owner (way M y d) with
      | none => exact absurd o (d3 d hd)
      | some k2 => exact List.mem_map.mpr ⟨(way M y d, k2), (mem_live W.sz).2 ⟨wayG_le M y d, o⟩, rfl⟩
end Ef

end

section
set_option autoImplicit false
namespace Ef
open PySem L2 PySem.Spec PyProof.Rows
/-! ### what a set asks of nested tuples -/
mutual
/-- no texts in it -/
def noTx : NestedKey → Bool
  | .text _ => false
  | .tup ks => noTxs ks
  | _ => true
def noTxs : List NestedKey → Bool
  | [] => true
  | k :: ks => noTx k && noTxs ks
end
mutual
theorem noTx_nk : ∀ d : PyData, noTx (nk d) = true
  | .tuple xs => by simp only [nk, noTx]; exact noTx_nks xs
  | .none => rfl
  | .bool _ => rfl
  | .int _ => rfl
  | .str _ => rfl
  | .list _ => rfl
  | .dict _ => rfl
theorem noTx_nks : ∀ ds : List PyData, noTxs (nks ds) = true
  | [] => rfl
  | d :: ds => by simp only [nks, noTxs, noTx_nk d, noTx_nks ds, Bool.and_self]
end
section
variable {P : Program} {w : World} {A : Around} {E : Value → Shared → Prop} {s : Shared}
theorem nest_mem {h : Heap} : ∀ {ks : List NestedKey} {vs : List Value} {n : Nat}, NestedAll h ks vs → NestedKey.depthAll ks ≤ n → noTxs ks = true → ∀ v ∈ vs, ∃ k, NestedIs h k v ∧ k.depth ≤ n ∧ noTx k = true
  | _, _, n, .nil, _, _, v, hv => by cases hv
  | k :: ks, _, n, .cons x r, hd, ht, v, hv => by
    simp only [NestedKey.depthAll] at hd
    simp only [noTxs, Bool.and_eq_true] at ht
    rcases List.mem_cons.mp hv with rfl | hv
    · exact ⟨k, x, Nat.le_trans (Nat.le_max_left _ _) hd, ht.1⟩
    · exact nest_mem r (Nat.le_trans (Nat.le_max_right _ _) hd) ht.2 v hv
theorem cls_N : ∀ (n : Nat) (k : NestedKey) (v : Value) (Q : Bool → Shared → Prop), NestedIs s.heap k v → k.depth ≤ n → noTx k = true → Q false s → wpAny (model P w) A (ofAClassStatement n v) Q E s := by
  intro n
  induction n with
  | zero =>
    intro k v Q x hd ht q
    cases x with
    | none => exact wpAny_pure q
    | int i t => exact wpAny_pure q
    | bool e => exact wpAny_pure q
    | text y t => simp [noTx] at ht
    | tup e c dd all => simp [NestedKey.depth] at hd
  | succ n ih =>
    intro k v Q x hd ht q
    cases x with
    | none => exact wpAny_pure q
    | int i t => exact wpAny_pure q
    | bool e => exact wpAny_pure q
    | text y t => simp [noTx] at ht
    | @tup b ob its m ks e c dd all =>
      have hd2 : NestedKey.depthAll ks ≤ n := by simp only [NestedKey.depth] at hd; omega
      unfold ofAClassStatement
      refine wpAny_bind (wpAny_typeOf (T := "tuple") ⟨ob, e, c⟩ ?_)
      dsimp only
      have tt : (("tuple" : String) == "tuple") = true := by decide
      simp only [tt, if_true, Bool.not_true, Bool.false_eq_true, if_false]
      try refine wpAny_bind (wpAny_pure ?_)
      try simp only [Bool.not_true, Bool.false_eq_true, if_false]
      show wpAny _ A (seqItems? (.ref b) >>= _) _ _ s
      refine wpAny_bind (wpAny_seqItems e dd ?_)
      dsimp only
      refine wpAny_bind ?_
      show wpAny _ A (forIn its _ _) _ _ s
      rw [← Array.forIn_toList]
      refine wpAny_forIn_list _ (fun more r t => r.1 = none ∧ t = s ∧ ∀ y ∈ more, y ∈ its.toList) _ ?_ ?_ _ _ ⟨rfl, rfl, fun y hy => hy⟩
      · rintro y more r t ⟨hr, rfl, hm⟩
        obtain ⟨ky, xy, dy, ty⟩ := nest_mem all hd2 (by simpa [noTx] using ht) y (hm y List.mem_cons_self)
        refine wpAny_bind (ih ky y _ xy dy ty ?_)
        simp only [Bool.false_eq_true, if_false]
        exact wpAny_pure ⟨rfl, rfl, fun z hz => hm z (List.mem_cons_of_mem _ hz)⟩
      · rintro ⟨r1, r2⟩ t ⟨hr, rfl, _⟩
        obtain rfl : r1 = none := hr
        exact wpAny_pure q
theorem byval_N : ∀ (n : Nat) (k : NestedKey) (v : Value) (Q : Bool → Shared → Prop), NestedIs s.heap k v → k.depth ≤ n → noTx k = true → Q true s → wpAny (model P w) A (hashByValue n v) Q E s := by
  intro n
  induction n with
  | zero =>
    intro k v Q x hd ht q
    cases x with
    | none => exact wpAny_pure q
    | int i t => exact wpAny_pure q
    | bool e => exact wpAny_pure q
    | text y t => simp [noTx] at ht
    | tup e c dd all => simp [NestedKey.depth] at hd
  | succ n ih =>
    intro k v Q x hd ht q
    cases x with
    | none => exact wpAny_pure q
    | int i t => exact wpAny_pure q
    | bool e => exact wpAny_pure q
    | text y t => simp [noTx] at ht
    | @tup b ob its m ks e c dd all =>
      have hd2 : NestedKey.depthAll ks ≤ n := by simp only [NestedKey.depth] at hd; omega
      unfold hashByValue
      refine wpAny_bind (wpAny_specialOf (T := "tuple") ⟨ob, e, c⟩ F.slot_tuple_hash.lookup ?_)
      show wpAny _ A (seqItems? (.ref b) >>= _) _ _ s
      refine wpAny_bind (wpAny_seqItems e dd (wpAny_bind ?_))
      show wpAny _ A (forIn its _ _) _ _ s
      rw [← Array.forIn_toList]
      refine wpAny_forIn_list _ (fun more r t => r.1 = none ∧ t = s ∧ ∀ y ∈ more, y ∈ its.toList) _ ?_ ?_ _ _ ⟨rfl, rfl, fun y hy => hy⟩
      · rintro y more r t ⟨hr, rfl, hm⟩
        obtain ⟨ky, xy, dy, ty⟩ := nest_mem all hd2 (by simpa [noTx] using ht) y (hm y List.mem_cons_self)
        refine wpAny_bind (ih ky y _ xy dy ty ?_)
        simp only [Bool.not_true, Bool.false_eq_true, if_false]
        exact wpAny_pure ⟨rfl, rfl, fun z hz => hm z (List.mem_cons_of_mem _ hz)⟩
      · rintro ⟨r1, r2⟩ t ⟨hr, rfl, _⟩
        obtain rfl : r1 = none := hr
        exact wpAny_pure q
def isNk (P : Program) (w : World) (h : Heap) (k : NestedKey) (x : Addr) : Prop := (nestedKind P w).is h k x ∧ noTx k = true
theorem seen_N {k : NestedKey} {x : Addr} {ys : List Value} {Q : Bool → Shared → Prop} (i : isNk P w s.heap k x) (hy : ∀ y ∈ ys, ∃ j c, y = Value.ref c ∧ isNk P w s.heap j c) (q : Q false s) : wpAny (model P w) A (searchCouldBeSeen (.ref x) ys) Q E s := by
  unfold searchCouldBeSeen
  refine wpAny_bind (wpAny_forIn_list _ (fun more r t => r.1 = none ∧ t = s ∧ ∀ y ∈ more, y ∈ ys) _ ?_ ?_ _ _ ⟨rfl, rfl, fun y z => z⟩)
  · rintro y more r t ⟨hr, rfl, hm⟩
    obtain ⟨j, c, rfl, ic⟩ := hy y (hm y List.mem_cons_self)
    have up : ∀ z ∈ more, z ∈ ys := fun z hz => hm z (List.mem_cons_of_mem _ hz)
    dsimp only
    by_cases hv : (x == c || (carriedByValue (.ref x) && carriedByValue (.ref c))) = true
    · rw [if_pos hv]
      exact wpAny_pure ⟨rfl, rfl, up⟩
    · rw [if_neg hv]
      refine wpAny_bind ((nestedKind P w).quiet i.1 ?_)
      simp only [Bool.not_true, Bool.false_eq_true, if_false]
      refine wpAny_bind ((nestedKind P w).quiet ic.1 ?_)
      simp only [Bool.not_true, Bool.false_eq_true, if_false]
      refine wpAny_bind (cls_N 8 k _ _ i.1.1 i.1.2 i.2 ?_)
      simp only [Bool.false_eq_true, if_false]
      refine wpAny_bind (cls_N 8 j _ _ ic.1.1 ic.1.2 ic.2 ?_)
      simp only [Bool.false_eq_true, if_false]
      exact wpAny_pure ⟨rfl, rfl, up⟩
  · rintro ⟨r1, r2⟩ t ⟨hr, rfl, _⟩
    obtain rfl : r1 = none := hr
    exact wpAny_pure q
end
end Ef

end

section
set_option autoImplicit false
namespace Ef
open PySem L2 PySem.Spec PyProof.Rows
/-! ### sets of nested tuples -/
section
variable {P : Program} {w : World} {A : Around} {E : Value → Shared → Prop} {s : Shared}
abbrev Mem := List (Addr × NestedKey)
abbrev hsh (w : World) (k : NestedKey) : Int := k.hash w
def rowsN (w : World) (L : Mem) : List (Int × Value) := L.map fun p => (hsh w p.2, Value.ref p.1)
/-- the set at a: what it has, and how its table stands -/
structure SetN (P : Program) (w : World) (h : Heap) (a : Addr) (L : Mem) (es : Array (Int × Value)) (ep : Nat) (t : SetTable) : Prop where
  obj : ∃ o, h.get? a = some o ∧ o.ExactSet ∧ o.data = .set es ep t
  rows : es.toList = rowsN w L
  tab : TabG t (L.map fun p => hsh w p.2)
  nd : (L.map (·.2)).Nodup
  are : ∀ p ∈ L, isNk P w h p.2 p.1
  plain : t.plain = true
  led : w.params.followText "set-order" = true ∨ t.led = true
  room : L.length * 5 < t.mask * 3
  few : L.length < 300
/-- the c-th stand of a search -/
def stp (m : Nat) (h : Int) (c : Nat) : SetTable.Probe := nth m (runAt m (SetTable.bits h % (m + 1)) (SetTable.bits h)) c
theorem stp_add (m : Nat) (h : Int) (c q : Nat) : nth m (stp m h c) q = stp m h (c + q) := (nth_add m c _ q).symm
theorem stp_j (m : Nat) (h : Int) (c q : Nat) : (nth m (stp m h c) q).j = way m h (c + q) := by rw [stp_add]; rfl
theorem nth_none (m : Nat) : ∀ (n : Nat) (p : SetTable.Probe), p.dummy = none → (nth m p n).dummy = none
  | 0, _, e => e
  | n + 1, p, e => nth_none m n (adv m p) (by unfold adv; split <;> exact e)
theorem stp_none (m : Nat) (h : Int) (c : Nat) : (stp m h c).dummy = none := nth_none m c _ rfl
variable {a : Addr} {L : Mem} {es : Array (Int × Value)} {ep : Nat} {t : SetTable}
theorem rowsN_len {L : Mem} {es : Array (Int × Value)} (e : es.toList = rowsN w L) : es.size = L.length := by
  have := congrArg List.length e
  simpa [rowsN] using this
theorem tab_fits {hs : List Int} (T : TabG t hs) {n : Nat} (hn : hs.length = n) (hr : n * 5 < t.mask * 3) : t.fits n = true := by
  have h1 := T.sz
  unfold SetTable.fits SetTable.fill
  rw [T.dm, Bool.and_eq_true, beq_iff_eq, decide_eq_true_eq]
  show t.place.size = n ∧ t.place.size + 0 ≤ t.mask
  omega
theorem SetN.fits (R : SetN P w s.heap a L es ep t) : t.fits es.size = true := by
  rw [rowsN_len R.rows]
  exact tab_fits R.tab (by simp) R.room
theorem SetN.row (R : SetN P w s.heap a L es ep t) {i : Nat} {p : Addr × NestedKey} (e : L[i]? = some p) : es[i]? = some (hsh w p.2, Value.ref p.1) := by
  rw [← Array.getElem?_toList, R.rows, rowsN, List.getElem?_map, e]
  rfl
theorem SetN.stays (R : SetN P w s.heap a L es ep t) : ¬ t.gaveWay = true := by
  simp [SetTable.gaveWay, R.tab.mok.odd]
theorem one_mem (t : SetTable) : t.sameMemory t.moves t.mask = some true := if_pos (beq_self_eq_true _)
theorem SetN.at_place (R : SetN P w s.heap a L es ep t) {i j : Nat} (e : t.place.toList[i]? = some j) : ∃ p, L[i]? = some p ∧ p ∈ L := by
  have h1 := (List.getElem?_eq_some_iff.mp e).1
  have h2 := R.tab.sz
  rw [List.length_map] at h2
  rw [Array.length_toList] at h1
  have h3 : i < L.length := by omega
  exact ⟨L[i], List.getElem?_eq_getElem h3, List.getElem_mem h3⟩
/-- a search, from its c-th step on -/
theorem seek (hu : A.units + 8 < cLine) (R : SetN P w s.heap a L es ep t) {x : Addr} {k : NestedKey} (ix : isNk P w s.heap k x) {K : Nat} (fu : K < 10 * SetTable.turns t.mask) (free : way t.mask (hsh w k) K ∉ t.place.toList) (full : ∀ c, c < K → way t.mask (hsh w k) c ∈ t.place.toList) {Q : SetFound → Shared → Prop}
    (yes : k ∈ L.map (·.2) → Q (.there none) s) (no : k ∉ L.map (·.2) → Q (.free (way t.mask (hsh w k) K) false) s) :
    ∀ (f c : Nat) (stand : Option SetTable.Probe), K < f + c → c ≤ K → stand.getD (t.probeStart (hsh w k)) = stp t.mask (hsh w k) c → (∀ (i : Nat) (p : Addr × NestedKey), L[i]? = some p → p.2 = k → ∃ d, c ≤ d ∧ d < K ∧ t.place.toList[i]? = some (way t.mask (hsh w k) d)) →
      wpAny (model P w) A (setSearchFrom a (.ref x) (hsh w k) true f stand) Q E s := by
  intro f
  induction f with
  | zero => intro c stand h1 h2; omega
  | succ f ih =>
    intro c stand h1 h2 hst ahead
    obtain ⟨ob, g1, g2, g3⟩ := R.obj
    rw [setSearchFrom_succ]
    refine wpAny_bind (wpAny_setState_of g1 g3 R.fits ?_)
    dsimp only
    refine wp_if_neg R.stays ?_
    try refine wpAny_bind (wpAny_pure ?_)
    have same : ∀ (i : Nat) (p : Addr × NestedKey), L[i]? = some p → (es[i]?.map (·.1)).getD 0 = hsh w p.2 := fun i p e => by rw [R.row e]; rfl
    have eK : c + (K - c) = K := by omega
    have sp := go_spec t R.tab.ris R.tab.dm (fun i => (es[i]?.map (·.1)).getD 0) (hsh w k) (10 * SetTable.turns t.mask) (K - c) (stp t.mask (hsh w k) c) (stp_none _ _ _) (by omega)
      (fun q hq => by rw [stp_j]; exact full _ (by omega)) (by rw [stp_j, eK]; exact free)
    have met : ∀ z, SetTable.probe.go t (fun i => (es[i]?.map (·.1)).getD 0) (hsh w k) (10 * SetTable.turns t.mask) (stp t.mask (hsh w k) c) = some z → t.probe (fun i => (es[i]?.map (·.1)).getD 0) (hsh w k) (stand.getD (t.probeStart (hsh w k))) = some z := fun z e => by rw [hst]; exact e
    rcases sp with ⟨q, i, hq, hi, hh, hno, hgo⟩ | ⟨hno, hgo⟩
    · rw [met _ hgo]
      dsimp only
      rw [stp_j] at hi ⊢
      obtain ⟨p, hp, hpm⟩ := R.at_place hi
      have tail : wpAny (model P w) A (searchRest a (.ref x) (hsh w k) true f es t (way t.mask (hsh w k) (c + q)) i (nth t.mask (stp t.mask (hsh w k) c) (q + 1))) Q E s := by
        unfold searchRest
        rw [R.row hp]
        dsimp only
        refine wpAny_bind (wpAny_holding ((nestedKind P w).eqBool hu (R.are p hpm).1 ix.1 ?_))
        refine wpAny_bind (wpAny_setState_of g1 g3 R.fits ?_)
        dsimp only
        by_cases hk : p.2 = k
        · refine wp_if_pos (by simp [hk]) (wpAny_pure (yes ?_))
          exact List.mem_map.mpr ⟨p, hpm, hk⟩
        · refine wp_if_neg (by simp [hk]) ?_
          try refine wpAny_bind (wpAny_pure ?_)
          have live : t.slot (way t.mask (hsh w k) (c + q)) = .live i := slot_live R.tab.ris hi
          rw [one_mem]
          dsimp only
          simp only [if_true, live, R.row hp]
          refine wpAny_bind (wpAny_isSame_ref_self (wpAny_bind (wpAny_pure ?_)))
          simp only [if_true]
          refine wp_if_neg (by simp [hk]) ?_
          refine ih (c + (q + 1)) _ (by omega) (by omega) (stp_add _ _ _ _) fun i0 p0 e0 k0 => ?_
          obtain ⟨d, d1, d2, d3⟩ := ahead i0 p0 e0 k0
          have hd0 : (es[i0]?.map (·.1)).getD 0 = hsh w k := by rw [same _ _ e0, k0]
          refine ⟨d, ?_, d2, d3⟩
          by_cases c1 : d < c + q
          · exact absurd hd0 (hno (d - c) i0 (by omega) (by rw [stp_j, show c + (d - c) = d by omega]; exact d3))
          · by_cases c2 : d = c + q
            · subst c2
              have live2 := slot_live R.tab.ris d3
              rw [live] at live2
              cases live2
              rw [hp] at e0
              cases e0
              exact absurd k0 hk
            · omega
      by_cases hl : t.led = true
      · refine wp_if_neg (by simp [hl]) ?_
        try refine wpAny_bind (wpAny_pure ?_)
        exact tail
      · refine wp_if_pos (by simp [hl]) (wpAny_bind (seen_N ix (fun y hy => ?_) ?_))
        · obtain ⟨e, he, rfl⟩ := List.mem_map.mp hy
          have he2 : e ∈ es.toList := by
            have : e ∈ es ∧ e.1 = hsh w k := by simpa using he
            simpa using this.1
          rw [R.rows] at he2
          obtain ⟨p2, m2, rfl⟩ := List.mem_map.mp he2
          exact ⟨p2.2, p2.1, rfl, R.are p2 m2⟩
        · refine wp_if_neg (by decide) ?_
          try refine wpAny_bind (wpAny_pure ?_)
          exact tail
    · rw [met _ hgo]
      dsimp only
      rw [stp_j, eK]
      refine wpAny_pure (no fun hm => ?_)
      obtain ⟨p0, m0, k0⟩ := List.mem_map.mp hm
      obtain ⟨i0, b0, e0⟩ := List.getElem_of_mem m0
      have e1 : L[i0]? = some p0 := by rw [List.getElem?_eq_getElem b0, e0]
      obtain ⟨d, d1, d2, d3⟩ := ahead i0 p0 e1 k0
      refine hno (d - c) i0 (by omega) (by rw [stp_j, show c + (d - c) = d by omega]; exact d3) ?_
      show (es[i0]?.map (·.1)).getD 0 = hsh w k
      rw [same _ _ e1, k0]
theorem seek_add (hu : A.units + 8 < cLine) (R : SetN P w s.heap a L es ep t) {x : Addr} {k : NestedKey} (ix : isNk P w s.heap k x) {Q : SetFound → Shared → Prop} (yes : k ∈ L.map (·.2) → Q (.there none) s)
    (no : ∀ K, k ∉ L.map (·.2) → way t.mask (hsh w k) K ∉ t.place.toList → (∀ c, c < K → way t.mask (hsh w k) c ∈ t.place.toList) → Q (.free (way t.mask (hsh w k) K) false) s) : wpAny (model P w) A (setSearch a (.ref x) (hsh w k) true) Q E s := by
  have rm := R.room
  obtain ⟨K, fu, free, full⟩ := R.tab.first (by rw [List.length_map]; omega) (hsh w k)
  have small : 10 * SetTable.turns t.mask ≤ 6000 := R.tab.mok.turns
  unfold setSearch
  refine seek hu R ix fu free full yes (fun n => no K n free full) 100000 0 none (by omega) (Nat.zero_le _) rfl fun i p e hk => ?_
  have e2 : (L.map fun p => hsh w p.2)[i]? = some (hsh w k) := by rw [List.getElem?_map, e, ← hk]; rfl
  have e3 : i < t.place.toList.length := by
    have b1 := (List.getElem?_eq_some_iff.mp e).1
    have b2 := R.tab.sz
    rw [List.length_map] at b2
    rw [Array.length_toList]
    omega
  obtain ⟨d, d1, d2⟩ := R.tab.before free e2 (List.getElem?_eq_getElem e3)
  exact ⟨d, Nat.zero_le _, d1, by rw [List.getElem?_eq_getElem e3, d2]⟩
end
end Ef

end

section
set_option autoImplicit false
namespace Ef
open PySem L2 PySem.Spec PyProof.Rows
section
variable {P : Program} {w : World} {A : Around} {E : Value → Shared → Prop} {s : Shared}
theorem isNk_keep {h h' : Heap} {k : NestedKey} {x : Addr} (i : isNk P w h k x) (kp : ∀ b o, h.get? b = some o → h'.get? b = some o) : isNk P w h' k x :=
  ⟨⟨NestedIs.at (fun b ob vs n hb _ => kp b ob hb) k _ i.1.1, i.1.2⟩, i.2⟩
theorem isNk_same {h h' : Heap} {k : NestedKey} {x a : Addr} {o : Obj} {es : Array (Int × Value)} {ep : Nat} {t : SetTable} (i : isNk P w h k x) (g1 : h.get? a = some o) (g2 : o.data = .set es ep t) (sb : Heap.SameBut a h h') : isNk P w h' k x :=
  ⟨⟨NestedIs.at (fun b ob vs n hb hc => by
    refine (sb.2 b fun z => ?_).trans hb
    subst z
    rw [g1] at hb
    cases hb
    rw [g2] at hc
    cases hc) k _ i.1.1, i.1.2⟩, i.2⟩
theorem fmap_some {α β : Type} {f : α → Option β} {g : α → β} : ∀ {l : List α}, (∀ x ∈ l, f x = some (g x)) → l.filterMap f = l.map g
  | [], _ => rfl
  | x :: l, h => by
    rw [List.filterMap_cons_some (h x List.mem_cons_self), fmap_some fun y hy => h y (List.mem_cons_of_mem _ hy)]
    rfl
theorem range_get {α : Type} (l : List α) (d : α) : (List.range l.length).map (fun i => l.getD i d) = l := by
  apply List.ext_getElem
  · simp
  · intro i h1 h2
    simp [List.getD, h2]
theorem order_N (L : Mem) (es : Array (Int × Value)) (order : Array Nat) (e : es.toList = rowsN w L) (hp : order.toList.Perm (List.range L.length)) :
    ∃ L2 : Mem, (order.filterMap (es[·]?)).toList = rowsN w L2 ∧ L2.Perm L ∧ (L2.map fun p => hsh w p.2) = order.toList.map fun i => (es.map (·.1)).getD i 0 := by
  have lt : ∀ i ∈ order.toList, i < L.length := fun i hi => List.mem_range.mp (hp.mem_iff.mp hi)
  have row : ∀ i ∈ order.toList, es[i]? = some (hsh w (L.getD i (0, .none)).2, Value.ref (L.getD i (0, .none)).1) := fun i hi => by
    rw [← Array.getElem?_toList, e, rowsN, List.getElem?_map, List.getElem?_eq_getElem (lt i hi)]
    simp [List.getD, lt i hi]
  refine ⟨order.toList.map fun i => L.getD i (0, .none), ?_, ?_, ?_⟩
  · rw [Array.toList_filterMap, fmap_some row, rowsN, List.map_map]
    rfl
  · have := hp.map fun i => L.getD i (0, .none)
    rwa [range_get] at this
  · rw [List.map_map]
    refine List.map_congr_left fun i hi => ?_
    have r := row i hi
    have : (es.map (·.1))[i]? = some (hsh w (L.getD i (0, .none)).2) := by rw [Array.getElem?_map, r]; rfl
    simp only [Function.comp_apply, Array.getD_eq_getD_getElem?, this, Option.getD_some]
variable {a : Addr} {L : Mem} {es : Array (Int × Value)} {ep : Nat} {t : SetTable}
/-- the table is laid anew -/
theorem relay_N {o : Obj} (g1 : s.heap.get? a = some o) (gx : o.ExactSet) (g2 : o.data = .set es ep t) (rows : es.toList = rowsN w L) (sz : t.place.size = es.size) (dm : t.dummies = #[]) (fl : es.size ≤ t.mask) (nd : (L.map (·.2)).Nodup) (are : ∀ p ∈ L, isNk P w s.heap p.2 p.1) (pl : t.plain = true) (ld : w.params.followText "set-order" = true ∨ t.led = true) (few : L.length < 300)
    {want M : Nat} (hw : SetTable.sizeAbove want - 1 = M) (hM : MaskG M) (rm : L.length * 5 < M * 3) {Q : Unit → Shared → Prop} (q : ∀ h' L' es' ep' t', Heap.SameBut a s.heap h' → SetN P w h' a L' es' ep' t' → L'.Perm L → Q () { s with heap := h' }) : wpAny (model P w) A (setRelay a want) Q E s := by
  have n1 := rowsN_len rows
  have mz : M ≤ 511 := by rcases hM with z | z | z | z <;> omega
  have fits : t.fits es.size = true := by
    unfold SetTable.fits SetTable.fill
    rw [dm, Bool.and_eq_true, beq_iff_eq, decide_eq_true_eq]
    show t.place.size = es.size ∧ t.place.size + 0 ≤ t.mask
    omega
  obtain ⟨t2, order, e, pm, T, em, el, epl⟩ := relaidG t (hs := es.map (·.1)) (want := want) hw hM (by rw [Array.size_map, n1]; omega)
  rw [Array.size_map, n1] at pm
  obtain ⟨L2, r1, r2, r3⟩ := order_N L es order rows pm
  rw [← r3] at T
  have n2 : (order.filterMap (es[·]?)).size = es.size := by rw [rowsN_len r1, r2.length_eq, n1]
  rw [setRelay_eq]
  refine wpAny_bind (wpAny_setState_of g1 g2 fits ?_)
  dsimp only
  refine wp_if_neg (by rw [sizeLine_eq]; omega) ?_
  try refine wpAny_bind (wpAny_pure ?_)
  rw [e]
  dsimp only
  refine wpAny_bind (wp_if_neg (by rw [n2]; simp) ?_)
  try refine wpAny_bind (wpAny_pure ?_)
  refine wpAny_pure ?_
  dsimp only
  have sb : Heap.SameBut a s.heap (s.heap.update a (Obj.putSet (order.filterMap (es[·]?)) t2)) := Heap.SameBut.update ..
  refine wpAny_storeSet_of g1 g2 (q _ L2 _ (ep + 1) t2 sb ⟨⟨_, store_at g1 g2, ⟨gx.1, gx.2.1, gx.2.2⟩, rfl⟩, r1, T, (r2.map (·.2)).nodup_iff.mpr nd, fun p m => isNk_same (are p (r2.mem_iff.mp m)) g1 g2 sb, epl.trans pl, by rw [el]; exact ld, by rw [r2.length_eq, em]; exact rm, by rw [r2.length_eq]; exact few⟩ r2) (by rw [n2, n1, sizeLine_eq]; omega)
theorem size_77 : SetTable.sizeAbove (SetTable.grown 77) = 512 := by decide +kernel
theorem mid_perm {α : Type} (l : List α) (p : Nat) (x : α) : (l.take p ++ x :: l.drop p).Perm (x :: l) := by
  have := List.perm_middle (a := x) (l₁ := l.take p) (l₂ := l.drop p)
  rwa [List.take_append_drop] at this
/-- one more, or the same -/
theorem add_N (hu : A.units + 8 < cLine) (R : SetN P w s.heap a L es ep t) {x : Addr} {k : NestedKey} (ix : isNk P w s.heap k x) (few : L.length + 1 < 300) {Q : Bool → Shared → Prop}
    (q : ∀ b h' L' es' ep' t', Heap.SameBut a s.heap h' → SetN P w h' a L' es' ep' t' → (k ∈ L.map (·.2) → L' = L) → (k ∉ L.map (·.2) → L'.Perm ((x, k) :: L)) → Q b { s with heap := h' }) : wpAny (model P w) A (setAddHashed a (.ref x) (hsh w k)) Q E s := by
  obtain ⟨o, g1, gx, g2⟩ := R.obj
  have n1 := rowsN_len R.rows
  have rm := R.room
  unfold setAddHashed
  refine wpAny_holding ?_
  rw [show (100000 : Nat) = 99999 + 1 from rfl, setAddHashedIn_succ]
  refine wpAny_bind (wpAny_setState_of g1 g2 R.fits ?_)
  dsimp only
  refine wp_if_neg (by simp [byScan, Value.scannable]) ?_
  try refine wpAny_bind (wpAny_pure ?_)
  refine wpAny_bind (seek_add hu R ix (fun m => wpAny_pure (q false s.heap L es ep t (Heap.SameBut.refl a s.heap) R (fun _ => rfl) fun z => absurd m z)) fun K nm free full => ?_)
  dsimp only
  refine wpAny_bind (wpAny_setState_of g1 g2 R.fits ?_)
  dsimp only
  obtain ⟨c1, c2, c3, c4, c5, c6, c9⟩ := R.tab.put free full
  have pl : (t.put (way t.mask (hsh w k) K)).1.plain = true := c6.trans R.plain
  generalize t.put (way t.mask (hsh w k) K) = both at c1 c3 c4 c5 c6 c9 pl ⊢
  obtain ⟨t1, at_⟩ := both
  dsimp only at c1 c3 c4 c5 c6 c9 pl ⊢
  subst c1
  have bv : ∀ (Q' : Bool → Shared → Prop), Q' true s → wpAny (model P w) A (hashByValue 8 (.ref x)) Q' E s := fun Q' z => byval_N 8 k _ _ ix.1.1 ix.1.2 ix.2 z
  first
    | (refine wpAny_bind (wp_if_pos pl (bv _ ?_)))
    | (refine wp_if_pos pl (wpAny_bind (bv _ ?_)))
  simp only [if_true]
  have ins : (SetTable.insertAt es (SetTable.below t.place (way t.mask (hsh w k) K)) (hsh w k, Value.ref x)).toList = rowsN w (L.take (SetTable.below t.place (way t.mask (hsh w k) K)) ++ (x, k) :: L.drop (SetTable.below t.place (way t.mask (hsh w k) K))) := by
    rw [SetTable.toList_insertAt, R.rows]
    simp only [rowsN, List.map_append, List.map_cons, List.map_take, List.map_drop]
  generalize SetTable.below t.place (way t.mask (hsh w k) K) = m at c2 c3 ins ⊢
  have pm := mid_perm L m (x, k)
  have hl : (L.take m ++ (x, k) :: L.drop m).length = L.length + 1 := pm.length_eq
  have T1 : TabG t1 ((L.take m ++ (x, k) :: L.drop m).map fun p => hsh w p.2) := by
    rw [List.map_append, List.map_cons, List.map_take, List.map_drop]
    exact c3
  have nd1 : ((L.take m ++ (x, k) :: L.drop m).map (·.2)).Nodup := (pm.map (·.2)).nodup_iff.mpr (List.nodup_cons.mpr ⟨nm, R.nd⟩)
  generalize SetTable.insertAt es m (hsh w k, Value.ref x) = es1 at ins ⊢
  generalize L.take m ++ (x, k) :: L.drop m = L1 at pm hl T1 nd1 ins
  have n2 : es1.size = L.length + 1 := by rw [rowsN_len ins, hl]
  refine wpAny_bind (wpAny_storeSet_of g1 g2 ?_ (by rw [n2, sizeLine_eq]; omega))
  have sb : Heap.SameBut a s.heap (s.heap.update a (Obj.putSet es1 t1)) := Heap.SameBut.update ..
  have gn := store_at (es' := es1) (t' := t1) g1 g2
  generalize s.heap.update a (Obj.putSet es1 t1) = h1 at sb gn ⊢
  have are1 : ∀ p ∈ L1, isNk P w h1 p.2 p.1 := fun p hp => by
    rcases List.mem_cons.mp (pm.mem_iff.mp hp) with z | z
    · rw [z]; exact isNk_same ix g1 g2 sb
    · exact isNk_same (R.are p z) g1 g2 sb
  have ld1 : w.params.followText "set-order" = true ∨ t1.led = true := by rw [c5]; exact R.led
  by_cases full1 : t1.tooFull = true
  · have much : (L.length + 1) * 5 ≥ t1.mask * 3 := by
      unfold SetTable.tooFull at full1
      rw [decide_eq_true_eq, c9, List.length_map] at full1
      exact full1
    have two : (t.mask = 7 ∧ L.length = 4) ∨ (t.mask = 31 ∧ L.length = 18) ∨ (t.mask = 127 ∧ L.length = 76) := by
      rw [c4] at much
      rcases R.tab.mok with z | z | z | z <;> rw [z] at much rm
      · exact .inl ⟨z, by omega⟩
      · exact .inr (.inl ⟨z, by omega⟩)
      · exact .inr (.inr ⟨z, by omega⟩)
      · omega
    have sz1 : t1.place.size = es1.size := by
      have := T1.sz
      rw [List.length_map, hl] at this
      omega
    have go : ∀ M, SetTable.sizeAbove (SetTable.grown (es.size + 1)) - 1 = M → MaskG M → (L.length + 1) * 5 < M * 3 → wpAny (model P w) A (setRelay a (SetTable.grown (es.size + 1))) (fun _ s' => wpAny (model P w) A (pure true) Q E s') E { s with heap := h1 } := fun M m1 m2 m4 =>
      relay_N (s := { s with heap := h1 }) gn ⟨gx.1, gx.2.1, gx.2.2⟩ rfl ins sz1 T1.dm (by rw [n2, c4]; rcases two with ⟨z, z2⟩ | ⟨z, z2⟩ | ⟨z, z2⟩ <;> omega) nd1 are1 pl ld1 (by rw [hl]; exact few) m1 m2 (by rw [hl]; exact m4) fun h2 L2 es2 ep2 t2 sb2 R2 pm2 =>
        wpAny_pure (q true h2 L2 es2 ep2 t2 (sb.trans sb2) R2 (fun z => absurd z nm) fun _ => pm2.trans pm)
    first
      | refine wpAny_bind (wp_if_pos (by simp [full1]) ?_)
      | refine wp_if_pos (by simp [full1]) (wpAny_bind ?_)
    rcases two with ⟨_, z⟩ | ⟨_, z⟩ | ⟨_, z⟩
    · exact go 31 (by rw [n1, z, size_20]) (.inr (.inl rfl)) (by omega)
    · exact go 127 (by rw [n1, z, size_76]) (.inr (.inr (.inl rfl))) (by omega)
    · exact go 511 (by rw [n1, z, size_77]) (.inr (.inr (.inr rfl))) (by omega)
  · have less : (L.length + 1) * 5 < t1.mask * 3 := by
      unfold SetTable.tooFull at full1
      rw [decide_eq_true_eq, c9, List.length_map] at full1
      omega
    have fin : Q true { s with heap := h1 } := q true h1 L1 es1 (ep + 1) t1 sb ⟨⟨_, gn, ⟨gx.1, gx.2.1, gx.2.2⟩, rfl⟩, ins, T1, nd1, are1, pl, ld1, by rw [hl]; exact less, by rw [hl]; exact few⟩ (fun z => absurd z nm) fun _ => pm
    first
      | exact wp_if_neg (by simp [full1]) (wpAny_pure fin)
      | exact wpAny_bind (wp_if_neg (by simp [full1]) (wpAny_pure (wpAny_pure fin)))
theorem setN_fresh {h : Heap} {a : Addr} (e : h.get? a = some (freshS w)) : SetN P w h a [] #[] 0 (.fresh 0 0 (!w.params.followText "set-order")) :=
  ⟨⟨_, e, ⟨rfl, rfl, rfl⟩, rfl⟩, rfl, ⟨.nil, rfl, rfl, .inl rfl, (fun x z => by cases z), fun i h j z => by simp at z⟩, .nil, (fun p z => by cases z), rfl, by
    show _ ∨ (!w.params.followText "set-order") = true
    cases w.params.followText "set-order"
    · exact .inr rfl
    · exact .inl rfl, (by show 0 * 5 < 7 * 3; decide), (by show 0 < 300; decide)⟩
/-- sets of nested tuples, few of them -/
def RpN (P : Program) (w : World) (h : Heap) (a : Addr) (L : Mem) : Prop := ∃ es ep t, SetN P w h a L es ep t
theorem setK_N (hu : A.units + 8 < cLine) : SetK P w A (isNk P w) (RpN P w) where
  fresh h a e := ⟨_, _, _, setN_fresh e⟩
  keep h h' a L := fun ⟨es, ep, t, R⟩ k ar => by
    obtain ⟨o, g1, g⟩ := R.obj
    exact ⟨es, ep, t, ⟨o, k o g1, g⟩, R.rows, R.tab, R.nd, ar, R.plain, R.led, R.room, R.few⟩
  isKeep h h' k x i kp := isNk_keep i kp
  nodup h a L := fun ⟨es, ep, t, R⟩ => R.nd
  add E s a L x k Q := fun ⟨es, ep, t, R⟩ i few q => by
    unfold setAdd
    refine wpAny_holding (wpAny_bind ((nestedKind P w).pyHash hu i.1 ?_))
    refine add_N (s := { s with toks := s.toks + (nestedKind P w).draws k }) hu R i few fun b h' L' es' ep' t' sb R' c1 c2 => ?_
    exact q b h' _ L' sb (Nat.le_add_right _ _) ⟨es', ep', t', R'⟩ c1 c2
end
end Ef

end

section
set_option autoImplicit false
namespace Ef
open PySem L2 PySem.Spec PyProof.Rows
open PySem.W (EachIs alike AllAlike Sortable sortVals dataKind dataLe)
/-! ### sorted(set(l)) of nested tuples -/
section
variable {P : Program} {w : World} {A : Around} {E : Value → Shared → Prop} {s : Shared}
/-- sorted(e): e's items in some order -/
theorem sortedS {src : Value} {Pv : List Value → Prop} {R : Value → PyData → Prop} {Q : Value → Shared → Prop}
    (hc : ∀ (E' : Value → Shared → Prop) (Q' : List Value → Shared → Prop), (∀ (s1 : Shared) (vs : List Value), (∀ b o, s.heap.get? b = some o → s1.heap.get? b = some o) → s.heap.objs.size ≤ s1.heap.objs.size → s1.gens = s.gens → s1.os = s.os → Pv vs → Q' vs s1) → wpAny (model P w) A.in1 (collect src) Q' E' s)
    (hv : ∀ vs, Pv vs → ∃ ds, vs.length ≤ sizeLine ∧ EachIs R vs ds ∧ EachIs (fun v d => ∃ as, Reads s.heap v d as) vs ds ∧ AllAlike ds ∧ Sortable ds ∧ (∀ d, d ∈ ds → A.units + 2 + d.depth < cLine) ∧
      ∀ (s1 : Shared) (h' : Heap) (p : Addr) (c : Nat) (out : List Value) (ms : List PyData), (∀ b o, s.heap.get? b = some o → h'.get? b = some o) → s1.gens = s.gens → s1.os = s.os → s.heap.objs.size ≤ p → h'.get? p = some (seqObj "list" out.toArray c) → EachIs R out ms → ms.Perm ds → ms.Pairwise leD → Q (.ref p) { s1 with heap := h' }) :
    wpAny (model P w) A (call (.builtin "sorted") [src]) Q E s := by
  refine Calls.call_function_entry kind_sorted plain_sorted entry_sorted (args_sorted1 _) ?_
  unfold Builtin.«sorted»
  refine wpAny_bind (m := checkCount "sorted" 1 1 _) (wpAny_pure ?_)
  refine wpAny_bind (hc _ _ fun s1 vs k1 z1 eg eo pv => ?_)
  obtain ⟨ds, hz, e, er, al, hk, hu, q⟩ := hv vs pv
  refine wpAny_bind (wpAny_newList ?_ hz)
  generalize hh1 : s1.heap = h1 at k1 z1
  have en : (h1.push (seqObj "list" vs.toArray 0)).get? h1.objs.size = some (seqObj "list" vs.toArray 0) := Heap.get?_push_size _ rfl
  have kp : ∀ b o, s.heap.get? b = some o → (PySem.W.sortingHeap (h1.push (seqObj "list" vs.toArray 0)) h1.objs.size vs).get? b = some o := fun b o g => by
    have g1 := k1 b o g
    exact PySem.W.sortingHeap_old (Nat.ne_of_lt (Heap.lt_size g1)) (Heap.get?_push_of_some _ g1)
  have er' : EachIs (fun v d => ∃ as, Reads (PySem.W.sortingHeap (h1.push (seqObj "list" vs.toArray 0)) h1.objs.size vs) v d as) vs ds := er.mono fun _ _ ⟨as, r⟩ => ⟨as, PyProof.Rows.Reads.keeps kp r⟩
  have S := sorts_of (P := P) (w := w) (A := A.in1.in1) (s := { s1 with heap := PySem.W.sortingHeap (h1.push (seqObj "list" vs.toArray 0)) h1.objs.size vs }) er' al (.inl hk) hu
  refine wpAny_bind (wpAny_holding (wpAny_call_entry slot_list_sort ⟨_, en, rfl⟩ entry_list_sort (PySem.W.list_sort_vals (s := { s1 with heap := h1.push (seqObj "list" vs.toArray 0) }) en S hz ⟨_, rfl, ?_⟩) (args_list_sort _)))
  have em : EachIs R (sortVals (dataKind (PySem.W.sortingHeap (h1.push (seqObj "list" vs.toArray 0)) h1.objs.size vs) ds) false vs vs) (ds.mergeSort (dataLe false id)) := by
    have := PySem.W.sortVals_data (enc := id) false e er' (by rw [List.map_id]; exact al)
    rw [List.map_id] at this
    exact this
  obtain ⟨c, ec⟩ := sortedHeap_at (vs := vs) (out := (sortVals (dataKind (PySem.W.sortingHeap (h1.push (seqObj "list" vs.toArray 0)) h1.objs.size vs) ds) false vs vs).toArray) en
  refine wpAny_pure ⟨_, rfl, q s1 _ _ c _ _ (fun b o g => ?_) eg eo z1 ec em (List.mergeSort_perm _ _) ?_⟩
  · have g1 := k1 b o g
    have lt := Heap.lt_size g1
    rw [sortedHeap_old (Nat.ne_of_lt lt) (by rw [size_push']; exact Nat.lt_succ_of_lt lt)]
    exact Heap.get?_push_of_some _ g1
  · refine (PySem.W.sort_pairwise (PySem.W.sortLe_total (listOrd itemOrd) false fun b => PySem.W.keyToks b) ds).imp fun {a b} h => ?_
    simpa [leD, PySem.W.dataLt, PySem.W.sortLe] using h
theorem perm_map_inv {α β : Type} {f : α → β} : ∀ {vs : List β} {l : List α}, vs.Perm (l.map f) → ∃ l' : List α, l'.Perm l ∧ vs = l'.map f
  | [], l, h => by
    have := h.length_eq
    cases l with
    | nil => exact ⟨[], .refl _, rfl⟩
    | cons => simp at this
  | v :: vs, l, h => by
    obtain ⟨a, ha, rfl⟩ := List.mem_map.mp (h.mem_iff.mp List.mem_cons_self)
    obtain ⟨l1, l2, rfl⟩ := List.append_of_mem ha
    have h2 : (f a :: vs).Perm (f a :: (l1 ++ l2).map f) := by
      refine h.trans ?_
      rw [List.map_append, List.map_cons, List.map_append]
      exact List.perm_middle
    obtain ⟨l', p, rfl⟩ := perm_map_inv (h2.cons_inv)
    exact ⟨a :: l', (p.cons a).trans List.perm_middle.symm, rfl⟩
end
/-- the members, as the set takes them -/
theorem mem_of {K : PySem.W.Frag} {J : Hp} : ∀ {xs : List V} {ds : List PyData}, DqAll K J xs ds → ds.all keyN = true → ∃ ks : Mem, xs = ks.map (fun p => V.ref p.1) ∧ ks.map (·.2) = ds.map nk ∧ ∀ p ∈ ks, ∃ d ∈ ds, p.2 = nk d ∧ Dq K J (.ref p.1) d
  | _, _, .nil, _ => ⟨[], rfl, rfl, fun p h => by cases h⟩
  | _, _, .cons (d := d) (ds := ds) h q, o => by
    simp only [List.all_cons, Bool.and_eq_true] at o
    obtain ⟨ks, e1, e2, e3⟩ := mem_of q o.2
    cases d <;> simp [keyN] at o
    obtain ⟨b, xs, rfl, h1, h2⟩ := h.tupQ
    refine ⟨(b, nk _) :: ks, by rw [e1]; rfl, by rw [List.map_cons, List.map_cons, e2], fun p hp => ?_⟩
    rcases List.mem_cons.mp hp with rfl | hp
    · exact ⟨_, List.mem_cons_self, rfl, .tup h1 h2⟩
    · obtain ⟨d, hd, z⟩ := e3 p hp
      exact ⟨d, List.mem_cons_of_mem _ hd, z⟩
theorem pick_of {K : PySem.W.Frag} {J : Hp} {ds : List PyData} : ∀ {L : Mem}, (∀ p ∈ L, ∃ d ∈ ds, p.2 = nk d ∧ Dq K J (.ref p.1) d) → ∃ es : List PyData, EachIs (fun v d => ∃ x, RelV x v ∧ Dq K J x d) (L.map fun p => Value.ref p.1) es ∧ es.map nk = L.map (·.2) ∧ ∀ d ∈ es, d ∈ ds
  | [], _ => ⟨[], .nil, rfl, fun d h => by cases h⟩
  | p :: L, h => by
    obtain ⟨es, e1, e2, e3⟩ := pick_of fun q hq => h q (List.mem_cons_of_mem _ hq)
    obtain ⟨d, hd, z, dq⟩ := h p List.mem_cons_self
    refine ⟨d :: es, .cons ⟨V.ref p.1, rfl, dq⟩ e1, by rw [List.map_cons, List.map_cons, e2, z], fun x hx => ?_⟩
    rcases List.mem_cons.mp hx with rfl | hx
    · exact hd
    · exact e3 x hx
theorem refs_of {ks : Mem} {us : List Value} (r : Vals (ks.map fun p => V.ref p.1) us) : us = ks.map fun p => Value.ref p.1 := by
  induction ks generalizing us with
  | nil => cases r; rfl
  | cons p ks ih =>
    cases r with
    | cons r1 r2 => cases r1; rw [ih r2]; rfl
def tSsn (K : PySem.W.Frag) (T : BoxT) (te : TE) : TE := fun σ H Q => te σ H fun x H1 => ∃ (bx : Bx) (J : Hp) (ds us : List PyData), Hv T bx J H1 ∧ Bo K bx J H1 x (.list ds) ∧ ds.all keyN = true ∧ us.length < 298 ∧ (∀ d ∈ ds, d ∈ us) ∧ AllAlike ds ∧ Sortable ds ∧
  ∀ (ms : List PyData) (p : Addr) (vs : List V), ms.Pairwise leD → ms.Nodup → (∀ d, d ∈ ms ↔ d ∈ ds) → H1 p = none → DqAll K J vs ms → Q (.ref p) (upd H1 p (.lst vs))
section
variable {X : Cx} {T : BoxT}
theorem pe_ssn {e : Expr} {te : TE} {p1 p2 p3 p4 : Pos} (hc : X.calm = true) (hu : X.A.units + 65 < cLine) (g1 : Gl X "sorted") (m1 : X.mg "sorted" = none) (g2 : Gl X "set") (m2 : X.mg "set" = none) (he : PE X e te) (st : starEach [e] X.env = (false, eval e X.env) :: starEach [] X.env) :
    PE X (.Call (.Name "sorted" p1) [.Call (.Name "set" p2) [e] [] p3] [] p4) (tSsn X.K T te) := by
  refine ⟨fun pins s σ H Q I h => ?_⟩
  refine Call_ (ld_blt I g1 m1 boot_sorted (callWith_builtin1 (args_cons ?_ rfl) rfl rfl))
  refine Call_ (ld_blt I g2 m2 boot_set (callWith_type1 (args_cons (thn (he.run pins s σ H _ I h) fun v s1 ⟨x, H1, I1, r1, q1⟩ => args_nil ?_) st) st rfl))
  obtain ⟨bx, J, ds, us, hv, bd, hkn, hus, hin, al, so, q⟩ := q1
  obtain ⟨a, xs, rfl, k1, dq⟩ := Bo.lstE hv bd
  cases r1
  obtain ⟨its, rv, pl, hz⟩ := I1.list (SqL.of k1)
  obtain ⟨ks, rfl, ek, hks⟩ := mem_of dq hkn
  have keyOf : ∀ d ∈ ds, keyN d = true := fun d hd => List.all_eq_true.mp hkn d hd
  have isM : ∀ p ∈ ks, isNk X.prog X.w s1.heap p.2 p.1 := fun p hp => by
    obtain ⟨d, hd, e1, e2⟩ := hks p hp
    rw [e1]
    exact ⟨key_is I1 (keyOf d hd) (e2.sub hv.sub), noTx_nk d⟩
  refine call_set_few (P := X.prog) (w := X.w) (setK_N (P := X.prog) (w := X.w) (by show X.A.units + 3 + 8 < cLine; omega)) ks (us.map nk) (by rw [List.length_map]; exact hus) (fun p hp => ?_) (I1.ok.hd hc) pl.isList (by simpa using refs_of rv) isM fun h' tk L ⟨es, ep, t, R⟩ tk2 kp => args_nil ?_
  · obtain ⟨d, hd, e1, _⟩ := hks p hp
    rw [e1]
    exact List.mem_map.mpr ⟨d, hin d hd, rfl⟩
  have I2 : Inv X pins σ H1 { s1 with heap := h', toks := tk } := I1.kept kp
  have Lks : ∀ p ∈ L, p ∈ ks := fun p hp => List.mem_of_mem_take (tk2.from_ p hp)
  obtain ⟨ob, o1, ox, o2⟩ := R.obj
  have nL := rowsN_len R.rows
  have few := R.few
  refine sortedS (s := { s1 with heap := h', toks := tk }) (Pv := fun vs => ∃ L' : Mem, L'.Perm L ∧ vs = L'.map fun p => Value.ref p.1) (R := fun v d => ∃ x, RelV x v ∧ Dq X.K J x d) (fun E' Q' k => ?_) ?_
  · refine collect_set (s := { s1 with heap := h', toks := tk }) (A := X.A.in1) (I2.ok.hd hc) ⟨ob, o1, ox.1, o2⟩ (SetN.fits (s := { s1 with heap := h', toks := tk }) R) (by unfold scanBound; omega) R.tab.ris R.led fun s3 out c1 c2 c3 c4 c5 => k s3 out c1 c2 c3 c4 ?_
    have e5 : es.toList.map (·.2) = L.map fun p => Value.ref p.1 := by
      rw [R.rows, rowsN, List.map_map]; rfl
    rw [e5] at c5
    exact perm_map_inv c5
  · rintro vs ⟨L', pm, rfl⟩
    obtain ⟨ms0, m1, m2, m3⟩ := pick_of (K := X.K) (J := J) (ds := ds) (L := L') fun p hp => hks p (Lks p (pm.mem_iff.mp hp))
    have nd : ms0.Nodup := by
      have : (ms0.map nk).Nodup := by rw [m2]; exact (pm.map (·.2)).nodup_iff.mpr R.nd
      exact List.Pairwise.of_map nk (fun _ _ ne z => ne (congrArg nk z)) this
    have okn : okNs ms0 = true := by
      clear m1 m2 nd
      induction ms0 with
      | nil => rfl
      | cons d r ih =>
        simp only [okNs, Bool.and_eq_true]
        exact ⟨(keyN_ok (keyOf d (m3 d List.mem_cons_self))).1, ih fun x hx => m3 x (List.mem_cons_of_mem _ hx)⟩
    have lenL : L'.length < 300 := by rw [pm.length_eq]; exact few
    refine ⟨ms0, by rw [List.length_map, sizeLine_eq]; omega, m1, ?_, fun d hd d' hd' => al d (m3 d hd) d' (m3 d' hd'), ?_, fun d hd => ?_, fun s3 h3 p c out ms k3 eg eo hp hg eo2 pm2 pw => ?_⟩
    · have oks : ∀ d ∈ ms0, okN d = true := fun d hd => (keyN_ok (keyOf d (m3 d hd))).1
      refine (PySem.W.each_mem m1).mono fun v d ⟨⟨x, r, dx⟩, hd⟩ => ?_
      exact reads_of I2 d x v (oks d hd) (dx.sub hv.sub) r
    · rcases so with so | so
      · exact .inl fun d hd => so d (m3 d hd)
      · exact .inr fun d hd => so d (m3 d hd)
    · have := (keyN_ok (keyOf d (m3 d hd))).2
      omega
    · obtain ⟨zs, z1, z2⟩ := back_of eo2
      have hn : H1 p = none := I2.hok.fresh hp
      have hl : zs.length ≤ sizeLine := by
        rw [z2.length, pm2.length_eq, m1.length.symm, List.length_map, sizeLine_eq]; omega
      have J2 : Inv X pins σ (upd H1 p (.lst zs)) { ({ s1 with heap := h', toks := tk } : Shared) with heap := h3, gens := s3.gens, drawn := s3.drawn, toks := s3.toks } :=
        I2.call (ch := []) (Un.laid k3 hp hn) (I2.hok.laid k3 hp ⟨hl, out, c, z1, hg⟩) (by rw [eg]; exact I2.bare) (fun _ z => nomatch z)
      have e3 : ({ s3 with heap := h3 } : Shared) = { s1 with heap := h3, gens := s3.gens, drawn := s3.drawn, toks := s3.toks } := by
        cases s3
        cases s1
        cases eo
        rfl
      rw [e3]
      have mem : ∀ d, d ∈ ms ↔ d ∈ ds := fun d => by
        rw [pm2.mem_iff]
        refine ⟨m3 d, fun hd => ?_⟩
        have h1 : nk d ∈ ks.map (·.2) := by rw [ek]; exact List.mem_map.mpr ⟨d, hd, rfl⟩
        obtain ⟨p0, hp0, e0⟩ := List.mem_map.mp h1
        have h2 := tk2.all_ p0 (by rw [List.take_length]; exact hp0)
        rw [e0, ← (pm.map (·.2)).mem_iff, ← m2] at h2
        obtain ⟨d2, hd2, e2⟩ := List.mem_map.mp h2
        have := nk_inj d2 d (keyN_ok (keyOf d2 (m3 d2 hd2))).1 (keyN_ok (keyOf d hd)).1 e2
        rw [← this]; exact hd2
      exact ⟨.ref p, _, J2, rfl, q ms p zs pw (pm2.nodup_iff.mpr nd) mem hn z2⟩
end
end Ef

end

section
set_option autoImplicit false
namespace Ef
open PySem L2 PySem.Spec PyProof.Rows
/-! ### max, min of lists; {k: v}; dict comprehensions with tuples as keys -/
section
variable {X : Cx} {T : BoxT} {pins : List (Addr × Obj)} {σ : L2.St} {H J : Hp} {s : Shared} {E : Value → Shared → Prop}
theorem ints_reads {h : Heap} : ∀ {ns : List Int} {us : List Value}, Vals (ns.map V.int) us → ∃ as, ReadsAll h us (ns.map PyData.int) as
  | [], _, r => by cases r; exact ⟨_, .nil⟩
  | n :: ns, _, r => by
    cases r with
    | cons r1 r2 =>
      obtain ⟨t, rfl⟩ := r1
      obtain ⟨as, ih⟩ := ints_reads (h := h) r2
      exact ⟨_, .cons (.int n t) ih⟩
theorem alike_ints (ns : List Int) : PySem.W.AlikeAll (ns.map PyData.int) := by
  refine ⟨fun x hx y hy => ?_, fun x hx => ?_⟩
  · obtain ⟨n, _, rfl⟩ := List.mem_map.mp hx
    obtain ⟨m, _, rfl⟩ := List.mem_map.mp hy
    simp [PySem.W.alike]
  · obtain ⟨n, _, rfl⟩ := List.mem_map.mp hx
    exact fun z => nomatch z
theorem depth_ints : ∀ ns : List Int, PyData.depthAll (ns.map PyData.int) ≤ 1
  | [] => by simp [PyData.depthAll]
  | n :: ns => by
    have := depth_ints ns
    simp only [List.map_cons, PyData.depthAll, PyData.depth]
    omega
/-- {}, a dict whose keys may be of any kind -/
def tDNewN : TE := fun _ H Q => ∀ p o, H p = none → Q (.ref p) (upd H p (DnO p o []))
theorem pe_dnewN {pos : Pos} : PE X (.Dict [] [] pos) tDNewN := by
  refine ⟨fun pins s σ H Q I h => wpAny_Dict_empty ?_⟩
  have I1 := I.laid (a := s.heap.objs.size) (o := .dK []) (h' := s.heap.push { cls := .type "dict", data := .dict #[] }) (t' := s.toks) (fun _ _ q => Heap.get?_push_of_some _ q) (Nat.le_refl _) (dk_empty s.heap I.big)
  obtain ⟨o0, I1⟩ := dk_dn I1 upd_same
  rw [upd_upd] at I1
  exact ⟨.ref s.heap.objs.size, _, I1, rfl, h _ o0 (I.hok.fresh (Nat.le_refl _))⟩
theorem boot_max : bootBuiltins "max" = some (.builtin "max") := by decide +kernel
theorem boot_min : bootBuiltins "min" = some (.builtin "min") := by decide +kernel
def rMx (K : PySem.W.Frag) : List V → Hp → VK → Prop := fun vs H Q => ∃ (a : Addr) (ns : List Int), vs = [V.ref a] ∧ SqL K H a (ns.map V.int) ∧ ns ≠ [] ∧ Q (.int (maxI 0 ns)) H
theorem cr_mx (hc : X.calm = true) (hu : X.A.units + 65 < cLine) : CallR X (.builtin "max") (rMx X.K) := by
  intro pins s σ H vs us Q I r h
  obtain ⟨a, ns, rfl, sq, hne, q⟩ := h
  obtain ⟨its, rv, pl, hz⟩ := I.list sq
  rw [Vals.ref1 r]
  cases ns with
  | nil => exact absurd rfl hne
  | cons n ns =>
    obtain ⟨as, ra⟩ := ints_reads (h := s.heap) (ns := n :: ns) rv
    have hd := depth_ints (n :: ns)
    refine PySem.W.max_list_data (I.ok.hd hc) pl.isList (by simpa using ra) (alike_ints (n :: ns)) (by simp only [List.map_cons] at hd; omega) fun i v h' tk bs hv rd kp => ?_
    rw [PySem.W.maxD_ints] at rd
    cases rd
    exact ⟨.int _, H, I.kept (t' := tk) kp, ⟨_, rfl⟩, q⟩
def rMxK (K : PySem.W.Frag) : List V → List V → Hp → VK → Prop := fun vs zs H Q => ∃ (a : Addr) (ns : List Int), vs = [V.ref a] ∧ zs = [.int 0] ∧ SqL K H a (ns.map V.int) ∧ Q (.int (maxI 0 ns)) H
theorem cr_mxK (hc : X.calm = true) (hu : X.A.units + 65 < cLine) : CallRK X (.builtin "max") [Str.ofString "default"] (rMxK X.K) := by
  intro pins s σ H vs zs us ws Q I r rz h
  obtain ⟨a, ns, rfl, rfl, sq, q⟩ := h
  obtain ⟨its, rv, pl, hz⟩ := I.list sq
  rw [Vals.ref1 r]
  cases rz with
  | cons rz1 rz2 =>
    cases rz2
    obtain ⟨t, rfl⟩ := rz1
    obtain ⟨as, ra⟩ := ints_reads (h := s.heap) (ns := ns) rv
    have hd := depth_ints ns
    refine PySem.W.max_list_default (I.ok.hd hc) pl.isList (by simpa using ra) (alike_ints ns) (by omega) (fun e h' tk kp => ?_) fun y ys i v h' tk bs e hv rd kp => ?_
    · have : ns = [] := List.map_eq_nil_iff.mp e
      subst this
      exact ⟨.int 0, H, I.kept (t' := tk) kp, ⟨_, rfl⟩, q⟩
    · cases ns with
      | nil => cases e
      | cons n ns =>
        cases e
        rw [PySem.W.maxD_ints] at rd
        cases rd
        exact ⟨.int _, H, I.kept (t' := tk) kp, ⟨_, rfl⟩, q⟩
theorem DqAll.at_ {K : PySem.W.Frag} {J : Hp} : ∀ {xs : List V} {us : List Value} {ds : List PyData}, DqAll K J xs ds → Vals xs us → ∀ {i : Nat} {u : Value}, us[i]? = some u → ∃ x d, RelV x u ∧ Dq K J x d ∧ d ∈ ds
  | _, _, _, .nil, r, i, u, h => by cases r; simp at h
  | _, _, _, .cons h q, r, 0, u, e => by
    cases r with
    | cons r1 r2 => simp at e; subst e; exact ⟨_, _, r1, h, List.mem_cons_self⟩
  | _, _, _, .cons h q, r, i + 1, u, e => by
    cases r with
    | cons r1 r2 =>
      obtain ⟨x, d, a, b, c⟩ := DqAll.at_ q r2 (i := i) (u := u) (by simpa using e)
      exact ⟨x, d, a, b, List.mem_cons_of_mem _ c⟩
theorem okNs_mem : ∀ {ds : List PyData}, okNs ds = true → ∀ d ∈ ds, okN d = true
  | [], _, d, h => by cases h
  | x :: ds, o, d, h => by
    simp only [okNs, Bool.and_eq_true] at o
    rcases List.mem_cons.mp h with rfl | h
    · exact o.1
    · exact okNs_mem o.2 d h
def rMn (K : PySem.W.Frag) (T : BoxT) : List V → Hp → VK → Prop := fun vs H Q => ∃ x bx J d ds, vs = [x] ∧ Hv T bx J H ∧ Bo K bx J H x (.list (d :: ds)) ∧ okNs (d :: ds) = true ∧ PySem.W.AllAlike (d :: ds) ∧ (∀ y ∈ d :: ds, y ≠ .none) ∧ PyData.depthAll (d :: ds) ≤ 20 ∧ ∀ v, Dq K J v (mnD d ds) → Q v H
theorem cr_mn (hc : X.calm = true) (hu : X.A.units + 65 < cLine) : CallR X (.builtin "min") (rMn X.K T) := by
  intro pins s σ H vs us Q I r h
  obtain ⟨x, bx, J, d, ds, rfl, hv, bd, o1, o2, o3, o4, q⟩ := h
  obtain ⟨a, xs, rfl, k1, dq⟩ := Bo.lstE hv bd
  obtain ⟨its, rv, pl, hz⟩ := I.list (SqL.of k1)
  rw [Vals.ref1 r]
  obtain ⟨as, ra⟩ := reads_all I (d :: ds) xs its o1 (dq.sub hv.sub) rv
  refine PySem.W.min_list_data (I.ok.hd hc) pl.isList (by simpa using ra) ⟨fun x hx y hy => o2 x hx y hy, o3⟩ (by omega) fun i v h' tk bs hi rd kp => ?_
  obtain ⟨y, e, ry, dy, me⟩ := dq.at_ rv (i := i) (u := v) (by simpa using hi)
  obtain ⟨cs, r2⟩ := reads_of I e y v (okNs_mem o1 e me) (dy.sub hv.sub) ry
  have ee : e = PySem.W.minD d ds := (PySem.Reads.unique (PyProof.Rows.Reads.keeps kp r2) _ _ rd).1
  rw [ee] at dy
  exact ⟨y, H, I.kept (t' := tk) kp, ry, q y dy⟩
/-! ### dicts with tuples as keys, whatever their values -/
def KeysN (K : PySem.W.Frag) (J : Hp) (xs : List (NestedKey × Addr × Value)) : Prop := ∀ x ∈ xs, ∃ j, keyN j = true ∧ x.1 = nk j ∧ Dq K J (.ref x.2.1) j
theorem KeysN.sub {K : PySem.W.Frag} {J H : Hp} {xs} (h : KeysN K J xs) (s : Sub J H) : KeysN K H xs := fun x hx => let ⟨j, a, b, c⟩ := h x hx; ⟨j, a, b, c.sub s⟩
theorem DqNs.keysN {K : PySem.W.Frag} {J : Hp} : ∀ {xs kvs}, DqNs K J xs kvs → KeysN K J xs
  | _, _, .nil => fun x h => by cases h
  | _, _, .cons h hk _ _ q => fun x hx => by
    rcases List.mem_cons.mp hx with rfl | hx
    · exact ⟨_, hk, rfl, h⟩
    · exact DqNs.keysN q x hx
theorem KeysN.ent {K : PySem.W.Frag} {J : Hp} {xs} (P : Program) (w : World) (h : KeysN K J xs) : xs.map (entryOfKey (nestedKind P w)) = xs.map ent0 := by
  refine List.map_congr_left fun x hx => ?_
  obtain ⟨j, hj, e, _⟩ := h x hx
  show (⟨x.1.hash w, _, _⟩ : DictEntry) = ⟨nhash x.1, _, _⟩
  rw [e, nhash_eq w j (keyN_ok hj).1]
theorem KeysN.is (I : Inv X pins σ H s) {xs} (h : KeysN X.K H xs) : ∀ x ∈ xs, (nestedKind X.prog X.w).is s.heap x.1 x.2.1 := fun x hx => by
  obtain ⟨j, hj, e, d⟩ := h x hx
  rw [e]
  exact key_is I hj d
theorem dnk_at {a b : Addr} {o : Obj} {xs} (I : Inv X pins σ H s) (h : H a = some (DnO b o xs)) (q : KeysN X.K H xs) : b = a ∧ s.heap.get? a = some o ∧ (a == sysModules) = false ∧ DnObj o xs ∧ s.heap.DictOfH (nestedKind X.prog X.w) a xs := by
  obtain ⟨h1, h2, h3, h4⟩ := dnO_of (I.hok a _ h)
  refine ⟨h1, h2, h3, h4, ?_⟩
  obtain ⟨ex, ⟨es, ep, hd, he⟩, nd, _⟩ := h4
  exact ⟨o, es, ep, h2, ex, hd, by rw [q.ent]; exact he, q.is I, nd⟩
theorem KeysN.put {K : PySem.W.Frag} {J : Hp} {xs} {k : PyData} {b : Addr} {u : Value} (h : KeysN K J xs) (hk : keyN k = true) (hb : Dq K J (.ref b) k) : KeysN K J (storedH xs (nk k) b u) := by
  unfold storedH
  split
  · intro x hx
    obtain ⟨y, hy, rfl⟩ := List.mem_map.mp hx
    obtain ⟨j, h1, h2, h3⟩ := h y hy
    unfold putAt
    split
    · exact ⟨j, h1, h2, h3⟩
    · exact ⟨j, h1, h2, h3⟩
  · intro x hx
    rcases List.mem_append.mp hx with hx | hx
    · exact h x hx
    · rw [List.mem_singleton.mp hx]; exact ⟨k, hk, rfl, hb⟩
theorem dictK_H {K : PySem.W.Frag} {J : Hp} {P : Program} {w : World} {h : Heap} {a : Addr} {xs} (q : KeysN K J xs) (hm : h.DictOfH (nestedKind P w) a xs) (hz : xs.length ≤ sizeLine) : ∃ o, h.get? a = some o ∧ DnObj o xs := by
  obtain ⟨o, es, ep, e, ex, d, he, _, nd⟩ := hm
  exact ⟨o, e, ex, ⟨es, ep, d, by rw [← q.ent P w]; exact he⟩, nd, hz⟩
/-- d[k] = v by a comprehension, a display -/
theorem ev_dset (hu : X.A.units + 65 < cLine) (I : Inv X pins σ H s) (hs : Sub J H) {a b0 b : Addr} {o : Obj} {xs} {r : Value} {k : PyData} {Q : Unit → Shared → Prop} (hk : keyN k = true) (hb : Dq X.K J (.ref b) k) (ha : H a = some (DnO b0 o xs)) (q : KeysN X.K J xs) (hz : xs.length < sizeLine)
    (h : ∀ o' s', Inv X pins σ (upd H a (DnO a o' (storedH xs (nk k) b r))) s' → Q () s') : wpAny (model X.prog X.w) X.A (dictSet a (.ref b) r) Q E s := by
  obtain ⟨_, _, hd, _, hm⟩ := dnk_at I ha (q.sub hs)
  refine wpAny_dictSet_heap (hsz := Nat.le_of_lt hz) (by show X.A.units + 8 < cLine; omega) (key_is I hk (hb.sub hs)) hm fun h' hm' sb => ?_
  obtain ⟨l1, l2⟩ := storedH_len xs (nk k) b r
  obtain ⟨o', e', ho'⟩ := dictK_H (q.put hk hb) hm' (by omega)
  refine h o' _ (d_write I ?_ sb ⟨o', e'⟩ (dnO_new e' hd ho'))
  rw [ha]
  exact True.intro
def PutK (K : PySem.W.Frag) (D : Addr) (Nx : Hp → Prop) (y z : V) (H : Hp) : Prop := ∃ J k b b0 o xs, Sub J H ∧ y = .ref b ∧ Dq K J (.ref b) k ∧ keyN k = true ∧ H D = some (DnO b0 o xs) ∧ KeysN K J xs ∧ xs.length < sizeLine ∧ ∀ o' u, RelV z u → Nx (upd H D (DnO D o' (storedH xs (nk k) b u)))
def PutN (K : PySem.W.Frag) (T : BoxT) (D : Addr) (Nx : Hp → Prop) (y z : V) (H : Hp) : Prop := ∃ bx J k d kvs u, Hv T bx J H ∧ Bo K bx J H y k ∧ Dq K J z d ∧ keyN k = true ∧ (kvs.all fun p => keyN p.1) = true ∧ H D = some u ∧ FrO K J u (.dict kvs) ∧ kvs.length < sizeLine ∧ ∀ u', FrO K J u' (.dict (storeD kvs k d)) → Nx (upd H D u')
theorem PutN.toK {K : PySem.W.Frag} {D : Addr} {Nx : Hp → Prop} {y z : V} {H : Hp} (h : PutN K T D Nx y z H) : PutK K D Nx y z H := by
  obtain ⟨bx, J, k, d, kvs, u, hv, bk, dz, hk, hall, hD, fo, hz, nx⟩ := h
  obtain ⟨b, rfl, hb⟩ := key_ref hk bk
  cases fo with
  | dic n q =>
    have := all_nil q.keys hall
    subst this
    cases q
    exact absurd rfl n
  | dcn q => exact ⟨J, k, b, _, _, _, hv.sub, rfl, hb, hk, hD, q.keysN, by rw [q.length]; exact hz, fun o' u ru => nx _ (.dcn (q.put hk hb ru dz))⟩
def tDcN (K : PySem.W.Frag) (wi : TI) (g : TG) (tt : TT) (tk tv : TE) (vs : List Nat) : TE := fun σ H Q => wi σ H fun J H1 => ∀ D o, H1 D = none → ∃ W : Nat → Nat → Hp → Prop, (∃ m, W 0 m (upd H1 D (DnO D o []))) ∧ ∀ i m H, W i m H →
  (J.stop i H ∧ Q (.ref D) H) ∨ (J.go i H ∧ ∃ Nx : Hp → Prop, (∀ H', Nx H' → ∃ m', m' < m ∧ W (i + 1) m' H') ∧ ∀ x H', J.yld i H x H' → g x (L2.wipe σ vs) H' fun σ2 H2 => L2.wipe σ2 vs = L2.wipe σ vs ∧ tt σ2 H2 fun b H3 =>
    if b = true then tk σ2 H3 fun y H4 => tv σ2 H4 fun z H5 => PutK K D Nx y z H5 else Nx H3)
theorem dn_core {pins : List (Addr × Obj)} {s : Shared} {σ : L2.St} {H : Hp} {Q : VK} {kx vx tg iter : Expr} {ifs : List Expr} {scope : Scope} {own : List (Str × Nat)} {pos pos' : Pos} {wi : TI} {g : TG} {tt : TT} {tk tv : TE} {use : Option (Value → Sem Unit)} {Qf : Value → Shared → Prop}
    (hu : X.A.units + 65 < cLine) (hc : X.calm = true) (hN : X.N.Nodup) (I : Inv X pins σ H s) (hi : PI X tg iter wi) (ok : BlkOk X.N X.env.scope scope own)
    (hg : ∀ (s : Shared) (H : Hp) (C : Addr) (cl : List (Str × Addr)) (fp : List Addr), PG (X.blk s H scope (compEnvC scope cl C X.env) fp) tg g) (ht : ∀ (s : Shared) (H : Hp) (C : Addr) (cl : List (Str × Addr)) (fp : List Addr), PTs (X.blk s H scope (compEnvC scope cl C X.env) fp) ifs tt)
    (hk : ∀ (s : Shared) (H : Hp) (C : Addr) (cl : List (Str × Addr)) (fp : List Addr), PE (X.blk s H scope (compEnvC scope cl C X.env) fp) kx tk)
    (he : ∀ (s : Shared) (H : Hp) (C : Addr) (cl : List (Str × Addr)) (fp : List Addr), PE (X.blk s H scope (compEnvC scope cl C X.env) fp) vx tv) (hs : ∀ x, foldedSetIterable iter X.env x = pure x)
    (h : tDcN X.K wi g tt tk tv (own.map (·.2)) σ H Q)
    (hRR : ∀ D C s' m H', Inv X pins σ H' s' → Q (.ref D) H' → s'.heap.Ns C m → FpOk X pins H' C → compPost (model X.prog X.w) X.A X.xe use Qf (.ref D) C (.ok .next) s') :
    wpAny (model X.prog X.w) X.A (comprehension (.DictComp kx vx [⟨tg, iter, ifs, 0⟩] scope pos) scope X.env pos' newDict false (eval iter X.env) use) Qf X.xe s := by
  have hfree : ∀ y ∈ scope.names, y.2 = .free → ∃ c, X.env.cells.lookup y.1 = some c := fun y hy e => by
    rcases ok.free y hy e with k | k
    · exact I.ok.has _ (.inl k)
    · exact I.ok.has _ (.inr k)
  refine wpAny_comprehension_free (use := use) rfl hs (closure_ok hfree) ok.kind (fun y hy e => by rw [ok.uniq y hy, e])
    (thn (hi.run pins s σ H _ I h) fun xv s1 hx => thn hx fun itv s2 h2 => ?_)
  obtain ⟨it, fp, tn, J, H2, e, I2, T', st2, f2, q⟩ := h2
  subst e
  refine wpAny_newObj_type (newEnv_comp ?_)
  generalize hD : s2.heap.objs.size = D
  have hDn : H2 D = none := I2.hok.fresh (Nat.le_of_eq hD)
  generalize hs3 : ({ s2 with heap := s2.heap.push { cls := .type "dict", data := .dict #[] } } : Shared) = s3
  have I3 : Inv X pins σ (upd H2 D (.dK [])) s3 := by
    rw [← hs3]
    refine I2.laid (t' := s2.toks) (fun b o e => Heap.get?_push_of_some _ e) (Nat.le_of_eq hD) ?_
    rw [← hD]
    exact dk_empty s2.heap I2.big
  obtain ⟨o0, I3⟩ := dk_dn I3 upd_same
  rw [upd_upd] at I3
  obtain ⟨W, ⟨m0, w0⟩, turn⟩ := q D o0 hDn
  have h3 : s3.heap = s2.heap.push { cls := .type "dict", data := .dict #[] } := by rw [← hs3]
  have sz : ∀ b ∈ fp, b < s2.heap.objs.size := fun b hb => by
    obtain ⟨o, e, _⟩ := T'.obj _ _ st2 b hb
    exact Heap.lt_size e
  have f3 : ∀ b ∈ fp, FpOk X pins (upd H2 D (DnO D o0 [])) b ∧ b < s3.heap.objs.size := fun b hb => by
    have hlt := sz b hb
    refine ⟨⟨?_, (f2 b hb).2⟩, by rw [h3, Heap.size_push]; exact Nat.lt_succ_of_lt hlt⟩
    rw [upd_ne (by rw [← hD]; exact Nat.ne_of_lt hlt)]
    exact (f2 b hb).1
  have st3 : tn 0 s3.heap := T'.keep _ _ _ st2 fun b _ o e => by rw [h3]; exact Heap.get?_push_of_some _ e
  have I4 := block_start I3 ok hN f3
  have pg := hg s3 (upd H2 D (DnO D o0 [])) s3.heap.objs.size (cellsFrom (s3.heap.objs.size + 1) scope.names (cloFrom X.env.cells scope.names [])) fp
  have pt := ht s3 (upd H2 D (DnO D o0 [])) s3.heap.objs.size (cellsFrom (s3.heap.objs.size + 1) scope.names (cloFrom X.env.cells scope.names [])) fp
  have pk := hk s3 (upd H2 D (DnO D o0 [])) s3.heap.objs.size (cellsFrom (s3.heap.objs.size + 1) scope.names (cloFrom X.env.cells scope.names [])) fp
  have pe := he s3 (upd H2 D (DnO D o0 [])) s3.heap.objs.size (cellsFrom (s3.heap.objs.size + 1) scope.names (cloFrom X.env.cells scope.names [])) fp
  show codeAny _ _ (.compStart (.DictComp kx vx [⟨tg, iter, ifs, 0⟩] scope pos) 0 (.ref it) (.ref D) (compEnvC scope (cellsFrom (s3.heap.objs.size + 1) scope.names (cloFrom X.env.cells scope.names [])) s3.heap.objs.size X.env)) (compPost (model X.prog X.w) X.A X.xe use Qf (.ref D) s3.heap.objs.size) { s3 with heap := pushCells (s3.heap.push { cls := .type "dict", data := .dict #[] }) scope.names }
  have nfp : ∀ b ∈ fp, (upd H2 D (DnO D o0 [])) b = none := fun b hb => (f3 b hb).1.1
  generalize hce : compEnvC scope (cellsFrom (s3.heap.objs.size + 1) scope.names (cloFrom X.env.cells scope.names [])) s3.heap.objs.size X.env = ce at I4 pg pt pk pe ⊢
  have cL : ce.locals = s3.heap.objs.size := by subst hce; rfl
  generalize hH3 : upd H2 D (DnO D o0 []) = H3 at I3 I4 pg pt pk pe w0 nfp f3
  generalize hs4 : ({ s3 with heap := pushCells (s3.heap.push { cls := .type "dict", data := .dict #[] }) scope.names } : Shared) = s4 at I4 ⊢
  have st4 : tn 0 s4.heap := T'.keep _ _ _ st3 fun b _ o e => by rw [← hs4]; exact pushCells_keeps _ _ _ _ (Heap.get?_push_of_some _ e)
  have stat : ∀ {σ' : L2.St} {H' : Hp} {s' : Shared}, Inv (X.blk s3 H3 scope ce fp) [] σ' H' s' → (∀ b ∈ fp, H' b = none) → ∀ b ∈ fp, FpOk (X.blk s3 H3 scope ce fp) [] H' b := fun {σ' H' s'} I' hn b hb =>
    ⟨hn b hb, (I'.ok.exf b hb).1, I'.ok.exfs b hb, .inl hb, fun x c e => (I'.ok.exf b hb).2 x c e, fun p hp => absurd (show p ∈ ([] : List (Addr × Obj)) ++ [] from hp) (by simp)⟩
  have loop : codeAny (model X.prog X.w) X.A (.compLoop (.DictComp kx vx [⟨tg, iter, ifs, 0⟩] scope pos) 0 (.ref it) (.ref D) ce) (compPost (model X.prog X.w) X.A X.xe use Qf (.ref D) s3.heap.objs.size) s4 := by
    refine compLoop_anyD (fun n s' => ∃ i H', Inv (X.blk s3 H3 scope ce fp) [] (L2.wipe σ (own.map (·.2))) H' s' ∧ tn i s'.heap ∧ (∀ b ∈ fp, H' b = none) ∧ W i n H') ?_ m0 ⟨0, H3, I4, st4, nfp, w0⟩
    rintro n s5 ⟨i, H5, I5, st5, n5, w5⟩
    rcases turn i n H5 w5 with ⟨stop, qq⟩ | ⟨go, Nx, hNx, step⟩
    · have td := T'.done (X.blk s3 H3 scope ce fp) rfl rfl rfl hc i [] s5 _ H5 (fun _ _ => False) I5 (stat I5 n5) st5 stop
      refine thnF td fun r s6 ⟨hr, I6⟩ => ?_
      subst hr
      have I7 : Inv X pins σ H5 s6 := I3.call' (ch := fp) I6.os I6.base I6.hok I6.bare fun b hb => ⟨(f3 b hb).1.2.2.2.1, (f3 b hb).1.2.1, (f3 b hb).1.2.2.2.2.1, (f3 b hb).1.2.2.2.2.2⟩
      have nC : H5 s3.heap.objs.size = none := by
        have z : H5 ce.locals = none := I6.free
        rw [cL] at z
        exact z
      obtain ⟨m, hn, _⟩ := I6.loc
      have hn : s6.heap.Ns ce.locals m := hn
      rw [cL] at hn
      exact hRR D s3.heap.objs.size s6 m H5 I7 qq hn (I3.fpOk (Nat.le_refl _) nC)
    · have ti := T'.item (X.blk s3 H3 scope ce fp) rfl rfl rfl hc i [] s5 _ H5 (fun _ _ => False) I5 (stat I5 n5) st5 go
      refine thnF ti fun r s6 ⟨u, hr, h6⟩ => ?_
      subst hr
      refine thnF h6 fun _ s7 ⟨x, H7, I7, r7, y7, st7, n7⟩ => ?_
      have I7' := I7.pinned (stat I7 n7) (T'.obj _ _ st7)
      refine thnF (pg.run _ s7 _ H7 x u _ I7' r7 (step x H7 y7)) fun _ s8 ⟨σ8, H8, I8, hw8, q8⟩ => ?_
      refine thnF (pt.run _ s8 σ8 H8 _ I8 q8) fun b s9 ⟨H9, I9, q9⟩ => ?_
      have fin : ∀ {s' : Shared} {H' : Hp}, Inv (X.blk s3 H3 scope ce fp) ([] ++ pinsAt fp s7.heap) σ8 H' s' → Nx H' → ∃ m, m < n ∧ ∃ i H', Inv (X.blk s3 H3 scope ce fp) [] (L2.wipe σ (own.map (·.2))) H' s' ∧ tn i s'.heap ∧ (∀ b ∈ fp, H' b = none) ∧ W i m H' := fun {s' H'} I' nx => by
        obtain ⟨m', hm, w'⟩ := hNx H' nx
        have pin' : ∀ b ∈ fp, ∀ o, s7.heap.get? b = some o → s'.heap.get? b = some o ∧ H' b = none := fun b hb o e =>
          let z := I'.pin (b, o) (List.mem_append_right _ (List.mem_append_right _ (mem_pinsAt hb e)))
          ⟨z.1, z.2.1⟩
        have hl : (L2.wipe σ (own.map (·.2))).length = σ8.length := by rw [← hw8, wipe_length]
        refine ⟨m', hm, i + 1, H', (I'.unpinned (pins := [])).weak hl (fun j v e => ?_), T'.keep _ _ _ st7 fun b hb o e => (pin' b hb o e).1, fun b hb => ?_, w'⟩
        · rw [← hw8] at e
          exact (wipe_some e).1
        · obtain ⟨o, e, _⟩ := T'.obj _ _ st7 b hb
          exact (pin' b hb o e).2
      cases b with
      | false =>
        simp only [Bool.false_eq_true, if_false] at q9 ⊢
        exact fin I9 q9
      | true =>
        simp only [if_true] at q9 ⊢
        refine thnF (pk.run _ s9 σ8 H9 _ I9 q9) fun z s10 ⟨yk, H10, I10, r10, q10⟩ => ?_
        refine thnF (pe.run _ s10 σ8 H10 _ I10 q10) fun z2 s11 ⟨yv, H11, I11, r11, J1, k, b1, b0, o1, xs, sub1, ey, bk, hk1, hD11, kn, hz11, nx⟩ => ?_
        subst ey
        cases r10
        exact ev_dset (X := X.blk s3 H3 scope ce fp) hu I11 sub1 hk1 bk hD11 kn hz11 fun o' s12 I12 => fin I12 (nx o' _ r11)
  exact codeAny_compStart_dict loop (T'.self X.A 0 _ _ _ st4 loop)
theorem pe_dcN {kx vx tg iter : Expr} {ifs : List Expr} {scope : Scope} {own : List (Str × Nat)} {pos : Pos} {wi : TI} {g : TG} {tt : TT} {tk tv : TE} (hu : X.A.units + 65 < cLine) (hc : X.calm = true) (hN : X.N.Nodup) (hi : PI X tg iter wi) (ok : BlkOk X.N X.env.scope scope own)
    (hg : ∀ (s : Shared) (H : Hp) (C : Addr) (cl : List (Str × Addr)) (fp : List Addr), PG (X.blk s H scope (compEnvC scope cl C X.env) fp) tg g) (ht : ∀ (s : Shared) (H : Hp) (C : Addr) (cl : List (Str × Addr)) (fp : List Addr), PTs (X.blk s H scope (compEnvC scope cl C X.env) fp) ifs tt)
    (hk : ∀ (s : Shared) (H : Hp) (C : Addr) (cl : List (Str × Addr)) (fp : List Addr), PE (X.blk s H scope (compEnvC scope cl C X.env) fp) kx tk)
    (he : ∀ (s : Shared) (H : Hp) (C : Addr) (cl : List (Str × Addr)) (fp : List Addr), PE (X.blk s H scope (compEnvC scope cl C X.env) fp) vx tv) (hs : ∀ x, foldedSetIterable iter X.env x = pure x) :
    PE X (.DictComp kx vx [⟨tg, iter, ifs, 0⟩] scope pos) (tDcN X.K wi g tt tk tv (own.map (·.2))) := by
  refine ⟨fun pins s σ H Q I h => ?_⟩
  rw [arm_eval_DictComp]
  refine dn_core hu hc hN I hi ok hg ht hk he hs h fun D C s' m H' I' q hn f => ⟨m, hn, fun h'' sb => ?_⟩
  obtain ⟨f0, f1, f2, f3, f4, f5⟩ := f
  exact ⟨.ref D, H', I'.turned (t' := s'.toks) (fun b o hb e => (sb.2 b hb).trans e) f0 f1 f3 f4 f5, rfl, q⟩
def AtN (K : PySem.W.Frag) (T : BoxT) (bx : Bx) (Ia Ha : Hp) (D : Addr) (R : List (PyData × PyData) → Prop) (H : Hp) : Prop := ∃ I u acc, Gw T bx Ia Ha I (hid D H) ∧ I D = none ∧ H D = some u ∧ FrO K I u (.dict acc) ∧ R acc
theorem lf_dcc {G : Gm} {it : It} {tg : Tg} {cd : Ox} {ek ev : Ex} {own : List Nat} (ho : ownT tg own = true) (ht : it.prs = true → tpB tg = true) {σ : L2.St} {H : Hp} {Q : VK} (h : lfE X.K T .fr (wpE G (.dcc ek ev tg it cd own)) σ H Q) :
    tDcN X.K (lfI X.K T it.prs (wpI G it)) (gOf X.K tg) (lfT X.K T (wpC G cd)) (lfE X.K T .st (wpE G ek)) (lfE X.K T .st (wpE G ev)) own σ H Q := by
  obtain ⟨bx, I0, H0, ρ, I, s, q⟩ := h
  simp only [wpE] at q
  refine ⟨bx, I0, H0, ρ, I, s, wpI_mono it (fun ds w J I1 H1 g1 wk D o hD => ?_) q⟩
  have s1 := (s.grow g1).wipe own
  have i1 : I1 D = none := hv_none g1.hv hD
  have np := hv_nfp g1.hv hD
  generalize hQd : (fun (kvs : List (PyData × PyData)) => ∀ v I' H', Gw T bx I H I' H' → Vl X.K bx H I' H' .fr v (.dict kvs) → Q v H') = Qd at w
  refine ⟨fun i m H => m = ds.length - i ∧ i ≤ ds.length ∧ AtN X.K T bx I1 H1 D (fun acc => wpDcc tg (wpC G cd) (wpE G ek) (wpE G ev) (wipeR ρ own) (ds.drop i) acc Qd) H,
    ⟨ds.length, by simp, Nat.zero_le _, I1, _, [], by rw [hid_upd, hid_new hD]; exact Gw.refl g1.hv, i1, upd_same, .dcn .nil, by simpa using w⟩, ?_⟩
  rintro i m Hc ⟨rfl, hi, Ic, uo, acc, g, iD, hHD, fo, w⟩
  have sI : Sub I1 Ic := g.sub s1.hv
  have hvH : Hv T bx Ic Hc := g.hv.unhide np
  by_cases hlt : i < ds.length
  · have hd : ds[i]? = some ds[i] := List.getElem?_eq_getElem hlt
    obtain ⟨go, yl⟩ := (wk i Ic Hc sI hvH).1 _ hd
    rw [drop_cons hd] at w
    refine .inr ⟨go, AtN X.K T bx I1 H1 D fun acc => wpDcc tg (wpC G cd) (wpE G ek) (wpE G ev) (wipeR ρ own) (ds.drop (i + 1)) acc Qd, fun H' n => ⟨ds.length - (i + 1), by omega, rfl, hlt, n⟩, fun x H' y => ?_⟩
    obtain ⟨I2, g2, dx⟩ := yl x H' y
    have i2 : I2 D = none := (g2.im D _ hHD).trans iD
    have e2 : H' D = some uo := g2.hp D _ hHD np
    have gg2 := g.trans (g2.hide np i2)
    have s2 := s1.grow gg2
    refine asg_ok ht s2 g2.hv.sub dx w fun ρ2 σ2 s3 w2 hw => ⟨(hw own ho).trans (wipe_wipe σ own), ?_⟩
    refine ⟨bx, I0, H0, ρ2, I2, s3.unhide np, wpC_mono cd (fun b w3 I3 H3 g3 => ?_) w2⟩
    have e3 : H3 D = some uo := g3.hp D _ e2 np
    have i3 : I3 D = none := (g3.im D _ e2).trans i2
    have gg3 := gg2.trans (g3.hide np i3)
    have fo3 : FrO X.K I3 uo (.dict acc) := (fo.sub (g2.sub hvH)).sub (g3.sub g2.hv)
    cases b with
    | false => exact ⟨I3, uo, acc, gg3, i3, e3, fo3, w3⟩
    | true =>
      simp only [if_true] at w3 ⊢
      refine ⟨bx, I0, H0, ρ2, I3, (s3.grow (g3.hide np i3)).unhide np, wpE_mono ek (fun x1 w4 v4 I4 H4 g4 b4 => ?_) w3⟩
      have e4 : H4 D = some uo := g4.hp D _ e3 np
      have i4 : I4 D = none := (g4.im D _ e3).trans i3
      have gg4 := gg3.trans (g4.hide np i4)
      refine ⟨bx, I0, H0, ρ2, I4, ((s3.grow (g3.hide np i3)).grow (g4.hide np i4)).unhide np, wpE_mono ev (fun y1 w5 v5 I5 H5 g5 b5 => ?_) w4⟩
      have e5 : H5 D = some uo := g5.hp D _ e4 np
      have i5 : I5 D = none := (g5.im D _ e4).trans i4
      have fo5 := (fo3.sub (g4.sub g3.hv)).sub (g5.sub g4.hv)
      refine PutN.toK (T := T) ⟨bx, I5, x1, y1, acc, uo, g5.hv, .inl (Dq.sub (g5.sub g4.hv) b4), b5, w5.1, w5.2.1, e5, fo5, w5.2.2.1, fun u' fo' => ⟨I5, u', _, ?_, i5, upd_same, fo', w5.2.2.2⟩⟩
      rw [hid_upd]
      exact gg4.trans (g5.hide np i5)
  · have e : i = ds.length := by omega
    subst e
    refine .inl ⟨(wk _ Ic Hc sI hvH).2 (Nat.le_refl _), ?_⟩
    rw [List.drop_length] at w
    have w : Qd acc := w
    rw [← hQd] at w
    exact w _ Ic Hc (g1.trans (g.unhide np)) (.inl ⟨D, _, rfl, g1.free hD, iD, hHD, fo⟩)
/-- {k: v} -/
def tDcd (K : PySem.W.Frag) (tk tv : TE) : TE := fun σ H Q => ∀ p o, H p = none → tk σ (upd H p (DnO p o [])) fun y H1 => tv σ H1 fun z H2 => PutK K p (fun H3 => Q (.ref p) H3) y z H2
theorem pe_dcd {k v : Expr} {tk tv : TE} {pos : Pos} (hu : X.A.units + 65 < cLine) (hk : PE X k tk) (hv : PE X v tv) : PE X (.Dict [some k] [v] pos) (tDcd X.K tk tv) := by
  refine ⟨fun pins s σ H Q I q => ?_⟩
  have hn := I.hok.fresh (Nat.le_refl s.heap.objs.size)
  have I1 := I.laid (a := s.heap.objs.size) (o := .dK []) (h' := s.heap.push { cls := .type "dict", data := .dict #[] }) (t' := s.toks) (fun _ _ q => Heap.get?_push_of_some _ q) (Nat.le_refl _) (dk_empty s.heap I.big)
  obtain ⟨o0, I1⟩ := dk_dn I1 upd_same
  rw [upd_upd] at I1
  have hlen := pairTrees_length [some k] [v] X.env pos rfl rfl
  rw [arm_eval_Dict, zip_pairTrees [some k] [v] X.env pos rfl rfl, dictDisplay_pairs _ (fun e => by rw [e] at hlen; cases hlen) (by rw [hlen]; simp)]
  refine wpAny_bind (wpAny_standAt (wpAny_bind ?_))
  unfold subDict
  refine wpAny_bind (wpAny_alloc ?_)
  refine wpAny_bind (wpAny_holding ?_)
  rw [if_pos (by rw [hlen]; simp)]
  refine wpAny_bind (pairTrees_cons_walk (thn (hk.run pins _ σ _ _ I1 (q _ o0 hn)) fun kv s2 ⟨y, H1, I2, ry, q1⟩ => thn (hv.run pins s2 σ H1 _ I2 q1) fun vv s3 ⟨z, H2, I3, rz, pn⟩ => pairTrees_nil_walk ?_))
  obtain ⟨J1, kd, b1, b0, o1, xs, sub1, rfl, bk, hk1, hD, kn, hz, nx⟩ := pn
  cases ry
  refine wpAny_holding ?_
  rw [List.forIn_cons]
  refine wpAny_bind (wpAny_bind (wpAny_bind (ev_dset hu I3 sub1 hk1 bk hD kn hz fun o' s4 I4 => wpAny_pure ?_)))
  simp only [List.forIn_nil]
  exact wpAny_pure (wpAny_pure (wpAny_pure (wpAny_pure ⟨.ref _, _, I4, rfl, nx o' _ rz⟩)))
end
end Ef

end

section
set_option autoImplicit false
namespace Ef
open PySem L2 PySem.Spec PyProof.Rows
/-! ### dicts of lists of one's own -/
section
variable {K : PySem.W.Frag} {T : BoxT} {bx : Bx} {I0 H0 I H I' H' : Hp} {ρ : Rho} {σ : L2.St}
theorem DlNs.keysN : ∀ {xs kvs fp}, DlNs K bx H0 I H xs kvs fp → KeysN K I xs
  | _, _, _, .nil => fun x h => by cases h
  | _, _, _, .cons h1 h2 _ _ _ _ _ _ q => fun x hx => by
    rcases List.mem_cons.mp hx with rfl | hx
    · exact ⟨_, h2, rfl, h1⟩
    · exact DlNs.keysN q x hx
theorem DlNs.low {H1 : Hp} (hl : ∀ c, H1 c = none → H0 c = none) : ∀ {xs kvs fp}, DlNs K bx H1 I H xs kvs fp → DlNs K bx H0 I H xs kvs fp
  | _, _, _, .nil => .nil
  | _, _, _, .cons h1 h2 h3 h4 h5 h6 h7 h8 q => .cons h1 h2 (hl _ h3) h4 h5 h6 h7 h8 (DlNs.low hl q)
theorem DlNs.length : ∀ {xs kvs fp}, DlNs K bx H0 I H xs kvs fp → xs.length = kvs.length
  | _, _, _, .nil => rfl
  | _, _, _, .cons _ _ _ _ _ _ _ _ q => by simp [DlNs.length q]
theorem DlNs.keys : ∀ {xs kvs fp}, DlNs K bx H0 I H xs kvs fp → ∀ p ∈ kvs, keyN p.1 = true
  | _, _, _, .nil, p, h => by cases h
  | _, _, _, .cons _ h2 _ _ _ _ _ _ q, p, h => by
    rcases List.mem_cons.mp h with rfl | h
    · exact h2
    · exact DlNs.keys q p h
theorem DlNs.look {k : PyData} (hk : keyN k = true) : ∀ {xs kvs fp}, DlNs K bx H0 I H xs kvs fp → ((kvs.any fun p => keyEq p.1 k) = false ∧ atKey xs (nk k) = none) ∨ ∃ b c ys ds, lookL kvs k = some ds ∧ (kvs.any fun p => keyEq p.1 k) = true ∧ atKey xs (nk k) = some (b, .ref c) ∧ H c = some (.lst ys) ∧ DqAll K I ys ds ∧ c ∈ fp
  | _, _, _, .nil => .inl ⟨rfl, rfl⟩
  | _, _, _, .cons (b := b) (c := c) (k := j) (ys := ys) (ds := ds) (xs := xs) (kvs := kvs) h1 h2 h3 h4 h5 h6 h7 h8 q => by
    have e := key_eq h2 hk
    by_cases e2 : nk j = nk k
    · exact .inr ⟨b, c, ys, ds, by simp [lookL, e, e2], by simp [e, e2], by simp [atKey, e2], h5, h6, List.mem_cons_self⟩
    · have e1 : lookL ((j, ds) :: kvs) k = lookL kvs k := by simp [lookL, e, e2]
      have e3 : atKey ((nk j, b, Value.ref c) :: xs) (nk k) = atKey xs (nk k) := by simp [atKey, e2]
      have e4 : (((j, ds) :: kvs).any fun p => keyEq p.1 k) = (kvs.any fun p => keyEq p.1 k) := by simp [e, e2]
      rw [e1, e3, e4]
      rcases DlNs.look hk q with h | ⟨b, c, ys, ds, a1, a2, a3, a4, a5, a6⟩
      · exact .inl h
      · exact .inr ⟨b, c, ys, ds, a1, a2, a3, a4, a5, List.mem_cons_of_mem _ a6⟩
theorem DlNs.add {k d : PyData} {v : V} (hk : keyN k = true) (dv : Dq K I v d) : ∀ {xs kvs fp}, DlNs K bx H0 I H xs kvs fp → ∀ {b c : Addr} {ys : List V}, atKey xs (nk k) = some (b, .ref c) → H c = some (.lst ys) → DlNs K bx H0 I (upd H c (.lst (ys ++ [v]))) xs (addL kvs k d) fp
  | _, _, _, .nil, b, c, ys, h, _ => by simp [atKey] at h
  | _, _, _, .cons (b := b0) (c := c0) (k := j) (ys := ys0) (ds := ds0) (xs := xs) (kvs := kvs) (fp := fp) h1 h2 h3 h4 h5 h6 h7 h8 q, b, c, ys, hat, hc => by
    have e := key_eq h2 hk
    by_cases e2 : nk j = nk k
    · have e3 : atKey ((nk j, b0, Value.ref c0) :: xs) (nk k) = some (b0, .ref c0) := by simp [atKey, e2]
      rw [e3] at hat
      cases hat
      rw [h5] at hc
      cases hc
      have e4 : addL ((j, ds0) :: kvs) k d = (j, ds0 ++ [d]) :: kvs := by simp [addL, e, e2]
      rw [e4]
      exact .cons h1 h2 h3 h4 upd_same (h6.append (.cons dv .nil)) h7 h8 (q.keep (fun _ _ e => e) (fun c' hc' => (q.at_ c' hc').2.1) fun c' hc' => upd_ne fun z => h8 (z ▸ hc'))
    · have e3 : atKey ((nk j, b0, Value.ref c0) :: xs) (nk k) = atKey xs (nk k) := by simp [atKey, e2]
      rw [e3] at hat
      have e4 : addL ((j, ds0) :: kvs) k d = (j, ds0) :: addL kvs k d := by simp [addL, e, e2]
      rw [e4]
      have hin : c ∈ fp := by
        rcases DlNs.look hk q with ⟨_, z⟩ | ⟨_, _, _, _, _, _, a3, _, _, a6⟩
        · rw [z] at hat; cases hat
        · rw [a3] at hat; cases hat; exact a6
      exact .cons h1 h2 h3 h4 (by rw [upd_ne fun z => h8 (by rw [z]; exact hin)]; exact h5) h6 h7 h8 (DlNs.add hk dv q hat hc)
theorem DlNs.app {k : PyData} {b c : Addr} (hk : keyN k = true) (hb : Dq K I (.ref b) k) (h0 : H0 c = none) (hi : I c = none) (hc : H c = some (.lst [])) (np : c ∉ fpOf bx) : ∀ {xs kvs fp}, DlNs K bx H0 I H xs kvs fp → c ∉ fp → DlNs K bx H0 I H (xs ++ [(nk k, b, .ref c)]) (kvs ++ [(k, [])]) (fp ++ [c])
  | _, _, _, .nil, _ => .cons hb hk h0 hi hc .nil np (fun z => nomatch z) .nil
  | _, _, _, .cons h1 h2 h3 h4 h5 h6 h7 h8 q, n => .cons h1 h2 h3 h4 h5 h6 h7 (fun z => by
      rcases List.mem_append.mp z with z | z
      · exact h8 z
      · rw [List.mem_singleton.mp z] at n; exact n List.mem_cons_self) (DlNs.app hk hb h0 hi hc np q fun z => n (List.mem_cons_of_mem _ z))
/-- all that is known of a slot with a dict of lists -/
structure DlU (K : PySem.W.Frag) (bx : Bx) (H0 : Hp) (ρ : Rho) (σ : L2.St) (I H : Hp) (i : Nat) (a b : Addr) (o : Obj) (xs : List (NestedKey × Addr × Value)) (kvs : List (PyData × List PyData)) (fp : List Addr) : Prop where
  at_ : σ[i]? = some (some (.ref a))
  h0 : H0 a = none
  hi : I a = none
  ha : H a = some (DnO b o xs)
  np : a ∉ fpOf bx
  nf : a ∉ fp
  ns : DlNs K bx H0 I H xs kvs fp
  dj : ∀ (j : Nat) (t : Sl) (d : PyData) (b : Addr), ρ[j]? = some t → mutS t = some d → σ[j]? = some (some (.ref b)) → b ≠ a ∧ b ∉ fp
  un : ∀ (j : Nat) (kvs' : List (PyData × List PyData)), ρ[j]? = some (.dol kvs') → j = i
theorem SA.dlU {i : Nat} {kvs} (s : SA K T bx I0 H0 ρ σ I H) (e : ρ[i]? = some (.dol kvs)) : ∃ a b o xs fp, DlU K bx H0 ρ σ I H i a b o xs kvs fp := by
  obtain ⟨a, fp, e1, ⟨b, o, xs, h1, h2, h3, h4, h5, q⟩, h6, _, h8⟩ := s.dl i kvs e
  exact ⟨a, b, o, xs, fp, e1, h1, h2, h3, h4, h5, q, h6, h8⟩
theorem DlU.grow {i a b o xs kvs fp} (u : DlU K bx H0 ρ σ I H i a b o xs kvs fp) (hv : Hv T bx I H) (g : Gw T bx I H I' H') : DlU K bx H0 ρ σ I' H' i a b o xs kvs fp :=
  ⟨u.at_, u.h0, (g.im a _ u.ha).trans u.hi, g.hp a _ u.ha u.np, u.np, u.nf, u.ns.keep (g.sub hv) (fun c hc => by
    obtain ⟨_, k2, ⟨ys, k3⟩, _⟩ := u.ns.at_ c hc
    exact (g.im c _ k3).trans k2) (fun c hc => by
    obtain ⟨_, _, ⟨ys, k3⟩, k4⟩ := u.ns.at_ c hc
    rw [k3]; exact g.hp c _ k3 k4), u.dj, u.un⟩
/-- a place of one's own in no slot is written: what stands in the slots stays -/
theorem SA.poke {i c : Nat} {u : HO} {sl : Sl} {kvs0} (s : SA K T bx I0 H0 ρ σ I H) (e : ρ[i]? = some (.dol kvs0)) (un : ∀ (j : Nat) (kvs' : List (PyData × List PyData)), ρ[j]? = some (.dol kvs') → j = i) (hs : ∃ kvs, sl = .dol kvs) (g : Gw T bx I0 H0 I (upd H c u)) (hd : ∀ (j : Nat) (t : Sl) (d : PyData) (b : Addr), ρ[j]? = some t → mutS t = some d → σ[j]? = some (some (.ref b)) → b ≠ c)
    (dl : DlOk K bx H0 (ρ.set i sl) σ I (upd H c u) []) : SA K T bx I0 H0 (ρ.set i sl) σ I (upd H c u) := by
  obtain ⟨kvs, rfl⟩ := hs
  refine ⟨g, by simp [s.len], fun j sj ej => ?_, fun j k t1 t2 c1 c2 hjk e3 e4 k1 k2 => ?_, dl⟩
  · rcases set_cell ej with ⟨_, z⟩ | ⟨_, ej⟩
    · subst z; trivial
    · have z := s.sl j sj ej
      have mu : ∀ d, mutS sj = some d → SlOk K bx H0 I (upd H c u) sj σ[j]? := fun d hd' => by
        obtain ⟨b, v, e3, k0, k1, k2, q2, m⟩ := (slMu hd').mp z
        refine (slMu hd').mpr ⟨b, v, e3, k0, k1, ?_, q2, m⟩
        rw [upd_ne (hd j sj d b ej hd' e3)]
        exact k2
      cases sj with
      | un => trivial
      | dat d => exact z
      | own fs => exact mu _ rfl
      | dic fs => exact mu _ rfl
      | dol _ => trivial
      | box => exact z
  · rcases set_cell e3 with ⟨_, z⟩ | ⟨_, e3⟩
    · subst z; cases k1
    rcases set_cell e4 with ⟨_, z⟩ | ⟨_, e4⟩
    · subst z; cases k2
    exact s.dj j k t1 t2 c1 c2 hjk e3 e4 k1 k2
theorem DlU.ok {i a b o xs kvs fp} (u : DlU K bx H0 ρ σ I H i a b o xs kvs fp) (e : ∀ (j : Nat) (kvs' : List (PyData × List PyData)), ρ[j]? = some (.dol kvs') → kvs' = kvs) : DlOk K bx H0 ρ σ I H [] := fun j kvs' ej => by
  have e1 := u.un j kvs' ej
  subst e1
  have e2 := e j kvs' ej
  subst e2
  exact ⟨a, fp, u.at_, ⟨b, o, xs, u.h0, u.hi, u.ha, u.np, u.nf, u.ns⟩, u.dj, (fun _ h => nomatch h), u.un⟩
theorem DlU.reset {i a b o xs kvs fp} {kvs2 : List (PyData × List PyData)} {H2 : Hp} {b2 o2 xs2 fp2} (u : DlU K bx H0 ρ σ I H i a b o xs kvs fp) (ha : H2 a = some (DnO b2 o2 xs2)) (nf : a ∉ fp2) (ns : DlNs K bx H0 I H2 xs2 kvs2 fp2) (dj : ∀ (j : Nat) (t : Sl) (d : PyData) (b : Addr), ρ[j]? = some t → mutS t = some d → σ[j]? = some (some (.ref b)) → b ∉ fp2) : DlU K bx H0 (ρ.set i (.dol kvs2)) σ I H2 i a b2 o2 xs2 kvs2 fp2 :=
  ⟨u.at_, u.h0, u.hi, ha, u.np, nf, ns, fun j t d b e m e2 => by
    rcases set_cell e with ⟨_, z⟩ | ⟨_, e⟩
    · subst z; cases m
    · exact ⟨(u.dj j t d b e m e2).1, dj j t d b e m e2⟩, fun j kvs' e => by
    rcases set_cell e with ⟨z, _⟩ | ⟨_, e⟩
    · exact z.symm
    · exact u.un j kvs' e⟩
theorem reset_eq {i : Nat} {kvs2 : List (PyData × List PyData)} (un : ∀ (j : Nat) (kvs' : List (PyData × List PyData)), ρ[j]? = some (.dol kvs') → j = i) : ∀ (j : Nat) (kvs' : List (PyData × List PyData)), (ρ.set i (.dol kvs2))[j]? = some (.dol kvs') → kvs' = kvs2 := fun j kvs' e => by
  rcases set_cell e with ⟨_, z⟩ | ⟨ne, e⟩
  · cases z; rfl
  · exact absurd (un j kvs' e).symm ne
/-- one more in the list of a key -/
theorem SA.addDl {i a b o xs kvs fp} {k d : PyData} {v : V} {b1 c : Addr} {ys : List V} (s : SA K T bx I0 H0 ρ σ I H) (e : ρ[i]? = some (.dol kvs)) (u : DlU K bx H0 ρ σ I H i a b o xs kvs fp) (hk : keyN k = true) (dv : Dq K I v d) (hat : atKey xs (nk k) = some (b1, .ref c)) (hc : H c = some (.lst ys)) :
    SA K T bx I0 H0 (ρ.set i (.dol (addL kvs k d))) σ I (upd H c (.lst (ys ++ [v]))) := by
  have hin : c ∈ fp := by
    rcases u.ns.look hk with ⟨_, z⟩ | ⟨_, _, _, _, _, _, a3, _, _, a6⟩
    · rw [z] at hat; cases hat
    · rw [a3] at hat; cases hat; exact a6
  obtain ⟨c0, ci, _, cn⟩ := u.ns.at_ c hin
  have u2 : DlU K bx H0 (ρ.set i (.dol (addL kvs k d))) σ I (upd H c (.lst (ys ++ [v]))) i a b o xs (addL kvs k d) fp :=
    u.reset (by rw [upd_ne fun z => u.nf (by rw [z]; exact hin)]; exact u.ha) u.nf (u.ns.add hk dv hat hc) fun j t d b e m e2 => (u.dj j t d b e m e2).2
  exact s.poke e u.un ⟨_, rfl⟩ (s.gw.write _ c0 ci cn) (fun j t d b e m e2 z => (u.dj j t d b e m e2).2 (by rw [z]; exact hin)) (u2.ok (reset_eq u.un))
/-- a new key, its list empty -/
theorem SA.newDl {i a b o o' xs kvs fp} {k : PyData} {b1 c : Addr} (s : SA K T bx I0 H0 ρ σ I H) (e : ρ[i]? = some (.dol kvs)) (u : DlU K bx H0 ρ σ I H i a b o xs kvs fp) (hk : keyN k = true) (hb : Dq K I (.ref b1) k) (c0 : H0 c = none) (ci : I c = none) (hc : H c = some (.lst [])) (cn : c ∉ fpOf bx) (ca : c ≠ a) (cf : c ∉ fp)
    (cd : ∀ (j : Nat) (t : Sl) (d : PyData) (b : Addr), ρ[j]? = some t → mutS t = some d → σ[j]? = some (some (.ref b)) → b ≠ c) :
    SA K T bx I0 H0 (ρ.set i (.dol (kvs ++ [(k, [])]))) σ I (upd H a (DnO a o' (xs ++ [(nk k, b1, .ref c)]))) ∧ DlU K bx H0 (ρ.set i (.dol (kvs ++ [(k, [])]))) σ I (upd H a (DnO a o' (xs ++ [(nk k, b1, .ref c)]))) i a a o' (xs ++ [(nk k, b1, .ref c)]) (kvs ++ [(k, [])]) (fp ++ [c]) := by
  have ns : DlNs K bx H0 I (upd H a (DnO a o' (xs ++ [(nk k, b1, .ref c)]))) xs kvs fp := u.ns.keep (fun _ _ e => e) (fun c hc => (u.ns.at_ c hc).2.1) fun c hc => upd_ne fun z => u.nf (by rw [← z]; exact hc)
  have u2 : DlU K bx H0 (ρ.set i (.dol (kvs ++ [(k, [])]))) σ I (upd H a (DnO a o' (xs ++ [(nk k, b1, .ref c)]))) i a a o' (xs ++ [(nk k, b1, .ref c)]) (kvs ++ [(k, [])]) (fp ++ [c]) :=
    u.reset upd_same (fun z => by
      rcases List.mem_append.mp z with z | z
      · exact u.nf z
      · exact ca (List.mem_singleton.mp z).symm) (ns.app hk hb c0 ci (by rw [upd_ne ca]; exact hc) cn cf) fun j t d b e m e2 z => by
      rcases List.mem_append.mp z with z | z
      · exact (u.dj j t d b e m e2).2 z
      · exact cd j t d b e m e2 (List.mem_singleton.mp z)
  exact ⟨s.poke e u.un ⟨_, rfl⟩ (s.gw.write _ u.h0 u.hi u.np) (fun j t d b e m e2 => (u.dj j t d b e m e2).1) (u2.ok (reset_eq u.un)), u2⟩
/-- a slot is set to a dict of lists -/
theorem SA.setDl {i a b : Nat} {o : Obj} {xs kvs fp} {σ' : L2.St} (s : SA K T bx I0 H0 ρ σ I H) (nd : ∀ j kvs', j ≠ i → ρ[j]? ≠ some (.dol kvs')) (hl : σ'.length = σ.length) (hσ : ∀ j, i ≠ j → σ'[j]? = σ[j]?) (hi : i < ρ.length → σ'[i]? = some (some (.ref a))) (h0 : H0 a = none) (h1 : I a = none) (ha : H a = some (DnO b o xs)) (np : a ∉ fpOf bx) (nf : a ∉ fp) (ns : DlNs K bx H0 I H xs kvs fp)
    (hd : ∀ (j : Nat) (t : Sl) (d : PyData) (b : Addr), j ≠ i → ρ[j]? = some t → mutS t = some d → σ[j]? = some (some (.ref b)) → b ≠ a ∧ b ∉ fp) : SA K T bx I0 H0 (ρ.set i (.dol kvs)) σ' I H := by
  refine ⟨s.gw, by simp [s.len, hl], fun j sj ej => ?_, fun j k t1 t2 c1 c2 hjk e3 e4 k1 k2 => ?_, fun j kvs' ej => ?_⟩
  · rcases set_cell ej with ⟨_, z⟩ | ⟨ne, ej⟩
    · subst z; trivial
    · rw [hσ j ne]; exact s.sl j sj ej
  · rcases set_cell e3 with ⟨_, z⟩ | ⟨n1, e3⟩
    · subst z; cases k1
    rcases set_cell e4 with ⟨_, z⟩ | ⟨n2, e4⟩
    · subst z; cases k2
    rw [hσ j n1, hσ k n2]
    exact s.dj j k t1 t2 c1 c2 hjk e3 e4 k1 k2
  · rcases set_cell ej with ⟨z1, z⟩ | ⟨ne, ej⟩
    · subst z1
      cases z
      have hlt : i < ρ.length := by
        by_cases h : i < ρ.length
        · exact h
        · rw [List.getElem?_eq_none (by simp; omega)] at ej; cases ej
      refine ⟨a, fp, hi hlt, ⟨b, o, xs, h0, h1, ha, np, nf, ns⟩, fun j t d b e m e2 => ?_, (fun _ h => nomatch h), fun j kvs' e => ?_⟩
      · rcases set_cell e with ⟨_, z⟩ | ⟨n, e⟩
        · subst z; cases m
        · rw [hσ j n] at e2; exact hd j t d b (fun z => n z.symm) e m e2
      · rcases set_cell e with ⟨z, _⟩ | ⟨n, e⟩
        · exact z.symm
        · exact absurd e (nd j kvs' fun z => n z.symm)
    · exact absurd ej (nd j kvs' fun z => ne z.symm)
/-- a slot without use -/
theorem SA.setUn {j : Nat} {v : V} (s : SA K T bx I0 H0 ρ σ I H) : SA K T bx I0 H0 (ρ.set j .un) (σ.set j (some v)) I H := by
  refine ⟨s.gw, by simp [s.len], fun k sk ek => ?_, fun j1 k t1 t2 c1 c2 hjk e3 e4 k1 k2 => ?_, fun k kvs ek => ?_⟩
  · rcases set_cell ek with ⟨_, z⟩ | ⟨ne, ek⟩
    · subst z; trivial
    · rw [List.getElem?_set_ne ne]; exact s.sl k sk ek
  · rcases set_cell e3 with ⟨_, z⟩ | ⟨n1, e3⟩
    · subst z; cases k1
    rcases set_cell e4 with ⟨_, z⟩ | ⟨n2, e4⟩
    · subst z; cases k2
    rw [List.getElem?_set_ne n1, List.getElem?_set_ne n2]
    exact s.dj j1 k t1 t2 c1 c2 hjk e3 e4 k1 k2
  · rcases set_cell ek with ⟨_, z⟩ | ⟨ne, ek⟩
    · cases z
    obtain ⟨a, fp, e1, h1, h2, h3, h4⟩ := s.dl k kvs ek
    refine ⟨a, fp, by rw [List.getElem?_set_ne ne]; exact e1, h1, fun l t d b e m e2 => ?_, h3, fun l kvs' e => ?_⟩
    · rcases set_cell e with ⟨_, z⟩ | ⟨n, e⟩
      · subst z; cases m
      · rw [List.getElem?_set_ne n] at e2; exact h2 l t d b e m e2
    · rcases set_cell e with ⟨_, z⟩ | ⟨_, e⟩
      · cases z
      · exact h4 l kvs' e
theorem DlU.setUn {i j a b o xs kvs fp} {v : V} (u : DlU K bx H0 ρ σ I H i a b o xs kvs fp) (ne : i ≠ j) : DlU K bx H0 (ρ.set j .un) (σ.set j (some v)) I H i a b o xs kvs fp :=
  ⟨by rw [List.getElem?_set_ne (Ne.symm ne)]; exact u.at_, u.h0, u.hi, u.ha, u.np, u.nf, u.ns, fun l t d b e m e2 => by
    rcases set_cell e with ⟨_, z⟩ | ⟨n, e⟩
    · subst z; cases m
    · rw [List.getElem?_set_ne n] at e2; exact u.dj l t d b e m e2, fun l kvs' e => by
    rcases set_cell e with ⟨_, z⟩ | ⟨_, e⟩
    · cases z
    · exact u.un l kvs' e⟩
theorem addL_sdL (kvs : List (PyData × List PyData)) {k d : PyData} (hk : keyEq k k = true) : addL (sdL kvs k) k d = addL kvs k d := by
  unfold sdL
  split
  · rfl
  · rename_i h
    induction kvs with
    | nil => simp [addL, hk]
    | cons p r ih =>
      simp only [List.any_cons, Bool.or_eq_true, not_or] at h
      have : keyEq p.1 k = false := by simpa using h.1
      obtain ⟨j, ds⟩ := p
      simp only [List.cons_append, addL, this, Bool.false_eq_true, if_false, ih h.2]
theorem keyEq_self {k : PyData} (hk : keyN k = true) : keyEq k k = true := by rw [key_eq hk hk]; simp
end
/-! ### the rules -/
section
variable {X : Cx} {T : BoxT} {pins : List (Addr × Obj)} {σ : L2.St} {H J : Hp} {s : Shared} {E : Value → Shared → Prop}
/-- d[k] of a dict with tuples as keys -/
def rGetK (K : PySem.W.Frag) : R2 := fun x y H Q => ∃ J a b0 o xs k b b' u v, Sub J H ∧ x = .ref a ∧ H a = some (DnO b0 o xs) ∧ KeysN K J xs ∧ y = .ref b ∧ Dq K J (.ref b) k ∧ keyN k = true ∧ atKey xs (nk k) = some (b', u) ∧ RelV v u ∧ Q v H
theorem ix_getK (hu : X.A.units + 65 < cLine) : IxR X (rGetK X.K) := by
  intro value slice pins s σ H x y v u Q I rx ry h hs
  obtain ⟨J, a, b0, o, xs, k, b, b', w, z, sb, rfl, ha, kn, rfl, hb, hk, hat, rz, q⟩ := h
  cases rx
  cases ry
  obtain ⟨_, hg, hd, hx, hm⟩ := dnk_at I ha (kn.sub sb)
  exact ix_dictN ⟨o, hg, hx.1.1⟩ (wpAny_getItem_heap (room_n hu) (key_is I hk (hb.sub sb)) hm hat ⟨z, H, I.tok _, rz, q⟩) hs
/-- d.setdefault(k, v) of a dict with tuples as keys -/
def tSdK (K : PySem.W.Frag) (to ty tz : TE) : TE := fun σ H Q => to σ H fun x H1 => ∃ a, x = .ref a ∧ isDc H1 a ∧ ty σ H1 fun y H2 => tz σ H2 fun z H3 => ∃ J k b b0 o xs, Sub J H3 ∧ y = .ref b ∧ Dq K J (.ref b) k ∧ keyN k = true ∧ H3 a = some (DnO b0 o xs) ∧ KeysN K J xs ∧ xs.length < sizeLine ∧
  (∀ p, atKey xs (nk k) = some p → ∃ v, RelV v p.2 ∧ Q v H3) ∧ (atKey xs (nk k) = none → ∀ o' u, RelV z u → Q z (upd H3 a (DnO a o' (storedH xs (nk k) b u))))
theorem pe_sdK {o y z : Expr} {to ty tz : TE} {pp qq : Pos} (hu : X.A.units + 65 < cLine) (ho : PE X o to) (hy : PE X y ty) (hz : PE X z tz) (py : plainE y = true) (pz : plainE z = true) (hb : attributeBase o (Str.ofString "setdefault") X.env (eval o X.env) = eval o X.env) (hl : (pp.endLine == qq.line) = true) : PE X (.Call (.Attribute o (Str.ofString "setdefault") pp) [y, z] [] qq) (tSdK X.K to ty tz) := by
  have s1 := star_plain py [z] X.env
  have s2 := star_plain pz [] X.env
  refine ⟨fun pins s σ H Q I h => wpAny_Call_method hb (by rw [s1, s2]; rfl) hl F.plainAttrs_dict F.slot_dict_setdefault F.type_dict_setdefault (thn (ho.run pins s σ H _ I h) fun u s1' ⟨x, H1, I1, rx, a, ex, d, q1⟩ => ?_)⟩
  subst ex
  cases rx
  obtain ⟨t1, t2⟩ := isDc_at I1 d
  refine ⟨t1, t2, ?_⟩
  rw [show backTo qq (starEach [y, z] X.env) = [(false, eval y X.env), (false, eval z X.env)] by rw [s1, s2]; rfl]
  refine Calls.callWith_builtin rfl (Calls.evalArgs_plain (Calls.spliced_cons (thn (hy.run pins s1' σ H1 _ I1 q1) fun iv s2' ⟨yv, H2, I2, ry, q2⟩ => Calls.spliced_cons (thn (hz.run pins s2' σ H2 _ I2 q2) fun fv s3 ⟨zv, H3, I3, rz, J, k, b, b0, o', xs, sb, ey, hb', hk, ha, kn, hzl, f1, f2⟩ => Calls.spliced_nil ?_))))
  subst ey
  cases ry
  obtain ⟨_, _, hd, _, hm⟩ := dnk_at I3 ha (kn.sub sb)
  refine call_setdefault_heap (hsz := Nat.le_of_lt hzl) (room_n hu) (key_is I3 hk (hb'.sub sb)) hd hm (fun p hp => ?_) fun hn h' hm' sb' => ?_
  · obtain ⟨v, rv, q⟩ := f1 p hp
    exact ⟨v, H3, I3.tok _, rv, q⟩
  · obtain ⟨l1, l2⟩ := storedH_len xs (nk k) b fv
    obtain ⟨o2, e2, ho2⟩ := dictK_H ((kn.sub sb).put hk (hb'.sub sb)) hm' (by omega)
    refine ⟨zv, _, d_write I3 ?_ sb' ⟨o2, e2⟩ (dnO_new e2 hd ho2), rz, f2 hn o2 fv rz⟩
    rw [ha]
    exact True.intro
/-- {k: [] for ..} -/
theorem lf_dlc {G : Gm} {it : It} {tg : Tg} {ek : Ex} {own : List Nat} {i : Nat} (ho : ownT tg own = true) (ht : it.prs = true → tpB tg = true) {σ : L2.St} {H : Hp} {D : L2.St → Hp → Prop}
    (h : ∃ bx I0 H0 ρ I, SA X.K T bx I0 H0 ρ σ I H ∧ wpI G it ρ fun ds => wpDlc tg (wpE G ek) (wipeR ρ own) ds [] fun kvs => noDol ρ = true ∧ ∀ σ' I' H', Sub I I' → SA X.K T bx I0 H0 (ρ.set i (.dol kvs)) σ' I' H' → D σ' H') :
    tAsg (tDcN X.K (lfI X.K T it.prs (wpI G it)) (gOf X.K tg) (lfT X.K T (wpC G .no)) (lfE X.K T .st (wpE G ek)) (tLst tNil) own) (gName i) ⟨D, fun _ _ => False, fun _ _ => False, fun _ _ => False⟩ σ H := by
  obtain ⟨bx, I0, H0, ρ, I, s, q⟩ := h
  refine ⟨bx, I0, H0, ρ, I, s, wpI_mono it (fun ds w J I1 H1 g1 wk A o hA => ?_) q⟩
  have sw := (s.grow g1).wipe own
  have s1 := s.grow g1
  have i1 : I1 A = none := hv_none g1.hv hA
  have np := hv_nfp g1.hv hA
  generalize hQd : (fun (kvs : List (PyData × List PyData)) => noDol ρ = true ∧ ∀ σ' I' H', Sub I I' → SA X.K T bx I0 H0 (ρ.set i (.dol kvs)) σ' I' H' → D σ' H') = Qd at w
  refine ⟨fun n m H => m = ds.length - n ∧ n ≤ ds.length ∧ ∃ I2 b0 o xs kvs fp, Gw T bx I1 H1 I2 H ∧ I2 A = none ∧ H A = some (DnO b0 o xs) ∧ A ∉ fp ∧ DlNs X.K bx H1 I2 H xs kvs fp ∧ wpDlc tg (wpE G ek) (wipeR ρ own) (ds.drop n) kvs Qd,
    ⟨ds.length, by simp, Nat.zero_le _, I1, _, _, _, [], [], Gw.mut _ g1.hv hA, i1, upd_same, (fun z => nomatch z), .nil, by simpa using w⟩, ?_⟩
  rintro n m Hc ⟨rfl, hi, Ic, b0, o1, xs, kvs, fp, g, iA, hHA, nf, ns, w⟩
  have sI : Sub I1 Ic := g.sub g1.hv
  by_cases hlt : n < ds.length
  · have hd : ds[n]? = some ds[n] := List.getElem?_eq_getElem hlt
    obtain ⟨go, yl⟩ := (wk n Ic Hc sI g.hv).1 _ hd
    rw [drop_cons hd] at w
    refine .inr ⟨go, fun H => ∃ I2 b0 o xs kvs fp, Gw T bx I1 H1 I2 H ∧ I2 A = none ∧ H A = some (DnO b0 o xs) ∧ A ∉ fp ∧ DlNs X.K bx H1 I2 H xs kvs fp ∧ wpDlc tg (wpE G ek) (wipeR ρ own) (ds.drop (n + 1)) kvs Qd, fun H' z => ⟨ds.length - (n + 1), by omega, rfl, hlt, z⟩, fun x H' y => ?_⟩
    obtain ⟨I2, g2, dx⟩ := yl x H' y
    have gg2 := g.trans g2
    refine asg_ok ht (sw.grow gg2) g2.hv.sub dx w fun ρ2 σ2 s3 w2 hw => ⟨(hw own ho).trans (wipe_wipe σ own), ?_⟩
    refine ⟨bx, I0, H0, ρ2, I2, s3, ?_⟩
    simp only [wpC]
    intro I3 H3 g3
    simp only [if_true]
    refine ⟨bx, I0, H0, ρ2, I3, s3.grow g3, wpE_mono ek (fun x1 w4 v4 I4 H4 g4 b4 => ?_) w2⟩
    obtain ⟨hk, hno, hlen, w5⟩ := w4
    have gg := (g2.trans g3).trans g4
    have e4 : H4 A = some (DnO b0 o1 xs) := gg.hp A _ hHA np
    have i4 : I4 A = none := (gg.im A _ hHA).trans iA
    have ns4 : DlNs X.K bx H1 I4 H4 xs kvs fp := ns.keep (gg.sub g.hv) (fun c hc => by
      obtain ⟨_, k2, ⟨ys, k3⟩, _⟩ := ns.at_ c hc
      exact (gg.im c _ k3).trans k2) (fun c hc => by
      obtain ⟨_, _, ⟨ys, k3⟩, k4⟩ := ns.at_ c hc
      rw [k3]; exact gg.hp c _ k3 k4)
    refine ⟨by rw [sizeLine_eq]; decide, fun p hp => ?_⟩
    have gall := g.trans gg
    have p1 : H1 p = none := gall.free hp
    have pA : p ≠ A := fun z => by subst z; rw [e4] at hp; cases hp
    have pfp : p ∉ fp := fun z => by
      obtain ⟨_, _, ⟨ys, k3⟩, _⟩ := ns4.at_ p z
      rw [hp] at k3; cases k3
    have gp := Gw.mut (T := T) (.lst []) gall.hv hp
    obtain ⟨b, rfl, hb⟩ := key_ref (bx := bx) (H := H4) hk (.inl b4)
    refine ⟨I4, x1, b, b0, o1, xs, gp.hv.sub, rfl, hb, hk, by rw [upd_ne (Ne.symm pA)]; exact e4, ns4.keysN, by rw [ns4.length]; exact hlen, fun o' u ru => ?_⟩
    cases ru
    have hat : atKey xs (nk x1) = none := by
      rcases ns4.look hk with ⟨_, z⟩ | ⟨_, _, _, _, _, z, _⟩
      · exact z
      · rw [hno] at z; cases z
    rw [storedH_new hat]
    refine ⟨I4, A, o', _, _, fp ++ [p], (gall.trans gp).write _ hA i4 np, i4, upd_same, fun z => ?_, ?_, w5⟩
    · rcases List.mem_append.mp z with z | z
      · exact nf z
      · exact pA (List.mem_singleton.mp z).symm
    · refine DlNs.app hk hb p1 (hv_none gall.hv hp) (by rw [upd_ne pA, upd_same]) (hv_nfp gall.hv hp) (ns4.keep (fun _ _ e => e) (fun c hc => (ns4.at_ c hc).2.1) fun c hc => ?_) pfp
      rw [upd_ne (show c ≠ A from fun z => nf (z ▸ hc)), upd_ne (show c ≠ p from fun z => pfp (z ▸ hc))]
  · have e : n = ds.length := by omega
    subst e
    refine .inl ⟨(wk _ Ic Hc sI g.hv).2 (Nat.le_refl _), ?_⟩
    rw [List.drop_length] at w
    have w : Qd kvs := w
    rw [← hQd] at w
    obtain ⟨nd, w⟩ := w
    have sf := s1.grow g
    refine w (σ.set i (some (.ref A))) Ic Hc (fun x o e => sI x o (g1.sub s.hv x o e)) (sf.setDl (fun j kvs' _ ej => ?_) (by simp) (fun j ne => by rw [List.getElem?_set_ne ne]) (fun hlt2 => by rw [List.getElem?_set_self (by rw [← s.len]; exact hlt2)]) (s1.gw.free hA) iA hHA np nf ?_ fun j t d b _ e m e2 => ?_)
    · have := List.all_eq_true.mp nd _ (List.mem_of_getElem? ej)
      simp [isDol] at this
    · exact ns.low fun c => s1.gw.free
    · obtain ⟨b', u', e3, _, _, k3, _⟩ := (slMu m).mp (s1.sl j _ e)
      rw [e2] at e3
      cases e3
      refine ⟨fun z => ?_, fun z => ?_⟩
      · subst z; rw [hA] at k3; cases k3
      · obtain ⟨k1, _⟩ := ns.at_ b z
        rw [k3] at k1; cases k1
end
end Ef

end

section
set_option autoImplicit false
namespace Ef
open PySem L2 PySem.Spec PyProof.Rows
section
variable {X : Cx} {T : BoxT} {G : Gm} {k : Nat} {c : Ck}
theorem pw_of {op : BoolOp} {vs : List Expr} {pos : Pos} {t : TT} (h : PT X (.BoolOp op vs pos) t) : PW X (.BoolOp op vs pos) t := ⟨fun whole pins s σ H Q I q => h.run pins s σ H Q I q⟩
/-- from a value to its truth -/
theorem pt_lf {e : Expr} {m : Md} {f : Rho → (PyData → Prop) → Prop} (hf : ∀ ρ (Q R : PyData → Prop), (∀ x, Q x → R x) → f ρ Q → f ρ R) (ht : truthE e = true) (h : PE X e (lfE X.K T .st f)) :
    PT X e (lfT X.K T fun ρ Q => f ρ fun z => ∃ b, truD z = some b ∧ Q b) := by
  refine PT.imp (pt_truth h (truth_plain ht X.env)) fun σ H Q ⟨bx, I0, H0, ρ, I, s, q⟩ => ?_
  refine ⟨bx, I0, H0, ρ, I, s, hf _ _ _ (fun d w v I' H' g dq => ?_) q⟩
  obtain ⟨b, e, w⟩ := w
  exact ⟨b, tru_of g.hv dq e, w I' H' g⟩
theorem seq_iter {tg l : Expr} {f : Rho → (PyData → Prop) → Prop} (hf : ∀ ρ (Q R : PyData → Prop), (∀ x, Q x → R x) → f ρ Q → f ρ R) (hl : PE X l (lfE X.K T .st f)) : PI X tg l (lfI X.K T false fun ρ Q => f ρ fun d => ∃ ds, walkOf d = some ds ∧ Q ds) := by
  refine ⟨fun pins s σ H R I h => ?_⟩
  obtain ⟨bx, I0, H0, ρ, J, sa, q⟩ := h
  refine thn (hl.run pins s σ H (fun v H1 => ∃ I1 d ds, Gw T bx J H I1 H1 ∧ Dq X.K I1 v d ∧ walkOf d = some ds ∧ ∀ JJ I' H', Gw T bx J H I' H' → Wk X.K T bx I' false JJ ds → R JJ H') I ⟨bx, I0, H0, ρ, J, sa, hf _ _ _ (fun d w v I1 H1 g1 dq => ?_) q⟩) fun v s1 ⟨x, H1, I1, r1, q1⟩ => ?_
  · obtain ⟨ds, e, w⟩ := w
    exact ⟨I1, d, ds, g1, dq, e, w⟩
  · obtain ⟨J1, d, ds, g1, dq, e, w⟩ := q1
    cases d with
    | list es =>
      cases e
      obtain ⟨a, xs, rfl, h1, dqa⟩ := dq.lstE
      cases r1
      obtain ⟨its, rv, pl, hz⟩ := I1.list (SqL.of (g1.hv.sub _ _ h1))
      refine wpAny_pyIter_list pl.isList ?_
      refine ⟨s1.heap.objs.size, [s1.heap.objs.size], _, Itl X.K a, H1, rfl, I1.kept (t' := s1.toks) (fun b o e => Heap.get?_push_of_some _ e), turn_list a _, ⟨_, Heap.get?_push_size _ rfl, rfl, rfl⟩, fun b hb => ?_, w _ J1 H1 g1 ?_⟩
      · have z : b = s1.heap.objs.size := by simpa using hb
        rw [z]
        exact I1.fpOk (Nat.le_refl _) (I1.hok.fresh (Nat.le_refl _))
      · intro i I' H' sb hv
        have hl : SqL X.K H' a xs := SqL.of (hv.sub _ _ (sb _ _ h1))
        refine ⟨fun d hd => ?_, fun hle => ⟨xs, hl, by rw [dqa.length]; exact hle⟩⟩
        obtain ⟨v, hv1, hv2⟩ := dqa.get' hd
        refine ⟨⟨xs, v, hl, hv1⟩, fun x H2 y => ?_⟩
        obtain ⟨e1, y⟩ := y
        subst e1
        have := y xs hl
        rw [hv1] at this
        cases this
        exact ⟨I', Gw.refl hv, hv2.sub sb⟩
    | tuple es =>
      cases e
      obtain ⟨a, xs, rfl, h1, dqa⟩ := dq.tupE
      cases r1
      obtain ⟨its, rv, pl, hz⟩ := I1.tuple (SqT.sub g1.hv.sub h1)
      refine wpAny_pyIter_tuple (show s1.heap.IsTuple a its.toArray from pl) ?_
      refine ⟨s1.heap.objs.size, [s1.heap.objs.size], _, Itt X.K a, H1, rfl, I1.kept (t' := s1.toks) (fun b o e => Heap.get?_push_of_some _ e), turn_tuple a _, ⟨_, Heap.get?_push_size _ rfl, rfl, rfl⟩, fun b hb => ?_, w _ J1 H1 g1 ?_⟩
      · have z : b = s1.heap.objs.size := by simpa using hb
        rw [z]
        exact I1.fpOk (Nat.le_refl _) (I1.hok.fresh (Nat.le_refl _))
      · intro i I' H' sb hv
        have hl : SqT X.K H' a xs := SqT.sub hv.sub (SqT.sub sb h1)
        refine ⟨fun d hd => ?_, fun hle => ⟨xs, hl, by rw [dqa.length]; exact hle⟩⟩
        obtain ⟨v, hv1, hv2⟩ := dqa.get' hd
        refine ⟨⟨xs, v, hl, hv1⟩, fun x H2 y => ?_⟩
        obtain ⟨e1, y⟩ := y
        subst e1
        have := y xs hl
        rw [hv1] at this
        cases this
        exact ⟨I', Gw.refl hv, hv2.sub sb⟩
    | dict kvs =>
      have hc : (kvs.all fun p => keyN p.1) = true ∧ ds = kvs.map (·.1) := by
        simp only [walkOf] at e
        split at e
        · rename_i hc
          exact ⟨hc, (Option.some.inj e).symm⟩
        · cases e
      obtain ⟨hall, rfl⟩ := hc
      obtain ⟨a, rfl, ⟨xs, h1, n1, q1⟩ | ⟨b, o, xs, h1, q1⟩⟩ := dq.dicE
      · have := all_nil q1.keys hall
        subst this
        cases q1
        exact absurd rfl n1
      · cases r1
        obtain ⟨hb, hg, hs, hx, _⟩ := dn_at I1 (g1.hv.sub _ _ h1) (q1.sub g1.hv.sub)
        obtain ⟨ex, ⟨es, ep, hod, hent⟩, _⟩ := hx
        subst b
        have hz : es.size = xs.length := by simpa using congrArg List.length hent
        refine iter_keys hs hg ex hod (pi_one (tk := s1.toks) I1 _ (turn_keysN _ hod hent) ⟨_, Heap.get?_push_size _ rfl, rfl, ?_⟩ (w _ J1 H1 g1 (wk_keysN h1 rfl q1)))
        rw [hz]; rfl
    | _ => cases e
theorem rg_get {lo : Int} {n i : Nat} {d : PyData} (h : (rgD lo n)[i]? = some d) : i < n ∧ d = .int (lo + i) := by
  unfold rgD at h
  rw [List.getElem?_map] at h
  by_cases hi : i < n
  · rw [List.getElem?_range hi] at h
    exact ⟨hi, (Option.some.inj h).symm⟩
  · rw [List.getElem?_eq_none (by simpa using hi)] at h
    cases h
theorem rg_len {lo : Int} {n : Nat} : (rgD lo n).length = n := by simp [rgD]
theorem wk_range {K : PySem.W.Frag} {bx : Bx} {I : Hp} (lo : Int) (n : Nat) : Wk K T bx I false (Itr lo n) (rgD lo n) := by
  intro i I' H' sb hv
  refine ⟨fun d hd => ?_, fun hl => by rw [rg_len] at hl; exact hl⟩
  obtain ⟨hi, rfl⟩ := rg_get hd
  refine ⟨hi, fun x H2 y => ?_⟩
  obtain ⟨e1, e2⟩ := y
  subst e1 e2
  exact ⟨I', Gw.refl hv, .int _⟩
theorem zip_get {xs ys : List PyData} {i : Nat} {d : PyData} (h : (List.zipWith (fun x y => PyData.tuple [x, y]) xs ys)[i]? = some d) : ∃ x y, xs[i]? = some x ∧ ys[i]? = some y ∧ d = .tuple [x, y] := by
  rw [List.getElem?_zipWith] at h
  cases h1 : xs[i]? with
  | none => rw [h1] at h; cases h
  | some x =>
    cases h2 : ys[i]? with
    | none => rw [h1, h2] at h; cases h
    | some y => rw [h1, h2] at h; exact ⟨x, y, rfl, rfl, (Option.some.inj h).symm⟩
theorem wk_zipL {K : PySem.W.Frag} {bx : Bx} {I : Hp} {a b : Addr} {vs us : List V} {xs ys : List PyData} (h1 : I a = some (.lst vs)) (h2 : I b = some (.lst us)) (q1 : DqAll K I vs xs) (q2 : DqAll K I us ys) :
    Wk K T bx I true (Itz K a b) (List.zipWith (fun x y => .tuple [x, y]) xs ys) := by
  intro i I' H' sb hv
  have l1 : SqL K H' a vs := SqL.of (hv.sub _ _ (sb _ _ h1))
  have l2 : SqL K H' b us := SqL.of (hv.sub _ _ (sb _ _ h2))
  refine ⟨fun d hd => ?_, fun hl => ⟨vs, us, l1, l2, ?_⟩⟩
  · obtain ⟨x, y, e1, e2, rfl⟩ := zip_get hd
    obtain ⟨v, hv1, dv⟩ := q1.get' e1
    obtain ⟨u, hu1, du⟩ := q2.get' e2
    refine ⟨⟨vs, us, v, u, l1, l2, hv1, hu1⟩, fun z H2 yy => ?_⟩
    obtain ⟨TT, x', y', rfl, hn, rfl, k1, k2⟩ := yy
    have := k1 vs l1; rw [hv1] at this; cases this
    have := k2 us l2; rw [hu1] at this; cases this
    have g := Gw.new (.tup [v, u]) hv hn
    exact ⟨_, g, _, _, _, rfl, rfl, SqT.of upd_same, .cons ((dv.sub sb).sub (g.sub hv)) (.cons ((du.sub sb).sub (g.sub hv)) .nil)⟩
  · rw [q1.length, q2.length]
    rw [List.length_zipWith] at hl
    omega
theorem wk_zipT {K : PySem.W.Frag} {bx : Bx} {I : Hp} {a b : Addr} {vs us : List V} {xs ys : List PyData} (h1 : SqT K I a vs) (h2 : SqT K I b us) (q1 : DqAll K I vs xs) (q2 : DqAll K I us ys) :
    Wk K T bx I true (RZ.ItzT K a b) (List.zipWith (fun x y => .tuple [x, y]) xs ys) := by
  intro i I' H' sb hv
  have l1 : SqT K H' a vs := SqT.sub hv.sub (SqT.sub sb h1)
  have l2 : SqT K H' b us := SqT.sub hv.sub (SqT.sub sb h2)
  refine ⟨fun d hd => ?_, fun hl => ⟨vs, us, l1, l2, ?_⟩⟩
  · obtain ⟨x, y, e1, e2, rfl⟩ := zip_get hd
    obtain ⟨v, hv1, dv⟩ := q1.get' e1
    obtain ⟨u, hu1, du⟩ := q2.get' e2
    refine ⟨⟨vs, us, v, u, l1, l2, hv1, hu1⟩, fun z H2 yy => ?_⟩
    obtain ⟨TT, x', y', rfl, hn, rfl, k1, k2⟩ := yy
    have := k1 vs l1; rw [hv1] at this; cases this
    have := k2 us l2; rw [hu1] at this; cases this
    have g := Gw.new (.tup [v, u]) hv hn
    exact ⟨_, g, _, _, _, rfl, rfl, SqT.of upd_same, .cons ((dv.sub sb).sub (g.sub hv)) (.cons ((du.sub sb).sub (g.sub hv)) .nil)⟩
  · rw [q1.length, q2.length]
    rw [List.length_zipWith] at hl
    omega
theorem wk_zipM {K : PySem.W.Frag} {bx : Bx} {I : Hp} {a b : Addr} {vs us : List V} {xs ys : List PyData} (h1 : SqT K I a vs) (h2 : I b = some (.lst us)) (q1 : DqAll K I vs xs) (q2 : DqAll K I us ys) :
    Wk K T bx I true (RZ.ItzM K a b) (List.zipWith (fun x y => .tuple [x, y]) xs ys) := by
  intro i I' H' sb hv
  have l1 : SqT K H' a vs := SqT.sub hv.sub (SqT.sub sb h1)
  have l2 : SqL K H' b us := SqL.of (hv.sub _ _ (sb _ _ h2))
  refine ⟨fun d hd => ?_, fun hl => ⟨vs, us, l1, l2, ?_⟩⟩
  · obtain ⟨x, y, e1, e2, rfl⟩ := zip_get hd
    obtain ⟨v, hv1, dv⟩ := q1.get' e1
    obtain ⟨u, hu1, du⟩ := q2.get' e2
    refine ⟨⟨vs, us, v, u, l1, l2, hv1, hu1⟩, fun z H2 yy => ?_⟩
    obtain ⟨TT, x', y', rfl, hn, rfl, k1, k2⟩ := yy
    have := k1 vs l1; rw [hv1] at this; cases this
    have := k2 us l2; rw [hu1] at this; cases this
    have g := Gw.new (.tup [v, u]) hv hn
    exact ⟨_, g, _, _, _, rfl, rfl, SqT.of upd_same, .cons ((dv.sub sb).sub (g.sub hv)) (.cons ((du.sub sb).sub (g.sub hv)) .nil)⟩
  · rw [q1.length, q2.length]
    rw [List.length_zipWith] at hl
    omega
theorem dq_rg {K : PySem.W.Frag} {I : Hp} (lo : Int) (n : Nat) : DqAll K I ((List.range n).map fun i => V.int (lo + (i : Nat))) (rgD lo n) := by
  unfold rgD
  generalize List.range n = l
  induction l with
  | nil => exact .nil
  | cons x r ih => exact .cons (.int _) ih
theorem DqAll.rev {K : PySem.W.Frag} {I : Hp} : ∀ {xs : List V} {ds : List PyData}, DqAll K I xs ds → DqAll K I xs.reverse ds.reverse
  | _, _, .nil => .nil
  | _, _, .cons h q => by
    rw [List.reverse_cons, List.reverse_cons]
    exact (DqAll.rev q).append (.cons h .nil)
theorem en_get {ds : List PyData} {i : Nat} {d : PyData} (h : (ds.zipIdx.map fun p => PyData.tuple [.int (p.2 : Nat), p.1])[i]? = some d) : ∃ x, ds[i]? = some x ∧ d = .tuple [.int (i : Nat), x] := by
  rw [List.getElem?_map, List.getElem?_zipIdx] at h
  cases h1 : ds[i]? with
  | none => rw [h1] at h; cases h
  | some x =>
    rw [h1] at h
    have e := (Option.some.inj h).symm
    rw [Nat.zero_add] at e
    exact ⟨x, rfl, e⟩
theorem wk_enL {K : PySem.W.Frag} {bx : Bx} {I : Hp} {a : Addr} {vs : List V} {xs : List PyData} (h1 : I a = some (.lst vs)) (q1 : DqAll K I vs xs) :
    Wk K T bx I true (Ite K a) (xs.zipIdx.map fun p => .tuple [.int (p.2 : Nat), p.1]) := by
  intro i I' H' sb hv
  have l1 : SqL K H' a vs := SqL.of (hv.sub _ _ (sb _ _ h1))
  refine ⟨fun d hd => ?_, fun hl => ⟨vs, l1, ?_⟩⟩
  · obtain ⟨x, e1, rfl⟩ := en_get hd
    obtain ⟨v, hv1, dv⟩ := q1.get' e1
    refine ⟨⟨vs, v, l1, hv1⟩, fun z H2 yy => ?_⟩
    obtain ⟨TT, x', rfl, hn, rfl, k1⟩ := yy
    have := k1 vs l1; rw [hv1] at this; cases this
    have g := Gw.new (.tup [.int (i : Nat), v]) hv hn
    exact ⟨_, g, _, _, _, rfl, rfl, SqT.of upd_same, .cons (.int _) (.cons ((dv.sub sb).sub (g.sub hv)) .nil)⟩
  · rw [q1.length]
    simpa using hl
theorem wk_enT {K : PySem.W.Frag} {bx : Bx} {I : Hp} {a : Addr} {vs : List V} {xs : List PyData} (h1 : SqT K I a vs) (q1 : DqAll K I vs xs) :
    Wk K T bx I true (IteT K a) (xs.zipIdx.map fun p => .tuple [.int (p.2 : Nat), p.1]) := by
  intro i I' H' sb hv
  have l1 : SqT K H' a vs := SqT.sub hv.sub (SqT.sub sb h1)
  refine ⟨fun d hd => ?_, fun hl => ⟨vs, l1, ?_⟩⟩
  · obtain ⟨x, e1, rfl⟩ := en_get hd
    obtain ⟨v, hv1, dv⟩ := q1.get' e1
    refine ⟨⟨vs, v, l1, hv1⟩, fun z H2 yy => ?_⟩
    obtain ⟨TT, x', rfl, hn, rfl, k1⟩ := yy
    have := k1 vs l1; rw [hv1] at this; cases this
    have g := Gw.new (.tup [.int (i : Nat), v]) hv hn
    exact ⟨_, g, _, _, _, rfl, rfl, SqT.of upd_same, .cons (.int _) (.cons ((dv.sub sb).sub (g.sub hv)) .nil)⟩
  · rw [q1.length]
    simpa using hl
theorem BoAll.grow {K : PySem.W.Frag} {bx : Bx} {I H I' H' : Hp} (hv : Hv T bx I H) (g : Gw T bx I H I' H') : ∀ {vs ds}, BoAll K bx I H vs ds → BoAll K bx I' H' vs ds
  | _, _, .nil => .nil
  | _, _, .cons h q => .cons (Bo.grow hv g h) (BoAll.grow hv g q)
theorem dqI {K : PySem.W.Frag} {I : Hp} : ∀ ns : List Int, DqAll K I (ns.map V.int) (ns.map PyData.int)
  | [] => .nil
  | n :: ns => .cons (.int n) (dqI ns)
theorem mE (G : Gm) (e : Ex) : ∀ (ρ : Rho) (Q R : PyData → Prop), (∀ x, Q x → R x) → wpE G e ρ Q → wpE G e ρ R := fun ρ Q R h q => wpE_mono e h q
theorem chkI_plain {c : Ck} {it : It} {t x : Expr} (h : chkI c it t x = true) : plainE x = true := by
  unfold chkI at h
  split at h
  · simp only [Bool.and_eq_true] at h; exact h.1.1
  all_goals first | rfl | cases h
theorem ofS : ∀ (s : String), Str.ofString s = (s : Str) := fun _ => rfl

mutual
theorem sE : ∀ (e : Ex) {c : Ck} {X : Cx} {x : Expr}, Gd T G k c X → chkE c e x = true → PE X x (lfE X.K T e.mode (wpE G e))
  | .var i, c, X, x, g, h => by
    obtain ⟨y, p, rfl, h⟩ := invE_var h
    obtain ⟨h1, h2, h3, h4⟩ := g.vis h
    refine PE.imp (pe_var h1 h2 h3 h4) fun σ H Q ⟨bx, I0, H0, ρ, I, s, q⟩ => ?_
    simp only [wpE] at q
    split at q
    · rename_i d e
      obtain ⟨v, e1, dq⟩ := s.dat e
      exact ⟨v, e1, q v I H (Gw.refl s.hv) dq⟩
    · exact q.elim
  | .bor i, c, X, x, g, h => by
    obtain ⟨y, p, rfl, h⟩ := invE_bor h
    obtain ⟨h1, h2, h3, h4⟩ := g.vis h
    refine PE.imp (pe_var h1 h2 h3 h4) fun σ H Q ⟨bx, I0, H0, ρ, I, s, q⟩ => ?_
    simp only [wpE] at q
    split at q
    · rename_i d e
      obtain ⟨v, e1, dq⟩ := s.dat e
      exact ⟨v, e1, q v I H (Gw.refl s.hv) (.inl dq)⟩
    · rename_i ds e
      obtain ⟨a, xs, e1, _, _, h2, dq, n⟩ := s.own e
      exact ⟨.ref a, e1, q _ I H (Gw.refl s.hv) (.inr ⟨a, _, rfl, h2, .lst dq, n⟩)⟩
    · rename_i ds e
      obtain ⟨a, xs, e1, _, _, h2, dq, n⟩ := s.dic e
      exact ⟨.ref a, e1, q _ I H (Gw.refl s.hv) (.inr ⟨a, _, rfl, h2, dq, n⟩)⟩
    · exact q.elim
  | .cst d, c, X, x, g, h => by
    obtain ⟨kk, j, p, rfl, h5⟩ := invE_cst h
    unfold cstB at h5
    split at h5
    · exact PE.imp pe_non fun σ H Q ⟨bx, I0, H0, ρ, I, s, q⟩ => by simp only [wpE] at q; exact q _ I H (Gw.refl s.hv) .non
    · have e := eq_of_beq h5
      subst e
      exact PE.imp pe_bl fun σ H Q ⟨bx, I0, H0, ρ, I, s, q⟩ => by simp only [wpE] at q; exact q _ I H (Gw.refl s.hv) (.bl _)
    · have e := of_decide_eq_true h5
      subst e
      exact PE.imp pe_int fun σ H Q ⟨bx, I0, H0, ρ, I, s, q⟩ => by simp only [wpE] at q; exact q _ I H (Gw.refl s.hv) (.int _)
    · have e := of_decide_eq_true h5
      subst e
      exact PE.imp pe_str fun σ H Q ⟨bx, I0, H0, ρ, I, s, q⟩ => by simp only [wpE] at q; exact q _ I H (Gw.refl s.hv) (.str _)
    · cases h5
  | .glb y, c, X, x, g, h => by
    obtain ⟨n, p, rfl, rfl, h⟩ := invE_glb h
    obtain ⟨h1, h2, h3⟩ := g.gl h
    cases e : G.glb y with
    | none => exact ⟨fun pins s σ H Q I ⟨bx, I0, H0, ρ, J, sa, q⟩ => by simp only [wpE, e] at q⟩
    | some d =>
      obtain ⟨u, v, m1, m2, m3⟩ := g.glb y d e
      exact PE.imp (pe_glob h1 m1 m2 h2) fun σ H Q ⟨bx, I0, H0, ρ, I, s, q⟩ => by simp only [wpE, e] at q; exact q _ I H (Gw.refl s.hv) (m3 I)
  | .bin op a b, c, X, x, g, h => by
    obtain ⟨l, o, r, p, rfl, rfl, p1, p2, ha, hb⟩ := invE_bin h
    refine PE.imp (pe_op (op_bin (T := T)) (lf_bo (mE G a) (sE a g ha)) (lf_bo (mE G b) (sE b g hb))) fun σ H Q ⟨bx, I0, H0, ρ, I, s, q⟩ => ?_
    simp only [wpE] at q
    exact lf_two (a := l) (b := r) (mE G a) (mE G b) (fun d e _ _ h q => binW_mono h q) ⟨bx, I0, H0, ρ, I, s, q⟩
  | .neg a, c, X, x, g, h => by
    obtain ⟨l, p, rfl, ha⟩ := invE_neg h
    refine PE.imp (pe_un un_neg (lf_bo (mE G a) (sE a g ha))) fun σ H Q ⟨bx, I0, H0, ρ, I, s, q⟩ => ?_
    simp only [wpE] at q
    refine ⟨bx, I0, H0, ρ, I, s, wpE_mono a (fun d w v I1 H1 g1 b => ?_) q⟩
    cases d <;> simp only [negW] at w
    cases b.intE
    exact ⟨_, rfl, w _ I1 H1 g1 (.int _)⟩
  | .cmp op a b, c, X, x, g, h => by
    obtain ⟨l, o, r, p, rfl, rfl, p2, ha, hb⟩ := invE_cmp h
    refine PE.imp (pe_cmpR (op_cmp (T := T) g.units) (lf_bo (mE G a) (sE a g ha)) (lf_bo (mE G b) (sE b g hb)) (marks_plain p2 _)) fun σ H Q ⟨bx, I0, H0, ρ, I, s, q⟩ => ?_
    simp only [wpE] at q
    exact lf_two (a := l) (b := r) (mE G a) (mE G b) (fun d e _ _ h q => cmpW_mono h q) ⟨bx, I0, H0, ρ, I, s, q⟩
  | .chn o q a b d, c, X, x, g, h => by
    obtain ⟨l, o1, o2, r, z, p, rfl, rfl, rfl, p2, p3, ha, hb, hd⟩ := invE_chn h
    have hm : lastMarks [o1, o2] [r, z] = false := by
      show behindInMarks o2 z = false
      exact marks_plain p3 _
    refine PE.imp (pe_chain (op_cmp (T := T) g.units) (op_cmp (T := T) g.units) (lf_bo (mE G a) (sE a g ha)) (lf_bo (mE G b) (sE b g hb)) (lf_bo (mE G d) (sE d g hd)) hm) fun σ H Q ⟨bx, I0, H0, ρ, I, s, q⟩ => ?_
    simp only [wpE] at q
    refine ⟨bx, I0, H0, ρ, I, s, wpE_mono a (fun dx w vx I1 H1 g1 b1 => ?_) q⟩
    refine ⟨bx, I0, H0, ρ, I1, s.grow g1, wpE_mono b (fun dy w vy I2 H2 g2 b2 => ?_) w⟩
    refine ⟨bx, I2, dx, dy, g2.hv, Bo.grow g1.hv g2 b1, b2, cmpW_mono (fun dz w vz I3 H3 g3 b3 => ?_) w⟩
    obtain ⟨kk, rfl, w⟩ := w
    cases b3.blE
    refine ⟨kk, rfl, ?_⟩
    have gg := (g1.trans g2).trans g3
    cases kk with
    | false => exact w _ I3 H3 gg (.bl _)
    | true =>
      refine ⟨bx, I0, H0, ρ, I3, (s.grow gg), wpE_mono d (fun dw w vw I4 H4 g4 b4 => ?_) w⟩
      exact ⟨bx, I4, dy, dw, g4.hv, Bo.grow g3.hv g4 (Bo.grow g2.hv g3 b2), b4, cmpW_mono (fun z kk v I5 H5 g5 vl => kk v I5 H5 ((gg.trans g4).trans g5) vl) w⟩
  | .and a b, c, X, x, g, h => by
    have fin : ∀ {l r : Expr} {rest : List Expr} {p : Pos}, a.firm = true → b.firm = true → PE X l (lfE X.K T a.mode (wpE G a)) → PE X (.BoolOp .And (r :: rest) p) (lfE X.K T b.mode (wpE G b)) → PE X (.BoolOp .And (l :: r :: rest) p) (lfE X.K T .st (wpE G (.and a b))) := fun f1 f2 ha hb => by
      refine PE.imp (pe_and (lf_st (mE G a) (firm_md f1) ha) (lf_st (mE G b) (firm_md f2) hb)) fun σ H Q ⟨bx, I0, H0, ρ, I, s, q⟩ => ?_
      simp only [wpE] at q
      refine ⟨bx, I0, H0, ρ, I, s, wpE_mono a (fun d w v I1 H1 g1 b1 => ?_) q⟩
      obtain ⟨kk, rfl, w⟩ := w
      cases b1.blE
      refine ⟨kk, rfl, ?_⟩
      cases kk with
      | false => exact w _ I1 H1 g1 (.bl _)
      | true => exact ⟨bx, I0, H0, ρ, I1, s.grow g1, wpE_mono b (fun d kk v I2 H2 g2 vl => kk v I2 H2 (g1.trans g2) vl) w⟩
    rcases invE_and h with ⟨l, r, p, rfl, f1, f2, ha, hb⟩ | ⟨l, r, z, rest, p, rfl, f1, f2, ha, hb⟩
    · exact fin f1 f2 (sE a g ha) (pe_one (sE b g hb))
    · exact fin f1 f2 (sE a g ha) (sE b g hb)
  | .or a b, c, X, x, g, h => by
    have fin : ∀ {l r : Expr} {rest : List Expr} {p : Pos}, a.firm = true → b.firm = true → PE X l (lfE X.K T a.mode (wpE G a)) → PE X (.BoolOp .Or (r :: rest) p) (lfE X.K T b.mode (wpE G b)) → PE X (.BoolOp .Or (l :: r :: rest) p) (lfE X.K T .st (wpE G (.or a b))) := fun f1 f2 ha hb => by
      refine PE.imp (pe_or (lf_st (mE G a) (firm_md f1) ha) (lf_st (mE G b) (firm_md f2) hb)) fun σ H Q ⟨bx, I0, H0, ρ, I, s, q⟩ => ?_
      simp only [wpE] at q
      refine ⟨bx, I0, H0, ρ, I, s, wpE_mono a (fun d w v I1 H1 g1 b1 => ?_) q⟩
      obtain ⟨kk, rfl, w⟩ := w
      cases b1.blE
      refine ⟨kk, rfl, ?_⟩
      cases kk with
      | true => exact w _ I1 H1 g1 (.bl _)
      | false => exact ⟨bx, I0, H0, ρ, I1, s.grow g1, wpE_mono b (fun d kk v I2 H2 g2 vl => kk v I2 H2 (g1.trans g2) vl) w⟩
    rcases invE_or h with ⟨l, r, p, rfl, f1, f2, ha, hb⟩ | ⟨l, r, z, rest, p, rfl, f1, f2, ha, hb⟩
    · exact fin f1 f2 (sE a g ha) (pe_one (sE b g hb))
    · exact fin f1 f2 (sE a g ha) (sE b g hb)
  | .not a, c, X, x, g, h => by
    obtain ⟨l, p, rfl, ha⟩ := invE_not h
    refine PE.imp (pe_not (lf_bo (mE G a) (sE a g ha))) fun σ H Q ⟨bx, I0, H0, ρ, I, s, q⟩ => ?_
    simp only [wpE] at q
    refine ⟨bx, I0, H0, ρ, I, s, wpE_mono a (fun d w v I1 H1 g1 b1 => ?_) q⟩
    obtain ⟨kk, rfl, w⟩ := w
    cases b1.blE
    exact ⟨kk, rfl, w _ I1 H1 g1 (.bl _)⟩
  | .ite t a b, c, X, x, g, h => by
    obtain ⟨l, r, z, p, rfl, f1, f2, ht, ha, hb⟩ := invE_ite h
    refine PE.imp (pe_ifExp (sT t g ht) (lf_st (mE G a) (firm_md f1) (sE a g ha)) (lf_st (mE G b) (firm_md f2) (sE b g hb))) fun σ H Q ⟨bx, I0, H0, ρ, I, s, q⟩ => ?_
    simp only [wpE] at q
    refine ⟨bx, I0, H0, ρ, I, s, wpT_mono t (fun kk w I1 H1 g1 => ?_) q⟩
    cases kk with
    | true => exact ⟨bx, I0, H0, ρ, I1, s.grow g1, wpE_mono a (fun d kk v I2 H2 g2 vl => kk v I2 H2 (g1.trans g2) vl) w⟩
    | false => exact ⟨bx, I0, H0, ρ, I1, s.grow g1, wpE_mono b (fun d kk v I2 H2 g2 vl => kk v I2 H2 (g1.trans g2) vl) w⟩
  | .tup es, c, X, x, g, h => by
    obtain ⟨xs, kk, p, rfl, he⟩ := invE_tup h
    refine PE.imp (pe_tupF (sEs es true g he)) fun σ H Q ⟨bx, I0, H0, ρ, I, s, q⟩ => ?_
    simp only [wpE] at q
    refine ⟨bx, I0, H0, ρ, I, s, wpEs_mono es (fun ds w vs I1 H1 g1 dq => ?_) q⟩
    have dq : DqAll X.K I1 vs ds := dq
    refine ⟨by rw [dq.length]; exact w.1, fun a ob oc od ha => ?_⟩
    have g2 := Gw.new (.frz ob (.tup vs)) g1.hv ha
    exact w.2 _ _ _ (g1.trans g2) (.tup (Tq.new oc od) (dq.sub (g2.sub g1.hv)))
  | .lst es, c, X, x, g, h => by
    obtain ⟨xs, p, rfl, he⟩ := invE_lst h
    refine PE.imp (pe_lst (sEs es true g he)) fun σ H Q ⟨bx, I0, H0, ρ, I, s, q⟩ => ?_
    simp only [wpE] at q
    refine ⟨bx, I0, H0, ρ, I, s, wpEs_mono es (fun ds w vs I1 H1 g1 dq => ?_) q⟩
    have dq : DqAll X.K I1 vs ds := dq
    refine ⟨by rw [dq.length]; exact w.1, fun a ha => ?_⟩
    exact w.2 _ _ _ (g1.trans (Gw.mut (.lst vs) g1.hv ha)) (.inl ⟨a, _, rfl, g1.free ha, hv_none g1.hv ha, upd_same, .lst dq⟩)
  | .idx a i, c, X, x, g, h => by
    obtain ⟨l, r, p, rfl, p2, ha, hb⟩ := invE_idx h
    refine PE.imp (pe_ix (ix_data (T := T) g.units) (lf_bo (mE G a) (sE a g ha)) (lf_bo (mE G i) (sE i g hb)) (ix_plain p2)) fun σ H Q ⟨bx, I0, H0, ρ, I, s, q⟩ => ?_
    simp only [wpE] at q
    exact lf_two (a := l) (b := r) (mE G a) (mE G i) (fun d e _ _ h q => idxW_mono h q) ⟨bx, I0, H0, ρ, I, s, q⟩
  | .slc a lo hi, c, X, x, g, h => by
    obtain ⟨l, u, v, q', p, rfl, ha, hl, hh⟩ := invE_slc h
    refine PE.imp (pe_slice (sl_data (T := T)) (lf_bo (mE G a) (sE a g ha)) (sO lo g hl) (sO hi g hh)) fun σ H Q ⟨bx, I0, H0, ρ, I, s, q⟩ => ?_
    simp only [wpE] at q
    refine ⟨bx, I0, H0, ρ, I, s, wpE_mono a (fun d w vx I1 H1 g1 b1 => ?_) q⟩
    refine ⟨bx, I0, H0, ρ, I1, s.grow g1, wpO_mono lo (fun o1 w I2 H2 g2 => ?_) w⟩
    refine ⟨bx, I0, H0, ρ, I2, s.grow (g1.trans g2), wpO_mono hi (fun o2 w I3 H3 g3 => ?_) w⟩
    refine ⟨bx, I3, d, g3.hv, Bo.grow g2.hv g3 (Bo.grow g1.hv g2 b1), slcW_mono (fun z kk v I4 H4 g4 vl => kk v I4 H4 (((g1.trans g2).trans g3).trans g4) ?_) w⟩
    rcases vl with ⟨a, o, e1, hn, r⟩ | vl
    · exact .inl ⟨a, o, e1, ((g1.trans g2).trans g3).free hn, r⟩
    · exact .inr vl
  | .call f es, c, X, x, g, h => by
    obtain ⟨n, q', xs, p, rfl, rfl, hg, ha⟩ := invE_call h
    cases e : G.con f with
    | none => exact ⟨fun pins s σ H Q I ⟨bx, I0, H0, ρ, J, sa, q⟩ => by simp only [wpE, e] at q⟩
    | some d =>
      refine PE.imp (lf_call g e hg ha (sAs es g ha)) fun σ H Q ⟨bx, I0, H0, ρ, I, s, q⟩ => ?_
      simp only [wpE, e] at q
      refine ⟨bx, I0, H0, ρ, I, s, wpAs_mono es (fun as w vs I1 H1 g1 ar => ?_) q⟩
      obtain ⟨gh, w1, w2⟩ := w
      exact ⟨bx, I1, as, gh, g1.hv, ar, w1, fun v I2 H2 r g2 dq po => w2 r po v I2 H2 (g1.trans g2) dq⟩
  | .calk f kw es .no, c, X, x, g, h => by
    obtain ⟨n, q', xs, p, rfl, rfl, hg, hne, ha⟩ := invE_calk0 h
    cases e : G.kc f with
    | none => exact ⟨fun pins s σ H Q I ⟨bx, I0, H0, ρ, J, sa, q⟩ => by simp only [wpE, e] at q⟩
    | some d =>
      obtain ⟨d, d0, kk⟩ := d
      cases xs with
      | nil => simp at hne
      | cons e0 es0 =>
        obtain ⟨fa, fd, ps, nn, hm, hk, F, hl, ⟨ds, dv, hb, hdv, hdq⟩, hkb⟩ := (g.kc f d d0 kk e).ex
        obtain ⟨h1, h2, h3⟩ := g.gl hg
        refine PE.imp (pe_GD F g.room g.grd h1 hm hk hb hdv hdq (sAs es g ha) (chkAs_plain ha) h2) fun σ H Q ⟨bx, I0, H0, ρ, I, s, q⟩ => ?_
        simp only [wpE, e, wpD] at q
        refine ⟨bx, I0, H0, ρ, I, s, wpAs_mono es (fun as w vs I1 H1 g1 ar => ?_) q.2⟩
        obtain ⟨gh, w1, w2⟩ := w
        exact ⟨bx, I1, as, gh, g1.hv, ar, w1, fun v I2 H2 r g2 dq po => w2 r po v I2 H2 (g1.trans g2) dq⟩
  | .calk f kw es (.so e1), c, X, x, g, h => by
    obtain ⟨n, q', xs, k1, y, r1, p, rfl, rfl, rfl, hg, hne, ha, hpy, hf, hy⟩ := invE_calk1 h
    cases e : G.kc f with
    | none => exact ⟨fun pins s σ H Q I ⟨bx, I0, H0, ρ, J, sa, q⟩ => by simp only [wpE, e] at q⟩
    | some d =>
      obtain ⟨d, d0, kk⟩ := d
      cases xs with
      | nil => simp at hne
      | cons e0 es0 =>
        by_cases hkw : kk = kw
        · subst hkw
          obtain ⟨fa, fd, ps, nn, hm, hk, F, hl, ⟨ds, dv, hb, hdv, hdq⟩, hkb⟩ := (g.kc f d d0 kk e).ex
          obtain ⟨h1, h2, h3⟩ := g.gl hg
          refine PE.imp (pe_GK F g.room g.grd h1 hm hk hkb (sAs es g ha) (chkAs_plain ha) h2 (lf_st (mE G e1) (firm_md hf) (sE e1 g hy))) fun σ H Q ⟨bx, I0, H0, ρ, I, s, q⟩ => ?_
          simp only [wpE, e, wpD] at q
          refine ⟨bx, I0, H0, ρ, I, s, wpAs_mono es (fun as w vs I1 H1 g1 ar => ?_) q.2⟩
          refine ⟨bx, I0, H0, ρ, I1, s.grow g1, wpE_mono e1 (fun d1 w v I2 H2 g2 dv1 => ?_) w⟩
          obtain ⟨gh, w1, w2⟩ := w
          have ar2 : ArAll X.K bx I2 (vs ++ [v]) (as ++ [.dat d1]) := ArAll.app dv1 (ar.sub (g2.sub g1.hv))
          refine ⟨?_, rfl, bx, I2, _, gh, g2.hv, ar2, w1, fun v I3 H3 r g3 dq po => w2 r po v I3 H3 ((g1.trans g2).trans g3) dq⟩
          have l1 := F.len gh _ w1
          have l2 := ar2.length
          simp only [List.length_append, List.length_cons, List.length_nil] at l1 l2
          omega
        · exact ⟨fun pins s σ H Q I ⟨bx, I0, H0, ρ, J, sa, q⟩ => by simp only [wpE, e] at q; exact absurd q.1 hkw⟩
  | .dnw, c, X, x, g, h => by
    obtain ⟨p, rfl⟩ := invE_dnw h
    refine PE.imp pe_dnewN fun σ H Q ⟨bx, I0, H0, ρ, I, s, q⟩ => ?_
    simp only [wpE] at q
    intro a o ha
    exact q _ _ _ (Gw.mut (DnO a o []) s.hv ha) (.inl ⟨a, _, rfl, ha, hv_none s.hv ha, upd_same, .dcn .nil⟩)
  | .dc1 k1 i0, c, X, x, g, h => by
    obtain ⟨y, n1, p1, m, n2, p2, p, rfl, rfl, rfl, rfl, rfl⟩ := invE_dc1 h
    refine PE.imp (pe_disp (pps_cons pe_str pe_int pps_nil) rfl rfl (by simp) (by simp)) fun σ H Q ⟨bx, I0, H0, ρ, I, s, q⟩ => ?_
    simp only [wpE] at q
    intro a ha
    refine ⟨upd_same, [(.inr (Str.ofString k1), .int m)], rfl, by simp, ?_⟩
    rw [upd_upd]
    have em : mergeK [] [((.inr (Str.ofString k1) : Key), V.int m)] = [((.inr (Str.ofString k1) : Key), V.int m)] := by simp [mergeK, putK]
    rw [em]
    exact q _ _ _ (Gw.mut (.dK [(.inr (Str.ofString k1), .int m)]) s.hv ha) (.inl ⟨a, _, rfl, ha, hv_none s.hv ha, upd_same, .dic (fun z => nomatch z) (.cons (.int m) .nil)⟩)
  | .rev a, c, X, x, g, h => by
    obtain ⟨l, m, n1, p1, p2, p3, p, rfl, rfl, rfl, ha⟩ := invE_rev h
    refine PE.imp (pe_revT (lf_bo (mE G a) (sE a g ha))) fun σ H Q ⟨bx, I0, H0, ρ, I, s, q⟩ => ?_
    simp only [wpE] at q
    refine ⟨bx, I0, H0, ρ, I, s, wpE_mono a (fun d w v I1 H1 g1 b1 => ?_) q⟩
    obtain ⟨ds, rfl, w⟩ := w
    obtain ⟨a1, vs, rfl, k1, q1⟩ := b1.tupE
    refine ⟨a1, vs, rfl, SqT.sub g1.hv.sub k1, fun p ob oc od hp => ?_⟩
    have g2 := Gw.new (.frz ob (.tup vs.reverse)) g1.hv hp
    exact w _ _ _ (g1.trans g2) (.tup (Tq.new oc od) (q1.rev.sub (g2.sub g1.hv)))
  | .srt a, c, X, x, g, h => by
    obtain ⟨n, q', l, p, rfl, rfl, hg, hp, ha⟩ := invE_srt h
    obtain ⟨h1, h2, h3⟩ := g.gl hg
    have st := star_plain hp [] X.env
    refine PE.imp (pe_callB cr_srt h1 (g.blt "sorted" (by decide)) boot_sorted (pa_cons (lf_bo (mE G a) (sE a g ha)) pa_nil st) h3 h2 st rfl) fun σ H Q ⟨bx, I0, H0, ρ, I, s, q⟩ => ?_
    simp only [wpE] at q
    refine ⟨bx, I0, H0, ρ, I, s, wpE_mono a (fun d w v I1 H1 g1 b1 => ?_) q⟩
    obtain ⟨ns, e, w⟩ := w
    have key : ∃ a1, v = .ref a1 ∧ (SqL X.K H1 a1 (ns.map V.int) ∨ SqT X.K H1 a1 (ns.map V.int)) := by
      cases d with
      | list ds =>
        cases e
        obtain ⟨a1, vs, rfl, k1, q1⟩ := Bo.lstE g1.hv b1
        cases q1.ints
        exact ⟨a1, rfl, .inl (SqL.of k1)⟩
      | tuple ds =>
        cases e
        obtain ⟨a1, vs, rfl, k1, q1⟩ := b1.tupE
        cases q1.ints
        exact ⟨a1, rfl, .inr (SqT.sub g1.hv.sub k1)⟩
      | _ => cases e
    obtain ⟨a1, rfl, sq⟩ := key
    refine ⟨a1, ns, rfl, sq, fun ms p1 h1 h2 hp1 => ?_⟩
    exact w ms h1 h2 _ _ _ (g1.trans (Gw.mut (.lst (ms.map V.int)) g1.hv hp1)) (.inl ⟨p1, _, rfl, g1.free hp1, hv_none g1.hv hp1, upd_same, .lst (dqI ms)⟩)
  | .sst a, c, X, x, g, h => by
    obtain ⟨n, q', m, r', l, p1, p, rfl, rfl, hg, rfl, hg2, hp, ha⟩ := invE_sst h
    obtain ⟨h1, h2, h3⟩ := g.gl hg
    obtain ⟨k1, k2, k3⟩ := g.gl hg2
    have st := star_plain hp [] X.env
    refine PE.imp (pe_sst g.calm h1 (g.blt "sorted" (by decide)) k1 (g.blt "set" (by decide)) (lf_bo (mE G a) (sE a g ha)) st) fun σ H Q ⟨bx, I0, H0, ρ, I, s, q⟩ => ?_
    simp only [wpE] at q
    refine ⟨bx, I0, H0, ρ, I, s, wpE_mono a (fun d w v I1 H1 g1 b1 => ?_) q⟩
    obtain ⟨ns, e, hl, w⟩ := w
    have key : ∃ a1, v = .ref a1 ∧ (SqL X.K H1 a1 (ns.map V.int) ∨ SqT X.K H1 a1 (ns.map V.int)) := by
      cases d with
      | list ds =>
        cases e
        obtain ⟨a1, vs, rfl, k1, q1⟩ := Bo.lstE g1.hv b1
        cases q1.ints
        exact ⟨a1, rfl, .inl (SqL.of k1)⟩
      | tuple ds =>
        cases e
        obtain ⟨a1, vs, rfl, k1, q1⟩ := b1.tupE
        cases q1.ints
        exact ⟨a1, rfl, .inr (SqT.sub g1.hv.sub k1)⟩
      | _ => cases e
    obtain ⟨a1, rfl, sq⟩ := key
    refine ⟨a1, ns, rfl, sq, hl, fun ms p1 h1 h2 hp1 => ?_⟩
    exact w ms h1 h2 _ _ _ (g1.trans (Gw.mut (.lst (ms.map V.int)) g1.hv hp1)) (.inl ⟨p1, _, rfl, g1.free hp1, hv_none g1.hv hp1, upd_same, .lst (dqI ms)⟩)
  | .cat a b, c, X, x, g, h => by
    obtain ⟨l, p1, r, p2, p, rfl, ha, hb⟩ := invE_cat h
    refine PE.imp (pe_lst (StX.pa_star (lf_bo (mE G a) (sE a g ha)) (StX.pa_star (lf_bo (mE G b) (sE b g hb)) pa_nil rfl) rfl)) fun σ H Q ⟨bx, I0, H0, ρ, I, s, q⟩ => ?_
    simp only [wpE] at q
    refine ⟨bx, I0, H0, ρ, I, s, wpE_mono a (fun d w v I1 H1 g1 b1 => ?_) q⟩
    have key : ∀ {J L : Hp} {v : V} {d : PyData} {xs : List PyData}, Hv T bx J L → Bo X.K bx J L v d → itemsOf d = some xs → ∃ a1 vs, v = .ref a1 ∧ (SqT X.K L a1 vs ∨ SqL X.K L a1 vs) ∧ DqAll X.K J vs xs := by
      intro J L v d xs hv b e
      cases d with
      | list ds =>
        cases e
        obtain ⟨a1, vs, rfl, k1, q1⟩ := Bo.lstE hv b
        exact ⟨a1, vs, rfl, .inr (SqL.of k1), q1⟩
      | tuple ds =>
        cases e
        obtain ⟨a1, vs, rfl, k1, q1⟩ := b.tupE
        exact ⟨a1, vs, rfl, .inl (SqT.sub hv.sub k1), q1⟩
      | _ => cases e
    have s1 := s.grow g1
    obtain ⟨xs, ex, w⟩ := w
    obtain ⟨a1, vs, rfl, sq, dq⟩ := key g1.hv b1 ex
    refine ⟨a1, vs, rfl, sq, bx, I0, H0, ρ, I1, s1, wpE_mono b (fun y w u I2 H2 g2 b2 => ?_) w⟩
    obtain ⟨ys, e2, hl, w⟩ := w
    obtain ⟨a2, us, rfl, sq2, dq2⟩ := key g2.hv b2 e2
    have dq1 : DqAll X.K I2 vs xs := dq.sub (g2.sub g1.hv)
    refine ⟨a2, us, rfl, sq2, ?_⟩
    refine ⟨by rw [List.append_nil, List.length_append, dq1.length, dq2.length]; exact hl, fun p3 hp3 => ?_⟩
    rw [List.append_nil]
    have gg := g1.trans g2
    exact w _ _ _ (gg.trans (Gw.mut (.lst (vs ++ us)) gg.hv hp3)) (.inl ⟨p3, _, rfl, gg.free hp3, hv_none gg.hv hp3, upd_same, .lst (dq1.append dq2)⟩)
  | .lrg (.rg a), c, X, x, g, h => by
    obtain ⟨n0, q0, l, p, rfl, rfl, hg0, _, hi⟩ := invE_lrg h
    obtain ⟨n, q', l, p', rfl, rfl, hg, hp, ha⟩ := invI_rg hi
    obtain ⟨h1, h2, h3⟩ := g.gl hg
    obtain ⟨k1, k2, k3⟩ := g.gl hg0
    refine PE.imp (pe_listRg g.calm k1 (g.blt "list" (by decide)) (prg_1 h1 (g.blt "range" (by decide)) (lf_bo (mE G a) (sE a g ha)) (star_plain hp _ _))) fun σ H Q ⟨bx, I0, H0, ρ, I, s, q⟩ => ?_
    simp only [wpE, wpI] at q
    refine ⟨bx, I0, H0, ρ, I, s, wpE_mono a (fun d w v I1 H1 g1 b1 => ?_) q⟩
    obtain ⟨m, rfl, l1, l2, w1, w⟩ := w
    cases b1.intE
    rw [rg_len] at w1
    refine ⟨m, rfl, ⟨by omega, by omega, l1, l2, by rw [Int.sub_zero]; omega⟩, fun a1 ha1 => ?_⟩
    have e : rgV 0 m = (List.range m.toNat).map fun i => V.int (0 + (i : Nat)) := by unfold rgV; rw [Int.sub_zero]
    refine w _ _ _ (g1.trans (Gw.mut (.lst (rgV 0 m)) g1.hv ha1)) (.inl ⟨a1, _, rfl, g1.free ha1, hv_none g1.hv ha1, upd_same, .lst ?_⟩)
    rw [e]
    exact dq_rg 0 m.toNat
  | .lrg (.rg2 a b), c, X, x, g, h => by
    obtain ⟨n0, q0, l, p, rfl, rfl, hg0, _, hi⟩ := invE_lrg h
    obtain ⟨n, q', l, r, p', rfl, rfl, hg, hp, hp2, ha, hb⟩ := invI_rg2 hi
    obtain ⟨h1, h2, h3⟩ := g.gl hg
    obtain ⟨k1, k2, k3⟩ := g.gl hg0
    refine PE.imp (pe_listRg g.calm k1 (g.blt "list" (by decide)) (prg_2 h1 (g.blt "range" (by decide)) (lf_bo (mE G a) (sE a g ha)) (lf_bo (mE G b) (sE b g hb)) (star_plain hp _ _) (star_plain hp2 _ _) (by rw [star_plain hp2]; rfl))) fun σ H Q ⟨bx, I0, H0, ρ, I, s, q⟩ => ?_
    simp only [wpE, wpI] at q
    refine ⟨bx, I0, H0, ρ, I, s, wpE_mono a (fun d w v I1 H1 g1 b1 => ?_) q⟩
    refine ⟨bx, I0, H0, ρ, I1, s.grow g1, wpE_mono b (fun e w v2 I2 H2 g2 b2 => ?_) w⟩
    obtain ⟨m, n, rfl, rfl, ⟨l1, l2, l3, l4⟩, w1, w⟩ := w
    cases b1.intE; cases b2.intE
    rw [rg_len] at w1
    refine ⟨m, n, rfl, rfl, ⟨l1, l2, l3, l4, by omega⟩, fun a1 ha1 => ?_⟩
    exact w _ _ _ ((g1.trans g2).trans (Gw.mut (.lst (rgV m n)) g2.hv ha1)) (.inl ⟨a1, _, rfl, (g1.trans g2).free ha1, hv_none g2.hv ha1, upd_same, .lst (dq_rg m (n - m).toNat)⟩)
  | .lrg (.sq _), c, X, x, g, h => by obtain ⟨_, _, _, _, _, _, _, z, _⟩ := invE_lrg h; cases z
  | .lrg (.zp _ _), c, X, x, g, h => by obtain ⟨_, _, _, _, _, _, _, z, _⟩ := invE_lrg h; cases z
  | .lrg (.zm _ _), c, X, x, g, h => by obtain ⟨_, _, _, _, _, _, _, z, _⟩ := invE_lrg h; cases z
  | .lrg (.di _), c, X, x, g, h => by obtain ⟨_, _, _, _, _, _, _, z, _⟩ := invE_lrg h; cases z
  | .lrg (.en _), c, X, x, g, h => by obtain ⟨_, _, _, _, _, _, _, z, _⟩ := invE_lrg h; cases z
  | .srn a, c, X, x, g, h => by
    obtain ⟨n, q', l, p, rfl, rfl, hg, hp, ha⟩ := invE_srn h
    obtain ⟨h1, h2, h3⟩ := g.gl hg
    have st := star_plain hp [] X.env
    refine PE.imp (pe_callB (cr_srn (T := T) g.calm g.units) h1 (g.blt "sorted" (by decide)) boot_sorted (pa_cons (lf_bo (mE G a) (sE a g ha)) pa_nil st) h3 h2 st rfl) fun σ H Q ⟨bx, I0, H0, ρ, I, s, q⟩ => ?_
    simp only [wpE] at q
    refine ⟨bx, I0, H0, ρ, I, s, wpE_mono a (fun d w v I1 H1 g1 b1 => ?_) q⟩
    obtain ⟨ds, e, o, w⟩ := w
    refine ⟨v, bx, I1, d, ds, rfl, g1.hv, b1, e, o, fun ms p1 us h1 h2 hp1 dq => ?_⟩
    have g2 := Gw.mut (T := T) (.lst us) g1.hv hp1
    exact w ms h1 h2 _ _ _ (g1.trans g2) (.inl ⟨p1, _, rfl, g1.free hp1, hv_none g1.hv hp1, upd_same, .lst dq⟩)
  | .ssn a, c, X, x, g, h => by
    obtain ⟨n, q', m, r', l, p1, p, rfl, rfl, hg, rfl, hg2, hp, ha⟩ := invE_ssn h
    obtain ⟨h1, h2, h3⟩ := g.gl hg
    obtain ⟨k1, k2, k3⟩ := g.gl hg2
    have st := star_plain hp [] X.env
    refine PE.imp (pe_ssn (T := T) g.calm g.units h1 (g.blt "sorted" (by decide)) k1 (g.blt "set" (by decide)) (lf_bo (mE G a) (sE a g ha)) st) fun σ H Q ⟨bx, I0, H0, ρ, I, s, q⟩ => ?_
    simp only [wpE] at q
    refine ⟨bx, I0, H0, ρ, I, s, wpE_mono a (fun d w v I1 H1 g1 b1 => ?_) q⟩
    obtain ⟨ds, us, rfl, e1, e2, e3, e4, e5, w⟩ := w
    refine ⟨bx, I1, ds, us, g1.hv, b1, e1, e2, e3, e4, e5, fun ms p1 vs h1 h2 h3 hp1 dq => ?_⟩
    have g2 := Gw.mut (T := T) (.lst vs) g1.hv hp1
    exact w ms h1 h2 h3 _ _ _ (g1.trans g2) (.inl ⟨p1, _, rfl, g1.free hp1, hv_none g1.hv hp1, upd_same, .lst dq⟩)
  | .dcd k v, c, X, x, g, h => by
    obtain ⟨y, z, p, rfl, f1, f2, p1, p2, hk, hv⟩ := invE_dcd h
    refine PE.imp (pe_dcd g.units (lf_st (mE G k) (firm_md f1) (sE k g hk)) (lf_st (mE G v) (firm_md f2) (sE v g hv))) fun σ H Q ⟨bx, I0, H0, ρ, I, s, q⟩ => ?_
    simp only [wpE] at q
    intro p o hp
    have g0 := Gw.mut (T := T) (DnO p o []) s.hv hp
    have np := hv_nfp s.hv hp
    have i0 := hv_none s.hv hp
    refine ⟨bx, I0, H0, ρ, I, s.grow g0, wpE_mono k (fun d w v1 I1 H1 g1 b1 => ?_) q⟩
    have e1 : H1 p = some (DnO p o []) := g1.hp p _ upd_same np
    have i1 : I1 p = none := (g1.im p _ upd_same).trans i0
    refine ⟨bx, I0, H0, ρ, I1, s.grow (g0.trans g1), wpE_mono v (fun d2 w v2 I2 H2 g2 b2 => ?_) w⟩
    have e2 : H2 p = some (DnO p o []) := g2.hp p _ e1 np
    have i2 : I2 p = none := (g2.im p _ e1).trans i1
    obtain ⟨w1, w⟩ := w
    refine PutN.toK (T := T) ⟨bx, I2, d, d2, [], _, g2.hv, .inl (Dq.sub (g2.sub g1.hv) b1), b2, w1, rfl, e2, .dcn .nil, by rw [sizeLine_eq]; decide, fun u' fo' => ?_⟩
    have gg := (g0.trans g1).trans g2
    exact w _ I2 _ (gg.write u' hp i2 np) (.inl ⟨p, u', rfl, hp, i2, upd_same, fo'⟩)
  | .dcc ek ev tg it cd own, c, X, x, g, h => by
    obtain ⟨y, z, t, i, ifs, kk, scope, p, rfl, rfl, hi, hb, ht, ho, hc, f1, f2, hk, hv⟩ := invE_dcc h
    have hi2 : plainE i = true := chkI_plain hi
    have ok : BlkOk X.N X.env.scope scope (ownP c own) := by rw [g.nn, g.sc]; exact blkOk_by hb
    have eo : (ownP c own).map (·.2) = own := by simp [ownP, Function.comp_def]
    have r := pe_dcN (kx := y) (vx := z) (tg := t) (iter := i) (ifs := ifs) (g := gOf X.K tg) (tt := lfT X.K T (wpC G cd)) (tk := lfE X.K T .st (wpE G ek)) (tv := lfE X.K T .st (wpE G ev)) (pos := p) g.units g.calm g.nd (sI it g hi) ok (fun s H C cl fp => pg_tg (g.blk scope s H C cl fp) ht) (fun s H C cl fp => sC cd (g.blk scope s H C cl fp) hc)
      (fun s H C cl fp => lf_st (mE G ek) (firm_md f1) (sE ek (g.blk scope s H C cl fp) hk)) (fun s H C cl fp => lf_st (mE G ev) (firm_md f2) (sE ev (g.blk scope s H C cl fp) hv)) (folded_plain hi2 X.env)
    rw [eo] at r
    exact PE.imp r fun σ H Q hq => lf_dcc ho (tg_ok hi ht) hq
  | .mxd a, c, X, x, g, h => by
    obtain ⟨n, q', l, m, j, n1, p1, p2, p, rfl, rfl, rfl, hg, rfl, rfl, hp, ha⟩ := invE_mxd h
    obtain ⟨h1, h2, h3⟩ := g.gl hg
    have st := star_plain hp [] X.env
    refine PE.imp (pe_callBK (cr_mxK g.calm g.units) h1 (g.blt "max" (by decide)) boot_max (pa_cons (lf_bo (mE G a) (sE a g ha)) pa_nil st) (pk_cons pe_int pk_nil) h3 h2 (by rw [st]; rfl) (by rw [st]; rfl)) fun σ H Q ⟨bx, I0, H0, ρ, I, s, q⟩ => ?_
    simp only [wpE] at q
    refine ⟨bx, I0, H0, ρ, I, s, wpE_mono a (fun d w v I1 H1 g1 b1 => ?_) q⟩
    obtain ⟨ns, rfl, w⟩ := w
    obtain ⟨a1, vs, rfl, k1, q1⟩ := Bo.lstE g1.hv b1
    cases q1.ints
    exact ⟨a1, ns, rfl, rfl, SqL.of k1, w _ I1 H1 g1 (.int _)⟩
  | .mxl a, c, X, x, g, h => by
    obtain ⟨n, q', l, p, rfl, rfl, hg, hp, ha⟩ := invE_mxl h
    obtain ⟨h1, h2, h3⟩ := g.gl hg
    have st := star_plain hp [] X.env
    refine PE.imp (pe_callB (cr_mx g.calm g.units) h1 (g.blt "max" (by decide)) boot_max (pa_cons (lf_bo (mE G a) (sE a g ha)) pa_nil st) h3 h2 st rfl) fun σ H Q ⟨bx, I0, H0, ρ, I, s, q⟩ => ?_
    simp only [wpE] at q
    refine ⟨bx, I0, H0, ρ, I, s, wpE_mono a (fun d w v I1 H1 g1 b1 => ?_) q⟩
    obtain ⟨ns, rfl, ne, w⟩ := w
    obtain ⟨a1, vs, rfl, k1, q1⟩ := Bo.lstE g1.hv b1
    cases q1.ints
    exact ⟨a1, ns, rfl, SqL.of k1, ne, w _ I1 H1 g1 (.int _)⟩
  | .mnl a, c, X, x, g, h => by
    obtain ⟨n, q', l, p, rfl, rfl, hg, hp, ha⟩ := invE_mnl h
    obtain ⟨h1, h2, h3⟩ := g.gl hg
    have st := star_plain hp [] X.env
    refine PE.imp (pe_callB (cr_mn (T := T) g.calm g.units) h1 (g.blt "min" (by decide)) boot_min (pa_cons (lf_bo (mE G a) (sE a g ha)) pa_nil st) h3 h2 st rfl) fun σ H Q ⟨bx, I0, H0, ρ, I, s, q⟩ => ?_
    simp only [wpE] at q
    refine ⟨bx, I0, H0, ρ, I, s, wpE_mono a (fun d w v I1 H1 g1 b1 => ?_) q⟩
    obtain ⟨d0, ds, rfl, o1, o2, o3, o4, w⟩ := w
    exact ⟨v, bx, I1, d0, ds, rfl, g1.hv, b1, o1, o2, o3, o4, fun u du => w u I1 H1 g1 du⟩
  | .tus a b, c, X, x, g, h => by
    obtain ⟨l, r, p1, kk, p, rfl, hf, hp, ha, hb⟩ := invE_tus h
    refine PE.imp (pe_tupF (pa_cons (lf_st (mE G a) (firm_md hf) (sE a g ha)) (StX.pa_star (lf_bo (mE G b) (sE b g hb)) pa_nil rfl) (star_plain hp _ _))) fun σ H Q ⟨bx, I0, H0, ρ, I, s, q⟩ => ?_
    simp only [wpE] at q
    refine ⟨bx, I0, H0, ρ, I, s, wpE_mono a (fun d w v I1 H1 g1 b1 => ?_) q⟩
    refine ⟨bx, I0, H0, ρ, I1, s.grow g1, wpE_mono b (fun y w u I2 H2 g2 b2 => ?_) w⟩
    obtain ⟨ys, e2, hl, w⟩ := w
    have key : ∃ a1 vs, u = .ref a1 ∧ (SqT X.K H2 a1 vs ∨ SqL X.K H2 a1 vs) ∧ DqAll X.K I2 vs ys := by
      cases y with
      | list ds =>
        cases e2
        obtain ⟨a1, vs, rfl, k1, q1⟩ := Bo.lstE g2.hv b2
        exact ⟨a1, vs, rfl, .inr (SqL.of k1), q1⟩
      | tuple ds =>
        cases e2
        obtain ⟨a1, vs, rfl, k1, q1⟩ := b2.tupE
        exact ⟨a1, vs, rfl, .inl (SqT.sub g2.hv.sub k1), q1⟩
      | _ => cases e2
    obtain ⟨a2, us, rfl, sq2, dq2⟩ := key
    refine ⟨a2, us, rfl, sq2, ?_⟩
    have b1' : Dq X.K I2 v d := Dq.sub (g2.sub g1.hv) b1
    refine ⟨by rw [List.append_nil, List.length_cons, dq2.length]; exact hl, fun p3 ob oc od hp3 => ?_⟩
    rw [List.append_nil]
    have gg := g1.trans g2
    have g3 := Gw.new (T := T) (.frz ob (.tup (v :: us))) gg.hv hp3
    exact w _ _ _ (gg.trans g3) (.tup (Tq.new oc od) (.cons (b1'.sub (g3.sub gg.hv)) (dq2.sub (g3.sub gg.hv))))
  | .get a k d, c, X, x, g, h => by
    rcases invE_get h with ⟨o, p, y, q', rfl, rfl, hl, py, po, hb, ha, hk⟩ | ⟨o, p, y, z, q', rfl, hl, py, pz, po, hb, hf, ha, hk, hd⟩
    · refine PE.imp (pe_getN1 (T := T) g.units (lf_bo (mE G a) (sE a g ha)) (lf_bo (mE G k) (sE k g hk)) py (base_ok hb _ _ _) (by rw [hl]; exact beq_self_eq_true _)) fun σ H Q ⟨bx, I0, H0, ρ, I, s, q⟩ => ?_
      simp only [wpE] at q
      refine ⟨bx, I0, H0, ρ, I, s, wpE_mono a (fun d1 w v I1 H1 g1 b1 => ?_) q⟩
      obtain ⟨kvs, rfl, w⟩ := w
      obtain ⟨a1, rfl, dc⟩ := Bo.dicE g1.hv b1
      refine ⟨a1, rfl, dc.is, bx, I0, H0, ρ, I1, s.grow g1, wpE_mono k (fun d2 w v2 I2 H2 g2 b2 => ?_) w⟩
      obtain ⟨kf, w⟩ := w
      obtain ⟨a2, e2, dc2⟩ := Bo.dicE g2.hv (Bo.grow g1.hv g2 b1)
      cases e2
      refine ⟨bx, I2, d2, kvs, g2.hv, dc2, b2, kf, fun d v e dv => ?_, fun e => ?_⟩
      · rw [e] at w; exact w v I2 H2 (g1.trans g2) dv
      · rw [e] at w; exact w _ I2 H2 (g1.trans g2) .non
    · refine PE.imp (pe_getN (T := T) g.units (lf_bo (mE G a) (sE a g ha)) (lf_bo (mE G k) (sE k g hk)) (lf_st (mE G d) (firm_md hf) (sE d g hd)) py pz (base_ok hb _ _ _) (by rw [hl]; exact beq_self_eq_true _)) fun σ H Q ⟨bx, I0, H0, ρ, I, s, q⟩ => ?_
      simp only [wpE] at q
      refine ⟨bx, I0, H0, ρ, I, s, wpE_mono a (fun d1 w v I1 H1 g1 b1 => ?_) q⟩
      obtain ⟨kvs, rfl, w⟩ := w
      obtain ⟨a1, rfl, dc⟩ := Bo.dicE g1.hv b1
      refine ⟨a1, rfl, dc.is, bx, I0, H0, ρ, I1, s.grow g1, wpE_mono k (fun d2 w v2 I2 H2 g2 b2 => ?_) w⟩
      refine ⟨bx, I0, H0, ρ, I2, s.grow (g1.trans g2), wpE_mono d (fun d3 w v3 I3 H3 g3 b3 => ?_) w⟩
      obtain ⟨kf, w⟩ := w
      have gg := (g1.trans g2).trans g3
      obtain ⟨a2, e2, dc2⟩ := Bo.dicE g3.hv (Bo.grow g2.hv g3 (Bo.grow g1.hv g2 b1))
      cases e2
      refine ⟨bx, I3, d2, kvs, g3.hv, dc2, Bo.grow g2.hv g3 b2, kf, fun d v e dv => ?_, fun e => ?_⟩
      · rw [e] at w; exact w v I3 H3 gg dv
      · rw [e] at w; exact w _ I3 H3 gg b3
  | .trg (.rg a), c, X, x, g, h => by
    obtain ⟨n0, q0, l, p, rfl, rfl, hg0, _, hi⟩ := invE_trg h
    obtain ⟨n, q', l, p', rfl, rfl, hg, hp, ha⟩ := invI_rg hi
    obtain ⟨h1, h2, h3⟩ := g.gl hg
    obtain ⟨k1, k2, k3⟩ := g.gl hg0
    refine PE.imp (pe_tupRgF g.calm k1 (g.blt "tuple" (by decide)) (prg_1 h1 (g.blt "range" (by decide)) (lf_bo (mE G a) (sE a g ha)) (star_plain hp _ _))) fun σ H Q ⟨bx, I0, H0, ρ, I, s, q⟩ => ?_
    simp only [wpE, wpI] at q
    refine ⟨bx, I0, H0, ρ, I, s, wpE_mono a (fun d w v I1 H1 g1 b1 => ?_) q⟩
    obtain ⟨m, rfl, l1, l2, w1, w⟩ := w
    cases b1.intE
    rw [rg_len] at w1
    refine ⟨m, rfl, ⟨by omega, by omega, l1, l2, by rw [Int.sub_zero]; omega⟩, fun a1 ob oc od ha1 => ?_⟩
    have e : rgV 0 m = (List.range m.toNat).map fun i => V.int (0 + (i : Nat)) := by unfold rgV; rw [Int.sub_zero]
    have g2 := Gw.new (T := T) (.frz ob (.tup (rgV 0 m))) g1.hv ha1
    refine w _ _ _ (g1.trans g2) (.tup (Tq.new oc od) ?_)
    rw [e]
    exact dq_rg 0 m.toNat
  | .trg (.rg2 a b), c, X, x, g, h => by
    obtain ⟨n0, q0, l, p, rfl, rfl, hg0, _, hi⟩ := invE_trg h
    obtain ⟨n, q', l, r, p', rfl, rfl, hg, hp, hp2, ha, hb⟩ := invI_rg2 hi
    obtain ⟨h1, h2, h3⟩ := g.gl hg
    obtain ⟨k1, k2, k3⟩ := g.gl hg0
    refine PE.imp (pe_tupRgF g.calm k1 (g.blt "tuple" (by decide)) (prg_2 h1 (g.blt "range" (by decide)) (lf_bo (mE G a) (sE a g ha)) (lf_bo (mE G b) (sE b g hb)) (star_plain hp _ _) (star_plain hp2 _ _) (by rw [star_plain hp2]; rfl))) fun σ H Q ⟨bx, I0, H0, ρ, I, s, q⟩ => ?_
    simp only [wpE, wpI] at q
    refine ⟨bx, I0, H0, ρ, I, s, wpE_mono a (fun d w v I1 H1 g1 b1 => ?_) q⟩
    refine ⟨bx, I0, H0, ρ, I1, s.grow g1, wpE_mono b (fun e w v2 I2 H2 g2 b2 => ?_) w⟩
    obtain ⟨m, n, rfl, rfl, ⟨l1, l2, l3, l4⟩, w1, w⟩ := w
    cases b1.intE; cases b2.intE
    rw [rg_len] at w1
    refine ⟨m, n, rfl, rfl, ⟨l1, l2, l3, l4, by omega⟩, fun a1 ob oc od ha1 => ?_⟩
    have g3 := Gw.new (T := T) (.frz ob (.tup (rgV m n))) g2.hv ha1
    exact w _ _ _ ((g1.trans g2).trans g3) (.tup (Tq.new oc od) (dq_rg m (n - m).toNat))
  | .trg (.sq _), c, X, x, g, h => by obtain ⟨_, _, _, _, _, _, _, z, _⟩ := invE_trg h; cases z
  | .trg (.zp _ _), c, X, x, g, h => by obtain ⟨_, _, _, _, _, _, _, z, _⟩ := invE_trg h; cases z
  | .trg (.zm _ _), c, X, x, g, h => by obtain ⟨_, _, _, _, _, _, _, z, _⟩ := invE_trg h; cases z
  | .trg (.en _), c, X, x, g, h => by obtain ⟨_, _, _, _, _, _, _, z, _⟩ := invE_trg h; cases z
  | .trg (.di _), c, X, x, g, h => by obtain ⟨_, _, _, _, _, _, _, z, _⟩ := invE_trg h; cases z
  | .cou a y, c, X, x, g, h => by
    obtain ⟨o, p, z, q', rfl, hl, pz, po, hb, ha, hy⟩ := invE_cou h
    refine PE.imp (pe_cou g.units (lf_bo (mE G a) (sE a g ha)) (lf_bo (mE G y) (sE y g hy)) pz (base_ok hb _ _ _) (by rw [hl]; exact beq_self_eq_true _)) fun σ H Q ⟨bx, I0, H0, ρ, I, s, q⟩ => ?_
    simp only [wpE] at q
    refine ⟨bx, I0, H0, ρ, I, s, wpE_mono a (fun d w v I1 H1 g1 b1 => ?_) q⟩
    obtain ⟨ds, ed, w⟩ := w
    rcases ed with rfl | rfl
    · obtain ⟨a1, vs, rfl, k1, q1⟩ := Bo.lstE g1.hv b1
      refine .inl ⟨⟨a1, vs, rfl, SqL.of k1⟩, bx, I0, H0, ρ, I1, s.grow g1, wpE_mono y (fun d2 w v2 I2 H2 g2 b2 => ?_) w⟩
      obtain ⟨e1, e2, w⟩ := w
      exact ⟨a1, v2, d2, ds, rfl, rfl, (Bo.grow g1.hv g2 b1).dp g2.hv (lay_of e1), b2.dp g2.hv (lay_of e2), e1, e2, w _ I2 H2 (g1.trans g2) (.int _)⟩
    · obtain ⟨a1, vs, rfl, k1, q1⟩ := Bo.tupQ b1
      refine .inr ⟨⟨a1, vs, rfl, Tq.sub g1.hv.sub k1⟩, bx, I0, H0, ρ, I1, s.grow g1, wpE_mono y (fun d2 w v2 I2 H2 g2 b2 => ?_) w⟩
      obtain ⟨e1, e2, w⟩ := w
      exact ⟨a1, v2, d2, ds, rfl, rfl, (Bo.grow g1.hv g2 b1).dp g2.hv (lay_of (show SeqAt.shaped (.tuple ds) = true from e1)), b2.dp g2.hv (lay_of e2), e1, e2, w _ I2 H2 (g1.trans g2) (.int _)⟩
  | .lix a y, c, X, x, g, h => by
    obtain ⟨o, p, z, q', rfl, hl, pz, po, hb, ha, hy⟩ := invE_lix h
    refine PE.imp (pe_lix g.units (lf_bo (mE G a) (sE a g ha)) (lf_bo (mE G y) (sE y g hy)) pz (base_ok hb _ _ _) (by rw [hl]; exact beq_self_eq_true _)) fun σ H Q ⟨bx, I0, H0, ρ, I, s, q⟩ => ?_
    simp only [wpE] at q
    refine ⟨bx, I0, H0, ρ, I, s, wpE_mono a (fun d w v I1 H1 g1 b1 => ?_) q⟩
    obtain ⟨ds, ed, w⟩ := w
    rcases ed with rfl | rfl
    · obtain ⟨a1, vs, rfl, k1, q1⟩ := Bo.lstE g1.hv b1
      refine .inl ⟨⟨a1, vs, rfl, SqL.of k1⟩, bx, I0, H0, ρ, I1, s.grow g1, wpE_mono y (fun d2 w v2 I2 H2 g2 b2 => ?_) w⟩
      obtain ⟨n, e1, e2, e3, w⟩ := w
      obtain ⟨hn, hz, hno⟩ := List.findIdx?_eq_some_iff_getElem.mp e3
      refine ⟨a1, v2, d2, ds, n, ds[n], rfl, rfl, (Bo.grow g1.hv g2 b1).dp g2.hv (lay_of e1), b2.dp g2.hv (lay_of e2), e1, e2, List.getElem?_eq_getElem hn, hz, fun m z' hm hz' => ?_, w _ I2 H2 (g1.trans g2) (.int _)⟩
      have hml : m < ds.length := by omega
      rw [List.getElem?_eq_getElem hml] at hz'
      cases hz'
      simpa using hno m hm
    · obtain ⟨a1, vs, rfl, k1, q1⟩ := Bo.tupQ b1
      refine .inr ⟨⟨a1, vs, rfl, Tq.sub g1.hv.sub k1⟩, bx, I0, H0, ρ, I1, s.grow g1, wpE_mono y (fun d2 w v2 I2 H2 g2 b2 => ?_) w⟩
      obtain ⟨n, e1, e2, e3, w⟩ := w
      obtain ⟨hn, hz, hno⟩ := List.findIdx?_eq_some_iff_getElem.mp e3
      refine ⟨a1, v2, d2, ds, n, ds[n], rfl, rfl, (Bo.grow g1.hv g2 b1).dp g2.hv (by simpa [PyData.canLay0] using lay_of e1), b2.dp g2.hv (lay_of e2), e1, e2, List.getElem?_eq_getElem hn, hz, fun m z' hm hz' => ?_, w _ I2 H2 (g1.trans g2) (.int _)⟩
      have hml : m < ds.length := by omega
      rw [List.getElem?_eq_getElem hml] at hz'
      cases hz'
      simpa using hno m hm
  | .bcl f es, c, X, x, g, h => by
    obtain ⟨n, q', xs, p, rfl, rfl, hg, hne, ha⟩ := invE_bcl h
    cases xs with
    | nil => simp at hne
    | cons e0 es0 =>
      cases e : G.con f with
      | none => exact ⟨fun pins s σ H Q I ⟨bx, I0, H0, ρ, J, sa, q⟩ => by simp only [wpE, e] at q⟩
      | some d =>
        refine PE.imp (lf_bcl g e hg (chkEs_plain ha) (sEs es false g ha)) fun σ H Q ⟨bx, I0, H0, ρ, I, s, q⟩ => ?_
        simp only [wpE, e] at q
        exact ⟨bx, I0, H0, ρ, I, s, q⟩
  | .blt f es, c, X, x, g, h => by
    obtain ⟨n, q', xs, p, rfl, rfl, hg, hne, ha⟩ := invE_blt h
    cases xs with
    | nil => simp at hne
    | cons e0 es0 =>
      refine PE.imp (pe_blt g hg (chkEs_plain ha) (sEs es false g ha)) fun σ H Q ⟨bx, I0, H0, ρ, I, s, q⟩ => ?_
      simp only [wpE] at q
      exact lf_blt (m := (Ex.blt f es).mode) (by cases f <;> rfl) ⟨bx, I0, H0, ρ, I, s, q⟩
  | .isi a t, c, X, x, g, h => by
    obtain ⟨n, q', l, m, r, p, rfl, rfl, rfl, hn, hm, ht, hp, ha⟩ := invE_isi h
    refine PE.imp (lf_isi g (mE G a) hn hm ht hp (lf_bo (mE G a) (sE a g ha))) fun σ H Q ⟨bx, I0, H0, ρ, I, s, q⟩ => ?_
    simp only [wpE] at q
    exact ⟨bx, I0, H0, ρ, I, s, q⟩
  | .lc el tg it cd own, c, X, x, g, h => by
    obtain ⟨y, t, i, ifs, kk, scope, p, rfl, rfl, hi, hb, ht, ho, hc, hf, he⟩ := invE_lc h
    have hi2 : plainE i = true := chkI_plain hi
    have ok : BlkOk X.N X.env.scope scope (ownP c own) := by rw [g.nn, g.sc]; exact blkOk_by hb
    have eo : (ownP c own).map (·.2) = own := by simp [ownP, Function.comp_def]
    have r := pe_lc (elt := y) (tg := t) (iter := i) (ifs := ifs) (g := gOf X.K tg) (tt := lfT X.K T (wpC G cd)) (te := lfE X.K T .st (wpE G el)) (pos := p) g.calm g.nd (sI it g hi) ok (fun s H C cl fp => pg_tg (g.blk scope s H C cl fp) ht) (fun s H C cl fp => sC cd (g.blk scope s H C cl fp) hc)
      (fun s H C cl fp => lf_st (mE G el) (firm_md hf) (sE el (g.blk scope s H C cl fp) he)) (folded_plain hi2 X.env)
    rw [eo] at r
    exact PE.imp r fun σ H Q hq => lf_lc ho (tg_ok hi ht) hq
  | .lc2 el tg it cd tg2 it2 cd2 own own2, c, X, x, g, h => by
    obtain ⟨y, t, i, ifs, kk, t2, i2, ifs2, kk2, scope, p, rfl, rfl, rfl, hi, hb, ht, ho, hc, hi2, ht2, ho2, hc2, hsub, hf, he⟩ := invE_lc2 h
    have p1 : plainE i = true := chkI_plain hi
    have p2 : plainE i2 = true := chkI_plain hi2
    have ok : BlkOk X.N X.env.scope scope (ownP c own) := by rw [g.nn, g.sc]; exact blkOk_by hb
    have eo : (ownP c own).map (·.2) = own := by simp [ownP, Function.comp_def]
    have r := pe_lc2 (elt := y) (tg := t) (iter := i) (ifs := ifs) (tg1 := t2) (iter1 := i2) (ifs1 := ifs2) (wi1 := lfI X.K T it2.prs (wpI G it2)) (g := gOf X.K tg) (g1 := gOf X.K tg2) (tt := lfT X.K T (wpC G cd)) (tt1 := lfT X.K T (wpC G cd2)) (te := lfE X.K T .st (wpE G el)) (vs1 := own2) (pos := p) g.calm g.nd (sI it g hi) ok (fun j hj => by rw [eo]; simpa using List.all_eq_true.mp hsub j hj) (fun s H C cl fp => pg_tg (g.blk scope s H C cl fp) ht) (fun s H C cl fp => sC cd (g.blk scope s H C cl fp) hc)
      (fun s H C cl fp => sI it2 (g.blk scope s H C cl fp) hi2) (fun s H C cl fp => pg_tg (g.blk scope s H C cl fp) ht2) (fun s H C cl fp => sC cd2 (g.blk scope s H C cl fp) hc2)
      (fun s H C cl fp => lf_st (mE G el) (firm_md hf) (sE el (g.blk scope s H C cl fp) he)) (folded_plain p1 X.env) (folded_plain p2)
    rw [eo] at r
    exact PE.imp r fun σ H Q hq => lf_lc2 ho ho2 (tg_ok hi ht) (tg_ok hi2 ht2) hq
theorem sEs : ∀ (es : Exs) (firm : Bool) {c : Ck} {X : Cx} {xs : List Expr}, Gd T G k c X → chkEs c firm es xs = true → PA X xs (lfEs X.K T firm (wpEs G es))
  | .nil, firm, c, X, [], g, h => PA.imp pa_nil fun σ H Q ⟨bx, I0, H0, ρ, I, s, q⟩ => by
    simp only [wpEs] at q
    exact q [] I H (Gw.refl s.hv) (by cases firm; exact .nil; exact .nil)
  | .nil, firm, c, X, _ :: _, g, h => by simp [chkEs] at h
  | .cons _ _, firm, c, X, [], g, h => by simp [chkEs] at h
  | .cons e es, firm, c, X, x :: xs, g, h => by
    simp only [chkEs, Bool.and_eq_true, Bool.or_eq_true, Bool.not_eq_true'] at h
    obtain ⟨⟨⟨hp, hf⟩, he⟩, hs⟩ := h
    cases firm with
    | false =>
      refine PA.imp (pa_cons (lf_bo (mE G e) (sE e g he)) (sEs es false g hs) (star_plain hp _ _)) fun σ H Q ⟨bx, I0, H0, ρ, I, s, q⟩ => ?_
      simp only [wpEs] at q
      refine ⟨bx, I0, H0, ρ, I, s, wpE_mono e (fun d w v I1 H1 g1 b1 => ?_) q⟩
      refine ⟨bx, I0, H0, ρ, I1, s.grow g1, wpEs_mono es (fun ds w vs I2 H2 g2 b2 => ?_) w⟩
      exact w _ I2 H2 (g1.trans g2) (.cons (Bo.grow g1.hv g2 b1) b2)
    | true =>
      have hf : e.firm = true := by simpa using hf
      refine PA.imp (pa_cons (lf_st (mE G e) (firm_md hf) (sE e g he)) (sEs es true g hs) (star_plain hp _ _)) fun σ H Q ⟨bx, I0, H0, ρ, I, s, q⟩ => ?_
      simp only [wpEs] at q
      refine ⟨bx, I0, H0, ρ, I, s, wpE_mono e (fun d w v I1 H1 g1 b1 => ?_) q⟩
      refine ⟨bx, I0, H0, ρ, I1, s.grow g1, wpEs_mono es (fun ds w vs I2 H2 g2 b2 => ?_) w⟩
      exact w _ I2 H2 (g1.trans g2) (.cons (Dq.sub (g2.sub g1.hv) b1) b2)
theorem sAs : ∀ (es : Exs) {c : Ck} {X : Cx} {xs : List Expr}, Gd T G k c X → chkAs c es xs = true → PA X xs (lfAs X.K T (wpAs G es))
  | .nil, c, X, [], g, h => PA.imp pa_nil fun σ H Q ⟨bx, I0, H0, ρ, I, s, q⟩ => by
    simp only [wpAs] at q
    exact q [] I H (Gw.refl s.hv) .nil
  | .nil, c, X, _ :: _, g, h => by simp [chkAs] at h
  | .cons _ _, c, X, [], g, h => by simp [chkAs] at h
  | .cons e es, c, X, x :: xs, g, h => by
    simp only [chkAs, Bool.and_eq_true] at h
    obtain ⟨⟨⟨hp, hf⟩, he⟩, hs⟩ := h
    have base : PE X x (fun σ H Q => (∃ bx I0 H0 ρ I, SA X.K T bx I0 H0 ρ σ I H ∧ isBoxArg ρ e = true ∧ ∀ a fp, bx = some (a, fp) → Q (.ref a) H) ∨ lfE X.K T .st (wpE G e) σ H Q) := by
      have h1 := lf_st (mE G e) (firm_md hf) (sE e g he)
      refine ⟨fun pins s σ H Q I h => ?_⟩
      rcases h with ⟨bx, I0, H0, ρ, J, sa, hb, q⟩ | h
      · cases e <;> simp only [isBoxArg] at hb <;> try (cases hb; done)
        rename_i i
        obtain ⟨y, p, rfl, h⟩ := invE_var he
        obtain ⟨v1, v2, v3, v4⟩ := g.vis h
        have e3 : ρ.getD i .un = .box := by
          split at hb
          · assumption
          · cases hb
        obtain ⟨a, fp, e1, e2⟩ := sa.isbox e3
        exact (pe_var v1 v2 v3 v4).run pins s σ H Q I ⟨.ref a, e2, q a fp e1⟩
      · exact h1.run pins s σ H Q I h
    refine PA.imp (pa_cons base (sAs es g hs) (star_plain hp _ _)) fun σ H Q ⟨bx, I0, H0, ρ, I, s, q⟩ => ?_
    simp only [wpAs] at q
    by_cases hb : isBoxArg ρ e = true
    · rw [if_pos hb] at q
      refine .inl ⟨bx, I0, H0, ρ, I, s, hb, fun a fp eb => ?_⟩
      exact ⟨bx, I0, H0, ρ, I, s, wpAs_mono es (fun as w vs I2 H2 g2 b2 => w _ I2 H2 g2 (.box eb b2)) q⟩
    · rw [if_neg hb] at q
      refine .inr ⟨bx, I0, H0, ρ, I, s, wpE_mono e (fun d w v I1 H1 g1 b1 => ?_) q⟩
      refine ⟨bx, I0, H0, ρ, I1, s.grow g1, wpAs_mono es (fun ds w vs I2 H2 g2 b2 => ?_) w⟩
      exact w _ I2 H2 (g1.trans g2) (.dat (Dq.sub (g2.sub g1.hv) b1) b2)
theorem sO : ∀ (e : Ox) {c : Ck} {X : Cx} {x : Option Expr}, Gd T G k c X → chkO c e x = true → PO X x (lfO X.K T (wpO G e))
  | .no, c, X, none, g, h => PO.imp po_none fun σ H Q ⟨bx, I0, H0, ρ, I, s, q⟩ => by
    simp only [wpO] at q
    exact q I H (Gw.refl s.hv)
  | .no, c, X, some _, g, h => by simp [chkO] at h
  | .so e, c, X, none, g, h => by simp [chkO] at h
  | .so e, c, X, some x, g, h => by
    simp only [chkO] at h
    refine PO.imp (po_some (lf_bo (mE G e) (sE e g h))) fun σ H Q ⟨bx, I0, H0, ρ, I, s, q⟩ => ?_
    simp only [wpO] at q
    refine ⟨bx, I0, H0, ρ, I, s, wpE_mono e (fun d w v I1 H1 g1 b1 => ?_) q⟩
    obtain ⟨i, rfl, w⟩ := w
    cases b1.intE
    exact ⟨i, rfl, w I1 H1 g1⟩
theorem sC : ∀ (e : Ox) {c : Ck} {X : Cx} {xs : List Expr}, Gd T G k c X → chkC c e xs = true → PTs X xs (lfT X.K T (wpC G e))
  | .no, c, X, [], g, h => PTs.imp pts_nil fun σ H Q ⟨bx, I0, H0, ρ, I, s, q⟩ => by
    simp only [wpC] at q
    exact q I H (Gw.refl s.hv)
  | .no, c, X, _ :: _, g, h => by simp [chkC] at h
  | .so e, c, X, [], g, h => by simp [chkC] at h
  | .so e, c, X, [x], g, h => by
    simp only [chkC] at h
    refine PTs.imp (pts_one (sT e g h)) fun σ H Q ⟨bx, I0, H0, ρ, I, s, q⟩ => ?_
    simp only [wpC] at q
    exact ⟨bx, I0, H0, ρ, I, s, q⟩
  | .so e, c, X, _ :: _ :: _, g, h => by simp [chkC] at h
theorem sI : ∀ (e : It) {c : Ck} {X : Cx} {t x : Expr}, Gd T G k c X → chkI c e t x = true → PI X t x (lfI X.K T e.prs (wpI G e))
  | .sq e, c, X, t, x, g, h => by
    simp only [chkI, Bool.and_eq_true] at h
    refine PI.imp (seq_iter (mE G e) (lf_st (mE G e) (firm_md h.1.2) (sE e g h.2))) fun σ H Q ⟨bx, I0, H0, ρ, I, s, q⟩ => ?_
    simp only [wpI] at q
    exact ⟨bx, I0, H0, ρ, I, s, q⟩
  | .di a, c, X, t, x, g, h => by
    obtain ⟨ts, kk, tp, o, p, q', rfl, rfl, hl, po, hb, hf, ha⟩ := invI_di h
    refine PI.imp (pi_pairsN (lf_st (mE G a) (firm_md hf) (sE a g ha)) (base_ok hb _ _ _) (by rw [hl]; exact beq_self_eq_true _)) fun σ H Q ⟨bx, I0, H0, ρ, I, s, q⟩ => ?_
    simp only [wpI] at q
    refine ⟨bx, I0, H0, ρ, I, s, wpE_mono a (fun d w v I1 H1 g1 b1 => ?_) q⟩
    obtain ⟨kvs, rfl, hw, w⟩ := w
    have b1 : Dq X.K I1 v (.dict kvs) := b1
    have hc : (kvs.all fun p => keyN p.1) = true := by
      simp only [walkOf] at hw
      split at hw
      · rename_i hc
        exact hc
      · cases hw
    obtain ⟨a1, rfl, ⟨xs, h1, n1, q1⟩ | ⟨b, o1, xs, h1, q1⟩⟩ := b1.dicE
    · have := all_nil q1.keys hc
      subst this
      cases q1
      exact absurd rfl n1
    · obtain ⟨vs, v1, v2, v3⟩ := q1.vals
      exact ⟨a1, b, o1, xs, vs, rfl, g1.hv.sub _ _ h1, v1, v2, fun e => w _ I1 H1 g1 (wk_pairsN h1 e q1 v1 v3)⟩
  | .rg a, c, X, t, x, g, h => by
    obtain ⟨n, q', l, p, rfl, rfl, hg, hp, ha⟩ := invI_rg h
    obtain ⟨h1, h2, h3⟩ := g.gl hg
    refine PI.imp (pi_range1 h1 (g.blt "range" (by decide)) (pa_cons (lf_bo (mE G a) (sE a g ha)) pa_nil (star_plain hp _ _)) (star_plain hp _ _)) fun σ H Q ⟨bx, I0, H0, ρ, I, s, q⟩ => ?_
    simp only [wpI] at q
    refine ⟨bx, I0, H0, ρ, I, s, wpE_mono a (fun d w v I1 H1 g1 b1 => ?_) q⟩
    obtain ⟨m, rfl, l1, l2, w⟩ := w
    cases b1.intE
    exact ⟨m, rfl, l1, l2, w _ I1 H1 g1 (wk_range 0 m.toNat)⟩
  | .rg2 a b, c, X, t, x, g, h => by
    obtain ⟨n, q', l, r, p, rfl, rfl, hg, hp, hp2, ha, hb⟩ := invI_rg2 h
    obtain ⟨h1, h2, h3⟩ := g.gl hg
    refine PI.imp (pi_range2 h1 (g.blt "range" (by decide)) (pa_cons (lf_bo (mE G a) (sE a g ha)) (pa_cons (lf_bo (mE G b) (sE b g hb)) pa_nil (star_plain hp2 _ _)) (star_plain hp _ _)) (by rw [star_plain hp, star_plain hp2]; rfl) (star_plain hp2 _ _)) fun σ H Q ⟨bx, I0, H0, ρ, I, s, q⟩ => ?_
    simp only [wpI] at q
    refine ⟨bx, I0, H0, ρ, I, s, wpE_mono a (fun d w v I1 H1 g1 b1 => ?_) q⟩
    refine ⟨bx, I0, H0, ρ, I1, s.grow g1, wpE_mono b (fun e w v2 I2 H2 g2 b2 => ?_) w⟩
    obtain ⟨m, n, rfl, rfl, l1, w⟩ := w
    cases b1.intE; cases b2.intE
    exact ⟨m, n, rfl, l1, w _ I2 H2 (g1.trans g2) (wk_range m (n - m).toNat)⟩
  | .zp a b, c, X, t, x, g, h => by
    obtain ⟨ts, kk, tp, n, q', l, r, p, rfl, rfl, rfl, hg, hp, hp2, f1, f2, ha, hb⟩ := invI_zp h
    obtain ⟨h1, h2, h3⟩ := g.gl hg
    refine PI.imp (RZ.pi_zipA h1 (g.blt "zip" (by decide)) (pa_cons (lf_st (mE G a) (firm_md f1) (sE a g ha)) (pa_cons (lf_st (mE G b) (firm_md f2) (sE b g hb)) pa_nil (star_plain hp2 _ _)) (star_plain hp _ _)) (star_plain hp _ _) (by rw [star_plain hp2]; rfl)) fun σ H Q ⟨bx, I0, H0, ρ, I, s, q⟩ => ?_
    simp only [wpI] at q
    refine ⟨bx, I0, H0, ρ, I, s, wpE_mono a (fun d w v I1 H1 g1 b1 => ?_) q⟩
    refine ⟨bx, I0, H0, ρ, I1, s.grow g1, wpE_mono b (fun e w v2 I2 H2 g2 b2 => ?_) w⟩
    have b1 : Dq X.K I2 v d := Dq.sub (g2.sub g1.hv) b1
    rcases w with ⟨xs, ys, rfl, rfl, w⟩ | ⟨xs, ys, rfl, rfl, w⟩
    · obtain ⟨a1, vs, rfl, k1, q1⟩ := b1.lstE
      obtain ⟨a2, us, rfl, k2, q2⟩ := Dq.lstE b2
      exact ⟨a1, a2, vs, us, rfl, .inl ⟨SqL.of (g2.hv.sub _ _ k1), SqL.of (g2.hv.sub _ _ k2), w _ I2 H2 (g1.trans g2) (wk_zipL k1 k2 q1 q2)⟩⟩
    · obtain ⟨a1, vs, rfl, k1, q1⟩ := b1.tupE
      obtain ⟨a2, us, rfl, k2, q2⟩ := Dq.tupE b2
      exact ⟨a1, a2, vs, us, rfl, .inr ⟨SqT.sub g2.hv.sub k1, SqT.sub g2.hv.sub k2, w _ I2 H2 (g1.trans g2) (wk_zipT k1 k2 q1 q2)⟩⟩
  | .zm a b, c, X, t, x, g, h => by
    obtain ⟨ts, kk, tp, n, q', l, r, p, rfl, rfl, rfl, hg, hp, hp2, f1, f2, ha, hb⟩ := invI_zm h
    obtain ⟨h1, h2, h3⟩ := g.gl hg
    refine PI.imp (RZ.pi_zipM h1 (g.blt "zip" (by decide)) (pa_cons (lf_st (mE G a) (firm_md f1) (sE a g ha)) (pa_cons (lf_st (mE G b) (firm_md f2) (sE b g hb)) pa_nil (star_plain hp2 _ _)) (star_plain hp _ _)) (star_plain hp _ _) (by rw [star_plain hp2]; rfl)) fun σ H Q ⟨bx, I0, H0, ρ, I, s, q⟩ => ?_
    simp only [wpI] at q
    refine ⟨bx, I0, H0, ρ, I, s, wpE_mono a (fun d w v I1 H1 g1 b1 => ?_) q⟩
    refine ⟨bx, I0, H0, ρ, I1, s.grow g1, wpE_mono b (fun e w v2 I2 H2 g2 b2 => ?_) w⟩
    have b1 : Dq X.K I2 v d := Dq.sub (g2.sub g1.hv) b1
    obtain ⟨xs, ys, rfl, rfl, w⟩ := w
    obtain ⟨a1, vs, rfl, k1, q1⟩ := b1.tupE
    obtain ⟨a2, us, rfl, k2, q2⟩ := Dq.lstE b2
    exact ⟨a1, a2, vs, us, rfl, SqT.sub g2.hv.sub k1, SqL.of (g2.hv.sub _ _ k2), w _ I2 H2 (g1.trans g2) (wk_zipM k1 k2 q1 q2)⟩
  | .en a, c, X, t, x, g, h => by
    obtain ⟨ts, kk, tp, n, q', l, p, rfl, rfl, rfl, hg, hp, f1, ha⟩ := invI_en h
    obtain ⟨h1, h2, h3⟩ := g.gl hg
    refine PI.imp (pi_enumA h1 (g.blt "enumerate" (by decide)) (pa_cons (lf_st (mE G a) (firm_md f1) (sE a g ha)) pa_nil (star_plain hp _ _)) (star_plain hp _ _)) fun σ H Q ⟨bx, I0, H0, ρ, I, s, q⟩ => ?_
    simp only [wpI] at q
    refine ⟨bx, I0, H0, ρ, I, s, wpE_mono a (fun d w v I1 H1 g1 b1 => ?_) q⟩
    obtain ⟨ds, e, w⟩ := w
    cases d with
    | list es =>
      cases e
      obtain ⟨a1, vs, rfl, k1, q1⟩ := Dq.lstE b1
      exact ⟨a1, vs, rfl, .inl ⟨SqL.of (g1.hv.sub _ _ k1), w _ I1 H1 g1 (wk_enL k1 q1)⟩⟩
    | tuple es =>
      cases e
      obtain ⟨a1, vs, rfl, k1, q1⟩ := Dq.tupE b1
      exact ⟨a1, vs, rfl, .inr ⟨SqT.sub g1.hv.sub k1, w _ I1 H1 g1 (wk_enT k1 q1)⟩⟩
    | _ => cases e
theorem sT : ∀ (e : Ex) {c : Ck} {X : Cx} {x : Expr}, Gd T G k c X → chkT c e x = true → PT X x (lfT X.K T (wpT G e))
  | .and a b, c, X, x, g, h => by
    have fin : ∀ {l r : Expr} {rest : List Expr} {p : Pos}, PT X l (lfT X.K T (wpT G a)) → PW X (.BoolOp .And (r :: rest) p) (lfT X.K T (wpT G b)) → PT X (.BoolOp .And (l :: r :: rest) p) (lfT X.K T (wpT G (.and a b))) := fun ha hb => by
      refine PT.imp (pw_and ha hb).pt fun σ H Q ⟨bx, I0, H0, ρ, I, s, q⟩ => ?_
      simp only [wpT] at q
      refine ⟨bx, I0, H0, ρ, I, s, wpT_mono a (fun kk w I1 H1 g1 => ?_) q⟩
      cases kk with
      | false => exact w I1 H1 g1
      | true => exact ⟨bx, I0, H0, ρ, I1, s.grow g1, wpT_mono b (fun d kk I2 H2 g2 => kk I2 H2 (g1.trans g2)) w⟩
    rcases invT_and h with ⟨l, r, p, rfl, ha, hb⟩ | ⟨l, r, z, rest, p, rfl, ha, hb⟩
    · exact fin (sT a g ha) (pw_and1 (sT b g hb))
    · exact fin (sT a g ha) (pw_of (sT b g hb))
  | .or a b, c, X, x, g, h => by
    have fin : ∀ {l r : Expr} {rest : List Expr} {p : Pos}, PT X l (lfT X.K T (wpT G a)) → PW X (.BoolOp .Or (r :: rest) p) (lfT X.K T (wpT G b)) → PT X (.BoolOp .Or (l :: r :: rest) p) (lfT X.K T (wpT G (.or a b))) := fun ha hb => by
      refine PT.imp (pw_or ha hb).pt fun σ H Q ⟨bx, I0, H0, ρ, I, s, q⟩ => ?_
      simp only [wpT] at q
      refine ⟨bx, I0, H0, ρ, I, s, wpT_mono a (fun kk w I1 H1 g1 => ?_) q⟩
      cases kk with
      | true => exact w I1 H1 g1
      | false => exact ⟨bx, I0, H0, ρ, I1, s.grow g1, wpT_mono b (fun d kk I2 H2 g2 => kk I2 H2 (g1.trans g2)) w⟩
    rcases invT_or h with ⟨l, r, p, rfl, ha, hb⟩ | ⟨l, r, z, rest, p, rfl, ha, hb⟩
    · exact fin (sT a g ha) (pw_or1 (sT b g hb))
    · exact fin (sT a g ha) (pw_of (sT b g hb))
  | .not a, c, X, x, g, h => by
    obtain ⟨l, p, rfl, ha⟩ := invT_not h
    refine PT.imp (pt_not (sT a g ha)) fun σ H Q ⟨bx, I0, H0, ρ, I, s, q⟩ => ?_
    simp only [wpT] at q
    exact ⟨bx, I0, H0, ρ, I, s, q⟩
  | .cmp op a b, c, X, x, g, h => by
    obtain ⟨l, o, r, p, rfl, rfl, p2, ha, hb⟩ := invT_cmp h
    refine PT.imp (pt_cmpR (op_cmp (T := T) g.units) (lf_bo (mE G a) (sE a g ha)) (lf_bo (mE G b) (sE b g hb)) (marks_plain p2 _)) fun σ H Q ⟨bx, I0, H0, ρ, I, s, q⟩ => ?_
    simp only [wpT] at q
    refine lf_two (a := l) (b := r) (m := .st) (mE G a) (mE G b) (fun d e _ _ h q => cmpW_mono h q) ⟨bx, I0, H0, ρ, I, s, wpE_mono a (fun x q => wpE_mono b (fun y q => cmpW_mono (fun z q v I1 H1 g1 vl => ?_) q) q) q⟩
    obtain ⟨kk, rfl, w⟩ := q
    cases Dq.blE vl
    exact ⟨kk, rfl, w I1 H1 g1⟩
  | .chn o q a b d, c, X, x, g, h => by
    obtain ⟨l, o1, o2, r, z, p, rfl, rfl, rfl, p2, p3, ha, hb, hd⟩ := invT_chn h
    have hm : lastMarks [o1, o2] [r, z] = false := by
      show behindInMarks o2 z = false
      exact marks_plain p3 _
    refine PT.imp (pt_chain (op_cmp (T := T) g.units) (op_cmp (T := T) g.units) (lf_bo (mE G a) (sE a g ha)) (lf_bo (mE G b) (sE b g hb)) (lf_bo (mE G d) (sE d g hd)) hm) fun σ H Q ⟨bx, I0, H0, ρ, I, s, q⟩ => ?_
    simp only [wpT] at q
    refine ⟨bx, I0, H0, ρ, I, s, wpE_mono a (fun dx w vx I1 H1 g1 b1 => ?_) q⟩
    refine ⟨bx, I0, H0, ρ, I1, s.grow g1, wpE_mono b (fun dy w vy I2 H2 g2 b2 => ?_) w⟩
    refine ⟨bx, I2, dx, dy, g2.hv, Bo.grow g1.hv g2 b1, b2, cmpW_mono (fun dz w vz I3 H3 g3 b3 => ?_) w⟩
    obtain ⟨kk, rfl, w⟩ := w
    cases Dq.blE b3
    refine ⟨kk, rfl, ?_⟩
    have gg := (g1.trans g2).trans g3
    cases kk with
    | false => exact ⟨_, rfl, w I3 H3 gg⟩
    | true =>
      refine ⟨bx, I0, H0, ρ, I3, (s.grow gg), wpE_mono d (fun dw w vw I4 H4 g4 b4 => ?_) w⟩
      refine ⟨bx, I4, dy, dw, g4.hv, Bo.grow g3.hv g4 (Bo.grow g2.hv g3 b2), b4, cmpW_mono (fun z w v I5 H5 g5 vl => ?_) w⟩
      obtain ⟨k2, rfl, w⟩ := w
      cases Dq.blE vl
      exact ⟨k2, rfl, w I5 H5 ((gg.trans g4).trans g5)⟩
  | .var i, c, X, x, g, h => by
    obtain ⟨y, p, rfl, h⟩ := invT_var h
    have h' : chkE c (.var i) (.Name y p) = true := by simp only [chkE]; exact h
    refine PT.imp (pt_lf (m := .st) (mE G (.var i)) rfl (sE (.var i) g h')) fun σ H Q ⟨bx, I0, H0, ρ, I, s, q⟩ => ⟨bx, I0, H0, ρ, I, s, ?_⟩
    simp only [wpT] at q
    simp only [wpE]
    exact q
  | .call f es, c, X, x, g, h => by
    obtain ⟨n, q', xs, p, rfl, rfl, hg, ha⟩ := invT_call h
    have h' : chkE c (.call f es) (.Call (.Name (Str.ofString f) q') xs [] p) = true := by simp only [chkE, decide_true, Bool.true_and, hg, ha, Bool.and_self]
    refine PT.imp (pt_lf (m := .st) (mE G (.call f es)) rfl (sE (.call f es) g h')) fun σ H Q ⟨bx, I0, H0, ρ, I, s, q⟩ => ⟨bx, I0, H0, ρ, I, s, ?_⟩
    simp only [wpT] at q
    simp only [wpE]
    exact q
  | .blt f es, c, X, x, g, h => by
    obtain ⟨n, q', xs, p, rfl, rfl, hg, hne, ha⟩ := invT_blt h
    have h' : chkE c (.blt f es) (.Call (.Name (Str.ofString f.name) q') xs [] p) = true := by simp only [chkE, decide_true, Bool.true_and, hg, ha, hne, Bool.not_false, Bool.and_self]
    refine PT.imp (pt_lf (m := .st) (mE G (.blt f es)) rfl (lf_st (mE G (.blt f es)) (by cases f <;> simp [Ex.mode]) (sE (.blt f es) g h'))) fun σ H Q ⟨bx, I0, H0, ρ, I, s, q⟩ => ⟨bx, I0, H0, ρ, I, s, ?_⟩
    simp only [wpT] at q
    simp only [wpE]
    exact q
  | .isi a t, c, X, x, g, h => by
    obtain ⟨n, q', l, m, r, p, rfl, rfl, rfl, hn, hm, ht, hp, ha⟩ := invT_isi h
    refine PT.imp (pt_lf (m := .st) (mE G (.isi a t)) rfl (PE.imp (lf_isi g (mE G a) hn hm ht hp (lf_bo (mE G a) (sE a g ha))) fun σ H Q ⟨bx, I0, H0, ρ, I, s, q⟩ => ⟨bx, I0, H0, ρ, I, s, by simp only [wpE] at q; exact q⟩))
      fun σ H Q ⟨bx, I0, H0, ρ, I, s, q⟩ => ⟨bx, I0, H0, ρ, I, s, ?_⟩
    simp only [wpT] at q
    simp only [wpE]
    exact wpE_mono a (fun x q => ⟨_, rfl, q⟩) q
  | .idx a i, c, X, x, g, h => by
    obtain ⟨l, r, p, rfl, p2, ha, hb⟩ := invT_idx h
    have h' : chkE c (.idx a i) (.Subscript l r p) = true := by simp only [chkE, p2, ha, hb, Bool.and_self]
    refine PT.imp (pt_lf (m := .st) (mE G (.idx a i)) rfl (sE (.idx a i) g h')) fun σ H Q ⟨bx, I0, H0, ρ, I, s, q⟩ => ⟨bx, I0, H0, ρ, I, s, ?_⟩
    simp only [wpT] at q
    simp only [wpE]
    exact q
  | .bor _, c, X, x, g, h => by simp [chkT] at h
  | .cst _, c, X, x, g, h => by simp [chkT] at h
  | .glb _, c, X, x, g, h => by simp [chkT] at h
  | .bin _ _ _, c, X, x, g, h => by simp [chkT] at h
  | .neg _, c, X, x, g, h => by simp [chkT] at h
  | .ite _ _ _, c, X, x, g, h => by simp [chkT] at h
  | .tup _, c, X, x, g, h => by simp [chkT] at h
  | .lst _, c, X, x, g, h => by simp [chkT] at h
  | .slc _ _ _, c, X, x, g, h => by simp [chkT] at h
  | .calk _ _ _ _, c, X, x, g, h => by simp [chkT] at h
  | .dnw, c, X, x, g, h => by simp [chkT] at h
  | .dc1 _ _, c, X, x, g, h => by simp [chkT] at h
  | .rev _, c, X, x, g, h => by simp [chkT] at h
  | .lrg _, c, X, x, g, h => by simp [chkT] at h
  | .srt _, c, X, x, g, h => by simp [chkT] at h
  | .sst _, c, X, x, g, h => by simp [chkT] at h
  | .cat _ _, c, X, x, g, h => by simp [chkT] at h
  | .srn _, c, X, x, g, h => by simp [chkT] at h
  | .ssn _, c, X, x, g, h => by simp [chkT] at h
  | .get _ _ _, c, X, x, g, h => by simp [chkT] at h
  | .dcd _ _, c, X, x, g, h => by simp [chkT] at h
  | .dcc _ _ _ _ _ _, c, X, x, g, h => by simp [chkT] at h
  | .trg _, c, X, x, g, h => by simp [chkT] at h
  | .mxd _, c, X, x, g, h => by simp [chkT] at h
  | .mxl _, c, X, x, g, h => by simp [chkT] at h
  | .mnl _, c, X, x, g, h => by simp [chkT] at h
  | .tus _ _, c, X, x, g, h => by simp [chkT] at h
  | .lix _ _, c, X, x, g, h => by simp [chkT] at h
  | .cou _ _, c, X, x, g, h => by simp [chkT] at h
  | .bcl _ _, c, X, x, g, h => by simp [chkT] at h
  | .lc _ _ _ _ _, c, X, x, g, h => by simp [chkT] at h
  | .lc2 _ _ _ _ _ _ _ _ _, c, X, x, g, h => by simp [chkT] at h
end
end
end Ef

end

section
set_option autoImplicit false
namespace Ef
open PySem L2 PySem.Spec PyProof.Rows

/-! ### statements of the text -/
def compE : Expr → Bool
  | .ListComp _ _ _ _ => true
  | .SetComp _ _ _ _ => true
  | .DictComp _ _ _ _ _ => true
  | _ => false
def tupE : Expr → Bool
  | .Tuple _ _ _ => true
  | _ => false
def isStar : Expr → Bool
  | .Starred _ _ => true
  | _ => false
def locNm (kd : Str → Option NameKind) (line : Nat) : Expr → Option Str
  | .Name x p => if kd x == some .local && p.line == line then some x else none
  | _ => none
def kdOf (sc : Scope) (x : Str) : Option NameKind := sc.names.lookup x
def tLine (ts : List Expr) : Nat := (ts.head?.map (·.pos.line)).getD 0
/-- which stores a tuple of names gets -/
def swp (sc : Scope) (ts vs : List Expr) : Option (Option (List Str)) :=
  if !(ts.length == 2 || ts.length == 3) || vs.length != ts.length then some none
  else if vs.any isStar then some none
  else if (ts.filterMap (locNm (kdOf sc) (tLine ts))).length != ts.length || (ts.filterMap (locNm (kdOf sc) (tLine ts))).eraseDups.length != (ts.filterMap (locNm (kdOf sc) (tLine ts))).length then some none
  else if vs.all (foldedForSure 8) then some none
  else if vs.all (constantsAlone 8) then none
  else some (some (ts.filterMap (locNm (kdOf sc) (tLine ts))))
theorem swp_ok {sc : Scope} {ts vs : List Expr} {r : Option (List Str)} {k1 k2 : Nat} {p1 p2 : Pos} {env : Env} (he : env.scope = sc) (hk : sc.kind = .function) (h : swp sc ts vs = some r) :
    swappedStores [.Tuple ts k1 p1] (.Tuple vs k2 p2) env = pure r := by
  have hb : env.blockKind = .function := by unfold Env.blockKind; rw [he, hk]; rfl
  have e1 : env.kindOf = kdOf sc := by
    funext x
    show env.scope.names.lookup x = _
    rw [he]
    rfl
  unfold swappedStores
  unfold swp at h
  simp only [hb, bne_self_eq_false, Bool.or_false]
  show (if (!(ts.length == 2 || ts.length == 3) || vs.length != ts.length) = true then pure none
    else if vs.any isStar = true then pure none
    else if ((ts.filterMap (locNm env.kindOf (tLine ts))).length != ts.length || (ts.filterMap (locNm env.kindOf (tLine ts))).eraseDups.length != (ts.filterMap (locNm env.kindOf (tLine ts))).length) = true then pure none
    else if vs.all (foldedForSure 8) = true then pure none
    else if vs.all (constantsAlone 8) = true then (unsupported "assign.tuple-of-constant-expressions:order-of-the-stores" : Sem PUnit) >>= fun _ => pure (some (ts.filterMap (locNm env.kindOf (tLine ts))))
    else pure (some (ts.filterMap (locNm env.kindOf (tLine ts)))) : Sem (Option (List Str))) = pure r
  rw [e1]
  split at h
  · rename_i c; rw [if_pos c]; cases h; rfl
  · rename_i c; rw [if_neg c]
    split at h
    · rename_i c; simp only [c, if_true]; cases h; rfl
    · rename_i c
      simp only [c, if_false]
      split at h
      · rename_i c; simp only [c, if_true]; cases h; rfl
      · rename_i c
        simp only [c, if_false]
        split at h
        · rename_i c; simp only [c, if_true]; cases h; rfl
        · rename_i c
          simp only [c, if_false]
          split at h
          · cases h
          · rename_i c
            simp only [c, if_false]
            cases h
            rfl
def namesOf : List Expr → List Str
  | .Name x _ :: es => x :: namesOf es
  | _ => []
def chkPs (c : Ck) : List Bool → Exs → List Expr → Bool
  | [], .nil, [] => true
  | b :: fl, .cons e es, x :: xs => plainE x && (match b, e.mode with | true, .fr => true | true, _ => false | false, .bo => false | false, _ => true) && chkE c e x && chkPs c fl es xs
  | _, _, _ => false
/-- all names are locals -/
def allLoc (c : Ck) (ts : List Expr) : Bool := ts.all fun t => match t with | .Name x _ => decide (c.sc.names.lookup x = some .local) | _ => false
def chkSw (c : Ck) (js : List Nat) (ts vs : List Expr) : Bool := match swp c.sc ts vs with
  | some none => true
  | some (some ns) => allLoc c ts && decide (ns = namesOf ts) && decide js.Nodup && (js.length == 2 || js.length == 3)
  | none => false
/-- row = d.setdefault(k, []); row.append(e) -/
def chkA2 (c : Ck) (i j : Nat) (k e : Ex) : Stmt → Stmt → Bool
  | .Assign [.Name n0 _] (.Call (.Attribute (.Name n _) m ap) [y, .List [] _] [] cp) _, .Expr (.Call (.Attribute (.Name n1 _) m2 ap2) [v] [] cp2) _ =>
    decide (m = Str.ofString "setdefault") && decide (m2 = Str.ofString "append") && stoB c j n0 && visB c i n && visB c j n1 && plainE y && e.firm && plainE v && (ap.endLine == cp.line) && (ap2.endLine == cp2.line) && chkE c k y && chkE c e v
  | _, _ => false
mutual
def chkS (c : Ck) : Sx → Stmt → Bool
  | .pass, .Pass _ => true
  | .set (.nm i) e, .Assign [.Name x _] v _ => stoB c i x && e.firm && plainE v && chkE c e v && (!compE v || kdOf c.sc x != some .local || lcE e)
  | .set (.tp js) e, .Assign [.Tuple ts _ _] v _ => chkNs c js ts && e.firm && !tupE v && plainE v && chkE c e v
  | .par js fl es, .Assign [.Tuple ts _ _] (.Tuple vs _ _) _ => chkNs c js ts && decide (js.length = fl.length ∧ js.length ≤ 1000) && chkPs c fl es vs && chkSw c js ts vs
  | .own i e, .Assign [.Name x _] v _ => stoB c i x && (match e.mode with | .fr => true | _ => false) && plainE v && chkE c e v && (!compE v || kdOf c.sc x != some .local || lcE e)
  | .app i e, .Expr (.Call (.Attribute (.Name x _) m ap) [v] [] cp) _ => decide (m = Str.ofString "append") && visB c i x && e.firm && plainE v && chkE c e v && (ap.endLine == cp.line)
  | .ext i e, .Expr (.Call (.Attribute (.Name x _) m ap) [v] [] cp) _ => decide (m = Str.ofString "extend") && visB c i x && plainE v && chkE c e v && (ap.endLine == cp.line)
  | .put i j e, .Assign [.Subscript (.Name x _) y _] v _ => visB c i x && e.firm && plainE v && plainE y && chkE c e v && chkE c j y
  | .ins i j e, .Expr (.Call (.Attribute (.Name x _) m ap) [y, v] [] cp) _ => decide (m = Str.ofString "insert") && visB c i x && e.firm && plainE y && plainE v && chkE c j y && chkE c e v && (ap.endLine == cp.line)
  | .pop (.nm i) j, .Assign [.Name x _] (.Call (.Attribute (.Name y _) m ap) [] [] cp) _ => decide (m = Str.ofString "pop") && stoB c i x && visB c j y && (ap.endLine == cp.line)
  | .sdf i k v e a b, .If (.Compare (.Call (.Attribute (.Name x _) m ap) [y, z] [] cp) [.NotEq] [w] _) t f _ => decide (m = Str.ofString "setdefault") && visB c i x && v.firm && plainE y && plainE z && plainE w && (ap.endLine == cp.line) && chkE c k y && chkE c v z && chkE c e w && chkSs c a t && chkSs c b f
  | .sde i k v, .Expr (.Call (.Attribute (.Name x _) m ap) [y, z] [] cp) _ => decide (m = Str.ofString "setdefault") && visB c i x && v.firm && plainE y && plainE z && (ap.endLine == cp.line) && chkE c k y && chkE c v z
  | .sda j i k v, .Assign [.Name xn _] (.Call (.Attribute (.Name x _) m ap) [y, z] [] cp) _ => decide (m = Str.ofString "setdefault") && stoB c j xn && visB c i x && v.firm && plainE y && plainE z && (ap.endLine == cp.line) && chkE c k y && chkE c v z
  | .dlc i k tg it own, .Assign [.Name x _] (.DictComp y (.List [] _) [⟨t, ii, [], kk⟩] scope _) _ => stoB c i x && decide (kk = 0) && chkI c it t ii && blkC c.N c.sc scope (ownP c own) && chkTg (c.blk scope) tg t && ownT tg own && k.firm && chkE (c.blk scope) k y
  | .dla i k e, .Expr (.Call (.Attribute (.Subscript (.Name x _) y _) m ap) [v] [] cp) _ => decide (m = Str.ofString "append") && visB c i x && plainE y && e.firm && plainE v && (ap.endLine == cp.line) && chkE c k y && chkE c e v
  | .aug i e, .AugAssign (.Name x _) .Add v _ => stoB c i x && chkE c e v
  | .exp e, .Expr v _ => e.firm && plainE v && !compE v && chkE c e v
  | .ret e, .Return (some v) _ => e.firm && chkE c e v
  | .ret (.cst .none), .Return none _ => true
  | .ife t a b, .If x y z _ => chkT c t x && chkSs c a y && chkSs c b z
  | .for_ tg it b, .For t i body [] _ => chkI c it t i && chkTg c tg t && chkSs c b body
  | .whl t b, .While x body [] _ => chkT c t x && chkSs c b body
  | .brk, .Break _ => true
  | .cnt, .Continue _ => true
  | .nev, _ => true
  | _, _ => false
def chkSs (c : Ck) : Sxs → List Stmt → Bool
  | .nil, [] => true
  | .cons s r, x :: xs => chkS c s x && chkSs c r xs
  | .frz _ r, xs => chkSs c r xs
  | .dlz _ r, xs => chkSs c r xs
  | .al2 i j k e r, x :: y :: xs => chkA2 c i j k e x y && chkSs c r xs
  | _, _ => false
/-- a comprehension -/
def lcE : Ex → Bool
  | .lc _ _ _ _ _ => true
  | .lc2 _ _ _ _ _ _ _ _ _ => true
  | .dcc _ _ _ _ _ _ => true
  | _ => false
end
/-! ### lifts of statements -/
def kn (K : PySem.W.Frag) (T : BoxT) (bx : Bx) (I0 H0 I : Hp) (D : Ends) : Kn where
  nx := fun ρ => ∀ σ I' H', Sub I I' → SA K T bx I0 H0 ρ σ I' H' → D.nx σ H'
  rt := fun d => ∀ v I' H', Gw T bx I0 H0 I' H' → Dq K I' v d → D.rt v H'
  bk := fun ρ => ∀ σ I' H', Sub I I' → SA K T bx I0 H0 ρ σ I' H' → D.bk σ H'
  ct := fun ρ => ∀ σ I' H', Sub I I' → SA K T bx I0 H0 ρ σ I' H' → D.ct σ H'
def lfS (K : PySem.W.Frag) (T : BoxT) (f : Rho → Kn → Prop) : TS := fun D σ H => ∃ bx I0 H0 ρ I, SA K T bx I0 H0 ρ σ I H ∧ f ρ (kn K T bx I0 H0 I D)
theorem Sub.trans {I J L : Hp} (a : Sub I J) (b : Sub J L) : Sub I L := fun x o e => b x o (a x o e)
theorem kn_le {K : PySem.W.Frag} {T : BoxT} {bx : Bx} {I0 H0 I J : Hp} {D : Ends} (s : Sub I J) : (kn K T bx I0 H0 I D).Le (kn K T bx I0 H0 J D) :=
  ⟨fun ρ q σ I' H' sb => q σ I' H' (s.trans sb), fun d q => q, fun ρ q σ I' H' sb => q σ I' H' (s.trans sb), fun ρ q σ I' H' sb => q σ I' H' (s.trans sb)⟩
section
variable {X : Cx} {T : BoxT} {G : Gm} {k : Nat} {c : Ck}
theorem sw_lc {el : Expr} {gs : List Comprehension} {scope : Scope} {p py : Pos} {y : Str} {l : Nat} {env : Env} : swapsWith (.ListComp el gs scope p) (some (.Name y py)) l env =
    pure (env.blockKind == .function && env.kindOf y == some .local && py.line == p.line && !(scope.names.any fun z => z.1 == y && (z.2 == .local || z.2 == .cell))) := rfl
theorem sw_no {v : Expr} (h : compE v = false) (t : Option Expr) (l : Nat) (env : Env) : swapsWith v t l env = pure false := by
  cases v <;> first | rfl | (simp [compE] at h)
theorem sws_no {v : Expr} {ts : List Expr} {kk : Nat} {p : Pos} (l : Nat) (env : Env) : swapsWithSole [.Tuple ts kk p] v l env = pure false := by
  cases v <;> rfl
theorem sto_no {v : Expr} (h : tupE v = false) (ts : List Expr) (kk : Nat) (p : Pos) (env : Env) : swappedStores [.Tuple ts kk p] v env = pure none := by
  cases v <;> first | rfl | (simp [tupE] at h)
theorem sw_dc {ek ev : Expr} {gs : List Comprehension} {scope : Scope} {p py : Pos} {y : Str} {l : Nat} {env : Env} : swapsWith (.DictComp ek ev gs scope p) (some (.Name y py)) l env =
    pure (env.blockKind == .function && env.kindOf y == some .local && py.line == p.line && !(scope.names.any fun z => z.1 == y && (z.2 == .local || z.2 == .cell))) := rfl
theorem ps_setDcN {i : Nat} {y : Str} {py : Pos} {kx vx tg iter : Expr} {ifs : List Expr} {scope : Scope} {own : List (Str × Nat)} {pos spos : Pos} {wi : TI} {g : TG} {tt : TT} {tk tv : TE} (hu : X.A.units + 65 < cLine) (hc : X.calm = true) (hN : X.N.Nodup) (hy : X.N[i]? = some y) (hyl : X.env.scope.names.lookup y = some .local)
    (hsw : swapsWith (.DictComp kx vx [⟨tg, iter, ifs, 0⟩] scope pos) (some (.Name y py)) spos.line X.env = pure true) (hi : PI X tg iter wi) (ok : BlkOk X.N X.env.scope scope own)
    (hg : ∀ (s : Shared) (H : Hp) (C : Addr) (cl : List (Str × Addr)) (fp : List Addr), PG (X.blk s H scope (compEnvC scope cl C X.env) fp) tg g) (ht : ∀ (s : Shared) (H : Hp) (C : Addr) (cl : List (Str × Addr)) (fp : List Addr), PTs (X.blk s H scope (compEnvC scope cl C X.env) fp) ifs tt)
    (hk : ∀ (s : Shared) (H : Hp) (C : Addr) (cl : List (Str × Addr)) (fp : List Addr), PE (X.blk s H scope (compEnvC scope cl C X.env) fp) kx tk)
    (he : ∀ (s : Shared) (H : Hp) (C : Addr) (cl : List (Str × Addr)) (fp : List Addr), PE (X.blk s H scope (compEnvC scope cl C X.env) fp) vx tv) (hs : ∀ x, foldedSetIterable iter X.env x = pure x) :
    PS X (.Assign [.Name y py] (.DictComp kx vx [⟨tg, iter, ifs, 0⟩] scope pos) spos) (tAsg (tDcN X.K wi g tt tk tv (own.map (·.2))) (gName i)) := by
  refine ⟨fun pins s σ H D I h => ?_⟩
  rw [exec_Assign_Name_used _ _ _ _ hsw]
  refine wpAny_bind (wpAny_standAt (wpAny_bind ?_))
  show wpAny _ X.A (do let _ ← comprehension (.DictComp kx vx [⟨tg, iter, ifs, 0⟩] scope pos) scope X.env (firstIterPos [⟨tg, iter, ifs, 0⟩] pos) newDict false (eval iter X.env) (some (assign (.Name y py) X.env))) _ _ s
  have h : tDcN X.K wi g tt tk tv (own.map (·.2)) σ H (fun x H1 => gName i x σ H1 D.nx) := h
  refine wpAny_bind (thn (dn_core (Qf := fun _ s' => SP X pins D .next s') hu hc hN I hi ok hg ht hk he hs h fun L C s' m H' I' q hn f => ?_) fun _ s' hq => wpAny_pure (wpAny_pure hq))
  show wpAny _ _ (assign (.Name y py) X.env (.ref L)) _ _ _
  refine wpAny_assign_Name (store_ok2 (v := V.ref L) I' hN hy (.inl hyl) rfl (fun s2 I2 ⟨a, sb, ha⟩ => ?_) (.inr hyl))
  obtain ⟨f0, f1, f2, f3, f4, f5⟩ := f
  have haC : C ≠ a := by
    rcases ha with z | z
    · rw [z]; exact f1
    · exact fun e => f4 y a z e.symm
  refine ⟨m, hn.sameBut sb haC, fun h3 sb3 => ?_⟩
  exact ⟨_, H', I2.turned (t' := s2.toks) (fun b o hb e => (sb3.2 b hb).trans e) f0 f1 f3 f4 f5, q⟩
/-- a name is set to a value -/
theorem ps_val (g : Gd T G k c X) {i : Nat} {x : Str} {px pos : Pos} {v : Expr} {e : Ex} (hs : stoB c i x = true) (hv : chkE c e v = true) (hc : (!compE v || kdOf c.sc x != some .local || lcE e) = true) {m : Md} (hm : e.mode = m) :
    PS X (.Assign [.Name x px] v pos) (tAsg (lfE X.K T m (wpE G e)) (gName i)) := by
  subst hm
  obtain ⟨h1, h2, h3⟩ := g.sto hs
  by_cases hcv : compE v = false
  · exact ps_set g.nd h1 h2 (sE e g hv) (sw_no hcv _ _ _) h3
  · have hcv : compE v = true := by simpa using hcv
    by_cases hl : lcE e = true
    · cases e <;> simp only [lcE] at hl <;> try (cases hl; done)
      · rename_i ek ev tg it cd own
        obtain ⟨y, z, t, ii, ifs, kk, scope, p, rfl, rfl, hi, hb, ht, ho, hcc, f1, f2, hek, hev⟩ := invE_dcc hv
        have e1 := sw_dc (ek := y) (ev := z) (gs := [⟨t, ii, ifs, 0⟩]) (scope := scope) (p := p) (py := px) (y := x) (l := pos.line) (env := X.env)
        cases eb : (X.env.blockKind == .function && X.env.kindOf x == some .local && px.line == p.line && !(scope.names.any fun z => z.1 == x && (z.2 == .local || z.2 == .cell))) with
        | false =>
          rw [eb] at e1
          exact ps_set g.nd h1 h2 (sE _ g hv) e1 h3
        | true =>
          rw [eb] at e1
          have hloc : X.env.scope.names.lookup x = some .local := by
            simp only [Bool.and_eq_true, beq_iff_eq] at eb
            exact eb.1.1.2
          have hi2 : plainE ii = true := chkI_plain hi
          have ok : BlkOk X.N X.env.scope scope (ownP c own) := by rw [g.nn, g.sc]; exact blkOk_by hb
          have eo : (ownP c own).map (·.2) = own := by simp [ownP, Function.comp_def]
          have r := ps_setDcN (i := i) (y := x) (py := px) (kx := y) (vx := z) (tg := t) (iter := ii) (ifs := ifs) (g := gOf X.K tg) (tt := lfT X.K T (wpC G cd)) (tk := lfE X.K T .st (wpE G ek)) (tv := lfE X.K T .st (wpE G ev)) (pos := p) (spos := pos) g.units g.calm g.nd h1 hloc e1 (sI it g hi) ok (fun s H C cl fp => pg_tg (g.blk scope s H C cl fp) ht) (fun s H C cl fp => sC cd (g.blk scope s H C cl fp) hcc)
            (fun s H C cl fp => lf_st (mE G ek) (firm_md f1) (sE ek (g.blk scope s H C cl fp) hek)) (fun s H C cl fp => lf_st (mE G ev) (firm_md f2) (sE ev (g.blk scope s H C cl fp) hev)) (folded_plain hi2 X.env)
          rw [eo] at r
          exact PS.imp r fun D σ H hq => lf_dcc ho (tg_ok hi ht) hq
      · rename_i el tg it cd own
        obtain ⟨y, t, ii, ifs, kk, scope, p, rfl, rfl, hi, hb, ht, ho, hcc, hf, he⟩ := invE_lc hv
        have e1 := sw_lc (el := y) (gs := [⟨t, ii, ifs, 0⟩]) (scope := scope) (p := p) (py := px) (y := x) (l := pos.line) (env := X.env)
        cases eb : (X.env.blockKind == .function && X.env.kindOf x == some .local && px.line == p.line && !(scope.names.any fun z => z.1 == x && (z.2 == .local || z.2 == .cell))) with
        | false =>
          rw [eb] at e1
          exact ps_set g.nd h1 h2 (sE _ g hv) e1 h3
        | true =>
          rw [eb] at e1
          have hloc : X.env.scope.names.lookup x = some .local := by
            simp only [Bool.and_eq_true, beq_iff_eq] at eb
            exact eb.1.1.2
          have hi2 : plainE ii = true := chkI_plain hi
          have ok : BlkOk X.N X.env.scope scope (ownP c own) := by rw [g.nn, g.sc]; exact blkOk_by hb
          have eo : (ownP c own).map (·.2) = own := by simp [ownP, Function.comp_def]
          have r := ps_setLc (i := i) (y := x) (py := px) (elt := y) (tg := t) (iter := ii) (ifs := ifs) (g := gOf X.K tg) (tt := lfT X.K T (wpC G cd)) (te := lfE X.K T .st (wpE G el)) (pos := p) (spos := pos) g.calm g.nd h1 hloc e1 (sI it g hi) ok (fun s H C cl fp => pg_tg (g.blk scope s H C cl fp) ht) (fun s H C cl fp => sC cd (g.blk scope s H C cl fp) hcc)
            (fun s H C cl fp => lf_st (mE G el) (firm_md hf) (sE el (g.blk scope s H C cl fp) he)) (folded_plain hi2 X.env)
          rw [eo] at r
          exact PS.imp r fun D σ H hq => lf_lc ho (tg_ok hi ht) hq
      · rename_i el tg it cd tg2 it2 cd2 own own2
        obtain ⟨y, t, ii, ifs, kk, t2, i2, ifs2, kk2, scope, p, rfl, rfl, rfl, hi, hb, ht, ho, hcc, hi2, ht2, ho2, hc2, hsub, hf, he⟩ := invE_lc2 hv
        have e1 := sw_lc (el := y) (gs := [⟨t, ii, ifs, 0⟩, ⟨t2, i2, ifs2, 0⟩]) (scope := scope) (p := p) (py := px) (y := x) (l := pos.line) (env := X.env)
        cases eb : (X.env.blockKind == .function && X.env.kindOf x == some .local && px.line == p.line && !(scope.names.any fun z => z.1 == x && (z.2 == .local || z.2 == .cell))) with
        | false =>
          rw [eb] at e1
          exact ps_set g.nd h1 h2 (sE _ g hv) e1 h3
        | true =>
          rw [eb] at e1
          have hloc : X.env.scope.names.lookup x = some .local := by
            simp only [Bool.and_eq_true, beq_iff_eq] at eb
            exact eb.1.1.2
          have p1 : plainE ii = true := chkI_plain hi
          have p2 : plainE i2 = true := chkI_plain hi2
          have ok : BlkOk X.N X.env.scope scope (ownP c own) := by rw [g.nn, g.sc]; exact blkOk_by hb
          have eo : (ownP c own).map (·.2) = own := by simp [ownP, Function.comp_def]
          have r := ps_setLc2 (i := i) (y := x) (py := px) (elt := y) (tg := t) (iter := ii) (ifs := ifs) (tg1 := t2) (iter1 := i2) (ifs1 := ifs2) (wi1 := lfI X.K T it2.prs (wpI G it2)) (g := gOf X.K tg) (g1 := gOf X.K tg2) (tt := lfT X.K T (wpC G cd)) (tt1 := lfT X.K T (wpC G cd2)) (te := lfE X.K T .st (wpE G el)) (vs1 := own2) (pos := p) (spos := pos) g.calm g.nd h1 hloc e1 (sI it g hi) ok (fun j hj => by rw [eo]; simpa using List.all_eq_true.mp hsub j hj) (fun s H C cl fp => pg_tg (g.blk scope s H C cl fp) ht) (fun s H C cl fp => sC cd (g.blk scope s H C cl fp) hcc)
            (fun s H C cl fp => sI it2 (g.blk scope s H C cl fp) hi2) (fun s H C cl fp => pg_tg (g.blk scope s H C cl fp) ht2) (fun s H C cl fp => sC cd2 (g.blk scope s H C cl fp) hc2)
            (fun s H C cl fp => lf_st (mE G el) (firm_md hf) (sE el (g.blk scope s H C cl fp) he)) (folded_plain p1 X.env) (folded_plain p2)
          rw [eo] at r
          exact PS.imp r fun D σ H hq => lf_lc2 ho ho2 (tg_ok hi ht) (tg_ok hi2 ht2) hq
    · exfalso
      cases v <;> simp only [compE] at hcv <;> try (cases hcv; done)
      all_goals cases e <;> simp [chkE, lcE] at hv hl
end
end Ef

end

section
set_option autoImplicit false
namespace Ef
open PySem L2 PySem.Spec PyProof.Rows
section
variable {c : Ck} {x : Stmt}
theorem invS_setn {i : Nat} {e : Ex} (h : chkS c (.set (.nm i) e) x = true) : ∃ n q v p, x = .Assign [.Name n q] v p ∧ stoB c i n = true ∧ e.firm = true ∧ plainE v = true ∧ chkE c e v = true ∧ (!compE v || kdOf c.sc n != some .local || lcE e) = true := by
  unfold chkS at h
  split at h <;> grind
theorem invS_sett {js : List Nat} {e : Ex} (h : chkS c (.set (.tp js) e) x = true) : ∃ ts kk q v p, x = .Assign [.Tuple ts kk q] v p ∧ chkNs c js ts = true ∧ e.firm = true ∧ tupE v = false ∧ plainE v = true ∧ chkE c e v = true := by
  unfold chkS at h
  split at h <;> grind
theorem invS_par {js : List Nat} {fl : List Bool} {es : Exs} (h : chkS c (.par js fl es) x = true) : ∃ ts k1 q1 vs k2 q2 p, x = .Assign [.Tuple ts k1 q1] (.Tuple vs k2 q2) p ∧ chkNs c js ts = true ∧ (js.length = fl.length ∧ js.length ≤ 1000) ∧ chkPs c fl es vs = true ∧ chkSw c js ts vs = true := by
  unfold chkS at h
  split at h <;> grind
theorem invS_own {i : Nat} {e : Ex} (h : chkS c (.own i e) x = true) : ∃ n q v p, x = .Assign [.Name n q] v p ∧ stoB c i n = true ∧ (match e.mode with | .fr => true | _ => false) = true ∧ plainE v = true ∧ chkE c e v = true ∧ (!compE v || kdOf c.sc n != some .local || lcE e) = true := by
  unfold chkS at h
  split at h <;> grind
theorem invS_app {i : Nat} {e : Ex} (h : chkS c (.app i e) x = true) : ∃ n q m ap v cp p, x = .Expr (.Call (.Attribute (.Name n q) m ap) [v] [] cp) p ∧ m = Str.ofString "append" ∧ visB c i n = true ∧ e.firm = true ∧ plainE v = true ∧ chkE c e v = true ∧ (ap.endLine == cp.line) = true := by
  unfold chkS at h
  split at h <;> grind
theorem invS_ext {i : Nat} {e : Ex} (h : chkS c (.ext i e) x = true) : ∃ n q m ap v cp p, x = .Expr (.Call (.Attribute (.Name n q) m ap) [v] [] cp) p ∧ m = Str.ofString "extend" ∧ visB c i n = true ∧ plainE v = true ∧ chkE c e v = true ∧ (ap.endLine == cp.line) = true := by
  unfold chkS at h
  split at h <;> grind
theorem invS_put {i : Nat} {j e : Ex} (h : chkS c (.put i j e) x = true) : ∃ n q y r v p, x = .Assign [.Subscript (.Name n q) y r] v p ∧ visB c i n = true ∧ e.firm = true ∧ plainE v = true ∧ plainE y = true ∧ chkE c e v = true ∧ chkE c j y = true := by
  unfold chkS at h
  split at h <;> grind
theorem invS_ins {i : Nat} {j e : Ex} (h : chkS c (.ins i j e) x = true) : ∃ n q m ap y v cp p, x = .Expr (.Call (.Attribute (.Name n q) m ap) [y, v] [] cp) p ∧ m = Str.ofString "insert" ∧ visB c i n = true ∧ e.firm = true ∧ plainE y = true ∧ plainE v = true ∧ chkE c j y = true ∧ chkE c e v = true ∧ (ap.endLine == cp.line) = true := by
  unfold chkS at h
  split at h <;> grind
theorem invS_pop {tg : Tg} {j : Nat} (h : chkS c (.pop tg j) x = true) : ∃ i n1 q1 n2 q2 m ap cp p, tg = .nm i ∧ x = .Assign [.Name n1 q1] (.Call (.Attribute (.Name n2 q2) m ap) [] [] cp) p ∧ m = Str.ofString "pop" ∧ stoB c i n1 = true ∧ visB c j n2 = true ∧ (ap.endLine == cp.line) = true := by
  unfold chkS at h
  split at h <;> grind
theorem invS_sdf {i : Nat} {k v e : Ex} {a b : Sxs} (h : chkS c (.sdf i k v e a b) x = true) : ∃ n q m ap y z cp w p1 t f p, x = .If (.Compare (.Call (.Attribute (.Name n q) m ap) [y, z] [] cp) [.NotEq] [w] p1) t f p ∧ m = Str.ofString "setdefault" ∧ visB c i n = true ∧ v.firm = true ∧ plainE y = true ∧ plainE z = true ∧ plainE w = true ∧ (ap.endLine == cp.line) = true ∧ chkE c k y = true ∧ chkE c v z = true ∧ chkE c e w = true ∧ chkSs c a t = true ∧ chkSs c b f = true := by
  unfold chkS at h
  split at h <;> grind
theorem invS_sde {i : Nat} {k v : Ex} (h : chkS c (.sde i k v) x = true) : ∃ n q m ap y z cp p, x = .Expr (.Call (.Attribute (.Name n q) m ap) [y, z] [] cp) p ∧ m = Str.ofString "setdefault" ∧ visB c i n = true ∧ v.firm = true ∧ plainE y = true ∧ plainE z = true ∧ (ap.endLine == cp.line) = true ∧ chkE c k y = true ∧ chkE c v z = true := by
  unfold chkS at h
  split at h <;> grind
theorem invS_sda {j i : Nat} {k v : Ex} (h : chkS c (.sda j i k v) x = true) : ∃ n0 q0 n q m ap y z cp p, x = .Assign [.Name n0 q0] (.Call (.Attribute (.Name n q) m ap) [y, z] [] cp) p ∧ m = Str.ofString "setdefault" ∧ stoB c j n0 = true ∧ visB c i n = true ∧ v.firm = true ∧ plainE y = true ∧ plainE z = true ∧ (ap.endLine == cp.line) = true ∧ chkE c k y = true ∧ chkE c v z = true := by
  unfold chkS at h
  split at h <;> grind
theorem invS_dlc {i : Nat} {k : Ex} {tg : Tg} {it : It} {own : List Nat} (h : chkS c (.dlc i k tg it own) x = true) : ∃ n q y q2 t ii kk scope p1 p, x = .Assign [.Name n q] (.DictComp y (.List [] q2) [⟨t, ii, [], kk⟩] scope p1) p ∧ kk = 0 ∧ stoB c i n = true ∧ chkI c it t ii = true ∧ blkC c.N c.sc scope (ownP c own) = true ∧ chkTg (c.blk scope) tg t = true ∧ ownT tg own = true ∧ k.firm = true ∧ chkE (c.blk scope) k y = true := by
  unfold chkS at h
  split at h <;> grind
theorem invS_dla {i : Nat} {k e : Ex} (h : chkS c (.dla i k e) x = true) : ∃ n q y q2 m ap v cp p, x = .Expr (.Call (.Attribute (.Subscript (.Name n q) y q2) m ap) [v] [] cp) p ∧ m = Str.ofString "append" ∧ visB c i n = true ∧ plainE y = true ∧ e.firm = true ∧ plainE v = true ∧ (ap.endLine == cp.line) = true ∧ chkE c k y = true ∧ chkE c e v = true := by
  unfold chkS at h
  split at h <;> grind
theorem inv_a2 {i j : Nat} {k e : Ex} {x2 : Stmt} (h : chkA2 c i j k e x x2 = true) : ∃ n0 q0 n q m ap y q2 cp p n1 q1 m2 ap2 v cp2 p2, x = .Assign [.Name n0 q0] (.Call (.Attribute (.Name n q) m ap) [y, .List [] q2] [] cp) p ∧ x2 = .Expr (.Call (.Attribute (.Name n1 q1) m2 ap2) [v] [] cp2) p2 ∧ m = Str.ofString "setdefault" ∧ m2 = Str.ofString "append" ∧ stoB c j n0 = true ∧ visB c i n = true ∧ visB c j n1 = true ∧ plainE y = true ∧ e.firm = true ∧ plainE v = true ∧ (ap.endLine == cp.line) = true ∧ (ap2.endLine == cp2.line) = true ∧ chkE c k y = true ∧ chkE c e v = true := by
  unfold chkA2 at h
  split at h <;> grind
theorem invS_aug {i : Nat} {e : Ex} (h : chkS c (.aug i e) x = true) : ∃ n q v p, x = .AugAssign (.Name n q) .Add v p ∧ stoB c i n = true ∧ chkE c e v = true := by
  unfold chkS at h
  split at h <;> grind
theorem invS_exp {e : Ex} (h : chkS c (.exp e) x = true) : ∃ v p, x = .Expr v p ∧ e.firm = true ∧ plainE v = true ∧ compE v = false ∧ chkE c e v = true := by
  unfold chkS at h
  split at h <;> grind
theorem invS_ret {e : Ex} (h : chkS c (.ret e) x = true) : (∃ v p, x = .Return (some v) p ∧ e.firm = true ∧ chkE c e v = true) ∨ ∃ p, x = .Return none p ∧ e = .cst .none := by
  unfold chkS at h
  split at h <;> grind
theorem invS_ife {t : Ex} {a b : Sxs} (h : chkS c (.ife t a b) x = true) : ∃ l y z p, x = .If l y z p ∧ chkT c t l = true ∧ chkSs c a y = true ∧ chkSs c b z = true := by
  unfold chkS at h
  split at h <;> grind
theorem invS_for {tg : Tg} {it : It} {b : Sxs} (h : chkS c (.for_ tg it b) x = true) : ∃ t i body p, x = .For t i body [] p ∧ chkI c it t i = true ∧ chkTg c tg t = true ∧ chkSs c b body = true := by
  unfold chkS at h
  split at h <;> grind
theorem invS_whl {t : Ex} {b : Sxs} (h : chkS c (.whl t b) x = true) : ∃ l body p, x = .While l body [] p ∧ chkT c t l = true ∧ chkSs c b body = true := by
  unfold chkS at h
  split at h <;> grind
end
section
variable {X : Cx} {T : BoxT} {G : Gm} {k : Nat} {c : Ck}
/-! ### several names at once -/
inductive VsO (K : PySem.W.Frag) (H I' H' : Hp) : List Bool → List V → List PyData → List Addr → Prop
  | nil : VsO K H I' H' [] [] [] []
  | dat {v : V} {d : PyData} {fl : List Bool} {vs : List V} {ds : List PyData} {as : List Addr} : Dq K I' v d → VsO K H I' H' fl vs ds as → VsO K H I' H' (false :: fl) (v :: vs) (d :: ds) as
  | own {a : Addr} {u : HO} {d : PyData} {fl : List Bool} {vs : List V} {ds : List PyData} {as : List Addr} : H a = none → I' a = none → H' a = some u → FrO K I' u d → a ∉ as → VsO K H I' H' fl vs ds as → VsO K H I' H' (true :: fl) (.ref a :: vs) (d :: ds) (a :: as)
theorem VsO.free {K : PySem.W.Frag} {H I' H' : Hp} : ∀ {fl vs ds as}, VsO K H I' H' fl vs ds as → ∀ a ∈ as, H a = none
  | _, _, _, _, .nil, a, h => by cases h
  | _, _, _, _, .dat _ q, a, h => VsO.free q a h
  | _, _, _, _, .own h1 _ _ _ _ q, a, h => by
    rcases List.mem_cons.mp h with e | h
    · rw [e]; exact h1
    · exact VsO.free q a h
theorem VsO.back {K : PySem.W.Frag} {H J I' H' : Hp} (hb : ∀ a, J a = none → H a = none) : ∀ {fl vs ds as}, VsO K J I' H' fl vs ds as → VsO K H I' H' fl vs ds as
  | _, _, _, _, .nil => .nil
  | _, _, _, _, .dat h q => .dat h (VsO.back hb q)
  | _, _, _, _, .own h1 h2 h3 h4 h5 q => .own (hb _ h1) h2 h3 h4 h5 (VsO.back hb q)
theorem VsO.len {K : PySem.W.Frag} {H I' H' : Hp} : ∀ {fl vs ds as}, VsO K H I' H' fl vs ds as → vs.length = fl.length ∧ ds.length = fl.length
  | _, _, _, _, .nil => ⟨rfl, rfl⟩
  | _, _, _, _, .dat _ q => by obtain ⟨a, b⟩ := VsO.len q; simp [a, b]
  | _, _, _, _, .own _ _ _ _ _ q => by obtain ⟨a, b⟩ := VsO.len q; simp [a, b]
def lfP (K : PySem.W.Frag) (T : BoxT) (fl : List Bool) (f : Rho → (List PyData → Prop) → Prop) : TA := fun σ H Q => ∃ bx I0 H0 ρ I, SA K T bx I0 H0 ρ σ I H ∧ f ρ fun ds => ∀ vs I' H' as, Gw T bx I H I' H' → VsO K H I' H' fl vs ds as → Q vs H'
theorem sP (g : Gd T G k c X) : ∀ (fl : List Bool) (es : Exs) (xs : List Expr), chkPs c fl es xs = true → PA X xs (lfP X.K T fl (wpPs G fl es)) ∧ plainAll xs = true
  | [], .nil, [], h => ⟨PA.imp pa_nil fun σ H Q ⟨bx, I0, H0, ρ, I, s, q⟩ => q [] I H [] (Gw.refl s.hv) .nil, rfl⟩
  | [], .nil, _ :: _, h => by simp [chkPs] at h
  | [], .cons _ _, _, h => by simp [chkPs] at h
  | _ :: _, .nil, _, h => by simp [chkPs] at h
  | _ :: _, .cons _ _, [], h => by simp [chkPs] at h
  | b :: fl, .cons e es, x :: xs, h => by
    simp only [chkPs, Bool.and_eq_true] at h
    obtain ⟨⟨⟨hp, hm⟩, he⟩, hs⟩ := h
    obtain ⟨ih, ihp⟩ := sP g fl es xs hs
    refine ⟨?_, by simp only [plainAll, List.all_cons, Bool.and_eq_true]; exact ⟨hp, ihp⟩⟩
    cases b with
    | false =>
      have hm2 : e.mode ≠ .bo := by
        intro z
        rw [z] at hm
        cases hm
      refine PA.imp (pa_cons (lf_st (mE G e) hm2 (sE e g he)) ih (star_plain hp _ _)) fun σ H Q ⟨bx, I0, H0, ρ, I, s, q⟩ => ?_
      refine ⟨bx, I0, H0, ρ, I, s, wpE_mono e (fun d w v I1 H1 g1 b1 => ?_) q⟩
      refine ⟨bx, I0, H0, ρ, I1, s.grow g1, wpPs_mono fl es (fun ds w vs I2 H2 as g2 b2 => ?_) w⟩
      exact w _ I2 H2 as (g1.trans g2) (.dat (Dq.sub (g2.sub g1.hv) b1) (b2.back fun a => g1.free))
    | true =>
      have hm2 : e.mode = .fr := by
        cases z : e.mode <;> rw [z] at hm <;> first | rfl | cases hm
      have h1 := sE e g he
      rw [hm2] at h1
      refine PA.imp (pa_cons h1 ih (star_plain hp _ _)) fun σ H Q ⟨bx, I0, H0, ρ, I, s, q⟩ => ?_
      refine ⟨bx, I0, H0, ρ, I, s, wpE_mono e (fun d w v I1 H1 g1 b1 => ?_) q⟩
      obtain ⟨wf, w⟩ := w
      rcases b1 with ⟨a, u, rfl, hn, i1, h1', dq⟩ | ⟨_, nl⟩
      · refine ⟨bx, I0, H0, ρ, I1, s.grow g1, wpPs_mono fl es (fun ds w vs I2 H2 as g2 b2 => ?_) w⟩
        have np := hv_nfp s.hv hn
        refine w _ I2 H2 (a :: as) (g1.trans g2) (.own hn ((g2.im a _ h1').trans i1) (g2.hp a _ h1' np) (dq.sub (g2.sub g1.hv)) (fun hm => ?_) (b2.back fun a => g1.free))
        have := b2.free a hm
        rw [h1'] at this; cases this
      · rw [nl] at wf; cases wf
theorem chkPs_len {c : Ck} : ∀ {fl : List Bool} {es : Exs} {xs : List Expr}, chkPs c fl es xs = true → xs.length = fl.length
  | [], .nil, [], h => rfl
  | [], .nil, _ :: _, h => by simp [chkPs] at h
  | [], .cons _ _, _, h => by simp [chkPs] at h
  | _ :: _, .nil, _, h => by simp [chkPs] at h
  | _ :: _, .cons _ _, [], h => by simp [chkPs] at h
  | b :: fl, .cons e es, x :: xs, h => by
    simp only [chkPs, Bool.and_eq_true] at h
    simp [chkPs_len h.2]
theorem chkNs_len {c : Ck} : ∀ {js : List Nat} {es : List Expr}, chkNs c js es = true → es.length = js.length
  | [], [], _ => rfl
  | [], _ :: _, h => by simp [chkNs] at h
  | _ :: _, [], h => by simp [chkNs] at h
  | i :: js, e :: es, h => by
    cases e <;> simp only [chkNs, Bool.and_eq_true] at h <;> try (cases h; done)
    simp [chkNs_len h.2]
def setVs (σ : L2.St) : List Nat → List V → L2.St
  | i :: js, v :: vs => setVs (σ.set i (some v)) js vs
  | _, _ => σ
theorem par_ok {K : PySem.W.Frag} {bx : Bx} {I0 H0 H I' H' : Hp} (h00 : ∀ a, H a = none → H0 a = none) (hnp : ∀ a, H a = none → a ∉ fpOf bx) : ∀ {js : List Nat} {fl : List Bool} {vs : List V} {ds : List PyData} {as : List Addr} {ρ : Rho} {σ : L2.St}, SA K T bx I0 H0 ρ σ I' H' → VsO K H I' H' fl vs ds as → js.length = fl.length →
    (∀ (j : Nat) (t : Sl) (e : PyData) (a : Addr), ρ[j]? = some t → mutS t = some e → σ[j]? = some (some (.ref a)) → a ∉ as) → (hdl : DlOk K bx H0 ρ σ I' H' as) → SA K T bx I0 H0 (setPar ρ js fl ds) (setVs σ js vs) I' H'
  | [], _, _, _, _, ρ, σ, s, .nil, hl, hd, hq => s
  | [], _, _, _, _, ρ, σ, s, .dat _ _, hl, hd, hq => by simp at hl
  | [], _, _, _, _, ρ, σ, s, .own _ _ _ _ _ _, hl, hd, hq => by simp at hl
  | _ :: _, _, _, _, _, ρ, σ, s, .nil, hl, hd, hq => by simp at hl
  | i :: js, _, _, _, _, ρ, σ, s, .dat (d := d) h q, hl, hd, hq => by
    show SA K T bx I0 H0 (setPar (ρ.set i (.dat d)) js _ _) (setVs (σ.set i (some _)) js _) I' H'
    refine par_ok h00 hnp (s.setDat h) q (by simpa using hl) (fun j t e a e1 m1 e2 => ?_) hq.setDat
    have ne : i ≠ j := fun z => by
      subst z
      by_cases hl : i < ρ.length
      · rw [List.getElem?_set_self hl] at e1; cases e1; cases m1
      · rw [List.getElem?_eq_none (by simp; omega)] at e1; cases e1
    rw [List.getElem?_set_ne ne] at e1 e2
    exact hd j t e a e1 m1 e2
  | i :: js, _, _, _, _, ρ, σ, s, .own (a := a) h1 h2 h3 h4 h5 q, hl, hd, hq => by
    show SA K T bx I0 H0 (setPar (ρ.set i (slOf _)) js _ _) (setVs (σ.set i (some (.ref a))) js _) I' H'
    refine par_ok h00 hnp (s.setMu h4.mutS (h00 a h1) h2 h3 h4 (hnp a h1) (fun j t e hj e1 m1 e2 => hd j t e a e1 m1 e2 List.mem_cons_self) (hq.less fun b hb => by rw [List.mem_singleton.mp hb]; exact List.mem_cons_self)) q (by simpa using hl) (fun j t e b e1 m1 e2 => ?_) (hq.setMu h4.mutS)
    by_cases hj : i = j
    · subst hj
      by_cases hl : i < σ.length
      · rw [List.getElem?_set_self hl] at e2
        cases e2
        exact h5
      · rw [List.getElem?_eq_none (by rw [List.length_set]; omega)] at e2; cases e2
    · rw [List.getElem?_set_ne hj] at e1 e2
      exact fun hm => hd j t e b e1 m1 e2 (List.mem_cons_of_mem _ hm)
theorem gs_any {H : Hp} : ∀ {js : List Nat} {vs : List V} {σ : L2.St} {Q : L2.St → Hp → Prop}, vs.length = js.length → Q (setVs σ js vs) H → gsOf js vs σ H Q
  | [], [], σ, Q, hl, q => ⟨rfl, q⟩
  | [], _ :: _, σ, Q, hl, q => by simp at hl
  | _ :: _, [], σ, Q, hl, q => by simp at hl
  | i :: js, v :: vs, σ, Q, hl, q => ⟨v, vs, rfl, gs_any (by simpa using hl) q⟩
theorem allLoc_two {c : Ck} (g : Gd T G k c X) {js : List Nat} {ts : List Expr} (h : chkNs c js ts = true) (hl : allLoc c ts = true) : ∀ i : Nat, i < js.length → ∃ (j : Nat) (x : Str) (p : Pos), js[i]? = some j ∧ ts[i]? = some (.Name x p) ∧ X.N[j]? = some x ∧ X.env.scope.names.lookup x = some .local := by
  induction js generalizing ts with
  | nil => intro i hi; simp at hi
  | cons j js ih =>
    cases ts with
    | nil => simp [chkNs] at h
    | cons t ts =>
      cases t <;> simp only [chkNs, Bool.and_eq_true] at h <;> try (cases h; done)
      rename_i x p
      simp only [allLoc, List.all_cons, Bool.and_eq_true, decide_eq_true_eq] at hl
      obtain ⟨h1, h2, h3⟩ := g.sto h.1
      intro i hi
      cases i with
      | zero => exact ⟨j, x, p, rfl, rfl, h1, by rw [g.sc]; exact hl.1⟩
      | succ i =>
        obtain ⟨j', x', p', a, b, d, e⟩ := ih h.2 hl.2 i (by simpa using hi)
        exact ⟨j', x', p', by simpa using a, by simpa using b, d, e⟩
/-- the end of a store of several -/
theorem lf_par {js : List Nat} {fl : List Bool} {es : Exs} (hl : js.length = fl.length) {D : Ends} {σ : L2.St} {H : Hp} (h : lfS X.K T (wpS G (.par js fl es)) D σ H) :
    lfP X.K T fl (wpPs G fl es) σ H fun vs H1 => vs.length = js.length ∧ D.nx (setVs σ js vs) H1 ∧ ∀ p o, H1 p = none → D.nx (setVs σ js vs) (upd H1 p o) := by
  obtain ⟨bx, I0, H0, ρ, I, s, q⟩ := h
  simp only [wpS] at q
  refine ⟨bx, I0, H0, ρ, I, s, wpPs_mono fl es (fun ds w vs I1 H1 as g1 vo => ?_) q⟩
  have w : (kn X.K T bx I0 H0 I D).nx (setPar ρ js fl ds) := w
  have s2 : SA X.K T bx I0 H0 (setPar ρ js fl ds) (setVs σ js vs) I1 H1 := par_ok (fun a h => s.gw.free h) (fun a h => hv_nfp s.hv h) (s.grow g1) vo hl (hdl := s.dlGrow g1 fun a ha => vo.free a ha) fun j t e a e1 m1 e2 hm => by
    obtain ⟨a', xs, e3, _, _, h2, _⟩ := (slMu m1).mp (s.sl j _ e1)
    rw [e2] at e3
    cases e3
    have := vo.free a hm
    rw [h2] at this; cases this
  exact ⟨by rw [vo.len.1, hl], w _ I1 H1 (g1.sub s.hv) s2, fun p o hp => w _ I1 _ (g1.sub s.hv) (s2.grow (Gw.mut o g1.hv hp))⟩
theorem lfP_mono {fl : List Bool} {es : Exs} {σ : L2.St} {H : Hp} {Q R : List V → Hp → Prop} (hq : ∀ vs H', Q vs H' → R vs H') (h : lfP X.K T fl (wpPs G fl es) σ H Q) : lfP X.K T fl (wpPs G fl es) σ H R := by
  obtain ⟨bx, I0, H0, ρ, I, s, q⟩ := h
  exact ⟨bx, I0, H0, ρ, I, s, wpPs_mono fl es (fun ds w vs I1 H1 as g1 vo => hq _ _ (w vs I1 H1 as g1 vo)) q⟩
theorem ps_parS (g : Gd T G k c X) (hk : c.sc.kind = .function) {js : List Nat} {fl : List Bool} {es : Exs} {ts vs : List Expr} {k1 k2 : Nat} {q1 q2 p : Pos} (hn : chkNs c js ts = true) (hl : js.length = fl.length) (h1000 : js.length ≤ 1000) (hp : chkPs c fl es vs = true) (hw : chkSw c js ts vs = true) :
    PS X (.Assign [.Tuple ts k1 q1] (.Tuple vs k2 q2) p) (lfS X.K T (wpS G (.par js fl es))) := by
  obtain ⟨pa, pl⟩ := sP g fl es vs hp
  unfold chkSw at hw
  cases e : swp c.sc ts vs with
  | none => rw [e] at hw; cases hw
  | some r =>
    rw [e] at hw
    have ew := swp_ok (k1 := k1) (k2 := k2) (p1 := q1) (p2 := q2) g.sc hk e
    cases r with
    | none =>
      obtain ⟨h1, h2⟩ := names_assign X.env js ts hn
      refine PS.imp (ps_asg (pe_tup pa) (pg_tup g.calm (pgs_names g js ts hn) h1 h2) (sws_no _ _) ew rfl) fun D σ H h => ?_
      refine lfP_mono (fun us H1 w => ?_) (lf_par hl h)
      obtain ⟨w1, w2, w3⟩ := w
      refine ⟨by rw [w1, sizeLine_eq]; omega, fun a ha => ?_⟩
      exact ⟨a, us, rfl, SqT.of upd_same, w1, gs_any w1 (w3 a _ ha)⟩
    | some ns =>
      simp only [Bool.and_eq_true, decide_eq_true_eq, Bool.or_eq_true, beq_iff_eq] at hw
      obtain ⟨⟨⟨ha, hns⟩, hnd⟩, hlen⟩ := hw
      have loc := allLoc_two g hn ha
      have hfl : vs.length = fl.length := chkPs_len hp
      have hts : ts.length = js.length := chkNs_len hn
      rcases hlen with hlen | hlen
      · match js, ts, vs, hlen, hts, (by rw [hfl, ← hl, hlen] : vs.length = 2) with
        | [i, j], [t1, t2], [v1, v2], _, _, _ =>
          obtain ⟨i', x, px, e1, e2, n1, l1⟩ := loc 0 (by simp)
          obtain ⟨j', y, py, e3, e4, n2, l2⟩ := loc 1 (by simp)
          simp only [List.getElem?_cons_zero, List.getElem?_cons_succ, Option.some.injEq] at e1 e2 e3 e4
          subst e1 e2 e3 e4
          have hns : ns = [x, y] := hns
          subst hns
          refine PS.imp (ps_par g.calm g.nd n1 n2 (fun z => by simp [z] at hnd) l1 l2 pa ew (sws_no _ _)) fun D σ H h => ?_
          refine lfP_mono (fun us H1 w => ?_) (lf_par hl h)
          match us, w with
          | [u1, u2], w => exact ⟨u1, u2, rfl, w.2.1⟩
          | [], w => exact absurd w.1 (by simp)
          | [_], w => exact absurd w.1 (by simp)
          | _ :: _ :: _ :: _, w => exact absurd w.1 (by simp)
      · match js, ts, vs, hlen, hts, (by rw [hfl, ← hl, hlen] : vs.length = 3) with
        | [i, j, l], [t1, t2, t3], [v1, v2, v3], _, _, _ =>
          obtain ⟨i', x, px, e1, e2, n1, l1⟩ := loc 0 (by simp)
          obtain ⟨j', y, py, e3, e4, n2, l2⟩ := loc 1 (by simp)
          obtain ⟨l', z, pz, e5, e6, n3, l3⟩ := loc 2 (by simp)
          simp only [List.getElem?_cons_zero, List.getElem?_cons_succ, Option.some.injEq] at e1 e2 e3 e4 e5 e6
          subst e1 e2 e3 e4 e5 e6
          have hns : ns = [x, y, z] := hns
          subst hns
          refine PS.imp (ps_par3 g.calm g.nd n1 n2 n3 (fun z => by simp [z] at hnd) (fun z => by simp [z] at hnd) (fun z => by simp [z] at hnd) l1 l2 l3 pa ew (sws_no _ _)) fun D σ H h => ?_
          refine lfP_mono (fun us H1 w => ?_) (lf_par hl h)
          match us, w with
          | [u1, u2, u3], w => exact ⟨u1, u2, u3, rfl, w.2.1⟩
          | [], w => exact absurd w.1 (by simp)
          | [_], w => exact absurd w.1 (by simp)
          | [_, _], w => exact absurd w.1 (by simp)
          | _ :: _ :: _ :: _ :: _, w => exact absurd w.1 (by simp)
end
end Ef

end

section
set_option autoImplicit false
namespace Ef
open PySem L2 PySem.Spec PyProof.Rows
section
variable {X : Cx} {T : BoxT} {G : Gm} {k : Nat} {c : Ck}
theorem att_name {n m : Str} {q : Pos} {env : Env} : attributeBase (.Name n q) m env (eval (.Name n q) env) = eval (.Name n q) env := rfl
/-- x.append(e) -/
theorem ps_app (g : Gd T G k c X) {i : Nat} {n : Str} {q ap cp p : Pos} {v : Expr} {e : Ex} (hn : visB c i n = true) (hf : e.firm = true) (hp : plainE v = true) (he : chkE c e v = true) (hl : (ap.endLine == cp.line) = true) :
    PS X (.Expr (.Call (.Attribute (.Name n q) (Str.ofString "append") ap) [v] [] cp) p) (lfS X.K T (wpS G (.app i e))) := by
  obtain ⟨h1, h2, h3, h4⟩ := g.vis hn
  have s1 := star_plain hp [] X.env
  refine PS.imp (ps_expr (pe_bm PySem.F.plainAttrs_list PySem.F.slot_list_append PySem.F.type_list_append mt_append (pe_var h1 h2 h3 h4) (pa_cons (lf_st (mE G e) (firm_md hf) (sE e g he)) pa_nil s1) att_name (by rw [s1]; rfl) hl s1 rfl) rfl) fun D σ H h => ?_
  obtain ⟨bx, I0, H0, ρ, I, s, w⟩ := h
  simp only [wpS] at w
  split at w
  · rename_i ds eo
    obtain ⟨a, xs, e1, h0, i1, ha, dq, np⟩ := s.own eo
    refine ⟨.ref a, e1, .inl ⟨rfl, xs, SqL.of ha⟩, ?_⟩
    refine ⟨bx, I0, H0, ρ, I, s, wpE_mono e (fun d w v I1 H1 g1 dv => ?_) w⟩
    have ha1 := g1.hp a _ ha np
    refine ⟨a, xs, v, rfl, rfl, ha1, by rw [dq.length]; exact w.1, ?_⟩
    exact w.2 _ I1 _ (g1.sub s.hv) ((s.grow g1).write eo e1 ((dq.sub (g1.sub s.hv)).append (.cons dv .nil)))
  · exact w.elim
/-- x.extend(e) -/
theorem ps_ext (g : Gd T G k c X) {i : Nat} {n : Str} {q ap cp p : Pos} {v : Expr} {e : Ex} (hn : visB c i n = true) (hp : plainE v = true) (he : chkE c e v = true) (hl : (ap.endLine == cp.line) = true) :
    PS X (.Expr (.Call (.Attribute (.Name n q) (Str.ofString "extend") ap) [v] [] cp) p) (lfS X.K T (wpS G (.ext i e))) := by
  obtain ⟨h1, h2, h3, h4⟩ := g.vis hn
  have s1 := star_plain hp [] X.env
  refine PS.imp (ps_expr (pe_bm PySem.F.plainAttrs_list PySem.F.slot_list_extend PySem.F.type_list_extend mt_extend (pe_var h1 h2 h3 h4) (pa_cons (lf_bo (mE G e) (sE e g he)) pa_nil s1) att_name (by rw [s1]; rfl) hl s1 rfl) rfl) fun D σ H h => ?_
  obtain ⟨bx, I0, H0, ρ, I, s, w⟩ := h
  simp only [wpS] at w
  split at w
  · rename_i ds eo
    obtain ⟨a, xs, e1, h0, i1, ha, dq, np⟩ := s.own eo
    refine ⟨.ref a, e1, .inl ⟨rfl, xs, SqL.of ha⟩, ?_⟩
    refine ⟨bx, I0, H0, ρ, I, s, wpE_mono e (fun d w v I1 H1 g1 dv => ?_) w⟩
    obtain ⟨es, rfl, l, w⟩ := w
    have ha1 := g1.hp a _ ha np
    obtain ⟨b, ys, rfl, hb, dqb⟩ := Bo.lstE g1.hv dv
    refine ⟨a, b, xs, ys, rfl, rfl, ha1, hb, by rw [dq.length, dqb.length]; exact l, ?_⟩
    exact w _ I1 _ (g1.sub s.hv) ((s.grow g1).write eo e1 ((dq.sub (g1.sub s.hv)).append dqb))
  · exact w.elim
/-- x.insert(j, e) -/
theorem ps_ins (g : Gd T G k c X) {i : Nat} {n : Str} {q ap cp p : Pos} {y v : Expr} {j e : Ex} (hn : visB c i n = true) (hf : e.firm = true) (hy : plainE y = true) (hp : plainE v = true) (hj : chkE c j y = true) (he : chkE c e v = true) (hl : (ap.endLine == cp.line) = true) :
    PS X (.Expr (.Call (.Attribute (.Name n q) (Str.ofString "insert") ap) [y, v] [] cp) p) (lfS X.K T (wpS G (.ins i j e))) := by
  obtain ⟨h1, h2, h3, h4⟩ := g.vis hn
  have s1 := star_plain hp [] X.env
  have s2 := star_plain hy [v] X.env
  refine PS.imp (ps_expr (pe_bm PySem.F.plainAttrs_list PySem.F.slot_list_insert PySem.F.type_list_insert mt_insert (pe_var h1 h2 h3 h4) (pa_cons (lf_bo (mE G j) (sE j g hj)) (pa_cons (lf_st (mE G e) (firm_md hf) (sE e g he)) pa_nil s1) s2) att_name (by rw [s2, s1]; rfl) hl s2 (by rw [s1]; rfl)) rfl) fun D σ H h => ?_
  obtain ⟨bx, I0, H0, ρ, I, s, w⟩ := h
  simp only [wpS] at w
  split at w
  · rename_i ds eo
    obtain ⟨a, xs, e1, h0, i1, ha, dq, np⟩ := s.own eo
    refine ⟨.ref a, e1, .inl ⟨rfl, xs, SqL.of ha⟩, ?_⟩
    refine ⟨bx, I0, H0, ρ, I, s, wpE_mono j (fun x w u I1 H1 g1 bu => ?_) w⟩
    refine ⟨bx, I0, H0, ρ, I1, s.grow g1, wpE_mono e (fun d w v I2 H2 g2 dv => ?_) w⟩
    obtain ⟨m, rfl, l1, l2, w⟩ := w
    cases bu.intE
    have gg := g1.trans g2
    have ha1 := gg.hp a _ ha np
    have hl := dq.length
    refine ⟨a, xs, (m : Int), v, rfl, rfl, ha1, by omega, by omega, by have := sizeLine_eq; omega, ?_⟩
    have dqq := dq.sub (gg.sub s.hv)
    exact w _ I2 _ (gg.sub s.hv) ((s.grow gg).write eo e1 (((dqq.take m).append (.cons dv .nil)).append (dqq.drop m)))
  · exact w.elim
theorem asg_sub {o i : Expr} {pos : Pos} {env : Env} (h : plainE i = true) (v : Value) : assign (.Subscript o i pos) env v = (do
      let ov ← holding [v] (eval o env)
      let iv ← holding [v, ov] (eval i env)
      standAt pos
      holding [v, ov, iv] (setItem ov iv v)
      release [v, ov, iv] []) := by
  cases i <;> first | rfl | (simp [plainE] at h)
theorem sws_no2 {v : Expr} (h : compE v = false) (t : Expr) (l : Nat) (env : Env) : swapsWithSole [t] v l env = pure false := sw_no h (some t) l env
theorem sws_sub {o i : Expr} {q : Pos} (v : Expr) (l : Nat) (env : Env) : swapsWithSole [.Subscript o i q] v l env = pure false := by
  cases v <;> rfl
theorem ps_put (g : Gd T G k c X) {i : Nat} {n : Str} {q r p : Pos} {y v : Expr} {j e : Ex} (hn : visB c i n = true) (hf : e.firm = true) (hp : plainE v = true) (hy : plainE y = true) (he : chkE c e v = true) (hj : chkE c j y = true) :
    PS X (.Assign [.Subscript (.Name n q) y r] v p) (lfS X.K T (wpS G (.put i j e))) := by
  obtain ⟨h1, h2, h3, h4⟩ := g.vis hn
  refine PS.imp (ps_asg (lf_st (mE G e) (firm_md hf) (sE e g he)) (pg_sub (pe_var h1 h2 h3 h4) (lf_bo (mE G j) (sE j g hj)) (set_ownN (T := T) g.units) (asg_sub hy)) (sws_sub _ _ _) (by cases v <;> rfl) rfl) fun D σ H h => ?_
  obtain ⟨bx, I0, H0, ρ, I, s, w⟩ := h
  simp only [wpS] at w
  split at w
  · rename_i ds eo
    obtain ⟨a, xs, e1, h0, i1, ha, dq, np⟩ := s.own eo
    refine ⟨bx, I0, H0, ρ, I, s, wpE_mono e (fun d w v I1 H1 g1 dv => ?_) w⟩
    refine ⟨.ref a, e1, bx, I0, H0, ρ, I1, s.grow g1, wpE_mono j (fun x w u I2 H2 g2 bu => ?_) w⟩
    obtain ⟨kk, m, rfl, em, w⟩ := w
    cases bu.intE
    have gg := g1.trans g2
    refine .inl ⟨a, xs, kk, m, rfl, rfl, gg.hp a _ ha np, by rw [dq.length]; exact em, ?_⟩
    exact w _ I2 _ (gg.sub s.hv) ((s.grow gg).write eo e1 (DqAll.set (Dq.sub (g2.sub g1.hv) dv) m (dq.sub (gg.sub s.hv))))
  · rename_i kvs eo
    obtain ⟨a, xs, e1, h0, i1, ha, dq, np⟩ := s.dic eo
    refine ⟨bx, I0, H0, ρ, I, s, wpE_mono e (fun d w v I1 H1 g1 dv => ?_) w⟩
    refine ⟨.ref a, e1, bx, I0, H0, ρ, I1, s.grow g1, wpE_mono j (fun x w u I2 H2 g2 bu => ?_) w⟩
    obtain ⟨kb, hlen, w⟩ := w
    have gg := g1.trans g2
    refine .inr ⟨a, bx, I2, x, d, kvs, xs, rfl, g2.hv, gg.hp a _ ha np, dq.sub (gg.sub s.hv), bu, kb, hlen, Dq.sub (g2.sub g1.hv) dv, fun u' fo' => ?_⟩
    exact w _ I2 _ (gg.sub s.hv) ((s.grow gg).writeF eo e1 fo')
  · exact w.elim
/-- t = x.pop() -/
theorem ps_pop (g : Gd T G k c X) {i j : Nat} {n1 n2 : Str} {q1 q2 ap cp p : Pos} (h1 : stoB c i n1 = true) (h2 : visB c j n2 = true) (hl : (ap.endLine == cp.line) = true) :
    PS X (.Assign [.Name n1 q1] (.Call (.Attribute (.Name n2 q2) (Str.ofString "pop") ap) [] [] cp) p) (lfS X.K T (wpS G (.pop (.nm i) j))) := by
  obtain ⟨v1, v2, v3, v4⟩ := g.vis h2
  obtain ⟨k1, k2, k3⟩ := g.sto h1
  refine PS.imp (ps_set g.nd k1 k2 (pe_bm0 PySem.F.plainAttrs_list PySem.F.slot_list_pop PySem.F.type_list_pop mt_pop (pe_var v1 v2 v3 v4) att_name hl) rfl k3) fun D σ H h => ?_
  obtain ⟨bx, I0, H0, ρ, I, s, w⟩ := h
  simp only [wpS] at w
  split at w
  · rename_i ds eo
    obtain ⟨a, xs, e1, h0, i1, ha, dq, np⟩ := s.own eo
    obtain ⟨r, d, rfl, w⟩ := w
    have hx : xs.length = r.length + 1 := by rw [dq.length]; simp
    obtain ⟨v, hv1, dv⟩ := dq.get' (i := r.length) (d := d) (by simp)
    have hd : DqAll X.K I xs.dropLast r := by
      have := dq.take r.length
      rw [List.dropLast_eq_take, hx]
      simpa using this
    refine ⟨.ref a, e1, .inl ⟨rfl, xs, SqL.of ha⟩, a, xs, v, rfl, rfl, ha, by rw [hx]; simpa using hv1, ?_⟩
    simp only [asg] at w
    exact w _ I _ (fun _ _ e => e) ((s.write eo e1 hd).setDat dv)
  · exact w.elim
/-- if d.setdefault(k, v) != e: .. -/
theorem ps_sdf (g : Gd T G k c X) {i : Nat} {n : Str} {q ap cp p1 p : Pos} {y z w : Expr} {t f : List Stmt} {ek ev ee : Ex} {a b : Sxs} (hn : visB c i n = true) (hf : ev.firm = true) (py : plainE y = true) (pz : plainE z = true) (pw : plainE w = true) (hl : (ap.endLine == cp.line) = true) (hk : chkE c ek y = true) (hv : chkE c ev z = true) (he : chkE c ee w = true)
    (ha : PSs X t (lfS X.K T (wpSs G a))) (hb : PSs X f (lfS X.K T (wpSs G b))) : PS X (.If (.Compare (.Call (.Attribute (.Name n q) (Str.ofString "setdefault") ap) [y, z] [] cp) [.NotEq] [w] p1) t f p) (lfS X.K T (wpS G (.sdf i ek ev ee a b))) := by
  obtain ⟨v1, v2, v3, v4⟩ := g.vis hn
  refine PS.imp (ps_if (pt_cmpR (op_cmp (T := T) g.units) (pe_sd (T := T) g.units (pe_var v1 v2 v3 v4) (lf_bo (mE G ek) (sE ek g hk)) (lf_st (mE G ev) (firm_md hf) (sE ev g hv)) py pz att_name hl) (lf_bo (mE G ee) (sE ee g he)) (marks_plain pw _)) ha hb) fun D σ H h => ?_
  obtain ⟨bx, I0, H0, ρ, I, s, w⟩ := h
  simp only [wpS] at w
  split at w
  · rename_i kvs eo
    obtain ⟨a1, uo, e1, h0, i1, hao, fo, np⟩ := s.dic eo
    refine ⟨.ref a1, e1, a1, rfl, (fo.dc hao).is, bx, I0, H0, ρ, I, s, wpE_mono ek (fun x w u1 I1 H1 g1 b1 => ?_) w⟩
    refine ⟨bx, I0, H0, ρ, I1, s.grow g1, wpE_mono ev (fun y w u2 I2 H2 g2 d2 => ?_) w⟩
    obtain ⟨kf, hl, w⟩ := w
    have gg := g1.trans g2
    refine ⟨bx, I2, x, y, kvs, uo, g2.hv, gg.hp a1 _ hao np, fo.sub (gg.sub s.hv), Bo.grow g1.hv g2 b1, kf, d2, hl, fun v u' dv fo' => ?_⟩
    have s2 := (s.grow gg).writeF eo e1 fo'
    refine ⟨bx, I0, H0, _, I2, s2, wpE_mono ee (fun z w u3 I3 H3 g3 b3 => ?_) w⟩
    refine ⟨bx, I3, _, z, g3.hv, .inl (dv.sub (g3.sub s2.hv)), b3, cmpW_mono (fun t w u4 I4 H4 g4 vl => ?_) w⟩
    obtain ⟨kb, rfl, w⟩ := w
    cases Dq.blE vl
    refine ⟨kb, rfl, ?_⟩
    have sb : Sub I I4 := Sub.trans (gg.sub s.hv) (Sub.trans (g3.sub s2.hv) (g4.sub g3.hv))
    cases kb with
    | true => exact ⟨bx, I0, H0, _, I4, (s2.grow g3).grow g4, wpSs_mono a (kn_le sb) w⟩
    | false => exact ⟨bx, I0, H0, _, I4, (s2.grow g3).grow g4, wpSs_mono b (kn_le sb) w⟩
  · exact w.elim
/-- d.setdefault(k, v) -/
theorem ps_sde (g : Gd T G k c X) {i : Nat} {n : Str} {q ap cp p : Pos} {y z : Expr} {ek ev : Ex} (hn : visB c i n = true) (hf : ev.firm = true) (py : plainE y = true) (pz : plainE z = true) (hl : (ap.endLine == cp.line) = true) (hk : chkE c ek y = true) (hv : chkE c ev z = true) :
    PS X (.Expr (.Call (.Attribute (.Name n q) (Str.ofString "setdefault") ap) [y, z] [] cp) p) (lfS X.K T (wpS G (.sde i ek ev))) := by
  obtain ⟨v1, v2, v3, v4⟩ := g.vis hn
  refine PS.imp (ps_expr (pe_sd (T := T) g.units (pe_var v1 v2 v3 v4) (lf_bo (mE G ek) (sE ek g hk)) (lf_st (mE G ev) (firm_md hf) (sE ev g hv)) py pz att_name hl) rfl) fun D σ H h => ?_
  obtain ⟨bx, I0, H0, ρ, I, s, w⟩ := h
  simp only [wpS] at w
  split at w
  · rename_i kvs eo
    obtain ⟨a1, uo, e1, h0, i1, hao, fo, np⟩ := s.dic eo
    refine ⟨.ref a1, e1, a1, rfl, (fo.dc hao).is, bx, I0, H0, ρ, I, s, wpE_mono ek (fun x w u1 I1 H1 g1 b1 => ?_) w⟩
    refine ⟨bx, I0, H0, ρ, I1, s.grow g1, wpE_mono ev (fun y w u2 I2 H2 g2 d2 => ?_) w⟩
    obtain ⟨kf, hl, w⟩ := w
    have gg := g1.trans g2
    refine ⟨bx, I2, x, y, kvs, uo, g2.hv, gg.hp a1 _ hao np, fo.sub (gg.sub s.hv), Bo.grow g1.hv g2 b1, kf, d2, hl, fun v u' dv fo' => ?_⟩
    exact w _ I2 _ (gg.sub s.hv) ((s.grow gg).writeF eo e1 fo')
  · exact w.elim
/-- x = d.setdefault(k, v) -/
theorem ps_sda (g : Gd T G k c X) {i j : Nat} {n0 n : Str} {q0 q ap cp p : Pos} {y z : Expr} {ek ev : Ex} (h0 : stoB c j n0 = true) (hn : visB c i n = true) (hf : ev.firm = true) (py : plainE y = true) (pz : plainE z = true) (hl : (ap.endLine == cp.line) = true) (hk : chkE c ek y = true) (hv : chkE c ev z = true) :
    PS X (.Assign [.Name n0 q0] (.Call (.Attribute (.Name n q) (Str.ofString "setdefault") ap) [y, z] [] cp) p) (lfS X.K T (wpS G (.sda j i ek ev))) := by
  obtain ⟨v1, v2, v3, v4⟩ := g.vis hn
  obtain ⟨k1, k2, k3⟩ := g.sto h0
  refine PS.imp (ps_set g.nd k1 k2 (pe_sd (T := T) g.units (pe_var v1 v2 v3 v4) (lf_bo (mE G ek) (sE ek g hk)) (lf_st (mE G ev) (firm_md hf) (sE ev g hv)) py pz att_name hl) rfl k3) fun D σ H h => ?_
  obtain ⟨bx, I0, H0, ρ, I, s, w⟩ := h
  simp only [wpS] at w
  split at w
  · rename_i kvs eo
    obtain ⟨a1, uo, e1, h0, i1, hao, fo, np⟩ := s.dic eo
    refine ⟨.ref a1, e1, a1, rfl, (fo.dc hao).is, bx, I0, H0, ρ, I, s, wpE_mono ek (fun x w u1 I1 H1 g1 b1 => ?_) w⟩
    refine ⟨bx, I0, H0, ρ, I1, s.grow g1, wpE_mono ev (fun y w u2 I2 H2 g2 d2 => ?_) w⟩
    obtain ⟨kf, hl, w⟩ := w
    have gg := g1.trans g2
    refine ⟨bx, I2, x, y, kvs, uo, g2.hv, gg.hp a1 _ hao np, fo.sub (gg.sub s.hv), Bo.grow g1.hv g2 b1, kf, d2, hl, fun v u' dv fo' => ?_⟩
    exact w _ I2 _ (gg.sub s.hv) (((s.grow gg).writeF eo e1 fo').setDat dv)
  · exact w.elim
/-- x = {k: [] for ..} -/
theorem ps_dlc (g : Gd T G k c X) {i : Nat} {n : Str} {q q2 p1 p : Pos} {y t ii : Expr} {scope : Scope} {ek : Ex} {tg : Tg} {it : It} {own : List Nat} (h0 : stoB c i n = true) (hi : chkI c it t ii = true) (hb : blkC c.N c.sc scope (ownP c own) = true) (ht : chkTg (c.blk scope) tg t = true) (ho : ownT tg own = true) (f1 : ek.firm = true) (hek : chkE (c.blk scope) ek y = true) :
    PS X (.Assign [.Name n q] (.DictComp y (.List [] q2) [⟨t, ii, [], 0⟩] scope p1) p) (lfS X.K T (wpS G (.dlc i ek tg it own))) := by
  obtain ⟨k1, k2, k3⟩ := g.sto h0
  have hi2 : plainE ii = true := chkI_plain hi
  have ok : BlkOk X.N X.env.scope scope (ownP c own) := by rw [g.nn, g.sc]; exact blkOk_by hb
  have eo : (ownP c own).map (·.2) = own := by simp [ownP, Function.comp_def]
  have fin : ∀ D σ H, lfS X.K T (wpS G (.dlc i ek tg it own)) D σ H → tAsg (tDcN X.K (lfI X.K T it.prs (wpI G it)) (gOf X.K tg) (lfT X.K T (wpC G .no)) (lfE X.K T .st (wpE G ek)) (tLst tNil) own) (gName i) D σ H := fun D σ H ⟨bx, I0, H0, ρ, I, s, w⟩ => by
    simp only [wpS] at w
    exact lf_dlc (D := D.nx) ho (tg_ok hi ht) ⟨bx, I0, H0, ρ, I, s, w⟩
  have e1 := sw_dc (ek := y) (ev := .List [] q2) (gs := [⟨t, ii, [], 0⟩]) (scope := scope) (p := p1) (py := q) (y := n) (l := p.line) (env := X.env)
  cases eb : (X.env.blockKind == .function && X.env.kindOf n == some .local && q.line == p1.line && !(scope.names.any fun z => z.1 == n && (z.2 == .local || z.2 == .cell))) with
  | false =>
    rw [eb] at e1
    have r := pe_dcN (kx := y) (vx := .List [] q2) (tg := t) (iter := ii) (ifs := []) (g := gOf X.K tg) (tt := lfT X.K T (wpC G .no)) (tk := lfE X.K T .st (wpE G ek)) (tv := tLst tNil) (pos := p1) g.units g.calm g.nd (sI it g hi) ok (fun s H C cl fp => pg_tg (g.blk scope s H C cl fp) ht) (fun s H C cl fp => sC .no (g.blk scope s H C cl fp) rfl)
      (fun s H C cl fp => lf_st (mE G ek) (firm_md f1) (sE ek (g.blk scope s H C cl fp) hek)) (fun s H C cl fp => pe_lst pa_nil) (folded_plain hi2 X.env)
    rw [eo] at r
    exact PS.imp (ps_set g.nd k1 k2 r e1 k3) fin
  | true =>
    rw [eb] at e1
    have hloc : X.env.scope.names.lookup n = some .local := by
      simp only [Bool.and_eq_true, beq_iff_eq] at eb
      exact eb.1.1.2
    have r := ps_setDcN (i := i) (y := n) (py := q) (kx := y) (vx := .List [] q2) (tg := t) (iter := ii) (ifs := []) (g := gOf X.K tg) (tt := lfT X.K T (wpC G .no)) (tk := lfE X.K T .st (wpE G ek)) (tv := tLst tNil) (pos := p1) (spos := p) g.units g.calm g.nd k1 hloc e1 (sI it g hi) ok (fun s H C cl fp => pg_tg (g.blk scope s H C cl fp) ht) (fun s H C cl fp => sC .no (g.blk scope s H C cl fp) rfl)
      (fun s H C cl fp => lf_st (mE G ek) (firm_md f1) (sE ek (g.blk scope s H C cl fp) hek)) (fun s H C cl fp => pe_lst pa_nil) (folded_plain hi2 X.env)
    rw [eo] at r
    exact PS.imp r fin
/-- d[k].append(e) -/
theorem ps_dla (g : Gd T G k c X) {i : Nat} {n : Str} {q q2 ap cp p : Pos} {y v : Expr} {ek ev : Ex} (hn : visB c i n = true) (py : plainE y = true) (hf : ev.firm = true) (pv : plainE v = true) (hl : (ap.endLine == cp.line) = true) (hk : chkE c ek y = true) (hv : chkE c ev v = true) :
    PS X (.Expr (.Call (.Attribute (.Subscript (.Name n q) y q2) (Str.ofString "append") ap) [v] [] cp) p) (lfS X.K T (wpS G (.dla i ek ev))) := by
  obtain ⟨h1, h2, h3, h4⟩ := g.vis hn
  have s1 := star_plain pv [] X.env
  refine PS.imp (ps_expr (pe_bm PySem.F.plainAttrs_list PySem.F.slot_list_append PySem.F.type_list_append mt_append (pe_ix (ix_getK g.units) (pe_var h1 h2 h3 h4) (lf_bo (mE G ek) (sE ek g hk)) (ix_plain py)) (pa_cons (lf_st (mE G ev) (firm_md hf) (sE ev g hv)) pa_nil s1) rfl (by rw [s1]; rfl) hl s1 rfl) rfl) fun D σ H h => ?_
  obtain ⟨bx, I0, H0, ρ, I, s, w⟩ := h
  simp only [wpS] at w
  split at w
  · rename_i kvs eo
    have ei := getD_sl eo (fun z => nomatch z)
    obtain ⟨a, b0, o, xs, fp, u⟩ := s.dlU ei
    refine ⟨.ref a, u.at_, bx, I0, H0, ρ, I, s, wpE_mono ek (fun x w vk I1 H1 g1 b1 => ?_) w⟩
    obtain ⟨kn, any, w⟩ := w
    obtain ⟨b, rfl, hb⟩ := key_ref kn b1
    have u1 := u.grow s.hv g1
    rcases u1.ns.look kn with ⟨z, _⟩ | ⟨b', c, ys, ds, k1, _, k3, k4, k5, k6⟩
    · rw [any] at z; cases z
    refine ⟨I1, a, b0, o, xs, x, b, b', .ref c, .ref c, g1.hv.sub, rfl, u1.ha, u1.ns.keysN, rfl, hb, kn, k3, rfl, .inl ⟨rfl, ys, SqL.of k4⟩, ?_⟩
    refine ⟨bx, I0, H0, ρ, I1, s.grow g1, wpE_mono ev (fun d w v2 I2 H2 g2 d2 => ?_) w⟩
    obtain ⟨wl, w⟩ := w
    have u2 := u1.grow g1.hv g2
    have hc2 : H2 c = some (.lst ys) := g2.hp c _ k4 (u1.ns.at_ c k6).2.2.2
    refine ⟨c, ys, v2, rfl, rfl, hc2, by rw [k5.length]; exact wl ds k1, ?_⟩
    exact w σ I2 _ ((g1.trans g2).sub s.hv) (((s.grow g1).grow g2).addDl ei u2 kn d2 k3 hc2)
  · exact w.elim
/-- x += e, ints -/
theorem ps_augI (g : Gd T G k c X) {i : Nat} {n : Str} {q p : Pos} {v : Expr} {e : Ex} (hn : stoB c i n = true) (he : chkE c e v = true) : PS X (.AugAssign (.Name n q) .Add v p) (lfS X.K T (wpS G (.aug i e))) := by
  obtain ⟨k1, k2, k3⟩ := g.sto hn
  refine PS.imp (ps_aug g.nd k1 k2 (lf_bo (mE G e) (sE e g he)) ip_add k3) fun D σ H h => ?_
  obtain ⟨bx, I0, H0, ρ, I, s, w⟩ := h
  simp only [wpS] at w
  split at w
  · rename_i d eo
    obtain ⟨v0, e1, dv⟩ := s.dat eo
    refine ⟨v0, e1, bx, I0, H0, ρ, I, s, wpE_mono e (fun y w u I1 H1 g1 b1 => ?_) w⟩
    obtain ⟨m1, m2, rfl, rfl, w⟩ := w
    cases dv.intE
    cases b1.intE
    exact ⟨m1, m2, rfl, rfl, w _ I1 H1 (g1.sub s.hv) ((s.grow g1).setDat (.int _))⟩
  · exact w.elim
theorem SA.fresh_ne {K : PySem.W.Frag} {bx : Bx} {I0 H0 I H : Hp} {ρ : Rho} {σ : L2.St} (s : SA K T bx I0 H0 ρ σ I H) {a : Addr} (ha : H a = none) (j : Nat) (t : Sl) (d : PyData) (e : ρ[j]? = some t) (m : mutS t = some d) : σ[j]? ≠ some (some (.ref a)) := fun z => by
  obtain ⟨b, xs, e1, _, _, h, _⟩ := (slMu m).mp (s.sl j _ e)
  rw [z] at e1
  cases e1
  rw [ha] at h; cases h
theorem PSs.impN {e : List Stmt} {t t' : TS} (h : PSs X e t) (i : ∀ D σ H, σ.length = X.N.length → t' D σ H → t D σ H) : PSs X e t' := ⟨fun pins s σ H D I q => h.run pins s σ H D I (i D σ H I.len q)⟩
/-- row = d.setdefault(k, []); row.append(e) -/
theorem ps_al2 (g : Gd T G k c X) {i j : Nat} {ek ev : Ex} {r : Sxs} {x1 x2 : Stmt} {xs : List Stmt} (h : chkA2 c i j ek ev x1 x2 = true) (hr : PSs X xs (lfS X.K T (wpSs G r))) : PSs X (x1 :: x2 :: xs) (lfS X.K T (wpSs G (.al2 i j ek ev r))) := by
  obtain ⟨n0, q0, n, q, m, ap, y, q2, cp, p, n1, q1, m2, ap2, v, cp2, p2, rfl, rfl, rfl, rfl, h0, hn, hn1, py, hf, pv, hl, hl2, hk, hv⟩ := inv_a2 h
  obtain ⟨v1, v2, v3, v4⟩ := g.vis hn
  obtain ⟨w1, w2, w3, w4⟩ := g.vis hn1
  obtain ⟨k1, k2, k3⟩ := g.sto h0
  have s1 := star_plain pv [] X.env
  refine PSs.impN (pss_cons (ps_set g.nd k1 k2 (pe_sdK g.units (pe_var v1 v2 v3 v4) (lf_bo (mE G ek) (sE ek g hk)) (pe_lst pa_nil) py rfl att_name hl) rfl k3)
    (pss_cons (ps_expr (pe_bm PySem.F.plainAttrs_list PySem.F.slot_list_append PySem.F.type_list_append mt_append (pe_var w1 w2 w3 w4) (pa_cons (lf_st (mE G ev) (firm_md hf) (sE ev g hv)) pa_nil s1) att_name (by rw [s1]; rfl) hl2 s1 rfl) rfl) hr)) fun D σ H hlen0 h => ?_
  obtain ⟨bx, I0, H0, ρ, I, s, w⟩ := h
  simp only [wpSs] at w
  split at w
  · rename_i kvs eo
    have ei := getD_sl eo (fun z => nomatch z)
    obtain ⟨a, b0, o, xs, fp, u⟩ := s.dlU ei
    refine ⟨.ref a, u.at_, a, rfl, .inr ⟨_, _, _, u.ha⟩, bx, I0, H0, ρ, I, s, wpE_mono ek (fun x w vk I1 H1 g1 b1 => ?_) w⟩
    obtain ⟨kn, hlen, ne, w⟩ := w
    obtain ⟨b, rfl, hb⟩ := key_ref kn b1
    have u1 := u.grow s.hv g1
    have sg1 := s.grow g1
    refine ⟨by rw [sizeLine_eq]; decide, fun c0 hc0 => ?_⟩
    have gp := Gw.mut (T := T) (.lst []) g1.hv hc0
    have u2 := u1.grow g1.hv gp
    have sg2 := sg1.grow gp
    have sI : Sub I I1 := g1.sub s.hv
    -- the second statement
    have second : ∀ {σ1 : L2.St} {H3 : Hp} {b3 : Addr} {o3 : Obj} {xs3 : List (NestedKey × Addr × Value)} {fp3 : List Addr} {c1 b' : Addr} {ys : List V} {ds : List PyData}, SA X.K T bx I0 H0 ((ρ.set j .un).set i (.dol (sdL kvs x))) σ1 I1 H3 → ((ρ.set j .un).set i (.dol (sdL kvs x)))[i]? = some (.dol (sdL kvs x)) → DlU X.K bx H0 ((ρ.set j .un).set i (.dol (sdL kvs x))) σ1 I1 H3 i a b3 o3 xs3 (sdL kvs x) fp3 →
        σ1[j]? = some (some (.ref c1)) → atKey xs3 (nk x) = some (b', .ref c1) → H3 c1 = some (.lst ys) → c1 ∈ fp3 → (∀ d : PyData, (∀ ds, lookL kvs x = some ds → ds.length < sizeLine) → ys.length < sizeLine) →
        tBM X.K "list" rAppend (tVar j) (tCons (lfE X.K T .st (wpE G ev)) tNil) σ1 H3 fun _ H4 => lfS X.K T (wpSs G r) D σ1 H4 := by
      intro σ1 H3 b3 o3 xs3 fp3 c1 b' ys ds sa e3 u3 ej hat hc1 hin hys
      refine ⟨.ref c1, ej, .inl ⟨rfl, ys, SqL.of hc1⟩, bx, I0, H0, _, I1, sa, wpE_mono ev (fun d w v2 I2 H4 g2 d2 => ?_) w⟩
      obtain ⟨wl, w⟩ := w
      have u4 := u3.grow sa.hv g2
      have hc4 : H4 c1 = some (.lst ys) := g2.hp c1 _ hc1 (u3.ns.at_ c1 hin).2.2.2
      refine ⟨c1, ys, v2, rfl, rfl, hc4, hys d wl, ?_⟩
      have s4 := (sa.grow g2).addDl e3 u4 kn d2 hat hc4
      rw [addL_sdL kvs (keyEq_self kn), List.set_set] at s4
      exact ⟨bx, I0, H0, _, I2, s4, wpSs_mono r (kn_le (Sub.trans sI (g2.sub sa.hv))) w⟩
    have ilt : i < ρ.length := (List.getElem?_eq_some_iff.mp ei).1
    have jlt : j < σ.length := by rw [hlen0]; exact (List.getElem?_eq_some_iff.mp k1).1
    have e3 : ((ρ.set j .un).set i (.dol (sdL kvs x)))[i]? = some (.dol (sdL kvs x)) := by rw [List.getElem?_set_self (by simpa using ilt)]
    have eij : (ρ.set j .un)[i]? = some (.dol kvs) := by rw [List.getElem?_set_ne (Ne.symm ne)]; exact ei
    refine ⟨I1, x, b, b0, o, xs, gp.hv.sub, rfl, hb, kn, u2.ha, u2.ns.keysN, by rw [u2.ns.length]; exact hlen, fun p' hp' => ?_, fun hno o' uu ru => ?_⟩
    · rcases u2.ns.look kn with ⟨_, z⟩ | ⟨b', c1, ys, ds, l1, l2, l3, l4, l5, l6⟩
      · rw [z] at hp'; cases hp'
      rw [l3] at hp'
      cases hp'
      have ek : sdL kvs x = kvs := by unfold sdL; rw [if_pos l2]
      have eset : (ρ.set j .un).set i (.dol (sdL kvs x)) = ρ.set j .un := by
        rw [ek]
        apply List.ext_getElem?
        intro l
        by_cases hl : i = l
        · subst hl; rw [List.getElem?_set_self (by simpa using ilt), eij]
        · rw [List.getElem?_set_ne hl]
      refine ⟨.ref c1, rfl, second (σ1 := σ.set j (some (.ref c1))) (fp3 := fp) (ds := ds) (by rw [eset]; exact sg2.setUn) e3 (by rw [eset, ek]; exact u2.setUn ne) (by rw [List.getElem?_set_self jlt]) l3 l4 l6 fun d wl => by rw [l5.length]; exact wl ds l1⟩
    · rcases u2.ns.look kn with ⟨z, _⟩ | ⟨_, _, _, _, _, _, l3, _⟩
      rotate_left
      · rw [l3] at hno; cases hno
      cases ru
      have ek : sdL kvs x = kvs ++ [(x, [])] := by unfold sdL; rw [if_neg (by rw [z]; simp)]
      have ca : c0 ≠ a := fun z => by subst z; rw [u1.ha] at hc0; cases hc0
      have cf : c0 ∉ fp := fun z => by
        obtain ⟨_, _, ⟨ys, k3⟩, _⟩ := u1.ns.at_ c0 z
        rw [hc0] at k3; cases k3
      obtain ⟨sn, un⟩ := (sg2.setUn (j := j) (v := .ref c0)).newDl (o' := o') (b1 := b) eij (u2.setUn ne) kn hb (sg1.gw.free hc0) (hv_none g1.hv hc0) upd_same (hv_nfp g1.hv hc0) ca cf fun l t d b5 e m e2 z => by
        rcases set_cell e with ⟨_, z2⟩ | ⟨nl, e⟩
        · subst z2; cases m
        · rw [List.getElem?_set_ne nl, z] at e2
          exact sg1.fresh_ne hc0 l t d e m e2
      rw [storedH_new hno]
      refine second (σ1 := σ.set j (some (.ref c0))) (ds := []) (ys := []) (b' := b) (fp3 := fp ++ [c0]) (by rw [ek]; exact sn) e3 (by rw [ek]; exact un) (by rw [List.getElem?_set_self jlt]) ?_ (by rw [upd_ne ca, upd_same]) (List.mem_append_right _ List.mem_cons_self) fun _ _ => by rw [sizeLine_eq]; decide
      have : ∀ zs : List (NestedKey × Addr × Value), atKey zs (nk x) = none → atKey (zs ++ [(nk x, b, Value.ref c0)]) (nk x) = some (b, .ref c0) := fun zs h => by
        unfold atKey at h ⊢
        rw [List.find?_append]
        cases e : zs.find? fun q => decide (q.1 = nk x) with
        | none => simp
        | some q => rw [e] at h; cases h
      exact this xs hno
  · exact w.elim
mutual
theorem sS : ∀ (st : Sx) {c : Ck} {X : Cx} {x : Stmt}, Gd T G k c X → c.sc.kind = .function → chkS c st x = true → PS X x (lfS X.K T (wpS G st))
  | .pass, c, X, x, g, hk, h => by
    cases x <;> simp only [chkS] at h <;> try (cases h; done)
    refine PS.imp ps_pass fun D σ H ⟨bx, I0, H0, ρ, I, s, w⟩ => ?_
    simp only [wpS] at w
    exact w σ I H (fun _ _ e => e) s
  | .set (.nm i) e, c, X, x, g, hk, h => by
    obtain ⟨n, q, v, p, rfl, h1, h2, h3, h4, h5⟩ := invS_setn h
    have r := ps_val (px := q) (pos := p) g h1 h4 h5 rfl
    have r2 : PS X (.Assign [.Name n q] v p) (tAsg (lfE X.K T .st (wpE G e)) (gName i)) := by
      refine PS.imp r fun D σ H ⟨bx, I0, H0, ρ, I, s, w⟩ => ?_
      cases hm : e.mode with
      | st => exact ⟨bx, I0, H0, ρ, I, s, w⟩
      | bo => exact absurd hm (firm_md h2)
      | fr => exact ⟨bx, I0, H0, ρ, I, s, wpE_mono e (fun d kk v I' H' g' vl => let ⟨I2, g2, dq⟩ := Vl.st s.hv g' vl; kk v I2 H' g2 dq) w⟩
    refine PS.imp r2 fun D σ H ⟨bx, I0, H0, ρ, I, s, w⟩ => ?_
    simp only [wpS] at w
    refine ⟨bx, I0, H0, ρ, I, s, wpE_mono e (fun d w v I1 H1 g1 dv => ?_) w⟩
    exact w _ I1 H1 (g1.sub s.hv) ((s.grow g1).setDat dv)
  | .set (.tp js) e, c, X, x, g, hk, h => by
    obtain ⟨ts, kk, q, v, p, rfl, h1, h2, h3, h4, h5⟩ := invS_sett h
    obtain ⟨n1, n2⟩ := names_assign X.env js ts h1
    refine PS.imp (ps_asg (lf_st (mE G e) (firm_md h2) (sE e g h5)) (pg_seq g.calm (pgs_names g js ts h1) n1 n2) (sws_no _ _) (sto_no h3 _ _ _ _) rfl) fun D σ H ⟨bx, I0, H0, ρ, I, s, w⟩ => ?_
    simp only [wpS] at w
    refine ⟨bx, I0, H0, ρ, I, s, wpE_mono e (fun d w v I1 H1 g1 dv => ?_) w⟩
    exact asg_ok (tg := .tp js) (fl := false) (fun z => nomatch z) (s.grow g1) g1.hv.sub dv w fun ρ2 σ2 s2 w2 _ => w2 _ I1 H1 (g1.sub s.hv) s2
  | .par js fl es, c, X, x, g, hk, h => by
    obtain ⟨ts, k1, q1, vs, k2, q2, p, rfl, h1, h2, h3, h4⟩ := invS_par h
    exact ps_parS g hk h1 h2.1 h2.2 h3 h4
  | .own i e, c, X, x, g, hk, h => by
    obtain ⟨n, q, v, p, rfl, h1, h2, h3, h4, h5⟩ := invS_own h
    have hm : e.mode = .fr := by
      cases z : e.mode <;> rw [z] at h2 <;> first | rfl | cases h2
    refine PS.imp (ps_val (px := q) (pos := p) g h1 h4 h5 hm) fun D σ H ⟨bx, I0, H0, ρ, I, s, w⟩ => ?_
    simp only [wpS] at w
    refine ⟨bx, I0, H0, ρ, I, s, wpE_mono e (fun d w v I1 H1 g1 dv => ?_) w⟩
    obtain ⟨wf, w⟩ := w
    rcases dv with ⟨a, u, rfl, hn, i1, h1', dq⟩ | ⟨_, nl⟩
    · exact w _ I1 H1 (g1.sub s.hv) ((s.grow g1).setMu dq.mutS (s.gw.free hn) i1 h1' dq (hv_nfp s.hv hn) (fun j t d _ e m => s.fresh_ne hn j t d e m) (s.dlGrow g1 fun b hb => by rw [List.mem_singleton.mp hb]; exact hn))
    · rw [nl] at wf; cases wf
  | .app i e, c, X, x, g, hk, h => by
    obtain ⟨n, q, m, ap, v, cp, p, rfl, rfl, h1, h2, h3, h4, h5⟩ := invS_app h
    exact ps_app g h1 h2 h3 h4 h5
  | .ext i e, c, X, x, g, hk, h => by
    obtain ⟨n, q, m, ap, v, cp, p, rfl, rfl, h1, h3, h4, h5⟩ := invS_ext h
    exact ps_ext g h1 h3 h4 h5
  | .put i j e, c, X, x, g, hk, h => by
    obtain ⟨n, q, y, r, v, p, rfl, h1, h2, h3, h4, h6, h7⟩ := invS_put h
    exact ps_put g h1 h2 h3 h4 h6 h7
  | .ins i j e, c, X, x, g, hk, h => by
    obtain ⟨n, q, m, ap, y, v, cp, p, rfl, rfl, h1, h2, h3, h4, h5, h6, h7⟩ := invS_ins h
    exact ps_ins g h1 h2 h3 h4 h5 h6 h7
  | .pop tg j, c, X, x, g, hk, h => by
    obtain ⟨i, n1, q1, n2, q2, m, ap, cp, p, rfl, rfl, rfl, h1, h2, h3⟩ := invS_pop h
    exact ps_pop g h1 h2 h3
  | .sdf i ek ev ee a b, c, X, x, g, hk, h => by
    obtain ⟨n, q, m, ap, y, z, cp, w, p1, t, f, p, rfl, rfl, h1, h2, h3, h4, h5, h6, h7, h8, h9, h10, h11⟩ := invS_sdf h
    exact ps_sdf g h1 h2 h3 h4 h5 h6 h7 h8 h9 (sSs a g hk h10) (sSs b g hk h11)
  | .sde i ek ev, c, X, x, g, hk, h => by
    obtain ⟨n, q, m, ap, y, z, cp, p, rfl, rfl, h1, h2, h3, h4, h5, h6, h7⟩ := invS_sde h
    exact ps_sde g h1 h2 h3 h4 h5 h6 h7
  | .sda j i ek ev, c, X, x, g, hk, h => by
    obtain ⟨n0, q0, n, q, m, ap, y, z, cp, p, rfl, rfl, h0, h1, h2, h3, h4, h5, h6, h7⟩ := invS_sda h
    exact ps_sda g h0 h1 h2 h3 h4 h5 h6 h7
  | .dlc i ek tg it own, c, X, x, g, hk, h => by
    obtain ⟨n, q, y, q2, t, ii, kk, scope, p1, p, rfl, rfl, h0, hi, hb, ht, ho, f1, hek⟩ := invS_dlc h
    exact ps_dlc g h0 hi hb ht ho f1 hek
  | .dla i ek ev, c, X, x, g, hk, h => by
    obtain ⟨n, q, y, q2, m, ap, v, cp, p, rfl, rfl, h1, h2, h3, h4, h5, h6, h7⟩ := invS_dla h
    exact ps_dla g h1 h2 h3 h4 h5 h6 h7
  | .aug i e, c, X, x, g, hk, h => by
    obtain ⟨n, q, v, p, rfl, h1, h2⟩ := invS_aug h
    exact ps_augI g h1 h2
  | .exp e, c, X, x, g, hk, h => by
    obtain ⟨v, p, rfl, h1, h2, h3, h4⟩ := invS_exp h
    refine PS.imp (ps_expr (lf_st (mE G e) (firm_md h1) (sE e g h4)) (sw_no h3 _ _ _)) fun D σ H ⟨bx, I0, H0, ρ, I, s, w⟩ => ?_
    simp only [wpS] at w
    exact ⟨bx, I0, H0, ρ, I, s, wpE_mono e (fun d w v I1 H1 g1 dv => w _ I1 H1 (g1.sub s.hv) (s.grow g1)) w⟩
  | .ret e, c, X, x, g, hk, h => by
    rcases invS_ret h with ⟨v, p, rfl, h1, h2⟩ | ⟨p, rfl, rfl⟩
    · refine PS.imp (ps_ret (lf_st (mE G e) (firm_md h1) (sE e g h2))) fun D σ H ⟨bx, I0, H0, ρ, I, s, w⟩ => ?_
      simp only [wpS] at w
      exact ⟨bx, I0, H0, ρ, I, s, wpE_mono e (fun d w v I1 H1 g1 dv => w _ I1 H1 (s.gw.trans g1) dv) w⟩
    · refine PS.imp ps_retN fun D σ H ⟨bx, I0, H0, ρ, I, s, w⟩ => ?_
      simp only [wpS, wpE] at w
      exact w _ I H s.gw .non
  | .ife t a b, c, X, x, g, hk, h => by
    obtain ⟨l, y, z, p, rfl, h1, h2, h3⟩ := invS_ife h
    refine PS.imp (ps_if (sT t g h1) (sSs a g hk h2) (sSs b g hk h3)) fun D σ H ⟨bx, I0, H0, ρ, I, s, w⟩ => ?_
    simp only [wpS] at w
    refine ⟨bx, I0, H0, ρ, I, s, wpT_mono t (fun kk w I1 H1 g1 => ?_) w⟩
    cases kk with
    | true => exact ⟨bx, I0, H0, ρ, I1, s.grow g1, wpSs_mono a (kn_le (g1.sub s.hv)) w⟩
    | false => exact ⟨bx, I0, H0, ρ, I1, s.grow g1, wpSs_mono b (kn_le (g1.sub s.hv)) w⟩
  | .for_ tg it b, c, X, x, g, hk, h => by
    obtain ⟨t, i, body, p, rfl, h1, h2, h3⟩ := invS_for h
    have hp : PassesOwn (model X.prog X.w) X.A X.env X.xe := by rw [g.xe]; exact PassesOwn.never
    refine PS.imp (ps_for hp g.calm (sI it g h1) (pg_tg g h2) (sSs b g hk h3) (folded_plain (chkI_plain h1) X.env)) fun D σ H ⟨bx, I0, H0, ρ, I, s, w⟩ => ?_
    simp only [wpS] at w
    refine ⟨bx, I0, H0, ρ, I, s, wpI_mono it (fun ds w J I1 H1 g1 wk => ?_) w⟩
    have sb1 : Sub I I1 := g1.sub s.hv
    refine ⟨fun i m σ H => m = ds.length - i ∧ i ≤ ds.length ∧ ∃ ρ' I', SA X.K T bx I0 H0 ρ' σ I' H ∧ Sub I1 I' ∧ wpFor tg (wpSs G b) (ds.drop i) ρ' (kn X.K T bx I0 H0 I D), ⟨ds.length, by simp, Nat.zero_le _, ρ, I1, s.grow g1, fun _ _ e => e, by simpa using w⟩, ?_⟩
    rintro i m σ' H' ⟨rfl, hi, ρ', I', s', sb', w'⟩
    by_cases hlt : i < ds.length
    · have hd : ds[i]? = some ds[i] := List.getElem?_eq_getElem hlt
      obtain ⟨go, yl⟩ := (wk i I' H' sb' s'.hv).1 _ hd
      rw [drop_cons hd] at w'
      refine .inr ⟨go, fun σ2 H2 => ∃ ρ2 I2, SA X.K T bx I0 H0 ρ2 σ2 I2 H2 ∧ Sub I1 I2 ∧ wpFor tg (wpSs G b) (ds.drop (i + 1)) ρ2 (kn X.K T bx I0 H0 I D), fun σ2 H2 n => ⟨ds.length - (i + 1), by omega, rfl, hlt, n⟩, fun x H2 y => ?_⟩
      obtain ⟨I2, g2, dx⟩ := yl x H2 y
      refine asg_ok (tg_ok h1 h2) (s'.grow g2) g2.hv.sub dx w' fun ρ2 σ2 s2 w2 _ => ?_
      have sb2 : Sub I1 I2 := sb'.trans (g2.sub s'.hv)
      exact ⟨bx, I0, H0, ρ2, I2, s2, wpSs_mono b (K := ⟨fun r => wpFor tg (wpSs G b) (ds.drop (i + 1)) r (kn X.K T bx I0 H0 I D), (kn X.K T bx I0 H0 I D).rt, (kn X.K T bx I0 H0 I D).nx, fun r => wpFor tg (wpSs G b) (ds.drop (i + 1)) r (kn X.K T bx I0 H0 I D)⟩) ⟨fun r q σ3 I3 H3 sb3 s3 => ⟨r, I3, s3, sb2.trans sb3, q⟩, fun d q => q, fun r q σ3 I3 H3 sb3 s3 => q σ3 I3 H3 (sb1.trans (sb2.trans sb3)) s3, fun r q σ3 I3 H3 sb3 s3 => ⟨r, I3, s3, sb2.trans sb3, q⟩⟩ w2⟩
    · have e : i = ds.length := by omega
      subst e
      rw [List.drop_length] at w'
      exact .inl ⟨(wk _ I' H' sb' s'.hv).2 (Nat.le_refl _), w' σ' I' H' (sb1.trans sb') s'⟩
  | .whl t b, c, X, x, g, hk, h => by
    obtain ⟨l, body, p, rfl, h1, h2⟩ := invS_whl h
    have hp : PassesOwn (model X.prog X.w) X.A X.env X.xe := by rw [g.xe]; exact PassesOwn.never
    refine PS.imp (ps_while hp (sT t g h1) (sSs b g hk h2)) fun D σ H ⟨bx, I0, H0, ρ, I, s, w⟩ => ?_
    simp only [wpS] at w
    obtain ⟨n, w⟩ := w
    refine ⟨fun m σ H => ∃ ρ' I', SA X.K T bx I0 H0 ρ' σ I' H ∧ Sub I I' ∧ wpWhl (wpT G t) (wpSs G b) m ρ' (kn X.K T bx I0 H0 I D), ⟨n, ρ, I, s, fun _ _ e => e, w⟩, ?_⟩
    rintro m σ' H' ⟨ρ', I', s', sb', w'⟩
    cases m with
    | zero => exact w'.elim
    | succ m =>
      refine ⟨bx, I0, H0, ρ', I', s', wpT_mono t (fun kk w I2 H2 g2 => ?_) w'⟩
      have sb2 : Sub I I2 := sb'.trans (g2.sub s'.hv)
      cases kk with
      | false => exact w σ' I2 H2 sb2 (s'.grow g2)
      | true =>
        refine ⟨fun σ3 H3 => ∃ ρ3 I3, SA X.K T bx I0 H0 ρ3 σ3 I3 H3 ∧ Sub I I3 ∧ wpWhl (wpT G t) (wpSs G b) m ρ3 (kn X.K T bx I0 H0 I D), fun σ3 H3 n => ⟨m, Nat.lt_succ_self _, n⟩, ?_⟩
        exact ⟨bx, I0, H0, ρ', I2, s'.grow g2, wpSs_mono b (K := ⟨fun r => wpWhl (wpT G t) (wpSs G b) m r (kn X.K T bx I0 H0 I D), (kn X.K T bx I0 H0 I D).rt, (kn X.K T bx I0 H0 I D).nx, fun r => wpWhl (wpT G t) (wpSs G b) m r (kn X.K T bx I0 H0 I D)⟩) ⟨fun r q σ3 I3 H3 sb3 s3 => ⟨r, I3, s3, sb2.trans sb3, q⟩, fun d q => q, fun r q σ3 I3 H3 sb3 s3 => q σ3 I3 H3 (sb2.trans sb3) s3, fun r q σ3 I3 H3 sb3 s3 => ⟨r, I3, s3, sb2.trans sb3, q⟩⟩ w⟩
  | .brk, c, X, x, g, hk, h => by
    cases x <;> simp only [chkS] at h <;> try (cases h; done)
    refine PS.imp ps_break fun D σ H ⟨bx, I0, H0, ρ, I, s, w⟩ => ?_
    simp only [wpS] at w
    exact w σ I H (fun _ _ e => e) s
  | .cnt, c, X, x, g, hk, h => by
    cases x <;> simp only [chkS] at h <;> try (cases h; done)
    refine PS.imp ps_continue fun D σ H ⟨bx, I0, H0, ρ, I, s, w⟩ => ?_
    simp only [wpS] at w
    exact w σ I H (fun _ _ e => e) s
  | .nev, c, X, x, g, hk, h => PS.imp ps_never fun D σ H ⟨bx, I0, H0, ρ, I, s, w⟩ => by
    simp only [wpS] at w
theorem sSs : ∀ (st : Sxs) {c : Ck} {X : Cx} {xs : List Stmt}, Gd T G k c X → c.sc.kind = .function → chkSs c st xs = true → PSs X xs (lfS X.K T (wpSs G st))
  | .nil, c, X, [], g, hk, h => PSs.imp pss_nil fun D σ H ⟨bx, I0, H0, ρ, I, s, w⟩ => by
    simp only [wpSs] at w
    exact w σ I H (fun _ _ e => e) s
  | .nil, c, X, _ :: _, g, hk, h => by simp [chkSs] at h
  | .cons _ _, c, X, [], g, hk, h => by simp [chkSs] at h
  | .cons st r, c, X, x :: xs, g, hk, h => by
    simp only [chkSs, Bool.and_eq_true] at h
    refine PSs.imp (pss_cons (sS st g hk h.1) (sSs r g hk h.2)) fun D σ H ⟨bx, I0, H0, ρ, I, s, w⟩ => ?_
    simp only [wpSs] at w
    exact ⟨bx, I0, H0, ρ, I, s, wpS_mono st (K := ⟨fun ρ' => wpSs G r ρ' (kn X.K T bx I0 H0 I D), (kn X.K T bx I0 H0 I D).rt, (kn X.K T bx I0 H0 I D).bk, (kn X.K T bx I0 H0 I D).ct⟩) ⟨fun ρ' q σ' I' H' sb s' => ⟨bx, I0, H0, ρ', I', s', wpSs_mono r (kn_le sb) q⟩, fun d q => q, fun ρ' q => q, fun ρ' q => q⟩ w⟩
  | .frz i r, c, X, xs, g, hk, h => by
    simp only [chkSs] at h
    refine PSs.imp (sSs r g hk h) fun D σ H ⟨bx, I0, H0, ρ, I, s, w⟩ => ?_
    simp only [wpSs] at w
    obtain ⟨I', s', sb⟩ := s.frz' (i := i)
    exact ⟨bx, I0, H0, _, I', s', wpSs_mono r (kn_le sb) w⟩
  | .dlz i r, c, X, xs, g, hk, h => by
    simp only [chkSs] at h
    refine PSs.imp (sSs r g hk h) fun D σ H ⟨bx, I0, H0, ρ, I, s, w⟩ => ?_
    simp only [wpSs] at w
    split at w
    · rename_i eo
      obtain ⟨nd, w⟩ := w
      obtain ⟨a, u, e1, h0, i1, ha, fo, np⟩ := s.dic eo
      cases fo with
      | dic n q => cases q; exact absurd rfl n
      | dcn q =>
        cases q
        refine ⟨bx, I0, H0, _, I, s.setDl (fp := []) (fun j kvs' _ ej => ?_) rfl (fun j _ => rfl) (fun _ => e1) h0 i1 ha np (fun z => nomatch z) .nil (fun j t d b ne e m e2 => ⟨fun z => ?_, fun z => nomatch z⟩), w⟩
        · have := List.all_eq_true.mp nd _ (List.mem_of_getElem? ej)
          simp [isDol] at this
        · subst z
          exact s.dj j i t _ d _ ne e (getD_sl eo (fun z => nomatch z)) m rfl (e2.trans e1.symm)
    · exact w.elim
  | .al2 i j ek ev r, c, X, [], g, hk, h => by simp [chkSs] at h
  | .al2 i j ek ev r, c, X, [_], g, hk, h => by simp [chkSs] at h
  | .al2 i j ek ev r, c, X, x :: y :: xs, g, hk, h => by
    simp only [chkSs, Bool.and_eq_true] at h
    exact ps_al2 g h.1 (sSs r g hk h.2)
end
end
end Ef

end

section
set_option autoImplicit false
namespace Ef
open PySem L2 PySem.Spec PyProof.Rows
/-! ### a def keeps its contract -/
def rho0 (N : List Str) (as : List Sl) : Rho := as ++ List.replicate (N.length - as.length) .un
def kDef (Q : PyData → Prop) : Kn := ⟨fun _ => Q .none, Q, fun _ => False, fun _ => False⟩
theorem ar_get {K : PySem.W.Frag} {bx : Bx} {H0 I H : Hp} : ∀ {vs : List V} {as : List Sl}, ArAll K bx I vs as → ∀ (i : Nat) (s : Sl), as[i]? = some s → SlOk K bx H0 I H s (vs.map some)[i]? ∧ (∀ ds, s ≠ .own ds) ∧ (∀ kvs, s ≠ .dic kvs) ∧ ∀ kvs, s ≠ .dol kvs
  | _, _, .nil, i, s, e => by simp at e
  | _, _, .dat h q, 0, s, e => by simp at e; subst e; exact ⟨⟨_, rfl, h⟩, (fun _ z => nomatch z), (fun _ z => nomatch z), (fun _ z => nomatch z)⟩
  | _, _, .box h q, 0, s, e => by simp at e; subst e; exact ⟨⟨_, _, h, rfl⟩, (fun _ z => nomatch z), (fun _ z => nomatch z), (fun _ z => nomatch z)⟩
  | _, _, .dat h q, i + 1, s, e => by
    obtain ⟨h1, h2⟩ := ar_get (H0 := H0) (H := H) q i s (by simpa using e)
    exact ⟨by simpa using h1, h2⟩
  | _, _, .box h q, i + 1, s, e => by
    obtain ⟨h1, h2⟩ := ar_get (H0 := H0) (H := H) q i s (by simpa using e)
    exact ⟨by simpa using h1, h2⟩
theorem dlNo {K : PySem.W.Frag} {bx : Bx} {H0 I H : Hp} {ρ : Rho} {σ : L2.St} {as : List Addr} (h : noDol ρ = true) : DlOk K bx H0 ρ σ I H as := fun i kvs e => by
  have := List.all_eq_true.mp h _ (List.mem_of_getElem? e)
  simp [isDol] at this
theorem sa_start {K : PySem.W.Frag} {T : BoxT} {bx : Bx} {I H : Hp} {N : List Str} {vs : List V} {as : List Sl} (hv : Hv T bx I H) (ar : ArAll K bx I vs as) : SA K T bx I H (rho0 N as) (start N vs) I H := by
  have hl := ar.length
  have key : ∀ (i : Nat) (s : Sl), (rho0 N as)[i]? = some s → (i < as.length ∧ as[i]? = some s) ∨ s = .un := fun i s e => by
    unfold rho0 at e
    by_cases hi : i < as.length
    · rw [List.getElem?_append_left hi] at e; exact .inl ⟨hi, e⟩
    · rw [List.getElem?_append_right (by omega), List.getElem?_replicate] at e
      split at e
      · cases e; exact .inr rfl
      · cases e
  refine ⟨Gw.refl hv, by simp [rho0, L2.start, hl], fun i s e => ?_, fun i j s1 s2 d1 d2 hij e1 e2 m1 m2 => ?_, fun i kvs e => ?_⟩
  · rcases key i s e with ⟨hi, e⟩ | rfl
    · have : (start N vs)[i]? = (vs.map some)[i]? := by
        unfold L2.start
        rw [List.getElem?_append_left (by simpa [hl] using hi)]
      rw [this]
      exact (ar_get ar i s e).1
    · trivial
  · rcases key i _ e1 with ⟨hi, e⟩ | z
    · have := (ar_get (H0 := H) (H := H) ar i _ e).2
      cases s1 <;> simp only [mutS] at m1 <;> cases m1
      · exact absurd rfl (this.1 _)
      · exact absurd rfl (this.2.1 _)
    · subst z; cases m1
  · rcases key i _ e with ⟨hi, e⟩ | z
    · exact absurd rfl ((ar_get (H0 := H) (H := H) ar i _ e).2.2.2 kvs)
    · cases z
section
variable {P : Program} {w : World} {K : PySem.W.Frag} {mg : Str → Option Value} {base : Heap} {T : BoxT} {G : Gm} {k : Nat}
/-- what holds of the module -/
structure Md0 (P : Program) (w : World) (K : PySem.W.Frag) (mg : Str → Option Value) (base : Heap) (T : BoxT) (G : Gm) (k : Nat) : Prop where
  con : ∀ f d, G.con f = some d → Cal P w K mg base T k (Str.ofString f) d
  glb : ∀ x d, G.glb x = some d → ∃ u v, mg (Str.ofString x) = some u ∧ RelV v u ∧ ∀ I, Dq K I v d
  kc : ∀ f d d0 kw, G.kc f = some (d, d0, kw) → Kal P w K mg base T k (Str.ofString f) d d0 (Str.ofString kw)
  blt : ∀ x ∈ bltNames, mg (Str.ofString x) = none
theorem fn_G {x qual : Str} {params : Arguments} {body : List Stmt} {scope : Scope} {f : Addr} {fd : FuncData} {N ps : List Str} {dvs : List V} {kws : List (Str × V)} {ir : Sxs} {c : Con} (F : FunD K x qual params body scope dvs kws f fd) (S : FnScope N ps scope) (M : Md0 P w K mg base T G k)
    (hc : chkSs ⟨N, scope, scope⟩ ir body = true) (len : ∀ a as, c.pre a as → as.length = ps.length) (hw : ∀ a as, c.pre a as → wpSs G ir (rho0 N as) (kDef (c.post a))) : FnG P w K mg base T (k + 1) f fd ps c := by
  obtain ⟨oc, od, dV, kV, doc, pm, an, cdv, ct, osl, rfl, lk, hcd, _, _⟩ := F.ex
  refine ⟨len, fun A outer s H I bx args us vs as gh hr hg e0 hb r hv ar pre => ?_⟩
  have hl : vs.length = ps.length := by rw [ar.length]; exact len gh as pre
  have KX : K.In s.heap := e0.mod.kin.keeps fun b o e => (e0.bs b o e).1
  have lim : s.heap.NoLimit := e0.mod.nolimit.keeps fun b o e => (e0.bs b o e).1
  refine codeAny_call_function hr.depth (KX _ _ lk) rfl S.co S.gen rfl (PySem.W.codeRec_of KX hcd) (hb _ _ _ _ ?_)
  refine wpAny_newFunctionEnv_cells S.kind (fun y hy => ?_) fun env he s1 st => ?_
  · obtain ⟨n, v⟩ := y
    rcases S.par n (List.of_mem_zip hy).1 with q | q
    · exact .inl q
    · exact .inr ⟨q, PySem.W.cellsFrom_some _ _ _ (.inl q)⟩
  · subst he
    refine ⟨lim.keeps st.toInCall.keep, codeAny_func ?_⟩
    have IV := inv_start (CX := L2.CX0) (E := L2.E0) S hr.hd e0 hl r st
    have gd : Gd T G k ⟨N, scope, scope⟩ (cxOf L2.CX0 P w K mg base N qual scope f cdv A outer s H L2.E0).nox :=
      ⟨rfl, S.nd, rfl, rfl, hr.deeper _, hg, rfl, fun _ _ => rfl, M.con, M.glb, M.kc, M.blt⟩
    have hs := PSs.nox (sSs ir gd S.kind hc)
    have hq : lfS K T (wpSs G ir) { nx := fun _ H' => ∃ I' d, Gw T bx I H I' H' ∧ Dq K I' .non d ∧ c.post gh d, rt := fun v H' => ∃ I' d, Gw T bx I H I' H' ∧ Dq K I' v d ∧ c.post gh d } (start N vs) H :=
      ⟨bx, I, H, rho0 N as, I, sa_start hv ar, wpSs_mono ir (K := kDef (c.post gh)) ⟨fun ρ q σ I' H' _ sa => ⟨I', .none, sa.gw, .non, q⟩, fun d q v I' H' g dq => ⟨I', d, g, dq, q⟩, fun ρ q => q.elim, fun ρ q => q.elim⟩ (hw gh as pre)⟩
    refine wpAny_mono (hs.run [] s1 (start N vs) H _ IV hq) (fun fl s' hh => ?_) fun e s' hh => hh
    cases fl with
    | ret u =>
      obtain ⟨v, σ', H', J, rv, q⟩ := hh
      exact ⟨v, H', J.os, J.bare, J.base, J.hok, rv, q⟩
    | next =>
      obtain ⟨σ', H', J, q⟩ := hh
      exact ⟨.non, H', J.os, J.bare, J.base, J.hok, rfl, q⟩
    | brk =>
      obtain ⟨_, _, _, q⟩ := hh
      exact False.elim q
    | cont =>
      obtain ⟨_, _, _, q⟩ := hh
      exact False.elim q
theorem Kal.mono {x kw : Str} {c : Con} {d0 : PyData} {j : Nat} (h : Kal P w K mg base T j x c d0 kw) (hjk : j ≤ k) : Kal P w K mg base T k x c d0 kw := by
  obtain ⟨f, fd, ps, n, a, b, F, d⟩ := h.ex
  exact ⟨f, fd, ps, n, a, b, F.mono hjk, d⟩
/-- one more contract -/
theorem Cal.mono {x : Str} {c : Con} {j : Nat} (h : Cal P w K mg base T j x c) (hjk : j ≤ k) : Cal P w K mg base T k x c := by
  obtain ⟨f, fd, ps, a, b, d, F⟩ := h.ex
  exact ⟨f, fd, ps, a, b, d, F.mono hjk⟩
end
end Ef

end

section
set_option autoImplicit false
namespace Ef
open PySem L2 PySem.Spec PyProof.Rows
/-! ### a def and any promise (where no guard stands) -/
abbrev Pr := List V → Hp → VK → Prop
structure FnR (P : Program) (w : World) (K : PySem.W.Frag) (mg : Str → Option Value) (base : Heap) (k : Nat) (f : Addr) (fd : FuncData) (ps : List Str) (sp : Pr) : Prop where
  len : ∀ vs H Q, sp vs H Q → vs.length = ps.length
  run : ∀ (A : Around) (outer : List Env) (s : Shared) (H : Hp) (args : Args) (us : List Value) (vs : List V) (Q : VK), Room k A → A.guards = some [] → Env0 P w K mg base A outer s H → BindsTo s fd args (ps.zip us) → Vals vs us → sp vs H Q →
    codeAny (model P w) A (.call (.ref f) args) (CR L2.CX0 outer P w H s Q L2.E0) s
section
variable {P : Program} {w : World} {K : PySem.W.Frag} {mg : Str → Option Value} {base : Heap} {T : BoxT} {G : Gm} {k : Nat}
theorem fn_R {x qual : Str} {params : Arguments} {body : List Stmt} {scope : Scope} {f : Addr} {fd : FuncData} {N ps : List Str} {dvs : List V} {kws : List (Str × V)} {sp : Pr} (F : FunD K x qual params body scope dvs kws f fd) (S : FnScope N ps scope) (len : ∀ vs H Q, sp vs H Q → vs.length = ps.length)
    (hb : ∀ (cdv : Value) (A : Around) (outer : List Env) (s : Shared) (H : Hp) (vs : List V) (Q : VK), Room k (A.deeper (envOfC qual scope s.heap.objs.size f cdv)) → A.guards = some [] → sp vs H Q →
      ∃ t, PSs (cxOf L2.CX0 P w K mg base N qual scope f cdv A outer s H L2.E0).nox body t ∧ t { nx := fun _ H' => Q .non H', rt := Q } (start N vs) H) : FnR P w K mg base (k + 1) f fd ps sp := by
  obtain ⟨oc, od, dV, kV, doc, pm, an, cdv, ct, osl, rfl, lk, hcd, _, _⟩ := F.ex
  refine ⟨len, fun A outer s H args us vs Q hr hg e0 hbi r pre => ?_⟩
  have hl : vs.length = ps.length := len vs H Q pre
  have KX : K.In s.heap := e0.mod.kin.keeps fun b o e => (e0.bs b o e).1
  have lim : s.heap.NoLimit := e0.mod.nolimit.keeps fun b o e => (e0.bs b o e).1
  refine codeAny_call_function hr.depth (KX _ _ lk) rfl S.co S.gen rfl (PySem.W.codeRec_of KX hcd) (hbi _ _ _ _ ?_)
  refine wpAny_newFunctionEnv_cells S.kind (fun y hy => ?_) fun env he s1 st => ?_
  · obtain ⟨n, v⟩ := y
    rcases S.par n (List.of_mem_zip hy).1 with q | q
    · exact .inl q
    · exact .inr ⟨q, PySem.W.cellsFrom_some _ _ _ (.inl q)⟩
  · subst he
    refine ⟨lim.keeps st.toInCall.keep, codeAny_func ?_⟩
    have IV := inv_start (CX := L2.CX0) (E := L2.E0) S hr.hd e0 hl r st
    obtain ⟨t, hs, hq⟩ := hb cdv A outer s H vs Q (hr.deeper _) hg pre
    refine wpAny_mono ((PSs.nox hs).run [] s1 (start N vs) H _ IV hq) (fun fl s' hh => ?_) fun e s' hh => hh
    cases fl with
    | ret u =>
      obtain ⟨v, σ', H', J, rv, q⟩ := hh
      exact ⟨v, H', J.os, J.bare, J.base, J.hok, rv, q⟩
    | next =>
      obtain ⟨σ', H', J, q⟩ := hh
      exact ⟨.non, H', J.os, J.bare, J.base, J.hok, rfl, q⟩
    | brk =>
      obtain ⟨_, _, _, q⟩ := hh
      exact False.elim q
    | cont =>
      obtain ⟨_, _, _, q⟩ := hh
      exact False.elim q
theorem FnR.mono {j : Nat} {f : Addr} {fd : FuncData} {ps : List Str} {sp : Pr} (F : FnR P w K mg base j f fd ps sp) (h : j ≤ k) : FnR P w K mg base k f fd ps sp :=
  ⟨F.len, fun A outer s H args us vs Q hr => F.run A outer s H args us vs Q (hr.mono h)⟩
/-- a contract as a promise -/
def spG (K : PySem.W.Frag) (T : BoxT) (c : Con) : Pr := fun vs H Q => ∃ bx I as a, Hv T bx I H ∧ ArAll K bx I vs as ∧ c.pre a as ∧ ∀ v I' H' d, Gw T bx I H I' H' → Dq K I' v d → c.post a d → Q v H'
theorem FnR.toG {f : Addr} {fd : FuncData} {ps : List Str} {c : Con} (F : FnR P w K mg base k f fd ps (spG K T c)) (len : ∀ a as, c.pre a as → as.length = ps.length) : FnG P w K mg base T k f fd ps c :=
  ⟨len, fun A outer s H I bx args us vs as gh hr hg e0 hb r hv ar pre => F.run A outer s H args us vs _ hr hg e0 hb r ⟨bx, I, as, gh, hv, ar, pre, fun v I' H' d g q p => ⟨I', d, g, q, p⟩⟩⟩
end
section
variable {X : Cx} {T : BoxT} {G : Gm} {k : Nat} {c : Ck}
def tCR (sp : Pr) (t : TA) : TE := fun σ H Q => t σ H fun vs H1 => sp vs H1 Q
theorem pe_R {f : Addr} {fd : FuncData} {ps : List Str} {sp : Pr} {x : Str} {p pos : Pos} {e : Expr} {es : List Expr} {t : TA} (F : FnR X.prog X.w X.K X.mg X.base k f fd ps sp) (hr : Room k X.A) (hgu : X.A.guards = some []) (hg : Gl X x) (hm : X.mg x = some (.ref f)) (hk : PySem.W.keepIn X.K (.ref f) = true)
    (hb : Binds X.K fd ps []) (ha : PA X (e :: es) t) (hpl : plainAll (e :: es) = true) (hdb : (x == ("__debug__" : Str)) = false) : PE X (.Call (.Name x p) (e :: es) [] pos) (tCR sp t) := by
  refine ⟨fun pins s σ H Q I h => ?_⟩
  refine wpAny_Call_Name_kw (ld_glob I hg hm ?_ hdb)
  have h1 : plainE e = true ∧ plainAll es = true := by simpa [plainAll] using hpl
  refine PySem.W.callWith_K (h₀ := X.base) I.ok.mod.kin hk (thn (ha.run pos pins s σ H _ I h) fun us s1 ⟨vs, H1, I1, r, q⟩ => ⟨I1.kIn, ?_⟩) (star_plain h1.1 es X.env) (stars_plain pos X.env es h1.2)
  have hl : us.length = ps.length := by rw [← F.len vs H1 Q q, r.length]
  have hb2 := hb s1 us I1.kIn (by simpa using hl)
  rw [List.append_nil] at hb2
  refine wpAny_call (codeAny_mono (F.run X.A X.stack s1 H1 ⟨us, []⟩ us vs Q hr hgu I1.env0 hb2 r q) fun z s' hz => ?_)
  cases z with
  | error e => exact (show False from hz).elim
  | ok fl =>
    cases fl with
    | ret u =>
      obtain ⟨v, H', h1, h2, h3, h4, h5, hq⟩ := hz
      exact I1.after ⟨v, H', h1, h2, h3, h4, h5, hq⟩
    | next => exact False.elim hz
    | brk => exact False.elim hz
    | cont => exact False.elim hz
end
/-! ### the law at its caller -/
section
variable {P : Program} {w : World} {K : PySem.W.Frag} {mg mb : Str → Option Value} {k : Nat} {fa a : Addr} {fd : FuncData} {x : Str} {sp : Pr} {s : Shared} {vs : List Value} {ns : List Int}
def doneT (s : Shared) : Except Value Flow → Shared → Prop := fun r s' => r = .ok (.ret (.bool true)) ∧ OldK s.heap s'.heap ∧ s'.os = s.os ∧ AllBare s'.gens
theorem law_at (H : Hp) (KX : K.In s.heap) (gl : s.heap.Ns mainGlobals mg) (bl : s.heap.Ns builtinsNs mb) (bb : ∀ z : Str, z ≠ "__name__" → mb z = bootBuiltins z) (nl : s.heap.NoLimit) (ge : s.gens = #[])
    (ha : s.heap.get? a = some { cls := .type "list", data := .seq vs.toArray }) (hr : Room k callerA) (F : ∀ bs : Heap, FnR P w K mg bs k fa fd [x] sp) (bind : ∀ (s : Shared) (u : Value), BindsTo s fd ⟨[u], []⟩ [(x, u)])
    (only : Only H) (hok : HOk P w H s.heap) (solo : ∀ b, H b ≠ none → b = a ∧ K.lookup a = none) (pro : sp [.ref a] H fun v _ => v = .bl true) : codeAny (model P w) callerA (.call (.ref fa) ⟨[.ref a], []⟩) (doneT s) s := by
  have out : ∀ {b : Addr} {o : Obj}, s.heap.get? b = some o → (∀ es ep, o.data = .dict es ep → H b = none) := fun {b o} e es ep d => by
    by_cases z : H b = none
    · exact z
    · obtain ⟨rfl, _⟩ := solo b z
      rw [ha] at e
      cases e
      cases (show Data.seq vs.toArray _ = Data.dict es ep from d)
  have nsB : ∀ {b : Addr} {m : Str → Option Value}, s.heap.Ns b m → (hidT s.heap H).Ns b m := fun {b m} z => by
    obtain ⟨o, es, ep, e, d, r⟩ := z
    exact ⟨o, es, ep, hidT_get e (out e es ep d), d, r⟩
  have inB : K.In (hidT s.heap H) := fun b o e => by
    refine hidT_get (KX b o e) ?_
    by_cases z : H b = none
    · exact z
    · obtain ⟨rfl, n⟩ := solo b z
      rw [n] at e; cases e
  have e0 : Env0 P w K mg (hidT s.heap H) callerA [] s H := by
    refine ⟨rfl, ⟨inB, nsB gl, ⟨mb, nsB bl, bb⟩, ?_⟩, fun b o e => of_hidT e, Nat.le_of_eq (hidT_size _ _), trivial, fun b z => ?_, hok, .of_eq ge⟩
    · obtain ⟨mc, h1, h2⟩ := nl
      exact ⟨mc, nsB h1, h2⟩
    · exact absurd (show b ∈ ([] : List Addr) from z) List.not_mem_nil
  refine codeAny_mono ((F _).run callerA [] s H ⟨[.ref a], []⟩ [.ref a] [.ref a] _ hr rfl e0 (bind s (.ref a)) (.cons rfl .nil) pro) fun r s' h => ?_
  cases r with
  | error e => exact (show False from h).elim
  | ok fl =>
    cases fl with
    | next => exact False.elim h
    | brk => exact False.elim h
    | cont => exact False.elim h
    | ret u =>
      obtain ⟨v, H', os, bare, un, hok', r', q⟩ := h
      cases (show v = .bl true from q)
      cases (show u = Value.bool true from r')
      refine ⟨rfl, OldK.of_keep fun b o e => ?_, os, bare⟩
      rcases only b with z | ⟨ob, xs, z⟩
      · exact un.keep b o e z (fun y => absurd (show b ∈ ([] : List Addr) from y) List.not_mem_nil) (by simp)
      · obtain ⟨e1, _⟩ := hok b _ z
        obtain ⟨e2, _⟩ := hok' b _ (un.frzs b ob _ z)
        rw [e] at e1
        cases e1
        exact e2
theorem law_run (KX : K.In s.heap) (gl : s.heap.Ns mainGlobals mg) (bl : s.heap.Ns builtinsNs mb) (bb : ∀ z : Str, z ≠ "__name__" → mb z = bootBuiltins z) (nl : s.heap.NoLimit) (ge : s.gens = #[])
    (ha : s.heap.get? a = some { cls := .type "list", data := .seq vs.toArray }) (hi : IntsAre vs ns) (hn : ns.length ≤ sizeLine) (hr : Room k callerA) (F : ∀ bs : Heap, FnR P w K mg bs k fa fd [x] sp) (bind : ∀ (s : Shared) (u : Value), BindsTo s fd ⟨[u], []⟩ [(x, u)])
    (pro : ∀ H, Only H → SqL K H a (ns.map V.int) → sp [.ref a] H fun v _ => v = .bl true) : codeAny (model P w) callerA (.call (.ref fa) ⟨[.ref a], []⟩) (doneT s) s := by
  have rv := vals_ints hi
  cases hk : K.lookup a with
  | some o =>
    have e := (KX a o hk).symm.trans ha
    cases e
    have on : Only fun _ => none := fun _ => .inl rfl
    refine law_at (fun _ => none) KX gl bl bb nl ge ha hr F bind on (fun b u z => nomatch z) (fun b z => absurd rfl z) (pro _ on (.inr ⟨_, vs.toArray, _, hk, rfl, rfl, rfl, ?_, rv⟩))
    rw [List.size_toArray, hi.length]; exact hn
  | none =>
    let o : Obj := { cls := .type "list", data := .seq vs.toArray }
    let H : Hp := fun b => if b = a then some (.frz o (.lst (ns.map V.int))) else none
    have hH : ∀ b u, H b = some u → b = a ∧ u = .frz o (.lst (ns.map V.int)) := fun b u z => by
      by_cases y : b = a
      · exact ⟨y, (Option.some.inj ((if_pos y).symm.trans z)).symm⟩
      · cases (if_neg y).symm.trans z
    have on : Only H := fun b => by
      by_cases y : b = a
      · exact .inr ⟨o, _, if_pos y⟩
      · exact .inl (if_neg y)
    refine law_at H KX gl bl bb nl ge ha hr F bind on (fun b u z => ?_) (fun b z => ⟨?_, hk⟩) (pro H on (.inl (.inr ⟨o, if_pos rfl⟩)))
    · obtain ⟨rfl, rfl⟩ := hH b u z
      exact ⟨ha, by rw [List.length_map]; exact hn, vs, _, rv, ha⟩
    · by_cases y : b = a
      · exact y
      · exact absurd (if_neg y) z
end
theorem walk_R {l : PySem.W.OpenLaw} {n k : Nat} {q : Program} {loose : List Str} {XP : (Str → Option Value) → Heap → Prop} {YP : World → Heap → Prop} {d : DefRec} {x : Str} (hn : l.most = some n) (hn2 : n ≤ sizeLine) (hdf : d.params.defaults = []) (hr : Room k callerA)
    (F : ∀ (w : World) (mg : Str → Option Value) (fa : Addr) (h : Heap), YP w h → h.Ns mainGlobals mg → mg d.name = some (.ref fa) → ∃ (K : PySem.W.Frag) (fd : FuncData) (sp : Pr), K.In h ∧ (∀ (s : Shared) (u : Value), BindsTo s fd ⟨[u], []⟩ [(x, u)]) ∧
      (∀ (H : Hp) (a : Addr) (ns : List Int), ns.length ≤ n → Only H → SqL K H a (ns.map V.int) → sp [.ref a] H fun v _ => v = .bl true) ∧ ∀ bs : Heap, FnR l.prog w K mg bs k fa fd [x] sp) : PySem.W.WalkO q loose XP YP l.row.toRowW d [] (fun f vs => PySem.call f vs) := by
  refine Att.attach_call hn hdf fun w s₀ s mg mb fa o pm cd doc a vs ns g Y ho hd hcd hmg hobj hints hlen hg => ?_
  obtain ⟨K, fd, sp, KX, hb, hsp, hF⟩ := F w mg fa _ Y g.T.g hmg
  exact law_run KX g.T.g g.T.b g.T.builtins g.T.nolimit hg hobj hints (Nat.le_trans hlen hn2) hr hF hb fun H hO hS => hsp H a ns hlen hO hS
end Ef

end

section
set_option autoImplicit false
namespace Ef
open PySem L2 PySem.Spec PyProof.Rows
/-! ### the drawing box: a dict of two lists and a count -/
def dK3 (g s : Addr) (t : Int) : HO := .dK [(.inr "great", .ref g), (.inr "small", .ref s), (.inr "turn", .int t)]
def hereD (a : Addr) (fp : List Addr) (H : Hp) : Prop := ∃ (g s : Addr) (t : Int) (gs ss : List Int), fp = [a, g, s] ∧ (a ≠ g ∧ a ≠ s ∧ g ≠ s) ∧ H a = some (dK3 g s t) ∧ H g = some (.lst (gs.map V.int)) ∧ H s = some (.lst (ss.map V.int)) ∧ ss ≠ [] ∧ gs.length ≤ 64
def BoxD : BoxT where
  here := hereD
  frame := fun {a fp H H'} h q => by
    obtain ⟨g, s, t, gs, ss, rfl, n, h1, h2, h3, h4⟩ := q
    exact ⟨g, s, t, gs, ss, rfl, n, by rw [h a (by simp)]; exact h1, by rw [h g (by simp)]; exact h2, by rw [h s (by simp)]; exact h3, h4⟩
  has := fun {a fp H} q b hb => by
    obtain ⟨g, s, t, gs, ss, rfl, n, h1, h2, h3, h4⟩ := q
    simp only [List.mem_cons, List.not_mem_nil, or_false] at hb
    rcases hb with rfl | rfl | rfl
    · exact ⟨_, h1⟩
    · exact ⟨_, h2⟩
    · exact ⟨_, h3⟩
def conDraw : Con := ⟨Int, fun n as => as = [.box, .dat (.int n)] ∧ 0 < n ∧ n < 2 ^ 64, fun n r => ∃ i : Int, r = .int i ∧ 0 ≤ i ∧ i < n⟩
def scD : Scope := { kind := .function, names := [("_law_box", .local), ("_law_many", .local), ("_law_great", .local), ("_law_digit", .local), ("_law_cell", .local), ("_law_mixed", .local), ("int", .globalImplicit), ("len", .globalImplicit)], isGenerator := false, isCoroutine := false, more := [] }
def nD : List Str := ["_law_box", "_law_many", "_law_great", "_law_digit", "_law_cell", "_law_mixed"]
def cD : Ck := ⟨nD, scD, scD⟩
def eLast : Ex := .idx (.bor 2) (.neg (.cst (.int 1)))
def iNe : Ex := .cmp .NotEq (.bor 2) (.lst .nil)
def iGt : Ex := .cmp .Gt eLast (.cst (.int 0))
def iDig : Ex := .bin .Mod (.blt .int (.cons eLast .nil)) (.var 1)
def iQuo : Ex := .bin .FloorDiv (.blt .int (.cons eLast .nil)) (.var 1)
def iEnd : Sxs := .cons (.set (.nm 5) (.bin .Mod (.blt .int (.cons (.var 5) .nil)) (.cst (.int 18446744073709551557))))
  (.cons (.set (.nm 5) (.bin .Mod (.blt .int (.cons (.bin .Mult (.var 5) (.bin .Add (.bin .FloorDiv (.var 5) (.cst (.int 4294967296))) (.cst (.int 17)))) .nil)) (.cst (.int 18446744073709551557))))
  (.cons (.ret (.bin .Mod (.blt .int (.cons (.bin .FloorDiv (.var 5) (.cst (.int 65536))) .nil)) (.var 1))) .nil))
def sd1 (p : Nat → Pos) : Stmt := .Assign [(.Name "_law_great" (p 0))] (.Subscript (.Name "_law_box" (p 1)) (.Constant (.str "great") 0 (p 2)) (p 3)) (p 4)
def wNe (p : Nat → Pos) : Expr := .Compare (.Name "_law_great" (p 5)) [.NotEq] [(.List [] (p 6))] (p 7)
def wGt (p : Nat → Pos) : Expr := .Compare (.Subscript (.Name "_law_great" (p 8)) (.UnaryOp .USub (.Constant (.int 1) 0 (p 9)) (p 10)) (p 11)) [.Gt] [(.Constant (.int 0) 0 (p 12))] (p 13)
def wDig (p : Nat → Pos) : Expr := .BinOp (.Call (.Name "int" (p 15)) [(.Subscript (.Name "_law_great" (p 16)) (.UnaryOp .USub (.Constant (.int 1) 0 (p 17)) (p 18)) (p 19))] [] (p 20)) .Mod (.Name "_law_many" (p 21)) (p 22)
def wQuo (p : Nat → Pos) : Expr := .BinOp (.Call (.Name "int" (p 28)) [(.Subscript (.Name "_law_great" (p 29)) (.UnaryOp .USub (.Constant (.int 1) 0 (p 30)) (p 31)) (p 32))] [] (p 33)) .FloorDiv (.Name "_law_many" (p 34)) (p 35)
def sd2 (p : Nat → Pos) : Stmt := .While (wNe p) [.If (wGt p) [.Assign [(.Name "_law_digit" (p 14))] (wDig p) (p 23), .Assign [(.Subscript (.Name "_law_great" (p 24)) (.UnaryOp .USub (.Constant (.int 1) 0 (p 25)) (p 26)) (p 27))] (wQuo p) (p 36), .Return (some (.Name "_law_digit" (p 37))) (p 38)] [] (p 39),
  .Expr (.Call (.Attribute (.Name "_law_great" (p 40)) "pop" (p 41)) [] [] (p 42)) (p 43)] [] (p 44)
def sd3 (p : Nat → Pos) : Stmt := .Assign [(.Subscript (.Name "_law_box" (p 45)) (.Constant (.str "turn") 0 (p 46)) (p 47))] (.BinOp (.Subscript (.Name "_law_box" (p 48)) (.Constant (.str "turn") 0 (p 49)) (p 50)) .Add (.Constant (.int 1) 0 (p 51)) (p 52)) (p 53)
def sd4 (p : Nat → Pos) : Stmt := .Assign [(.Name "_law_cell" (p 54))] (.Subscript (.Subscript (.Name "_law_box" (p 55)) (.Constant (.str "small") 0 (p 56)) (p 57)) (.BinOp (.Call (.Name "int" (p 58)) [(.Subscript (.Name "_law_box" (p 59)) (.Constant (.str "turn") 0 (p 60)) (p 61))] [] (p 62)) .Mod (.Call (.Name "len" (p 63)) [(.Subscript (.Name "_law_box" (p 64)) (.Constant (.str "small") 0 (p 65)) (p 66))] [] (p 67)) (p 68)) (p 69)) (p 70)
def sd5 (p : Nat → Pos) : Stmt := .Assign [(.Name "_law_mixed" (p 71))] (.BinOp (.BinOp (.Name "_law_cell" (p 72)) .Mult (.Constant (.int 6364136223846793005) 0 (p 73)) (p 74)) .Add (.BinOp (.Subscript (.Name "_law_box" (p 75)) (.Constant (.str "turn") 0 (p 76)) (p 77)) .Mult (.Constant (.int 1442695040888963407) 0 (p 78)) (p 79)) (p 80)) (p 81)
def sd6 (p : Nat → Pos) : List Stmt := [.Assign [(.Name "_law_mixed" (p 82))] (.BinOp (.Call (.Name "int" (p 83)) [(.Name "_law_mixed" (p 84))] [] (p 85)) .Mod (.Constant (.int 18446744073709551557) 0 (p 86)) (p 87)) (p 88),
  .Assign [(.Name "_law_mixed" (p 89))] (.BinOp (.Call (.Name "int" (p 90)) [(.BinOp (.Name "_law_mixed" (p 91)) .Mult (.BinOp (.BinOp (.Name "_law_mixed" (p 92)) .FloorDiv (.Constant (.int 4294967296) 0 (p 93)) (p 94)) .Add (.Constant (.int 17) 0 (p 95)) (p 96)) (p 97))] [] (p 98)) .Mod (.Constant (.int 18446744073709551557) 0 (p 99)) (p 100)) (p 101),
  .Return (some (.BinOp (.Call (.Name "int" (p 102)) [(.BinOp (.Name "_law_mixed" (p 103)) .FloorDiv (.Constant (.int 65536) 0 (p 104)) (p 105))] [] (p 106)) .Mod (.Name "_law_many" (p 107)) (p 108))) (p 109)]
def drawBody (p : Nat → Pos) : List Stmt := sd1 p :: sd2 p :: sd3 p :: sd4 p :: sd5 p :: sd6 p
section
variable {X : Cx} {T : BoxT} {G : Gm} {k : Nat} {p : Nat → Pos}
theorem pvar (g : Gd T G k cD X) (i : Nat) {x : Str} {q : Pos} (h : visB cD i x = true) : PE X (.Name x q) (tVar i) := by
  obtain ⟨h1, h2, h3, h4⟩ := g.vis h
  exact pe_var h1 h2 h3 h4
theorem pkey (g : Gd T G k cD X) {x : String} {q1 q2 q3 : Pos} : PE X (.Subscript (.Name "_law_box" q1) (.Constant (.str (Str.ofString x)) 0 q2) q3) (tDGet (tVar 0) (tC (.str (Str.ofString x)))) :=
  pe_dget (by have := g.units; omega) (pvar g 0 rfl) pe_str fun _ _ => rfl
def tT1 : TS := tAsg (tDGet (tVar 0) (tC (.str "great"))) (gName 2)
theorem pd1 (g : Gd T G k cD X) : PS X (sd1 p) tT1 := by
  obtain ⟨h1, h2, h3⟩ := g.sto (i := 2) (x := "_law_great") rfl
  exact ps_set g.nd h1 h2 (pkey g) rfl h3
def tPop (K : PySem.W.Frag) : TS := tDrop (tBM0 K "list" rPop (tVar 2))
def tPut (K : PySem.W.Frag) (T : BoxT) (G : Gm) : TS := tAsg (lfE K T .fr (wpE G iQuo)) (gSub (tVar 2) (lfE K T .bo (wpE G (.neg (.cst (.int 1))))) rSetL)
def tT2 (K : PySem.W.Frag) (T : BoxT) (G : Gm) : TS := tWhile (lfT K T (wpT G iNe)) (tSeq (tIfS (lfT K T (wpT G iGt)) (tSeq (tAsg (lfE K T .fr (wpE G iDig)) (gName 3)) (tSeq (tPut K T G) (tRet (tVar 3)))) tNext) (tPop K))
theorem pd2 (g : Gd T G k cD X) (hl : ((p 41).endLine == (p 42).line) = true) : PS X (sd2 p) (tT2 X.K T G) := by
  have hp : PassesOwn (model X.prog X.w) X.A X.env X.xe := by rw [g.xe]; exact PassesOwn.never
  refine ps_while hp (sT iNe g rfl) (pss_cons (ps_if (sT iGt g rfl) (pss_cons (ps_val (e := iDig) g rfl rfl rfl rfl) (pss_cons ?_ (pss_one (ps_ret (pvar g 3 rfl))))) pss_nil) (pss_one ?_))
  · exact ps_asg (sE iQuo g rfl) (pg_sub (pvar g 2 rfl) (lf_bo (mE G _) (sE (.neg (.cst (.int 1))) g rfl)) set_list (asg_sub rfl)) (sws_no2 rfl _ _ _) rfl rfl
  · exact ps_expr (pe_bm0 PySem.F.plainAttrs_list PySem.F.slot_list_pop PySem.F.type_list_pop mt_pop (pvar g 2 rfl) att_name hl) rfl
end
end Ef

end

section
set_option autoImplicit false
namespace Ef
open PySem L2 PySem.Spec PyProof.Rows
section
variable {X : Cx} {T : BoxT} {G : Gm} {k : Nat} {p : Nat → Pos}
def tTurn : TE := tDGet (tVar 0) (tC (.str "turn"))
def tSmall : TE := tDGet (tVar 0) (tC (.str "small"))
def tT3 : TS := sDPut (tVar 0) (tC (.str "turn")) (tOp (rI0 fun i j => .int (i + j)) tTurn (tC (.int 1)))
def tT4 (K : PySem.W.Frag) (T : BoxT) : TS := tAsg (tOp (rIxL K) tSmall (tOp (rI (fun _ j => 0 < j) fun i j => .int (i % j)) (tCB (rB K T .int) (tCons tTurn tNil)) (tCB (rB K T .len) (tCons tSmall tNil)))) (gName 4)
def tT5 : TS := tAsg (tOp (rI0 fun i j => .int (i + j)) (tOp (rI CMul fun i j => .int (i * j)) (tVar 4) (tC (.int 6364136223846793005))) (tOp (rI CMul fun i j => .int (i * j)) tTurn (tC (.int 1442695040888963407)))) (gName 5)
theorem pd3 (g : Gd T G k cD X) : PS X (sd3 p) tT3 := ps_dput (by have := g.units; omega) (pvar g 0 rfl) pe_str (pe_op op_add (pkey g) pe_int) rfl
theorem pd4 (g : Gd T G k cD X) : PS X (sd4 p) (tT4 X.K T) := by
  obtain ⟨h1, h2, h3⟩ := g.sto (i := 4) (x := "_law_cell") rfl
  exact ps_set g.nd h1 h2 (pe_ix ix_list (pkey g) (pe_op op_mod (pe_blt (f := .int) g rfl rfl (pa_cons (pkey g) pa_nil)) (pe_blt (f := .len) g rfl rfl (pa_cons (pkey g) pa_nil))) fun _ _ => rfl) rfl h3
theorem pd5 (g : Gd T G k cD X) : PS X (sd5 p) tT5 := by
  obtain ⟨h1, h2, h3⟩ := g.sto (i := 5) (x := "_law_mixed") rfl
  exact ps_set g.nd h1 h2 (pe_op op_add (pe_op op_mul (pvar g 4 rfl) pe_int) (pe_op op_mul (pkey g) pe_int)) rfl h3
def tDraw (K : PySem.W.Frag) (T : BoxT) (G : Gm) : TS := tSeq tT1 (tSeq (tT2 K T G) (tSeq tT3 (tSeq (tT4 K T) (tSeq tT5 (lfS K T (wpSs G iEnd))))))
theorem pdraw (g : Gd T G k cD X) (hl : ((p 41).endLine == (p 42).line) = true) : PSs X (drawBody p) (tDraw X.K T G) :=
  pss_cons (pd1 g) (pss_cons (pd2 g hl) (pss_cons (pd3 g) (pss_cons (pd4 g) (pss_cons (pd5 g) (sSs iEnd g rfl rfl)))))
end
/-! ### what it does -/
theorem dq_ints {K : PySem.W.Frag} {I : Hp} : ∀ ns : List Int, DqAll K I (ns.map V.int) (ns.map PyData.int)
  | [] => .nil
  | n :: ns => .cons (.int n) (dq_ints ns)
theorem lay_ints : ∀ ns : List Int, PyData.canLayAll0 (ns.map PyData.int) = true
  | [] => rfl
  | n :: ns => by simp [PyData.canLayAll0, PyData.canLay0, lay_ints ns]
theorem dep_ints : ∀ ns : List Int, PyData.depthAll (ns.map PyData.int) ≤ 1
  | [] => by simp [PyData.depthAll]
  | n :: ns => by
    have := dep_ints ns
    simp only [List.map_cons, PyData.depthAll, PyData.depth]
    omega
theorem shp_ints (ns : List Int) : SeqAt.shaped (.list (ns.map PyData.int)) = true := by
  have := dep_ints ns
  have e : PyData.depth (.list (ns.map PyData.int)) ≤ 64 := by
    simp only [PyData.depth]
    omega
  simp [SeqAt.shaped, PyData.canLay0, lay_ints, e]
section
variable {K : PySem.W.Frag} {T : BoxT} {G : Gm}
theorem saD {H : Hp} {g : Addr} {n : Int} {gs : List Int} {σ : L2.St} (hl : σ.length = 6) (h1 : σ[1]? = some (some (.int n))) (h2 : σ[2]? = some (some (.ref g))) (hg : H g = some (.lst (gs.map V.int))) :
    SA K T none (fun _ => none) (hid g H) [.un, .dat (.int n), .own (gs.map PyData.int), .un, .un, .un] σ (fun _ => none) H := by
  refine ⟨⟨⟨fun _ _ e => (nomatch e), fun _ _ e => (nomatch e), fun _ e => (nomatch e)⟩, fun _ _ _ => rfl, fun b o e _ => (hid_some e).2, fun b o e => ⟨o, (hid_some e).2⟩⟩, hl.symm, fun i s e => ?_, fun i j s1 s2 d1 d2 hij e1 e2 m1 m2 => ?_, dlNo rfl⟩
  · match i, e with
    | 0, e => cases e; trivial
    | 1, e => cases e; exact ⟨_, h1, .int n⟩
    | 2, e => cases e; exact ⟨g, _, h2, if_pos rfl, rfl, hg, .lst (dq_ints gs), List.not_mem_nil⟩
    | 3, e => cases e; trivial
    | 4, e => cases e; trivial
    | 5, e => cases e; trivial
    | i + 6, e => simp at e
  · have key : ∀ (i : Nat) (s : Sl) (d : PyData), ([.un, .dat (.int n), .own (gs.map PyData.int), .un, .un, .un] : Rho)[i]? = some s → mutS s = some d → i = 2 := fun i s d e m => by
      match i, e with
      | 0, e => cases e; cases m
      | 1, e => cases e; cases m
      | 2, e => rfl
      | 3, e => cases e; cases m
      | 4, e => cases e; cases m
      | 5, e => cases e; cases m
      | i + 6, e => simp at e
    exact absurd ((key i _ _ e1 m1).trans (key j _ _ e2 m2).symm) hij
/-- how the heap stands inside a draw -/
structure Ds (a g s : Addr) (H0 : Hp) (ss gs : List Int) (t : Int) (H : Hp) : Prop where
  old : ∀ b o, H0 b = some o → b ≠ a → b ≠ g → b ≠ s → H b = some o
  ha : H a = some (dK3 g s t)
  hg : H g = some (.lst (gs.map V.int))
  hs : H s = some (.lst (ss.map V.int))
  len : gs.length ≤ 64
variable {a g s : Addr} {H0 H H' I : Hp} {ss gs : List Int} {t : Int}
theorem Ds.kept (d : Ds a g s H0 ss gs t H) (k : ∀ b o, H b = some o → H' b = some o) : Ds a g s H0 ss gs t H' :=
  ⟨fun b o e n1 n2 n3 => k b o (d.old b o e n1 n2 n3), k _ _ d.ha, k _ _ d.hg, k _ _ d.hs, d.len⟩
theorem gw_kept {I I' : Hp} (w : Gw T none I H I' H') : ∀ b o, H b = some o → H' b = some o := fun b o e => w.hp b o e List.not_mem_nil
theorem Ds.gw (d : Ds a g s H0 ss gs t H) (ne : a ≠ g ∧ a ≠ s ∧ g ≠ s) (h0 : ss ≠ []) (hv : Hv BoxD (some (a, [a, g, s])) I H0) : Gw BoxD (some (a, [a, g, s])) I H0 I H := by
  have nfp : ∀ b, b ∉ fpOf (some (a, [a, g, s])) → b ≠ a ∧ b ≠ g ∧ b ≠ s := fun b h => by simpa [fpOf] using h
  refine ⟨⟨fun b o e => ?_, fun a' fp e => ?_, hv.bno⟩, fun _ _ _ => rfl, fun b o e n => ?_, fun b o e => ?_⟩
  · obtain ⟨n1, n2, n3⟩ := nfp b fun z => by rw [hv.bno b z] at e; cases e
    exact d.old b o (hv.sub b o e) n1 n2 n3
  · cases e
    exact ⟨g, s, t, gs, ss, rfl, ne, d.ha, d.hg, d.hs, h0, d.len⟩
  · obtain ⟨n1, n2, n3⟩ := nfp b n
    exact d.old b o e n1 n2 n3
  · by_cases z1 : b = a
    · subst z1; exact ⟨_, d.ha⟩
    · by_cases z2 : b = g
      · subst z2; exact ⟨_, d.hg⟩
      · by_cases z3 : b = s
        · subst z3; exact ⟨_, d.hs⟩
        · exact ⟨o, d.old b o e z1 z2 z3⟩
theorem Ds.setG (d : Ds a g s H0 ss gs t H) (ne : a ≠ g ∧ a ≠ s ∧ g ≠ s) {gs' : List Int} (hl : gs'.length ≤ 64) : Ds a g s H0 ss gs' t (upd H g (.lst (gs'.map V.int))) :=
  ⟨fun b o e n1 n2 n3 => by rw [upd_ne n2]; exact d.old b o e n1 n2 n3, by rw [upd_ne ne.1]; exact d.ha, upd_same, by rw [upd_ne (Ne.symm ne.2.2)]; exact d.hs, hl⟩
theorem Ds.setT (d : Ds a g s H0 ss gs t H) (ne : a ≠ g ∧ a ≠ s ∧ g ≠ s) {t' : Int} : Ds a g s H0 ss gs t' (upd H a (dK3 g s t')) :=
  ⟨fun b o e n1 n2 n3 => by rw [upd_ne n1]; exact d.old b o e n1 n2 n3, upd_same, by rw [upd_ne (Ne.symm ne.1)]; exact d.hg, by rw [upd_ne (Ne.symm ne.2.1)]; exact d.hs, d.len⟩
theorem getG {g s : Addr} {t : Int} : valV [((.inr "great" : Key), V.ref g), (.inr "small", .ref s), (.inr "turn", .int t)] (.inr "great") = some (.ref g) := by
  simp [valV]
theorem getS {g s : Addr} {t : Int} : valV [((.inr "great" : Key), V.ref g), (.inr "small", .ref s), (.inr "turn", .int t)] (.inr "small") = some (.ref s) := by
  have e : ("great" : Str) ≠ "small" := by decide
  simp [valV, e]
theorem getT {g s : Addr} {t : Int} : valV [((.inr "great" : Key), V.ref g), (.inr "small", .ref s), (.inr "turn", .int t)] (.inr "turn") = some (.int t) := by
  have e : ("great" : Str) ≠ "turn" := by decide
  have e2 : ("small" : Str) ≠ "turn" := by decide
  simp [valV, e, e2]
theorem putT {g s : Addr} {t t' : Int} : putK [((.inr "great" : Key), V.ref g), (.inr "small", .ref s), (.inr "turn", .int t)] (.inr "turn") (.int t') = [((.inr "great" : Key), V.ref g), (.inr "small", .ref s), (.inr "turn", .int t')] := by
  have e : ("great" : Str) ≠ "turn" := by decide
  have e2 : ("small" : Str) ≠ "turn" := by decide
  simp [putK, e, e2]
theorem Ds.dG (d : Ds a g s H0 ss gs t H) : DGet H a (.str "great") (some (.ref g)) := .inl ⟨_, .inr "great", .inl d.ha, rfl, getG.symm⟩
theorem Ds.dS (d : Ds a g s H0 ss gs t H) : DGet H a (.str "small") (some (.ref s)) := .inl ⟨_, .inr "small", .inl d.ha, rfl, getS.symm⟩
theorem Ds.dT (d : Ds a g s H0 ss gs t H) : DGet H a (.str "turn") (some (.int t)) := .inl ⟨_, .inr "turn", .inl d.ha, rfl, getT.symm⟩
theorem Ds.pT (d : Ds a g s H0 ss gs t H) (t' : Int) : DPut H a (.str "turn") (.int t') (upd H a (dK3 g s t')) := by
  have e := DPut.k (k := .inr "turn") (v := .int t') d.ha (by simp [sizeLine_eq])
  rw [putT] at e
  exact e
end
end Ef

end

section
set_option autoImplicit false
namespace Ef
open PySem L2 PySem.Spec PyProof.Rows
theorem ix_last {α : Type} (ys : List α) (y : α) : ixN (ys ++ [y]).length (-1) = some ys.length := by
  unfold ixN
  rw [if_neg (by decide), if_pos (by simp only [List.length_append, List.length_cons, List.length_nil]; omega)]
  simp only [List.length_append, List.length_cons, List.length_nil]
  congr 1
  omega
theorem at_last {α : Type} (ys : List α) (y : α) : atI (ys ++ [y]) (-1) = some y := by
  unfold atI
  rw [ix_last]
  simp
theorem mod_pos {i n : Int} (h : 0 < n) : 0 ≤ i % n ∧ i % n < n := ⟨Int.emod_nonneg _ (by omega), Int.emod_lt_of_pos _ h⟩
section
variable {K : PySem.W.Frag} {G : Gm} {a g s : Addr} {H0 H I : Hp} {ss gs : List Int} {t n : Int} {Q : VK}
abbrev st1 (a g : Addr) (n : Int) : L2.St := [some (.ref a), some (.int n), some (.ref g), none, none, none]
theorem drawEnd (hn : 0 < n) (d : Ds a g s H0 ss gs t H) (c m : Int) (q : ∀ H' i, (∀ b o, H b = some o → H' b = some o) → 0 ≤ i → i < n → Q (.int i) H') (D : Ends) (hD : D.rt = Q) :
    lfS K BoxD (wpSs G iEnd) D [some (.ref a), some (.int n), some (.ref g), none, some (.int c), some (.int m)] H := by
  refine ⟨none, fun _ => none, H, [.un, .dat (.int n), .un, .un, .un, .dat (.int m)], fun _ => none, ⟨Gw.refl ⟨fun _ _ e => (nomatch e), fun _ _ e => (nomatch e), fun _ e => (nomatch e)⟩, rfl, fun i s e => ?_, fun i j s1 s2 d1 d2 hij e1 e2 m1 m2 => ?_, dlNo rfl⟩, ?_⟩
  · match i, e with
    | 0, e => cases e; trivial
    | 1, e => cases e; exact ⟨_, rfl, .int n⟩
    | 2, e => cases e; trivial
    | 3, e => cases e; trivial
    | 4, e => cases e; trivial
    | 5, e => cases e; exact ⟨_, rfl, .int m⟩
    | i + 6, e => simp at e
  · match i, e1 with
    | 0, e => cases e; cases m1
    | 1, e => cases e; cases m1
    | 2, e => cases e; cases m1
    | 3, e => cases e; cases m1
    | 4, e => cases e; cases m1
    | 5, e => cases e; cases m1
    | i + 6, e => simp at e
  · simp only [iEnd, wpSs, wpS, wpE, wpEs, bltW, binW, asg, List.getD, List.getElem?_cons_zero, List.getElem?_cons_succ, Option.getD_some, List.set_cons_succ, List.set_cons_zero]
    have h1 := mod_pos (i := m) (n := 18446744073709551557) (by decide)
    refine ⟨by decide, ⟨by decide, by decide⟩, .inl ⟨?_, ?_⟩, by decide, ⟨by decide, by decide⟩, hn, fun v I' H' gw dq => ?_⟩
    · omega
    · omega
    · cases dq.intE
      rw [hD]
      exact q H' _ (gw_kept gw) (mod_pos hn).1 (mod_pos hn).2
theorem small_at (h0 : ss ≠ []) (t : Int) : ∃ c, atI (ss.map V.int) (t % (ss.length : Int)) = some (.int c) := by
  have hl : 0 < ss.length := List.length_pos_iff.mpr h0
  have h1 := mod_pos (i := t) (n := (ss.length : Int)) (by omega)
  have h2 : (t % (ss.length : Int)).toNat < ss.length := by omega
  refine ⟨ss[(t % (ss.length : Int)).toNat], ?_⟩
  unfold atI ixN
  rw [if_pos h1.1, if_pos (by rw [List.length_map]; exact h1.2)]
  simp [h2]
theorem drawRest (ne : a ≠ g ∧ a ≠ s ∧ g ≠ s) (h0 : ss ≠ []) (hn : 0 < n) (d : Ds a g s H0 ss gs t H) (q : ∀ gs' t' H' i, Ds a g s H0 ss gs' t' H' → 0 ≤ i → i < n → Q (.int i) H') (D : Ends) (hD : D.rt = Q) :
    tSeq tT3 (tSeq (tT4 K BoxD) (tSeq tT5 (lfS K BoxD (wpSs G iEnd)))) D (st1 a g n) H := by
  refine ⟨_, rfl, a, _, rfl, d.dT, t, 1, rfl, rfl, _, rfl, a, _, rfl, d.pT _, ?_⟩
  have d2 := d.setT ne (t' := t + 1)
  refine ⟨_, rfl, a, _, rfl, d2.dS, _, rfl, a, _, rfl, d2.dT, ?_⟩
  refine ⟨none, fun _ => none, [.int (t + 1)], ⟨fun _ _ e => (nomatch e), fun _ _ e => (nomatch e), fun _ e => (nomatch e)⟩, .cons (.inl (.int _)) .nil, fun v I1 H1 g1 v1 => ?_⟩
  cases (show Dq K I1 v (.int (t + 1)) from v1).intE
  have d3 := d2.kept (gw_kept g1)
  refine ⟨_, rfl, a, _, rfl, d3.dS, ?_⟩
  refine ⟨none, fun _ => none, [.list (ss.map PyData.int)], ⟨fun _ _ e => (nomatch e), fun _ _ e => (nomatch e), fun _ e => (nomatch e)⟩, .cons (.inr ⟨s, _, rfl, d3.hs, .lst (dq_ints ss), List.not_mem_nil⟩) .nil, fun v I2 H2 g2 v2 => ?_⟩
  have d4 := d3.kept (gw_kept g2)
  have e2 := (show Dq K I2 v (.int ((ss.map PyData.int).length : Nat)) from v2).intE
  rw [List.length_map] at e2
  subst e2
  have hl : 0 < ss.length := List.length_pos_iff.mpr h0
  obtain ⟨c, hc⟩ := small_at h0 (t + 1)
  refine ⟨t + 1, (ss.length : Nat), rfl, rfl, by show (0 : Int) < _; omega, s, _, _, _, rfl, rfl, SqL.of d4.hs, hc, ?_⟩
  refine ⟨_, rfl, c, _, rfl, rfl, .inr ⟨by decide, by decide⟩, _, rfl, a, _, rfl, d4.dT, t + 1, _, rfl, rfl, .inr ⟨by decide, by decide⟩, _, _, rfl, rfl, ?_⟩
  exact drawEnd hn d4 c _ (fun H' i k h1 h2 => q _ _ _ i (d4.kept k) h1 h2) D hD
theorem draw_pure (ne : a ≠ g ∧ a ≠ s ∧ g ≠ s) (h0 : ss ≠ []) (hn : 0 < n) (hn2 : n < 2 ^ 64) (d0 : Ds a g s H0 ss gs t H0) (q : ∀ gs' t' H' i, Ds a g s H0 ss gs' t' H' → 0 ≤ i → i < n → Q (.int i) H') :
    tDraw K BoxD G { nx := fun _ H' => Q .non H', rt := Q } [some (.ref a), some (.int n), none, none, none, none] H0 := by
  refine ⟨_, rfl, a, _, rfl, d0.dG, ?_⟩
  refine ⟨fun m σ H => ∃ gs', σ = st1 a g n ∧ Ds a g s H0 ss gs' t H ∧ gs'.length = m, ⟨_, gs, rfl, d0, rfl⟩, ?_⟩
  rintro m σ H ⟨gs', rfl, d, rfl⟩
  refine ⟨none, _, _, _, _, saD rfl rfl rfl d.hg, ?_⟩
  simp only [iNe, wpT, wpE, wpEs, cmpW, List.getD, List.getElem?_cons_zero, List.getElem?_cons_succ, Option.getD_some]
  refine ⟨by decide, eqOk_l _, _, rfl, fun I1 H1 g1 => ?_⟩
  have d1 := d.kept (gw_kept g1)
  rcases List.eq_nil_or_concat gs' with rfl | ⟨ys, y, e⟩
  · rw [if_neg (by simp [PyData.eqv, PyData.eqvAll])]
    exact drawRest ne h0 hn d1 q _ rfl
  · rw [List.concat_eq_append] at e
    subst e
    rw [if_pos (by cases ys <;> simp [PyData.eqv, PyData.eqvAll])]
    refine ⟨fun σ' H' => ∃ gs', σ' = st1 a g n ∧ Ds a g s H0 ss gs' t H' ∧ gs'.length < (ys ++ [y]).length, fun σ' H' ⟨gs', e1, e2, e3⟩ => ⟨_, e3, gs', e1, e2, rfl⟩, ?_⟩
    refine ⟨none, _, _, _, _, saD rfl rfl rfl d1.hg, ?_⟩
    simp only [iGt, eLast, wpT, wpE, cmpW, idxW, negW, itemsOf, List.getD, List.getElem?_cons_zero, List.getElem?_cons_succ, Option.getD_some, List.map_append, List.map_cons, List.map_nil]
    refine ⟨_, at_last _ _, _, rfl, fun I2 H2 g2 => ?_⟩
    have d2 := d1.kept (gw_kept g2)
    by_cases hy : 0 < y
    · rw [if_pos (by simpa using hy)]
      refine ⟨none, _, _, _, _, saD rfl rfl rfl d2.hg, ?_⟩
      simp only [iDig, eLast, wpT, wpE, wpEs, bltW, binW, cmpW, idxW, negW, itemsOf, List.getD, List.getElem?_cons_zero, List.getElem?_cons_succ, Option.getD_some, List.map_append, List.map_cons, List.map_nil]
      refine ⟨_, at_last _ _, hn, fun v I3 H3 g3 v3 => ?_⟩
      have e3 : v = .int (y % n) := by
        rcases v3 with ⟨_, _, _, _, _, _, z⟩ | ⟨z, _⟩
        · cases z
        · exact z.intE
      subst e3
      have d3 := d2.kept (gw_kept g3)
      refine ⟨none, _, _, _, _, saD rfl rfl rfl d3.hg, ?_⟩
      simp only [iQuo, eLast, wpT, wpE, wpEs, bltW, binW, cmpW, idxW, negW, itemsOf, List.getD, List.getElem?_cons_zero, List.getElem?_cons_succ, Option.getD_some, List.map_append, List.map_cons, List.map_nil]
      refine ⟨_, at_last _ _, ⟨hn, hn2⟩, fun v I4 H4 g4 v4 => ?_⟩
      have e4 : v = .int (y / n) := by
        rcases v4 with ⟨_, _, _, _, _, _, z⟩ | ⟨z, _⟩
        · cases z
        · exact z.intE
      subst e4
      have d4 := d3.kept (gw_kept g4)
      refine ⟨_, rfl, none, _, _, _, _, saD rfl rfl rfl d4.hg, ?_⟩
      simp only [wpE, negW]
      intro v I5 H5 g5 v5
      cases (show Bo K none I5 H5 v (.int (-1)) from v5).intE
      have d5 := d4.kept (gw_kept g5)
      refine ⟨g, _, _, ys.length, rfl, rfl, d5.hg, by have := ix_last (ys.map V.int) (V.int y); simpa using this, ?_⟩
      refine ⟨_, rfl, ?_⟩
      have e6 : ((ys ++ [y]).map V.int).set ys.length (.int (y / n)) = (ys ++ [y / n]).map V.int := by simp
      rw [e6]
      exact q _ _ _ _ (d5.setG ne (gs' := ys ++ [y / n]) (by have := d5.len; simpa using this)) (mod_pos hn).1 (mod_pos hn).2
    · rw [if_neg (by simpa using hy)]
      refine ⟨_, rfl, .inl ⟨rfl, _, SqL.of d2.hg⟩, g, _, .int y, rfl, rfl, d2.hg, by simp, ?_⟩
      refine ⟨ys, rfl, ?_, by simp⟩
      have e6 : ((ys ++ [y]).map V.int).dropLast = ys.map V.int := by simp
      rw [e6]
      exact d2.setG ne (by have := d2.len; simp at this; omega)
end
end Ef

end

section
set_option autoImplicit false
namespace Ef
open PySem L2 PySem.Spec PyProof.Rows
section
variable {P : Program} {w : World} {K : PySem.W.Frag} {mg : Str → Option Value} {base : Heap} {T : BoxT} {G : Gm} {k : Nat}
theorem gd_of {N ps : List Str} {qual : Str} {scope : Scope} {f : Addr} {cdv : Value} {A : Around} {outer : List Env} {s : Shared} {H : Hp} (S : FnScope N ps scope) (M : Md0 P w K mg base T G k) (hr : Room k (A.deeper (envOfC qual scope s.heap.objs.size f cdv))) (hg : A.guards = some []) :
    Gd T G k ⟨N, scope, scope⟩ (cxOf L2.CX0 P w K mg base N qual scope f cdv A outer s H L2.E0).nox := ⟨rfl, S.nd, rfl, rfl, hr, hg, rfl, fun _ _ => rfl, M.con, M.glb, M.kc, M.blt⟩
theorem scope_D : FnScope nD ["_law_box", "_law_many"] scD := ⟨rfl, rfl, rfl, by decide +kernel, rfl, by decide +kernel, by decide +kernel⟩
/-- the draw keeps its contract -/
theorem draw_G {x qual : Str} {params : Arguments} {f : Addr} {fd : FuncData} {p : Nat → Pos} {dvs : List V} {kws : List (Str × V)} (F : FunD K x qual params (drawBody p) scD dvs kws f fd) (hl : ((p 41).endLine == (p 42).line) = true) (M : Md0 P w K mg base BoxD G k) :
    FnG P w K mg base BoxD (k + 1) f fd ["_law_box", "_law_many"] conDraw := by
  refine FnR.toG (fn_R F scope_D ?_ ?_) ?_
  · rintro vs H Q ⟨bx, I, as, n, hv, ar, ⟨rfl, _⟩, q⟩
    rw [ar.length]; rfl
  · rintro cdv A outer s H vs Q hr hg ⟨bx, I, as, n, hv, ar, ⟨rfl, h1, h2⟩, q⟩
    refine ⟨_, pdraw (gd_of scope_D M hr hg) hl, ?_⟩
    cases ar with
    | box e ar =>
      cases ar with
      | dat d ar =>
        cases ar
        cases d.intE
        subst e
        obtain ⟨g, s', t, gs, ss, rfl, ne, e1, e2, e3, e4, e5⟩ := hv.bok _ _ rfl
        refine draw_pure ne e4 h1 h2 ⟨fun b o e _ _ _ => e, e1, e2, e3, e5⟩ fun gs' t' H' i d hi1 hi2 => ?_
        exact q _ _ _ _ (d.gw ne e4 hv) (.int i) ⟨i, rfl, hi1, hi2⟩
  · rintro n as ⟨rfl, _⟩
    rfl
end
/-! ### the opening -/
section
variable {X : Cx} {T : BoxT} {G : Gm} {k : Nat} {c : Ck}
theorem ps_lcW (g : Gd T G k c X) {i : Nat} {x : Str} {px pos p : Pos} {y t ii : Expr} {ifs : List Expr} {scope : Scope} {el : Ex} {tg : Tg} {cd : Ox} {own : List Nat} {wi : TI} (hs : stoB c i x = true) (hwi : PI X t ii wi) (hpl : plainE ii = true) (hb : blkC c.N c.sc scope (ownP c own) = true)
    (ht : chkTg (c.blk scope) tg t = true) (hcc : chkC (c.blk scope) cd ifs = true) (hf : el.firm = true) (he : chkE (c.blk scope) el y = true) :
    PS X (.Assign [.Name x px] (.ListComp y [⟨t, ii, ifs, 0⟩] scope p) pos) (tAsg (tLc wi (gOf X.K tg) (lfT X.K T (wpC G cd)) (lfE X.K T .st (wpE G el)) own) (gName i)) := by
  obtain ⟨h1, h2, h3⟩ := g.sto hs
  have ok : BlkOk X.N X.env.scope scope (ownP c own) := by rw [g.nn, g.sc]; exact blkOk_by hb
  have eo : (ownP c own).map (·.2) = own := by simp [ownP, Function.comp_def]
  have e1 := sw_lc (el := y) (gs := [⟨t, ii, ifs, 0⟩]) (scope := scope) (p := p) (py := px) (y := x) (l := pos.line) (env := X.env)
  cases eb : (X.env.blockKind == .function && X.env.kindOf x == some .local && px.line == p.line && !(scope.names.any fun z => z.1 == x && (z.2 == .local || z.2 == .cell))) with
  | false =>
    rw [eb] at e1
    have r := pe_lc (elt := y) (tg := t) (iter := ii) (ifs := ifs) (g := gOf X.K tg) (tt := lfT X.K T (wpC G cd)) (te := lfE X.K T .st (wpE G el)) (pos := p) g.calm g.nd hwi ok (fun s H C cl fp => pg_tg (g.blk scope s H C cl fp) ht) (fun s H C cl fp => sC cd (g.blk scope s H C cl fp) hcc)
      (fun s H C cl fp => lf_st (mE G el) (firm_md hf) (sE el (g.blk scope s H C cl fp) he)) (folded_plain hpl X.env)
    rw [eo] at r
    exact ps_set g.nd h1 h2 r e1 h3
  | true =>
    rw [eb] at e1
    have hloc : X.env.scope.names.lookup x = some .local := by
      simp only [Bool.and_eq_true, beq_iff_eq] at eb
      exact eb.1.1.2
    have r := ps_setLc (i := i) (y := x) (py := px) (elt := y) (tg := t) (iter := ii) (ifs := ifs) (g := gOf X.K tg) (tt := lfT X.K T (wpC G cd)) (te := lfE X.K T .st (wpE G el)) (pos := p) (spos := pos) g.calm g.nd h1 hloc e1 hwi ok (fun s H C cl fp => pg_tg (g.blk scope s H C cl fp) ht) (fun s H C cl fp => sC cd (g.blk scope s H C cl fp) hcc)
      (fun s H C cl fp => lf_st (mE G el) (firm_md hf) (sE el (g.blk scope s H C cl fp) he)) (folded_plain hpl X.env)
    rw [eo] at r
    exact r
end
def nO : List Str := ["_law_script", "_law_cells", "_law_small", "_law_great", "_law_cell"]
def scO0 : Scope := { kind := .function, names := [(".0", .local), ("_law_cell", .local), ("abs", .globalImplicit)], isGenerator := false, isCoroutine := false, more := [] }
def scO1 : Scope := { kind := .function, names := [(".0", .local), ("_law_cell", .local)], isGenerator := false, isCoroutine := false, more := [] }
def scO : Scope := { kind := .function, names := [("_law_script", .local), ("_law_cells", .local), ("_law_small", .local), ("_law_great", .local), ("int", .globalImplicit)], isGenerator := false, isCoroutine := false, more := [("fast", (.str "_law_script")), ("fast", (.str "_law_cell")), ("fast", (.str "_law_cells")), ("fast", (.str "_law_small")), ("fast", (.str "_law_great"))] }
def cO : Ck := ⟨nO, scO, scO⟩
def eAbs : Ex := .blt .abs (.cons (.var 4) .nil)
def eTen : Ex := .bin .Pow (.cst (.int 10)) (.cst (.int 18))
def eSm (c0 : Int) : Ex := .bin .Add (.var 2) (.bin .Mult (.lst (.cons (.cst (.int c0)) .nil)) (.blt .int (.cons (.cmp .Eq (.var 2) (.lst .nil)) .nil)))
def i2 : Sx := .set (.nm 2) (.lc (.var 4) (.nm 4) (.sq (.var 1)) (.so (.cmp .Lt (.var 4) eTen)) [4])
def i3 : Sx := .set (.nm 3) (.lc (.var 4) (.nm 4) (.sq (.var 1)) (.so (.cmp .GtE (.var 4) eTen)) [4])
def so1 (m : Int) (p : Nat → Pos) : Stmt := .Assign [(.Name "_law_cells" (p 0))] (.ListComp (.Call (.Name "abs" (p 1)) [(.Name "_law_cell" (p 2))] [] (p 3)) [⟨(.Name "_law_cell" (p 4)), (.Subscript (.Name "_law_script" (p 5)) (.Slice none (some (.Constant (.int m) 0 (p 6))) none (p 7)) (p 8)), [], 0⟩] scO0 (p 9)) (p 10)
def so2 (p : Nat → Pos) : Stmt := .Assign [(.Name "_law_small" (p 11))] (.ListComp (.Name "_law_cell" (p 12)) [⟨(.Name "_law_cell" (p 13)), (.Name "_law_cells" (p 14)), [(.Compare (.Name "_law_cell" (p 15)) [.Lt] [(.BinOp (.Constant (.int 10) 0 (p 16)) .Pow (.Constant (.int 18) 0 (p 17)) (p 18))] (p 19))], 0⟩] scO1 (p 20)) (p 21)
def so2b (p : Nat → Pos) : Stmt := .Assign [(.Name "_law_great" (p 22))] (.ListComp (.Name "_law_cell" (p 23)) [⟨(.Name "_law_cell" (p 24)), (.Name "_law_cells" (p 25)), [(.Compare (.Name "_law_cell" (p 26)) [.GtE] [(.BinOp (.Constant (.int 10) 0 (p 27)) .Pow (.Constant (.int 18) 0 (p 28)) (p 29))] (p 30))], 0⟩] scO1 (p 31)) (p 32)
def so3 (c0 : Int) (p : Nat → Pos) : Stmt := .Return (some (.Dict [some (.Constant (.str "great") 0 (p 33)), some (.Constant (.str "small") 0 (p 34)), some (.Constant (.str "turn") 0 (p 35))] [(.Name "_law_great" (p 36)), (.BinOp (.Name "_law_small" (p 37)) .Add (.BinOp (.List [(.Constant (.int c0) 0 (p 38))] (p 39)) .Mult (.Call (.Name "int" (p 40)) [(.Compare (.Name "_law_small" (p 41)) [.Eq] [(.List [] (p 42))] (p 43))] [] (p 44)) (p 45)) (p 46)), (.Constant (.int 0) 0 (p 47))] (p 48))) (p 49)
def openBody (m c0 : Int) (p : Nat → Pos) : List Stmt := [so1 m p, so2 p, so2b p, so3 c0 p]
section
variable {X : Cx} {T : BoxT} {G : Gm} {k : Nat} {p : Nat → Pos} {m c0 : Int}
theorem pvarO (g : Gd T G k cO X) (i : Nat) {x : Str} {q : Pos} (h : visB cO i x = true) : PE X (.Name x q) (tVar i) := by
  obtain ⟨h1, h2, h3, h4⟩ := g.vis h
  exact pe_var h1 h2 h3 h4
def tO1 (K : PySem.W.Frag) (T : BoxT) (G : Gm) (m : Int) : TS := tAsg (tLc (iList K (tSl (rSlL K) (tVar 0) tNoPart (tPart (tC (.int m))))) (gName 4) (lfT K T (wpC G .no)) (lfE K T .st (wpE G eAbs)) [4]) (gName 1)
theorem po1 (g : Gd T G k cO X) : PS X (so1 m p) (tO1 X.K T G m) :=
  ps_lcW (tg := .nm 4) (cd := .no) (el := eAbs) (own := [4]) g rfl (pi_list (pe_slice sl_list (pvarO g 0 rfl) po_none (po_some pe_int))) rfl (by decide +kernel) rfl rfl rfl rfl
def tO3 (K : PySem.W.Frag) (T : BoxT) (G : Gm) (c0 : Int) : TS := tRet (tDisp [(tC (.str "great"), tVar 3), (tC (.str "small"), lfE K T .fr (wpE G (eSm c0))), (tC (.str "turn"), tC (.int 0))])
theorem chk_sm (c0 : Int) : chkE cO (eSm c0) (.BinOp (.Name "_law_small" (p 37)) .Add (.BinOp (.List [(.Constant (.int c0) 0 (p 38))] (p 39)) .Mult (.Call (.Name "int" (p 40)) [(.Compare (.Name "_law_small" (p 41)) [.Eq] [(.List [] (p 42))] (p 43))] [] (p 44)) (p 45)) (p 46)) = true := by
  simp only [eSm, chkE, chkEs, cstB, decide_true, Bool.true_and, Bool.and_true, plainE]
  rfl
theorem po3 (g : Gd T G k cO X) : PS X (so3 c0 p) (tO3 X.K T G c0) :=
  ps_ret (pe_disp (pps_cons pe_str (pvarO g 3 rfl) (pps_cons pe_str (sE (eSm c0) g (chk_sm c0)) (pps_cons pe_str pe_int pps_nil))) rfl rfl (by simp) (by simp))
def tOpen (K : PySem.W.Frag) (T : BoxT) (G : Gm) (m c0 : Int) : TS := tSeq (tO1 K T G m) (tSeq (lfS K T (wpS G i2)) (tSeq (lfS K T (wpS G i3)) (tO3 K T G c0)))
theorem popen (g : Gd T G k cO X) : PSs X (openBody m c0 p) (tOpen X.K T G m c0) := pss_cons (po1 g) (pss_cons (sS i2 g rfl (by kernel_rfl)) (pss_cons (sS i3 g rfl (by kernel_rfl)) (pss_one (po3 g))))
end
/-! ### what the opening does -/
theorem comp_ints {fc : Rho → (Bool → Prop) → Prop} {fe : Rho → (PyData → Prop) → Prop} {ρ : Rho} {j : Nat} {Qd : List PyData → Prop} (hc : ∀ (i : Int) Q, (∀ b, Q b) → fc (ρ.set j (.dat (.int i))) Q) (he : ∀ (i : Int) Q, (∀ z : Int, Q (.int z)) → fe (ρ.set j (.dat (.int i))) Q) :
    ∀ (ns acc : List Int), acc.length + ns.length ≤ 64 → (∀ ms : List Int, ms.length ≤ 64 → Qd (ms.map PyData.int)) → wpComp (.nm j) fc fe ρ (ns.map PyData.int) (acc.map PyData.int) Qd
  | [], acc, hl, h => h acc (by simpa using hl)
  | n :: ns, acc, hl, h => by
    simp only [List.map_cons, wpComp, asg]
    have hl : acc.length + (ns.length + 1) ≤ 64 := by simpa using hl
    refine hc n _ fun b => ?_
    cases b with
    | false => exact comp_ints hc he ns acc (by omega) h
    | true =>
      refine he n _ fun z => ⟨by rw [List.length_map, sizeLine_eq]; omega, ?_⟩
      have := comp_ints (ρ := ρ) (Qd := Qd) hc he ns (acc ++ [z]) (by simp; omega) h
      simpa using this
theorem cut_ints (ns : List Int) (m : Int) (hm : 0 ≤ m ∧ m ≤ 64) : ∃ ms : List Int, cutV (ns.map V.int) none (some m) = ms.map V.int ∧ ms.length ≤ 64 := by
  refine ⟨(ns.drop 0).take (HT.sIx ns.length ns.length (some m)), ?_, ?_⟩
  · unfold cutV
    simp [HT.sIx, List.map_take]
  · rw [List.length_take]
    have : HT.sIx ns.length ns.length (some m) ≤ 64 := by
      show (if m < 0 then (m + (ns.length : Int)).toNat else min m.toNat ns.length) ≤ 64
      rw [if_neg (by omega)]
      omega
    omega
theorem wk_list {K : PySem.W.Frag} {T : BoxT} {bx : Bx} {I : Hp} {a : Addr} {xs : List V} {ds : List PyData} (h1 : I a = some (.lst xs)) (dqa : DqAll K I xs ds) : Wk K T bx I false (Itl K a) ds := by
  intro i I' H' sb hv
  have hl : SqL K H' a xs := SqL.of (hv.sub _ _ (sb _ _ h1))
  refine ⟨fun d hd => ?_, fun hle => ⟨xs, hl, by rw [dqa.length]; exact hle⟩⟩
  obtain ⟨v, hv1, hv2⟩ := dqa.get' hd
  refine ⟨⟨xs, v, hl, hv1⟩, fun x H2 y => ?_⟩
  obtain ⟨e1, y⟩ := y
  subst e1
  have := y xs hl
  rw [hv1] at this
  cases this
  exact ⟨I', Gw.refl hv, hv2.sub sb⟩
end Ef

end

section
set_option autoImplicit false
namespace Ef
open PySem L2 PySem.Spec PyProof.Rows
section
variable {K : PySem.W.Frag} {G : Gm} {T : BoxT}
abbrev I0e : Hp := fun _ => none
theorem hv0 (H : Hp) : Hv T none I0e H := ⟨fun _ _ e => (nomatch e), fun _ _ e => (nomatch e), fun _ e => (nomatch e)⟩
theorem sa_un {ρ : Rho} {σ : L2.St} {H : Hp} (hl : ρ.length = σ.length) (hu : ∀ s ∈ ρ, s = .un) : SA K T none I0e H ρ σ I0e H := by
  refine ⟨Gw.refl (hv0 H), hl, fun i s e => ?_, fun i j s1 s2 d1 d2 hij e1 e2 m1 m2 => ?_, dlNo (List.all_eq_true.mpr fun s h => by rw [hu s h]; rfl)⟩
  · rw [hu s (List.mem_of_getElem? e)]; trivial
  · rw [hu _ (List.mem_of_getElem? e1)] at m1; cases m1
def shOp (c0 : Int) (ss : List Int) : List Int := if ss = [] then [c0] else ss
theorem eqv_nil (ms : List Int) : PyData.eqv (.list (ms.map PyData.int)) (.list []) = decide (ms = []) := by
  cases ms <;> simp [PyData.eqv, PyData.eqvAll]
theorem wp_sm (c0 : Int) {ρ : Rho} {ms : List Int} (hl : ms.length ≤ 64) (h : ρ.getD 2 .un = .dat (.list (ms.map PyData.int))) {Q : PyData → Prop} (q : Q (.list ((shOp c0 ms).map PyData.int))) : wpE G (eSm c0) ρ Q := by
  simp only [eSm, wpE, wpEs, h, cmpW, bltW, binW]
  refine ⟨by simp [sizeLine_eq], by decide, eqOk_l _, ?_⟩
  rw [eqv_nil]
  by_cases e : ms = []
  · subst e
    refine ⟨by decide, by decide, by simp [sizeLine_eq], by simp [sizeLine_eq], q⟩
  · have e1 : decide (ms = []) = false := decide_eq_false e
    simp only [e1]
    refine ⟨by decide, by decide, by simp [sizeLine_eq], ?_, ?_⟩
    · simp [sizeLine_eq]; omega
    · have : shOp c0 ms = ms := if_neg e
      rw [this] at q
      simpa using q
theorem comp_mid {ρ : Rho} {op : CmpOp} (ho : op = .Lt ∨ op = .GtE) {Qd : List PyData → Prop} (hρ : ρ.length = 5) (ns : List Int) (hl : ns.length ≤ 64) (h : ∀ ms : List Int, ms.length ≤ 64 → Qd (ms.map PyData.int)) :
    wpComp (.nm 4) (wpC G (.so (.cmp op (.var 4) eTen))) (wpE G (.var 4)) ρ (ns.map PyData.int) [] Qd := by
  have e4 : ∀ s : Sl, (ρ.set 4 s).getD 4 .un = s := fun s => by simp [List.getD, hρ]
  refine comp_ints (fun i Q q => ?_) (fun i Q q => ?_) ns [] (by simpa using hl) h
  · rcases ho with rfl | rfl
    · simp only [wpC, wpT, wpE, e4, eTen, binW, cmpW]
      exact ⟨⟨by decide, by decide, by decide⟩, _, rfl, q _⟩
    · simp only [wpC, wpT, wpE, e4, eTen, binW, cmpW]
      exact ⟨⟨by decide, by decide, by decide⟩, _, rfl, q _⟩
  · simp only [wpE, e4]
    exact q i
theorem open_pure {m c0 : Int} (hm : 0 ≤ m ∧ m ≤ 64) {a : Addr} {H : Hp} {ns : List Int} (hS : SqL K H a (ns.map V.int)) {Q : VK} (q : ∀ p fp H', (∀ b o, H b = some o → H' b = some o) → hereD p fp H' → Q (.ref p) H') :
    tOpen K BoxD G m c0 { nx := fun _ H' => Q .non H', rt := Q } [some (.ref a), none, none, none, none] H := by
  obtain ⟨ms, em, lm⟩ := cut_ints ns m hm
  refine ⟨_, rfl, _, rfl, a, _, rfl, hS, fun p hp => ⟨p, rfl, ⟨_, SqL.of upd_same⟩, fun D hD => ?_⟩⟩
  rw [em] at hD ⊢
  have s0 : SA K BoxD none I0e H [.un, .un, .un, .un, .un] [some (.ref a), none, none, none, none] I0e H := sa_un rfl (by simp)
  have gn := Gw.new (T := BoxD) (.lst (ms.map V.int)) (hv0 H) hp
  have s1 := (s0.grow gn).wipe [4]
  have np : D ∉ fpOf none := List.not_mem_nil
  refine comp_ok (tg := .nm 4) (fc := wpC G .no) (fe := wpE G eAbs) (Qd := fun ys => ∃ zs : List Int, ys = zs.map PyData.int ∧ zs.length ≤ 64) (fun ρ _ _ h q => wpC_mono .no h q) (fun ρ _ _ h q => wpE_mono eAbs h q) s1 np (wk_list (ds := ms.map PyData.int) upd_same (dq_ints ms)) rfl (fun z => nomatch z)
    ⟨_, [], [], by rw [hid_upd, hid_new hD]; exact Gw.refl gn.hv, hv_none gn.hv hD, upd_same, .nil, ?_⟩ ?_
  · refine comp_ints (j := 4) (fun i Q q => q true) (fun i Q q => ?_) ms [] (by simpa using lm) fun zs hz => ⟨zs, rfl, hz⟩
    show wpE G eAbs _ Q
    simp only [eAbs, wpE, wpEs, wipeR, bltW, List.getD, List.set_cons_succ, List.set_cons_zero, List.getElem?_cons_zero, List.getElem?_cons_succ, Option.getD_some]
    exact q _
  · rintro H2 ⟨I2, xs, ys, g2, i2', h2, dq, zs, rfl, hz⟩
    have gg := gn.trans (g2.unhide np)
    have hDH : H D = none := gn.free hD
    have gf := gg.freeze hDH h2 np
    have dqf : DqAll K (upd I2 D (.lst xs)) xs (zs.map PyData.int) := dq.sub fun b o e => by
      rw [upd_ne fun z => by subst z; rw [i2'] at e; cases e]; exact e
    have s2 : SA K BoxD none I0e H [.un, .dat (.list (zs.map PyData.int)), .un, .un, .un] [some (.ref a), some (.ref D), none, none, none] (upd I2 D (.lst xs)) H2 := by
      refine ⟨gf, rfl, fun i s e => ?_, fun i j s1 s2 d1 d2 hij e1 e2 m1 m2 => ?_, dlNo rfl⟩
      · match i, e with
        | 0, e => cases e; trivial
        | 1, e => cases e; exact ⟨_, rfl, .lst upd_same dqf⟩
        | 2, e => cases e; trivial
        | 3, e => cases e; trivial
        | 4, e => cases e; trivial
        | i + 5, e => simp at e
      · match i, e1 with
        | 0, e => cases e; cases m1
        | 1, e => cases e; cases m1
        | 2, e => cases e; cases m1
        | 3, e => cases e; cases m1
        | 4, e => cases e; cases m1
        | i + 5, e => simp at e
    refine ⟨none, I0e, H, _, _, s2, ?_⟩
    simp only [i2, wpS, wpE, wpI, wipeR, asg, itemsOf, List.getD, List.set_cons_succ, List.set_cons_zero, List.getElem?_cons_zero, List.getElem?_cons_succ, Option.getD_some]
    refine ⟨_, rfl, comp_mid (.inl rfl) rfl zs hz fun sm hsm => ?_⟩
    intro σ3 I3 H3 sb3 s3
    refine ⟨none, I0e, H, _, _, s3, ?_⟩
    simp only [i3, wpS, wpE, wpI, wipeR, asg, itemsOf, List.getD, List.set_cons_succ, List.set_cons_zero, List.getElem?_cons_zero, List.getElem?_cons_succ, Option.getD_some]
    refine ⟨_, rfl, comp_mid (.inr rfl) rfl zs hz fun gr hgr => ?_⟩
    intro σ4 I4 H4 sb4 s4 d hd
    obtain ⟨vg, eg, dg⟩ := s4.sl 3 _ rfl
    obtain ⟨ag, xg, rfl, hg4, qg⟩ := dg.lstE
    cases qg.ints
    have hg4' := s4.hv.sub _ _ hg4
    have g5 := Gw.mut (T := BoxD) (.dK []) s4.hv hd
    refine ⟨_, eg, none, I0e, H, _, _, s4.grow g5, wp_sm c0 hsm rfl fun v I6 H6 g6 v6 => ?_⟩
    rcases v6 with ⟨b, u6, rfl, hb, ib, hb6, dq6⟩ | ⟨_, z⟩
    · cases dq6
      rename_i dq6
      cases dq6.ints
      have hd6 : H6 d = some (.dK []) := g6.hp d _ upd_same List.not_mem_nil
      have nda : d ≠ ag := fun z => by subst z; rw [hd] at hg4'; cases hg4'
      have ndb : d ≠ b := fun z => by subst z; rw [upd_same] at hb; cases hb
      have hgu : upd H4 d (.dK []) ag = some (.lst (gr.map V.int)) := by rw [upd_ne (Ne.symm nda)]; exact hg4'
      have nab : ag ≠ b := fun z => by subst z; rw [hgu] at hb; cases hb
      have hg6 : H6 ag = some (.lst (gr.map V.int)) := g6.hp ag _ hgu List.not_mem_nil
      refine ⟨hd6, [(.inr "great", .ref ag), (.inr "small", .ref b), (.inr "turn", .int 0)], rfl, by simp, ?_⟩
      have em : mergeK [] [((.inr "great" : Key), V.ref ag), (.inr "small", .ref b), (.inr "turn", .int 0)] = [((.inr "great" : Key), V.ref ag), (.inr "small", .ref b), (.inr "turn", .int 0)] := by
        have e1 : ("great" : Str) ≠ "small" := by decide
        have e2 : ("great" : Str) ≠ "turn" := by decide
        have e3 : ("small" : Str) ≠ "turn" := by decide
        simp [mergeK, putK, e1, e2, e3]
      rw [em]
      refine q d [d, ag, b] _ (fun x o e => ?_) ⟨ag, b, 0, gr, shOp c0 sm, rfl, ⟨nda, ndb, nab⟩, upd_same, by rw [upd_ne (Ne.symm nda)]; exact hg6, by rw [upd_ne (Ne.symm ndb)]; exact hb6, ?_, hgr⟩
      · have e4 := s4.gw.hp x o e List.not_mem_nil
        have nd : x ≠ d := fun z => by subst z; rw [hd] at e4; cases e4
        rw [upd_ne nd]
        exact g6.hp x o (by rw [upd_ne nd]; exact e4) List.not_mem_nil
      · unfold shOp
        split
        · simp
        · assumption
    · cases z
end
end Ef

end

section
set_option autoImplicit false
namespace Ef
open PySem L2 PySem.Spec PyProof.Rows
def spOpen (K : PySem.W.Frag) : Pr := fun vs H Q => ∃ a ns, vs = [.ref a] ∧ SqL K H a (List.map V.int ns) ∧ ∀ p fp H', (∀ b o, H b = some o → H' b = some o) → hereD p fp H' → Q (.ref p) H'
def spLaw (K : PySem.W.Frag) : Pr := fun vs H Q => ∃ a ns, vs = [.ref a] ∧ SqL K H a (List.map V.int ns) ∧ ∀ H', Q (.bl true) H'
section
variable {P : Program} {w : World} {K : PySem.W.Frag} {mg : Str → Option Value} {base : Heap} {T : BoxT} {G : Gm} {k : Nat}
theorem scope_O : FnScope nO ["_law_script"] scO := ⟨rfl, rfl, rfl, by decide +kernel, rfl, by decide +kernel, by decide +kernel⟩
theorem open_R {x qual : Str} {params : Arguments} {f : Addr} {fd : FuncData} {p : Nat → Pos} {m c0 : Int} {dvs : List V} {kws : List (Str × V)} (F : FunD K x qual params (openBody m c0 p) scO dvs kws f fd) (hm : 0 ≤ m ∧ m ≤ 64) (M : Md0 P w K mg base BoxD G k) : FnR P w K mg base (k + 1) f fd ["_law_script"] (spOpen K) := by
  refine fn_R F scope_O ?_ ?_
  · rintro vs H Q ⟨a, ns, rfl, _⟩
    rfl
  · rintro cdv A outer s H vs Q hr hg ⟨a, ns, rfl, hS, q⟩
    exact ⟨_, popen (gd_of scope_O M hr hg), open_pure hm hS q⟩
/-- the law's first statement -/
def chk0 (c : Ck) (j : Nat) : Stmt → Bool
  | .Assign [.Name x _] (.Call (.Name f _) [.Name y _] [] _) _ => stoB c j x && glbB c f && decide (f = "_law_opened") && visB c 0 y
  | _ => false
theorem inv0 {c : Ck} {j : Nat} {st : Stmt} (h : chk0 c j st = true) : ∃ x p1 p2 y p3 p4 p5, st = .Assign [.Name x p1] (.Call (.Name "_law_opened" p2) [.Name y p3] [] p4) p5 ∧ stoB c j x = true ∧ glbB c "_law_opened" = true ∧ visB c 0 y = true := by
  unfold chk0 at h
  split at h
  · rename_i x p1 f p2 y p3 p4 p5
    simp only [Bool.and_eq_true, decide_eq_true_eq] at h
    obtain ⟨⟨⟨h1, h2⟩, rfl⟩, h4⟩ := h
    exact ⟨_, _, _, _, _, _, _, rfl, h1, h2, h4⟩
  · cases h
def kLaw : Kn := ⟨fun _ => False, fun d => d = .bool true, fun _ => False, fun _ => False⟩
theorem law_R {x qual : Str} {params : Arguments} {s0 : Stmt} {rest : List Stmt} {scope : Scope} {f fo : Addr} {fd fdo : FuncData} {N : List Str} {dvs : List V} {kws : List (Str × V)} {ir : Sxs} {j : Nat} (F : FunD K x qual params (s0 :: rest) scope dvs kws f fd) (S : FnScope N ["_law_script"] scope) (M : Md0 P w K mg base BoxD G k)
    (O : FnR P w K mg base k fo fdo ["_law_script"] (spOpen K)) (hm : mg "_law_opened" = some (.ref fo)) (hk : PySem.W.keepIn K (.ref fo) = true) (hb : Binds K fdo ["_law_script"] []) (h0 : chk0 ⟨N, scope, scope⟩ j s0 = true) (hc : chkSs ⟨N, scope, scope⟩ ir rest = true) (hj : j < N.length) (hN : 0 < N.length)
    (hw : wpSs G ir ((List.replicate N.length .un).set j .box) kLaw) : FnR P w K mg base (k + 1) f fd ["_law_script"] (spLaw K) := by
  obtain ⟨x0, p1, p2, y, p3, p4, p5, rfl, h1, h2, h4⟩ := inv0 h0
  refine fn_R F S ?_ ?_
  · rintro vs H Q ⟨a, ns, rfl, _⟩
    rfl
  · rintro cdv A outer s H vs Q hr hg ⟨a, ns, rfl, hS, q⟩
    have g := gd_of (outer := outer) (H := H) S M hr hg
    obtain ⟨a1, a2, a3⟩ := g.sto h1
    obtain ⟨b1, b2, b3, b4⟩ := g.vis h4
    obtain ⟨c1, c2, c3⟩ := g.gl h2
    refine ⟨_, pss_cons (ps_set g.nd a1 a2 (pe_R O g.room g.grd c1 hm hk hb (pa_cons (pe_var b1 b2 b3 b4) pa_nil) rfl c2) rfl a3) (sSs ir g S.kind hc), ?_⟩
    refine ⟨.ref a, ?_, a, ns, rfl, hS, fun p fp H' kp here => ?_⟩
    · unfold L2.start
      rfl
    · refine ⟨some (p, fp), I0e, H', _, I0e, ⟨Gw.refl ⟨fun _ _ e => (nomatch e), fun a' fp' e => ?_, fun _ _ => rfl⟩, ?_, fun i s e => ?_, fun i i' s1 s2 d1 d2 hij e1 e2 m1 m2 => ?_, fun i kvs e => ?_⟩, wpSs_mono ir (K := kLaw) ⟨fun _ z => z.elim, fun d z v I' H'' g' dq => ?_, fun _ z => z.elim, fun _ z => z.elim⟩ hw⟩
      · cases e; exact here
      · simp [L2.start]; omega
      · rw [List.getElem?_set] at e
        split at e
        · rename_i hji
          subst hji
          split at e
          · cases e
            refine ⟨p, fp, rfl, ?_⟩
            rw [List.getElem?_set]
            simp [L2.start]
            omega
          · cases e
        · rw [List.getElem?_replicate] at e
          split at e
          · cases e; trivial
          · cases e
      · rw [List.getElem?_set] at e1
        split at e1
        · split at e1
          · cases e1; cases m1
          · cases e1
        · rw [List.getElem?_replicate] at e1
          split at e1
          · cases e1; cases m1
          · cases e1
      · rw [List.getElem?_set] at e
        split at e
        · split at e
          · cases e
          · cases e
        · rw [List.getElem?_replicate] at e
          split at e
          · cases e
          · cases e
      · subst z
        cases dq.blE
        exact q _
/-! ### contracts gathered -/
def lk (tb : List (String × Con)) (f : String) : Option Con := match tb with
  | [] => none
  | (x, c) :: r => if f = x then some c else lk r f
theorem Md0.up {j : Nat} (M : Md0 P w K mg base T G j) (h : j ≤ k) : Md0 P w K mg base T G k := ⟨fun f d e => (M.con f d e).mono h, M.glb, fun f d d0 kw e => (M.kc f d d0 kw e).mono h, M.blt⟩
def lkk (tb : List (String × Con × PyData × String)) (f : String) : Option (Con × PyData × String) := match tb with
  | [] => none
  | (x, c) :: r => if f = x then some c else lkk r f
theorem Md0.addk {tb : List (String × Con)} {tk : List (String × Con × PyData × String)} {gl : String → Option PyData} {x kw : String} {c : Con} {d0 : PyData} (M : Md0 P w K mg base T ⟨lk tb, gl, lkk tk⟩ k) (h : Kal P w K mg base T k (Str.ofString x) c d0 (Str.ofString kw)) : Md0 P w K mg base T ⟨lk tb, gl, lkk ((x, c, d0, kw) :: tk)⟩ k := by
  refine ⟨M.con, M.glb, fun f d d0' kw' e => ?_, M.blt⟩
  simp only [lkk] at e
  split at e
  · cases e
    rename_i z
    rw [z]; exact h
  · exact M.kc f d d0' kw' e
theorem Md0.add {tb : List (String × Con)} {tk : List (String × Con × PyData × String)} {gl : String → Option PyData} {x : String} {c : Con} (M : Md0 P w K mg base T ⟨lk tb, gl, lkk tk⟩ k) (h : Cal P w K mg base T k (Str.ofString x) c) : Md0 P w K mg base T ⟨lk ((x, c) :: tb), gl, lkk tk⟩ k := by
  refine ⟨fun f d e => ?_, M.glb, M.kc, M.blt⟩
  simp only [lk] at e
  split at e
  · cases e
    rename_i z
    rw [z]; exact h
  · exact M.con f d e
/-! ### a def with one keyword-only parameter that has a default -/
theorem kbn_of {x qual kw : Str} {params : Arguments} {body : List Stmt} {scope : Scope} {kws : List (Str × V)} {f : Addr} {fd : FuncData} {ps : List Str} {n : Nat} (F : FunD K x qual params body scope [] kws f fd)
    (h : ∀ (kV doc pm : Value) (an : Option Addr) (cdv ct : Value) (us : List Value) (w : Value), us.length = n → bindArgs (PySem.W.fnOf x qual params body scope .none kV doc pm an cdv ct) ⟨us, [(kw, w)]⟩ = pure (ps.zip (us ++ [w]))) : KBn K fd ps n [kw] (fun us ws => us ++ ws) (fun vs zs => vs ++ zs) := by
  obtain ⟨oc, od, dV, kV, doc, pm, an, cdv, ct, osl, rfl, lk, hcd, hD, hK⟩ := F.ex
  rcases hD with ⟨_, rfl⟩ | ⟨e, _⟩
  · refine ⟨fun s us ws X l1 l2 => ?_, fun r1 r2 => r1.append r2⟩
    match ws, l2 with
    | [w], _ => exact .of_eq (h kV doc pm an cdv ct us w l1)
  · exact absurd rfl e
theorem kal_of {x : String} {qual kw : Str} {nm : Str} {params : Arguments} {body : List Stmt} {scope : Scope} {dv : V} {f : Addr} {fd : FuncData} {ps : List Str} {n : Nat} {c : Con} {d0 : PyData} (F : FunD K nm qual params body scope [] [(kw, dv)] f fd) (hg : mg (Str.ofString x) = some (.ref f)) (G' : FnG P w K mg base T k f fd ps c) (hl : ps.length = n + 1) (hd : ∀ I, Dq K I dv d0)
    (h0 : ∀ (D : Addr) (doc pm : Value) (an : Option Addr) (cdv ct : Value) (us ks : List Value), us.length = n → ks.length = 1 → KwChain D (([(kw, dv)].map (·.1)).zip ks) (bindArgs (PySem.W.fnOf nm qual params body scope .none (.ref D) doc pm an cdv ct) ⟨us, []⟩) (ps.zip (us ++ ks)))
    (h1 : ∀ (kV doc pm : Value) (an : Option Addr) (cdv ct : Value) (us : List Value) (w : Value), us.length = n → bindArgs (PySem.W.fnOf nm qual params body scope .none kV doc pm an cdv ct) ⟨us, [(kw, w)]⟩ = pure (ps.zip (us ++ [w]))) : Kal P w K mg base T k (Str.ofString x) c d0 kw := by
  obtain ⟨ds, r, b⟩ := FunD.binds0 (ps := ps) F n (by simp) (by simp [hl]) h0
  exact ⟨f, fd, ps, n, hg, F.kp, G', hl, ⟨ds, dv, b, r, hd⟩, kbn_of F h1⟩
def lkg (tb : List (String × Int)) (x : String) : Option PyData := match tb with
  | [] => none
  | (y, i) :: r => if x = y then some (.int i) else lkg r x
theorem glb_of {tb : List (String × Int)} (h : ∀ p ∈ tb, ∃ t, mg (Str.ofString p.1) = some (.int p.2 t)) : ∀ x d, lkg tb x = some d → ∃ u v, mg (Str.ofString x) = some u ∧ RelV v u ∧ ∀ I, Dq K I v d := by
  induction tb with
  | nil => intro x d e; cases e
  | cons p r ih =>
    obtain ⟨y, i⟩ := p
    intro x d e
    simp only [lkg] at e
    split at e
    · rename_i z
      cases e
      subst z
      obtain ⟨t, ht⟩ := h (x, i) (by simp)
      exact ⟨_, .int i, ht, ⟨t, rfl⟩, fun I => .int i⟩
    · exact ih (fun q hq => h q (by simp [hq])) x d e
end
end Ef

end

section
set_option autoImplicit false
namespace Ef
open PySem L2 PySem.Spec PyProof.Rows
/-! ### loops over data -/
theorem comp_fun {tg : Tg} {fc : Rho → (Bool → Prop) → Prop} {fe : Rho → (PyData → Prop) → Prop} {ρ : Rho} {Q : List PyData → Prop} (F : PyData → Option PyData) :
    ∀ {ds acc : List PyData}, (∀ d ∈ ds, ∀ R : Option PyData → Prop, R (F d) → asg tg d ρ fun ρ' => fc ρ' fun b => if b = true then fe ρ' fun y => R (some y) else R none) → acc.length + ds.length ≤ sizeLine → Q (acc ++ ds.filterMap F) → wpComp tg fc fe ρ ds acc Q
  | [], acc, h, hl, q => by simpa [wpComp] using q
  | d :: ds, acc, h, hl, q => by
    have hl' : acc.length + (ds.length + 1) ≤ sizeLine := by simpa using hl
    have h' : ∀ d ∈ ds, ∀ R : Option PyData → Prop, R (F d) → asg tg d ρ fun ρ' => fc ρ' fun b => if b = true then fe ρ' fun y => R (some y) else R none := fun d hd => h d (List.mem_cons_of_mem _ hd)
    have := h d List.mem_cons_self (fun o => match o with
      | some y => acc.length < sizeLine ∧ wpComp tg fc fe ρ ds (acc ++ [y]) Q
      | none => wpComp tg fc fe ρ ds acc Q) (by
        cases e : F d with
        | none => exact comp_fun F h' (by omega) (by simpa [e] using q)
        | some y => exact ⟨by omega, comp_fun F h' (by simp; omega) (by simpa [e] using q)⟩)
    exact this
theorem comp_all {tg : Tg} {fc : Rho → (Bool → Prop) → Prop} {fe : Rho → (PyData → Prop) → Prop} {ρ : Rho} {Q : List PyData → Prop} (V : PyData → Prop) :
    ∀ {ds acc : List PyData}, (∀ d ∈ ds, ∀ R : PyData → Prop, (∀ y, V y → R y) → asg tg d ρ fun ρ' => fc ρ' fun b => if b = true then fe ρ' R else False) → acc.length + ds.length ≤ sizeLine → (∀ ys : List PyData, ys.length = ds.length → (∀ y ∈ ys, V y) → Q (acc ++ ys)) →
      (∀ d (R S : Rho → Prop), (∀ r, R r → S r) → asg tg d ρ R → asg tg d ρ S) → (∀ r (R S : Bool → Prop), (∀ b, R b → S b) → fc r R → fc r S) → wpComp tg fc fe ρ ds acc Q
  | [], acc, h, hl, q, _, _ => by simpa [wpComp] using q [] rfl (by simp)
  | d :: ds, acc, h, hl, q, ma, mc => by
    have hl' : acc.length + (ds.length + 1) ≤ sizeLine := by simpa using hl
    have h' := h d List.mem_cons_self (fun y => acc.length < sizeLine ∧ wpComp tg fc fe ρ ds (acc ++ [y]) Q) fun y hy => ⟨by omega, comp_all V (fun e he => h e (List.mem_cons_of_mem _ he)) (by simp; omega) (fun ys h1 h2 => by
      have := q (y :: ys) (by simp [h1]) (fun z hz => by
        rcases List.mem_cons.mp hz with rfl | hz
        · exact hy
        · exact h2 z hz)
      simpa using this) ma mc⟩
    refine ma d _ _ (fun r z => mc r _ _ (fun b z => ?_) z) h'
    cases b with
    | true => exact z
    | false => exact (show False from z).elim
theorem comp2_fun {tg : Tg} {fc : Rho → (Bool → Prop) → Prop} {inn : Rho → List PyData → (List PyData → Prop) → Prop} {ρ : Rho} {Q : List PyData → Prop} (F : PyData → List PyData) :
    ∀ {ds acc : List PyData}, (∀ d ∈ ds, ∀ acc (R : List PyData → Prop), acc.length + (F d).length ≤ sizeLine → R (acc ++ F d) → asg tg d ρ fun ρ' => fc ρ' fun b => if b = true then inn ρ' acc R else R acc) → acc.length + (ds.flatMap F).length ≤ sizeLine → Q (acc ++ ds.flatMap F) → wpComp2 tg fc inn ρ ds acc Q
  | [], acc, h, hl, q => by simpa [wpComp2] using q
  | d :: ds, acc, h, hl, q => by
    have hl' : acc.length + ((F d).length + (ds.flatMap F).length) ≤ sizeLine := by simpa [List.flatMap_cons] using hl
    exact h d List.mem_cons_self acc (fun acc' => wpComp2 tg fc inn ρ ds acc' Q) (by omega) (comp2_fun F (fun e he => h e (List.mem_cons_of_mem _ he)) (by simp only [List.length_append]; omega) (by simpa [List.flatMap_cons] using q))
/-- a loop, by what has been gone through -/
theorem for_inv {tg : Tg} {body : Rho → Kn → Prop} {K : Kn} (Inv : List PyData → Rho → Prop) (ma : ∀ d r (R S : Rho → Prop), (∀ r, R r → S r) → asg tg d r R → asg tg d r S) (mb : ∀ r (K K' : Kn), K.Le K' → body r K → body r K') :
    ∀ {ds pre : List PyData} {ρ : Rho}, Inv pre ρ → (∀ p d q r, pre ++ ds = p ++ d :: q → Inv p r → asg tg d r fun ρ' => body ρ' ⟨Inv (p ++ [d]), K.rt, K.nx, Inv (p ++ [d])⟩) → (∀ r, Inv (pre ++ ds) r → K.nx r) → wpFor tg body ds ρ K
  | [], pre, ρ, h0, hs, hf => by
    simp only [wpFor]
    exact hf ρ (by simpa using h0)
  | d :: ds, pre, ρ, h0, hs, hf => by
    simp only [wpFor]
    have next : ∀ r, Inv (pre ++ [d]) r → wpFor tg body ds r K := fun r hr => for_inv Inv ma mb hr (fun p e q r' he => hs p e q r' (by simpa using he)) (fun r' hr' => hf r' (by simpa using hr'))
    exact ma d ρ _ _ (fun r z => mb r ⟨Inv (pre ++ [d]), K.rt, K.nx, Inv (pre ++ [d])⟩ _ ⟨next, fun _ z => z, fun _ z => z, next⟩ z) (hs pre d ds ρ rfl h0)
theorem asg_mono' (tg : Tg) (d : PyData) (r : Rho) (R S : Rho → Prop) (h : ∀ r, R r → S r) (q : asg tg d r R) : asg tg d r S := by
  unfold asg at *
  split at q
  · exact h _ q
  · exact ⟨q.1, h _ q.2⟩
  · exact ⟨q.1, h _ q.2⟩
  · exact q.elim
theorem ss_mono' (G : Gm) (b : Sxs) (r : Rho) (K K' : Kn) (h : K.Le K') (q : wpSs G b r K) : wpSs G b r K' := wpSs_mono b h q
/-- a loop over data with names in place -/
theorem for_wp {G : Gm} {tg : Tg} {b : Sxs} {K : Kn} {ds : List PyData} {ρ : Rho} (Inv : List PyData → Rho → Prop) (h0 : Inv [] ρ) (hs : ∀ p d q r, ds = p ++ d :: q → Inv p r → asg tg d r fun ρ' => wpSs G b ρ' ⟨Inv (p ++ [d]), K.rt, K.nx, Inv (p ++ [d])⟩) (hf : ∀ r, Inv ds r → K.nx r) : wpFor tg (wpSs G b) ds ρ K :=
  for_inv Inv (fun d r R S => asg_mono' tg d r R S) (fun r K K' => ss_mono' G b r K K') h0 (fun p d q r e => hs p d q r (by simpa using e)) (by simpa using hf)
/-! ### data -/
theorem at_map {α β : Type} (f : α → β) (l : List α) (i : Nat) (h : i < l.length) : atI (l.map f) (i : Int) = some (f l[i]) := by
  unfold atI ixN
  rw [if_pos (by omega), if_pos (by rw [List.length_map]; omega)]
  simp [h]
theorem at_nat {α : Type} (l : List α) (i : Nat) (h : i < l.length) : atI l (i : Int) = some l[i] := by
  unfold atI ixN
  rw [if_pos (by omega), if_pos (by omega)]
  simp [h]
theorem int_inj : ∀ {a b : List Int}, a.map PyData.int = b.map PyData.int → a = b := fun {a b} h => by
  have : Function.Injective PyData.int := fun x y e => by cases e; rfl
  exact (List.map_inj_right (fun x y e => this e)).mp h
theorem tI_inj {a b : List Int} (h : tI a = tI b) : a = b := int_inj (by simpa [tI] using h)
def oD : Option Int → PyData
  | none => .none
  | some i => .int i
theorem oD_inj {a b : Option Int} (h : oD a = oD b) : a = b := by cases a <;> cases b <;> simp_all [oD]
structure Lk where
  s : Nat
  t : Nat
  tb : List (Option Int)
  g : Int
def lD (l : Lk) : PyData := .tuple [.int (l.s : Nat), .int (l.t : Nat), .tuple (l.tb.map oD), .int l.g]
theorem lD_inj {a b : Lk} (h : lD a = lD b) : a = b := by
  cases a; cases b
  simp only [lD, PyData.tuple.injEq, List.cons.injEq, PyData.int.injEq, and_true] at h
  obtain ⟨h1, h2, h3, h4⟩ := h
  have := (List.map_inj_right (fun x y e => oD_inj e)).mp h3
  simp only [Lk.mk.injEq]
  exact ⟨by omega, by omega, this, h4⟩
def fo (sz : List Int) (ls : List Lk) : PyData := .tuple [tI sz, .tuple (ls.map lD)]
theorem fo_inj {a b : List Int} {c d : List Lk} (h : fo a c = fo b d) : a = b ∧ c = d := by
  simp only [fo, PyData.tuple.injEq, List.cons.injEq, and_true] at h
  exact ⟨tI_inj h.1, (List.map_inj_right (fun x y e => lD_inj e)).mp h.2⟩
/-! ### rules for rewriting -/
theorem rw_b_ii (i j : Int) {Q : PyData → Prop} : binW .Add (.int i) (.int j) Q = Q (.int (i + j)) := rfl
theorem rw_b_tt (x y : List PyData) {Q : PyData → Prop} : binW .Add (.tuple x) (.tuple y) Q = (x.length + y.length ≤ sizeLine ∧ Q (.tuple (x ++ y))) := rfl
theorem rw_b_ll (x y : List PyData) {Q : PyData → Prop} : binW .Add (.list x) (.list y) Q = (x.length + y.length ≤ sizeLine ∧ Q (.list (x ++ y))) := rfl
theorem rw_b_ss (x y : Str) {Q : PyData → Prop} : binW .Add (.str x) (.str y) Q = (x.length + y.length ≤ sizeLine ∧ Q (.str (x ++ y))) := rfl
theorem rw_b_sub (i j : Int) {Q : PyData → Prop} : binW .Sub (.int i) (.int j) Q = Q (.int (i - j)) := rfl
theorem rw_b_mul (i j : Int) {Q : PyData → Prop} : binW .Mult (.int i) (.int j) Q = (CMul i j ∧ Q (.int (i * j))) := rfl
theorem rw_b_mt (x : List PyData) (k : Int) {Q : PyData → Prop} : binW .Mult (.tuple x) (.int k) Q = (CRep x k ∧ Q (.tuple (List.replicate k.toNat x).flatten)) := rfl
theorem rw_b_ml (x : List PyData) (k : Int) {Q : PyData → Prop} : binW .Mult (.list x) (.int k) Q = (-(2 ^ 63) ≤ k ∧ k < 2 ^ 63 ∧ x.length * k.toNat ≤ sizeLine ∧ Q (.list (List.replicate k.toNat x).flatten)) := rfl
theorem rw_b_fd (i j : Int) {Q : PyData → Prop} : binW .FloorDiv (.int i) (.int j) Q = ((0 < j ∧ j < 2 ^ 64) ∧ Q (.int (i / j))) := rfl
theorem rw_b_mod (i j : Int) {Q : PyData → Prop} : binW .Mod (.int i) (.int j) Q = (0 < j ∧ Q (.int (i % j))) := rfl
theorem rw_b_pow (i j : Int) {Q : PyData → Prop} : binW .Pow (.int i) (.int j) Q = (CPow i j ∧ Q (.int (i ^ j.toNat))) := rfl
theorem rw_c_eq (d e : PyData) {Q : PyData → Prop} : cmpW .Eq d e Q = (eqOk d e = true ∧ Q (.bool (PyData.eqv d e))) := by cases d <;> rfl
theorem rw_c_ne (d e : PyData) {Q : PyData → Prop} : cmpW .NotEq d e Q = (eqOk d e = true ∧ Q (.bool (!PyData.eqv d e))) := by cases d <;> rfl
theorem rw_c_lt (i j : Int) {Q : PyData → Prop} : cmpW .Lt (.int i) (.int j) Q = Q (.bool (decide (i < j))) := rfl
theorem rw_c_le (i j : Int) {Q : PyData → Prop} : cmpW .LtE (.int i) (.int j) Q = Q (.bool (decide (i ≤ j))) := rfl
theorem rw_c_gt (i j : Int) {Q : PyData → Prop} : cmpW .Gt (.int i) (.int j) Q = Q (.bool (decide (j < i))) := rfl
theorem rw_c_ge (i j : Int) {Q : PyData → Prop} : cmpW .GtE (.int i) (.int j) Q = Q (.bool (decide (j ≤ i))) := rfl
theorem rw_c_is (d : PyData) {Q : PyData → Prop} : cmpW .Is d .none Q = Q (.bool (isNoneD d)) := by cases d <;> rfl
theorem rw_c_isn (d : PyData) {Q : PyData → Prop} : cmpW .IsNot d .none Q = Q (.bool (!isNoneD d)) := by cases d <;> rfl
theorem rw_c_inl (d : PyData) (x : List PyData) {Q : PyData → Prop} : cmpW .In d (.list x) Q = (SeqAt.shaped d = true ∧ SeqAt.shaped (.list x) = true ∧ Q (.bool (x.any fun z => PyData.eqv z d))) := by cases d <;> rfl
theorem rw_c_int (d : PyData) (x : List PyData) {Q : PyData → Prop} : cmpW .In d (.tuple x) Q = (SeqAt.shaped d = true ∧ SeqAt.shaped (.tuple x) = true ∧ Q (.bool (x.any fun z => PyData.eqv z d))) := by cases d <;> rfl
theorem rw_c_ninl (d : PyData) (x : List PyData) {Q : PyData → Prop} : cmpW .NotIn d (.list x) Q = (SeqAt.shaped d = true ∧ SeqAt.shaped (.list x) = true ∧ Q (.bool (!x.any fun z => PyData.eqv z d))) := by cases d <;> rfl
theorem rw_c_nint (d : PyData) (x : List PyData) {Q : PyData → Prop} : cmpW .NotIn d (.tuple x) Q = (SeqAt.shaped d = true ∧ SeqAt.shaped (.tuple x) = true ∧ Q (.bool (!x.any fun z => PyData.eqv z d))) := by cases d <;> rfl
theorem rw_n_i (i : Int) {Q : PyData → Prop} : negW (.int i) Q = Q (.int (-i)) := rfl
theorem rw_so_l (x : List PyData) : slOf (.list x) = .own x := rfl
theorem rw_so_d (x : List (PyData × PyData)) : slOf (.dict x) = .dic x := rfl
theorem rw_fr_l (x : List PyData) : (frD (.list x) = true) = True := eq_true rfl
theorem rw_fr_d (x : List (PyData × PyData)) : (frD (.dict x) = true) = True := eq_true rfl
theorem rw_c_ind (k : PyData) (x : List (PyData × PyData)) {Q : PyData → Prop} : cmpW .In k (.dict x) Q = (keyFor x k = true ∧ Q (.bool (lookD x k).isSome)) := by cases k <;> rfl
theorem rw_c_nind (k : PyData) (x : List (PyData × PyData)) {Q : PyData → Prop} : cmpW .NotIn k (.dict x) Q = (keyFor x k = true ∧ Q (.bool (!(lookD x k).isSome))) := by cases k <;> rfl
theorem rw_ix_d (k : PyData) (x : List (PyData × PyData)) {Q : PyData → Prop} : idxW (.dict x) k Q = (keyFor x k = true ∧ ∃ z, lookD x k = some z ∧ Q z) := by cases k <;> rfl
theorem rw_t_len_d (x : List (PyData × PyData)) {Q : PyData → Prop} : bltW .len [.dict x] Q = Q (.int (x.length : Nat)) := rfl
theorem rw_t_list_d (x : List (PyData × PyData)) {Q : PyData → Prop} : bltW .list [.dict x] Q = ((x.all fun p => keyN p.1) = true ∧ Q (.list (x.map (·.1)))) := rfl
theorem rw_k_l (x : List PyData) : walkOf (.list x) = some x := rfl
theorem rw_k_t (x : List PyData) : walkOf (.tuple x) = some x := rfl
theorem rw_k_it (f : List Int) : walkOf (tI f) = some (f.map PyData.int) := rfl
theorem rw_kb (i : Int) : (keyB (.int i) = true) = True := eq_true rfl
theorem rw_ix_t (x : List PyData) (k : Int) {Q : PyData → Prop} : idxW (.tuple x) (.int k) Q = ∃ z, atI x k = some z ∧ Q z := rfl
theorem rw_ix_l (x : List PyData) (k : Int) {Q : PyData → Prop} : idxW (.list x) (.int k) Q = ∃ z, atI x k = some z ∧ Q z := rfl
theorem rw_sl_t (x : List PyData) (l h : Option Int) {Q : PyData → Prop} : slcW (.tuple x) l h Q = Q (.tuple (cutD x l h)) := rfl
theorem rw_sl_l (x : List PyData) (l h : Option Int) {Q : PyData → Prop} : slcW (.list x) l h Q = Q (.list (cutD x l h)) := rfl
theorem rw_t_len_l (x : List PyData) {Q : PyData → Prop} : bltW .len [.list x] Q = Q (.int (x.length : Nat)) := rfl
theorem rw_t_len_t (x : List PyData) {Q : PyData → Prop} : bltW .len [.tuple x] Q = Q (.int (x.length : Nat)) := rfl
theorem rw_t_abs (i : Int) {Q : PyData → Prop} : bltW .abs [.int i] Q = Q (.int (if i < 0 then -i else i)) := rfl
theorem rw_t_int (i : Int) {Q : PyData → Prop} : bltW .int [.int i] Q = Q (.int i) := rfl
theorem rw_t_intb (b : Bool) {Q : PyData → Prop} : bltW .int [.bool b] Q = Q (.int (if b then 1 else 0)) := rfl
theorem rw_t_bool (i : Int) {Q : PyData → Prop} : bltW .bool [.int i] Q = Q (.bool (i != 0)) := rfl
theorem rw_t_boolb (b : Bool) {Q : PyData → Prop} : bltW .bool [.bool b] Q = Q (.bool b) := rfl
theorem rw_t_tuple_l (x : List PyData) {Q : PyData → Prop} : bltW .tuple [.list x] Q = Q (.tuple x) := rfl
theorem rw_t_tuple_t (x : List PyData) {Q : PyData → Prop} : bltW .tuple [.tuple x] Q = Q (.tuple x) := rfl
theorem rw_t_list_l (x : List PyData) {Q : PyData → Prop} : bltW .list [.list x] Q = Q (.list x) := rfl
theorem rw_t_list_t (x : List PyData) {Q : PyData → Prop} : bltW .list [.tuple x] Q = Q (.list x) := rfl
theorem rw_t_repr (d : PyData) {Q : PyData → Prop} : bltW .repr [d] Q = (d.showable = true ∧ rpB d = true ∧ d.shown.length ≤ sizeLine ∧ Q (.str d.shown)) := by cases d <;> rfl
theorem rw_t_all (x : List PyData) {Q : PyData → Prop} : bltW .all [.list x] Q = ∃ bs : List Bool, x = bs.map .bool ∧ Q (.bool (bs.all id)) := rfl
theorem rw_t_any (x : List PyData) {Q : PyData → Prop} : bltW .any [.list x] Q = ∃ bs : List Bool, x = bs.map .bool ∧ Q (.bool (bs.any id)) := rfl
theorem rw_t_min (i j : Int) {Q : PyData → Prop} : bltW .min [.int i, .int j] Q = Q (.int (if j < i then j else i)) := rfl
theorem rw_t_max (i j : Int) {Q : PyData → Prop} : bltW .max [.int i, .int j] Q = Q (.int (if i < j then j else i)) := rfl
theorem rw_t_sum (x : List PyData) {Q : PyData → Prop} : bltW .sum [.list x] Q = ∃ ns : List Int, x = ns.map .int ∧ Q (.int ns.sum) := rfl
theorem rw_t_sumT (x : List PyData) {Q : PyData → Prop} : bltW .sum [.tuple x] Q = ∃ ns : List Int, x = ns.map .int ∧ Q (.int ns.sum) := rfl
theorem rw_a_nm (i : Nat) (d : PyData) (r : Rho) {Q : Rho → Prop} : asg (.nm i) d r Q = Q (r.set i (.dat d)) := rfl
theorem rw_a_tp (js : List Nat) (ds : List PyData) (r : Rho) {Q : Rho → Prop} : asg (.tp js) (.tuple ds) r Q = (ds.length = js.length ∧ Q (setAll r js ds)) := rfl
theorem rw_i_l (x : List PyData) : itemsOf (.list x) = some x := rfl
theorem rw_i_t (x : List PyData) : itemsOf (.tuple x) = some x := rfl
theorem rw_u_bl (b : Bool) : truD (.bool b) = some b := rfl
theorem rw_u_i (i : Int) : truD (.int i) = some (i != 0) := rfl
theorem rw_u_l (x : List PyData) : truD (.list x) = some (!x.isEmpty) := rfl
theorem rw_u_t (x : List PyData) : truD (.tuple x) = some (!x.isEmpty) := rfl
theorem rw_u_n : truD .none = some false := rfl
theorem rw_w_fo0 (sz : List Int) (ls : List Lk) {Q : PyData → Prop} : idxW (fo sz ls) (.int 0) Q = Q (tI sz) := propext ⟨fun ⟨z, e, h⟩ => by cases e; exact h, fun h => ⟨_, rfl, h⟩⟩
theorem rw_w_fo1 (sz : List Int) (ls : List Lk) {Q : PyData → Prop} : idxW (fo sz ls) (.int 1) Q = Q (.tuple (ls.map lD)) := propext ⟨fun ⟨z, e, h⟩ => by cases e; exact h, fun h => ⟨_, rfl, h⟩⟩
theorem rw_w_tI (f : List Int) (k : Int) {Q : PyData → Prop} : idxW (tI f) (.int k) Q = ∃ z, atI (f.map PyData.int) k = some z ∧ Q z := rfl
theorem rw_w_len (f : List Int) {Q : PyData → Prop} : bltW .len [tI f] Q = Q (.int (f.length : Nat)) := by simp [tI, bltW]
theorem rw_w_tt (f : List Int) {Q : PyData → Prop} : bltW .tuple [tI f] Q = Q (tI f) := rfl
theorem rw_w_it (f : List Int) : itemsOf (tI f) = some (f.map PyData.int) := rfl
theorem rw_w_add1 (f : List Int) (v : Int) {Q : PyData → Prop} : binW .Add (tI f) (.tuple [.int v]) Q = (f.length + 1 ≤ sizeLine ∧ Q (tI (f ++ [v]))) := by simp [tI, binW]
theorem rw_g_0 (x : Sl) (l : List Sl) (d : Sl) : (x :: l).getD 0 d = x := rfl
theorem rw_g_s (x : Sl) (l : List Sl) (n : Nat) (d : Sl) : (x :: l).getD (n + 1) d = l.getD n d := rfl
end Ef

end

section
set_option autoImplicit false
namespace Ef
open PySem L2 PySem.Spec PyProof.Rows
/-! ### more rules -/
theorem rw_c_eqi (i j : Int) {Q : PyData → Prop} : cmpW .Eq (.int i) (.int j) Q = Q (.bool (decide (i = j))) := by
  rw [rw_c_eq]
  have e : PyData.eqv (.int i) (.int j) = decide (i = j) := by simp only [PyData.eqv]; rw [Bool.eq_iff_iff]; simp
  rw [e]
  exact propext ⟨fun h => h.2, fun h => ⟨rfl, h⟩⟩
theorem rw_c_nei (i j : Int) {Q : PyData → Prop} : cmpW .NotEq (.int i) (.int j) Q = Q (.bool (!decide (i = j))) := by
  rw [rw_c_ne]
  have e : PyData.eqv (.int i) (.int j) = decide (i = j) := by simp only [PyData.eqv]; rw [Bool.eq_iff_iff]; simp
  rw [e]
  exact propext ⟨fun h => h.2, fun h => ⟨rfl, h⟩⟩
theorem rw_c_eqn (i : Int) {Q : PyData → Prop} : cmpW .Eq .none (.int i) Q = Q (.bool false) := by
  rw [rw_c_eq]
  exact propext ⟨fun h => h.2, fun h => ⟨rfl, h⟩⟩
theorem shp_str {x : Str} (h : PyData.strOk x = true) : SeqAt.shaped (.str x) = true := by simp [SeqAt.shaped, PyData.canLay0, h, PyData.depth]
theorem rw_c_eqs (x y : String) {Q : PyData → Prop} : cmpW .Eq (.str (Str.ofString x)) (.str (Str.ofString y)) Q = (PyData.strOk (Str.ofString x) = true ∧ PyData.strOk (Str.ofString y) = true ∧ Q (.bool (decide (Str.ofString x = Str.ofString y)))) := by
  rw [rw_c_eq]
  have e : PyData.eqv (.str (Str.ofString x)) (.str (Str.ofString y)) = decide (Str.ofString x = Str.ofString y) := by simp only [PyData.eqv]; rw [Bool.eq_iff_iff]; simp
  rw [e]
  simp [eqOk, nilSame, SeqAt.shaped, PyData.canLay0, PyData.depth, and_assoc]
theorem rw_c_nes (x y : String) {Q : PyData → Prop} : cmpW .NotEq (.str (Str.ofString x)) (.str (Str.ofString y)) Q = (PyData.strOk (Str.ofString x) = true ∧ PyData.strOk (Str.ofString y) = true ∧ Q (.bool (!decide (Str.ofString x = Str.ofString y)))) := by
  rw [rw_c_ne]
  have e : PyData.eqv (.str (Str.ofString x)) (.str (Str.ofString y)) = decide (Str.ofString x = Str.ofString y) := by simp only [PyData.eqv]; rw [Bool.eq_iff_iff]; simp
  rw [e]
  simp [eqOk, nilSame, SeqAt.shaped, PyData.canLay0, PyData.depth, and_assoc]
theorem rw_c_isb (a b : Bool) {Q : PyData → Prop} : cmpW .Is (.bool a) (.bool b) Q = Q (.bool (decide (a = b))) := rfl
theorem rw_c_isnb (a b : Bool) {Q : PyData → Prop} : cmpW .IsNot (.bool a) (.bool b) Q = Q (.bool (!decide (a = b))) := rfl
theorem rw_isN_none : isNoneD .none = true := rfl
theorem rw_isN_int (i : Int) : isNoneD (.int i) = false := rfl
theorem rw_isN_bool (i : Bool) : isNoneD (.bool i) = false := rfl
theorem rw_isN_tup (i : List PyData) : isNoneD (.tuple i) = false := rfl
theorem rw_lD0 (l : Lk) {Q : PyData → Prop} : idxW (lD l) (.int 0) Q = Q (.int (l.s : Nat)) := propext ⟨fun ⟨z, e, h⟩ => by cases e; exact h, fun h => ⟨_, rfl, h⟩⟩
theorem rw_lD1 (l : Lk) {Q : PyData → Prop} : idxW (lD l) (.int 1) Q = Q (.int (l.t : Nat)) := propext ⟨fun ⟨z, e, h⟩ => by cases e; exact h, fun h => ⟨_, rfl, h⟩⟩
theorem rw_lD2 (l : Lk) {Q : PyData → Prop} : idxW (lD l) (.int 2) Q = Q (.tuple (l.tb.map oD)) := propext ⟨fun ⟨z, e, h⟩ => by cases e; exact h, fun h => ⟨_, rfl, h⟩⟩
theorem rw_lD3 (l : Lk) {Q : PyData → Prop} : idxW (lD l) (.int 3) Q = Q (.int l.g) := propext ⟨fun ⟨z, e, h⟩ => by cases e; exact h, fun h => ⟨_, rfl, h⟩⟩
theorem rw_a_lD (l : Lk) (a b c d : Nat) (r : Rho) {Q : Rho → Prop} : asg (.tp [a, b, c, d]) (lD l) r Q = Q ((((r.set a (.dat (.int (l.s : Nat)))).set b (.dat (.int (l.t : Nat)))).set c (.dat (.tuple (l.tb.map oD)))).set d (.dat (.int l.g))) := propext ⟨fun h => h.2, fun h => ⟨rfl, h⟩⟩
theorem rw_sl0 : (([] : List PyData).length ≤ sizeLine) = True := by simp
theorem rw_sl1 (a : PyData) : ([a].length ≤ sizeLine) = True := by simp [sizeLine_eq]
theorem rw_sl2 (a b : PyData) : ([a, b].length ≤ sizeLine) = True := by simp [sizeLine_eq]
theorem rw_sl3 (a b c : PyData) : ([a, b, c].length ≤ sizeLine) = True := by simp [sizeLine_eq]
theorem rw_sl4 (a b c d : PyData) : ([a, b, c, d].length ≤ sizeLine) = True := by simp [sizeLine_eq]
theorem rw_sl5 (a b c d e : PyData) : ([a, b, c, d, e].length ≤ sizeLine) = True := by simp [sizeLine_eq]
theorem rw_sl6 (a b c d e f : PyData) : ([a, b, c, d, e, f].length ≤ sizeLine) = True := by simp [sizeLine_eq]
theorem rw_exb (b : Bool) {P : Bool → Prop} : (∃ k, PyData.bool b = .bool k ∧ P k) = P b := propext ⟨fun ⟨k, e, h⟩ => by cases e; exact h, fun h => ⟨_, rfl, h⟩⟩
theorem rw_exi (b : Int) {P : Int → Prop} : (∃ k, PyData.int b = .int k ∧ P k) = P b := propext ⟨fun ⟨k, e, h⟩ => by cases e; exact h, fun h => ⟨_, rfl, h⟩⟩
theorem rw_exl (b : List PyData) {P : List PyData → Prop} : (∃ k, PyData.list b = .list k ∧ P k) = P b := propext ⟨fun ⟨k, e, h⟩ => by cases e; exact h, fun h => ⟨_, rfl, h⟩⟩
theorem rw_ext (b : List PyData) {P : List PyData → Prop} : (∃ k, PyData.tuple b = .tuple k ∧ P k) = P b := propext ⟨fun ⟨k, e, h⟩ => by cases e; exact h, fun h => ⟨_, rfl, h⟩⟩
theorem rw_exo {α : Type} (b : α) {P : α → Prop} : (∃ k, some b = some k ∧ P k) = P b := propext ⟨fun ⟨k, e, h⟩ => by cases e; exact h, fun h => ⟨_, rfl, h⟩⟩
theorem rw_draw (n : Int) {Q : PyData → Prop} : (∃ a : conDraw.α, conDraw.pre a [.box, .dat (.int n)] ∧ ∀ r, conDraw.post a r → Q r) = ((0 < n ∧ n < 2 ^ 64) ∧ ∀ i : Int, 0 ≤ i → i < n → Q (.int i)) := by
  refine propext ⟨?_, ?_⟩
  · rintro ⟨a, ⟨e, h1, h2⟩, q⟩
    cases e
    exact ⟨⟨h1, h2⟩, fun i h3 h4 => q _ ⟨i, rfl, h3, h4⟩⟩
  · rintro ⟨⟨h1, h2⟩, q⟩
    refine ⟨n, ⟨rfl, h1, h2⟩, ?_⟩
    rintro r ⟨i, rfl, h3, h4⟩
    exact q i h3 h4
theorem rw_rg (n : Nat) : rgD 0 n = (List.range n).map fun v : Nat => PyData.int (v : Int) := by simp [rgD]
theorem rw_rg0 (n : Nat) : ((n : Nat) : Int).toNat = n := by simp
theorem rw_cno (G : Gm) (r : Rho) {Q : Bool → Prop} : wpC G .no r Q = Q true := by simp only [wpC]
theorem rw_cso (G : Gm) (e : Ex) (r : Rho) {Q : Bool → Prop} : wpC G (.so e) r Q = wpT G e r Q := by simp only [wpC]
theorem rw_a_t2 (x y : PyData) (a b : Nat) (r : Rho) {Q : Rho → Prop} : asg (.tp [a, b]) (.tuple [x, y]) r Q = Q ((r.set a (.dat x)).set b (.dat y)) := propext ⟨fun h => h.2, fun h => ⟨rfl, h⟩⟩
theorem rw_a_t3 (x y z : PyData) (a b c : Nat) (r : Rho) {Q : Rho → Prop} : asg (.tp [a, b, c]) (.tuple [x, y, z]) r Q = Q (((r.set a (.dat x)).set b (.dat y)).set c (.dat z)) := propext ⟨fun h => h.2, fun h => ⟨rfl, h⟩⟩
theorem rw_a_t4 (x y z w : PyData) (a b c d : Nat) (r : Rho) {Q : Rho → Prop} : asg (.tp [a, b, c, d]) (.tuple [x, y, z, w]) r Q = Q ((((r.set a (.dat x)).set b (.dat y)).set c (.dat z)).set d (.dat w)) := propext ⟨fun h => h.2, fun h => ⟨rfl, h⟩⟩
theorem wp_stp {G : Gm} {tg : Tg} {e : Ex} {r : Sxs} {ρ : Rho} {K : Kn} (h : wpE G e ρ fun d => asg tg d ρ fun ρ' => wpSs G r ρ' K) : wpSs G (.cons (.set tg e) r) ρ K := by
  simp only [wpSs, wpS]; exact h
/-! ### loops over typed data -/
theorem comp_ty {α : Type} {tg : Tg} {fc : Rho → (Bool → Prop) → Prop} {fe : Rho → (PyData → Prop) → Prop} {ρ : Rho} {Q : List PyData → Prop} (enc : α → PyData) (F : α → Option PyData) :
    ∀ {xs : List α} {acc : List PyData}, (∀ x ∈ xs, ∀ R : Option PyData → Prop, R (F x) → asg tg (enc x) ρ fun ρ' => fc ρ' fun b => if b = true then fe ρ' fun y => R (some y) else R none) → acc.length + xs.length ≤ sizeLine → Q (acc ++ xs.filterMap F) → wpComp tg fc fe ρ (xs.map enc) acc Q
  | [], acc, h, hl, q => by simpa [wpComp] using q
  | d :: ds, acc, h, hl, q => by
    have hl' : acc.length + (ds.length + 1) ≤ sizeLine := by simpa using hl
    have h' : ∀ x ∈ ds, ∀ R : Option PyData → Prop, R (F x) → asg tg (enc x) ρ fun ρ' => fc ρ' fun b => if b = true then fe ρ' fun y => R (some y) else R none := fun d hd => h d (List.mem_cons_of_mem _ hd)
    have := h d List.mem_cons_self (fun o => match o with
      | some y => acc.length < sizeLine ∧ wpComp tg fc fe ρ (ds.map enc) (acc ++ [y]) Q
      | none => wpComp tg fc fe ρ (ds.map enc) acc Q) (by
        cases e : F d with
        | none => exact comp_ty enc F h' (by omega) (by simpa [e] using q)
        | some y => exact ⟨by omega, comp_ty enc F h' (by simp; omega) (by simpa [e] using q)⟩)
    exact this
theorem fm_some' {α β : Type} (l : List α) (f : α → β) : l.filterMap (fun x => some (f x)) = l.map f := by
  induction l with
  | nil => rfl
  | cons x r ih => simp [ih]
theorem fm_if {α β : Type} (l : List α) (f : α → β) (p : α → Bool) : l.filterMap (fun x => if p x = true then some (f x) else none) = (l.filter p).map f := by
  induction l with
  | nil => rfl
  | cons y r ih => by_cases hq : p y = true <;> simp [hq, ih]
/-- without a condition -/
theorem comp_m {α : Type} {G : Gm} {tg : Tg} {fe : Rho → (PyData → Prop) → Prop} {ρ : Rho} {Q : List PyData → Prop} (enc f : α → PyData) {xs : List α} {acc : List PyData} (h : ∀ x ∈ xs, ∀ R : PyData → Prop, R (f x) → asg tg (enc x) ρ fun ρ' => fe ρ' R) (hl : acc.length + xs.length ≤ sizeLine) (q : Q (acc ++ xs.map f)) : wpComp tg (wpC G .no) fe ρ (xs.map enc) acc Q := by
  refine comp_ty enc (fun x => some (f x)) (fun x hx R hR => ?_) hl ?_
  · simp only [wpC, if_true]
    exact h x hx _ hR
  · rw [fm_some']; exact q
/-- with a condition -/
theorem comp_f {α : Type} {tg : Tg} {fc : Rho → (Bool → Prop) → Prop} {fe : Rho → (PyData → Prop) → Prop} {ρ : Rho} {Q : List PyData → Prop} (enc f : α → PyData) (p : α → Bool) {xs : List α} {acc : List PyData} (h : ∀ x ∈ xs, ∀ R S : PyData → Prop, (p x = true → R (f x)) → (p x = false → S .none) → asg tg (enc x) ρ fun ρ' => fc ρ' fun b => if b = true then fe ρ' R else S .none) (hl : acc.length + xs.length ≤ sizeLine) (q : Q (acc ++ (xs.filter p).map f)) : wpComp tg fc fe ρ (xs.map enc) acc Q := by
  refine comp_ty enc (fun x => if p x = true then some (f x) else none) (fun x hx R hR => ?_) hl ?_
  · refine h x hx (fun y => R (some y)) (fun _ => R none) (fun e => ?_) (fun e => ?_)
    · rw [if_pos e] at hR; exact hR
    · rw [if_neg (by simp [e])] at hR; exact hR
  · rw [fm_if]; exact q
/-- all([..]) -/
theorem comp_b {α : Type} {G : Gm} {tg : Tg} {fe : Rho → (PyData → Prop) → Prop} {ρ : Rho} {Q : List PyData → Prop} (enc : α → PyData) (p : α → Bool) {xs : List α} (h : ∀ x ∈ xs, ∀ R : PyData → Prop, R (.bool (p x)) → asg tg (enc x) ρ fun ρ' => fe ρ' R) (hl : xs.length ≤ sizeLine) (q : Q ((xs.map p).map PyData.bool)) : wpComp tg (wpC G .no) fe ρ (xs.map enc) [] Q := by
  refine comp_m enc (fun x => .bool (p x)) h (by simpa using hl) ?_
  rw [List.nil_append]
  rw [List.map_map] at q
  exact q
theorem all_map {α : Type} (p : α → Bool) (xs : List α) : (xs.map p).all id = xs.all p := by simp [List.all_map, Function.comp_def]
theorem any_map {α : Type} (p : α → Bool) (xs : List α) : (xs.map p).any id = xs.any p := by simp [List.any_map, Function.comp_def]
theorem comp2_ty {α : Type} {tg : Tg} {fc : Rho → (Bool → Prop) → Prop} {inn : Rho → List PyData → (List PyData → Prop) → Prop} {ρ : Rho} {Q : List PyData → Prop} (enc : α → PyData) (F : α → List PyData) :
    ∀ {ds : List α} {acc : List PyData}, (∀ d ∈ ds, ∀ acc (R : List PyData → Prop), acc.length + (F d).length ≤ sizeLine → R (acc ++ F d) → asg tg (enc d) ρ fun ρ' => fc ρ' fun b => if b = true then inn ρ' acc R else R acc) → acc.length + (ds.flatMap F).length ≤ sizeLine → Q (acc ++ ds.flatMap F) → wpComp2 tg fc inn ρ (ds.map enc) acc Q
  | [], acc, h, hl, q => by simpa [wpComp2] using q
  | d :: ds, acc, h, hl, q => by
    have hl' : acc.length + ((F d).length + (ds.flatMap F).length) ≤ sizeLine := by simpa [List.flatMap_cons] using hl
    exact h d List.mem_cons_self acc (fun acc' => wpComp2 tg fc inn ρ (ds.map enc) acc' Q) (by omega) (comp2_ty enc F (fun e he => h e (List.mem_cons_of_mem _ he)) (by simp only [List.length_append]; omega) (by simpa [List.flatMap_cons] using q))
theorem split_map {α : Type} {enc : α → PyData} {xs : List α} {p q : List PyData} {d : PyData} (h : xs.map enc = p ++ d :: q) : ∃ a s b, xs = a ++ s :: b ∧ p = a.map enc ∧ d = enc s ∧ q = b.map enc := by
  obtain ⟨a, r, e1, e2, e3⟩ := List.map_eq_append_iff.mp h
  obtain ⟨s, b, e4, e5, e6⟩ := List.map_eq_cons_iff.mp e3
  exact ⟨a, s, b, by rw [e1, e4], e2.symm, e5.symm, e6.symm⟩
theorem for_ty' {α : Type} {G : Gm} {tg : Tg} {b : Sxs} {K : Kn} (enc : α → PyData) (Inv : List α → Rho → Prop) : ∀ {xs pre : List α} {ρ : Rho}, Inv pre ρ → (∀ p x q r, pre ++ xs = p ++ x :: q → Inv p r → asg tg (enc x) r fun ρ' => wpSs G b ρ' ⟨Inv (p ++ [x]), K.rt, K.nx, Inv (p ++ [x])⟩) → (∀ r, Inv (pre ++ xs) r → K.nx r) → wpFor tg (wpSs G b) (xs.map enc) ρ K
  | [], pre, ρ, h0, hs, hf => by
    simp only [List.map_nil, wpFor]
    exact hf ρ (by simpa using h0)
  | d :: ds, pre, ρ, h0, hs, hf => by
    simp only [List.map_cons, wpFor]
    have next : ∀ r, Inv (pre ++ [d]) r → wpFor tg (wpSs G b) (ds.map enc) r K := fun r hr => for_ty' enc Inv hr (fun p e q r' he => hs p e q r' (by simpa using he)) (fun r' hr' => hf r' (by simpa using hr'))
    exact asg_mono' tg (enc d) ρ _ _ (fun r z => wpSs_mono b (K := ⟨Inv (pre ++ [d]), K.rt, K.nx, Inv (pre ++ [d])⟩) ⟨next, fun _ z => z, fun _ z => z, next⟩ z) (hs pre d ds ρ rfl h0)
theorem for_ty {α : Type} {G : Gm} {tg : Tg} {b : Sxs} {K : Kn} {ρ : Rho} (enc : α → PyData) {xs : List α} (Inv : List α → Rho → Prop) (h0 : Inv [] ρ) (hs : ∀ p x q r, xs = p ++ x :: q → Inv p r → asg tg (enc x) r fun ρ' => wpSs G b ρ' ⟨Inv (p ++ [x]), K.rt, K.nx, Inv (p ++ [x])⟩) (hf : ∀ r, Inv xs r → K.nx r) : wpFor tg (wpSs G b) (xs.map enc) ρ K :=
  for_ty' enc Inv h0 (fun p d q r e => hs p d q r (by simpa using e)) (by simpa using hf)
theorem at_lastm {α β : Type} (f : α → β) (l : List α) (h : l ≠ []) : atI (l.map f) (-1) = some (f (l.getLast h)) := by
  obtain ⟨ys, y, rfl⟩ : ∃ ys y, l = ys ++ [y] := ⟨l.dropLast, l.getLast h, (List.dropLast_concat_getLast h).symm⟩
  rw [List.map_append, List.map_singleton, at_last]
  simp
theorem at_headm {α β : Type} (f : α → β) (l : List α) (h : l ≠ []) : atI (l.map f) 0 = some (f (l.head h)) := by
  cases l with
  | nil => exact absurd rfl h
  | cons x r => exact at_map f (x :: r) 0 (by simp)
theorem cut1 {α : Type} (l : List PyData) : cutD l (some 1) none = l.drop 1 := by
  unfold cutD HT.sIx
  cases l with
  | nil => simp
  | cons x r => simp
theorem zip_enc {α β : Type} (f : α → PyData) (g : β → PyData) (a : List α) (b : List β) : List.zipWith (fun x y => PyData.tuple [x, y]) (a.map f) (b.map g) = (List.zip a b).map fun p => PyData.tuple [f p.1, g p.2] := by
  rw [List.zipWith_map, List.zip, List.map_zipWith]
end Ef

end

local macro_rules | `(tactic| simp?! only [$as,*]) => `(tactic| simp only [$as,*, Ef.wpSs, Ef.wpS, Ef.wpE, Ef.wpEs, Ef.wpAs, Ef.wpO, Ef.wpI, Ef.wpT, Ef.wpPs, Ef.isBoxArg, Ef.setAll, Ef.setPar, Ef.wipeR, List.set_cons_succ, List.set_cons_zero, Bool.false_eq_true, if_false, if_true, Ef.rw_b_ii, Ef.rw_b_tt, Ef.rw_b_ll, Ef.rw_b_ss, Ef.rw_b_sub, Ef.rw_b_mul, Ef.rw_b_mt, Ef.rw_b_ml, Ef.rw_b_fd, Ef.rw_b_mod, Ef.rw_b_pow, Ef.rw_c_lt, Ef.rw_c_le, Ef.rw_c_gt, Ef.rw_c_ge, Ef.rw_c_is, Ef.rw_c_isn, Ef.rw_c_inl, Ef.rw_c_int, Ef.rw_c_ninl, Ef.rw_c_nint, Ef.rw_n_i, Ef.rw_ix_t, Ef.rw_ix_l, Ef.rw_sl_t, Ef.rw_sl_l, Ef.rw_t_len_l, Ef.rw_t_len_t, Ef.rw_t_abs, Ef.rw_t_int, Ef.rw_t_intb, Ef.rw_t_bool, Ef.rw_t_boolb, Ef.rw_t_tuple_l, Ef.rw_t_tuple_t, Ef.rw_t_list_l, Ef.rw_t_list_t, Ef.rw_t_repr, Ef.rw_t_all, Ef.rw_t_any, Ef.rw_t_min, Ef.rw_t_max, Ef.rw_t_sum, Ef.rw_t_sumT, Ef.rw_a_nm, Ef.rw_a_t2, Ef.rw_a_t3, Ef.rw_a_t4, Ef.rw_i_l, Ef.rw_i_t, Ef.rw_u_bl, Ef.rw_u_i, Ef.rw_u_l, Ef.rw_u_t, Ef.rw_u_n, Ef.rw_w_fo0, Ef.rw_w_fo1, Ef.rw_w_tI, Ef.rw_w_len, Ef.rw_w_tt, Ef.rw_w_it, Ef.rw_w_add1, Ef.rw_g_0, Ef.rw_g_s, Ef.rw_c_eqi, Ef.rw_c_nei, Ef.rw_c_eqn, Ef.rw_c_eqs, Ef.rw_c_nes, Ef.rw_c_isb, Ef.rw_c_isnb, Ef.rw_lD0, Ef.rw_lD1, Ef.rw_lD2, Ef.rw_lD3, Ef.rw_a_lD, Ef.rw_sl0, Ef.rw_sl1, Ef.rw_sl2, Ef.rw_sl3, Ef.rw_sl4, Ef.rw_sl5, Ef.rw_sl6, Ef.rw_exb, Ef.rw_exi, Ef.rw_exl, Ef.rw_ext, Ef.rw_exo, Ef.rw_draw, true_and, and_true, Ef.rw_rg, Ef.rw_rg0, List.nil_append, Ef.rw_isN_none, Ef.rw_isN_int, Ef.rw_isN_bool, Ef.rw_isN_tup, Bool.not_true, Bool.not_false, decide_true, decide_false, Ef.tySub, List.length_map, Ef.rw_cno, Ef.rw_cso, Ef.rw_so_l, Ef.rw_so_d, Ef.rw_fr_l, Ef.rw_fr_d, Ef.rw_c_ind, Ef.rw_c_nind, Ef.rw_ix_d, Ef.rw_kb, Ef.wpD, Int.reduceToNat, Ef.rw_k_l, Ef.rw_k_t, Ef.rw_k_it, Ef.rw_t_len_d, Ef.rw_t_list_d])

section
set_option autoImplicit false
namespace Ef
open PySem L2 PySem.Spec PyProof.Rows
theorem comp_nd' {α β : Type} {G : Gm} {tg : Tg} {fe : Rho → (PyData → Prop) → Prop} {ρ : Rho} {Q : List PyData → Prop} (enc : α → PyData) (out : β → PyData) (P : β → Prop) :
    ∀ {xs : List α} {acc : List β}, (∀ x ∈ xs, ∀ R : PyData → Prop, (∀ z, P z → R (out z)) → asg tg (enc x) ρ fun ρ' => fe ρ' R) → acc.length + xs.length ≤ sizeLine → (∀ zs : List β, zs.length = xs.length → (∀ z ∈ zs, P z) → Q ((acc ++ zs).map out)) → wpComp tg (wpC G .no) fe ρ (xs.map enc) (acc.map out) Q
  | [], acc, h, hl, q => by simpa [wpComp] using q [] rfl (by simp)
  | x :: xs, acc, h, hl, q => by
    have hl' : acc.length + (xs.length + 1) ≤ sizeLine := by simpa using hl
    simp only [List.map_cons, wpComp]
    refine asg_mono' _ _ _ _ _ (fun r z => ?_) (h x List.mem_cons_self (fun y => (acc.map out).length < sizeLine ∧ wpComp tg (wpC G .no) fe ρ (xs.map enc) (acc.map out ++ [y]) Q) fun z hz => ?_)
    · simp only [wpC, if_true]; exact z
    refine (fun (z : _ ∧ _) => z) ⟨by simp; omega, ?_⟩
    have := comp_nd' (G := G) (tg := tg) (fe := fe) (ρ := ρ) (Q := Q) enc out P (xs := xs) (acc := acc ++ [z]) (fun y hy => h y (List.mem_cons_of_mem _ hy)) (by simp; omega) (fun zs h1 h2 => by
      have := q (z :: zs) (by simp [h1]) (by simpa using ⟨hz, h2⟩)
      simpa using this)
    simpa using this
theorem comp_nd {α β : Type} {G : Gm} {tg : Tg} {fe : Rho → (PyData → Prop) → Prop} {ρ : Rho} {Q : List PyData → Prop} (enc : α → PyData) (out : β → PyData) (P : β → Prop) {xs : List α} (h : ∀ x ∈ xs, ∀ R : PyData → Prop, (∀ z, P z → R (out z)) → asg tg (enc x) ρ fun ρ' => fe ρ' R) (hl : xs.length ≤ sizeLine) (q : ∀ zs : List β, zs.length = xs.length → (∀ z ∈ zs, P z) → Q (zs.map out)) : wpComp tg (wpC G .no) fe ρ (xs.map enc) [] Q :=
  comp_nd' (acc := []) enc out P h (by simpa using hl) (by simpa using q)
/-! ### drawing, the first kind of forms -/
def iA_one : Sxs := (.cons (.ret (.idx (.var 1) (.call "_law_draw" (.cons (.var 0) (.cons (.blt .len (.cons (.var 1) .nil)) .nil))))) .nil)
def c_one : Con := ⟨List PyData, fun ds as => (as = [.box, .dat (.list ds)] ∨ as = [.box, .dat (.tuple ds)]) ∧ 0 < ds.length ∧ ds.length ≤ 1000, fun ds r => r ∈ ds⟩
theorem at_in {ds : List PyData} {i : Int} (h0 : 0 ≤ i) (h1 : i < (ds.length : Nat)) : ∃ z, atI ds i = some z ∧ z ∈ ds := by
  obtain ⟨n, rfl⟩ : ∃ n : Nat, i = (n : Int) := ⟨i.toNat, by omega⟩
  have hn : n < ds.length := by omega
  exact ⟨_, at_nat ds n hn, List.getElem_mem hn⟩
theorem wp_one {G : Gm} (h1 : G.con "_law_draw" = some conDraw) : ∀ a as, c_one.pre a as → wpSs G iA_one (rho0 ["_law_box", "_law_items"] as) (kDef (c_one.post a)) := by
  rintro (ds : List PyData) as ⟨rfl | rfl, hd, hd2⟩
  · show wpSs G iA_one [.box, .dat (.list ds)] _
    simp?! only [iA_one, h1]
    refine ⟨⟨by omega, by omega⟩, fun i h2 h3 => ?_⟩
    obtain ⟨z, hz, hm⟩ := at_in h2 h3
    exact ⟨z, hz, hm⟩
  · show wpSs G iA_one [.box, .dat (.tuple ds)] _
    simp?! only [iA_one, h1]
    refine ⟨⟨by omega, by omega⟩, fun i h2 h3 => ?_⟩
    obtain ⟨z, hz, hm⟩ := at_in h2 h3
    exact ⟨z, hz, hm⟩
theorem rw_one (ds : List PyData) {Q : PyData → Prop} : (∃ a : c_one.α, c_one.pre a [.box, .dat (.list ds)] ∧ ∀ r, c_one.post a r → Q r) = ((0 < ds.length ∧ ds.length ≤ 1000) ∧ ∀ r ∈ ds, Q r) := by
  refine propext ⟨?_, ?_⟩
  · rintro ⟨a, ⟨e, h1, h2⟩, q⟩
    rcases e with e | e <;> cases e
    exact ⟨⟨h1, h2⟩, fun r h => q r h⟩
  · rintro ⟨⟨h1, h2⟩, q⟩
    exact ⟨ds, ⟨.inl rfl, h1, h2⟩, fun r h => q r h⟩
theorem rw_oneT (ds : List PyData) {Q : PyData → Prop} : (∃ a : c_one.α, c_one.pre a [.box, .dat (.tuple ds)] ∧ ∀ r, c_one.post a r → Q r) = ((0 < ds.length ∧ ds.length ≤ 1000) ∧ ∀ r ∈ ds, Q r) := by
  refine propext ⟨?_, ?_⟩
  · rintro ⟨a, ⟨e, h1, h2⟩, q⟩
    rcases e with e | e <;> cases e
    exact ⟨⟨h1, h2⟩, fun r h => q r h⟩
  · rintro ⟨⟨h1, h2⟩, q⟩
    exact ⟨ds, ⟨.inr rfl, h1, h2⟩, fun r h => q r h⟩
/-! sizes -/
def prodI : List Int → Int
  | [] => 1
  | s :: r => s * prodI r
theorem prodI_app (a : List Int) (s : Int) : prodI (a ++ [s]) = prodI a * s := by
  induction a with
  | nil => simp [prodI]
  | cons x r ih => simp [prodI, ih, Int.mul_assoc]
def szOk (sz : List Int) (most many : Int) : Prop := 1 ≤ sz.length ∧ (sz.length : Int) ≤ many ∧ (∀ s ∈ sz, 2 ≤ s ∧ s ≤ 6) ∧ prodI sz ≤ most
def iA_sizes_b1 : Sxs := (.cons (.ife (.cmp .GtE (.var 5) (.cst (.int 2))) (.cons (.app 4 (.bin .Add (.cst (.int 2)) (.call "_law_draw" (.cons (.var 0) (.cons (.blt .min (.cons (.cst (.int 5)) (.cons (.bin .Sub (.var 5) (.cst (.int 1))) .nil))) .nil))))) (.cons (.set (.nm 5) (.bin .FloorDiv (.var 5) (.idx (.bor 4) (.neg (.cst (.int 1)))))) .nil)) .nil) .nil)
def iA_sizes_t1 : Sxs := (.cons (.ret (.blt .tuple (.cons (.bor 4) .nil))) .nil)
def iA_sizes : Sxs := (.cons (.par [4, 5] [true, false] (.cons (.lst .nil) (.cons (.var 1) .nil))) (.cons (.for_ (.nm 3) (.rg (.bin .Add (.cst (.int 1)) (.call "_law_draw" (.cons (.var 0) (.cons (.var 2) .nil))))) iA_sizes_b1) iA_sizes_t1))
def cA_sizes : Con := ⟨Int × Int, fun (most, many) as => as = [.box, .dat (.int most), .dat (.int many)] ∧ (2 ≤ most ∧ most ≤ 1000) ∧ 1 ≤ many ∧ many ≤ 100, fun (most, many) r => ∃ sz, r = tI sz ∧ szOk sz most many⟩
theorem tI_app (a : List Int) (v : Int) : a.map PyData.int ++ [PyData.int v] = (a ++ [v]).map PyData.int := by simp
theorem wpA_sizes {G : Gm} (h1 : G.con "_law_draw" = some conDraw) : ∀ a as, cA_sizes.pre a as → wpSs G iA_sizes (rho0 ["_law_box", "_law_most", "_law_many", "_law_k", "_law_sizes_here", "_law_room"] as) (kDef (cA_sizes.post a)) := by
  rintro ⟨most, many⟩ as ⟨rfl, ⟨hm1, hm2⟩, hn1, hn2⟩
  show wpSs G iA_sizes [.box, .dat (.int most), .dat (.int many), .un, .un, .un] _
  simp?! only [iA_sizes, h1]
  refine ⟨⟨by omega, by omega⟩, fun i hi1 hi2 => ⟨by omega, by omega, ?_⟩⟩
  have e : ([] : List PyData) = ([] : List Int).map PyData.int := rfl
  rw [e]
  refine for_ty _ (fun p r => ∃ (x : Sl) (sz : List Int) (room : Int), r = [.box, .dat (.int most), .dat (.int many), x, .own (sz.map PyData.int), .dat (.int room)] ∧ sz.length ≤ p.length ∧ (1 ≤ p.length → 1 ≤ sz.length) ∧ (∀ s ∈ sz, 2 ≤ s ∧ s ≤ 6) ∧ (1 ≤ room ∧ room ≤ 1000) ∧ (p = [] → room = most) ∧ prodI sz * room ≤ most) ⟨_, [], most, rfl, by simp, by simp, by simp, by omega, by simp, by simp [prodI]⟩ ?_ ?_
  · rintro p x q r e ⟨x3, sz, room, rfl, l1, l0, l2, l3, l5, l4⟩
    have hp : p.length < (1 + i).toNat := by
      have := congrArg List.length e
      simp at this
      omega
    simp?! only [iA_sizes_b1, h1]
    by_cases hr : 2 ≤ room
    · rw [if_pos (by simpa using hr)]
      refine ⟨⟨?_, ?_⟩, fun j hj1 hj2 => ⟨by rw [sizeLine_eq]; omega, ?_⟩⟩
      · split <;> omega
      · split <;> omega
      have hj3 : j < 5 ∧ j < room - 1 := by
        split at hj2 <;> omega
      rw [tI_app]
      refine ⟨_, at_lastm PyData.int (sz ++ [2 + j]) (by simp), ?_⟩
      simp?! only [List.getLast_concat]
      have hd : 1 ≤ room / (2 + j) ∧ room / (2 + j) ≤ room := by
        constructor
        · exact Int.le_ediv_of_mul_le (by omega) (by omega)
        · exact Int.ediv_le_self _ (by omega)
      have hd2 : (2 + j) * (room / (2 + j)) ≤ room := Int.mul_ediv_self_le (by omega)
      refine ⟨⟨by omega, by omega⟩, _, sz ++ [2 + j], room / (2 + j), rfl, by simp; omega, by simp, ?_, by omega, by simp, ?_⟩
      · intro s hs
        rcases List.mem_append.mp hs with h | h
        · exact l2 s h
        · rw [List.mem_singleton.mp h]; omega
      · rw [prodI_app, Int.mul_assoc]
        have hp0 : 0 ≤ prodI sz := by
          clear l1 l0 l4
          induction sz with
          | nil => simp [prodI]
          | cons s r ih => exact Int.mul_nonneg (by have := l2 s (by simp); omega) (ih fun s hs => l2 s (by simp [hs]))
        exact Int.le_trans (Int.mul_le_mul_of_nonneg_left hd2 hp0) l4
    · rw [if_neg (by simpa using hr)]
      refine ⟨_, sz, room, rfl, by simp; omega, fun _ => ?_, l2, l3, by simp, l4⟩
      by_cases hp0 : p = []
      · have := l5 hp0; omega
      · exact l0 (by have := List.length_pos_iff.mpr hp0; omega)
  · rintro r ⟨x3, sz, room, rfl, l1, l0, l2, l3, l5, l4⟩
    simp?! only [iA_sizes_t1]
    simp only [List.length_range] at l1 l0
    refine ⟨sz, rfl, l0 (by omega), by show (sz.length : Int) ≤ many; omega, l2, ?_⟩
    have hp0 : 0 ≤ prodI sz := by
      clear l1 l0 l4
      induction sz with
      | nil => simp [prodI]
      | cons s r ih => exact Int.mul_nonneg (by have := l2 s (by simp); omega) (ih fun s hs => l2 s (by simp [hs]))
    have : prodI sz * 1 ≤ prodI sz * room := Int.mul_le_mul_of_nonneg_left l3.1 hp0
    show prodI sz ≤ most
    omega
/-! tables -/
def tabOk (tb : List (Option Int)) (many size : Int) : Prop := (tb.length : Int) = many ∧ ∀ v, some v ∈ tb → 0 ≤ v ∧ v < size
def iA_table_e1 : Ex := (.bin .Mod (.blt .int (.cons (.var 5) .nil)) (.var 2))
def iA_table_e2 : Ex := (.bin .Mod (.blt .int (.cons (.bin .Add (.var 5) (.var 4)) .nil)) (.var 2))
def iA_table_e3 : Ex := (.call "_law_one" (.cons (.var 0) (.cons (.lst (.cons (.call "_law_draw" (.cons (.var 0) (.cons (.var 2) .nil))) (.cons (.idx (.lst (.cons (.cst .none) (.cons (.var 4) .nil))) (.bin .Sub (.var 3) (.cst (.int 3)))) .nil))) .nil)))
def iA_table_t1 : Sxs := (.cons (.ret (.blt .tuple (.cons (.lc iA_table_e3 (.nm 5) (.rg (.var 1)) .no [5]) .nil))) .nil)
def iA_table_t2 : Sxs := (.cons (.ife (.cmp .Eq (.var 3) (.cst (.int 2))) (.cons (.ret (.blt .tuple (.cons (.lc iA_table_e2 (.nm 5) (.rg (.var 1)) .no [5]) .nil))) .nil) .nil) iA_table_t1)
def iA_table_t3 : Sxs := (.cons (.ife (.cmp .Eq (.var 3) (.cst (.int 1))) (.cons (.ret (.blt .tuple (.cons (.lc iA_table_e1 (.nm 5) (.rg (.var 1)) .no [5]) .nil))) .nil) .nil) iA_table_t2)
def iA_table : Sxs := (.cons (.par [3, 4] [false, false] (.cons (.call "_law_draw" (.cons (.var 0) (.cons (.cst (.int 5)) .nil))) (.cons (.call "_law_draw" (.cons (.var 0) (.cons (.var 2) .nil))) .nil))) (.cons (.ife (.cmp .Eq (.var 3) (.cst (.int 0))) (.cons (.ret (.bin .Mult (.tup (.cons (.var 4) .nil)) (.var 1))) .nil) .nil) iA_table_t3))
def c_table : Con := ⟨Int × Int, fun (many, size) as => as = [.box, .dat (.int many), .dat (.int size)] ∧ (2 ≤ many ∧ many ≤ 900) ∧ 1 ≤ size ∧ size ≤ 900, fun (many, size) r => ∃ tb, r = .tuple (tb.map oD) ∧ tabOk tb many size⟩
theorem map_some (l : List Int) : l.map PyData.int = (l.map some).map oD := by rw [List.map_map]; rfl
theorem tab_ints {l : List Int} {many size : Int} (h1 : (l.length : Int) = many) (h2 : ∀ v ∈ l, 0 ≤ v ∧ v < size) : c_table.post (many, size) (.tuple (l.map PyData.int)) :=
  ⟨l.map some, by rw [map_some], by simpa using h1, fun v hv => by
    obtain ⟨u, hu, e⟩ := List.mem_map.mp hv
    cases e; exact h2 v hu⟩
theorem wpA_table {G : Gm} (h1 : G.con "_law_draw" = some conDraw) (h2 : G.con "_law_one" = some c_one) : ∀ a as, c_table.pre a as → wpSs G iA_table (rho0 ["_law_box", "_law_one_here", "_law_other", "_law_way", "_law_by", "_law_k"] as) (kDef (c_table.post a)) := by
  rintro ⟨many, size⟩ as ⟨rfl, ⟨hm1, hm2⟩, hn1, hn2⟩
  show wpSs G iA_table [.box, .dat (.int many), .dat (.int size), .un, .un, .un] _
  simp?! only [iA_table, h1]
  refine ⟨⟨by decide, by decide⟩, fun way w1 w2 => ⟨⟨by omega, by omega⟩, fun by_ b1 b2 => ?_⟩⟩
  split
  · refine ⟨.inl ⟨by simp, by omega, by omega, by simp⟩, ?_⟩
    have e : (List.replicate many.toNat [PyData.int by_]).flatten = (List.replicate many.toNat by_).map PyData.int := by
      generalize many.toNat = n
      induction n with
      | zero => rfl
      | succ n ih => simp [List.replicate_succ, ih]
    rw [e]
    refine tab_ints (by simp; omega) fun v hv => ?_
    obtain ⟨_, rfl⟩ := List.mem_replicate.mp hv
    exact ⟨b1, b2⟩
  simp?! only [iA_table_t3]
  split
  · refine ⟨by omega, by omega, ?_⟩
    refine comp_m _ (fun v : Nat => PyData.int ((v : Int) % size)) (fun v hv R hR => ?_) (by simp [sizeLine_eq]; omega) ?_
    · simp?! only [iA_table_e1]
      exact ⟨by omega, hR⟩
    · have := tab_ints (l := (List.range many.toNat).map fun v : Nat => (v : Int) % size) (many := many) (size := size) (by simp; omega) (fun v hv => by
        obtain ⟨u, _, rfl⟩ := List.mem_map.mp hv
        exact mod_pos (by omega))
      rw [List.map_map] at this
      exact this
  simp?! only [iA_table_t2]
  split
  · refine ⟨by omega, by omega, ?_⟩
    refine comp_m _ (fun v : Nat => PyData.int (((v : Int) + by_) % size)) (fun v hv R hR => ?_) (by simp [sizeLine_eq]; omega) ?_
    · simp?! only [iA_table_e2]
      exact ⟨by omega, hR⟩
    · have := tab_ints (l := (List.range many.toNat).map fun v : Nat => ((v : Int) + by_) % size) (many := many) (size := size) (by simp; omega) (fun v hv => by
        obtain ⟨u, _, rfl⟩ := List.mem_map.mp hv
        exact mod_pos (by omega))
      rw [List.map_map] at this
      exact this
  rename_i n0 n1 n2
  simp only [decide_eq_true_eq] at n0 n1 n2
  simp?! only [iA_table_t1]
  refine ⟨by omega, by omega, ?_⟩
  refine comp_nd _ oD (fun o => ∀ v, o = some v → 0 ≤ v ∧ v < size) (fun v hv R hR => ?_) (by simp [sizeLine_eq]; omega) (fun zs hl hz => ?_)
  · simp?! only [iA_table_e3, h1, h2]
    refine ⟨⟨by omega, by omega⟩, fun i i1 i2 => ?_⟩
    have hw : way = 3 ∨ way = 4 := by omega
    have fin : ∀ o : Option Int, (∀ v, o = some v → 0 ≤ v ∧ v < size) → (0 < [PyData.int i, oD o].length ∧ [PyData.int i, oD o].length ≤ 1000) ∧ ∀ r ∈ [PyData.int i, oD o], R r := by
      intro o ho
      refine ⟨by simp, fun r hr => ?_⟩
      simp only [List.mem_cons, List.not_mem_nil, or_false] at hr
      rcases hr with rfl | rfl
      · exact hR (some i) fun v e => by cases e; exact ⟨i1, i2⟩
      · exact hR o ho
    rcases hw with rfl | rfl
    · refine ⟨.none, rfl, ?_⟩
      simp?! only [rw_one]
      exact fin none fun v e => by cases e
    · refine ⟨.int by_, rfl, ?_⟩
      simp?! only [rw_one]
      exact fin (some by_) fun v e => by cases e; exact ⟨b1, b2⟩
  · refine ⟨zs, rfl, by simp at hl; show (zs.length : Int) = many; omega, fun v hv => hz _ hv v rfl⟩
/-! links -/
def lkOk (sz : List Int) (l : Lk) : Prop := ∃ (hs : l.s < sz.length) (ht : l.t < sz.length), l.s ≠ l.t ∧ tabOk l.tb sz[l.s] sz[l.t] ∧ 0 ≤ l.g ∧ l.g ≤ 3
def iA_link : Sxs := (.cons (.set (.nm 2) (.call "_law_draw" (.cons (.var 0) (.cons (.blt .len (.cons (.var 1) .nil)) .nil)))) (.cons (.set (.nm 3) (.bin .Mod (.blt .int (.cons (.bin .Add (.bin .Add (.var 2) (.cst (.int 1))) (.call "_law_draw" (.cons (.var 0) (.cons (.bin .Sub (.blt .len (.cons (.var 1) .nil)) (.cst (.int 1))) .nil)))) .nil)) (.blt .len (.cons (.var 1) .nil)))) (.cons (.set (.nm 4) (.call "_law_one" (.cons (.var 0) (.cons (.lst (.cons (.cst (.int 0)) (.cons (.cst (.int 0)) (.cons (.cst (.int 0)) (.cons (.cst (.int 1)) (.cons (.cst (.int 2)) (.cons (.cst (.int 3)) .nil))))))) .nil)))) (.cons (.ret (.tup (.cons (.var 2) (.cons (.var 3) (.cons (.call "_law_table" (.cons (.var 0) (.cons (.idx (.var 1) (.var 2)) (.cons (.idx (.var 1) (.var 3)) .nil)))) (.cons (.var 4) .nil)))))) .nil))))
def cA_link : Con := ⟨List Int, fun sz as => as = [.box, .dat (tI sz)] ∧ (2 ≤ sz.length ∧ sz.length ≤ 100) ∧ ∀ s ∈ sz, 2 ≤ s ∧ s ≤ 900, fun sz r => ∃ l, r = lD l ∧ lkOk sz l⟩
theorem mod_ne {s d n : Int} (hs : 0 ≤ s ∧ s < n) (hd : 0 ≤ d ∧ d < n - 1) : (s + 1 + d) % n ≠ s := by
  by_cases h : s + 1 + d < n
  · rw [Int.emod_eq_of_lt (by omega) h]; omega
  · have e : (s + 1 + d) % n = (s + 1 + d - n) % n := by rw [Int.sub_emod_right]
    rw [e, Int.emod_eq_of_lt (by omega) (by omega)]; omega
theorem wpA_link {G : Gm} (h1 : G.con "_law_draw" = some conDraw) (h2 : G.con "_law_one" = some c_one) (h3 : G.con "_law_table" = some c_table) : ∀ a as, cA_link.pre a as → wpSs G iA_link (rho0 ["_law_box", "_law_sizes_here", "_law_source", "_law_target", "_law_guard"] as) (kDef (cA_link.post a)) := by
  rintro (sz : List Int) as ⟨rfl, ⟨hl1, hl2⟩, hz⟩
  show wpSs G iA_link [.box, .dat (tI sz), .un, .un, .un] _
  simp?! only [iA_link, h1, h2, rw_one]
  refine ⟨⟨by omega, by omega⟩, fun s s1 s2 => ⟨⟨by omega, by omega⟩, fun d d1 d2 => ⟨by omega, ⟨by decide, by decide⟩, fun g hg => ?_⟩⟩⟩
  have hM := mod_pos (i := s + 1 + d) (n := (sz.length : Nat)) (by omega)
  have hN := mod_ne ⟨s1, s2⟩ ⟨d1, d2⟩
  generalize (s + 1 + d) % ((sz.length : Nat) : Int) = t at hM hN
  obtain ⟨S, rfl⟩ : ∃ n : Nat, s = (n : Int) := ⟨s.toNat, by omega⟩
  obtain ⟨T, rfl⟩ : ∃ n : Nat, t = (n : Int) := ⟨t.toNat, by omega⟩
  have hS : S < sz.length := by omega
  have hT : T < sz.length := by omega
  have hg2 : ∃ k : Int, g = .int k ∧ 0 ≤ k ∧ k ≤ 3 := by
    simp only [List.mem_cons, List.not_mem_nil, or_false] at hg
    rcases hg with rfl | rfl | rfl | rfl | rfl | rfl <;> exact ⟨_, rfl, by decide, by decide⟩
  obtain ⟨k, rfl, k1, k2⟩ := hg2
  simp only [h3]
  refine ⟨_, at_map PyData.int sz S hS, _, at_map PyData.int sz T hT, ?_⟩
  have z1 := hz _ (List.getElem_mem hS)
  have z2 := hz _ (List.getElem_mem hT)
  refine ⟨(sz[S], sz[T]), ⟨rfl, by omega, by omega⟩, ?_⟩
  rintro r ⟨tb, rfl, ht⟩
  exact ⟨⟨S, T, tb, k⟩, rfl, hS, hT, fun e => hN (by simp only at e; rw [e]), ht, k1, k2⟩
/-! forms -/
def iA_form_e1 : Ex := (.call "_law_link" (.cons (.var 0) (.cons (.var 3) .nil)))
def iA_form : Sxs := (.cons (.set (.nm 3) (.call "_law_sizes" (.cons (.var 0) (.cons (.var 1) (.cons (.cst (.int 4)) .nil))))) (.cons (.set (.nm 4) (.bin .Mult (.call "_law_draw" (.cons (.var 0) (.cons (.bin .Add (.var 2) (.cst (.int 1))) .nil))) (.blt .int (.cons (.cmp .Gt (.blt .len (.cons (.var 3) .nil)) (.cst (.int 1))) .nil)))) (.cons (.ret (.tup (.cons (.var 3) (.cons (.blt .tuple (.cons (.lc iA_form_e1 (.nm 5) (.rg (.var 4)) .no [5]) .nil)) .nil)))) .nil)))
def cA_form : Con := ⟨Int × Int, fun (most, links) as => as = [.box, .dat (.int most), .dat (.int links)] ∧ (2 ≤ most ∧ most ≤ 900) ∧ 0 ≤ links ∧ links ≤ 100, fun (most, links) r => ∃ sz ls, r = fo sz ls ∧ szOk sz most 4 ∧ (ls.length : Int) ≤ links ∧ ∀ l ∈ ls, lkOk sz l⟩
theorem wpA_form {G : Gm} (h1 : G.con "_law_draw" = some conDraw) (h2 : G.con "_law_sizes" = some cA_sizes) (h3 : G.con "_law_link" = some cA_link) : ∀ a as, cA_form.pre a as → wpSs G iA_form (rho0 ["_law_box", "_law_most", "_law_links", "_law_sizes_here", "_law_many", "_law_k"] as) (kDef (cA_form.post a)) := by
  rintro ⟨most, links⟩ as ⟨rfl, ⟨hm1, hm2⟩, hn1, hn2⟩
  show wpSs G iA_form [.box, .dat (.int most), .dat (.int links), .un, .un, .un] _
  simp?! only [iA_form, h1, h2]
  refine ⟨(most, 4), ⟨rfl, by omega, by decide, by decide⟩, ?_⟩
  rintro r ⟨sz, rfl, hsz⟩
  obtain ⟨z1, z2, z3, z4⟩ := id hsz
  simp?! only [true_and]
  refine ⟨⟨by omega, by omega⟩, fun n n1 n2 => ⟨.inl ⟨by omega, by omega⟩, ?_, ?_, ?_⟩⟩
  · split <;> omega
  · split <;> omega
  have hN : ∃ N : Nat, (n * (if decide ((1 : Int) < (sz.length : Nat)) = true then 1 else 0)).toNat = N ∧ (N : Int) ≤ links ∧ (0 < N → 2 ≤ sz.length) := by
    by_cases hl : (1 : Int) < (sz.length : Nat)
    · refine ⟨n.toNat, ?_, by omega, fun _ => by omega⟩
      simp [hl]
    · refine ⟨0, ?_, by omega, fun h => absurd h (by decide)⟩
      simp [hl]
  obtain ⟨N, hNe, hNm, hNl⟩ := hN
  rw [hNe]
  refine comp_nd _ lD (fun l => lkOk sz l) (fun v hv R hR => ?_) (by simp [sizeLine_eq]; omega) (fun ls hl hL => ?_)
  · have := List.mem_range.mp hv
    simp?! only [iA_form_e1, h3]
    refine ⟨sz, ⟨rfl, ⟨hNl (by omega), by omega⟩, fun s hs => by have := z3 s hs; omega⟩, ?_⟩
    rintro r ⟨l, rfl, h⟩
    exact hR l h
  · exact ⟨sz, ls, rfl, hsz, by simp at hl; show (ls.length : Int) ≤ links; omega, hL⟩
end Ef

end

section
set_option autoImplicit false
namespace Ef
open PySem L2 PySem.Spec PyProof.Rows
/-! ### texts of data -/
mutual
def plainD : PyData → Bool
  | .none | .bool _ => true
  | .int i => decide (i.natAbs < 10 ^ 60)
  | .list xs | .tuple xs => plainDs xs
  | .str s => PyData.strOk s && PyData.strOk (reprText s) && decide ((reprText s).length ≤ 100)
  | .dict _ => false
def plainDs : List PyData → Bool
  | [] => true
  | x :: xs => plainD x && plainDs xs
end
mutual
def txt : PyData → Nat
  | .none => 4
  | .bool _ => 5
  | .int _ => 61
  | .list xs | .tuple xs => txts xs + 3
  | .str _ => 100
  | .dict _ => 20
def txts : List PyData → Nat
  | [] => 0
  | x :: xs => txt x + 2 + txts xs
end
theorem len_int {i : Int} (h : i.natAbs < 10 ^ 60) : (Str.ofString (toString i)).length ≤ 61 := by
  rw [PySem.ofString_length]
  exact int_text_length_le10 (k := 60) (by decide) h
theorem len_tup (ts : List Str) : (tupleText ts).length ≤ piled ts + 3 := by
  unfold tupleText
  rw [strLen_append, strLen_append]
  have e1 : ((("(" : String) : Str)).length = 1 := rfl
  have e3 : (((if ts.length == 1 then ",)" else ")" : String) : Str)).length ≤ 2 := by split <;> decide
  by_cases h : ts = []
  · subst h; simp [piled]; decide
  · have := join_length_add ts h
    rw [e1]; omega
theorem len_from : ∀ (ts : List Str) (k : Nat) (acc : Str), (textFrom k acc ts).length ≤ acc.length + piled ts
  | [], k, acc => by simp [textFrom, piled]
  | t :: r, k, acc => by
    have h := len_from r (k + 1) (acc ++ (if k > 0 then ", " else "" : String) ++ t)
    rw [strLen_append, strLen_append] at h
    have e3 : (((if k > 0 then ", " else "" : String) : Str)).length ≤ 2 := by split <;> decide
    rw [piled_cons]
    show (textFrom (k + 1) _ r).length ≤ _
    omega
theorem len_lst (ts : List Str) : (listText ts).length ≤ piled ts + 2 := by
  unfold listText
  rw [strLen_append]
  have h := len_from ts 0 "["
  have e1 : ((("[" : String) : Str)).length = 1 := rfl
  have e2 : ((("]" : String) : Str)).length = 1 := rfl
  rw [e2]
  rw [e1] at h
  omega
mutual
theorem shown_le : ∀ d : PyData, plainD d = true → d.shown.length ≤ txt d
  | .none, _ => by simp only [PyData.shown, txt]; decide
  | .bool b, _ => by cases b <;> simp only [PyData.shown, txt] <;> decide
  | .int i, h => by
    simp only [PyData.shown, txt]
    exact len_int (by simpa only [plainD, decide_eq_true_eq] using h)
  | .list xs, h => by
    simp only [PyData.shown, txt]
    have := len_lst (PyData.shownAll xs)
    have := shownAll_le xs (by simpa [plainD] using h)
    omega
  | .tuple xs, h => by
    simp only [PyData.shown, txt]
    have := len_tup (PyData.shownAll xs)
    have := shownAll_le xs (by simpa [plainD] using h)
    omega
  | .str s, h => by
    simp only [plainD, Bool.and_eq_true, decide_eq_true_eq] at h
    simp only [PyData.shown, txt]; exact h.2
  | .dict _, h => by simp [plainD] at h
theorem shownAll_le : ∀ xs : List PyData, plainDs xs = true → piled (PyData.shownAll xs) ≤ txts xs
  | [], _ => by simp [PyData.shownAll, piled, txts]
  | x :: xs, h => by
    have h' : plainD x = true ∧ plainDs xs = true := by simpa [plainDs] using h
    have h1 := shown_le x h'.1
    have h2 := shownAll_le xs h'.2
    simp only [PyData.shownAll, piled_cons, txts]
    omega
end
theorem ok_of (s : String) : PyData.strOk (Str.ofString s) = true := by
  rw [Str.ofString_eq_toList]
  simp only [PyData.strOk, List.all_toArray, List.all_map, List.all_eq_true]
  intro c _
  have := c.valid
  simp only [Function.comp, decide_eq_true_eq]
  show c.val.toNat < 0x110000
  rcases this with h | h
  · have : c.val.toNat < 0xd800 := h
    omega
  · exact h.2
theorem ok_app (a b : Str) (h1 : PyData.strOk a = true) (h2 : PyData.strOk b = true) : PyData.strOk (a ++ b) = true := by
  show Array.all (a.cps ++ b.cps) _ = true
  rw [Array.all_append]
  unfold PyData.strOk at h1 h2
  rw [h1, h2]; rfl
theorem ok_join : ∀ ts : List Str, (∀ t ∈ ts, PyData.strOk t = true) → PyData.strOk (Str.join ", " ts) = true
  | [], _ => by simp [Str.join, Str.empty, PyData.strOk]
  | [x], h => h x (by simp)
  | x :: y :: r, h => ok_app _ _ (ok_app _ _ (h x (by simp)) (ok_of _)) (ok_join (y :: r) fun t ht => h t (List.mem_cons_of_mem _ ht))
theorem ok_from : ∀ (ts : List Str) (k : Nat) (acc : Str), PyData.strOk acc = true → (∀ t ∈ ts, PyData.strOk t = true) → PyData.strOk (textFrom k acc ts) = true
  | [], k, acc, h, _ => h
  | t :: r, k, acc, h, ht => ok_from r (k + 1) _ (ok_app _ _ (ok_app _ _ h (ok_of _)) (ht t (by simp))) fun u hu => ht u (by simp [hu])
mutual
theorem shown_ok : ∀ d : PyData, plainD d = true → PyData.strOk d.shown = true
  | .none, _ => by simp only [PyData.shown]; exact ok_of _
  | .bool b, _ => by cases b <;> simp only [PyData.shown] <;> exact ok_of _
  | .int i, h => by simp only [PyData.shown]; exact ok_of _
  | .list xs, h => by
    simp only [PyData.shown, listText]
    exact ok_app _ _ (ok_from _ _ _ (ok_of _) (shownAll_ok xs (by simpa [plainD] using h))) (ok_of _)
  | .tuple xs, h => by
    simp only [PyData.shown, tupleText]
    exact ok_app _ _ (ok_app _ _ (ok_of _) (ok_join _ (shownAll_ok xs (by simpa [plainD] using h)))) (ok_of _)
  | .str s, h => by
    simp only [plainD, Bool.and_eq_true, decide_eq_true_eq] at h
    simp only [PyData.shown]; exact h.1.2
  | .dict _, h => by simp [plainD] at h
theorem shownAll_ok : ∀ xs : List PyData, plainDs xs = true → ∀ t ∈ PyData.shownAll xs, PyData.strOk t = true
  | [], _ => by simp [PyData.shownAll]
  | x :: xs, h => by
    have h' : plainD x = true ∧ plainDs xs = true := by simpa [plainDs] using h
    intro t ht
    simp only [PyData.shownAll, List.mem_cons] at ht
    rcases ht with rfl | ht
    · exact shown_ok x h'.1
    · exact shownAll_ok xs h'.2 t ht
end
mutual
theorem plain_show : ∀ d : PyData, plainD d = true → d.showable = true
  | .none, _ => by simp [PyData.showable]
  | .bool b, _ => by simp [PyData.showable]
  | .int i, h => by
    simp only [plainD, decide_eq_true_eq] at h
    simp only [PyData.showable, decide_eq_true_eq]
    by_cases h0 : i.natAbs = 0
    · rw [h0]; decide
    · have : i.natAbs.log2 < 200 := (Nat.log2_lt h0).mpr (Nat.lt_trans h (by decide))
      omega
  | .list xs, h => by simp only [PyData.showable]; exact plain_shows xs (by simpa [plainD] using h)
  | .tuple xs, h => by simp only [PyData.showable]; exact plain_shows xs (by simpa [plainD] using h)
  | .str _, h => by simp [PyData.showable]
  | .dict _, h => by simp [plainD] at h
theorem plain_shows : ∀ xs : List PyData, plainDs xs = true → PyData.showableAll xs = true
  | [], _ => by simp [PyData.showableAll]
  | x :: xs, h => by
    have h' : plainD x = true ∧ plainDs xs = true := by simpa [plainDs] using h
    simp [PyData.showableAll, plain_show x h'.1, plain_shows xs h'.2]
end
mutual
theorem plain_lay : ∀ d : PyData, plainD d = true → d.canLay0 = true
  | .none, _ => by simp [PyData.canLay0]
  | .bool b, _ => by simp [PyData.canLay0]
  | .int i, h => by simp [PyData.canLay0]
  | .list xs, h => by simp only [PyData.canLay0]; exact plain_lays xs (by simpa [plainD] using h)
  | .tuple xs, h => by simp only [PyData.canLay0]; exact plain_lays xs (by simpa [plainD] using h)
  | .str s, h => by
    simp only [plainD, Bool.and_eq_true, decide_eq_true_eq] at h
    simp only [PyData.canLay0]; exact h.1.1
  | .dict _, h => by simp [plainD] at h
theorem plain_lays : ∀ xs : List PyData, plainDs xs = true → PyData.canLayAll0 xs = true
  | [], _ => by simp [PyData.canLayAll0]
  | x :: xs, h => by
    have h' : plainD x = true ∧ plainDs xs = true := by simpa [plainDs] using h
    simp [PyData.canLayAll0, plain_lay x h'.1, plain_lays xs h'.2]
end
theorem shp_of {d : PyData} (h : plainD d = true) (hd : d.depth ≤ 64) : SeqAt.shaped d = true := by
  simp [SeqAt.shaped, plain_lay d h, hd]
/-- all that a text of d asks for -/
theorem repr_ok {d : PyData} (h : plainD d = true) (hd : d.depth ≤ 64) (ht : txt d ≤ sizeLine) : d.showable = true ∧ rpB d = true ∧ d.shown.length ≤ sizeLine ∧ eqOk (.str d.shown) (.str d.shown) = true :=
  have z : SeqAt.shaped (.str d.shown) = true := by simp [SeqAt.shaped, PyData.canLay0, shown_ok d h, PyData.depth]
  ⟨plain_show d h, by simp [rpB, hd], Nat.le_trans (shown_le d h) ht, eqOk_of z z⟩
/-! ### bounds of texts, by parts -/
structure Tx (d : PyData) (B D : Nat) : Prop where
  p : plainD d = true
  t : txt d ≤ B
  d : d.depth ≤ D
structure TxAll (ds : List PyData) (B D : Nat) : Prop where
  p : plainDs ds = true
  t : txts ds ≤ B
  d : PyData.depthAll ds ≤ D
theorem Tx.int {i : Int} (h : i.natAbs < 10 ^ 60) : Tx (.int i) 61 0 := ⟨by simp only [plainD, decide_eq_true_eq]; exact h, by simp [txt], by simp [PyData.depth]⟩
theorem Tx.nat {n : Nat} (h : n < 10 ^ 60) : Tx (.int (n : Int)) 61 0 := Tx.int (by simpa using h)
theorem Tx.none : Tx .none 4 0 := ⟨rfl, by simp [txt], by simp [PyData.depth]⟩
theorem Tx.bool (b : Bool) : Tx (.bool b) 5 0 := ⟨rfl, by simp [txt], by simp [PyData.depth]⟩
theorem Tx.str {s : Str} (h : plainD (.str s) = true) : Tx (.str s) 100 0 := ⟨h, by simp [txt], by simp [PyData.depth]⟩
theorem Tx.le {d : PyData} {B D B' D' : Nat} (h : Tx d B D) (hb : B ≤ B') (hd : D ≤ D') : Tx d B' D' := ⟨h.p, Nat.le_trans h.t hb, Nat.le_trans h.d hd⟩
theorem TxAll.le {d : List PyData} {B D B' D' : Nat} (h : TxAll d B D) (hb : B ≤ B') (hd : D ≤ D') : TxAll d B' D' := ⟨h.p, Nat.le_trans h.t hb, Nat.le_trans h.d hd⟩
theorem TxAll.nil (D : Nat) : TxAll [] 0 D := ⟨rfl, by simp [txts], by simp [PyData.depthAll]⟩
theorem TxAll.cons {d : PyData} {ds : List PyData} {B D B' : Nat} (h : Tx d B D) (q : TxAll ds B' D) : TxAll (d :: ds) (B + 2 + B') D :=
  ⟨by simp only [plainDs, h.p, q.p, Bool.and_self], by simp only [txts]; have := h.t; have := q.t; omega, by simp only [PyData.depthAll]; have := h.d; have := q.d; omega⟩
theorem TxAll.tup {ds : List PyData} {B D : Nat} (h : TxAll ds B D) : Tx (.tuple ds) (B + 3) (D + 1) := ⟨by simp only [plainD]; exact h.p, by simp only [txt]; have := h.t; omega, by simp only [PyData.depth]; have := h.d; omega⟩
theorem TxAll.lst {ds : List PyData} {B D : Nat} (h : TxAll ds B D) : Tx (.list ds) (B + 3) (D + 1) := ⟨by simp only [plainD]; exact h.p, by simp only [txt]; have := h.t; omega, by simp only [PyData.depth]; have := h.d; omega⟩
theorem TxAll.map {α : Type} {f : α → PyData} {B D : Nat} : ∀ {xs : List α}, (∀ x ∈ xs, Tx (f x) B D) → TxAll (xs.map f) ((B + 2) * xs.length) D
  | [], _ => TxAll.nil D
  | x :: xs, h => by
    have := TxAll.cons (h x (by simp)) (TxAll.map (xs := xs) fun y hy => h y (by simp [hy]))
    rw [List.map_cons]
    refine this.le ?_ (Nat.le_refl _)
    rw [List.length_cons, Nat.mul_add]; omega
theorem TxAll.mapN {α : Type} {f : α → PyData} {B D n : Nat} {xs : List α} (h : ∀ x ∈ xs, Tx (f x) B D) (hn : xs.length ≤ n) : TxAll (xs.map f) ((B + 2) * n) D :=
  (TxAll.map h).le (Nat.mul_le_mul_left _ hn) (Nat.le_refl _)
def okR (d : PyData) : Prop := d.showable = true ∧ rpB d = true ∧ d.shown.length ≤ sizeLine ∧ eqOk (.str d.shown) (.str d.shown) = true
theorem Tx.ok {d : PyData} {B D : Nat} (h : Tx d B D) (hb : B ≤ 16777216) (hd : D ≤ 64) : okR d := repr_ok h.p (Nat.le_trans h.d hd) (by rw [sizeLine_eq]; exact Nat.le_trans h.t hb)
theorem Tx.shp {d : PyData} {B D : Nat} (h : Tx d B D) (hd : D ≤ 64) : SeqAt.shaped d = true := shp_of h.p (Nat.le_trans h.d hd)
theorem eqv_str (s : Str) : PyData.eqv (.str s) (.str s) = true := by simp [PyData.eqv]
/-- repr(a) != repr(b), a and b alike -/
theorem ne_repr {d : PyData} (h : okR d) {Q : PyData → Prop} (q : Q (.bool false)) : d.showable = true ∧ rpB d = true ∧ d.shown.length ≤ sizeLine ∧ d.showable = true ∧ rpB d = true ∧ d.shown.length ≤ sizeLine ∧ cmpW .NotEq (.str d.shown) (.str d.shown) Q := by
  obtain ⟨h1, h2, h3, h4⟩ := h
  refine ⟨h1, h2, h3, h1, h2, h3, ?_⟩
  rw [rw_c_ne, eqv_str]
  exact ⟨h4, q⟩
end Ef

end

section
set_option autoImplicit false
namespace Ef
open PySem L2 PySem.Spec PyProof.Rows
/-! ### tuples of numbers; loops -/
def tN (c : List Nat) : PyData := .tuple (c.map (fun n : Nat => PyData.int (n : Int)))
theorem rw_tN_ix (c : List Nat) (k : Int) {Q : PyData → Prop} : idxW (tN c) (.int k) Q = ∃ z, atI (c.map (fun n : Nat => PyData.int (n : Int))) k = some z ∧ Q z := rfl
theorem rw_tN_sl (c : List Nat) (l h : Option Int) {Q : PyData → Prop} : slcW (tN c) l h Q = Q (.tuple (cutD (c.map (fun n : Nat => PyData.int (n : Int))) l h)) := rfl
theorem rw_tN_add (c : List Nat) (k : Nat) {Q : PyData → Prop} : binW .Add (tN c) (.tuple [.int (k : Int)]) Q = (c.length + 1 ≤ sizeLine ∧ Q (tN (c ++ [k]))) := by
  unfold tN
  rw [rw_b_tt]
  simp
theorem rw_tN_it (c : List Nat) : itemsOf (tN c) = some (c.map (fun n : Nat => PyData.int (n : Int))) := rfl
theorem rw_tN_len (c : List Nat) {Q : PyData → Prop} : bltW .len [tN c] Q = Q (.int (c.length : Nat)) := by simp [tN, bltW]
theorem rw_tN_n (c : List Nat) : isNoneD (tN c) = false := rfl
theorem rw_atl {α : Type} {c : List α} (h : c ≠ []) (f : α → PyData) (d : α) {Q : PyData → Prop} : (∃ z, atI (c.map f) (-1) = some z ∧ Q z) = Q (f (c.getLastD d)) := by
  rw [at_lastm f c h, rw_exo, List.getLastD_eq_getLast?, List.getLast?_eq_some_getLast h, Option.getD_some]
theorem rw_ath {α : Type} {c : List α} (h : c ≠ []) (f : α → PyData) (d : α) {Q : PyData → Prop} : (∃ z, atI (c.map f) 0 = some z ∧ Q z) = Q (f (c.headD d)) := by
  rw [at_headm f c h, rw_exo]
  cases c with
  | nil => exact absurd rfl h
  | cons x r => rfl
theorem ix_nat {n k : Nat} (h : k < n) : ixN n (k : Int) = some k := by
  unfold ixN
  rw [if_pos (by omega), if_pos (by omega)]
  simp
theorem rw_atn {rk : List Nat} {i : Nat} (h : i < rk.length) {Q : PyData → Prop} : (∃ z, atI (rk.map (fun n : Nat => PyData.int (n : Int))) (i : Int) = some z ∧ Q z) = Q (.int (rk.getD i 0 : Nat)) := by
  rw [at_map (fun n : Nat => PyData.int (n : Int)) rk i h, rw_exo]
  simp [h]
theorem lastD_mem {c : List Nat} (h : c ≠ []) : c.getLastD 0 ∈ c := by
  rw [List.getLastD_eq_getLast?, List.getLast?_eq_some_getLast h, Option.getD_some]
  exact List.getLast_mem h
theorem headD_mem {c : List Nat} (h : c ≠ []) : c.headD 0 ∈ c := by
  cases c with
  | nil => exact absurd rfl h
  | cons x r => simp
def intIn : PyData → Int → Int → Bool
  | .int i, lo, hi => decide (lo ≤ i) && decide (i ≤ hi)
  | _, _, _ => false

theorem whl_wp {G : Gm} {c : Ex} {b : Sxs} {K : Kn} {ρ : Rho} (M : Nat → Rho → Prop) {m : Nat} (h0 : M m ρ) (hs : ∀ m r, M m r → wpT G c r fun k => if k = true then wpSs G b r ⟨fun r' => ∃ m', m' < m ∧ M m' r', K.rt, K.nx, fun r' => ∃ m', m' < m ∧ M m' r'⟩ else K.nx r) : ∃ n, wpWhl (wpT G c) (wpSs G b) n ρ K := by
  refine ⟨m + 1, ?_⟩
  have : ∀ (m : Nat) (r : Rho), M m r → ∀ n, m < n → wpWhl (wpT G c) (wpSs G b) n r K := by
    intro m
    induction m using Nat.strongRecOn with
    | ind m ih =>
      intro r hr n hn
      obtain ⟨n', rfl⟩ : ∃ k, n = k + 1 := ⟨n - 1, by omega⟩
      simp only [wpWhl]
      refine wpT_mono c (fun k q => ?_) (hs m r hr)
      cases k with
      | false => exact q
      | true => exact wpSs_mono b (K := ⟨fun r' => ∃ m', m' < m ∧ M m' r', K.rt, K.nx, fun r' => ∃ m', m' < m ∧ M m' r'⟩) ⟨fun r' ⟨m', h1, h2⟩ => ih m' h1 r' h2 n' (by omega), fun _ z => z, fun _ z => z, fun r' ⟨m', h1, h2⟩ => ih m' h1 r' h2 n' (by omega)⟩ q
  exact this m ρ h0 (m + 1) (Nat.lt_succ_self _)
theorem wp_set {G : Gm} {i : Nat} {e : Ex} {r : Sxs} {ρ : Rho} {K : Kn} (h : wpE G e ρ fun d => wpSs G r (ρ.set i (.dat d)) K) : wpSs G (.cons (.set (.nm i) e) r) ρ K := by
  simp only [wpSs, wpS]; exact h
-- is_integer ['value', 'low', 'high']
def ir_is_integer : Sxs := (.cons (.ret (.and (.isi (.var 0) "int") (.and (.not (.isi (.var 0) "bool")) (.chn .LtE .LtE (.var 1) (.var 0) (.var 2))))) .nil)
def c_is_integer : Con := ⟨PyData × Int × Int, fun (v, lo, hi) as => as = [.dat v, .dat (.int lo), .dat (.int hi)], fun (v, lo, hi) r => r = .bool (intIn v lo hi)⟩
theorem wp_is_integer {G : Gm} : ∀ a as, c_is_integer.pre a as → wpSs G ir_is_integer (rho0 ["value", "low", "high"] as) (kDef (c_is_integer.post a)) := by
  rintro ⟨v, lo, hi⟩ as rfl
  show wpSs G ir_is_integer [.dat v, .dat (.int lo), .dat (.int hi)] _
  simp?! only [ir_is_integer]
  cases v with
  | int i =>
    simp?! only [true_and]
    by_cases h : lo ≤ i
    · simp?! only [beq_self_eq_true, h]
      simp [kDef, c_is_integer, intIn, h]
    · simp?! only [beq_self_eq_true, h]
      simp [kDef, c_is_integer, intIn, h]
  | bool b => simp [tySub, kDef, c_is_integer, intIn]
  | none => simp [tySub, kDef, c_is_integer, intIn]
  | str _ => simp [tySub, kDef, c_is_integer, intIn]
  | list _ => simp [tySub, kDef, c_is_integer, intIn]
  | tuple _ => simp [tySub, kDef, c_is_integer, intIn]
  | dict _ => simp [tySub, kDef, c_is_integer, intIn]
end Ef

end

section
set_option autoImplicit false
namespace Ef
/-! ### wishes along a ring: plain -/
def nxt (tb : List (Option Nat)) (v : Nat) : Option Nat := tb.getD v none
def wk (tb : List (Option Nat)) (s : Nat) : Nat → Option Nat
  | 0 => some s
  | k + 1 => (wk tb s k).bind (nxt tb)
def wf (tb : List (Option Nat)) : Nat → List Nat → Option Nat → List Nat × Option Nat
  | 0, f, _ => (f, none)
  | _ + 1, f, none => (f, none)
  | m + 1, f, some v => if v ∈ f then (f, some (f.idxOf v)) else wf tb m (f ++ [v]) (nxt tb v)
def tbOk (tb : List (Option Nat)) : Prop := ∀ v, some v ∈ tb → v < tb.length
theorem nodup_inj : ∀ {f : List Nat}, f.Nodup → ∀ (j k : Nat) (hj : j < f.length) (hk : k < f.length), f[j] = f[k] → j = k
  | [], _, j, _, hj, _, _ => by simp at hj
  | x :: r, nd, 0, 0, _, _, _ => rfl
  | x :: r, nd, 0, k + 1, _, hk, e => by
    exfalso
    have := (List.nodup_cons.mp nd).1
    apply this
    simp only [List.getElem_cons_zero, List.getElem_cons_succ] at e
    rw [e]; exact List.getElem_mem _
  | x :: r, nd, j + 1, 0, hj, _, e => by
    exfalso
    have := (List.nodup_cons.mp nd).1
    apply this
    simp only [List.getElem_cons_zero, List.getElem_cons_succ] at e
    rw [← e]; exact List.getElem_mem _
  | x :: r, nd, j + 1, k + 1, hj, hk, e => by
    simp only [List.getElem_cons_succ] at e
    exact congrArg (· + 1) (nodup_inj (List.nodup_cons.mp nd).2 j k _ _ e)
theorem nxt_lt {tb : List (Option Nat)} (h : tbOk tb) {v u : Nat} (e : nxt tb v = some u) : u < tb.length := by
  unfold nxt at e
  rw [List.getD_eq_getElem?_getD] at e
  by_cases hv : v < tb.length
  · rw [List.getElem?_eq_getElem hv, Option.getD_some] at e
    exact h u (by rw [← e]; exact List.getElem_mem hv)
  · rw [List.getElem?_eq_none (by omega)] at e; cases e
theorem pigeonN : ∀ (n : Nat) (l : List Nat), (∀ x ∈ l, x < n) → l.Nodup → l.length ≤ n
  | 0, l, h, _ => by
    cases l with
    | nil => simp
    | cons x r => exact absurd (h x (by simp)) (by omega)
  | n + 1, l, h, nd => by
    have h1 := pigeonN n (l.filter fun x => decide (x ≠ n)) (fun x hx => by
      obtain ⟨a, b⟩ := List.mem_filter.mp hx
      have := h x a
      simp at b
      omega) (nd.filter _)
    have h2 : l.length ≤ (l.filter fun x => decide (x ≠ n)).length + 1 := by
      clear h1 h
      induction l with
      | nil => simp
      | cons x r ih =>
        have nd' := List.nodup_cons.mp nd
        by_cases hx : x = n
        · subst hx
          have : r.filter (fun y => decide (y ≠ x)) = r := List.filter_eq_self.mpr fun y hy => by
            simp
            rintro rfl
            exact nd'.1 hy
          have e : (x :: r).filter (fun y => decide (y ≠ x)) = r := by rw [List.filter_cons, this]; simp
          rw [e]; simp
        · simp [hx]
          have := ih nd'.2
          simpa using this
    omega
/-- what the search has found so far -/
structure Fnd (tb : List (Option Nat)) (s : Nat) (f : List Nat) (v : Option Nat) : Prop where
  nd : f.Nodup
  at_ : ∀ k, k < f.length → wk tb s k = some (f.getD k 0)
  vl : wk tb s f.length = v
  lt : ∀ x ∈ f, x < tb.length
  vt : ∀ u, v = some u → u < tb.length
theorem Fnd.more {tb : List (Option Nat)} (h : tbOk tb) {s : Nat} {f : List Nat} {v : Nat} (F : Fnd tb s f (some v)) (hv : v ∉ f) : Fnd tb s (f ++ [v]) (nxt tb v) := by
  refine ⟨?_, fun k hk => ?_, ?_, fun x hx => ?_, fun u e => nxt_lt h e⟩
  · rw [List.nodup_append]
    refine ⟨F.nd, by simp, fun a ha b hb e => ?_⟩
    rw [List.mem_singleton.mp hb] at e
    subst e
    exact hv ha
  · simp only [List.length_append, List.length_cons, List.length_nil] at hk
    by_cases hl : k < f.length
    · rw [F.at_ k hl]
      simp [List.getElem?_append_left hl]
    · have : k = f.length := by omega
      subst this
      rw [F.vl]
      simp
  · simp only [List.length_append, List.length_cons, List.length_nil, wk, F.vl]
    rfl
  · rcases List.mem_append.mp hx with hx | hx
    · exact F.lt x hx
    · rw [List.mem_singleton.mp hx]; exact F.vt v rfl
theorem Fnd.len {tb : List (Option Nat)} {s : Nat} {f : List Nat} {v : Option Nat} (F : Fnd tb s f v) : f.length ≤ tb.length := pigeonN _ _ F.lt F.nd
/-- what it has found at last -/
structure Whole (tb : List (Option Nat)) (s : Nat) (f : List Nat) (a : Option Nat) : Prop where
  nd : f.Nodup
  at_ : ∀ k, k < f.length → wk tb s k = some (f.getD k 0)
  lt : ∀ x ∈ f, x < tb.length
  len : 1 ≤ f.length ∧ f.length ≤ tb.length
  no : a = none → wk tb s f.length = none
  so : ∀ i, a = some i → i < f.length ∧ wk tb s f.length = wk tb s i
theorem wf_whole {tb : List (Option Nat)} (h : tbOk tb) {s : Nat} : ∀ (m : Nat) (f : List Nat) (v : Option Nat), Fnd tb s f v → tb.length < f.length + m → (f = [] → v ≠ none) → Whole tb s (wf tb m f v).1 (wf tb m f v).2
  | 0, f, v, F, hm, _ => by have := F.len; omega
  | m + 1, f, none, F, hm, hne => by
    have hf : f ≠ [] := fun z => hne z rfl
    have := List.length_pos_iff.mpr hf
    simp only [wf]
    exact ⟨F.nd, F.at_, F.lt, ⟨this, F.len⟩, fun _ => F.vl, fun i e => by cases e⟩
  | m + 1, f, some v, F, hm, hne => by
    simp only [wf]
    by_cases hv : v ∈ f
    · rw [if_pos hv]
      have := List.length_pos_iff.mpr (List.ne_nil_of_mem hv)
      refine ⟨F.nd, F.at_, F.lt, ⟨this, F.len⟩, (fun e => by cases e), fun i e => ?_⟩
      cases e
      have hi : f.idxOf v < f.length := List.idxOf_lt_length_of_mem hv
      refine ⟨hi, ?_⟩
      rw [F.vl, F.at_ _ hi]
      simp [hi]
    · rw [if_neg hv]
      exact wf_whole h m (f ++ [v]) (nxt tb v) (F.more h hv) (by simp; omega) (fun z => by simp at z)
def wfR (tb : List (Option Nat)) (s : Nat) : List Nat × Option Nat := wf tb (tb.length + 1) [] (some s)
theorem wfR_whole {tb : List (Option Nat)} (h : tbOk tb) {s : Nat} (hs : s < tb.length) : Whole tb s (wfR tb s).1 (wfR tb s).2 :=
  wf_whole h _ _ _ ⟨List.nodup_nil, fun k hk => by simp at hk, rfl, by simp, fun u e => by cases e; exact hs⟩ (by simp) (fun _ z => by cases z)
/-- the wish with a number, by what was found -/
def wa (f : List Nat) (a : Option Nat) (k : Nat) : Option Nat :=
  if k < f.length then some (f.getD k 0) else match a with
  | none => none
  | some i => some (f.getD (i + (k - i) % (f.length - i)) 0)
section
variable {tb : List (Option Nat)} {s : Nat} {f : List Nat} {a : Option Nat}
theorem wk_add (k j : Nat) (i : Nat) (e : wk tb s k = wk tb s i) : wk tb s (k + j) = wk tb s (i + j) := by
  induction j with
  | zero => exact e
  | succ j ih => show (wk tb s (k + j)).bind _ = (wk tb s (i + j)).bind _; rw [ih]
theorem wk_none (k j : Nat) (e : wk tb s k = none) : wk tb s (k + j) = none := by
  induction j with
  | zero => exact e
  | succ j ih => show (wk tb s (k + j)).bind _ = none; rw [ih]; rfl
theorem Whole.per (W : Whole tb s f a) {i : Nat} (e : a = some i) : ∀ k, i ≤ k → wk tb s (k + (f.length - i)) = wk tb s k := fun k hk => by
  obtain ⟨h1, h2⟩ := W.so i e
  have := wk_add (tb := tb) (s := s) f.length (k - i) i h2
  have e1 : f.length + (k - i) = k + (f.length - i) := by omega
  have e2 : i + (k - i) = k := by omega
  rw [e1, e2] at this
  exact this
theorem Whole.pers (W : Whole tb s f a) {i : Nat} (e : a = some i) (k : Nat) (hk : i ≤ k) : ∀ q, wk tb s (k + q * (f.length - i)) = wk tb s k
  | 0 => by simp
  | q + 1 => by
    have := W.per e (k + q * (f.length - i)) (by omega)
    rw [Nat.succ_mul, ← Nat.add_assoc, this]
    exact Whole.pers W e k hk q
theorem Whole.wa (W : Whole tb s f a) (k : Nat) : wa f a k = wk tb s k := by
  unfold Ef.wa
  by_cases hk : k < f.length
  · rw [if_pos hk, W.at_ k hk]
  · rw [if_neg hk]
    cases e : a with
    | none =>
      have := wk_none (tb := tb) (s := s) f.length (k - f.length) (W.no e)
      have e1 : f.length + (k - f.length) = k := by omega
      rw [e1] at this
      exact this.symm
    | some i =>
      obtain ⟨h1, h2⟩ := W.so i e
      have hp : 0 < f.length - i := by omega
      have hm := Nat.mod_lt (k - i) hp
      have hd := Nat.mod_add_div (k - i) (f.length - i)
      have := W.pers e (i + (k - i) % (f.length - i)) (by omega) ((k - i) / (f.length - i))
      have e1 : i + (k - i) % (f.length - i) + (k - i) / (f.length - i) * (f.length - i) = k := by
        rw [Nat.mul_comm ((k - i) / _)]; omega
      rw [e1] at this
      rw [this, W.at_ _ (by omega)]
theorem Whole.some (W : Whole tb s f a) {i : Nat} (e : a = some i) (k : Nat) : wk tb s k ≠ none := by
  rw [← W.wa k]
  unfold Ef.wa
  split
  · simp
  · rw [e]; simp
theorem Whole.inj (W : Whole tb s f a) {j k : Nat} (hj : j < f.length) (hk : k < f.length) (e : wk tb s j = wk tb s k) : j = k := by
  rw [W.at_ j hj, W.at_ k hk] at e
  have e := Option.some.inj e
  have e1 : f.getD j 0 = f[j] := by simp [hj]
  have e2 : f.getD k 0 = f[k] := by simp [hk]
  rw [e1, e2] at e
  exact nodup_inj W.nd j k hj hk e
end
/-! stops -/
def stopB (tb : List (Option Nat)) (old : List Nat) (s k : Nat) : Bool := decide (wk tb s k = none) || decide (wk tb s k = some (old.getD (k % old.length) 0))
def perOf (f : List Nat) : Option Nat → Nat
  | none => 1
  | some i => f.length - i
def fstop (tb : List (Option Nat)) (old : List Nat) (s B : Nat) : Option Nat := ((List.range B).find? fun v => stopB tb old s (v + 1)).map (· + 1)
theorem find_ext {p : Nat → Bool} {B C : Nat} (hBC : B ≤ C) (h : ∀ v, v < C → p v = true → ∃ u, u < B ∧ p u = true) : (List.range B).find? p = (List.range C).find? p := by
  obtain ⟨d, rfl⟩ : ∃ d, C = B + d := ⟨C - B, by omega⟩
  rw [List.range_add, List.find?_append]
  cases e : (List.range B).find? p with
  | some x => rfl
  | none =>
    rw [Option.none_or]
    symm
    rw [List.find?_eq_none]
    intro x hx hp
    obtain ⟨v, hv, rfl⟩ := List.mem_map.mp hx
    obtain ⟨u, hu, hpu⟩ := h _ (by have := List.mem_range.mp hv; omega) hp
    exact List.find?_eq_none.mp e u (List.mem_range.mpr hu) hpu
theorem stop_early {tb : List (Option Nat)} {old : List Nat} {s : Nat} {f : List Nat} {a : Option Nat} (W : Whole tb s f a) (ho : 0 < old.length) : ∀ k, 1 ≤ k → stopB tb old s k = true → ∃ j, 1 ≤ j ∧ j ≤ f.length + perOf f a * old.length ∧ stopB tb old s j = true := by
  intro k
  induction k using Nat.strongRecOn with
  | ind k ih =>
    intro h1 hs
    by_cases hk : k ≤ f.length + perOf f a * old.length
    · exact ⟨k, h1, hk, hs⟩
    · cases e : a with
      | none =>
        refine ⟨f.length, W.len.1, by omega, ?_⟩
        simp [stopB, W.no e]
      | some i =>
        subst e
        simp only [perOf] at hk ⊢
        obtain ⟨h2, _⟩ := W.so i rfl
        have hp : 0 < (f.length - i) * old.length := Nat.mul_pos (by omega) ho
        refine ih (k - (f.length - i) * old.length) (by omega) (by omega) ?_
        have e1 : wk tb s (k - (f.length - i) * old.length) = wk tb s k := by
          have := W.pers rfl (k - (f.length - i) * old.length) (by omega) old.length
          rw [Nat.mul_comm old.length] at this
          rw [← this]
          congr 1
          omega
        have e2 : (k - (f.length - i) * old.length) % old.length = k % old.length := by
          have : k = (k - (f.length - i) * old.length) + old.length * (f.length - i) := by rw [Nat.mul_comm old.length]; omega
          conv => rhs; rw [this]
          rw [Nat.add_mul_mod_self_left]
        unfold stopB at hs ⊢
        rw [e1, e2]
        exact hs
/-- any bound that is great enough gives the same first stop -/
theorem fstop_any {tb : List (Option Nat)} {old : List Nat} {s : Nat} {f : List Nat} {a : Option Nat} (W : Whole tb s f a) (ho : 0 < old.length) {C : Nat} (h : f.length + perOf f a * old.length ≤ C) : fstop tb old s (f.length + perOf f a * old.length) = fstop tb old s C := by
  unfold fstop
  rw [find_ext h]
  intro v hv hp
  obtain ⟨j, h1, h2, h3⟩ := stop_early W ho (v + 1) (by omega) hp
  exact ⟨j - 1, by omega, by rw [show j - 1 + 1 = j by omega]; exact h3⟩
/-- the law's period and what is ahead -/
theorem per_found {tb : List (Option Nat)} {s : Nat} {f : List Nat} {i : Nat} (W : Whole tb s f (some i)) (hl : f.length ≤ 8) : ((List.range 8).find? fun v => decide (wk tb s 20 = wk tb s (20 + (v + 1)))) = some (f.length - i - 1) := by
  obtain ⟨h2, _⟩ := W.so i rfl
  have key : ∀ j, 20 ≤ j → wk tb s j = wk tb s (i + (j - i) % (f.length - i)) := fun j hj => by
    have hp : 0 < f.length - i := by omega
    have hd := Nat.mod_add_div (j - i) (f.length - i)
    have := W.pers rfl (i + (j - i) % (f.length - i)) (by omega) ((j - i) / (f.length - i))
    have e1 : i + (j - i) % (f.length - i) + (j - i) / (f.length - i) * (f.length - i) = j := by
      rw [Nat.mul_comm ((j - i) / _)]; omega
    rw [e1] at this
    exact this
  rw [List.find?_eq_some_iff_append]
  refine ⟨?_, List.range (f.length - i - 1), (List.range (8 - (f.length - i - 1) - 1)).map fun x => f.length - i - 1 + 1 + x, ?_, fun v hv => ?_⟩
  · rw [decide_eq_true_eq]
    have := W.per rfl 20 (by omega)
    rw [show 20 + (f.length - i - 1 + 1) = 20 + (f.length - i) by omega, this]
  · have : (8 : Nat) = (f.length - i - 1) + 1 + (8 - (f.length - i - 1) - 1) := by omega
    conv => lhs; rw [this]
    rw [List.range_add, List.range_add]
    simp [Nat.add_assoc]
  · have hv := List.mem_range.mp hv
    simp only [Bool.not_eq_true', decide_eq_false_iff_not]
    intro e
    rw [key 20 (by omega), key (20 + (v + 1)) (by omega)] at e
    have hp : 0 < f.length - i := by omega
    have m1 := Nat.mod_lt (20 - i) hp
    have m2 := Nat.mod_lt (20 + (v + 1) - i) hp
    have := W.inj (by omega) (by omega) e
    have e3 : (20 - i) % (f.length - i) = (20 - i + (v + 1)) % (f.length - i) := by
      rw [show 20 - i + (v + 1) = 20 + (v + 1) - i by omega]; omega
    have d1 := Nat.mod_add_div (20 - i) (f.length - i)
    have d2 := Nat.mod_add_div (20 - i + (v + 1)) (f.length - i)
    rw [← e3] at d2
    -- the difference is a multiple of the period
    have d3 : v + 1 = (f.length - i) * ((20 - i + (v + 1)) / (f.length - i)) - (f.length - i) * ((20 - i) / (f.length - i)) := by omega
    rw [← Nat.mul_sub] at d3
    have : f.length - i ≤ v + 1 := by
      rw [d3]
      refine Nat.le_mul_of_pos_right _ ?_
      rcases Nat.eq_zero_or_pos ((20 - i + (v + 1)) / (f.length - i) - (20 - i) / (f.length - i)) with z | z
      · rw [z] at d3; omega
      · exact z
    omega
theorem ahead_found {tb : List (Option Nat)} {s : Nat} {f : List Nat} {i : Nat} (W : Whole tb s f (some i)) (hl : f.length ≤ 8) : ((List.range 20).find? fun v => decide (wk tb s v = wk tb s (v + (f.length - i)))) = some i := by
  obtain ⟨h2, _⟩ := W.so i rfl
  rw [List.find?_eq_some_iff_append]
  refine ⟨?_, List.range i, (List.range (20 - i - 1)).map fun x => i + 1 + x, ?_, fun v hv => ?_⟩
  · rw [decide_eq_true_eq]
    exact (W.per rfl i (Nat.le_refl _)).symm
  · have : (20 : Nat) = i + 1 + (20 - i - 1) := by omega
    conv => lhs; rw [this]
    rw [List.range_add, List.range_add]
    simp [Nat.add_assoc]
  · have hv := List.mem_range.mp hv
    simp only [Bool.not_eq_true', decide_eq_false_iff_not]
    intro e
    have := W.inj (by omega) (by omega) e
    omega
end Ef

end

section
set_option autoImplicit false
namespace Ef
open PySem L2 PySem.Spec PyProof.Rows
-- wishes_from ['table', 'start', 'places', 'found', 'value']
def ir_wishes_from_c1 : Ex := (.and (.cmp .IsNot (.var 4) (.cst .none)) (.cmp .NotIn (.var 4) (.bor 2)))
def ir_wishes_from_b1 : Sxs := (.cons (.put 2 (.var 4) (.blt .len (.cons (.bor 3) .nil))) (.cons (.app 3 (.var 4)) (.cons (.set (.nm 4) (.idx (.var 0) (.var 4))) .nil)))
def ir_wishes_from_t1 : Sxs := (.cons (.ret (.tup (.cons (.blt .tuple (.cons (.bor 3) .nil)) (.cons (.ite (.cmp .Is (.var 4) (.cst .none)) (.cst .none) (.idx (.bor 2) (.var 4))) .nil)))) .nil)
def ir_wishes_from : Sxs := (.cons (.par [2, 3, 4] [true, true, false] (.cons .dnw (.cons (.lst .nil) (.cons (.var 1) .nil)))) (.cons (.whl ir_wishes_from_c1 ir_wishes_from_b1) ir_wishes_from_t1))
-- wish_at ['found', 'ahead', 'number']
def ir_wish_at_t1 : Sxs := (.cons (.ret (.idx (.var 0) (.bin .Add (.var 1) (.bin .Mod (.bin .Sub (.var 2) (.var 1)) (.bin .Sub (.blt .len (.cons (.var 0) .nil)) (.var 1)))))) .nil)
def ir_wish_at_t2 : Sxs := (.cons (.ife (.cmp .Is (.var 1) (.cst .none)) (.cons (.ret (.cst .none)) .nil) .nil) ir_wish_at_t1)
def ir_wish_at : Sxs := (.cons (.ife (.cmp .Lt (.var 2) (.blt .len (.cons (.var 0) .nil))) (.cons (.ret (.idx (.var 0) (.var 2))) .nil) .nil) ir_wish_at_t2)
-- first_stop ['table', 'old', 'start', 'period', 'number', 'found', 'ahead']
def ir_first_stop_b1 : Sxs := (.cons (.ife (.cmp .In (.call "wish_at" (.cons (.var 5) (.cons (.var 6) (.cons (.var 4) .nil)))) (.tup (.cons (.cst .none) (.cons (.idx (.var 1) (.bin .Mod (.var 4) (.blt .len (.cons (.var 1) .nil)))) .nil)))) (.cons (.ret (.var 4)) .nil) .nil) .nil)
def ir_first_stop_t1 : Sxs := (.cons (.ret (.cst .none)) .nil)
def ir_first_stop : Sxs := (.cons (.set (.tp [5, 6]) (.call "wishes_from" (.cons (.var 0) (.cons (.var 2) .nil)))) (.cons (.set (.nm 3) (.ite (.cmp .Is (.var 6) (.cst .none)) (.cst (.int 1)) (.bin .Sub (.blt .len (.cons (.var 5) .nil)) (.var 6)))) (.cons (.for_ (.nm 4) (.rg2 (.cst (.int 1)) (.bin .Add (.bin .Add (.blt .len (.cons (.var 5) .nil)) (.bin .Mult (.var 3) (.blt .len (.cons (.var 1) .nil)))) (.cst (.int 1)))) ir_first_stop_b1) ir_first_stop_t1)))
-- endless_rule ['table', 'old', 'start', 'found', 'ahead']
def ir_endless_rule : Sxs := (.cons (.set (.tp [3, 4]) (.call "wishes_from" (.cons (.var 0) (.cons (.var 2) .nil)))) (.cons (.ret (.tup (.cons (.call "first_stop" (.cons (.var 0) (.cons (.var 1) (.cons (.var 2) .nil)))) (.cons (.var 4) (.cons (.ite (.cmp .Is (.var 4) (.cst .none)) (.cst .none) (.bin .Sub (.blt .len (.cons (.var 3) .nil)) (.var 4))) .nil))))) .nil))
-- _law_ring ['_law_box', '_law_many', '_law_table', '_law_old', '_law_way', '_law_by', '_law_k']
def ir__law_ring_e1 : Ex := (.call "_law_draw" (.cons (.var 0) (.cons (.var 1) .nil)))
def ir__law_ring_e2 : Ex := (.bin .Mod (.blt .int (.cons (.bin .Add (.var 6) (.cst (.int 1))) .nil)) (.var 1))
def ir__law_ring_e3 : Ex := (.bin .Mod (.blt .int (.cons (.bin .Add (.var 6) (.var 5)) .nil)) (.var 1))
def ir__law_ring_e4 : Ex := (.call "_law_draw" (.cons (.var 0) (.cons (.var 1) .nil)))
def ir__law_ring_t1 : Sxs := (.cons (.ret (.tup (.cons (.blt .tuple (.cons (.bor 2) .nil)) (.cons (.blt .tuple (.cons (.var 3) .nil)) (.cons (.call "_law_draw" (.cons (.var 0) (.cons (.var 1) .nil))) .nil))))) .nil)
def ir__law_ring_t2 : Sxs := (.cons (.set (.nm 3) (.lc ir__law_ring_e4 (.nm 6) (.rg (.bin .Add (.cst (.int 1)) (.call "_law_draw" (.cons (.var 0) (.cons (.cst (.int 6)) .nil))))) .no [6])) (.cons (.ife (.cmp .Eq (.call "_law_draw" (.cons (.var 0) (.cons (.cst (.int 2)) .nil))) (.cst (.int 0))) (.cons (.set (.nm 3) (.bin .Mult (.lst (.cons (.idx (.var 3) (.cst (.int 0))) .nil)) (.blt .len (.cons (.var 3) .nil)))) .nil) .nil) ir__law_ring_t1))
def ir__law_ring : Sxs := (.cons (.set (.nm 1) (.bin .Add (.cst (.int 2)) (.call "_law_draw" (.cons (.var 0) (.cons (.cst (.int 7)) .nil))))) (.cons (.par [4, 5] [false, false] (.cons (.call "_law_draw" (.cons (.var 0) (.cons (.cst (.int 5)) .nil))) (.cons (.call "_law_draw" (.cons (.var 0) (.cons (.var 1) .nil))) .nil))) (.cons (.own 2 (.lc ir__law_ring_e1 (.nm 6) (.rg (.var 1)) .no [6])) (.cons (.ife (.cmp .Eq (.var 4) (.cst (.int 0))) (.cons (.own 2 (.lc ir__law_ring_e2 (.nm 6) (.rg (.var 1)) .no [6])) .nil) (.cons (.ife (.cmp .Eq (.var 4) (.cst (.int 1))) (.cons (.own 2 (.lc ir__law_ring_e3 (.nm 6) (.rg (.var 1)) .no [6])) .nil) (.cons (.ife (.cmp .Eq (.var 4) (.cst (.int 2))) (.cons (.put 2 (.var 5) (.cst .none)) .nil) .nil) .nil)) .nil)) ir__law_ring_t2))))
-- _law_wish ['_law_table', '_law_start', '_law_number', '_law_ahead', '_law_places', '_law_found', '_law_value']
def ir__law_wish_c1 : Ex := (.and (.cmp .IsNot (.var 6) (.cst .none)) (.cmp .NotIn (.var 6) (.bor 4)))
def ir__law_wish_b1 : Sxs := (.cons (.put 4 (.var 6) (.blt .len (.cons (.bor 5) .nil))) (.cons (.app 5 (.var 6)) (.cons (.set (.nm 6) (.idx (.var 0) (.var 6))) .nil)))
def ir__law_wish_t1 : Sxs := (.cons (.set (.nm 3) (.idx (.bor 4) (.var 6))) (.cons (.ret (.idx (.bor 5) (.bin .Add (.var 3) (.bin .Mod (.blt .int (.cons (.bin .Sub (.var 2) (.var 3)) .nil)) (.bin .Sub (.blt .len (.cons (.bor 5) .nil)) (.var 3)))))) .nil))
def ir__law_wish_t2 : Sxs := (.cons (.ife (.or (.cmp .Lt (.var 2) (.blt .len (.cons (.bor 5) .nil))) (.cmp .Is (.var 6) (.cst .none))) (.cons (.ret (.idx (.bin .Add (.bor 5) (.lst (.cons (.cst .none) .nil))) (.blt .min (.cons (.var 2) (.cons (.blt .len (.cons (.bor 5) .nil)) .nil))))) .nil) .nil) ir__law_wish_t1)
def ir__law_wish : Sxs := (.cons (.par [4, 5, 6] [true, true, false] (.cons .dnw (.cons (.lst .nil) (.cons (.var 1) .nil)))) (.cons (.whl ir__law_wish_c1 ir__law_wish_b1) ir__law_wish_t2))
-- _law_rule ['_law_table', '_law_old', '_law_start', '_law_wishes', '_law_k', '_law_stops', '_law_periods', '_law_ahead']
def ir__law_rule_b1 : Sxs := (.cons (.app 3 (.ite (.cmp .Is (.idx (.bor 3) (.neg (.cst (.int 1)))) (.cst .none)) (.cst .none) (.idx (.var 0) (.idx (.bor 3) (.neg (.cst (.int 1))))))) .nil)
def ir__law_rule_e1 : Ex := (.var 4)
def ir__law_rule_c1 : Ex := (.or (.cmp .Is (.idx (.bor 3) (.var 4)) (.cst .none)) (.cmp .Eq (.idx (.bor 3) (.var 4)) (.idx (.var 1) (.bin .Mod (.blt .int (.cons (.var 4) .nil)) (.blt .len (.cons (.var 1) .nil))))))
def ir__law_rule_e2 : Ex := (.var 4)
def ir__law_rule_c2 : Ex := (.cmp .Eq (.idx (.bor 3) (.cst (.int 20))) (.idx (.bor 3) (.bin .Add (.cst (.int 20)) (.var 4))))
def ir__law_rule_e3 : Ex := (.var 4)
def ir__law_rule_c3 : Ex := (.cmp .Eq (.idx (.bor 3) (.var 4)) (.idx (.bor 3) (.bin .Add (.var 4) (.idx (.var 6) (.cst (.int 0))))))
def ir__law_rule_t1 : Sxs := (.cons (.set (.nm 6) (.lc ir__law_rule_e2 (.nm 4) (.rg2 (.cst (.int 1)) (.cst (.int 9))) (.so ir__law_rule_c2) [4])) (.cons (.set (.nm 7) (.lc ir__law_rule_e3 (.nm 4) (.rg (.cst (.int 20))) (.so ir__law_rule_c3) [4])) (.cons (.ret (.tup (.cons (.idx (.bin .Add (.var 5) (.lst (.cons (.cst .none) .nil))) (.cst (.int 0))) (.cons (.idx (.var 7) (.cst (.int 0))) (.cons (.idx (.var 6) (.cst (.int 0))) .nil))))) .nil)))
def ir__law_rule_t2 : Sxs := (.cons (.set (.nm 5) (.lc ir__law_rule_e1 (.nm 4) (.rg2 (.cst (.int 1)) (.cst (.int 91))) (.so ir__law_rule_c1) [4])) (.cons (.ife (.cmp .In (.cst .none) (.bor 3)) (.cons (.ret (.tup (.cons (.idx (.bin .Add (.var 5) (.lst (.cons (.cst .none) .nil))) (.cst (.int 0))) (.cons (.cst .none) (.cons (.cst .none) .nil))))) .nil) .nil) ir__law_rule_t1))
def ir__law_rule : Sxs := (.cons (.own 3 (.lst (.cons (.var 2) .nil))) (.cons (.for_ (.nm 4) (.rg (.cst (.int 90))) ir__law_rule_b1) ir__law_rule_t2))
def oN : Option Nat → PyData
  | none => .none
  | some v => .int (v : Int)
theorem oNn : oN none = .none := rfl
theorem oNs (v : Nat) : oN (some v) = .int (v : Int) := rfl
theorem nats_of {M : Nat} : ∀ {zs : List Int}, (∀ z ∈ zs, 0 ≤ z ∧ z < (M : Int)) → ∃ xs : List Nat, zs = xs.map (fun n : Nat => (n : Int)) ∧ ∀ x ∈ xs, x < M
  | [], _ => ⟨[], rfl, by simp⟩
  | z :: zs, h => by
    obtain ⟨xs, rfl, h1⟩ := nats_of (zs := zs) fun y hy => h y (by simp [hy])
    have := h z (by simp)
    refine ⟨z.toNat :: xs, by simp; omega, fun x hx => ?_⟩
    rcases List.mem_cons.mp hx with rfl | hx
    · omega
    · exact h1 x hx
def tT (tb : List (Option Nat)) : PyData := .tuple (tb.map oN)
theorem rw_tT_ix {tb : List (Option Nat)} {v : Nat} (h : v < tb.length) {Q : PyData → Prop} : idxW (tT tb) (.int (v : Int)) Q = Q (oN (nxt tb v)) := by
  unfold tT
  rw [rw_ix_t, at_map oN tb v h, rw_exo]
  unfold nxt
  simp [h]
def plc (f : List Nat) : List (PyData × PyData) := f.zipIdx.map fun p => (.int (p.1 : Int), .int (p.2 : Int))
theorem look_from : ∀ (f : List Nat) (n v : Nat), lookD ((f.zipIdx n).map fun p => (PyData.int (p.1 : Int), PyData.int (p.2 : Int))) (.int (v : Int)) = if v ∈ f then some (.int ((n + f.idxOf v : Nat) : Int)) else none
  | [], n, v => by simp [lookD]
  | x :: f, n, v => by
    have ih := look_from f (n + 1) v
    unfold lookD at ih ⊢
    simp only [List.zipIdx_cons, List.map_cons, List.find?_cons]
    have k1 : keyEq (PyData.int (x : Int)) (.int (v : Int)) = decide ((x : Int) = (v : Int)) := rfl
    rw [k1]
    by_cases h : x = v
    · subst h
      simp
    · have h1 : decide ((x : Int) = (v : Int)) = false := by simp; omega
      have h2 : v ≠ x := Ne.symm h
      simp only [h1]
      rw [ih, List.idxOf_cons]
      simp only [List.mem_cons, h2, false_or]
      have h3 : (x == v) = false := by simpa using h
      simp only [h3, cond_false]
      split
      · congr 3
        omega
      · rfl
theorem look_plc (f : List Nat) (v : Nat) : lookD (plc f) (.int (v : Int)) = if v ∈ f then some (.int ((f.idxOf v : Nat) : Int)) else none := by
  have := look_from f 0 v
  simpa [plc] using this
theorem store_plc {f : List Nat} {v : Nat} (h : v ∉ f) : storeD (plc f) (.int (v : Int)) (.int (f.length : Int)) = plc (f ++ [v]) := by
  unfold storeD
  have : ((plc f).any fun p => keyEq p.1 (.int (v : Int))) = false := by
    rw [List.any_eq_false]
    intro p hp
    obtain ⟨q, hq, rfl⟩ := List.mem_map.mp hp
    have := (List.mem_zipIdx hq).2.2
    simp only [keyEq, decide_eq_true_eq]
    intro e
    apply h
    have e : q.1 = v := by omega
    rw [← e, this]
    exact List.getElem_mem _
  rw [this]
  simp [plc, List.zipIdx_append]
theorem len_plc (f : List Nat) : (plc f).length = f.length := by simp [plc]
theorem rw_key_plc (f : List Nat) (v : Int) : (keyFor (plc f) (.int v) = true) = True := eq_true (by
  unfold keyFor
  rw [Bool.or_eq_true]
  refine .inl ?_
  simp only [keyB, Bool.true_and, List.all_eq_true, plc, List.mem_map]
  rintro p ⟨q, _, rfl⟩
  rfl)
def ringOk (tb : List (Option Nat)) (s : Nat) : Prop := tbOk tb ∧ s < tb.length ∧ tb.length ≤ 8
def c_wf : Con := ⟨List (Option Nat) × Nat, fun (tb, s) as => as = [.dat (tT tb), .dat (.int (s : Int))] ∧ ringOk tb s, fun (tb, s) r => r = .tuple [tN (wfR tb s).1, oN (wfR tb s).2]⟩
/-- the loop that both have -/
theorem whl_wf {G : Gm} {tb : List (Option Nat)} {s : Nat} (hr : ringOk tb s) {c : Ex} {b : Sxs} {K : Kn} {mk : List Nat → Option Nat → Rho} (hc : ∀ (f : List Nat) (v : Option Nat) (Q : Bool → Prop), (v = none → Q false) → (∀ u, v = some u → Q (!decide (u ∈ f))) → wpT G c (mk f v) Q)
    (hb : ∀ (f : List Nat) (u : Nat) (L : Kn), u ∉ f → u < tb.length → f.length ≤ 8 → L.nx (mk (f ++ [u]) (nxt tb u)) → wpSs G b (mk f (some u)) L) (hK : ∀ f v, (v = none → wfR tb s = (f, none)) → (∀ u, v = some u → u ∈ f ∧ wfR tb s = (f, some (f.idxOf u))) → f.length ≤ 8 → K.nx (mk f v)) :
    ∃ n, wpWhl (wpT G c) (wpSs G b) n (mk [] (some s)) K := by
  obtain ⟨h1, h2, h3⟩ := hr
  refine whl_wp (fun m r => ∃ f v, r = mk f v ∧ Fnd tb s f v ∧ wfR tb s = wf tb m f v ∧ tb.length < f.length + m) (m := tb.length + 1) ⟨[], some s, rfl, ⟨List.nodup_nil, fun k hk => by simp at hk, rfl, by simp, fun u e => by cases e; exact h2⟩, rfl, by simp⟩ ?_
  rintro m r ⟨f, v, rfl, F, hw, hm⟩
  have hl := F.len
  obtain ⟨m', rfl⟩ : ∃ k, m = k + 1 := ⟨m - 1, by omega⟩
  refine hc f v _ (fun e => ?_) (fun u e => ?_)
  · subst e
    rw [if_neg (by simp)]
    exact hK f none (fun _ => hw) (fun u e => by cases e) (by omega)
  · subst e
    by_cases hu : u ∈ f
    · rw [if_neg (by simp [hu])]
      refine hK f (some u) (fun e => by cases e) (fun u' e => ?_) (by omega)
      cases e
      refine ⟨hu, ?_⟩
      rw [hw]
      simp only [wf, if_pos hu]
    · rw [if_pos (by simp [hu])]
      refine hb f u _ hu (F.vt u rfl) (by omega) ⟨m', Nat.lt_succ_self _, f ++ [u], nxt tb u, rfl, F.more h1 hu, ?_, by simp; omega⟩
      rw [hw]
      simp only [wf, if_neg hu]
theorem wp_wf {G : Gm} : ∀ a as, c_wf.pre a as → wpSs G ir_wishes_from (rho0 ["table", "start", "places", "found", "value"] as) (kDef (c_wf.post a)) := by
  rintro ⟨tb, s⟩ as ⟨rfl, hr⟩
  show wpSs G ir_wishes_from [.dat (tT tb), .dat (.int (s : Int)), .un, .un, .un] _
  simp?! only [ir_wishes_from]
  refine whl_wf (mk := fun f v => [.dat (tT tb), .dat (.int (s : Int)), .dic (plc f), .own (f.map (fun n : Nat => PyData.int (n : Int))), .dat (oN v)]) hr (fun f v Q h1 h2 => ?_) (fun f u L h1 h2 h3 h4 => ?_) (fun f v h1 h2 h3 => ?_)
  · simp?! only [ir_wishes_from_c1]
    cases v with
    | none => simp?! only [oNn, oNs]; exact h1 rfl
    | some u =>
      simp?! only [oNn, oNs, rw_key_plc, look_plc]
      have := h2 u rfl
      by_cases hu : u ∈ f
      · simpa [hu] using this
      · simpa [hu] using this
  · simp?! only [ir_wishes_from_b1, oNs, rw_tT_ix h2, store_plc h1, len_plc, rw_key_plc]
    refine ⟨by rw [sizeLine_eq]; omega, by rw [sizeLine_eq]; omega, ?_⟩
    have e : f.map (fun n : Nat => PyData.int (n : Int)) ++ [.int (u : Int)] = (f ++ [u]).map (fun n : Nat => PyData.int (n : Int)) := by simp
    rw [e]
    exact h4
  · simp?! only [ir_wishes_from_t1]
    cases v with
    | none =>
      simp?! only [oNn, oNs]
      show _ = _
      rw [h1 rfl]
      rfl
    | some u =>
      obtain ⟨hu, hw⟩ := h2 u rfl
      simp?! only [oNn, oNs, rw_key_plc, look_plc, if_pos hu]
      show _ = _
      rw [hw]
      rfl
def c_wa : Con := ⟨List Nat × Option Nat × Nat, fun (f, a, k) as => as = [.dat (tN f), .dat (oN a), .dat (.int (k : Int))] ∧ (∀ i, a = some i → i < f.length), fun (f, a, k) r => r = oN (wa f a k)⟩
theorem wp_wa {G : Gm} : ∀ a as, c_wa.pre a as → wpSs G ir_wish_at (rho0 ["found", "ahead", "number"] as) (kDef (c_wa.post a)) := by
  rintro ⟨f, a, k⟩ as ⟨rfl, ha⟩
  show wpSs G ir_wish_at [.dat (tN f), .dat (oN a), .dat (.int (k : Int))] _
  simp?! only [ir_wish_at, rw_tN_len, rw_tN_ix]
  by_cases hk : k < f.length
  · have e : decide ((k : Int) < (f.length : Int)) = true := by simpa using hk
    simp only [e, if_true, rw_atn hk]
    show _ = _
    simp [wa, hk, oN]
  · have e : decide ((k : Int) < (f.length : Int)) = false := by simpa using hk
    simp?! only [e, if_false, Bool.false_eq_true, ir_wish_at_t2]
    cases a with
    | none =>
      simp?! only [oNn, oNs]
      show _ = _
      simp [wa, hk, oN]
    | some i =>
      have hi := ha i rfl
      simp?! only [oNn, oNs, ir_wish_at_t1, rw_tN_len, rw_tN_ix]
      refine ⟨by omega, ?_⟩
      have e2 : (i : Int) + ((k : Int) - (i : Int)) % ((f.length : Int) - (i : Int)) = ((i + (k - i) % (f.length - i) : Nat) : Int) := by
        rw [Int.natCast_add, Int.natCast_emod, Int.natCast_sub (by omega), Int.natCast_sub (by omega)]
      have hm := Nat.mod_lt (k - i) (show 0 < f.length - i by omega)
      rw [e2, rw_atn (by omega)]
      show _ = _
      simp [wa, hk, oN]
def oldOk (old : List Nat) : Prop := 0 < old.length ∧ old.length ≤ 6
def c_fs : Con := ⟨List (Option Nat) × List Nat × Nat, fun (tb, old, s) as => as = [.dat (tT tb), .dat (tN old), .dat (.int (s : Int))] ∧ ringOk tb s ∧ oldOk old, fun (tb, old, s) r => r = oN (fstop tb old s 90)⟩
theorem rw_rgm (n : Nat) : rgD 1 n = (List.range n).map fun v : Nat => PyData.int ((v + 1 : Nat) : Int) := by
  unfold rgD
  refine List.map_congr_left fun v _ => ?_
  simp [Int.add_comm]
theorem shp_oN (o : Option Nat) : SeqAt.shaped (oN o) = true := by cases o <;> rfl
theorem stop_in (o : Option Nat) (x : Nat) : ([PyData.none, PyData.int (x : Int)].any fun z => PyData.eqv z (oN o)) = (decide (o = none) || decide (o = some x)) := by
  cases o with
  | none => simp [oN, PyData.eqv]
  | some v =>
    simp only [oN, List.any_cons, PyData.eqv, List.any_nil, Bool.or_false, Bool.false_or]
    rw [Bool.eq_iff_iff]
    simp
    omega
theorem shp2 (x : Int) : SeqAt.shaped (.tuple [.none, .int x]) = true := rfl
def fsT : Sxs := (.cons (.for_ (.nm 4) (.rg2 (.cst (.int 1)) (.bin .Add (.bin .Add (.blt .len (.cons (.var 5) .nil)) (.bin .Mult (.var 3) (.blt .len (.cons (.var 1) .nil)))) (.cst (.int 1)))) ir_first_stop_b1) ir_first_stop_t1)
theorem wp_fs {G : Gm} (h1 : G.con "wishes_from" = some c_wf) (h2 : G.con "wish_at" = some c_wa) : ∀ a as, c_fs.pre a as → wpSs G ir_first_stop (rho0 ["table", "old", "start", "period", "number", "found", "ahead"] as) (kDef (c_fs.post a)) := by
  rintro ⟨tb, old, s⟩ as ⟨rfl, hr, ho1, ho2⟩
  have W := wfR_whole hr.1 hr.2.1
  have hl := W.len
  have h8 := hr.2.2
  show wpSs G ir_first_stop [.dat (tT tb), .dat (tN old), .dat (.int (s : Int)), .un, .un, .un, .un] _
  show wpSs G (.cons (.set (.tp [5, 6]) (.call "wishes_from" (.cons (.var 0) (.cons (.var 2) .nil)))) (.cons (.set (.nm 3) (.ite (.cmp .Is (.var 6) (.cst .none)) (.cst (.int 1)) (.bin .Sub (.blt .len (.cons (.var 5) .nil)) (.var 6)))) fsT)) _ _
  refine wp_stp ?_
  simp only [wpE, wpAs, isBoxArg, rw_g_0, rw_g_s, Bool.false_eq_true, if_false, h1]
  refine ⟨(tb, s), ⟨rfl, hr⟩, ?_⟩
  rintro r rfl
  simp only [rw_a_t2, List.set_cons_succ, List.set_cons_zero]
  refine wp_set ?_
  generalize hf : (wfR tb s).1 = f at W hl
  generalize ha : (wfR tb s).2 = a at W
  have hp : perOf f a ≤ 8 := by
    cases a with
    | none => simp [perOf]
    | some i => simp [perOf]; omega
  have hB : f.length + perOf f a * old.length ≤ 90 := by
    have := Nat.mul_le_mul hp ho2
    omega
  have tail : wpSs G fsT [.dat (tT tb), .dat (tN old), .dat (.int (s : Int)), .dat (.int (perOf f a : Int)), .un, .dat (tN f), .dat (oN a)] (kDef (c_fs.post (tb, old, s))) := by
    simp?! only [fsT, rw_tN_len]
    refine ⟨.inl ⟨by omega, by omega⟩, _, _, rfl, rfl, ⟨by decide, by decide, ?_, ?_⟩, ?_⟩
    · have := Nat.mul_le_mul hp ho2; omega
    · have e : (perOf f a : Int) * (old.length : Int) = ((perOf f a * old.length : Nat) : Int) := by simp
      rw [e]; omega
    have e : ((f.length : Int) + (perOf f a : Int) * (old.length : Int) + 1 - 1).toNat = f.length + perOf f a * old.length := by
      have e : (perOf f a : Int) * (old.length : Int) = ((perOf f a * old.length : Nat) : Int) := by simp
      rw [e]; omega
    rw [e, rw_rgm]
    refine for_ty _ (fun p r => ∃ x4 : Sl, r = [.dat (tT tb), .dat (tN old), .dat (.int (s : Int)), .dat (.int (perOf f a : Int)), x4, .dat (tN f), .dat (oN a)] ∧ ∀ v ∈ p, stopB tb old s (v + 1) = false) ⟨_, rfl, by simp⟩ ?_ ?_
    · rintro p v q r e ⟨x4, rfl, hn⟩
      simp?! only [ir_first_stop_b1, h2]
      refine ⟨(f, a, v + 1), ⟨rfl, fun i e => (W.so i e).1⟩, ?_⟩
      rintro r rfl
      rw [W.wa]
      simp?! only [rw_tN_ix, rw_tN_len]
      have hm := Nat.mod_lt (v + 1) ho1
      have e2 : ((v + 1 : Nat) : Int) % ((old.length : Nat) : Int) = (((v + 1) % old.length : Nat) : Int) := by rw [Int.natCast_emod]
      refine ⟨by omega, ?_⟩
      rw [e2, rw_atn hm]
      simp?! only [shp_oN, shp2, stop_in]
      by_cases hst : stopB tb old s (v + 1) = true
      · have : (decide (wk tb s (v + 1) = none) || decide (wk tb s (v + 1) = some (old.getD ((v + 1) % old.length) 0))) = true := hst
        rw [this, if_pos rfl]
        show _ = _
        rw [← fstop_any W ho1 hB]
        unfold fstop
        have : (List.range (f.length + perOf f a * old.length)).find? (fun v => stopB tb old s (v + 1)) = some v := by
          rw [List.find?_eq_some_iff_append]
          exact ⟨hst, p, q, e, fun u hu => by simp [hn u hu]⟩
        rw [this]
        rfl
      · have : (decide (wk tb s (v + 1) = none) || decide (wk tb s (v + 1) = some (old.getD ((v + 1) % old.length) 0))) = false := by simpa [stopB] using hst
        rw [this, if_neg (by simp)]
        refine ⟨_, rfl, fun u hu => ?_⟩
        rcases List.mem_append.mp hu with hu | hu
        · exact hn u hu
        · rw [List.mem_singleton.mp hu]; simpa using hst
    · rintro r ⟨x4, rfl, hn⟩
      simp?! only [ir_first_stop_t1]
      show _ = _
      rw [← fstop_any W ho1 hB]
      unfold fstop
      have : (List.range (f.length + perOf f a * old.length)).find? (fun v => stopB tb old s (v + 1)) = none := List.find?_eq_none.mpr fun v hv => by simp [hn v hv]
      rw [this]
      rfl
  cases a with
  | none =>
    simp only [oNn, oNs, wpE, wpT, rw_c_is, rw_isN_none, rw_exb, if_true, rw_g_0, rw_g_s, List.set_cons_succ, List.set_cons_zero]
    exact tail
  | some i =>
    have hi := (W.so i rfl).1
    have e : (f.length : Int) - (i : Int) = ((f.length - i : Nat) : Int) := by omega
    simp only [oNn, oNs, wpE, wpT, wpEs, rw_c_is, rw_isN_int, rw_exb, Bool.false_eq_true, if_false, rw_g_0, rw_g_s, List.set_cons_succ, List.set_cons_zero, rw_tN_len, rw_b_sub, e]
    exact tail
def perD (L : Nat) : Option Nat → PyData
  | none => .none
  | some i => .int ((L - i : Nat) : Int)
def ruleD (tb : List (Option Nat)) (old : List Nat) (s : Nat) : PyData := .tuple [oN (fstop tb old s 90), oN (wfR tb s).2, perD (wfR tb s).1.length (wfR tb s).2]
def c_rule : Con := ⟨List (Option Nat) × List Nat × Nat, fun (tb, old, s) as => as = [.dat (tT tb), .dat (tN old), .dat (.int (s : Int))] ∧ ringOk tb s ∧ oldOk old, fun (tb, old, s) r => r = ruleD tb old s⟩
theorem wp_rule {G : Gm} (h1 : G.con "wishes_from" = some c_wf) (h2 : G.con "first_stop" = some c_fs) : ∀ a as, c_rule.pre a as → wpSs G ir_endless_rule (rho0 ["table", "old", "start", "found", "ahead"] as) (kDef (c_rule.post a)) := by
  rintro ⟨tb, old, s⟩ as ⟨rfl, hr, ho⟩
  have W := wfR_whole hr.1 hr.2.1
  show wpSs G ir_endless_rule [.dat (tT tb), .dat (tN old), .dat (.int (s : Int)), .un, .un] _
  simp?! only [ir_endless_rule, h1, h2]
  refine ⟨(tb, s), ⟨rfl, hr⟩, ?_⟩
  rintro r rfl
  simp?! only [rw_tN_len]
  refine ⟨(tb, old, s), ⟨rfl, hr, ho⟩, ?_⟩
  rintro r rfl
  cases e : (wfR tb s).2 with
  | none =>
    simp?! only [oNn, oNs]
    show _ = ruleD tb old s
    simp only [ruleD, e]
    rfl
  | some i =>
    have hi := (W.so i e).1
    have e2 : ((wfR tb s).1.length : Int) - (i : Int) = (((wfR tb s).1.length - i : Nat) : Int) := by omega
    simp?! only [oNn, oNs]
    show _ = ruleD tb old s
    simp only [ruleD, perD, e, e2]
    rfl
/-! drawing a ring -/
def c_ring : Con := ⟨Unit, fun _ as => as = [.box], fun _ r => ∃ tb old s, r = .tuple [tT tb, tN old, .int ((s : Nat) : Int)] ∧ ringOk tb s ∧ 2 ≤ tb.length ∧ oldOk old ∧ ∀ x ∈ old, x < tb.length⟩
theorem wp_ringdraw {G : Gm} (h1 : G.con "_law_draw" = some conDraw) : ∀ a as, c_ring.pre a as → wpSs G ir__law_ring (rho0 ["_law_box", "_law_many", "_law_table", "_law_old", "_law_way", "_law_by", "_law_k"] as) (kDef (c_ring.post a)) := by
  rintro a as rfl
  show wpSs G ir__law_ring [.box, .un, .un, .un, .un, .un, .un] _
  simp?! only [ir__law_ring, h1]
  refine ⟨⟨by decide, by decide⟩, fun m m1 m2 => ⟨⟨by decide, by decide⟩, fun way w1 w2 => ⟨⟨by omega, by omega⟩, fun by_ b1 b2 => ⟨by omega, by omega, ?_⟩⟩⟩⟩
  obtain ⟨M, hM⟩ : ∃ k : Nat, 2 + m = (k : Int) := ⟨(2 + m).toNat, by omega⟩
  rw [hM] at b2 ⊢
  have M1 : 2 ≤ M ∧ M ≤ 8 := by omega
  have nat_of : ∀ {zs : List Int}, (∀ z ∈ zs, 0 ≤ z ∧ z < (M : Int)) → ∃ xs : List Nat, zs = xs.map (fun n : Nat => (n : Int)) ∧ ∀ x ∈ xs, x < M := fun {zs} h => nats_of h
  have tail : ∀ (tb : List (Option Nat)) (x6 : Sl), tbOk tb → tb.length = M → wpSs G ir__law_ring_t2 [.box, .dat (.int (M : Int)), .own (tb.map oN), .un, .dat (.int way), .dat (.int by_), x6] (kDef (c_ring.post a)) := by
    intro tb x6 ht hl
    simp?! only [ir__law_ring_t2, h1]
    refine ⟨⟨by decide, by decide⟩, fun c c1 c2 => ⟨by omega, by omega, ?_⟩⟩
    refine comp_nd _ PyData.int (fun z => 0 ≤ z ∧ z < (M : Int)) (fun v hv R hR => ?_) (by simp [sizeLine_eq]; omega) (fun zs hz hZ => ?_)
    · simp?! only [ir__law_ring_e4, h1]
      exact ⟨⟨by omega, by omega⟩, fun i i1 i2 => hR i ⟨i1, i2⟩⟩
    · obtain ⟨xs, rfl, hx⟩ := nat_of hZ
      have hxl : 0 < xs.length ∧ xs.length ≤ 6 := by simp at hz; omega
      have e1 : (xs.map fun n : Nat => (n : Int)).map PyData.int = xs.map (fun n : Nat => PyData.int (n : Int)) := by rw [List.map_map]; rfl
      rw [e1]
      have fin : ∀ (ys : List Nat), 0 < ys.length → ys.length ≤ 6 → (∀ y ∈ ys, y < M) → wpSs G ir__law_ring_t1 [.box, .dat (.int (M : Int)), .own (tb.map oN), .dat (.list (ys.map (fun n : Nat => PyData.int (n : Int)))), .dat (.int way), .dat (.int by_), x6] (kDef (c_ring.post a)) := by
        intro ys y1 y2 y3
        simp?! only [ir__law_ring_t1, h1]
        refine ⟨⟨by omega, by omega⟩, fun i i1 i2 => ?_⟩
        obtain ⟨I, rfl⟩ : ∃ k : Nat, i = (k : Int) := ⟨i.toNat, by omega⟩
        exact ⟨tb, ys, I, rfl, ⟨ht, by omega, by omega⟩, by omega, ⟨y1, y2⟩, fun y hy => by rw [hl]; exact y3 y hy⟩
      simp?! only [h1]
      refine ⟨⟨by decide, by decide⟩, fun i i1 i2 => ?_⟩
      split
      · have hne : xs ≠ [] := List.length_pos_iff.mp hxl.1
        rw [rw_ath hne _ 0]
        refine ⟨by omega, by omega, by simp [sizeLine_eq]; omega, ?_⟩
        have e2 : (List.replicate xs.length [PyData.int ((xs.headD 0 : Nat) : Int)]).flatten = (List.replicate xs.length (xs.headD 0)).map (fun n : Nat => PyData.int (n : Int)) := by
          generalize xs.length = n
          induction n with
          | zero => rfl
          | succ n ih => simp only [List.replicate_succ, List.flatten_cons, ih]; rfl
        simp only [e2]
        refine fin _ (by simpa using hxl.1) (by simpa using hxl.2) fun y hy => ?_
        obtain ⟨_, rfl⟩ := List.mem_replicate.mp hy
        exact hx _ (headD_mem hne)
      · exact fin xs hxl.1 hxl.2 hx
  have ofI : ∀ (xs : List Nat), (∀ x ∈ xs, x < xs.length) → tbOk (xs.map some) := fun xs h v hv => by
    obtain ⟨u, hu, e⟩ := List.mem_map.mp hv
    cases e
    simpa using h v hu
  have eI : ∀ xs : List Nat, xs.map (fun n : Nat => PyData.int (n : Int)) = (xs.map some).map oN := fun xs => by rw [List.map_map]; rfl
  refine comp_nd _ PyData.int (fun z => 0 ≤ z ∧ z < (M : Int)) (fun v hv R hR => ?_) (by simp [sizeLine_eq]; omega) (fun zs hz hZ => ?_)
  · simp?! only [ir__law_ring_e1, h1]
    exact ⟨⟨by omega, by omega⟩, fun i i1 i2 => hR i ⟨i1, i2⟩⟩
  · obtain ⟨xs, rfl, hx⟩ := nat_of hZ
    have hxl : xs.length = M := by simp at hz; omega
    have e1 : (xs.map fun n : Nat => (n : Int)).map PyData.int = xs.map (fun n : Nat => PyData.int (n : Int)) := by rw [List.map_map]; rfl
    simp?! only [e1]
    split
    · refine ⟨by omega, by omega, ?_⟩
      refine comp_m _ (fun v : Nat => PyData.int (((v + 1) % M : Nat) : Int)) (fun v hv R hR => ?_) (by simp [sizeLine_eq]; omega) ?_
      · simp?! only [ir__law_ring_e2]
        have e : ((v : Int) + 1) % (M : Int) = (((v + 1) % M : Nat) : Int) := by rw [Int.natCast_emod]; rfl
        rw [e]
        exact ⟨by omega, hR⟩
      · have e2 : (List.range M).map (fun v : Nat => PyData.int (((v + 1) % M : Nat) : Int)) = (((List.range M).map fun v => (v + 1) % M).map some).map oN := by rw [List.map_map, List.map_map]; rfl
        simp?! only [e2]
        exact tail _ _ (ofI _ fun x hx => by
          obtain ⟨v, _, rfl⟩ := List.mem_map.mp hx
          simp only [List.length_map, List.length_range]
          exact Nat.mod_lt _ (by omega)) (by simp)
    · split
      · refine ⟨by omega, by omega, ?_⟩
        obtain ⟨B, rfl⟩ : ∃ k : Nat, by_ = (k : Int) := ⟨by_.toNat, by omega⟩
        refine comp_m _ (fun v : Nat => PyData.int (((v + B) % M : Nat) : Int)) (fun v hv R hR => ?_) (by simp [sizeLine_eq]; omega) ?_
        · simp?! only [ir__law_ring_e3]
          have e : ((v : Int) + (B : Int)) % (M : Int) = (((v + B) % M : Nat) : Int) := by rw [Int.natCast_emod]; rfl
          rw [e]
          exact ⟨by omega, hR⟩
        · have e2 : (List.range M).map (fun v : Nat => PyData.int (((v + B) % M : Nat) : Int)) = (((List.range M).map fun v => (v + B) % M).map some).map oN := by rw [List.map_map, List.map_map]; rfl
          simp?! only [e2]
          exact tail _ _ (ofI _ fun x hx => by
            obtain ⟨v, _, rfl⟩ := List.mem_map.mp hx
            simp only [List.length_map, List.length_range]
            exact Nat.mod_lt _ (by omega)) (by simp)
      · split
        · obtain ⟨B, rfl⟩ : ∃ k : Nat, by_ = (k : Int) := ⟨by_.toNat, by omega⟩
          refine ⟨_, _, rfl, ix_nat (k := B) (by omega), ?_⟩
          have e2 : (xs.map (fun n : Nat => PyData.int (n : Int))).set B .none = ((xs.map some).set B none).map oN := by rw [List.map_set, ← eI]; rfl
          rw [e2]
          refine tail _ _ (fun v hv => ?_) (by simp [hxl])
          rcases List.mem_or_eq_of_mem_set hv with h | h
          · obtain ⟨u, hu, e⟩ := List.mem_map.mp h
            cases e
            simp only [List.length_set, List.length_map]
            rw [hxl]; exact hx _ hu
          · cases h
        · rw [eI]
          exact tail _ _ (ofI xs fun x h => by rw [hxl]; exact hx x h) (by simp [hxl])
/-! the law's own look -/
def Wl (tb : List (Option Nat)) (s n : Nat) : List PyData := (List.range n).map fun k => oN (wk tb s k)
theorem Wl_at {tb : List (Option Nat)} {s n k : Nat} (h : k < n) {Q : PyData → Prop} : (∃ z, atI (Wl tb s n) (k : Int) = some z ∧ Q z) = Q (oN (wk tb s k)) := by
  unfold Wl
  rw [at_map _ _ k (by simpa using h), rw_exo]
  simp
theorem Wl_last {tb : List (Option Nat)} {s n : Nat} {Q : PyData → Prop} : (∃ z, atI (Wl tb s (n + 1)) (-1) = some z ∧ Q z) = Q (oN (wk tb s n)) := by
  unfold Wl
  rw [rw_atl (by simp) _ 0, List.range_succ]
  simp [List.getLastD_eq_getLast?]
theorem wk_lt {tb : List (Option Nat)} {s : Nat} (hr : ringOk tb s) : ∀ k v, wk tb s k = some v → v < tb.length
  | 0, v, e => by cases e; exact hr.2.1
  | k + 1, v, e => by
    simp only [wk] at e
    cases e2 : wk tb s k with
    | none => rw [e2] at e; cases e
    | some u => rw [e2] at e; exact nxt_lt hr.1 e
theorem head_filter {p : Nat → Bool} {l : List Nat} {f : Nat → PyData} {Q : PyData → Prop} : (∃ z, atI ((l.filter p).map f ++ [PyData.none]) 0 = some z ∧ Q z) = Q (match l.find? p with | some v => f v | none => .none) := by
  have e : l.find? p = (l.filter p).head? := by rw [List.head?_filter]
  rw [e]
  cases h : l.filter p with
  | nil => exact propext ⟨fun ⟨z, e, q⟩ => by cases e; exact q, fun q => ⟨_, rfl, q⟩⟩
  | cons x r =>
    have : atI ((x :: r).map f ++ [PyData.none]) 0 = some (f x) := at_nat _ 0 (by simp)
    rw [this, rw_exo]
    rfl
theorem head_filter2 {p : Nat → Bool} {l : List Nat} {f : Nat → PyData} {v : Nat} (h : l.find? p = some v) {Q : PyData → Prop} : (∃ z, atI ((l.filter p).map f) 0 = some z ∧ Q z) = Q (f v) := by
  have e : (l.filter p).head? = some v := by rw [List.head?_filter, h]
  cases h : l.filter p with
  | nil => rw [h] at e; cases e
  | cons x r =>
    rw [h] at e
    cases e
    have : atI ((v :: r).map f) 0 = some (f v) := at_nat _ 0 (by simp)
    rw [this, rw_exo]
theorem fstop_D (tb : List (Option Nat)) (old : List Nat) (s B : Nat) : (match (List.range B).find? (fun v => stopB tb old s (v + 1)) with | some v => PyData.int ((v + 1 : Nat) : Int) | none => .none) = oN (fstop tb old s B) := by
  unfold fstop
  cases (List.range B).find? (fun v => stopB tb old s (v + 1)) <;> rfl
theorem shp_Wl (tb : List (Option Nat)) (s n : Nat) : SeqAt.shaped (.list (Wl tb s n)) = true := by
  have h1 : PyData.canLayAll0 (Wl tb s n) = true ∧ PyData.depthAll (Wl tb s n) = 0 := by
    unfold Wl
    induction (List.range n) with
    | nil => exact ⟨rfl, rfl⟩
    | cons x r ih =>
      have : (oN (wk tb s x)).canLay0 = true ∧ (oN (wk tb s x)).depth = 0 := by cases wk tb s x <;> simp [oN, PyData.canLay0, PyData.depth]
      simp [PyData.canLayAll0, PyData.depthAll, ih.1, ih.2, this.1, this.2]
  simp [SeqAt.shaped, PyData.canLay0, PyData.depth, h1.1, h1.2]
theorem none_in (tb : List (Option Nat)) (s n : Nat) : ((Wl tb s n).any fun z => PyData.eqv z .none) = (List.range n).any fun k => decide (wk tb s k = none) := by
  unfold Wl
  rw [List.any_map]
  congr 1
  funext k
  simp only [Function.comp]
  cases wk tb s k <;> simp [oN, PyData.eqv]
theorem lawI {tb : List (Option Nat)} {s : Nat} {f : List Nat} {i : Nat} (W : Whole tb s f (some i)) (j k : Nat) {Q : PyData → Prop} : cmpW .Eq (oN (wk tb s j)) (oN (wk tb s k)) Q = Q (.bool (decide (wk tb s j = wk tb s k))) := by
  cases e1 : wk tb s j with
  | none => exact absurd e1 (W.some rfl j)
  | some u =>
    cases e2 : wk tb s k with
    | none => exact absurd e2 (W.some rfl k)
    | some v =>
      simp only [oN, rw_c_eqi]
      have : decide ((u : Int) = (v : Int)) = decide (some u = some v) := by
        rw [Bool.eq_iff_iff]; simp; omega
      rw [this]
theorem wp_lrule {G : Gm} : ∀ a as, c_rule.pre a as → wpSs G ir__law_rule (rho0 ["_law_table", "_law_old", "_law_start", "_law_wishes", "_law_k", "_law_stops", "_law_periods", "_law_ahead"] as) (kDef (c_rule.post a)) := by
  rintro ⟨tb, old, s⟩ as ⟨rfl, hr, ho1, ho2⟩
  have W := wfR_whole hr.1 hr.2.1
  have hl := W.len
  have h8 := hr.2.2
  show wpSs G ir__law_rule [.dat (tT tb), .dat (tN old), .dat (.int (s : Int)), .un, .un, .un, .un, .un] _
  simp?! only [ir__law_rule]
  refine ⟨by decide, by decide, ?_⟩
  have e0 : [PyData.int (s : Int)] = Wl tb s 1 := rfl
  rw [e0]
  refine for_ty _ (fun p r => ∃ x4 : Sl, r = [.dat (tT tb), .dat (tN old), .dat (.int (s : Int)), .own (Wl tb s (p.length + 1)), x4, .un, .un, .un]) ⟨_, rfl⟩ ?_ ?_
  · rintro p v q r e ⟨x4, rfl⟩
    have hp : p.length < 90 := by have := congrArg List.length e; simp at this; omega
    have fin : ∀ d, d = oN (wk tb s (p.length + 1)) → (Wl tb s (p.length + 1)).length < sizeLine ∧ ∃ x4 : Sl, [Sl.dat (tT tb), .dat (tN old), .dat (.int (s : Int)), .own (Wl tb s (p.length + 1) ++ [d]), .dat (.int (v : Int)), .un, .un, .un] = [.dat (tT tb), .dat (tN old), .dat (.int (s : Int)), .own (Wl tb s ((p ++ [v]).length + 1)), x4, .un, .un, .un] := by
      rintro d rfl
      refine ⟨by simp [Wl, sizeLine_eq]; omega, .dat (.int (v : Int)), ?_⟩
      have : Wl tb s ((p ++ [v]).length + 1) = Wl tb s (p.length + 1) ++ [oN (wk tb s (p.length + 1))] := by
        simp only [Wl, List.length_append, List.length_cons, List.length_nil]
        rw [List.range_succ, List.map_append]
        rfl
      rw [this]
    simp?! only [ir__law_rule_b1, Wl_last]
    cases ew : wk tb s p.length with
    | none =>
      simp?! only [oNn, oNs]
      exact fin _ (by simp [wk, ew, oN])
    | some u =>
      simp?! only [oNn, oNs, rw_tT_ix (wk_lt hr _ _ ew)]
      exact fin _ (by simp [wk, ew])
  · rintro r ⟨x4, rfl⟩
    simp?! only [List.length_range, ir__law_rule_t2]
    refine ⟨_, _, rfl, rfl, ⟨by decide, by decide, by decide, by decide⟩, ?_⟩
    have e1 : ((91 : Int) - 1).toNat = 90 := rfl
    rw [e1, rw_rgm]
    refine comp_f _ (fun v : Nat => PyData.int ((v + 1 : Nat) : Int)) (fun v => stopB tb old s (v + 1)) (fun v hv R S hR hS => ?_) (by simp [sizeLine_eq]) ?_
    · have hv := List.mem_range.mp hv
      have hm := Nat.mod_lt (v + 1) ho1
      have e2 : ((v + 1 : Nat) : Int) % ((old.length : Nat) : Int) = (((v + 1) % old.length : Nat) : Int) := by rw [Int.natCast_emod]
      simp?! only [ir__law_rule_c1, ir__law_rule_e1, Wl_at (show v + 1 < 90 + 1 by omega)]
      cases ew : wk tb s (v + 1) with
      | none =>
        simp?! only [oNn, oNs]
        exact hR (by simp [stopB, ew])
      | some u =>
        simp?! only [oNn, oNs, rw_tN_len, rw_tN_ix]
        refine ⟨by omega, ?_⟩
        rw [e2, rw_atn hm]
        simp?! only [true_and]
        have e3 : decide ((u : Int) = ((old.getD ((v + 1) % old.length) 0 : Nat) : Int)) = stopB tb old s (v + 1) := by
          rw [Bool.eq_iff_iff]
          simp only [stopB, ew, decide_eq_true_eq, Bool.or_eq_true, Option.some.injEq]
          constructor
          · intro h; right; omega
          · rintro (h | h)
            · cases h
            · omega
        rw [e3]
        cases hb : stopB tb old s (v + 1) with
        | true => rw [if_pos rfl]; exact hR hb
        | false => rw [if_neg (by simp)]; exact hS hb
    · simp?! only [shp_Wl, none_in]
      refine ⟨rfl, ?_⟩
      generalize hf : (wfR tb s).1 = f at W hl
      cases ha : (wfR tb s).2 with
      | none =>
        rw [ha] at W
        have : ((List.range (90 + 1)).any fun k => decide (wk tb s k = none)) = true := by
          rw [List.any_eq_true]
          exact ⟨f.length, List.mem_range.mpr (by omega), by simp [W.no rfl]⟩
        rw [this, if_pos rfl]
        refine ⟨by have := List.length_filter_le (fun v => stopB tb old s (v + 1)) (List.range 90); rw [List.length_range] at this; simp only [List.length_cons, List.length_nil, sizeLine_eq]; omega, ?_⟩
        rw [head_filter, fstop_D]
        show _ = ruleD tb old s
        simp only [ruleD, ha]
        rfl
      | some i =>
        rw [ha] at W
        have : ((List.range (90 + 1)).any fun k => decide (wk tb s k = none)) = false := by
          rw [List.any_eq_false]
          intro k _
          simp [W.some rfl k]
        rw [this, if_neg (by simp)]
        have hi := (W.so i rfl).1
        have hper := per_found W (by omega)
        have hahe := ahead_found W (by omega)
        simp?! only [ir__law_rule_t1]
        refine ⟨_, _, rfl, rfl, ⟨by decide, by decide, by decide, by decide⟩, ?_⟩
        have e1 : ((9 : Int) - 1).toNat = 8 := rfl
        rw [e1, rw_rgm]
        refine comp_f _ (fun v : Nat => PyData.int ((v + 1 : Nat) : Int)) (fun v => decide (wk tb s 20 = wk tb s (20 + (v + 1)))) (fun v hv R S hR hS => ?_) (by simp [sizeLine_eq]) ?_
        · have hv := List.mem_range.mp hv
          have e2 : (20 : Int) + ((v + 1 : Nat) : Int) = ((20 + (v + 1) : Nat) : Int) := by omega
          simp?! only [ir__law_rule_c2, ir__law_rule_e2, e2, Wl_at (show 20 + (v + 1) < 90 + 1 by omega)]
          have e3 : ∀ {Q : PyData → Prop}, (∃ z, atI (Wl tb s (90 + 1)) 20 = some z ∧ Q z) = Q (oN (wk tb s 20)) := fun {Q} => Wl_at (k := 20) (by decide)
          rw [e3, lawI W]
          simp?! only [true_and]
          cases hb : decide (wk tb s 20 = wk tb s (20 + (v + 1))) with
          | true => rw [if_pos rfl]; exact hR hb
          | false => rw [if_neg (by simp)]; exact hS hb
        · simp?! only [true_and]
          refine ⟨by decide, by decide, ?_⟩
          refine comp_f _ (fun v : Nat => PyData.int (v : Int)) (fun v => decide (wk tb s v = wk tb s (v + (f.length - i)))) (fun v hv R S hR hS => ?_) (by simp [sizeLine_eq]) ?_
          · have hv := List.mem_range.mp hv
            simp?! only [ir__law_rule_c3, ir__law_rule_e3, Wl_at (show v < 90 + 1 by omega), head_filter2 hper]
            have e2 : (v : Int) + ((f.length - i - 1 + 1 : Nat) : Int) = ((v + (f.length - i) : Nat) : Int) := by omega
            rw [e2, Wl_at (by omega), lawI W]
            simp?! only [true_and]
            cases hb : decide (wk tb s v = wk tb s (v + (f.length - i))) with
            | true => rw [if_pos rfl]; exact hR hb
            | false => rw [if_neg (by simp)]; exact hS hb
          · simp?! only [true_and]
            refine ⟨by have := List.length_filter_le (fun v => stopB tb old s (v + 1)) (List.range 90); rw [List.length_range] at this; simp only [List.length_cons, List.length_nil, sizeLine_eq]; omega, ?_⟩
            rw [head_filter, fstop_D, head_filter2 hahe, head_filter2 hper]
            show _ = ruleD tb old s
            have e2 : f.length - i - 1 + 1 = f.length - i := by omega
            simp only [ruleD, ha, hf, e2]
            rfl
end Ef

end

section
set_option autoImplicit false
namespace Ef
open PySem L2 PySem.Spec PyProof.Rows
-- require_many ['many']
def ir_require_many : Sxs := (.cons (.ife (.not (.call "is_integer" (.cons (.var 0) (.cons (.cst (.int 2)) (.cons (.glb "MAX_FAR") .nil))))) (.cons .nev .nil) .nil) .nil)
-- firings ['table', 'old', 'start', 'many', 'closed', 'first', 'found', 'ahead']
def ir_firings_t1 : Sxs := (.cons (.ret (.ite (.cmp .Eq (.bin .Mod (.var 3) (.bin .Sub (.blt .len (.cons (.var 6) .nil)) (.var 7))) (.cst (.int 0))) (.bin .Add (.var 3) (.var 7)) (.cst .none))) .nil)
def ir_firings_t2 : Sxs := (.cons (.set (.tp [6, 7]) (.call "wishes_from" (.cons (.var 0) (.cons (.var 2) .nil)))) (.cons (.ife (.cmp .Is (.var 7) (.cst .none)) (.cons (.ret (.blt .len (.cons (.var 6) .nil))) .nil) .nil) ir_firings_t1))
def ir_firings_t3 : Sxs := (.cons (.ife (.not (.var 4)) (.cons (.ret (.bin .Sub (.var 3) (.cst (.int 1)))) .nil) .nil) ir_firings_t2)
def ir_firings_t4 : Sxs := (.cons (.set (.nm 5) (.call "first_stop" (.cons (.var 0) (.cons (.var 1) (.cons (.var 2) .nil))))) (.cons (.ife (.and (.cmp .IsNot (.var 5) (.cst .none)) (.cmp .Lt (.var 5) (.var 3))) (.cons (.ret (.var 5)) .nil) .nil) ir_firings_t3))
def ir_firings : Sxs := (.cons (.exp (.call "require_many" (.cons (.var 3) .nil))) (.cons (.ife (.cmp .Eq (.idx (.var 1) (.cst (.int 0))) (.var 2)) (.cons (.ret (.cst (.int 0))) .nil) .nil) ir_firings_t4))
def farOk (many : Nat) : Prop := 2 ≤ many ∧ many ≤ 10 ^ 18
def c_rm : Con := ⟨Nat, fun many as => as = [.dat (.int (many : Int))] ∧ farOk many, fun _ r => r = .none⟩
theorem wp_rm {G : Gm} (h1 : G.con "is_integer" = some c_is_integer) (h2 : G.glb "MAX_FAR" = some (.int 1000000000000000000)) : ∀ a as, c_rm.pre a as → wpSs G ir_require_many (rho0 ["many"] as) (kDef (c_rm.post a)) := by
  rintro (many : Nat) as ⟨rfl, hm1, hm2⟩
  show wpSs G ir_require_many [.dat (.int (many : Int))] _
  simp?! only [ir_require_many, h1, h2]
  refine ⟨(.int (many : Int), 2, 1000000000000000000), rfl, ?_⟩
  rintro r rfl
  have e : intIn (.int (many : Int)) 2 1000000000000000000 = true := by simp [intIn]; omega
  rw [e]
  simp?! only [true_and]
  rfl
def early : Option Nat → Nat → Bool
  | some f, many => decide (f < many)
  | none, _ => false
/-- how many firings a run has -/
def firO (tb : List (Option Nat)) (old : List Nat) (s many : Nat) (closed : Bool) : Option Nat :=
  if old.headD 0 = s then some 0 else
  if early (fstop tb old s 90) many = true then fstop tb old s 90 else
  if closed = false then some (many - 1) else
  match (wfR tb s).2 with
  | none => some (wfR tb s).1.length
  | some a => if many % ((wfR tb s).1.length - a) = 0 then some (many + a) else none
def c_fir : Con := ⟨(List (Option Nat) × List Nat × Nat) × Nat × Bool, fun ((tb, old, s), many, closed) as => as = [.dat (tT tb), .dat (tN old), .dat (.int (s : Int)), .dat (.int (many : Int)), .dat (.bool closed)] ∧ ringOk tb s ∧ oldOk old ∧ farOk many, fun ((tb, old, s), many, closed) r => r = oN (firO tb old s many closed)⟩
theorem wp_fir {G : Gm} (h1 : G.con "require_many" = some c_rm) (h2 : G.con "first_stop" = some c_fs) (h3 : G.con "wishes_from" = some c_wf) : ∀ a as, c_fir.pre a as → wpSs G ir_firings (rho0 ["table", "old", "start", "many", "closed", "first", "found", "ahead"] as) (kDef (c_fir.post a)) := by
  rintro ⟨⟨tb, old, s⟩, many, closed⟩ as ⟨rfl, hr, ho, hm⟩
  have W := wfR_whole hr.1 hr.2.1
  have hne : old ≠ [] := List.length_pos_iff.mp ho.1
  show wpSs G ir_firings [.dat (tT tb), .dat (tN old), .dat (.int (s : Int)), .dat (.int (many : Int)), .dat (.bool closed), .un, .un, .un] _
  simp?! only [ir_firings, h1, rw_tN_ix, rw_ath hne _ 0]
  refine ⟨many, ⟨rfl, hm⟩, ?_⟩
  rintro r rfl
  by_cases h0 : old.headD 0 = s
  · have e : decide (((old.headD 0 : Nat) : Int) = (s : Int)) = true := decide_eq_true (by rw [h0])
    rw [e, if_pos rfl]
    show _ = _
    simp only [firO, h0, if_true, oNs]
    rfl
  · have e : decide (((old.headD 0 : Nat) : Int) = (s : Int)) = false := decide_eq_false (fun h => h0 (by omega))
    rw [e, if_neg (by simp)]
    simp?! only [ir_firings_t4, h2]
    refine ⟨(tb, old, s), ⟨rfl, hr, ho⟩, ?_⟩
    rintro r rfl
    have tail : early (fstop tb old s 90) many = false → wpSs G ir_firings_t3 [.dat (tT tb), .dat (tN old), .dat (.int (s : Int)), .dat (.int (many : Int)), .dat (.bool closed), .dat (oN (fstop tb old s 90)), .un, .un] (kDef (c_fir.post ((tb, old, s), many, closed))) := by
      intro hfs
      simp?! only [ir_firings_t3, h3]
      cases closed with
      | false =>
        simp?! only [true_and]
        show _ = _
        have : ((many : Int) - 1) = ((many - 1 : Nat) : Int) := by have := hm.1; omega
        simp only [firO, h0, hfs, if_false, if_true, Bool.false_eq_true, oNs, this]
      | true =>
        simp?! only [ir_firings_t2, h3]
        refine ⟨(tb, s), ⟨rfl, hr⟩, ?_⟩
        rintro r rfl
        cases ea : (wfR tb s).2 with
        | none =>
          simp?! only [oNn, rw_tN_len]
          show _ = _
          simp only [firO, h0, hfs, if_false, if_true, Bool.false_eq_true, Bool.true_eq_false, ea, oNs]
        | some a =>
          have ha := (W.so a ea).1
          simp?! only [oNs, ir_firings_t1, rw_tN_len]
          have e1 : ((wfR tb s).1.length : Int) - (a : Int) = (((wfR tb s).1.length - a : Nat) : Int) := by omega
          have e2 : (many : Int) % (((wfR tb s).1.length - a : Nat) : Int) = ((many % ((wfR tb s).1.length - a) : Nat) : Int) := by rw [Int.natCast_emod]
          refine ⟨by omega, ?_⟩
          rw [e1, e2]
          by_cases hd : many % ((wfR tb s).1.length - a) = 0
          · have e3 : decide (((many % ((wfR tb s).1.length - a) : Nat) : Int) = 0) = true := by simp [hd]
            rw [e3, if_pos rfl]
            show _ = _
            simp only [firO, h0, hfs, if_false, if_true, Bool.false_eq_true, Bool.true_eq_false, ea, hd, oNs]
            rfl
          · have e3 : decide (((many % ((wfR tb s).1.length - a) : Nat) : Int) = 0) = false := by simp; omega
            rw [e3, if_neg (by simp)]
            show _ = _
            simp only [firO, h0, hfs, if_false, Bool.false_eq_true, Bool.true_eq_false, ea, hd, oNn]
    cases ef : fstop tb old s 90 with
    | none =>
      rw [ef] at tail
      simp only [oNn, wpSs, wpS, wpE, wpEs, wpAs, wpO, wpI, wpT, wpPs, isBoxArg, setAll, setPar, wipeR, List.set_cons_succ, List.set_cons_zero, Bool.false_eq_true, if_false, if_true, rw_b_ii, rw_b_tt, rw_b_ll, rw_b_ss, rw_b_sub, rw_b_mul, rw_b_mt, rw_b_ml, rw_b_fd, rw_b_mod, rw_b_pow, rw_c_lt, rw_c_le, rw_c_gt, rw_c_ge, rw_c_is, rw_c_isn, rw_c_inl, rw_c_int, rw_c_ninl, rw_c_nint, rw_n_i, rw_ix_t, rw_ix_l, rw_sl_t, rw_sl_l, rw_t_len_l, rw_t_len_t, rw_t_abs, rw_t_int, rw_t_intb, rw_t_bool, rw_t_boolb, rw_t_tuple_l, rw_t_tuple_t, rw_t_list_l, rw_t_list_t, rw_t_repr, rw_t_all, rw_t_any, rw_t_min, rw_t_max, rw_t_sum, rw_t_sumT, rw_a_nm, rw_a_t2, rw_a_t3, rw_a_t4, rw_i_l, rw_i_t, rw_u_bl, rw_u_i, rw_u_l, rw_u_t, rw_u_n, rw_w_fo0, rw_w_fo1, rw_w_tI, rw_w_len, rw_w_tt, rw_w_it, rw_w_add1, rw_g_0, rw_g_s, rw_c_eqi, rw_c_nei, rw_c_eqn, rw_c_eqs, rw_c_nes, rw_c_isb, rw_c_isnb, rw_lD0, rw_lD1, rw_lD2, rw_lD3, rw_a_lD, rw_sl0, rw_sl1, rw_sl2, rw_sl3, rw_sl4, rw_sl5, rw_sl6, rw_exb, rw_exi, rw_exl, rw_ext, rw_exo, rw_draw, true_and, and_true, rw_rg, rw_rg0, List.nil_append, rw_isN_none, rw_isN_int, rw_isN_bool, rw_isN_tup, Bool.not_true, Bool.not_false, decide_true, decide_false, tySub, List.length_map, rw_cno, rw_cso, rw_so_l, rw_so_d, rw_fr_l, rw_fr_d, rw_c_ind, rw_c_nind, rw_ix_d, rw_kb, wpD, Int.reduceToNat, rw_k_l, rw_k_t, rw_k_it, rw_t_len_d, rw_t_list_d] at tail ⊢
      exact tail rfl
    | some f =>
      rw [ef] at tail
      simp only [oNs, wpSs, wpS, wpE, wpEs, wpAs, wpO, wpI, wpT, wpPs, isBoxArg, setAll, setPar, wipeR, List.set_cons_succ, List.set_cons_zero, Bool.false_eq_true, if_false, if_true, rw_b_ii, rw_b_tt, rw_b_ll, rw_b_ss, rw_b_sub, rw_b_mul, rw_b_mt, rw_b_ml, rw_b_fd, rw_b_mod, rw_b_pow, rw_c_lt, rw_c_le, rw_c_gt, rw_c_ge, rw_c_is, rw_c_isn, rw_c_inl, rw_c_int, rw_c_ninl, rw_c_nint, rw_n_i, rw_ix_t, rw_ix_l, rw_sl_t, rw_sl_l, rw_t_len_l, rw_t_len_t, rw_t_abs, rw_t_int, rw_t_intb, rw_t_bool, rw_t_boolb, rw_t_tuple_l, rw_t_tuple_t, rw_t_list_l, rw_t_list_t, rw_t_repr, rw_t_all, rw_t_any, rw_t_min, rw_t_max, rw_t_sum, rw_t_sumT, rw_a_nm, rw_a_t2, rw_a_t3, rw_a_t4, rw_i_l, rw_i_t, rw_u_bl, rw_u_i, rw_u_l, rw_u_t, rw_u_n, rw_w_fo0, rw_w_fo1, rw_w_tI, rw_w_len, rw_w_tt, rw_w_it, rw_w_add1, rw_g_0, rw_g_s, rw_c_eqi, rw_c_nei, rw_c_eqn, rw_c_eqs, rw_c_nes, rw_c_isb, rw_c_isnb, rw_lD0, rw_lD1, rw_lD2, rw_lD3, rw_a_lD, rw_sl0, rw_sl1, rw_sl2, rw_sl3, rw_sl4, rw_sl5, rw_sl6, rw_exb, rw_exi, rw_exl, rw_ext, rw_exo, rw_draw, true_and, and_true, rw_rg, rw_rg0, List.nil_append, rw_isN_none, rw_isN_int, rw_isN_bool, rw_isN_tup, Bool.not_true, Bool.not_false, decide_true, decide_false, tySub, List.length_map, rw_cno, rw_cso, rw_so_l, rw_so_d, rw_fr_l, rw_fr_d, rw_c_ind, rw_c_nind, rw_ix_d, rw_kb, wpD, Int.reduceToNat, rw_k_l, rw_k_t, rw_k_it, rw_t_len_d, rw_t_list_d] at tail ⊢
      by_cases hlt : f < many
      · have e3 : decide ((f : Int) < (many : Int)) = true := by simp; omega
        rw [e3, if_pos rfl]
        show _ = _
        have e4 : early (some f) many = true := by simpa [early] using hlt
        simp only [firO, h0, if_false, ef, e4, if_true, oNs]
      · have e3 : decide ((f : Int) < (many : Int)) = false := by simp; omega
        rw [e3, if_neg (by simp)]
        exact tail (by simpa [early] using hlt)
end Ef

end

section
set_option autoImplicit false
namespace Ef
open PySem L2 PySem.Spec PyProof.Rows
-- changes_done ['table', 'old', 'start', 'many', 'times', 'closed', 'total', 'first']
def ir_changes_done_t1 : Sxs := (.cons (.ret (.bin .Sub (.var 6) (.cst (.int 1)))) .nil)
def ir_changes_done_t2 : Sxs := (.cons (.set (.nm 7) (.call "first_stop" (.cons (.var 0) (.cons (.var 1) (.cons (.var 2) .nil))))) (.cons (.ife (.or (.cmp .Eq (.var 6) (.cst (.int 0))) (.and (.not (.var 5)) (.or (.cmp .Is (.var 7) (.cst .none)) (.cmp .GtE (.var 7) (.var 3))))) (.cons (.ret (.var 6)) .nil) .nil) ir_changes_done_t1))
def ir_changes_done : Sxs := (.cons (.set (.nm 6) (.calk "firings" "closed" (.cons (.var 0) (.cons (.var 1) (.cons (.var 2) (.cons (.var 3) .nil)))) (.so (.var 5)))) (.cons (.ife (.or (.cmp .Is (.var 6) (.cst .none)) (.cmp .Lt (.var 4) (.var 6))) (.cons (.ret (.var 4)) .nil) .nil) ir_changes_done_t2))
-- value_after ['table', 'old', 'start', 'many', 'field', 'times', 'closed', 'done', 'found', 'ahead']
def ir_value_after_t1 : Sxs := (.cons (.set (.tp [8, 9]) (.call "wishes_from" (.cons (.var 0) (.cons (.var 2) .nil)))) (.cons (.ret (.call "wish_at" (.cons (.var 8) (.cons (.var 9) (.cons (.bin .Add (.var 4) (.bin .Mult (.bin .FloorDiv (.bin .Sub (.var 7) (.var 4)) (.var 3)) (.var 3))) .nil))))) .nil))
def ir_value_after_t2 : Sxs := (.cons (.set (.nm 7) (.call "changes_done" (.cons (.var 0) (.cons (.var 1) (.cons (.var 2) (.cons (.var 3) (.cons (.var 5) (.cons (.var 6) .nil)))))))) (.cons (.ife (.cmp .Gt (.var 4) (.var 7)) (.cons (.ret (.idx (.var 1) (.bin .Mod (.var 4) (.blt .len (.cons (.var 1) .nil))))) .nil) .nil) ir_value_after_t1))
def ir_value_after_t3 : Sxs := (.cons (.ife (.not (.call "is_integer" (.cons (.var 5) (.cons (.cst (.int 0)) (.cons (.glb "MAX_FAR") .nil))))) (.cons .nev .nil) .nil) ir_value_after_t2)
def ir_value_after : Sxs := (.cons (.exp (.call "require_many" (.cons (.var 3) .nil))) (.cons (.ife (.not (.call "is_integer" (.cons (.var 4) (.cons (.cst (.int 0)) (.cons (.bin .Sub (.var 3) (.cst (.int 1))) .nil))))) (.cons .nev .nil) .nil) ir_value_after_t3))
theorem tx_oN {o : Option Nat} (h : ∀ v, o = some v → v < 10 ^ 60) : Tx (oN o) 61 0 := by
  cases o with
  | none => exact Tx.none.le (by decide) (Nat.le_refl _)
  | some v => exact Tx.nat (h v rfl)
theorem fstop_le {tb : List (Option Nat)} {old : List Nat} {s B v : Nat} (h : fstop tb old s B = some v) : v ≤ B := by
  unfold fstop at h
  obtain ⟨u, hu, rfl⟩ := Option.map_eq_some_iff.mp h
  have := List.mem_range.mp (List.mem_of_find?_eq_some hu)
  omega
theorem cpw : CPow 10 18 := ⟨by decide, by decide, by decide⟩
theorem far_840 {n : Int} (h : 2 ≤ n ∧ n ≤ 10 ^ 18) : 2 ≤ n / 840 * 840 + 840 * (if decide (n < 840) = true then 1 else 0) ∧ n / 840 * 840 + 840 * (if decide (n < 840) = true then 1 else 0) ≤ 10 ^ 18 := by
  by_cases hn : n < 840
  · simp only [hn, decide_true, if_true]; omega
  · simp only [hn, decide_false, Bool.false_eq_true, if_false]; omega
def chgT : Option Nat → Bool → Bool → Nat → Nat
  | none, _, _, t => t
  | some f, e, c, t => if t < f then t else if f = 0 ∨ (c = false ∧ e = false) then f else f - 1
def chg (tb : List (Option Nat)) (old : List Nat) (s many times : Nat) (closed : Bool) : Nat := chgT (firO tb old s many closed) (early (fstop tb old s 90) many) closed times
def c_cd : Con := ⟨(List (Option Nat) × List Nat × Nat) × Nat × Nat × Bool, fun ((tb, old, s), many, times, closed) as => as = [.dat (tT tb), .dat (tN old), .dat (.int (s : Int)), .dat (.int (many : Int)), .dat (.int (times : Int)), .dat (.bool closed)] ∧ ringOk tb s ∧ oldOk old ∧ farOk many, fun ((tb, old, s), many, times, closed) r => r = .int ((chg tb old s many times closed : Nat) : Int)⟩
theorem wp_cd {G : Gm} (h1 : G.kc "firings" = some (c_fir, .bool true, "closed")) (h2 : G.con "first_stop" = some c_fs) : ∀ a as, c_cd.pre a as → wpSs G ir_changes_done (rho0 ["table", "old", "start", "many", "times", "closed", "total", "first"] as) (kDef (c_cd.post a)) := by
  rintro ⟨⟨tb, old, s⟩, many, times, closed⟩ as ⟨rfl, hr, ho, hm⟩
  show wpSs G ir_changes_done [.dat (tT tb), .dat (tN old), .dat (.int (s : Int)), .dat (.int (many : Int)), .dat (.int (times : Int)), .dat (.bool closed), .un, .un] _
  simp?! only [ir_changes_done, h1]
  refine ⟨((tb, old, s), many, closed), ⟨rfl, hr, ho, hm⟩, ?_⟩
  rintro r rfl
  cases ef : firO tb old s many closed with
  | none =>
    simp?! only [oNn]
    show _ = _
    simp only [chg, ef, chgT]
  | some f =>
    simp?! only [oNs]
    by_cases ht : times < f
    · have e : decide ((times : Int) < (f : Int)) = true := decide_eq_true (by omega)
      simp?! only [e]
      show _ = _
      simp only [chg, ef, chgT, ht, if_true]
    · have e : decide ((times : Int) < (f : Int)) = false := decide_eq_false (by omega)
      simp?! only [e, ir_changes_done_t2, h2]
      refine ⟨(tb, old, s), ⟨rfl, hr, ho⟩, ?_⟩
      rintro r rfl
      have yes : f = 0 ∨ (closed = false ∧ early (fstop tb old s 90) many = false) → (kDef (c_cd.post ((tb, old, s), many, times, closed))).rt (.int (f : Int)) := by
        intro h
        show _ = _
        simp only [chg, ef, chgT, ht, if_false, h, if_true]
      have no : ¬ (f = 0 ∨ (closed = false ∧ early (fstop tb old s 90) many = false)) → (kDef (c_cd.post ((tb, old, s), many, times, closed))).rt (.int ((f : Int) - 1)) := by
        intro h
        show _ = _
        simp only [chg, ef, chgT, ht, if_false, h]
        have : f ≠ 0 := fun z => h (.inl z)
        congr 1
        omega
      by_cases h0 : f = 0
      · have e : decide ((f : Int) = 0) = true := decide_eq_true (by omega)
        simp?! only [e]
        exact yes (.inl h0)
      · have e : decide ((f : Int) = 0) = false := decide_eq_false (by omega)
        simp?! only [e, ir_changes_done_t1]
        cases closed with
        | true =>
          simp?! only [true_and]
          exact no (fun h => by rcases h with h | ⟨h, _⟩ <;> first | exact h0 h | cases h)
        | false =>
          simp?! only [true_and]
          cases ew : fstop tb old s 90 with
          | none =>
            simp?! only [oNn]
            exact yes (.inr ⟨rfl, by rw [ew]; rfl⟩)
          | some w =>
            simp?! only [oNs]
            by_cases hw : many ≤ w
            · have e : decide ((many : Int) ≤ (w : Int)) = true := decide_eq_true (by omega)
              simp?! only [e]
              exact yes (.inr ⟨rfl, by rw [ew]; simp only [early]; exact decide_eq_false (by omega)⟩)
            · have e : decide ((many : Int) ≤ (w : Int)) = false := decide_eq_false (by omega)
              simp?! only [e]
              refine no (fun h => ?_)
              rcases h with h | ⟨_, h⟩
              · exact h0 h
              · rw [ew] at h; simp only [early, decide_eq_false_iff_not] at h; omega
/-! first stops -/
theorem fs_some {tb : List (Option Nat)} {old : List Nat} {s B f : Nat} (h : fstop tb old s B = some f) : 1 ≤ f ∧ f ≤ B ∧ stopB tb old s f = true ∧ ∀ j, 1 ≤ j → j < f → stopB tb old s j = false := by
  unfold fstop at h
  obtain ⟨u, hu, rfl⟩ := Option.map_eq_some_iff.mp h
  have h0 := List.mem_range.mp (List.mem_of_find?_eq_some hu)
  rw [List.find?_range_eq_some] at hu
  refine ⟨by omega, by omega, hu.1, fun j j1 j2 => ?_⟩
  have := hu.2.2 (j - 1) (by omega)
  rw [show j - 1 + 1 = j by omega] at this
  simpa using this
theorem fs_none {tb : List (Option Nat)} {old : List Nat} {s B : Nat} (h : fstop tb old s B = none) : ∀ j, 1 ≤ j → j ≤ B → stopB tb old s j = false := by
  intro j j1 j2
  unfold fstop at h
  rw [Option.map_eq_none_iff, List.find?_eq_none] at h
  have := h (j - 1) (List.mem_range.mpr (by omega))
  rw [show j - 1 + 1 = j by omega] at this
  simpa using this
theorem fs_56 {tb : List (Option Nat)} {old : List Nat} {s f : Nat} (hr : ringOk tb s) (ho : oldOk old) (h : fstop tb old s 90 = some f) : f ≤ 56 := by
  have W := wfR_whole hr.1 hr.2.1
  have hl := W.len
  have h8 := hr.2.2
  have hp : perOf (wfR tb s).1 (wfR tb s).2 ≤ 8 := by
    cases (wfR tb s).2 with
    | none => simp [perOf]
    | some i => simp only [perOf]; omega
  have hq : perOf (wfR tb s).1 (wfR tb s).2 * old.length ≤ 48 := by
    have := Nat.mul_le_mul hp ho.2
    omega
  have := fstop_any (C := 90) (s := s) W ho.1 (by omega)
  rw [← this] at h
  have := fstop_le h
  omega
def vaO (tb : List (Option Nat)) (old : List Nat) (s many field done : Nat) : Option Nat :=
  if done < field then some (old.getD (field % old.length) 0) else wk tb s (field + (done - field) / many * many)
def c_va : Con := ⟨(List (Option Nat) × List Nat × Nat) × Nat × Nat × Nat × Bool, fun ((tb, old, s), many, field, times, closed) as => as = [.dat (tT tb), .dat (tN old), .dat (.int (s : Int)), .dat (.int (many : Int)), .dat (.int (field : Int)), .dat (.int (times : Int)), .dat (.bool closed)] ∧ ringOk tb s ∧ oldOk old ∧ farOk many ∧ field < many ∧ times ≤ 10 ^ 18, fun ((tb, old, s), many, field, times, closed) r => r = oN (vaO tb old s many field (chg tb old s many times closed))⟩
theorem wp_va {G : Gm} (h1 : G.con "require_many" = some c_rm) (h2 : G.con "is_integer" = some c_is_integer) (h3 : G.glb "MAX_FAR" = some (.int 1000000000000000000)) (h4 : G.con "changes_done" = some c_cd) (h5 : G.con "wishes_from" = some c_wf) (h6 : G.con "wish_at" = some c_wa) : ∀ a as, c_va.pre a as → wpSs G ir_value_after (rho0 ["table", "old", "start", "many", "field", "times", "closed", "done", "found", "ahead"] as) (kDef (c_va.post a)) := by
  rintro ⟨⟨tb, old, s⟩, many, field, times, closed⟩ as ⟨rfl, hr, ho, hm, hf, ht⟩
  have W := wfR_whole hr.1 hr.2.1
  have hm1 := hm.1
  have hm2 := hm.2
  show wpSs G ir_value_after [.dat (tT tb), .dat (tN old), .dat (.int (s : Int)), .dat (.int (many : Int)), .dat (.int (field : Int)), .dat (.int (times : Int)), .dat (.bool closed), .un, .un, .un] _
  simp?! only [ir_value_after, h1, h2]
  refine ⟨many, ⟨rfl, hm⟩, ?_⟩
  rintro r rfl
  refine ⟨(.int (field : Int), 0, (many : Int) - 1), rfl, ?_⟩
  rintro r rfl
  have e : intIn (.int (field : Int)) 0 ((many : Int) - 1) = true := by simp [intIn]; omega
  simp?! only [e, ir_value_after_t3, h2, h3]
  refine ⟨(.int (times : Int), 0, 1000000000000000000), rfl, ?_⟩
  rintro r rfl
  have e : intIn (.int (times : Int)) 0 1000000000000000000 = true := by simp [intIn]; omega
  simp?! only [e, ir_value_after_t2, h4]
  refine ⟨((tb, old, s), many, times, closed), ⟨rfl, hr, ho, hm⟩, ?_⟩
  rintro r rfl
  generalize hd : chg tb old s many times closed = done
  have ret : ∀ d, d = oN (vaO tb old s many field done) → (kDef (c_va.post ((tb, old, s), many, field, times, closed))).rt d := by
    rintro d rfl
    show _ = _
    rw [hd]
  simp?! only [true_and]
  by_cases hdf : done < field
  · have e : decide ((done : Int) < (field : Int)) = true := decide_eq_true (by omega)
    simp?! only [e, rw_tN_len, rw_tN_ix]
    have e2 : (field : Int) % ((old.length : Nat) : Int) = ((field % old.length : Nat) : Int) := by rw [Int.natCast_emod]
    refine ⟨by have := ho.1; omega, ?_⟩
    rw [e2, rw_atn (Nat.mod_lt _ ho.1)]
    refine ret _ ?_
    simp only [vaO, hdf, if_true, oNs]
  · have e : decide ((done : Int) < (field : Int)) = false := decide_eq_false (by omega)
    simp?! only [e, ir_value_after_t1, h5]
    refine ⟨(tb, s), ⟨rfl, hr⟩, ?_⟩
    rintro r rfl
    simp?! only [h6]
    have e1 : (done : Int) - (field : Int) = ((done - field : Nat) : Int) := by omega
    refine ⟨⟨by omega, by omega⟩, .inr ⟨by omega, by omega⟩, ?_⟩
    rw [e1, show ((done - field : Nat) : Int) / (many : Int) = (((done - field) / many : Nat) : Int) by simp]
    refine ⟨((wfR tb s).1, (wfR tb s).2, field + (done - field) / many * many), ⟨by simp, fun i hi => (W.so i hi).1⟩, ?_⟩
    rintro r rfl
    refine ret _ ?_
    rw [W.wa]
    simp only [vaO, hdf, if_false]
theorem chg_le {tb : List (Option Nat)} {old : List Nat} {s many times : Nat} {closed : Bool} : chg tb old s many times closed ≤ times := by
  unfold chg
  cases firO tb old s many closed with
  | none => exact Nat.le_refl _
  | some f => simp only [chgT]; split <;> (try split) <;> omega
theorem va_ok {tb : List (Option Nat)} {old : List Nat} {s many field done : Nat} (hr : ringOk tb s) (hx : ∀ x ∈ old, x < tb.length) : okR (oN (vaO tb old s many field done)) := by
  refine (tx_oN fun v e => ?_).ok (by decide) (by decide)
  have h8 := hr.2.2
  refine Nat.lt_of_lt_of_le (m := tb.length + 1) ?_ (Nat.le_trans (Nat.succ_le_succ h8) (by decide))
  unfold vaO at e
  split at e
  · cases e
    by_cases hf : field % old.length < old.length
    · have : old.getD (field % old.length) 0 ∈ old := by simp [hf]
      have := hx _ this
      omega
    · rw [List.getD_eq_getElem?_getD, List.getElem?_eq_none (by omega)]; simp
  · have := wk_lt hr _ _ e
    omega
end Ef

end

section
set_option autoImplicit false
namespace Ef
open PySem L2 PySem.Spec PyProof.Rows
/-! ### counting -/
def cntP (p : Nat → Bool) (a b : Nat) : Nat := (List.range (b - a)).countP fun k => p (a + k)
theorem cntP_same (p : Nat → Bool) (a : Nat) : cntP p a a = 0 := by simp [cntP]
theorem cntP_up (p : Nat → Bool) {a b : Nat} (h : a ≤ b) : cntP p a (b + 1) = cntP p a b + if p b = true then 1 else 0 := by
  unfold cntP
  rw [show b + 1 - a = (b - a) + 1 by omega, List.range_succ, List.countP_append]
  simp only [List.countP_cons, List.countP_nil, show a + (b - a) = b by omega, Nat.zero_add]
theorem cntP_split (p : Nat → Bool) {a b : Nat} (h : a ≤ b) : ∀ {c : Nat}, b ≤ c → cntP p a c = cntP p a b + cntP p b c := by
  intro c hc
  induction c with
  | zero =>
    have : b = 0 := by omega
    subst this
    rw [cntP_same]; rfl
  | succ c ih =>
    by_cases e : b = c + 1
    · subst e; rw [cntP_same]; rfl
    · rw [cntP_up p (by omega), cntP_up p (by omega), ih (by omega)]; omega
theorem cntP_low (p : Nat → Bool) {a b : Nat} (h : a < b) : cntP p a b = (if p a = true then 1 else 0) + cntP p (a + 1) b := by
  rw [cntP_split p (show a ≤ a + 1 by omega) (show a + 1 ≤ b by omega), cntP_up p (Nat.le_refl a), cntP_same]
  omega
theorem cntP_ext {p q : Nat → Bool} {a b : Nat} (h : ∀ n, a ≤ n → n < b → p n = q n) : cntP p a b = cntP q a b := by
  unfold cntP
  refine List.countP_congr fun k hk => ?_
  have := List.mem_range.mp hk
  rw [h (a + k) (by omega) (by omega)]
theorem cntP_le (p : Nat → Bool) (a b : Nat) : cntP p a b ≤ b - a := by
  unfold cntP
  have := List.countP_le_length (p := fun k => p (a + k)) (l := List.range (b - a))
  simpa using this
/-- how many of first, first + step, .. are less than end -/
def hmN (first step end_ : Nat) : Nat := (end_ + (step - 1) - first) / step
theorem hmN_cnt {first step : Nat} (h : 0 < step) : ∀ end_ : Nat, cntP (fun n => decide (first ≤ n) && decide (n % step = first % step)) 0 end_ = hmN first step end_
  | 0 => by
    unfold hmN
    rw [cntP_same, Nat.div_eq_of_lt (by omega)]
  | e + 1 => by
    rw [cntP_up _ (Nat.zero_le e), hmN_cnt h e]
    unfold hmN
    by_cases hf : first ≤ e
    · have e1 : e + (step - 1) - first = (e - first) + (step - 1) := by omega
      have e2 : e + 1 + (step - 1) - first = (e - first) + step := by omega
      rw [e1, e2, Nat.add_div_right _ h]
      have key : ((e - first) % step = 0) ↔ e % step = first % step := by
        constructor
        · intro z
          have := Nat.mod_add_div (e - first) step
          rw [z] at this
          have e3 : e = first + step * ((e - first) / step) := by omega
          rw [e3, Nat.add_mul_mod_self_left]
        · intro z
          exact Nat.sub_mod_eq_zero_of_mod_eq z
      generalize hd : e - first = d at key
      have hm := Nat.mod_add_div d step
      by_cases hz : d % step = 0
      · have hk := key.mp hz
        have : (d + (step - 1)) / step = d / step := by
          rw [hz] at hm
          have e4 : d + (step - 1) = (step - 1) + step * (d / step) := by omega
          rw [e4, Nat.add_mul_div_left _ _ h, Nat.div_eq_of_lt (show step - 1 < step by omega)]
          rw [← hm]; simp [h]
        rw [this]
        simp [hf, hk]
      · have hk : ¬ e % step = first % step := fun z => hz (key.mpr z)
        have hlt := Nat.mod_lt d h
        have : (d + (step - 1)) / step = d / step + 1 := by
          have e4 : d + (step - 1) = (d % step - 1) + step * (d / step + 1) := by rw [Nat.mul_add]; omega
          rw [e4, Nat.add_mul_div_left _ _ h, Nat.div_eq_of_lt (by omega)]
          omega
        rw [this]
        simp [hk]
    · have a1 : (e + (step - 1) - first) / step = 0 := Nat.div_eq_of_lt (by omega)
      have a2 : (e + 1 + (step - 1) - first) / step = 0 := Nat.div_eq_of_lt (by omega)
      rw [a1, a2]
      simp [hf]
theorem hmN_int (first step end_ : Nat) (h : 0 < step) : (if (0 : Int) < ((end_ : Int) - first + step - 1) / step then ((end_ : Int) - first + step - 1) / step else 0) = (hmN first step end_ : Int) := by
  unfold hmN
  by_cases hf : first ≤ end_ + (step - 1)
  · have e1 : ((end_ : Int) - first + step - 1) = ((end_ + (step - 1) - first : Nat) : Int) := by omega
    rw [e1, ← Int.natCast_ediv]
    generalize (end_ + (step - 1) - first) / step = q
    split <;> omega
  · have e1 : (end_ + (step - 1) - first) = 0 := by omega
    rw [e1, Nat.zero_div]
    have e2 : ((end_ : Int) - first + step - 1) < 0 := by omega
    have e3 : ((end_ : Int) - first + step - 1) / step < 0 := Int.ediv_neg_of_neg_of_pos e2 (by omega)
    rw [if_neg (Int.not_lt.mpr (Int.le_of_lt e3))]
    rfl
/-- wishes that are a value -/
def wsP (tb : List (Option Nat)) (s v n : Nat) : Bool := decide (wk tb s n = some v)
def odP (old : List Nat) (v n : Nat) : Bool := decide (old.getD (n % old.length) 0 = v)
section
variable {tb : List (Option Nat)} {s : Nat} {f : List Nat} {a : Option Nat}
theorem ws_out (W : Whole tb s f a) {v : Nat} (h : v ∉ f) (n : Nat) : wsP tb s v n = false := by
  unfold wsP
  rw [decide_eq_false_iff_not, ← W.wa n]
  unfold wa
  intro e
  have ine : ∀ k, k < f.length → f.getD k 0 ≠ v := fun k hk z => h (by
    have : f.getD k 0 = f[k] := by simp [hk]
    rw [← z, this]
    exact List.getElem_mem hk)
  split at e
  · rename_i hk
    exact ine n hk (Option.some.inj e)
  · cases ea : a with
    | none => rw [ea] at e; cases e
    | some i =>
      rw [ea] at e
      have hi := (W.so i ea).1
      have hm := Nat.mod_lt (n - i) (show 0 < f.length - i by omega)
      exact ine _ (by omega) (Option.some.inj e)
theorem ws_one (W : Whole tb s f a) {v : Nat} (h : v ∈ f) (hp : ∀ i, a = some i → f.idxOf v < i) (n : Nat) : wsP tb s v n = decide (n = f.idxOf v) := by
  have hl := List.idxOf_lt_length_of_mem h
  have hv : f.getD (f.idxOf v) 0 = v := by
    have : f.getD (f.idxOf v) 0 = f[f.idxOf v] := by simp [hl]
    rw [this, List.getElem_idxOf]
  have inj : ∀ k, k < f.length → f.getD k 0 = v → k = f.idxOf v := fun k hk e => by
    have e1 : f.getD k 0 = f[k] := by simp [hk]
    refine nodup_inj W.nd k _ hk hl ?_
    rw [List.getElem_idxOf, ← e1, e]
  unfold wsP
  rw [← W.wa n]
  unfold wa
  by_cases hk : n < f.length
  · rw [if_pos hk]
    by_cases e : n = f.idxOf v
    · rw [e, hv]; simp
    · have : ¬ f.getD n 0 = v := fun z => e (inj n hk z)
      simp only [Option.some.injEq, this, e, decide_false]
  · rw [if_neg hk]
    have ne : n ≠ f.idxOf v := by omega
    cases ea : a with
    | none => simp [ne]
    | some i =>
      have hi := (W.so i ea).1
      have hm := Nat.mod_lt (n - i) (show 0 < f.length - i by omega)
      have hpi := hp i ea
      have : ¬ f.getD (i + (n - i) % (f.length - i)) 0 = v := fun z => by
        have := inj _ (by omega) z
        omega
      simp only [Option.some.injEq, this, ne, decide_false]
theorem ws_per (W : Whole tb s f a) {v i : Nat} (h : v ∈ f) (ea : a = some i) (hp : i ≤ f.idxOf v) (n : Nat) : wsP tb s v n = (decide (f.idxOf v ≤ n) && decide (n % (f.length - i) = f.idxOf v % (f.length - i))) := by
  have hl := List.idxOf_lt_length_of_mem h
  have hi := (W.so i ea).1
  have hpos : 0 < f.length - i := by omega
  have hv : f.getD (f.idxOf v) 0 = v := by
    have : f.getD (f.idxOf v) 0 = f[f.idxOf v] := by simp [hl]
    rw [this, List.getElem_idxOf]
  have inj : ∀ k, k < f.length → f.getD k 0 = v → k = f.idxOf v := fun k hk e => by
    have e1 : f.getD k 0 = f[k] := by simp [hk]
    refine nodup_inj W.nd k _ hk hl ?_
    rw [List.getElem_idxOf, ← e1, e]
  generalize hpd : f.idxOf v = p at *
  -- below the length: by the place
  have low : ∀ k, k < f.length → (wk tb s k = some v ↔ k = p) := fun k hk => by
    rw [W.at_ k hk, Option.some.injEq]
    exact ⟨inj k hk, fun e => by rw [e, hv]⟩
  have iff : wk tb s n = some v ↔ (p ≤ n ∧ n % (f.length - i) = p % (f.length - i)) := by
    by_cases hk : n < i
    · rw [low n (by omega)]
      omega
    · -- n = r + q * period
      have hm := Nat.mod_lt (n - i) hpos
      have hd := Nat.mod_add_div (n - i) (f.length - i)
      have e1 : i + (n - i) % (f.length - i) + (n - i) / (f.length - i) * (f.length - i) = n := by
        rw [Nat.mul_comm ((n - i) / _)]; omega
      have h2 := W.pers ea (i + (n - i) % (f.length - i)) (by omega) ((n - i) / (f.length - i))
      rw [e1] at h2
      rw [h2, low _ (by omega)]
      constructor
      · intro e
        have e6 := e1
        rw [e] at e6
        refine ⟨Nat.le.intro e6, ?_⟩
        conv => lhs; rw [← e6]
        rw [Nat.add_mul_mod_self_right]
      · rintro ⟨h3, h4⟩
        have e5 : (i + (n - i) % (f.length - i)) % (f.length - i) = p % (f.length - i) := by
          rw [← h4]
          conv => rhs; rw [← e1]
          rw [Nat.add_mul_mod_self_right]
        -- both in [i, i + period)
        generalize (n - i) % (f.length - i) = r at *
        generalize hP : f.length - i = P at *
        have a1 : i + r < i + P := by omega
        have a2 : p < i + P := by omega
        rcases Nat.lt_trichotomy (i + r) p with z | z | z
        · have := Nat.sub_mod_eq_zero_of_mod_eq e5.symm
          have h6 : p - (i + r) < P := by omega
          rw [Nat.mod_eq_of_lt h6] at this
          omega
        · exact z
        · have := Nat.sub_mod_eq_zero_of_mod_eq e5
          have h6 : i + r - p < P := by omega
          rw [Nat.mod_eq_of_lt h6] at this
          omega
  unfold wsP
  rw [Bool.eq_iff_iff]
  simp only [decide_eq_true_eq, Bool.and_eq_true]
  exact iff
end
/-- what wishes_before tells -/
def wbN (tb : List (Option Nat)) (s v end_ : Nat) : Nat := cntP (wsP tb s v) 0 end_
theorem cntP_zero {p : Nat → Bool} {a b : Nat} (h : ∀ n, p n = false) : cntP p a b = 0 := by
  unfold cntP
  rw [List.countP_eq_zero]
  intro k _
  rw [h]
  exact Bool.false_ne_true
theorem cntP_one (m : Nat) : ∀ e : Nat, cntP (fun n => decide (n = m)) 0 e = if m < e then 1 else 0
  | 0 => by rw [cntP_same]; simp
  | e + 1 => by
    rw [cntP_up _ (Nat.zero_le e), cntP_one m e]
    by_cases h : m < e
    · have : ¬ e = m := by omega
      simp [h, this, show m < e + 1 by omega]
    · by_cases h2 : e = m
      · simp [h2]
      · simp [h, h2, show ¬ m < e + 1 by omega]
/-- what old_before tells -/
def obN (old : List Nat) (v end_ : Nat) : Nat := cntP (odP old v) 0 end_
def lsum (l : List Nat) : Nat := l.foldr (· + ·) 0
theorem lsum_cons (a : Nat) (l : List Nat) : lsum (a :: l) = a + lsum l := rfl
theorem lsum_cast : ∀ (l : List Nat), (l.map fun k : Nat => (k : Int)).sum = ((lsum l : Nat) : Int)
  | [] => rfl
  | x :: l => by simp only [List.map_cons, List.sum_cons, lsum_cons, lsum_cast l]; omega
theorem ob_sum (old : List Nat) (v : Nat) (ho : 0 < old.length) : ∀ e : Nat, lsum (((List.range old.length).filter fun p => decide (old.getD p 0 = v)).map fun p => hmN p old.length e) = obN old v e := by
  intro e
  have key : ∀ L : List Nat, L.Nodup → (∀ p ∈ L, p < old.length) → lsum ((L.filter fun p => decide (old.getD p 0 = v)).map fun p => hmN p old.length e) = cntP (fun n => decide (n % old.length ∈ L) && decide (old.getD (n % old.length) 0 = v)) 0 e := by
    intro L
    induction L with
    | nil => intro _ _; rw [cntP_zero fun n => by simp]; rfl
    | cons p L ih =>
      intro nd hl
      obtain ⟨n1, n2⟩ := List.nodup_cons.mp nd
      have hp := hl p List.mem_cons_self
      have ih := ih n2 fun q hq => hl q (List.mem_cons_of_mem _ hq)
      have add : ∀ (p1 p2 p3 : Nat → Bool), (∀ n, (if p1 n = true then 1 else 0) = (if p2 n = true then 1 else 0) + (if p3 n = true then 1 else 0 : Nat)) → ∀ e, cntP p1 0 e = cntP p2 0 e + cntP p3 0 e := by
        intro p1 p2 p3 h e
        induction e with
        | zero => simp [cntP_same]
        | succ e ih2 => rw [cntP_up _ (Nat.zero_le e), cntP_up _ (Nat.zero_le e), cntP_up _ (Nat.zero_le e), ih2, h e]; omega
      rw [List.filter_cons]
      by_cases hv : old.getD p 0 = v
      · rw [if_pos (decide_eq_true hv), List.map_cons, lsum_cons, ih, ← hmN_cnt ho e]
        refine (add _ _ _ (fun n => ?_) e).symm
        by_cases e1 : n % old.length = p
        · have e2 : p ≤ n := by rw [← e1]; exact Nat.mod_le _ _
          have e3 : n % old.length = p % old.length := by rw [Nat.mod_eq_of_lt hp]; exact e1
          simp only [e1, List.mem_cons_self, hv, e2, Nat.mod_eq_of_lt hp, n1, decide_true, decide_false, Bool.and_self, Bool.false_and, if_true, Bool.false_eq_true, if_false]
        · have e3 : ¬ n % old.length = p % old.length := by rw [Nat.mod_eq_of_lt hp]; exact e1
          have e4 : (n % old.length ∈ p :: L) = (n % old.length ∈ L) := by simp [e1]
          simp only [e4, e3, decide_false, Bool.and_false, Bool.false_eq_true, if_false, Nat.zero_add]
      · rw [if_neg (by rw [decide_eq_false hv]; exact Bool.false_ne_true), ih]
        refine cntP_ext fun n _ _ => ?_
        by_cases e1 : n % old.length = p
        · rw [e1]; simp only [hv, decide_false, Bool.and_false]
        · have e4 : (n % old.length ∈ p :: L) = (n % old.length ∈ L) := by simp [e1]
          simp only [e4]
  rw [key _ List.nodup_range fun p hp => List.mem_range.mp hp]
  refine cntP_ext fun n _ _ => ?_
  have := Nat.mod_lt n ho
  simp [odP, this]
/-- how many fields have a value, behind so many changes -/
def shN (tb : List (Option Nat)) (old : List Nat) (s many done v : Nat) : Nat := cntP (wsP tb s v) (done + 1 - many) (done + 1) + cntP (odP old v) (min (done + 1) many) many
theorem sh_eq (tb : List (Option Nat)) (old : List Nat) (s many done v : Nat) : ((wbN tb s v (done + 1) : Int) - wbN tb s v (done + 1 - many)) + obN old v many - obN old v (min (done + 1) many) = (shN tb old s many done v : Int) := by
  have h1 := cntP_split (wsP tb s v) (Nat.zero_le (done + 1 - many)) (show done + 1 - many ≤ done + 1 by omega)
  have h2 := cntP_split (odP old v) (Nat.zero_le (min (done + 1) many)) (show min (done + 1) many ≤ many by omega)
  unfold wbN obN shN
  omega
end Ef

end

section
set_option autoImplicit false
namespace Ef
open PySem L2 PySem.Spec PyProof.Rows
/-! ### shares_after -/
-- how_many ['first', 'step', 'end']
def ir_how_many : Sxs := (.cons (.ret (.blt .max (.cons (.cst (.int 0)) (.cons (.bin .FloorDiv (.bin .Sub (.bin .Add (.bin .Sub (.var 2) (.var 0)) (.var 1)) (.cst (.int 1))) (.var 1)) .nil)))) .nil)
-- wishes_before ['found', 'ahead', 'value', 'end', 'place']
def ir_wishes_before_t1 : Sxs := (.cons (.ret (.call "how_many" (.cons (.var 4) (.cons (.bin .Sub (.blt .len (.cons (.var 0) .nil)) (.var 1)) (.cons (.var 3) .nil))))) .nil)
def ir_wishes_before_t2 : Sxs := (.cons (.set (.nm 4) (.lix (.var 0) (.var 2))) (.cons (.ife (.or (.cmp .Is (.var 1) (.cst .none)) (.cmp .Lt (.var 4) (.var 1))) (.cons (.ret (.blt .int (.cons (.cmp .Lt (.var 4) (.var 3)) .nil))) .nil) .nil) ir_wishes_before_t1))
def ir_wishes_before : Sxs := (.cons (.ife (.cmp .NotIn (.var 2) (.var 0)) (.cons (.ret (.cst (.int 0))) .nil) .nil) ir_wishes_before_t2)
-- old_before ['old', 'value', 'end', 'place', 'item']
def ir_old_before_e1 : Ex := (.call "how_many" (.cons (.var 3) (.cons (.blt .len (.cons (.var 0) .nil)) (.cons (.var 2) .nil))))
def ir_old_before_c1 : Ex := (.cmp .Eq (.var 4) (.var 1))
def ir_old_before : Sxs := (.cons (.ret (.blt .sum (.cons (.lc ir_old_before_e1 (.tp [3, 4]) (.en (.var 0)) (.so ir_old_before_c1) [3, 4]) .nil))) .nil)
-- shares_after ['table', 'old', 'start', 'many', 'times', 'closed', 'done', 'shares', 'value', 'found', 'ahead', 'low', 'rest', 'wished']
def ir_shares_after_b1 : Sxs := (.cons (.set (.nm 13) (.bin .Sub (.call "wishes_before" (.cons (.var 9) (.cons (.var 10) (.cons (.var 8) (.cons (.bin .Add (.var 6) (.cst (.int 1))) .nil))))) (.call "wishes_before" (.cons (.var 9) (.cons (.var 10) (.cons (.var 8) (.cons (.var 11) .nil))))))) (.cons (.app 7 (.bin .Sub (.bin .Add (.var 13) (.call "old_before" (.cons (.var 1) (.cons (.var 8) (.cons (.var 3) .nil))))) (.call "old_before" (.cons (.var 1) (.cons (.var 8) (.cons (.var 12) .nil)))))) .nil))
def ir_shares_after_t1 : Sxs := (.cons (.ret (.blt .tuple (.cons (.bor 7) .nil))) .nil)
def ir_shares_after_t2 : Sxs := (.cons (.set (.nm 6) (.call "changes_done" (.cons (.var 0) (.cons (.var 1) (.cons (.var 2) (.cons (.var 3) (.cons (.var 4) (.cons (.var 5) .nil)))))))) (.cons (.set (.tp [9, 10]) (.call "wishes_from" (.cons (.var 0) (.cons (.var 2) .nil)))) (.cons (.par [11, 12] [false, false] (.cons (.blt .max (.cons (.cst (.int 0)) (.cons (.bin .Sub (.bin .Add (.var 6) (.cst (.int 1))) (.var 3)) .nil))) (.cons (.blt .min (.cons (.bin .Add (.var 6) (.cst (.int 1))) (.cons (.var 3) .nil))) .nil))) (.cons (.own 7 (.lst .nil)) (.cons (.for_ (.nm 8) (.rg (.blt .len (.cons (.var 0) .nil))) ir_shares_after_b1) ir_shares_after_t1)))))
def ir_shares_after : Sxs := (.cons (.exp (.call "require_many" (.cons (.var 3) .nil))) (.cons (.ife (.not (.call "is_integer" (.cons (.var 4) (.cons (.cst (.int 0)) (.cons (.glb "MAX_FAR") .nil))))) (.cons .nev .nil) .nil) ir_shares_after_t2))
theorem mem_anyS (l : List Nat) (k : Nat) : ((l.map (fun n : Nat => PyData.int (n : Int))).any fun z => PyData.eqv z (.int (k : Int))) = decide (k ∈ l) := by
  rw [Bool.eq_iff_iff]
  simp [PyData.eqv]
  constructor
  · rintro ⟨x, hx, e⟩
    have : x = k := by omega
    rw [← this]; exact hx
  · exact fun h => ⟨k, h, rfl⟩
theorem lay_natsS (l : List Nat) : PyData.canLayAll0 (l.map (fun n : Nat => PyData.int (n : Int))) = true := by
  induction l with
  | nil => rfl
  | cons a b ih => simp only [List.map_cons, PyData.canLayAll0, PyData.canLay0, ih, Bool.and_self]
theorem dep_natsS (l : List Nat) : PyData.depthAll (l.map (fun n : Nat => PyData.int (n : Int))) = 0 := by
  induction l with
  | nil => rfl
  | cons a b ih => simp only [List.map_cons, PyData.depthAll, PyData.depth, ih]; rfl
theorem shp_natS (l : List Nat) : SeqAt.shaped (.list (l.map (fun n : Nat => PyData.int (n : Int)))) = true := by simp [SeqAt.shaped, PyData.canLay0, PyData.depth, lay_natsS, dep_natsS]
theorem shp_natT (l : List Nat) : SeqAt.shaped (.tuple (l.map (fun n : Nat => PyData.int (n : Int)))) = true := by simp [SeqAt.shaped, PyData.canLay0, PyData.depth, lay_natsS, dep_natsS]
theorem find_S {l : List Nat} {x : Nat} (h : x ∈ l) : List.findIdx? (fun z => PyData.eqv z (.int (x : Nat))) (l.map (fun n : Nat => PyData.int (n : Int))) = some (l.idxOf x) := by
  have hl := List.idxOf_lt_length_of_mem h
  rw [List.findIdx?_eq_some_iff_getElem]
  refine ⟨by simpa using hl, by simp [PyData.eqv, List.getElem_idxOf], fun m hm => ?_⟩
  have hml : m < l.length := by omega
  have : l[m] ≠ x := fun e => by
    have h2 : l.idxOf x ≤ m := by
      have := List.not_of_lt_findIdx (p := (· == x)) (xs := l) (i := m) (by simpa [List.idxOf] using hm)
      simp [e] at this
    omega
  simp [PyData.eqv]
  omega
def c_hm : Con := ⟨Nat × Nat × Nat, fun (a, b, e) as => as = [.dat (.int (a : Nat)), .dat (.int (b : Nat)), .dat (.int (e : Nat))] ∧ 0 < b ∧ b < 2 ^ 60, fun (a, b, e) r => r = .int ((hmN a b e : Nat) : Int)⟩
theorem wp_hm {G : Gm} : ∀ a as, c_hm.pre a as → wpSs G ir_how_many (rho0 ["first", "step", "end"] as) (kDef (c_hm.post a)) := by
  rintro ⟨a, b, e⟩ as ⟨rfl, hb, hb2⟩
  show wpSs G ir_how_many [.dat (.int (a : Nat)), .dat (.int (b : Nat)), .dat (.int (e : Nat))] _
  simp?! only [ir_how_many]
  refine ⟨⟨by omega, by omega⟩, ?_⟩
  show PyData.int _ = .int _
  rw [hmN_int a b e hb]
def c_wb : Con := ⟨(List (Option Nat) × Nat) × Nat × Nat, fun ((tb, s), v, e) as => as = [.dat (tN (wfR tb s).1), .dat (oN (wfR tb s).2), .dat (.int (v : Nat)), .dat (.int (e : Nat))] ∧ ringOk tb s, fun ((tb, s), v, e) r => r = .int ((wbN tb s v e : Nat) : Int)⟩
theorem wp_wb {G : Gm} (h1 : G.con "how_many" = some c_hm) : ∀ a as, c_wb.pre a as → wpSs G ir_wishes_before (rho0 ["found", "ahead", "value", "end", "place"] as) (kDef (c_wb.post a)) := by
  rintro ⟨⟨tb, s⟩, v, e⟩ as ⟨rfl, hr⟩
  have W := wfR_whole hr.1 hr.2.1
  have h8 := hr.2.2
  show wpSs G ir_wishes_before [.dat (tN (wfR tb s).1), .dat (oN (wfR tb s).2), .dat (.int (v : Nat)), .dat (.int (e : Nat)), .un] _
  generalize (wfR tb s).1 = f at W
  generalize (wfR tb s).2 = a at W
  have ret : ∀ n : Nat, wbN tb s v e = n → (kDef (c_wb.post ((tb, s), v, e))).rt (.int (n : Nat)) := by
    intro n hn
    show PyData.int _ = .int _
    rw [hn]
  unfold tN
  simp?! only [ir_wishes_before, mem_anyS]
  refine ⟨rfl, shp_natT f, ?_⟩
  by_cases hv : v ∈ f
  · rw [if_neg (by simp [hv])]
    have hl := List.idxOf_lt_length_of_mem hv
    simp?! only [ir_wishes_before_t2]
    refine ⟨_, .inr rfl, _, shp_natS f, rfl, find_S hv, ?_⟩
    have one : (∀ i, a = some i → f.idxOf v < i) → (kDef (c_wb.post ((tb, s), v, e))).rt (.int (if decide ((f.idxOf v : Int) < (e : Int)) = true then 1 else 0)) := by
      intro h
      have e1 : wbN tb s v e = if f.idxOf v < e then 1 else 0 := by
        unfold wbN
        rw [cntP_ext (q := fun n => decide (n = f.idxOf v)) fun n _ _ => ws_one W hv h n, cntP_one]
      by_cases hp : f.idxOf v < e
      · rw [if_pos (decide_eq_true (by omega))]
        exact ret 1 (by rw [e1, if_pos hp])
      · rw [if_neg (by simp; omega)]
        exact ret 0 (by rw [e1, if_neg hp])
    cases ea : a with
    | none =>
      simp?! only [oNn]
      exact one fun i h => by rw [ea] at h; cases h
    | some i =>
      have hi := (W.so i ea).1
      have hlen := W.len.2
      simp?! only [oNs]
      by_cases hp : f.idxOf v < i
      · rw [if_pos (decide_eq_true (by omega))]
        exact one fun j h => by rw [ea] at h; cases h; exact hp
      · rw [if_neg (by simp; omega)]
        simp?! only [ir_wishes_before_t1, h1]
        have e2 : ((f.length : Nat) : Int) - (i : Int) = ((f.length - i : Nat) : Int) := by omega
        rw [e2]
        refine ⟨(f.idxOf v, f.length - i, e), ⟨rfl, by omega, by omega⟩, ?_⟩
        rintro r rfl
        refine ret _ ?_
        unfold wbN
        rw [cntP_ext fun n _ _ => ws_per W hv ea (by omega) n, hmN_cnt (by omega)]
  · rw [if_pos (by simp [hv])]
    exact ret 0 (cntP_zero fun n => ws_out W hv n)
def c_ob : Con := ⟨List Nat × Nat × Nat, fun (old, v, e) as => as = [.dat (tN old), .dat (.int (v : Nat)), .dat (.int (e : Nat))] ∧ oldOk old, fun (old, v, e) r => r = .int ((obN old v e : Nat) : Int)⟩
theorem zipIdx_N (old : List Nat) : ((old.map (fun n : Nat => PyData.int (n : Int))).zipIdx.map fun p => PyData.tuple [.int (p.2 : Nat), p.1]) = (List.range old.length).map fun p : Nat => PyData.tuple [.int (p : Nat), .int ((old.getD p 0 : Nat) : Int)] := by
  refine List.ext_getElem (by simp) fun i h1 h2 => ?_
  have hi : i < old.length := by simpa using h1
  simp [hi]
theorem wp_ob {G : Gm} (h1 : G.con "how_many" = some c_hm) : ∀ a as, c_ob.pre a as → wpSs G ir_old_before (rho0 ["old", "value", "end", "place", "item"] as) (kDef (c_ob.post a)) := by
  rintro ⟨old, v, e⟩ as ⟨rfl, ho⟩
  show wpSs G ir_old_before [.dat (tN old), .dat (.int (v : Nat)), .dat (.int (e : Nat)), .un, .un] _
  unfold tN
  simp?! only [ir_old_before, zipIdx_N]
  have h6 := ho.2
  refine comp_f (fun p : Nat => PyData.tuple [.int (p : Nat), .int ((old.getD p 0 : Nat) : Int)]) (fun p => .int ((hmN p old.length e : Nat) : Int)) (fun p => decide (old.getD p 0 = v)) (acc := []) (fun p hp R S hR hS => ?_) (by simp [sizeLine_eq]; omega) ?_
  · simp?! only [ir_old_before_c1, ir_old_before_e1, wpC, h1]
    by_cases hv : old.getD p 0 = v
    · rw [if_pos (by simp only [hv, decide_true])]
      exact ⟨(p, old.length, e), ⟨rfl, ho.1, by omega⟩, fun r hr => by cases hr; exact hR (decide_eq_true hv)⟩
    · rw [if_neg (by rw [decide_eq_false (by omega)]; exact Bool.false_ne_true)]
      exact hS (decide_eq_false hv)
  rw [List.nil_append]
  refine ⟨((List.range old.length).filter fun p => decide (old.getD p 0 = v)).map fun p => ((hmN p old.length e : Nat) : Int), by rw [List.map_map]; rfl, ?_⟩
  show PyData.int _ = .int _
  have := lsum_cast (((List.range old.length).filter fun p => decide (old.getD p 0 = v)).map fun p => hmN p old.length e)
  rw [List.map_map] at this
  rw [← ob_sum old v ho.1 e, ← this]
  rfl
abbrev ShA := (List (Option Nat) × List Nat × Nat) × Nat × Nat × Bool
def shD (tb : List (Option Nat)) (old : List Nat) (s many done : Nat) : PyData := .tuple (((List.range tb.length).map fun v => shN tb old s many done v).map (fun n : Nat => PyData.int (n : Int)))
def c_sh : Con := ⟨ShA, fun ((tb, old, s), many, times, closed) as => as = [.dat (tT tb), .dat (tN old), .dat (.int (s : Int)), .dat (.int (many : Int)), .dat (.int (times : Int)), .dat (.bool closed)] ∧ ringOk tb s ∧ oldOk old ∧ farOk many ∧ times ≤ 10 ^ 18, fun ((tb, old, s), many, times, closed) r => r = shD tb old s many (chg tb old s many times closed)⟩
theorem wp_sh {G : Gm} (h1 : G.con "require_many" = some c_rm) (h2 : G.con "is_integer" = some c_is_integer) (h3 : G.glb "MAX_FAR" = some (.int 1000000000000000000)) (h4 : G.con "changes_done" = some c_cd) (h5 : G.con "wishes_from" = some c_wf) (h6 : G.con "wishes_before" = some c_wb) (h7 : G.con "old_before" = some c_ob) : ∀ a as, c_sh.pre a as → wpSs G ir_shares_after (rho0 ["table", "old", "start", "many", "times", "closed", "done", "shares", "value", "found", "ahead", "low", "rest", "wished"] as) (kDef (c_sh.post a)) := by
  rintro ⟨⟨tb, old, s⟩, many, times, closed⟩ as ⟨rfl, hr, ho, hm, ht⟩
  have h8 := hr.2.2
  have hm1 := hm.1
  show wpSs G ir_shares_after [.dat (tT tb), .dat (tN old), .dat (.int (s : Int)), .dat (.int (many : Int)), .dat (.int (times : Int)), .dat (.bool closed), .un, .un, .un, .un, .un, .un, .un, .un] _
  simp?! only [ir_shares_after, h1, h2, h3]
  refine ⟨many, ⟨rfl, hm⟩, ?_⟩
  rintro r rfl
  refine ⟨(.int (times : Int), 0, 1000000000000000000), rfl, ?_⟩
  rintro r rfl
  have e : intIn (.int (times : Int)) 0 1000000000000000000 = true := by simp [intIn]; omega
  simp?! only [e, ir_shares_after_t2, h4]
  refine ⟨((tb, old, s), many, times, closed), ⟨rfl, hr, ho, hm⟩, ?_⟩
  rintro r rfl
  generalize hd : chg tb old s many times closed = done
  have ret : ∀ d, d = shD tb old s many done → (kDef (c_sh.post ((tb, old, s), many, times, closed))).rt d := by
    rintro d rfl
    show _ = _
    rw [hd]
  simp?! only [h5]
  refine ⟨(tb, s), ⟨rfl, hr⟩, ?_⟩
  rintro r rfl
  simp?! only [true_and]
  have e1 : (if (0 : Int) < (done : Int) + 1 - (many : Int) then (done : Int) + 1 - (many : Int) else 0) = ((done + 1 - many : Nat) : Int) := by split <;> omega
  have e2 : (if (many : Int) < (done : Int) + 1 then (many : Int) else (done : Int) + 1) = ((min (done + 1) many : Nat) : Int) := by split <;> omega
  rw [e1, e2]
  have el : (tT tb) = .tuple (tb.map oN) := rfl
  rw [el]
  simp?! only [true_and]
  refine ⟨by omega, by omega, ?_⟩
  rw [← el]
  refine for_ty (fun n : Nat => PyData.int (n : Int)) (fun p r => ∃ x8 x13 : Sl, r = [.dat (tT tb), .dat (tN old), .dat (.int (s : Int)), .dat (.int (many : Int)), .dat (.int (times : Int)), .dat (.bool closed), .dat (.int (done : Nat)), .own ((p.map fun v => shN tb old s many done v).map (fun n : Nat => PyData.int (n : Int))), x8, .dat (tN (wfR tb s).1), .dat (oN (wfR tb s).2), .dat (.int ((done + 1 - many : Nat) : Int)), .dat (.int ((min (done + 1) many : Nat) : Int)), x13]) ⟨_, _, rfl⟩ ?_ ?_
  · rintro p v q r e' ⟨x8, x13, rfl⟩
    have hp : p.length < tb.length := by
      have := congrArg List.length e'
      simp at this
      omega
    simp?! only [ir_shares_after_b1, h6, h7]
    have e3 : (done : Int) + 1 = ((done + 1 : Nat) : Int) := by omega
    rw [e3]
    refine ⟨((tb, s), v, done + 1), ⟨rfl, hr⟩, ?_⟩
    rintro r rfl
    refine ⟨((tb, s), v, done + 1 - many), ⟨rfl, hr⟩, ?_⟩
    rintro r rfl
    simp?! only [h7]
    refine ⟨(old, v, many), ⟨rfl, ho⟩, ?_⟩
    rintro r rfl
    simp?! only [h7]
    refine ⟨(old, v, min (done + 1) many), ⟨rfl, ho⟩, ?_⟩
    rintro r rfl
    simp?! only [true_and]
    refine ⟨by simp [sizeLine_eq]; omega, ?_⟩
    rw [sh_eq]
    have e4 : ((p.map fun v => shN tb old s many done v).map (fun n : Nat => PyData.int (n : Int))) ++ [.int ((shN tb old s many done v : Nat) : Int)] = ((p ++ [v]).map fun v => shN tb old s many done v).map (fun n : Nat => PyData.int (n : Int)) := by simp
    rw [e4]
    exact ⟨_, _, rfl⟩
  · rintro r ⟨x8, x13, rfl⟩
    simp?! only [ir_shares_after_t1]
    exact ret _ rfl
end Ef

end

section
set_option autoImplicit false
namespace Ef
open PySem L2 PySem.Spec PyProof.Rows
/-! ### rings: what happens behind so many changes (plain) -/
section
variable {tb : List (Option Nat)} {old : List Nat} {s many times : Nat} {closed : Bool}
theorem stop_by {f : List Nat} (W : Whole tb s f none) (h8 : f.length ≤ 8) : ∃ f0, fstop tb old s 90 = some f0 ∧ 1 ≤ f0 ∧ f0 ≤ f.length := by
  have hl := W.len.1
  have st : stopB tb old s f.length = true := by
    unfold stopB
    rw [W.no rfl]
    simp
  cases e : fstop tb old s 90 with
  | none =>
    have := fs_none e f.length hl (by omega)
    rw [st] at this
    cases this
  | some f0 =>
    obtain ⟨h1, h2, h3, h4⟩ := fs_some e
    refine ⟨f0, rfl, h1, ?_⟩
    rcases Nat.lt_or_ge f.length f0 with z | z
    · have := h4 _ hl z
      rw [st] at this
      cases this
    · exact z
theorem chg_live (hr : ringOk tb s) (hm : farOk many) (n : Nat) (hn : n ≤ chg tb old s many times closed) : ∃ v, wk tb s n = some v ∧ v < tb.length := by
  have W := wfR_whole hr.1 hr.2.1
  have h8 := hr.2.2
  have key : wk tb s n ≠ none := by
    cases ha : (wfR tb s).2 with
    | some i => exact W.some ha n
    | none =>
      have W2 := W
      rw [ha] at W2
      obtain ⟨f0, e0, h1, h2⟩ := stop_by (old := old) W2 (by have := W.len.2; omega)
      have hl := W.len.1
      have lt : chg tb old s many times closed < (wfR tb s).1.length := by
        unfold chg firO
        by_cases h0 : old.headD 0 = s
        · rw [if_pos h0]; simp only [chgT]; simp; omega
        · rw [if_neg h0, e0, ha]
          by_cases he : f0 < many
          · rw [if_pos (by simp [early, he])]
            have he' : early (some f0) many = true := decide_eq_true he
            simp only [chgT]
            split
            · omega
            · split
              · rename_i hp
                rcases hp with z | ⟨_, z⟩
                · omega
                · rw [he'] at z; cases z
              · omega
          · rw [if_neg (by simp [early, he])]
            cases closed with
            | false =>
              rw [if_pos rfl]
              simp only [chgT]
              split
              · omega
              · split <;> omega
            | true =>
              rw [if_neg (by simp)]
              simp only [chgT]
              split
              · omega
              · split
                · rename_i hp
                  rcases hp with z | ⟨z, _⟩
                  · omega
                  · cases z
                · omega
      rw [W.at_ n (by omega)]
      simp
  cases e : wk tb s n with
  | none => exact absurd e key
  | some v => exact ⟨v, rfl, wk_lt hr n v e⟩
theorem chg_step : chg tb old s many (times + 1) closed = chg tb old s many times closed ∨ (chg tb old s many times closed = times ∧ chg tb old s many (times + 1) closed = times + 1) := by
  unfold chg
  cases firO tb old s many closed with
  | none => exact .inr ⟨rfl, rfl⟩
  | some f =>
    simp only [chgT]
    by_cases h1 : times + 1 < f
    · rw [if_pos h1, if_pos (by omega)]; exact .inr ⟨rfl, rfl⟩
    · rw [if_neg h1]
      by_cases h2 : times < f
      · rw [if_pos h2]
        have : f = times + 1 := by omega
        split
        · exact .inr ⟨rfl, by omega⟩
        · exact .inl (by omega)
      · rw [if_neg h2]
        exact .inl rfl
theorem chg_near (hr : ringOk tb s) (hm : farOk many) (ht : times < many - 1) (more : Nat) : chg tb old s (many + more) times closed = chg tb old s many times closed := by
  have W := wfR_whole hr.1 hr.2.1
  have h8 := hr.2.2
  have hm1 := hm.1
  by_cases h0 : old.headD 0 = s
  · unfold chg firO
    rw [if_pos h0, if_pos h0]
    simp [chgT]
  · cases ef : fstop tb old s 90 with
    | some f0 =>
      by_cases he : f0 < many
      · unfold chg firO
        have h3 : early (some f0) many = true := decide_eq_true he
        have h4 : early (some f0) (many + more) = true := decide_eq_true (by omega)
        rw [if_neg h0, if_neg h0, ef, if_pos h3, if_pos h4, h3, h4]
      · -- no stop ahead: both are times
        have both : ∀ M, many ≤ M → chg tb old s M times closed = times := by
          intro M hM
          unfold chg firO
          rw [if_neg h0, ef]
          by_cases he2 : f0 < M
          · rw [if_pos (by simp [early, he2])]
            simp only [chgT]
            rw [if_pos (by omega)]
          · rw [if_neg (by simp [early, he2])]
            cases closed with
            | false =>
              rw [if_pos rfl]
              simp only [chgT]
              rw [if_pos (by omega)]
            | true =>
              rw [if_neg (by simp)]
              cases ha : (wfR tb s).2 with
              | none =>
                have W2 := W
                rw [ha] at W2
                obtain ⟨f1, e1, g1, g2⟩ := stop_by (old := old) W2 (by have := W.len.2; omega)
                rw [ef] at e1
                cases e1
                simp only [chgT]
                rw [if_pos (by omega)]
              | some i =>
                simp only
                split
                · simp only [chgT]; rw [if_pos (by omega)]
                · rfl
        rw [both _ (by omega), both _ (Nat.le_refl _)]
    | none =>
      have both : ∀ M, many ≤ M → chg tb old s M times closed = times := by
        intro M hM
        unfold chg firO
        rw [if_neg h0, ef]
        rw [if_neg (by simp [early])]
        cases closed with
        | false =>
          rw [if_pos rfl]
          simp only [chgT]
          rw [if_pos (by omega)]
        | true =>
          rw [if_neg (by simp)]
          cases ha : (wfR tb s).2 with
          | none =>
            have W2 := W
            rw [ha] at W2
            obtain ⟨f1, e1, g1, g2⟩ := stop_by (old := old) W2 (by have := W.len.2; omega)
            rw [ef] at e1
            cases e1
          | some i =>
            simp only
            split
            · simp only [chgT]; rw [if_pos (by omega)]
            · rfl
      rw [both _ (by omega), both _ (Nat.le_refl _)]
theorem fir_near (hr : ringOk tb s) {f : Nat} (h : firO tb old s many true = some f) (hf : f < many) (more : Nat) : firO tb old s (many + more) true = some f := by
  have W := wfR_whole hr.1 hr.2.1
  have h8 := hr.2.2
  unfold firO at h ⊢
  by_cases h0 : old.headD 0 = s
  · rw [if_pos h0] at h ⊢; exact h
  · rw [if_neg h0] at h ⊢
    by_cases he : early (fstop tb old s 90) many = true
    · rw [if_pos he] at h
      rw [h] at he ⊢
      rw [if_pos (by simp [early]; omega)]
    · rw [if_neg he, if_neg (by simp)] at h
      cases ha : (wfR tb s).2 with
      | none =>
        have W2 := W
        rw [ha] at W2
        obtain ⟨f1, e1, g1, g2⟩ := stop_by (old := old) W2 (by have := W.len.2; omega)
        rw [ha] at h
        rw [e1] at he
        simp only [early, decide_eq_true_eq] at he
        have := Option.some.inj h
        omega
      | some i =>
        rw [ha] at h
        simp only at h
        split at h
        · have := Option.some.inj h; omega
        · cases h
end
/-! #### sums of shares -/
theorem lsum_add {α : Type} (g h : α → Nat) : ∀ l : List α, lsum (l.map fun x => g x + h x) = lsum (l.map g) + lsum (l.map h)
  | [] => rfl
  | x :: l => by simp only [List.map_cons, lsum_cons, lsum_add g h l]; omega
theorem lsum_zero {α : Type} : ∀ l : List α, lsum (l.map fun _ => 0) = 0
  | [] => rfl
  | a :: l => by rw [List.map_cons, lsum_cons, lsum_zero l]
theorem lsum_one {v0 : Nat} : ∀ L : Nat, lsum ((List.range L).map fun v => if decide (v = v0) = true then 1 else 0) = if v0 < L then 1 else 0
  | 0 => by simp [lsum]
  | L + 1 => by
    rw [List.range_succ, List.map_append]
    have app : ∀ a b : List Nat, lsum (a ++ b) = lsum a + lsum b := fun a b => by
      induction a with
      | nil => simp [lsum]
      | cons x a ih => rw [List.cons_append, lsum_cons, lsum_cons, ih]; omega
    rw [app, lsum_one L]
    by_cases h : L = v0
    · subst h; simp [lsum]
    · have e : decide (L = v0) = false := decide_eq_false h
      simp only [List.map_cons, List.map_nil, e, Bool.false_eq_true, if_false]
      by_cases h2 : v0 < L
      · rw [if_pos h2, if_pos (by omega)]; rfl
      · rw [if_neg h2, if_neg (by omega)]; rfl
theorem cnt_all {L : Nat} {p : Nat → Nat → Bool} {a : Nat} : ∀ {b : Nat}, a ≤ b → (∀ n, a ≤ n → n < b → ∃ v0, v0 < L ∧ ∀ v, p v n = decide (v = v0)) → lsum ((List.range L).map fun v => cntP (p v) a b) = b - a := by
  intro b hb
  induction b with
  | zero =>
    intro _
    have : a = 0 := by omega
    subst this
    simp only [cntP_same]
    rw [lsum_zero]
  | succ b ih =>
    intro h
    by_cases e : a = b + 1
    · subst e
      simp only [cntP_same]
      rw [lsum_zero]; omega
    · have ih := ih (by omega) fun n h1 h2 => h n h1 (by omega)
      obtain ⟨v0, hv, hp⟩ := h b (by omega) (by omega)
      have e1 : ((List.range L).map fun v => cntP (p v) a (b + 1)) = (List.range L).map fun v => cntP (p v) a b + if decide (v = v0) = true then 1 else 0 := List.map_congr_left fun v _ => by
        rw [cntP_up _ (by omega), hp v]
      rw [e1, lsum_add, ih, lsum_one, if_pos hv]
      omega
theorem sh_sum {tb : List (Option Nat)} {old : List Nat} {s many done : Nat} (ho : oldOk old) (hx : ∀ x ∈ old, x < tb.length) (live : ∀ n, n ≤ done → ∃ v, wk tb s n = some v ∧ v < tb.length) : lsum ((List.range tb.length).map fun v => shN tb old s many done v) = many := by
  unfold shN
  rw [lsum_add]
  rw [cnt_all (by omega) fun n _ h2 => by
    obtain ⟨v, e, hv⟩ := live n (by omega)
    refine ⟨v, hv, fun u => ?_⟩
    unfold wsP
    rw [e]
    by_cases h : u = v
    · simp [h]
    · have : ¬ (some v = some u) := fun z => h (Option.some.inj z).symm
      rw [decide_eq_false this, decide_eq_false h]]
  rw [cnt_all (by omega) fun n _ h2 => by
    have hm := Nat.mod_lt n ho.1
    refine ⟨old.getD (n % old.length) 0, hx _ (by simp [hm]), fun u => ?_⟩
    unfold odP
    by_cases h : u = old.getD (n % old.length) 0
    · rw [decide_eq_true h, decide_eq_true h.symm]
    · rw [decide_eq_false h, decide_eq_false (fun z => h z.symm)]]
  omega
/-- the value that the field of the next firing has -/
def wasN (tb : List (Option Nat)) (old : List Nat) (s many done : Nat) : Option Nat := if done + 1 < many then some (old.getD ((done + 1) % old.length) 0) else wk tb s (done + 1 - many)
theorem sh_step {tb : List (Option Nat)} {old : List Nat} {s many done a b : Nat} (hm : 1 ≤ many) (ha : wasN tb old s many done = some a) (hb : wk tb s (done + 1) = some b) (v : Nat) : (shN tb old s many (done + 1) v : Int) = shN tb old s many done v - (if v = a then 1 else 0) + (if v = b then 1 else 0) := by
  unfold shN
  unfold wasN at ha
  have pb : (if wsP tb s v (done + 1) = true then 1 else 0 : Nat) = if v = b then 1 else 0 := by
    unfold wsP
    rw [hb]
    by_cases h : v = b
    · simp [h]
    · have : ¬ (some b = some v) := fun z => h (Option.some.inj z).symm
      rw [decide_eq_false this, if_neg h]; rfl
  by_cases h : done + 1 < many
  · rw [if_pos h] at ha
    have ha := Option.some.inj ha
    rw [show done + 1 + 1 - many = 0 by omega, show done + 1 - many = 0 by omega, show min (done + 1 + 1) many = done + 1 + 1 by omega, show min (done + 1) many = done + 1 by omega, cntP_up _ (Nat.zero_le (done + 1)), pb, cntP_low (odP old v) h]
    have po : (if odP old v (done + 1) = true then 1 else 0 : Nat) = if v = a then 1 else 0 := by
      unfold odP
      rw [ha]
      by_cases h : v = a
      · simp [h]
      · rw [decide_eq_false (fun z => h z.symm), if_neg h]; rfl
    rw [po]
    split <;> split <;> omega
  · rw [if_neg h] at ha
    have pa : (if wsP tb s v (done + 1 - many) = true then 1 else 0 : Nat) = if v = a then 1 else 0 := by
      unfold wsP
      rw [ha]
      by_cases h : v = a
      · simp [h]
      · have : ¬ (some a = some v) := fun z => h (Option.some.inj z).symm
        rw [decide_eq_false this, if_neg h]; rfl
    rw [show done + 1 + 1 - many = done + 1 - many + 1 by omega, show min (done + 1 + 1) many = many by omega, show min (done + 1) many = many by omega, cntP_up _ (show done + 1 - many + 1 ≤ done + 1 by omega), pb, cntP_low (wsP tb s v) (show done + 1 - many < done + 1 by omega), pa]
    split <;> split <;> omega
theorem va_was {tb : List (Option Nat)} {old : List Nat} {s many done : Nat} (hm : 1 ≤ many) : vaO tb old s many ((done + 1) % many) done = wasN tb old s many done ∧ vaO tb old s many ((done + 1) % many) (done + 1) = wk tb s (done + 1) := by
  have hmod := Nat.mod_lt (done + 1) hm
  have hdm := Nat.mod_add_div (done + 1) many
  unfold vaO wasN
  by_cases h : done + 1 < many
  · rw [Nat.mod_eq_of_lt h, if_pos (by omega), if_pos h, if_neg (by omega)]
    simp
  · have hle : (done + 1) % many ≤ done := by omega
    rw [if_neg (by omega), if_neg h, if_neg (by omega)]
    generalize (done + 1) % many = r at *
    generalize hq : (done + 1) / many = q at *
    have hq1 : 1 ≤ q := by rw [← hq]; exact (Nat.le_div_iff_mul_le hm).mpr (by omega)
    obtain ⟨q', rfl⟩ : ∃ q', q = q' + 1 := ⟨q - 1, by omega⟩
    have e0 : many * (q' + 1) = many * q' + many := Nat.mul_succ _ _
    have e1 : (done - r) / many = q' := by
      have : done - r = (many - 1) + many * q' := by omega
      rw [this, Nat.add_mul_div_left _ _ hm, Nat.div_eq_of_lt (by omega)]; omega
    have e2 : (done + 1 - r) / many = q' + 1 := by
      have : done + 1 - r = many * (q' + 1) := by omega
      rw [this, Nat.mul_div_cancel_left _ hm]
    rw [e1, e2, Nat.mul_comm q' many, Nat.mul_comm (q' + 1) many]
    exact ⟨by congr 1; omega, by congr 1⟩
/-- as many fields more, that nothing reaches -/
theorem sh_wide {tb : List (Option Nat)} {old : List Nat} {s many done : Nat} (ho : oldOk old) (hd : done + 1 ≤ many) (v : Nat) : shN tb old s (many + old.length) done v = shN tb old s many done v + old.countP fun x => decide (x = v) := by
  unfold shN
  have e1 : cntP (odP old v) many (many + old.length) = old.countP fun x => decide (x = v) := by
    have per : ∀ a b : Nat, cntP (odP old v) (a + 1) (a + 1 + old.length) = cntP (odP old v) a (a + old.length) := by
      intro a _
      have h1 := cntP_low (odP old v) (show a < a + old.length + 1 by omega)
      have h2 := cntP_up (odP old v) (show a ≤ a + old.length by omega)
      have h3 : odP old v (a + old.length) = odP old v a := by
        unfold odP
        rw [Nat.add_mod_right]
      rw [h3] at h2
      rw [show a + 1 + old.length = a + old.length + 1 by omega]
      omega
    have base : ∀ a : Nat, cntP (odP old v) a (a + old.length) = cntP (odP old v) 0 (0 + old.length) := by
      intro a
      induction a with
      | zero => rfl
      | succ a ih => rw [per a 0, ih]
    rw [base, Nat.zero_add]
    have gen : ∀ l : List Nat, (List.range l.length).countP (fun k => decide (l.getD k 0 = v)) = l.countP fun x => decide (x = v) := by
      intro l
      have : l = (List.range l.length).map fun k => l.getD k 0 := by
        refine List.ext_getElem (by simp) fun i h1 h2 => ?_
        simp [h1]
      conv => rhs; rw [this]
      rw [List.countP_map]
      rfl
    rw [← gen old]
    unfold cntP odP
    rw [Nat.sub_zero]
    refine List.countP_congr fun k hk => ?_
    have := List.mem_range.mp hk
    rw [Nat.zero_add, Nat.mod_eq_of_lt this]
  rw [show done + 1 - (many + old.length) = 0 by omega, show done + 1 - many = 0 by omega, show min (done + 1) (many + old.length) = done + 1 by omega, show min (done + 1) many = done + 1 by omega]
  rw [cntP_split (odP old v) hd (show many ≤ many + old.length by omega), e1]
  omega
end Ef

end

section
set_option autoImplicit false
namespace Ef
open PySem L2 PySem.Spec PyProof.Rows
/-! ### k67: the run field by field (plain) -/
section
variable {tb : List (Option Nat)} {old : List Nat} {s many : Nat} {closed : Bool}
/-- the firing with a number changes nothing -/
def stA (tb : List (Option Nat)) (old : List Nat) (s many n : Nat) : Prop := wk tb s n = none ∨ wk tb s n = wasN tb old s many (n - 1)
theorem stA_low {n : Nat} (h1 : 1 ≤ n) (h : n < many) : stA tb old s many n ↔ stopB tb old s n = true := by
  unfold stA wasN stopB
  rw [if_pos (by omega), show n - 1 + 1 = n by omega]
  simp
theorem stA_high {n : Nat} (h : many ≤ n) (h1 : 1 ≤ n) : stA tb old s many n ↔ (wk tb s n = none ∨ wk tb s n = wk tb s (n - many)) := by
  unfold stA wasN
  rw [if_neg (by omega), show n - 1 + 1 = n by omega]
/-- what firings tells of stops -/
theorem fir_spec (hr : ringOk tb s) (ho : oldOk old) (hm : 2 ≤ many ∧ many ≤ 26) (h0 : ¬ old.headD 0 = s) :
    (firO tb old s many closed = none ∧ closed = true ∧ ∀ n, 1 ≤ n → ¬ stA tb old s many n) ∨
    (∃ t, firO tb old s many closed = some t ∧ 1 ≤ t ∧ t ≤ 40 ∧ (∀ n, 1 ≤ n → n < t → ¬ stA tb old s many n) ∧ ((stA tb old s many t ∧ ¬ (closed = false ∧ early (fstop tb old s 90) many = false) ∧ (closed = false → t < many)) ∨ (closed = false ∧ early (fstop tb old s 90) many = false ∧ t = many - 1 ∧ ¬ stA tb old s many t))) := by
  have W := wfR_whole hr.1 hr.2.1
  have h8 := hr.2.2
  have hl2 := W.len.2
  have hl1 := W.len.1
  unfold firO
  rw [if_neg h0]
  by_cases he : early (fstop tb old s 90) many = true
  · rw [if_pos he]
    cases ef : fstop tb old s 90 with
    | none => rw [ef] at he; cases he
    | some f0 =>
      rw [ef] at he
      have hlt : f0 < many := by simpa [early] using he
      obtain ⟨g1, g2, g3, g4⟩ := fs_some ef
      refine .inr ⟨f0, rfl, g1, by omega, fun n n1 n2 z => ?_, .inl ⟨(stA_low g1 hlt).mpr g3, fun z => ?_, fun _ => hlt⟩⟩
      · have := (stA_low n1 (by omega)).mp z
        rw [g4 n n1 n2] at this
        cases this
      · rw [he] at z; exact absurd z.2 (by simp)
  · rw [if_neg he]
    have he2 : early (fstop tb old s 90) many = false := by simpa using he
    have low : ∀ n, 1 ≤ n → n < many → ¬ stA tb old s many n := fun n n1 n2 z => by
      have z := (stA_low n1 n2).mp z
      cases ef : fstop tb old s 90 with
      | none =>
        rw [fs_none ef n n1 (by omega)] at z
        cases z
      | some f0 =>
        rw [ef] at he2
        have hge : ¬ f0 < many := by simpa [early] using he2
        rw [(fs_some ef).2.2.2 n n1 (by omega)] at z
        cases z
    cases closed with
    | false =>
      rw [if_pos rfl]
      exact .inr ⟨many - 1, rfl, by omega, by omega, fun n n1 n2 => low n n1 (by omega), .inr ⟨rfl, he2, rfl, low _ (by omega) (by omega)⟩⟩
    | true =>
      rw [if_neg (by simp)]
      cases ha : (wfR tb s).2 with
      | none =>
        have W2 := W
        rw [ha] at W2
        refine .inr ⟨_, rfl, hl1, by omega, fun n n1 n2 z => ?_, .inl ⟨.inl (W2.no rfl), fun z => Bool.noConfusion z.1, fun z => Bool.noConfusion z⟩⟩
        rcases Nat.lt_or_ge n many with g | g
        · exact low n n1 g z
        · rcases (stA_high g n1).mp z with z | z
          · rw [W.at_ n n2] at z; cases z
          · have := W.inj n2 (by omega) z
            omega
      | some a =>
        obtain ⟨a1, a2⟩ := W.so a ha
        have hp : 0 < (wfR tb s).1.length - a := by omega
        -- a wish as one of the found ones
        have red : ∀ n, wk tb s n = wk tb s (if n < a then n else a + (n - a) % ((wfR tb s).1.length - a)) := fun n => by
          split
          · rfl
          · have hd := Nat.mod_add_div (n - a) ((wfR tb s).1.length - a)
            have := W.pers ha (a + (n - a) % ((wfR tb s).1.length - a)) (by omega) ((n - a) / ((wfR tb s).1.length - a))
            have e1 : a + (n - a) % ((wfR tb s).1.length - a) + (n - a) / ((wfR tb s).1.length - a) * ((wfR tb s).1.length - a) = n := by
              rw [Nat.mul_comm ((n - a) / _)]; omega
            rw [e1] at this
            exact this
        have idx : ∀ n, (if n < a then n else a + (n - a) % ((wfR tb s).1.length - a)) < (wfR tb s).1.length := fun n => by
          have := Nat.mod_lt (n - a) hp
          split <;> omega
        have inj : ∀ n m, wk tb s n = wk tb s m → (if n < a then n else a + (n - a) % ((wfR tb s).1.length - a)) = (if m < a then m else a + (m - a) % ((wfR tb s).1.length - a)) := fun n m e => W.inj (idx n) (idx m) (by rw [← red n, ← red m]; exact e)
        have far : ∀ n, many ≤ n → n < many + a → ¬ stA tb old s many n := fun n g g2 z => by
          rcases (stA_high g (by omega)).mp z with z | z
          · exact W.some ha n z
          · have := inj _ _ z
            rw [if_pos (show n - many < a by omega)] at this
            split at this <;> omega
        simp only
        by_cases hP : many % ((wfR tb s).1.length - a) = 0
        · rw [if_pos hP]
          refine .inr ⟨_, rfl, by omega, by omega, fun n n1 n2 z => ?_, .inl ⟨(stA_high (by omega) (by omega)).mpr (.inr ?_), fun z => Bool.noConfusion z.1, fun z => Bool.noConfusion z⟩⟩
          · rcases Nat.lt_or_ge n many with g | g
            · exact low n n1 g z
            · exact far n g n2 z
          · have hd := Nat.mod_add_div many ((wfR tb s).1.length - a)
            rw [hP, Nat.zero_add] at hd
            have := W.pers ha a (Nat.le_refl a) (many / ((wfR tb s).1.length - a))
            rw [Nat.mul_comm, hd] at this
            rw [show many + a = a + many by omega, this, show a + many - many = a by omega]
        · rw [if_neg hP]
          refine .inl ⟨rfl, trivial, fun n n1 z => ?_⟩
          rcases Nat.lt_or_ge n many with g | g
          · exact low n n1 g z
          · rcases Nat.lt_or_ge n (many + a) with g2 | g2
            · exact far n g g2 z
            · rcases (stA_high g n1).mp z with z | z
              · exact W.some ha n z
              · have := inj _ _ z
                rw [if_neg (by omega), if_neg (by omega)] at this
                have e5 : (n - a) % ((wfR tb s).1.length - a) = (n - many - a) % ((wfR tb s).1.length - a) := by omega
                have := Nat.sub_mod_eq_zero_of_mod_eq e5
                rw [show n - a - (n - many - a) = many by omega] at this
                exact hP this
end
/-! #### stages -/
def stN (tb : List (Option Nat)) (old : List Nat) (s many d : Nat) : List Nat := (List.range many).map fun f => (vaO tb old s many f d).getD 0
section
variable {tb : List (Option Nat)} {old : List Nat} {s many : Nat}
theorem stN_len (d : Nat) : (stN tb old s many d).length = many := by simp [stN]
theorem stN_get {d f : Nat} (h : f < many) : (stN tb old s many d).getD f 0 = (vaO tb old s many f d).getD 0 := by simp [stN, h]
theorem vaO_stay {f d : Nat} (hm : 1 ≤ many) (hf : f < many) (hne : f ≠ (d + 1) % many) : vaO tb old s many f (d + 1) = vaO tb old s many f d := by
  unfold vaO
  by_cases h : d + 1 < f
  · rw [if_pos h, if_pos (by omega)]
  · have hf2 : f ≠ d + 1 := fun z => hne (by rw [← z, Nat.mod_eq_of_lt hf])
    rw [if_neg h, if_neg (by omega)]
    have e : (d + 1 - f) / many = (d - f) / many := by
      have hd := Nat.mod_add_div (d - f) many
      have hml := Nat.mod_lt (d - f) hm
      by_cases hz : (d - f) % many + 1 < many
      · have : d + 1 - f = ((d - f) % many + 1) + many * ((d - f) / many) := by omega
        rw [this, Nat.add_mul_div_left _ _ hm, Nat.div_eq_of_lt hz]; omega
      · exfalso
        have e0 : many * ((d - f) / many + 1) = many * ((d - f) / many) + many := Nat.mul_succ _ _
        have : d + 1 = f + many * ((d - f) / many + 1) := by omega
        refine hne ?_
        rw [this, Nat.add_mul_mod_self_left, Nat.mod_eq_of_lt hf]
    rw [e]
theorem stN_next {d b : Nat} (hm : 1 ≤ many) (hb : wk tb s (d + 1) = some b) : stN tb old s many (d + 1) = (stN tb old s many d).set ((d + 1) % many) b := by
  have hml := Nat.mod_lt (d + 1) hm
  refine List.ext_getElem (by simp [stN]) fun f h1 h2 => ?_
  have hf : f < many := by simpa [stN] using h1
  have g1 : ∀ (l : List Nat) (h : f < l.length), l[f] = l.getD f 0 := fun l h => by simp [h]
  rw [g1 _ h1, g1 _ h2, stN_get hf, List.getD_eq_getElem?_getD, List.getElem?_set]
  by_cases e : (d + 1) % many = f
  · rw [if_pos e, if_pos (by rw [stN_len]; omega), ← e, (va_was hm).2, hb]
  · rw [if_neg e, ← List.getD_eq_getElem?_getD, stN_get hf, vaO_stay hm hf (Ne.symm e)]
/-- how often a value is there -/
theorem stN_cnt (ho : oldOk old) (hm : 1 ≤ many) (v : Nat) : ∀ d : Nat, (∀ n, n ≤ d → wk tb s n ≠ none) → (stN tb old s many d).countP (fun x => decide (x = v)) = shN tb old s many d v
  | 0, live => by
    obtain ⟨m', rfl⟩ : ∃ m', many = m' + 1 := ⟨many - 1, by omega⟩
    have e1 : stN tb old s (m' + 1) 0 = (List.range (m' + 1)).map fun f => if f = 0 then s else old.getD (f % old.length) 0 := by
      refine List.map_congr_left fun f _ => ?_
      unfold vaO
      by_cases h : f = 0
      · subst h; simp [wk]
      · rw [if_pos (by omega), if_neg h]; rfl
    rw [e1]
    unfold shN
    rw [show 0 + 1 - (m' + 1) = 0 by omega, show min (0 + 1) (m' + 1) = 1 by omega]
    have e2 : cntP (wsP tb s v) 0 (0 + 1) = if decide (s = v) = true then 1 else 0 := by
      rw [cntP_up _ (Nat.le_refl 0), cntP_same]
      unfold wsP
      simp [wk]
    have gen : ∀ m', ((List.range (m' + 1)).map fun f => if f = 0 then s else old.getD (f % old.length) 0).countP (fun x => decide (x = v)) = (if decide (s = v) = true then 1 else 0) + cntP (odP old v) 1 (m' + 1) := by
      intro m'
      induction m' with
      | zero => rw [cntP_same]; simp [List.range_succ, List.countP_cons]
      | succ m' ih =>
        rw [List.range_succ, List.map_append, List.countP_append, ih, cntP_up _ (show 1 ≤ m' + 1 by omega), Nat.add_assoc]
        congr 2
        simp only [List.map_cons, List.map_nil, List.countP_cons, List.countP_nil, Nat.zero_add, if_neg (show ¬ m' + 1 = 0 by omega)]
        rfl
    rw [e2, gen]
  | d + 1, live => by
    have ih := stN_cnt ho hm v d fun n hn => live n (by omega)
    cases hb : wk tb s (d + 1) with
    | none => exact absurd hb (live _ (Nat.le_refl _))
    | some b =>
      have hml := Nat.mod_lt (d + 1) hm
      have hwas : ∃ a, wasN tb old s many d = some a := by
        unfold wasN
        split
        · exact ⟨_, rfl⟩
        · cases e : wk tb s (d + 1 - many) with
          | none => exact absurd e (live _ (by omega))
          | some a => exact ⟨a, rfl⟩
      obtain ⟨a, ha⟩ := hwas
      have st := sh_step (tb := tb) (old := old) (s := s) (many := many) (done := d) hm ha hb v
      rw [stN_next hm hb, List.countP_set (by rw [stN_len]; exact hml), ih]
      have e1 : (stN tb old s many d)[(d + 1) % many]'(by rw [stN_len]; exact hml) = a := by
        have g1 : ∀ (l : List Nat) (i : Nat) (h : i < l.length), l[i] = l.getD i 0 := fun l i h => by simp [h]
        rw [g1, stN_get hml, (va_was hm).1, ha]
        rfl
      rw [e1]
      have pos : (if decide (a = v) = true then 1 else 0 : Nat) ≤ shN tb old s many d v := by
        by_cases h : a = v
        · subst h
          rw [if_pos (by simp), ← ih]
          have : a ∈ stN tb old s many d := by rw [← e1]; exact List.getElem_mem _
          exact List.countP_pos_iff.mpr ⟨a, this, by simp⟩
        · rw [if_neg (by simp [h])]; exact Nat.zero_le _
      have e3 : (if decide (a = v) = true then 1 else 0 : Nat) = if v = a then 1 else 0 := by
        by_cases h : v = a
        · simp [h]
        · rw [if_neg (by simp; exact fun z => h z.symm), if_neg h]
      have e4 : (if decide (b = v) = true then 1 else 0 : Nat) = if v = b then 1 else 0 := by
        by_cases h : v = b
        · simp [h]
        · rw [if_neg (by simp; exact fun z => h z.symm), if_neg h]
      rw [e3] at pos ⊢
      rw [e4]
      split at st <;> split at st <;> simp_all <;> omega
end
end Ef

end

section
set_option autoImplicit false
namespace Ef
open PySem L2 PySem.Spec PyProof.Rows
-- _law_run ['_law_table', '_law_old', '_law_start', '_law_many', '_law_looped', '_law_most', '_law_fields', '_law_stages', '_law_at', '_law_done', '_law_k', '_law_wanted']
def ir__law_run_e1 : Ex := (.idx (.var 1) (.bin .Mod (.blt .int (.cons (.var 10) .nil)) (.blt .len (.cons (.var 1) .nil))))
def ir__law_run_c1 : Ex := (.and (.not (.var 9)) (.cmp .LtE (.blt .len (.cons (.bor 7) .nil)) (.var 5)))
def ir__law_run_t1 : Sxs := (.cons (.app 7 (.var 6)) .nil)
def ir__law_run_t2 : Sxs := (.cons (.par [11, 8] [false, false] (.cons (.idx (.var 0) (.idx (.var 6) (.var 8))) (.cons (.bin .Mod (.blt .int (.cons (.bin .Add (.var 8) (.cst (.int 1))) .nil)) (.var 3)) .nil))) (.cons (.set (.nm 9) (.or (.cmp .Is (.var 11) (.cst .none)) (.cmp .Eq (.var 11) (.idx (.var 6) (.var 8))))) (.cons (.ife (.not (.var 9)) (.cons (.set (.nm 6) (.bin .Add (.bin .Add (.slc (.var 6) .no (.so (.var 8))) (.lst (.cons (.var 11) .nil))) (.slc (.var 6) (.so (.bin .Add (.var 8) (.cst (.int 1)))) .no))) .nil) .nil) ir__law_run_t1)))
def ir__law_run_b1 : Sxs := (.cons (.ife (.and (.cmp .Eq (.var 8) (.bin .Sub (.var 3) (.cst (.int 1)))) (.not (.var 4))) (.frz 7 (.cons (.ret (.tup (.cons (.var 7) (.cons (.cst (.bool true)) .nil)))) .nil)) .nil) ir__law_run_t2)
def ir__law_run_t3 : Sxs := (.frz 7 (.cons (.ret (.tup (.cons (.var 7) (.cons (.var 9) .nil)))) .nil))
def ir__law_run : Sxs := (.cons (.set (.nm 6) (.lc ir__law_run_e1 (.nm 10) (.rg (.var 3)) .no [10])) (.cons (.par [8, 9] [false, false] (.cons (.cst (.int 0)) (.cons (.cmp .Eq (.idx (.var 6) (.cst (.int 0))) (.var 2)) .nil))) (.cons (.set (.nm 6) (.bin .Add (.lst (.cons (.var 2) .nil)) (.slc (.var 6) (.so (.cst (.int 1))) .no))) (.cons (.own 7 (.lst (.cons (.var 6) .nil))) (.cons (.whl ir__law_run_c1 ir__law_run_b1) ir__law_run_t3)))))
-- law ['_law_script', '_law_box', '_law_turn', '_law_told', '_law_trial', '_law_table', '_law_old', '_law_start', '_law_many', '_law_looped', '_law_stages', '_law_done', '_law_fields', '_law_due', '_law_plain', '_law_times', '_law_field', '_law_value']
def ir_law_e1 : Ex := (.cou (.var 12) (.var 17))
def ir_law_t1 : Sxs := (.cons (.own 14 (.lst (.cons (.calk "value_after" "closed" (.cons (.var 5) (.cons (.var 6) (.cons (.var 7) (.cons (.var 8) (.cons (.var 16) (.cons (.var 15) .nil)))))) .no) .nil))) (.cons (.app 14 (.calk "shares_after" "closed" (.cons (.var 5) (.cons (.var 6) (.cons (.var 7) (.cons (.var 8) (.cons (.var 15) .nil))))) .no)) (.cons (.ife (.and (.var 9) (.cmp .NotEq (.blt .repr (.cons (.bor 14) .nil)) (.blt .repr (.cons (.lst (.cons (.idx (.var 12) (.var 16)) (.cons (.var 13) .nil))) .nil)))) (.cons (.ret (.cst (.bool false))) .nil) .nil) .nil)))
def ir_law_t2 : Sxs := (.cons (.set (.nm 13) (.blt .tuple (.cons (.lc ir_law_e1 (.nm 17) (.rg (.blt .len (.cons (.var 5) .nil))) .no [17]) .nil))) (.cons (.ife (.cmp .NotEq (.blt .repr (.cons (.calk "shares_after" "closed" (.cons (.var 5) (.cons (.var 6) (.cons (.var 7) (.cons (.var 8) (.cons (.var 15) .nil))))) (.so (.var 9))) .nil)) (.blt .repr (.cons (.var 13) .nil))) (.cons (.ret (.cst (.bool false))) .nil) .nil) ir_law_t1))
def ir_law_b1 : Sxs := (.cons (.par [15, 16] [false, false] (.cons (.call "_law_one" (.cons (.var 1) (.cons (.lst (.cons (.call "_law_draw" (.cons (.var 1) (.cons (.cst (.int 91)) .nil))) (.cons (.bin .Sub (.blt .len (.cons (.var 10) .nil)) (.cst (.int 1))) (.cons (.cst (.int 0)) (.cons (.cst (.int 90)) .nil))))) .nil))) (.cons (.call "_law_draw" (.cons (.var 1) (.cons (.var 8) .nil))) .nil))) (.cons (.set (.nm 12) (.idx (.var 10) (.blt .min (.cons (.var 15) (.cons (.bin .Sub (.blt .len (.cons (.var 10) .nil)) (.cst (.int 1))) .nil))))) (.cons (.ife (.cmp .NotEq (.blt .repr (.cons (.calk "value_after" "closed" (.cons (.var 5) (.cons (.var 6) (.cons (.var 7) (.cons (.var 8) (.cons (.var 16) (.cons (.var 15) .nil)))))) (.so (.var 9))) .nil)) (.blt .repr (.cons (.idx (.var 12) (.var 16)) .nil))) (.cons (.ret (.cst (.bool false))) .nil) .nil) ir_law_t2)))
def ir_law_t3 : Sxs := (.cons (.for_ (.nm 4) (.rg (.cst (.int 6))) ir_law_b1) .nil)
def ir_law_t4 : Sxs := (.cons (.ife (.and (.var 9) (.cmp .NotEq (.blt .repr (.cons (.calk "firings" "closed" (.cons (.var 5) (.cons (.var 6) (.cons (.var 7) (.cons (.var 8) .nil)))) .no) .nil)) (.blt .repr (.cons (.var 3) .nil)))) (.cons (.ret (.cst (.bool false))) .nil) .nil) ir_law_t3)
def ir_law_b2 : Sxs := (.cons (.set (.tp [5, 6, 7]) (.call "_law_ring" (.cons (.var 1) .nil))) (.cons (.par [8, 9] [false, false] (.cons (.bin .Add (.cst (.int 2)) (.call "_law_draw" (.cons (.var 1) (.cons (.idx (.lst (.cons (.cst (.int 25)) (.cons (.cst (.int 5)) .nil))) (.bin .Mod (.var 2) (.cst (.int 2)))) .nil)))) (.cons (.cmp .Gt (.call "_law_draw" (.cons (.var 1) (.cons (.cst (.int 3)) .nil))) (.cst (.int 0))) .nil))) (.cons (.set (.tp [10, 11]) (.call "_law_run" (.cons (.var 5) (.cons (.var 6) (.cons (.var 7) (.cons (.var 8) (.cons (.var 9) (.cons (.cst (.int 90)) .nil)))))))) (.cons (.set (.nm 3) (.calk "firings" "closed" (.cons (.var 5) (.cons (.var 6) (.cons (.var 7) (.cons (.var 8) .nil)))) (.so (.var 9)))) (.cons (.ife (.cmp .NotEq (.blt .repr (.cons (.var 3) .nil)) (.blt .repr (.cons (.ite (.var 11) (.bin .Sub (.blt .len (.cons (.var 10) .nil)) (.cst (.int 1))) (.cst .none)) .nil))) (.cons (.ret (.cst (.bool false))) .nil) .nil) ir_law_t4)))))
def ir_law_t5 : Sxs := (.cons (.ret (.cst (.bool true))) .nil)
def ir_law : Sxs := (.cons (.set (.nm 1) (.call "_law_opened" (.cons (.var 0) .nil))) (.cons (.for_ (.nm 2) (.rg (.cst (.int 8))) ir_law_b2) ir_law_t5))
def ir_law_b1_c2 : Sxs := (.cons (.ife (.cmp .NotEq (.blt .repr (.cons (.calk "value_after" "closed" (.cons (.var 5) (.cons (.var 6) (.cons (.var 7) (.cons (.var 8) (.cons (.var 16) (.cons (.var 15) .nil)))))) (.so (.var 9))) .nil)) (.blt .repr (.cons (.idx (.var 12) (.var 16)) .nil))) (.cons (.ret (.cst (.bool false))) .nil) .nil) ir_law_t2)
def ir_law_b1_c1 : Sxs := (.cons (.set (.nm 12) (.idx (.var 10) (.blt .min (.cons (.var 15) (.cons (.bin .Sub (.blt .len (.cons (.var 10) .nil)) (.cst (.int 1))) .nil))))) ir_law_b1_c2)
theorem ir_law_b1_eq : ir_law_b1 = (.cons (.par [15, 16] [false, false] (.cons (.call "_law_one" (.cons (.var 1) (.cons (.lst (.cons (.call "_law_draw" (.cons (.var 1) (.cons (.cst (.int 91)) .nil))) (.cons (.bin .Sub (.blt .len (.cons (.var 10) .nil)) (.cst (.int 1))) (.cons (.cst (.int 0)) (.cons (.cst (.int 90)) .nil))))) .nil))) (.cons (.call "_law_draw" (.cons (.var 1) (.cons (.var 8) .nil))) .nil))) ir_law_b1_c1) := rfl
def ir_law_t1_c2 : Sxs := (.cons (.ife (.and (.var 9) (.cmp .NotEq (.blt .repr (.cons (.bor 14) .nil)) (.blt .repr (.cons (.lst (.cons (.idx (.var 12) (.var 16)) (.cons (.var 13) .nil))) .nil)))) (.cons (.ret (.cst (.bool false))) .nil) .nil) .nil)
def ir_law_t1_c1 : Sxs := (.cons (.app 14 (.calk "shares_after" "closed" (.cons (.var 5) (.cons (.var 6) (.cons (.var 7) (.cons (.var 8) (.cons (.var 15) .nil))))) .no)) ir_law_t1_c2)
theorem ir_law_t1_eq : ir_law_t1 = (.cons (.own 14 (.lst (.cons (.calk "value_after" "closed" (.cons (.var 5) (.cons (.var 6) (.cons (.var 7) (.cons (.var 8) (.cons (.var 16) (.cons (.var 15) .nil)))))) .no) .nil))) ir_law_t1_c1) := rfl
def ir_law_t2_c1 : Sxs := (.cons (.ife (.cmp .NotEq (.blt .repr (.cons (.calk "shares_after" "closed" (.cons (.var 5) (.cons (.var 6) (.cons (.var 7) (.cons (.var 8) (.cons (.var 15) .nil))))) (.so (.var 9))) .nil)) (.blt .repr (.cons (.var 13) .nil))) (.cons (.ret (.cst (.bool false))) .nil) .nil) ir_law_t1)
theorem ir_law_t2_eq : ir_law_t2 = (.cons (.set (.nm 13) (.blt .tuple (.cons (.lc ir_law_e1 (.nm 17) (.rg (.blt .len (.cons (.var 5) .nil))) .no [17]) .nil))) ir_law_t2_c1) := rfl
def ir_law_b2_c4 : Sxs := (.cons (.ife (.cmp .NotEq (.blt .repr (.cons (.var 3) .nil)) (.blt .repr (.cons (.ite (.var 11) (.bin .Sub (.blt .len (.cons (.var 10) .nil)) (.cst (.int 1))) (.cst .none)) .nil))) (.cons (.ret (.cst (.bool false))) .nil) .nil) ir_law_t4)
def ir_law_b2_c3 : Sxs := (.cons (.set (.nm 3) (.calk "firings" "closed" (.cons (.var 5) (.cons (.var 6) (.cons (.var 7) (.cons (.var 8) .nil)))) (.so (.var 9)))) ir_law_b2_c4)
def ir_law_b2_c2 : Sxs := (.cons (.set (.tp [10, 11]) (.call "_law_run" (.cons (.var 5) (.cons (.var 6) (.cons (.var 7) (.cons (.var 8) (.cons (.var 9) (.cons (.cst (.int 90)) .nil)))))))) ir_law_b2_c3)
def ir_law_b2_c1 : Sxs := (.cons (.par [8, 9] [false, false] (.cons (.bin .Add (.cst (.int 2)) (.call "_law_draw" (.cons (.var 1) (.cons (.idx (.lst (.cons (.cst (.int 25)) (.cons (.cst (.int 5)) .nil))) (.bin .Mod (.var 2) (.cst (.int 2)))) .nil)))) (.cons (.cmp .Gt (.call "_law_draw" (.cons (.var 1) (.cons (.cst (.int 3)) .nil))) (.cst (.int 0))) .nil))) ir_law_b2_c2)
theorem ir_law_b2_eq : ir_law_b2 = (.cons (.set (.tp [5, 6, 7]) (.call "_law_ring" (.cons (.var 1) .nil))) ir_law_b2_c1) := rfl
def ir_lawR : Sxs := (.cons (.for_ (.nm 2) (.rg (.cst (.int 8))) ir_law_b2) ir_law_t5)
theorem cutT (xs : List PyData) (t : Nat) : cutD xs none (some (t : Int)) = xs.take t := by
  unfold cutD
  rw [HT.sIx_none, HT.sIx_nat]
  simp only [List.drop_zero, Nat.sub_zero]
  by_cases h : t ≤ xs.length
  · rw [Nat.min_eq_left h]
  · rw [Nat.min_eq_right (by omega), List.take_of_length_le (by simp), List.take_of_length_le (by omega)]
theorem cutR (xs : List PyData) (t : Nat) : cutD xs (some (t : Int)) none = xs.drop t := by
  unfold cutD
  rw [HT.sIx_none, HT.sIx_nat]
  by_cases h : t ≤ xs.length
  · rw [Nat.min_eq_left h, List.take_of_length_le (by simp)]
  · rw [Nat.min_eq_right (by omega), List.drop_of_length_le (by omega), List.drop_of_length_le (by omega)]
    simp
abbrev RiA := List (Option Nat) × List Nat × Nat
abbrev RuA := RiA × Nat × Bool
def nR (tb : List (Option Nat)) (old : List Nat) (s many : Nat) (closed : Bool) : Nat := match firO tb old s many closed with
  | some t => t + 1
  | none => 91
def sgD (tb : List (Option Nat)) (old : List Nat) (s many d : Nat) : PyData := .list ((stN tb old s many d).map (fun n : Nat => PyData.int (n : Int)))
def sgL (tb : List (Option Nat)) (old : List Nat) (s many : Nat) (closed : Bool) : List PyData := (List.range (nR tb old s many closed)).map fun i => sgD tb old s many (chg tb old s many i closed)
def c_run67 : Con := ⟨RuA, fun ((tb, old, s), many, closed) as => as = [.dat (tT tb), .dat (tN old), .dat (.int (s : Int)), .dat (.int (many : Nat)), .dat (.bool closed), .dat (.int 90)] ∧ ringOk tb s ∧ oldOk old ∧ (2 ≤ many ∧ many ≤ 26), fun ((tb, old, s), many, closed) r => r = .tuple [.list (sgL tb old s many closed), .bool (firO tb old s many closed).isSome]⟩
section
variable {tb : List (Option Nat)} {old : List Nat} {s many : Nat} {closed : Bool}
theorem va_at (hm : 1 ≤ many) (d : Nat) : vaO tb old s many (d % many) d = wk tb s d := by
  cases d with
  | zero => unfold vaO; simp
  | succ d => exact (va_was hm).2
theorem live_of {n : Nat} (h : ∀ j, 1 ≤ j → j < n → ¬ stA tb old s many j) : ∀ j, j < n → wk tb s j ≠ none := fun j hj e => by
  by_cases h1 : 1 ≤ j
  · exact h j h1 hj (.inl e)
  · have : j = 0 := by omega
    subst this
    cases e
/-- all stages, when a firing changes nothing -/
theorem fin_stop (hr : ringOk tb s) (ho : oldOk old) (hm : 2 ≤ many ∧ many ≤ 26) (h0 : ¬ old.headD 0 = s) {n : Nat} (h1 : 1 ≤ n) (hn : ∀ j, 1 ≤ j → j < n → ¬ stA tb old s many j) (hs : stA tb old s many n) (hc : closed = false → n < many) :
    firO tb old s many closed = some n ∧ sgL tb old s many closed = ((List.range n).map fun i => sgD tb old s many i) ++ [sgD tb old s many (n - 1)] := by
  rcases fir_spec (closed := closed) hr ho hm h0 with ⟨_, _, h⟩ | ⟨t, e, t1, t40, lt, h⟩
  · exact absurd hs (h n h1)
  · have et : t = n := by
      rcases h with ⟨h, _⟩ | ⟨e1, _, e3, h⟩
      · rcases Nat.lt_trichotomy t n with z | z | z
        · exact absurd h (hn t t1 z)
        · exact z
        · exact absurd hs (lt n h1 z)
      · have := hc e1
        rcases Nat.lt_or_ge n t with z | z
        · exact absurd hs (lt n h1 z)
        · have : n = t := by omega
          subst this
          exact absurd hs h
    subst et
    refine ⟨e, ?_⟩
    have e2 : nR tb old s many closed = t + 1 := by unfold nR; rw [e]
    unfold sgL
    rw [e2, List.range_succ, List.map_append]
    congr 1
    · refine List.map_congr_left fun i hi => ?_
      have := List.mem_range.mp hi
      have : chg tb old s many i closed = i := by
        unfold chg
        rw [e]
        simp only [chgT]
        rw [if_pos this]
      rw [this]
    · have : chg tb old s many t closed = t - 1 := by
        unfold chg
        rw [e]
        simp only [chgT]
        rw [if_neg (by omega)]
        rcases h with ⟨_, h, _⟩ | ⟨_, _, _, h⟩
        · rw [if_neg (fun z => z.elim (fun z => by omega) h)]
        · exact absurd hs h
      simp only [List.map_cons, List.map_nil, this]
theorem fin_chain (hr : ringOk tb s) (ho : oldOk old) (hm : 2 ≤ many ∧ many ≤ 26) (h0 : ¬ old.headD 0 = s) (hn : ∀ j, 1 ≤ j → j < many → ¬ stA tb old s many j) :
    firO tb old s many false = some (many - 1) ∧ sgL tb old s many false = (List.range many).map fun i => sgD tb old s many i := by
  rcases fir_spec (closed := false) hr ho hm h0 with ⟨_, h, _⟩ | ⟨t, e, t1, t40, lt, h⟩
  · cases h
  · rcases h with ⟨h, _, h3⟩ | ⟨_, h2, rfl, h⟩
    · exact absurd h (hn t t1 (h3 rfl))
    · refine ⟨e, ?_⟩
      have e2 : nR tb old s many false = many := by unfold nR; rw [e]; simp only; omega
      unfold sgL
      rw [e2]
      refine List.map_congr_left fun i hi => ?_
      have := List.mem_range.mp hi
      have : chg tb old s many i false = i := by
        unfold chg
        rw [e, h2]
        simp only [chgT]
        by_cases z : i < many - 1
        · rw [if_pos z]
        · rw [if_neg z, if_pos (by simp)]; omega
      rw [this]
theorem fin_never (hr : ringOk tb s) (ho : oldOk old) (hm : 2 ≤ many ∧ many ≤ 26) (h0 : ¬ old.headD 0 = s) (hn : ∀ j, 1 ≤ j → j < 91 → ¬ stA tb old s many j) (hc : closed = true) :
    firO tb old s many closed = none ∧ sgL tb old s many closed = (List.range 91).map fun i => sgD tb old s many i := by
  subst hc
  rcases fir_spec (closed := true) hr ho hm h0 with ⟨e, _, _⟩ | ⟨t, e, t1, t40, lt, h⟩
  · refine ⟨e, ?_⟩
    have e2 : nR tb old s many true = 91 := by unfold nR; rw [e]
    unfold sgL
    rw [e2]
    refine List.map_congr_left fun i hi => ?_
    have : chg tb old s many i true = i := by
      unfold chg
      rw [e]
      rfl
    rw [this]
  · rcases h with ⟨h, _⟩ | ⟨h, _⟩
    · exact absurd h (hn t t1 (by omega))
    · cases h
theorem fin_zero (h0 : old.headD 0 = s) : firO tb old s many closed = some 0 ∧ sgL tb old s many closed = [sgD tb old s many 0] := by
  have e : firO tb old s many closed = some 0 := by unfold firO; rw [if_pos h0]
  refine ⟨e, ?_⟩
  have e2 : nR tb old s many closed = 1 := by unfold nR; rw [e]
  unfold sgL
  rw [e2]
  have : chg tb old s many 0 closed = 0 := by
    unfold chg
    rw [e]
    simp [chgT]
  simp [List.range_succ, this]
end
def iv67 (tb : List (Option Nat)) (old : List Nat) (s many : Nat) (closed : Bool) (m : Nat) (r : Rho) : Prop := (∃ (n : Nat) (x10 x11 : Sl), 1 ≤ n ∧ n ≤ 91 ∧ m = 93 - n ∧ (closed = false → n ≤ many) ∧ ¬ old.headD 0 = s ∧ (∀ j, 1 ≤ j → j < n → ¬ stA tb old s many j) ∧ r = [.dat (tT tb), .dat (tN old), .dat (.int (s : Int)), .dat (.int (many : Nat)), .dat (.bool closed), .dat (.int 90), .dat (.list ((stN tb old s many (n - 1)).map (fun n : Nat => PyData.int (n : Int)))), .own ((List.range n).map fun i => sgD tb old s many i), .dat (.int (((n - 1) % many : Nat) : Int)), .dat (.bool false), x10, x11]) ∨
  (∃ x6 x8 x10 x11 : Sl, m = 0 ∧ (firO tb old s many closed).isSome = true ∧ r = [.dat (tT tb), .dat (tN old), .dat (.int (s : Int)), .dat (.int (many : Nat)), .dat (.bool closed), .dat (.int 90), x6, .own (sgL tb old s many closed), x8, .dat (.bool true), x10, x11])
theorem run67 {G : Gm} {K : Kn} {tb : List (Option Nat)} {old : List Nat} {s many n : Nat} {closed : Bool} {x10 x11 : Sl} (hr : ringOk tb s) (ho : oldOk old) (hm : 2 ≤ many ∧ many ≤ 26) (h0 : ¬ old.headD 0 = s) (n1 : 1 ≤ n) (h90 : n ≤ 90) (hn : ∀ j, 1 ≤ j → j < n → ¬ stA tb old s many j) (hc : closed = false → n < many) (hK : ∀ m' r', m' < 93 - n → iv67 tb old s many closed m' r' → K.nx r') :
    wpSs G ir__law_run_t2 [.dat (tT tb), .dat (tN old), .dat (.int (s : Int)), .dat (.int (many : Nat)), .dat (.bool closed), .dat (.int 90), .dat (.list ((stN tb old s many (n - 1)).map (fun n : Nat => PyData.int (n : Int)))), .own ((List.range n).map fun i => sgD tb old s many i), .dat (.int (((n - 1) % many : Nat) : Int)), .dat (.bool false), x10, x11] K := by
  have hm1 : 1 ≤ many := by omega
  have hsl := sizeLine_eq
  have hmod : (n - 1) % many < many := Nat.mod_lt _ hm1
  have hmod2 : n % many < many := Nat.mod_lt _ hm1
  have live := live_of hn
  obtain ⟨u, hu⟩ : ∃ u, wk tb s (n - 1) = some u := by
    cases e : wk tb s (n - 1) with
    | none => exact absurd e (live _ (by omega))
    | some u => exact ⟨u, rfl⟩
  have hut := wk_lt hr _ _ hu
  have g1 : (stN tb old s many (n - 1)).getD ((n - 1) % many) 0 = u := by rw [stN_get hmod, va_at hm1, hu]; rfl
  have hwn : nxt tb u = wk tb s n := by
    obtain ⟨k, rfl⟩ : ∃ k, n = k + 1 := ⟨n - 1, by omega⟩
    show _ = (wk tb s k).bind _
    rw [show k + 1 - 1 = k from rfl] at hu
    rw [hu]
    rfl
  have e1 : (((n - 1) % many : Nat) : Int) + 1 = (((n - 1) % many + 1 : Nat) : Int) := by omega
  have e2 : (((n - 1) % many + 1 : Nat) : Int) % (many : Int) = ((n % many : Nat) : Int) := by
    rw [← Int.natCast_emod, Nat.mod_add_mod, show n - 1 + 1 = n by omega]
  have ln : (stN tb old s many (n - 1)).length = many := stN_len _
  simp?! only [ir__law_run_t2]
  rw [rw_atn (by rw [ln]; exact hmod), g1, rw_tT_ix hut]
  refine ⟨by omega, ?_⟩
  rw [e1, e2, hwn]
  -- behind: the stage is put to the others
  have stop : ∀ x11 : Sl, stA tb old s many n → K.nx [.dat (tT tb), .dat (tN old), .dat (.int (s : Int)), .dat (.int (many : Nat)), .dat (.bool closed), .dat (.int 90), .dat (.list ((stN tb old s many (n - 1)).map (fun n : Nat => PyData.int (n : Int)))), .own (((List.range n).map fun i => sgD tb old s many i) ++ [.list ((stN tb old s many (n - 1)).map (fun n : Nat => PyData.int (n : Int)))]), .dat (.int ((n % many : Nat) : Int)), .dat (.bool true), x10, x11] := by
    intro x11 hs
    obtain ⟨f1, f2⟩ := fin_stop (closed := closed) hr ho hm h0 n1 hn hs hc
    have f3 : ((List.range n).map fun i => sgD tb old s many i) ++ [.list ((stN tb old s many (n - 1)).map (fun n : Nat => PyData.int (n : Int)))] = sgL tb old s many closed := f2.symm
    rw [f3]
    exact hK 0 _ (by omega) (.inr ⟨_, _, _, _, rfl, by rw [f1]; rfl, rfl⟩)
  cases hw : wk tb s n with
  | none =>
    simp?! only [oNn, ir__law_run_t1]
    refine ⟨by simp; omega, ?_⟩
    exact stop _ (.inl hw)
  | some w =>
    obtain ⟨a, ha⟩ : ∃ a, wasN tb old s many (n - 1) = some a := by
      unfold wasN
      split
      · exact ⟨_, rfl⟩
      · cases e : wk tb s (n - 1 + 1 - many) with
        | none => exact absurd e (live _ (by omega))
        | some a => exact ⟨a, rfl⟩
    have g2 : (stN tb old s many (n - 1)).getD (n % many) 0 = a := by
      rw [stN_get hmod2]
      have := (va_was (tb := tb) (old := old) (s := s) (done := n - 1) hm1).1
      rw [show n - 1 + 1 = n by omega] at this
      rw [this, ha]
      rfl
    simp?! only [oNs]
    rw [rw_atn (by rw [ln]; exact hmod2), g2]
    simp?! only [true_and]
    by_cases hwa : w = a
    · have st : stA tb old s many n := .inr (by rw [hw, ha, hwa])
      simp?! only [decide_eq_true (show (w : Int) = (a : Int) by omega), ir__law_run_t1]
      refine ⟨by simp; omega, ?_⟩
      exact stop _ st
    · have st : ¬ stA tb old s many n := fun z => by
        rcases z with z | z
        · rw [hw] at z; cases z
        · rw [hw, ha] at z; exact hwa (Option.some.inj z)
      have e3 : ((n % many : Nat) : Int) + 1 = ((n % many + 1 : Nat) : Int) := by omega
      simp?! only [decide_eq_false (show ¬ (w : Int) = (a : Int) by omega), ir__law_run_t1, e3, cutT, cutR]
      have e4 : ((stN tb old s many (n - 1)).map (fun n : Nat => PyData.int (n : Int))).take (n % many) ++ [.int (w : Int)] ++ ((stN tb old s many (n - 1)).map (fun n : Nat => PyData.int (n : Int))).drop (n % many + 1) = (stN tb old s many n).map (fun n : Nat => PyData.int (n : Int)) := by
        have hx := stN_next (tb := tb) (old := old) (s := s) (d := n - 1) hm1 (by rw [show n - 1 + 1 = n by omega]; exact hw)
        rw [show n - 1 + 1 = n by omega] at hx
        rw [hx, List.map_set, List.set_eq_take_append_cons_drop, if_pos (by simp [ln]; exact hmod2)]
        simp
      refine ⟨by simp; omega, by simp; omega, ?_⟩
      rw [e4]
      refine ⟨by simp; omega, ?_⟩
      have e6 : ((List.range n).map fun i => sgD tb old s many i) ++ [.list ((stN tb old s many n).map (fun n : Nat => PyData.int (n : Int)))] = (List.range (n + 1)).map fun i => sgD tb old s many i := by
        rw [List.range_succ, List.map_append]
        rfl
      rw [e6]
      refine hK (93 - (n + 1)) _ (by omega) (.inl ⟨n + 1, _, _, by omega, by omega, rfl, fun h => by have := hc h; omega, h0, fun j j1 j2 => ?_, rfl⟩)
      by_cases ej : j = n
      · rw [ej]; exact st
      · exact hn j j1 (by omega)
theorem wp_run67 {G : Gm} : ∀ a as, c_run67.pre a as → wpSs G ir__law_run (rho0 ["_law_table", "_law_old", "_law_start", "_law_many", "_law_looped", "_law_most", "_law_fields", "_law_stages", "_law_at", "_law_done", "_law_k", "_law_wanted"] as) (kDef (c_run67.post a)) := by
  rintro ⟨⟨tb, old, s⟩, many, closed⟩ as ⟨rfl, hr, ho, hm⟩
  have hm1 : 1 ≤ many := by omega
  have h8 := hr.2.2
  have hsl := sizeLine_eq
  show wpSs G ir__law_run [.dat (tT tb), .dat (tN old), .dat (.int (s : Int)), .dat (.int (many : Nat)), .dat (.bool closed), .dat (.int 90), .un, .un, .un, .un, .un, .un] _
  simp?! only [ir__law_run]
  refine ⟨by omega, by omega, ?_⟩
  refine comp_m (G := G) (fun n : Nat => PyData.int (n : Int)) (fun k : Nat => .int ((old.getD (k % old.length) 0 : Nat) : Int)) (fun k hk R hR => ?_) (by simp; omega) ?_
  · simp?! only [ir__law_run_e1, rw_tN_len, rw_tN_ix]
    have e2 : (k : Int) % ((old.length : Nat) : Int) = ((k % old.length : Nat) : Int) := by rw [Int.natCast_emod]
    refine ⟨by have := ho.1; omega, ?_⟩
    rw [e2, rw_atn (Nat.mod_lt _ ho.1)]
    exact hR
  obtain ⟨m', rfl⟩ : ∃ m', many = m' + 1 := ⟨many - 1, by omega⟩
  have e0 : [] ++ (List.range (m' + 1)).map (fun k : Nat => PyData.int ((old.getD (k % old.length) 0 : Nat) : Int)) = .int ((old.headD 0 : Nat) : Int) :: (List.range m').map (fun k : Nat => PyData.int ((old.getD ((k + 1) % old.length) 0 : Nat) : Int)) := by
    rw [List.nil_append, List.range_succ_eq_map, List.map_cons, List.map_map]
    have : old.getD (0 % old.length) 0 = old.headD 0 := by
      rw [Nat.zero_mod]
      cases old <;> rfl
    rw [this]
    rfl
  rw [e0]
  have at0 : ∀ (x : PyData) (l : List PyData), atI (x :: l) 0 = some x := fun x l => by unfold atI ixN; simp
  simp?! only [at0, rw_exo]
  have e1 : cutD (.int ((old.headD 0 : Nat) : Int) :: (List.range m').map (fun k : Nat => PyData.int ((old.getD ((k + 1) % old.length) 0 : Nat) : Int))) (some 1) none = (List.range m').map (fun k : Nat => PyData.int ((old.getD ((k + 1) % old.length) 0 : Nat) : Int)) := cutR _ 1
  rw [e1]
  have e2 : [PyData.int (s : Int)] ++ (List.range m').map (fun k : Nat => PyData.int ((old.getD ((k + 1) % old.length) 0 : Nat) : Int)) = (stN tb old s (m' + 1) 0).map (fun n : Nat => PyData.int (n : Int)) := by
    unfold stN
    rw [List.range_succ_eq_map, List.map_cons, List.map_map, List.map_cons, List.map_map]
    have z : (vaO tb old s (m' + 1) 0 0).getD 0 = s := by unfold vaO; simp [wk]
    rw [z]
    show _ :: _ = _ :: _
    congr 1
  rw [e2]
  refine ⟨by simp; omega, ?_⟩
  have stg1 : [PyData.list ((stN tb old s (m' + 1) 0).map (fun n : Nat => PyData.int (n : Int)))] = (List.range 1).map fun i => sgD tb old s (m' + 1) i := by simp [List.range_succ, sgD]
  rw [stg1]
  have fin : ∀ (x6 x8 x10 x11 : Sl) (b : Bool), b = (firO tb old s (m' + 1) closed).isSome → wpSs G ir__law_run_t3 [.dat (tT tb), .dat (tN old), .dat (.int (s : Int)), .dat (.int ((m' + 1 : Nat) : Int)), .dat (.bool closed), .dat (.int 90), x6, .own (sgL tb old s (m' + 1) closed), x8, .dat (.bool b), x10, x11] (kDef (c_run67.post ((tb, old, s), m' + 1, closed))) := by
    intro x6 x8 x10 x11 b hb
    simp?! only [ir__law_run_t3]
    show _ = _
    rw [hb]
  generalize hmm : m' + 1 = many at *
  refine whl_wp (iv67 tb old s many closed) (m := if old.headD 0 = s then 0 else 92) ?_ ?_
  · by_cases h0 : old.headD 0 = s
    · rw [if_pos h0]
      obtain ⟨f1, f2⟩ := fin_zero (tb := tb) (many := many) (closed := closed) h0
      have f3 : ((List.range 1).map fun i => sgD tb old s many i) = sgL tb old s many closed := by rw [f2]; rfl
      rw [f3, decide_eq_true (show ((old.headD 0 : Nat) : Int) = (s : Int) by rw [h0])]
      exact .inr ⟨_, _, _, _, rfl, by rw [f1]; rfl, rfl⟩
    · rw [if_neg h0]
      rw [decide_eq_false (show ¬ ((old.headD 0 : Nat) : Int) = (s : Int) by omega)]
      have e9 : (0 : Int) = (((1 - 1) % many : Nat) : Int) := by rw [Nat.sub_self, Nat.zero_mod]; rfl
      refine .inl ⟨1, .un, .un, Nat.le_refl 1, by omega, rfl, fun _ => hm1, h0, fun j j1 j2 => by omega, ?_⟩
      rw [← e9]
  · rintro m r (⟨n, x10, x11, n1, n91, rfl, hcn, h0, hn, rfl⟩ | ⟨x6, x8, x10, x11, rfl, hs, rfl⟩)
    · simp?! only [ir__law_run_c1, List.length_range]
      by_cases h90 : n ≤ 90
      · rw [if_pos (decide_eq_true (by omega))]
        have hmod : (n - 1) % many < many := Nat.mod_lt _ hm1
        simp?! only [ir__law_run_b1]
        have cond : (decide ((((n - 1) % many : Nat) : Int) = (many : Int) - 1) && !closed) = decide (closed = false ∧ n = many) := by
          cases closed with
          | true => simp
          | false =>
            have := hcn rfl
            rw [Nat.mod_eq_of_lt (by omega)]
            simp
            omega
        by_cases hx : closed = false ∧ n = many
        · obtain ⟨rfl, rfl⟩ := hx
          rw [if_pos (by rw [decide_eq_true (show (((n - 1) % n : Nat) : Int) = (n : Int) - 1 by rw [Nat.mod_eq_of_lt (by omega)]; omega)])]
          obtain ⟨f1, f2⟩ := fin_chain hr ho hm h0 hn
          show _ = _
          rw [← f2, f1]
          rfl
        · have cond : ¬ ((((n - 1) % many : Nat) : Int) = (many : Int) - 1 ∧ closed = false) := fun z => hx ⟨z.2, by
            have := hcn z.2
            have z1 := z.1
            rw [Nat.mod_eq_of_lt (by omega)] at z1
            omega⟩
          have go := run67 (G := G) (K := ⟨fun r' => ∃ m', m' < 93 - n ∧ iv67 tb old s many closed m' r', (kDef (c_run67.post ((tb, old, s), many, closed))).rt, fun ρ' => wpSs G ir__law_run_t3 ρ' (kDef (c_run67.post ((tb, old, s), many, closed))), fun r' => ∃ m', m' < 93 - n ∧ iv67 tb old s many closed m' r'⟩) hr ho hm h0 n1 h90 hn (fun h => by have := hcn h; rcases Nat.lt_or_ge n many with z | z; exact z; exact absurd ⟨h, by omega⟩ hx) (x10 := x10) (x11 := x11) fun m' r' h1 h2 => ⟨m', h1, h2⟩
          by_cases c1 : (((n - 1) % many : Nat) : Int) = (many : Int) - 1
          · rw [if_pos (decide_eq_true c1)]
            cases closed with
            | false => exact absurd ⟨c1, rfl⟩ cond
            | true => simp?! only [true_and]; exact go
          · rw [if_neg (by rw [decide_eq_false c1]; exact Bool.false_ne_true)]
            exact go
      · rw [if_neg (by rw [decide_eq_false (by omega)]; exact Bool.false_ne_true)]
        have e91 : n = 91 := by omega
        subst e91
        have hc : closed = true := by
          cases closed with
          | true => rfl
          | false => have := hcn rfl; omega
        obtain ⟨f1, f2⟩ := fin_never (closed := closed) hr ho hm h0 hn hc
        rw [← f2]
        exact fin _ _ _ _ _ (by rw [f1]; rfl)
    · simp?! only [ir__law_run_c1]
      exact fin _ _ _ _ _ hs.symm
/-! ### the law -/
section
variable {tb : List (Option Nat)} {old : List Nat} {s M T : Nat} {b : Bool}
theorem live_all (hr : ringOk tb s) (hm : farOk M) : ∀ n, n ≤ chg tb old s M T b → ∃ v, wk tb s n = some v ∧ v < tb.length := fun n hn => chg_live hr hm n hn
theorem va_some {done field : Nat} (ho : oldOk old) (hx : ∀ x ∈ old, x < tb.length) (hM : 1 ≤ M) (live : ∀ n, n ≤ done → ∃ v, wk tb s n = some v ∧ v < tb.length) : ∃ v, vaO tb old s M field done = some v ∧ v < tb.length := by
  unfold vaO
  split
  · have hm := Nat.mod_lt field ho.1
    exact ⟨_, rfl, hx _ (by simp [hm])⟩
  · rename_i h
    refine live _ ?_
    have := Nat.div_mul_le_self (done - field) M
    omega
theorem chg_min (hT : T ≤ 90) : chg tb old s M (min T (nR tb old s M b - 1)) b = chg tb old s M T b := by
  unfold nR
  cases e : firO tb old s M b with
  | none => simp only; rw [show min T (91 - 1) = T by omega]
  | some t =>
    simp only [Nat.add_sub_cancel]
    unfold chg
    rw [e]
    simp only [chgT]
    by_cases h : T < t
    · rw [show min T t = T by omega]
    · rw [show min T t = t by omega, if_neg (by omega), if_neg h]
theorem nR_pos : 1 ≤ nR tb old s M b := by
  unfold nR
  split <;> omega
theorem nR_le (hr : ringOk tb s) (ho : oldOk old) (hm : 2 ≤ M ∧ M ≤ 26) : nR tb old s M b ≤ 91 := by
  unfold nR
  by_cases h0 : old.headD 0 = s
  · rw [(fin_zero (tb := tb) (many := M) (closed := b) h0).1]; simp
  · rcases fir_spec (closed := b) hr ho hm h0 with ⟨e, _, _⟩ | ⟨t, e, _, t40, _⟩
    · rw [e]; simp
    · rw [e]; simp only; omega
theorem tx_fir (hr : ringOk tb s) (ho : oldOk old) (hm : 2 ≤ M ∧ M ≤ 26) : Tx (oN (firO tb old s M b)) 61 0 := by
  refine tx_oN fun v e => ?_
  have h := nR_le (b := b) hr ho hm
  unfold nR at h
  rw [e] at h
  simp only at h
  exact Nat.lt_of_lt_of_le (show v < 91 by omega) (by decide)
theorem tx_va {f d : Nat} (hr : ringOk tb s) (hx : ∀ x ∈ old, x < tb.length) : Tx (oN (vaO tb old s M f d)) 61 0 := by
  refine tx_oN fun v e => ?_
  have h8 := hr.2.2
  refine Nat.lt_of_lt_of_le (m := tb.length + 1) ?_ (Nat.le_trans (Nat.succ_le_succ h8) (by decide))
  unfold vaO at e
  split at e
  · cases e
    by_cases hf : f % old.length < old.length
    · have : old.getD (f % old.length) 0 ∈ old := by simp [hf]
      have := hx _ this
      omega
    · rw [List.getD_eq_getElem?_getD, List.getElem?_eq_none (by omega)]; simp
  · have := wk_lt hr _ _ e
    omega
theorem tx_sh {d : Nat} (hr : ringOk tb s) (hM : M ≤ 26) (hd : ∀ v, shN tb old s M d v ≤ 10000) : Tx (shD tb old s M d) 520 1 := by
  have h8 := hr.2.2
  unfold shD
  exact (TxAll.mapN (f := (fun n : Nat => PyData.int (n : Int))) (B := 61) (D := 0) (n := 8) (fun n hn => by
    obtain ⟨v, _, rfl⟩ := List.mem_map.mp hn
    exact Tx.nat (Nat.lt_of_le_of_lt (hd v) (by decide))) (by simp; omega)).tup.le (by decide) (by decide)
theorem sh_le {d : Nat} (hM : 1 ≤ M) (hM2 : M ≤ 26) (v : Nat) : shN tb old s M d v ≤ 10000 := by
  unfold shN
  have h1 := cntP_le (wsP tb s v) (d + 1 - M) (d + 1)
  have h2 := cntP_le (odP old v) (min (d + 1) M) M
  omega
abbrev r67 (tb : List (Option Nat)) (old : List Nat) (s M : Nat) (b : Bool) (x2 x4 x12 x13 x14 x15 x16 x17 : Sl) : Rho := [.un, .box, x2, .dat (oN (firO tb old s M b)), x4, .dat (tT tb), .dat (tN old), .dat (.int (s : Int)), .dat (.int (M : Nat)), .dat (.bool b), .dat (.list (sgL tb old s M b)), .dat (.bool (firO tb old s M b).isSome), x12, x13, x14, x15, x16, x17]
variable {G : Gm} {K : Kn} {x2 x4 x12 x13 x14 x15 x16 x17 : Sl}
theorem va_lt {f d u : Nat} (hr : ringOk tb s) (hx : ∀ x ∈ old, x < tb.length) (hu : vaO tb old s M f d = some u) : u < 10 ^ 60 := by
  have h8 := hr.2.2
  refine Nat.lt_of_lt_of_le (m := tb.length + 1) ?_ (Nat.le_trans (Nat.succ_le_succ h8) (by decide))
  unfold vaO at hu
  split at hu
  · cases hu
    by_cases hf : f % old.length < old.length
    · have : old.getD (f % old.length) 0 ∈ old := by simp [hf]
      have := hx _ this
      omega
    · rw [List.getD_eq_getElem?_getD, List.getElem?_eq_none (by omega)]; simp
  · have := wk_lt hr _ _ hu
    omega
theorem t1_67 (g2 : G.kc "shares_after" = some (c_sh, .bool true, "closed")) (g3 : G.kc "value_after" = some (c_va, .bool true, "closed")) (hr : ringOk tb s) (ho : oldOk old) (hm : 2 ≤ M ∧ M ≤ 26) (hx : ∀ x ∈ old, x < tb.length) (hT : T ≤ 90) {f u : Nat} (hf : f < M) (hu : vaO tb old s M f (chg tb old s M T b) = some u) (hK : ∀ x14 : Sl, K.nx (r67 tb old s M b x2 x4 (.dat (.list ((stN tb old s M (chg tb old s M T b)).map (fun n : Nat => PyData.int (n : Int))))) (.dat (shD tb old s M (chg tb old s M T b))) x14 (.dat (.int (T : Nat))) (.dat (.int (f : Nat))) x17)) :
    wpSs G ir_law_t1 (r67 tb old s M b x2 x4 (.dat (.list ((stN tb old s M (chg tb old s M T b)).map (fun n : Nat => PyData.int (n : Int))))) (.dat (shD tb old s M (chg tb old s M T b))) x14 (.dat (.int (T : Nat))) (.dat (.int (f : Nat))) x17) K := by
  have far : farOk M := ⟨hm.1, Nat.le_trans hm.2 (by decide)⟩
  have hT2 : T ≤ 10 ^ 18 := Nat.le_trans hT (by decide)
  rw [ir_law_t1_eq]
  simp?! only [g3]
  refine ⟨((tb, old, s), M, f, T, true), ⟨rfl, hr, ho, far, hf, hT2⟩, ?_⟩
  rintro r rfl
  simp?! only [ir_law_t1_c1, g2]
  refine ⟨((tb, old, s), M, T, true), ⟨rfl, hr, ho, far, hT2⟩, ?_⟩
  rintro r rfl
  refine ⟨by simp [sizeLine_eq], ?_⟩
  cases b with
  | false => simp?! only [ir_law_t1_c2]; exact hK _
  | true =>
    have g1 : (stN tb old s M (chg tb old s M T true)).getD f 0 = u := by rw [stN_get hf, hu]; rfl
    obtain ⟨k1, k2, k3, k4⟩ := (TxAll.cons ((tx_oN (o := some u) fun v e => by cases e; exact va_lt hr hx hu).le (Nat.le_refl _) (Nat.zero_le 1)) (TxAll.cons (tx_sh (d := chg tb old s M T true) hr hm.2 (sh_le (by omega) hm.2)) (TxAll.nil 1))).lst.ok (by decide) (by decide)
    rw [hu]
    simp only [ir_law_t1_c2, wpSs, wpS, wpE, wpEs, wpAs, wpO, wpI, wpT, wpPs, isBoxArg, setAll, setPar, wipeR, List.set_cons_succ, List.set_cons_zero, Bool.false_eq_true, if_false, if_true, rw_b_ii, rw_b_tt, rw_b_ll, rw_b_ss, rw_b_sub, rw_b_mul, rw_b_mt, rw_b_ml, rw_b_fd, rw_b_mod, rw_b_pow, rw_c_lt, rw_c_le, rw_c_gt, rw_c_ge, rw_c_is, rw_c_isn, rw_c_inl, rw_c_int, rw_c_ninl, rw_c_nint, rw_n_i, rw_ix_t, rw_ix_l, rw_sl_t, rw_sl_l, rw_t_len_l, rw_t_len_t, rw_t_abs, rw_t_int, rw_t_intb, rw_t_bool, rw_t_boolb, rw_t_tuple_l, rw_t_tuple_t, rw_t_list_l, rw_t_list_t, rw_t_repr, rw_t_all, rw_t_any, rw_t_min, rw_t_max, rw_t_sum, rw_t_sumT, rw_a_nm, rw_a_t2, rw_a_t3, rw_a_t4, rw_i_l, rw_i_t, rw_u_bl, rw_u_i, rw_u_l, rw_u_t, rw_u_n, rw_w_fo0, rw_w_fo1, rw_w_tI, rw_w_len, rw_w_tt, rw_w_it, rw_w_add1, rw_g_0, rw_g_s, rw_c_eqi, rw_c_nei, rw_c_eqn, rw_c_eqs, rw_c_nes, rw_c_isb, rw_c_isnb, rw_lD0, rw_lD1, rw_lD2, rw_lD3, rw_a_lD, rw_sl0, rw_sl1, rw_sl2, rw_sl3, rw_sl4, rw_sl5, rw_sl6, rw_exb, rw_exi, rw_exl, rw_ext, rw_exo, rw_draw, true_and, and_true, rw_rg, rw_rg0, List.nil_append, rw_isN_none, rw_isN_int, rw_isN_bool, rw_isN_tup, Bool.not_true, Bool.not_false, decide_true, decide_false, tySub, List.length_map, rw_cno, rw_cso, rw_so_l, rw_so_d, rw_fr_l, rw_fr_d, rw_c_ind, rw_c_nind, rw_ix_d, rw_kb, wpD, Int.reduceToNat, rw_k_l, rw_k_t, rw_k_it, rw_t_len_d, rw_t_list_d, rw_atn (show f < (stN tb old s M (chg tb old s M T true)).length by rw [stN_len]; exact hf), g1]
    refine ⟨k1, k2, k3, k1, k2, k3, ?_⟩
    rw [rw_c_ne]
    have e5 : PyData.eqv (.str (PyData.list ([oN (some u)] ++ [shD tb old s M (chg tb old s M T true)])).shown) (.str (PyData.list [.int (u : Int), shD tb old s M (chg tb old s M T true)]).shown) = true := eqv_str _
    rw [e5]
    refine ⟨k4, ?_⟩
    simp?! only [true_and]
    exact hK _
theorem t2_67 (g2 : G.kc "shares_after" = some (c_sh, .bool true, "closed")) (g3 : G.kc "value_after" = some (c_va, .bool true, "closed")) (hr : ringOk tb s) (ho : oldOk old) (hm : 2 ≤ M ∧ M ≤ 26) (hx : ∀ x ∈ old, x < tb.length) (hT : T ≤ 90) {f u : Nat} (hf : f < M) (hu : vaO tb old s M f (chg tb old s M T b) = some u) (hK : ∀ x12 x13 x14 x15 x16 : Sl, K.nx (r67 tb old s M b x2 x4 x12 x13 x14 x15 x16 x17)) :
    wpSs G ir_law_t2 (r67 tb old s M b x2 x4 (.dat (.list ((stN tb old s M (chg tb old s M T b)).map (fun n : Nat => PyData.int (n : Int))))) x13 x14 (.dat (.int (T : Nat))) (.dat (.int (f : Nat))) x17) K := by
  have far : farOk M := ⟨hm.1, Nat.le_trans hm.2 (by decide)⟩
  have hT2 : T ≤ 10 ^ 18 := Nat.le_trans hT (by decide)
  have h8 := hr.2.2
  have el : (tT tb) = .tuple (tb.map oN) := rfl
  rw [ir_law_t2_eq]
  unfold r67
  rw [el]
  simp?! only [true_and]
  refine ⟨by omega, by omega, ?_⟩
  rw [← el]
  refine comp_m (G := G) (fun n : Nat => PyData.int (n : Int)) (fun v : Nat => .int ((shN tb old s M (chg tb old s M T b) v : Nat) : Int)) (fun v hv R hR => ?_) (by simp [sizeLine_eq]; omega) ?_
  · simp?! only [ir_law_e1]
    refine ⟨_, .inl rfl, shp_natS _, rfl, ?_⟩
    have e1 : ((stN tb old s M (chg tb old s M T b)).map (fun n : Nat => PyData.int (n : Int))).countP (fun z => PyData.eqv z (.int (v : Nat))) = shN tb old s M (chg tb old s M T b) v := by
      rw [← stN_cnt ho (by omega) v _ fun n hn => by
        obtain ⟨w, e, _⟩ := live_all (tb := tb) (old := old) (M := M) (T := T) (b := b) hr far n hn
        rw [e]; simp]
      rw [List.countP_map]
      refine List.countP_congr fun x _ => ?_
      simp [PyData.eqv]
      omega
    rw [e1]
    exact hR
  rw [List.nil_append]
  have e3 : ((List.range tb.length).map fun v : Nat => PyData.int ((shN tb old s M (chg tb old s M T b) v : Nat) : Int)) = ((List.range tb.length).map fun v => shN tb old s M (chg tb old s M T b) v).map (fun n : Nat => PyData.int (n : Int)) := by
    rw [List.map_map]; rfl
  rw [e3]
  have e4 : PyData.tuple (((List.range tb.length).map fun v => shN tb old s M (chg tb old s M T b) v).map (fun n : Nat => PyData.int (n : Int))) = shD tb old s M (chg tb old s M T b) := rfl
  rw [e4]
  obtain ⟨k1, k2, k3, k4⟩ := (tx_sh (d := chg tb old s M T b) hr hm.2 (sh_le (by omega) hm.2)).ok (by decide) (by decide)
  simp?! only [ir_law_t2_c1, g2]
  refine ⟨((tb, old, s), M, T, b), ⟨rfl, hr, ho, far, hT2⟩, ?_⟩
  rintro r rfl
  refine ⟨k1, k2, k3, k1, k2, k3, ?_⟩
  rw [rw_c_ne, eqv_str]
  refine ⟨k4, ?_⟩
  simp?! only [true_and]
  exact t1_67 g2 g3 hr ho hm hx hT hf hu fun _ => hK _ _ _ _ _
theorem b1_67 (g0 : G.con "_law_draw" = some conDraw) (g1 : G.con "_law_one" = some c_one) (g2 : G.kc "shares_after" = some (c_sh, .bool true, "closed")) (g3 : G.kc "value_after" = some (c_va, .bool true, "closed")) (hr : ringOk tb s) (ho : oldOk old) (hm : 2 ≤ M ∧ M ≤ 26) (hx : ∀ x ∈ old, x < tb.length) (hK : ∀ x12 x13 x14 x15 x16 x17 : Sl, K.nx (r67 tb old s M b x2 x4 x12 x13 x14 x15 x16 x17)) :
    wpSs G ir_law_b1 (r67 tb old s M b x2 x4 x12 x13 x14 x15 x16 x17) K := by
  have far : farOk M := ⟨hm.1, Nat.le_trans hm.2 (by decide)⟩
  have hsl := sizeLine_eq
  have n1 := nR_pos (tb := tb) (old := old) (s := s) (M := M) (b := b)
  have n2 := nR_le (b := b) hr ho hm
  have ll : (sgL tb old s M b).length = nR tb old s M b := by simp [sgL]
  rw [ir_law_b1_eq]
  simp?! only [g0, g1, ll]
  refine ⟨⟨by decide, by decide⟩, fun z z0 z1 => ⟨_, ⟨.inl rfl, by simp, by simp⟩, fun tm htm => ?_⟩⟩
  have htm : tm ∈ [PyData.int z, .int ((nR tb old s M b : Nat) - 1), .int 0, .int 90] := htm
  obtain ⟨T, rfl, hT⟩ : ∃ T : Nat, tm = .int (T : Int) ∧ T ≤ 90 := by
    simp only [List.mem_cons, List.not_mem_nil, or_false] at htm
    rcases htm with rfl | rfl | rfl | rfl
    · exact ⟨z.toNat, by congr 1; omega, by omega⟩
    · exact ⟨nR tb old s M b - 1, by congr 1; omega, by omega⟩
    · exact ⟨0, rfl, by omega⟩
    · exact ⟨90, rfl, by omega⟩
  have hT2 : T ≤ 10 ^ 18 := Nat.le_trans hT (by decide)
  refine ⟨⟨by omega, by omega⟩, fun fi f0 f1 => ?_⟩
  obtain ⟨f, rfl⟩ : ∃ f : Nat, fi = (f : Int) := ⟨fi.toNat, by omega⟩
  have hf : f < M := by omega
  simp?! only [ir_law_b1_c1, ll]
  have e1 : (if ((nR tb old s M b : Nat) : Int) - 1 < (T : Int) then ((nR tb old s M b : Nat) : Int) - 1 else (T : Int)) = ((min T (nR tb old s M b - 1) : Nat) : Int) := by split <;> omega
  rw [e1]
  have hi : min T (nR tb old s M b - 1) < nR tb old s M b := by omega
  have e2 : atI (sgL tb old s M b) ((min T (nR tb old s M b - 1) : Nat) : Int) = some (sgD tb old s M (chg tb old s M T b)) := by
    unfold sgL
    rw [at_map _ _ _ (by simpa using hi)]
    simp only [List.getElem_range, chg_min hT]
  rw [e2, rw_exo]
  obtain ⟨u, hu, _⟩ := va_some (M := M) (field := f) ho hx (by omega) (live_all (tb := tb) (old := old) (M := M) (T := T) (b := b) hr far)
  have g4 : (stN tb old s M (chg tb old s M T b)).getD f 0 = u := by rw [stN_get hf, hu]; rfl
  obtain ⟨k1, k2, k3, k4⟩ := (tx_oN (o := some u) fun v e => by cases e; exact va_lt hr hx hu).ok (by decide) (by decide)
  unfold sgD
  simp?! only [ir_law_b1_c2, g3]
  refine ⟨((tb, old, s), M, f, T, b), ⟨rfl, hr, ho, far, hf, hT2⟩, ?_⟩
  rintro r rfl
  rw [hu]
  refine ⟨k1, k2, k3, ?_⟩
  rw [rw_atn (show f < (stN tb old s M (chg tb old s M T b)).length by rw [stN_len]; exact hf), g4]
  refine ⟨k1, k2, k3, ?_⟩
  rw [rw_c_ne]
  have e5 : PyData.eqv (.str (oN (some u)).shown) (.str (PyData.int (u : Int)).shown) = true := eqv_str _
  rw [e5]
  refine ⟨k4, ?_⟩
  simp?! only [true_and]
  exact t2_67 g2 g3 hr ho hm hx hT hf hu fun _ _ _ _ _ => hK _ _ _ _ _ _
theorem t4_67 (g0 : G.con "_law_draw" = some conDraw) (g1 : G.con "_law_one" = some c_one) (g2 : G.kc "shares_after" = some (c_sh, .bool true, "closed")) (g3 : G.kc "value_after" = some (c_va, .bool true, "closed")) (g4 : G.kc "firings" = some (c_fir, .bool true, "closed")) (hr : ringOk tb s) (ho : oldOk old) (hm : 2 ≤ M ∧ M ≤ 26) (hx : ∀ x ∈ old, x < tb.length) (hK : ∀ x4 x12 x13 x14 x15 x16 x17 : Sl, K.nx (r67 tb old s M b x2 x4 x12 x13 x14 x15 x16 x17)) :
    wpSs G ir_law_t4 (r67 tb old s M b x2 x4 x12 x13 x14 x15 x16 x17) K := by
  have far : farOk M := ⟨hm.1, Nat.le_trans hm.2 (by decide)⟩
  have tail : wpSs G ir_law_t3 (r67 tb old s M b x2 x4 x12 x13 x14 x15 x16 x17) K := by
    simp?! only [ir_law_t3]
    refine ⟨by decide, by decide, ?_⟩
    refine for_ty (fun n : Nat => PyData.int (n : Int)) (xs := List.range 6) (fun p r => ∃ x4 x12 x13 x14 x15 x16 x17 : Sl, r = r67 tb old s M b x2 x4 x12 x13 x14 x15 x16 x17) ⟨_, _, _, _, _, _, _, rfl⟩ ?_ ?_
    · rintro p k q r _ ⟨x4, x12, x13, x14, x15, x16, x17, rfl⟩
      rw [rw_a_nm]
      exact b1_67 (x4 := .dat (.int (k : Nat))) g0 g1 g2 g3 hr ho hm hx fun _ _ _ _ _ _ => ⟨_, _, _, _, _, _, _, rfl⟩
    · rintro r ⟨x4, x12, x13, x14, x15, x16, x17, rfl⟩
      exact hK _ _ _ _ _ _ _
  cases b with
  | false => simp?! only [ir_law_t4]; exact tail
  | true =>
    obtain ⟨k1, k2, k3, k4⟩ := (tx_fir (b := true) hr ho hm).ok (by decide) (by decide)
    simp?! only [ir_law_t4, g4]
    refine ⟨((tb, old, s), M, true), ⟨rfl, hr, ho, far⟩, ?_⟩
    rintro r rfl
    refine ⟨k1, k2, k3, k1, k2, k3, ?_⟩
    rw [rw_c_ne, eqv_str]
    refine ⟨k4, ?_⟩
    simp?! only [true_and]
    exact tail
end
theorem wp_law {G : Gm} (g0 : G.con "_law_draw" = some conDraw) (g1 : G.con "_law_one" = some c_one) (g2 : G.kc "shares_after" = some (c_sh, .bool true, "closed")) (g3 : G.kc "value_after" = some (c_va, .bool true, "closed")) (g4 : G.kc "firings" = some (c_fir, .bool true, "closed")) (g5 : G.con "_law_ring" = some c_ring) (g6 : G.con "_law_run" = some c_run67) :
    wpSs G ir_lawR ((List.replicate 18 .un).set 1 .box) kLaw := by
  show wpSs G ir_lawR [.un, .box, .un, .un, .un, .un, .un, .un, .un, .un, .un, .un, .un, .un, .un, .un, .un, .un] kLaw
  simp?! only [ir_lawR]
  refine ⟨by decide, by decide, ?_⟩
  refine for_ty (fun n : Nat => PyData.int (n : Int)) (xs := List.range 8) (fun p r => ∃ x2 x3 x4 x5 x6 x7 x8 x9 x10 x11 x12 x13 x14 x15 x16 x17 : Sl, r = [.un, .box, x2, x3, x4, x5, x6, x7, x8, x9, x10, x11, x12, x13, x14, x15, x16, x17]) ⟨_, _, _, _, _, _, _, _, _, _, _, _, _, _, _, _, rfl⟩ ?_ ?_
  · rintro p v q r e ⟨x2, x3, x4, x5, x6, x7, x8, x9, x10, x11, x12, x13, x14, x15, x16, x17, rfl⟩
    rw [ir_law_b2_eq]
    simp?! only [g5]
    refine ⟨(), rfl, ?_⟩
    rintro r ⟨tb, old, s, rfl, hr, h2, ho, hx⟩
    have two : ∃ k : Int, atI [PyData.int 25, .int 5] ((v : Int) % 2) = some (.int k) ∧ 1 ≤ k ∧ k ≤ 25 := by
      have : (v : Int) % 2 = 0 ∨ (v : Int) % 2 = 1 := by omega
      rcases this with h | h
      · rw [h]; exact ⟨25, rfl, by decide, by decide⟩
      · rw [h]; exact ⟨5, rfl, by decide, by decide⟩
    obtain ⟨k, hk, k0, k1⟩ := two
    simp?! only [ir_law_b2_c1, g0, hk, rw_exo]
    refine ⟨by decide, ⟨by omega, by omega⟩, fun d d0 d1 => ⟨⟨by decide, by decide⟩, fun lo _ _ => ?_⟩⟩
    generalize decide (0 < lo) = B
    obtain ⟨M, hM⟩ : ∃ M : Nat, (2 : Int) + d = (M : Int) := ⟨(2 + d).toNat, by omega⟩
    rw [hM]
    have hm : 2 ≤ M ∧ M ≤ 26 := by omega
    have far : farOk M := ⟨hm.1, Nat.le_trans hm.2 (by decide)⟩
    simp?! only [ir_law_b2_c2, g6]
    refine ⟨((tb, old, s), M, B), ⟨rfl, hr, ho, hm⟩, ?_⟩
    rintro r rfl
    simp?! only [ir_law_b2_c3, g4]
    refine ⟨((tb, old, s), M, B), ⟨rfl, hr, ho, far⟩, ?_⟩
    rintro r rfl
    obtain ⟨k1, k2, k3, k4⟩ := (tx_fir (b := B) hr ho hm).ok (by decide) (by decide)
    have tail := t4_67 (b := B) (x2 := .dat (.int (v : Nat))) (x4 := x4) (x12 := x12) (x13 := x13) (x14 := x14) (x15 := x15) (x16 := x16) (x17 := x17) (G := G) (K := ⟨fun r => ∃ x2 x3 x4 x5 x6 x7 x8 x9 x10 x11 x12 x13 x14 x15 x16 x17 : Sl, r = [.un, .box, x2, x3, x4, x5, x6, x7, x8, x9, x10, x11, x12, x13, x14, x15, x16, x17], kLaw.rt, fun ρ' => wpSs G ir_law_t5 ρ' kLaw, fun r => ∃ x2 x3 x4 x5 x6 x7 x8 x9 x10 x11 x12 x13 x14 x15 x16 x17 : Sl, r = [.un, .box, x2, x3, x4, x5, x6, x7, x8, x9, x10, x11, x12, x13, x14, x15, x16, x17]⟩) g0 g1 g2 g3 g4 hr ho hm hx fun _ _ _ _ _ _ _ => ⟨_, _, _, _, _, _, _, _, _, _, _, _, _, _, _, _, rfl⟩
    have ll : (sgL tb old s M B).length = nR tb old s M B := by simp [sgL]
    simp?! only [ir_law_b2_c4, ll]
    refine ⟨k1, k2, k3, ?_⟩
    unfold r67 at tail
    cases e9 : firO tb old s M B with
    | none =>
      rw [e9] at k1 k2 k3 k4 tail
      simp only [Option.isSome_none, wpSs, wpS, wpE, wpEs, wpAs, wpO, wpI, wpT, wpPs, isBoxArg, setAll, setPar, wipeR, List.set_cons_succ, List.set_cons_zero, Bool.false_eq_true, if_false, if_true, rw_b_ii, rw_b_tt, rw_b_ll, rw_b_ss, rw_b_sub, rw_b_mul, rw_b_mt, rw_b_ml, rw_b_fd, rw_b_mod, rw_b_pow, rw_c_lt, rw_c_le, rw_c_gt, rw_c_ge, rw_c_is, rw_c_isn, rw_c_inl, rw_c_int, rw_c_ninl, rw_c_nint, rw_n_i, rw_ix_t, rw_ix_l, rw_sl_t, rw_sl_l, rw_t_len_l, rw_t_len_t, rw_t_abs, rw_t_int, rw_t_intb, rw_t_bool, rw_t_boolb, rw_t_tuple_l, rw_t_tuple_t, rw_t_list_l, rw_t_list_t, rw_t_repr, rw_t_all, rw_t_any, rw_t_min, rw_t_max, rw_t_sum, rw_t_sumT, rw_a_nm, rw_a_t2, rw_a_t3, rw_a_t4, rw_i_l, rw_i_t, rw_u_bl, rw_u_i, rw_u_l, rw_u_t, rw_u_n, rw_w_fo0, rw_w_fo1, rw_w_tI, rw_w_len, rw_w_tt, rw_w_it, rw_w_add1, rw_g_0, rw_g_s, rw_c_eqi, rw_c_nei, rw_c_eqn, rw_c_eqs, rw_c_nes, rw_c_isb, rw_c_isnb, rw_lD0, rw_lD1, rw_lD2, rw_lD3, rw_a_lD, rw_sl0, rw_sl1, rw_sl2, rw_sl3, rw_sl4, rw_sl5, rw_sl6, rw_exb, rw_exi, rw_exl, rw_ext, rw_exo, rw_draw, true_and, and_true, rw_rg, rw_rg0, List.nil_append, rw_isN_none, rw_isN_int, rw_isN_bool, rw_isN_tup, Bool.not_true, Bool.not_false, decide_true, decide_false, tySub, List.length_map, rw_cno, rw_cso, rw_so_l, rw_so_d, rw_fr_l, rw_fr_d, rw_c_ind, rw_c_nind, rw_ix_d, rw_kb, wpD, Int.reduceToNat, rw_k_l, rw_k_t, rw_k_it, rw_t_len_d, rw_t_list_d] at tail ⊢
      refine ⟨k1, k2, k3, ?_⟩
      rw [rw_c_ne]
      have e5 : PyData.eqv (.str (oN none).shown) (.str PyData.none.shown) = true := eqv_str _
      rw [e5]
      refine ⟨k4, ?_⟩
      simp?! only [true_and]
      exact tail
    | some t =>
      rw [e9] at k1 k2 k3 k4 tail
      have en : nR tb old s M B = t + 1 := by unfold nR; rw [e9]
      have en2 : ((t + 1 : Nat) : Int) - 1 = (t : Int) := by omega
      simp only [Option.isSome_some, wpSs, wpS, wpE, wpEs, wpAs, wpO, wpI, wpT, wpPs, isBoxArg, setAll, setPar, wipeR, List.set_cons_succ, List.set_cons_zero, Bool.false_eq_true, if_false, if_true, rw_b_ii, rw_b_tt, rw_b_ll, rw_b_ss, rw_b_sub, rw_b_mul, rw_b_mt, rw_b_ml, rw_b_fd, rw_b_mod, rw_b_pow, rw_c_lt, rw_c_le, rw_c_gt, rw_c_ge, rw_c_is, rw_c_isn, rw_c_inl, rw_c_int, rw_c_ninl, rw_c_nint, rw_n_i, rw_ix_t, rw_ix_l, rw_sl_t, rw_sl_l, rw_t_len_l, rw_t_len_t, rw_t_abs, rw_t_int, rw_t_intb, rw_t_bool, rw_t_boolb, rw_t_tuple_l, rw_t_tuple_t, rw_t_list_l, rw_t_list_t, rw_t_repr, rw_t_all, rw_t_any, rw_t_min, rw_t_max, rw_t_sum, rw_t_sumT, rw_a_nm, rw_a_t2, rw_a_t3, rw_a_t4, rw_i_l, rw_i_t, rw_u_bl, rw_u_i, rw_u_l, rw_u_t, rw_u_n, rw_w_fo0, rw_w_fo1, rw_w_tI, rw_w_len, rw_w_tt, rw_w_it, rw_w_add1, rw_g_0, rw_g_s, rw_c_eqi, rw_c_nei, rw_c_eqn, rw_c_eqs, rw_c_nes, rw_c_isb, rw_c_isnb, rw_lD0, rw_lD1, rw_lD2, rw_lD3, rw_a_lD, rw_sl0, rw_sl1, rw_sl2, rw_sl3, rw_sl4, rw_sl5, rw_sl6, rw_exb, rw_exi, rw_exl, rw_ext, rw_exo, rw_draw, true_and, and_true, rw_rg, rw_rg0, List.nil_append, rw_isN_none, rw_isN_int, rw_isN_bool, rw_isN_tup, Bool.not_true, Bool.not_false, decide_true, decide_false, tySub, List.length_map, rw_cno, rw_cso, rw_so_l, rw_so_d, rw_fr_l, rw_fr_d, rw_c_ind, rw_c_nind, rw_ix_d, rw_kb, wpD, Int.reduceToNat, rw_k_l, rw_k_t, rw_k_it, rw_t_len_d, rw_t_list_d, en, en2] at tail ⊢
      refine ⟨k1, k2, k3, ?_⟩
      rw [rw_c_ne]
      have e5 : PyData.eqv (.str (oN (some t)).shown) (.str (PyData.int (t : Int)).shown) = true := eqv_str _
      rw [e5]
      refine ⟨k4, ?_⟩
      simp?! only [true_and]
      exact tail
  · rintro r ⟨x2, x3, x4, x5, x6, x7, x8, x9, x10, x11, x12, x13, x14, x15, x16, x17, rfl⟩
    simp?! only [ir_law_t5]
    rfl
end Ef

end

section
set_option maxHeartbeats 0
namespace EfLaw
open PySem PySem.Spec PyProof.Rows L2
def top (i : Nat) : Stmt := PySem.Challenge.pw_echofields_k67_rings_of_some_fields.main.body.getD i (.Pass ⟨0, 0, 0, 0⟩)
def d6 : He.DefD := ⟨("is_integer", none), "is_integer", "is_integer", defArgs (top 6), defBody (top 6), defScope (top 6), [], []⟩
def d8 : He.DefD := ⟨("wishes_from", none), "wishes_from", "wishes_from", defArgs (top 8), defBody (top 8), defScope (top 8), [], []⟩
def d9 : He.DefD := ⟨("wish_at", none), "wish_at", "wish_at", defArgs (top 9), defBody (top 9), defScope (top 9), [], []⟩
def d10 : He.DefD := ⟨("first_stop", none), "first_stop", "first_stop", defArgs (top 10), defBody (top 10), defScope (top 10), [], []⟩
def d11 : He.DefD := ⟨("require_many", none), "require_many", "require_many", defArgs (top 11), defBody (top 11), defScope (top 11), [], []⟩
def d12 : He.DefD := ⟨("firings", none), "firings", "firings", defArgs (top 12), defBody (top 12), defScope (top 12), [], [("closed", .bl true)]⟩
def d13 : He.DefD := ⟨("changes_done", none), "changes_done", "changes_done", defArgs (top 13), defBody (top 13), defScope (top 13), [], []⟩
def d14 : He.DefD := ⟨("value_after", none), "value_after", "value_after", defArgs (top 14), defBody (top 14), defScope (top 14), [], [("closed", .bl true)]⟩
def d15 : He.DefD := ⟨("how_many", none), "how_many", "how_many", defArgs (top 15), defBody (top 15), defScope (top 15), [], []⟩
def d16 : He.DefD := ⟨("wishes_before", none), "wishes_before", "wishes_before", defArgs (top 16), defBody (top 16), defScope (top 16), [], []⟩
def d17 : He.DefD := ⟨("old_before", none), "old_before", "old_before", defArgs (top 17), defBody (top 17), defScope (top 17), [], []⟩
def d18 : He.DefD := ⟨("shares_after", none), "shares_after", "shares_after", defArgs (top 18), defBody (top 18), defScope (top 18), [], [("closed", .bl true)]⟩
def d20 : He.DefD := ⟨("_law_opened", none), "_law_opened", "_law_opened", defArgs (top 20), defBody (top 20), defScope (top 20), [], []⟩
def d21 : He.DefD := ⟨("_law_draw", none), "_law_draw", "_law_draw", defArgs (top 21), defBody (top 21), defScope (top 21), [], []⟩
def d22 : He.DefD := ⟨("_law_one", none), "_law_one", "_law_one", defArgs (top 22), defBody (top 22), defScope (top 22), [], []⟩
def d23 : He.DefD := ⟨("_law_ring", none), "_law_ring", "_law_ring", defArgs (top 23), defBody (top 23), defScope (top 23), [], []⟩
def d25 : He.DefD := ⟨("_law_run", none), "_law_run", "_law_run", defArgs (top 25), defBody (top 25), defScope (top 25), [], []⟩
def d26 : He.DefD := ⟨("law", none), "law", "law", defArgs (top 26), defBody (top 26), defScope (top 26), [], []⟩
def fn : List He.DefD := [d6, d8, d9, d10, d11, d12, d13, d14, d15, d16, d17, d18, d20, d21, d22, d23, d25, d26]
def fa : List He.Fa := [.glo "is_integer", .glo "wishes_from", .glo "wish_at", .glo "first_stop", .glo "require_many", .glo "firings", .glo "changes_done", .glo "value_after", .glo "how_many", .glo "wishes_before", .glo "old_before", .glo "shares_after", .glo "_law_opened", .glo "_law_draw", .glo "_law_one", .glo "_law_ring", .glo "_law_run", .glo "law", .free "len", .free "abs", .free "int", .free "bool", .free "tuple", .free "list", .free "repr", .free "all", .free "any", .free "min", .free "max", .free "sum", .free "isinstance", .free "range", .free "zip", .free "enumerate", .free "str", .free "dict", .free "sorted", .free "set", .int "MAX_FAR" 1000000000000000000]
abbrev R : PySem.W.OpenRow := PySem.W.OpenLaw.row PySem.Challenge.rw_echofields_k67_rings_of_some_fields
abbrev hk : PySem.W.Hook := He.hookD 4 fa fn
def ob (s : PySem.W.SharedT) : He.AlD := He.obsDG 4 fa fn (HandSHeadRun.getT s)
theorem ob_eq (s : PySem.W.SharedT) : ob s = hk.obs s.abs := He.obsDG_eq (HandSHeadRun.getT_eq s)
def loose : List Str := [("MAX_FAR" : Str), ("FieldError" : Str), ("NoField" : Str), ("NoNumber" : Str), ("is_integer" : Str), ("wishes_from" : Str), ("wish_at" : Str), ("first_stop" : Str), ("require_many" : Str), ("firings" : Str), ("changes_done" : Str), ("value_after" : Str), ("how_many" : Str), ("wishes_before" : Str), ("old_before" : Str), ("shares_after" : Str), ("_law_opened" : Str), ("_law_draw" : Str), ("_law_one" : Str), ("_law_ring" : Str), ("_law_wish" : Str), ("_law_run" : Str)]
theorem run (w : World) : HandSHeadRun.RunEq R (PySem.W.view R.prog [26]) hk ob 4000 loose w := by
  intro os
  kernel_rfl
theorem sc6 : FnScope ["value", "low", "high"] ["value", "low", "high"] (defScope (top 6)) := ⟨rfl, rfl, rfl, by decide +kernel, rfl, by decide +kernel, by decide +kernel⟩
theorem ck6 : Ef.chkSs ⟨["value", "low", "high"], defScope (top 6), defScope (top 6)⟩ Ef.ir_is_integer (defBody (top 6)) = true := by kernel_rfl
theorem sc8 : FnScope ["table", "start", "places", "found", "value"] ["table", "start"] (defScope (top 8)) := ⟨rfl, rfl, rfl, by decide +kernel, rfl, by decide +kernel, by decide +kernel⟩
theorem ck8 : Ef.chkSs ⟨["table", "start", "places", "found", "value"], defScope (top 8), defScope (top 8)⟩ Ef.ir_wishes_from (defBody (top 8)) = true := by kernel_rfl
theorem sc9 : FnScope ["found", "ahead", "number"] ["found", "ahead", "number"] (defScope (top 9)) := ⟨rfl, rfl, rfl, by decide +kernel, rfl, by decide +kernel, by decide +kernel⟩
theorem ck9 : Ef.chkSs ⟨["found", "ahead", "number"], defScope (top 9), defScope (top 9)⟩ Ef.ir_wish_at (defBody (top 9)) = true := by kernel_rfl
theorem sc10 : FnScope ["table", "old", "start", "period", "number", "found", "ahead"] ["table", "old", "start"] (defScope (top 10)) := ⟨rfl, rfl, rfl, by decide +kernel, rfl, by decide +kernel, by decide +kernel⟩
theorem ck10 : Ef.chkSs ⟨["table", "old", "start", "period", "number", "found", "ahead"], defScope (top 10), defScope (top 10)⟩ Ef.ir_first_stop (defBody (top 10)) = true := by kernel_rfl
theorem sc11 : FnScope ["many"] ["many"] (defScope (top 11)) := ⟨rfl, rfl, rfl, by decide +kernel, rfl, by decide +kernel, by decide +kernel⟩
theorem ck11 : Ef.chkSs ⟨["many"], defScope (top 11), defScope (top 11)⟩ Ef.ir_require_many (defBody (top 11)) = true := by kernel_rfl
theorem sc12 : FnScope ["table", "old", "start", "many", "closed", "first", "found", "ahead"] ["table", "old", "start", "many", "closed"] (defScope (top 12)) := ⟨rfl, rfl, rfl, by decide +kernel, rfl, by decide +kernel, by decide +kernel⟩
theorem ck12 : Ef.chkSs ⟨["table", "old", "start", "many", "closed", "first", "found", "ahead"], defScope (top 12), defScope (top 12)⟩ Ef.ir_firings (defBody (top 12)) = true := by kernel_rfl
theorem sc13 : FnScope ["table", "old", "start", "many", "times", "closed", "total", "first"] ["table", "old", "start", "many", "times", "closed"] (defScope (top 13)) := ⟨rfl, rfl, rfl, by decide +kernel, rfl, by decide +kernel, by decide +kernel⟩
theorem ck13 : Ef.chkSs ⟨["table", "old", "start", "many", "times", "closed", "total", "first"], defScope (top 13), defScope (top 13)⟩ Ef.ir_changes_done (defBody (top 13)) = true := by kernel_rfl
theorem sc14 : FnScope ["table", "old", "start", "many", "field", "times", "closed", "done", "found", "ahead"] ["table", "old", "start", "many", "field", "times", "closed"] (defScope (top 14)) := ⟨rfl, rfl, rfl, by decide +kernel, rfl, by decide +kernel, by decide +kernel⟩
theorem ck14 : Ef.chkSs ⟨["table", "old", "start", "many", "field", "times", "closed", "done", "found", "ahead"], defScope (top 14), defScope (top 14)⟩ Ef.ir_value_after (defBody (top 14)) = true := by kernel_rfl
theorem sc15 : FnScope ["first", "step", "end"] ["first", "step", "end"] (defScope (top 15)) := ⟨rfl, rfl, rfl, by decide +kernel, rfl, by decide +kernel, by decide +kernel⟩
theorem ck15 : Ef.chkSs ⟨["first", "step", "end"], defScope (top 15), defScope (top 15)⟩ Ef.ir_how_many (defBody (top 15)) = true := by kernel_rfl
theorem sc16 : FnScope ["found", "ahead", "value", "end", "place"] ["found", "ahead", "value", "end"] (defScope (top 16)) := ⟨rfl, rfl, rfl, by decide +kernel, rfl, by decide +kernel, by decide +kernel⟩
theorem ck16 : Ef.chkSs ⟨["found", "ahead", "value", "end", "place"], defScope (top 16), defScope (top 16)⟩ Ef.ir_wishes_before (defBody (top 16)) = true := by kernel_rfl
theorem sc17 : FnScope ["old", "value", "end", "place", "item"] ["old", "value", "end"] (defScope (top 17)) := ⟨rfl, rfl, rfl, by decide +kernel, rfl, by decide +kernel, by decide +kernel⟩
theorem ck17 : Ef.chkSs ⟨["old", "value", "end", "place", "item"], defScope (top 17), defScope (top 17)⟩ Ef.ir_old_before (defBody (top 17)) = true := by kernel_rfl
theorem sc18 : FnScope ["table", "old", "start", "many", "times", "closed", "done", "shares", "value", "found", "ahead", "low", "rest", "wished"] ["table", "old", "start", "many", "times", "closed"] (defScope (top 18)) := ⟨rfl, rfl, rfl, by decide +kernel, rfl, by decide +kernel, by decide +kernel⟩
theorem ck18 : Ef.chkSs ⟨["table", "old", "start", "many", "times", "closed", "done", "shares", "value", "found", "ahead", "low", "rest", "wished"], defScope (top 18), defScope (top 18)⟩ Ef.ir_shares_after (defBody (top 18)) = true := by kernel_rfl
theorem sc22 : FnScope ["_law_box", "_law_items"] ["_law_box", "_law_items"] (defScope (top 22)) := ⟨rfl, rfl, rfl, by decide +kernel, rfl, by decide +kernel, by decide +kernel⟩
theorem ck22 : Ef.chkSs ⟨["_law_box", "_law_items"], defScope (top 22), defScope (top 22)⟩ Ef.iA_one (defBody (top 22)) = true := by kernel_rfl
theorem sc23 : FnScope ["_law_box", "_law_many", "_law_table", "_law_old", "_law_way", "_law_by", "_law_k"] ["_law_box"] (defScope (top 23)) := ⟨rfl, rfl, rfl, by decide +kernel, rfl, by decide +kernel, by decide +kernel⟩
theorem ck23 : Ef.chkSs ⟨["_law_box", "_law_many", "_law_table", "_law_old", "_law_way", "_law_by", "_law_k"], defScope (top 23), defScope (top 23)⟩ Ef.ir__law_ring (defBody (top 23)) = true := by kernel_rfl
theorem sc25 : FnScope ["_law_table", "_law_old", "_law_start", "_law_many", "_law_looped", "_law_most", "_law_fields", "_law_stages", "_law_at", "_law_done", "_law_k", "_law_wanted"] ["_law_table", "_law_old", "_law_start", "_law_many", "_law_looped", "_law_most"] (defScope (top 25)) := ⟨rfl, rfl, rfl, by decide +kernel, rfl, by decide +kernel, by decide +kernel⟩
theorem ck25 : Ef.chkSs ⟨["_law_table", "_law_old", "_law_start", "_law_many", "_law_looped", "_law_most", "_law_fields", "_law_stages", "_law_at", "_law_done", "_law_k", "_law_wanted"], defScope (top 25), defScope (top 25)⟩ Ef.ir__law_run (defBody (top 25)) = true := by kernel_rfl
def posD : List Pos := [⟨102, 4, 102, 14⟩, ⟨102, 17, 102, 25⟩, ⟨102, 26, 102, 33⟩, ⟨102, 17, 102, 34⟩, ⟨102, 4, 102, 34⟩, ⟨103, 10, 103, 20⟩, ⟨103, 24, 103, 26⟩, ⟨103, 10, 103, 26⟩, ⟨104, 11, 104, 21⟩, ⟨104, 23, 104, 24⟩, ⟨104, 22, 104, 24⟩, ⟨104, 11, 104, 25⟩, ⟨104, 28, 104, 29⟩, ⟨104, 11, 104, 29⟩, ⟨105, 12, 105, 22⟩, ⟨105, 25, 105, 28⟩, ⟨105, 29, 105, 39⟩, ⟨105, 41, 105, 42⟩, ⟨105, 40, 105, 42⟩, ⟨105, 29, 105, 43⟩, ⟨105, 25, 105, 44⟩, ⟨105, 47, 105, 56⟩, ⟨105, 25, 105, 56⟩, ⟨105, 12, 105, 56⟩, ⟨106, 12, 106, 22⟩, ⟨106, 24, 106, 25⟩, ⟨106, 23, 106, 25⟩, ⟨106, 12, 106, 26⟩, ⟨106, 29, 106, 32⟩, ⟨106, 33, 106, 43⟩, ⟨106, 45, 106, 46⟩, ⟨106, 44, 106, 46⟩, ⟨106, 33, 106, 47⟩, ⟨106, 29, 106, 48⟩, ⟨106, 52, 106, 61⟩, ⟨106, 29, 106, 61⟩, ⟨106, 12, 106, 61⟩, ⟨107, 19, 107, 29⟩, ⟨107, 12, 107, 29⟩, ⟨104, 8, 107, 29⟩, ⟨108, 8, 108, 18⟩, ⟨108, 8, 108, 22⟩, ⟨108, 8, 108, 24⟩, ⟨108, 8, 108, 24⟩, ⟨103, 4, 108, 24⟩, ⟨109, 4, 109, 12⟩, ⟨109, 13, 109, 19⟩, ⟨109, 4, 109, 20⟩, ⟨109, 23, 109, 31⟩, ⟨109, 32, 109, 38⟩, ⟨109, 23, 109, 39⟩, ⟨109, 42, 109, 43⟩, ⟨109, 23, 109, 43⟩, ⟨109, 4, 109, 43⟩, ⟨110, 4, 110, 13⟩, ⟨110, 16, 110, 24⟩, ⟨110, 25, 110, 32⟩, ⟨110, 16, 110, 33⟩, ⟨110, 34, 110, 37⟩, ⟨110, 38, 110, 46⟩, ⟨110, 47, 110, 53⟩, ⟨110, 38, 110, 54⟩, ⟨110, 34, 110, 55⟩, ⟨110, 58, 110, 61⟩, ⟨110, 62, 110, 70⟩, ⟨110, 71, 110, 78⟩, ⟨110, 62, 110, 79⟩, ⟨110, 58, 110, 80⟩, ⟨110, 34, 110, 80⟩, ⟨110, 16, 110, 81⟩, ⟨110, 4, 110, 81⟩, ⟨111, 4, 111, 14⟩, ⟨111, 17, 111, 26⟩, ⟨111, 29, 111, 48⟩, ⟨111, 17, 111, 48⟩, ⟨111, 51, 111, 59⟩, ⟨111, 60, 111, 66⟩, ⟨111, 51, 111, 67⟩, ⟨111, 70, 111, 89⟩, ⟨111, 51, 111, 89⟩, ⟨111, 17, 111, 89⟩, ⟨111, 4, 111, 89⟩, ⟨112, 4, 112, 14⟩, ⟨112, 17, 112, 20⟩, ⟨112, 21, 112, 31⟩, ⟨112, 17, 112, 32⟩, ⟨112, 35, 112, 55⟩, ⟨112, 17, 112, 55⟩, ⟨112, 4, 112, 55⟩, ⟨113, 4, 113, 14⟩, ⟨113, 17, 113, 20⟩, ⟨113, 21, 113, 31⟩, ⟨113, 35, 113, 45⟩, ⟨113, 49, 113, 59⟩, ⟨113, 35, 113, 59⟩, ⟨113, 62, 113, 64⟩, ⟨113, 35, 113, 64⟩, ⟨113, 21, 113, 65⟩, ⟨113, 17, 113, 66⟩, ⟨113, 69, 113, 89⟩, ⟨113, 17, 113, 89⟩, ⟨113, 4, 113, 89⟩, ⟨114, 11, 114, 14⟩, ⟨114, 15, 114, 25⟩, ⟨114, 29, 114, 34⟩, ⟨114, 15, 114, 34⟩, ⟨114, 11, 114, 35⟩, ⟨114, 38, 114, 47⟩, ⟨114, 11, 114, 47⟩, ⟨114, 4, 114, 47⟩]
def posO : List Pos := [⟨97, 4, 97, 14⟩, ⟨97, 18, 97, 21⟩, ⟨97, 22, 97, 31⟩, ⟨97, 18, 97, 32⟩, ⟨97, 37, 97, 46⟩, ⟨97, 50, 97, 61⟩, ⟨97, 63, 97, 65⟩, ⟨97, 62, 97, 65⟩, ⟨97, 50, 97, 66⟩, ⟨97, 17, 97, 67⟩, ⟨97, 4, 97, 67⟩, ⟨98, 4, 98, 14⟩, ⟨98, 18, 98, 27⟩, ⟨98, 32, 98, 41⟩, ⟨98, 45, 98, 55⟩, ⟨98, 59, 98, 68⟩, ⟨98, 71, 98, 73⟩, ⟨98, 77, 98, 79⟩, ⟨98, 71, 98, 79⟩, ⟨98, 59, 98, 79⟩, ⟨98, 17, 98, 80⟩, ⟨98, 4, 98, 80⟩, ⟨99, 4, 99, 14⟩, ⟨99, 18, 99, 27⟩, ⟨99, 32, 99, 41⟩, ⟨99, 45, 99, 55⟩, ⟨99, 59, 99, 68⟩, ⟨99, 72, 99, 74⟩, ⟨99, 78, 99, 80⟩, ⟨99, 72, 99, 80⟩, ⟨99, 59, 99, 80⟩, ⟨99, 17, 99, 81⟩, ⟨99, 4, 99, 81⟩, ⟨100, 12, 100, 19⟩, ⟨100, 33, 100, 40⟩, ⟨100, 86, 100, 92⟩, ⟨100, 21, 100, 31⟩, ⟨100, 42, 100, 52⟩, ⟨100, 56, 100, 59⟩, ⟨100, 55, 100, 60⟩, ⟨100, 63, 100, 66⟩, ⟨100, 67, 100, 77⟩, ⟨100, 81, 100, 83⟩, ⟨100, 67, 100, 83⟩, ⟨100, 63, 100, 84⟩, ⟨100, 55, 100, 84⟩, ⟨100, 42, 100, 84⟩, ⟨100, 94, 100, 95⟩, ⟨100, 11, 100, 96⟩, ⟨100, 4, 100, 96⟩]
theorem ebD : defBody (top 21) = Ef.drawBody (fun i => posD.getD i ⟨0, 0, 0, 0⟩) := by kernel_rfl
theorem esD : defScope (top 21) = Ef.scD := by kernel_rfl
theorem ebO : defBody (top 20) = Ef.openBody 61 103 (fun i => posO.getD i ⟨0, 0, 0, 0⟩) := by kernel_rfl
theorem esO : defScope (top 20) = Ef.scO := by kernel_rfl
def law0 : Stmt := (defBody (top 26)).getD 0 (.Pass ⟨0, 0, 0, 0⟩)
def lawR : List Stmt := (defBody (top 26)).tail
theorem ebL : defBody (top 26) = law0 :: lawR := by kernel_rfl
theorem scL : FnScope ["_law_script", "_law_box", "_law_turn", "_law_told", "_law_trial", "_law_table", "_law_old", "_law_start", "_law_many", "_law_looped", "_law_stages", "_law_done", "_law_fields", "_law_due", "_law_plain", "_law_times", "_law_field", "_law_value"] ["_law_script"] (defScope (top 26)) := ⟨rfl, rfl, rfl, by decide +kernel, rfl, by decide +kernel, by decide +kernel⟩
theorem ck0 : Ef.chk0 ⟨["_law_script", "_law_box", "_law_turn", "_law_told", "_law_trial", "_law_table", "_law_old", "_law_start", "_law_many", "_law_looped", "_law_stages", "_law_done", "_law_fields", "_law_due", "_law_plain", "_law_times", "_law_field", "_law_value"], defScope (top 26), defScope (top 26)⟩ 1 law0 = true := by kernel_rfl
theorem ckL : Ef.chkSs ⟨["_law_script", "_law_box", "_law_turn", "_law_told", "_law_trial", "_law_table", "_law_old", "_law_start", "_law_many", "_law_looped", "_law_stages", "_law_done", "_law_fields", "_law_due", "_law_plain", "_law_times", "_law_field", "_law_value"], defScope (top 26), defScope (top 26)⟩ Ef.ir_lawR lawR = true := by kernel_rfl
theorem facts {P : Program} {w : World} {K : PySem.W.Frag} {h : Heap} {mg : Str → Option Value} {f : Addr} (X : K.In h) (Gn : h.Ns mainGlobals mg) (hfa : mg ("law" : Str) = some (.ref f)) (c : He.SaysD fa fn K) :
    ∃ fd : FuncData, (∀ (s : Shared) (v : Value), BindsTo s fd ⟨[v], []⟩ [("_law_script", v)]) ∧ ∀ base : Heap, Ef.FnR P w K mg base 17 f fd ["_law_script"] (Ef.spLaw K) := by
  obtain ⟨fd6, F6⟩ := c.def_ 0 (d := d6) rfl
  have g6 := He.glo_ok X Gn (c.fact 0 (f := .glo "is_integer") rfl)
  obtain ⟨fd8, F8⟩ := c.def_ 1 (d := d8) rfl
  have g8 := He.glo_ok X Gn (c.fact 1 (f := .glo "wishes_from") rfl)
  obtain ⟨fd9, F9⟩ := c.def_ 2 (d := d9) rfl
  have g9 := He.glo_ok X Gn (c.fact 2 (f := .glo "wish_at") rfl)
  obtain ⟨fd10, F10⟩ := c.def_ 3 (d := d10) rfl
  have g10 := He.glo_ok X Gn (c.fact 3 (f := .glo "first_stop") rfl)
  obtain ⟨fd11, F11⟩ := c.def_ 4 (d := d11) rfl
  have g11 := He.glo_ok X Gn (c.fact 4 (f := .glo "require_many") rfl)
  obtain ⟨fd12, F12⟩ := c.def_ 5 (d := d12) rfl
  have g12 := He.glo_ok X Gn (c.fact 5 (f := .glo "firings") rfl)
  obtain ⟨fd13, F13⟩ := c.def_ 6 (d := d13) rfl
  have g13 := He.glo_ok X Gn (c.fact 6 (f := .glo "changes_done") rfl)
  obtain ⟨fd14, F14⟩ := c.def_ 7 (d := d14) rfl
  have g14 := He.glo_ok X Gn (c.fact 7 (f := .glo "value_after") rfl)
  obtain ⟨fd15, F15⟩ := c.def_ 8 (d := d15) rfl
  have g15 := He.glo_ok X Gn (c.fact 8 (f := .glo "how_many") rfl)
  obtain ⟨fd16, F16⟩ := c.def_ 9 (d := d16) rfl
  have g16 := He.glo_ok X Gn (c.fact 9 (f := .glo "wishes_before") rfl)
  obtain ⟨fd17, F17⟩ := c.def_ 10 (d := d17) rfl
  have g17 := He.glo_ok X Gn (c.fact 10 (f := .glo "old_before") rfl)
  obtain ⟨fd18, F18⟩ := c.def_ 11 (d := d18) rfl
  have g18 := He.glo_ok X Gn (c.fact 11 (f := .glo "shares_after") rfl)
  obtain ⟨fd20, F20⟩ := c.def_ 12 (d := d20) rfl
  have g20 := He.glo_ok X Gn (c.fact 12 (f := .glo "_law_opened") rfl)
  obtain ⟨fd21, F21⟩ := c.def_ 13 (d := d21) rfl
  have g21 := He.glo_ok X Gn (c.fact 13 (f := .glo "_law_draw") rfl)
  obtain ⟨fd22, F22⟩ := c.def_ 14 (d := d22) rfl
  have g22 := He.glo_ok X Gn (c.fact 14 (f := .glo "_law_one") rfl)
  obtain ⟨fd23, F23⟩ := c.def_ 15 (d := d23) rfl
  have g23 := He.glo_ok X Gn (c.fact 15 (f := .glo "_law_ring") rfl)
  obtain ⟨fd25, F25⟩ := c.def_ 16 (d := d25) rfl
  have g25 := He.glo_ok X Gn (c.fact 16 (f := .glo "_law_run") rfl)
  obtain ⟨fd26, F26⟩ := c.def_ 17 (d := d26) rfl
  have g26 := He.glo_ok X Gn (c.fact 17 (f := .glo "law") rfl)
  have e := hfa.symm.trans g26
  cases e
  have bL := FunD.bindsA (ps := ["_law_script"]) F26 fun _ _ _ _ _ _ us hl => match us, hl with | [_], _ => rfl
  refine ⟨fd26, fun s v => bL s [v] rfl, fun base => ?_⟩
  have M0 : Ef.Md0 P w K mg base Ef.BoxD ⟨Ef.lk [], Ef.lkg [("MAX_FAR", 1000000000000000000)], Ef.lkk []⟩ 0 := by
    refine ⟨fun _ _ e => (nomatch e), Ef.glb_of ?_, fun _ _ _ _ e => (nomatch e), fun x hx => ?_⟩
    · intro p hp
      simp only [List.mem_cons, List.not_mem_nil, or_false] at hp
      rcases hp with rfl
      · exact He.int_ok X Gn (c.fact 38 (f := .int "MAX_FAR" 1000000000000000000) rfl)
    simp only [Ef.bltNames, List.mem_cons, List.not_mem_nil, or_false] at hx
    rcases hx with rfl | rfl | rfl | rfl | rfl | rfl | rfl | rfl | rfl | rfl | rfl | rfl | rfl | rfl | rfl | rfl | rfl | rfl | rfl | rfl
    · exact He.free_ok X Gn (c.fact 18 (f := .free "len") rfl)
    · exact He.free_ok X Gn (c.fact 19 (f := .free "abs") rfl)
    · exact He.free_ok X Gn (c.fact 20 (f := .free "int") rfl)
    · exact He.free_ok X Gn (c.fact 21 (f := .free "bool") rfl)
    · exact He.free_ok X Gn (c.fact 22 (f := .free "tuple") rfl)
    · exact He.free_ok X Gn (c.fact 23 (f := .free "list") rfl)
    · exact He.free_ok X Gn (c.fact 24 (f := .free "repr") rfl)
    · exact He.free_ok X Gn (c.fact 25 (f := .free "all") rfl)
    · exact He.free_ok X Gn (c.fact 26 (f := .free "any") rfl)
    · exact He.free_ok X Gn (c.fact 27 (f := .free "min") rfl)
    · exact He.free_ok X Gn (c.fact 28 (f := .free "max") rfl)
    · exact He.free_ok X Gn (c.fact 29 (f := .free "sum") rfl)
    · exact He.free_ok X Gn (c.fact 30 (f := .free "isinstance") rfl)
    · exact He.free_ok X Gn (c.fact 31 (f := .free "range") rfl)
    · exact He.free_ok X Gn (c.fact 32 (f := .free "zip") rfl)
    · exact He.free_ok X Gn (c.fact 33 (f := .free "enumerate") rfl)
    · exact He.free_ok X Gn (c.fact 34 (f := .free "str") rfl)
    · exact He.free_ok X Gn (c.fact 35 (f := .free "dict") rfl)
    · exact He.free_ok X Gn (c.fact 36 (f := .free "sorted") rfl)
    · exact He.free_ok X Gn (c.fact 37 (f := .free "set") rfl)
  have FD : FunD K d21.name d21.qual d21.params (defBody (top 21)) (defScope (top 21)) [] [] (He.ga K "_law_draw") fd21 := F21
  rw [ebD, esD] at FD
  have FO : FunD K d20.name d20.qual d20.params (defBody (top 20)) (defScope (top 20)) [] [] (He.ga K "_law_opened") fd20 := F20
  rw [ebO, esO] at FO
  have O := Ef.open_R FO ⟨by decide, by decide⟩ M0
  have GD := Ef.draw_G FD rfl M0
  have M1 := (M0.up (Nat.le_succ 0)).add (x := "_law_draw") ⟨_, _, _, g21, F21.kp, F21.bindsN (fun _ _ _ _ _ _ us hl => match us, hl with | [_, _], _ => rfl), GD⟩
  have G6 := Ef.fn_G F6 sc6 M1 ck6 (by rintro a as h; first | (obtain ⟨rfl, _⟩ := h; rfl) | (cases h; rfl) | (obtain ⟨_, rfl, _⟩ := h; rfl) | (rcases h with ⟨rfl | rfl, _⟩ <;> rfl)) (Ef.wp_is_integer )
  have M2 := (M1.up (Nat.le_succ 1)).add (x := "is_integer") ⟨_, _, _, g6, F6.kp, F6.bindsN (fun _ _ _ _ _ _ us hl => match us, hl with | [_, _, _], _ => rfl), G6⟩
  have G8 := Ef.fn_G F8 sc8 M2 ck8 (by rintro a as h; first | (obtain ⟨rfl, _⟩ := h; rfl) | (cases h; rfl) | (obtain ⟨_, rfl, _⟩ := h; rfl) | (rcases h with ⟨rfl | rfl, _⟩ <;> rfl)) (Ef.wp_wf )
  have M3 := (M2.up (Nat.le_succ 2)).add (x := "wishes_from") ⟨_, _, _, g8, F8.kp, F8.bindsN (fun _ _ _ _ _ _ us hl => match us, hl with | [_, _], _ => rfl), G8⟩
  have G9 := Ef.fn_G F9 sc9 M3 ck9 (by rintro a as h; first | (obtain ⟨rfl, _⟩ := h; rfl) | (cases h; rfl) | (obtain ⟨_, rfl, _⟩ := h; rfl) | (rcases h with ⟨rfl | rfl, _⟩ <;> rfl)) (Ef.wp_wa )
  have M4 := (M3.up (Nat.le_succ 3)).add (x := "wish_at") ⟨_, _, _, g9, F9.kp, F9.bindsN (fun _ _ _ _ _ _ us hl => match us, hl with | [_, _, _], _ => rfl), G9⟩
  have G10 := Ef.fn_G F10 sc10 M4 ck10 (by rintro a as h; first | (obtain ⟨rfl, _⟩ := h; rfl) | (cases h; rfl) | (obtain ⟨_, rfl, _⟩ := h; rfl) | (rcases h with ⟨rfl | rfl, _⟩ <;> rfl)) (Ef.wp_fs (by simp [Ef.lk, Ef.lkk, Ef.lkg]) (by simp [Ef.lk, Ef.lkk, Ef.lkg]))
  have M5 := (M4.up (Nat.le_succ 4)).add (x := "first_stop") ⟨_, _, _, g10, F10.kp, F10.bindsN (fun _ _ _ _ _ _ us hl => match us, hl with | [_, _, _], _ => rfl), G10⟩
  have G11 := Ef.fn_G F11 sc11 M5 ck11 (by rintro a as h; first | (obtain ⟨rfl, _⟩ := h; rfl) | (cases h; rfl) | (obtain ⟨_, rfl, _⟩ := h; rfl) | (rcases h with ⟨rfl | rfl, _⟩ <;> rfl)) (Ef.wp_rm (by simp [Ef.lk, Ef.lkk, Ef.lkg]) (by simp [Ef.lk, Ef.lkk, Ef.lkg]))
  have M6 := (M5.up (Nat.le_succ 5)).add (x := "require_many") ⟨_, _, _, g11, F11.kp, F11.bindsN (fun _ _ _ _ _ _ us hl => match us, hl with | [_], _ => rfl), G11⟩
  have G12 := Ef.fn_G F12 sc12 M6 ck12 (by rintro a as h; first | (obtain ⟨rfl, _⟩ := h; rfl) | (cases h; rfl) | (obtain ⟨_, rfl, _⟩ := h; rfl) | (rcases h with ⟨rfl | rfl, _⟩ <;> rfl)) (Ef.wp_fir (by simp [Ef.lk, Ef.lkk, Ef.lkg]) (by simp [Ef.lk, Ef.lkk, Ef.lkg]) (by simp [Ef.lk, Ef.lkk, Ef.lkg]))
  have M7 := (M6.up (Nat.le_succ 6)).addk (x := "firings") (kw := "closed") (d0 := .bool true) (Ef.kal_of (x := "firings") (kw := "closed") (dv := .bl true) (n := 4) F12 g12 G12 rfl (fun I => .bl true) (fun D _ _ _ _ _ us ks l1 l2 => match us, ks, l1, l2 with | [_, _, _, _], [_], _, _ => ⟨_, _, _, _, _, _, rfl, rfl, rfl⟩) (fun _ _ _ _ _ _ us _ l1 => match us, l1 with | [_, _, _, _], _ => rfl))
  have G13 := Ef.fn_G F13 sc13 M7 ck13 (by rintro a as h; first | (obtain ⟨rfl, _⟩ := h; rfl) | (cases h; rfl) | (obtain ⟨_, rfl, _⟩ := h; rfl) | (rcases h with ⟨rfl | rfl, _⟩ <;> rfl)) (Ef.wp_cd (by simp [Ef.lk, Ef.lkk, Ef.lkg]) (by simp [Ef.lk, Ef.lkk, Ef.lkg]))
  have M8 := (M7.up (Nat.le_succ 7)).add (x := "changes_done") ⟨_, _, _, g13, F13.kp, F13.bindsN (fun _ _ _ _ _ _ us hl => match us, hl with | [_, _, _, _, _, _], _ => rfl), G13⟩
  have G14 := Ef.fn_G F14 sc14 M8 ck14 (by rintro a as h; first | (obtain ⟨rfl, _⟩ := h; rfl) | (cases h; rfl) | (obtain ⟨_, rfl, _⟩ := h; rfl) | (rcases h with ⟨rfl | rfl, _⟩ <;> rfl)) (Ef.wp_va (by simp [Ef.lk, Ef.lkk, Ef.lkg]) (by simp [Ef.lk, Ef.lkk, Ef.lkg]) (by simp [Ef.lk, Ef.lkk, Ef.lkg]) (by simp [Ef.lk, Ef.lkk, Ef.lkg]) (by simp [Ef.lk, Ef.lkk, Ef.lkg]) (by simp [Ef.lk, Ef.lkk, Ef.lkg]))
  have M9 := (M8.up (Nat.le_succ 8)).addk (x := "value_after") (kw := "closed") (d0 := .bool true) (Ef.kal_of (x := "value_after") (kw := "closed") (dv := .bl true) (n := 6) F14 g14 G14 rfl (fun I => .bl true) (fun D _ _ _ _ _ us ks l1 l2 => match us, ks, l1, l2 with | [_, _, _, _, _, _], [_], _, _ => ⟨_, _, _, _, _, _, rfl, rfl, rfl⟩) (fun _ _ _ _ _ _ us _ l1 => match us, l1 with | [_, _, _, _, _, _], _ => rfl))
  have G15 := Ef.fn_G F15 sc15 M9 ck15 (by rintro a as h; first | (obtain ⟨rfl, _⟩ := h; rfl) | (cases h; rfl) | (obtain ⟨_, rfl, _⟩ := h; rfl) | (rcases h with ⟨rfl | rfl, _⟩ <;> rfl)) (Ef.wp_hm )
  have M10 := (M9.up (Nat.le_succ 9)).add (x := "how_many") ⟨_, _, _, g15, F15.kp, F15.bindsN (fun _ _ _ _ _ _ us hl => match us, hl with | [_, _, _], _ => rfl), G15⟩
  have G16 := Ef.fn_G F16 sc16 M10 ck16 (by rintro a as h; first | (obtain ⟨rfl, _⟩ := h; rfl) | (cases h; rfl) | (obtain ⟨_, rfl, _⟩ := h; rfl) | (rcases h with ⟨rfl | rfl, _⟩ <;> rfl)) (Ef.wp_wb (by simp [Ef.lk, Ef.lkk, Ef.lkg]))
  have M11 := (M10.up (Nat.le_succ 10)).add (x := "wishes_before") ⟨_, _, _, g16, F16.kp, F16.bindsN (fun _ _ _ _ _ _ us hl => match us, hl with | [_, _, _, _], _ => rfl), G16⟩
  have G17 := Ef.fn_G F17 sc17 M11 ck17 (by rintro a as h; first | (obtain ⟨rfl, _⟩ := h; rfl) | (cases h; rfl) | (obtain ⟨_, rfl, _⟩ := h; rfl) | (rcases h with ⟨rfl | rfl, _⟩ <;> rfl)) (Ef.wp_ob (by simp [Ef.lk, Ef.lkk, Ef.lkg]))
  have M12 := (M11.up (Nat.le_succ 11)).add (x := "old_before") ⟨_, _, _, g17, F17.kp, F17.bindsN (fun _ _ _ _ _ _ us hl => match us, hl with | [_, _, _], _ => rfl), G17⟩
  have G18 := Ef.fn_G F18 sc18 M12 ck18 (by rintro a as h; first | (obtain ⟨rfl, _⟩ := h; rfl) | (cases h; rfl) | (obtain ⟨_, rfl, _⟩ := h; rfl) | (rcases h with ⟨rfl | rfl, _⟩ <;> rfl)) (Ef.wp_sh (by simp [Ef.lk, Ef.lkk, Ef.lkg]) (by simp [Ef.lk, Ef.lkk, Ef.lkg]) (by simp [Ef.lk, Ef.lkk, Ef.lkg]) (by simp [Ef.lk, Ef.lkk, Ef.lkg]) (by simp [Ef.lk, Ef.lkk, Ef.lkg]) (by simp [Ef.lk, Ef.lkk, Ef.lkg]) (by simp [Ef.lk, Ef.lkk, Ef.lkg]))
  have M13 := (M12.up (Nat.le_succ 12)).addk (x := "shares_after") (kw := "closed") (d0 := .bool true) (Ef.kal_of (x := "shares_after") (kw := "closed") (dv := .bl true) (n := 5) F18 g18 G18 rfl (fun I => .bl true) (fun D _ _ _ _ _ us ks l1 l2 => match us, ks, l1, l2 with | [_, _, _, _, _], [_], _, _ => ⟨_, _, _, _, _, _, rfl, rfl, rfl⟩) (fun _ _ _ _ _ _ us _ l1 => match us, l1 with | [_, _, _, _, _], _ => rfl))
  have G22 := Ef.fn_G F22 sc22 M13 ck22 (by rintro a as h; first | (obtain ⟨rfl, _⟩ := h; rfl) | (cases h; rfl) | (obtain ⟨_, rfl, _⟩ := h; rfl) | (rcases h with ⟨rfl | rfl, _⟩ <;> rfl)) (Ef.wp_one (by simp [Ef.lk, Ef.lkk, Ef.lkg]))
  have M14 := (M13.up (Nat.le_succ 13)).add (x := "_law_one") ⟨_, _, _, g22, F22.kp, F22.bindsN (fun _ _ _ _ _ _ us hl => match us, hl with | [_, _], _ => rfl), G22⟩
  have G23 := Ef.fn_G F23 sc23 M14 ck23 (by rintro a as h; first | (obtain ⟨rfl, _⟩ := h; rfl) | (cases h; rfl) | (obtain ⟨_, rfl, _⟩ := h; rfl) | (rcases h with ⟨rfl | rfl, _⟩ <;> rfl)) (Ef.wp_ringdraw (by simp [Ef.lk, Ef.lkk, Ef.lkg]))
  have M15 := (M14.up (Nat.le_succ 14)).add (x := "_law_ring") ⟨_, _, _, g23, F23.kp, F23.bindsN (fun _ _ _ _ _ _ us hl => match us, hl with | [_], _ => rfl), G23⟩
  have G25 := Ef.fn_G F25 sc25 M15 ck25 (by rintro a as h; first | (obtain ⟨rfl, _⟩ := h; rfl) | (cases h; rfl) | (obtain ⟨_, rfl, _⟩ := h; rfl) | (rcases h with ⟨rfl | rfl, _⟩ <;> rfl)) (Ef.wp_run67 )
  have M16 := (M15.up (Nat.le_succ 15)).add (x := "_law_run") ⟨_, _, _, g25, F25.kp, F25.bindsN (fun _ _ _ _ _ _ us hl => match us, hl with | [_, _, _, _, _, _], _ => rfl), G25⟩
  have FL : FunD K d26.name d26.qual d26.params (defBody (top 26)) (defScope (top 26)) [] [] (He.ga K "law") fd26 := F26
  rw [ebL] at FL
  exact Ef.law_R FL scL M16 (O.mono (by decide)) g20 F20.kp (F20.bindsN (fun _ _ _ _ _ _ us hl => match us, hl with | [_], _ => rfl)) ck0 ckL (by decide) (by decide) (Ef.wp_law (by simp [Ef.lk, Ef.lkk, Ef.lkg]) (by simp [Ef.lk, Ef.lkk, Ef.lkg]) (by simp [Ef.lk, Ef.lkk, Ef.lkg]) (by simp [Ef.lk, Ef.lkk, Ef.lkg]) (by simp [Ef.lk, Ef.lkk, Ef.lkg]) (by simp [Ef.lk, Ef.lkk, Ef.lkg]) (by simp [Ef.lk, Ef.lkk, Ef.lkg]))
end EfLaw
open PySem PySem.W PySem.Calls PyProof.Rows
theorem PySem.Challenge.cw_echofields_k67_rings_of_some_fields_holds : PySem.Challenge.rw_echofields_k67_rings_of_some_fields.Holds := by
  w_on; o_law
  refine HandSHeadRun.head_any (r := OpenLaw.row PySem.Challenge.rw_echofields_k67_rings_of_some_fields) (q := view (OpenLaw.row PySem.Challenge.rw_echofields_k67_rings_of_some_fields).prog [26]) (H := EfLaw.hk) (ob := EfLaw.ob) (M := 4000) (loose := EfLaw.loose) (d := HandSHeadRun.topDef (OpenLaw.row PySem.Challenge.rw_echofields_k67_rings_of_some_fields).prog 26) (kwd := []) EfLaw.ob_eq
    (by kernel_rfl) (fun s => by kernel_rfl) EfLaw.run (by kernel_rfl) (by kernel_rfl) (by kernel_rfl) (by rfl) (by first | assumption | decide +kernel) (by decide +kernel) ⟨rfl, rfl, rfl, rfl, rfl, by decide +kernel⟩ ?hw ?hc
  case hw => w_witness2
  case hc =>
    refine Ef.walk_R (l := PySem.Challenge.rw_echofields_k67_rings_of_some_fields) (n := 63) (k := 17) (x := "_law_script") rfl (by decide) (by kernel_rfl) ⟨rfl, by decide, by decide⟩ ?F
    intro w mg fa h Y Gn hmg0
    obtain ⟨K, KX, c⟩ := Y
    have hmg : mg ("law" : PySem.Str) = some (.ref fa) := by
      have e : (HandSHeadRun.topDef (OpenLaw.row PySem.Challenge.rw_echofields_k67_rings_of_some_fields).prog 26).name = ("law" : PySem.Str) := by kernel_rfl
      rw [← e]
      exact hmg0
    obtain ⟨fd, hb, hF⟩ := EfLaw.facts (P := (PySem.Challenge.rw_echofields_k67_rings_of_some_fields).prog) (w := w) KX Gn hmg c
    exact ⟨K, fd, Ef.spLaw K, KX, hb, fun H a ns _ _ hS => ⟨a, ns, rfl, hS, fun _ => rfl⟩, hF⟩

end
