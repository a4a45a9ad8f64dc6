import PyProof.Rows.All
import Wide.All
import OpenK.AllK
import Wide.FinOn
import HandS.ForMost
import HandS.Exc
import HandS.TryOnly
import HandS.ExcOwn
import HandS.WordsExc
import HandS.Deep
import HandS.Walk
import HandS.IsInst
import HandS.Flow
import HandS.TupAny
import HandS.TupMul
import HandS.Style
import HandS.Star
import HandS.Zip
import HandS.NoneIn
import HandS.Defaults
import KE.SortData
import HandS.SetFor
import KE.DataAny
import KE.KRevSl
import KE.GoesZip
import KE.GoesMore
import KE.GoesEnum
import KE.KDictZip
import HandS.Dict
import HandS.TupSets
import HandS.Strs
import PySem.Challenge.RW_drycells_k43_whole_what_all_keys_read
import HandS.CallLocal
import KE.KStateDown
import HandS.Head0
import HandS.Head1
import HandS.Head2
import HandS.HeadEnd
import HandS.HeadHook1
import HandS.HeadHook2
import HandS.HeadHook3
import HandS.HeadHook4
set_option Elab.async false
set_option linter.all false
set_option maxRecDepth 100000
set_option maxHeartbeats 1000000
/-! DryA: plain data, what of the heap it reads, environments. -/
namespace Dry
open PySem PySem.Spec PyProof.Rows L2

/-- plain data; tin: the one list of draws that is changed in place; dct: a dict of ints; scr: the script -/
inductive D where
  | non | bl (b : Bool) | int (i : Int) | str (x : Str) | lst (xs : List D) | tup (xs : List D) | tin | dct (kvs : List (Int × Int)) | scr (ns : List Int)

mutual
def D.py : D → PyData
  | .non => .none
  | .bl b => .bool b
  | .int i => .int i
  | .str x => .str x
  | .lst xs => .list (D.pys xs)
  | .tup xs => .tuple (D.pys xs)
  | .tin => .none
  | .dct _ => .none
  | .scr _ => .none
def D.pys : List D → List PyData
  | [] => []
  | d :: ds => d.py :: D.pys ds
end
mutual
/-- made of numbers, texts, None, lists and tuples alone -/
def D.pure : D → Bool
  | .lst xs => D.pures xs
  | .tup xs => D.pures xs
  | .tin => false
  | .dct _ => false
  | .scr _ => false
  | _ => true
def D.pures : List D → Bool
  | [] => true
  | d :: ds => d.pure && D.pures ds
end
theorem D.pys_map : ∀ ds : List D, D.pys ds = ds.map D.py
  | [] => rfl
  | d :: ds => by
    show d.py :: D.pys ds = d.py :: ds.map D.py
    rw [D.pys_map ds]
theorem D.pures_all : ∀ ds : List D, D.pures ds = ds.all D.pure
  | [] => rfl
  | d :: ds => by
    show (d.pure && D.pures ds) = (d.pure && ds.all D.pure)
    rw [D.pures_all ds]

/-- the state of the draws -/
abbrev Tin := Int × Int × Int

/-- a tuple of the written part -/
def KTup (K : PySem.W.Frag) (a : Addr) (xs : List V) : Prop :=
  ∃ (o : Obj) (its : Array Value) (n : Nat), K.lookup a = some o ∧ o.cls = .type "tuple" ∧ o.data = .seq its n ∧ its.size ≤ sizeLine ∧ Vals xs its.toList

/-- a list of the written part -/
def KLst (K : PySem.W.Frag) (a : Addr) (xs : List V) : Prop :=
  ∃ (o : Obj) (its : Array Value) (n : Nat), K.lookup a = some o ∧ o.cls = .type "list" ∧ o.dict = none ∧ o.data = .seq its n ∧ its.size ≤ sizeLine ∧ Vals xs its.toList

mutual
/-- v is the datum d, read off H without the addresses M; T: where the draws stand -/
inductive Dat (K : PySem.W.Frag) (T : Option Addr) (M : List Addr) (H : Hp) : V → D → Prop
  | non : Dat K T M H .non .non
  | bl (b : Bool) : Dat K T M H (.bl b) (.bl b)
  | int (i : Int) : Dat K T M H (.int i) (.int i)
  | str (x : Str) : Dat K T M H (.str x) (.str x)
  | lst {a : Addr} {xs : List V} {ds : List D} : a ∉ M → H a = some (.lst xs) → DatL K T M H xs ds → Dat K T M H (.ref a) (.lst ds)
  | tup {a : Addr} {xs : List V} {ds : List D} : a ∉ M → Rd H a (.tup xs) → DatL K T M H xs ds → Dat K T M H (.ref a) (.tup ds)
  | ktup {a : Addr} {xs : List V} {ds : List D} : KTup K a xs → DatL K T M H xs ds → Dat K T M H (.ref a) (.tup ds)
  | tin {a : Addr} : T = some a → Dat K T M H (.ref a) .tin
  | dct {a : Addr} {kvs : List (Int × Int)} : a ∉ M → H a = some (.dK (kvs.map fun q => (.inl q.1, .int q.2))) → Dat K T M H (.ref a) (.dct kvs)
  | scr {a : Addr} {ns : List Int} : a ∉ M → Rd H a (.lst (ns.map V.int)) → Dat K T M H (.ref a) (.scr ns)
  | kscr {a : Addr} {ns : List Int} : KLst K a (ns.map V.int) → Dat K T M H (.ref a) (.scr ns)
inductive DatL (K : PySem.W.Frag) (T : Option Addr) (M : List Addr) (H : Hp) : List V → List D → Prop
  | nil : DatL K T M H [] []
  | cons {v : V} {vs : List V} {d : D} {ds : List D} : Dat K T M H v d → DatL K T M H vs ds → DatL K T M H (v :: vs) (d :: ds)
end

/-- all that stands off M stands still -/
def Ext (M : List Addr) (H H' : Hp) : Prop := ∀ a o, a ∉ M → H a = some o → H' a = some o
theorem Ext.refl (M : List Addr) (H : Hp) : Ext M H H := fun _ _ _ h => h
theorem Ext.trans {M : List Addr} {H H1 H2 : Hp} (a : Ext M H H1) (b : Ext M H1 H2) : Ext M H H2 := fun x o n h => b x o n (a x o n h)
theorem Ext.mono {M M' : List Addr} {H H1 : Hp} (a : Ext M H H1) (h : ∀ x ∈ M, x ∈ M') : Ext M' H H1 := fun x o n e => a x o (fun z => n (h x z)) e
theorem Ext.new {M : List Addr} {H : Hp} {p : Addr} {o : HO} (h : H p = none) : Ext M H (upd H p o) := fun a u _ e => by
  rw [upd_ne (ne_of_none e h)]
  exact e
theorem Ext.free {H H' : Hp} (e : Ext [] H H') {p : Addr} (h : H' p = none) : H p = none := by
  cases q : H p with
  | none => rfl
  | some o =>
    rw [e p o (by simp) q] at h
    cases h
theorem Ext.rd {M : List Addr} {H H' : Hp} (e : Ext M H H') {a : Addr} {u : HO} (n : a ∉ M) (h : Rd H a u) : Rd H' a u := by
  rcases h with h | ⟨o, h⟩
  · exact .inl (e a _ n h)
  · exact .inr ⟨o, e a _ n h⟩
theorem rd_some {H : Hp} {a : Addr} {u : HO} (h : Rd H a u) : H a ≠ none := by
  rcases h with h | ⟨o, h⟩ <;> rw [h] <;> intro z <;> cases z

section
variable {K : PySem.W.Frag} {T : Option Addr} {M M' : List Addr} {H H' : Hp}
mutual
theorem Dat.keep (e : Ext M H H') : ∀ {v : V} {d : D}, Dat K T M H v d → Dat K T M H' v d
  | _, _, .non => .non
  | _, _, .bl b => .bl b
  | _, _, .int i => .int i
  | _, _, .str x => .str x
  | _, _, .lst n r h => .lst n (e _ _ n r) (DatL.keep e h)
  | _, _, .tup n r h => .tup n (e.rd n r) (DatL.keep e h)
  | _, _, .ktup k h => .ktup k (DatL.keep e h)
  | _, _, .tin t => .tin t
  | _, _, .dct n r => .dct n (e _ _ n r)
  | _, _, .scr n r => .scr n (e.rd n r)
  | _, _, .kscr k => .kscr k
theorem DatL.keep (e : Ext M H H') : ∀ {vs : List V} {ds : List D}, DatL K T M H vs ds → DatL K T M H' vs ds
  | _, _, .nil => .nil
  | _, _, .cons h t => .cons (Dat.keep e h) (DatL.keep e t)
end
mutual
/-- other addresses left out: none that stands in H is new among them -/
theorem Dat.mask (m : ∀ a, a ∈ M' → H a ≠ none → a ∈ M) : ∀ {v : V} {d : D}, Dat K T M H v d → Dat K T M' H v d
  | _, _, .non => .non
  | _, _, .bl b => .bl b
  | _, _, .int i => .int i
  | _, _, .str x => .str x
  | _, _, .lst n r h => .lst (fun z => n (m _ z (by rw [r]; intro q; cases q))) r (DatL.mask m h)
  | _, _, .tup n r h => .tup (fun z => n (m _ z (rd_some r))) r (DatL.mask m h)
  | _, _, .ktup k h => .ktup k (DatL.mask m h)
  | _, _, .tin t => .tin t
  | _, _, .dct n r => .dct (fun z => n (m _ z (by rw [r]; intro q; cases q))) r
  | _, _, .scr n r => .scr (fun z => n (m _ z (rd_some r))) r
  | _, _, .kscr k => .kscr k
theorem DatL.mask (m : ∀ a, a ∈ M' → H a ≠ none → a ∈ M) : ∀ {vs : List V} {ds : List D}, DatL K T M H vs ds → DatL K T M' H vs ds
  | _, _, .nil => .nil
  | _, _, .cons h t => .cons (Dat.mask m h) (DatL.mask m t)
end
theorem DatL.length : ∀ {vs : List V} {ds : List D}, DatL K T M H vs ds → vs.length = ds.length
  | _, _, .nil => rfl
  | _, _, .cons _ t => by rw [List.length_cons, List.length_cons, DatL.length t]
theorem DatL.append : ∀ {vs ws : List V} {ds es : List D}, DatL K T M H vs ds → DatL K T M H ws es → DatL K T M H (vs ++ ws) (ds ++ es)
  | _, _, _, _, .nil, h => h
  | _, _, _, _, .cons h t, k => .cons h (DatL.append t k)
theorem DatL.one {v : V} {d : D} (h : Dat K T M H v d) : DatL K T M H [v] [d] := .cons h .nil
theorem DatL.drop : ∀ {vs : List V} {ds : List D} (n : Nat), DatL K T M H vs ds → DatL K T M H (vs.drop n) (ds.drop n)
  | _, _, 0, h => h
  | _, _, _ + 1, .nil => .nil
  | _, _, n + 1, .cons _ t => DatL.drop n t
theorem DatL.take : ∀ {vs : List V} {ds : List D} (n : Nat), DatL K T M H vs ds → DatL K T M H (vs.take n) (ds.take n)
  | _, _, 0, _ => .nil
  | _, _, _ + 1, .nil => .nil
  | _, _, n + 1, .cons h t => .cons h (DatL.take n t)
theorem DatL.get : ∀ {vs : List V} {ds : List D} {i : Nat} {d : D}, DatL K T M H vs ds → ds[i]? = some d → ∃ v, vs[i]? = some v ∧ Dat K T M H v d
  | _, _, _, _, .nil, e => by simp at e
  | _, _, 0, _, .cons h _, e => by
    cases (show some _ = some _ from e)
    exact ⟨_, rfl, h⟩
  | _, _, i + 1, d, .cons _ t, e => by
    obtain ⟨v, h1, h2⟩ := DatL.get (i := i) (d := d) t (by simpa using e)
    exact ⟨v, by simpa using h1, h2⟩
theorem DatL.getV : ∀ {vs : List V} {ds : List D} {i : Nat} {v : V}, DatL K T M H vs ds → vs[i]? = some v → ∃ d, ds[i]? = some d ∧ Dat K T M H v d
  | _, _, _, _, .nil, e => by simp at e
  | _, _, 0, _, .cons h _, e => by
    cases (show some _ = some _ from e)
    exact ⟨_, rfl, h⟩
  | _, _, i + 1, d, .cons _ t, e => by
    obtain ⟨v, h1, h2⟩ := DatL.getV (i := i) (v := d) t (by simpa using e)
    exact ⟨v, by simpa using h1, h2⟩
theorem DatL.set {v : V} {d : D} (h : Dat K T M H v d) : ∀ {vs : List V} {ds : List D} (i : Nat), DatL K T M H vs ds → DatL K T M H (vs.set i v) (ds.set i d)
  | _, _, _, .nil => .nil
  | _, _, 0, .cons _ t => .cons h t
  | _, _, i + 1, .cons k t => .cons k (DatL.set h i t)
theorem DatL.eraseIdx : ∀ {vs : List V} {ds : List D} (i : Nat), DatL K T M H vs ds → DatL K T M H (vs.eraseIdx i) (ds.eraseIdx i)
  | _, _, _, .nil => .nil
  | _, _, 0, .cons _ t => t
  | _, _, i + 1, .cons k t => .cons k (DatL.eraseIdx i t)
theorem DatL.reverse : ∀ {vs : List V} {ds : List D}, DatL K T M H vs ds → DatL K T M H vs.reverse ds.reverse
  | _, _, .nil => .nil
  | _, _, .cons h t => by
    rw [List.reverse_cons, List.reverse_cons]
    exact (DatL.reverse t).append (.one h)
theorem DatL.rep {vs : List V} {ds : List D} (h : DatL K T M H vs ds) : ∀ k : Nat, DatL K T M H (List.replicate k vs).flatten (List.replicate k ds).flatten
  | 0 => .nil
  | k + 1 => by
    rw [List.replicate_succ, List.replicate_succ, List.flatten_cons, List.flatten_cons]
    exact h.append (DatL.rep h k)
mutual
/-- as the library's data -/
theorem Dat.dp : ∀ {v : V} {d : D}, Dat K T M H v d → d.pure = true → Dp K H v d.py
  | _, _, .non, _ => .non
  | _, _, .bl b, _ => .bl b
  | _, _, .int i, _ => .int i
  | _, _, .str x, _ => .str x
  | _, _, .lst _ r h, p => .lst (.inl (.inl r)) (DatL.dp h p)
  | _, _, .tup _ r h, p => .tup (.inl r) (DatL.dp h p)
  | _, _, .ktup k h, p => .tup (.inr k) (DatL.dp h p)
  | _, _, .tin _, p => nomatch p
  | _, _, .dct _ _, p => nomatch p
  | _, _, .scr _ _, p => nomatch p
  | _, _, .kscr _, p => nomatch p
theorem DatL.dp : ∀ {vs : List V} {ds : List D}, DatL K T M H vs ds → D.pures ds = true → DpAll K H vs (D.pys ds)
  | _, _, .nil, _ => .nil
  | _, _, .cons h t, p => .cons (Dat.dp h (Bool.and_eq_true_iff.mp p).1) (DatL.dp t (Bool.and_eq_true_iff.mp p).2)
end
/-- a tuple at its address -/
theorem Dat.sqt {v : V} {ds : List D} (h : Dat K T M H v (.tup ds)) : ∃ a xs, v = .ref a ∧ SqT K H a xs ∧ DatL K T M H xs ds := by
  cases h with
  | tup n r h => exact ⟨_, _, rfl, .inl r, h⟩
  | ktup k h => exact ⟨_, _, rfl, .inr k, h⟩
theorem Dat.sql {v : V} {ds : List D} (h : Dat K T M H v (.lst ds)) : ∃ a xs, v = .ref a ∧ a ∉ M ∧ H a = some (.lst xs) ∧ SqL K H a xs ∧ DatL K T M H xs ds := by
  cases h with
  | lst n r h => exact ⟨_, _, rfl, n, r, .inl (.inl r), h⟩
theorem Dat.sqs {v : V} {ns : List Int} (h : Dat K T M H v (.scr ns)) : ∃ a, v = .ref a ∧ SqL K H a (ns.map V.int) := by
  cases h with
  | scr n r => exact ⟨_, rfl, .inl r⟩
  | kscr k => exact ⟨_, rfl, .inr k⟩
theorem DatL.ints : ∀ {vs : List V} {ns : List Int}, DatL K T M H vs (ns.map D.int) → vs = ns.map V.int := by
  intro vs ns
  induction ns generalizing vs with
  | nil =>
    intro h
    cases h
    rfl
  | cons n ns ih =>
    intro h
    cases h with
    | cons h t =>
      cases h
      rw [ih t] <;> rfl
theorem DatL.bls : ∀ {vs : List V} {ns : List Bool}, DatL K T M H vs (ns.map D.bl) → vs = ns.map V.bl := by
  intro vs ns
  induction ns generalizing vs with
  | nil =>
    intro h
    cases h
    rfl
  | cons n ns ih =>
    intro h
    cases h with
    | cons h t =>
      cases h
      rw [ih t] <;> rfl
theorem datL_ints : ∀ ns : List Int, DatL K T M H (ns.map V.int) (ns.map D.int)
  | [] => .nil
  | n :: ns => .cons (.int n) (datL_ints ns)
/-- a new tuple, a new list -/
theorem Dat.newT {p : Addr} {vs : List V} {ds : List D} (hp : H p = none) (hM : ∀ a ∈ M, H a ≠ none) (h : DatL K T M H vs ds) : Dat K T M (upd H p (.tup vs)) (.ref p) (.tup ds) :=
  .tup (fun z => hM p z hp) (.inl upd_same) (h.keep (Ext.new hp))
theorem Dat.newL {p : Addr} {vs : List V} {ds : List D} (hp : H p = none) (hM : ∀ a ∈ M, H a ≠ none) (h : DatL K T M H vs ds) : Dat K T M (upd H p (.lst vs)) (.ref p) (.lst ds) :=
  .lst (fun z => hM p z hp) upd_same (h.keep (Ext.new hp))
end

/-! ### results -/
inductive Res (α : Type) where
  | ok (a : α) (t : Tin) | exn (t : Tin) | bad
def Res.bind {α β : Type} (r : Res α) (f : α → Tin → Res β) : Res β := match r with
  | .ok a t => f a t
  | .exn t => .exn t
  | .bad => .bad
/-- what a slot holds: a datum, or a list of the def's own that it changes -/
inductive En where
  | dat (d : D) | own (ds : List D)
abbrev Env' := List (Option En)

def TinOk (T : Option Addr) (t : Tin) (H : Hp) : Prop := ∀ a, T = some a → H a = some (.lst [.int t.1, .int t.2.1, .int t.2.2])
def EnOk (K : PySem.W.Frag) (T : Option Addr) (M : List Addr) (H : Hp) (v : V) : En → Prop
  | .dat d => Dat K T M H v d
  | .own ds => ∃ p xs, v = .ref p ∧ p ∈ M ∧ T ≠ some p ∧ H p = some (.lst xs) ∧ DatL K T M H xs ds
/-- the slots hold what the plain environment says -/
structure XOk (K : PySem.W.Frag) (T : Option Addr) (M : List Addr) (σ : L2.St) (ρ : Env') (t : Tin) (H : Hp) : Prop where
  len : ρ.length = σ.length
  val : ∀ (i : Nat) (e : En), ρ[i]? = some (some e) → ∃ v, σ[i]? = some (some v) ∧ EnOk K T M H v e
  tin : TinOk T t H
  tinM : ∀ a, T = some a → a ∈ M
  dom : ∀ a ∈ M, H a ≠ none
section
variable {K : PySem.W.Frag} {T : Option Addr} {M : List Addr} {H H' : Hp} {σ : L2.St} {ρ : Env'} {t t' : Tin}
theorem Ext.toM (e : Ext T.toList H H') (h : ∀ a, T = some a → a ∈ M) : Ext M H H' := e.mono fun x hx => h x (by
  cases T with
  | none => cases hx
  | some a =>
    have : x = a := by simpa using hx
    rw [this])
theorem EnOk.keep {v : V} {e : En} (h : EnOk K T M H v e) (x : Ext T.toList H H') (hT : ∀ a, T = some a → a ∈ M) : EnOk K T M H' v e := by
  cases e with
  | dat d => exact Dat.keep (x.toM hT) h
  | own ds =>
    obtain ⟨p, xs, rfl, hp, ht, hl, hd⟩ := h
    refine ⟨p, xs, rfl, hp, ht, x p _ (fun z => ht ?_) hl, hd.keep (x.toM hT)⟩
    cases T with
    | none => cases z
    | some a =>
      have : p = a := by simpa using z
      rw [this]
theorem XOk.keep (x : XOk K T M σ ρ t H) (e : Ext T.toList H H') (h : TinOk T t' H') : XOk K T M σ ρ t' H' :=
  ⟨x.len, fun i en q => by
    obtain ⟨v, h1, h2⟩ := x.val i en q
    exact ⟨v, h1, h2.keep e x.tinM⟩, h, x.tinM, fun a ha z => by
    cases q : H a with
    | none => exact x.dom a ha q
    | some o =>
      by_cases ht : a ∈ T.toList
      · cases T with
        | none => cases ht
        | some b =>
          have : a = b := by simpa using ht
          rw [this] at z
          rw [h b rfl] at z
          cases z
      · rw [e a o ht q] at z
        cases z⟩
theorem TinOk.keep (h : TinOk T t H) (e : Ext [] H H') : TinOk T t H' := fun a ha => e a _ (by simp) (h a ha)
theorem Ext.any {N : List Addr} (e : Ext [] H H') : Ext N H H' := e.mono fun _ z => by cases z
end
end Dry
set_option Elab.async false
set_option linter.all false
set_option maxRecDepth 100000
set_option maxHeartbeats 1000000
/-! DryB: operations on plain data, and the layer's rules for them. -/
namespace Dry
open PySem PySem.Spec PyProof.Rows L2

def cap : Nat := 1000000
theorem cap_line {n : Nat} (h : n ≤ cap) : n ≤ sizeLine := Nat.le_trans h (by decide)
theorem cap_lt {n : Nat} (h : n < cap) : n < sizeLine := Nat.lt_of_lt_of_le h (by decide)
abbrev okB (d : D) : Bool := d.pure && SeqAt.shaped d.py

def dAdd : D → D → Option D
  | .int i, .int j => some (.int (i + j))
  | .tup xs, .tup ys => if xs.length + ys.length ≤ cap then some (.tup (xs ++ ys)) else none
  | .lst xs, .lst ys => if xs.length + ys.length ≤ cap then some (.lst (xs ++ ys)) else none
  | _, _ => none
def dSub : D → D → Option D
  | .int i, .int j => some (.int (i - j))
  | _, _ => none
def mulB (i j : Int) : Bool := (decide (-(2 ^ 64) < i) && decide (i < 2 ^ 64)) || (decide (-(2 ^ 64) < j) && decide (j < 2 ^ 64))
def dMul : D → D → Option D
  | .int i, .int j => if mulB i j = true then some (.int (i * j)) else none
  | .tup xs, .int k => if xs ≠ [] ∧ 0 ≤ k ∧ k ≤ 1000 ∧ xs.length ≤ 1000 then some (.tup (List.replicate k.toNat xs).flatten) else none
  | _, _ => none
def dDiv : D → D → Option D
  | .int i, .int j => if j ≠ 0 ∧ j.natAbs < 1073741824 then some (.int (i.fdiv j)) else none
  | _, _ => none
def dMod : D → D → Option D
  | .int i, .int j => if j ≠ 0 then some (.int (i.fmod j)) else none
  | _, _ => none
def dPow : D → D → Option D
  | .int i, .int j => if 0 ≤ j ∧ j ≤ 1000000 ∧ i.natAbs < 2 ^ 64 then some (.int (i ^ j.toNat)) else none
  | _, _ => none
def dEq (d e : D) : Option D := if okB d = true ∧ okB e = true then some (.bl (PyData.eqv d.py e.py)) else none
def dNe (d e : D) : Option D := if okB d = true ∧ okB e = true then some (.bl (!PyData.eqv d.py e.py)) else none
def dCmp (p : Int → Int → Bool) : D → D → Option D
  | .int i, .int j => some (.bl (p i j))
  | _, _ => none
abbrev dLt := dCmp fun i j => decide (i < j)
abbrev dLe := dCmp fun i j => decide (i ≤ j)
abbrev dGt := dCmp fun i j => decide (j < i)
abbrev dGe := dCmp fun i j => decide (j ≤ i)
def dInts : List D → Option (List Int)
  | [] => some []
  | .int i :: r => (dInts r).map (i :: ·)
  | _ => none
def dBls : List D → Option (List Bool)
  | [] => some []
  | .bl i :: r => (dBls r).map (i :: ·)
  | _ => none
theorem dInts_map : ∀ ns : List Int, dInts (ns.map D.int) = some ns
  | [] => rfl
  | n :: ns => by
    show (dInts (ns.map D.int)).map (n :: ·) = some (n :: ns)
    rw [dInts_map ns] <;> rfl
theorem dBls_map : ∀ ns : List Bool, dBls (ns.map D.bl) = some ns
  | [] => rfl
  | n :: ns => by
    show (dBls (ns.map D.bl)).map (n :: ·) = some (n :: ns)
    rw [dBls_map ns] <;> rfl
theorem dInts_of : ∀ {ds : List D} {ns : List Int}, dInts ds = some ns → ds = ns.map D.int := by
  intro ds
  induction ds with
  | nil =>
    intro ns h
    cases h
    rfl
  | cons d ds ih =>
    intro ns h
    cases d with
    | int i =>
      have h' : (dInts ds).map (i :: ·) = some ns := h
      cases q : dInts ds with
      | none => rw [q] at h'; cases h'
      | some ms =>
        rw [q] at h'
        cases h'
        rw [ih q] <;> rfl
    | _ => cases h
theorem dBls_of : ∀ {ds : List D} {ns : List Bool}, dBls ds = some ns → ds = ns.map D.bl := by
  intro ds
  induction ds with
  | nil =>
    intro ns h
    cases h
    rfl
  | cons d ds ih =>
    intro ns h
    cases d with
    | bl i =>
      have h' : (dBls ds).map (i :: ·) = some ns := h
      cases q : dBls ds with
      | none => rw [q] at h'; cases h'
      | some ms =>
        rw [q] at h'
        cases h'
        rw [ih q] <;> rfl
    | _ => cases h
/-- x in xs -/
def dIn : D → D → Option D
  | d, .lst es => if okB d = true ∧ okB (.lst es) = true then some (.bl (es.any fun z => PyData.eqv z.py d.py)) else none
  | .int i, .tup es => match dInts es with
    | some ns => some (.bl (ns.any fun z => z == i))
    | none => none
  | _, _ => none
def dNotIn : D → D → Option D
  | d, .lst es => if okB d = true ∧ okB (.lst es) = true then some (.bl (!(es.any fun z => PyData.eqv z.py d.py))) else none
  | _, _ => none
def dIx : D → D → Option D
  | .lst xs, .int i => atI xs i
  | .tup xs, .int i => atI xs i
  | .scr ns, .int i => (atI ns i).map .int
  | _, _ => none
def cutD {α : Type} (xs : List α) (lo hi : Option Int) : List α := (xs.drop (HT.sIx xs.length 0 lo)).take (HT.sIx xs.length xs.length hi - HT.sIx xs.length 0 lo)
def dCut (lo hi : Option Int) : D → Option D
  | .lst xs => some (.lst (cutD xs lo hi))
  | .tup xs => some (.tup (cutD xs lo hi))
  | .scr ns => some (.lst ((cutD ns lo hi).map .int))
  | _ => none
def dRev : D → Option D
  | .lst xs => some (.lst xs.reverse)
  | .tup xs => some (.tup xs.reverse)
  | _ => none

/-! ### the rules' forms -/
/-- two data to one -/
def DR2 (K : PySem.W.Frag) (g : D → D → Option D) : R2 := fun x y H Q => ∃ T M d e r, (∀ a ∈ M, H a ≠ none) ∧ Dat K T M H x d ∧ Dat K T M H y e ∧ g d e = some r ∧ ∀ z H', Ext [] H H' → Dat K T M H' z r → Q z H'
/-- a list of data to one -/
def DC (K : PySem.W.Frag) (g : List D → Option D) : List V → Hp → VK → Prop := fun xs H Q => ∃ T M ds r, (∀ a ∈ M, H a ≠ none) ∧ DatL K T M H xs ds ∧ g ds = some r ∧ ∀ z H', Ext [] H H' → Dat K T M H' z r → Q z H'
section
variable {X : Cx}
theorem OpR.imp {f : Value → Value → Sem Value} {r r' : R2} (h : OpR X f r) (k : ∀ x y H Q, r' x y H Q → r x y H Q) : OpR X f r' :=
  fun pins s σ H x y v u Q I rx ry q => h pins s σ H x y v u Q I rx ry (k _ _ _ _ q)
theorem CallR.imp {f : Value} {r r' : List V → Hp → VK → Prop} (h : CallR X f r) (k : ∀ xs H Q, r' xs H Q → r xs H Q) : CallR X f r' :=
  fun pins s σ H xs us Q I rx q => h pins s σ H xs us Q I rx (k _ _ _ q)
theorem IxR.imp {r r' : R2} (h : IxR X r) (k : ∀ x y H Q, r' x y H Q → r x y H Q) : IxR X r' := by
  intro value slice pins s σ H x y v u Q I rx ry q hs
  exact h value slice pins s σ H x y v u Q I rx ry (k _ _ _ _ q) hs
theorem SlR.imp {r r' : V → Option Int → Option Int → Hp → VK → Prop} (h : SlR X r) (k : ∀ x lo hi H Q, r' x lo hi H Q → r x lo hi H Q) : SlR X r' := by
  intro pins s σ H x v vl vu lo hi sl Q I rx hs pl pu q
  exact h pins s σ H x v vl vu lo hi sl Q I rx hs pl pu (k _ _ _ _ _ q)
theorem MtR.imp {id : String} {r r' : V → List V → Hp → VK → Prop} (h : MtR X id r) (k : ∀ x xs H Q, r' x xs H Q → r x xs H Q) : MtR X id r' := by
  intro pins s σ H x xs v us Q I rx rs q
  exact h pins s σ H x xs v us Q I rx rs (k _ _ _ _ q)

variable {K : PySem.W.Frag} {T : Option Addr} {M : List Addr} {H : Hp} {x y : V} {i j : Int}
theorem Dat.eqInt (h : Dat K T M H x (.int i)) : x = .int i := by
  cases h
  rfl
theorem Dat.eqBl {b : Bool} (h : Dat K T M H x (.bl b)) : x = .bl b := by
  cases h
  rfl
theorem Dat.eqNon (h : Dat K T M H x .non) : x = .non := by
  cases h
  rfl
theorem catV_eq {α : Type} (xs : List α) : HT.sIx xs.length 0 none = 0 := rfl

theorem d_add : OpR X (binaryOp .Add) (DR2 X.K dAdd) := by
  refine OpR.imp (OpR.or op_add (OpR.or op_catA op_cat)) fun x y H Q h => ?_
  obtain ⟨T, M, d, e, r, hM, hd, he, hg, q⟩ := h
  unfold dAdd at hg
  split at hg
  · rename_i i j
    cases hg
    cases hd.eqInt
    cases he.eqInt
    exact .inl ⟨_, _, rfl, rfl, q _ _ (Ext.refl _ _) (.int _)⟩
  · rename_i ds es
    split at hg
    · rename_i hz
      cases hg
      obtain ⟨a, xs, rfl, ha, h1⟩ := hd.sqt
      obtain ⟨b, ys, rfl, hb, h2⟩ := he.sqt
      have l1 := h1.length
      have l2 := h2.length
      refine .inr (.inl ⟨a, b, xs, ys, rfl, rfl, ha, hb, cap_line (by omega), fun e0 => ?_, fun _ e0 => ?_, fun _ _ p hp => ?_⟩)
      · subst e0
        cases h1
        exact q _ _ (Ext.refl _ _) he
      · subst e0
        cases h2
        refine q _ _ (Ext.refl _ _) ?_
        rw [List.append_nil]
        exact hd
      · exact q _ _ (Ext.new hp) (Dat.newT hp hM (h1.append h2))
    · cases hg
  · rename_i ds es
    split at hg
    · rename_i hz
      cases hg
      obtain ⟨a, xs, rfl, _, ha, _, h1⟩ := hd.sql
      obtain ⟨b, ys, rfl, _, hb, _, h2⟩ := he.sql
      have l1 := h1.length
      have l2 := h2.length
      exact .inr (.inr ⟨a, b, xs, ys, rfl, rfl, ha, hb, cap_line (by omega), fun p hp => q _ _ (Ext.new hp) (Dat.newL hp hM (h1.append h2))⟩)
    · cases hg
  · cases hg
theorem d_sub : OpR X (binaryOp .Sub) (DR2 X.K dSub) := by
  refine OpR.imp op_sub fun x y H Q h => ?_
  obtain ⟨T, M, d, e, r, hM, hd, he, hg, q⟩ := h
  unfold dSub at hg
  split at hg
  · cases hg
    cases hd.eqInt
    cases he.eqInt
    exact ⟨_, _, rfl, rfl, q _ _ (Ext.refl _ _) (.int _)⟩
  · cases hg
theorem d_div : OpR X (binaryOp .FloorDiv) (DR2 X.K dDiv) := by
  refine OpR.imp op_fdivN fun x y H Q h => ?_
  obtain ⟨T, M, d, e, r, hM, hd, he, hg, q⟩ := h
  unfold dDiv at hg
  split at hg
  · split at hg
    · rename_i hz
      cases hg
      cases hd.eqInt
      cases he.eqInt
      exact ⟨_, _, rfl, rfl, hz, q _ _ (Ext.refl _ _) (.int _)⟩
    · cases hg
  · cases hg
theorem d_mod : OpR X (binaryOp .Mod) (DR2 X.K dMod) := by
  refine OpR.imp op_modN fun x y H Q h => ?_
  obtain ⟨T, M, d, e, r, hM, hd, he, hg, q⟩ := h
  unfold dMod at hg
  split at hg
  · split at hg
    · rename_i hz
      cases hg
      cases hd.eqInt
      cases he.eqInt
      exact ⟨_, _, rfl, rfl, hz, q _ _ (Ext.refl _ _) (.int _)⟩
    · cases hg
  · cases hg
theorem d_pow : OpR X (binaryOp .Pow) (DR2 X.K dPow) := by
  refine OpR.imp op_pow fun x y H Q h => ?_
  obtain ⟨T, M, d, e, r, hM, hd, he, hg, q⟩ := h
  unfold dPow at hg
  split at hg
  · split at hg
    · rename_i hz
      cases hg
      cases hd.eqInt
      cases he.eqInt
      exact ⟨_, _, rfl, rfl, hz, q _ _ (Ext.refl _ _) (.int _)⟩
    · cases hg
  · cases hg
theorem d_cmp {op : CmpOp} {p : Int → Int → Bool} (h : OpR X (compareOp op) (rI0 fun i j => .bl (p i j))) : OpR X (compareOp op) (DR2 X.K (dCmp p)) := by
  refine OpR.imp h fun x y H Q h => ?_
  obtain ⟨T, M, d, e, r, hM, hd, he, hg, q⟩ := h
  unfold dCmp at hg
  split at hg
  · cases hg
    cases hd.eqInt
    cases he.eqInt
    exact ⟨_, _, rfl, rfl, q _ _ (Ext.refl _ _) (.bl _)⟩
  · cases hg
theorem d_eq (hu : X.A.units + 64 < cLine) : OpR X (compareOp .Eq) (DR2 X.K dEq) := by
  refine OpR.imp (op_eqD hu) fun x y H Q h => ?_
  obtain ⟨T, M, d, e, r, hM, hd, he, hg, q⟩ := h
  unfold dEq at hg
  split at hg
  · rename_i hz
    cases hg
    obtain ⟨z1, z2⟩ := hz
    obtain ⟨p1, s1⟩ := Bool.and_eq_true_iff.mp z1
    obtain ⟨p2, s2⟩ := Bool.and_eq_true_iff.mp z2
    exact ⟨_, _, hd.dp p1, he.dp p2, s1, s2, q _ _ (Ext.refl _ _) (.bl _)⟩
  · cases hg
theorem d_ne (hu : X.A.units + 64 < cLine) : OpR X (compareOp .NotEq) (DR2 X.K dNe) := by
  refine OpR.imp (op_neD hu) fun x y H Q h => ?_
  obtain ⟨T, M, d, e, r, hM, hd, he, hg, q⟩ := h
  unfold dNe at hg
  split at hg
  · rename_i hz
    cases hg
    obtain ⟨z1, z2⟩ := hz
    obtain ⟨p1, s1⟩ := Bool.and_eq_true_iff.mp z1
    obtain ⟨p2, s2⟩ := Bool.and_eq_true_iff.mp z2
    exact ⟨_, _, hd.dp p1, he.dp p2, s1, s2, q _ _ (Ext.refl _ _) (.bl _)⟩
  · cases hg
theorem any_pys (es : List D) (z : PyData) : (D.pys es).any (fun w => PyData.eqv w z) = es.any fun w => PyData.eqv w.py z := by
  rw [D.pys_map, List.any_map] <;> rfl
theorem flat_ints (ns : List Int) : (ns.map V.int).all flatV = true := by
  rw [List.all_map]
  exact List.all_eq_true.mpr fun _ _ => rfl
theorem inV_ints (i : Int) (ns : List Int) : inV (.int i) (ns.map V.int) = ns.any fun z => z == i := by
  unfold inV
  rw [List.any_map]
  congr 1
theorem d_in (hu : X.A.units + 65 < cLine) : OpR X (compareOp .In) (DR2 X.K dIn) := by
  refine OpR.imp (OpR.or (op_inD hu) op_in_seq) fun x y H Q h => ?_
  obtain ⟨T, M, d, e, r, hM, hd, he, hg, q⟩ := h
  unfold dIn at hg
  split at hg
  · rename_i es
    split at hg
    · rename_i hz
      cases hg
      obtain ⟨z1, z2⟩ := hz
      obtain ⟨p1, s1⟩ := Bool.and_eq_true_iff.mp z1
      obtain ⟨p2, s2⟩ := Bool.and_eq_true_iff.mp z2
      refine .inl ⟨d.py, D.pys es, hd.dp p1, he.dp p2, s1, s2, ?_⟩
      rw [any_pys]
      exact q _ _ (Ext.refl _ _) (.bl _)
    · cases hg
  · rename_i i es
    split at hg
    · rename_i ns hn
      cases hg
      have e1 := dInts_of hn
      subst e1
      cases hd.eqInt
      obtain ⟨a, xs, rfl, ha, h1⟩ := he.sqt
      have e2 := h1.ints
      subst e2
      refine .inr ⟨a, ns.map V.int, rfl, .inr ha, rfl, flat_ints ns, ?_⟩
      rw [if_neg Bool.false_ne_true, inV_ints]
      exact q _ _ (Ext.refl _ _) (.bl _)
    · cases hg
  · cases hg
theorem d_notin (hu : X.A.units + 65 < cLine) : OpR X (compareOp .NotIn) (DR2 X.K dNotIn) := by
  refine OpR.imp (op_notInD hu) fun x y H Q h => ?_
  obtain ⟨T, M, d, e, r, hM, hd, he, hg, q⟩ := h
  unfold dNotIn at hg
  split at hg
  · rename_i es
    split at hg
    · rename_i hz
      cases hg
      obtain ⟨z1, z2⟩ := hz
      obtain ⟨p1, s1⟩ := Bool.and_eq_true_iff.mp z1
      obtain ⟨p2, s2⟩ := Bool.and_eq_true_iff.mp z2
      refine ⟨d.py, D.pys es, hd.dp p1, he.dp p2, s1, s2, ?_⟩
      rw [any_pys]
      exact q _ _ (Ext.refl _ _) (.bl _)
    · cases hg
  · cases hg
theorem DatL.at {vs : List V} {ds : List D} {d : D} (h : DatL K T M H vs ds) (e : atI ds i = some d) : ∃ v, atI vs i = some v ∧ Dat K T M H v d := by
  unfold atI at e ⊢
  rw [h.length]
  cases q : ixN ds.length i with
  | none => rw [q] at e; cases e
  | some j =>
    rw [q] at e
    exact h.get (i := j) (by simpa using e)
theorem d_ix : IxR X (DR2 X.K dIx) := by
  refine IxR.imp (IxR.or ix_list ix_tup) fun x y H Q h => ?_
  obtain ⟨T, M, d, e, r, hM, hd, he, hg, q⟩ := h
  unfold dIx at hg
  split at hg
  · cases he.eqInt
    obtain ⟨a, xs, rfl, _, _, ha, h1⟩ := hd.sql
    obtain ⟨v, h2, h3⟩ := h1.at hg
    exact .inl ⟨a, xs, _, v, rfl, rfl, ha, h2, q _ _ (Ext.refl _ _) h3⟩
  · cases he.eqInt
    obtain ⟨a, xs, rfl, ha, h1⟩ := hd.sqt
    obtain ⟨v, h2, h3⟩ := h1.at hg
    exact .inr ⟨a, xs, _, v, rfl, rfl, ha, h2, q _ _ (Ext.refl _ _) h3⟩
  · cases he.eqInt
    obtain ⟨a, rfl, rd⟩ := hd.sqs
    · rename_i ns i
      cases z : atI ns i with
      | none => rw [z] at hg; cases hg
      | some k =>
        rw [z] at hg
        cases hg
        refine .inl ⟨a, ns.map V.int, _, .int k, rfl, rfl, rd, ?_, q _ _ (Ext.refl _ _) (.int k)⟩
        unfold atI at z ⊢
        rw [List.length_map]
        cases z2 : ixN ns.length i with
        | none => rw [z2] at z; cases z
        | some j =>
          rw [z2] at z
          have z3 : ns[j]? = some k := z
          show (ns.map V.int)[j]? = some (.int k)
          rw [List.getElem?_map, z3] <;> rfl
  · cases hg

/-! ### slices -/
def DSl (K : PySem.W.Frag) : V → Option Int → Option Int → Hp → VK → Prop := fun x lo hi H Q => ∃ T M d r, (∀ a ∈ M, H a ≠ none) ∧ Dat K T M H x d ∧ dCut lo hi d = some r ∧ ∀ z H', Ext [] H H' → Dat K T M H' z r → Q z H'
theorem cut_whole {α : Type} {xs : List α} {lo hi : Option Int} (h : HT.sIx xs.length 0 lo = 0 ∧ HT.sIx xs.length xs.length hi = xs.length) : cutD xs lo hi = xs := by
  unfold cutD
  rw [h.1, h.2]
  simp
theorem DatL.cut {vs : List V} {ds : List D} (h : DatL K T M H vs ds) (lo hi : Option Int) : DatL K T M H (cutV vs lo hi) (cutD ds lo hi) := by
  unfold cutV cutD
  rw [h.length]
  exact (h.drop _).take _
theorem cut_map {α β : Type} (f : α → β) (xs : List α) (lo hi : Option Int) : cutD (xs.map f) lo hi = (cutD xs lo hi).map f := by
  unfold cutD
  rw [List.length_map, List.map_take, List.map_drop]
theorem cutV_D (xs : List V) (lo hi : Option Int) : cutV xs lo hi = cutD xs lo hi := rfl
theorem d_sl : SlR X (DSl X.K) := by
  refine SlR.imp (SlR.or sl_list sl_tupA) fun x lo hi H Q h => ?_
  obtain ⟨T, M, d, r, hM, hd, hg, q⟩ := h
  unfold dCut at hg
  split at hg
  · cases hg
    obtain ⟨a, xs, rfl, _, _, ha, h1⟩ := hd.sql
    exact .inl ⟨a, xs, rfl, ha, fun p hp => q _ _ (Ext.new hp) (Dat.newL hp hM (h1.cut lo hi))⟩
  · cases hg
    obtain ⟨a, xs, rfl, ha, h1⟩ := hd.sqt
    refine .inr ⟨a, xs, rfl, ha, fun hw => ?_, fun _ p hp => q _ _ (Ext.new hp) (Dat.newT hp hM (h1.cut lo hi))⟩
    rw [h1.length] at hw
    refine q _ _ (Ext.refl _ _) ?_
    rw [cut_whole hw]
    exact hd
  · cases hg
    obtain ⟨a, rfl, rd⟩ := hd.sqs
    · rename_i ns
      refine .inl ⟨a, ns.map V.int, rfl, rd, fun p hp => q _ _ (Ext.new hp) ?_⟩
      rw [cutV_D, cut_map]
      exact Dat.newL hp hM (datL_ints _)
  · cases hg

/-! ### built-in functions -/
def dLen : List D → Option D
  | [.lst xs] => some (.int xs.length)
  | [.tup xs] => some (.int xs.length)
  | [.scr xs] => some (.int xs.length)
  | _ => none
def dTuple : List D → Option D
  | [.lst xs] => some (.tup xs)
  | [.tup xs] => some (.tup xs)
  | _ => none
def dList : List D → Option D
  | [.lst xs] => some (.lst xs)
  | [.tup xs] => some (.lst xs)
  | _ => none
def dSum : List D → Option D
  | [.lst xs] => (dInts xs).map fun ns => .int ns.sum
  | _ => none
def dAll : List D → Option D
  | [.lst xs] => (dBls xs).map fun bs => .bl (bs.all id)
  | _ => none
def dAbs : List D → Option D
  | [.int i] => some (.int (if i < 0 then -i else i))
  | _ => none
def dInt : List D → Option D
  | [.int i] => some (.int i)
  | [.bl b] => some (.int (if b then 1 else 0))
  | _ => none
def dMin2 : List D → Option D
  | [.int i, .int j] => some (.int (if j < i then j else i))
  | _ => none
theorem DatL.one' {vs : List V} {d : D} (h : DatL K T M H vs [d]) : ∃ v, vs = [v] ∧ Dat K T M H v d := by
  cases h with
  | cons h t =>
    cases t
    exact ⟨_, rfl, h⟩
theorem DatL.two' {vs : List V} {d e : D} (h : DatL K T M H vs [d, e]) : ∃ v w, vs = [v, w] ∧ Dat K T M H v d ∧ Dat K T M H w e := by
  cases h with
  | cons h t =>
    obtain ⟨w, rfl, h2⟩ := t.one'
    exact ⟨_, w, rfl, h, h2⟩
theorem d_len : CallR X (.builtin "len") (DC X.K dLen) := by
  refine CallR.imp call_len_seq fun xs H Q h => ?_
  obtain ⟨T, M, ds, r, hM, hd, hg, q⟩ := h
  unfold dLen at hg
  split at hg
  · cases hg
    obtain ⟨v, rfl, h1⟩ := hd.one'
    obtain ⟨a, xs, rfl, _, _, ha, h2⟩ := h1.sql
    refine ⟨a, xs, rfl, .inl ha, q _ _ (Ext.refl _ _) ?_⟩
    rw [h2.length]
    exact .int _
  · cases hg
    obtain ⟨v, rfl, h1⟩ := hd.one'
    obtain ⟨a, xs, rfl, ha, h2⟩ := h1.sqt
    refine ⟨a, xs, rfl, .inr ha, q _ _ (Ext.refl _ _) ?_⟩
    rw [h2.length]
    exact .int _
  · cases hg
    obtain ⟨v, rfl, h1⟩ := hd.one'
    obtain ⟨a, rfl, rd⟩ := h1.sqs
    · refine ⟨_, _, rfl, .inl rd, q _ _ (Ext.refl _ _) ?_⟩
      rw [List.length_map]
      exact .int _
  · cases hg
theorem d_tuple : CallR X (.type "tuple") (DC X.K dTuple) := by
  refine CallR.imp call_tuple_of fun xs H Q h => ?_
  obtain ⟨T, M, ds, r, hM, hd, hg, q⟩ := h
  unfold dTuple at hg
  split at hg
  · cases hg
    obtain ⟨v, rfl, h1⟩ := hd.one'
    obtain ⟨a, xs, rfl, _, _, ha, h2⟩ := h1.sql
    exact ⟨a, xs, rfl, .inl ⟨ha, fun p hp => q _ _ (Ext.new hp) (Dat.newT hp hM h2)⟩⟩
  · cases hg
    obtain ⟨v, rfl, h1⟩ := hd.one'
    obtain ⟨a, xs, rfl, ha, h2⟩ := id h1.sqt
    exact ⟨a, xs, rfl, .inr ⟨ha, q _ _ (Ext.refl _ _) h1⟩⟩
  · cases hg
theorem d_list : CallR X (.type "list") (DC X.K dList) := by
  refine CallR.imp call_list_of fun xs H Q h => ?_
  obtain ⟨T, M, ds, r, hM, hd, hg, q⟩ := h
  unfold dList at hg
  split at hg
  · cases hg
    obtain ⟨v, rfl, h1⟩ := hd.one'
    obtain ⟨a, xs, rfl, _, _, ha, h2⟩ := h1.sql
    exact ⟨a, xs, rfl, .inl ha, fun p hp => q _ _ (Ext.new hp) (Dat.newL hp hM h2)⟩
  · cases hg
    obtain ⟨v, rfl, h1⟩ := hd.one'
    obtain ⟨a, xs, rfl, ha, h2⟩ := h1.sqt
    exact ⟨a, xs, rfl, .inr ha, fun p hp => q _ _ (Ext.new hp) (Dat.newL hp hM h2)⟩
  · cases hg
theorem d_sum (hc : X.calm = true) : CallR X (.builtin "sum") (DC X.K dSum) := by
  refine CallR.imp (cr_sum hc) fun xs H Q h => ?_
  obtain ⟨T, M, ds, r, hM, hd, hg, q⟩ := h
  unfold dSum at hg
  split at hg
  · rename_i es
    cases z : dInts es with
    | none => rw [z] at hg; cases hg
    | some ns =>
      rw [z] at hg
      cases hg
      have e1 := dInts_of z
      subst e1
      obtain ⟨v, rfl, h1⟩ := hd.one'
      obtain ⟨a, xs, rfl, _, _, ha, h2⟩ := h1.sql
      have e2 := h2.ints
      subst e2
      exact ⟨a, ns, rfl, ha, q _ _ (Ext.refl _ _) (.int _)⟩
  · cases hg
theorem d_all (hc : X.calm = true) : CallR X (.builtin "all") (DC X.K dAll) := by
  refine CallR.imp (cr_all hc) fun xs H Q h => ?_
  obtain ⟨T, M, ds, r, hM, hd, hg, q⟩ := h
  unfold dAll at hg
  split at hg
  · rename_i es
    cases z : dBls es with
    | none => rw [z] at hg; cases hg
    | some ns =>
      rw [z] at hg
      cases hg
      have e1 := dBls_of z
      subst e1
      obtain ⟨v, rfl, h1⟩ := hd.one'
      obtain ⟨a, xs, rfl, _, _, ha, h2⟩ := h1.sql
      have e2 := h2.bls
      subst e2
      exact ⟨a, ns, rfl, ha, q _ _ (Ext.refl _ _) (.bl _)⟩
  · cases hg
theorem d_abs : CallR X (.builtin "abs") (DC X.K dAbs) := by
  refine CallR.imp call_abs fun xs H Q h => ?_
  obtain ⟨T, M, ds, r, hM, hd, hg, q⟩ := h
  unfold dAbs at hg
  split at hg
  · cases hg
    obtain ⟨v, rfl, h1⟩ := hd.one'
    cases h1.eqInt
    exact ⟨_, rfl, q _ _ (Ext.refl _ _) (.int _)⟩
  · cases hg
theorem d_int : CallR X (.type "int") (DC X.K dInt) := by
  refine CallR.imp call_int1 fun xs H Q h => ?_
  obtain ⟨T, M, ds, r, hM, hd, hg, q⟩ := h
  unfold dInt at hg
  split at hg
  · cases hg
    obtain ⟨v, rfl, h1⟩ := hd.one'
    cases h1.eqInt
    exact .inl ⟨_, rfl, q _ _ (Ext.refl _ _) (.int _)⟩
  · cases hg
    obtain ⟨v, rfl, h1⟩ := hd.one'
    cases h1.eqBl
    exact .inr ⟨_, rfl, q _ _ (Ext.refl _ _) (.int _)⟩
  · cases hg
theorem d_min2 (hc : X.calm = true) : CallR X (.builtin "min") (DC X.K dMin2) := by
  refine CallR.imp (call_min2 hc) fun xs H Q h => ?_
  obtain ⟨T, M, ds, r, hM, hd, hg, q⟩ := h
  unfold dMin2 at hg
  split at hg
  · cases hg
    obtain ⟨v, w, rfl, h1, h2⟩ := hd.two'
    cases h1.eqInt
    cases h2.eqInt
    exact ⟨_, _, rfl, q _ _ (Ext.refl _ _) (.int _)⟩
  · cases hg
end
end Dry
set_option Elab.async false
set_option linter.all false
set_option maxRecDepth 100000
set_option maxHeartbeats 1000000
/-! DryP: further operations. -/
namespace Dry
open PySem PySem.Spec PyProof.Rows L2

def dAny : List D → Option D
  | [.tup xs] => (dInts xs).map fun ns => .bl (ns.any fun n => n != 0)
  | _ => none
def dLsts : List D → Option (List (List D))
  | [] => some []
  | .lst xs :: r => (dLsts r).map (xs :: ·)
  | _ => none
def dSumL : List D → Option D
  | [.lst xs, .lst []] => (dLsts xs).bind fun yss => if yss.flatten.length ≤ cap then some (.lst yss.flatten) else none
  | _ => none
def dZipD : D → D → Option D
  | .lst xs, .tup ys => (dInts xs).bind fun ns => (dInts ys).bind fun ms => if ns.Nodup ∧ ns.length = ms.length ∧ ns.length ≤ 1000 then some (.dct (ns.zip ms)) else none
  | _, _ => none
def dGet3 : List D → Option D
  | [.dct kvs, .int k, d] => some (match kvs.lookup k with
    | some v => .int v
    | none => d)
  | _ => none
def dRev1 : List D → Option D
  | [d] => dRev d
  | _ => none
/-- a pair (int, tuple of ints) -/
def isPr : D → Bool
  | .tup [.int _, .tup ys] => (dInts ys).isSome
  | _ => false
def dSorted : List D → Option D
  | [.lst xs] => if xs.all isPr = true ∧ xs.length ≤ 1000 then some (.lst (xs.mergeSort fun a b => PySem.W.dataLe false D.py a b)) else none
  | _ => none
def dRows : List D → Option (List (List Int))
  | [] => some []
  | .tup xs :: r => (dInts xs).bind fun ns => (dRows r).map (ns :: ·)
  | _ => none
def dLenSet : List D → Option D
  | [.lst xs] => (dRows xs).bind fun rs => if rs.eraseDups.length ≤ 30 ∧ rs.length ≤ 1000 then some (.int rs.eraseDups.length) else none
  | _ => none
def DM (K : PySem.W.Frag) (g : D → List D → Option D) : V → List V → Hp → VK → Prop := fun x xs H Q => ∃ T M d ds r, (∀ a ∈ M, H a ≠ none) ∧ Dat K T M H x d ∧ DatL K T M H xs ds ∧ g d ds = some r ∧ ∀ z H', Ext [] H H' → Dat K T M H' z r → Q z H'
def dCount : D → List D → Option D
  | .lst xs, [d] => if okB d = true ∧ okB (.lst xs) = true then some (.int (xs.countP fun z => PyData.eqv z.py d.py : Nat)) else none
  | _, _ => none
def dIndex : D → List D → Option D
  | .lst xs, [d] => if okB d = true ∧ okB (.lst xs) = true then (xs.findIdx? fun z => PyData.eqv z.py d.py).map fun j => .int (j : Nat) else none
  | _, _ => none

section
variable {X : Cx} {pos : Pos}
/-- xs.extend(t), t a tuple or a list -/
def rExtA (K : PySem.W.Frag) : V → List V → Hp → VK → Prop := fun x vs H Q => ∃ l b xs zs, x = .ref l ∧ vs = [.ref b] ∧ H l = some (.lst xs) ∧ (SqT K H b zs ∨ (b ≠ l ∧ H b = some (.lst zs))) ∧ xs.length + zs.length ≤ sizeLine ∧ Q .non (upd H l (.lst (xs ++ zs)))
/-! ### what is walked -/
/-- J gives the items, off H1 without M -/
def IData (K : PySem.W.Frag) (T : Option Addr) (M : List Addr) (H1 : Hp) (items : List D) (J : It) : Prop :=
  Walk J items.length (fun H => Ext M H1 H ∧ ∀ a ∈ M, H a ≠ none) (fun i H x H' => Ext [] H H' ∧ ∃ d, items[i]? = some d ∧ ∀ N : List Addr, (∀ a ∈ M, a ∈ N) → (∀ a ∈ N, H1 a ≠ none → a ∈ M) → (∀ a ∈ N, H a ≠ none) → Dat K T N H' x d)
def DI (K : PySem.W.Frag) (g : List D → Option (List D)) : List V → Hp → (It → Hp → Prop) → Prop := fun xs H R => ∃ T M ds items, (∀ a ∈ M, H a ≠ none) ∧ DatL K T M H xs ds ∧ g ds = some items ∧ ∀ J, IData K T M H items J → R J H
def iSeq : List D → Option (List D)
  | [.lst xs] => some xs
  | [.tup xs] => some xs
  | _ => none
def rngD (lo : Int) (n : Nat) : List D := (List.range n).map fun (i : Nat) => .int (lo + (i : Int))
def iRng1' : List D → Option (List D)
  | [.int n] => if -1000000 ≤ n ∧ n ≤ 1000000 then some (rngD 0 n.toNat) else none
  | _ => none
def iRng2' : List D → Option (List D)
  | [.int a, .int b] => if -1000000 ≤ a ∧ a ≤ 1000000 ∧ -1000000 ≤ b ∧ b ≤ 1000000 then some (rngD a (b - a).toNat) else none
  | _ => none
def pairD (p : D × D) : D := .tup [p.1, p.2]
def dItems : D → Option (List D)
  | .lst xs => some xs
  | .tup xs => some xs
  | _ => none
def iZip' : List D → Option (List D)
  | [a, b] => (dItems a).bind fun xs => (dItems b).map fun ys => (xs.zip ys).map pairD
  | _ => none
def enumD (xs : List D) : List D := ((List.range xs.length).zip xs).map fun p => .tup [.int (p.1 : Nat), p.2]
def iEnum' : List D → Option (List D)
  | [a] => (dItems a).map enumD
  | _ => none
variable {tg l a b : Expr} {tl : TE} {ta : TA}
variable {K : PySem.W.Frag} {T : Option Addr} {M : List Addr} {H : Hp}
theorem idata_list {x : Addr} {xs : List V} {ds : List D} (hn : x ∉ M) (h : H x = some (.lst xs)) (hd : DatL K T M H xs ds) : IData K T M H ds (Itl K x) := by
  unfold IData
  rw [← hd.length]
  refine Walk.mono walk_list (fun H' h' => .inl (.inl (h'.1 _ _ hn h))) fun i H' v H'' hi h' y => ?_
  obtain ⟨rfl, e⟩ := y
  obtain ⟨d, h1, h2⟩ := hd.getV e
  exact ⟨Ext.refl _ _, d, h1, fun N n1 n2 _ => (h2.mask n2).keep (h'.1.mono n1)⟩
theorem idata_tup {x : Addr} {xs : List V} {ds : List D} (hn : ∀ H', Ext M H H' → SqT K H' x xs) (hd : DatL K T M H xs ds) : IData K T M H ds (Itt K x) := by
  unfold IData
  rw [← hd.length]
  refine Walk.mono walk_tup (fun H' h' => hn H' h'.1) fun i H' v H'' hi h' y => ?_
  obtain ⟨rfl, e⟩ := y
  obtain ⟨d, h1, h2⟩ := hd.getV e
  exact ⟨Ext.refl _ _, d, h1, fun N n1 n2 _ => (h2.mask n2).keep (h'.1.mono n1)⟩
theorem idata_rng {lo : Int} {n : Nat} : IData K T M H (rngD lo n) (Itr lo n) := by
  unfold IData
  have e : (rngD lo n).length = n := by
    unfold rngD
    rw [List.length_map, List.length_range]
  rw [e]
  refine Walk.mono walk_range (fun _ _ => trivial) fun i H' v H'' hi h' y => ?_
  obtain ⟨rfl, rfl⟩ := y
  refine ⟨Ext.refl _ _, .int (lo + (i : Int)), ?_, fun _ _ _ _ => .int _⟩
  unfold rngD
  rw [List.getElem?_map, List.getElem?_range hi] <;> rfl
/-- a tuple stands still off M -/
theorem Dat.sqtE {v : V} {ds : List D} (h : Dat K T M H v (.tup ds)) : ∃ a xs, v = .ref a ∧ SqT K H a xs ∧ (∀ H', Ext M H H' → SqT K H' a xs) ∧ DatL K T M H xs ds := by
  cases h with
  | tup n r h => exact ⟨_, _, rfl, .inl r, fun H' e => .inl (e.rd n r), h⟩
  | ktup k h => exact ⟨_, _, rfl, .inr k, fun _ _ => .inr k, h⟩
theorem pi_seq (hl : PE X l tl) : PI X tg l (fun σ H R => tl σ H fun x H1 => DI X.K iSeq [x] H1 R) := by
  refine ⟨fun pins s σ H R I h => ?_⟩
  refine thn (hl.run pins s σ H _ I h) fun v s1 ⟨x, H1, I1, r1, q1⟩ => ?_
  obtain ⟨T, M, ds, items, hM, hd, hg, q⟩ := q1
  unfold iSeq at hg
  split at hg
  · cases hg
    obtain ⟨x', e, h1⟩ := hd.one'
    cases e
    obtain ⟨a, xs, rfl, hn, hq, hq', h2⟩ := h1.sql
    cases r1
    obtain ⟨its, rv, p, hz⟩ := I1.list hq'
    refine wpAny_pyIter_list p.isList ?_
    refine ⟨s1.heap.objs.size, [s1.heap.objs.size], _, _, H1, rfl, I1.kept (t' := s1.toks) fun b o e => Heap.get?_push_of_some _ e, turn_list a _, ⟨_, Heap.get?_push_size _ rfl, rfl, rfl⟩, fun b hb => ?_, q _ (idata_list hn hq h2)⟩
    have e : b = s1.heap.objs.size := by simpa using hb
    subst e
    exact I1.fpOk (Nat.le_refl _) (I1.hok.fresh (Nat.le_refl _))
  · cases hg
    obtain ⟨x', e, h1⟩ := hd.one'
    cases e
    obtain ⟨a, xs, rfl, hq, hE, h2⟩ := h1.sqtE
    cases r1
    obtain ⟨its, rv, p, hz⟩ := I1.tuple hq
    refine wpAny_pyIter_tuple (show s1.heap.IsTuple a its.toArray from p) ?_
    refine ⟨s1.heap.objs.size, [s1.heap.objs.size], _, _, H1, rfl, I1.kept (t' := s1.toks) fun b o e => Heap.get?_push_of_some _ e, turn_tuple a _, ⟨_, Heap.get?_push_size _ rfl, rfl, rfl⟩, fun b hb => ?_, q _ (idata_tup hE h2)⟩
    have e : b = s1.heap.objs.size := by simpa using hb
    subst e
    exact I1.fpOk (Nat.le_refl _) (I1.hok.fresh (Nat.le_refl _))
  · cases hg
theorem pi_rng1 {p pos : Pos} (hg : Gl X "range") (hm : X.mg "range" = none) (ha : PA X [a] ta) (hs : starEach [a] X.env = [(false, eval a X.env)]) :
    PI X tg (.Call (.Name "range" p) [a] [] pos) (fun σ H R => ta σ H fun xs H1 => DI X.K iRng1' xs H1 R) := by
  refine ⟨fun pins s σ H R I h => ?_⟩
  refine Call_ (ld_blt I hg hm boot_range (PyProof.Rows.callWith_type1 (thn (ha.run pos pins s σ H _ I h) fun us s1 ⟨vs, H1, I1, r1, q1⟩ => ?_) hs rfl))
  obtain ⟨T, M, ds, items, hM, hd, hgd, q⟩ := q1
  unfold iRng1' at hgd
  split at hgd
  · split at hgd
    · rename_i n hz
      cases hgd
      obtain ⟨x', e, h1⟩ := hd.one'
      cases h1.eqInt
      subst e
      cases r1 with
      | cons r rr =>
        cases rr
        obtain ⟨t, rfl⟩ := r
        exact call_range_1 (range_it I1 (by omega) (by omega) (by omega) (by omega) (by simpa using q _ idata_rng))
    · cases hgd
  · cases hgd
theorem pi_rng2 {p pos : Pos} (hg : Gl X "range") (hm : X.mg "range" = none) (ha : PA X [a, b] ta) (hs : starEach [a, b] X.env = [(false, eval a X.env), (false, eval b X.env)]) (hs2 : starEach [b] X.env = [(false, eval b X.env)]) :
    PI X tg (.Call (.Name "range" p) [a, b] [] pos) (fun σ H R => ta σ H fun xs H1 => DI X.K iRng2' xs H1 R) := by
  refine ⟨fun pins s σ H R I h => ?_⟩
  refine Call_ (ld_blt I hg hm boot_range (PyProof.Rows.callWith_type1 (thn (ha.run pos pins s σ H _ I h) fun us s1 ⟨vs, H1, I1, r1, q1⟩ => ?_) (by rw [hs, hs2]) (by rw [hs2]; rfl)))
  obtain ⟨T, M, ds, items, hM, hd, hgd, q⟩ := q1
  unfold iRng2' at hgd
  split at hgd
  · split at hgd
    · rename_i n m hz
      cases hgd
      obtain ⟨x', y', e, h1, h2⟩ := hd.two'
      cases h1.eqInt
      cases h2.eqInt
      subst e
      cases r1 with
      | cons r rr =>
        cases rr with
        | cons r' rr =>
          cases rr
          obtain ⟨t, rfl⟩ := r
          obtain ⟨t', rfl⟩ := r'
          exact call_range_2 (range_it I1 (by omega) (by omega) (by omega) (by omega) (q _ idata_rng))
    · cases hgd
  · cases hgd
end
end Dry
set_option Elab.async false
set_option linter.all false
set_option maxRecDepth 100000
set_option maxHeartbeats 4000000
set_option autoImplicit false
namespace Dry
open PySem PySem.Spec PyProof.Rows L2
theorem tuple_mul1 (l : Addr) (items : Array Value) (n : Nat) (dd : Option Addr) (sl : Array (Option Value)) (x : Int) (u : Tok) (c0 : (decide (x < -(2 ^ 63)) || decide (x ≥ 2 ^ 63)) = false) (c1 : (items.isEmpty || x == 1) = true) :
    Meets (Builtin.«tuple.__mul__» ⟨[.ref l, .int x u], []⟩) (fun _ R s => s.heap.get? l = some { cls := .type "tuple", dict := dd, data := .seq items n, slots := sl } ∧
      R (.ok (.ret (Value.ref l))) s) :=
  .of_wp fun prog w A R s h => by
    obtain ⟨hp, g, d, tk, os⟩ := s
    obtain ⟨hl, h⟩ := h
    have f1 := AutoSeq1.idx_int
    wp_walk using wpAny_loadPart' hl
    repeat (first
      | (refine wpAny_ite_false (decide_eq_false (by rw [c0]; exact Bool.false_ne_true)) ?_; wp_walk using wpAny_loadPart' hl)
      | (refine wpAny_ite_true (decide_eq_true c1) ?_; wp_walk using wpAny_loadPart' hl))
    exact ⟨_, rfl, h⟩
theorem tuple_mul0 (l : Addr) (items : Array Value) (n : Nat) (dd : Option Addr) (sl : Array (Option Value)) (x : Int) (u : Tok) (c0 : (decide (x < -(2 ^ 63)) || decide (x ≥ 2 ^ 63)) = false) (c1 : (items.isEmpty || x == 1) = false) (c2 : (decide (x ≤ 0) || items.isEmpty) = true) :
    Meets (Builtin.«tuple.__mul__» ⟨[.ref l, .int x u], []⟩) (fun _ R s => s.heap.get? l = some { cls := .type "tuple", dict := dd, data := .seq items n, slots := sl } ∧
      R (.ok (.ret (Value.ref s.heap.objs.size))) { s with heap := s.heap.push { cls := Value.type "tuple", data := Data.seq #[] }, toks := s.toks }) :=
  .of_wp fun prog w A R s h => by
    obtain ⟨hp, g, d, tk, os⟩ := s
    obtain ⟨hl, h⟩ := h
    have f1 := AutoSeq1.idx_int
    wp_walk using wpAny_loadPart' hl
    repeat (first
      | (refine wpAny_ite_false (decide_eq_false (by rw [c0]; exact Bool.false_ne_true)) ?_; wp_walk using wpAny_loadPart' hl)
      | (refine wpAny_ite_false (decide_eq_false (by rw [c1]; exact Bool.false_ne_true)) ?_; wp_walk using wpAny_loadPart' hl)
      | (refine wpAny_ite_true (decide_eq_true c2) ?_; wp_walk using wpAny_loadPart' hl))
    exact ⟨_, rfl, h⟩
section
variable {X : Cx}
theorem mulB_ok {i j : Int} (h : mulB i j = true) : IntMulOk i j := by
  unfold mulB at h
  rcases Bool.or_eq_true_iff.mp h with h | h
  · obtain ⟨h1, h2⟩ := Bool.and_eq_true_iff.mp h
    exact IntMulOk.of_left (intBits_le_64 (of_decide_eq_true h1) (of_decide_eq_true h2))
  · obtain ⟨h1, h2⟩ := Bool.and_eq_true_iff.mp h
    exact IntMulOk.of_right (intBits_le_64 (of_decide_eq_true h1) (of_decide_eq_true h2))
theorem op_mulI : OpR X (binaryOp .Mult) (rI IntMulOk fun i j => .int (i * j)) := opI fun _ _ _ _ _ _ _ hc q => mul_int q hc
def rRep01 (K : PySem.W.Frag) : R2 := fun x y H Q => ∃ l k xs, x = .ref l ∧ y = .int k ∧ SqT K H l xs ∧ xs ≠ [] ∧ 0 ≤ k ∧ k ≤ 1 ∧ if k = 1 then Q (.ref l) H else ∀ p, H p = none → Q (.ref p) (upd H p (.tup []))
theorem op_rep01 : OpR X (binaryOp .Mult) (rRep01 X.K) := by
  intro pins s σ H x y v u Q I rx ry h
  obtain ⟨l, k, xs, rfl, rfl, hT, hne, h1, h2, q⟩ := h
  cases rx
  obtain ⟨t, rfl⟩ := ry
  obtain ⟨its, r, ⟨⟨cls, dd, data, sl⟩, ho, hc, n, hd⟩, hs⟩ := I.tuple hT
  simp only at hc hd
  subst hc hd
  have hle : its.length = xs.length := r.length.symm
  have hn : its ≠ [] := fun e => hne (by
    rw [e] at hle
    exact List.eq_nil_of_length_eq_zero hle.symm)
  have hi : its.toArray.isEmpty = false := by
    cases its with
    | nil => exact absurd rfl hn
    | cons a b => rfl
  have c0 : (decide (k < -(2 ^ 63)) || decide (k ≥ 2 ^ 63)) = false := by
    rw [decide_eq_false (by omega), decide_eq_false (by omega)] <;> rfl
  by_cases hk : k = 1
  · rw [if_pos hk] at q
    have c1 : (its.toArray.isEmpty || k == 1) = true := by
      rw [hk]
      exact Bool.or_true _
    exact wpAny_binaryOp_repeat_ref (T := "tuple") (U := "int") (by decide) ⟨_, ho, rfl⟩ (fun s' => typeIs_int s' k t) noFill_tuple_mul PySem.F.fills_int_mul PySem.F.slot_int_rmul repeat_tuple PySem.F.slot_int_index.lookup
      (call_meets PySem.F.slot_int_rmul (typeIs_int s k t) PySem.F.entry_int_rmul (PySem.F.args_int_rmul_2 _ _) (int_rmul_tuple k t l its.toArray n dd sl)
        ⟨ho, rfl, ⟨_, ho, rfl⟩, call_meets PySem.F.slot_tuple_mul ⟨_, ho, rfl⟩ PySem.F.entry_tuple_mul (PySem.F.args_tuple_mul_2 _ _) (tuple_mul1 l its.toArray n dd sl k t c0 c1) ⟨ho, ⟨.ref l, H, I, rfl, q⟩⟩⟩)
  · rw [if_neg hk] at q
    have c1 : (its.toArray.isEmpty || k == 1) = false := by
      rw [hi, Bool.false_or]
      exact beq_eq_false_iff_ne.mpr hk
    have c2 : (decide (k ≤ 0) || its.toArray.isEmpty) = true := by
      rw [decide_eq_true (by omega)]
      rfl
    refine wpAny_binaryOp_repeat_ref (T := "tuple") (U := "int") (by decide) ⟨_, ho, rfl⟩ (fun s' => typeIs_int s' k t) noFill_tuple_mul PySem.F.fills_int_mul PySem.F.slot_int_rmul repeat_tuple PySem.F.slot_int_index.lookup
      (call_meets PySem.F.slot_int_rmul (typeIs_int s k t) PySem.F.entry_int_rmul (PySem.F.args_int_rmul_2 _ _) (int_rmul_tuple k t l its.toArray n dd sl)
        ⟨ho, rfl, ⟨_, ho, rfl⟩, call_meets PySem.F.slot_tuple_mul ⟨_, ho, rfl⟩ PySem.F.entry_tuple_mul (PySem.F.args_tuple_mul_2 _ _) (tuple_mul0 l its.toArray n dd sl k t c0 c1 c2) ⟨ho, ?_⟩⟩)
    refine ⟨.ref s.heap.objs.size, _, I.laid (t' := s.toks) (o := .tup []) (fun b ob q => Heap.get?_push_of_some _ q) (Nat.le_refl _) ?_, rfl, q _ (I.hok.fresh (Nat.le_refl _))⟩
    exact ⟨Nat.zero_le _, [], .nil, IsTup.new _ _⟩
theorem p_mul : OpR X (binaryOp .Mult) (DR2 X.K dMul) := by
  intro pins s σ H x y v u Q I rx ry h
  obtain ⟨T, M, d, e, r, hM, hd, he, hg, q⟩ := h
  unfold dMul at hg
  split at hg
  · split at hg
    · rename_i i j hm
      cases hg
      cases hd.eqInt
      cases he.eqInt
      exact op_mulI pins s σ H _ _ v u Q I rx ry ⟨i, j, rfl, rfl, mulB_ok hm, q _ _ (Ext.refl _ _) (.int _)⟩
    · cases hg
  · split at hg
    · rename_i ds k hc
      obtain ⟨hne, k0, k1, hl⟩ := hc
      cases hg
      cases he.eqInt
      obtain ⟨a, xs, rfl, ha, h1⟩ := hd.sqt
      have hne' : xs ≠ [] := fun z => hne (by
        have := h1.length
        rw [z] at this
        exact List.eq_nil_of_length_eq_zero this.symm)
      by_cases hk : 2 ≤ k
      · exact op_repT pins s σ H _ _ v u Q I rx ry ⟨a, k, xs, rfl, rfl, ha, hne', hk, k1, by rw [h1.length]; exact hl, fun p hp => q _ _ (Ext.new hp) (Dat.newT hp hM (h1.rep _))⟩
      · refine op_rep01 pins s σ H _ _ v u Q I rx ry ⟨a, k, xs, rfl, rfl, ha, hne', k0, by omega, ?_⟩
        by_cases hk1 : k = 1
        · rw [if_pos hk1]
          refine q _ _ (Ext.refl _ _) ?_
          rw [hk1]
          have e : (List.replicate (1 : Int).toNat ds).flatten = ds := by simp
          rw [e]
          exact hd
        · rw [if_neg hk1]
          intro p hp
          have hz : k = 0 := by omega
          refine q _ _ (Ext.new hp) ?_
          rw [hz]
          exact Dat.newT hp hM .nil
    · cases hg
  · cases hg
end
end Dry
set_option Elab.async false
set_option linter.all false
set_option maxRecDepth 100000
set_option maxHeartbeats 4000000
set_option autoImplicit false
namespace Dry
open PySem PySem.Spec PyProof.Rows L2
theorem plain_ints : ∀ ns : List Int, PyData.plainAll (ns.map PyData.int) = true
  | [] => rfl
  | _ :: ns => plain_ints ns
section
variable {X : Cx}
theorem p_any (hc : X.calm = true) : CallR X (.builtin "any") (DC X.K dAny) := by
  intro pins s σ H vs us Q I r h
  obtain ⟨T, M, ds, rr, hM, hd, hg, q⟩ := h
  unfold dAny at hg
  split at hg
  · rename_i es
    cases z : dInts es with
    | none => rw [z] at hg; cases hg
    | some ns =>
      rw [z] at hg
      cases hg
      have e1 := dInts_of z
      subst e1
      obtain ⟨v, rfl, h1⟩ := hd.one'
      obtain ⟨a, xs, rfl, ha, h2⟩ := h1.sqt
      have e2 := h2.ints
      subst e2
      obtain ⟨its, rv, hl, hle⟩ := I.tuple ha
      rw [Vals.ref1 r]
      have hints := rv.ints
      obtain ⟨as, hr⟩ : ∃ as, ReadsAll s.heap its (ns.map PyData.int) as := by
        have hh : IntsAre its ns := hints
        clear hl h2 h1 hd q r rv z ha hints hle
        induction hh with
        | nil => exact ⟨[], .nil⟩
        | cons n t _ ih =>
          obtain ⟨as, h⟩ := ih
          exact ⟨_, .cons (.int n t) h⟩
      refine PySem.W.any_tuple_data (I.ok.hd hc) (show s.heap.IsTuple a its.toArray from hl) hr ?_ ?_ fun h' tk hk => ?_
      · exact plain_ints ns
      · intro x hx
        obtain ⟨n, _, rfl⟩ := List.mem_map.mp hx
        trivial
      · refine ⟨.bl _, H, I.kept fun b o eo => hk b o eo, ?_, q _ _ (Ext.refl _ _) (.bl _)⟩
        show Value.bool _ = Value.bool _
        rw [List.any_map]
        rfl
  · cases hg
theorem p_count (hu : X.A.units + 65 < cLine) : MtR X "list.count" (DM X.K dCount) := by
  intro pins s σ H x xs v us Q I rx rxs h
  obtain ⟨T, M, d, ds, r, hM, hd, hds, hg, q⟩ := h
  unfold dCount at hg
  split at hg
  · rename_i es e
    split at hg
    · rename_i ho
      cases hg
      obtain ⟨sd, sl⟩ := ho
      obtain ⟨pd, sd⟩ := Bool.and_eq_true_iff.mp sd
      obtain ⟨pl, sl⟩ := Bool.and_eq_true_iff.mp sl
      obtain ⟨y, rfl, hy0⟩ := hds.one'
      have hl := hd.dp pl
      have hy := hy0.dp pd
      cases rxs with
      | cons ry rt =>
        rename_i uy ut
        cases rt
        obtain ⟨bs, r1⟩ := Dp.reads I e.py y uy hy ry
        have hxs : PyData.canLayAll0 (D.pys es) = true := SeqAt.canLay_of_shaped sl
        have hroom : X.A.units + 1 + min (PyData.depthAll (D.pys es)) e.py.depth < cLine := room_in_shaped sd hu
        cases hl with
        | lst hs ha =>
          cases rx
          obtain ⟨its, rv, ⟨⟨cls, dd, data, sls⟩, n, ho, hc, hdn, hdt⟩, hlen⟩ := I.list hs
          simp only at hc hdt
          subst hc hdt
          obtain ⟨as, h4⟩ := Dp.readsAll I (D.pys es) _ its ha rv
          have hmap : its.map (SeqAt.readOf s.heap) = D.pys es := SeqAt.readsAll_map (D.pys es) its as hxs h4
          refine call_meets PySem.F.slot_list_count ⟨_, ho, rfl⟩ PySem.F.entry_list_count (PySem.F.args_list_count_2 _ _)
            (SeqAt.list_countAt _ its.toArray n dd sls uy (fun u => PyData.eqv (SeqAt.readOf s.heap u) e.py)) ⟨ho, SeqAt.items_eqAt (vs := its.toArray) (show ReadsAll s.heap its.toArray.toList (D.pys es) as from h4) r1 hxs (SeqAt.canLay_of_shaped sd) hroom, ?_⟩
          refine ⟨.int ((its.countP fun u => PyData.eqv (SeqAt.readOf s.heap u) e.py : Nat) : Int), H, I.tok _, ⟨_, rfl⟩, ?_⟩
          have e2 : its.countP (fun u => PyData.eqv (SeqAt.readOf s.heap u) e.py) = es.countP fun z => PyData.eqv z.py e.py := by
            have : (its.map (SeqAt.readOf s.heap)).countP (fun z => PyData.eqv z e.py) = (D.pys es).countP (fun z => PyData.eqv z e.py) := by rw [hmap]
            rw [List.countP_map, D.pys_map, List.countP_map] at this
            exact this
          show Q (.int ((its.countP fun u => PyData.eqv (SeqAt.readOf s.heap u) e.py : Nat) : Int)) H
          rw [e2]
          exact q _ _ (Ext.refl _ _) (.int _)
    · cases hg
  · cases hg
theorem p_index (hu : X.A.units + 65 < cLine) : MtR X "list.index" (DM X.K dIndex) := by
  intro pins s σ H x xs v us Q I rx rxs h
  obtain ⟨T, M, d, ds, r, hM, hd, hds, hg, q⟩ := h
  unfold dIndex at hg
  split at hg
  · rename_i es e
    split at hg
    · rename_i ho
      obtain ⟨sd, sl⟩ := ho
      obtain ⟨pd, sd⟩ := Bool.and_eq_true_iff.mp sd
      obtain ⟨pl, sl⟩ := Bool.and_eq_true_iff.mp sl
      obtain ⟨y, rfl, hy0⟩ := hds.one'
      have hl := hd.dp pl
      have hy := hy0.dp pd
      cases z : es.findIdx? fun z => PyData.eqv z.py e.py with
      | none =>
        rw [z] at hg
        cases hg
      | some j =>
        rw [z] at hg
        cases hg
        obtain ⟨hj, h1, h2⟩ := List.findIdx?_eq_some_iff_getElem.mp z
        obtain ⟨a, _, rfl, _⟩ := hd.sql
        refine mt_indexD hu pins s σ H _ _ v us Q I rx rxs ⟨a, y, e.py, D.pys es, j, es[j].py, rfl, rfl, hl, hy, sl, sd, ?_, h1, fun m z' hm hz' => ?_, q _ _ (Ext.refl _ _) (.int _)⟩
        · rw [D.pys_map, List.getElem?_map, List.getElem?_eq_getElem hj]
          rfl
        · rw [D.pys_map, List.getElem?_map, List.getElem?_eq_getElem (Nat.lt_trans hm hj)] at hz'
          cases hz'
          have := h2 m hm
          simpa using this
    · cases hg
  · cases hg
end
end Dry
set_option Elab.async false
set_option linter.all false
set_option maxRecDepth 100000
set_option maxHeartbeats 4000000
set_option autoImplicit false
namespace Dry
open PySem PySem.Spec PyProof.Rows L2
section
variable {prog : Program} {w : World} {A : Around} {E : Value → Shared → Prop} {s : Shared}
theorem sliceApplied_rev {sl : Addr} {vl vu vs : Value} {n : Nat} {Q : Int × Int × Nat → Shared → Prop} (hs : s.heap.IsSliceOf sl vl vu vs) (pl : IsPart vl none) (pu : IsPart vu none) (ps : IsPart vs (some (-1)))
    (h : Q (((n : Int) - 1), -1, n) s) : wpAny (model prog w) A (Builtin.Slice.sliceApplied (.ref sl) (pure (n : Int))) Q E s := by
  obtain ⟨os, hos, hcs, hds⟩ := id hs
  unfold Builtin.Slice.sliceApplied Builtin.Slice.sliceFields
  refine wpAny_bind (wpAny_bind (wpAny_field hos hds (x := vl) rfl (wpAny_bind (wpAny_field hos hds (x := vu) rfl (wpAny_bind (wpAny_field hos hds (x := vs) rfl (wpAny_pure ?_)))))))
  refine wpAny_bind (HT.slicePart_ ps ?_)
  show wpAny _ _ (if ((-1 : Int) == 0) = true then _ else _) _ _ s
  rw [if_neg (by decide)]
  refine wpAny_bind (HT.slicePart_ pl (wpAny_bind (HT.slicePart_ pu (wpAny_bind (wpAny_pure ?_)))))
  show wpAny _ _ (match Builtin.Slice.sliceAdjust none none (-1) (n : Int) with | (lo, hi) => pure (lo, (-1 : Int), Builtin.Slice.slicePlaces lo hi (-1))) _ _ s
  have e : Builtin.Slice.sliceAdjust none none (-1) (n : Int) = ((n : Int) - 1, -1) := by
    unfold Builtin.Slice.sliceAdjust
    simp
  rw [e]
  have e2 : Builtin.Slice.slicePlaces ((n : Int) - 1) (-1) (-1) = n := by
    unfold Builtin.Slice.slicePlaces
    have h1 : ¬ ((-1 : Int) > 0) := by omega
    simp only [h1, if_false]
    have e3 : (- (-1 : Int)) = 1 := rfl
    rw [e3, Int.ediv_one]
    split <;> omega
  show wpAny _ _ (pure ((n : Int) - 1, (-1 : Int), Builtin.Slice.slicePlaces ((n : Int) - 1) (-1) (-1))) _ _ s
  rw [e2]
  exact wpAny_pure h
theorem pick_rev (xs : Array Value) : ((List.range xs.size).filterMap fun (m : Nat) => xs[(((xs.size : Int) - 1) + (m : Int) * (-1)).toNat]?).toArray = xs.toList.reverse.toArray := by
  congr 1
  have e : (fun (m : Nat) => xs[(((xs.size : Int) - 1) + (m : Int) * (-1)).toNat]?) = (fun m => xs[xs.size - 1 - m]?) := by
    funext m
    have : (((xs.size : Int) - 1) + (m : Int) * (-1)).toNat = xs.size - 1 - m := by omega
    rw [this]
  rw [e]
  have e2 : (List.range xs.size).filterMap (fun m => xs[xs.size - 1 - m]?) = ((List.range xs.size).map (fun m => xs.size - 1 - m)).filterMap (xs[·]?) := by
    rw [List.filterMap_map]
    rfl
  rw [e2, PySem.W.krv_range, List.filterMap_reverse, PySem.W.krv_all]
theorem getItem_tuple_rev {t sl : Addr} {items : Array Value} {vl vu vs : Value} {Q : Value → Shared → Prop} (ht : IsTup s.heap t items) (hs : s.heap.IsSliceOf sl vl vu vs) (pl : IsPart vl none) (pu : IsPart vu none) (ps : IsPart vs (some (-1)))
    (h : Q (.ref s.heap.objs.size) { s with heap := s.heap.push { cls := .type "tuple", data := .seq items.toList.reverse.toArray } })
    (hsz : items.size ≤ sizeLine) : wpAny (model prog w) A (getItem (.ref t) (.ref sl)) Q E s := by
  have htake : sizeOk (.seq items.toList.reverse.toArray) := by
    show items.toList.reverse.toArray.size ≤ sizeLine
    rw [List.size_toArray, List.length_reverse, Array.length_toList]
    exact hsz
  obtain ⟨os, hos, hcs, hds⟩ := id hs
  have hTs : s.TypeIs (.ref sl) "slice" := ⟨os, hos, hcs⟩
  unfold getItem
  try with_reducible refine wpAny_holding ?_
  first | refine wpAny_bind (wpAny_pure ?_) | skip
  refine wpAny_bind (wpAny_sequenceKey ht.typeIs (by decide) ?_)
  refine wpAny_bind (wpAny_callSpecial?_slot (name := Str.ofString "__getitem__") ht.typeIs PyProof.Rows.slot_tuple_getitem
    (wpAny_call_entry PyProof.Rows.slot_tuple_getitem ht.typeIs entry_tuple_getitem ?_ (args_tuple_getitem _ _)))
  show wpAny _ _ (Builtin.Tuple.tupleItemsOf (.ref t) >>= _) _ _ s
  refine wpAny_bind (tupleItemsOf_ ht ?_)
  refine wpAny_bind (wpAny_typeOf hTs ?_)
  rw [if_pos (by decide)]
  refine wpAny_bind (sliceApplied_rev hs pl pu ps ?_)
  have hno : ¬ ((((items.size : Int) - 1) == 0 && (-1 : Int) == 1 && items.size == items.size) = true) := by
    intro q
    rw [Bool.and_eq_true, Bool.and_eq_true] at q
    exact absurd q.1.2 (by decide)
  show wpAny _ _ (if (((items.size : Int) - 1) == 0 && (-1 : Int) == 1 && items.size == items.size) = true then _ else _) _ _ s
  rw [if_neg hno, pick_rev]
  first
    | exact wpAny_bind (m := Builtin.Tuple.tupleExact _) (wpAny_newObj_type (wpAny_pure ⟨_, rfl, wpAny_pure h⟩) htake)
    | exact wpAny_bind (m := Builtin.Tuple.tupleExact _) (wpAny_newObj_type (wpAny_bind (wpAny_pure (wpAny_pure ⟨_, rfl, wpAny_pure h⟩))) htake)
    | exact wpAny_bind (wpAny_bind (m := Builtin.Tuple.tupleExact _) (wpAny_newObj_type (wpAny_pure (wpAny_pure ⟨_, rfl, wpAny_pure h⟩)) htake))
    | exact wpAny_bind (wpAny_bind (m := Builtin.Tuple.tupleExact _) (wpAny_newObj_type (wpAny_pure ⟨_, rfl, wpAny_pure h⟩) htake))
end
section
variable {X : Cx} {pos : Pos}
theorem p_rev {e : Expr} {te : TE} {k : Nat} {p1 p2 p3 pos : Pos} (he : PE X e te) :
    PE X (.Subscript e (.Slice none none (some (.UnaryOp .USub (.Constant (.int 1) k p1) p2)) p3) pos) (fun σ H Q => te σ H fun x H1 => DC X.K dRev1 [x] H1 Q) := by
  refine ⟨fun pins s σ H Q I h => ?_⟩
  refine Subscript_ (thn (he.run pins s σ H _ I h) fun v s1 ⟨x, H1, I1, r1, q1⟩ => ?_)
  obtain ⟨T, M, ds, r, hM, hd, hg, q⟩ := q1
  have hst : PO X (some (.UnaryOp .USub (.Constant (.int 1) k p1) p2)) (tPart (tUn (rU fun i => .int (-i)) (tC (.int 1)))) := po_some (pe_un un_neg pe_int)
  refine wpAny_Slice (thn (po_none.run pins s1 σ H1 (fun o H2 => o = none ∧ H2 = H1) I1 ⟨rfl, rfl⟩) fun vl s2 ⟨l, H2, I2, pl, el, e2⟩ => ?_)
  subst el e2
  refine thn (po_none.run pins s2 σ H2 (fun o H3 => o = none ∧ H3 = H2) I2 ⟨rfl, rfl⟩) fun vu s3 ⟨u, H3, I3, pu, eu, e3⟩ => ?_
  subst eu e3
  refine thn (hst.run pins s3 σ H3 (fun o H4 => o = some (-1) ∧ H4 = H3) I3 ⟨1, rfl, -1, rfl, rfl, rfl⟩) fun vs s4 ⟨o, H4, I4, ps, eo, e4⟩ => ?_
  subst eo e4
  have I5 : Inv X pins σ H4 { s4 with heap := s4.heap.push { cls := .type "slice", data := .fields #[vl, vu, vs] } } := I4.kept (t' := s4.toks) fun b ob q => Heap.get?_push_of_some _ q
  obtain ⟨x', ex, h1⟩ : ∃ d, ds = [d] ∧ Dat X.K T M H4 x d := by
    cases hd with
    | cons h t =>
      cases t
      exact ⟨_, rfl, h⟩
  subst ex
  have hg : dRev x' = some r := hg
  unfold dRev at hg
  split at hg
  · cases hg
    obtain ⟨a, xs, rfl, hn, hq, hx, h2⟩ := h1.sql
    cases r1
    obtain ⟨its, r, ht, hz⟩ := I5.list hx
    have hlen := r.length
    show wpAny (model X.prog X.w) X.A (subscriptTail e (.Slice none none (some (.UnaryOp .USub (.Constant (.int 1) k p1) p2)) p3) (.ref a) (.ref s4.heap.objs.size)) (EP X pins σ Q) X.xe { s4 with heap := s4.heap.push { cls := .type "slice", data := .fields #[vl, vu, vs] } }
    refine tail_any (ops := [.ref a, .ref s4.heap.objs.size]) ht.isList.typeIs (PySem.slot_list_getitem.lookup) ?_ (by with_unfolding_all rfl)
    refine wpAny_getItem_list_slice ht.isList (Heap.IsSliceOf.new _ vl vu vs) pl pu ps (by decide) ?_ (by rw [List.size_toArray]; omega)
    rw [PySem.W.krv_pick]
    refine ⟨.ref _, _, I5.laid (t' := s4.toks) (o := .lst xs.reverse) (fun b ob q => Heap.get?_push_of_some _ q) (Nat.le_refl _) ?_, rfl, q _ _ (Ext.new (I5.hok.fresh (Nat.le_refl _))) (Dat.newL (I5.hok.fresh (Nat.le_refl _)) hM h2.reverse)⟩
    exact ⟨by rw [List.length_reverse]; exact hz, _, 0, r.reverse, Heap.get?_push_size _ rfl⟩
  · cases hg
    obtain ⟨a, xs, rfl, hx, h2⟩ := h1.sqt
    cases r1
    obtain ⟨its, r, ht, hz⟩ := I5.tuple hx
    have hlen := r.length
    show wpAny (model X.prog X.w) X.A (subscriptTail e (.Slice none none (some (.UnaryOp .USub (.Constant (.int 1) k p1) p2)) p3) (.ref a) (.ref s4.heap.objs.size)) (EP X pins σ Q) X.xe { s4 with heap := s4.heap.push { cls := .type "slice", data := .fields #[vl, vu, vs] } }
    refine tail_any (ops := [.ref a, .ref s4.heap.objs.size]) (IsTup.typeIs ht) (PyProof.Rows.slot_tuple_getitem.lookup) ?_ (by with_unfolding_all rfl)
    refine getItem_tuple_rev ht (Heap.IsSliceOf.new _ vl vu vs) pl pu ps ?_ (by rw [List.size_toArray]; omega)
    refine ⟨.ref _, _, I5.laid (t' := s4.toks) (o := .tup xs.reverse) (fun b ob q => Heap.get?_push_of_some _ q) (Nat.le_refl _) ?_, rfl, q _ _ (Ext.new (I5.hok.fresh (Nat.le_refl _))) (Dat.newT (I5.hok.fresh (Nat.le_refl _)) hM h2.reverse)⟩
    exact ⟨by rw [List.length_reverse]; exact hz, _, r.reverse, IsTup.new _ _⟩
  · cases hg
theorem list_extend_tup (l : Addr) (items : Array Value) (n : Nat) (b : Addr) (items2 : Array Value) (n2 : Nat) (dd : Option Addr) (sl : Array (Option Value)) (hs0 : ¬(!items.isEmpty && Builtin.List.listTooLong (items.size + items2.size)) = true) (hs1 : items.size ≤ sizeLine) (hs2 : items.size + items2.size ≤ sizeLine + 1) :
    Meets (Builtin.«list.extend» ⟨[.ref l, .ref b], []⟩) (fun _ R s => s.heap.get? l = some { cls := .type "list", dict := none, data := .seq items n, slots := #[] } ∧ s.heap.get? b = some { cls := .type "tuple", dict := dd, data := .seq items2 n2, slots := sl } ∧ R (.ok (.ret Value.none)) { s with heap := s.heap.update l (Obj.mapSeq fun x => x ++ items2), toks := s.toks }) :=
  .of_wp fun prog w A R s h => by
    obtain ⟨hp, g, d, tk, os⟩ := s; obtain ⟨hl, hb, h⟩ := h; have f1 := AutoSeq1.idx_int; have f2 := AutoSeq1.sub_tuple_tuple; have f3 := AutoSeq1.sub_list_list; have f4 := AutoSeq1.sub_tuple_list; have f5 := AutoSeq1.sub_list_tuple;
    have hz' : (items ++ items2).size ≤ sizeLine + 1 := by rw [Array.size_append]; exact hs2
    wp_walk using (wpAny_updateSeq hl rfl (hz := hs1) (_hz' := hz')), wpAny_loadPart' hl, wpAny_loadPart' hb; exact ⟨_, rfl, h⟩
theorem p_ext : MtM X "list.extend" (rExtA X.K) := by
  intro pins s σ H x vs v us Q I rx rv h
  obtain ⟨l, b, xs, zs, rfl, rfl, hH, hB, hz, q⟩ := h
  rcases hB with hB | ⟨_, hB⟩
  · cases rx
    obtain ⟨u, rfl, ru⟩ := rv.one
    cases ru
    obtain ⟨z, its, n, r, hl, e⟩ := I.lstM hH
    obtain ⟨its2, r2, ⟨⟨cls, dd, data, sl⟩, e2, hc, n2, hd⟩, hl2⟩ := I.tuple hB
    simp only at hc hd
    subst hc hd
    have hl2' := r2.length
    have hsz : its.toArray.size + its2.toArray.size ≤ sizeLine := by rw [List.size_toArray, List.size_toArray]; omega
    have hlong : ¬ (!its.toArray.isEmpty && Builtin.List.listTooLong (its.toArray.size + its2.toArray.size)) = true := by
      rw [notLongL hsz, Bool.and_false]
      exact Bool.false_ne_true
    refine call_meets PySem.F.slot_list_extend ⟨_, e, rfl⟩ PySem.F.entry_list_extend (PySem.F.args_list_extend_2 _ _)
      (list_extend_tup l its.toArray n b its2.toArray n2 dd sl hlong (by rw [List.size_toArray]; omega) (by omega)) ⟨e, e2, ?_⟩
    refine ⟨.non, _, I.lset (its' := its ++ its2) hH e (by simp) (r.append r2) ?_, rfl, q⟩
    rw [List.length_append]
    omega
  · exact mt_extend pins s σ H _ _ v us Q I rx rv ⟨l, b, xs, zs, rfl, rfl, hH, hB, hz, q⟩
end
end Dry
set_option Elab.async false
set_option linter.all false
set_option maxRecDepth 100000
set_option maxHeartbeats 4000000
set_option autoImplicit false
namespace Dry
open PySem PySem.Spec PyProof.Rows L2
theorem isPr_of {d : D} (h : isPr d = true) : ∃ (i : Int) (ns : List Int), d = .tup [.int i, .tup (ns.map D.int)] := by
  unfold isPr at h
  split at h
  · rename_i i ys
    cases z : dInts ys with
    | none =>
      have h : (dInts ys).isSome = true := h
      rw [z] at h
      cases h
    | some ns => exact ⟨i, ns, by rw [dInts_of z]⟩
  · cases h
theorem pys_ints : ∀ ns : List Int, D.pys (ns.map D.int) = ns.map PyData.int
  | [] => rfl
  | n :: ns => by
    show PyData.int n :: D.pys (ns.map D.int) = PyData.int n :: ns.map PyData.int
    rw [pys_ints ns]
theorem pures_ints : ∀ ns : List Int, D.pures (ns.map D.int) = true
  | [] => rfl
  | n :: ns => pures_ints ns
theorem pr_py (i : Int) (ns : List Int) : (D.tup [.int i, .tup (ns.map D.int)]).py = .tuple [.int i, .tuple (ns.map PyData.int)] := by
  show PyData.tuple [.int i, .tuple (D.pys (ns.map D.int))] = _
  rw [pys_ints]
section
variable {X : Cx}
theorem each_of {K : PySem.W.Frag} {T : Option Addr} {M : List Addr} {H : Hp} {xs : List V} {its : List Value} {es : List D} (rv : Vals xs its) (hd : DatL K T M H xs es) : PySem.W.EachIs (fun v b => ∃ x, RelV x v ∧ Dat K T M H x b) its es := by
  induction rv generalizing es with
  | nil =>
    cases hd
    exact .nil
  | cons r _ ih =>
    cases hd with
    | cons h t => exact .cons ⟨_, r, h⟩ (ih t)
theorem of_each {K : PySem.W.Frag} {T : Option Addr} {M : List Addr} {H : Hp} : ∀ {its : List Value} {es : List D}, PySem.W.EachIs (fun v b => ∃ x, RelV x v ∧ Dat K T M H x b) its es → ∃ xs, Vals xs its ∧ DatL K T M H xs es
  | _, _, .nil => ⟨[], .nil, .nil⟩
  | _, _, .cons ⟨x, r, h⟩ t => by
    obtain ⟨xs, a, b⟩ := of_each t
    exact ⟨x :: xs, .cons r a, .cons h b⟩
theorem p_sorted (hc : X.calm = true) (hu : X.A.units + 65 < cLine) : CallR X (.builtin "sorted") (DC X.K dSorted) := by
  intro pins s σ H vs us Q I r h
  obtain ⟨T, M, ds, rr, hM, hd, hg, q⟩ := h
  unfold dSorted at hg
  split at hg
  · rename_i es
    split at hg
    · rename_i hcond
      obtain ⟨hpr, hlen⟩ := hcond
      cases hg
      obtain ⟨v, rfl, h1⟩ := hd.one'
      obtain ⟨a, xs, rfl, hn, hq, hx, h2⟩ := h1.sql
      obtain ⟨its, rv, hl, hz⟩ := I.list hx
      rw [Vals.ref1 r]
      have hp : ∀ d ∈ es, ∃ (i : Int) (ns : List Int), d = .tup [.int i, .tup (ns.map D.int)] := fun d hd => isPr_of (List.all_eq_true.mp hpr d hd)
      have e := each_of rv h2
      have hln := h2.length
      have hln2 := rv.length
      have er : PySem.W.EachIs (fun v b => ∃ as, Reads s.heap v (D.py b) as) its es := by
        have pure : ∀ d ∈ es, d.pure = true := fun d hd => by
          obtain ⟨i, ns, rfl⟩ := hp d hd
          show (true && (D.pures (ns.map D.int) && true)) = true
          rw [pures_ints] <;> rfl
        clear hp hpr hln hln2 hl rv hz h2 hx hq h1 hd q hlen r
        induction e with
        | nil => exact .nil
        | cons h t ih =>
          obtain ⟨x, r, hd⟩ := h
          refine .cons (Dp.reads I _ x _ (hd.dp (pure _ (List.mem_cons_self ..))) r) (ih fun d hd => pure d (List.mem_cons_of_mem _ hd))
      refine PySem.W.sorted_data (R := fun v b => ∃ x, RelV x v ∧ Dat X.K T M H x b) (enc := D.py) hl.isList e er ?_ ?_ ?_ ?_ fun out ho eo => ?_
      · intro d hd d' hd'
        obtain ⟨b, hb, rfl⟩ := List.mem_map.mp hd
        obtain ⟨b', hb', rfl⟩ := List.mem_map.mp hd'
        obtain ⟨i, ns, rfl⟩ := hp b hb
        obtain ⟨j, ms, rfl⟩ := hp b' hb'
        rw [pr_py, pr_py]
        simp [PySem.W.alike, PySem.W.alikeAll, PySem.W.alike_ints]
      · exact .inl fun d hd => by
          obtain ⟨b, hb, rfl⟩ := List.mem_map.mp hd
          obtain ⟨i, ns, rfl⟩ := hp b hb
          exact ⟨_, _, pr_py i ns⟩
      · exact cap_line (Nat.le_trans hlen (by decide))
      · intro b hb
        obtain ⟨i, ns, rfl⟩ := hp b hb
        rw [pr_py]
        have : (PyData.tuple [.int i, .tuple (ns.map PyData.int)]).depth ≤ 3 := by
          simp [PyData.depth, PyData.depthAll, PySem.W.depth_ints]
        omega
      · obtain ⟨ep, he'⟩ := PyProof.Rows.sortedAll_at s.heap its out.toArray
        obtain ⟨ys, rv', hd'⟩ := of_each eo
        have hlen' : ys.length ≤ sizeLine := by
          rw [rv'.length, ho]
          exact cap_line (Nat.le_trans hlen (by decide))
        exact ⟨.ref _, upd H (s.heap.objs.size + 1) (.lst ys), I.laid (t' := s.toks) (fun _ _ => PyProof.Rows.sortedAll_old) (Nat.le_succ _) ⟨hlen', out, ep, rv', he'⟩, rfl,
          q _ _ (Ext.new (I.hok.fresh (Nat.le_succ _))) (Dat.newL (I.hok.fresh (Nat.le_succ _)) hM hd')⟩
    · cases hg
  · cases hg
end
end Dry
set_option Elab.async false
set_option linter.all false
set_option maxRecDepth 100000
set_option maxHeartbeats 4000000
set_option autoImplicit false
namespace Dry
open PySem PySem.Spec PyProof.Rows L2
/-! lists and tuples alike: false a list, true a tuple -/
def SqK (k : Bool) (K : PySem.W.Frag) (H : Hp) (a : Addr) (xs : List V) : Prop := match k with
  | false => SqL K H a xs
  | true => SqT K H a xs
def IsSq (k : Bool) (h : Heap) (a : Addr) (items : Array Value) : Prop := match k with
  | false => h.IsList a items
  | true => h.IsTuple a items
def IsIt (k : Bool) (h : Heap) (i a : Addr) (n : Nat) : Prop := match k with
  | false => h.IsListIter i a n
  | true => h.IsTupleIter i a n
def itObj (k : Bool) (a : Addr) : Obj := match k with
  | false => { cls := .type "list_iterator", data := .fields #[.ref a, .int 0 0] }
  | true => { cls := .type "tuple_iterator", data := .fields #[.ref a, .int 0 0] }
section
variable {X : Cx} {pins : List (Addr × Obj)} {σ : L2.St} {H : Hp} {s : Shared} {k : Bool} {a it : Addr} {xs ys : List V} {items : Array Value} {h h' : Heap} {i : Nat}
theorem sq_of (I : Inv X pins σ H s) (q : SqK k X.K H a xs) : ∃ its, Vals xs its ∧ IsSq k s.heap a its.toArray := by
  cases k with
  | false =>
    obtain ⟨its, rv, p, _⟩ := I.list q
    exact ⟨its, rv, p.isList⟩
  | true =>
    obtain ⟨its, rv, p, _⟩ := I.tuple q
    exact ⟨its, rv, p⟩
theorem sq_inj (I : Inv X pins σ H s) (q : SqK k X.K H a xs) (q' : SqK k X.K H a ys) : xs = ys := by
  cases k with
  | false => exact I.list_inj q q'
  | true => exact I.tuple_inj q q'
theorem IsSq.lt (q : IsSq k h a items) : a < h.objs.size := by
  cases k with
  | false =>
    obtain ⟨o, e, _⟩ := (show h.IsList a items from q)
    exact Heap.lt_size e
  | true =>
    obtain ⟨o, e, _⟩ := (show h.IsTuple a items from q)
    exact Heap.lt_size e
theorem IsSq.there (q : IsSq k h a items) : ∃ o, h.get? a = some o := by
  cases k with
  | false =>
    obtain ⟨o, e, _⟩ := (show h.IsList a items from q)
    exact ⟨o, e⟩
  | true =>
    obtain ⟨o, e, _⟩ := (show h.IsTuple a items from q)
    exact ⟨o, e⟩
theorem IsSq.keep (q : IsSq k h a items) (e : ∀ o, h.get? a = some o → h'.get? a = some o) : IsSq k h' a items := by
  cases k with
  | false => exact Heap.IsList.at (show h.IsList a items from q) e
  | true => exact Heap.IsTuple.at (show h.IsTuple a items from q) e
theorem IsIt.keep (q : IsIt k h it a i) (e : ∀ o, h.get? it = some o → h'.get? it = some o) : IsIt k h' it a i := by
  cases k with
  | false => exact Heap.IsListIter.at (show h.IsListIter it a i from q) e
  | true => exact Heap.IsTupleIter.at (show h.IsTupleIter it a i from q) e
theorem IsIt.obj (q : IsIt k h it a i) : ∃ o, h.get? it = some o ∧ ∀ v, o.data ≠ .cell v := by
  cases k with
  | false =>
    obtain ⟨o, e, _, d⟩ := (show h.IsListIter it a i from q)
    exact ⟨o, e, fun v z => by rw [d] at z; cases z⟩
  | true =>
    obtain ⟨o, e, _, d⟩ := (show h.IsTupleIter it a i from q)
    exact ⟨o, e, fun v z => by rw [d] at z; cases z⟩
theorem IsIt.new (e : h.get? it = some (itObj k a)) : IsIt k h it a 0 := by
  cases k with
  | false => exact ⟨_, e, rfl, rfl⟩
  | true => exact ⟨_, e, rfl, rfl⟩
theorem draws_k {prog : Program} {w : World} {A : Around} (hh : A.handled = none) (hne : a ≠ it) : Draws prog w A it [it, a] items.size (fun i v => items[i]? = some v) (fun i h => IsIt k h it a i ∧ IsSq k h a items) := by
  cases k with
  | false => exact Draws.list hh it a hne items
  | true => exact Draws.tuple hh it a hne items
theorem begins_k : Begins (.ref a) (itObj k a) (fun h => IsSq k h a items) := by
  cases k with
  | false => exact begins_list a items
  | true => exact begins_tuple a items
end

def ItzK (K : PySem.W.Frag) (k1 k2 : Bool) (a b : Addr) : It :=
  ⟨fun i H => ∃ (xs ys : List V) (x y : V), SqK k1 K H a xs ∧ SqK k2 K H b ys ∧ xs[i]? = some x ∧ ys[i]? = some y,
    fun i H v H' => ∃ T x y, v = .ref T ∧ H T = none ∧ H' = upd H T (.tup [x, y]) ∧ (∀ xs, SqK k1 K H a xs → xs[i]? = some x) ∧ ∀ ys, SqK k2 K H b ys → ys[i]? = some y,
    fun i H => ∃ xs ys : List V, SqK k1 K H a xs ∧ SqK k2 K H b ys ∧ i = min xs.length ys.length⟩
theorem turn_zipK {P : Program} {w : World} {K : PySem.W.Frag} {elts : List Expr} {kk : Nat} {tpos : Pos} {k1 k2 : Bool} {a b z TI TO i1 i2 : Addr} (D : ZipApart z TI TO i1 i2 a b) :
    Turn P w K (.Tuple elts kk tpos) (ItzK K k1 k2 a b) [z, TI, TO, i1, i2] z (fun i h => IsZip h z TI TO .none ∧ IsTupOf2 h TI (.ref i1) (.ref i2) ∧ (∃ x y, IsTupOf2 h TO x y) ∧ IsIt k1 h i1 a i ∧ IsIt k2 h i2 b i) where
  mem := by simp
  obj := fun i h st c hc => by
    obtain ⟨hz, hTI, ⟨x, y, hTO⟩, h1, h2⟩ := st
    have e' : c = z ∨ c = TI ∨ c = TO ∨ c = i1 ∨ c = i2 := by simpa using hc
    rcases e' with q | q | q | q | q
    · rw [q]; exact ⟨_, hz, fun v q => nomatch q⟩
    · rw [q]; exact ⟨_, hTI, fun v q => nomatch q⟩
    · rw [q]; exact ⟨_, hTO, fun v q => nomatch q⟩
    · rw [q]; exact h1.obj
    · rw [q]; exact h2.obj
  keep := fun i h h' st k => by
    obtain ⟨hz, hTI, ⟨x, y, hTO⟩, h1, h2⟩ := st
    exact ⟨k z (by simp) _ hz, k TI (by simp) _ hTI, ⟨x, y, k TO (by simp) _ hTO⟩, h1.keep fun o q => k i1 (by simp) o q, h2.keep fun o q => k i2 (by simp) o q⟩
  item := by
    intro X hP hw hK hc i pins s σ H E I hf st hg
    subst hP hw hK
    obtain ⟨hz, hTI, ⟨x0, y0, hTO⟩, h1, h2⟩ := st
    obtain ⟨xs, ys, x, y, hqx, hqy, hx, hy⟩ := hg
    obtain ⟨its, rv, p⟩ := sq_of I hqx
    obtain ⟨its2, rv2, p2⟩ := sq_of I hqy
    obtain ⟨u, hu, ru⟩ := rv.get hx
    obtain ⟨u2, hu2, ru2⟩ := rv2.get hy
    have hzl : z < s.heap.objs.size := Heap.lt_size hz
    have hl1 : i < its.toArray.size := by
      have := (List.getElem?_eq_some_iff.mp hu).1
      simpa using this
    have hl2 : i < its2.toArray.size := by
      have := (List.getElem?_eq_some_iff.mp hu2).1
      simpa using this
    have S : ZipSep2 z TI TO i1 i2 [i1, a] [i2, b] := ⟨D.TIz, D.TOz, D.TITO, D.TIi1, by simp, by simp [Ne.symm D.i1z, Ne.symm D.l1z], by simp [D.TOi1, Ne.symm D.l1TO], D.TIi2, by simp, by simp [Ne.symm D.i2z, Ne.symm D.l2z], by simp [D.TOi2, Ne.symm D.l2TO],
      by simp [D.i12, Ne.symm D.l2i1], by simp [Ne.symm D.i12, Ne.symm D.l1i2]⟩
    refine wpAny_pyNext_zipD2_item S (draws_k (k := k1) (A := X.A.in1) (I.ok.hd hc) D.l1i1) (draws_k (k := k2) (A := X.A.in1) (I.ok.hd hc) D.l2i2) hz hTI hTO ⟨h1, p⟩ ⟨h2, p2⟩ hl1 hl2 fun x1 x2 h' tk hx1 hx2 z' TO' st1 st2 hT hsz hk => ?_
    have e1 : x1 = u := by
      have : its[i]? = some x1 := by simpa using hx1
      rw [hu] at this
      exact (Option.some.inj this).symm
    have e2 : x2 = u2 := by
      have : its2[i]? = some x2 := by simpa using hx2
      rw [hu2] at this
      exact (Option.some.inj this).symm
    subst e1 e2
    refine ⟨_, rfl, wpAny_letOwnedTupleGo_zip (s := { s with heap := h', toks := tk }) z' fun h'' z'' sb => ?_⟩
    have hT2 : h''.get? s.heap.objs.size = some { cls := .type "tuple", data := .seq #[x1, x2] } := (sb.2 _ (Nat.ne_of_gt hzl)).trans hT
    have new : ObjOk X.prog X.w (upd H s.heap.objs.size (.tup [x, y])) h'' s.heap.objs.size (.tup [x, y]) :=
      ⟨by show 2 ≤ sizeLine; decide, [x1, x2], .cons ru (.cons ru2 .nil), ⟨_, hT2, rfl, _, rfl⟩⟩
    have I1 : Inv X pins σ (upd H s.heap.objs.size (.tup [x, y])) { s with heap := h'', toks := tk } :=
      I.turnedNew (t' := tk) (ch := [z, TI, TO, i1, i2]) (fun c o hb q => (sb.2 c (fun q' => hb (by simp [q']))).trans (hk c o (fun q' => hb (by simp [q'])) (fun q' => hb (by simp [q'])) (fun q' => hb (by simp [q'])) (fun q' => hb (by simp [q'])) q)) hf (Nat.le_refl _) new
    refine ⟨.ref s.heap.objs.size, _, I1, rfl, ⟨_, x, y, rfl, I.hok.fresh (Nat.le_refl _), rfl, fun l hl => by rw [sq_inj I hl hqx]; exact hx, fun l hl => by rw [sq_inj I hl hqy]; exact hy⟩, ⟨z'', ?_, ⟨x1, x2, ?_⟩, ?_, ?_⟩, fun c hcm => ?_⟩
    · exact (sb.2 _ D.TIz).trans (hk _ _ D.TIz D.TITO D.TIi1 D.TIi2 hTI)
    · exact (sb.2 _ D.TOz).trans TO'
    · exact st1.1.keep fun o q => (sb.2 _ D.i1z).trans q
    · exact st2.1.keep fun o q => (sb.2 _ D.i2z).trans q
    · have hlt : c < s.heap.objs.size := by
        have e' : c = z ∨ c = TI ∨ c = TO ∨ c = i1 ∨ c = i2 := by simpa using hcm
        rcases e' with q | q | q | q | q
        · rw [q]; exact hzl
        · rw [q]; exact Heap.lt_size hTI
        · rw [q]; exact Heap.lt_size hTO
        · rw [q]; obtain ⟨_, e1, _⟩ := h1.obj; exact Heap.lt_size e1
        · rw [q]; obtain ⟨_, e2, _⟩ := h2.obj; exact Heap.lt_size e2
      rw [upd_ne (Nat.ne_of_lt hlt)]
      exact (hf c hcm).1
  done := by
    intro X hP hw hK hc i pins s σ H E I hf st hg
    subst hP hw hK
    obtain ⟨hz, hTI, ⟨x0, y0, hTO⟩, h1, h2⟩ := st
    obtain ⟨xs, ys, hqx, hqy, hend⟩ := hg
    obtain ⟨its, rv, p⟩ := sq_of I hqx
    obtain ⟨its2, rv2, p2⟩ := sq_of I hqy
    have l1 := rv.length
    have l2 := rv2.length
    have s1 : its.toArray.size = its.length := by simp
    have s2 : its2.toArray.size = its2.length := by simp
    have S : ZipSep2 z TI TO i1 i2 [i1, a] [i2, b] := ⟨D.TIz, D.TOz, D.TITO, D.TIi1, by simp, by simp [Ne.symm D.i1z, Ne.symm D.l1z], by simp [D.TOi1, Ne.symm D.l1TO], D.TIi2, by simp, by simp [Ne.symm D.i2z, Ne.symm D.l2z], by simp [D.TOi2, Ne.symm D.l2TO],
      by simp [D.i12, Ne.symm D.l2i1], by simp [Ne.symm D.i12, Ne.symm D.l1i2]⟩
    exact wpAny_pyNext_zipD2_end S (draws_k (k := k1) (A := X.A.in1) (I.ok.hd hc) D.l1i1) (draws_k (k := k2) (A := X.A.in1) (I.ok.hd hc) D.l2i2) hz hTI hTO ⟨h1, p⟩ ⟨h2, p2⟩ (by omega) (by omega) (by omega) fun h' tk hk =>
      ⟨rfl, I.turnedL (t' := tk) (ch := [z, TI, TO, i1, i2]) (fun c o hb q => hk c o (fun q' => hb (by simp [q'])) (fun q' => hb (by simp [q'])) (fun q' => hb (by simp [q'])) (fun q' => hb (by simp [q'])) q) hf⟩
  self := fun A i s Q E st h => wpAny_pyIter_zip st.1 h

def IteK (K : PySem.W.Frag) (k : Bool) (a : Addr) : It :=
  ⟨fun i H => ∃ (xs : List V) (x : V), SqK k K H a xs ∧ xs[i]? = some x,
    fun i H v H' => ∃ T x, v = .ref T ∧ H T = none ∧ H' = upd H T (.tup [.int (i : Nat), x]) ∧ ∀ xs, SqK k K H a xs → xs[i]? = some x,
    fun i H => ∃ xs : List V, SqK k K H a xs ∧ i = xs.length⟩
theorem turn_enumK {P : Program} {w : World} {K : PySem.W.Frag} {elts : List Expr} {kk : Nat} {tpos : Pos} {k : Bool} {a e it : Addr} (hea : e ≠ a) (hia : a ≠ it) :
    Turn P w K (.Tuple elts kk tpos) (IteK K k a) [e, it] e (fun i h => (∃ old, IsEnum h e it ((i : Nat) : Int) old) ∧ IsIt k h it a i ∧ e ≠ it) where
  mem := by simp
  obj := fun i h st b hb => by
    obtain ⟨⟨old, he⟩, hit, _⟩ := st
    have e' : b = e ∨ b = it := by simpa using hb
    rcases e' with z | z
    · rw [z]; exact ⟨_, he, fun v q => nomatch q⟩
    · rw [z]; exact hit.obj
  keep := fun i h h' st k => let ⟨⟨old, he⟩, hi, hne⟩ := st; ⟨⟨old, k e (by simp) _ he⟩, hi.keep fun o q => k it (by simp) o q, hne⟩
  item := by
    intro X hP hw hK hc i pins s σ H E I hf st hg
    subst hP hw hK
    obtain ⟨⟨old, he⟩, hit, hne⟩ := st
    obtain ⟨xs, x, hq, hx⟩ := hg
    obtain ⟨its, rv, p⟩ := sq_of I hq
    obtain ⟨u, hu, ru⟩ := rv.get hx
    have hel : e < s.heap.objs.size := Heap.lt_size he
    have hil : it < s.heap.objs.size := by obtain ⟨_, q, _⟩ := hit.obj; exact Heap.lt_size q
    have hl1 : i < its.toArray.size := by
      have := (List.getElem?_eq_some_iff.mp hu).1
      simpa using this
    refine wpAny_pyNext_enum_itemD (draws_k (k := k) (A := X.A.in1) (I.ok.hd hc) hia) he ⟨hit, p⟩ hl1 hne (by simp [hne, hea]) fun x1 h' tk hx1 ho st1 hT hsz hk => ?_
    have e1 : x1 = u := by
      have : its[i]? = some x1 := by simpa using hx1
      rw [hu] at this
      exact (Option.some.inj this).symm
    subst e1
    refine ⟨_, rfl, wpAny_letOwnedTupleGo_enum (s := { s with heap := h', toks := tk + 1 }) ho fun h'' he' sb => ?_⟩
    have hT2 : h''.get? s.heap.objs.size = some { cls := .type "tuple", data := .seq #[.int i tk, x1] } := (sb.2 _ (Nat.ne_of_gt hel)).trans hT
    have new : ObjOk X.prog X.w (upd H s.heap.objs.size (.tup [.int (i : Nat), x])) h'' s.heap.objs.size (.tup [.int (i : Nat), x]) :=
      ⟨by show 2 ≤ sizeLine; decide, [.int i tk, x1], .cons ⟨_, rfl⟩ (.cons ru .nil), ⟨_, hT2, rfl, _, rfl⟩⟩
    have I1 : Inv X pins σ (upd H s.heap.objs.size (.tup [.int (i : Nat), x])) { s with heap := h'', toks := tk + 1 } :=
      I.turnedNew (ch := [e, it]) (fun b ob hb q => (sb.2 b (fun z => hb (by simp [z]))).trans (hk b ob (fun z => hb (by simp [z])) (fun z => hb (by simp [z])) q)) hf (Nat.le_refl _) new
    refine ⟨.ref s.heap.objs.size, _, I1, rfl, ⟨_, x, rfl, I.hok.fresh (Nat.le_refl _), rfl, fun ys hy => by rw [sq_inj I hy hq]; exact hx⟩, ⟨⟨x1, ?_⟩, st1.1.keep fun o q => (sb.2 it (Ne.symm hne)).trans q, hne⟩, fun b hb => ?_⟩
    · have e1 : ((i + 1 : Nat) : Int) = (i : Int) + 1 := by omega
      rw [e1]; exact he'
    · have hb' : b < s.heap.objs.size := by
        have e' : b = e ∨ b = it := by simpa using hb
        rcases e' with z | z
        · rw [z]; exact hel
        · rw [z]; exact hil
      rw [upd_ne (Nat.ne_of_lt hb')]
      exact (hf b hb).1
  done := by
    intro X hP hw hK hc i pins s σ H E I hf st hg
    subst hP hw hK
    obtain ⟨⟨old, he⟩, hit, hne⟩ := st
    obtain ⟨xs, hq, hx⟩ := hg
    obtain ⟨its, rv, p⟩ := sq_of I hq
    obtain ⟨f0, f1, f2, f3, f4, f5⟩ := hf it (by simp)
    have hl := rv.length
    have e1 : i = its.toArray.size := by simp; omega
    subst e1
    exact wpAny_pyNext_enum_endD (draws_k (k := k) (A := X.A.in1) (items := its.toArray) (I.ok.hd hc) hia) he ⟨hit, p⟩ fun h' eb => ⟨rfl, I.turned (t' := s.toks) (fun b o hb q => eb b o hb q) f0 f1 f3 f4 f5⟩
  self := fun A i s Q E st h => let ⟨⟨_, he⟩, _⟩ := st; wpAny_pyIter_enum he h
theorem meets_enum1 {v : Value} {o : Obj} {H : Heap → Prop} (B : Begins v o H) :
    Meets (Builtin.«enumerate.__new__» ⟨[.type "enumerate", v], []⟩) (fun _ R s => H s.heap ∧
      R (.ok (.ret (.ref (s.heap.push o).objs.size))) { s with heap := (s.heap.push o).push { cls := .type "enumerate", data := .fields #[.none, .bool false, .ref s.heap.objs.size, rawInt 0, .none, .none] } }) :=
  .of_wp fun prog w A R s h => by
    obtain ⟨hp, g, d, tk, os⟩ := s; obtain ⟨h1, h⟩ := h
    have hsub := sub_enumerate
    have q1 : ∀ {A' : Around} {E : Value → Shared → Prop} {Q : Value → Shared → Prop}, Q (.ref hp.objs.size) ⟨hp.push o, g, d, tk, os⟩ → wpAny (model prog w) A' (pyIter v) Q E ⟨hp, g, d, tk, os⟩ :=
      fun q => B.iter prog w _ _ ⟨hp, g, d, tk, os⟩ _ h1 q
    wp_walk using q1
    refine wpAny_stack_any fun st => wpAny_pure ?_
    split
    · rename_i c _ _ _ _ _
      cases (c == Value.type "enumerate")
      · wp_walk using q1
        exact ⟨_, rfl, h⟩
      · wp_walk using q1
        exact ⟨_, rfl, h⟩
    · wp_walk using q1
      exact ⟨_, rfl, h⟩
theorem enum_begins1 {prog : Program} {w : World} {A : Around} {E : Value → Shared → Prop} {s : Shared} {v : Value} {o : Obj} {H : Heap → Prop} {Q : Value → Shared → Prop} (B : Begins v o H) (h1 : H s.heap)
    (h : ∀ h', IsEnum h' (s.heap.objs.size + 1) s.heap.objs.size 0 .none → h'.get? s.heap.objs.size = some o → h'.objs.size = s.heap.objs.size + 2 →
      (∀ b o, s.heap.get? b = some o → h'.get? b = some o) → Q (.ref (s.heap.objs.size + 1)) { s with heap := h' }) :
    wpAny (model prog w) A (call (.type "enumerate") [v]) Q E s := by
  refine callType_new PySem.F.called_enumerate (by decide) (PySem.F.typeCall_enumerate_1 _) (PySem.F.newCall_enumerate_1 _) (fun obj => PySem.F.args_object_init_2 obj _) PySem.F.entry_enumerate_new
    (meets_enum1 B) ⟨h1, ?_⟩
  have hz : (s.heap.push o).objs.size = s.heap.objs.size + 1 := Heap.size_push ..
  show _ ∧ _
  rw [hz]
  have he : IsEnum ((s.heap.push o).push { cls := .type "enumerate", data := .fields #[.none, .bool false, .ref s.heap.objs.size, rawInt 0, .none, .none] }) (s.heap.objs.size + 1) s.heap.objs.size 0 .none := by
    have := Heap.get?_push_size (s.heap.push o) (o := { cls := .type "enumerate", data := .fields #[.none, .bool false, .ref s.heap.objs.size, rawInt 0, .none, .none] }) rfl
    rw [hz] at this; exact this
  refine ⟨⟨_, he, rfl⟩, h _ he (Heap.get?_push_of_some _ (Heap.get?_push_size _ B.free)) (by rw [Heap.size_push, hz]) fun b o x => Heap.get?_push_of_some _ (Heap.get?_push_of_some _ x)⟩

section
variable {K : PySem.W.Frag} {T : Option Addr} {M : List Addr} {H H' : Hp}
/-- a list's or a tuple's items, off M -/
theorem Dat.items {v : V} {d : D} {es : List D} (h : Dat K T M H v d) (hi : dItems d = some es) : ∃ k a xs, v = .ref a ∧ (∀ H', Ext M H H' → SqK k K H' a xs) ∧ DatL K T M H xs es := by
  cases d with
  | lst ds =>
    cases hi
    obtain ⟨a, xs, rfl, hn, hq, _, hd⟩ := h.sql
    exact ⟨false, a, xs, rfl, fun H' e => .inl (.inl (e a _ hn hq)), hd⟩
  | tup ds =>
    cases hi
    obtain ⟨a, xs, rfl, _, hE, hd⟩ := h.sqtE
    exact ⟨true, a, xs, rfl, fun H' e => hE H' e, hd⟩
  | _ => cases hi
theorem idata_zip {k1 k2 : Bool} {a b : Addr} {xs ys : List V} {ds es : List D} (ha : ∀ H', Ext M H H' → SqK k1 K H' a xs) (hb : ∀ H', Ext M H H' → SqK k2 K H' b ys) (hd : DatL K T M H xs ds) (he : DatL K T M H ys es) :
    IData K T M H ((ds.zip es).map pairD) (ItzK K k1 k2 a b) := by
  have l1 := hd.length
  have l2 := he.length
  have ln : ((ds.zip es).map pairD).length = min xs.length ys.length := by rw [List.length_map, List.length_zip, l1, l2]
  unfold IData
  rw [ln]
  refine ⟨fun i H1 hi g => ?_, fun H1 g => ⟨xs, ys, ha _ g.1, hb _ g.1, rfl⟩, fun i H1 v H2 hi g y => ?_⟩
  · have h1 : i < xs.length := by omega
    have h2 : i < ys.length := by omega
    exact ⟨xs, ys, xs[i], ys[i], ha _ g.1, hb _ g.1, by simp [h1], by simp [h2]⟩
  · obtain ⟨p, x, z, rfl, h2, rfl, h4, h5⟩ := y
    have hx := h4 xs (ha _ g.1)
    have hz := h5 ys (hb _ g.1)
    obtain ⟨d, e1, d1⟩ := hd.getV hx
    obtain ⟨e, e2, d2⟩ := he.getV hz
    refine ⟨Ext.new h2, pairD (d, e), ?_, fun N n1 n2 n3 => ?_⟩
    · have z : (ds.zip es)[i]? = some (d, e) := List.getElem?_zip_eq_some.mpr ⟨e1, e2⟩
      rw [List.getElem?_map, z]
      rfl
    · exact Dat.newT h2 n3 (.cons ((d1.mask n2).keep (g.1.mono n1)) (.cons ((d2.mask n2).keep (g.1.mono n1)) .nil))
theorem idata_enum {k : Bool} {a : Addr} {xs : List V} {ds : List D} (ha : ∀ H', Ext M H H' → SqK k K H' a xs) (hd : DatL K T M H xs ds) : IData K T M H (enumD ds) (IteK K k a) := by
  have l1 := hd.length
  have ln : (enumD ds).length = xs.length := by
    unfold enumD
    rw [List.length_map, List.length_zip, List.length_range, l1]
    omega
  unfold IData
  rw [ln]
  refine ⟨fun i H1 hi g => ⟨xs, xs[i], ha _ g.1, by simp [hi]⟩, fun H1 g => ⟨xs, ha _ g.1, rfl⟩, fun i H1 v H2 hi g y => ?_⟩
  obtain ⟨p, x, rfl, h2, rfl, h4⟩ := y
  have hx := h4 xs (ha _ g.1)
  obtain ⟨d, e1, d1⟩ := hd.getV hx
  have hid : i < ds.length := by omega
  refine ⟨Ext.new h2, .tup [.int (i : Nat), d], ?_, fun N n1 n2 n3 => ?_⟩
  · unfold enumD
    have z : ((List.range ds.length).zip ds)[i]? = some (i, d) := List.getElem?_zip_eq_some.mpr ⟨List.getElem?_range hid, e1⟩
    rw [List.getElem?_map, z]
    rfl
  · exact Dat.newT h2 n3 (.cons (.int _) (.cons ((d1.mask n2).keep (g.1.mono n1)) .nil))
end
section
variable {X : Cx} {a b : Expr} {ta : TA}
theorem pi_zip' {p pos tpos : Pos} {elts : List Expr} {kk : Nat} (hg : Gl X "zip") (hm : X.mg "zip" = none) (ha : PA X [a, b] ta)
    (hs : starEach [a, b] X.env = (false, eval a X.env) :: starEach [b] X.env) (hpl : (backTo pos (starEach [b] X.env)).any (·.1) = false) :
    PI X (.Tuple elts kk tpos) (.Call (.Name "zip" p) [a, b] [] pos) (fun σ H R => ta σ H fun xs H1 => DI X.K iZip' xs H1 R) := by
  refine ⟨fun pins s σ H R I h => ?_⟩
  refine Call_ (ld_blt I hg hm PyProof.Rows.boot_zip (PyProof.Rows.callWith_type1 (thn (ha.run pos pins s σ H _ I h) fun us s1 ⟨vs, H1, I1, r1, q1⟩ => ?_) hs hpl))
  obtain ⟨T, M, ds, items, hM, hd, hgd, q⟩ := q1
  unfold iZip' at hgd
  split at hgd
  · rename_i d e
    cases z1 : dItems d with
    | none => rw [z1] at hgd; cases hgd
    | some xs =>
      cases z2 : dItems e with
      | none => rw [z1, z2] at hgd; cases hgd
      | some ys =>
        rw [z1, z2] at hgd
        cases hgd
        obtain ⟨v1, v2, ev, d1, d2⟩ := hd.two'
        subst ev
        obtain ⟨k1, a1, us1, rfl, hE1, dl1⟩ := d1.items z1
        obtain ⟨k2, a2, us2, rfl, hE2, dl2⟩ := d2.items z2
        cases r1 with
        | cons r rr =>
          cases rr with
          | cons r' rr =>
            cases rr
            cases r
            cases r'
            obtain ⟨its, rv, p1⟩ := sq_of I1 (hE1 _ (Ext.refl _ _))
            obtain ⟨its2, rv2, p2⟩ := sq_of I1 (hE2 _ (Ext.refl _ _))
            have fresh5 : ∀ c, c ∈ [s1.heap.objs.size + 4, s1.heap.objs.size + 2, s1.heap.objs.size + 3, s1.heap.objs.size, s1.heap.objs.size + 1] → FpOk X pins H1 c := fun c hcm => by
              have e' : c = s1.heap.objs.size + 4 ∨ c = s1.heap.objs.size + 2 ∨ c = s1.heap.objs.size + 3 ∨ c = s1.heap.objs.size ∨ c = s1.heap.objs.size + 1 := by simpa using hcm
              have hle : s1.heap.objs.size ≤ c := by
                rcases e' with z | z | z | z | z
                · rw [z]; exact Nat.le_add_right _ _
                · rw [z]; exact Nat.le_add_right _ _
                · rw [z]; exact Nat.le_add_right _ _
                · rw [z]; exact Nat.le_refl _
                · rw [z]; exact Nat.le_add_right _ _
              exact I1.fpOk hle (I1.hok.fresh hle)
            refine zip_begins2 (begins_k (k := k1) (items := its.toArray)) (begins_k (k := k2) (items := its2.toArray)) p1 p2 fun h' hz hTI hTO g1 g2 hsz hk => wpAny_pyIter_zip hz ?_
            have I2 : Inv X pins σ H1 { s1 with heap := h' } := I1.kept (t' := s1.toks) hk
            exact ⟨s1.heap.objs.size + 4, [s1.heap.objs.size + 4, s1.heap.objs.size + 2, s1.heap.objs.size + 3, s1.heap.objs.size, s1.heap.objs.size + 1], _, _, H1, rfl, I2,
              turn_zipK (k1 := k1) (k2 := k2) (PySem.W.ktu_apart s1.heap.objs.size a1 a2 p1.lt p2.lt), ⟨hz, hTI, ⟨_, _, hTO⟩, .new g1, .new g2⟩, fresh5, q _ (idata_zip hE1 hE2 dl1 dl2)⟩
  · cases hgd
theorem pi_enum' {p pos tpos : Pos} {elts : List Expr} {kk : Nat} (hg : Gl X "enumerate") (hm : X.mg "enumerate" = none) (ha : PA X [a] ta) (hs : starEach [a] X.env = [(false, eval a X.env)]) :
    PI X (.Tuple elts kk tpos) (.Call (.Name "enumerate" p) [a] [] pos) (fun σ H R => ta σ H fun xs H1 => DI X.K iEnum' xs H1 R) := by
  refine ⟨fun pins s σ H R I h => ?_⟩
  refine Call_ (ld_blt I hg hm boot_enumerate (PyProof.Rows.callWith_type1 (thn (ha.run pos pins s σ H _ I h) fun us s1 ⟨vs, H1, I1, r1, q1⟩ => ?_) hs rfl))
  obtain ⟨T, M, ds, items, hM, hd, hgd, q⟩ := q1
  unfold iEnum' at hgd
  split at hgd
  · rename_i d
    cases z1 : dItems d with
    | none => rw [z1] at hgd; cases hgd
    | some xs =>
      rw [z1] at hgd
      cases hgd
      obtain ⟨v1, ev, d1⟩ := hd.one'
      subst ev
      obtain ⟨k1, a1, us1, rfl, hE1, dl1⟩ := d1.items z1
      cases r1 with
      | cons r rr =>
        cases rr
        cases r
        obtain ⟨its, rv, p1⟩ := sq_of I1 (hE1 _ (Ext.refl _ _))
        refine enum_begins1 (begins_k (k := k1) (items := its.toArray)) p1 fun h' he hit hsz hk => wpAny_pyIter_enum he ?_
        have I2 : Inv X pins σ H1 { s1 with heap := h' } := I1.kept (t' := s1.toks) hk
        refine ⟨s1.heap.objs.size + 1, [s1.heap.objs.size + 1, s1.heap.objs.size], _, _, H1, rfl, I2, turn_enumK (k := k1) (a := a1) (e := s1.heap.objs.size + 1) (it := s1.heap.objs.size) (Nat.ne_of_gt (Nat.lt_succ_of_lt p1.lt)) (Nat.ne_of_lt p1.lt), ⟨⟨.none, he⟩, .new hit, Nat.succ_ne_self _⟩, fun b hb => ?_, q _ (idata_enum hE1 dl1)⟩
        have e' : b = s1.heap.objs.size + 1 ∨ b = s1.heap.objs.size := by simpa using hb
        have hle : s1.heap.objs.size ≤ b := by
          rcases e' with z | z
          · rw [z]; exact Nat.le_add_right _ _
          · rw [z]; exact Nat.le_refl _
        exact I1.fpOk hle (I1.hok.fresh hle)
  · cases hgd
end
end Dry
set_option Elab.async false
set_option linter.all false
set_option maxRecDepth 100000
set_option maxHeartbeats 4000000
set_option autoImplicit false
namespace Dry
open PySem PySem.Spec PyProof.Rows L2
section
variable {prog : Program} {w : World} {A : Around} {E : Value → Shared → Prop} {s : Shared} {z TI TO T i1 i2 : Addr} {fp1 fp2 : List Addr} {n1 n2 i : Nat} {P1 P2 : Nat → Value → Prop} {St1 St2 : Nat → Heap → Prop} {f : Bool} {oT : Obj}
theorem zipH_item {Q : Value → Shared → Prop} (S : ZipSep2 z TI TO i1 i2 fp1 fp2) (D1 : Draws prog w A i1 fp1 n1 P1 St1) (D2 : Draws prog w A i2 fp2 n2 P2 St2)
    (hz : IsZipHeld s.heap z TI TO T f) (hT : s.heap.get? T = some oT) (hTI : IsTupOf2 s.heap TI (.ref i1) (.ref i2)) (st1 : St1 i s.heap) (st2 : St2 i s.heap) (hlt1 : i < n1) (hlt2 : i < n2)
    (hQ : ∀ x1 x2 h' tk, P1 i x1 → P2 i x2 → IsZipHeld h' z TI TO T true → St1 (i + 1) h' → St2 (i + 1) h' → IsTupOf2 h' s.heap.objs.size x1 x2 → h'.objs.size = s.heap.objs.size + 1 →
      (∀ c o, c ≠ z → c ≠ i1 → c ≠ i2 → s.heap.get? c = some o → h'.get? c = some o) → Q (.ref s.heap.objs.size) { s with heap := h', toks := tk }) :
    wpAny (model prog w) A (Builtin.«zip.__next__» ⟨[.ref z], []⟩) (fun fin s' => ∃ v, fin = .done (.ret v) ∧ Q v s') E s := by
  obtain ⟨hp, g, d, tk0, os⟩ := s
  show wpAny _ _ (field (.ref z) 2 >>= _) _ _ _
  refine wpAny_bind (wpAny_field hz rfl (x := .bool false) rfl ?_)
  show wpAny _ _ (field (.ref z) 3 >>= _) _ _ _
  refine wpAny_bind (wpAny_field hz rfl (x := .ref TI) rfl ?_)
  refine wpAny_bind (wpAny_seqItems hTI rfl ?_)
  show wpAny _ _ (Builtin.SmallTypes.ownedTupleIsFree (.ref z) >>= _) _ _ _
  refine wpAny_bind (wpAny_tupleHeld_zip hz hT fun g0 hz0 hs0 => ?_)
  replace hs0 : Heap.SameBut z hp g0 := hs0
  simp only [Bool.false_eq_true, if_false]
  refine wpAny_bind ?_
  rw [← Array.forIn_toList]
  simp only [List.forIn_cons, List.forIn_nil]
  refine wpAny_bind (wpAny_bind (wpAny_holding ?_))
  show wpAny _ _ (Builtin.SmallTypes.nextOf (.ref i1) >>= _) _ _ ⟨g0, g, d, tk0, os⟩
  refine wpAny_bind (D1.item i _ _ _ hlt1 (D1.over st1 hs0 S.zf1) fun x1 p1 tk1 hx1 sn1 hp1 => wpAny_pure ?_)
  replace hp1 : Heap.SameBut i1 g0 p1 := hp1
  refine wpAny_pure ?_
  refine wpAny_bind (wpAny_bind (wpAny_holding ?_))
  show wpAny _ _ (Builtin.SmallTypes.nextOf (.ref i2) >>= _) _ _ ⟨p1, g, d, tk1, os⟩
  refine wpAny_bind (D2.item i ⟨p1, g, d, tk1, os⟩ _ _ hlt2 (D2.over (D2.over st2 hs0 S.zf2) hp1 S.sep1_2) fun x2 p2 tk2 hx2 sn2 hp2 => wpAny_pure ?_)
  replace hp2 : Heap.SameBut i2 p1 p2 := hp2
  refine wpAny_pure (wpAny_pure ?_)
  show wpAny _ _ (newTuple [x1, x2] >>= _) _ _ _
  refine wpAny_bind (wpAny_newTuple ?_)
  have hsz : p2.objs.size = hp.objs.size := by rw [hp2.1, hp1.1, hs0.1]
  have hz3 : IsZipHeld p2 z TI TO T true := hp2.extBut _ _ S.zi2 (hp1.extBut _ _ S.zi1 hz0)
  have hk : ∀ c o, c ≠ z → c ≠ i1 → c ≠ i2 → hp.get? c = some o → p2.get? c = some o := fun c o c1 c2 c3 e => hp2.extBut _ _ c3 (hp1.extBut _ _ c2 (hs0.extBut _ _ c1 e))
  refine wpAny_pure ⟨_, rfl, ?_⟩
  show Q (.ref p2.objs.size) _
  have hp' : IsTupOf2 (p2.push { cls := .type "tuple", data := .seq #[x1, x2] }) p2.objs.size x1 x2 := Heap.get?_push_size _ rfl
  have hz4 : (p2.push { cls := .type "tuple", data := .seq #[x1, x2] }).objs.size = p2.objs.size + 1 := Heap.size_push ..
  rw [hsz] at hp' hz4 ⊢
  exact hQ x1 x2 _ tk2 hx1 hx2 (Heap.get?_push_of_some _ hz3) (D1.frame _ _ _ (D1.over sn1 hp2 S.sep2_1) fun b _ o e => Heap.get?_push_of_some _ e) (D2.frame _ _ _ sn2 fun b _ o e => Heap.get?_push_of_some _ e) hp' hz4 fun c o c1 c2 c3 e => Heap.get?_push_of_some _ (hk c o c1 c2 c3 e)
theorem zipH_end {Q : Fin → Shared → Prop} (S : ZipSep2 z TI TO i1 i2 fp1 fp2) (D1 : Draws prog w A i1 fp1 n1 P1 St1) (D2 : Draws prog w A i2 fp2 n2 P2 St2)
    (hz : IsZipHeld s.heap z TI TO T f) (hT : s.heap.get? T = some oT) (hTI : IsTupOf2 s.heap TI (.ref i1) (.ref i2)) (st1 : St1 i s.heap) (st2 : St2 i s.heap) (hi1 : i = n1)
    (hE : ∀ h' tk e, (∀ c o, c ≠ z → c ≠ i1 → c ≠ i2 → s.heap.get? c = some o → h'.get? c = some o) → (∃ o, h'.get? e = some o ∧ o.cls = .type "StopIteration") → E (.ref e) { s with heap := h', toks := tk }) :
    wpAny (model prog w) A (Builtin.«zip.__next__» ⟨[.ref z], []⟩) Q E s := by
  obtain ⟨hp, g, d, tk0, os⟩ := s
  show wpAny _ _ (field (.ref z) 2 >>= _) _ _ _
  refine wpAny_bind (wpAny_field hz rfl (x := .bool false) rfl ?_)
  show wpAny _ _ (field (.ref z) 3 >>= _) _ _ _
  refine wpAny_bind (wpAny_field hz rfl (x := .ref TI) rfl ?_)
  refine wpAny_bind (wpAny_seqItems hTI rfl ?_)
  show wpAny _ _ (Builtin.SmallTypes.ownedTupleIsFree (.ref z) >>= _) _ _ _
  refine wpAny_bind (wpAny_tupleHeld_zip hz hT fun g0 hz0 hs0 => ?_)
  replace hs0 : Heap.SameBut z hp g0 := hs0
  simp only [Bool.false_eq_true, if_false]
  refine wpAny_bind ?_
  rw [← Array.forIn_toList]
  simp only [List.forIn_cons, List.forIn_nil]
  refine wpAny_bind (wpAny_bind (wpAny_holding ?_))
  show wpAny _ _ (Builtin.SmallTypes.nextOf (.ref i1) >>= _) _ _ ⟨g0, g, d, tk0, os⟩
  refine wpAny_bind (D1.done ⟨g0, g, d, tk0, os⟩ _ _ (by rw [← hi1]; exact (D1.over st1 hs0 S.zf1)) fun q e hq he => ?_)
  replace hq : Heap.ExtBut i1 g0 q := hq
  exact hE q tk0 e (fun c o c1 c2 _ x => hq _ _ c2 (hs0.extBut _ _ c1 x)) he
theorem pyNext_zipH_item {Q : Option Value → Shared → Prop} (S : ZipSep2 z TI TO i1 i2 fp1 fp2) (D1 : Draws prog w A.in1 i1 fp1 n1 P1 St1) (D2 : Draws prog w A.in1 i2 fp2 n2 P2 St2)
    (hz : IsZipHeld s.heap z TI TO T f) (hT : s.heap.get? T = some oT) (hTI : IsTupOf2 s.heap TI (.ref i1) (.ref i2)) (st1 : St1 i s.heap) (st2 : St2 i s.heap) (hlt1 : i < n1) (hlt2 : i < n2)
    (hQ : ∀ x1 x2 h' tk, P1 i x1 → P2 i x2 → IsZipHeld h' z TI TO T true → St1 (i + 1) h' → St2 (i + 1) h' → IsTupOf2 h' s.heap.objs.size x1 x2 → h'.objs.size = s.heap.objs.size + 1 →
      (∀ c o, c ≠ z → c ≠ i1 → c ≠ i2 → s.heap.get? c = some o → h'.get? c = some o) → Q (some (.ref s.heap.objs.size)) { s with heap := h', toks := tk }) :
    wpAny (model prog w) A (pyNext (.ref z)) Q E s := by
  have hTy : s.TypeIs (.ref z) "zip" := ⟨_, hz, rfl⟩
  unfold pyNext
  exact wpAny_bind (wpAny_attempt (wpAny_callSpecial?_slot (name := Str.ofString "__next__") hTy PySem.F.slot_zip_next
    (wpAny_call_entry PySem.F.slot_zip_next hTy PySem.F.entry_zip_next
      (zipH_item S D1 D2 hz hT hTI st1 st2 hlt1 hlt2 fun x1 x2 h' tk y1 y2 a1 a3 a4 a5 a6 a7 => wpAny_pure (hQ x1 x2 h' tk y1 y2 a1 a3 a4 a5 a6 a7)) (PySem.F.args_zip_next_1 _))))
theorem pyNext_zipH_end {Q : Option Value → Shared → Prop} (S : ZipSep2 z TI TO i1 i2 fp1 fp2) (D1 : Draws prog w A.in1 i1 fp1 n1 P1 St1) (D2 : Draws prog w A.in1 i2 fp2 n2 P2 St2)
    (hz : IsZipHeld s.heap z TI TO T f) (hT : s.heap.get? T = some oT) (hTI : IsTupOf2 s.heap TI (.ref i1) (.ref i2)) (st1 : St1 i s.heap) (st2 : St2 i s.heap) (hi1 : i = n1)
    (hQ : ∀ h' tk, (∀ c o, c ≠ z → c ≠ i1 → c ≠ i2 → s.heap.get? c = some o → h'.get? c = some o) → Q none { s with heap := h', toks := tk }) :
    wpAny (model prog w) A (pyNext (.ref z)) Q E s := by
  have hTy : s.TypeIs (.ref z) "zip" := ⟨_, hz, rfl⟩
  unfold pyNext
  refine wpAny_bind (wpAny_attempt (wpAny_callSpecial?_slot (name := Str.ofString "__next__") hTy PySem.F.slot_zip_next
    (wpAny_call_entry PySem.F.slot_zip_next hTy PySem.F.entry_zip_next (zipH_end S D1 D2 hz hT hTI st1 st2 hi1 fun h' tk e hk he => ?_) (PySem.F.args_zip_next_1 _))))
  obtain ⟨o, ho, hc⟩ := he
  refine wpAny_bind (wpAny_isInstance (T := "StopIteration") (b := true) ⟨o, ho, hc⟩ isSubtype_stop ?_)
  exact wpAny_pure (hQ _ _ hk)
end
theorem sep_of {z TI TO i1 i2 a b : Addr} (D : ZipApart z TI TO i1 i2 a b) : ZipSep2 z TI TO i1 i2 [i1, a] [i2, b] := ⟨D.TIz, D.TOz, D.TITO, D.TIi1, by simp, by simp [Ne.symm D.i1z, Ne.symm D.l1z], by simp [D.TOi1, Ne.symm D.l1TO], D.TIi2, by simp, by simp [Ne.symm D.i2z, Ne.symm D.l2z], by simp [D.TOi2, Ne.symm D.l2TO],
      by simp [D.i12, Ne.symm D.l2i1], by simp [Ne.symm D.i12, Ne.symm D.l1i2]⟩
section
variable {prog : Program} {w : World}
theorem pairArg_zipK {k1 k2 : Bool} (z TI TO i1 i2 l1 l2 : Addr) (D : ZipApart z TI TO i1 i2 l1 l2) (xs ys : Array Value) (hl : xs.size = ys.size) :
    PairArg prog w "zip" z [z, TI, TO, i1, i2, l1, l2] [z, TO, i1, i2] xs.size (fun i k v => xs[i]? = some k ∧ ys[i]? = some v)
      (fun h => IsZip h z TI TO .none ∧ IsTupOf2 h TI (.ref i1) (.ref i2) ∧ (∃ a b, IsTupOf2 h TO a b) ∧ IsIt k1 h i1 l1 0 ∧ IsIt k2 h i2 l2 0 ∧ IsSq k1 h l1 xs ∧ IsSq k2 h l2 ys) where
  type := fun s ok => ⟨_, ok.1, rfl⟩
  notDict := by decide
  keep := fun h h' ok hk => by
    obtain ⟨hz, hTI, ⟨a, b, hTO⟩, h1, h2, hl1, hl2⟩ := ok
    exact ⟨hk _ _ hz, hk _ _ hTI, ⟨a, b, hk _ _ hTO⟩, h1.keep fun o e => hk _ o e, h2.keep fun o e => hk _ o e, hl1.keep fun o e => hk _ o e, hl2.keep fun o e => hk _ o e⟩
  there := fun h ok b hb => by
    obtain ⟨hz, hTI, ⟨a, c, hTO⟩, h1, h2, hl1, hl2⟩ := ok
    simp only [List.mem_cons, List.not_mem_nil, or_false] at hb
    rcases hb with rfl | rfl | rfl | rfl | rfl | rfl | rfl
    · exact ⟨_, hz⟩
    · exact ⟨_, hTI⟩
    · exact ⟨_, hTO⟩
    · exact ⟨_, h1.obj.choose_spec.1⟩
    · exact ⟨_, h2.obj.choose_spec.1⟩
    · exact hl1.there
    · exact hl2.there
  sub := fun b hb => by simp at hb ⊢; rcases hb with rfl | rfl | rfl | rfl <;> simp
  noKeys := fun A s Q E hA ok h => getAttrOr_miss_zip ok.1 rfl rfl rfl zip_no_keys (by decide +kernel) hA h
  iter := fun A s d Q E hA ok hd hdf h => by
    obtain ⟨hz, hTI, ⟨a, b, hTO⟩, h1, h2, hl1, hl2⟩ := ok
    simp only [List.mem_cons, List.not_mem_nil, or_false, not_or] at hdf
    obtain ⟨dz, dTI, dTO, di1, di2, dl1, dl2⟩ := hdf
    refine wpAny_pyIter_zip hz (h z [z, TO, i1, i2] (fun i h => IsTupOf2 h TI (.ref i1) (.ref i2) ∧ (IsIt k1 h i1 l1 i ∧ IsSq k1 h l1 xs) ∧ (IsIt k2 h i2 l2 i ∧ IsSq k2 h l2 ys) ∧
      ((IsZip h z TI TO .none ∧ ∃ a b, IsTupOf2 h TO a b) ∨ ∃ T f oT, IsZipHeld h z TI TO T f ∧ h.get? T = some oT ∧ T ≠ z ∧ T ≠ i1 ∧ T ≠ i2 ∧ T ≠ d)) s.heap s.toks ?_
      ⟨hTI, ⟨h1, hl1⟩, ⟨h2, hl2⟩, .inl ⟨hz, a, b, hTO⟩⟩ (fun _ _ e => e) fun b hb => .inl hb)
    exact {
      off := fun hm => by
        simp only [List.mem_cons, List.not_mem_nil, or_false] at hm
        rcases hm with e | e | e | e
        · exact dz e
        · exact dTO e
        · exact di1 e
        · exact di2 e
      frame := fun i h₁ h₂ st hk => by
        obtain ⟨hTI, ⟨h1, hl1⟩, ⟨h2, hl2⟩, hz⟩ := st
        refine ⟨hk _ _ (Ne.symm dTI) hTI, ⟨h1.keep fun o e => hk _ o (Ne.symm di1) e, hl1.keep fun o e => hk _ o (Ne.symm dl1) e⟩, ⟨h2.keep fun o e => hk _ o (Ne.symm di2) e, hl2.keep fun o e => hk _ o (Ne.symm dl2) e⟩, ?_⟩
        rcases hz with ⟨hz, a, b, hTO⟩ | ⟨T, f, oT, hz, hT, r1, r2, r3, r4⟩
        · exact .inl ⟨hk _ _ (Ne.symm dz) hz, a, b, hk _ _ (Ne.symm dTO) hTO⟩
        · exact .inr ⟨T, f, oT, hk _ _ (Ne.symm dz) hz, hk _ _ r4 hT, r1, r2, r3, r4⟩
      item := fun i s₁ Q₁ E₁ hi st hds hQ => by
        obtain ⟨hTI, h1, h2, hz⟩ := st
        have lt : ∀ {c o}, s₁.heap.get? c = some o → s₁.heap.objs.size ≠ c := fun e => Nat.ne_of_gt (Heap.lt_size e)
        have n1 : s₁.heap.objs.size ≠ i1 := lt h1.1.obj.choose_spec.1
        have n2 : s₁.heap.objs.size ≠ i2 := lt h2.1.obj.choose_spec.1
        rcases hz with ⟨hz, a, b, hTO⟩ | ⟨T, f, oT, hz, hT, r1, r2, r3, r4⟩
        · refine wpAny_pyNext_zipD2_item (sep_of D) (draws_k (k := k1) (A := A.in1) hA D.l1i1) (draws_k (k := k2) (A := A.in1) hA D.l2i2) hz hTI hTO h1 h2 hi (by omega) fun x1 x2 h' tk ex ey a1 a2 a3 a4 a5 a6 hk => ?_
          exact hQ s₁.heap.objs.size _ _ h' tk ⟨ex, ey⟩ (.inl ⟨_, a5, rfl, _, rfl⟩)
            ⟨hk _ _ D.TIz D.TITO D.TIi1 D.TIi2 hTI, a3, a4, .inr ⟨s₁.heap.objs.size, false, _, a1, a5, lt hz, n1, n2, Nat.ne_of_gt hds⟩⟩
            fun c o hc e => hk c o (fun x => hc (by simp [x])) (fun x => hc (by simp [x])) (fun x => hc (by simp [x])) (fun x => hc (by simp [x])) e
        · refine pyNext_zipH_item (sep_of D) (draws_k (k := k1) (A := A.in1) hA D.l1i1) (draws_k (k := k2) (A := A.in1) hA D.l2i2) hz hT hTI h1 h2 hi (by omega) fun x1 x2 h' tk ex ey a1 a3 a4 a5 a6 hk => ?_
          exact hQ s₁.heap.objs.size _ _ h' tk ⟨ex, ey⟩ (.inl ⟨_, a5, rfl, _, rfl⟩)
            ⟨hk _ _ D.TIz D.TIi1 D.TIi2 hTI, a3, a4, .inr ⟨T, true, oT, a1, hk _ _ r1 r2 r3 hT, r1, r2, r3, r4⟩⟩
            fun c o hc e => hk c o (fun x => hc (by simp [x])) (fun x => hc (by simp [x])) (fun x => hc (by simp [x])) e
      done := fun s₁ Q₁ E₁ st hQ => by
        obtain ⟨hTI, h1, h2, hz⟩ := st
        rcases hz with ⟨hz, a, b, hTO⟩ | ⟨T, f, oT, hz, hT, r1, r2, r3, r4⟩
        · exact wpAny_pyNext_zipD2_end (sep_of D) (draws_k (k := k1) (A := A.in1) hA D.l1i1) (draws_k (k := k2) (A := A.in1) hA D.l2i2) hz hTI hTO h1 h2 (Nat.le_refl _) (by omega) (.inl rfl) fun h' tk hk => hQ h' tk fun c o hc e => hk c o (fun x => hc (by simp [x])) (fun x => hc (by simp [x])) (fun x => hc (by simp [x])) (fun x => hc (by simp [x])) e
        · exact pyNext_zipH_end (sep_of D) (draws_k (k := k1) (A := A.in1) hA D.l1i1) (draws_k (k := k2) (A := A.in1) hA D.l2i2) hz hT hTI h1 h2 rfl fun h' tk hk => hQ h' tk fun c o hc e => hk c o (fun x => hc (by simp [x])) (fun x => hc (by simp [x])) (fun x => hc (by simp [x])) e }
end
end Dry
set_option Elab.async false
set_option linter.all false
set_option maxRecDepth 100000
set_option maxHeartbeats 4000000
set_option autoImplicit false
namespace Dry
open PySem PySem.Spec PyProof.Rows L2
theorem valV_not {kvs : List (Key × V)} {k : Key} (h : k ∉ kvs.map Prod.fst) : valV kvs k = none := by
  unfold valV
  rw [Option.map_eq_none_iff, List.find?_eq_none]
  intro q hq z
  exact h (List.mem_map.mpr ⟨q, hq, of_decide_eq_true z⟩)
theorem mergeK_nodup : ∀ (more acc : List (Key × V)), ((acc ++ more).map Prod.fst).Nodup → mergeK acc more = acc ++ more
  | [], acc, _ => (List.append_nil acc).symm
  | q :: more, acc, h => by
    have hq : q.1 ∉ acc.map Prod.fst := by
      rw [List.map_append, List.map_cons] at h
      have := List.nodup_append.mp h
      exact fun z => this.2.2 _ z _ (List.mem_cons_self ..) rfl
    show mergeK (putK acc q.1 q.2) more = acc ++ q :: more
    rw [putK_new _ (valV_not hq), mergeK_nodup more _ (by simpa using h), List.append_assoc]
    rfl
section
variable {X : Cx}
theorem kv_zip {ns ms : List Int} {its2 : List Value} (r : Vals (ms.map V.int) its2) : KV ((ns.zip ms).map fun q => ((.inl q.1 : Key), V.int q.2)) ((ns.zip its2).map fun q => ((.inl q.1 : Key), q.2)) := by
  induction ns generalizing ms its2 with
  | nil => exact .nil
  | cons n ns ih =>
    cases ms with
    | nil =>
      cases r
      exact .nil
    | cons m ms =>
      cases r with
      | cons h t => exact .cons ⟨rfl, h⟩ (ih t)
theorem p_dictzip {a b : Expr} {ta tb : TE} {p1 p2 q1 q2 : Pos} (hc : X.calm = true) (hu : X.A.units + 65 < cLine) (hg : Gl X "dict") (hm : X.mg "dict" = none) (hg2 : Gl X "zip") (hm2 : X.mg "zip" = none) (ha : PA X [a, b] (tCons ta (tCons tb tNil)))
    (hs : starEach [a, b] X.env = (false, eval a X.env) :: starEach [b] X.env) (hpl : (backTo q2 (starEach [b] X.env)).any (·.1) = false) :
    PE X (.Call (.Name "dict" p1) [.Call (.Name "zip" p2) [a, b] [] q2] [] q1) (tOp (DR2 X.K dZipD) ta tb) := by
  refine ⟨fun pins s σ H Q I h => ?_⟩
  have hs1 : starEach [.Call (.Name "zip" p2) [a, b] [] q2] X.env = (false, eval (.Call (.Name "zip" p2) [a, b] [] q2) X.env) :: starEach [] X.env := by rfl
  refine wpAny_Call_Name_kw (ld_blt I hg hm PyProof.Rows.boot_dict ?_)
  refine PyProof.Rows.callWith_type1 ?_ hs1 rfl
  rw [hs1]
  show wpAny _ _ (spliced ((false, eval (.Call (.Name "zip" p2) [a, b] [] q2) X.env) :: backTo q1 (starEach [] X.env))) _ _ s
  refine Calls.spliced_cons ?_
  refine wpAny_Call_Name_kw (ld_blt I hg2 hm2 PyProof.Rows.boot_zip ?_)
  refine PyProof.Rows.callWith_type1 (thn (ha.run q2 pins s σ H (fun vs H2 => match vs with
    | [x, y] => DR2 X.K dZipD x y H2 Q
    | _ => False) I h) fun us s3 ⟨vs, H2, I3, r3, q3⟩ => ?_) hs hpl
  match vs, q3, r3 with
  | [x, y], q3, r3 =>
    obtain ⟨T, M, d, e, r, hM, hd, he, hgd, q⟩ := q3
    unfold dZipD at hgd
    split at hgd
    · rename_i xs ys
      cases z1 : dInts xs with
      | none => rw [z1] at hgd; cases hgd
      | some ns =>
        cases z2 : dInts ys with
        | none => rw [z1, z2] at hgd; cases hgd
        | some ms =>
          rw [z1, z2] at hgd
          replace hgd : (if ns.Nodup ∧ ns.length = ms.length ∧ ns.length ≤ 1000 then some (D.dct (ns.zip ms)) else none) = some r := hgd
          split at hgd
          · rename_i hcond
            obtain ⟨hnd, hlen, hcap⟩ := hcond
            cases hgd
            have e1 := dInts_of z1
            have e2 := dInts_of z2
            subst e1 e2
            obtain ⟨k1, a1, us1, rfl, hE1, dl1⟩ := hd.items (es := ns.map D.int) rfl
            obtain ⟨k2, a2, us2, rfl, hE2, dl2⟩ := he.items (es := ms.map D.int) rfl
            have f1 := dl1.ints
            have f2 := dl2.ints
            subst f1 f2
            cases r3 with
            | cons ra rr =>
              cases rr with
              | cons rb rr =>
                cases rr
                cases ra
                cases rb
                obtain ⟨its, rv, p1⟩ := sq_of I3 (hE1 _ (Ext.refl _ _))
                obtain ⟨its2, rv2, p2⟩ := sq_of I3 (hE2 _ (Ext.refl _ _))
                have l1 := rv.length
                have l2 := rv2.length
                rw [List.length_map] at l1 l2
                refine zip_begins2 (begins_k (k := k1) (items := its.toArray)) (begins_k (k := k2) (items := its2.toArray)) p1 p2 fun h' hz hTI hTO g1 g2 hsz hk => ?_
                refine Calls.spliced_nil ?_
                have hap := PySem.W.ktu_apart s3.heap.objs.size a1 a2 p1.lt p2.lt
                refine call_dict_pairs (s := { s3 with heap := h' }) (knd := mixKind X.prog X.w) (kvs := (ns.zip its2).map fun q => ((.inl q.1 : Key), q.2)) (pairArg_zipK (k1 := k1) (k2 := k2) _ _ _ _ _ a1 a2 hap its.toArray its2.toArray (by simp; omega)) (I3.ok.hd hc)
                  ⟨hz, hTI, ⟨_, _, hTO⟩, .new g1, .new g2, p1.keep fun o e => hk _ o e, p2.keep fun o e => hk _ o e⟩ ⟨?_, ?_⟩ ?_ fun h'' tk hd' hk' => ?_
                · simp
                  omega
                · intro i key v hrel
                  obtain ⟨hk1, hk2⟩ := hrel
                  have hk1 : its[i]? = some key := by simpa using hk1
                  have hk2 : its2[i]? = some v := by simpa using hk2
                  have hi : i < ns.length := by
                    have := (List.getElem?_eq_some_iff.mp hk1).1
                    omega
                  obtain ⟨u, hu, ru⟩ := rv.get (i := i) (x := V.int ns[i]) (by rw [List.getElem?_map, List.getElem?_eq_getElem hi]; rfl)
                  rw [hk1] at hu
                  cases hu
                  refine ⟨.inl ns[i], ?_, kV_is (P := X.prog) (w := X.w) (k := .inl ns[i]) ru⟩
                  have z : (ns.zip its2)[i]? = some (ns[i], v) := List.getElem?_zip_eq_some.mpr ⟨List.getElem?_eq_getElem hi, hk2⟩
                  rw [List.getElem?_map, z]
                  rfl
                · refine cap_line (Nat.le_trans ?_ (show 1000 ≤ cap by decide))
                  simp
                  omega
                · have hN : ({ s3 with heap := h' } : Shared).heap.objs.size = s3.heap.objs.size + 5 := hsz
                  rw [hN] at hd' ⊢
                  have km : mergeK [] ((ns.zip ms).map fun q => ((.inl q.1 : Key), V.int q.2)) = (ns.zip ms).map fun q => ((.inl q.1 : Key), V.int q.2) := by
                    refine mergeK_nodup _ [] ?_
                    rw [List.nil_append, List.map_map]
                    have e : (Prod.fst ∘ fun q : Int × Int => ((.inl q.1 : Key), V.int q.2)) = (fun n : Int => (.inl n : Key)) ∘ Prod.fst := rfl
                    rw [e, ← List.map_map, List.map_fst_zip (by omega)]
                    exact hnd.map _ (fun a b hab z => hab (Sum.inl.inj z))
                  have hrel := KV.merge (kv_zip (ns := ns) rv2) (.nil : KV [] [])
                  rw [km] at hrel
                  have hbig : ((s3.heap.objs.size + 5) == sysModules) = false := beq_eq_false_iff_ne.mpr (Nat.ne_of_gt (Nat.lt_of_lt_of_le I3.big (Nat.le_add_right _ _)))
                  have hfr : H2 (s3.heap.objs.size + 5) = none := I3.hok.fresh (Nat.le_add_right _ _)
                  refine ⟨.ref (s3.heap.objs.size + 5), upd H2 (s3.heap.objs.size + 5) (.dK ((ns.zip ms).map fun q => ((.inl q.1 : Key), V.int q.2))), I3.laid (t' := tk) (fun b o e => hk' b o ?_ (hk b o e)) (Nat.le_add_right _ _)
                    (show ObjOk X.prog X.w _ _ _ (.dK _) from ⟨?_, hbig, _, hrel, hd'⟩), rfl, q _ _ (Ext.new hfr) (.dct (fun z => hM _ z hfr) upd_same)⟩
                  · have hlt := Heap.lt_size e
                    intro z
                    simp only [List.mem_cons, List.not_mem_nil, or_false] at z
                    rcases z with z | z | z | z
                    all_goals exact absurd hlt (Nat.not_lt.mpr (z ▸ (by first | exact Nat.le_add_right _ _ | exact Nat.le_refl _)))
                  · rw [List.length_map, List.length_zip]
                    exact cap_line (Nat.le_trans (Nat.min_le_left _ _) (Nat.le_trans hcap (by decide)))
          · cases hgd
    · cases hgd
end
end Dry
set_option Elab.async false
set_option linter.all false
set_option maxRecDepth 100000
set_option maxHeartbeats 4000000
/-! set(xs) of a list of tuples of ints, few of them distinct: HandS.TupSets' proofs for fewer than 64 items, turned to fewer than 63 distinct ones. -/
namespace Dry
open PySem PySem.Spec PyProof.Rows L2
section
variable {P : Program} {w : World} {A : Around} {E : Value → Shared → Prop} {s : Shared}
theorem set_upd {I : Addr} {fp wr : List Addr} {G : Array GenState → Array GenState → Prop} {n : Nat} {Pv : Nat → Value → Prop} {St : Nat → Shared → Prop} {R : Result → Shared → Prop}
    (W : WalksS P w A.in1 I fp wr G n Pv St) (S : Addr) (hSf : S ∉ fp) (ks : List (Addr × List Int)) (hn : n = ks.length) (hfew : ∀ L : List (Addr × List Int), (L.map (·.2)).Nodup → (∀ p ∈ L, p ∈ ks) → L.length + 1 < 64) (hval : ∀ i v, Pv i v → ∃ p, ks[i]? = some p ∧ v = .ref p.1)
    (h0 : Heap) (hk : ∀ p ∈ ks, IsT P w h0 p.2 p.1) (hS0 : h0.get? S = none) (hw0 : ∀ b ∈ wr, h0.get? b = none) (hu : A.in1.units < cLine) :
    ∀ (k i : Nat) (s : Shared), n - i = k → i ≤ n → St i s → (∀ b o, h0.get? b = some o → s.heap.get? b = some o) → (∃ L es ep t, SetTR P w s.heap S L es ep t ∧ Got ks i L) →
      (∀ s' L es ep t, Moved (S :: wr) G s s' → SetTR P w s'.heap S L es ep t → Got ks n L → (∀ b o, h0.get? b = some o → s'.heap.get? b = some o) → R (.ok (.ret .none)) s') →
      codeAny (model P w) A (.builtin "set.update.loop" ⟨[.ref S, .ref I], []⟩) R s := by
  have hSw : S ∉ wr := fun h => hSf (W.sub _ h)
  have hsub : ∀ b ∈ wr, b ∈ S :: wr := fun b hb => List.mem_cons_of_mem _ hb
  have keepM : ∀ {s s' : Shared}, Moved wr G s s' → (∀ b o, h0.get? b = some o → s.heap.get? b = some o) → ∀ b o, h0.get? b = some o → s'.heap.get? b = some o := fun hm hkp b o e =>
    hm.heap b o (fun hb => by rw [hw0 b hb] at e; cases e) (hkp b o e)
  intro k
  induction k with
  | zero =>
    intro i s hk' hi hst hkp ⟨L, es, ep, t, hS, g⟩ hR
    have hin : i = n := by omega
    subst hin
    refine codeAny_builtin F.entry_set_update_loop ?_
    rw [Around.under_plainId F.plain_set_update_loop _]
    show wpAny _ A.in1 (pyNext (.ref I) >>= _) _ _ s
    refine wpAny_bind (W.done s _ _ hst fun s' hm => ?_)
    show wpAny _ A.in1 (ret Value.none) _ _ s'
    have hkp' := keepM hm hkp
    have sub : ∀ p ∈ L, p ∈ ks := fun p hp => List.mem_of_mem_take (g.sub p hp)
    exact wpAny_pure (hR s' L es ep t (hm.mono hsub) (hS.keep (fun o e => hm.heap S o hSw e) fun p hp => isT_keep (hk p (sub p hp)) hkp') g hkp')
  | succ k ih =>
    intro i s hk' hi hst hkp ⟨L, es, ep, t, hS, g⟩ hR
    have hlt : i < n := by omega
    refine codeAny_builtin F.entry_set_update_loop ?_
    rw [Around.under_plainId F.plain_set_update_loop _]
    show wpAny _ A.in1 (pyNext (.ref I) >>= _) _ _ s
    refine wpAny_bind (W.item i s _ _ hlt hst fun v s' hP hst' hm => ?_)
    obtain ⟨p, hp, rfl⟩ := hval i v hP
    have hkp' := keepM hm hkp
    have sub : ∀ p ∈ L, p ∈ ks := fun p hp => List.mem_of_mem_take (g.sub p hp)
    have hS' : SetTR P w s'.heap S L es ep t := hS.keep (fun o e => hm.heap S o hSw e) fun q hq => isT_keep (hk q (sub q hq)) hkp'
    have hx : IsT P w s'.heap p.2 p.1 := isT_keep (hk p (List.mem_of_getElem? hp)) hkp'
    show wpAny _ A.in1 (holding [Value.ref p.1] (setAdd S (.ref p.1)) >>= _) _ _ s'
    refine wpAny_bind (wpAny_holding ?_)
    unfold setAdd
    refine wpAny_holding ?_
    refine wpAny_bind (wpAny_pyHash_tuple hu hx ?_)
    refine add_at (s := { s' with toks := s'.toks + (p.2.length + 1) }) hS' hx hu (hfew L hS'.nd sub) fun b h' L' es' ep' t' hsb hS2 c1 c2 => ?_
    have g' : Got ks (i + 1) L' := by
      rcases Classical.em (p.2 ∈ L.map (·.2)) with c | c
      · rw [c1 c]; exact g.same hp c
      · exact g.more hp (c2 c)
    have hkp2 : ∀ b o, h0.get? b = some o → h'.get? b = some o := fun b o e => (hsb.2 b (fun z => by rw [z, hS0] at e; cases e)).trans (hkp' b o e)
    refine wpAny_pure ⟨plainId_quiet F.plain_set_update_loop _, ih (i + 1) _ (by omega) hlt (W.frame _ s' _ _ hst' (Nat.le_add_right _ _) fun b hb o e => ?_) hkp2 ⟨L', es', ep', t', hS2, g'⟩ fun s'' L2 es2 ep2 t2 hm'' hS'' g'' hkp'' => ?_⟩
    · rw [hsb.2 b (fun h : b = S => hSf (by rw [← h]; exact hb))]; exact e
    · refine hR s'' L2 es2 ep2 t2 (Moved.trans W.gtrans ((hm.mono hsub).then_heap (Nat.le_add_right _ _) fun b o hb e => ?_) hm'') hS'' g'' hkp''
      rw [hsb.2 b (fun h : b = S => hb (by rw [h]; exact List.mem_cons_self))]; exact e

theorem call_setD {l : Addr} {items : Array Value} (ks : List (Addr × List Int)) {Q : Value → Shared → Prop} (hh : A.handled = none) (hl : s.heap.IsList l items) (hit : items.toList = ks.map fun p => Value.ref p.1)
    (hk : ∀ p ∈ ks, IsT P w s.heap p.2 p.1) (hfew : ∀ L : List (Addr × List Int), (L.map (·.2)).Nodup → (∀ p ∈ L, p ∈ ks) → L.length + 1 < 64) (hu : A.units + 3 < cLine)
    (h : ∀ (h' : Heap) (tk : Nat) L es ep t, SetTR P w h' s.heap.objs.size L es ep t → Got ks ks.length L → (∀ b o, s.heap.get? b = some o → h'.get? b = some o) → Q (.ref s.heap.objs.size) { s with heap := h', toks := tk }) :
    wpAny (model P w) A (call (.type "set") [.ref l]) Q E s := by
  have hisz : items.size = ks.length := by
    have q := congrArg List.length hit
    rw [Array.length_toList, List.length_map] at q
    exact q
  obtain ⟨c, tl, hmro⟩ := F.called_set.mro
  have hmade := F.called_set.made
  have hsub := F.called_set.sub
  refine wpAny_call (codeAny_of_tree ?_)
  show wpAny _ _ (callAny (.type "set") _) _ _ _
  refine wpAny_pure ⟨Code.quiet_builtin _ (by decide +kernel), codeAny_builtin F.entry_type_call ?_⟩
  rw [Around.under_plain (weight_type_call_type "set" [.ref l] []) rfl]
  have h1 := F.called_set.notType
  have h2 := F.called_set.canCreate
  have hct := F.typeCall_set_1 (.ref l)
  repeat (any_goals (first | assumption | wp_step))

  refine codeAny_mono (code_set_led1 (.ref l) (E := E) (Q₁ := fun obj s₁ => obj = .ref s.heap.objs.size ∧ s₁ = { s with heap := s.heap.push { cls := .type "set", dict := none, data := .set #[] 0 (.fresh 0 0 (!w.params.followText "set-order")) } }) ⟨rfl, rfl⟩) fun r s₁ hr => ?_
  cases r with
  | error e => exact hr
  | ok fl =>
    cases fl with
    | ret obj =>
      obtain ⟨rfl, rfl⟩ := hr
      have hS : (s.heap.push { cls := .type "set", dict := none, data := .set #[] 0 (.fresh 0 0 (!w.params.followText "set-order")) }).get? s.heap.objs.size = some { cls := .type "set", dict := none, data := .set #[] 0 (.fresh 0 0 (!w.params.followText "set-order")) } := Heap.get?_push_size _ rfl
      have hT : Shared.TypeIs { s with heap := s.heap.push { cls := .type "set", dict := none, data := .set #[] 0 (.fresh 0 0 (!w.params.followText "set-order")) } } (.ref s.heap.objs.size) "set" := ⟨_, hS, rfl⟩
      have hli := F.called_set.init.lookup
      have hbi := F.called_set.init.bind (.ref s.heap.objs.size)
      repeat (any_goals (first | assumption | wp_step))

      refine codeAny_mono (codeAny_call_builtin (R := wants (fun r s₂ => r = .none ∧ ∃ h' tk L es ep t, s₂ = { s with heap := h', toks := tk } ∧ SetTR P w h' s.heap.objs.size L es ep t ∧ Got ks ks.length L ∧
          (∀ b o, s.heap.get? b = some o → h'.get? b = some o)) E) F.called_set.init.plain F.entry_set_init (check_set_init_1 hT ?_)) fun r₂ s₂ hr₂ => ?_
      · obtain ⟨ol, hol, hcl, nl, hdl⟩ := hl
        obtain ⟨ocls, odict, odata, oslots⟩ := ol
        simp only at hcl hdl
        subst hcl; subst hdl
        have hol' : (s.heap.push { cls := .type "set", dict := none, data := .set #[] 0 (.fresh 0 0 (!w.params.followText "set-order")) }).get? l = some { cls := .type "list", dict := odict, data := .seq items nl, slots := oslots } := Heap.get?_push_of_some _ hol
        have hsls := F.sub_list_set
        have hslf := F.sub_list_frozenset
        have hne : (Value.type "list" == Value.type "dict") = false := by decide
        have hl1 : (s.heap.push { cls := .type "set", dict := none, data := .set #[] 0 (.fresh 0 0 (!w.params.followText "set-order")) }).IsList l items := ⟨_, hol', rfl, nl, rfl⟩
        unfold Builtin.«set.__init__» noKeywords Builtin.Frozenset.updateFrom
        generalize hPI : pyIter = PI
        wp_walk
        subst hPI

        refine wpAny_pyIter_list hl1 ?_
        refine wpAny_bind (wpAny_runValue ?_)
        have hlS : l < s.heap.objs.size := Heap.lt_size hol
        have hh3 : A.in1.in1.in1.handled = none := by simp [hh]
        have hz1 : (s.heap.push { cls := .type "set", dict := none, data := .set #[] 0 (.fresh 0 0 (!w.params.followText "set-order")) }).objs.size = s.heap.objs.size + 1 := Heap.size_push ..
        have hneI : l ≠ (s.heap.push { cls := .type "set", dict := none, data := .set #[] 0 (.fresh 0 0 (!w.params.followText "set-order")) }).objs.size := by
          rw [Heap.size_push]; exact Nat.ne_of_lt (Nat.lt_succ_of_lt hlS)
        have hSf : s.heap.objs.size ∉ [(s.heap.push { cls := .type "set", dict := none, data := .set #[] 0 (.fresh 0 0 (!w.params.followText "set-order")) }).objs.size, l] := by
          rw [Heap.size_push]; simp only [List.mem_cons, List.mem_singleton, List.not_mem_nil, or_false, not_or]
          exact ⟨Nat.ne_of_lt (Nat.lt_succ_self _), Nat.ne_of_gt hlS⟩
        have hval : ∀ (i : Nat) (v : Value), items[i]? = some v → ∃ p, ks[i]? = some p ∧ v = .ref p.1 := fun i v hv => by
          have q : items.toList[i]? = some v := by rw [Array.getElem?_toList]; exact hv
          rw [hit, List.getElem?_map] at q
          cases hq : ks[i]? with
          | none => rw [hq] at q; cases q
          | some p =>
            rw [hq] at q
            exact ⟨p, rfl, (Option.some.inj q).symm⟩
        have none_of : ∀ b, s.heap.objs.size ≤ b → s.heap.get? b = none := fun b hb => by
          cases q : s.heap.get? b with
          | none => rfl
          | some o => exact absurd (Nat.lt_of_lt_of_le (Heap.lt_size q) hb) (Nat.lt_irrefl _)
        refine set_upd ((Walks.list hh3 _ l hneI items).toS) s.heap.objs.size
          hSf ks hisz hfew hval s.heap hk (none_of _ (Nat.le_refl _)) (fun b hb => none_of b (by
            rw [List.mem_singleton.mp hb, Heap.size_push]
            exact Nat.le_succ _)) hu (items.size - 0) 0 _ (by omega) (Nat.zero_le _)
          ⟨⟨_, Heap.get?_push_size _ rfl, rfl, rfl⟩, (hl1.push _)⟩ (fun b o e => Heap.get?_push_of_some _ (Heap.get?_push_of_some _ e)) ?hS0 ?hR
        case hS0 =>
          have hget : ((s.heap.push { cls := .type "set", dict := none, data := .set #[] 0 (.fresh 0 0 (!w.params.followText "set-order")) }).push { cls := .type "list_iterator", data := .fields #[.ref l, .int 0 0] }).get? s.heap.objs.size
              = some { cls := .type "set", dict := none, data := .set #[] 0 (.fresh 0 0 (!w.params.followText "set-order")) } := Heap.get?_push_of_some _ hS
          exact ⟨[], #[], 0, _, setTR_fresh hget, Got.zero ks⟩
        case hR =>
          intro s' L es ep t hm hS' g' hkp
          obtain ⟨h', g2, d', tk', os'⟩ := s'
          have eg : g2 = s.gens := hm.gens
          have ed : d' = s.drawn := hm.drawn
          have eo : os' = s.os := hm.os
          subst eg; subst ed; subst eo
          show wpAny _ _ _ _ _ _
          refine wpAny_pure ?_
          show wpAny _ _ (ret Value.none) _ _ _
          rw [hisz] at g'
          exact wpAny_pure ⟨rfl, h', tk', L, es, ep, t, rfl, hS', g', hkp⟩

      · cases r₂ with
        | error e => exact hr₂
        | ok fl₂ =>
          cases fl₂ with
          | ret r =>
            obtain ⟨rfl, h', tk, L, es, ep, t, rfl, hS', g', hk'⟩ := hr₂
            repeat (any_goals (first | assumption | wp_step))
            exact h _ _ _ _ _ _ hS' g' hk'
          | _ => exact hr₂.elim
    | _ => exact hr.elim
end
end Dry
set_option Elab.async false
set_option linter.all false
set_option maxRecDepth 100000
set_option maxHeartbeats 4000000
set_option autoImplicit false
namespace Dry
open PySem PySem.Spec PyProof.Rows L2
theorem dRows_of : ∀ {ds : List D} {rs : List (List Int)}, dRows ds = some rs → ds = rs.map fun r => D.tup (r.map D.int) := by
  intro ds
  induction ds with
  | nil =>
    intro rs h
    cases h
    rfl
  | cons d ds ih =>
    intro rs h
    cases d with
    | tup xs =>
      have h : ((dInts xs).bind fun ns => (dRows ds).map (ns :: ·)) = some rs := h
      cases z : dInts xs with
      | none => rw [z] at h; cases h
      | some ns =>
        rw [z] at h
        cases z2 : dRows ds with
        | none =>
          rw [z2] at h
          cases h
        | some rs' =>
          rw [z2] at h
          cases h
          rw [ih z2, dInts_of z]
          rfl
    | _ => cases h
theorem nodup_ed : ∀ (n : Nat) (l : List (List Int)), l.length ≤ n → l.eraseDups.Nodup ∧ ∀ x, x ∈ l.eraseDups ↔ x ∈ l
  | 0, l, h => by
    have : l = [] := List.eq_nil_of_length_eq_zero (by omega)
    subst this
    exact ⟨List.nodup_nil, fun x => Iff.rfl⟩
  | n + 1, [], h => ⟨List.nodup_nil, fun x => Iff.rfl⟩
  | n + 1, a :: l, h => by
    rw [List.eraseDups_cons]
    have hl : (l.filter fun b => !b == a).length ≤ n := Nat.le_trans (List.length_filter_le _ _) (by simpa using h)
    obtain ⟨h1, h2⟩ := nodup_ed n (l.filter fun b => !b == a) hl
    refine ⟨List.nodup_cons.mpr ⟨fun z => ?_, h1⟩, fun x => ?_⟩
    · have := (h2 a).mp z
      simp at this
    · rw [List.mem_cons, List.mem_cons, h2, List.mem_filter]
      by_cases e : x = a
      · simp [e]
      · simp [e]
theorem ed_len {l m : List (List Int)} (hn : m.Nodup) (h1 : ∀ x ∈ m, x ∈ l) (h2 : ∀ x ∈ l, x ∈ m) : m.length = l.eraseDups.length := by
  obtain ⟨e1, e2⟩ := nodup_ed _ l (Nat.le_refl _)
  have p : m.Perm l.eraseDups := (List.perm_ext_iff_of_nodup hn e1).mpr fun x => ⟨fun h => (e2 x).mpr (h1 x h), fun h => h2 x ((e2 x).mp h)⟩
  exact p.length_eq
theorem ed_le {l m : List (List Int)} (hn : m.Nodup) (h1 : ∀ x ∈ m, x ∈ l) : m.length ≤ l.eraseDups.length := by
  obtain ⟨e1, e2⟩ := nodup_ed _ l (Nat.le_refl _)
  have p : m.Perm (l.eraseDups.filter fun x => decide (x ∈ m)) := (List.perm_ext_iff_of_nodup hn (e1.filter _)).mpr fun x => by
    rw [List.mem_filter, e2]
    exact ⟨fun h => ⟨h1 x h, decide_eq_true h⟩, fun h => of_decide_eq_true h.2⟩
  rw [p.length_eq]
  exact List.length_filter_le _ _
section
variable {X : Cx}
theorem rows_ks {K : PySem.W.Frag} {T : Option Addr} {M : List Addr} {H : Hp} : ∀ {xs : List V} {rs : List (List Int)}, DatL K T M H xs (rs.map fun r => D.tup (r.map D.int)) →
    ∃ ks : List (Addr × List Int), xs = ks.map (fun p => V.ref p.1) ∧ ks.map (·.2) = rs ∧ ∀ p ∈ ks, SqT K H p.1 (p.2.map V.int)
  | xs, [], h => by
    cases h
    exact ⟨[], rfl, rfl, fun p hp => nomatch hp⟩
  | xs, r :: rs, h => by
    cases h with
    | cons h t =>
      obtain ⟨a, ys, rfl, hq, hd⟩ := h.sqt
      have := hd.ints
      subst this
      obtain ⟨ks, rfl, e2, e3⟩ := rows_ks t
      refine ⟨(a, r) :: ks, rfl, by rw [List.map_cons, e2], fun p hp => ?_⟩
      rcases List.mem_cons.mp hp with rfl | hp
      · exact hq
      · exact e3 p hp
theorem p_lenset {a : Expr} {ta : TE} {p1 p2 q1 q2 : Pos} (hc : X.calm = true) (hu : X.A.units + 65 < cLine) (hg : Gl X "len") (hm : X.mg "len" = none) (hg2 : Gl X "set") (hm2 : X.mg "set" = none) (ha : PE X a ta)
    (hs : starEach [a] X.env = [(false, eval a X.env)]) :
    PE X (.Call (.Name "len" p1) [.Call (.Name "set" p2) [a] [] q2] [] q1) (fun σ H Q => ta σ H fun x H1 => DC X.K dLenSet [x] H1 Q) := by
  refine ⟨fun pins s σ H Q I h => ?_⟩
  refine Call_ (ld_blt I hg hm boot_len ?_)
  refine PyProof.Rows.callWith_builtin1 (PyProof.Rows.args_cons ?_ rfl) rfl rfl
  refine Call_ (ld_blt I hg2 hm2 boot_set ?_)
  refine PyProof.Rows.callWith_type1 (PyProof.Rows.args_cons (thn (ha.run pins s σ H _ I h) fun v s1 ⟨x, H1, I1, r1, q1⟩ => PyProof.Rows.args_nil ?_) hs) hs rfl
  obtain ⟨T, M, ds, r, hM, hd, hgd, q⟩ := q1
  unfold dLenSet at hgd
  split at hgd
  · rename_i es
    cases z : dRows es with
    | none => rw [z] at hgd; cases hgd
    | some rs =>
      rw [z] at hgd
      replace hgd : (if rs.eraseDups.length ≤ 30 ∧ rs.length ≤ 1000 then some (D.int rs.eraseDups.length) else none) = some r := hgd
      split at hgd
      · rename_i hcond
        obtain ⟨h30, hcap⟩ := hcond
        cases hgd
        have e1 := dRows_of z
        subst e1
        obtain ⟨x', ex, h1⟩ := hd.one'
        cases ex
        obtain ⟨l, xs, rfl, _, _, hq, h2⟩ := h1.sql
        obtain ⟨ks, rfl, ek, hks⟩ := rows_ks h2
        cases r1
        obtain ⟨its, rv, pl, hz⟩ := I1.list hq
        refine call_setD (P := X.prog) (w := X.w) ks (I1.ok.hd hc) pl.isList (by simpa using refs_of_vals rv) (fun p hp => I1.isT (hks p hp)) (fun L hn hsub => ?_) (by omega) fun h' tk L es ep t R g k => ?_
        · have := ed_le (l := rs) hn (fun x hx => by
            obtain ⟨p, hp, rfl⟩ := List.mem_map.mp hx
            rw [← ek]
            exact List.mem_map.mpr ⟨p, hsub p hp, rfl⟩)
          rw [List.length_map] at this
          omega
        · refine PyProof.Rows.args_nil ?_
          have hL : (L.map (·.2)).length = rs.eraseDups.length := ed_len R.nd (fun x hx => by
            obtain ⟨p, hp, rfl⟩ := List.mem_map.mp hx
            rw [← ek]
            exact List.mem_map.mpr ⟨p, List.mem_of_mem_take (g.sub p hp), rfl⟩) (fun x hx => by
            rw [← ek] at hx
            obtain ⟨p, hp, rfl⟩ := List.mem_map.mp hx
            exact g.all p (by rw [List.take_length]; exact hp))
          rw [List.length_map] at hL
          obtain ⟨o, ho, hex, hd'⟩ := R.ob
          have hsz : es.size = L.length := SetTR.size (s := { s1 with heap := h', toks := tk }) R
          have I2 : Inv X pins σ H1 { s1 with heap := h', toks := tk } := I1.kept k
          refine call_len_set ho hex hd' (SetTR.fits (s := { s1 with heap := h', toks := tk }) R) (by rw [hsz, hL]; omega) ⟨.int (rs.eraseDups.length : Nat), H1, I2.tok _, ⟨_, by rw [hsz, hL]⟩, q _ _ (Ext.refl _ _) (.int _)⟩
      · cases hgd
  · cases hgd
end
end Dry
set_option Elab.async false
set_option linter.all false
set_option maxRecDepth 100000
set_option maxHeartbeats 4000000
set_option autoImplicit false
namespace Dry
open PySem PySem.Spec PyProof.Rows L2
theorem sub_ls : isSubtype (.type "list") (.type "str") = pure false := by rw [isSubtype_type]; kernel_rfl
theorem sub_lb : isSubtype (.type "list") (.type "bytes") = pure false := by rw [isSubtype_type]; kernel_rfl
theorem sub_lba : isSubtype (.type "list") (.type "bytearray") = pure false := by rw [isSubtype_type]; kernel_rfl
theorem args_sum2 (a b : Value) : argsOk "sum" ⟨[a, b], []⟩ := by unfold argsOk; kernel_rfl
abbrev lsO (items : Array Value) (c : Nat) : Obj := { cls := .type "list", dict := none, data := .seq items c, slots := #[] }
section
variable {prog : Program} {w : World} {A : Around} {E : Value → Shared → Prop}
/-- what the running total is behind i turns -/
def Tot (hs : Heap) (vss : List (List Value)) (T0 : Addr) (i : Nat) (T : Addr) (h : Heap) : Prop :=
  (i = 0 ∧ T = T0) ∨ (0 < i ∧ hs.objs.size ≤ T ∧ h.get? T = some (lsO (vss.take i).flatten.toArray 0))
theorem sum_loop (hh : A.handled = none) {I l S T0 : Addr} {items : Array Value} {hs : Heap} (s0 : Shared) (vss : List (List Value)) (hn : items.size = vss.length) (hlS : l ≠ S) (hlI : l ≠ I) (hSI : S ≠ I) (hl : hs.IsList l items)
    (hit : ∀ (i : Nat) (v : Value), items[i]? = some v → ∃ (a : Addr) (its : List Value), v = Value.ref a ∧ vss[i]? = some its ∧ hs.IsList a its.toArray ∧ a ≠ S ∧ a ≠ I) (hcap : vss.flatten.length ≤ sizeLine) (hT0 : hs.IsList T0 #[]) (hT1 : T0 ≠ S) (hT2 : T0 ≠ I) (hIs : I < hs.objs.size) (hSs : S < hs.objs.size) {R : Result → Shared → Prop} :
    ∀ (k i : Nat) (h : Heap) (tk : Nat) (T : Addr) (c : Nat), vss.length - i = k → i ≤ vss.length → h.IsListIter I l i → h.get? S = some (lsO #[.ref T] c) → (∀ b o, b ≠ S → b ≠ I → hs.get? b = some o → h.get? b = some o) → hs.objs.size ≤ h.objs.size → Tot hs vss T0 i T h →
      (∀ h' tk' T', (∀ b o, b ≠ S → b ≠ I → hs.get? b = some o → h'.get? b = some o) → Tot hs vss T0 vss.length T' h' → R (.ok (.ret (.ref T'))) { s0 with heap := h', toks := tk' }) →
      codeAny (model prog w) A (.builtin "sum.loop" ⟨[.ref I, .ref S, rawInt 2, rawInt 0], []⟩) R { s0 with heap := h, toks := tk } := by
  intro k
  induction k with
  | zero =>
    intro i h tk T c hk hi hI hS keep hsz hT hR
    have hin : i = vss.length := by omega
    subst hin
    refine codeAny_builtin PySem.F.entry_sum_loop ?_
    rw [Around.under_plainId PySem.F.plain_sum_loop _]
    show wpAny _ A.in1 (seqItems? (.ref S) >>= _) _ _ _
    refine wpAny_bind (wpAny_seqItems hS rfl ?_)
    show wpAny _ A.in1 (tryCatch (pyNext (.ref I)) _ >>= _) _ _ _
    have hl' : h.IsList l items := hl.at fun o e => keep l o hlS hlI e
    refine wpAny_bind (wpAny_tryCatch (wpAny_pyNext_list_end (A := A.in1) hh hI hl' (by rw [Array.getElem?_eq_none]; omega) fun h' eb => ?_))
    refine wpAny_pure (hR h' tk T (fun b o b1 b2 e => eb b o b2 (keep b o b1 b2 e)) ?_)
    rcases hT with hT | ⟨p, q, r⟩
    · exact .inl hT
    · exact .inr ⟨p, q, eb T _ (Nat.ne_of_gt (Nat.lt_of_lt_of_le hIs q)) r⟩
  | succ k ih =>
    intro i h tk T c hk hi hI hS keep hsz hT hR
    have hlt : i < vss.length := by omega
    refine codeAny_builtin PySem.F.entry_sum_loop ?_
    rw [Around.under_plainId PySem.F.plain_sum_loop _]
    show wpAny _ A.in1 (seqItems? (.ref S) >>= _) _ _ _
    refine wpAny_bind (wpAny_seqItems hS rfl ?_)
    show wpAny _ A.in1 (tryCatch (pyNext (.ref I)) _ >>= _) _ _ _
    have hl' : h.IsList l items := hl.at fun o e => keep l o hlS hlI e
    have hx : items[i]? = some items[i] := Array.getElem?_eq_getElem (by omega)
    obtain ⟨a, its, ea, ev, ha, a1, a2⟩ := hit i _ hx
    rw [ea] at hx
    refine wpAny_bind (wpAny_tryCatch (wpAny_pyNext_list_item (A := A.in1) hI hl' hx fun h1 hI1 hs1 => ?_))
    replace hs1 : Heap.SameBut I h h1 := hs1
    have hS1 : h1.get? S = some (lsO #[.ref T] c) := hs1.extBut _ _ hSI hS
    have hTl : h1.IsList T (vss.take i).flatten.toArray := by
      rcases hT with ⟨rfl, rfl⟩ | ⟨p, q, r⟩
      · exact (hT0.at fun o e => hs1.extBut _ o hT2 (keep _ o hT1 hT2 e))
      · exact ⟨_, hs1.extBut _ _ (Nat.ne_of_gt (Nat.lt_of_lt_of_le hIs q)) r, rfl, 0, rfl⟩
    have hal : h1.IsList a its.toArray := ha.at fun o e => hs1.extBut _ o a2 (keep _ o a1 a2 e)
    show wpAny _ A.in1 ((holding [Value.ref a] (binaryOp .Add (.ref T) (.ref a))).attempt >>= _) _ _ _
    obtain ⟨⟨cls, dd, data, sl⟩, ho, hc, n1, hd⟩ := hTl
    obtain ⟨⟨cls2, dd2, data2, sl2⟩, ho2, hc2, n2, hd2⟩ := hal
    simp only at hc hd hc2 hd2
    subst hc hd hc2 hd2
    have hnext : vss.take (i + 1) = vss.take i ++ [its] := by rw [List.take_add_one, ev]; rfl
    have hfl : (vss.take (i + 1)).flatten = (vss.take i).flatten ++ its := by rw [hnext, List.flatten_append]; simp
    have hlen : (vss.take i).flatten.length + its.length ≤ sizeLine := by
      have e := congrArg List.length hfl
      rw [List.length_append] at e
      have e2 : (vss.take (i + 1)).flatten.length ≤ vss.flatten.length := by
        have := congrArg (fun z => (List.flatten z).length) (List.take_append_drop (i + 1) vss)
        simp only [List.flatten_append, List.length_append] at this
        omega
      omega
    refine wpAny_bind (wpAny_attempt (wpAny_holding (concat_meets ⟨_, ho, rfl⟩ ⟨_, ho2, rfl⟩ noFill_list_add seq_list_add PySem.F.slot_list_add PySem.F.entry_list_add (PySem.F.args_list_add_2 _ _)
      (list_addW T a (vss.take i).flatten.toArray its.toArray n1 n2 dd dd2 sl sl2 (by simpa using hlen)) ⟨ho, ho2, ?_⟩)))
    have hadd : (vss.take i).flatten.toArray ++ its.toArray = (vss.take (i + 1)).flatten.toArray := by rw [hfl]; simp
    rw [hadd]
    have hlt1 : ∀ {b o}, h1.get? b = some o → b ≠ h1.objs.size := fun e => Nat.ne_of_lt (Heap.lt_size e)
    have hS2 : (h1.push (lsO (vss.take (i + 1)).flatten.toArray 0)).get? S = some (lsO #[.ref T] c) := Heap.get?_push_of_some _ hS1
    have hN2 : (h1.push (lsO (vss.take (i + 1)).flatten.toArray 0)).get? h1.objs.size = some (lsO (vss.take (i + 1)).flatten.toArray 0) := Heap.get?_push_size _ rfl
    show wpAny _ A.in1 (updateSeq S (fun _ => #[.ref h1.objs.size]) >>= _) _ _ _
    refine wpAny_bind (wpAny_updateSeq hS2 rfl ?_)
    have hS3 := Heap.get?_update_self (Obj.mapSeq fun _ => #[Value.ref h1.objs.size]) hS2 rfl
    refine wpAny_bind (wpAny_letGo ?_)
    refine wpAny_bind (wpAny_updateSeq hS3 rfl ?_)
    have hS4 := Heap.get?_update_self (Obj.mapSeq fun _ => #[Value.ref h1.objs.size]) hS3 rfl
    have up : ∀ b o, b ≠ S → (h1.push (lsO (vss.take (i + 1)).flatten.toArray 0)).get? b = some o →
        (((h1.push (lsO (vss.take (i + 1)).flatten.toArray 0)).update S (Obj.mapSeq fun _ => #[Value.ref h1.objs.size])).update S (Obj.mapSeq fun _ => #[Value.ref h1.objs.size])).get? b = some o := fun b o hb e =>
      (Heap.get?_update_other _ _ (Ne.symm hb)).trans ((Heap.get?_update_other _ _ (Ne.symm hb)).trans e)
    have hsz1 : h1.objs.size = h.objs.size := hs1.1
    refine wpAny_pure ⟨plainId_quiet PySem.F.plain_sum_loop _, ih (i + 1) _ _ h1.objs.size _ (by omega) hlt (hI1.at fun o e => up I o (Ne.symm hSI) (Heap.get?_push_of_some _ e)) hS4 (fun b o b1 b2 e => up b o b1 (Heap.get?_push_of_some _ (hs1.extBut b o b2 (keep b o b1 b2 e)))) ?_
      (.inr ⟨Nat.succ_pos i, by rw [hsz1]; exact hsz, up _ _ (Ne.symm (hlt1 hS1)) hN2⟩) hR⟩
    refine Nat.le_trans hsz ?_
    rw [← hsz1]
    refine Nat.le_trans (Nat.le_succ _) ?_
    have e : (h1.push (lsO (vss.take (i + 1)).flatten.toArray 0)).objs.size = h1.objs.size + 1 := Heap.size_push ..
    rw [← Nat.add_one, ← e]
    simp [Heap.update]

/-- sum(xs, start) of lists -/
theorem call_sum_lists {s : Shared} {l T0 : Addr} {items : Array Value} (vss : List (List Value)) {Q : Value → Shared → Prop} (hh : A.handled = none) (hn : items.size = vss.length) (hl : s.heap.IsList l items) (hT0 : s.heap.IsList T0 #[])
    (hit : ∀ (i : Nat) (v : Value), items[i]? = some v → ∃ (a : Addr) (its : List Value), v = Value.ref a ∧ vss[i]? = some its ∧ s.heap.IsList a its.toArray) (hcap : vss.flatten.length ≤ sizeLine)
    (hQ : ∀ h' tk' T', (∀ b o, s.heap.get? b = some o → h'.get? b = some o) → ((vss = [] ∧ T' = T0) ∨ (s.heap.objs.size ≤ T' ∧ h'.get? T' = some (lsO vss.flatten.toArray 0))) → Q (.ref T') { s with heap := h', toks := tk' }) :
    wpAny (model prog w) A (call (.builtin "sum") [.ref l, .ref T0]) Q E s := by
  refine call_function_tree PySem.F.kind_sum PySem.F.plain_sum PySem.F.entry_sum (args_sum2 _ _) ?_
  unfold Builtin.«sum»
  simp only [List.length_cons, List.length_nil]
  rw [if_neg (by decide)]
  refine wpAny_bind (wpAny_of_eq (show Builtin.Builtins.bindParams "sum" ["start"] 0 ⟨[Value.ref T0], []⟩ = pure [some (Value.ref T0)] from rfl) ?_)
  have lt : ∀ {b o}, s.heap.get? b = some o → b < s.heap.objs.size := fun e => Heap.lt_size e
  obtain ⟨ol, hol, _⟩ := id hl
  obtain ⟨ot, hot, hoc, _⟩ := id hT0
  refine wpAny_bind (wpAny_pyIter_list hl ?_)
  refine wpAny_bind (wpAny_pure ?_)
  simp only [List.forIn_cons, List.forIn_nil]
  have hT : Shared.TypeIs { s with heap := s.heap.push { cls := .type "list_iterator", data := .fields #[.ref l, .int 0 0] } } (.ref T0) "list" := ⟨ot, Heap.get?_push_of_some _ hot, hoc⟩
  refine wpAny_bind (wpAny_bind (wpAny_bind (wpAny_isInstance (T := "list") (b := false) hT sub_ls ?_)))
  simp only [Bool.false_eq_true, if_false]
  refine wpAny_pure (wpAny_bind (wpAny_bind (wpAny_isInstance (T := "list") (b := false) hT sub_lb ?_)))
  simp only [Bool.false_eq_true, if_false]
  refine wpAny_pure (wpAny_bind (wpAny_bind (wpAny_isInstance (T := "list") (b := false) hT sub_lba ?_)))
  simp only [Bool.false_eq_true, if_false]
  refine wpAny_pure (wpAny_pure ?_)
  refine wpAny_bind (wpAny_newObj_type ?_)
  have e1 : (s.heap.push { cls := .type "list_iterator", data := .fields #[.ref l, .int 0 0] }).objs.size = s.heap.objs.size + 1 := Heap.size_push ..
  have e2 : ((s.heap.push { cls := .type "list_iterator", data := .fields #[.ref l, .int 0 0] }).push (lsO #[.ref T0] 0)).objs.size = s.heap.objs.size + 1 + 1 := by rw [Heap.size_push, e1]
  have up : ∀ b o, s.heap.get? b = some o → ((s.heap.push { cls := .type "list_iterator", data := .fields #[.ref l, .int 0 0] }).push (lsO #[.ref T0] 0)).get? b = some o := fun b o e => Heap.get?_push_of_some _ (Heap.get?_push_of_some _ e)
  have nS : ∀ {b o}, s.heap.get? b = some o → b ≠ s.heap.objs.size + 1 := fun e => Nat.ne_of_lt (Nat.lt_succ_of_lt (lt e))
  have nI : ∀ {b o}, s.heap.get? b = some o → b ≠ s.heap.objs.size := fun e => Nat.ne_of_lt (lt e)
  refine wpAny_pure ⟨plainId_quiet PySem.F.plain_sum_loop _, ?_⟩
  rw [e1]
  refine sum_loop (hs := (s.heap.push { cls := .type "list_iterator", data := .fields #[.ref l, .int 0 0] }).push (lsO #[.ref T0] 0)) (S := s.heap.objs.size + 1) (I := s.heap.objs.size) (T0 := T0) hh s vss hn (nS hol) (nI hol) (Nat.succ_ne_self _) (hl.at fun o e => up _ o e) (fun i v hv => ?_) hcap
    (hT0.at fun o e => up _ o e) (nS hot) (nI hot) (by rw [e2]; exact Nat.lt_succ_of_lt (Nat.lt_succ_self _)) (by rw [e2]; exact Nat.lt_succ_self _) vss.length 0 _ _ T0 0 rfl (Nat.zero_le _) ?_ ?_ (fun b o _ _ e => e) (Nat.le_refl _) (.inl ⟨rfl, rfl⟩) fun h' tk' T' k t => ?_
  · obtain ⟨a, its, ea, ev, ha⟩ := hit i v hv
    obtain ⟨oa, hoa, _⟩ := id ha
    exact ⟨a, its, ea, ev, ha.at fun o e => up _ o e, nS hoa, nI hoa⟩
  · exact ⟨_, Heap.get?_push_of_some _ (Heap.get?_push_size _ rfl), rfl, rfl⟩
  · have := Heap.get?_push_size (s.heap.push { cls := .type "list_iterator", data := .fields #[.ref l, .int 0 0] }) (o := lsO #[.ref T0] 0) rfl
    rw [e1] at this
    exact this
  · refine hQ h' tk' T' (fun b o e => k b o (nS e) (nI e) (up b o e)) ?_
    rcases t with ⟨z, rfl⟩ | ⟨p, q, r⟩
    · exact .inl ⟨List.eq_nil_of_length_eq_zero z, rfl⟩
    · refine .inr ⟨Nat.le_trans ?_ q, by rw [List.take_length] at r; exact r⟩
      rw [e2]
      exact Nat.le_succ_of_le (Nat.le_succ _)
end
theorem dLsts_of : ∀ {ds : List D} {yss : List (List D)}, dLsts ds = some yss → ds = yss.map D.lst := by
  intro ds
  induction ds with
  | nil =>
    intro yss h
    cases h
    rfl
  | cons d ds ih =>
    intro yss h
    cases d with
    | lst xs =>
      have h : (dLsts ds).map (xs :: ·) = some yss := h
      cases z : dLsts ds with
      | none => rw [z] at h; cases h
      | some zs =>
        rw [z] at h
        cases h
        rw [ih z] <;> rfl
    | _ => cases h
section
variable {X : Cx}
theorem lists_of {pins : List (Addr × Obj)} {σ : L2.St} {H : Hp} {s : Shared} (I : Inv X pins σ H s) {T : Option Addr} {M : List Addr} : ∀ {yss : List (List D)} {xs : List V} {its : List Value}, Vals xs its → DatL X.K T M H xs (yss.map D.lst) →
    ∃ (vss : List (List Value)) (xss : List (List V)), vss.length = yss.length ∧ its.length = vss.length ∧ (∀ (i : Nat) (v : Value), its[i]? = some v → ∃ (a : Addr) (us : List Value), v = Value.ref a ∧ vss[i]? = some us ∧ s.heap.IsList a us.toArray) ∧
      Vals xss.flatten vss.flatten ∧ DatL X.K T M H xss.flatten yss.flatten
  | [], xs, its, r, h => by
    cases h
    cases r
    exact ⟨[], [], rfl, rfl, fun i v h => by simp at h, .nil, .nil⟩
  | ys :: yss, xs, its, r, h => by
    cases h with
    | cons h t =>
      cases r with
      | cons r1 r2 =>
        obtain ⟨a, zs, rfl, _, _, hq, hd⟩ := h.sql
        cases r1
        obtain ⟨us, rv, pl, _⟩ := I.list hq
        obtain ⟨vss, xss, l1, l2, h1, h2, h3⟩ := lists_of I r2 t
        refine ⟨us :: vss, zs :: xss, by simp [l1], by simp [l2], fun i v hv => ?_, ?_, ?_⟩
        · cases i with
          | zero =>
            have e : some (Value.ref a) = some v := hv
            cases e
            exact ⟨a, us, rfl, rfl, pl.isList⟩
          | succ i =>
            obtain ⟨b, ws, e1, e2, e3⟩ := h1 i v (by simpa using hv)
            exact ⟨b, ws, e1, by simpa using e2, e3⟩
        · rw [List.flatten_cons, List.flatten_cons]
          exact rv.append h2
        · rw [List.flatten_cons, List.flatten_cons]
          exact hd.append h3
theorem p_sum2 (hc : X.calm = true) : CallR X (.builtin "sum") (DC X.K dSumL) := by
  intro pins s σ H vs us Q I r h
  obtain ⟨T, M, ds, rr, hM, hd, hg, q⟩ := h
  unfold dSumL at hg
  split at hg
  · rename_i es
    cases z : dLsts es with
    | none => rw [z] at hg; cases hg
    | some yss =>
      rw [z] at hg
      replace hg : (if yss.flatten.length ≤ cap then some (D.lst yss.flatten) else none) = some rr := hg
      split at hg
      · rename_i hcap
        cases hg
        have e1 := dLsts_of z
        subst e1
        obtain ⟨v1, v2, rfl, d1, d2⟩ := hd.two'
        obtain ⟨a, xs, rfl, _, _, hq, dl⟩ := d1.sql
        obtain ⟨b, xs2, rfl, _, _, hq2, dl2⟩ := d2.sql
        cases dl2
        cases r with
        | cons r1 r2 =>
          cases r2 with
          | cons r2 r3 =>
            cases r3
            cases r1
            cases r2
            obtain ⟨its, rv, pl, _⟩ := I.list hq
            obtain ⟨its2, rv2, pl2, _⟩ := I.list hq2
            cases rv2
            obtain ⟨vss, xss, l1, l2, hit, hv, hdd⟩ := lists_of I rv dl
            have hlen := hv.length
            have hlen2 := hdd.length
            refine call_sum_lists vss (I.ok.hd hc) (by simpa using l2) pl.isList pl2.isList (fun i v h => hit i v (by simpa using h)) (cap_line (by omega)) fun h' tk' T' k t => ?_
            rcases t with ⟨e0, rfl⟩ | ⟨p, g⟩
            · have ey : yss = [] := List.eq_nil_of_length_eq_zero (by rw [← l1, e0]; rfl)
              subst ey
              exact ⟨.ref T', H, I.kept (t' := tk') k, rfl, q _ _ (Ext.refl _ _) d2⟩
            · have hf : H T' = none := I.hok.fresh p
              exact ⟨.ref T', upd H T' (.lst xss.flatten), I.laid (t' := tk') k p ⟨cap_line (by omega), vss.flatten, 0, hv, g⟩, rfl, q _ _ (Ext.new hf) (Dat.newL hf hM hdd)⟩
      · cases hg
  · cases hg
end
end Dry
set_option Elab.async false
set_option linter.all false
set_option maxRecDepth 100000
set_option maxHeartbeats 1000000
/-! DryC: expressions over plain data, their meaning, and that a reading of the layer follows from it. -/
namespace Dry
open PySem PySem.Spec PyProof.Rows L2

inductive P2 where
  | add | sub | mul | div | mod | pow | eq | ne | lt | le | gt | ge | in_ | notin
  deriving DecidableEq
def P2.f : P2 → D → D → Option D
  | .add => dAdd | .sub => dSub | .mul => dMul | .div => dDiv | .mod => dMod | .pow => dPow
  | .eq => dEq | .ne => dNe | .lt => dLt | .le => dLe | .gt => dGt | .ge => dGe | .in_ => dIn | .notin => dNotIn
inductive P1 where
  | len | tuple | list | sum | all | any | abs | int | min2 | sum2 | sorted
  deriving DecidableEq
def P1.f : P1 → List D → Option D
  | .len => dLen | .tuple => dTuple | .list => dList | .sum => dSum | .all => dAll | .any => dAny | .abs => dAbs | .int => dInt | .min2 => dMin2 | .sum2 => dSumL | .sorted => dSorted
inductive PM where
  | count | index
  deriving DecidableEq
def PM.f : PM → D → List D → Option D
  | .count => dCount | .index => dIndex
inductive PI_ where
  | rng1 | rng2 | zip | enum
  deriving DecidableEq
def PI_.f : PI_ → List D → Option (List D)
  | .rng1 => iRng1' | .rng2 => iRng2' | .zip => iZip' | .enum => iEnum'
inductive Ty where
  | int | bool | str | list | tuple
  deriving DecidableEq
def tyOf : D → Option Ty
  | .bl _ => some .bool
  | .int _ => some .int
  | .str _ => some .str
  | .lst _ => some .list
  | .tup _ => some .tuple
  | .scr _ => some .list
  | _ => none
/-- isinstance of one class: None is of none of these; a bool is an int -/
def isOne (d : D) (t : Ty) : Bool := match tyOf d, t with
  | some .bool, .int => true
  | some a, b => decide (a = b)
  | none, _ => false
def dIs (ts : List Ty) : D → Option D
  | .tin => none
  | .dct _ => none
  | d => some (.bl (ts.any fun t => isOne d t))

mutual
inductive Ex where
  | var (i : Nat) | int (i : Int) | bl (b : Bool) | non | str (x : Str) | primes
  | two (p : P2) (a b : Ex) | ix (a b : Ex)
  | fn (p : P1) (args : Exs) | mt (p : PM) (o : Ex) (args : Exs) | get3 (o k z : Ex)
  | rev (e : Ex) | cutTo (e b : Ex) | cutFrom (e a : Ex) | cutAB (e a b : Ex)
  | isN (e : Ex) | notN (e : Ex) | isI (ts : List Ty) (e : Ex)
  | and_ (a b : Ex) | or_ (a b : Ex) | not_ (a : Ex) | ite (c a b : Ex) | chain (a b c : Ex)
  | call (x : Str) (args : Exs) | heard (x : Str) (args : Exs)
  | tup (args : Exs) | lst (args : Exs)
  | comp (it : Itx) (single : Bool) (tg : List Nat) (vs : List Nat) (elt : Ex)
  | compIf (it : Itx) (single : Bool) (tg : List Nat) (vs : List Nat) (c elt : Ex)
  | dzip (a b : Ex) | lenset (e : Ex)
  | olen (i : Nat) | otup (i : Nat) | oix (i : Nat) (e : Ex)
inductive Exs where
  | nil | cons (e : Ex) (es : Exs) | star (e : Ex) (es : Exs)
inductive Itx where
  | seq (e : Ex) | fn (p : PI_) (args : Exs)
end

def ofO {α : Type} : Option α → Tin → Res α
  | some a, t => .ok a t
  | none, _ => .bad
def asB : Res D → Res Bool
  | .ok (.bl b) t => .ok b t
  | .ok _ _ => .bad
  | .exn t => .exn t
  | .bad => .bad
def asI : Res D → Res Int
  | .ok (.int b) t => .ok b t
  | .ok _ _ => .bad
  | .exn t => .exn t
  | .bad => .bad
def compA (f : D → Tin → Res (Option D)) : List D → List D → Tin → Res (List D)
  | [], acc, t => .ok acc t
  | d :: ds, acc, t => match f d t with
    | .ok (some r) t' => compA f ds (acc ++ [r]) t'
    | .ok none t' => compA f ds acc t'
    | _ => .bad
def capL (ds : List D) (t : Tin) : Res (List D) := if ds.length ≤ cap then .ok ds t else .bad
def wipeE (ρ : Env') : List Nat → Env'
  | [] => ρ
  | v :: vs => (wipeE ρ vs).set v none
def setAll : List Nat → List D → Env' → Option Env'
  | [], [], ρ => some ρ
  | i :: is, d :: ds, ρ => setAll is ds (ρ.set i (some (.dat d)))
  | _, _, _ => none
def bindT (single : Bool) (tg : List Nat) (d : D) (ρ : Env') : Option Env' := match single, tg, d with
  | true, [i], d => some (ρ.set i (some (.dat d)))
  | false, tg, .tup ds => setAll tg ds ρ
  | false, tg, .lst ds => setAll tg ds ρ
  | _, _, _ => none
abbrev Gam := Str → Option (Nat × (List D → Tin → Res D))
def appN (n : Nat) (g : List D → Tin → Res D) (ds : List D) (t : Tin) : Res D := if ds.length = n then g ds t else .bad
def app (Γ : Gam) (x : Str) (r : Res (List D)) : Res D := match Γ x with
  | some (n, g) => r.bind (appN n g)
  | none => .bad
def noX {α : Type} : Res α → Res α
  | .ok a t => .ok a t
  | _ => .bad
def heardR : Res D → Res D
  | .exn t => .ok (.lst [.str "paper"]) t
  | r => r
def appH (Γ : Gam) (x : Str) (r : Res (List D)) : Res D := match Γ x with
  | some (n, g) => if n = 2 ∨ n = 3 then r.bind fun ds t => heardR (appN n g ds t) else .bad
  | none => .bad
def tinAt (t : Tin) (i : Int) : Option D := atI [.int t.1, .int t.2.1, .int t.2.2] i
def ixD (d e : D) (t : Tin) : Option D := match d, e with
  | .tin, .int i => tinAt t i
  | d, e => dIx d e

def isNonD : D → Bool
  | .non => true
  | _ => false
def isL (d : D) (t : Tin) : Res D := match d with
  | .lst _ => .ok d t
  | _ => .bad
def isDct (d : D) (t : Tin) : Res D := match d with
  | .dct _ => .ok d t
  | _ => .bad

mutual
def ev (Γ : Gam) : Ex → Env' → Tin → Res D
  | .var i, ρ, t => match ρ[i]? with
    | some (some (.dat d)) => .ok d t
    | _ => .bad
  | .int i, _, t => .ok (.int i) t
  | .bl b, _, t => .ok (.bl b) t
  | .non, _, t => .ok .non t
  | .str x, _, t => .ok (.str x) t
  | .primes, _, t => .ok (.tup [.int 2, .int 3, .int 5]) t
  | .two p a b, ρ, t => (ev Γ a ρ t).bind fun d t => (ev Γ b ρ t).bind fun e t => ofO (p.f d e) t
  | .ix a b, ρ, t => (ev Γ a ρ t).bind fun d t => (ev Γ b ρ t).bind fun e t => ofO (ixD d e t) t
  | .fn p as, ρ, t => (evs Γ as ρ t).bind fun ds t => ofO (p.f ds) t
  | .mt p o as, ρ, t => (ev Γ o ρ t).bind fun d t => (isL d t).bind fun d t => (evs Γ as ρ t).bind fun ds t => ofO (p.f d ds) t
  | .get3 o k z, ρ, t => (ev Γ o ρ t).bind fun d t => (isDct d t).bind fun d t => (ev Γ k ρ t).bind fun e t => (ev Γ z ρ t).bind fun f t => ofO (dGet3 [d, e, f]) t
  | .rev e, ρ, t => (ev Γ e ρ t).bind fun d t => ofO (dRev d) t
  | .cutTo e b, ρ, t => (ev Γ e ρ t).bind fun d t => (asI (ev Γ b ρ t)).bind fun j t => ofO (dCut none (some j) d) t
  | .cutFrom e a, ρ, t => (ev Γ e ρ t).bind fun d t => (asI (ev Γ a ρ t)).bind fun i t => ofO (dCut (some i) none d) t
  | .cutAB e a b, ρ, t => (ev Γ e ρ t).bind fun d t => (asI (ev Γ a ρ t)).bind fun i t => (asI (ev Γ b ρ t)).bind fun j t => ofO (dCut (some i) (some j) d) t
  | .isN e, ρ, t => (ev Γ e ρ t).bind fun d t => .ok (.bl (isNonD d)) t
  | .notN e, ρ, t => (ev Γ e ρ t).bind fun d t => .ok (.bl (!isNonD d)) t
  | .isI ts e, ρ, t => (ev Γ e ρ t).bind fun d t => ofO (dIs ts d) t
  | .and_ a b, ρ, t => (asB (ev Γ a ρ t)).bind fun c t => match c with
    | true => ev Γ b ρ t
    | false => .ok (.bl false) t
  | .or_ a b, ρ, t => (asB (ev Γ a ρ t)).bind fun c t => match c with
    | true => .ok (.bl true) t
    | false => ev Γ b ρ t
  | .not_ a, ρ, t => (asB (ev Γ a ρ t)).bind fun c t => .ok (.bl (!c)) t
  | .ite c a b, ρ, t => (asB (ev Γ c ρ t)).bind fun k t => match k with
    | true => ev Γ a ρ t
    | false => ev Γ b ρ t
  | .chain a b c, ρ, t => (asI (ev Γ a ρ t)).bind fun i t => (asI (ev Γ b ρ t)).bind fun j t => match decide (i ≤ j) with
    | true => (asI (ev Γ c ρ t)).bind fun k t => .ok (.bl (decide (j < k))) t
    | false => .ok (.bl false) t
  | .call x as, ρ, t => app Γ x (evs Γ as ρ t)
  | .heard x as, ρ, t => appH Γ x (evs Γ as ρ t)
  | .tup as, ρ, t => (evs Γ as ρ t).bind fun ds t => (capL ds t).bind fun ds t => .ok (.tup ds) t
  | .lst as, ρ, t => (evs Γ as ρ t).bind fun ds t => (capL ds t).bind fun ds t => .ok (.lst ds) t
  | .comp it s tg vs e, ρ, t => (evI Γ it ρ t).bind fun items t => (capL items t).bind fun items t => (compA (fun d t => (ofO (bindT s tg d (wipeE ρ vs)) t).bind fun ρ' t => (ev Γ e ρ' t).bind fun r t => .ok (some r) t) items [] t).bind fun rs t => .ok (.lst rs) t
  | .compIf it s tg vs c e, ρ, t => (evI Γ it ρ t).bind fun items t => (capL items t).bind fun items t => (compA (fun d t => (ofO (bindT s tg d (wipeE ρ vs)) t).bind fun ρ' t => (asB (ev Γ c ρ' t)).bind fun k t => match k with
    | true => (ev Γ e ρ' t).bind fun r t => .ok (some r) t
    | false => .ok none t) items [] t).bind fun rs t => .ok (.lst rs) t
  | .dzip a b, ρ, t => (ev Γ a ρ t).bind fun d t => (ev Γ b ρ t).bind fun e t => ofO (dZipD d e) t
  | .lenset e, ρ, t => (ev Γ e ρ t).bind fun d t => ofO (dLenSet [d]) t
  | .olen i, ρ, t => match ρ[i]? with
    | some (some (.own ds)) => .ok (.int ds.length) t
    | _ => .bad
  | .otup i, ρ, t => match ρ[i]? with
    | some (some (.own ds)) => .ok (.tup ds) t
    | _ => .bad
  | .oix i e, ρ, t => match ρ[i]? with
    | some (some (.own ds)) => (asI (ev Γ e ρ t)).bind fun k t => ofO (atI ds k) t
    | _ => .bad
def evs (Γ : Gam) : Exs → Env' → Tin → Res (List D)
  | .nil, _, t => .ok [] t
  | .cons e es, ρ, t => (ev Γ e ρ t).bind fun d t => (evs Γ es ρ t).bind fun ds t => .ok (d :: ds) t
  | .star e es, ρ, t => (ev Γ e ρ t).bind fun d t => (ofO (dItems d) t).bind fun xs t => (evs Γ es ρ t).bind fun ds t => .ok (xs ++ ds) t
def evI (Γ : Gam) : Itx → Env' → Tin → Res (List D)
  | .seq e, ρ, t => (ev Γ e ρ t).bind fun d t => ofO (dItems d) t
  | .fn p as, ρ, t => (evs Γ as ρ t).bind fun ds t => ofO (p.f ds) t
end

/-! ### what is wanted behind -/
def Post {α β : Type} (W : WX) (C : Addr) (T : Option Addr) (σ : L2.St) (H : Hp) (Rel : Hp → β → α → Prop) (r : Res α) (Q : β → Hp → Prop) : Prop := match r with
  | .ok a t' => ∀ v H', Ext T.toList H H' → TinOk T t' H' → Rel H' v a → Q v H'
  | .exn t' => ∀ H', Ext T.toList H H' → TinOk T t' H' → W (.ref C) none σ H'
  | .bad => False
section
variable {W : WX} {C : Addr} {T : Option Addr} {M : List Addr} {σ : L2.St} {H H1 : Hp} {K : PySem.W.Frag} {α β γ δ : Type} {ρ : Env'} {t : Tin}
theorem Post.base {Rel : Hp → β → α → Prop} {r : Res α} {Q : β → Hp → Prop} (h : Post W C T σ H Rel r Q) (e : Ext T.toList H H1) : Post W C T σ H1 Rel r Q := by
  cases r with
  | ok a t => exact fun v H' e1 => h v H' (e.trans e1)
  | exn t => exact fun H' e1 => h H' (e.trans e1)
  | bad => exact h
theorem Post.bind {Rel : Hp → β → α → Prop} {Rel1 : Hp → δ → γ → Prop} {r : Res γ} {k : γ → Tin → Res α} {Q : β → Hp → Prop} {Q1 : δ → Hp → Prop} (h : Post W C T σ H Rel (r.bind k) Q)
    (g : ∀ a t1 v H1, Ext T.toList H H1 → TinOk T t1 H1 → Rel1 H1 v a → Post W C T σ H1 Rel (k a t1) Q → Q1 v H1) : Post W C T σ H Rel1 r Q1 := by
  cases r with
  | ok a t1 => exact fun v H1 e ti rel => g a t1 v H1 e ti rel (h.base e)
  | exn t1 => exact h
  | bad => exact h
theorem Post.done {Rel : Hp → β → α → Prop} {a : α} {t : Tin} {Q : β → Hp → Prop} (h : Post W C T σ H Rel (.ok a t) Q) {v : β} {H' : Hp} (e : Ext [] H H') (ti : TinOk T t H) (rel : Rel H' v a) : Q v H' := h v H' e.any (ti.keep e) rel
abbrev RelD (K : PySem.W.Frag) (T : Option Addr) (M : List Addr) : Hp → V → D → Prop := fun H v d => Dat K T M H v d
abbrev RelL (K : PySem.W.Frag) (T : Option Addr) (M : List Addr) : Hp → List V → List D → Prop := fun H v d => DatL K T M H v d
abbrev RelI (K : PySem.W.Frag) (T : Option Addr) (M : List Addr) : Hp → It → List D → Prop := fun H J ds => IData K T M H ds J
abbrev RelB : Hp → Bool → Bool → Prop := fun _ a b => a = b
abbrev RelN : Hp → Int → Int → Prop := fun _ a b => a = b
def tP (K : PySem.W.Frag) (W : WX) (C : Addr) (f : Env' → Tin → Res D) : TE := fun σ H Q => ∃ T M ρ t, XOk K T M σ ρ t H ∧ Post W C T σ H (RelD K T M) (f ρ t) Q
def tA (K : PySem.W.Frag) (W : WX) (C : Addr) (f : Env' → Tin → Res (List D)) : TA := fun σ H Q => ∃ T M ρ t, XOk K T M σ ρ t H ∧ Post W C T σ H (RelL K T M) (f ρ t) Q
def tI (K : PySem.W.Frag) (W : WX) (C : Addr) (f : Env' → Tin → Res (List D)) : TI := fun σ H Q => ∃ T M ρ t, XOk K T M σ ρ t H ∧ Post W C T σ H (RelI K T M) (f ρ t) Q
def tT (K : PySem.W.Frag) (W : WX) (C : Addr) (f : Env' → Tin → Res D) : TT := fun σ H Q => ∃ T M ρ t, XOk K T M σ ρ t H ∧ Post W C T σ H RelB (asB (f ρ t)) Q
theorem PE.imp {X : Cx} {e : Expr} {t t' : TE} (h : PE X e t) (k : ∀ σ H Q, t' σ H Q → t σ H Q) : PE X e t' := ⟨fun pins s σ H Q I q => h.run pins s σ H Q I (k _ _ _ q)⟩
theorem PT.imp {X : Cx} {e : Expr} {t t' : TT} (h : PT X e t) (k : ∀ σ H Q, t' σ H Q → t σ H Q) : PT X e t' := ⟨fun pins s σ H Q I q => h.run pins s σ H Q I (k _ _ _ q)⟩
theorem PA.imp {X : Cx} {e : List Expr} {t t' : TA} (h : PA X e t) (k : ∀ σ H Q, t' σ H Q → t σ H Q) : PA X e t' := ⟨fun pos pins s σ H Q I q => h.run pos pins s σ H Q I (k _ _ _ q)⟩
theorem PI.imp {X : Cx} {tg e : Expr} {t t' : TI} (h : PI X tg e t) (k : ∀ σ H Q, t' σ H Q → t σ H Q) : PI X tg e t' := ⟨fun pins s σ H Q I q => h.run pins s σ H Q I (k _ _ _ q)⟩
theorem PS.imp {X : Cx} {e : Stmt} {t t' : TS} (h : PS X e t) (k : ∀ D σ H, t' D σ H → t D σ H) : PS X e t' := ⟨fun pins s σ H D I q => h.run pins s σ H D I (k _ _ _ q)⟩
theorem PSs.imp {X : Cx} {e : List Stmt} {t t' : TS} (h : PSs X e t) (k : ∀ D σ H, t' D σ H → t D σ H) : PSs X e t' := ⟨fun pins s σ H D I q => h.run pins s σ H D I (k _ _ _ q)⟩

/-! ### readings from meanings -/
variable {Γ : Gam} {a b c : Ex} {as : Exs} {Q : VK}
theorem r_var {i : Nat} (h : tP K W C (ev Γ (.var i)) σ H Q) : tVar i σ H Q := by
  obtain ⟨T, M, ρ, t, x, h⟩ := h
  unfold ev at h
  split at h
  · rename_i d hd
    obtain ⟨v, h1, h2⟩ := x.val i _ hd
    exact ⟨v, h1, h.done (Ext.refl _ _) x.tin h2⟩
  · exact h.elim
theorem r_int {i : Int} (h : tP K W C (ev Γ (.int i)) σ H Q) : tC (.int i) σ H Q := by
  obtain ⟨T, M, ρ, t, x, h⟩ := h
  exact Post.done (by unfold ev at h; exact h) (Ext.refl _ _) x.tin (Dat.int i)
theorem r_bl {i : Bool} (h : tP K W C (ev Γ (.bl i)) σ H Q) : tC (.bl i) σ H Q := by
  obtain ⟨T, M, ρ, t, x, h⟩ := h
  exact Post.done (by unfold ev at h; exact h) (Ext.refl _ _) x.tin (Dat.bl i)
theorem r_non (h : tP K W C (ev Γ .non) σ H Q) : tC .non σ H Q := by
  obtain ⟨T, M, ρ, t, x, h⟩ := h
  exact Post.done (by unfold ev at h; exact h) (Ext.refl _ _) x.tin Dat.non
theorem r_str {i : Str} (h : tP K W C (ev Γ (.str i)) σ H Q) : tC (.str i) σ H Q := by
  obtain ⟨T, M, ρ, t, x, h⟩ := h
  exact Post.done (by unfold ev at h; exact h) (Ext.refl _ _) x.tin (Dat.str i)
theorem r_primes {p : Addr} (hk : KTup K p [.int 2, .int 3, .int 5]) (h : tP K W C (ev Γ .primes) σ H Q) : tC (.ref p) σ H Q := by
  obtain ⟨T, M, ρ, t, x, h⟩ := h
  exact Post.done (by unfold ev at h; exact h) (Ext.refl _ _) x.tin (Dat.ktup hk (.cons (.int 2) (.cons (.int 3) (.cons (.int 5) .nil))))
theorem ofO_done {o : Option α} {Rel : Hp → β → α → Prop} {Q : β → Hp → Prop} (h : Post W C T σ H Rel (ofO o t) Q) : ∃ a, o = some a ∧ Post W C T σ H Rel (.ok a t) Q := by
  cases o with
  | none => exact h.elim
  | some a => exact ⟨a, rfl, h⟩
theorem r_two {p : P2} (h : tP K W C (ev Γ (.two p a b)) σ H Q) : tOp (DR2 K p.f) (tP K W C (ev Γ a)) (tP K W C (ev Γ b)) σ H Q := by
  obtain ⟨T, M, ρ, t, x, h⟩ := h
  unfold ev at h
  refine ⟨T, M, ρ, t, x, h.bind fun d t1 v H1 e1 i1 r1 h => ?_⟩
  have x1 := x.keep e1 i1
  refine ⟨T, M, ρ, t1, x1, h.bind fun e t2 w H2 e2 i2 r2 h => ?_⟩
  have x2 := x1.keep e2 i2
  obtain ⟨r, hr, h⟩ := ofO_done h
  exact ⟨T, M, d, e, r, x2.dom, r1.keep (e2.toM x.tinM), r2, hr, fun z H' ee dd => h.done ee i2 dd⟩
/-- a place of a list, a tuple, the draws -/
def DIx (K : PySem.W.Frag) : R2 := fun x y H Q => DR2 K dIx x y H Q ∨ ∃ p t i r, x = .ref p ∧ y = .int i ∧ H p = some (.lst [.int t.1, .int t.2.1, .int t.2.2]) ∧ tinAt t i = some r ∧ (∀ z H', H' = H → (∃ k, r = .int k ∧ z = .int k) → Q z H')
theorem tinAt_int {t : Tin} {i : Int} {r : D} (h : tinAt t i = some r) : ∃ k, r = .int k ∧ atI [V.int t.1, V.int t.2.1, V.int t.2.2] i = some (.int k) := by
  have e : [D.int t.1, D.int t.2.1, D.int t.2.2] = [t.1, t.2.1, t.2.2].map D.int := rfl
  have e2 : [V.int t.1, V.int t.2.1, V.int t.2.2] = [t.1, t.2.1, t.2.2].map V.int := rfl
  unfold tinAt at h
  rw [e2]
  rw [e] at h
  unfold atI at h ⊢
  rw [List.length_map] at h ⊢
  cases q : ixN [t.1, t.2.1, t.2.2].length i with
  | none => rw [q] at h; cases h
  | some j =>
    rw [q] at h
    have h' : ([t.1, t.2.1, t.2.2].map D.int)[j]? = some r := h
    rw [List.getElem?_map] at h'
    cases z : [t.1, t.2.1, t.2.2][j]? with
    | none => rw [z] at h'; cases h'
    | some k =>
      rw [z] at h'
      cases h'
      refine ⟨k, rfl, ?_⟩
      show ([t.1, t.2.1, t.2.2].map V.int)[j]? = some (.int k)
      rw [List.getElem?_map, z] <;> rfl
theorem d_ixT {X : Cx} : IxR X (DIx X.K) := by
  refine IxR.imp (IxR.or d_ix ix_list) fun x y H Q h => ?_
  rcases h with h | ⟨p, t, i, r, rfl, rfl, hp, hr, q⟩
  · exact .inl h
  · obtain ⟨k, e, ha⟩ := tinAt_int hr
    exact .inr ⟨p, _, i, .int k, rfl, rfl, .inl (.inl hp), ha, q _ _ rfl ⟨k, e, rfl⟩⟩
theorem r_ix (h : tP K W C (ev Γ (.ix a b)) σ H Q) : tOp (DIx K) (tP K W C (ev Γ a)) (tP K W C (ev Γ b)) σ H Q := by
  obtain ⟨T, M, ρ, t, x, h⟩ := h
  unfold ev at h
  refine ⟨T, M, ρ, t, x, h.bind fun d t1 v H1 e1 i1 r1 h => ?_⟩
  have x1 := x.keep e1 i1
  refine ⟨T, M, ρ, t1, x1, h.bind fun e t2 w H2 e2 i2 r2 h => ?_⟩
  have x2 := x1.keep e2 i2
  obtain ⟨r, hr, h⟩ := ofO_done h
  have r1' : Dat K T M H2 v d := r1.keep (e2.toM x.tinM)
  unfold ixD at hr
  split at hr
  · cases r1' with
    | tin ht =>
      cases (show Dat K T M H2 w (.int _) from r2).eqInt
      refine .inr ⟨_, t2, _, r, rfl, rfl, i2 _ ht, hr, fun z H' eh ez => ?_⟩
      obtain ⟨k, rfl, rfl⟩ := ez
      subst eh
      exact h.done (Ext.refl _ _) i2 (Dat.int k)
  · exact .inl ⟨T, M, d, e, r, x2.dom, r1', r2, hr, fun z H' ee dd => h.done ee i2 dd⟩
end
end Dry
set_option Elab.async false
set_option linter.all false
set_option maxRecDepth 100000
set_option maxHeartbeats 1000000
/-! DryE: readings from meanings, further. -/
namespace Dry
open PySem PySem.Spec PyProof.Rows L2
section
variable {W : WX} {C : Addr} {T : Option Addr} {M : List Addr} {σ : L2.St} {H H1 : Hp} {K : PySem.W.Frag} {α β γ δ : Type} {ρ : Env'} {t : Tin}
variable {Γ : Gam} {a b c e : Ex} {as : Exs} {Q : VK}
theorem r_fn {p : P1} (h : tP K W C (ev Γ (.fn p as)) σ H Q) : tCB (DC K p.f) (tA K W C (evs Γ as)) σ H Q := by
  obtain ⟨T, M, ρ, t, x, h⟩ := h
  unfold ev at h
  refine ⟨T, M, ρ, t, x, h.bind fun d t1 v H1 e1 i1 r1 h => ?_⟩
  obtain ⟨r, hr, h⟩ := ofO_done h
  exact ⟨T, M, d, r, (x.keep e1 i1).dom, r1, hr, fun z H' ee dd => h.done ee i1 dd⟩
theorem r_mt {p : PM} (h : tP K W C (ev Γ (.mt p a as)) σ H Q) : tBM K "list" (DM K p.f) (tP K W C (ev Γ a)) (tA K W C (evs Γ as)) σ H Q := by
  obtain ⟨T, M, ρ, t, x, h⟩ := h
  unfold ev at h
  refine ⟨T, M, ρ, t, x, h.bind fun d t1 v H1 e1 i1 r1 h => ?_⟩
  have x1 := x.keep e1 i1
  cases d with
  | lst ds =>
    obtain ⟨l, xs, rfl, hn, hl, hq, hd⟩ := (show Dat K T M H1 v (.lst ds) from r1).sql
    refine ⟨.inl ⟨rfl, xs, hq⟩, T, M, ρ, t1, x1, Post.bind h fun es t2 ws H2 e2 i2 r2 h => ?_⟩
    obtain ⟨r, hr, h⟩ := ofO_done h
    exact ⟨T, M, .lst ds, es, r, (x1.keep e2 i2).dom, r1.keep (e2.toM x.tinM), r2, hr, fun z H' ee dd => h.done ee i2 dd⟩
  | _ => exact h.elim
theorem valV_dct : ∀ (kvs : List (Int × Int)) (k : Int), valV (kvs.map fun q => ((.inl q.1 : Key), V.int q.2)) (.inl k) = (kvs.lookup k).map V.int
  | [], k => by rfl
  | (a, b) :: r, k => by
    have ih := valV_dct r k
    unfold valV at ih ⊢
    rw [List.map_cons, List.lookup_cons]
    by_cases h : k = a
    · subst h
      simp
    · have e : (k == a) = false := beq_eq_false_iff_ne.mpr h
      have e2 : decide ((Sum.inl a : Key) = Sum.inl k) = false := decide_eq_false (fun z => h (Sum.inl.inj z).symm)
      rw [e, List.find?_cons]
      dsimp only
      rw [e2]
      exact ih
theorem r_get3 (h : tP K W C (ev Γ (.get3 a b c)) σ H Q) : tDGet2 (tP K W C (ev Γ a)) (tP K W C (ev Γ b)) (tP K W C (ev Γ c)) σ H Q := by
  obtain ⟨T, M, ρ, t, x, h⟩ := h
  unfold ev at h
  refine ⟨T, M, ρ, t, x, h.bind fun d t1 v H1 e1 i1 r1 h => ?_⟩
  have x1 := x.keep e1 i1
  cases d with
  | dct kvs =>
    cases r1 with
    | dct hn hk =>
      rename_i p
      refine ⟨p, rfl, .inl ⟨_, .inl hk⟩, T, M, ρ, t1, x1, Post.bind h fun d2 t2 v2 H2 e2 i2 r2 h => ?_⟩
      have x2 := x1.keep e2 i2
      refine ⟨T, M, ρ, t2, x2, Post.bind h fun d3 t3 v3 H3 e3 i3 r3 h => ?_⟩
      obtain ⟨r, hr, h⟩ := ofO_done h
      have hk3 : H3 p = some (.dK (kvs.map fun q => (.inl q.1, .int q.2))) := (e3.toM x.tinM) p _ hn ((e2.toM x.tinM) p _ hn hk)
      unfold dGet3 at hr
      split at hr
      · rename_i kvs' k d' heq
        simp only [List.cons.injEq, D.dct.injEq, and_true] at heq
        obtain ⟨rfl, rfl, rfl⟩ := heq
        cases (show Dat K T M H2 v2 (.int k) from r2).eqInt
        refine ⟨_, DGet.k (k := .inl k) hk3, ?_⟩
        rw [valV_dct]
        cases hr
        cases z : kvs.lookup k with
        | none =>
          rw [z] at h
          exact h.done (Ext.refl _ _) i3 r3
        | some w =>
          rw [z] at h
          exact h.done (Ext.refl _ _) i3 (Dat.int w)
      · cases hr
  | _ => exact h.elim
theorem r_rev (h : tP K W C (ev Γ (.rev a)) σ H Q) : (fun (σ : L2.St) (H : Hp) (Q : VK) => tP K W C (ev Γ a) σ H fun x H1 => DC K dRev1 [x] H1 Q) σ H Q := by
  obtain ⟨T, M, ρ, t, x, h⟩ := h
  unfold ev at h
  refine ⟨T, M, ρ, t, x, h.bind fun d t1 v H1 e1 i1 r1 h => ?_⟩
  obtain ⟨r, hr, h⟩ := ofO_done h
  exact ⟨T, M, [d], r, (x.keep e1 i1).dom, .one r1, hr, fun z H' ee dd => h.done ee i1 dd⟩
theorem r_lenset (h : tP K W C (ev Γ (.lenset a)) σ H Q) : (fun (σ : L2.St) (H : Hp) (Q : VK) => tP K W C (ev Γ a) σ H fun x H1 => DC K dLenSet [x] H1 Q) σ H Q := by
  obtain ⟨T, M, ρ, t, x, h⟩ := h
  unfold ev at h
  refine ⟨T, M, ρ, t, x, h.bind fun d t1 v H1 e1 i1 r1 h => ?_⟩
  obtain ⟨r, hr, h⟩ := ofO_done h
  exact ⟨T, M, [d], r, (x.keep e1 i1).dom, .one r1, hr, fun z H' ee dd => h.done ee i1 dd⟩
theorem r_dzip (h : tP K W C (ev Γ (.dzip a b)) σ H Q) : tOp (DR2 K dZipD) (tP K W C (ev Γ a)) (tP K W C (ev Γ b)) σ H Q := by
  obtain ⟨T, M, ρ, t, x, h⟩ := h
  unfold ev at h
  refine ⟨T, M, ρ, t, x, h.bind fun d t1 v H1 e1 i1 r1 h => ?_⟩
  have x1 := x.keep e1 i1
  refine ⟨T, M, ρ, t1, x1, h.bind fun e t2 w H2 e2 i2 r2 h => ?_⟩
  have x2 := x1.keep e2 i2
  obtain ⟨r, hr, h⟩ := ofO_done h
  exact ⟨T, M, d, e, r, x2.dom, r1.keep (e2.toM x.tinM), r2, hr, fun z H' ee dd => h.done ee i2 dd⟩
/-- an int's reading -/
theorem Post.asI {f : Res D} {α β : Type} {Rel : Hp → β → α → Prop} {k : Int → Tin → Res α} {Q : β → Hp → Prop} {Q1 : VK} (h : Post W C T σ H Rel ((asI f).bind k) Q)
    (g : ∀ i t1 H1, Ext T.toList H H1 → TinOk T t1 H1 → Post W C T σ H1 Rel (k i t1) Q → Q1 (.int i) H1) : Post W C T σ H (RelD K T M) f Q1 := by
  cases f with
  | ok d t1 =>
    cases d with
    | int i =>
      intro v H1 e ti rel
      cases (show Dat K T M H1 v (.int i) from rel).eqInt
      exact g i t1 H1 e ti (Post.base (r := k i t1) h e)
    | _ => exact h.elim
  | exn t1 => exact h
  | bad => exact h
theorem Post.asB {f : Res D} {α β : Type} {Rel : Hp → β → α → Prop} {k : Bool → Tin → Res α} {Q : β → Hp → Prop} {Q1 : VK} (h : Post W C T σ H Rel ((asB f).bind k) Q)
    (g : ∀ i t1 H1, Ext T.toList H H1 → TinOk T t1 H1 → Post W C T σ H1 Rel (k i t1) Q → Q1 (.bl i) H1) : Post W C T σ H (RelD K T M) f Q1 := by
  cases f with
  | ok d t1 =>
    cases d with
    | bl i =>
      intro v H1 e ti rel
      cases (show Dat K T M H1 v (.bl i) from rel).eqBl
      exact g i t1 H1 e ti (Post.base (r := k i t1) h e)
    | _ => exact h.elim
  | exn t1 => exact h
  | bad => exact h
theorem Post.asBT {f : Res D} {α β : Type} {Rel : Hp → β → α → Prop} {k : Bool → Tin → Res α} {Q : β → Hp → Prop} {Q1 : Bool → Hp → Prop} (h : Post W C T σ H Rel ((Dry.asB f).bind k) Q)
    (g : ∀ i t1 H1, Ext T.toList H H1 → TinOk T t1 H1 → Post W C T σ H1 Rel (k i t1) Q → Q1 i H1) : Post W C T σ H RelB (Dry.asB f) Q1 := by
  cases f with
  | ok d t1 =>
    cases d with
    | bl i =>
      intro v H1 e ti rel
      obtain rfl : v = i := rel
      exact g v t1 H1 e ti (Post.base (r := k v t1) h e)
    | _ => exact h.elim
  | exn t1 => exact h
  | bad => exact h
theorem r_cutTo (h : tP K W C (ev Γ (.cutTo a b)) σ H Q) : tSl (DSl K) (tP K W C (ev Γ a)) tNoPart (tPart (tP K W C (ev Γ b))) σ H Q := by
  obtain ⟨T, M, ρ, t, x, h⟩ := h
  unfold ev at h
  refine ⟨T, M, ρ, t, x, h.bind fun d t1 v H1 e1 i1 r1 h => ?_⟩
  have x1 := x.keep e1 i1
  refine ⟨T, M, ρ, t1, x1, h.asI fun j t2 H2 e2 i2 h => ⟨j, rfl, ?_⟩⟩
  obtain ⟨r, hr, h⟩ := ofO_done h
  exact ⟨T, M, d, r, (x1.keep e2 i2).dom, r1.keep (e2.toM x.tinM), hr, fun z H' ee dd => h.done ee i2 dd⟩
theorem r_cutFrom (h : tP K W C (ev Γ (.cutFrom a b)) σ H Q) : tSl (DSl K) (tP K W C (ev Γ a)) (tPart (tP K W C (ev Γ b))) tNoPart σ H Q := by
  obtain ⟨T, M, ρ, t, x, h⟩ := h
  unfold ev at h
  refine ⟨T, M, ρ, t, x, h.bind fun d t1 v H1 e1 i1 r1 h => ?_⟩
  have x1 := x.keep e1 i1
  refine ⟨T, M, ρ, t1, x1, h.asI fun j t2 H2 e2 i2 h => ⟨j, rfl, ?_⟩⟩
  obtain ⟨r, hr, h⟩ := ofO_done h
  exact ⟨T, M, d, r, (x1.keep e2 i2).dom, r1.keep (e2.toM x.tinM), hr, fun z H' ee dd => h.done ee i2 dd⟩
theorem r_cutAB (h : tP K W C (ev Γ (.cutAB a b c)) σ H Q) : tSl (DSl K) (tP K W C (ev Γ a)) (tPart (tP K W C (ev Γ b))) (tPart (tP K W C (ev Γ c))) σ H Q := by
  obtain ⟨T, M, ρ, t, x, h⟩ := h
  unfold ev at h
  refine ⟨T, M, ρ, t, x, h.bind fun d t1 v H1 e1 i1 r1 h => ?_⟩
  have x1 := x.keep e1 i1
  refine ⟨T, M, ρ, t1, x1, h.asI fun j t2 H2 e2 i2 h => ⟨j, rfl, ?_⟩⟩
  have x2 := x1.keep e2 i2
  refine ⟨T, M, ρ, t2, x2, h.asI fun k t3 H3 e3 i3 h => ⟨k, rfl, ?_⟩⟩
  obtain ⟨r, hr, h⟩ := ofO_done h
  exact ⟨T, M, d, r, (x2.keep e3 i3).dom, (r1.keep (e2.toM x.tinM)).keep (e3.toM x.tinM), hr, fun z H' ee dd => h.done ee i3 dd⟩
theorem Dat.isNon {v : V} {d : D} (h : Dat K T M H v d) : decide (v = .non) = isNonD d := by
  cases h <;> rfl
theorem r_isN (h : tP K W C (ev Γ (.isN a)) σ H Q) : tOp (fun x y H Q => y = .non ∧ Q (.bl (decide (x = .non))) H) (tP K W C (ev Γ a)) (tC .non) σ H Q := by
  obtain ⟨T, M, ρ, t, x, h⟩ := h
  unfold ev at h
  refine ⟨T, M, ρ, t, x, h.bind fun d t1 v H1 e1 i1 r1 h => ⟨rfl, ?_⟩⟩
  rw [Dat.isNon r1]
  exact h.done (Ext.refl _ _) i1 (Dat.bl _)
theorem r_notN (h : tP K W C (ev Γ (.notN a)) σ H Q) : tOp (fun x y H Q => y = .non ∧ Q (.bl (!decide (x = .non))) H) (tP K W C (ev Γ a)) (tC .non) σ H Q := by
  obtain ⟨T, M, ρ, t, x, h⟩ := h
  unfold ev at h
  refine ⟨T, M, ρ, t, x, h.bind fun d t1 v H1 e1 i1 r1 h => ⟨rfl, ?_⟩⟩
  rw [Dat.isNon r1]
  exact h.done (Ext.refl _ _) i1 (Dat.bl _)
/-! ### truth -/
theorem r_andV (h : tP K W C (ev Γ (.and_ a b)) σ H Q) : tAndV (tP K W C (ev Γ a)) (tP K W C (ev Γ b)) σ H Q := by
  obtain ⟨T, M, ρ, t, x, h⟩ := h
  unfold ev at h
  refine ⟨T, M, ρ, t, x, h.asB fun i t1 H1 e1 i1 h => ⟨i, rfl, ?_⟩⟩
  cases i with
  | true => exact iteT ⟨T, M, ρ, t1, x.keep e1 i1, h⟩
  | false => exact iteF (h.done (Ext.refl _ _) i1 (Dat.bl _))
theorem r_orV (h : tP K W C (ev Γ (.or_ a b)) σ H Q) : tOrV (tP K W C (ev Γ a)) (tP K W C (ev Γ b)) σ H Q := by
  obtain ⟨T, M, ρ, t, x, h⟩ := h
  unfold ev at h
  refine ⟨T, M, ρ, t, x, h.asB fun i t1 H1 e1 i1 h => ⟨i, rfl, ?_⟩⟩
  cases i with
  | true => exact iteT (h.done (Ext.refl _ _) i1 (Dat.bl _))
  | false => exact iteF ⟨T, M, ρ, t1, x.keep e1 i1, h⟩
theorem r_notV (h : tP K W C (ev Γ (.not_ a)) σ H Q) : tNotV (tP K W C (ev Γ a)) σ H Q := by
  obtain ⟨T, M, ρ, t, x, h⟩ := h
  unfold ev at h
  exact ⟨T, M, ρ, t, x, h.asB fun i t1 H1 e1 i1 h => ⟨i, rfl, h.done (Ext.refl _ _) i1 (Dat.bl _)⟩⟩
theorem r_ite (h : tP K W C (ev Γ (.ite c a b)) σ H Q) : tIf (tT K W C (ev Γ c)) (tP K W C (ev Γ a)) (tP K W C (ev Γ b)) σ H Q := by
  obtain ⟨T, M, ρ, t, x, h⟩ := h
  unfold ev at h
  refine ⟨T, M, ρ, t, x, h.asBT fun i t1 H1 e1 i1 h => ?_⟩
  cases i with
  | true => exact iteT ⟨T, M, ρ, t1, x.keep e1 i1, h⟩
  | false => exact iteF ⟨T, M, ρ, t1, x.keep e1 i1, h⟩
theorem r_chain (h : tP K W C (ev Γ (.chain a b c)) σ H Q) : tChain (rI0 fun i j => .bl (decide (i ≤ j))) (rI0 fun i j => .bl (decide (i < j))) (tP K W C (ev Γ a)) (tP K W C (ev Γ b)) (tP K W C (ev Γ c)) σ H Q := by
  obtain ⟨T, M, ρ, t, x, h⟩ := h
  unfold ev at h
  refine ⟨T, M, ρ, t, x, h.asI fun i t1 H1 e1 i1 h => ?_⟩
  have x1 := x.keep e1 i1
  refine ⟨T, M, ρ, t1, x1, h.asI fun j t2 H2 e2 i2 h => ⟨i, j, rfl, rfl, decide (i ≤ j), rfl, ?_⟩⟩
  have x2 := x1.keep e2 i2
  cases q : decide (i ≤ j) with
  | true =>
    rw [q] at h
    exact iteT ⟨T, M, ρ, t2, x2, h.asI fun k t3 H3 e3 i3 h => ⟨j, k, rfl, rfl, h.done (Ext.refl _ _) i3 (Dat.bl _)⟩⟩
  | false =>
    rw [q] at h
    exact iteF (h.done (Ext.refl _ _) i2 (Dat.bl _))
/-- a test from a value -/
theorem r_test {Q : Bool → Hp → Prop} (h : tT K W C (ev Γ a) σ H Q) : tTest (tP K W C (ev Γ a)) σ H Q := by
  obtain ⟨T, M, ρ, t, x, h⟩ := h
  refine ⟨T, M, ρ, t, x, ?_⟩
  cases q : ev Γ a ρ t with
  | ok d t1 =>
    rw [q] at h
    cases d with
    | bl b =>
      intro v H1 e ti rel
      cases (show Dat K T M H1 v (.bl b) from rel).eqBl
      exact ⟨b, rfl, h b H1 e ti rfl⟩
    | _ => exact h.elim
  | exn t1 =>
    rw [q] at h
    exact h
  | bad =>
    rw [q] at h
    exact h
theorem asB_bind (r : Res D) : asB ((asB r).bind fun c t => .ok (.bl (!c)) t) = (asB r).bind fun c t => .ok (!c) t := by
  cases r with
  | ok d t => cases d <;> rfl
  | exn t => rfl
  | bad => rfl
theorem r_notT {Q : Bool → Hp → Prop} (h : tT K W C (ev Γ (.not_ a)) σ H Q) : tNot (tT K W C (ev Γ a)) σ H Q := by
  obtain ⟨T, M, ρ, t, x, h⟩ := h
  unfold ev at h
  rw [asB_bind] at h
  exact ⟨T, M, ρ, t, x, h.asBT fun i t1 H1 e1 i1 h => h.done (Ext.refl _ _) i1 rfl⟩
theorem asB_cond (r : Res D) (f g : Bool → Tin → Res D) (h : ∀ c t, asB (f c t) = asB (g c t)) : asB ((asB r).bind f) = asB ((asB r).bind g) := by
  cases r with
  | ok d t => cases d <;> first | rfl | exact h _ _
  | exn t => rfl
  | bad => rfl
theorem asB_out (r : Res D) (f : Bool → Tin → Res D) : asB ((asB r).bind f) = (asB r).bind fun c t => asB (f c t) := by
  cases r with
  | ok d t => cases d <;> rfl
  | exn t => rfl
  | bad => rfl
theorem r_andT {Q : Bool → Hp → Prop} (h : tT K W C (ev Γ (.and_ a b)) σ H Q) : tAnd (tT K W C (ev Γ a)) (tT K W C (ev Γ b)) σ H Q := by
  obtain ⟨T, M, ρ, t, x, h⟩ := h
  unfold ev at h
  rw [asB_out] at h
  refine ⟨T, M, ρ, t, x, h.asBT fun i t1 H1 e1 i1 h => ?_⟩
  cases i with
  | true => exact iteT ⟨T, M, ρ, t1, x.keep e1 i1, h⟩
  | false => exact iteF (h.done (Ext.refl _ _) i1 rfl)
theorem r_orT {Q : Bool → Hp → Prop} (h : tT K W C (ev Γ (.or_ a b)) σ H Q) : tOr (tT K W C (ev Γ a)) (tT K W C (ev Γ b)) σ H Q := by
  obtain ⟨T, M, ρ, t, x, h⟩ := h
  unfold ev at h
  rw [asB_out] at h
  refine ⟨T, M, ρ, t, x, h.asBT fun i t1 H1 e1 i1 h => ?_⟩
  cases i with
  | true => exact iteT (h.done (Ext.refl _ _) i1 rfl)
  | false => exact iteF ⟨T, M, ρ, t1, x.keep e1 i1, h⟩
/-! ### arguments, displays -/
theorem r_nil {Q : List V → Hp → Prop} (h : tA K W C (evs Γ .nil) σ H Q) : tNil σ H Q := by
  obtain ⟨T, M, ρ, t, x, h⟩ := h
  unfold evs at h
  exact h.done (Ext.refl _ _) x.tin (DatL.nil)
theorem r_cons {Q : List V → Hp → Prop} (h : tA K W C (evs Γ (.cons a as)) σ H Q) : tCons (tP K W C (ev Γ a)) (tA K W C (evs Γ as)) σ H Q := by
  obtain ⟨T, M, ρ, t, x, h⟩ := h
  unfold evs at h
  refine ⟨T, M, ρ, t, x, h.bind fun d t1 v H1 e1 i1 r1 h => ?_⟩
  have x1 := x.keep e1 i1
  refine ⟨T, M, ρ, t1, x1, h.bind fun ds t2 vs H2 e2 i2 r2 h => ?_⟩
  exact h.done (Ext.refl _ _) i2 (DatL.cons (Dat.keep (e2.toM x.tinM) r1) r2)
theorem r_star {Q : List V → Hp → Prop} (h : tA K W C (evs Γ (.star a as)) σ H Q) : StX.tStar K (tP K W C (ev Γ a)) (tA K W C (evs Γ as)) σ H Q := by
  obtain ⟨T, M, ρ, t, x, h⟩ := h
  unfold evs at h
  refine ⟨T, M, ρ, t, x, h.bind fun d t1 v H1 e1 i1 r1 h => ?_⟩
  have x1 := x.keep e1 i1
  have key : ∃ es, dItems d = some es := by
    cases q : dItems d with
    | none => rw [q] at h; exact h.elim
    | some es => exact ⟨es, rfl⟩
  obtain ⟨es, he⟩ := key
  rw [he] at h
  have fin : ∃ p xs, v = V.ref p ∧ (SqT K H1 p xs ∨ SqL K H1 p xs) ∧ DatL K T M H1 xs es := by
    unfold dItems at he
    split at he
    · cases he
      obtain ⟨p, xs, rfl, _, _, hq, hd⟩ := (show Dat K T M H1 v (.lst es) from r1).sql
      exact ⟨p, xs, rfl, .inr hq, hd⟩
    · cases he
      obtain ⟨p, xs, rfl, hq, hd⟩ := (show Dat K T M H1 v (.tup es) from r1).sqt
      exact ⟨p, xs, rfl, .inl hq, hd⟩
    · cases he
  obtain ⟨p, xs, rfl, hq, hd⟩ := fin
  refine ⟨p, xs, rfl, hq, T, M, ρ, t1, x1, Post.bind (r := evs Γ as ρ t1) h fun ds t2 vs H2 e2 i2 r2 h => ?_⟩
  exact h.done (Ext.refl _ _) i2 (DatL.append (DatL.keep (e2.toM x.tinM) hd) r2)
theorem capL_done {ds : List D} {Rel : Hp → β → α → Prop} {k : List D → Tin → Res α} {Q : β → Hp → Prop} (h : Post W C T σ H Rel ((capL ds t).bind k) Q) : ds.length ≤ cap ∧ Post W C T σ H Rel (k ds t) Q := by
  unfold capL at h
  by_cases q : ds.length ≤ cap
  · rw [if_pos q] at h
    exact ⟨q, h⟩
  · rw [if_neg q] at h
    exact h.elim
theorem r_tup (h : tP K W C (ev Γ (.tup as)) σ H Q) : tTup (tA K W C (evs Γ as)) σ H Q := by
  obtain ⟨T, M, ρ, t, x, h⟩ := h
  unfold ev at h
  refine ⟨T, M, ρ, t, x, h.bind fun ds t1 vs H1 e1 i1 r1 h => ?_⟩
  obtain ⟨hz, h⟩ := capL_done h
  refine ⟨cap_line (by rw [DatL.length r1]; exact hz), fun p hp => ?_⟩
  exact h.done (Ext.new hp) i1 (Dat.newT hp (x.keep e1 i1).dom r1)
theorem r_lst (h : tP K W C (ev Γ (.lst as)) σ H Q) : tLst (tA K W C (evs Γ as)) σ H Q := by
  obtain ⟨T, M, ρ, t, x, h⟩ := h
  unfold ev at h
  refine ⟨T, M, ρ, t, x, h.bind fun ds t1 vs H1 e1 i1 r1 h => ?_⟩
  obtain ⟨hz, h⟩ := capL_done h
  refine ⟨cap_line (by rw [DatL.length r1]; exact hz), fun p hp => ?_⟩
  exact h.done (Ext.new hp) i1 (Dat.newL hp (x.keep e1 i1).dom r1)
end
end Dry
set_option Elab.async false
set_option linter.all false
set_option maxRecDepth 100000
set_option maxHeartbeats 1000000
/-! DryF: isinstance, calls, own lists, what is walked, comprehensions. -/
namespace Dry
open PySem PySem.Spec PyProof.Rows L2
def Ty.nm : Ty → String
  | .int => "int" | .bool => "bool" | .str => "str" | .list => "list" | .tuple => "tuple"
def tyNm : D → String
  | .bl _ => "bool"
  | .int _ => "int"
  | .str _ => "str"
  | .lst _ => "list"
  | .tup _ => "tuple"
  | .scr _ => "list"
  | _ => "NoneType"
theorem kit_non (t : Ty) : kitB "NoneType" t.nm = some false := by cases t <;> decide +kernel
theorem kit_bl (t : Ty) : kitB "bool" t.nm = some (match t with
  | .int => true
  | .bool => true
  | _ => false) := by cases t <;> decide +kernel
theorem kit_int (t : Ty) : kitB "int" t.nm = some (decide (t = .int)) := by cases t <;> decide +kernel
theorem kit_str (t : Ty) : kitB "str" t.nm = some (decide (t = .str)) := by cases t <;> decide +kernel
theorem kit_list (t : Ty) : kitB "list" t.nm = some (decide (t = .list)) := by cases t <;> decide +kernel
theorem kit_tuple (t : Ty) : kitB "tuple" t.nm = some (decide (t = .tuple)) := by cases t <;> decide +kernel
theorem kit_d (d : D) (t : Ty) (h : dIs [t] d ≠ none) : kitB (tyNm d) t.nm = some (isOne d t) := by
  cases d with
  | non => exact kit_non t
  | bl b =>
    rw [show tyNm (.bl b) = "bool" from rfl, kit_bl]
    cases t <;> rfl
  | int i =>
    rw [show tyNm (.int i) = "int" from rfl, kit_int]
    cases t <;> rfl
  | str i =>
    rw [show tyNm (.str i) = "str" from rfl, kit_str]
    cases t <;> rfl
  | lst i =>
    rw [show tyNm (.lst i) = "list" from rfl, kit_list]
    cases t <;> rfl
  | tup i =>
    rw [show tyNm (.tup i) = "tuple" from rfl, kit_tuple]
    cases t <;> rfl
  | scr i =>
    rw [show tyNm (.scr i) = "list" from rfl, kit_list]
    cases t <;> rfl
  | tin => exact absurd rfl h
  | dct _ => exact absurd rfl h
section
variable {W : WX} {C : Addr} {T : Option Addr} {M : List Addr} {σ : L2.St} {H H1 : Hp} {K : PySem.W.Frag} {α β γ δ : Type} {ρ : Env'} {t : Tin}
variable {Γ : Gam} {a b c e : Ex} {as : Exs} {Q : VK}
theorem dat_ty {v : V} {d : D} {ts : List Ty} {r : D} (h : Dat K T M H v d) (z : dIs ts d = some r) : TyX K H v (.type (tyNm d)) := by
  cases h with
  | non => exact .base .non
  | bl b => exact .base (.bl b)
  | int i => exact .base (.int i)
  | str x => exact .base (.str x)
  | lst _ e _ => exact .base (.lst e)
  | tup _ e _ =>
    rcases e with e | ⟨o, e⟩
    · exact .base (.tup e)
    · exact .fTuple e
  | ktup k _ =>
    obtain ⟨o, its, n, lk, hc, _⟩ := k
    exact .kTuple lk hc
  | tin _ => cases z
  | dct _ _ => cases z
  | scr _ e =>
    rcases e with e | ⟨o, e⟩
    · exact .base (.lst e)
    · exact .base (.frz e)
  | kscr k =>
    obtain ⟨o, its, n, lk, hc, _⟩ := k
    exact .kList lk hc
theorem dIs_some {ts : List Ty} {d r : D} (h : dIs ts d = some r) : r = .bl (ts.any fun t => isOne d t) ∧ ∀ t, dIs [t] d ≠ none := by
  cases d <;> first | (cases h; done) | (cases h; exact ⟨rfl, fun t z => by cases z⟩)
theorem r_isI1 {ty : Ty} (h : tP K W C (ev Γ (.isI [ty] a)) σ H Q) : tCB (rIsi K) (tCons (tP K W C (ev Γ a)) (tCons (tC (.ty ty.nm)) tNil)) σ H Q := by
  obtain ⟨T, M, ρ, t, x, h⟩ := h
  unfold ev at h
  refine ⟨T, M, ρ, t, x, h.bind fun d t1 v H1 e1 i1 r1 h => ?_⟩
  obtain ⟨r, hr, h⟩ := ofO_done h
  obtain ⟨rfl, hn⟩ := dIs_some hr
  refine ⟨v, _, _, _, isOne d ty, rfl, .ty _, dat_ty r1 hr, kit_ty (kit_d d ty (hn ty)), h.done (Ext.refl _ _) i1 ?_⟩
  show Dat K T M H1 _ (.bl (isOne d ty || false))
  rw [Bool.or_false]
  exact Dat.bl _
theorem r_isI2 {ty ty2 : Ty} (h : tP K W C (ev Γ (.isI [ty, ty2] a)) σ H Q) :
    tCB (rIsiT K) (tCons (tP K W C (ev Γ a)) (tCons (tTup (tCons (tC (.ty ty.nm)) (tCons (tC (.ty ty2.nm)) tNil))) tNil)) σ H Q := by
  obtain ⟨T, M, ρ, t, x, h⟩ := h
  unfold ev at h
  refine ⟨T, M, ρ, t, x, h.bind fun d t1 v H1 e1 i1 r1 h => ?_⟩
  obtain ⟨r, hr, h⟩ := ofO_done h
  obtain ⟨rfl, hn⟩ := dIs_some hr
  refine ⟨by show 2 ≤ sizeLine; decide, fun p hp => ?_⟩
  have r2 : Dat K T M (upd H1 p (.tup [.ty ty.nm, .ty ty2.nm])) v d := Dat.keep (Ext.new hp) r1
  refine ⟨v, p, [.ty ty.nm, .ty ty2.nm], _, [.type ty.nm, .type ty2.nm], isOne d ty || isOne d ty2, rfl, upd_same, .cons (.ty _) (.cons (.ty _) .nil), dat_ty r2 hr,
    kitAny_cons (kit_ty (kit_d d ty (hn ty))) (fun hb => kitAny_cons (kit_ty (kit_d d ty2 (hn ty2))) (fun hb2 => ?_) fun hb2 => ?_) fun hb => ?_, h.done (Ext.new hp) i1 ?_⟩
  · rw [kitAny_nil, hb, hb2] <;> rfl
  · rw [hb2, Bool.or_true]
  · rw [hb, Bool.true_or]
  · show Dat K T M _ _ (.bl (isOne d ty || (isOne d ty2 || false)))
    rw [Bool.or_false]
    exact Dat.bl _

/-! ### calls -/
/-- what a def is worth over plain data -/
def spD (K : PySem.W.Frag) (C : Addr) (n : Nat) (g : List D → Tin → Res D) : Sp := fun vs H Q E => ∃ T M t ds, (∀ a, T = some a → a ∈ M) ∧ (∀ a ∈ M, H a ≠ none) ∧ TinOk T t H ∧ DatL K T M H vs ds ∧ ds.length = n ∧
  match g ds t with
  | .ok d t' => ∀ v H', Ext T.toList H H' → TinOk T t' H' → Dat K T M H' v d → Q v H'
  | .exn t' => ∀ H', Ext T.toList H H' → TinOk T t' H' → E (.ref C) none H'
  | .bad => False
theorem r_call {x : Str} {n : Nat} {g : List D → Tin → Res D} (hg : Γ x = some (n, g)) (h : tP K W C (ev Γ (.call x as)) σ H Q) : tCallS (spD K C n g) (WE W) (tA K W C (evs Γ as)) σ H Q := by
  obtain ⟨T, M, ρ, t, x, h⟩ := h
  unfold ev app at h
  rw [hg] at h
  have h : Post W C T σ H (RelD K T M) ((evs Γ as ρ t).bind (appN n g)) Q := h
  refine ⟨T, M, ρ, t, x, h.bind fun ds t1 vs H1 e1 i1 r1 h => ?_⟩
  unfold appN at h
  by_cases hn : ds.length = n
  · rw [if_pos hn] at h
    refine ⟨T, M, t1, ds, x.tinM, (x.keep e1 i1).dom, i1, r1, hn, ?_⟩
    cases q : g ds t1 with
    | ok d t2 =>
      rw [q] at h
      exact h
    | exn t2 =>
      rw [q] at h
      exact h
    | bad =>
      rw [q] at h
      exact h
  · rw [if_neg hn] at h
    exact h.elim
theorem n_call {x : Str} (hg : Γ x = none) (h : tP K W C (ev Γ (.call x as)) σ H Q) : False := by
  obtain ⟨T, M, ρ, t, x, h⟩ := h
  unfold ev app at h
  rw [hg] at h
  exact h
/-- _law_heard(f, (..)): f's value, or ["paper"] where it raises -/
def spH (K : PySem.W.Frag) (f : Addr) (n : Nat) (g : List D → Tin → Res D) : Sp := fun vs H Q _ => ∃ T M t ds v, vs = [.ref f, v] ∧ (∀ a, T = some a → a ∈ M) ∧ (∀ a ∈ M, H a ≠ none) ∧ TinOk T t H ∧ Dat K T M H v (.tup ds) ∧ ds.length = n ∧ (n = 2 ∨ n = 3) ∧
  match g ds t with
  | .ok d t' => ∀ v H', Ext T.toList H H' → TinOk T t' H' → Dat K T M H' v d → Q v H'
  | .exn t' => ∀ v H', Ext T.toList H H' → TinOk T t' H' → Dat K T M H' v (.lst [.str "paper"]) → Q v H'
  | .bad => False
theorem r_heard {x : Str} {n : Nat} {f : Addr} {g : List D → Tin → Res D} (hg : Γ x = some (n, g)) (h : tP K W C (ev Γ (.heard x as)) σ H Q) :
    tCallS (spH K f n g) (WE W) (tCons (tC (.ref f)) (tCons (tTup (tA K W C (evs Γ as))) tNil)) σ H Q := by
  obtain ⟨T, M, ρ, t, x, h⟩ := h
  unfold ev appH at h
  rw [hg] at h
  have h : Post W C T σ H (RelD K T M) (if n = 2 ∨ n = 3 then (evs Γ as ρ t).bind fun ds t => heardR (appN n g ds t) else .bad) Q := h
  by_cases h2 : n = 2 ∨ n = 3
  · rw [if_pos h2] at h
    refine ⟨T, M, ρ, t, x, h.bind fun ds t1 vs H1 e1 i1 r1 h => ?_⟩
    unfold appN at h
    by_cases hn : ds.length = n
    · rw [if_pos hn] at h
      refine ⟨cap_line (by rw [DatL.length r1, cap]; omega), fun p hp => ?_⟩
      have ex : Ext T.toList H1 (upd H1 p (.tup vs)) := Ext.new hp
      have x2 := (x.keep e1 i1).keep ex (i1.keep (Ext.new hp))
      refine ⟨T, M, t1, ds, .ref p, rfl, x.tinM, x2.dom, x2.tin, Dat.newT hp (x.keep e1 i1).dom r1, hn, h2, ?_⟩
      cases q : g ds t1 with
      | ok d t2 =>
        rw [q] at h
        exact fun v H' e i r => h v H' (ex.trans e) i r
      | exn t2 =>
        rw [q] at h
        exact fun v H' e i r => h v H' (ex.trans e) i r
      | bad =>
        rw [q] at h
        exact h
    · rw [if_neg hn] at h
      exact h.elim
  · rw [if_neg h2] at h
    exact h.elim
theorem n_heard {x : Str} (hg : Γ x = none) (h : tP K W C (ev Γ (.heard x as)) σ H Q) : False := by
  obtain ⟨T, M, ρ, t, x, h⟩ := h
  unfold ev appH at h
  rw [hg] at h
  exact h

/-! ### own lists read -/
theorem own_at {i : Nat} {ds : List D} (x : XOk K T M σ ρ t H) (h : ρ[i]? = some (some (.own ds))) : ∃ p xs, σ[i]? = some (some (.ref p)) ∧ H p = some (.lst xs) ∧ DatL K T M H xs ds := by
  obtain ⟨v, h1, p, xs, rfl, _, _, h2, h3⟩ := x.val i _ h
  exact ⟨p, xs, h1, h2, h3⟩
theorem r_olen {i : Nat} (h : tP K W C (ev Γ (.olen i)) σ H Q) : tCB (fun xs H Q => ∃ p ys, xs = [.ref p] ∧ (SqL K H p ys ∨ SqT K H p ys) ∧ Q (.int ys.length) H) (tCons (tVar i) tNil) σ H Q := by
  obtain ⟨T, M, ρ, t, x, h⟩ := h
  unfold ev at h
  split at h
  · rename_i ds hd
    obtain ⟨p, xs, h1, h2, h3⟩ := own_at x hd
    refine ⟨_, h1, p, xs, rfl, .inl (.inl (.inl h2)), ?_⟩
    rw [DatL.length h3]
    exact h.done (Ext.refl _ _) x.tin (Dat.int _)
  · exact h.elim
theorem r_otup {i : Nat} (h : tP K W C (ev Γ (.otup i)) σ H Q) :
    tCB (fun xs H Q => ∃ p ys, xs = [.ref p] ∧ ((SqL K H p ys ∧ ∀ l, H l = none → Q (.ref l) (upd H l (.tup ys))) ∨ (SqT K H p ys ∧ Q (.ref p) H))) (tCons (tVar i) tNil) σ H Q := by
  obtain ⟨T, M, ρ, t, x, h⟩ := h
  unfold ev at h
  split at h
  · rename_i ds hd
    obtain ⟨p, xs, h1, h2, h3⟩ := own_at x hd
    exact ⟨_, h1, p, xs, rfl, .inl ⟨.inl (.inl h2), fun l hl => h.done (Ext.new hl) x.tin (Dat.newT hl x.dom h3)⟩⟩
  · exact h.elim
theorem r_oix {i : Nat} (h : tP K W C (ev Γ (.oix i a)) σ H Q) : tOp (rIxL K) (tVar i) (tP K W C (ev Γ a)) σ H Q := by
  obtain ⟨T, M, ρ, t, x, h⟩ := h
  unfold ev at h
  split at h
  · rename_i ds hd
    obtain ⟨p, xs, h1, h2, h3⟩ := own_at x hd
    refine ⟨.ref p, h1, T, M, ρ, t, x, h.asI fun j t1 H1 e1 i1 h => ?_⟩
    obtain ⟨r, hr, h⟩ := ofO_done h
    have x1 := x.keep e1 i1
    obtain ⟨p', xs', h1', h2', h3'⟩ := own_at x1 hd
    rw [h1] at h1'
    cases h1'
    obtain ⟨v, g1, g2⟩ := DatL.at h3' hr
    exact ⟨p, xs', j, v, rfl, rfl, .inl (.inl h2'), g1, h.done (Ext.refl _ _) i1 g2⟩
  · exact h.elim

/-! ### what is walked -/
theorem r_iseq {R : It → Hp → Prop} (h : tI K W C (evI Γ (.seq a)) σ H R) : tP K W C (ev Γ a) σ H fun x H1 => DI K iSeq [x] H1 R := by
  obtain ⟨T, M, ρ, t, x, h⟩ := h
  unfold evI at h
  refine ⟨T, M, ρ, t, x, h.bind fun d t1 v H1 e1 i1 r1 h => ?_⟩
  obtain ⟨r, hr, h⟩ := ofO_done h
  refine ⟨T, M, [d], r, (x.keep e1 i1).dom, .one r1, ?_, fun J hJ => h.done (Ext.refl _ _) i1 hJ⟩
  cases d <;> first | exact hr | cases hr
theorem r_ifn {p : PI_} {R : It → Hp → Prop} (h : tI K W C (evI Γ (.fn p as)) σ H R) : tA K W C (evs Γ as) σ H fun xs H1 => DI K p.f xs H1 R := by
  obtain ⟨T, M, ρ, t, x, h⟩ := h
  unfold evI at h
  refine ⟨T, M, ρ, t, x, h.bind fun d t1 v H1 e1 i1 r1 h => ?_⟩
  obtain ⟨r, hr, h⟩ := ofO_done h
  exact ⟨T, M, d, r, (x.keep e1 i1).dom, r1, hr, fun J hJ => h.done (Ext.refl _ _) i1 hJ⟩

/-! ### targets -/
/-- the environment carried over to a later heap, with other addresses left out -/
theorem XOk.move {N : List Addr} {t' : Tin} {H' : Hp} (x : XOk K T M σ ρ t H) (e : Ext T.toList H H') (h : TinOk T t' H') (n1 : ∀ a ∈ M, a ∈ N) (n2 : ∀ a ∈ N, H a ≠ none → a ∈ M) (n3 : ∀ a ∈ N, H' a ≠ none) : XOk K T N σ ρ t' H' := by
  have eM : Ext M H H' := e.toM x.tinM
  refine ⟨x.len, fun i en q => ?_, h, fun a ha => n1 a (x.tinM a ha), n3⟩
  obtain ⟨v, h1, h2⟩ := x.val i en q
  refine ⟨v, h1, ?_⟩
  have z := h2.keep e x.tinM
  cases en with
  | dat d => exact (Dat.mask n2 (show Dat K T M H v d from h2)).keep (eM.mono n1)
  | own ds =>
    obtain ⟨p, xs, rfl, hp, ht, hl, hd⟩ := h2
    refine ⟨p, xs, rfl, n1 p hp, ht, e p _ (fun z => ht ?_) hl, (DatL.mask n2 hd).keep (eM.mono n1)⟩
    cases T with
    | none => cases z
    | some a =>
      have : p = a := by simpa using z
      rw [this]
theorem wipeE_len (ρ : Env') : ∀ vs : List Nat, (wipeE ρ vs).length = ρ.length
  | [] => rfl
  | v :: vs => by
    unfold wipeE
    rw [List.length_set, wipeE_len ρ vs]
theorem wipeE_some {i : Nat} {en : En} : ∀ {vs : List Nat}, (wipeE ρ vs)[i]? = some (some en) → ρ[i]? = some (some en) ∧ i ∉ vs
  | [], h => ⟨h, by simp⟩
  | v :: vs, h => by
    unfold wipeE at h
    by_cases hi : v = i
    · subst hi
      by_cases hv : v < (wipeE ρ vs).length
      · rw [List.getElem?_set_self hv] at h; cases h
      · rw [List.getElem?_eq_none (by simpa using hv)] at h; cases h
    · rw [List.getElem?_set_ne hi] at h
      obtain ⟨h1, h2⟩ := wipeE_some h
      exact ⟨h1, by simp only [List.mem_cons, not_or]; exact ⟨fun e => hi e.symm, h2⟩⟩
theorem wipe_keep {i : Nat} {v : V} : ∀ {vs : List Nat}, σ[i]? = some (some v) → i ∉ vs → (wipe σ vs)[i]? = some (some v)
  | [], h, _ => h
  | w :: vs, h, n => by
    unfold wipe
    have n' : i ≠ w ∧ i ∉ vs := by simpa using n
    rw [List.getElem?_set_ne (Ne.symm n'.1)]
    exact wipe_keep h n'.2
theorem XOk.wipe (x : XOk K T M σ ρ t H) (vs : List Nat) : XOk K T M (L2.wipe σ vs) (wipeE ρ vs) t H := by
  refine ⟨by rw [wipeE_len, wipe_length]; exact x.len, fun i en q => ?_, x.tin, x.tinM, x.dom⟩
  obtain ⟨q1, q2⟩ := wipeE_some q
  obtain ⟨v, h1, h2⟩ := x.val i en q1
  exact ⟨v, wipe_keep h1 q2, h2⟩
theorem XOk.set {i : Nat} {v : V} {d : D} (x : XOk K T M σ ρ t H) (h : Dat K T M H v d) : XOk K T M (σ.set i (some v)) (ρ.set i (some (.dat d))) t H := by
  refine ⟨by rw [List.length_set, List.length_set]; exact x.len, fun j en q => ?_, x.tin, x.tinM, x.dom⟩
  by_cases hj : j = i
  · subst hj
    by_cases hl : j < ρ.length
    · rw [List.getElem?_set_self hl] at q
      cases q
      exact ⟨v, by rw [List.getElem?_set_self (by rw [← x.len]; exact hl)], h⟩
    · rw [List.getElem?_eq_none (by rw [List.length_set]; omega)] at q
      cases q
  · rw [List.getElem?_set_ne (Ne.symm hj)] at q
    rw [List.getElem?_set_ne (Ne.symm hj)]
    exact x.val j en q
/-- several names, one after another -/
def gNames : List Nat → TGs
  | [] => gNil
  | i :: is => gCons (gName i) (gNames is)
/-- a tuple or a list is unpacked -/
def gSeq (K : PySem.W.Frag) (n : Nat) (t : TGs) : TG := fun v σ H Q => gTup K n t v σ H Q ∨ gUnl K n t v σ H Q
theorem pg_seq {X : Cx} {pos : Pos} {es : List Expr} {k : Nat} {t : TGs} {n : Nat} (hc : X.calm = true) (h : PGs X es t)
    (hn : (assignEach es X.env).length = n) (hst : (assignEach es X.env).findIdx? (·.1) = none) : PG X (.Tuple es k pos) (gSeq X.K n t) :=
  ⟨fun pins s σ H v u Q I r hw => hw.elim (fun hw => (pg_tup hc h hn hst).run pins s σ H v u Q I r hw) fun hw => (pg_unl hc h hn hst).run pins s σ H v u Q I r hw⟩
def gT (K : PySem.W.Frag) (single : Bool) (tg : List Nat) : TG := match single, tg with
  | true, [i] => gName i
  | _, tg => gSeq K tg.length (gNames tg)
/-- own lists stay where they are -/
def Upd (σ : L2.St) (ρ : Env') (σ' : L2.St) (ρ' : Env') : Prop := ∀ (i : Nat) (ds : List D), ρ'[i]? = some (some (En.own ds)) → ρ[i]? = some (some (En.own ds)) ∧ σ'[i]? = σ[i]?
theorem Upd.refl (σ : L2.St) (ρ : Env') : Upd σ ρ σ ρ := fun _ _ h => ⟨h, rfl⟩
theorem Upd.trans {σ σ1 σ2 : L2.St} {ρ ρ1 ρ2 : Env'} (a : Upd σ ρ σ1 ρ1) (b : Upd σ1 ρ1 σ2 ρ2) : Upd σ ρ σ2 ρ2 := fun i ds h => by
  obtain ⟨h1, h2⟩ := b i ds h
  obtain ⟨h3, h4⟩ := a i ds h1
  exact ⟨h3, h2.trans h4⟩
theorem Upd.set (σ : L2.St) (ρ : Env') (i : Nat) (v : V) (d : D) : Upd σ ρ (σ.set i (some v)) (ρ.set i (some (.dat d))) := fun j ds h => by
  by_cases hj : j = i
  · subst hj
    by_cases hl : j < ρ.length
    · rw [List.getElem?_set_self hl] at h
      cases h
    · rw [List.getElem?_eq_none (by rw [List.length_set]; omega)] at h
      cases h
  · rw [List.getElem?_set_ne (Ne.symm hj)] at h
    rw [List.getElem?_set_ne (Ne.symm hj)]
    exact ⟨h, rfl⟩
theorem gNames_of {Q : L2.St → Hp → Prop} : ∀ {tg : List Nat} {vs : List V} {ds : List D} {σ : L2.St} {ρ ρ' : Env'}, DatL K T M H vs ds → XOk K T M σ ρ t H → setAll tg ds ρ = some ρ' →
    (∀ σ', XOk K T M σ' ρ' t H → Upd σ ρ σ' ρ' → (∀ ws : List Nat, (∀ i ∈ tg, i ∈ ws) → L2.wipe σ' ws = L2.wipe σ ws) → Q σ' H) → gNames tg vs σ H Q
  | [], _, _, σ, ρ, ρ', hd, x, he, q => by
    cases hd with
    | nil =>
      cases he
      exact ⟨rfl, q σ x (Upd.refl _ _) fun _ _ => rfl⟩
    | cons _ _ => cases he
  | i :: is, _, _, σ, ρ, ρ', hd, x, he, q => by
    cases hd with
    | nil => cases he
    | cons h1 h2 =>
      refine ⟨_, _, rfl, gNames_of h2 (x.set h1) he fun σ' x' up w => q σ' x' ((Upd.set _ _ _ _ _).trans up) fun ws hw => ?_⟩
      rw [w ws fun j hj => hw j (List.mem_cons_of_mem _ hj)]
      exact wipe_set (hw i List.mem_cons_self)
where
  wipe_set {i : Nat} {v : Option V} {σ : L2.St} : ∀ {ws : List Nat}, i ∈ ws → L2.wipe (σ.set i v) ws = L2.wipe σ ws
    | [], h => by cases h
    | w :: ws, h => by
      unfold L2.wipe
      by_cases hi : i ∈ ws
      · rw [wipe_set hi]
      · have e : i = w := by
          rcases List.mem_cons.mp h with e | e
          · exact e
          · exact absurd e hi
        subst e
        rw [wipe_out hi, List.set_set]
  wipe_out {i : Nat} {v : Option V} {σ : L2.St} : ∀ {ws : List Nat}, i ∉ ws → L2.wipe (σ.set i v) ws = (L2.wipe σ ws).set i v
    | [], _ => rfl
    | w :: ws, h => by
      unfold L2.wipe
      have h' : i ≠ w ∧ i ∉ ws := by simpa using h
      rw [wipe_out h'.2, List.set_comm _ _ h'.1]
theorem gT_of {single : Bool} {tg : List Nat} {v : V} {d : D} {ρ' : Env'} {Q : L2.St → Hp → Prop} (h : Dat K T M H v d) (x : XOk K T M σ ρ t H) (he : bindT single tg d ρ = some ρ')
    (q : ∀ σ', XOk K T M σ' ρ' t H → Upd σ ρ σ' ρ' → (∀ ws : List Nat, (∀ i ∈ tg, i ∈ ws) → L2.wipe σ' ws = L2.wipe σ ws) → Q σ' H) : gT K single tg v σ H Q := by
  cases single with
  | true =>
    match tg, he, q with
    | [i], he, q =>
      have he : some (ρ.set i (some (.dat d))) = some ρ' := he
      cases he
      exact q _ (x.set h) (Upd.set _ _ _ _ _) fun ws hw => gNames_of.wipe_set (hw _ List.mem_cons_self)
    | [], he, _ => cases d <;> cases he
    | _ :: _ :: _, he, _ => cases d <;> cases he
  | false =>
    cases d with
    | tup ds =>
      have he : setAll tg ds ρ = some ρ' := he
      obtain ⟨a, xs, rfl, ha, hd⟩ := h.sqt
      have hl : xs.length = tg.length := by
        rw [hd.length]
        exact setAll_len he
      exact .inl ⟨a, xs, rfl, ha, hl, gNames_of hd x he q⟩
    | lst ds =>
      have he : setAll tg ds ρ = some ρ' := he
      obtain ⟨a, xs, rfl, _, _, ha, hd⟩ := h.sql
      have hl : xs.length = tg.length := by
        rw [hd.length]
        exact setAll_len he
      exact .inr ⟨a, xs, rfl, ha, hl, gNames_of hd x he q⟩
    | _ => cases he
where
  setAll_len : ∀ {tg : List Nat} {ds : List D} {ρ ρ' : Env'}, setAll tg ds ρ = some ρ' → ds.length = tg.length
    | [], [], _, _, _ => rfl
    | _ :: _, _ :: _, _, _, h => congrArg (· + 1) (setAll_len h)
    | [], _ :: _, _, _, h => by cases h
    | _ :: _, [], _, _, h => by cases h

theorem wipe_wipe {vs : List Nat} : ∀ {ws : List Nat}, (∀ i ∈ ws, i ∈ vs) → L2.wipe (L2.wipe σ ws) vs = L2.wipe σ vs
  | [], _ => rfl
  | w :: ws, h => by
    show L2.wipe ((L2.wipe σ ws).set w none) vs = _
    rw [gNames_of.wipe_set (h w List.mem_cons_self)]
    exact wipe_wipe fun i hi => h i (List.mem_cons_of_mem _ hi)

/-! ### comprehensions -/
/-- the loop of a comprehension: f what a turn is worth, step what its reading asks -/
theorem lc_of {single : Bool} {tg vs : List Nat} {f : D → Tin → Res (Option D)} {tt : TT} {te : TE} {items : List D} {J : It} {W' : WX} {t1 : Tin} (x : XOk K T M σ ρ t1 H) (hJ : IData K T M H items J) (hz : items.length ≤ cap) (ht : ∀ i ∈ tg, i ∈ vs)
    (step : ∀ (d : D) (σ2 : L2.St) (ρ2 : Env') (t2 : Tin) (N : List Addr) (H2 : Hp) (R : Bool → L2.St → Option V → Hp → Prop), XOk K T N σ2 ρ2 t2 H2 → bindT single tg d (wipeE ρ vs) = some ρ2 → f d t2 ≠ .bad → (∀ t', f d t2 ≠ .exn t') →
      (∀ r t', f d t2 = .ok (some r) t' → ∀ v H4, Ext T.toList H2 H4 → TinOk T t' H4 → Dat K T N H4 v r → R true σ2 (some v) H4) → (∀ t', f d t2 = .ok none t' → ∀ H4, Ext T.toList H2 H4 → TinOk T t' H4 → R false σ2 none H4) →
      tt σ2 H2 fun b H3 => if b = true then te σ2 H3 fun y H4 => R true σ2 (some y) H4 else R false σ2 none H3)
    (hb : ∀ d t2, (∃ r, f d t2 = r ∧ r ≠ .bad) → ∃ ρ2, bindT single tg d (wipeE ρ vs) = some ρ2)
    {Q : VK} (h : Post W C T σ H (RelD K T M) ((compA f items [] t1).bind fun rs t => .ok (.lst rs) t) Q) :
    ∀ D', H D' = none → ∃ Wi : Nat → Nat → Hp → Prop, (∃ m, Wi 0 m (upd H D' (.lst []))) ∧ ∀ i m H, Wi i m H →
      (J.stop i H ∧ Q (.ref D') H) ∨ (J.go i H ∧ ∃ Nx : Hp → Prop, (∀ H', Nx H' → ∃ m', m' < m ∧ Wi (i + 1) m' H') ∧ ∀ x H', J.yld i H x H' → gT K single tg x (L2.wipe σ vs) H' fun σ2 H2 => L2.wipe σ2 vs = L2.wipe σ vs ∧ tt σ2 H2 fun b H3 =>
        if b = true then te σ2 H3 fun y H4 => ∃ acc, H4 D' = some (.lst acc) ∧ acc.length < sizeLine ∧ Nx (upd H4 D' (.lst (acc ++ [y]))) else Nx H3) := by
  intro D' hD
  have hDM : D' ∉ M := fun z => x.dom D' z hD
  have hDT : D' ∉ T.toList := fun z => by
    cases T with
    | none => cases z
    | some a =>
      have : D' = a := by simpa using z
      exact hDM (x.tinM D' (by rw [this]))
  have hDT' : T ≠ some D' := fun z => hDT (by rw [z]; simp)
  have n2 : ∀ a ∈ D' :: M, H a ≠ none → a ∈ M := fun a ha hn => by
    rcases List.mem_cons.mp ha with e | e
    · exact absurd (by rw [e]; exact hD) hn
    · exact e
  refine lc_it hJ (fun i H' => ∃ acc rs t', H' D' = some (.lst acc) ∧ rs.length ≤ i ∧ Ext T.toList H H' ∧ TinOk T t' H' ∧ (∀ a ∈ M, H' a ≠ none) ∧ DatL K T (D' :: M) H' acc rs ∧ compA f (items.drop i) rs t' = compA f items [] t1)
    ⟨[], [], t1, upd_same, Nat.zero_le _, Ext.new hD, x.tin.keep (Ext.new hD), (x.keep (Ext.new hD) (x.tin.keep (Ext.new hD))).dom, .nil, by rw [List.drop_zero]⟩ (fun i H' hi p => ?_) (fun i xv H' H'' hi p y => ?_) fun H' p => ?_
  · obtain ⟨acc, rs, t', _, _, e, _, hd, _⟩ := p
    exact ⟨e.toM x.tinM, hd⟩
  · obtain ⟨acc, rs, t', hacc, hrs, e, ti, hd, hdl, hc⟩ := p
    obtain ⟨e2, d, hdi, hy⟩ := y
    have hdrop : items.drop i = d :: items.drop (i + 1) := by
      obtain ⟨hlt, hget⟩ := List.getElem?_eq_some_iff.mp hdi
      rw [← hget]
      exact (List.getElem_cons_drop hlt).symm
    have n3 : ∀ a ∈ D' :: M, H' a ≠ none := fun a ha => by
      rcases List.mem_cons.mp ha with z | z
      · rw [z, hacc]; intro q; cases q
      · exact hd a z
    have hdat : Dat K T (D' :: M) H'' xv d := hy (D' :: M) (fun a ha => List.mem_cons_of_mem _ ha) n2 n3
    have ee : Ext T.toList H H'' := e.trans e2.any
    have ti2 : TinOk T t' H'' := ti.keep e2
    have n3' : ∀ a ∈ D' :: M, H'' a ≠ none := fun a ha z => by
      cases q : H' a with
      | none => exact n3 a ha q
      | some o =>
        rw [e2 a o (by simp) q] at z
        cases z
    have x2 : XOk K T (D' :: M) (L2.wipe σ vs) (wipeE ρ vs) t' H'' := (x.wipe vs).move ee ti2 (fun a ha => List.mem_cons_of_mem _ ha) n2 n3'
    have hacc2 : H'' D' = some (.lst acc) := e2 D' _ (by simp) hacc
    have hdl2 : DatL K T (D' :: M) H'' acc rs := hdl.keep e2.any
    rw [hdrop] at hc
    have hgood : compA f items [] t1 ≠ .bad := fun z => by
      rw [z] at h
      exact h
    have hnoexn : ∀ t', f d t' ≠ .bad ∨ True := fun _ => .inr trivial
    have hf : f d t' ≠ .bad ∧ ∀ t'', f d t' ≠ .exn t'' := by
      refine ⟨fun z => hgood ?_, fun t'' z => hgood ?_⟩
      · rw [← hc]
        unfold compA
        rw [z]
      · rw [← hc]
        unfold compA
        rw [z]
    obtain ⟨ρ2, hρ2⟩ := hb d t' ⟨_, rfl, hf.1⟩
    refine gT_of hdat x2 hρ2 fun σ2 x3 _ hw => ⟨(hw vs ht).trans (wipe_wipe fun _ z => z), ?_⟩
    have fin := step d σ2 ρ2 t' (D' :: M) H'' (fun b σ3 o H4 => match b, o with
      | true, some y => ∃ acc, H4 D' = some (.lst acc) ∧ acc.length < sizeLine ∧ (fun H' => ∃ acc rs t', H' D' = some (.lst acc) ∧ rs.length ≤ i + 1 ∧ Ext T.toList H H' ∧ TinOk T t' H' ∧ (∀ a ∈ M, H' a ≠ none) ∧ DatL K T (D' :: M) H' acc rs ∧ compA f (items.drop (i + 1)) rs t' = compA f items [] t1) (upd H4 D' (.lst (acc ++ [y])))
      | false, none => (fun H' => ∃ acc rs t', H' D' = some (.lst acc) ∧ rs.length ≤ i + 1 ∧ Ext T.toList H H' ∧ TinOk T t' H' ∧ (∀ a ∈ M, H' a ≠ none) ∧ DatL K T (D' :: M) H' acc rs ∧ compA f (items.drop (i + 1)) rs t' = compA f items [] t1) H4
      | _, _ => False) x3 hρ2 hf.1 hf.2 (fun r t4 hr v H4 e4 i4 d4 => ?_) (fun t4 hr H4 e4 i4 => ?_)
    · exact fin
    · have a4 : H4 D' = some (.lst acc) := e4 D' _ hDT hacc2
      refine ⟨acc, a4, ?_, acc ++ [v], rs ++ [r], t4, upd_same, ?_, ?_, ?_, ?_, ?_, ?_⟩
      · rw [hdl.length]
        exact cap_lt (by omega)
      · rw [List.length_append, List.length_singleton]
        omega
      · intro a o na ha
        have hne : a ≠ D' := ne_of_none ha hD
        rw [upd_ne hne]
        exact e4 a o na (ee a o na ha)
      · intro a ha
        have hne : a ≠ D' := fun z => hDT' (by rw [ha, z])
        rw [upd_ne hne]
        exact i4 a ha
      · intro a ha
        have hne : a ≠ D' := fun z => hDM (by rw [← z]; exact ha)
        rw [upd_ne hne]
        exact (x3.keep e4 i4).dom a (List.mem_cons_of_mem _ ha)
      · have eD : Ext (D' :: M) H4 (upd H4 D' (.lst (acc ++ [v]))) := fun a o na ha => by
          rw [upd_ne (fun z => na (by rw [z]; exact List.mem_cons_self))]
          exact ha
        have e4' : Ext (D' :: M) H'' H4 := e4.toM fun a ha => List.mem_cons_of_mem _ (x.tinM a ha)
        exact ((hdl2.keep e4').keep eD).append (.one (Dat.keep eD d4))
      · rw [← hc]
        conv => rhs; unfold compA
        rw [hr]
    · have a4 : H4 D' = some (.lst acc) := e4 D' _ hDT hacc2
      have e4' : Ext (D' :: M) H'' H4 := e4.toM fun a ha => List.mem_cons_of_mem _ (x.tinM a ha)
      refine ⟨acc, rs, t4, a4, by omega, ee.trans e4, i4, fun a ha => (x3.keep e4 i4).dom a (List.mem_cons_of_mem _ ha), hdl2.keep e4', ?_⟩
      rw [← hc]
      conv => rhs; unfold compA
      rw [hr]
  · obtain ⟨acc, rs, t', hacc, _, e, ti, hd, hdl, hc⟩ := p
    rw [List.drop_length] at hc
    have hc : Res.ok rs t' = compA f items [] t1 := hc
    rw [← hc] at h
    exact h (.ref D') H' e ti (.lst hDM hacc (hdl.mask fun a ha _ => List.mem_cons_of_mem _ ha))
theorem r_comp {it : Itx} {single : Bool} {tg vs : List Nat} {W0 : WX} (ht : ∀ i ∈ tg, i ∈ vs) (h : tP K W C (ev Γ (.comp it single tg vs a)) σ H Q) :
    tLc (tI K W C (evI Γ it)) (gT K single tg) tYes (tP K W0 C (ev Γ a)) vs σ H Q := by
  obtain ⟨T, M, ρ, t, x, h⟩ := h
  unfold ev at h
  refine ⟨T, M, ρ, t, x, h.bind fun items t1 J H1 e1 i1 r1 h => ?_⟩
  obtain ⟨hz, h⟩ := capL_done h
  have x1 := x.keep e1 i1
  refine lc_of (W' := W0) x1 r1 hz ht (fun d σ2 ρ2 t2 N H2 R x2 hb h1 h2 h3 h4 => ?_) (fun d t2 ⟨r, e, hr⟩ => ?_) h
  · show tP K W0 C (ev Γ a) σ2 H2 fun y H4 => R true σ2 (some y) H4
    refine ⟨T, N, ρ2, t2, x2, ?_⟩
    have hb' : bindT single tg d (wipeE ρ vs) = some ρ2 := hb
    simp only [hb', ofO, Res.bind] at h1 h2 h3
    cases q : ev Γ a ρ2 t2 with
    | ok r t' =>
      rw [q] at h3
      exact fun v H' e i rel => h3 r t' rfl v H' e i rel
    | exn t' =>
      rw [q] at h2
      exact absurd rfl (h2 t')
    | bad =>
      rw [q] at h1
      exact absurd rfl h1
  · cases q : bindT single tg d (wipeE ρ vs) with
    | some ρ2 => exact ⟨ρ2, rfl⟩
    | none =>
      refine absurd ?_ hr
      rw [← e, q]
      rfl
theorem r_compIf {it : Itx} {single : Bool} {tg vs : List Nat} {W0 : WX} (ht : ∀ i ∈ tg, i ∈ vs) (h : tP K W C (ev Γ (.compIf it single tg vs c a)) σ H Q) :
    tLc (tI K W C (evI Γ it)) (gT K single tg) (tT K W0 C (ev Γ c)) (tP K W0 C (ev Γ a)) vs σ H Q := by
  obtain ⟨T, M, ρ, t, x, h⟩ := h
  unfold ev at h
  refine ⟨T, M, ρ, t, x, h.bind fun items t1 J H1 e1 i1 r1 h => ?_⟩
  obtain ⟨hz, h⟩ := capL_done h
  have x1 := x.keep e1 i1
  refine lc_of (W' := W0) x1 r1 hz ht (fun d σ2 ρ2 t2 N H2 R x2 hb h1 h2 h3 h4 => ?_) (fun d t2 ⟨r, e, hr⟩ => ?_) h
  · have hb' : bindT single tg d (wipeE ρ vs) = some ρ2 := hb
    simp only [hb', ofO, Res.bind] at h1 h2 h3 h4
    refine ⟨T, N, ρ2, t2, x2, ?_⟩
    cases q : asB (ev Γ c ρ2 t2) with
    | ok b t3 =>
      rw [q] at h1 h2 h3 h4
      intro b' H3 e3 i3 rel
      obtain rfl : b' = b := rel
      cases b' with
      | true =>
        show tP K W0 C (ev Γ a) σ2 H3 fun y H4 => R true σ2 (some y) H4
        refine ⟨T, N, ρ2, t3, x2.keep e3 i3, ?_⟩
        cases q2 : ev Γ a ρ2 t3 with
        | ok r t' =>
          simp only [q2] at h3
          exact fun v H' e i rel => h3 r t' rfl v H' (e3.trans e) i rel
        | exn t' =>
          simp only [q2] at h2
          exact absurd rfl (h2 t')
        | bad =>
          simp only [q2] at h1
          exact absurd rfl h1
      | false => exact h4 t3 rfl H3 e3 i3
    | exn t' =>
      rw [q] at h2
      exact absurd rfl (h2 t')
    | bad =>
      rw [q] at h1
      exact absurd rfl h1
  · cases q : bindT single tg d (wipeE ρ vs) with
    | some ρ2 => exact ⟨ρ2, rfl⟩
    | none =>
      refine absurd ?_ hr
      rw [← e, q]
      rfl
end
end Dry
set_option Elab.async false
set_option linter.all false
set_option maxRecDepth 100000
set_option maxHeartbeats 2000000
/-! DryG: from the text to meanings, certified. -/
namespace Dry
open PySem PySem.Spec PyProof.Rows L2

def blts : List Str := ["isinstance", "list", "tuple", "int", "bool", "str", "all", "any", "sum", "range", "zip", "enumerate", "sorted", "dict", "len", "set", "abs", "min"]
def heardNames : List Str := ["told_message", "odd_row", "telling", "two_keys", "some_key"]
/-- what is known of a place of the text: the names by slot, the scope, the own lists' slots, the names that may be stored -/
structure Ct where
  N : List Str
  sc : Scope
  ms : List Nat
  st : Str → Bool
structure Good (Γ : Gam) (c : Ct) (W : WX) (C : Addr) (X : Cx) : Prop where
  hN : X.N = c.N
  nd : X.N.Nodup
  hsc : X.env.scope = c.sc
  calm : X.calm = true
  free : ∀ x ∈ blts, X.mg x = none
  tab : ∀ x n g, Γ x = some (n, g) → ∃ k f fd ps, FnOk X.prog X.w X.K X.mg X.base (L2.CX X.prog X.w) k f fd ps (spD X.K C n g) ∧ Room k X.A ∧ X.mg x = some (.ref f) ∧ PySem.W.keepIn X.K (.ref f) = true ∧ Binds X.K fd ps []
  hrd : ∀ x n g, Γ x = some (n, g) → x ∈ heardNames → ∃ k f fd ps a, X.mg x = some (.ref a) ∧ FnOk X.prog X.w X.K X.mg X.base (L2.CX X.prog X.w) k f fd ps (spH X.K a n g) ∧ Room k X.A ∧ X.mg "_law_heard" = some (.ref f) ∧ PySem.W.keepIn X.K (.ref f) = true ∧ Binds X.K fd ps []
  primes : ∃ p, X.mg "PRIMES" = some (.ref p) ∧ KTup X.K p [.int 2, .int 3, .int 5]
  units : X.A.units + 65 < cLine
  takes : Takes X W
  st : ∀ x, c.st x = true → Loc X.env.scope x ∧ (X.fn x = true ∨ X.env.scope.names.lookup x = some .local)

abbrev CE (Γ : Gam) (c : Ct) (e : Expr) := { ir : Ex // ∀ W C X, Good Γ c W C X → PE X e (tP X.K W C (ev Γ ir)) }
abbrev CT (Γ : Gam) (c : Ct) (e : Expr) := { ir : Ex // ∀ W C X, Good Γ c W C X → PT X e (tT X.K W C (ev Γ ir)) }
abbrev CA (Γ : Gam) (c : Ct) (es : List Expr) := { ir : Exs // ∀ W C X, Good Γ c W C X → PA X es (tA X.K W C (evs Γ ir)) }
abbrev CI (Γ : Gam) (c : Ct) (tg e : Expr) := { ir : Itx // ∀ W C X, Good Γ c W C X → PI X tg e (tI X.K W C (evI Γ ir)) }

def isCompE : Expr → Bool
  | .ListComp .. => true
  | .SetComp .. => true
  | .DictComp .. => true
  | _ => false
def notStar : Expr → Bool
  | .Starred .. => false
  | _ => true
theorem star_no {e : Expr} {es : List Expr} {env : Env} (h : notStar e = true) : starEach (e :: es) env = (false, eval e env) :: starEach es env := by
  cases e <;> first | rfl | cases h
theorem star_all {pos : Pos} {env : Env} : ∀ {es : List Expr}, es.all notStar = true → (backTo pos (starEach es env)).any (·.1) = false
  | [], _ => rfl
  | e :: es, h => by
    have h' := Bool.and_eq_true_iff.mp (show (notStar e && es.all notStar) = true from h)
    rw [star_no h'.1]
    show (false || (backTo pos (starEach es env)).any (·.1)) = false
    rw [star_all h'.2] <;> rfl
section
variable {Γ : Gam} {c : Ct} {W : WX} {C : Addr} {X : Cx}
theorem Good.vis (G : Good Γ c W C X) {x : Str} (h : c.sc.names.lookup x = some .local ∨ c.sc.names.lookup x = some .cell ∨ c.sc.names.lookup x = some .free) : Vis X.env.scope x := by
  rw [G.hsc]
  exact h
theorem Good.gl (G : Good Γ c W C X) {x : Str} (h : c.sc.names.lookup x = some .globalImplicit) : Gl X x := by
  show X.env.scope.names.lookup x = some .globalImplicit
  rw [G.hsc]
  exact h
end
abbrev vis (sc : Scope) (x : Str) : Prop := sc.names.lookup x = some .local ∨ sc.names.lookup x = some .cell ∨ sc.names.lookup x = some .free
abbrev gls (sc : Scope) (x : Str) : Prop := sc.names.lookup x = some .globalImplicit

/-! ### names, constants -/
def cName (Γ : Gam) (c : Ct) (x : Str) (pos : Pos) : Option (CE Γ c (.Name x pos)) :=
  if h : c.N[c.N.idxOf x]? = some x ∧ vis c.sc x ∧ c.ms.contains (c.N.idxOf x) = false ∧ (x == ("__debug__" : Str)) = false ∧ (x == ("__classdict__" : Str)) = false then
    some ⟨.var (c.N.idxOf x), fun W C X G => PE.imp (pe_var (by rw [G.hN]; exact h.1) (G.vis h.2.1) h.2.2.2.1 h.2.2.2.2) fun _ _ _ => r_var⟩
  else if h : x = "PRIMES" ∧ gls c.sc x then
    some ⟨.primes, fun W C X G => ⟨fun pins s σ H Q I q => by
      obtain ⟨p, h1, h2⟩ := G.primes
      exact (pe_glob (v := .ref p) (G.gl h.2) (by rw [h.1]; exact h1) rfl (by rw [h.1]; decide)).run pins s σ H Q I (r_primes h2 q)⟩⟩
  else none
def cConst (Γ : Gam) (c : Ct) : (k : Const) → (j : Nat) → (pos : Pos) → Option (CE Γ c (.Constant k j pos))
  | .int i, j, pos => some ⟨.int i, fun W C X G => PE.imp pe_int fun _ _ _ => r_int⟩
  | .bool i, j, pos => some ⟨.bl i, fun W C X G => PE.imp pe_bl fun _ _ _ => r_bl⟩
  | .none, j, pos => some ⟨.non, fun W C X G => PE.imp pe_non fun _ _ _ => r_non⟩
  | .str i, j, pos => some ⟨.str i, fun W C X G => PE.imp pe_str fun _ _ _ => r_str⟩
  | _, _, _ => none

/-! ### operators -/
abbrev UnitsOk (X : Cx) : Prop := X.A.units + 65 < cLine
def binR : (op : Operator) → Option { p : P2 // ∀ X : Cx, UnitsOk X → OpR X (binaryOp op) (DR2 X.K p.f) }
  | .Add => some ⟨.add, fun X _ => d_add⟩
  | .Sub => some ⟨.sub, fun X _ => d_sub⟩
  | .Mult => some ⟨.mul, fun X _ => p_mul⟩
  | .FloorDiv => some ⟨.div, fun X _ => d_div⟩
  | .Mod => some ⟨.mod, fun X _ => d_mod⟩
  | .Pow => some ⟨.pow, fun X _ => d_pow⟩
  | _ => none
def cmpR : (op : CmpOp) → Option { p : P2 // ∀ X : Cx, UnitsOk X → OpR X (compareOp op) (DR2 X.K p.f) }
  | .Eq => some ⟨.eq, fun X u => d_eq (by have : X.A.units + 65 < cLine := u; omega)⟩
  | .NotEq => some ⟨.ne, fun X u => d_ne (by have : X.A.units + 65 < cLine := u; omega)⟩
  | .Lt => some ⟨.lt, fun X u => d_cmp op_lt⟩
  | .LtE => some ⟨.le, fun X u => d_cmp op_le⟩
  | .Gt => some ⟨.gt, fun X u => d_cmp op_gt⟩
  | .GtE => some ⟨.ge, fun X u => d_cmp op_ge⟩
  | .In => some ⟨.in_, fun X u => d_in u⟩
  | .NotIn => some ⟨.notin, fun X u => d_notin u⟩
  | _ => none

/-! ### built-in functions -/
structure BltR (x : Str) where
  p : P1
  mem : x ∈ blts
  n1 : x ≠ "__name__"
  n2 : (x == ("__debug__" : Str)) = false
  ok : ∀ X : Cx, X.calm = true → UnitsOk X → (∃ id, bootBuiltins x = some (.builtin id) ∧ CallR X (.builtin id) (DC X.K p.f)) ∨ ∃ T, bootBuiltins x = some (.type T) ∧ CallR X (.type T) (DC X.K p.f)
def bltR (x : Str) (n : Nat) : Option (BltR x) :=
  if h : x = "len" ∧ n = 1 then some ⟨.len, by rw [h.1]; decide +kernel, by rw [h.1]; decide +kernel, by rw [h.1]; decide +kernel, fun X _ _ => .inl ⟨"len", by rw [h.1]; decide +kernel, d_len⟩⟩
  else if h : x = "tuple" ∧ n = 1 then some ⟨.tuple, by rw [h.1]; decide +kernel, by rw [h.1]; decide +kernel, by rw [h.1]; decide +kernel, fun X _ _ => .inr ⟨"tuple", by rw [h.1]; decide +kernel, d_tuple⟩⟩
  else if h : x = "list" ∧ n = 1 then some ⟨.list, by rw [h.1]; decide +kernel, by rw [h.1]; decide +kernel, by rw [h.1]; decide +kernel, fun X _ _ => .inr ⟨"list", by rw [h.1]; decide +kernel, d_list⟩⟩
  else if h : x = "sum" ∧ n = 1 then some ⟨.sum, by rw [h.1]; decide +kernel, by rw [h.1]; decide +kernel, by rw [h.1]; decide +kernel, fun X hc _ => .inl ⟨"sum", by rw [h.1]; decide +kernel, d_sum hc⟩⟩
  else if h : x = "sum" ∧ n = 2 then some ⟨.sum2, by rw [h.1]; decide +kernel, by rw [h.1]; decide +kernel, by rw [h.1]; decide +kernel, fun X hc _ => .inl ⟨"sum", by rw [h.1]; decide +kernel, p_sum2 hc⟩⟩
  else if h : x = "all" ∧ n = 1 then some ⟨.all, by rw [h.1]; decide +kernel, by rw [h.1]; decide +kernel, by rw [h.1]; decide +kernel, fun X hc _ => .inl ⟨"all", by rw [h.1]; decide +kernel, d_all hc⟩⟩
  else if h : x = "any" ∧ n = 1 then some ⟨.any, by rw [h.1]; decide +kernel, by rw [h.1]; decide +kernel, by rw [h.1]; decide +kernel, fun X hc _ => .inl ⟨"any", by rw [h.1]; decide +kernel, p_any hc⟩⟩
  else if h : x = "abs" ∧ n = 1 then some ⟨.abs, by rw [h.1]; decide +kernel, by rw [h.1]; decide +kernel, by rw [h.1]; decide +kernel, fun X hc _ => .inl ⟨"abs", by rw [h.1]; decide +kernel, d_abs⟩⟩
  else if h : x = "int" ∧ n = 1 then some ⟨.int, by rw [h.1]; decide +kernel, by rw [h.1]; decide +kernel, by rw [h.1]; decide +kernel, fun X hc _ => .inr ⟨"int", by rw [h.1]; decide +kernel, d_int⟩⟩
  else if h : x = "min" ∧ n = 2 then some ⟨.min2, by rw [h.1]; decide +kernel, by rw [h.1]; decide +kernel, by rw [h.1]; decide +kernel, fun X hc _ => .inl ⟨"min", by rw [h.1]; decide +kernel, d_min2 hc⟩⟩
  else if h : x = "sorted" ∧ n = 1 then some ⟨.sorted, by rw [h.1]; decide +kernel, by rw [h.1]; decide +kernel, by rw [h.1]; decide +kernel, fun X hc hu => .inl ⟨"sorted", by rw [h.1]; decide +kernel, p_sorted hc hu⟩⟩
  else none
def tyN (x : Str) : Option { t : Ty // x ∈ blts ∧ x ≠ "__name__" ∧ (x == ("__debug__" : Str)) = false ∧ bootBuiltins x = some (.type t.nm) } :=
  if h : x = "int" then some ⟨.int, by subst h; exact ⟨by decide +kernel, by decide +kernel, by decide +kernel, by decide +kernel⟩⟩
  else if h : x = "bool" then some ⟨.bool, by subst h; exact ⟨by decide +kernel, by decide +kernel, by decide +kernel, by decide +kernel⟩⟩
  else if h : x = "str" then some ⟨.str, by subst h; exact ⟨by decide +kernel, by decide +kernel, by decide +kernel, by decide +kernel⟩⟩
  else if h : x = "list" then some ⟨.list, by subst h; exact ⟨by decide +kernel, by decide +kernel, by decide +kernel, by decide +kernel⟩⟩
  else if h : x = "tuple" then some ⟨.tuple, by subst h; exact ⟨by decide +kernel, by decide +kernel, by decide +kernel, by decide +kernel⟩⟩
  else none
/-- a class's name as a value -/
theorem pe_ty {Γ : Gam} {c : Ct} {W : WX} {C : Addr} {X : Cx} (G : Good Γ c W C X) {x : Str} {n : String} {pos : Pos} (hg : gls c.sc x) (h1 : x ∈ blts) (h2 : x ≠ "__name__") (h3 : (x == ("__debug__" : Str)) = false) (h4 : bootBuiltins x = some (.type n)) :
    PE X (.Name x pos) (tC (.ty n)) := pe_bltn (G.gl hg) (G.free x h1) h4 rfl h2 h3
end Dry
set_option Elab.async false
set_option linter.all false
set_option maxRecDepth 100000
set_option maxHeartbeats 4000000
/-! DryH: the certified reading of an expression. -/
namespace Dry
open PySem PySem.Spec PyProof.Rows L2

/-! ### a comprehension's block -/
def ownOf (N : List Str) (scope : Scope) : List (Str × Nat) := scope.names.filterMap fun y => if (y.2 == .local || y.2 == .cell) && N.contains y.1 then some (y.1, N.idxOf y.1) else none
def Ct.sub (c : Ct) (scope : Scope) : Ct where
  N := c.N
  sc := relS scope c.sc
  ms := c.ms.filter fun i => !((ownOf c.N scope).map (·.2)).contains i
  st := fun x => decide ((relS scope c.sc).names.lookup x = some .local) || (decide ((relS scope c.sc).names.lookup x = some .cell) && (scope.names.lookup x == some .cell))
theorem Good.blk {Γ : Gam} {c : Ct} {W : WX} {C : Addr} {X : Cx} (G : Good Γ c W C X) (scope : Scope) (s : Shared) (H : Hp) (Cc : Addr) (cl : List (Str × Addr)) (fp : List Addr) :
    Good Γ (c.sub scope) (fun _ _ _ _ => False) C (X.blk s H scope (compEnvC scope cl Cc X.env) fp) := by
  have hsc : (compEnvC scope cl Cc X.env).scope = relS scope c.sc := by
    rw [← G.hsc]
    rfl
  refine ⟨G.hN, G.nd, hsc, G.calm, G.free, G.tab, G.hrd, G.primes, G.units, takes0, fun x hx => ?_⟩
  have hx : (decide ((relS scope c.sc).names.lookup x = some .local) || (decide ((relS scope c.sc).names.lookup x = some .cell) && (scope.names.lookup x == some .cell))) = true := hx
  rcases Bool.or_eq_true_iff.mp hx with h | h
  · have h := of_decide_eq_true h
    refine ⟨.inl ?_, .inr ?_⟩
    · show (compEnvC scope cl Cc X.env).scope.names.lookup x = some .local
      rw [hsc]
      exact h
    · show (compEnvC scope cl Cc X.env).scope.names.lookup x = some .local
      rw [hsc]
      exact h
  · obtain ⟨h1, h2⟩ := Bool.and_eq_true_iff.mp h
    have h1 := of_decide_eq_true h1
    refine ⟨.inr ?_, .inl h2⟩
    show (compEnvC scope cl Cc X.env).scope.names.lookup x = some .cell
    rw [hsc]
    exact h1

/-! ### targets -/
abbrev CG (Γ : Gam) (c : Ct) (tg : Expr) := { p : Bool × List Nat // ∀ W C X, Good Γ c W C X → PG X tg (gT X.K p.1 p.2) }
abbrev CGs (Γ : Gam) (c : Ct) (es : List Expr) := { p : List Nat // p.length = es.length ∧ es.all notStar = true ∧ ∀ W C X, Good Γ c W C X → PGs X es (gNames p) }
theorem asg_no {e : Expr} {es : List Expr} {env : Env} (h : notStar e = true) : assignEach (e :: es) env = (false, assign e env) :: assignEach es env := by
  cases e <;> first | rfl | cases h
theorem asg_len {env : Env} : ∀ {es : List Expr}, es.all notStar = true → (assignEach es env).length = es.length ∧ (assignEach es env).findIdx? (·.1) = none
  | [], _ => ⟨rfl, rfl⟩
  | e :: es, h => by
    have h' := Bool.and_eq_true_iff.mp (show (notStar e && es.all notStar) = true from h)
    obtain ⟨h1, h2⟩ := asg_len (env := env) h'.2
    rw [asg_no h'.1]
    refine ⟨by rw [List.length_cons, List.length_cons, h1], ?_⟩
    rw [List.findIdx?_cons, h2]
    rfl
def stOk (c : Ct) (x : Str) : Prop := c.N[c.N.idxOf x]? = some x ∧ c.st x = true
instance (c : Ct) (x : Str) : Decidable (stOk c x) := by
  unfold stOk
  infer_instance
theorem pg_st {Γ : Gam} {c : Ct} {W : WX} {C : Addr} {X : Cx} (G : Good Γ c W C X) {x : Str} {pos : Pos} (h : stOk c x) : PG X (.Name x pos) (gName (c.N.idxOf x)) :=
  pg_name G.nd (by rw [G.hN]; exact h.1) (G.st x h.2).1 (G.st x h.2).2
def cGs (Γ : Gam) (c : Ct) : (es : List Expr) → Option (CGs Γ c es)
  | [] => some ⟨[], rfl, rfl, fun W C X G => pgs_nil⟩
  | .Name x pos :: es =>
    if h : stOk c x then do
      let r ← cGs Γ c es
      some ⟨c.N.idxOf x :: r.1, by rw [List.length_cons, List.length_cons, r.2.1], by rw [List.all_cons, r.2.2.1]; rfl, fun W C X G => pgs_cons (pg_st G h) (r.2.2.2 W C X G) rfl⟩
    else none
  | _ => none
def cG (Γ : Gam) (c : Ct) : (tg : Expr) → Option (CG Γ c tg)
  | .Name x pos => if h : stOk c x then some ⟨(true, [c.N.idxOf x]), fun W C X G => pg_st G h⟩ else none
  | .Tuple es k pos => do
    let r ← cGs Γ c es
    some ⟨(false, r.1), fun W C X G => by
      obtain ⟨h1, h2⟩ := asg_len (env := X.env) r.2.2.1
      have q := pg_seq (k := k) (pos := pos) (n := r.1.length) G.calm (r.2.2.2 W C X G) (by rw [h1, r.2.1]) h2
      exact q⟩
  | _ => none

theorem set_no {iter : Expr} {env : Env} (h : (match iter with
    | .Set _ _ _ => false
    | _ => true) = true) (x : Value) : foldedSetIterable iter env x = pure x := by
  cases iter <;> first | rfl | cases h
theorem ix_plain {b : Expr} (h : (match b with
    | .Slice _ _ _ _ => false
    | _ => true) = true) : PlainIx b := by
  intro o i
  cases b <;> first | rfl | cases h
theorem base_name {x m : Str} {p : Pos} {env : Env} : attributeBase (.Name x p) m env (eval (.Name x p) env) = eval (.Name x p) env := by rfl
theorem few_args {es : List Expr} {cpos : Pos} {env : Env} (h : es.all notStar = true) (hl : es.length < 20) : ((backTo cpos (starEach es env)).all (fun x => !x.1) && (backToKw cpos (keywordEach [] env)).all (fun x => x.1.isSome)
      && decide (es.length + ([] : List Keyword).length + (if ([] : List Keyword).isEmpty then 0 else 1) < 30)) = true := by
  have h1 := star_all (pos := cpos) (env := env) h
  have h2 : (backTo cpos (starEach es env)).all (fun x => !x.1) = true := by
    rw [List.all_eq_true]
    intro y hy
    cases q : y.1 with
    | false => rfl
    | true =>
      have : (backTo cpos (starEach es env)).any (·.1) = true := List.any_eq_true.mpr ⟨y, hy, q⟩
      rw [h1] at this
      cases this
  rw [h2]
  have h3 : decide (es.length + ([] : List Keyword).length + (if ([] : List Keyword).isEmpty then 0 else 1) < 30) = true := by
    apply decide_eq_true
    show es.length + 0 + 0 < 30
    omega
  rw [h3]
  rfl
theorem trees2 {e f : Expr} {cpos : Pos} {env : Env} (h1 : notStar e = true) (h2 : notStar f = true) : backTo cpos (starEach [e, f] env) = [(false, eval e env), (false, eval f env)] := by
  rw [star_no h1, star_no h2] <;> rfl


/-! ### calls -/
theorem boot_dict' : bootBuiltins "dict" = some (.type "dict") := by decide +kernel
theorem blt_free {Γ : Gam} {c : Ct} {W : WX} {C : Addr} {X : Cx} (G : Good Γ c W C X) {x : Str} (h : x ∈ blts) : X.mg x = none := G.free x h
/-- f(), f a def -/
theorem pe_callS0 {X : Cx} {CX : CXT} {k : Nat} {f : Addr} {fd : FuncData} {ps : List Str} {sp : Sp} {E : L2.St → XK} {x : Str} {p pos : Pos} (F : FnOk X.prog X.w X.K X.mg X.base CX k f fd ps sp) (hr : Room k X.A) (hg : Gl X x) (hm : X.mg x = some (.ref f))
    (hk : PySem.W.keepIn X.K (.ref f) = true) (hb : Binds X.K fd ps []) (hx : ∀ σ, PassesAt CX X σ (E σ)) (hdb : (x == ("__debug__" : Str)) = false := by decide) : PE X (.Call (.Name x p) [] [] pos) (tCallS sp E tNil) := by
  refine ⟨fun pins s σ H Q I h => ?_⟩
  refine wpAny_Call_Name_kw (ld_glob I hg hm ?_ hdb)
  exact PySem.W.callWith_K0 I.kIn hk (run_fnS (us := []) F hr hb (hx σ) I .nil h)
def cF (Γ : Gam) (c : Ct) (x : Str) (p pos : Pos) {e : Expr} {es : List Expr} (a' : CA Γ c (e :: es)) (h : (e :: es).all notStar = true) : Option (CE Γ c (.Call (.Name x p) (e :: es) [] pos)) :=
  if g : gls c.sc x then
    match bltR x (es.length + 1) with
    | some b => some ⟨.fn b.p a'.1, fun W C X G => ⟨fun pins s σ H Q I q => by
      have h' := Bool.and_eq_true_iff.mp (show (notStar e && es.all notStar) = true from h)
      rcases b.ok X G.calm G.units with ⟨id, h1, h2⟩ | ⟨T, h1, h2⟩
      · exact (pe_callB h2 (G.gl g) (G.free x b.mem) h1 (a'.2 W C X G) b.n1 b.n2 (star_no h'.1) (star_all h'.2)).run pins s σ H Q I (r_fn q)
      · exact (pe_callTy h2 (G.gl g) (G.free x b.mem) h1 (a'.2 W C X G) b.n1 b.n2 (star_no h'.1) (star_all h'.2)).run pins s σ H Q I (r_fn q)⟩⟩
    | none =>
      if hd : blts.contains x = false ∧ (x == ("__debug__" : Str)) = false then
        some ⟨.call x a'.1, fun W C X G => ⟨fun pins s σ H Q I q => by
          have h' := Bool.and_eq_true_iff.mp (show (notStar e && es.all notStar) = true from h)
          cases hΓ : Γ x with
          | none => exact (n_call hΓ q).elim
          | some ng =>
            obtain ⟨m, gg⟩ := ng
            obtain ⟨k, f, fd, ps, F, hr, hmg, hkp, hb⟩ := G.tab x m gg hΓ
            exact (pe_callS F hr (G.gl g) hmg hkp hb (fun σ => passAt G.takes σ) (a'.2 W C X G) hd.2 (star_no h'.1) (star_all h'.2)).run pins s σ H Q I (r_call hΓ q)⟩⟩
      else none
  else none
def cF0 (Γ : Gam) (c : Ct) (x : Str) (p pos : Pos) : Option (CE Γ c (.Call (.Name x p) [] [] pos)) :=
  if g : gls c.sc x ∧ blts.contains x = false ∧ (x == ("__debug__" : Str)) = false then
    some ⟨.call x .nil, fun W C X G => ⟨fun pins s σ H Q I q => by
      cases hΓ : Γ x with
      | none => exact (n_call hΓ q).elim
      | some ng =>
        obtain ⟨m, gg⟩ := ng
        obtain ⟨k, f, fd, ps, F, hr, hmg, hkp, hb⟩ := G.tab x m gg hΓ
        have q' : tCallS (spD X.K C m gg) (WE W) tNil σ H Q := r_nil (r_call hΓ q)
        exact (pe_callS0 F hr (G.gl g.1) hmg hkp hb (fun σ => passAt G.takes σ) g.2.2).run pins s σ H Q I q'⟩⟩
  else none
def isSl : Expr → Bool
  | .Slice _ _ _ _ => true
  | _ => false
theorem ix_plain' {b : Expr} (h : isSl b = false) : PlainIx b := by
  intro o i
  cases b <;> first | rfl | cases h
def isSet : Expr → Bool
  | .Set _ _ _ => true
  | _ => false
theorem set_no' {iter : Expr} {env : Env} (h : isSet iter = false) (x : Value) : foldedSetIterable iter env x = pure x := by
  cases iter <;> first | rfl | cases h
/-- a name that is an own list's -/
abbrev ownN (c : Ct) (x : Str) : Prop := c.N[c.N.idxOf x]? = some x ∧ vis c.sc x ∧ c.ms.contains (c.N.idxOf x) = true ∧ (x == ("__debug__" : Str)) = false ∧ (x == ("__classdict__" : Str)) = false
theorem pe_own {Γ : Gam} {c : Ct} {W : WX} {C : Addr} {X : Cx} (G : Good Γ c W C X) {x : Str} {p : Pos} (g : ownN c x) : PE X (.Name x p) (tVar (c.N.idxOf x)) := pe_var (by rw [G.hN]; exact g.1) (G.vis g.2.1) g.2.2.2.1 g.2.2.2.2
theorem PW.imp {X : Cx} {e : Expr} {t t' : TT} (h : PW X e t) (k : ∀ σ H Q, t' σ H Q → t σ H Q) : PW X e t' := ⟨fun wh pins s σ H Q I q => h.run wh pins s σ H Q I (k _ _ _ q)⟩
def cOwn (c : Ct) : (e : Expr) → Option { i : Nat // ∀ Γ W C X, Good Γ c W C X → PE X e (tVar i) }
  | .Name x p => if g : ownN c x then some ⟨c.N.idxOf x, fun Γ W C X G => pe_own G g⟩ else none
  | _ => none
def pmR (m : Str) : Option { p : PM // ∃ id, Slot "list" m id ∧ typeOf (.builtin id) = pure (.type "method_descriptor") ∧ ∀ X : Cx, UnitsOk X → MtR X id (DM X.K p.f) } :=
  if h : m = "count" then some ⟨.count, by subst h; exact ⟨_, PySem.F.slot_list_count, PySem.F.type_list_count, fun X u => p_count u⟩⟩
  else if h : m = "index" then some ⟨.index, by subst h; exact ⟨_, PySem.F.slot_list_index, PySem.F.type_list_index, fun X u => p_index u⟩⟩
  else none

mutual
def cE (Γ : Gam) : Nat → (c : Ct) → (e : Expr) → Option (CE Γ c e)
  | 0, _, _ => none
  | n + 1, c, .Name x pos => cName Γ c x pos
  | n + 1, c, .Constant k j pos => cConst Γ c k j pos
  | n + 1, c, .BinOp a op b pos => do
    let o ← binR op
    let a' ← cE Γ n c a
    let b' ← cE Γ n c b
    some ⟨.two o.1 a'.1 b'.1, fun W C X G => PE.imp (pe_op (o.2 X G.units) (a'.2 W C X G) (b'.2 W C X G)) fun _ _ _ => r_two⟩
  | n + 1, c, .Compare a [.Is] [.Constant .none j p] pos => do
    let a' ← cE Γ n c a
    some ⟨.isN a'.1, fun W C X G => PE.imp (pe_cmpR op_isN (a'.2 W C X G) pe_non (nomark _)) fun _ _ _ => r_isN⟩
  | n + 1, c, .Compare a [.IsNot] [.Constant .none j p] pos => do
    let a' ← cE Γ n c a
    some ⟨.notN a'.1, fun W C X G => PE.imp (pe_cmpR op_notN (a'.2 W C X G) pe_non (nomark _)) fun _ _ _ => r_notN⟩
  | n + 1, c, .Compare a [.LtE, .Lt] [b, d] pos =>
    if h : lastMarks [.LtE, .Lt] [b, d] = false then do
      let a' ← cE Γ n c a
      let b' ← cE Γ n c b
      let d' ← cE Γ n c d
      some ⟨.chain a'.1 b'.1 d'.1, fun W C X G => PE.imp (pe_chain op_le op_lt (a'.2 W C X G) (b'.2 W C X G) (d'.2 W C X G) h) fun _ _ _ => r_chain⟩
    else none
  | n + 1, c, .Compare a [op] [b] pos =>
    if h : behindInMarks op b = false then do
      let o ← cmpR op
      let a' ← cE Γ n c a
      let b' ← cE Γ n c b
      some ⟨.two o.1 a'.1 b'.1, fun W C X G => PE.imp (pe_cmpR (o.2 X G.units) (a'.2 W C X G) (b'.2 W C X G) h) fun _ _ _ => r_two⟩
    else none
  | n + 1, c, .BoolOp op [a] pos => do
    let a' ← cE Γ n c a
    some ⟨a'.1, fun W C X G => pe_one (a'.2 W C X G)⟩
  | n + 1, c, .BoolOp .And (a :: b :: r) pos => do
    let a' ← cE Γ n c a
    let b' ← cE Γ n c (.BoolOp .And (b :: r) pos)
    some ⟨.and_ a'.1 b'.1, fun W C X G => PE.imp (pe_and (a'.2 W C X G) (b'.2 W C X G)) fun _ _ _ => r_andV⟩
  | n + 1, c, .BoolOp .Or (a :: b :: r) pos => do
    let a' ← cE Γ n c a
    let b' ← cE Γ n c (.BoolOp .Or (b :: r) pos)
    some ⟨.or_ a'.1 b'.1, fun W C X G => PE.imp (pe_or (a'.2 W C X G) (b'.2 W C X G)) fun _ _ _ => r_orV⟩
  | n + 1, c, .UnaryOp .Not a pos => do
    let a' ← cE Γ n c a
    some ⟨.not_ a'.1, fun W C X G => PE.imp (pe_not (a'.2 W C X G)) fun _ _ _ => r_notV⟩
  | n + 1, c, .IfExp k a b pos => do
    let k' ← cT Γ n c k
    let a' ← cE Γ n c a
    let b' ← cE Γ n c b
    some ⟨.ite k'.1 a'.1 b'.1, fun W C X G => PE.imp (pe_ifExp (k'.2 W C X G) (a'.2 W C X G) (b'.2 W C X G)) fun _ _ _ => r_ite⟩
  | n + 1, c, .Tuple es k pos => do
    let a ← cA Γ n c es
    some ⟨.tup a.1, fun W C X G => PE.imp (pe_tup (a.2 W C X G)) fun _ _ _ => r_tup⟩
  | n + 1, c, .List es pos => do
    let a ← cA Γ n c es
    some ⟨.lst a.1, fun W C X G => PE.imp (pe_lst (a.2 W C X G)) fun _ _ _ => r_lst⟩
  | n + 1, c, .Subscript e (.Slice none (some b) none p2) pos => do
    let e' ← cE Γ n c e
    let b' ← cE Γ n c b
    some ⟨.cutTo e'.1 b'.1, fun W C X G => PE.imp (pe_slice d_sl (e'.2 W C X G) po_none (po_some (b'.2 W C X G))) fun _ _ _ => r_cutTo⟩
  | n + 1, c, .Subscript e (.Slice (some a) none none p2) pos => do
    let e' ← cE Γ n c e
    let a' ← cE Γ n c a
    some ⟨.cutFrom e'.1 a'.1, fun W C X G => PE.imp (pe_slice d_sl (e'.2 W C X G) (po_some (a'.2 W C X G)) po_none) fun _ _ _ => r_cutFrom⟩
  | n + 1, c, .Subscript e (.Slice (some a) (some b) none p2) pos => do
    let e' ← cE Γ n c e
    let a' ← cE Γ n c a
    let b' ← cE Γ n c b
    some ⟨.cutAB e'.1 a'.1 b'.1, fun W C X G => PE.imp (pe_slice d_sl (e'.2 W C X G) (po_some (a'.2 W C X G)) (po_some (b'.2 W C X G))) fun _ _ _ => r_cutAB⟩
  | n + 1, c, .Subscript e (.Slice none none (some (.UnaryOp .USub (.Constant (.int i) k p1) p2)) p3) pos =>
    if h : i = 1 then do
      let e' ← cE Γ n c e
      some ⟨.rev e'.1, fun W C X G => by
        subst h
        exact PE.imp (p_rev (e'.2 W C X G)) fun _ _ _ => r_rev⟩
    else none
  | n + 1, c, .Subscript a b pos =>
    if h : isSl b = false then
      match cOwn c a with
      | some ⟨i, g⟩ => do
        let b' ← cE Γ n c b
        some ⟨.oix i b'.1, fun W C X G => PE.imp (pe_ix ix_list (g Γ W C X G) (b'.2 W C X G) (ix_plain' h)) fun _ _ _ => r_oix⟩
      | none => do
        let a' ← cE Γ n c a
        let b' ← cE Γ n c b
        some ⟨.ix a'.1 b'.1, fun W C X G => PE.imp (pe_ix d_ixT (a'.2 W C X G) (b'.2 W C X G) (ix_plain' h)) fun _ _ _ => r_ix⟩
    else none
  | n + 1, c, .ListComp elt [⟨tg, iter, [], asy⟩] scope pos =>
    if h : asy = 0 ∧ blkC c.N c.sc scope (ownOf c.N scope) = true ∧ isSet iter = false then do
      let i' ← cI Γ n c tg iter
      let g' ← cG Γ (c.sub scope) tg
      let e' ← cE Γ n (c.sub scope) elt
      if ht : ∀ i ∈ g'.1.2, i ∈ (ownOf c.N scope).map (·.2) then
        some ⟨.comp i'.1 g'.1.1 g'.1.2 ((ownOf c.N scope).map (·.2)) e'.1, fun W C X G => by
          obtain ⟨rfl, hb, hs⟩ := h
          exact PE.imp (pe_lc G.calm G.nd (i'.2 W C X G) (by rw [G.hN, G.hsc]; exact blkOk_by hb) (fun s H Cc cl fp => g'.2 _ _ _ (G.blk scope s H Cc cl fp)) (fun s H Cc cl fp => pts_nil)
            (fun s H Cc cl fp => e'.2 _ _ _ (G.blk scope s H Cc cl fp)) (set_no' hs)) fun _ _ _ q => r_comp ht q⟩
      else none
    else none
  | n + 1, c, .ListComp elt [⟨tg, iter, [k], asy⟩] scope pos =>
    if h : asy = 0 ∧ blkC c.N c.sc scope (ownOf c.N scope) = true ∧ isSet iter = false then do
      let i' ← cI Γ n c tg iter
      let g' ← cG Γ (c.sub scope) tg
      let k' ← cT Γ n (c.sub scope) k
      let e' ← cE Γ n (c.sub scope) elt
      if ht : ∀ i ∈ g'.1.2, i ∈ (ownOf c.N scope).map (·.2) then
        some ⟨.compIf i'.1 g'.1.1 g'.1.2 ((ownOf c.N scope).map (·.2)) k'.1 e'.1, fun W C X G => by
          obtain ⟨rfl, hb, hs⟩ := h
          exact PE.imp (pe_lc G.calm G.nd (i'.2 W C X G) (by rw [G.hN, G.hsc]; exact blkOk_by hb) (fun s H Cc cl fp => g'.2 _ _ _ (G.blk scope s H Cc cl fp)) (fun s H Cc cl fp => pts_one (k'.2 _ _ _ (G.blk scope s H Cc cl fp)))
            (fun s H Cc cl fp => e'.2 _ _ _ (G.blk scope s H Cc cl fp)) (set_no' hs)) fun _ _ _ q => r_compIf ht q⟩
      else none
    else none
  | n + 1, c, .Call (.Name x p) [] [] pos => cF0 Γ c x p pos
  | n + 1, c, .Call (.Name x p) [.Call (.Name y p2) [a] [] q2] [] q1 =>
    if h : x = "len" ∧ y = "set" ∧ gls c.sc x ∧ gls c.sc y ∧ notStar a = true then do
      let a' ← cE Γ n c a
      some ⟨.lenset a'.1, fun W C X G => by
        obtain ⟨rfl, rfl, g1, g2, hs⟩ := h
        exact PE.imp (p_lenset G.calm G.units (G.gl g1) (G.free _ (by decide +kernel)) (G.gl g2) (G.free _ (by decide +kernel)) (a'.2 W C X G) (star_no hs)) fun _ _ _ => r_lenset⟩
    else do
      let a' ← cA Γ n c [.Call (.Name y p2) [a] [] q2]
      cF Γ c x p q1 a' rfl
  | n + 1, c, .Call (.Name x p) [.Call (.Name y p2) [a, b] [] q2] [] q1 =>
    if h : x = "dict" ∧ y = "zip" ∧ gls c.sc x ∧ gls c.sc y ∧ notStar a = true ∧ notStar b = true then do
      let a' ← cE Γ n c a
      let b' ← cE Γ n c b
      some ⟨.dzip a'.1 b'.1, fun W C X G => by
        obtain ⟨rfl, rfl, g1, g2, hs, hs2⟩ := h
        exact PE.imp (p_dictzip G.calm G.units (G.gl g1) (G.free _ (by decide +kernel)) (G.gl g2) (G.free _ (by decide +kernel)) (pa_cons (a'.2 W C X G) (pa_cons (b'.2 W C X G) pa_nil (star_no hs2)) (star_no hs)) (star_no hs) (star_all (es := [b]) (by rw [List.all_cons, hs2]; rfl))) fun _ _ _ => r_dzip⟩
    else do
      let a' ← cA Γ n c [.Call (.Name y p2) [a, b] [] q2]
      cF Γ c x p q1 a' rfl
  | n + 1, c, .Call (.Name x p) [.Name y p2] [] pos =>
    if g : x = "len" ∧ gls c.sc x ∧ ownN c y then
      some ⟨.olen (c.N.idxOf y), fun W C X G => by
        obtain ⟨rfl, gl, g⟩ := g
        exact PE.imp (pe_callB call_len_seq (G.gl gl) (G.free _ (by decide +kernel)) PySem.boot_len (pa_cons (pe_own G g) pa_nil)) fun _ _ _ => r_olen⟩
    else if g : x = "tuple" ∧ gls c.sc x ∧ ownN c y then
      some ⟨.otup (c.N.idxOf y), fun W C X G => by
        obtain ⟨rfl, gl, g⟩ := g
        exact PE.imp (pe_callTy call_tuple_of (G.gl gl) (G.free _ (by decide +kernel)) PyProof.Rows.boot_tuple (pa_cons (pe_own G g) pa_nil)) fun _ _ _ => r_otup⟩
    else do
      let a' ← cA Γ n c [.Name y p2]
      cF Γ c x p pos a' rfl
  | n + 1, c, .Call (.Name x p) [.Name f p2, .Tuple es k p3] [] pos =>
    if h : x = "_law_heard" ∧ gls c.sc x ∧ gls c.sc f ∧ f ∈ heardNames ∧ (f == ("__debug__" : Str)) = false then do
      let a' ← cA Γ n c es
      some ⟨.heard f a'.1, fun W C X G => ⟨fun pins s σ H Q I q => by
        obtain ⟨rfl, g1, g2, hm, hd⟩ := h
        cases hΓ : Γ f with
        | none => exact (n_heard hΓ q).elim
        | some ng =>
          obtain ⟨m, g⟩ := ng
          obtain ⟨k, fh, fd, ps, fa, hfa, F, hr, hmg, hkp, hb⟩ := G.hrd f m g hΓ hm
          exact (pe_callS F hr (G.gl g1) hmg hkp hb (fun σ => passAt G.takes σ) (pa_cons (pe_glob (v := .ref fa) (G.gl g2) hfa rfl hd) (pa_cons (pe_tup (a'.2 W C X G)) pa_nil)) (by decide +kernel)).run pins s σ H Q I (r_heard hΓ q)⟩⟩
    else
      match es with
      | [.Name t1 q1, .Name t2 q2] =>
        if h : x = "isinstance" ∧ gls c.sc x ∧ gls c.sc t1 ∧ gls c.sc t2 then do
          let t1' ← tyN t1
          let t2' ← tyN t2
          let e' ← cE Γ n c (.Name f p2)
          some ⟨.isI [t1'.1, t2'.1] e'.1, fun W C X G => by
            obtain ⟨rfl, g1, g2, g3⟩ := h
            exact PE.imp (pe_callB call_isiT (G.gl g1) (G.free _ (by decide +kernel)) PyProof.Rows.boot_isinstance (pa_cons (e'.2 W C X G) (pa_cons (pe_tup (pa_cons (pe_ty G g2 t1'.2.1 t1'.2.2.1 t1'.2.2.2.1 t1'.2.2.2.2) (pa_cons (pe_ty G g3 t2'.2.1 t2'.2.2.1 t2'.2.2.2.1 t2'.2.2.2.2) pa_nil))) pa_nil)))
              fun _ _ _ => r_isI2⟩
        else do
          let t' ← cA Γ n c [.Name f p2, .Tuple [.Name t1 q1, .Name t2 q2] k p3]
          cF Γ c x p pos t' rfl
      | es => do
        let t' ← cA Γ n c [.Name f p2, .Tuple es k p3]
        cF Γ c x p pos t' rfl
  | n + 1, c, .Call (.Name x p) [e, .Name ty p2] [] pos =>
    if h : x = "isinstance" ∧ gls c.sc x ∧ gls c.sc ty ∧ notStar e = true then do
      let t ← tyN ty
      let e' ← cE Γ n c e
      some ⟨.isI [t.1] e'.1, fun W C X G => by
        obtain ⟨rfl, g1, g2, hs⟩ := h
        exact PE.imp (pe_callB call_isi (G.gl g1) (G.free _ (by decide +kernel)) PyProof.Rows.boot_isinstance (pa_cons (e'.2 W C X G) (pa_cons (pe_ty G g2 t.2.1 t.2.2.1 t.2.2.2.1 t.2.2.2.2) pa_nil) (star_no hs)) (by decide +kernel) (by decide +kernel) (star_no hs)) fun _ _ _ => r_isI1⟩
    else
      if h : [e, .Name ty p2].all notStar = true then do
        let a' ← cA Γ n c [e, .Name ty p2]
        cF Γ c x p pos a' h
      else none
  | n + 1, c, .Call (.Name x p) (e :: es) [] pos =>
    if h : (e :: es).all notStar = true then do
      let a' ← cA Γ n c (e :: es)
      cF Γ c x p pos a' h
    else none
  | n + 1, c, .Call (.Attribute (.Name o p1) m apos) [k] [] cpos =>
    if h : notStar k = true ∧ (apos.endLine == cpos.line) = true then do
      let r ← pmR m
      let o' ← cE Γ n c (.Name o p1)
      let k' ← cA Γ n c [k]
      some ⟨.mt r.1 o'.1 k'.1, fun W C X G => ⟨fun pins s σ H Q I q => by
        obtain ⟨id, h1, h2, h3⟩ := r.2
        exact (pe_bm PySem.F.plainAttrs_list h1 h2 (h3 X G.units) (o'.2 W C X G) (k'.2 W C X G) base_name (few_args (by rw [List.all_cons, h.1]; rfl) (show 1 < 20 by decide)) h.2 (star_no h.1) rfl).run pins s σ H Q I (r_mt q)⟩⟩
    else none
  | n + 1, c, .Call (.Attribute (.Name o p1) m apos) [k, z] [] cpos =>
    if h : m = "get" ∧ notStar k = true ∧ notStar z = true ∧ (apos.endLine == cpos.line) = true then do
      let o' ← cE Γ n c (.Name o p1)
      let k' ← cE Γ n c k
      let z' ← cE Γ n c z
      some ⟨.get3 o'.1 k'.1 z'.1, fun W C X G => by
        obtain ⟨rfl, hs, hs2, hl⟩ := h
        exact PE.imp (pe_dget2 (by have := G.units; omega) (o'.2 W C X G) (k'.2 W C X G) (z'.2 W C X G) ⟨base_name, few_args (by rw [List.all_cons, hs, List.all_cons, hs2]; rfl) (show 2 < 20 by decide), hl, trees2 hs hs2⟩) fun _ _ _ => r_get3⟩
    else none
  | _, _, _ => none
def cT (Γ : Gam) : Nat → (c : Ct) → (e : Expr) → Option (CT Γ c e)
  | 0, _, _ => none
  | n + 1, c, .UnaryOp .Not a pos => do
    let a' ← cT Γ n c a
    some ⟨.not_ a'.1, fun W C X G => PT.imp (pt_not (a'.2 W C X G)) fun _ _ _ => r_notT⟩
  | n + 1, c, .BoolOp op vs pos => do
    let a' ← cW Γ n c op vs pos
    some ⟨a'.1, fun W C X G => (a'.2 W C X G).pt⟩
  | n + 1, c, .Compare a [.Is] [.Constant .none j p] pos => do
    let a' ← cE Γ n c a
    some ⟨.isN a'.1, fun W C X G => PT.imp (pt_cmpR op_isN (a'.2 W C X G) pe_non (nomark _)) fun _ _ _ q => r_isN (r_test q)⟩
  | n + 1, c, .Compare a [.IsNot] [.Constant .none j p] pos => do
    let a' ← cE Γ n c a
    some ⟨.notN a'.1, fun W C X G => PT.imp (pt_cmpR op_notN (a'.2 W C X G) pe_non (nomark _)) fun _ _ _ q => r_notN (r_test q)⟩
  | n + 1, c, .Compare a [.LtE, .Lt] [b, d] pos =>
    if h : lastMarks [.LtE, .Lt] [b, d] = false then do
      let a' ← cE Γ n c a
      let b' ← cE Γ n c b
      let d' ← cE Γ n c d
      some ⟨.chain a'.1 b'.1 d'.1, fun W C X G => PT.imp (pt_chain op_le op_lt (a'.2 W C X G) (b'.2 W C X G) (d'.2 W C X G) h) fun _ _ _ q => r_chain (r_test q)⟩
    else none
  | n + 1, c, .Compare a [op] [b] pos =>
    if h : behindInMarks op b = false then do
      let o ← cmpR op
      let a' ← cE Γ n c a
      let b' ← cE Γ n c b
      some ⟨.two o.1 a'.1 b'.1, fun W C X G => PT.imp (pt_cmpR (o.2 X G.units) (a'.2 W C X G) (b'.2 W C X G) h) fun _ _ _ q => r_two (r_test q)⟩
    else none
  | n + 1, c, .Call f as ks pos => do
    let a' ← cE Γ n c (.Call f as ks pos)
    some ⟨a'.1, fun W C X G => PT.imp (pt_val (a'.2 W C X G)) fun _ _ _ q => r_test q⟩
  | n + 1, c, .Name x pos => do
    let a' ← cE Γ n c (.Name x pos)
    some ⟨a'.1, fun W C X G => PT.imp (pt_val (a'.2 W C X G)) fun _ _ _ q => r_test q⟩
  | n + 1, c, .Subscript x y pos => do
    let a' ← cE Γ n c (.Subscript x y pos)
    some ⟨a'.1, fun W C X G => PT.imp (pt_val (a'.2 W C X G)) fun _ _ _ q => r_test q⟩
  | _, _, _ => none
def cW (Γ : Gam) : (n : Nat) → (c : Ct) → (op : BoolOp) → (vs : List Expr) → (pos : Pos) → Option { ir : Ex // ∀ W C X, Good Γ c W C X → PW X (.BoolOp op vs pos) (tT X.K W C (ev Γ ir)) }
  | 0, _, _, _, _ => none
  | n + 1, c, .And, [a], pos => do
    let a' ← cT Γ n c a
    some ⟨a'.1, fun W C X G => pw_and1 (a'.2 W C X G)⟩
  | n + 1, c, .Or, [a], pos => do
    let a' ← cT Γ n c a
    some ⟨a'.1, fun W C X G => pw_or1 (a'.2 W C X G)⟩
  | n + 1, c, .And, a :: b :: r, pos => do
    let a' ← cT Γ n c a
    let b' ← cW Γ n c .And (b :: r) pos
    some ⟨.and_ a'.1 b'.1, fun W C X G => PW.imp (pw_and (a'.2 W C X G) (b'.2 W C X G)) fun _ _ _ => r_andT⟩
  | n + 1, c, .Or, a :: b :: r, pos => do
    let a' ← cT Γ n c a
    let b' ← cW Γ n c .Or (b :: r) pos
    some ⟨.or_ a'.1 b'.1, fun W C X G => PW.imp (pw_or (a'.2 W C X G) (b'.2 W C X G)) fun _ _ _ => r_orT⟩
  | _, _, _, _, _ => none
def cA (Γ : Gam) : Nat → (c : Ct) → (es : List Expr) → Option (CA Γ c es)
  | 0, _, _ => none
  | n + 1, c, [] => some ⟨.nil, fun W C X G => PA.imp pa_nil fun _ _ _ => r_nil⟩
  | n + 1, c, .Starred e p :: es => do
    let e' ← cE Γ n c e
    let a' ← cA Γ n c es
    some ⟨.star e'.1 a'.1, fun W C X G => PA.imp (StX.pa_star (e'.2 W C X G) (a'.2 W C X G)) fun _ _ _ => r_star⟩
  | n + 1, c, e :: es =>
    if h : notStar e = true then do
      let e' ← cE Γ n c e
      let a' ← cA Γ n c es
      some ⟨.cons e'.1 a'.1, fun W C X G => PA.imp (pa_cons (e'.2 W C X G) (a'.2 W C X G) (star_no h)) fun _ _ _ => r_cons⟩
    else none
def cI (Γ : Gam) : Nat → (c : Ct) → (tg e : Expr) → Option (CI Γ c tg e)
  | 0, _, _, _ => none
  | n + 1, c, tg, .Call (.Name x p) [a] [] pos =>
    if h : x = "range" ∧ gls c.sc x ∧ notStar a = true then do
      let a' ← cA Γ n c [a]
      some ⟨.fn .rng1 a'.1, fun W C X G => by
        obtain ⟨rfl, g, hs⟩ := h
        exact PI.imp (pi_rng1 (G.gl g) (G.free _ (by decide +kernel)) (a'.2 W C X G) (star_no hs)) fun _ _ _ => r_ifn⟩
    else if h : x = "enumerate" ∧ gls c.sc x ∧ notStar a = true then
      match tg with
      | .Tuple elts kk tpos => do
        let a' ← cA Γ n c [a]
        some ⟨.fn .enum a'.1, fun W C X G => by
          obtain ⟨rfl, g, hs⟩ := h
          exact PI.imp (pi_enum' (G.gl g) (G.free _ (by decide +kernel)) (a'.2 W C X G) (star_no hs)) fun _ _ _ => r_ifn⟩
      | _ => none
    else do
      let e' ← cE Γ n c (.Call (.Name x p) [a] [] pos)
      some ⟨.seq e'.1, fun W C X G => PI.imp (pi_seq (e'.2 W C X G)) fun _ _ _ => r_iseq⟩
  | n + 1, c, tg, .Call (.Name x p) [a, b] [] pos =>
    if h : x = "range" ∧ gls c.sc x ∧ notStar a = true ∧ notStar b = true then do
      let a' ← cA Γ n c [a, b]
      some ⟨.fn .rng2 a'.1, fun W C X G => by
        obtain ⟨rfl, g, hs, hs2⟩ := h
        exact PI.imp (pi_rng2 (G.gl g) (G.free _ (by decide +kernel)) (a'.2 W C X G) (by rw [star_no hs, star_no hs2]; rfl) (star_no hs2)) fun _ _ _ => r_ifn⟩
    else if h : x = "zip" ∧ gls c.sc x ∧ notStar a = true ∧ notStar b = true then
      match tg with
      | .Tuple elts kk tpos => do
        let a' ← cA Γ n c [a, b]
        some ⟨.fn .zip a'.1, fun W C X G => by
          obtain ⟨rfl, g, hs, hs2⟩ := h
          exact PI.imp (pi_zip' (G.gl g) (G.free _ (by decide +kernel)) (a'.2 W C X G) (star_no hs) (star_all (es := [b]) (by rw [List.all_cons, hs2]; rfl))) fun _ _ _ => r_ifn⟩
      | _ => none
    else do
      let e' ← cE Γ n c (.Call (.Name x p) [a, b] [] pos)
      some ⟨.seq e'.1, fun W C X G => PI.imp (pi_seq (e'.2 W C X G)) fun _ _ _ => r_iseq⟩
  | n + 1, c, tg, e => do
    let e' ← cE Γ n c e
    some ⟨.seq e'.1, fun W C X G => PI.imp (pi_seq (e'.2 W C X G)) fun _ _ _ => r_iseq⟩
end
end Dry
set_option Elab.async false
set_option linter.all false
set_option maxRecDepth 100000
set_option maxHeartbeats 2000000
/-! DryI: statements over plain data. -/
namespace Dry
open PySem PySem.Spec PyProof.Rows L2

inductive Oe where
  | dat (e : Ex) | new | list (e : Ex) | listOr (e z : Ex)
mutual
inductive Sx where
  | asg (s : Bool) (tg : List Nat) (e : Ex) | unl (tg : List Nat) (e : Ex) | par (i j : Nat) (a b : Oe) | one (i : Nat) (o : Oe)
  | app (i : Nat) (e : Ex) | ext (i : Nat) (e : Ex) | oset (i : Nat) (k e : Ex) | tset (i : Nat) (k e : Ex) | appPop (i j : Nat) (e : Ex)
  | drop (e : Ex) | ret (e : Ex) | retO (i : Nat) | ife (c : Ex) (a b : Sxs) | loop (it : Itx) (s : Bool) (tg : List Nat) (body : Sxs) | raiseP | never
inductive Sxs where
  | nil | cons (a : Sx) (b : Sxs)
end
inductive SR where
  | nx (ρ : Env') (t : Tin) | ret (d : D) (t : Tin) | exn (t : Tin) | bad
def SR.thn (r : SR) (f : Env' → Tin → SR) : SR := match r with
  | .nx ρ t => f ρ t
  | r => r
def Res.toS {α : Type} (r : Res α) (f : α → Tin → SR) : SR := match r with
  | .ok a t => f a t
  | .exn t => .exn t
  | .bad => .bad
def ofS : Option Env' → Tin → SR
  | some ρ, t => .nx ρ t
  | none, _ => .bad
def evO (Γ : Gam) : Oe → Env' → Tin → Res En
  | .dat e, ρ, t => (ev Γ e ρ t).bind fun d t => .ok (.dat d) t
  | .new, _, t => .ok (.own []) t
  | .list e, ρ, t => (ev Γ e ρ t).bind fun d t => (ofO (dItems d) t).bind fun xs t => .ok (.own xs) t
  | .listOr e z, ρ, t => (ev Γ e ρ t).bind fun d t => (ofO (dItems d) t).bind fun xs t => if xs.isEmpty = true then (ev Γ z ρ t).bind fun w t => .ok (.own [w]) t else .ok (.own xs) t
def ownAt (ρ : Env') (i : Nat) (t : Tin) : Res (List D) := match ρ[i]? with
  | some (some (.own ds)) => .ok ds t
  | _ => .bad
def setTin (t : Tin) (k : Int) (v : Int) : Option Tin := match k with
  | 0 => some (v, t.2.1, t.2.2)
  | 1 => some (t.1, v, t.2.2)
  | 2 => some (t.1, t.2.1, v)
  | _ => none
def isTin (ρ : Env') (i : Nat) (t : Tin) : Res Unit := match ρ[i]? with
  | some (some (.dat .tin)) => .ok () t
  | _ => .bad
def loopF (f : D → Env' → Tin → SR) : List D → Env' → Tin → SR
  | [], ρ, t => .nx ρ t
  | d :: ds, ρ, t => match f d ρ t with
    | .nx ρ' t' => loopF f ds ρ' t'
    | r => r
mutual
def ex (Γ : Gam) : Sx → Env' → Tin → SR
  | .asg s tg e, ρ, t => (ev Γ e ρ t).toS fun d t => ofS (bindT s tg d ρ) t
  | .unl tg e, ρ, t => (ev Γ e ρ t).toS fun d t => match d with
    | .lst ds => ofS (setAll tg ds ρ) t
    | _ => .bad
  | .par i j a b, ρ, t => (evO Γ a ρ t).toS fun u t => (evO Γ b ρ t).toS fun w t => if i = j ∨ ρ.length ≤ i ∨ ρ.length ≤ j then .bad else .nx ((ρ.set i (some u)).set j (some w)) t
  | .one i o, ρ, t => (evO Γ o ρ t).toS fun u t => if ρ.length ≤ i then .bad else .nx (ρ.set i (some u)) t
  | .app i e, ρ, t => (ownAt ρ i t).toS fun ds t => (ev Γ e ρ t).toS fun d t => if ds.length < cap then .nx (ρ.set i (some (.own (ds ++ [d])))) t else .bad
  | .ext i e, ρ, t => (ownAt ρ i t).toS fun ds t => (ev Γ e ρ t).toS fun d t => (ofO (dItems d) t).toS fun es t => if ds.length + es.length ≤ cap then .nx (ρ.set i (some (.own (ds ++ es)))) t else .bad
  | .oset i k e, ρ, t => (ev Γ e ρ t).toS fun d t => (ownAt ρ i t).toS fun ds t => (asI (ev Γ k ρ t)).toS fun k t => (ofO (ixN ds.length k) t).toS fun j t => .nx (ρ.set i (some (.own (ds.set j d)))) t
  | .tset i k e, ρ, t => (asI (ev Γ e ρ t)).toS fun v t => (isTin ρ i t).toS fun _ t => (asI (ev Γ k ρ t)).toS fun k t => (ofO (setTin t k v) t).toS fun t' _ => .nx ρ t'
  | .appPop i j e, ρ, t => (ownAt ρ i t).toS fun ds t => (ownAt ρ j t).toS fun es t => if i = j ∨ cap < es.length then .bad else (asI (ev Γ e ρ t)).toS fun k t => (ofO (ixN es.length k) t).toS fun m t =>
      (ofO es[m]? t).toS fun d t => if ds.length < cap then .nx ((ρ.set j (some (.own (es.eraseIdx m)))).set i (some (.own (ds ++ [d])))) t else .bad
  | .drop e, ρ, t => (ev Γ e ρ t).toS fun _ t => .nx ρ t
  | .ret e, ρ, t => (ev Γ e ρ t).toS fun d t => .ret d t
  | .retO i, ρ, t => (ownAt ρ i t).toS fun ds t => .ret (.lst ds) t
  | .ife c a b, ρ, t => (asB (ev Γ c ρ t)).toS fun k t => match k with
    | true => exs Γ a ρ t
    | false => exs Γ b ρ t
  | .loop it s tg body, ρ, t => (evI Γ it ρ t).toS fun items t => loopF (fun d ρ t => match bindT s tg d ρ with
    | some ρ' => exs Γ body ρ' t
    | none => .bad) items ρ t
  | .raiseP, _, t => .exn t
  | .never, _, _ => .bad
def exs (Γ : Gam) : Sxs → Env' → Tin → SR
  | .nil, ρ, t => .nx ρ t
  | .cons a b, ρ, t => (ex Γ a ρ t).thn (exs Γ b)
end

/-- the slots and the heap, from a def's entry H0 on -/
structure SOk (K : PySem.W.Frag) (T : Option Addr) (M0 : List Addr) (H0 : Hp) (Wt : List (List Addr × Hp)) (M : List Addr) (σ : L2.St) (ρ : Env') (t : Tin) (H : Hp) : Prop where
  x : XOk K T M σ ρ t H
  base : Ext T.toList H0 H
  sub : ∀ a ∈ M0, a ∈ M
  fresh : ∀ a ∈ M, H0 a ≠ none → a ∈ M0
  own : ∀ (i : Nat) (ds : List D) (p : Addr), ρ[i]? = some (some (En.own ds)) → σ[i]? = some (some (.ref p)) → H0 p = none
  inj : ∀ (i j : Nat) (ds es : List D) (p : Addr), ρ[i]? = some (some (En.own ds)) → ρ[j]? = some (some (En.own es)) → σ[i]? = some (some (.ref p)) → σ[j]? = some (some (.ref p)) → i = j
  watch : ∀ w ∈ Wt, Ext w.1 w.2 H ∧ (∀ a ∈ w.1, a ∈ M) ∧ (∀ a ∈ M, w.2 a ≠ none → a ∈ w.1) ∧ ∀ a, T = some a → a ∈ w.1
  dom0 : ∀ a ∈ M0, H0 a ≠ none
def SPost (K : PySem.W.Frag) (W : WX) (C : Addr) (T : Option Addr) (M0 : List Addr) (H0 : Hp) (Wt : List (List Addr × Hp)) (De : Ends) (r : SR) : Prop := match r with
  | .nx ρ' t' => ∀ M σ' H', SOk K T M0 H0 Wt M σ' ρ' t' H' → De.nx σ' H'
  | .ret d t' => ∀ v H', Ext T.toList H0 H' → TinOk T t' H' → Dat K T M0 H' v d → De.rt v H'
  | .exn t' => ∀ σ H', Ext T.toList H0 H' → TinOk T t' H' → W (.ref C) none σ H'
  | .bad => False
def tS (K : PySem.W.Frag) (W : WX) (C : Addr) (f : Env' → Tin → SR) : TS := fun De σ H => ∃ T M0 H0 Wt M ρ t, SOk K T M0 H0 Wt M σ ρ t H ∧ SPost K W C T M0 H0 Wt De (f ρ t)
section
variable {W : WX} {C : Addr} {T : Option Addr} {Wt : List (List Addr × Hp)} {M M0 : List Addr} {σ : L2.St} {H H0 H1 : Hp} {K : PySem.W.Frag} {α β γ δ : Type} {ρ : Env'} {t t1 : Tin} {De : Ends}
variable {Γ : Gam} {a b c e : Ex} {as : Exs}
theorem SOk.keep (s : SOk K T M0 H0 Wt M σ ρ t H) (e : Ext T.toList H H1) (h : TinOk T t1 H1) : SOk K T M0 H0 Wt M σ ρ t1 H1 := ⟨s.x.keep e h, s.base.trans e, s.sub, s.fresh, s.own, s.inj, fun w hw =>
  let ⟨w1, w2, w3, w4⟩ := s.watch w hw
  ⟨w1.trans (e.mono fun a ha => w4 a (by
    cases T with
    | none => cases ha
    | some b =>
      have : a = b := by simpa using ha
      rw [this])), w2, w3, w4⟩, s.dom0⟩
theorem SPost.bind {Rel : Hp → δ → γ → Prop} {r : Res γ} {k : γ → Tin → SR} {Q1 : δ → Hp → Prop} (s : SOk K T M0 H0 Wt M σ ρ t H) (h : SPost K W C T M0 H0 Wt De (r.toS k))
    (g : ∀ a t1 v H1, Ext T.toList H H1 → TinOk T t1 H1 → Rel H1 v a → SPost K W C T M0 H0 Wt De (k a t1) → Q1 v H1) : Post W C T σ H Rel r Q1 := by
  cases r with
  | ok a t1 => exact fun v H1 e ti rel => g a t1 v H1 e ti rel h
  | exn t1 => exact fun H1 e ti => h σ H1 (s.base.trans e) ti
  | bad => exact h
theorem SPost.asI {f : Res D} {k : Int → Tin → SR} {Q1 : VK} (s : SOk K T M0 H0 Wt M σ ρ t H) (h : SPost K W C T M0 H0 Wt De ((asI f).toS k))
    (g : ∀ i t1 H1, Ext T.toList H H1 → TinOk T t1 H1 → SPost K W C T M0 H0 Wt De (k i t1) → Q1 (.int i) H1) : Post W C T σ H (RelD K T M) f Q1 := by
  cases f with
  | ok d t1 =>
    cases d with
    | int i =>
      intro v H1 e ti rel
      cases (show Dat K T M H1 v (.int i) from rel).eqInt
      exact g i t1 H1 e ti h
    | _ => exact h.elim
  | exn t1 => exact fun H1 e ti => h σ H1 (s.base.trans e) ti
  | bad => exact h
theorem SPost.asB {f : Res D} {k : Bool → Tin → SR} {Q1 : Bool → Hp → Prop} (s : SOk K T M0 H0 Wt M σ ρ t H) (h : SPost K W C T M0 H0 Wt De ((Dry.asB f).toS k))
    (g : ∀ i t1 H1, Ext T.toList H H1 → TinOk T t1 H1 → SPost K W C T M0 H0 Wt De (k i t1) → Q1 i H1) : Post W C T σ H RelB (Dry.asB f) Q1 := by
  cases f with
  | ok d t1 =>
    cases d with
    | bl i =>
      intro v H1 e ti rel
      obtain rfl : v = i := rel
      exact g v t1 H1 e ti h
    | _ => exact h.elim
  | exn t1 => exact fun H1 e ti => h σ H1 (s.base.trans e) ti
  | bad => exact h
theorem s_ofO {o : Option α} {k : α → Tin → SR} (h : SPost K W C T M0 H0 Wt De ((ofO o t).toS k)) : ∃ a, o = some a ∧ SPost K W C T M0 H0 Wt De (k a t) := by
  cases o with
  | none => exact h.elim
  | some a => exact ⟨a, rfl, h⟩
theorem s_own {i : Nat} {k : List D → Tin → SR} (s : SOk K T M0 H0 Wt M σ ρ t H) (h : SPost K W C T M0 H0 Wt De ((ownAt ρ i t1).toS k)) : ∃ ds, ρ[i]? = some (some (.own ds)) ∧ SPost K W C T M0 H0 Wt De (k ds t1) := by
  unfold ownAt at h
  split at h
  · rename_i ds hd
    exact ⟨ds, hd, h⟩
  · exact h.elim
theorem SOk.at (s : SOk K T M0 H0 Wt M σ ρ t H) {i : Nat} {ds : List D} (h : ρ[i]? = some (some (.own ds))) : ∃ p xs, σ[i]? = some (some (.ref p)) ∧ p ∈ M ∧ T ≠ some p ∧ H p = some (.lst xs) ∧ DatL K T M H xs ds ∧ H0 p = none := by
  obtain ⟨v, h1, p, xs, rfl, h2, h3, h4, h5⟩ := s.x.val i _ h
  exact ⟨p, xs, h1, h2, h3, h4, h5, s.own i ds p h h1⟩
/-- data stored: own lists stay -/
theorem SOk.stored {σ' : L2.St} {ρ' : Env'} (s : SOk K T M0 H0 Wt M σ ρ t H) (x : XOk K T M σ' ρ' t H) (u : Upd σ ρ σ' ρ') : SOk K T M0 H0 Wt M σ' ρ' t H := by
  refine ⟨x, s.base, s.sub, s.fresh, fun i ds p h1 h2 => ?_, fun i j ds es p h1 h2 h3 h4 => ?_, s.watch, s.dom0⟩
  · obtain ⟨g1, g2⟩ := u i ds h1
    rw [g2] at h2
    exact s.own i ds p g1 h2
  · obtain ⟨g1, g2⟩ := u i ds h1
    obtain ⟨g3, g4⟩ := u j es h2
    rw [g2] at h3
    rw [g4] at h4
    exact s.inj i j ds es p g1 g3 h3 h4
/-- an own list changed -/
theorem SOk.wr (s : SOk K T M0 H0 Wt M σ ρ t H) {i : Nat} {ds ds' : List D} {p : Addr} {xs' : List V} (h : ρ[i]? = some (some (.own ds))) (hp : σ[i]? = some (some (.ref p))) (hd : DatL K T M H xs' ds') :
    SOk K T M0 H0 Wt M σ (ρ.set i (some (.own ds'))) t (upd H p (.lst xs')) := by
  obtain ⟨p', xs, h1, h2, h3, h4, h5, h6⟩ := s.at h
  rw [hp] at h1
  cases h1
  have eM : Ext M H (upd H p (.lst xs')) := fun a o n e => by
    rw [upd_ne (fun z => n (by rw [z]; exact h2))]
    exact e
  have hi : i < ρ.length := (List.getElem?_eq_some_iff.mp h).1
  have dec : ∀ j en, (ρ.set i (some (.own ds')))[j]? = some (some en) → (j = i ∧ en = .own ds') ∨ (j ≠ i ∧ ρ[j]? = some (some en)) := fun j en q => by
    by_cases hj : j = i
    · subst hj
      rw [List.getElem?_set_self hi] at q
      cases q
      exact .inl ⟨rfl, rfl⟩
    · rw [List.getElem?_set_ne (Ne.symm hj)] at q
      exact .inr ⟨hj, q⟩
  refine ⟨⟨by rw [List.length_set]; exact s.x.len, fun j en q => ?_, fun a ha => ?_, s.x.tinM, fun a ha z => ?_⟩, fun a o n e => ?_, s.sub, s.fresh, fun j es q g1 g2 => ?_, fun j k es fs q g1 g2 g3 g4 => ?_, fun w hw => ?_, s.dom0⟩
  · rcases dec j en q with ⟨rfl, rfl⟩ | ⟨hj, q⟩
    · exact ⟨.ref p, hp, p, xs', rfl, h2, h3, upd_same, hd.keep eM⟩
    · obtain ⟨v, g1, g2⟩ := s.x.val j en q
      refine ⟨v, g1, ?_⟩
      cases en with
      | dat d => exact Dat.keep eM g2
      | own es =>
        obtain ⟨q', ys, rfl, k1, k2, k3, k4⟩ := g2
        have hne : q' ≠ p := fun z => hj (s.inj j i es ds p q h (by rw [g1, z]) hp)
        exact ⟨q', ys, rfl, k1, k2, by rw [upd_ne hne]; exact k3, k4.keep eM⟩
  · rw [upd_ne (fun z => h3 (by rw [ha, z]))]
    exact s.x.tin a ha
  · by_cases hpa : a = p
    · rw [hpa, upd_same] at z
      cases z
    · rw [upd_ne hpa] at z
      exact s.x.dom a ha z
  · have hne : a ≠ p := fun z => by
      rw [z, h6] at e
      cases e
    rw [upd_ne hne]
    exact s.base a o n e
  · rcases dec j (.own es) g1 with ⟨rfl, _⟩ | ⟨hj, g1⟩
    · rw [hp] at g2
      cases g2
      exact h6
    · exact s.own j es q g1 g2
  · have f : ∀ (m : Nat) (gs : List D), (ρ.set i (some (En.own ds')))[m]? = some (some (En.own gs)) → ∃ gs', ρ[m]? = some (some (En.own gs')) := fun m gs z => by
      rcases dec m (.own gs) z with ⟨rfl, _⟩ | ⟨_, z⟩
      · exact ⟨ds, h⟩
      · exact ⟨gs, z⟩
    obtain ⟨es', g1⟩ := f j es g1
    obtain ⟨fs', g2⟩ := f k fs g2
    exact s.inj j k es' fs' q g1 g2 g3 g4
  · obtain ⟨w1, w2, w3, w4⟩ := s.watch w hw
    refine ⟨fun a o n e => ?_, w2, w3, w4⟩
    have hne : a ≠ p := fun z => n (by
      rw [z] at e ⊢
      exact w3 p h2 (by rw [e]; intro q; cases q))
    rw [upd_ne hne]
    exact w1 a o n e
/-- a new own list -/
theorem SOk.made (s : SOk K T M0 H0 Wt M σ ρ t H) {i : Nat} {ds : List D} {p : Addr} {xs : List V} (hp : H p = none) (e : Ext T.toList H H1) (h : TinOk T t1 H1) (hl : H1 p = some (.lst xs)) (hd' : DatL K T (p :: M) H1 xs ds) (hi : i < ρ.length) :
    SOk K T M0 H0 Wt (p :: M) (σ.set i (some (.ref p))) (ρ.set i (some (.own ds))) t1 H1 := by
  have hM : p ∉ M := fun z => s.x.dom p z hp
  have hT : T ≠ some p := fun z => hM (s.x.tinM p z)
  have h0 : H0 p = none := by
    cases q : H0 p with
    | none => rfl
    | some o =>
      have z := s.base p o (fun z => hT (by
        cases T with
        | none => cases z
        | some a =>
          have : p = a := by simpa using z
          rw [this])) q
      rw [hp] at z
      cases z
  have dom' : ∀ a ∈ p :: M, H1 a ≠ none := fun a ha => by
    rcases List.mem_cons.mp ha with z | z
    · rw [z, hl]
      intro q
      cases q
    · exact (s.x.keep e h).dom a z
  have n2 : ∀ a ∈ p :: M, H a ≠ none → a ∈ M := fun a ha hn => by
    rcases List.mem_cons.mp ha with z | z
    · exact absurd (by rw [z]; exact hp) hn
    · exact z
  have x1 : XOk K T (p :: M) σ ρ t1 H1 := s.x.move e h (fun a ha => List.mem_cons_of_mem _ ha) n2 dom'
  have dec : ∀ j en, (ρ.set i (some (.own ds)))[j]? = some (some en) → (j = i ∧ en = .own ds) ∨ (j ≠ i ∧ ρ[j]? = some (some en)) := fun j en q => by
    by_cases hj : j = i
    · subst hj
      rw [List.getElem?_set_self hi] at q
      cases q
      exact .inl ⟨rfl, rfl⟩
    · rw [List.getElem?_set_ne (Ne.symm hj)] at q
      exact .inr ⟨hj, q⟩
  have hiσ : i < σ.length := by rw [← s.x.len]; exact hi
  have at_ : ∀ j, (σ.set i (some (.ref p)))[j]? = if j = i then some (some (.ref p)) else σ[j]? := fun j => by
    by_cases hj : j = i
    · subst hj
      rw [if_pos rfl, List.getElem?_set_self hiσ]
    · rw [if_neg hj, List.getElem?_set_ne (Ne.symm hj)]
  have nop : ∀ (j : Nat) (es : List D), ρ[j]? = some (some (En.own es)) → σ[j]? ≠ some (some (V.ref p)) := fun j es q z => by
    obtain ⟨p', xs', k1, k2, _, k4, _⟩ := s.at q
    rw [z] at k1
    cases k1
    rw [hp] at k4
    cases k4
  refine ⟨⟨by rw [List.length_set, List.length_set]; exact s.x.len, fun j en q => ?_, h, x1.tinM, dom'⟩, s.base.trans e, fun a ha => List.mem_cons_of_mem _ (s.sub a ha), fun a ha hn => ?_, fun j es q g1 g2 => ?_, fun j k es fs q g1 g2 g3 g4 => ?_, fun w hw => ?_, s.dom0⟩
  · rcases dec j en q with ⟨rfl, rfl⟩ | ⟨hj, q⟩
    · exact ⟨.ref p, by rw [at_, if_pos rfl], p, xs, rfl, List.mem_cons_self, hT, hl, hd'⟩
    · obtain ⟨v, g1, g2⟩ := x1.val j en q
      exact ⟨v, by rw [at_, if_neg hj]; exact g1, g2⟩
  · rcases List.mem_cons.mp ha with z | z
    · exact absurd (by rw [z]; exact h0) hn
    · exact s.fresh a z hn
  · rcases dec j (.own es) g1 with ⟨rfl, _⟩ | ⟨hj, g1⟩
    · rw [at_, if_pos rfl] at g2
      cases g2
      exact h0
    · rw [at_, if_neg hj] at g2
      exact s.own j es q g1 g2
  · rcases dec j (.own es) g1 with ⟨rfl, _⟩ | ⟨hj, g1'⟩
    · rcases dec k (.own fs) g2 with ⟨rfl, _⟩ | ⟨hk, g2'⟩
      · rfl
      · rw [at_, if_pos rfl] at g3
        cases g3
        rw [at_, if_neg hk] at g4
        exact absurd g4 (nop k fs g2')
    · rcases dec k (.own fs) g2 with ⟨rfl, _⟩ | ⟨hk, g2'⟩
      · rw [at_, if_pos rfl] at g4
        cases g4
        rw [at_, if_neg hj] at g3
        exact absurd g3 (nop j es g1')
      · rw [at_, if_neg hj] at g3
        rw [at_, if_neg hk] at g4
        exact s.inj j k es fs q g1' g2' g3 g4
  · obtain ⟨w1, w2, w3, w4⟩ := (s.keep e h).watch w hw
    refine ⟨w1, fun a ha => List.mem_cons_of_mem _ (w2 a ha), fun a ha hn => ?_, w4⟩
    rcases List.mem_cons.mp ha with z | z
    · obtain ⟨v1, v2, v3, v4⟩ := s.watch w hw
      cases q : w.2 p with
      | none => exact absurd (by rw [z]; exact q) hn
      | some o =>
        by_cases hpm : p ∈ w.1
        · exact absurd (v2 p hpm) hM
        · have := v1 p o hpm q
          rw [hp] at this
          cases this
    · exact w3 a z hn
end
end Dry
set_option Elab.async false
set_option linter.all false
set_option maxRecDepth 100000
set_option maxHeartbeats 2000000
/-! DryJ: statements' readings. -/
namespace Dry
open PySem PySem.Spec PyProof.Rows L2
section
variable {W : WX} {C : Addr} {T : Option Addr} {Wt : List (List Addr × Hp)} {M M0 : List Addr} {σ : L2.St} {H H0 H1 : Hp} {K : PySem.W.Frag} {α β γ δ : Type} {ρ : Env'} {t t1 : Tin} {De : Ends}
variable {Γ : Gam} {a b c e : Ex} {as : Exs} {Q : VK}
theorem s_asg {s : Bool} {tg : List Nat} (h : tS K W C (ex Γ (.asg s tg e)) De σ H) : tAsg (tP K W C (ev Γ e)) (gT K s tg) De σ H := by
  obtain ⟨T, M0, H0, Wt, M, ρ, t, s, h⟩ := h
  unfold ex at h
  refine ⟨T, M, ρ, t, s.x, h.bind s fun d t1 v H1 e1 i1 r1 h => ?_⟩
  have s1 := s.keep e1 i1
  cases q : bindT _ tg d ρ with
  | none =>
    rw [q] at h
    exact h.elim
  | some ρ' =>
    rw [q] at h
    exact gT_of r1 s1.x q fun σ' x' up _ => h M σ' H1 (s1.stored x' up)
theorem s_unl {tg : List Nat} (h : tS K W C (ex Γ (.unl tg e)) De σ H) : tAsg (tP K W C (ev Γ e)) (gUnl K tg.length (gNames tg)) De σ H := by
  obtain ⟨T, M0, H0, Wt, M, ρ, t, s, h⟩ := h
  unfold ex at h
  refine ⟨T, M, ρ, t, s.x, h.bind s fun d t1 v H1 e1 i1 r1 h => ?_⟩
  have s1 := s.keep e1 i1
  cases d with
  | lst ds =>
    obtain ⟨p, xs, rfl, _, _, hq, hd⟩ := (show Dat K T M H1 v (.lst ds) from r1).sql
    cases q : setAll tg ds ρ with
    | none =>
      simp only [q] at h
      exact h.elim
    | some ρ' =>
      simp only [q] at h
      exact ⟨p, xs, rfl, hq, by rw [hd.length]; exact gT_of.setAll_len q, gNames_of hd s1.x q fun σ' x' up _ => h M σ' H1 (s1.stored x' up)⟩
  | _ => exact h.elim
/-! ### own lists made -/
def RelE (K : PySem.W.Frag) (T : Option Addr) (M : List Addr) (H0 : Hp) : Hp → V → En → Prop := fun H' v en => match en with
  | .dat d => Dat K T M H' v d
  | .own ds => ∃ p xs, v = .ref p ∧ H0 p = none ∧ H' p = some (.lst xs) ∧ DatL K T (p :: M) H' xs ds
def tE (K : PySem.W.Frag) (W : WX) (C : Addr) (f : Env' → Tin → Res En) : TE := fun σ H Q => ∃ T M ρ t, XOk K T M σ ρ t H ∧ Post W C T σ H (RelE K T M H) (f ρ t) Q
theorem XOk.back (x : XOk K T M σ ρ t H) (e : Ext T.toList H H1) (i : TinOk T t1 H1) {p : Addr} (h : H1 p = none) : H p = none := by
  cases q : H p with
  | none => rfl
  | some o =>
    by_cases ht : p ∈ T.toList
    · cases T with
      | none => cases ht
      | some b =>
        have : p = b := by simpa using ht
        rw [this, i b rfl] at h
        cases h
    · rw [e p o ht q] at h
      cases h
theorem o_dat (h : tE K W C (evO Γ (.dat e)) σ H Q) : tP K W C (ev Γ e) σ H Q := by
  obtain ⟨T, M, ρ, t, x, h⟩ := h
  unfold evO at h
  refine ⟨T, M, ρ, t, x, h.bind fun d t1 v H1 e1 i1 r1 h => ?_⟩
  exact h v H1 (Ext.refl _ _) i1 r1
theorem o_new (h : tE K W C (evO Γ .new) σ H Q) : tLst tNil σ H Q := by
  obtain ⟨T, M, ρ, t, x, h⟩ := h
  exact ⟨Nat.zero_le _, fun p hp => h (.ref p) _ (Ext.new hp) (x.tin.keep (Ext.new hp)) ⟨p, [], rfl, hp, upd_same, .nil⟩⟩
abbrev rList (K : PySem.W.Frag) : List V → Hp → VK → Prop := fun xs H Q => ∃ p ys, xs = [.ref p] ∧ (SqL K H p ys ∨ SqT K H p ys) ∧ ∀ l, H l = none → Q (.ref l) (upd H l (.lst ys))
theorem items_at {v : V} {d : D} {es : List D} (h : Dat K T M H v d) (he : dItems d = some es) : ∃ p xs, v = V.ref p ∧ (SqL K H p xs ∨ SqT K H p xs) ∧ DatL K T M H xs es := by
  unfold dItems at he
  split at he
  · cases he
    obtain ⟨p, xs, rfl, _, _, hq, hd⟩ := h.sql
    exact ⟨p, xs, rfl, .inl hq, hd⟩
  · cases he
    obtain ⟨p, xs, rfl, hq, hd⟩ := h.sqt
    exact ⟨p, xs, rfl, .inr hq, hd⟩
  · cases he
theorem DatL.maskNew {xs : List V} {ds : List D} {p : Addr} (h : DatL K T M H xs ds) (hp : H p = none) : DatL K T (p :: M) H xs ds := h.mask fun a ha hn => by
  rcases List.mem_cons.mp ha with z | z
  · exact absurd (by rw [z]; exact hp) hn
  · exact z
theorem o_list (h : tE K W C (evO Γ (.list e)) σ H Q) : tCB (rList K) (tCons (tP K W C (ev Γ e)) tNil) σ H Q := by
  obtain ⟨T, M, ρ, t, x, h⟩ := h
  unfold evO at h
  refine ⟨T, M, ρ, t, x, h.bind fun d t1 v H1 e1 i1 r1 h => ?_⟩
  obtain ⟨es, he, h⟩ := (show ∃ es, dItems d = some es ∧ Post W C T σ H1 (RelE K T M H) (.ok (.own es) t1) Q from by
    cases q : dItems d with
    | none =>
      rw [q] at h
      exact h.elim
    | some es =>
      rw [q] at h
      exact ⟨es, rfl, h⟩)
  obtain ⟨p, xs, rfl, hq, hd⟩ := items_at r1 he
  exact ⟨p, xs, rfl, hq, fun l hl => h (.ref l) _ (Ext.new hl) (i1.keep (Ext.new hl)) ⟨l, xs, rfl, x.back e1 i1 hl, upd_same, (hd.maskNew hl).keep (Ext.new hl)⟩⟩
theorem o_listOr {z : Ex} (h : tE K W C (evO Γ (.listOr e z)) σ H Q) : tOrT K (tCB (rList K) (tCons (tP K W C (ev Γ e)) tNil)) (tLst (tCons (tP K W C (ev Γ z)) tNil)) σ H Q := by
  obtain ⟨T, M, ρ, t, x, h⟩ := h
  unfold evO at h
  refine ⟨T, M, ρ, t, x, h.bind fun d t1 v H1 e1 i1 r1 h => ?_⟩
  have x1 := x.keep e1 i1
  cases q : dItems d with
  | none =>
    rw [q] at h
    exact h.elim
  | some es =>
    rw [q] at h
    have h : Post W C T σ H1 (RelE K T M H) (if es.isEmpty = true then (ev Γ z ρ t1).bind fun w t => .ok (.own [w]) t else .ok (.own es) t1) Q := h
    obtain ⟨p, xs, rfl, hq, hd⟩ := items_at r1 q
    refine ⟨p, xs, rfl, hq, fun l hl => ⟨!xs.isEmpty, .inl ⟨xs, .inl (.inl upd_same), rfl⟩, ?_⟩⟩
    cases es with
    | nil =>
      cases hd
      refine iteF ?_
      have h : Post W C T σ H1 (RelE K T M H) ((ev Γ z ρ t1).bind fun w t => .ok (.own [w]) t) Q := h
      have el : Ext T.toList H1 (upd H1 l (.lst [])) := Ext.new hl
      have il : TinOk T t1 (upd H1 l (.lst [])) := i1.keep (Ext.new hl)
      refine ⟨T, M, ρ, t1, x1.keep el il, Post.bind (h.base el) fun w t2 y H2 e2 i2 r2 h => ?_⟩
      refine ⟨by show 1 ≤ sizeLine; decide, fun m hm => h (.ref m) _ (Ext.new hm) (i2.keep (Ext.new hm)) ⟨m, [y], rfl, ?_, upd_same, ((DatL.one r2).maskNew hm).keep (Ext.new hm)⟩⟩
      exact x.back e1 i1 (x1.back el il ((x1.keep el il).back e2 i2 hm))
    | cons w ws =>
      have h : Post W C T σ H1 (RelE K T M H) (.ok (.own (w :: ws)) t1) Q := h
      cases hd with
      | cons h1 h2 =>
        exact iteT (h (.ref l) _ (Ext.new hl) (i1.keep (Ext.new hl)) ⟨l, _, rfl, x.back e1 i1 hl, upd_same, ((DatL.cons h1 h2).maskNew hl).keep (Ext.new hl)⟩)
/-- a slot is given: a datum, or a new own list -/
theorem SOk.put (s : SOk K T M0 H0 Wt M σ ρ t H) {i : Nat} {en : En} {v : V} (hi : i < ρ.length) (e : Ext T.toList H H1) (h : TinOk T t1 H1) (r : RelE K T M H H1 v en) :
    ∃ M', SOk K T M0 H0 Wt M' (σ.set i (some v)) (ρ.set i (some en)) t1 H1 ∧ XOk K T M' σ ρ t1 H1 := by
  cases en with
  | dat d => exact ⟨M, (s.keep e h).stored ((s.keep e h).x.set r) (Upd.set _ _ _ _ _), (s.keep e h).x⟩
  | own ds =>
    obtain ⟨p, xs, rfl, hp, hl, hd⟩ := r
    refine ⟨p :: M, s.made hp e h hl hd hi, s.x.move e h (fun a ha => List.mem_cons_of_mem _ ha) (fun a ha hn => ?_) (s.made hp e h hl hd hi).x.dom⟩
    rcases List.mem_cons.mp ha with z | z
    · exact absurd (by rw [z]; exact hp) hn
    · exact z
theorem s_one {i : Nat} {o : Oe} (h : tS K W C (ex Γ (.one i o)) De σ H) : tAsg (tE K W C (evO Γ o)) (gName i) De σ H := by
  obtain ⟨T, M0, H0, Wt, M, ρ, t, s, h⟩ := h
  unfold ex at h
  refine ⟨T, M, ρ, t, s.x, h.bind s fun en t1 v H1 e1 i1 r1 h => ?_⟩
  by_cases hi : ρ.length ≤ i
  · simp only [if_pos hi] at h
    exact h.elim
  · simp only [if_neg hi] at h
    obtain ⟨M', s', _⟩ := s.put (i := i) (by omega) e1 i1 r1
    exact h M' _ H1 s'
theorem s_par {i j : Nat} {o1 o2 : Oe} (h : tS K W C (ex Γ (.par i j o1 o2)) De σ H) : tPar i j (tCons (tE K W C (evO Γ o1)) (tCons (tE K W C (evO Γ o2)) tNil)) De σ H := by
  obtain ⟨T, M0, H0, Wt, M, ρ, t, s, h⟩ := h
  unfold ex at h
  refine ⟨T, M, ρ, t, s.x, h.bind s fun en t1 v H1 e1 i1 r1 h => ?_⟩
  by_cases hi : ρ.length ≤ i
  · cases q : evO Γ o2 ρ t1 with
    | ok w t2 =>
      simp only [q, Res.toS, if_pos (show i = j ∨ ρ.length ≤ i ∨ ρ.length ≤ j from .inr (.inl hi))] at h
      exact h.elim
    | exn t2 => exact ⟨T, M, ρ, t1, s.x.keep e1 i1, by rw [q] at h ⊢; exact fun H2 e2 i2 => h σ H2 (s.base.trans (e1.trans e2)) i2⟩
    | bad =>
      rw [q] at h
      exact h.elim
  · obtain ⟨M', s', x'⟩ := s.put (i := i) (by omega) e1 i1 r1
    refine ⟨T, M', ρ, t1, x', ?_⟩
    have step : ∀ w t2 y H2, Ext T.toList H1 H2 → TinOk T t2 H2 → RelE K T M' H1 H2 y w → SPost K W C T M0 H0 Wt De (if i = j ∨ ρ.length ≤ i ∨ ρ.length ≤ j then .bad else .nx ((ρ.set i (some en)).set j (some w)) t2) →
        De.nx ((σ.set i (some v)).set j (some y)) H2 := fun w t2 y H2 e2 i2 r2 h => by
      by_cases hc : i = j ∨ ρ.length ≤ i ∨ ρ.length ≤ j
      · rw [if_pos hc] at h
        exact h.elim
      · rw [if_neg hc] at h
        obtain ⟨M2, s2, _⟩ := s'.put (i := j) (by rw [List.length_set]; omega) e2 i2 r2
        exact h M2 _ H2 s2
    cases q : evO Γ o2 ρ t1 with
    | ok w t2 =>
      rw [q] at h
      exact fun y H2 e2 i2 r2 => ⟨v, y, rfl, step w t2 y H2 e2 i2 r2 h⟩
    | exn t2 =>
      rw [q] at h
      exact fun H2 e2 i2 => h σ H2 (s.base.trans (e1.trans e2)) i2
    | bad =>
      rw [q] at h
      exact h.elim
/-! ### own lists changed -/
theorem s_app {i : Nat} (h : tS K W C (ex Γ (.app i e)) De σ H) : tDrop (tBM K "list" rAppend (tVar i) (tCons (tP K W C (ev Γ e)) tNil)) De σ H := by
  obtain ⟨T, M0, H0, Wt, M, ρ, t, s, h⟩ := h
  unfold ex at h
  obtain ⟨ds, hd, h⟩ := s_own s h
  obtain ⟨p, xs, g1, g2, g3, g4, g5, g6⟩ := s.at hd
  refine ⟨.ref p, g1, .inl ⟨rfl, xs, .inl (.inl g4)⟩, T, M, ρ, t, s.x, h.bind s fun d t1 v H1 e1 i1 r1 h => ?_⟩
  have s1 := s.keep e1 i1
  obtain ⟨p', ys, k1, k2, k3, k4, k5, k6⟩ := s1.at hd
  rw [g1] at k1
  cases k1
  by_cases hz : ds.length < cap
  · simp only [if_pos hz] at h
    exact ⟨p, ys, v, rfl, rfl, k4, cap_lt (by rw [k5.length]; exact hz), h M σ _ (s1.wr hd g1 (k5.append (.one r1)))⟩
  · simp only [if_neg hz] at h
    exact h.elim
theorem s_ext {i : Nat} (h : tS K W C (ex Γ (.ext i e)) De σ H) : tDrop (tBM K "list" (rExtA K) (tVar i) (tCons (tP K W C (ev Γ e)) tNil)) De σ H := by
  obtain ⟨T, M0, H0, Wt, M, ρ, t, s, h⟩ := h
  unfold ex at h
  obtain ⟨ds, hd, h⟩ := s_own s h
  obtain ⟨p, xs, g1, g2, g3, g4, g5, g6⟩ := s.at hd
  refine ⟨.ref p, g1, .inl ⟨rfl, xs, .inl (.inl g4)⟩, T, M, ρ, t, s.x, h.bind s fun d t1 v H1 e1 i1 r1 h => ?_⟩
  have s1 := s.keep e1 i1
  obtain ⟨p', ys, k1, k2, k3, k4, k5, k6⟩ := s1.at hd
  rw [g1] at k1
  cases k1
  obtain ⟨es, he, h⟩ := s_ofO h
  by_cases hz : ds.length + es.length ≤ cap
  · simp only [if_pos hz] at h
    have fin : ∃ b zs, v = .ref b ∧ (SqT K H1 b zs ∨ (b ≠ p ∧ H1 b = some (.lst zs))) ∧ DatL K T M H1 zs es := by
      unfold dItems at he
      split at he
      · cases he
        obtain ⟨b, zs, rfl, hn, hq, _, hdl⟩ := (show Dat K T M H1 v (.lst es) from r1).sql
        exact ⟨b, zs, rfl, .inr ⟨fun z => hn (by rw [z]; exact g2), hq⟩, hdl⟩
      · cases he
        obtain ⟨b, zs, rfl, hq, hdl⟩ := (show Dat K T M H1 v (.tup es) from r1).sqt
        exact ⟨b, zs, rfl, .inl hq, hdl⟩
      · cases he
    obtain ⟨b, zs, rfl, hb, hdl⟩ := fin
    exact ⟨p, b, ys, zs, rfl, rfl, k4, hb, cap_line (by rw [k5.length, hdl.length]; exact hz), h M σ _ (s1.wr hd g1 (k5.append hdl))⟩
  · simp only [if_neg hz] at h
    exact h.elim
theorem s_oset {i : Nat} {k : Ex} (h : tS K W C (ex Γ (.oset i k e)) De σ H) : tAsg (tP K W C (ev Γ e)) (gSub (tVar i) (tP K W C (ev Γ k)) rSetL) De σ H := by
  obtain ⟨T, M0, H0, Wt, M, ρ, t, s, h⟩ := h
  unfold ex at h
  refine ⟨T, M, ρ, t, s.x, h.bind s fun d t1 v H1 e1 i1 r1 h => ?_⟩
  have s1 := s.keep e1 i1
  obtain ⟨ds, hd, h⟩ := s_own s1 h
  obtain ⟨p, xs, g1, g2, g3, g4, g5, g6⟩ := s1.at hd
  refine ⟨.ref p, g1, T, M, ρ, t1, s1.x, h.asI s1 fun j t2 H2 e2 i2 h => ?_⟩
  have s2 := s1.keep e2 i2
  obtain ⟨p', ys, k1, k2, k3, k4, k5, k6⟩ := s2.at hd
  rw [g1] at k1
  cases k1
  obtain ⟨m, hm, h⟩ := s_ofO h
  exact ⟨p, ys, j, m, rfl, rfl, k4, by rw [k5.length]; exact hm, h M σ _ (s2.wr hd g1 (k5.set (Dat.keep (e2.toM s.x.tinM) r1) m))⟩
theorem setTin_at {t t' : Tin} {k v : Int} (h : setTin t k v = some t') : ∃ j, ixN 3 k = some j ∧ [V.int t.1, V.int t.2.1, V.int t.2.2].set j (.int v) = [V.int t'.1, V.int t'.2.1, V.int t'.2.2] := by
  unfold setTin at h
  split at h
  · cases h
    exact ⟨0, rfl, rfl⟩
  · cases h
    exact ⟨1, rfl, rfl⟩
  · cases h
    exact ⟨2, rfl, rfl⟩
  · cases h
theorem s_tset {i : Nat} {k : Ex} (h : tS K W C (ex Γ (.tset i k e)) De σ H) : tAsg (tP K W C (ev Γ e)) (gSub (tVar i) (tP K W C (ev Γ k)) rSetL) De σ H := by
  obtain ⟨T, M0, H0, Wt, M, ρ, t, s, h⟩ := h
  unfold ex at h
  refine ⟨T, M, ρ, t, s.x, h.asI s fun v t1 H1 e1 i1 h => ?_⟩
  have s1 := s.keep e1 i1
  unfold isTin at h
  cases q : ρ[i]? with
  | none =>
    rw [q] at h
    exact h.elim
  | some oe =>
    rw [q] at h
    cases oe with
    | none => exact h.elim
    | some en =>
      cases en with
      | own ds => exact h.elim
      | dat d =>
        cases d with
        | tin =>
          obtain ⟨w, k1, k2⟩ := s1.x.val i _ q
          cases k2 with
          | tin hT =>
            rename_i p
            subst hT
            refine ⟨.ref p, k1, some p, M, ρ, t1, s1.x, SPost.asI s1 h fun j t2 H2 e2 i2 h => ?_⟩
            have s2 := s1.keep e2 i2
            obtain ⟨t', ht, h⟩ := s_ofO h
            obtain ⟨m, hm, hs⟩ := setTin_at ht
            refine ⟨p, _, j, m, rfl, rfl, i2 p rfl, hm, ?_⟩
            rw [hs]
            have ee : Ext (some p).toList H2 (upd H2 p (.lst [.int t'.1, .int t'.2.1, .int t'.2.2])) := fun a o n z => by
              rw [upd_ne (fun y => n (by rw [y]; simp))]
              exact z
            exact h M σ _ (s2.keep ee fun a ha => by
              cases ha
              exact upd_same)
        | _ => exact h.elim
theorem s_appPop {i j : Nat} (h : tS K W C (ex Γ (.appPop i j e)) De σ H) : tDrop (tBM K "list" rAppend (tVar i) (tCons (tBM K "list" rPopAt (tVar j) (tCons (tP K W C (ev Γ e)) tNil)) tNil)) De σ H := by
  obtain ⟨T, M0, H0, Wt, M, ρ, t, s, h⟩ := h
  unfold ex at h
  obtain ⟨ds, hd, h⟩ := s_own s h
  obtain ⟨es, he, h⟩ := s_own s h
  by_cases hij' : i = j ∨ cap < es.length
  · simp only [if_pos hij'] at h
    exact h.elim
  · simp only [if_neg hij'] at h
    have hij : i ≠ j := fun z => hij' (.inl z)
    obtain ⟨p, xs, g1, g2, g3, g4, g5, g6⟩ := s.at hd
    obtain ⟨q, ys, f1, f2, f3, f4, f5, f6⟩ := s.at he
    refine ⟨.ref p, g1, .inl ⟨rfl, xs, .inl (.inl g4)⟩, .ref q, f1, .inl ⟨rfl, ys, .inl (.inl f4)⟩, T, M, ρ, t, s.x, SPost.asI s h fun k t1 H1 e1 i1 h => ?_⟩
    have s1 := s.keep e1 i1
    obtain ⟨q', ys', k1, k2, k3, k4, k5, k6⟩ := s1.at he
    rw [f1] at k1
    cases k1
    obtain ⟨m, hm, h⟩ := s_ofO h
    obtain ⟨d, hdm, h⟩ := s_ofO h
    obtain ⟨y, hy, hyd⟩ := k5.get hdm
    have hm' : ixN ys'.length k = some m := by rw [k5.length]; exact hm
    obtain ⟨z1, z2, z3, z4⟩ := ixN_seq hm'
    have hlen : ys'.length ≤ 1000000 := by
      rw [k5.length]
      have : ¬ cap < es.length := fun z => hij' (.inr z)
      unfold cap at this
      omega
    refine ⟨q, ys', k, m, y, rfl, rfl, k4, by omega, by omega, z1, hy, ?_⟩
    have s2 := s1.wr he f1 (k5.eraseIdx m)
    have hji : j ≠ i := fun z => hij z.symm
    have hd2 : (ρ.set j (some (.own (es.eraseIdx m))))[i]? = some (some (.own ds)) := by
      rw [List.getElem?_set_ne hji]
      exact hd
    obtain ⟨p', xs', l1, l2, l3, l4, l5, l6⟩ := s2.at hd2
    rw [g1] at l1
    cases l1
    by_cases hz : ds.length < cap
    · simp only [if_pos hz] at h
      have hyd2 : Dat K T M (upd H1 q (.lst (ys'.eraseIdx m))) y d := by
        refine Dat.keep (fun a o n z => ?_) hyd
        rw [upd_ne (fun w => n (by rw [w]; exact f2))]
        exact z
      exact ⟨p, xs', y, rfl, rfl, l4, cap_lt (by rw [l5.length]; exact hz), h M σ _ (s2.wr hd2 g1 (l5.append (.one hyd2)))⟩
    · simp only [if_neg hz] at h
      exact h.elim
/-! ### the rest -/
theorem s_drop (h : tS K W C (ex Γ (.drop e)) De σ H) : tDrop (tP K W C (ev Γ e)) De σ H := by
  obtain ⟨T, M0, H0, Wt, M, ρ, t, s, h⟩ := h
  unfold ex at h
  exact ⟨T, M, ρ, t, s.x, h.bind s fun d t1 v H1 e1 i1 r1 h => h M σ H1 (s.keep e1 i1)⟩
theorem s_ret (h : tS K W C (ex Γ (.ret e)) De σ H) : tRet (tP K W C (ev Γ e)) De σ H := by
  obtain ⟨T, M0, H0, Wt, M, ρ, t, s, h⟩ := h
  unfold ex at h
  exact ⟨T, M, ρ, t, s.x, h.bind s fun d t1 v H1 e1 i1 r1 h => h v H1 (s.base.trans e1) i1 (Dat.mask (fun a ha _ => s.sub a ha) r1)⟩
theorem s_retO {i : Nat} (h : tS K W C (ex Γ (.retO i)) De σ H) : tRet (tVar i) De σ H := by
  obtain ⟨T, M0, H0, Wt, M, ρ, t, s, h⟩ := h
  unfold ex at h
  obtain ⟨ds, hd, h⟩ := s_own s h
  obtain ⟨p, xs, g1, g2, g3, g4, g5, g6⟩ := s.at hd
  refine ⟨.ref p, g1, h (.ref p) H s.base s.x.tin (.lst (fun z => s.dom0 p z g6) g4 (g5.mask fun a ha _ => s.sub a ha))⟩
theorem s_ife {x y : Sxs} (h : tS K W C (ex Γ (.ife c x y)) De σ H) : tIfS (tT K W C (ev Γ c)) (tS K W C (exs Γ x)) (tS K W C (exs Γ y)) De σ H := by
  obtain ⟨T, M0, H0, Wt, M, ρ, t, s, h⟩ := h
  unfold ex at h
  refine ⟨T, M, ρ, t, s.x, h.asB s fun k t1 H1 e1 i1 h => ?_⟩
  cases k with
  | true => exact iteT ⟨T, M0, H0, Wt, M, ρ, t1, s.keep e1 i1, h⟩
  | false => exact iteF ⟨T, M0, H0, Wt, M, ρ, t1, s.keep e1 i1, h⟩
theorem s_nil (h : tS K W C (exs Γ .nil) De σ H) : tNext De σ H := by
  obtain ⟨T, M0, H0, Wt, M, ρ, t, s, h⟩ := h
  unfold exs at h
  exact h M σ H s
theorem s_cons {x : Sx} {y : Sxs} (h : tS K W C (exs Γ (.cons x y)) De σ H) : tSeq (tS K W C (ex Γ x)) (tS K W C (exs Γ y)) De σ H := by
  obtain ⟨T, M0, H0, Wt, M, ρ, t, s, h⟩ := h
  unfold exs at h
  refine ⟨T, M0, H0, Wt, M, ρ, t, s, ?_⟩
  cases q : ex Γ x ρ t with
  | nx ρ' t' =>
    rw [q] at h
    exact fun M' σ' H' s' => ⟨T, M0, H0, Wt, M', ρ', t', s', h⟩
  | ret d t' =>
    rw [q] at h
    exact h
  | exn t' =>
    rw [q] at h
    exact h
  | bad =>
    rw [q] at h
    exact h
theorem s_raise (h : tS K W C (ex Γ .raiseP) De σ H) : W (.ref C) none σ H := by
  obtain ⟨T, M0, H0, Wt, M, ρ, t, s, h⟩ := h
  unfold ex at h
  exact h σ H s.base s.x.tin
theorem s_never (h : tS K W C (ex Γ .never) De σ H) : False := by
  obtain ⟨T, M0, H0, Wt, M, ρ, t, s, h⟩ := h
  unfold ex at h
  exact h
theorem s_loop {it : Itx} {sg : Bool} {tg : List Nat} {x : Sxs} (h : tS K W C (ex Γ (.loop it sg tg x)) De σ H) : tFor (tI K W C (evI Γ it)) (gT K sg tg) (tS K W C (exs Γ x)) De σ H := by
  obtain ⟨T, M0, H0, Wt, M, ρ, t, s, h⟩ := h
  unfold ex at h
  refine ⟨T, M, ρ, t, s.x, h.bind s fun items t1 J H1 e1 i1 r1 h => ?_⟩
  have s1 := s.keep e1 i1
  have sw : SOk K T M0 H0 ((M, H1) :: Wt) M σ ρ t1 H1 := ⟨s1.x, s1.base, s1.sub, s1.fresh, s1.own, s1.inj, fun w hw => by
    rcases List.mem_cons.mp hw with z | z
    · subst z
      exact ⟨Ext.refl _ _, fun _ h => h, fun _ h _ => h, s1.x.tinM⟩
    · exact s1.watch w z, s1.dom0⟩
  generalize hf : (fun d ρ t => match bindT sg tg d ρ with
    | some ρ' => exs Γ x ρ' t
    | none => .bad : D → Env' → Tin → SR) = f at h
  refine for_it r1 (fun i σ' H' => ∃ M' ρ' t', SOk K T M0 H0 ((M, H1) :: Wt) M' σ' ρ' t' H' ∧ loopF f (items.drop i) ρ' t' = loopF f items ρ t1) ⟨M, ρ, t1, sw, by rw [List.drop_zero]⟩ (fun i σ' H' hi p => ?_) (fun i xv σ' H' H'' hi p y => ?_) fun σ' H' p => ?_
  · obtain ⟨M', ρ', t', s', _⟩ := p
    obtain ⟨w1, w2, _, _⟩ := s'.watch (M, H1) List.mem_cons_self
    exact ⟨w1, fun a ha => s'.x.dom a (w2 a ha)⟩
  · obtain ⟨M', ρ', t', s', hl⟩ := p
    obtain ⟨e2, d, hdi, hy⟩ := y
    obtain ⟨w1, w2, w3, _⟩ := s'.watch (M, H1) List.mem_cons_self
    have hdat : Dat K T M' H'' xv d := hy M' w2 w3 s'.x.dom
    have s'' := s'.keep e2.any (s'.x.tin.keep e2)
    have hdrop : items.drop i = d :: items.drop (i + 1) := by
      obtain ⟨hlt, hget⟩ := List.getElem?_eq_some_iff.mp hdi
      rw [← hget]
      exact (List.getElem_cons_drop hlt).symm
    rw [hdrop] at hl
    have hl : (match f d ρ' t' with
      | .nx ρ' t' => loopF f (items.drop (i + 1)) ρ' t'
      | r => r) = loopF f items ρ t1 := hl
    rw [← hl] at h
    cases q : bindT sg tg d ρ' with
    | none =>
      have hfd : f d ρ' t' = .bad := by
        rw [← hf]
        simp only [q]
      rw [hfd] at h
      exact h.elim
    | some ρ2 =>
      have hfd : f d ρ' t' = exs Γ x ρ2 t' := by
        rw [← hf]
        simp only [q]
      rw [hfd] at h hl
      refine gT_of hdat s''.x q fun σ2 x2 up _ => ⟨T, M0, H0, (M, H1) :: Wt, M', ρ2, t', s''.stored x2 up, ?_⟩
      cases q2 : exs Γ x ρ2 t' with
      | nx ρ3 t3 =>
        rw [q2] at hl
        exact fun M3 σ3 H3 s3 => ⟨M3, ρ3, t3, s3, hl⟩
      | ret d t3 =>
        rw [q2] at h
        exact h
      | exn t3 =>
        rw [q2] at h
        exact h
      | bad =>
        rw [q2] at h
        exact h
  · obtain ⟨M', ρ', t', s', hl⟩ := p
    rw [List.drop_length] at hl
    have hl : SR.nx ρ' t' = loopF f items ρ t1 := hl
    rw [← hl] at h
    exact h M' σ' H' ⟨s'.x, s'.base, s'.sub, s'.fresh, s'.own, s'.inj, fun w hw => s'.watch w (List.mem_cons_of_mem _ hw), s'.dom0⟩
end
end Dry
set_option Elab.async false
set_option linter.all false
set_option maxRecDepth 100000
set_option maxHeartbeats 4000000
/-! DryK: the certified reading of statements and defs. -/
namespace Dry
open PySem PySem.Spec PyProof.Rows L2

structure GoodS (Γ : Gam) (c : Ct) (W : WX) (C : Addr) (X : Cx) : Prop extends Good Γ c W C X where
  kind : X.env.scope.kind = .function
  fnall : ∀ x, X.fn x = true
  po : PassesOwn (model X.prog X.w) X.A X.env X.xe
  np : ∀ p pos, Gl X "NoPaper" → PMk X (.Call (.Name "NoPaper" p) [] [] pos) (fun _ H Q => Q (.ref C) none H)
theorem PSs.imp' {X : Cx} {e : List Stmt} {t t' : TS} (h : PSs X e t) (k : ∀ D σ H, t' D σ H → t D σ H) : PSs X e t' := PSs.imp h k
abbrev CS (Γ : Gam) (c : Ct) (s : Stmt) := { ir : Sx // ∀ W C X, GoodS Γ c W C X → PS X s (tS X.K W C (ex Γ ir)) }
abbrev CSs (Γ : Gam) (c : Ct) (s : List Stmt) := { ir : Sxs // ∀ W C X, GoodS Γ c W C X → PSs X s (tS X.K W C (exs Γ ir)) }
theorem swaps_no {e : Expr} {t : Option Expr} {l : Nat} {env : Env} (h : isCompE e = false) : swapsWith e t l env = pure false := by
  cases e <;> first | rfl | cases h
theorem swaps_tup {e : Expr} {ts : List Expr} {k : Nat} {p : Pos} {l : Nat} {env : Env} : swapsWithSole [.Tuple ts k p] e l env = pure false := by
  cases e <;> rfl
theorem swaps_sub {e : Expr} {o i : Expr} {p : Pos} {l : Nat} {env : Env} : swapsWithSole [.Subscript o i p] e l env = pure false := by
  cases e <;> rfl
def isTupE : Expr → Bool
  | .Tuple .. => true
  | _ => false
theorem stores_no {e : Expr} {ts : List Expr} {k : Nat} {p : Pos} {env : Env} (h : isTupE e = false) : swappedStores [.Tuple ts k p] e env = pure none := by
  cases e <;> first | rfl | cases h
theorem stores_sub {e : Expr} {o i : Expr} {p : Pos} {env : Env} : swappedStores [.Subscript o i p] e env = pure none := by
  cases e <;> rfl
def lc2 (sc : Scope) (x : Str) : Bool := decide (sc.names.lookup x = some .local)
theorem block_fn {env : Env} (hk : env.scope.kind = .function) : env.blockKind = .function := by
  unfold Env.blockKind
  rw [hk]
  rfl
theorem stores_cell {a b : Expr} {x y : Str} {px py p p2 : Pos} {k k2 : Nat} {env : Env} (hk : env.scope.kind = .function) (h : env.kindOf x ≠ some .local ∨ env.kindOf y ≠ some .local) :
    swappedStores [.Tuple [.Name x px, .Name y py] k p] (.Tuple [a, b] k2 p2) env = pure none := by
  unfold swappedStores
  have e : env.blockKind = .function := block_fn hk
  have hp : Expr.pos (.Name x px) = px := rfl
  have hb : ((env.kindOf x == some .local && px.line == px.line) && (env.kindOf y == some .local && py.line == px.line)) = false := by
    rcases h with h | h
    · rw [beq_eq_false_iff_ne.mpr h] <;> rfl
    · rw [beq_eq_false_iff_ne.mpr h, Bool.false_and, Bool.and_false]
  simp only [e, List.length_cons, List.length_nil, List.head?_cons, Option.map_some, Option.getD_some, List.filterMap_cons, List.filterMap_nil, hp]
  generalize (env.kindOf x == some .local && px.line == px.line) = u at hb ⊢
  generalize (env.kindOf y == some .local && py.line == px.line) = v at hb ⊢
  cases u <;> cases v <;> first | (simp; done) | cases hb
theorem stores_two {a b : Expr} {x y : Str} {px py p p2 : Pos} {k k2 : Nat} {env : Env} (hk : env.scope.kind = .function) (hx : env.kindOf x = some .local) (hy : env.kindOf y = some .local) (hxy : x ≠ y) (hl : (py.line == px.line) = true)
    (ha : notStar a = true) (hb : notStar b = true) (hf : (foldedForSure 8 a && foldedForSure 8 b) = false) (hc : (constantsAlone 8 a && constantsAlone 8 b) = false) :
    swappedStores [.Tuple [.Name x px, .Name y py] k p] (.Tuple [a, b] k2 p2) env = pure (some [x, y]) := by
  have sa : ∀ e : Expr, notStar e = true → (match e with | .Starred .. => true | _ => false) = false := by
    intro e he
    cases e <;> first | rfl | cases he
  unfold swappedStores
  have e : env.blockKind = .function := block_fn hk
  have hp : Expr.pos (.Name x px) = px := rfl
  have hxy' : (y == x) = false := beq_eq_false_iff_ne.mpr (Ne.symm hxy)
  simp only [e, List.length_cons, List.length_nil, List.any_cons, List.any_nil, sa a ha, sa b hb, List.head?_cons, Option.map_some, Option.getD_some, List.filterMap_cons, List.filterMap_nil, hx, hy, hp, hl, beq_self_eq_true, Bool.and_self, if_true, List.eraseDups_cons, List.filter_cons, hxy', List.all_cons, List.all_nil, Bool.and_true, hf, hc]
  simp
  have z : [y].eraseDups.length = 1 := by
    rw [List.eraseDups_cons]
    rfl
  rw [if_pos z]
  refine if_neg ?_
  intro q
  rcases q with q | q
  · exact Bool.false_ne_true ((sa a ha).symm.trans q)
  · exact Bool.false_ne_true ((sa b hb).symm.trans q)
theorem app_few {e : Expr} {cpos : Pos} {env : Env} (h : notStar e = true) : ((backTo cpos (starEach [e] env)).all (fun x => !x.1) && (backToKw cpos (keywordEach [] env)).all (fun x => x.1.isSome)
      && decide ([e].length + ([] : List Keyword).length + (if ([] : List Keyword).isEmpty then 0 else 1) < 30)) = true := few_args (by rw [List.all_cons, h]; rfl) (show 1 < 20 by decide)

/-! ### own lists made -/
abbrev CO (Γ : Gam) (c : Ct) (e : Expr) := { ir : Oe // isCompE e = false ∧ notStar e = true ∧ ∀ W C X, Good Γ c W C X → PE X e (tE X.K W C (evO Γ ir)) }
def cNew (Γ : Gam) (n : Nat) (c : Ct) : (e : Expr) → Option (CO Γ c e)
  | .List [] pos => some ⟨.new, rfl, rfl, fun W C X G => PE.imp (pe_lst pa_nil) fun _ _ _ => o_new⟩
  | .Call (.Name x p) [e] [] pos =>
    if h : x = "list" ∧ gls c.sc x ∧ notStar e = true then do
      let e' ← cE Γ n c e
      some ⟨.list e'.1, rfl, rfl, fun W C X G => by
        obtain ⟨rfl, g, hs⟩ := h
        exact PE.imp (pe_callTy call_list_of (G.gl g) (G.free _ (by decide +kernel)) PyProof.Rows.boot_list (pa_cons (e'.2 W C X G) pa_nil (star_no hs)) (by decide +kernel) (by decide +kernel) (star_no hs)) fun _ _ _ => o_list⟩
    else none
  | .BoolOp .Or [.Call (.Name x p) [e] [] pos, .List [z] pos2] pos3 =>
    if h : x = "list" ∧ gls c.sc x ∧ notStar e = true ∧ notStar z = true then do
      let e' ← cE Γ n c e
      let z' ← cE Γ n c z
      some ⟨.listOr e'.1 z'.1, rfl, rfl, fun W C X G => by
        obtain ⟨rfl, g, hs, hs2⟩ := h
        exact PE.imp (pe_orT (pe_callTy call_list_of (G.gl g) (G.free _ (by decide +kernel)) PyProof.Rows.boot_list (pa_cons (e'.2 W C X G) pa_nil (star_no hs)) (by decide +kernel) (by decide +kernel) (star_no hs)) (pe_one (pe_lst (pa_cons (z'.2 W C X G) pa_nil (star_no hs2)))))
          fun _ _ _ => o_listOr⟩
    else none
  | _ => none
def cO (Γ : Gam) (n : Nat) (c : Ct) (own : Bool) (e : Expr) : Option (CO Γ c e) :=
  if own = true then cNew Γ n c e
  else if h : isCompE e = false ∧ notStar e = true then do
    let e' ← cE Γ n c e
    some ⟨.dat e'.1, h.1, h.2, fun W C X G => PE.imp (e'.2 W C X G) fun _ _ _ => o_dat⟩
  else none
/-- a comprehension in a pair's place is not stored by the statement itself -/
def cO2 (Γ : Gam) (n : Nat) (c : Ct) (own : Bool) (e : Expr) : Option { ir : Oe // notStar e = true ∧ ∀ W C X, Good Γ c W C X → PE X e (tE X.K W C (evO Γ ir)) } :=
  if own = true then do
    let r ← cNew Γ n c e
    some ⟨r.1, r.2.2.1, r.2.2.2⟩
  else if h : notStar e = true then do
    let e' ← cE Γ n c e
    some ⟨.dat e'.1, h, fun W C X G => PE.imp (e'.2 W C X G) fun _ _ _ => o_dat⟩
  else none

/-! ### statements -/
def cAsgName (Γ : Gam) (n : Nat) (c : Ct) (x : Str) (px : Pos) (pos : Pos) : (e : Expr) → Option (CS Γ c (.Assign [.Name x px] e pos))
  | .ListComp elt [⟨tg, iter, [], asy⟩] scope lpos =>
    if h : stOk c x ∧ c.sc.names.lookup x = some .local ∧ (px.line == lpos.line) = true ∧ (scope.names.any fun (n, k) => n == x && (k == .local || k == .cell)) = false ∧ asy = 0 ∧ blkC c.N c.sc scope (ownOf c.N scope) = true ∧ isSet iter = false then do
      let i' ← cI Γ n c tg iter
      let g' ← cG Γ (c.sub scope) tg
      let e' ← cE Γ n (c.sub scope) elt
      if ht : ∀ i ∈ g'.1.2, i ∈ (ownOf c.N scope).map (·.2) then
        some ⟨.asg true [c.N.idxOf x] (.comp i'.1 g'.1.1 g'.1.2 ((ownOf c.N scope).map (·.2)) e'.1), fun W C X G => by
          obtain ⟨hst, hl, hp, hany, rfl, hb, hs⟩ := h
          have hyl : X.env.scope.names.lookup x = some .local := by
            rw [G.hsc]
            exact hl
          exact PS.imp (ps_setLc G.calm G.nd (by rw [G.hN]; exact hst.1) hyl (sw_true G.kind hyl hp hany) (i'.2 W C X G.toGood) (by rw [G.hN, G.hsc]; exact blkOk_by hb) (fun s H Cc cl fp => g'.2 _ _ _ (G.toGood.blk scope s H Cc cl fp))
            (fun s H Cc cl fp => pts_nil) (fun s H Cc cl fp => e'.2 _ _ _ (G.toGood.blk scope s H Cc cl fp)) (set_no' hs)) fun _ _ _ q => r_comp ht (s_asg q)⟩
      else none
    else none
  | .ListComp elt [⟨tg, iter, [k], asy⟩] scope lpos =>
    if h : stOk c x ∧ c.sc.names.lookup x = some .local ∧ (px.line == lpos.line) = true ∧ (scope.names.any fun (n, k) => n == x && (k == .local || k == .cell)) = false ∧ asy = 0 ∧ blkC c.N c.sc scope (ownOf c.N scope) = true ∧ isSet iter = false then do
      let i' ← cI Γ n c tg iter
      let g' ← cG Γ (c.sub scope) tg
      let k' ← cT Γ n (c.sub scope) k
      let e' ← cE Γ n (c.sub scope) elt
      if ht : ∀ i ∈ g'.1.2, i ∈ (ownOf c.N scope).map (·.2) then
        some ⟨.asg true [c.N.idxOf x] (.compIf i'.1 g'.1.1 g'.1.2 ((ownOf c.N scope).map (·.2)) k'.1 e'.1), fun W C X G => by
          obtain ⟨hst, hl, hp, hany, rfl, hb, hs⟩ := h
          have hyl : X.env.scope.names.lookup x = some .local := by
            rw [G.hsc]
            exact hl
          exact PS.imp (ps_setLc G.calm G.nd (by rw [G.hN]; exact hst.1) hyl (sw_true G.kind hyl hp hany) (i'.2 W C X G.toGood) (by rw [G.hN, G.hsc]; exact blkOk_by hb) (fun s H Cc cl fp => g'.2 _ _ _ (G.toGood.blk scope s H Cc cl fp))
            (fun s H Cc cl fp => pts_one (k'.2 _ _ _ (G.toGood.blk scope s H Cc cl fp))) (fun s H Cc cl fp => e'.2 _ _ _ (G.toGood.blk scope s H Cc cl fp)) (set_no' hs)) fun _ _ _ q => r_compIf ht (s_asg q)⟩
      else none
    else none
  | e =>
    if h : stOk c x ∧ isCompE e = false then
      if c.ms.contains (c.N.idxOf x) = true then do
        let o ← cO Γ n c true e
        some ⟨.one (c.N.idxOf x) o.1, fun W C X G => PS.imp (ps_set G.nd (by rw [G.hN]; exact h.1.1) (G.st x h.1.2).1 (o.2.2.2 W C X G.toGood) (swaps_no h.2) (G.st x h.1.2).2) fun _ _ _ => s_one⟩
      else do
        let e' ← cE Γ n c e
        some ⟨.asg true [c.N.idxOf x] e'.1, fun W C X G => PS.imp (ps_set G.nd (by rw [G.hN]; exact h.1.1) (G.st x h.1.2).1 (e'.2 W C X G.toGood) (swaps_no h.2) (G.st x h.1.2).2) fun _ _ _ => s_asg⟩
    else none
def cAsgTup (Γ : Gam) (n : Nat) (c : Ct) (ts : List Expr) (k : Nat) (p pos : Pos) : (e : Expr) → Option (CS Γ c (.Assign [.Tuple ts k p] e pos))
  | .Tuple [a, b] k2 p2 =>
    match ts with
    | [.Name x px, .Name y py] =>
      if h : stOk c x ∧ stOk c y ∧ c.sc.names.lookup x = some .local ∧ c.sc.names.lookup y = some .local ∧ x ≠ y ∧ (py.line == px.line) = true ∧ (foldedForSure 8 a && foldedForSure 8 b) = false ∧ (constantsAlone 8 a && constantsAlone 8 b) = false ∧ c.N.idxOf x ≠ c.N.idxOf y then do
        let a' ← cO2 Γ n c (c.ms.contains (c.N.idxOf x)) a
        let b' ← cO2 Γ n c (c.ms.contains (c.N.idxOf y)) b
        some ⟨.par (c.N.idxOf x) (c.N.idxOf y) a'.1 b'.1, fun W C X G => by
          obtain ⟨hx, hy, lx, ly, hxy, hl, hf, hc, hij⟩ := h
          have kx : X.env.scope.names.lookup x = some .local := by
            rw [G.hsc]
            exact lx
          have ky : X.env.scope.names.lookup y = some .local := by
            rw [G.hsc]
            exact ly
          exact PS.imp (ps_par G.calm G.nd (by rw [G.hN]; exact hx.1) (by rw [G.hN]; exact hy.1) hij kx ky (pa_cons (a'.2.2 W C X G.toGood) (pa_cons (b'.2.2 W C X G.toGood) pa_nil (star_no b'.2.1)) (star_no a'.2.1))
            (stores_two G.kind kx ky hxy hl a'.2.1 b'.2.1 hf hc) swaps_tup) fun _ _ _ => s_par⟩
      else if h : c.sc.names.lookup x ≠ some .local ∨ c.sc.names.lookup y ≠ some .local then do
        let g' ← cG Γ c (.Tuple [.Name x px, .Name y py] k p)
        let e' ← cE Γ n c (.Tuple [a, b] k2 p2)
        some ⟨.asg g'.1.1 g'.1.2 e'.1, fun W C X G => PS.imp (ps_asg (e'.2 W C X G.toGood) (g'.2 W C X G.toGood) swaps_tup (stores_cell G.kind (by
          show X.env.scope.names.lookup x ≠ some .local ∨ X.env.scope.names.lookup y ≠ some .local
          rw [G.hsc]
          exact h)) rfl) fun _ _ _ => s_asg⟩
      else none
    | _ => none
  | .ListComp elt gs scope lpos => do
    let g' ← cGs Γ c ts
    let e' ← cE Γ n c (.ListComp elt gs scope lpos)
    some ⟨.unl g'.1 e'.1, fun W C X G => by
      obtain ⟨h1, h2⟩ := asg_len (env := X.env) g'.2.2.1
      exact PS.imp (ps_asg (e'.2 W C X G.toGood) (pg_unl (n := g'.1.length) G.calm (g'.2.2.2 W C X G.toGood) (by rw [h1, g'.2.1]) h2) swaps_tup (stores_no rfl) rfl) fun _ _ _ => s_unl⟩
  | e =>
    if h : isTupE e = false then do
      let g' ← cG Γ c (.Tuple ts k p)
      let e' ← cE Γ n c e
      some ⟨.asg g'.1.1 g'.1.2 e'.1, fun W C X G => PS.imp (ps_asg (e'.2 W C X G.toGood) (g'.2 W C X G.toGood) swaps_tup (stores_no h) rfl) fun _ _ _ => s_asg⟩
    else none
def isAtom : Expr → Bool
  | .Name .. => true
  | .Constant .. => true
  | _ => false
theorem sub_assign {o i : Expr} {pos : Pos} {X : Cx} (h : isAtom i = true) : ∀ v, assign (.Subscript o i pos) X.env v = (do
      let ov ← holding [v] (eval o X.env)
      let iv ← holding [v, ov] (eval i X.env)
      standAt pos
      holding [v, ov, iv] (setItem ov iv v)
      release [v, ov, iv] []) := by
  cases i <;> first | (intro _; rfl) | cases h
mutual
def cS (Γ : Gam) : Nat → (c : Ct) → (s : Stmt) → Option (CS Γ c s)
  | 0, _, _ => none
  | n + 1, c, .Return (some e) pos =>
    match cOwn c e with
    | some ⟨i, g⟩ => some ⟨.retO i, fun W C X G => PS.imp (ps_ret (g Γ W C X G.toGood)) fun _ _ _ => s_retO⟩
    | none => do
      let e' ← cE Γ n c e
      some ⟨.ret e'.1, fun W C X G => PS.imp (ps_ret (e'.2 W C X G.toGood)) fun _ _ _ => s_ret⟩
  | n + 1, c, .Expr (.Call (.Attribute (.Name o p1) m apos) [.Call (.Attribute (.Name o2 p2) m2 apos2) [k] [] cpos2] [] cpos) pos =>
    if h : m = "append" ∧ m2 = "pop" ∧ ownN c o ∧ ownN c o2 ∧ notStar k = true ∧ (apos.endLine == cpos.line) = true ∧ (apos2.endLine == cpos2.line) = true then do
      let k' ← cE Γ n c k
      some ⟨.appPop (c.N.idxOf o) (c.N.idxOf o2) k'.1, fun W C X G => by
        obtain ⟨rfl, rfl, h1, h2, hs, l1, l2⟩ := h
        have inner := pe_bm PySem.F.plainAttrs_list PySem.F.slot_list_pop PySem.F.type_list_pop mt_popAt (pe_own G.toGood h2 (p := p2)) (pa_cons (k'.2 W C X G.toGood) pa_nil (star_no hs)) base_name (app_few (cpos := cpos2) hs) l2 (star_no hs) rfl
        exact PS.imp (ps_expr (pe_bm PySem.F.plainAttrs_list PySem.F.slot_list_append PySem.F.type_list_append mt_append (pe_own G.toGood h1 (p := p1)) (pa_cons inner pa_nil) base_name (app_few rfl) l1 rfl rfl) (swaps_no rfl)) fun _ _ _ => s_appPop⟩
    else none
  | n + 1, c, .Expr (.Call (.Attribute (.Name o p1) m apos) [e] [] cpos) pos =>
    if h : m = "append" ∧ ownN c o ∧ notStar e = true ∧ (apos.endLine == cpos.line) = true then do
      let e' ← cE Γ n c e
      some ⟨.app (c.N.idxOf o) e'.1, fun W C X G => by
        obtain ⟨rfl, h1, hs, l1⟩ := h
        exact PS.imp (ps_expr (pe_bm PySem.F.plainAttrs_list PySem.F.slot_list_append PySem.F.type_list_append mt_append (pe_own G.toGood h1 (p := p1)) (pa_cons (e'.2 W C X G.toGood) pa_nil (star_no hs)) base_name (app_few hs) l1 (star_no hs) rfl) (swaps_no rfl)) fun _ _ _ => s_app⟩
    else if h : m = "extend" ∧ ownN c o ∧ notStar e = true ∧ (apos.endLine == cpos.line) = true then do
      let e' ← cE Γ n c e
      some ⟨.ext (c.N.idxOf o) e'.1, fun W C X G => by
        obtain ⟨rfl, h1, hs, l1⟩ := h
        exact PS.imp (ps_expr (pe_bm PySem.F.plainAttrs_list PySem.F.slot_list_extend PySem.F.type_list_extend p_ext (pe_own G.toGood h1 (p := p1)) (pa_cons (e'.2 W C X G.toGood) pa_nil (star_no hs)) base_name (app_few hs) l1 (star_no hs) rfl) (swaps_no rfl)) fun _ _ _ => s_ext⟩
    else none
  | n + 1, c, .Expr (.Call f as ks p) pos => do
    let e' ← cE Γ n c (.Call f as ks p)
    some ⟨.drop e'.1, fun W C X G => PS.imp (ps_expr (e'.2 W C X G.toGood) (swaps_no rfl)) fun _ _ _ => s_drop⟩
  | n + 1, c, .Assign [.Name x px] e pos => cAsgName Γ n c x px pos e
  | n + 1, c, .Assign [.Tuple ts k p] e pos => cAsgTup Γ n c ts k p pos e
  | n + 1, c, .Assign [.Subscript (.Name o p1) i p2] e pos =>
    if h : ownN c o ∧ isAtom i = true then do
      let i' ← cE Γ n c i
      let e' ← cE Γ n c e
      some ⟨.oset (c.N.idxOf o) i'.1 e'.1, fun W C X G => PS.imp (ps_asg (e'.2 W C X G.toGood) (pg_sub (pe_own G.toGood h.1 (p := p1)) (i'.2 W C X G.toGood) set_list (sub_assign h.2)) swaps_sub stores_sub rfl) fun _ _ _ => s_oset⟩
    else if h : c.N[c.N.idxOf o]? = some o ∧ vis c.sc o ∧ (o == ("__debug__" : Str)) = false ∧ (o == ("__classdict__" : Str)) = false ∧ isAtom i = true then do
      let i' ← cE Γ n c i
      let e' ← cE Γ n c e
      some ⟨.tset (c.N.idxOf o) i'.1 e'.1, fun W C X G => PS.imp (ps_asg (e'.2 W C X G.toGood) (pg_sub (pe_var (pos := p1) (by rw [G.hN]; exact h.1) (G.toGood.vis h.2.1) h.2.2.1 h.2.2.2.1) (i'.2 W C X G.toGood) set_list (sub_assign h.2.2.2.2)) swaps_sub stores_sub rfl) fun _ _ _ => s_tset⟩
    else none
  | n + 1, c, .If k a b pos => do
    let k' ← cT Γ n c k
    let a' ← cSs Γ n c a
    let b' ← cSs Γ n c b
    some ⟨.ife k'.1 a'.1 b'.1, fun W C X G => PS.imp (ps_if (k'.2 W C X G.toGood) (a'.2 W C X G) (b'.2 W C X G)) fun _ _ _ => s_ife⟩
  | n + 1, c, .For tg iter body [] pos =>
    if h : isSet iter = false then do
      let i' ← cI Γ n c tg iter
      let g' ← cG Γ c tg
      let b' ← cSs Γ n c body
      some ⟨.loop i'.1 g'.1.1 g'.1.2 b'.1, fun W C X G => PS.imp (ps_for G.po G.calm (i'.2 W C X G.toGood) (g'.2 W C X G.toGood) (b'.2 W C X G) (set_no' h)) fun _ _ _ => s_loop⟩
    else none
  | n + 1, c, .Raise (some (.Call (.Name x p) [] [] p2)) none pos =>
    if h : x = "NoPaper" ∧ gls c.sc x then
      some ⟨.raiseP, fun W C X G => by
        obtain ⟨rfl, g⟩ := h
        exact PS.imp (ps_raise G.calm G.takes (G.np p p2 (G.toGood.gl g))) fun _ _ _ => s_raise⟩
    else some ⟨.never, fun W C X G => PS.imp ps_never fun _ _ _ => s_never⟩
  | _, _, _ => none
def cSs (Γ : Gam) : Nat → (c : Ct) → (s : List Stmt) → Option (CSs Γ c s)
  | 0, _, _ => none
  | n + 1, c, [] => some ⟨.nil, fun W C X G => PSs.imp pss_nil fun _ _ _ => s_nil⟩
  | n + 1, c, st :: sts => do
    let a ← cS Γ n c st
    let b ← cSs Γ n c sts
    some ⟨.cons a.1 b.1, fun W C X G => PSs.imp (pss_cons (a.2 W C X G) (b.2 W C X G)) fun _ _ _ => s_cons⟩
end
end Dry
set_option Elab.async false
set_option linter.all false
set_option maxRecDepth 100000
set_option maxHeartbeats 4000000
/-! DryL: the defs' meanings. -/
namespace Dry
open PySem PySem.Spec PyProof.Rows L2
abbrev PP : Program := PySem.Challenge.pw_drycells_k43_whole_what_all_keys_read
def top (i : Nat) : Stmt := PP.main.body.getD i (.Pass ⟨0, 0, 0, 0⟩)
def ctOf (i : Nat) (N : List Str) (ms : List Nat) : Ct := ⟨N, defScope (top i), ms, fun x => decide ((defScope (top i)).names.lookup x = some .local) || decide ((defScope (top i)).names.lookup x = some .cell)⟩
def f_tupled : Sxs := (.cons (.ret (.ite (.isI [.list, .tuple] (.var 0)) (.fn .tuple (.cons (.comp (.seq (.var 0)) true [1] [1] (.call "tupled" (.cons (.var 1) .nil))) .nil)) (.var 0))) .nil)
theorem f_tupled_ok (Γ : Gam) : (cSs Γ 60 (ctOf 4 ["thing", "part"] []) (defBody (top 4))).map (·.1) = some f_tupled := by
  kernel_rfl
def f_is_number : Sxs := (.cons (.ret (.and_ (.isI [.int] (.var 0)) (.not_ (.isI [.bool] (.var 0))))) .nil)
theorem f_is_number_ok (Γ : Gam) : (cSs Γ 60 (ctOf 5 ["thing"] []) (defBody (top 5))).map (·.1) = some f_is_number := by
  kernel_rfl
def f_is_count : Sxs := (.cons (.ret (.and_ (.call "is_number" (.cons (.var 0) .nil)) (.two .ge (.var 0) (.int 0)))) .nil)
theorem f_is_count_ok (Γ : Gam) : (cSs Γ 60 (ctOf 6 ["thing"] []) (defBody (top 6))).map (·.1) = some f_is_count := by
  kernel_rfl
def f_is_below : Sxs := (.cons (.ret (.and_ (.call "is_count" (.cons (.var 0) .nil)) (.two .lt (.var 0) (.var 1)))) .nil)
theorem f_is_below_ok (Γ : Gam) : (cSs Γ 60 (ctOf 7 ["thing", "many"] []) (defBody (top 7))).map (·.1) = some f_is_below := by
  kernel_rfl
def f_is_tuple_of : Sxs := (.cons (.ret (.and_ (.isI [.tuple] (.var 0)) (.two .eq (.fn .len (.cons (.var 0) .nil)) (.var 1)))) .nil)
theorem f_is_tuple_of_ok (Γ : Gam) : (cSs Γ 60 (ctOf 8 ["thing", "size"] []) (defBody (top 8))).map (·.1) = some f_is_tuple_of := by
  kernel_rfl
def f_is_prime : Sxs := (.cons (.ret (.and_ (.call "is_number" (.cons (.var 0) .nil)) (.two .in_ (.var 0) .primes))) .nil)
theorem f_is_prime_ok (Γ : Gam) : (cSs Γ 60 (ctOf 11 ["thing"] []) (defBody (top 11))).map (·.1) = some f_is_prime := by
  kernel_rfl
def f_is_row : Sxs := (.cons (.ret (.and_ (.isI [.tuple] (.var 1)) (.fn .all (.cons (.comp (.seq (.var 1)) true [2] [2] (.call "is_below" (.cons (.var 2) (.cons (.var 0) .nil)))) .nil)))) .nil)
theorem f_is_row_ok (Γ : Gam) : (cSs Γ 60 (ctOf 12 ["p", "thing", "own"] []) (defBody (top 12))).map (·.1) = some f_is_row := by
  kernel_rfl
def f_inverse_digit : Sxs := (.cons (.asg true [2] (.compIf (.fn .rng1 (.cons (.var 0) .nil)) true [3] [3] (.two .eq (.two .mod (.two .mul (.var 3) (.var 1)) (.var 0)) (.int 1)) (.var 3))) (.cons (.ife (.two .eq (.var 2) (.lst .nil)) (.cons .never .nil) .nil) (.cons (.ret (.ix (.var 2) (.int 0))) .nil)))
theorem f_inverse_digit_ok (Γ : Gam) : (cSs Γ 60 (ctOf 13 ["p", "digit", "found", "own"] []) (defBody (top 13))).map (·.1) = some f_inverse_digit := by
  kernel_rfl
def f_zero_row : Sxs := (.cons (.ret (.two .mul (.tup (.cons (.int 0) .nil)) (.var 0))) .nil)
theorem f_zero_row_ok (Γ : Gam) : (cSs Γ 60 (ctOf 14 ["many"] []) (defBody (top 14))).map (·.1) = some f_zero_row := by
  kernel_rfl
def f_unit_row : Sxs := (.cons (.ife (.two .ge (.var 1) (.var 0)) (.cons .never .nil) .nil) (.cons (.ret (.fn .tuple (.cons (.comp (.fn .rng1 (.cons (.var 0) .nil)) true [2] [2] (.fn .int (.cons (.two .eq (.var 2) (.var 1)) .nil))) .nil))) .nil))
theorem f_unit_row_ok (Γ : Gam) : (cSs Γ 60 (ctOf 15 ["many", "place", "own"] []) (defBody (top 15))).map (·.1) = some f_unit_row := by
  kernel_rfl
def f_fit_lengths : Sxs := (.cons (.ife (.two .ne (.fn .len (.cons (.var 0) .nil)) (.fn .len (.cons (.var 1) .nil))) (.cons .never .nil) .nil) .nil)
theorem f_fit_lengths_ok (Γ : Gam) : (cSs Γ 60 (ctOf 16 ["one", "other"] []) (defBody (top 16))).map (·.1) = some f_fit_lengths := by
  kernel_rfl
def f_row_sum : Sxs := (.cons (.drop (.call "fit_lengths" (.cons (.var 1) (.cons (.var 2) .nil)))) (.cons (.ret (.fn .tuple (.cons (.comp (.fn .zip (.cons (.var 1) (.cons (.var 2) .nil))) false [3, 4] [3, 4] (.two .mod (.two .add (.var 3) (.var 4)) (.var 0))) .nil))) .nil))
theorem f_row_sum_ok (Γ : Gam) : (cSs Γ 60 (ctOf 17 ["p", "one", "other", "near", "far"] []) (defBody (top 17))).map (·.1) = some f_row_sum := by
  kernel_rfl
def f_row_less : Sxs := (.cons (.drop (.call "fit_lengths" (.cons (.var 1) (.cons (.var 2) .nil)))) (.cons (.ret (.fn .tuple (.cons (.comp (.fn .zip (.cons (.var 1) (.cons (.var 2) .nil))) false [3, 4] [3, 4] (.two .mod (.two .sub (.var 3) (.var 4)) (.var 0))) .nil))) .nil))
theorem f_row_less_ok (Γ : Gam) : (cSs Γ 60 (ctOf 18 ["p", "one", "other", "near", "far"] []) (defBody (top 18))).map (·.1) = some f_row_less := by
  kernel_rfl
def f_row_times : Sxs := (.cons (.ret (.fn .tuple (.cons (.comp (.seq (.var 2)) true [3] [3] (.two .mod (.two .mul (.var 1) (.var 3)) (.var 0))) .nil))) .nil)
theorem f_row_times_ok (Γ : Gam) : (cSs Γ 60 (ctOf 19 ["p", "digit", "row", "own"] []) (defBody (top 19))).map (·.1) = some f_row_times := by
  kernel_rfl
def f_row_product : Sxs := (.cons (.drop (.call "fit_lengths" (.cons (.var 1) (.cons (.var 2) .nil)))) (.cons (.ret (.two .mod (.fn .sum (.cons (.comp (.fn .zip (.cons (.var 1) (.cons (.var 2) .nil))) false [3, 4] [3, 4] (.two .mul (.var 3) (.var 4))) .nil)) (.var 0))) .nil))
theorem f_row_product_ok (Γ : Gam) : (cSs Γ 60 (ctOf 20 ["p", "one", "other", "near", "far"] []) (defBody (top 20))).map (·.1) = some f_row_product := by
  kernel_rfl
def f_sum_of_multiples : Sxs := (.cons (.asg true [4] (.call "zero_row" (.cons (.var 1) .nil))) (.cons (.loop (.seq (.var 2)) true [5] (.cons (.drop (.call "fit_lengths" (.cons (.var 4) (.cons (.var 5) .nil)))) .nil)) (.cons (.drop (.call "fit_lengths" (.cons (.var 2) (.cons (.var 3) .nil)))) (.cons (.loop (.fn .zip (.cons (.var 2) (.cons (.var 3) .nil))) false [5, 6] (.cons (.asg true [4] (.call "row_sum" (.cons (.var 0) (.cons (.var 4) (.cons (.call "row_times" (.cons (.var 0) (.cons (.var 6) (.cons (.var 5) .nil)))) .nil))))) .nil)) (.cons (.ret (.var 4)) .nil)))))
theorem f_sum_of_multiples_ok (Γ : Gam) : (cSs Γ 60 (ctOf 21 ["p", "many", "rows", "digits", "found", "row", "digit"] []) (defBody (top 21))).map (·.1) = some f_sum_of_multiples := by
  kernel_rfl
def f_marked_places : Sxs := (.cons (.ret (.fn .tuple (.cons (.compIf (.fn .enum (.cons (.var 0) .nil)) false [1, 2] [1, 2] (.two .ne (.var 2) (.int 0)) (.var 1)) .nil))) .nil)
theorem f_marked_places_ok (Γ : Gam) : (cSs Γ 60 (ctOf 22 ["row", "place", "own"] []) (defBody (top 22))).map (·.1) = some f_marked_places := by
  kernel_rfl
def f_led_row : Sxs := (.cons (.asg true [2] (.call "marked_places" (.cons (.var 1) .nil))) (.cons (.ife (.two .eq (.var 2) (.tup .nil)) (.cons .never .nil) .nil) (.cons (.ret (.call "row_times" (.cons (.var 0) (.cons (.call "inverse_digit" (.cons (.var 0) (.cons (.ix (.var 1) (.ix (.var 2) (.int 0))) .nil))) (.cons (.var 1) .nil))))) .nil)))
theorem f_led_row_ok (Γ : Gam) : (cSs Γ 60 (ctOf 23 ["p", "row", "places"] []) (defBody (top 23))).map (·.1) = some f_led_row := by
  kernel_rfl
def f_fit_rows : Sxs := (.cons (.ife (.not_ (.fn .all (.cons (.comp (.seq (.var 1)) true [2] [2] (.two .eq (.fn .len (.cons (.var 2) .nil)) (.var 0))) .nil))) (.cons .never .nil) .nil) .nil)
theorem f_fit_rows_ok (Γ : Gam) : (cSs Γ 60 (ctOf 25 ["many", "rows", "own"] []) (defBody (top 25))).map (·.1) = some f_fit_rows := by
  kernel_rfl
def f_place_led : Sxs := (.cons (.loop (.fn .enum (.cons (.var 0) .nil)) false [1, 2] (.cons (.ife (.two .ne (.var 2) (.int 0)) (.cons (.ret (.var 1)) .nil) .nil) .nil)) (.cons (.ret .non) .nil))
theorem f_place_led_ok (Γ : Gam) : (cSs Γ 60 (ctOf 26 ["row", "place", "own"] []) (defBody (top 26))).map (·.1) = some f_place_led := by
  kernel_rfl
def f_less_at : Sxs := (.cons (.ret (.call "row_less" (.cons (.var 0) (.cons (.var 1) (.cons (.call "row_times" (.cons (.var 0) (.cons (.ix (.var 1) (.var 3)) (.cons (.var 2) .nil)))) .nil))))) .nil)
theorem f_less_at_ok (Γ : Gam) : (cSs Γ 60 (ctOf 27 ["p", "row", "lead", "place"] []) (defBody (top 27))).map (·.1) = some f_less_at := by
  kernel_rfl
def f_with_row : Sxs := (.cons (.asg true [3] (.var 2)) (.cons (.loop (.seq (.var 1)) false [4, 5] (.cons (.asg true [3] (.call "less_at" (.cons (.var 0) (.cons (.var 3) (.cons (.var 5) (.cons (.var 4) .nil)))))) .nil)) (.cons (.asg true [6] (.call "place_led" (.cons (.var 3) .nil))) (.cons (.ife (.isN (.var 6)) (.cons (.ret (.tup (.cons (.var 1) (.cons (.bl true) .nil)))) .nil) .nil) (.cons (.asg true [7] (.call "led_row" (.cons (.var 0) (.cons (.var 3) .nil)))) (.cons (.asg true [8] (.comp (.seq (.var 1)) false [4, 5] [4, 5] (.tup (.cons (.var 4) (.cons (.call "less_at" (.cons (.var 0) (.cons (.var 5) (.cons (.var 7) (.cons (.var 6) .nil))))) .nil))))) (.cons (.ret (.tup (.cons (.fn .sorted (.cons (.two .add (.var 8) (.lst (.cons (.tup (.cons (.var 6) (.cons (.var 7) .nil))) .nil))) .nil)) (.cons (.bl false) .nil)))) .nil)))))))
theorem f_with_row_ok (Γ : Gam) : (cSs Γ 60 (ctOf 28 ["p", "leads", "row", "left", "place", "lead", "where", "own", "found"] []) (defBody (top 28))).map (·.1) = some f_with_row := by
  kernel_rfl
def f_leads_of : Sxs := (.cons (.asg true [2] (.lst .nil)) (.cons (.loop (.seq (.var 1)) true [3] (.cons (.asg false [2, 4] (.call "with_row" (.cons (.var 0) (.cons (.var 2) (.cons (.var 3) .nil))))) .nil)) (.cons (.ret (.var 2)) .nil)))
theorem f_leads_of_ok (Γ : Gam) : (cSs Γ 60 (ctOf 29 ["p", "rows", "found", "row", "_"] []) (defBody (top 29))).map (·.1) = some f_leads_of := by
  kernel_rfl
def f_lead_places : Sxs := (.cons (.drop (.call "fit_rows" (.cons (.var 1) (.cons (.var 2) .nil)))) (.cons (.ret (.fn .tuple (.cons (.comp (.seq (.call "leads_of" (.cons (.var 0) (.cons (.call "tupled" (.cons (.var 2) .nil)) .nil)))) false [3, 4] [3, 4] (.var 3)) .nil))) .nil))
theorem f_lead_places_ok (Γ : Gam) : (cSs Γ 60 (ctOf 30 ["p", "many", "rows", "place", "_"] []) (defBody (top 30))).map (·.1) = some f_lead_places := by
  kernel_rfl
def f_grid_rank : Sxs := (.cons (.ret (.fn .len (.cons (.call "lead_places" (.cons (.var 0) (.cons (.var 1) (.cons (.var 2) .nil)))) .nil))) .nil)
theorem f_grid_rank_ok (Γ : Gam) : (cSs Γ 60 (ctOf 31 ["p", "many", "rows"] []) (defBody (top 31))).map (·.1) = some f_grid_rank := by
  kernel_rfl
def f_fit_both : Sxs := (.cons (.drop (.call "fit_rows" (.cons (.var 0) (.cons (.var 1) .nil)))) (.cons (.drop (.call "fit_rows" (.cons (.var 0) (.cons (.tup (.cons (.var 2) .nil)) .nil)))) .nil))
theorem f_fit_both_ok (Γ : Gam) : (cSs Γ 60 (ctOf 32 ["many", "rows", "row"] []) (defBody (top 32))).map (·.1) = some f_fit_both := by
  kernel_rfl
def f_is_spanned : Sxs := (.cons (.drop (.call "fit_both" (.cons (.var 1) (.cons (.var 2) (.cons (.var 3) .nil))))) (.cons (.ret (.ix (.call "with_row" (.cons (.var 0) (.cons (.call "leads_of" (.cons (.var 0) (.cons (.call "tupled" (.cons (.var 2) .nil)) .nil))) (.cons (.call "tupled" (.cons (.var 3) .nil)) .nil)))) (.int 1))) .nil))
theorem f_is_spanned_ok (Γ : Gam) : (cSs Γ 60 (ctOf 33 ["p", "many", "rows", "row"] []) (defBody (top 33))).map (·.1) = some f_is_spanned := by
  kernel_rfl
def f_fresh_in : Sxs := (.cons (.par 2 3 (.dat (.lst .nil)) .new) (.cons (.loop (.fn .enum (.cons (.var 1) .nil)) false [4, 5] (.cons (.asg false [2, 6] (.call "with_row" (.cons (.var 0) (.cons (.var 2) (.cons (.var 5) .nil))))) (.cons (.ife (.not_ (.var 6)) (.cons (.app 3 (.var 4)) .nil) .nil) .nil))) (.cons (.retO 3) .nil)))
theorem f_fresh_in_ok (Γ : Gam) : (cSs Γ 60 (ctOf 34 ["p", "rows", "leads", "found", "number", "row", "spanned"] [3]) (defBody (top 34))).map (·.1) = some f_fresh_in := by
  kernel_rfl
def f_multiples_in : Sxs := (.cons (.asg true [4] (.call "fresh_in" (.cons (.var 0) (.cons (.var 2) .nil)))) (.cons (.asg true [5] (.comp (.fn .enum (.cons (.var 4) .nil)) false [11, 12] [11, 12] (.two .add (.ix (.var 2) (.var 12)) (.call "unit_row" (.cons (.fn .len (.cons (.var 4) .nil)) (.cons (.var 11) .nil)))))) (.cons (.asg true [6] (.two .add (.var 3) (.call "zero_row" (.cons (.fn .len (.cons (.var 4) .nil)) .nil)))) (.cons (.loop (.seq (.call "leads_of" (.cons (.var 0) (.cons (.var 5) .nil)))) false [7, 8] (.cons (.asg true [6] (.call "less_at" (.cons (.var 0) (.cons (.var 6) (.cons (.var 8) (.cons (.var 7) .nil)))))) .nil)) (.cons (.ife (.notN (.call "place_led" (.cons (.cutTo (.var 6) (.var 1)) .nil))) (.cons (.ret .non) .nil) .nil) (.cons (.asg true [9] (.call "row_times" (.cons (.var 0) (.cons (.two .sub (.var 0) (.int 1)) (.cons (.cutFrom (.var 6) (.var 1)) .nil))))) (.cons (.asg true [10] (.dzip (.var 4) (.var 9))) (.cons (.ret (.fn .tuple (.cons (.comp (.fn .rng1 (.cons (.fn .len (.cons (.var 2) .nil)) .nil)) true [12] [12] (.get3 (.var 10) (.var 12) (.int 0))) .nil))) .nil))))))))
theorem f_multiples_in_ok (Γ : Gam) : (cSs Γ 60 (ctOf 35 ["p", "many", "rows", "row", "kept", "wide", "left", "place", "lead", "told", "by_number", "k", "number"] []) (defBody (top 35))).map (·.1) = some f_multiples_in := by
  kernel_rfl
def f_multiples_for : Sxs := (.cons (.drop (.call "fit_both" (.cons (.var 1) (.cons (.var 2) (.cons (.var 3) .nil))))) (.cons (.asg true [4] (.call "multiples_in" (.cons (.var 0) (.cons (.var 1) (.cons (.call "tupled" (.cons (.var 2) .nil)) (.cons (.call "tupled" (.cons (.var 3) .nil)) .nil)))))) (.cons (.ife (.isN (.var 4)) (.cons .raiseP .nil) .nil) (.cons (.ret (.var 4)) .nil))))
theorem f_multiples_for_ok (Γ : Gam) : (cSs Γ 60 (ctOf 36 ["p", "many", "rows", "row", "found"] []) (defBody (top 36))).map (·.1) = some f_multiples_for := by
  kernel_rfl
def f_is_multiples : Sxs := (.cons (.drop (.call "fit_both" (.cons (.var 1) (.cons (.var 2) (.cons (.var 3) .nil))))) (.cons (.ife (.or_ (.not_ (.call "is_row" (.cons (.var 0) (.cons (.var 4) .nil)))) (.two .ne (.fn .len (.cons (.var 4) .nil)) (.fn .len (.cons (.var 2) .nil)))) (.cons (.ret (.bl false)) .nil) .nil) (.cons (.ret (.two .eq (.call "sum_of_multiples" (.cons (.var 0) (.cons (.var 1) (.cons (.call "tupled" (.cons (.var 2) .nil)) (.cons (.var 4) .nil))))) (.call "tupled" (.cons (.var 3) .nil)))) .nil)))
theorem f_is_multiples_ok (Γ : Gam) : (cSs Γ 60 (ctOf 37 ["p", "many", "rows", "row", "thing"] []) (defBody (top 37))).map (·.1) = some f_is_multiples := by
  kernel_rfl
def f_unmarked_rows : Sxs := (.cons (.drop (.call "fit_rows" (.cons (.var 1) (.cons (.var 2) .nil)))) (.cons (.asg true [6] (.comp (.seq (.call "leads_of" (.cons (.var 0) (.cons (.comp (.seq (.call "tupled" (.cons (.var 2) .nil))) true [3] [3] (.rev (.var 3))) .nil)))) false [4, 5] [4, 5] (.tup (.cons (.two .sub (.two .sub (.var 1) (.int 1)) (.var 4)) (.cons (.rev (.var 5)) .nil))))) (.cons (.par 7 8 (.dat (.comp (.seq (.var 6)) false [4, 10] [4, 10] (.var 4))) .new) (.cons (.loop (.fn .rng1 (.cons (.var 1) .nil)) true [9] (.cons (.ife (.two .notin (.var 9) (.var 7)) (.cons (.one 3 (.list (.call "unit_row" (.cons (.var 1) (.cons (.var 9) .nil))))) (.cons (.loop (.seq (.var 6)) false [4, 5] (.cons (.oset 3 (.var 4) (.two .mod (.two .sub (.var 0) (.ix (.var 5) (.var 9))) (.var 0))) .nil)) (.cons (.app 8 (.otup 3)) .nil))) .nil) .nil)) (.cons (.ret (.otup 8)) .nil)))))
theorem f_unmarked_rows_ok (Γ : Gam) : (cSs Γ 60 (ctOf 38 ["p", "many", "rows", "own", "place", "lead", "leads", "places", "found", "free", "_"] [3, 8]) (defBody (top 38))).map (·.1) = some f_unmarked_rows := by
  kernel_rfl
def f_bar_row : Sxs := (.cons (.drop (.call "fit_both" (.cons (.var 1) (.cons (.var 2) (.cons (.var 3) .nil))))) (.cons (.loop (.seq (.call "unmarked_rows" (.cons (.var 0) (.cons (.var 1) (.cons (.var 2) .nil))))) true [4] (.cons (.ife (.two .ne (.call "row_product" (.cons (.var 0) (.cons (.var 4) (.cons (.var 3) .nil)))) (.int 0)) (.cons (.ret (.var 4)) .nil) .nil) .nil)) (.cons .raiseP .nil)))
theorem f_bar_row_ok (Γ : Gam) : (cSs Γ 60 (ctOf 39 ["p", "many", "rows", "row", "own"] []) (defBody (top 39))).map (·.1) = some f_bar_row := by
  kernel_rfl
def f_turned_grid : Sxs := (.cons (.drop (.call "fit_rows" (.cons (.var 1) (.cons (.var 2) .nil)))) (.cons (.ret (.fn .tuple (.cons (.comp (.fn .rng1 (.cons (.var 1) .nil)) true [4] [4] (.fn .tuple (.cons (.comp (.seq (.var 2)) true [3] [3] (.ix (.var 3) (.var 4))) .nil))) .nil))) .nil))
theorem f_turned_grid_ok (Γ : Gam) : (cSs Γ 60 (ctOf 40 ["p", "many", "rows", "own", "place"] []) (defBody (top 40))).map (·.1) = some f_turned_grid := by
  kernel_rfl
def f_shape_of : Sxs := (.cons (.asg false [1, 2] (.var 0)) (.cons (.ret (.tup (.cons (.var 1) (.cons (.fn .len (.cons (.var 2) .nil)) (.cons (.fn .len (.cons (.ix (.var 2) (.int 0)) .nil)) .nil))))) .nil))
theorem f_shape_of_ok (Γ : Gam) : (cSs Γ 60 (ctOf 42 ["picture", "top", "rows"] []) (defBody (top 42))).map (·.1) = some f_shape_of := by
  kernel_rfl
def f_cells_in : Sxs := (.cons (.asg false [1, 2, 3] (.call "shape_of" (.cons (.var 0) .nil))) (.cons (.ret (.two .mul (.var 2) (.var 3))) .nil))
theorem f_cells_in_ok (Γ : Gam) : (cSs Γ 60 (ctOf 43 ["picture", "_", "high", "wide"] []) (defBody (top 43))).map (·.1) = some f_cells_in := by
  kernel_rfl
def f_greys : Sxs := (.cons (.one 1 .new) (.cons (.loop (.seq (.ix (.var 0) (.int 1))) true [2] (.cons (.ext 1 (.var 2)) .nil)) (.cons (.ret (.otup 1)) .nil)))
theorem f_greys_ok (Γ : Gam) : (cSs Γ 60 (ctOf 44 ["picture", "found", "row"] [1]) (defBody (top 44))).map (·.1) = some f_greys := by
  kernel_rfl
def f_rests : Sxs := (.cons (.ret (.fn .tuple (.cons (.comp (.seq (.call "greys" (.cons (.var 0) .nil))) true [2] [2] (.two .mod (.var 2) (.var 1))) .nil))) .nil)
theorem f_rests_ok (Γ : Gam) : (cSs Γ 60 (ctOf 45 ["picture", "p", "grey"] []) (defBody (top 45))).map (·.1) = some f_rests := by
  kernel_rfl
def f_are_rows_of : Sxs := (.cons (.ret (.and_ (.isI [.tuple] (.var 2)) (.and_ (.two .ne (.var 2) (.tup .nil)) (.fn .all (.cons (.comp (.seq (.var 2)) true [3] [3] (.and_ (.call "is_row" (.cons (.var 0) (.cons (.var 3) .nil))) (.two .eq (.fn .len (.cons (.var 3) .nil)) (.var 1)))) .nil))))) .nil)
theorem f_are_rows_of_ok (Γ : Gam) : (cSs Γ 60 (ctOf 47 ["p", "many", "thing", "own"] []) (defBody (top 47))).map (·.1) = some f_are_rows_of := by
  kernel_rfl
def f_is_key : Sxs := (.cons (.ife (.or_ (.not_ (.call "is_tuple_of" (.cons (.var 0) (.cons (.int 3) .nil)))) (.or_ (.not_ (.call "is_prime" (.cons (.ix (.var 0) (.int 0)) .nil))) (.not_ (.call "is_count" (.cons (.ix (.var 0) (.int 1)) .nil))))) (.cons (.ret (.bl false)) .nil) .nil) (.cons (.ret (.call "are_rows_of" (.cons (.ix (.var 0) (.int 0)) (.cons (.ix (.var 0) (.int 1)) (.cons (.ix (.var 0) (.int 2)) .nil))))) .nil))
theorem f_is_key_ok (Γ : Gam) : (cSs Γ 60 (ctOf 48 ["thing"] []) (defBody (top 48))).map (·.1) = some f_is_key := by
  kernel_rfl
def f_read_in : Sxs := (.cons (.ret (.fn .tuple (.cons (.comp (.fn .rng1 (.cons (.ix (.var 0) (.int 1)) .nil)) true [4] [4] (.two .mod (.fn .sum (.cons (.comp (.fn .zip (.cons (.var 1) (.cons (.ix (.var 0) (.int 2)) .nil))) false [2, 3] [2, 3] (.two .mul (.var 2) (.ix (.var 3) (.var 4)))) .nil)) (.ix (.var 0) (.int 0)))) .nil))) .nil)
theorem f_read_in_ok (Γ : Gam) : (cSs Γ 60 (ctOf 49 ["key", "tones", "tone", "own", "place"] []) (defBody (top 49))).map (·.1) = some f_read_in := by
  kernel_rfl
def f_sure_tones : Sxs := (.cons (.par 2 3 (.dat (.call "tupled" (.cons (.var 1) .nil))) (.dat (.call "greys" (.cons (.var 0) .nil)))) (.cons (.ife (.two .ne (.fn .len (.cons (.var 3) .nil)) (.fn .len (.cons (.ix (.var 2) (.int 2)) .nil))) (.cons .never .nil) .nil) (.cons (.ret (.tup (.cons (.var 3) (.cons (.var 2) .nil)))) .nil)))
theorem f_sure_tones_ok (Γ : Gam) : (cSs Γ 60 (ctOf 51 ["picture", "key", "own", "tones"] []) (defBody (top 51))).map (·.1) = some f_sure_tones := by
  kernel_rfl
def f_reading : Sxs := (.cons (.asg false [2, 3] (.call "sure_tones" (.cons (.var 0) (.cons (.var 1) .nil)))) (.cons (.ret (.call "read_in" (.cons (.var 3) (.cons (.var 2) .nil)))) .nil))
theorem f_reading_ok (Γ : Gam) : (cSs Γ 60 (ctOf 52 ["picture", "key", "tones", "own"] []) (defBody (top 52))).map (·.1) = some f_reading := by
  kernel_rfl
def f_is_seen_pair : Sxs := (.cons (.ife (.or_ (.not_ (.call "is_tuple_of" (.cons (.var 3) (.cons (.int 2) .nil)))) (.two .ne (.call "cells_in" (.cons (.ix (.var 3) (.int 0)) .nil)) (.var 1))) (.cons (.ret (.bl false)) .nil) .nil) (.cons (.ret (.and_ (.call "is_row" (.cons (.var 0) (.cons (.ix (.var 3) (.int 1)) .nil))) (.two .eq (.fn .len (.cons (.ix (.var 3) (.int 1)) .nil)) (.var 2)))) .nil))
theorem f_is_seen_pair_ok (Γ : Gam) : (cSs Γ 60 (ctOf 54 ["p", "cells", "many", "pair"] []) (defBody (top 54))).map (·.1) = some f_is_seen_pair := by
  kernel_rfl
def f_sure_pairs : Sxs := (.cons (.asg true [2] (.call "tupled" (.cons (.var 1) .nil))) (.cons (.ife (.or_ (.not_ (.isI [.tuple] (.var 2))) (.or_ (.two .eq (.var 2) (.tup .nil)) (.or_ (.not_ (.call "is_tuple_of" (.cons (.ix (.var 2) (.int 0)) (.cons (.int 2) .nil)))) (.two .eq (.fn .len (.cons (.ix (.ix (.var 2) (.int 0)) (.int 1)) .nil)) (.int 0))))) (.cons .never .nil) .nil) (.cons (.asg false [3, 4] (.tup (.cons (.call "cells_in" (.cons (.ix (.ix (.var 2) (.int 0)) (.int 0)) .nil)) (.cons (.fn .len (.cons (.ix (.ix (.var 2) (.int 0)) (.int 1)) .nil)) .nil)))) (.cons (.ife (.not_ (.fn .all (.cons (.comp (.seq (.var 2)) true [5] [5] (.call "is_seen_pair" (.cons (.var 0) (.cons (.var 3) (.cons (.var 4) (.cons (.var 5) .nil)))))) .nil))) (.cons .never .nil) .nil) (.cons (.ret (.tup (.cons (.var 2) (.cons (.fn .tuple (.cons (.comp (.seq (.var 2)) false [6, 7] [6, 7] (.call "rests" (.cons (.var 6) (.cons (.var 0) .nil)))) .nil)) (.cons (.fn .tuple (.cons (.comp (.seq (.var 2)) false [7, 8] [7, 8] (.var 8)) .nil)) .nil))))) .nil)))))
theorem f_sure_pairs_ok (Γ : Gam) : (cSs Γ 60 (ctOf 55 ["p", "pairs", "own", "cells", "many", "pair", "picture", "_", "message"] []) (defBody (top 55))).map (·.1) = some f_sure_pairs := by
  kernel_rfl
def f_sure_rests : Sxs := (.cons (.ife (.two .ne (.call "cells_in" (.cons (.var 2) .nil)) (.fn .len (.cons (.ix (.var 1) (.int 0)) .nil))) (.cons .never .nil) .nil) (.cons (.ret (.call "rests" (.cons (.var 2) (.cons (.var 0) .nil)))) .nil))
theorem f_sure_rests_ok (Γ : Gam) : (cSs Γ 60 (ctOf 56 ["p", "grid", "picture"] []) (defBody (top 56))).map (·.1) = some f_sure_rests := by
  kernel_rfl
def f_digits_at : Sxs := (.cons (.ret (.fn .tuple (.cons (.comp (.seq (.var 0)) true [2] [2] (.ix (.var 2) (.var 1))) .nil))) .nil)
theorem f_digits_at_ok (Γ : Gam) : (cSs Γ 60 (ctOf 57 ["messages", "place", "message"] []) (defBody (top 57))).map (·.1) = some f_digits_at := by
  kernel_rfl
def f_rows_fitting : Sxs := (.cons (.par 3 4 .new (.dat (.call "turned_grid" (.cons (.var 0) (.cons (.fn .len (.cons (.ix (.var 1) (.int 0)) .nil)) (.cons (.var 1) .nil)))))) (.cons (.loop (.fn .rng1 (.cons (.fn .len (.cons (.ix (.var 2) (.int 0)) .nil)) .nil)) true [5] (.cons (.asg true [6] (.call "digits_at" (.cons (.var 2) (.cons (.var 5) .nil)))) (.cons (.asg true [7] (.call "is_spanned" (.cons (.var 0) (.cons (.fn .len (.cons (.var 1) .nil)) (.cons (.var 4) (.cons (.var 6) .nil)))))) (.cons (.app 3 (.ite (.var 7) (.call "multiples_for" (.cons (.var 0) (.cons (.fn .len (.cons (.var 1) .nil)) (.cons (.var 4) (.cons (.var 6) .nil))))) .non)) .nil)))) (.cons (.retO 3) .nil)))
theorem f_rows_fitting_ok (Γ : Gam) : (cSs Γ 60 (ctOf 58 ["p", "grid", "messages", "found", "columns", "place", "wanted", "fits"] [3]) (defBody (top 58))).map (·.1) = some f_rows_fitting := by
  kernel_rfl
def f_key_fitting : Sxs := (.cons (.asg false [2, 3, 4] (.call "sure_pairs" (.cons (.var 0) (.cons (.var 1) .nil)))) (.cons (.asg true [5] (.call "rows_fitting" (.cons (.var 0) (.cons (.var 3) (.cons (.var 4) .nil))))) (.cons (.ife (.two .in_ .non (.var 5)) (.cons .raiseP .nil) .nil) (.cons (.asg true [6] (.fn .tuple (.cons (.comp (.fn .rng1 (.cons (.fn .len (.cons (.ix (.var 3) (.int 0)) .nil)) .nil)) true [8] [8] (.fn .tuple (.cons (.comp (.seq (.var 5)) true [7] [7] (.ix (.var 7) (.var 8))) .nil))) .nil))) (.cons (.ret (.tup (.cons (.var 3) (.cons (.var 4) (.cons (.tup (.cons (.var 0) (.cons (.fn .len (.cons (.var 5) .nil)) (.cons (.var 6) .nil)))) .nil))))) .nil)))))
theorem f_key_fitting_ok (Γ : Gam) : (cSs Γ 60 (ctOf 59 ["p", "pairs", "_", "grid", "messages", "rows", "columns", "row", "cell"] []) (defBody (top 59))).map (·.1) = some f_key_fitting := by
  kernel_rfl
def f_fits_in : Sxs := (.cons (.ife (.or_ (.two .ne (.ix (.var 2) (.int 0)) (.var 0)) (.or_ (.two .ne (.ix (.var 2) (.int 1)) (.fn .len (.cons (.ix (.ix (.var 1) (.int 0)) (.int 1)) .nil))) (.two .ne (.fn .len (.cons (.ix (.var 2) (.int 2)) .nil)) (.call "cells_in" (.cons (.ix (.ix (.var 1) (.int 0)) (.int 0)) .nil))))) (.cons (.ret (.bl false)) .nil) .nil) (.cons (.ret (.fn .all (.cons (.comp (.seq (.var 1)) false [3, 4] [3, 4] (.two .eq (.call "reading" (.cons (.var 3) (.cons (.var 2) .nil))) (.var 4))) .nil))) .nil))
theorem f_fits_in_ok (Γ : Gam) : (cSs Γ 60 (ctOf 60 ["p", "own", "key", "picture", "message"] []) (defBody (top 60))).map (·.1) = some f_fits_in := by
  kernel_rfl
def f_fits_pairs : Sxs := (.cons (.asg false [3, 4, 4] (.call "sure_pairs" (.cons (.var 0) (.cons (.var 1) .nil)))) (.cons (.ret (.call "fits_in" (.cons (.var 0) (.cons (.var 3) (.cons (.call "tupled" (.cons (.var 2) .nil)) .nil))))) .nil))
theorem f_fits_pairs_ok (Γ : Gam) : (cSs Γ 60 (ctOf 61 ["p", "pairs", "key", "own", "_"] []) (defBody (top 61))).map (·.1) = some f_fits_pairs := by
  kernel_rfl
def f_some_key : Sxs := (.cons (.ret (.ix (.call "key_fitting" (.cons (.var 0) (.cons (.var 1) .nil))) (.int 2))) .nil)
theorem f_some_key_ok (Γ : Gam) : (cSs Γ 60 (ctOf 62 ["p", "pairs"] []) (defBody (top 62))).map (·.1) = some f_some_key := by
  kernel_rfl
def f_power_of : Sxs := (.cons (.asg true [2] (.int 1)) (.cons (.loop (.fn .rng1 (.cons (.var 1) .nil)) true [3] (.cons (.asg true [2] (.two .mul (.var 2) (.var 0))) .nil)) (.cons (.ret (.var 2)) .nil)))
theorem f_power_of_ok (Γ : Gam) : (cSs Γ 60 (ctOf 63 ["p", "many", "found", "_"] []) (defBody (top 63))).map (·.1) = some f_power_of := by
  kernel_rfl
def f_many_fitting : Sxs := (.cons (.ret (.call "power_of" (.cons (.var 0) (.cons (.two .mul (.two .sub (.fn .len (.cons (.ix (.var 1) (.int 0)) .nil)) (.call "grid_rank" (.cons (.var 0) (.cons (.fn .len (.cons (.ix (.var 1) (.int 0)) .nil)) (.cons (.var 1) .nil))))) (.fn .len (.cons (.ix (.var 2) (.int 0)) .nil))) .nil)))) .nil)
theorem f_many_fitting_ok (Γ : Gam) : (cSs Γ 60 (ctOf 64 ["p", "grid", "messages"] []) (defBody (top 64))).map (·.1) = some f_many_fitting := by
  kernel_rfl
def f_how_many_keys : Sxs := (.cons (.asg false [2, 3, 4] (.call "sure_pairs" (.cons (.var 0) (.cons (.var 1) .nil)))) (.cons (.ret (.ite (.two .in_ .non (.call "rows_fitting" (.cons (.var 0) (.cons (.var 3) (.cons (.var 4) .nil))))) (.int 0) (.call "many_fitting" (.cons (.var 0) (.cons (.var 3) (.cons (.var 4) .nil)))))) .nil))
theorem f_how_many_keys_ok (Γ : Gam) : (cSs Γ 60 (ctOf 65 ["p", "pairs", "_", "grid", "messages"] []) (defBody (top 65))).map (·.1) = some f_how_many_keys := by
  kernel_rfl
def f_odd_row : Sxs := (.cons (.asg false [2, 3, 4] (.call "sure_pairs" (.cons (.var 0) (.cons (.var 1) .nil)))) (.cons (.asg true [5] (.call "rows_fitting" (.cons (.var 0) (.cons (.var 3) (.cons (.var 4) .nil))))) (.cons (.ife (.two .notin .non (.var 5)) (.cons .raiseP .nil) .nil) (.cons (.ret (.call "bar_row" (.cons (.var 0) (.cons (.fn .len (.cons (.var 3) .nil)) (.cons (.call "turned_grid" (.cons (.var 0) (.cons (.fn .len (.cons (.ix (.var 3) (.int 0)) .nil)) (.cons (.var 3) .nil)))) (.cons (.call "digits_at" (.cons (.var 4) (.cons (.mt .index (.var 5) (.cons .non .nil)) .nil))) .nil)))))) .nil))))
theorem f_odd_row_ok (Γ : Gam) : (cSs Γ 60 (ctOf 66 ["p", "pairs", "_", "grid", "messages", "rows"] []) (defBody (top 66))).map (·.1) = some f_odd_row := by
  kernel_rfl
def f_is_odd_row : Sxs := (.cons (.asg false [3, 4, 5] (.call "sure_pairs" (.cons (.var 0) (.cons (.var 1) .nil)))) (.cons (.ife (.or_ (.not_ (.call "is_row" (.cons (.var 0) (.cons (.var 2) .nil)))) (.two .ne (.fn .len (.cons (.var 2) .nil)) (.fn .len (.cons (.var 4) .nil)))) (.cons (.ret (.bl false)) .nil) .nil) (.cons (.ife (.fn .any (.cons (.call "sum_of_multiples" (.cons (.var 0) (.cons (.fn .len (.cons (.ix (.var 4) (.int 0)) .nil)) (.cons (.var 4) (.cons (.var 2) .nil))))) .nil)) (.cons (.ret (.bl false)) .nil) .nil) (.cons (.ret (.fn .any (.cons (.call "sum_of_multiples" (.cons (.var 0) (.cons (.fn .len (.cons (.ix (.var 5) (.int 0)) .nil)) (.cons (.var 5) (.cons (.var 2) .nil))))) .nil))) .nil))))
theorem f_is_odd_row_ok (Γ : Gam) : (cSs Γ 60 (ctOf 67 ["p", "pairs", "thing", "_", "grid", "messages"] []) (defBody (top 67))).map (·.1) = some f_is_odd_row := by
  kernel_rfl
def f_sure_seen : Sxs := (.cons (.asg false [3, 4, 3] (.call "sure_pairs" (.cons (.var 0) (.cons (.var 1) .nil)))) (.cons (.asg true [5] (.call "sure_rests" (.cons (.var 0) (.cons (.var 4) (.cons (.var 2) .nil))))) (.cons (.ret (.tup (.star (.call "key_fitting" (.cons (.var 0) (.cons (.var 1) .nil))) (.cons (.var 5) .nil)))) .nil)))
theorem f_sure_seen_ok (Γ : Gam) : (cSs Γ 60 (ctOf 68 ["p", "pairs", "picture", "_", "grid", "wanted"] []) (defBody (top 68))).map (·.1) = some f_sure_seen := by
  kernel_rfl
def f_is_told : Sxs := (.cons (.asg false [3, 4, 4, 5] (.call "sure_seen" (.cons (.var 0) (.cons (.var 1) (.cons (.var 2) .nil))))) (.cons (.ret (.call "is_spanned" (.cons (.var 0) (.cons (.fn .len (.cons (.var 5) .nil)) (.cons (.var 3) (.cons (.var 5) .nil)))))) .nil))
theorem f_is_told_ok (Γ : Gam) : (cSs Γ 60 (ctOf 69 ["p", "pairs", "picture", "grid", "_", "wanted"] []) (defBody (top 69))).map (·.1) = some f_is_told := by
  kernel_rfl
def f_message_of : Sxs := (.cons (.ret (.call "sum_of_multiples" (.cons (.var 0) (.cons (.fn .len (.cons (.ix (.var 2) (.int 0)) .nil)) (.cons (.var 2) (.cons (.call "multiples_for" (.cons (.var 0) (.cons (.fn .len (.cons (.var 3) .nil)) (.cons (.var 1) (.cons (.var 3) .nil))))) .nil)))))) .nil)
theorem f_message_of_ok (Γ : Gam) : (cSs Γ 60 (ctOf 70 ["p", "grid", "messages", "wanted"] []) (defBody (top 70))).map (·.1) = some f_message_of := by
  kernel_rfl
def f_told_message : Sxs := (.cons (.asg false [3, 4, 5, 6] (.call "sure_seen" (.cons (.var 0) (.cons (.var 1) (.cons (.var 2) .nil))))) (.cons (.ret (.call "message_of" (.cons (.var 0) (.cons (.var 3) (.cons (.var 4) (.cons (.var 6) .nil)))))) .nil))
theorem f_told_message_ok (Γ : Gam) : (cSs Γ 60 (ctOf 71 ["p", "pairs", "picture", "grid", "messages", "_", "wanted"] []) (defBody (top 71))).map (·.1) = some f_told_message := by
  kernel_rfl
def f_telling : Sxs := (.cons (.asg false [3, 4, 4, 5] (.call "sure_seen" (.cons (.var 0) (.cons (.var 1) (.cons (.var 2) .nil))))) (.cons (.ret (.call "multiples_for" (.cons (.var 0) (.cons (.fn .len (.cons (.var 5) .nil)) (.cons (.var 3) (.cons (.var 5) .nil)))))) .nil))
theorem f_telling_ok (Γ : Gam) : (cSs Γ 60 (ctOf 72 ["p", "pairs", "picture", "grid", "_", "wanted"] []) (defBody (top 72))).map (·.1) = some f_telling := by
  kernel_rfl
def f_is_telling : Sxs := (.cons (.asg false [4, 5, 5, 6] (.call "sure_seen" (.cons (.var 0) (.cons (.var 1) (.cons (.var 2) .nil))))) (.cons (.ret (.call "is_multiples" (.cons (.var 0) (.cons (.fn .len (.cons (.var 6) .nil)) (.cons (.var 4) (.cons (.var 6) (.cons (.var 3) .nil))))))) .nil))
theorem f_is_telling_ok (Γ : Gam) : (cSs Γ 60 (ctOf 73 ["p", "pairs", "picture", "thing", "grid", "_", "wanted"] []) (defBody (top 73))).map (·.1) = some f_is_telling := by
  kernel_rfl
def f_two_keys : Sxs := (.cons (.asg false [3, 4, 5, 6] (.call "sure_seen" (.cons (.var 0) (.cons (.var 1) (.cons (.var 2) .nil))))) (.cons (.asg false [7, 8] (.tup (.cons (.call "bar_row" (.cons (.var 0) (.cons (.fn .len (.cons (.var 6) .nil)) (.cons (.var 3) (.cons (.var 6) .nil))))) (.cons (.call "unit_row" (.cons (.fn .len (.cons (.ix (.var 4) (.int 0)) .nil)) (.cons (.int 0) .nil))) .nil)))) (.cons (.asg true [9] (.comp (.fn .zip (.cons (.ix (.var 5) (.int 2)) (.cons (.var 7) .nil))) false [11, 12] [11, 12] (.call "row_sum" (.cons (.var 0) (.cons (.var 11) (.cons (.fn .tuple (.cons (.comp (.seq (.var 8)) true [10] [10] (.two .mul (.var 12) (.var 10))) .nil)) .nil)))))) (.cons (.ret (.tup (.cons (.var 5) (.cons (.tup (.star (.cutTo (.var 5) (.int 2)) (.cons (.fn .tuple (.cons (.var 9) .nil)) .nil))) .nil)))) .nil))))
theorem f_two_keys_ok (Γ : Gam) : (cSs Γ 60 (ctOf 74 ["p", "pairs", "picture", "grid", "messages", "key", "wanted", "step", "first", "columns", "own", "column", "digit"] []) (defBody (top 74))).map (·.1) = some f_two_keys := by
  kernel_rfl
def f_is_two_keys : Sxs := (.cons (.drop (.call "sure_seen" (.cons (.var 0) (.cons (.var 1) (.cons (.var 2) .nil))))) (.cons (.asg false [4, 5, 5] (.call "sure_pairs" (.cons (.var 0) (.cons (.var 1) .nil)))) (.cons (.ife (.or_ (.not_ (.call "is_tuple_of" (.cons (.var 3) (.cons (.int 2) .nil)))) (.not_ (.fn .all (.cons (.comp (.seq (.var 3)) true [6] [6] (.and_ (.call "is_key" (.cons (.var 6) .nil)) (.call "fits_in" (.cons (.var 0) (.cons (.var 4) (.cons (.var 6) .nil)))))) .nil)))) (.cons (.ret (.bl false)) .nil) .nil) (.cons (.ret (.two .ne (.call "reading" (.cons (.var 2) (.cons (.ix (.var 3) (.int 0)) .nil))) (.call "reading" (.cons (.var 2) (.cons (.ix (.var 3) (.int 1)) .nil))))) .nil))))
theorem f_is_two_keys_ok (Γ : Gam) : (cSs Γ 60 (ctOf 75 ["p", "pairs", "picture", "thing", "own", "_", "key"] []) (defBody (top 75))).map (·.1) = some f_is_two_keys := by
  kernel_rfl
def f_keys_that_read : Sxs := (.cons (.asg false [4, 4, 5] (.call "sure_pairs" (.cons (.var 0) (.cons (.var 1) .nil)))) (.cons (.asg true [6] (.call "tupled" (.cons (.var 3) .nil))) (.cons (.ife (.or_ (.not_ (.call "is_row" (.cons (.var 0) (.cons (.var 6) .nil)))) (.two .ne (.fn .len (.cons (.var 6) .nil)) (.fn .len (.cons (.ix (.var 5) (.int 0)) .nil)))) (.cons .never .nil) .nil) (.cons (.asg false [7, 8, 4, 9] (.call "sure_seen" (.cons (.var 0) (.cons (.var 1) (.cons (.var 2) .nil))))) (.cons (.asg true [10] (.call "many_fitting" (.cons (.var 0) (.cons (.var 7) (.cons (.var 8) .nil))))) (.cons (.ife (.not_ (.call "is_spanned" (.cons (.var 0) (.cons (.fn .len (.cons (.var 9) .nil)) (.cons (.var 7) (.cons (.var 9) .nil)))))) (.cons (.ret (.two .div (.var 10) (.call "power_of" (.cons (.var 0) (.cons (.fn .len (.cons (.var 6) .nil)) .nil))))) .nil) .nil) (.cons (.ret (.ite (.two .eq (.call "message_of" (.cons (.var 0) (.cons (.var 7) (.cons (.var 8) (.cons (.var 9) .nil))))) (.var 6)) (.var 10) (.int 0))) .nil)))))))
theorem f_keys_that_read_ok (Γ : Gam) : (cSs Γ 60 (ctOf 76 ["p", "pairs", "picture", "message", "_", "seen", "told", "grid", "messages", "wanted", "many"] []) (defBody (top 76))).map (·.1) = some f_keys_that_read := by
  kernel_rfl
def f_told_apart : Sxs := (.cons (.asg false [4, 5, 4] (.call "sure_pairs" (.cons (.var 0) (.cons (.var 1) .nil)))) (.cons (.asg true [6] (.call "row_less" (.cons (.var 0) (.cons (.call "sure_rests" (.cons (.var 0) (.cons (.var 5) (.cons (.var 2) .nil)))) (.cons (.call "sure_rests" (.cons (.var 0) (.cons (.var 5) (.cons (.var 3) .nil)))) .nil))))) (.cons (.asg false [7, 8, 4] (.call "key_fitting" (.cons (.var 0) (.cons (.var 1) .nil)))) (.cons (.ife (.not_ (.call "is_spanned" (.cons (.var 0) (.cons (.fn .len (.cons (.var 6) .nil)) (.cons (.var 7) (.cons (.var 6) .nil)))))) (.cons (.ret (.str "open")) .nil) .nil) (.cons (.ret (.ite (.fn .any (.cons (.call "message_of" (.cons (.var 0) (.cons (.var 7) (.cons (.var 8) (.cons (.var 6) .nil))))) .nil)) (.str "unlike") (.str "alike"))) .nil)))))
theorem f_told_apart_ok (Γ : Gam) : (cSs Γ 60 (ctOf 77 ["p", "pairs", "near", "far", "_", "own", "wanted", "grid", "messages"] []) (defBody (top 77))).map (·.1) = some f_told_apart := by
  kernel_rfl
def f_law_box : Sxs := (.cons (.asg true [2] (.ite (.two .lt (.var 1) (.fn .len (.cons (.var 0) .nil))) (.ix (.var 0) (.var 1)) (.int 0))) (.cons (.ret (.lst (.cons (.two .mul (.fn .abs (.cons (.var 2) .nil)) (.fn .int (.cons (.two .ge (.fn .abs (.cons (.var 2) .nil)) (.two .pow (.int 10) (.int 18))) .nil))) (.cons (.two .add (.two .add (.two .mod (.fn .int (.cons (.var 2) .nil)) (.int 2305843009213693951)) (.two .mul (.int 39373) (.var 1))) (.int 11031)) (.cons (.int 0) .nil))))) .nil))
theorem f_law_box_ok (Γ : Gam) : (cSs Γ 60 (ctOf 79 ["_law_script", "_law_k", "_law_cell_so"] []) (defBody (top 79))).map (·.1) = some f_law_box := by
  kernel_rfl
def f_law_take : Sxs := (.cons (.ife (.two .gt (.ix (.var 0) (.int 0)) (.int 0)) (.cons (.asg true [2] (.two .mod (.fn .int (.cons (.ix (.var 0) (.int 0)) .nil)) (.var 1))) (.cons (.tset 0 (.int 0) (.two .div (.ix (.var 0) (.int 0)) (.var 1))) (.cons (.ret (.var 2)) .nil))) .nil) (.cons (.tset 0 (.int 2) (.two .add (.ix (.var 0) (.int 2)) (.int 1))) (.cons (.asg true [3] (.two .mod (.fn .int (.cons (.two .mul (.two .add (.ix (.var 0) (.int 1)) (.two .mul (.int 48271) (.ix (.var 0) (.int 2)))) (.two .add (.int 39373) (.ix (.var 0) (.int 2)))) .nil)) (.int 2147483647))) (.cons (.asg true [4] (.two .add (.two .mod (.fn .int (.cons (.var 3) .nil)) (.int 40009)) (.int 7))) (.cons (.asg true [5] (.two .mod (.fn .int (.cons (.two .mul (.two .add (.two .add (.var 3) (.ix (.var 0) (.int 2))) (.two .div (.ix (.var 0) (.int 1)) (.int 1000003))) (.var 4)) .nil)) (.int 2147483629))) (.cons (.ret (.two .mod (.fn .int (.cons (.two .div (.two .mod (.fn .int (.cons (.two .add (.two .mul (.var 5) (.int 48271)) (.var 3)) .nil)) (.int 2147483587)) (.int 64)) .nil)) (.var 1))) .nil))))))
theorem f_law_take_ok (Γ : Gam) : (cSs Γ 60 (ctOf 80 ["_law_tin", "_law_below_so", "_law_drawn", "_law_once_so", "_law_wide_so", "_law_twice_so"] []) (defBody (top 80))).map (·.1) = some f_law_take := by
  kernel_rfl
def f_law_cells : Sxs := (.cons (.one 2 (.listOr (.cutTo (.var 0) (.var 1)) (.int 0))) (.cons (.loop (.fn .enum (.cons (.cutAB (.var 0) (.var 1) (.int 63)) .nil)) false [3, 4] (.cons (.asg true [5] (.two .mod (.fn .int (.cons (.var 3) .nil)) (.var 1))) (.cons (.oset 2 (.var 5) (.two .add (.oix 2 (.var 5)) (.two .mul (.var 4) (.two .add (.var 3) (.int 2))))) .nil))) (.cons (.retO 2) .nil)))
theorem f_law_cells_ok (Γ : Gam) : (cSs Γ 60 (ctOf 81 ["_law_script", "_law_most_so", "_law_cells_so", "_law_k", "_law_cell_so", "_law_at_so"] [2]) (defBody (top 81))).map (·.1) = some f_law_cells := by
  kernel_rfl
def f_law_of : Sxs := (.cons (.ret (.ix (.var 1) (.call "_law_take" (.cons (.var 0) (.cons (.fn .len (.cons (.var 1) .nil)) .nil))))) .nil)
theorem f_law_of_ok (Γ : Gam) : (cSs Γ 60 (ctOf 82 ["_law_tin", "_law_goods_so"] []) (defBody (top 82))).map (·.1) = some f_law_of := by
  kernel_rfl
def f_law_pick : Sxs := (.cons (.par 3 4 (.list (.var 1)) .new) (.cons (.loop (.fn .rng1 (.cons (.fn .min2 (.cons (.fn .int (.cons (.var 2) .nil)) (.cons (.olen 3) .nil))) .nil)) true [5] (.cons (.appPop 4 3 (.call "_law_take" (.cons (.var 0) (.cons (.olen 3) .nil)))) .nil)) (.cons (.retO 4) .nil)))
theorem f_law_pick_ok (Γ : Gam) : (cSs Γ 60 (ctOf 83 ["_law_tin", "_law_goods_so", "_law_count_so", "_law_pool_so", "_law_found", "_law_lap"] [3, 4]) (defBody (top 83))).map (·.1) = some f_law_pick := by
  kernel_rfl
def f_law_lists : Sxs := (.cons (.ret (.ite (.isI [.list, .tuple] (.var 0)) (.comp (.seq (.var 0)) true [1] [1] (.call "_law_lists" (.cons (.var 1) .nil))) (.var 0))) .nil)
theorem f_law_lists_ok (Γ : Gam) : (cSs Γ 60 (ctOf 84 ["_law_matter", "_law_bit"] []) (defBody (top 84))).map (·.1) = some f_law_lists := by
  kernel_rfl
def f_law_same : Sxs := (.cons (.ife (.isI [.list, .tuple] (.var 1)) (.cons (.ife (.or_ (.two .ne (.isI [.list] (.var 0)) (.isI [.list] (.var 1))) (.two .ne (.isI [.tuple] (.var 0)) (.isI [.tuple] (.var 1)))) (.cons (.ret (.bl false)) .nil) .nil) (.cons (.ret (.and_ (.two .eq (.fn .len (.cons (.var 0) .nil)) (.fn .len (.cons (.var 1) .nil))) (.fn .all (.cons (.comp (.fn .zip (.cons (.var 0) (.cons (.var 1) .nil))) false [2, 3] [2, 3] (.call "_law_same" (.cons (.var 2) (.cons (.var 3) .nil)))) .nil)))) .nil)) .nil) (.cons (.ife (.or_ (.isN (.var 1)) (.isI [.bool, .str] (.var 1))) (.cons (.ret (.and_ (.two .eq (.var 0) (.var 1)) (.and_ (.two .eq (.isI [.bool] (.var 0)) (.isI [.bool] (.var 1))) (.two .eq (.isN (.var 0)) (.isN (.var 1)))))) .nil) .nil) (.cons (.ret (.and_ (.isI [.int] (.var 0)) (.and_ (.not_ (.isI [.bool] (.var 0))) (.two .eq (.var 0) (.var 1))))) .nil)))
theorem f_law_same_ok (Γ : Gam) : (cSs Γ 60 (ctOf 85 ["_law_got", "_law_due", "_law_mine", "_law_its"] []) (defBody (top 85))).map (·.1) = some f_law_same := by
  kernel_rfl
def f_law_is_number : Sxs := (.cons (.ret (.and_ (.isI [.int] (.var 0)) (.not_ (.isI [.bool] (.var 0))))) .nil)
theorem f_law_is_number_ok (Γ : Gam) : (cSs Γ 60 (ctOf 86 ["_law_own"] []) (defBody (top 86))).map (·.1) = some f_law_is_number := by
  kernel_rfl
def f_law_greys : Sxs := (.cons (.ret (.fn .sum2 (.cons (.comp (.seq (.ix (.var 0) (.int 1))) true [1] [1] (.fn .list (.cons (.var 1) .nil))) (.cons (.lst .nil) .nil)))) .nil)
theorem f_law_greys_ok (Γ : Gam) : (cSs Γ 60 (ctOf 87 ["_law_picture_so", "_law_own"] []) (defBody (top 87))).map (·.1) = some f_law_greys := by
  kernel_rfl
def f_law_shaped : Sxs := (.cons (.asg true [2] (.fn .len (.cons (.ix (.ix (.var 0) (.int 1)) (.int 0)) .nil))) (.cons (.ret (.tup (.cons (.ix (.var 0) (.int 0)) (.cons (.fn .tuple (.cons (.comp (.fn .rng1 (.cons (.fn .len (.cons (.ix (.var 0) (.int 1)) .nil)) .nil)) true [3] [3] (.fn .tuple (.cons (.cutAB (.var 1) (.two .mul (.var 3) (.var 2)) (.two .mul (.two .add (.var 3) (.int 1)) (.var 2))) .nil))) .nil)) .nil)))) .nil))
theorem f_law_shaped_ok (Γ : Gam) : (cSs Γ 60 (ctOf 88 ["_law_picture_so", "_law_greys_so", "_law_wide_so", "_law_k"] []) (defBody (top 88))).map (·.1) = some f_law_shaped := by
  kernel_rfl
def f_law_rests : Sxs := (.cons (.ret (.fn .tuple (.cons (.comp (.seq (.call "_law_greys" (.cons (.var 0) .nil))) true [2] [2] (.two .mod (.var 2) (.var 1))) .nil))) .nil)
theorem f_law_rests_ok (Γ : Gam) : (cSs Γ 60 (ctOf 89 ["_law_picture_so", "_law_p_so", "_law_own"] []) (defBody (top 89))).map (·.1) = some f_law_rests := by
  kernel_rfl
def f_law_row_plus : Sxs := (.cons (.ret (.fn .tuple (.cons (.comp (.fn .zip (.cons (.var 0) (.cons (.var 1) .nil))) false [3, 4] [3, 4] (.two .mod (.two .add (.var 3) (.var 4)) (.var 2))) .nil))) .nil)
theorem f_law_row_plus_ok (Γ : Gam) : (cSs Γ 60 (ctOf 90 ["_law_one_so", "_law_two_so", "_law_p_so", "_law_near_so", "_law_far_so"] []) (defBody (top 90))).map (·.1) = some f_law_row_plus := by
  kernel_rfl
def f_law_row_times : Sxs := (.cons (.ret (.fn .tuple (.cons (.comp (.seq (.var 1)) true [3] [3] (.two .mod (.two .mul (.var 0) (.var 3)) (.var 2))) .nil))) .nil)
theorem f_law_row_times_ok (Γ : Gam) : (cSs Γ 60 (ctOf 91 ["_law_digit_so", "_law_row_so", "_law_p_so", "_law_own"] []) (defBody (top 91))).map (·.1) = some f_law_row_times := by
  kernel_rfl
def f_law_all_rows : Sxs := (.cons (.asg true [2] (.lst (.cons (.tup .nil) .nil))) (.cons (.loop (.fn .rng1 (.cons (.var 1) .nil)) true [3] (.cons (.asg true [4] (.lst .nil)) (.cons (.loop (.seq (.var 2)) true [5] (.cons (.asg true [4] (.two .add (.var 4) (.comp (.fn .rng1 (.cons (.var 0) .nil)) true [6] [6] (.two .add (.var 5) (.tup (.cons (.var 6) .nil)))))) .nil)) (.cons (.asg true [2] (.var 4)) .nil)))) (.cons (.ret (.var 2)) .nil)))
theorem f_law_all_rows_ok (Γ : Gam) : (cSs Γ 60 (ctOf 92 ["_law_p_so", "_law_many_so", "_law_found", "_law_lap", "_law_longer_so", "_law_own", "_law_digit_so"] []) (defBody (top 92))).map (·.1) = some f_law_all_rows := by
  kernel_rfl
def f_law_read : Sxs := (.cons (.asg true [2] (.two .mul (.tup (.cons (.int 0) .nil)) (.ix (.var 0) (.int 1)))) (.cons (.loop (.fn .zip (.cons (.var 1) (.cons (.ix (.var 0) (.int 2)) .nil))) false [3, 4] (.cons (.asg true [2] (.call "_law_row_plus" (.cons (.var 2) (.cons (.call "_law_row_times" (.cons (.var 3) (.cons (.var 4) (.cons (.ix (.var 0) (.int 0)) .nil)))) (.cons (.ix (.var 0) (.int 0)) .nil))))) .nil)) (.cons (.ret (.var 2)) .nil)))
theorem f_law_read_ok (Γ : Gam) : (cSs Γ 60 (ctOf 93 ["_law_key_so", "_law_rests_so", "_law_found", "_law_rest_so", "_law_column_so"] []) (defBody (top 93))).map (·.1) = some f_law_read := by
  kernel_rfl
def f_law_reading : Sxs := (.cons (.ret (.call "_law_read" (.cons (.var 1) (.cons (.call "_law_rests" (.cons (.var 0) (.cons (.ix (.var 1) (.int 0)) .nil))) .nil)))) .nil)
theorem f_law_reading_ok (Γ : Gam) : (cSs Γ 60 (ctOf 94 ["_law_picture_so", "_law_key_so"] []) (defBody (top 94))).map (·.1) = some f_law_reading := by
  kernel_rfl
def f_law_is_digits : Sxs := (.cons (.ife (.or_ (.not_ (.isI [.tuple] (.var 0))) (.two .ne (.fn .len (.cons (.var 0) .nil)) (.var 2))) (.cons (.ret (.bl false)) .nil) .nil) (.cons (.ret (.fn .all (.cons (.comp (.seq (.var 0)) true [3] [3] (.and_ (.call "_law_is_number" (.cons (.var 3) .nil)) (.chain (.int 0) (.var 3) (.var 1)))) .nil))) .nil))
theorem f_law_is_digits_ok (Γ : Gam) : (cSs Γ 60 (ctOf 95 ["_law_own", "_law_p_so", "_law_many_so", "_law_bit"] []) (defBody (top 95))).map (·.1) = some f_law_is_digits := by
  kernel_rfl
def f_law_are_multiples : Sxs := (.cons (.ife (.not_ (.call "_law_is_digits" (.cons (.var 3) (.cons (.var 0) (.cons (.fn .len (.cons (.var 1) .nil)) .nil))))) (.cons (.ret (.bl false)) .nil) .nil) (.cons (.asg true [4] (.two .mul (.tup (.cons (.int 0) .nil)) (.fn .len (.cons (.var 2) .nil)))) (.cons (.loop (.fn .zip (.cons (.var 3) (.cons (.var 1) .nil))) false [5, 6] (.cons (.asg true [4] (.call "_law_row_plus" (.cons (.var 4) (.cons (.call "_law_row_times" (.cons (.var 5) (.cons (.var 6) (.cons (.var 0) .nil)))) (.cons (.var 0) .nil))))) .nil)) (.cons (.ret (.two .eq (.var 4) (.var 2))) .nil))))
theorem f_law_are_multiples_ok (Γ : Gam) : (cSs Γ 60 (ctOf 96 ["_law_p_so", "_law_rows_so", "_law_due_so", "_law_own", "_law_found", "_law_digit_so", "_law_row_so"] []) (defBody (top 96))).map (·.1) = some f_law_are_multiples := by
  kernel_rfl
def f_law_picture : Sxs := (.cons (.asg true [2] (.call "_law_of" (.cons (.var 0) (.cons (.lst (.cons (.int 4) (.cons (.int 5) (.cons (.int 7) (.cons (.int 9) (.cons (.int 4) (.cons (.int 30) .nil))))))) .nil)))) (.cons (.asg true [3] (.call "_law_of" (.cons (.var 0) (.cons (.compIf (.fn .rng2 (.cons (.int 1) (.cons (.two .add (.var 1) (.int 1)) .nil))) true [5] [5] (.two .eq (.two .mod (.var 1) (.var 5)) (.int 0)) (.var 5)) .nil)))) (.cons (.asg true [4] (.comp (.fn .rng1 (.cons (.var 1) .nil)) true [6] [6] (.call "_law_take" (.cons (.var 0) (.cons (.two .add (.var 2) (.int 1)) .nil))))) (.cons (.ret (.call "_law_shaped" (.cons (.tup (.cons (.var 2) (.cons (.two .mul (.tup (.cons (.two .mul (.tup (.cons (.int 0) .nil)) (.two .div (.var 1) (.var 3))) .nil)) (.var 3)) .nil))) (.cons (.var 4) .nil)))) .nil))))
theorem f_law_picture_ok (Γ : Gam) : (cSs Γ 60 (ctOf 97 ["_law_tin", "_law_many_so", "_law_top_so", "_law_tall_so", "_law_greys_so", "_law_k", "_law_lap"] []) (defBody (top 97))).map (·.1) = some f_law_picture := by
  kernel_rfl
def f_law_message : Sxs := (.cons (.ret (.fn .tuple (.cons (.comp (.fn .rng1 (.cons (.ix (.var 1) (.int 1)) .nil)) true [2] [2] (.call "_law_take" (.cons (.var 0) (.cons (.ix (.var 1) (.int 0)) .nil)))) .nil))) .nil)
theorem f_law_message_ok (Γ : Gam) : (cSs Γ 60 (ctOf 98 ["_law_tin", "_law_key_so", "_law_lap"] []) (defBody (top 98))).map (·.1) = some f_law_message := by
  kernel_rfl
def f_law_seen : Sxs := (.cons (.asg false [1, 2, 3] (.call "_law_of" (.cons (.var 0) (.cons (.lst (.cons (.tup (.cons (.int 2) (.cons (.int 1) (.cons (.int 2) .nil)))) (.cons (.tup (.cons (.int 2) (.cons (.int 2) (.cons (.int 1) .nil)))) (.cons (.tup (.cons (.int 2) (.cons (.int 2) (.cons (.int 2) .nil)))) (.cons (.tup (.cons (.int 2) (.cons (.int 3) (.cons (.int 1) .nil)))) (.cons (.tup (.cons (.int 2) (.cons (.int 3) (.cons (.int 2) .nil)))) (.cons (.tup (.cons (.int 3) (.cons (.int 2) (.cons (.int 1) .nil)))) (.cons (.tup (.cons (.int 3) (.cons (.int 2) (.cons (.int 2) .nil)))) (.cons (.tup (.cons (.int 3) (.cons (.int 3) (.cons (.int 1) .nil)))) (.cons (.tup (.cons (.int 2) (.cons (.int 4) (.cons (.int 1) .nil)))) .nil)))))))))) .nil)))) (.cons (.asg true [5] (.fn .tuple (.cons (.comp (.fn .rng1 (.cons (.var 2) .nil)) true [4] [4] (.fn .tuple (.cons (.comp (.fn .rng1 (.cons (.var 3) .nil)) true [10] [10] (.call "_law_take" (.cons (.var 0) (.cons (.var 1) .nil)))) .nil))) .nil))) (.cons (.par 6 7 (.dat (.tup (.cons (.var 1) (.cons (.var 3) (.cons (.var 5) .nil))))) .new) (.cons (.loop (.fn .rng1 (.cons (.two .add (.int 1) (.call "_law_take" (.cons (.var 0) (.cons (.int 4) .nil)))) .nil)) true [4] (.cons (.asg true [8] (.call "_law_picture" (.cons (.var 0) (.cons (.var 2) .nil)))) (.cons (.asg true [9] (.call "_law_reading" (.cons (.var 8) (.cons (.var 6) .nil)))) (.cons (.app 7 (.tup (.cons (.var 8) (.cons (.ite (.two .eq (.call "_law_take" (.cons (.var 0) (.cons (.int 6) .nil))) (.int 0)) (.call "_law_message" (.cons (.var 0) (.cons (.var 6) .nil))) (.var 9)) .nil)))) .nil)))) (.cons (.ret (.tup (.cons (.var 6) (.cons (.otup 7) .nil)))) .nil)))))
theorem f_law_seen_ok (Γ : Gam) : (cSs Γ 60 (ctOf 99 ["_law_tin", "_law_p_so", "_law_cells_so", "_law_many_so", "_law_lap", "_law_columns_so", "_law_key_so", "_law_pairs_so", "_law_picture_so", "_law_read_so", "_law_k"] [7]) (defBody (top 99))).map (·.1) = some f_law_seen := by
  kernel_rfl
def f_law_fitting : Sxs := (.cons (.par 2 3 .new (.dat (.call "_law_all_rows" (.cons (.ix (.var 0) (.int 0)) (.cons (.ix (.var 0) (.int 1)) .nil))))) (.cons (.asg true [4] (.lst (.cons (.tup .nil) .nil))) (.cons (.loop (.fn .rng1 (.cons (.fn .len (.cons (.ix (.var 0) (.int 2)) .nil)) .nil)) true [5] (.cons (.asg true [6] (.lst .nil)) (.cons (.loop (.seq (.var 4)) true [7] (.cons (.asg true [6] (.two .add (.var 6) (.comp (.seq (.var 3)) true [9] [9] (.two .add (.var 7) (.tup (.cons (.var 9) .nil)))))) .nil)) (.cons (.asg true [4] (.var 6)) .nil)))) (.cons (.loop (.seq (.var 4)) true [7] (.cons (.asg true [8] (.tup (.cons (.ix (.var 0) (.int 0)) (.cons (.ix (.var 0) (.int 1)) (.cons (.var 7) .nil))))) (.cons (.ife (.two .eq (.compIf (.seq (.var 1)) false [10, 11] [10, 11] (.two .ne (.call "_law_reading" (.cons (.var 10) (.cons (.var 8) .nil))) (.var 11)) (.int 1)) (.lst .nil)) (.cons (.app 2 (.var 8)) .nil) .nil) .nil))) (.cons (.retO 2) .nil)))))
theorem f_law_fitting_ok (Γ : Gam) : (cSs Γ 60 (ctOf 100 ["_law_key_so", "_law_pairs_so", "_law_found", "_law_rows_so", "_law_left_so", "_law_lap", "_law_longer_so", "_law_own", "_law_its", "_law_column_so", "_law_picture_so", "_law_read_so"] [2]) (defBody (top 100))).map (·.1) = some f_law_fitting := by
  kernel_rfl
def f_law_caught : Sxs := (.cons (.unl [0, 1, 2, 3] (.comp (.seq (.tup (.cons (.tup (.cons (.int 1) (.cons (.int 0) (.cons (.int 3) .nil)))) (.cons (.tup (.cons (.int 2) (.cons (.int 1) (.cons (.int 1) .nil)))) (.cons (.tup (.cons (.int 1) (.cons (.int 1) (.cons (.int 4) .nil)))) (.cons (.tup (.cons (.int 1) (.cons (.int 0) (.cons (.int 0) .nil)))) .nil)))))) true [4] [4] (.tup (.cons (.int 4) (.cons (.tup (.cons (.var 4) .nil)) .nil))))) (.cons (.ret (.tup (.cons (.var 2) (.cons (.var 3) (.cons (.tup (.cons (.tup (.cons (.var 0) (.cons (.tup (.cons (.int 1) (.cons (.int 0) .nil))) .nil))) (.cons (.tup (.cons (.var 1) (.cons (.tup (.cons (.int 1) (.cons (.int 1) .nil))) .nil))) .nil))) .nil))))) .nil))
theorem f_law_caught_ok (Γ : Gam) : (cSs Γ 60 (ctOf 101 ["_law_first", "_law_second", "_law_third", "_law_lone", "_law_own"] []) (defBody (top 101))).map (·.1) = some f_law_caught := by
  kernel_rfl
def f_law_by_hand_right : Sxs := (.cons (.asg false [0, 1, 2] (.call "_law_caught" .nil)) (.cons (.asg true [3] (.lst (.cons (.call "how_many_keys" (.cons (.int 2) (.cons (.var 2) .nil))) (.cons (.call "told_message" (.cons (.int 2) (.cons (.var 2) (.cons (.var 0) .nil)))) (.cons (.heard "told_message" (.cons (.int 2) (.cons (.var 2) (.cons (.var 1) .nil)))) (.cons (.call "is_told" (.cons (.int 2) (.cons (.var 2) (.cons (.var 1) .nil)))) .nil)))))) (.cons (.asg true [3] (.two .add (.two .add (.var 3) (.comp (.seq (.tup (.cons (.var 0) (.cons (.var 1) .nil)))) true [4] [4] (.call "told_apart" (.cons (.int 2) (.cons (.var 2) (.cons (.ix (.ix (.var 2) (.int 0)) (.int 0)) (.cons (.var 4) .nil))))))) (.lst (.cons (.heard "odd_row" (.cons (.int 2) (.cons (.var 2) .nil))) (.cons (.call "odd_row" (.cons (.int 2) (.cons (.two .add (.var 2) (.tup (.cons (.tup (.cons (.var 0) (.cons (.tup (.cons (.int 1) (.cons (.int 1) .nil))) .nil))) .nil))) .nil))) .nil))))) (.cons (.asg true [3] (.two .add (.var 3) (.comp (.seq (.tup (.cons (.tup (.cons (.int 1) (.cons (.int 1) .nil))) (.cons (.tup (.cons (.int 0) (.cons (.int 1) .nil))) .nil)))) true [4] [4] (.call "keys_that_read" (.cons (.int 2) (.cons (.var 2) (.cons (.var 0) (.cons (.var 4) .nil)))))))) (.cons (.ret (.call "_law_same" (.cons (.var 3) (.cons (.lst (.cons (.int 4) (.cons (.tup (.cons (.int 0) (.cons (.int 1) .nil))) (.cons (.lst (.cons (.str "paper") .nil)) (.cons (.bl false) (.cons (.str "unlike") (.cons (.str "open") (.cons (.lst (.cons (.str "paper") .nil)) (.cons (.tup (.cons (.int 1) (.cons (.int 1) (.cons (.int 1) .nil)))) (.cons (.int 0) (.cons (.int 4) .nil))))))))))) .nil)))) .nil)))))
theorem f_law_by_hand_right_ok (Γ : Gam) : (cSs Γ 60 (ctOf 103 ["_law_third", "_law_lone", "_law_caught_so", "_law_got", "_law_own"] []) (defBody (top 103))).map (·.1) = some f_law_by_hand_right := by
  kernel_rfl
def f_law_is_odd : Sxs := (.cons (.ife (.not_ (.call "_law_is_digits" (.cons (.var 2) (.cons (.var 0) (.cons (.fn .len (.cons (.var 1) .nil)) .nil))))) (.cons (.ret (.bl false)) .nil) .nil) (.cons (.par 3 4 (.dat (.comp (.seq (.var 1)) true [6] [6] (.call "_law_rests" (.cons (.ix (.var 6) (.int 0)) (.cons (.var 0) .nil))))) (.dat (.comp (.seq (.var 1)) true [6] [6] (.ix (.var 6) (.int 1))))) (.cons (.asg true [5] (.two .mul (.tup (.cons (.int 0) .nil)) (.fn .len (.cons (.ix (.var 3) (.int 0)) .nil)))) (.cons (.ret (.and_ (.call "_law_are_multiples" (.cons (.var 0) (.cons (.var 3) (.cons (.var 5) (.cons (.var 2) .nil))))) (.not_ (.call "_law_are_multiples" (.cons (.var 0) (.cons (.var 4) (.cons (.two .mul (.tup (.cons (.int 0) .nil)) (.fn .len (.cons (.ix (.var 4) (.int 0)) .nil))) (.cons (.var 2) .nil)))))))) .nil))))
theorem f_law_is_odd_ok (Γ : Gam) : (cSs Γ 60 (ctOf 104 ["_law_p_so", "_law_pairs_so", "_law_own", "_law_rests_so", "_law_reads_so", "_law_zeros_so", "_law_its"] []) (defBody (top 104))).map (·.1) = some f_law_is_odd := by
  kernel_rfl
def f_law_is_two : Sxs := (.cons (.ife (.or_ (.not_ (.isI [.tuple] (.var 2))) (.or_ (.two .ne (.fn .len (.cons (.var 2) .nil)) (.int 2)) (.not_ (.fn .all (.cons (.comp (.seq (.var 2)) true [3] [3] (.two .in_ (.var 3) (.var 0))) .nil))))) (.cons (.ret (.bl false)) .nil) .nil) (.cons (.ife (.not_ (.fn .all (.cons (.comp (.seq (.var 2)) true [3] [3] (.call "_law_same" (.cons (.var 3) (.cons (.ix (.var 0) (.mt .index (.var 0) (.cons (.var 3) .nil))) .nil)))) .nil))) (.cons (.ret (.bl false)) .nil) .nil) (.cons (.ret (.two .ne (.call "_law_reading" (.cons (.var 1) (.cons (.ix (.var 2) (.int 0)) .nil))) (.call "_law_reading" (.cons (.var 1) (.cons (.ix (.var 2) (.int 1)) .nil))))) .nil)))
theorem f_law_is_two_ok (Γ : Gam) : (cSs Γ 60 (ctOf 105 ["_law_fitting_so", "_law_picture_so", "_law_own", "_law_own_one"] []) (defBody (top 105))).map (·.1) = some f_law_is_two := by
  kernel_rfl
def f_law_picture_right : Sxs := (.cons (.asg false [6, 7] (.tup (.cons (.ix (.var 1) (.int 0)) (.cons (.comp (.seq (.var 3)) true [18] [18] (.call "_law_reading" (.cons (.var 4) (.cons (.var 18) .nil)))) .nil)))) (.cons (.par 8 9 (.dat (.two .eq (.lenset (.var 7)) (.int 1))) (.dat (.call "_law_message" (.cons (.var 0) (.cons (.var 1) .nil))))) (.cons (.asg true [10] (.lst (.cons (.call "is_told" (.cons (.var 6) (.cons (.call "_law_lists" (.cons (.var 2) .nil)) (.cons (.var 4) .nil)))) (.cons (.heard "told_message" (.cons (.var 6) (.cons (.var 2) (.cons (.call "_law_lists" (.cons (.var 4) .nil)) .nil)))) (.cons (.call "keys_that_read" (.cons (.var 6) (.cons (.var 2) (.cons (.var 4) (.cons (.fn .list (.cons (.var 9) .nil)) .nil))))) .nil))))) (.cons (.ife (.not_ (.call "_law_same" (.cons (.var 10) (.cons (.lst (.cons (.var 8) (.cons (.ite (.var 8) (.ix (.var 7) (.int 0)) (.lst (.cons (.str "paper") .nil))) (.cons (.mt .count (.var 7) (.cons (.var 9) .nil)) .nil)))) .nil)))) (.cons (.ret (.bl false)) .nil) .nil) (.cons (.par 11 12 (.dat (.heard "telling" (.cons (.var 6) (.cons (.var 2) (.cons (.var 4) .nil))))) (.dat (.heard "two_keys" (.cons (.var 6) (.cons (.var 2) (.cons (.var 4) .nil)))))) (.cons (.asg false [13, 14] (.tup (.cons (.comp (.seq (.var 2)) true [18] [18] (.call "_law_rests" (.cons (.ix (.var 18) (.int 0)) (.cons (.var 6) .nil)))) (.cons (.call "_law_rests" (.cons (.var 4) (.cons (.var 6) .nil))) .nil)))) (.cons (.ife (.and_ (.var 8) (.or_ (.not_ (.call "_law_are_multiples" (.cons (.var 6) (.cons (.var 13) (.cons (.var 14) (.cons (.var 11) .nil)))))) (.not_ (.call "_law_same" (.cons (.var 12) (.cons (.lst (.cons (.str "paper") .nil)) .nil)))))) (.cons (.ret (.bl false)) .nil) .nil) (.cons (.ife (.and_ (.not_ (.var 8)) (.or_ (.not_ (.call "_law_same" (.cons (.var 11) (.cons (.lst (.cons (.str "paper") .nil)) .nil)))) (.not_ (.call "_law_is_two" (.cons (.var 3) (.cons (.var 4) (.cons (.var 12) .nil))))))) (.cons (.ret (.bl false)) .nil) .nil) (.cons (.asg true [15] (.two .add (.call "_law_pick" (.cons (.var 0) (.cons (.call "_law_all_rows" (.cons (.var 6) (.cons (.fn .len (.cons (.var 2) .nil)) .nil))) (.cons (.int 4) .nil)))) (.lst (.cons (.var 11) (.cons (.fn .list (.cons (.var 11) .nil)) (.cons .non (.cons (.two .mul (.tup (.cons (.str "1") .nil)) (.fn .len (.cons (.var 2) .nil))) (.cons (.two .mul (.tup (.cons (.lst .nil) .nil)) (.fn .len (.cons (.var 2) .nil))) (.cons (.str "told") .nil))))))))) (.cons (.ife (.not_ (.call "_law_same" (.cons (.comp (.seq (.var 15)) true [18] [18] (.call "is_telling" (.cons (.var 6) (.cons (.var 2) (.cons (.var 4) (.cons (.var 18) .nil)))))) (.cons (.comp (.seq (.var 15)) true [18] [18] (.call "_law_are_multiples" (.cons (.var 6) (.cons (.var 13) (.cons (.var 14) (.cons (.var 18) .nil)))))) .nil)))) (.cons (.ret (.bl false)) .nil) .nil) (.cons (.asg true [15] (.lst (.cons (.fn .tuple (.cons (.call "_law_pick" (.cons (.var 0) (.cons (.var 3) (.cons (.int 2) .nil)))) .nil)) (.cons (.var 12) (.cons (.rev (.var 12)) (.cons (.cutTo (.var 3) (.int 2)) (.cons (.tup (.cons (.var 1) (.cons (.var 1) .nil))) (.cons .non (.cons (.tup (.cons (.str "a") (.cons (.str "b") .nil))) (.cons (.tup (.cons (.tup (.cons (.lst .nil) (.cons (.str "1") (.cons .non .nil)))) (.cons (.var 1) .nil))) (.cons (.str "two") .nil))))))))))) (.cons (.ife (.not_ (.call "_law_same" (.cons (.comp (.seq (.var 15)) true [18] [18] (.call "is_two_keys" (.cons (.var 6) (.cons (.var 2) (.cons (.var 4) (.cons (.var 18) .nil)))))) (.cons (.comp (.seq (.var 15)) true [18] [18] (.call "_law_is_two" (.cons (.var 3) (.cons (.var 4) (.cons (.var 18) .nil))))) .nil)))) (.cons (.ret (.bl false)) .nil) .nil) (.cons (.asg true [16] (.comp (.seq (.var 3)) true [18] [18] (.two .eq (.call "_law_reading" (.cons (.var 4) (.cons (.var 18) .nil))) (.call "_law_reading" (.cons (.var 5) (.cons (.var 18) .nil)))))) (.cons (.asg true [17] (.ite (.and_ (.two .in_ (.bl true) (.var 16)) (.two .in_ (.bl false) (.var 16))) (.str "open") (.ite (.ix (.var 16) (.int 0)) (.str "alike") (.str "unlike")))) (.cons (.ret (.call "_law_same" (.cons (.call "told_apart" (.cons (.var 6) (.cons (.var 2) (.cons (.var 4) (.cons (.var 5) .nil))))) (.cons (.var 17) .nil)))) .nil)))))))))))))))
theorem f_law_picture_right_ok (Γ : Gam) : (cSs Γ 60 (ctOf 106 ["_law_tin", "_law_key_so", "_law_pairs_so", "_law_fitting_so", "_law_picture_so", "_law_other_so", "_law_p_so", "_law_reads_so", "_law_due", "_law_wish_so", "_law_got", "_law_told", "_law_two_so", "_law_rests_so", "_law_goal_so", "_law_things_so", "_law_alike_so", "_law_word_so", "_law_own"] []) (defBody (top 106))).map (·.1) = some f_law_picture_right := by
  kernel_rfl
def f_law_right : Sxs := (.cons (.asg false [1, 2] (.call "_law_seen" (.cons (.var 0) .nil))) (.cons (.asg false [3, 4] (.tup (.cons (.ix (.var 1) (.int 0)) (.cons (.call "_law_fitting" (.cons (.var 1) (.cons (.var 2) .nil))) .nil)))) (.cons (.asg true [5] (.heard "odd_row" (.cons (.var 3) (.cons (.call "_law_lists" (.cons (.var 2) .nil)) .nil)))) (.cons (.ife (.not_ (.call "_law_same" (.cons (.call "how_many_keys" (.cons (.var 3) (.cons (.var 2) .nil))) (.cons (.fn .len (.cons (.var 4) .nil)) .nil)))) (.cons (.ret (.bl false)) .nil) .nil) (.cons (.asg true [6] (.two .add (.call "_law_pick" (.cons (.var 0) (.cons (.call "_law_all_rows" (.cons (.var 3) (.cons (.fn .len (.cons (.var 2) .nil)) .nil))) (.cons (.int 6) .nil)))) (.lst (.cons (.var 5) (.cons (.fn .list (.cons (.var 5) .nil)) (.cons (.two .mul (.tup (.cons (.str "1") .nil)) (.fn .len (.cons (.var 2) .nil))) (.cons (.two .mul (.tup (.cons (.lst .nil) .nil)) (.fn .len (.cons (.var 2) .nil))) (.cons .non .nil)))))))) (.cons (.ife (.not_ (.call "_law_same" (.cons (.comp (.seq (.var 6)) true [7] [7] (.call "is_odd_row" (.cons (.var 3) (.cons (.var 2) (.cons (.var 7) .nil))))) (.cons (.comp (.seq (.var 6)) true [7] [7] (.call "_law_is_odd" (.cons (.var 3) (.cons (.var 2) (.cons (.var 7) .nil))))) .nil)))) (.cons (.ret (.bl false)) .nil) .nil) (.cons (.ife (.two .eq (.var 4) (.lst .nil)) (.cons (.ret (.and_ (.call "_law_is_odd" (.cons (.var 3) (.cons (.var 2) (.cons (.var 5) .nil)))) (.call "_law_same" (.cons (.heard "some_key" (.cons (.var 3) (.cons (.var 2) .nil))) (.cons (.lst (.cons (.str "paper") .nil)) .nil))))) .nil) .nil) (.cons (.asg true [7] (.call "some_key" (.cons (.var 3) (.cons (.call "_law_lists" (.cons (.var 2) .nil)) .nil)))) (.cons (.ife (.or_ (.not_ (.call "_law_same" (.cons (.var 5) (.cons (.lst (.cons (.str "paper") .nil)) .nil)))) (.or_ (.two .notin (.var 7) (.var 4)) (.not_ (.call "_law_same" (.cons (.var 7) (.cons (.ix (.var 4) (.mt .index (.var 4) (.cons (.var 7) .nil))) .nil)))))) (.cons (.ret (.bl false)) .nil) .nil) (.cons (.ife (.not_ (.call "_law_same" (.cons (.comp (.seq (.tup (.cons (.var 1) (.cons (.var 7) .nil)))) true [10] [10] (.call "fits_pairs" (.cons (.var 3) (.cons (.var 2) (.cons (.var 10) .nil))))) (.cons (.lst (.cons (.two .in_ (.var 1) (.var 4)) (.cons (.bl true) .nil))) .nil)))) (.cons (.ret (.bl false)) .nil) .nil) (.cons (.par 8 9 (.dat (.call "_law_picture" (.cons (.var 0) (.cons (.fn .len (.cons (.ix (.var 1) (.int 2)) .nil)) .nil)))) (.dat (.call "_law_of" (.cons (.var 0) (.cons (.comp (.seq (.var 2)) true [10] [10] (.ix (.var 10) (.int 0))) .nil))))) (.cons (.ret (.call "_law_picture_right" (.cons (.var 0) (.cons (.var 1) (.cons (.var 2) (.cons (.var 4) (.cons (.var 8) (.cons (.var 9) .nil)))))))) .nil))))))))))))
theorem f_law_right_ok (Γ : Gam) : (cSs Γ 60 (ctOf 107 ["_law_tin", "_law_key_so", "_law_pairs_so", "_law_p_so", "_law_fitting_so", "_law_told", "_law_things_so", "_law_own", "_law_one_so", "_law_two_so", "_law_own_one"] []) (defBody (top 107))).map (·.1) = some f_law_right := by
  kernel_rfl
end Dry
set_option Elab.async false
set_option linter.all false
set_option maxRecDepth 100000
set_option maxHeartbeats 4000000
/-! DryM: the table of the defs; every def keeps the promise of its meaning. -/
namespace Dry
open PySem PySem.Spec PyProof.Rows L2

structure Df where
  i : Nat
  x : Str
  ps : List Str
  N : List Str
  ms : List Nat
  b : Sxs
abbrev Df.st (d : Df) : Stmt := top d.i
structure Df.Ok (d : Df) : Prop where
  sc : FnScope d.N d.ps (defScope d.st)
  bd : ∀ (kV doc pm : Value) (an : Option Addr) (cdv ct : Value) (us : List Value), us.length = d.ps.length → bindArgs (PySem.W.fnOf d.x d.x (defArgs d.st) (defBody d.st) (defScope d.st) .none kV doc pm an cdv ct) ⟨us, []⟩ = pure (d.ps.zip us)
  ir : ∀ Γ : Gam, (cSs Γ 60 (ctOf d.i d.N d.ms) (defBody d.st)).map (·.1) = some d.b
def dd_tupled : Df := ⟨4, "tupled", ["thing"], ["thing", "part"], [], f_tupled⟩
theorem dd_tupled_ok : dd_tupled.Ok := ⟨⟨rfl, rfl, rfl, by decide +kernel, rfl, by decide +kernel, by decide +kernel⟩, fun _ _ _ _ _ _ us hl => (match us, hl with | [_], _ => rfl), f_tupled_ok⟩
def dd_is_number : Df := ⟨5, "is_number", ["thing"], ["thing"], [], f_is_number⟩
theorem dd_is_number_ok : dd_is_number.Ok := ⟨⟨rfl, rfl, rfl, by decide +kernel, rfl, by decide +kernel, by decide +kernel⟩, fun _ _ _ _ _ _ us hl => (match us, hl with | [_], _ => rfl), f_is_number_ok⟩
def dd_is_count : Df := ⟨6, "is_count", ["thing"], ["thing"], [], f_is_count⟩
theorem dd_is_count_ok : dd_is_count.Ok := ⟨⟨rfl, rfl, rfl, by decide +kernel, rfl, by decide +kernel, by decide +kernel⟩, fun _ _ _ _ _ _ us hl => (match us, hl with | [_], _ => rfl), f_is_count_ok⟩
def dd_is_below : Df := ⟨7, "is_below", ["thing", "many"], ["thing", "many"], [], f_is_below⟩
theorem dd_is_below_ok : dd_is_below.Ok := ⟨⟨rfl, rfl, rfl, by decide +kernel, rfl, by decide +kernel, by decide +kernel⟩, fun _ _ _ _ _ _ us hl => (match us, hl with | [_, _], _ => rfl), f_is_below_ok⟩
def dd_is_tuple_of : Df := ⟨8, "is_tuple_of", ["thing", "size"], ["thing", "size"], [], f_is_tuple_of⟩
theorem dd_is_tuple_of_ok : dd_is_tuple_of.Ok := ⟨⟨rfl, rfl, rfl, by decide +kernel, rfl, by decide +kernel, by decide +kernel⟩, fun _ _ _ _ _ _ us hl => (match us, hl with | [_, _], _ => rfl), f_is_tuple_of_ok⟩
def dd_is_prime : Df := ⟨11, "is_prime", ["thing"], ["thing"], [], f_is_prime⟩
theorem dd_is_prime_ok : dd_is_prime.Ok := ⟨⟨rfl, rfl, rfl, by decide +kernel, rfl, by decide +kernel, by decide +kernel⟩, fun _ _ _ _ _ _ us hl => (match us, hl with | [_], _ => rfl), f_is_prime_ok⟩
def dd_is_row : Df := ⟨12, "is_row", ["p", "thing"], ["p", "thing", "own"], [], f_is_row⟩
theorem dd_is_row_ok : dd_is_row.Ok := ⟨⟨rfl, rfl, rfl, by decide +kernel, rfl, by decide +kernel, by decide +kernel⟩, fun _ _ _ _ _ _ us hl => (match us, hl with | [_, _], _ => rfl), f_is_row_ok⟩
def dd_inverse_digit : Df := ⟨13, "inverse_digit", ["p", "digit"], ["p", "digit", "found", "own"], [], f_inverse_digit⟩
theorem dd_inverse_digit_ok : dd_inverse_digit.Ok := ⟨⟨rfl, rfl, rfl, by decide +kernel, rfl, by decide +kernel, by decide +kernel⟩, fun _ _ _ _ _ _ us hl => (match us, hl with | [_, _], _ => rfl), f_inverse_digit_ok⟩
def dd_zero_row : Df := ⟨14, "zero_row", ["many"], ["many"], [], f_zero_row⟩
theorem dd_zero_row_ok : dd_zero_row.Ok := ⟨⟨rfl, rfl, rfl, by decide +kernel, rfl, by decide +kernel, by decide +kernel⟩, fun _ _ _ _ _ _ us hl => (match us, hl with | [_], _ => rfl), f_zero_row_ok⟩
def dd_unit_row : Df := ⟨15, "unit_row", ["many", "place"], ["many", "place", "own"], [], f_unit_row⟩
theorem dd_unit_row_ok : dd_unit_row.Ok := ⟨⟨rfl, rfl, rfl, by decide +kernel, rfl, by decide +kernel, by decide +kernel⟩, fun _ _ _ _ _ _ us hl => (match us, hl with | [_, _], _ => rfl), f_unit_row_ok⟩
def dd_fit_lengths : Df := ⟨16, "fit_lengths", ["one", "other"], ["one", "other"], [], f_fit_lengths⟩
theorem dd_fit_lengths_ok : dd_fit_lengths.Ok := ⟨⟨rfl, rfl, rfl, by decide +kernel, rfl, by decide +kernel, by decide +kernel⟩, fun _ _ _ _ _ _ us hl => (match us, hl with | [_, _], _ => rfl), f_fit_lengths_ok⟩
def dd_row_sum : Df := ⟨17, "row_sum", ["p", "one", "other"], ["p", "one", "other", "near", "far"], [], f_row_sum⟩
theorem dd_row_sum_ok : dd_row_sum.Ok := ⟨⟨rfl, rfl, rfl, by decide +kernel, rfl, by decide +kernel, by decide +kernel⟩, fun _ _ _ _ _ _ us hl => (match us, hl with | [_, _, _], _ => rfl), f_row_sum_ok⟩
def dd_row_less : Df := ⟨18, "row_less", ["p", "one", "other"], ["p", "one", "other", "near", "far"], [], f_row_less⟩
theorem dd_row_less_ok : dd_row_less.Ok := ⟨⟨rfl, rfl, rfl, by decide +kernel, rfl, by decide +kernel, by decide +kernel⟩, fun _ _ _ _ _ _ us hl => (match us, hl with | [_, _, _], _ => rfl), f_row_less_ok⟩
def dd_row_times : Df := ⟨19, "row_times", ["p", "digit", "row"], ["p", "digit", "row", "own"], [], f_row_times⟩
theorem dd_row_times_ok : dd_row_times.Ok := ⟨⟨rfl, rfl, rfl, by decide +kernel, rfl, by decide +kernel, by decide +kernel⟩, fun _ _ _ _ _ _ us hl => (match us, hl with | [_, _, _], _ => rfl), f_row_times_ok⟩
def dd_row_product : Df := ⟨20, "row_product", ["p", "one", "other"], ["p", "one", "other", "near", "far"], [], f_row_product⟩
theorem dd_row_product_ok : dd_row_product.Ok := ⟨⟨rfl, rfl, rfl, by decide +kernel, rfl, by decide +kernel, by decide +kernel⟩, fun _ _ _ _ _ _ us hl => (match us, hl with | [_, _, _], _ => rfl), f_row_product_ok⟩
def dd_sum_of_multiples : Df := ⟨21, "sum_of_multiples", ["p", "many", "rows", "digits"], ["p", "many", "rows", "digits", "found", "row", "digit"], [], f_sum_of_multiples⟩
theorem dd_sum_of_multiples_ok : dd_sum_of_multiples.Ok := ⟨⟨rfl, rfl, rfl, by decide +kernel, rfl, by decide +kernel, by decide +kernel⟩, fun _ _ _ _ _ _ us hl => (match us, hl with | [_, _, _, _], _ => rfl), f_sum_of_multiples_ok⟩
def dd_marked_places : Df := ⟨22, "marked_places", ["row"], ["row", "place", "own"], [], f_marked_places⟩
theorem dd_marked_places_ok : dd_marked_places.Ok := ⟨⟨rfl, rfl, rfl, by decide +kernel, rfl, by decide +kernel, by decide +kernel⟩, fun _ _ _ _ _ _ us hl => (match us, hl with | [_], _ => rfl), f_marked_places_ok⟩
def dd_led_row : Df := ⟨23, "led_row", ["p", "row"], ["p", "row", "places"], [], f_led_row⟩
theorem dd_led_row_ok : dd_led_row.Ok := ⟨⟨rfl, rfl, rfl, by decide +kernel, rfl, by decide +kernel, by decide +kernel⟩, fun _ _ _ _ _ _ us hl => (match us, hl with | [_, _], _ => rfl), f_led_row_ok⟩
def dd_fit_rows : Df := ⟨25, "fit_rows", ["many", "rows"], ["many", "rows", "own"], [], f_fit_rows⟩
theorem dd_fit_rows_ok : dd_fit_rows.Ok := ⟨⟨rfl, rfl, rfl, by decide +kernel, rfl, by decide +kernel, by decide +kernel⟩, fun _ _ _ _ _ _ us hl => (match us, hl with | [_, _], _ => rfl), f_fit_rows_ok⟩
def dd_place_led : Df := ⟨26, "place_led", ["row"], ["row", "place", "own"], [], f_place_led⟩
theorem dd_place_led_ok : dd_place_led.Ok := ⟨⟨rfl, rfl, rfl, by decide +kernel, rfl, by decide +kernel, by decide +kernel⟩, fun _ _ _ _ _ _ us hl => (match us, hl with | [_], _ => rfl), f_place_led_ok⟩
def dd_less_at : Df := ⟨27, "less_at", ["p", "row", "lead", "place"], ["p", "row", "lead", "place"], [], f_less_at⟩
theorem dd_less_at_ok : dd_less_at.Ok := ⟨⟨rfl, rfl, rfl, by decide +kernel, rfl, by decide +kernel, by decide +kernel⟩, fun _ _ _ _ _ _ us hl => (match us, hl with | [_, _, _, _], _ => rfl), f_less_at_ok⟩
def dd_with_row : Df := ⟨28, "with_row", ["p", "leads", "row"], ["p", "leads", "row", "left", "place", "lead", "where", "own", "found"], [], f_with_row⟩
theorem dd_with_row_ok : dd_with_row.Ok := ⟨⟨rfl, rfl, rfl, by decide +kernel, rfl, by decide +kernel, by decide +kernel⟩, fun _ _ _ _ _ _ us hl => (match us, hl with | [_, _, _], _ => rfl), f_with_row_ok⟩
def dd_leads_of : Df := ⟨29, "leads_of", ["p", "rows"], ["p", "rows", "found", "row", "_"], [], f_leads_of⟩
theorem dd_leads_of_ok : dd_leads_of.Ok := ⟨⟨rfl, rfl, rfl, by decide +kernel, rfl, by decide +kernel, by decide +kernel⟩, fun _ _ _ _ _ _ us hl => (match us, hl with | [_, _], _ => rfl), f_leads_of_ok⟩
def dd_lead_places : Df := ⟨30, "lead_places", ["p", "many", "rows"], ["p", "many", "rows", "place", "_"], [], f_lead_places⟩
theorem dd_lead_places_ok : dd_lead_places.Ok := ⟨⟨rfl, rfl, rfl, by decide +kernel, rfl, by decide +kernel, by decide +kernel⟩, fun _ _ _ _ _ _ us hl => (match us, hl with | [_, _, _], _ => rfl), f_lead_places_ok⟩
def dd_grid_rank : Df := ⟨31, "grid_rank", ["p", "many", "rows"], ["p", "many", "rows"], [], f_grid_rank⟩
theorem dd_grid_rank_ok : dd_grid_rank.Ok := ⟨⟨rfl, rfl, rfl, by decide +kernel, rfl, by decide +kernel, by decide +kernel⟩, fun _ _ _ _ _ _ us hl => (match us, hl with | [_, _, _], _ => rfl), f_grid_rank_ok⟩
def dd_fit_both : Df := ⟨32, "fit_both", ["many", "rows", "row"], ["many", "rows", "row"], [], f_fit_both⟩
theorem dd_fit_both_ok : dd_fit_both.Ok := ⟨⟨rfl, rfl, rfl, by decide +kernel, rfl, by decide +kernel, by decide +kernel⟩, fun _ _ _ _ _ _ us hl => (match us, hl with | [_, _, _], _ => rfl), f_fit_both_ok⟩
def dd_is_spanned : Df := ⟨33, "is_spanned", ["p", "many", "rows", "row"], ["p", "many", "rows", "row"], [], f_is_spanned⟩
theorem dd_is_spanned_ok : dd_is_spanned.Ok := ⟨⟨rfl, rfl, rfl, by decide +kernel, rfl, by decide +kernel, by decide +kernel⟩, fun _ _ _ _ _ _ us hl => (match us, hl with | [_, _, _, _], _ => rfl), f_is_spanned_ok⟩
def dd_fresh_in : Df := ⟨34, "fresh_in", ["p", "rows"], ["p", "rows", "leads", "found", "number", "row", "spanned"], [3], f_fresh_in⟩
theorem dd_fresh_in_ok : dd_fresh_in.Ok := ⟨⟨rfl, rfl, rfl, by decide +kernel, rfl, by decide +kernel, by decide +kernel⟩, fun _ _ _ _ _ _ us hl => (match us, hl with | [_, _], _ => rfl), f_fresh_in_ok⟩
def dd_multiples_in : Df := ⟨35, "multiples_in", ["p", "many", "rows", "row"], ["p", "many", "rows", "row", "kept", "wide", "left", "place", "lead", "told", "by_number", "k", "number"], [], f_multiples_in⟩
theorem dd_multiples_in_ok : dd_multiples_in.Ok := ⟨⟨rfl, rfl, rfl, by decide +kernel, rfl, by decide +kernel, by decide +kernel⟩, fun _ _ _ _ _ _ us hl => (match us, hl with | [_, _, _, _], _ => rfl), f_multiples_in_ok⟩
def dd_multiples_for : Df := ⟨36, "multiples_for", ["p", "many", "rows", "row"], ["p", "many", "rows", "row", "found"], [], f_multiples_for⟩
theorem dd_multiples_for_ok : dd_multiples_for.Ok := ⟨⟨rfl, rfl, rfl, by decide +kernel, rfl, by decide +kernel, by decide +kernel⟩, fun _ _ _ _ _ _ us hl => (match us, hl with | [_, _, _, _], _ => rfl), f_multiples_for_ok⟩
def dd_is_multiples : Df := ⟨37, "is_multiples", ["p", "many", "rows", "row", "thing"], ["p", "many", "rows", "row", "thing"], [], f_is_multiples⟩
theorem dd_is_multiples_ok : dd_is_multiples.Ok := ⟨⟨rfl, rfl, rfl, by decide +kernel, rfl, by decide +kernel, by decide +kernel⟩, fun _ _ _ _ _ _ us hl => (match us, hl with | [_, _, _, _, _], _ => rfl), f_is_multiples_ok⟩
def dd_unmarked_rows : Df := ⟨38, "unmarked_rows", ["p", "many", "rows"], ["p", "many", "rows", "own", "place", "lead", "leads", "places", "found", "free", "_"], [3, 8], f_unmarked_rows⟩
theorem dd_unmarked_rows_ok : dd_unmarked_rows.Ok := ⟨⟨rfl, rfl, rfl, by decide +kernel, rfl, by decide +kernel, by decide +kernel⟩, fun _ _ _ _ _ _ us hl => (match us, hl with | [_, _, _], _ => rfl), f_unmarked_rows_ok⟩
def dd_bar_row : Df := ⟨39, "bar_row", ["p", "many", "rows", "row"], ["p", "many", "rows", "row", "own"], [], f_bar_row⟩
theorem dd_bar_row_ok : dd_bar_row.Ok := ⟨⟨rfl, rfl, rfl, by decide +kernel, rfl, by decide +kernel, by decide +kernel⟩, fun _ _ _ _ _ _ us hl => (match us, hl with | [_, _, _, _], _ => rfl), f_bar_row_ok⟩
def dd_turned_grid : Df := ⟨40, "turned_grid", ["p", "many", "rows"], ["p", "many", "rows", "own", "place"], [], f_turned_grid⟩
theorem dd_turned_grid_ok : dd_turned_grid.Ok := ⟨⟨rfl, rfl, rfl, by decide +kernel, rfl, by decide +kernel, by decide +kernel⟩, fun _ _ _ _ _ _ us hl => (match us, hl with | [_, _, _], _ => rfl), f_turned_grid_ok⟩
def dd_shape_of : Df := ⟨42, "shape_of", ["picture"], ["picture", "top", "rows"], [], f_shape_of⟩
theorem dd_shape_of_ok : dd_shape_of.Ok := ⟨⟨rfl, rfl, rfl, by decide +kernel, rfl, by decide +kernel, by decide +kernel⟩, fun _ _ _ _ _ _ us hl => (match us, hl with | [_], _ => rfl), f_shape_of_ok⟩
def dd_cells_in : Df := ⟨43, "cells_in", ["picture"], ["picture", "_", "high", "wide"], [], f_cells_in⟩
theorem dd_cells_in_ok : dd_cells_in.Ok := ⟨⟨rfl, rfl, rfl, by decide +kernel, rfl, by decide +kernel, by decide +kernel⟩, fun _ _ _ _ _ _ us hl => (match us, hl with | [_], _ => rfl), f_cells_in_ok⟩
def dd_greys : Df := ⟨44, "greys", ["picture"], ["picture", "found", "row"], [1], f_greys⟩
theorem dd_greys_ok : dd_greys.Ok := ⟨⟨rfl, rfl, rfl, by decide +kernel, rfl, by decide +kernel, by decide +kernel⟩, fun _ _ _ _ _ _ us hl => (match us, hl with | [_], _ => rfl), f_greys_ok⟩
def dd_rests : Df := ⟨45, "rests", ["picture", "p"], ["picture", "p", "grey"], [], f_rests⟩
theorem dd_rests_ok : dd_rests.Ok := ⟨⟨rfl, rfl, rfl, by decide +kernel, rfl, by decide +kernel, by decide +kernel⟩, fun _ _ _ _ _ _ us hl => (match us, hl with | [_, _], _ => rfl), f_rests_ok⟩
def dd_are_rows_of : Df := ⟨47, "are_rows_of", ["p", "many", "thing"], ["p", "many", "thing", "own"], [], f_are_rows_of⟩
theorem dd_are_rows_of_ok : dd_are_rows_of.Ok := ⟨⟨rfl, rfl, rfl, by decide +kernel, rfl, by decide +kernel, by decide +kernel⟩, fun _ _ _ _ _ _ us hl => (match us, hl with | [_, _, _], _ => rfl), f_are_rows_of_ok⟩
def dd_is_key : Df := ⟨48, "is_key", ["thing"], ["thing"], [], f_is_key⟩
theorem dd_is_key_ok : dd_is_key.Ok := ⟨⟨rfl, rfl, rfl, by decide +kernel, rfl, by decide +kernel, by decide +kernel⟩, fun _ _ _ _ _ _ us hl => (match us, hl with | [_], _ => rfl), f_is_key_ok⟩
def dd_read_in : Df := ⟨49, "read_in", ["key", "tones"], ["key", "tones", "tone", "own", "place"], [], f_read_in⟩
theorem dd_read_in_ok : dd_read_in.Ok := ⟨⟨rfl, rfl, rfl, by decide +kernel, rfl, by decide +kernel, by decide +kernel⟩, fun _ _ _ _ _ _ us hl => (match us, hl with | [_, _], _ => rfl), f_read_in_ok⟩
def dd_sure_tones : Df := ⟨51, "sure_tones", ["picture", "key"], ["picture", "key", "own", "tones"], [], f_sure_tones⟩
theorem dd_sure_tones_ok : dd_sure_tones.Ok := ⟨⟨rfl, rfl, rfl, by decide +kernel, rfl, by decide +kernel, by decide +kernel⟩, fun _ _ _ _ _ _ us hl => (match us, hl with | [_, _], _ => rfl), f_sure_tones_ok⟩
def dd_reading : Df := ⟨52, "reading", ["picture", "key"], ["picture", "key", "tones", "own"], [], f_reading⟩
theorem dd_reading_ok : dd_reading.Ok := ⟨⟨rfl, rfl, rfl, by decide +kernel, rfl, by decide +kernel, by decide +kernel⟩, fun _ _ _ _ _ _ us hl => (match us, hl with | [_, _], _ => rfl), f_reading_ok⟩
def dd_is_seen_pair : Df := ⟨54, "is_seen_pair", ["p", "cells", "many", "pair"], ["p", "cells", "many", "pair"], [], f_is_seen_pair⟩
theorem dd_is_seen_pair_ok : dd_is_seen_pair.Ok := ⟨⟨rfl, rfl, rfl, by decide +kernel, rfl, by decide +kernel, by decide +kernel⟩, fun _ _ _ _ _ _ us hl => (match us, hl with | [_, _, _, _], _ => rfl), f_is_seen_pair_ok⟩
def dd_sure_pairs : Df := ⟨55, "sure_pairs", ["p", "pairs"], ["p", "pairs", "own", "cells", "many", "pair", "picture", "_", "message"], [], f_sure_pairs⟩
theorem dd_sure_pairs_ok : dd_sure_pairs.Ok := ⟨⟨rfl, rfl, rfl, by decide +kernel, rfl, by decide +kernel, by decide +kernel⟩, fun _ _ _ _ _ _ us hl => (match us, hl with | [_, _], _ => rfl), f_sure_pairs_ok⟩
def dd_sure_rests : Df := ⟨56, "sure_rests", ["p", "grid", "picture"], ["p", "grid", "picture"], [], f_sure_rests⟩
theorem dd_sure_rests_ok : dd_sure_rests.Ok := ⟨⟨rfl, rfl, rfl, by decide +kernel, rfl, by decide +kernel, by decide +kernel⟩, fun _ _ _ _ _ _ us hl => (match us, hl with | [_, _, _], _ => rfl), f_sure_rests_ok⟩
def dd_digits_at : Df := ⟨57, "digits_at", ["messages", "place"], ["messages", "place", "message"], [], f_digits_at⟩
theorem dd_digits_at_ok : dd_digits_at.Ok := ⟨⟨rfl, rfl, rfl, by decide +kernel, rfl, by decide +kernel, by decide +kernel⟩, fun _ _ _ _ _ _ us hl => (match us, hl with | [_, _], _ => rfl), f_digits_at_ok⟩
def dd_rows_fitting : Df := ⟨58, "rows_fitting", ["p", "grid", "messages"], ["p", "grid", "messages", "found", "columns", "place", "wanted", "fits"], [3], f_rows_fitting⟩
theorem dd_rows_fitting_ok : dd_rows_fitting.Ok := ⟨⟨rfl, rfl, rfl, by decide +kernel, rfl, by decide +kernel, by decide +kernel⟩, fun _ _ _ _ _ _ us hl => (match us, hl with | [_, _, _], _ => rfl), f_rows_fitting_ok⟩
def dd_key_fitting : Df := ⟨59, "key_fitting", ["p", "pairs"], ["p", "pairs", "_", "grid", "messages", "rows", "columns", "row", "cell"], [], f_key_fitting⟩
theorem dd_key_fitting_ok : dd_key_fitting.Ok := ⟨⟨rfl, rfl, rfl, by decide +kernel, rfl, by decide +kernel, by decide +kernel⟩, fun _ _ _ _ _ _ us hl => (match us, hl with | [_, _], _ => rfl), f_key_fitting_ok⟩
def dd_fits_in : Df := ⟨60, "fits_in", ["p", "own", "key"], ["p", "own", "key", "picture", "message"], [], f_fits_in⟩
theorem dd_fits_in_ok : dd_fits_in.Ok := ⟨⟨rfl, rfl, rfl, by decide +kernel, rfl, by decide +kernel, by decide +kernel⟩, fun _ _ _ _ _ _ us hl => (match us, hl with | [_, _, _], _ => rfl), f_fits_in_ok⟩
def dd_fits_pairs : Df := ⟨61, "fits_pairs", ["p", "pairs", "key"], ["p", "pairs", "key", "own", "_"], [], f_fits_pairs⟩
theorem dd_fits_pairs_ok : dd_fits_pairs.Ok := ⟨⟨rfl, rfl, rfl, by decide +kernel, rfl, by decide +kernel, by decide +kernel⟩, fun _ _ _ _ _ _ us hl => (match us, hl with | [_, _, _], _ => rfl), f_fits_pairs_ok⟩
def dd_some_key : Df := ⟨62, "some_key", ["p", "pairs"], ["p", "pairs"], [], f_some_key⟩
theorem dd_some_key_ok : dd_some_key.Ok := ⟨⟨rfl, rfl, rfl, by decide +kernel, rfl, by decide +kernel, by decide +kernel⟩, fun _ _ _ _ _ _ us hl => (match us, hl with | [_, _], _ => rfl), f_some_key_ok⟩
def dd_power_of : Df := ⟨63, "power_of", ["p", "many"], ["p", "many", "found", "_"], [], f_power_of⟩
theorem dd_power_of_ok : dd_power_of.Ok := ⟨⟨rfl, rfl, rfl, by decide +kernel, rfl, by decide +kernel, by decide +kernel⟩, fun _ _ _ _ _ _ us hl => (match us, hl with | [_, _], _ => rfl), f_power_of_ok⟩
def dd_many_fitting : Df := ⟨64, "many_fitting", ["p", "grid", "messages"], ["p", "grid", "messages"], [], f_many_fitting⟩
theorem dd_many_fitting_ok : dd_many_fitting.Ok := ⟨⟨rfl, rfl, rfl, by decide +kernel, rfl, by decide +kernel, by decide +kernel⟩, fun _ _ _ _ _ _ us hl => (match us, hl with | [_, _, _], _ => rfl), f_many_fitting_ok⟩
def dd_how_many_keys : Df := ⟨65, "how_many_keys", ["p", "pairs"], ["p", "pairs", "_", "grid", "messages"], [], f_how_many_keys⟩
theorem dd_how_many_keys_ok : dd_how_many_keys.Ok := ⟨⟨rfl, rfl, rfl, by decide +kernel, rfl, by decide +kernel, by decide +kernel⟩, fun _ _ _ _ _ _ us hl => (match us, hl with | [_, _], _ => rfl), f_how_many_keys_ok⟩
def dd_odd_row : Df := ⟨66, "odd_row", ["p", "pairs"], ["p", "pairs", "_", "grid", "messages", "rows"], [], f_odd_row⟩
theorem dd_odd_row_ok : dd_odd_row.Ok := ⟨⟨rfl, rfl, rfl, by decide +kernel, rfl, by decide +kernel, by decide +kernel⟩, fun _ _ _ _ _ _ us hl => (match us, hl with | [_, _], _ => rfl), f_odd_row_ok⟩
def dd_is_odd_row : Df := ⟨67, "is_odd_row", ["p", "pairs", "thing"], ["p", "pairs", "thing", "_", "grid", "messages"], [], f_is_odd_row⟩
theorem dd_is_odd_row_ok : dd_is_odd_row.Ok := ⟨⟨rfl, rfl, rfl, by decide +kernel, rfl, by decide +kernel, by decide +kernel⟩, fun _ _ _ _ _ _ us hl => (match us, hl with | [_, _, _], _ => rfl), f_is_odd_row_ok⟩
def dd_sure_seen : Df := ⟨68, "sure_seen", ["p", "pairs", "picture"], ["p", "pairs", "picture", "_", "grid", "wanted"], [], f_sure_seen⟩
theorem dd_sure_seen_ok : dd_sure_seen.Ok := ⟨⟨rfl, rfl, rfl, by decide +kernel, rfl, by decide +kernel, by decide +kernel⟩, fun _ _ _ _ _ _ us hl => (match us, hl with | [_, _, _], _ => rfl), f_sure_seen_ok⟩
def dd_is_told : Df := ⟨69, "is_told", ["p", "pairs", "picture"], ["p", "pairs", "picture", "grid", "_", "wanted"], [], f_is_told⟩
theorem dd_is_told_ok : dd_is_told.Ok := ⟨⟨rfl, rfl, rfl, by decide +kernel, rfl, by decide +kernel, by decide +kernel⟩, fun _ _ _ _ _ _ us hl => (match us, hl with | [_, _, _], _ => rfl), f_is_told_ok⟩
def dd_message_of : Df := ⟨70, "message_of", ["p", "grid", "messages", "wanted"], ["p", "grid", "messages", "wanted"], [], f_message_of⟩
theorem dd_message_of_ok : dd_message_of.Ok := ⟨⟨rfl, rfl, rfl, by decide +kernel, rfl, by decide +kernel, by decide +kernel⟩, fun _ _ _ _ _ _ us hl => (match us, hl with | [_, _, _, _], _ => rfl), f_message_of_ok⟩
def dd_told_message : Df := ⟨71, "told_message", ["p", "pairs", "picture"], ["p", "pairs", "picture", "grid", "messages", "_", "wanted"], [], f_told_message⟩
theorem dd_told_message_ok : dd_told_message.Ok := ⟨⟨rfl, rfl, rfl, by decide +kernel, rfl, by decide +kernel, by decide +kernel⟩, fun _ _ _ _ _ _ us hl => (match us, hl with | [_, _, _], _ => rfl), f_told_message_ok⟩
def dd_telling : Df := ⟨72, "telling", ["p", "pairs", "picture"], ["p", "pairs", "picture", "grid", "_", "wanted"], [], f_telling⟩
theorem dd_telling_ok : dd_telling.Ok := ⟨⟨rfl, rfl, rfl, by decide +kernel, rfl, by decide +kernel, by decide +kernel⟩, fun _ _ _ _ _ _ us hl => (match us, hl with | [_, _, _], _ => rfl), f_telling_ok⟩
def dd_is_telling : Df := ⟨73, "is_telling", ["p", "pairs", "picture", "thing"], ["p", "pairs", "picture", "thing", "grid", "_", "wanted"], [], f_is_telling⟩
theorem dd_is_telling_ok : dd_is_telling.Ok := ⟨⟨rfl, rfl, rfl, by decide +kernel, rfl, by decide +kernel, by decide +kernel⟩, fun _ _ _ _ _ _ us hl => (match us, hl with | [_, _, _, _], _ => rfl), f_is_telling_ok⟩
def dd_two_keys : Df := ⟨74, "two_keys", ["p", "pairs", "picture"], ["p", "pairs", "picture", "grid", "messages", "key", "wanted", "step", "first", "columns", "own", "column", "digit"], [], f_two_keys⟩
theorem dd_two_keys_ok : dd_two_keys.Ok := ⟨⟨rfl, rfl, rfl, by decide +kernel, rfl, by decide +kernel, by decide +kernel⟩, fun _ _ _ _ _ _ us hl => (match us, hl with | [_, _, _], _ => rfl), f_two_keys_ok⟩
def dd_is_two_keys : Df := ⟨75, "is_two_keys", ["p", "pairs", "picture", "thing"], ["p", "pairs", "picture", "thing", "own", "_", "key"], [], f_is_two_keys⟩
theorem dd_is_two_keys_ok : dd_is_two_keys.Ok := ⟨⟨rfl, rfl, rfl, by decide +kernel, rfl, by decide +kernel, by decide +kernel⟩, fun _ _ _ _ _ _ us hl => (match us, hl with | [_, _, _, _], _ => rfl), f_is_two_keys_ok⟩
def dd_keys_that_read : Df := ⟨76, "keys_that_read", ["p", "pairs", "picture", "message"], ["p", "pairs", "picture", "message", "_", "seen", "told", "grid", "messages", "wanted", "many"], [], f_keys_that_read⟩
theorem dd_keys_that_read_ok : dd_keys_that_read.Ok := ⟨⟨rfl, rfl, rfl, by decide +kernel, rfl, by decide +kernel, by decide +kernel⟩, fun _ _ _ _ _ _ us hl => (match us, hl with | [_, _, _, _], _ => rfl), f_keys_that_read_ok⟩
def dd_told_apart : Df := ⟨77, "told_apart", ["p", "pairs", "near", "far"], ["p", "pairs", "near", "far", "_", "own", "wanted", "grid", "messages"], [], f_told_apart⟩
theorem dd_told_apart_ok : dd_told_apart.Ok := ⟨⟨rfl, rfl, rfl, by decide +kernel, rfl, by decide +kernel, by decide +kernel⟩, fun _ _ _ _ _ _ us hl => (match us, hl with | [_, _, _, _], _ => rfl), f_told_apart_ok⟩
def dd_law_box : Df := ⟨79, "_law_box", ["_law_script", "_law_k"], ["_law_script", "_law_k", "_law_cell_so"], [], f_law_box⟩
theorem dd_law_box_ok : dd_law_box.Ok := ⟨⟨rfl, rfl, rfl, by decide +kernel, rfl, by decide +kernel, by decide +kernel⟩, fun _ _ _ _ _ _ us hl => (match us, hl with | [_, _], _ => rfl), f_law_box_ok⟩
def dd_law_take : Df := ⟨80, "_law_take", ["_law_tin", "_law_below_so"], ["_law_tin", "_law_below_so", "_law_drawn", "_law_once_so", "_law_wide_so", "_law_twice_so"], [], f_law_take⟩
theorem dd_law_take_ok : dd_law_take.Ok := ⟨⟨rfl, rfl, rfl, by decide +kernel, rfl, by decide +kernel, by decide +kernel⟩, fun _ _ _ _ _ _ us hl => (match us, hl with | [_, _], _ => rfl), f_law_take_ok⟩
def dd_law_cells : Df := ⟨81, "_law_cells", ["_law_script", "_law_most_so"], ["_law_script", "_law_most_so", "_law_cells_so", "_law_k", "_law_cell_so", "_law_at_so"], [2], f_law_cells⟩
theorem dd_law_cells_ok : dd_law_cells.Ok := ⟨⟨rfl, rfl, rfl, by decide +kernel, rfl, by decide +kernel, by decide +kernel⟩, fun _ _ _ _ _ _ us hl => (match us, hl with | [_, _], _ => rfl), f_law_cells_ok⟩
def dd_law_of : Df := ⟨82, "_law_of", ["_law_tin", "_law_goods_so"], ["_law_tin", "_law_goods_so"], [], f_law_of⟩
theorem dd_law_of_ok : dd_law_of.Ok := ⟨⟨rfl, rfl, rfl, by decide +kernel, rfl, by decide +kernel, by decide +kernel⟩, fun _ _ _ _ _ _ us hl => (match us, hl with | [_, _], _ => rfl), f_law_of_ok⟩
def dd_law_pick : Df := ⟨83, "_law_pick", ["_law_tin", "_law_goods_so", "_law_count_so"], ["_law_tin", "_law_goods_so", "_law_count_so", "_law_pool_so", "_law_found", "_law_lap"], [3, 4], f_law_pick⟩
theorem dd_law_pick_ok : dd_law_pick.Ok := ⟨⟨rfl, rfl, rfl, by decide +kernel, rfl, by decide +kernel, by decide +kernel⟩, fun _ _ _ _ _ _ us hl => (match us, hl with | [_, _, _], _ => rfl), f_law_pick_ok⟩
def dd_law_lists : Df := ⟨84, "_law_lists", ["_law_matter"], ["_law_matter", "_law_bit"], [], f_law_lists⟩
theorem dd_law_lists_ok : dd_law_lists.Ok := ⟨⟨rfl, rfl, rfl, by decide +kernel, rfl, by decide +kernel, by decide +kernel⟩, fun _ _ _ _ _ _ us hl => (match us, hl with | [_], _ => rfl), f_law_lists_ok⟩
def dd_law_same : Df := ⟨85, "_law_same", ["_law_got", "_law_due"], ["_law_got", "_law_due", "_law_mine", "_law_its"], [], f_law_same⟩
theorem dd_law_same_ok : dd_law_same.Ok := ⟨⟨rfl, rfl, rfl, by decide +kernel, rfl, by decide +kernel, by decide +kernel⟩, fun _ _ _ _ _ _ us hl => (match us, hl with | [_, _], _ => rfl), f_law_same_ok⟩
def dd_law_is_number : Df := ⟨86, "_law_is_number", ["_law_own"], ["_law_own"], [], f_law_is_number⟩
theorem dd_law_is_number_ok : dd_law_is_number.Ok := ⟨⟨rfl, rfl, rfl, by decide +kernel, rfl, by decide +kernel, by decide +kernel⟩, fun _ _ _ _ _ _ us hl => (match us, hl with | [_], _ => rfl), f_law_is_number_ok⟩
def dd_law_greys : Df := ⟨87, "_law_greys", ["_law_picture_so"], ["_law_picture_so", "_law_own"], [], f_law_greys⟩
theorem dd_law_greys_ok : dd_law_greys.Ok := ⟨⟨rfl, rfl, rfl, by decide +kernel, rfl, by decide +kernel, by decide +kernel⟩, fun _ _ _ _ _ _ us hl => (match us, hl with | [_], _ => rfl), f_law_greys_ok⟩
def dd_law_shaped : Df := ⟨88, "_law_shaped", ["_law_picture_so", "_law_greys_so"], ["_law_picture_so", "_law_greys_so", "_law_wide_so", "_law_k"], [], f_law_shaped⟩
theorem dd_law_shaped_ok : dd_law_shaped.Ok := ⟨⟨rfl, rfl, rfl, by decide +kernel, rfl, by decide +kernel, by decide +kernel⟩, fun _ _ _ _ _ _ us hl => (match us, hl with | [_, _], _ => rfl), f_law_shaped_ok⟩
def dd_law_rests : Df := ⟨89, "_law_rests", ["_law_picture_so", "_law_p_so"], ["_law_picture_so", "_law_p_so", "_law_own"], [], f_law_rests⟩
theorem dd_law_rests_ok : dd_law_rests.Ok := ⟨⟨rfl, rfl, rfl, by decide +kernel, rfl, by decide +kernel, by decide +kernel⟩, fun _ _ _ _ _ _ us hl => (match us, hl with | [_, _], _ => rfl), f_law_rests_ok⟩
def dd_law_row_plus : Df := ⟨90, "_law_row_plus", ["_law_one_so", "_law_two_so", "_law_p_so"], ["_law_one_so", "_law_two_so", "_law_p_so", "_law_near_so", "_law_far_so"], [], f_law_row_plus⟩
theorem dd_law_row_plus_ok : dd_law_row_plus.Ok := ⟨⟨rfl, rfl, rfl, by decide +kernel, rfl, by decide +kernel, by decide +kernel⟩, fun _ _ _ _ _ _ us hl => (match us, hl with | [_, _, _], _ => rfl), f_law_row_plus_ok⟩
def dd_law_row_times : Df := ⟨91, "_law_row_times", ["_law_digit_so", "_law_row_so", "_law_p_so"], ["_law_digit_so", "_law_row_so", "_law_p_so", "_law_own"], [], f_law_row_times⟩
theorem dd_law_row_times_ok : dd_law_row_times.Ok := ⟨⟨rfl, rfl, rfl, by decide +kernel, rfl, by decide +kernel, by decide +kernel⟩, fun _ _ _ _ _ _ us hl => (match us, hl with | [_, _, _], _ => rfl), f_law_row_times_ok⟩
def dd_law_all_rows : Df := ⟨92, "_law_all_rows", ["_law_p_so", "_law_many_so"], ["_law_p_so", "_law_many_so", "_law_found", "_law_lap", "_law_longer_so", "_law_own", "_law_digit_so"], [], f_law_all_rows⟩
theorem dd_law_all_rows_ok : dd_law_all_rows.Ok := ⟨⟨rfl, rfl, rfl, by decide +kernel, rfl, by decide +kernel, by decide +kernel⟩, fun _ _ _ _ _ _ us hl => (match us, hl with | [_, _], _ => rfl), f_law_all_rows_ok⟩
def dd_law_read : Df := ⟨93, "_law_read", ["_law_key_so", "_law_rests_so"], ["_law_key_so", "_law_rests_so", "_law_found", "_law_rest_so", "_law_column_so"], [], f_law_read⟩
theorem dd_law_read_ok : dd_law_read.Ok := ⟨⟨rfl, rfl, rfl, by decide +kernel, rfl, by decide +kernel, by decide +kernel⟩, fun _ _ _ _ _ _ us hl => (match us, hl with | [_, _], _ => rfl), f_law_read_ok⟩
def dd_law_reading : Df := ⟨94, "_law_reading", ["_law_picture_so", "_law_key_so"], ["_law_picture_so", "_law_key_so"], [], f_law_reading⟩
theorem dd_law_reading_ok : dd_law_reading.Ok := ⟨⟨rfl, rfl, rfl, by decide +kernel, rfl, by decide +kernel, by decide +kernel⟩, fun _ _ _ _ _ _ us hl => (match us, hl with | [_, _], _ => rfl), f_law_reading_ok⟩
def dd_law_is_digits : Df := ⟨95, "_law_is_digits", ["_law_own", "_law_p_so", "_law_many_so"], ["_law_own", "_law_p_so", "_law_many_so", "_law_bit"], [], f_law_is_digits⟩
theorem dd_law_is_digits_ok : dd_law_is_digits.Ok := ⟨⟨rfl, rfl, rfl, by decide +kernel, rfl, by decide +kernel, by decide +kernel⟩, fun _ _ _ _ _ _ us hl => (match us, hl with | [_, _, _], _ => rfl), f_law_is_digits_ok⟩
def dd_law_are_multiples : Df := ⟨96, "_law_are_multiples", ["_law_p_so", "_law_rows_so", "_law_due_so", "_law_own"], ["_law_p_so", "_law_rows_so", "_law_due_so", "_law_own", "_law_found", "_law_digit_so", "_law_row_so"], [], f_law_are_multiples⟩
theorem dd_law_are_multiples_ok : dd_law_are_multiples.Ok := ⟨⟨rfl, rfl, rfl, by decide +kernel, rfl, by decide +kernel, by decide +kernel⟩, fun _ _ _ _ _ _ us hl => (match us, hl with | [_, _, _, _], _ => rfl), f_law_are_multiples_ok⟩
def dd_law_picture : Df := ⟨97, "_law_picture", ["_law_tin", "_law_many_so"], ["_law_tin", "_law_many_so", "_law_top_so", "_law_tall_so", "_law_greys_so", "_law_k", "_law_lap"], [], f_law_picture⟩
theorem dd_law_picture_ok : dd_law_picture.Ok := ⟨⟨rfl, rfl, rfl, by decide +kernel, rfl, by decide +kernel, by decide +kernel⟩, fun _ _ _ _ _ _ us hl => (match us, hl with | [_, _], _ => rfl), f_law_picture_ok⟩
def dd_law_message : Df := ⟨98, "_law_message", ["_law_tin", "_law_key_so"], ["_law_tin", "_law_key_so", "_law_lap"], [], f_law_message⟩
theorem dd_law_message_ok : dd_law_message.Ok := ⟨⟨rfl, rfl, rfl, by decide +kernel, rfl, by decide +kernel, by decide +kernel⟩, fun _ _ _ _ _ _ us hl => (match us, hl with | [_, _], _ => rfl), f_law_message_ok⟩
def dd_law_seen : Df := ⟨99, "_law_seen", ["_law_tin"], ["_law_tin", "_law_p_so", "_law_cells_so", "_law_many_so", "_law_lap", "_law_columns_so", "_law_key_so", "_law_pairs_so", "_law_picture_so", "_law_read_so", "_law_k"], [7], f_law_seen⟩
theorem dd_law_seen_ok : dd_law_seen.Ok := ⟨⟨rfl, rfl, rfl, by decide +kernel, rfl, by decide +kernel, by decide +kernel⟩, fun _ _ _ _ _ _ us hl => (match us, hl with | [_], _ => rfl), f_law_seen_ok⟩
def dd_law_fitting : Df := ⟨100, "_law_fitting", ["_law_key_so", "_law_pairs_so"], ["_law_key_so", "_law_pairs_so", "_law_found", "_law_rows_so", "_law_left_so", "_law_lap", "_law_longer_so", "_law_own", "_law_its", "_law_column_so", "_law_picture_so", "_law_read_so"], [2], f_law_fitting⟩
theorem dd_law_fitting_ok : dd_law_fitting.Ok := ⟨⟨rfl, rfl, rfl, by decide +kernel, rfl, by decide +kernel, by decide +kernel⟩, fun _ _ _ _ _ _ us hl => (match us, hl with | [_, _], _ => rfl), f_law_fitting_ok⟩
def dd_law_caught : Df := ⟨101, "_law_caught", [], ["_law_first", "_law_second", "_law_third", "_law_lone", "_law_own"], [], f_law_caught⟩
theorem dd_law_caught_ok : dd_law_caught.Ok := ⟨⟨rfl, rfl, rfl, by decide +kernel, rfl, by decide +kernel, by decide +kernel⟩, fun _ _ _ _ _ _ us hl => (match us, hl with | [], _ => rfl), f_law_caught_ok⟩
def dd_law_by_hand_right : Df := ⟨103, "_law_by_hand_right", [], ["_law_third", "_law_lone", "_law_caught_so", "_law_got", "_law_own"], [], f_law_by_hand_right⟩
theorem dd_law_by_hand_right_ok : dd_law_by_hand_right.Ok := ⟨⟨rfl, rfl, rfl, by decide +kernel, rfl, by decide +kernel, by decide +kernel⟩, fun _ _ _ _ _ _ us hl => (match us, hl with | [], _ => rfl), f_law_by_hand_right_ok⟩
def dd_law_is_odd : Df := ⟨104, "_law_is_odd", ["_law_p_so", "_law_pairs_so", "_law_own"], ["_law_p_so", "_law_pairs_so", "_law_own", "_law_rests_so", "_law_reads_so", "_law_zeros_so", "_law_its"], [], f_law_is_odd⟩
theorem dd_law_is_odd_ok : dd_law_is_odd.Ok := ⟨⟨rfl, rfl, rfl, by decide +kernel, rfl, by decide +kernel, by decide +kernel⟩, fun _ _ _ _ _ _ us hl => (match us, hl with | [_, _, _], _ => rfl), f_law_is_odd_ok⟩
def dd_law_is_two : Df := ⟨105, "_law_is_two", ["_law_fitting_so", "_law_picture_so", "_law_own"], ["_law_fitting_so", "_law_picture_so", "_law_own", "_law_own_one"], [], f_law_is_two⟩
theorem dd_law_is_two_ok : dd_law_is_two.Ok := ⟨⟨rfl, rfl, rfl, by decide +kernel, rfl, by decide +kernel, by decide +kernel⟩, fun _ _ _ _ _ _ us hl => (match us, hl with | [_, _, _], _ => rfl), f_law_is_two_ok⟩
def dd_law_picture_right : Df := ⟨106, "_law_picture_right", ["_law_tin", "_law_key_so", "_law_pairs_so", "_law_fitting_so", "_law_picture_so", "_law_other_so"], ["_law_tin", "_law_key_so", "_law_pairs_so", "_law_fitting_so", "_law_picture_so", "_law_other_so", "_law_p_so", "_law_reads_so", "_law_due", "_law_wish_so", "_law_got", "_law_told", "_law_two_so", "_law_rests_so", "_law_goal_so", "_law_things_so", "_law_alike_so", "_law_word_so", "_law_own"], [], f_law_picture_right⟩
theorem dd_law_picture_right_ok : dd_law_picture_right.Ok := ⟨⟨rfl, rfl, rfl, by decide +kernel, rfl, by decide +kernel, by decide +kernel⟩, fun _ _ _ _ _ _ us hl => (match us, hl with | [_, _, _, _, _, _], _ => rfl), f_law_picture_right_ok⟩
def dd_law_right : Df := ⟨107, "_law_right", ["_law_tin"], ["_law_tin", "_law_key_so", "_law_pairs_so", "_law_p_so", "_law_fitting_so", "_law_told", "_law_things_so", "_law_own", "_law_one_so", "_law_two_so", "_law_own_one"], [], f_law_right⟩
theorem dd_law_right_ok : dd_law_right.Ok := ⟨⟨rfl, rfl, rfl, by decide +kernel, rfl, by decide +kernel, by decide +kernel⟩, fun _ _ _ _ _ _ us hl => (match us, hl with | [_], _ => rfl), f_law_right_ok⟩
def tbl : List Df := [dd_tupled, dd_is_number, dd_is_count, dd_is_below, dd_is_tuple_of, dd_is_prime, dd_is_row, dd_inverse_digit, dd_zero_row, dd_unit_row, dd_fit_lengths, dd_row_sum, dd_row_less, dd_row_times, dd_row_product, dd_sum_of_multiples, dd_marked_places, dd_led_row, dd_fit_rows, dd_place_led, dd_less_at, dd_with_row, dd_leads_of, dd_lead_places, dd_grid_rank, dd_fit_both, dd_is_spanned, dd_fresh_in, dd_multiples_in, dd_multiples_for, dd_is_multiples, dd_unmarked_rows, dd_bar_row, dd_turned_grid, dd_shape_of, dd_cells_in, dd_greys, dd_rests, dd_are_rows_of, dd_is_key, dd_read_in, dd_sure_tones, dd_reading, dd_is_seen_pair, dd_sure_pairs, dd_sure_rests, dd_digits_at, dd_rows_fitting, dd_key_fitting, dd_fits_in, dd_fits_pairs, dd_some_key, dd_power_of, dd_many_fitting, dd_how_many_keys, dd_odd_row, dd_is_odd_row, dd_sure_seen, dd_is_told, dd_message_of, dd_told_message, dd_telling, dd_is_telling, dd_two_keys, dd_is_two_keys, dd_keys_that_read, dd_told_apart, dd_law_box, dd_law_take, dd_law_cells, dd_law_of, dd_law_pick, dd_law_lists, dd_law_same, dd_law_is_number, dd_law_greys, dd_law_shaped, dd_law_rests, dd_law_row_plus, dd_law_row_times, dd_law_all_rows, dd_law_read, dd_law_reading, dd_law_is_digits, dd_law_are_multiples, dd_law_picture, dd_law_message, dd_law_seen, dd_law_fitting, dd_law_caught, dd_law_by_hand_right, dd_law_is_odd, dd_law_is_two, dd_law_picture_right, dd_law_right]
theorem tbl_ok : ∀ d ∈ tbl, d.Ok := by
  intro d h
  simp only [tbl, List.mem_cons, List.not_mem_nil, or_false] at h
  rcases h with rfl | rfl | rfl | rfl | rfl | rfl | rfl | rfl | rfl | rfl | rfl | rfl | rfl | rfl | rfl | rfl | rfl | rfl | rfl | rfl | rfl | rfl | rfl | rfl | rfl | rfl | rfl | rfl | rfl | rfl | rfl | rfl | rfl | rfl | rfl | rfl | rfl | rfl | rfl | rfl | rfl | rfl | rfl | rfl | rfl | rfl | rfl | rfl | rfl | rfl | rfl | rfl | rfl | rfl | rfl | rfl | rfl | rfl | rfl | rfl | rfl | rfl | rfl | rfl | rfl | rfl | rfl | rfl | rfl | rfl | rfl | rfl | rfl | rfl | rfl | rfl | rfl | rfl | rfl | rfl | rfl | rfl | rfl | rfl | rfl | rfl | rfl | rfl | rfl | rfl | rfl | rfl | rfl | rfl | rfl
  · exact dd_tupled_ok
  · exact dd_is_number_ok
  · exact dd_is_count_ok
  · exact dd_is_below_ok
  · exact dd_is_tuple_of_ok
  · exact dd_is_prime_ok
  · exact dd_is_row_ok
  · exact dd_inverse_digit_ok
  · exact dd_zero_row_ok
  · exact dd_unit_row_ok
  · exact dd_fit_lengths_ok
  · exact dd_row_sum_ok
  · exact dd_row_less_ok
  · exact dd_row_times_ok
  · exact dd_row_product_ok
  · exact dd_sum_of_multiples_ok
  · exact dd_marked_places_ok
  · exact dd_led_row_ok
  · exact dd_fit_rows_ok
  · exact dd_place_led_ok
  · exact dd_less_at_ok
  · exact dd_with_row_ok
  · exact dd_leads_of_ok
  · exact dd_lead_places_ok
  · exact dd_grid_rank_ok
  · exact dd_fit_both_ok
  · exact dd_is_spanned_ok
  · exact dd_fresh_in_ok
  · exact dd_multiples_in_ok
  · exact dd_multiples_for_ok
  · exact dd_is_multiples_ok
  · exact dd_unmarked_rows_ok
  · exact dd_bar_row_ok
  · exact dd_turned_grid_ok
  · exact dd_shape_of_ok
  · exact dd_cells_in_ok
  · exact dd_greys_ok
  · exact dd_rests_ok
  · exact dd_are_rows_of_ok
  · exact dd_is_key_ok
  · exact dd_read_in_ok
  · exact dd_sure_tones_ok
  · exact dd_reading_ok
  · exact dd_is_seen_pair_ok
  · exact dd_sure_pairs_ok
  · exact dd_sure_rests_ok
  · exact dd_digits_at_ok
  · exact dd_rows_fitting_ok
  · exact dd_key_fitting_ok
  · exact dd_fits_in_ok
  · exact dd_fits_pairs_ok
  · exact dd_some_key_ok
  · exact dd_power_of_ok
  · exact dd_many_fitting_ok
  · exact dd_how_many_keys_ok
  · exact dd_odd_row_ok
  · exact dd_is_odd_row_ok
  · exact dd_sure_seen_ok
  · exact dd_is_told_ok
  · exact dd_message_of_ok
  · exact dd_told_message_ok
  · exact dd_telling_ok
  · exact dd_is_telling_ok
  · exact dd_two_keys_ok
  · exact dd_is_two_keys_ok
  · exact dd_keys_that_read_ok
  · exact dd_told_apart_ok
  · exact dd_law_box_ok
  · exact dd_law_take_ok
  · exact dd_law_cells_ok
  · exact dd_law_of_ok
  · exact dd_law_pick_ok
  · exact dd_law_lists_ok
  · exact dd_law_same_ok
  · exact dd_law_is_number_ok
  · exact dd_law_greys_ok
  · exact dd_law_shaped_ok
  · exact dd_law_rests_ok
  · exact dd_law_row_plus_ok
  · exact dd_law_row_times_ok
  · exact dd_law_all_rows_ok
  · exact dd_law_read_ok
  · exact dd_law_reading_ok
  · exact dd_law_is_digits_ok
  · exact dd_law_are_multiples_ok
  · exact dd_law_picture_ok
  · exact dd_law_message_ok
  · exact dd_law_seen_ok
  · exact dd_law_fitting_ok
  · exact dd_law_caught_ok
  · exact dd_law_by_hand_right_ok
  · exact dd_law_is_odd_ok
  · exact dd_law_is_two_ok
  · exact dd_law_picture_right_ok
  · exact dd_law_right_ok
end Dry
set_option Elab.async false
set_option linter.all false
set_option maxRecDepth 100000
set_option maxHeartbeats 4000000
/-! DryN: level by level, every def keeps its promise. -/
namespace Dry
open PySem PySem.Spec PyProof.Rows L2

def callF (Γ : Gam) (d : Df) (ds : List D) (t : Tin) : Res D := match exs Γ d.b (ds.map (fun e => some (En.dat e)) ++ List.replicate (d.N.length - ds.length) none) t with
  | .nx _ t => .ok .non t
  | .ret e t => .ok e t
  | .exn t => .exn t
  | .bad => .bad
def dfOf (x : Str) : Option Df := tbl.find? fun d => d.x == x
def Γs : Nat → Gam
  | 0 => fun _ => none
  | k + 1 => fun x => (dfOf x).map fun d => (d.ps.length, callF (Γs k) d)
theorem dfOf_mem {x : Str} {d : Df} (h : dfOf x = some d) : d ∈ tbl ∧ d.x = x := by
  unfold dfOf at h
  have h2 := List.find?_some h
  exact ⟨List.mem_of_find?_eq_some h, by simpa using h2⟩

/-- X(), X an own exception class -/
theorem pmk0 {X : Cx} {C : Addr} {bmB : List Value} {B newId initId : String} {x : Str} {p pos : Pos} (F : ExcBaseFacts B newId initId bmB) (q : PySem.W.excIn X.K C bmB newId = true) (gC : X.mg x = some (.ref C))
    (kC : PySem.W.keepIn X.K (.ref C) = true) (r : Raises X (.ref C)) (hg : Gl X x) (hdb : (x == ("__debug__" : Str)) = false := by decide) : PMk X (.Call (.Name x p) [] [] pos) (fun _ H Q => Q (.ref C) none H) := by
  intro pins s σ H Q I h
  refine wpAny_Call_Name_kw (ld_glob I hg gC ?_ hdb)
  refine PySem.W.callWith_K0 I.kIn kC ?_
  obtain ⟨bm, N, nm, qn, bs, hdct, sn, sub, ab, col, dd, k0, k1, k2, k3, k5, mN, hC, hN, hni, T⟩ := exc_obj I.kIn q
  refine wpAny_call_exc_subT F T hC hN hni (fun h' e hm => ?_) (Nat.zero_le _)
  exact mk_of I hm r h (I.hok.gone hm.new)

/-- the facts of the written part -/
structure Sit (K : PySem.W.Frag) (mg : Str → Option Value) (C : Addr) : Prop where
  free : ∀ x ∈ blts, mg x = none
  primes : ∃ p, mg "PRIMES" = some (.ref p) ∧ KTup K p [.int 2, .int 3, .int 5]
  gC : mg "NoPaper" = some (.ref C)
  exc : PySem.W.excIn K C [.type "ValueError", .type "Exception", .type "BaseException", .type "object"] "ValueError.__new__" = true
  kC : PySem.W.keepIn K (.ref C) = true
  sub : PySem.W.subIn K (.ref C) (.type "BaseException") = some true
  ty : PySem.W.typeIn K (.ref C) = some (.type "type")
  exm : PySem.W.exmOne K (.ref C) (.ref C) = some true
  defs : ∀ d ∈ tbl, ∃ f fd, mg d.x = some (.ref f) ∧ FunD K d.x d.x (defArgs d.st) (defBody d.st) (defScope d.st) [] [] f fd
  heard : ∃ f fd, mg "_law_heard" = some (.ref f) ∧ FunD K "_law_heard" "_law_heard" (defArgs (top 102)) (defBody (top 102)) (defScope (top 102)) [] [] f fd

/-- what is known of the defs at level j, for callees of the meanings Γ -/
structure Lev (P : Program) (w : World) (K : PySem.W.Frag) (mg : Str → Option Value) (base : Heap) (C : Addr) (j : Nat) (Γ : Gam) : Prop where
  tab : ∀ x n g, Γ x = some (n, g) → ∃ f fd ps, FnOk P w K mg base (L2.CX P w) j f fd ps (spD K C n g) ∧ mg x = some (.ref f) ∧ PySem.W.keepIn K (.ref f) = true ∧ Binds K fd ps []
section
variable {P : Program} {w : World} {K : PySem.W.Frag} {mg : Str → Option Value} {base : Heap} {C : Addr} {j : Nat} {Γ : Gam}
theorem spD_len {n : Nat} {g : List D → Tin → Res D} (vs : List V) (H : Hp) (Q : VK) (E : XK) (h : spD K C n g vs H Q E) : vs.length = n := by
  obtain ⟨T, M, t, ds, _, _, _, h1, h2, _⟩ := h
  rw [h1.length, h2]
theorem start_env {T : Option Addr} {M : List Addr} {t : Tin} {vs : List V} {ds : List D} {H : Hp} {N : List Str} (tm : ∀ a, T = some a → a ∈ M) (dm : ∀ a ∈ M, H a ≠ none) (ti : TinOk T t H) (r : DatL K T M H vs ds) :
    XOk K T M (L2.start N vs) (ds.map (fun e => some (En.dat e)) ++ List.replicate (N.length - ds.length) none) t H := by
  have hl := r.length
  refine ⟨?_, fun i e q => ?_, ti, tm, dm⟩
  · unfold L2.start
    rw [List.length_append, List.length_append, List.length_map, List.length_map, List.length_replicate, List.length_replicate, hl]
  · by_cases hi : i < ds.length
    · rw [List.getElem?_append_left (by rw [List.length_map]; exact hi), List.getElem?_map] at q
      cases hd : ds[i]? with
      | none =>
        rw [hd] at q
        cases q
      | some d =>
        rw [hd] at q
        cases q
        obtain ⟨v, h1, h2⟩ := r.get hd
        refine ⟨v, ?_, h2⟩
        unfold L2.start
        rw [List.getElem?_append_left (by rw [List.length_map, hl]; exact hi), List.getElem?_map, h1]
        rfl
    · rw [List.getElem?_append_right (by rw [List.length_map]; omega), List.getElem?_replicate] at q
      split at q <;> cases q
theorem start_ok {T : Option Addr} {M : List Addr} {t : Tin} {vs : List V} {ds : List D} {H : Hp} {N : List Str} (tm : ∀ a, T = some a → a ∈ M) (dm : ∀ a ∈ M, H a ≠ none) (ti : TinOk T t H) (r : DatL K T M H vs ds) :
    SOk K T M H [] M (L2.start N vs) (ds.map (fun e => some (En.dat e)) ++ List.replicate (N.length - ds.length) none) t H := by
  have no : ∀ (i : Nat) (es : List D), (ds.map (fun e => some (En.dat e)) ++ List.replicate (N.length - ds.length) none)[i]? ≠ some (some (En.own es)) := fun i es q => by
    by_cases hi : i < ds.length
    · rw [List.getElem?_append_left (by rw [List.length_map]; exact hi), List.getElem?_map] at q
      cases hd : ds[i]? with
      | none =>
        rw [hd] at q
        cases q
      | some d =>
        rw [hd] at q
        cases q
    · rw [List.getElem?_append_right (by rw [List.length_map]; omega), List.getElem?_replicate] at q
      split at q <;> cases q
  exact ⟨start_env tm dm ti r, .refl _ _, fun _ h => h, fun _ h _ => h, fun i es p h _ => (no i es h).elim, fun i j es fs p h _ _ _ => (no i es h).elim, fun w hw => (nomatch hw), dm⟩
theorem good_of (S : Sit K mg C) (L : Lev P w K mg base C j Γ) (LH : ∀ x n g, Γ x = some (n, g) → x ∈ heardNames → ∃ f fd ps a, mg x = some (.ref a) ∧ FnOk P w K mg base (L2.CX P w) (j + 1) f fd ps (spH K a n g) ∧ mg "_law_heard" = some (.ref f) ∧ PySem.W.keepIn K (.ref f) = true ∧ Binds K fd ps [])
    {d : Df} (sc : FnScope d.N d.ps (defScope d.st)) {f : Addr} {cdv : Value} {A : Around} {outer : List Env} {s : Shared} {H : Hp} {E : XK} (hr : Room (j + 1) (A.deeper (envOfC d.x (defScope d.st) s.heap.objs.size f cdv))) :
    GoodS Γ (ctOf d.i d.N d.ms) (fun cls dx _ H => E cls dx H) C (cxOf (L2.CX P w) P w K mg base d.N d.x (defScope d.st) f cdv A outer s H E) := by
  refine ⟨⟨rfl, sc.nd, rfl, rfl, S.free, fun x n g h => ?_, fun x n g h hx => ?_, S.primes, ?_, takes_of rfl rfl rfl rfl, fun x hx => ⟨?_, .inl rfl⟩⟩, sc.kind, fun _ => rfl, passes_of rfl, fun p pos g => pmk0 PySem.F.excBase_ValueError S.exc S.gC S.kC (raises_own S.sub S.ty) g⟩
  · obtain ⟨f', fd, ps, h1, h2, h3, h4⟩ := L.tab x n g h
    exact ⟨j, f', fd, ps, h1, hr.mono (Nat.le_succ j), h2, h3, h4⟩
  · obtain ⟨f', fd, ps, a, h0, h1, h2, h3, h4⟩ := LH x n g h hx
    exact ⟨j + 1, f', fd, ps, a, h0, h1, hr, h2, h3, h4⟩
  · have := hr.un
    show (A.deeper (envOfC d.x (defScope d.st) s.heap.objs.size f cdv)).units + 65 < cLine
    omega
  · have hx : (decide ((defScope d.st).names.lookup x = some .local) || decide ((defScope d.st).names.lookup x = some .cell)) = true := hx
    rcases Bool.or_eq_true_iff.mp hx with h | h
    · exact .inl (of_decide_eq_true h)
    · exact .inr (of_decide_eq_true h)
theorem fn_ok (S : Sit K mg C) (L : Lev P w K mg base C j Γ) (LH : ∀ x n g, Γ x = some (n, g) → x ∈ heardNames → ∃ f fd ps a, mg x = some (.ref a) ∧ FnOk P w K mg base (L2.CX P w) (j + 1) f fd ps (spH K a n g) ∧ mg "_law_heard" = some (.ref f) ∧ PySem.W.keepIn K (.ref f) = true ∧ Binds K fd ps [])
    {d : Df} (o : d.Ok) {f : Addr} {fd : FuncData} (F : FunD K d.x d.x (defArgs d.st) (defBody d.st) (defScope d.st) [] [] f fd) : FnOk P w K mg base (L2.CX P w) (j + 1 + 1) f fd d.ps (spD K C d.ps.length (callF Γ d)) := by
  refine F.ok o.sc (fun vs H Q E h => spD_len vs H Q E h) fun cdv A outer s H vs Q E hr h => ?_
  have ir := o.ir Γ
  cases q : cSs Γ 60 (ctOf d.i d.N d.ms) (defBody d.st) with
  | none =>
    rw [q] at ir
    cases ir
  | some c =>
    rw [q] at ir
    have e : c.1 = d.b := by simpa using ir
    refine ⟨_, c.2 _ C _ (good_of S L LH o.sc hr), ?_⟩
    rw [e]
    obtain ⟨T, M, t, ds, tm, dm, ti, r, hn, h⟩ := h
    refine ⟨T, M, H, [], M, _, t, start_ok tm dm ti r, ?_⟩
    unfold callF at h
    cases z : exs Γ d.b (ds.map (fun e => some (En.dat e)) ++ List.replicate (d.N.length - ds.length) none) t with
    | nx ρ' t' =>
      rw [z] at h
      exact fun M' σ' H' sk => h .non H' sk.base sk.x.tin .non
    | ret d' t' =>
      rw [z] at h
      exact fun v H' e i r => h v H' e i r
    | exn t' =>
      rw [z] at h
      exact fun σ' H' e i => h H' e i
    | bad =>
      rw [z] at h
      exact h
end
end Dry
set_option Elab.async false
set_option linter.all false
set_option maxRecDepth 100000
set_option maxHeartbeats 4000000
set_option autoImplicit false
/-! DryO: _law_heard; all levels. -/
namespace Dry
open PySem PySem.Spec PyProof.Rows L2

abbrev hN : List Str := ["_law_way_so", "_law_given_so"]
abbrev hCt (i : Nat) : Ct := ctOf i hN []
def irCond : Ex := .two .eq (.fn .len (.cons (.var 1) .nil)) (.int 2)
def ir2 : Exs := .cons (.ix (.var 1) (.int 0)) (.cons (.ix (.var 1) (.int 1)) .nil)
def ir3 : Exs := .cons (.ix (.var 1) (.int 0)) (.cons (.ix (.var 1) (.int 1)) (.cons (.ix (.var 1) (.int 2)) .nil))
abbrev Γ0 : Gam := fun _ => none
def heardS (ce e2 e3 : Expr) (r2 r3 : List Expr) (p1 p2 p3 p4 p5 p6 p7 p8 p9 p10 p11 p12 : Pos) (j : Nat) : List Stmt :=
  [.Try [.Return (some (.IfExp ce (.Call (.Name "_law_way_so" p1) (e2 :: r2) [] p2) (.Call (.Name "_law_way_so" p3) (e3 :: r3) [] p4) p5)) p6]
    [.ExceptHandler (some (.Name "NoPaper" p7)) none [.Return (some (.List [.Constant (.str "paper") j p8] p9)) p10] p11] [] [] p12]
/-- the text of _law_heard, where it is of this form -/
def hIs (b : List Stmt) : Bool := match b with
  | [.Try [.Return (some (.IfExp ce (.Call (.Name x1 p1) (e2 :: r2) [] p2) (.Call (.Name x2 p3) (e3 :: r3) [] p4) p5)) p6] [.ExceptHandler (some (.Name x3 p7)) none [.Return (some (.List [.Constant (.str x4) j p8] p9)) p10] p11] [] [] p12] =>
    decide (x1 = "_law_way_so") && decide (x2 = "_law_way_so") && decide (x3 = "NoPaper") && decide (x4 = "paper")
  | _ => false
structure HB (i : Nat) (b : List Stmt) : Prop where
  ex : ∃ ce e2 e3 r2 r3 p1 p2 p3 p4 p5 p6 p7 p8 p9 p10 p11 p12 j, b = heardS ce e2 e3 r2 r3 p1 p2 p3 p4 p5 p6 p7 p8 p9 p10 p11 p12 j ∧
    (cT Γ0 20 (hCt i) ce).map (·.1) = some irCond ∧ (cA Γ0 20 (hCt i) (e2 :: r2)).map (·.1) = some ir2 ∧ (cA Γ0 20 (hCt i) (e3 :: r3)).map (·.1) = some ir3 ∧ notStar e2 = true ∧ r2.all notStar = true ∧ notStar e3 = true ∧ r3.all notStar = true
def gE (b : List Stmt) : Option Expr := match b with
  | [.Try [.Return (some (.IfExp ce (.Call (.Name x1 p1) (e2 :: r2) [] p2) (.Call (.Name x2 p3) (e3 :: r3) [] p4) p5)) p6] [.ExceptHandler (some (.Name x3 p7)) none [.Return (some (.List [.Constant (.str x4) j p8] p9)) p10] p11] [] [] p12] => some ce
  | _ => none
def g2 (b : List Stmt) : Option (List Expr) := match b with
  | [.Try [.Return (some (.IfExp ce (.Call (.Name x1 p1) (e2 :: r2) [] p2) (.Call (.Name x2 p3) (e3 :: r3) [] p4) p5)) p6] [.ExceptHandler (some (.Name x3 p7)) none [.Return (some (.List [.Constant (.str x4) j p8] p9)) p10] p11] [] [] p12] => some (e2 :: r2)
  | _ => none
def g3 (b : List Stmt) : Option (List Expr) := match b with
  | [.Try [.Return (some (.IfExp ce (.Call (.Name x1 p1) (e2 :: r2) [] p2) (.Call (.Name x2 p3) (e3 :: r3) [] p4) p5)) p6] [.ExceptHandler (some (.Name x3 p7)) none [.Return (some (.List [.Constant (.str x4) j p8] p9)) p10] p11] [] [] p12] => some (e3 :: r3)
  | _ => none
theorem hb_of {i : Nat} {b : List Stmt} (h : hIs b = true) (h1 : ((gE b).bind fun e => (cT Γ0 20 (hCt i) e).map (·.1)) = some irCond) (h2 : ((g2 b).bind fun e => (cA Γ0 20 (hCt i) e).map (·.1)) = some ir2) (h3 : ((g3 b).bind fun e => (cA Γ0 20 (hCt i) e).map (·.1)) = some ir3)
    (s2 : ((g2 b).map fun e => e.all notStar) = some true) (s3 : ((g3 b).map fun e => e.all notStar) = some true) : HB i b := by
  unfold hIs at h
  split at h
  · simp only [Bool.and_eq_true, decide_eq_true_eq] at h
    obtain ⟨⟨⟨rfl, rfl⟩, rfl⟩, rfl⟩ := h
    have s2 := Bool.and_eq_true_iff.mp (Option.some.inj s2)
    have s3 := Bool.and_eq_true_iff.mp (Option.some.inj s3)
    exact ⟨⟨_, _, _, _, _, _, _, _, _, _, _, _, _, _, _, _, _, _, rfl, h1, h2, h3, s2.1, s2.2, s3.1, s3.2⟩⟩
  · cases h
theorem heard_body : HB 102 (defBody (top 102)) := hb_of (by kernel_rfl) (by kernel_rfl) (by kernel_rfl) (by kernel_rfl) (by kernel_rfl) (by kernel_rfl)
theorem some_of {α : Type} {p : α → Prop} {o : Option { x : α // p x }} {v : α} (h : o.map (·.1) = some v) : p v := by
  cases o with
  | none => cases h
  | some c =>
    have e : c.1 = v := by simpa using h
    rw [← e]
    exact c.2
theorem scH : FnScope hN hN (defScope (top 102)) := ⟨rfl, rfl, rfl, by decide +kernel, rfl, by decide +kernel, by decide +kernel⟩

section
variable {P : Program} {w : World} {K : PySem.W.Frag} {mg : Str → Option Value} {base : Heap} {C : Addr} {i j : Nat} (scH : FnScope hN hN (defScope (top i)))
include scH
theorem heard_good (S : Sit K mg C) {f : Addr} {cdv : Value} {A : Around} {outer : List Env} {s : Shared} {H : Hp} {E : XK} (hr : Room j (A.deeper (envOfC "_law_heard" (defScope (top i)) s.heap.objs.size f cdv)))
    {pn : List (Addr × Obj)} {xe : Value → Shared → Prop} {W : WX} (tk : Takes ((cxOf (L2.CX P w) P w K mg base hN "_law_heard" (defScope (top i)) f cdv A outer s H E).tr pn xe) W) :
    Good Γ0 (hCt i) W C ((cxOf (L2.CX P w) P w K mg base hN "_law_heard" (defScope (top i)) f cdv A outer s H E).tr pn xe) := by
  refine ⟨rfl, scH.nd, rfl, rfl, S.free, ?_, ?_, S.primes, ?_, tk, ?_⟩
  · intro x n g h; cases h
  · intro x n g h; cases h
  · have := hr.un
    show (A.deeper (envOfC "_law_heard" (defScope (top i)) s.heap.objs.size f cdv)).units + 65 < cLine
    omega
  · intro x hx
    have hx : (decide ((defScope (top i)).names.lookup x = some .local) || decide ((defScope (top i)).names.lookup x = some .cell)) = true := hx
    have k : (defScope (top i)).names.lookup x = some .local ∨ (defScope (top i)).names.lookup x = some .cell := by
      rcases Bool.or_eq_true_iff.mp hx with h | h
      · exact .inl (of_decide_eq_true h)
      · exact .inr (of_decide_eq_true h)
    exact ⟨k, .inl rfl⟩
omit scH in
theorem len2 {ds : List D} (n : Nat) (h : ds.length = n) : ev Γ0 irCond [none, some (.dat (.tup ds))] = fun t => .ok (.bl (decide (n = 2))) t := by
  funext t
  subst h
  show ofO (dEq (.int ds.length) (.int 2)) t = _
  unfold dEq
  have e : okB (.int ds.length) = true ∧ okB (.int 2) = true := ⟨rfl, rfl⟩
  rw [if_pos e]
  have q : PyData.eqv (D.int ds.length).py (D.int 2).py = decide (ds.length = 2) := by
    show ((ds.length : Int) == 2) = _
    by_cases h : ds.length = 2
    · rw [h] <;> rfl
    · rw [decide_eq_false h]
      apply beq_eq_false_iff_ne.mpr
      omega
  rw [q] <;> rfl
omit scH in
theorem heard_call (S : Sit K mg C) {fa : Addr} {n : Nat} {g : List D → Tin → Res D} {T : Option Addr} {M : List Addr} {t : Tin} {ds : List D} {σ : L2.St} {H H1 : Hp} {Q : VK} {Dn : Ends} {irs : Exs} {Wo : WX}
    (x : XOk K T M σ [none, some (.dat (.tup ds))] t H) (e1 : Ext T.toList H H1) (i1 : TinOk T t H1) (hf : σ[0]? = some (some (.ref fa))) (hl : ds.length = n) (he : evs Γ0 irs [none, some (.dat (.tup ds))] t = .ok ds t) (hD : Dn.rt = Q)
    (h : match g ds t with
      | .ok d t' => ∀ v H', Ext T.toList H H' → TinOk T t' H' → Dat K T M H' v d → Q v H'
      | .exn t' => ∀ v H', Ext T.toList H H' → TinOk T t' H' → Dat K T M H' v (.lst [.str "paper"]) → Q v H'
      | .bad => False) :
    tCallL 0 fa (spD K C n g) [] (fun cls d H => ∀ σ, wOnly K (.ref C) (fun _ _ _ => tRet (tLst (tCons (tC (.str "paper")) tNil))) Wo Dn cls d σ H) (tA K (wOnly K (.ref C) (fun _ _ _ => tRet (tLst (tCons (tC (.str "paper")) tNil))) Wo Dn) C (evs Γ0 irs)) σ H1 Q := by
  refine ⟨hf, T, M, _, t, x.keep e1 i1, ?_⟩
  rw [he]
  intro vs H2 e2 i2 r2
  have x2 := x.keep (e1.trans e2) i2
  rw [List.append_nil]
  refine ⟨T, M, t, ds, x.tinM, x2.dom, i2, r2, hl, ?_⟩
  cases q : g ds t with
  | ok d t' =>
    rw [q] at h
    exact fun v H' e i r => h v H' ((e1.trans e2).trans e) i r
  | exn t' =>
    rw [q] at h
    intro H' e i σ'
    refine ⟨true, S.exm, fun _ a _ => ?_, fun z => nomatch z⟩
    refine ⟨(by decide : 1 ≤ sizeLine), fun p hp => ?_⟩
    rw [hD]
    have x3 := x2.keep e i
    refine h _ _ (((e1.trans e2).trans e).trans (Ext.new hp)) (i.keep (Ext.new hp)) (Dat.newL hp x3.dom (.one (.str _)))
  | bad =>
    rw [q] at h
    exact h
theorem heard_ok (HBi : HB i (defBody (top i))) (gl : (defScope (top i)).names.lookup ("NoPaper" : Str) = some .globalImplicit) (l0 : (defScope (top i)).names.lookup ("_law_way_so" : Str) = some .local) (S : Sit K mg C) {fa f : Addr} {fda fd : FuncData} {ps : List Str} {n : Nat} {g : List D → Tin → Res D} (Fa : FnOk P w K mg base (L2.CX P w) j fa fda ps (spD K C n g)) (ka : PySem.W.keepIn K (.ref fa) = true) (ba : Binds K fda ps [])
    (F : FunD K "_law_heard" "_law_heard" (defArgs (top i)) (defBody (top i)) (defScope (top i)) [] [] f fd) : FnOk P w K mg base (L2.CX P w) (j + 1) f fd hN (spH K fa n g) := by
  refine F.ok scH (fun vs H Q E h => ?_) fun cdv A outer s H vs Q E hr h => ?_
  · obtain ⟨T, M, t, ds, v, rfl, _⟩ := h
    rfl
  obtain ⟨ce, e2, e3, r2, r3, p1, p2, p3, p4, p5, p6, p7, p8, p9, p10, p11, p12, jj, hb, h1, h2, h3, s2, a2, s3, a3⟩ := HBi.ex
  have c1 := some_of h1
  have c2 := some_of h2
  have c3 := some_of h3
  obtain ⟨T, M, t, ds, v, rfl, tm, dm, ti, r, hl, hn, h⟩ := h
  have un : (A.deeper (envOfC "_law_heard" (defScope (top i)) s.heap.objs.size f cdv)).units + 65 < cLine := by
    have := hr.un
    omega
  rw [hb]
  refine ⟨_, pss_one (ps_try_only (X := cxOf (L2.CX P w) P w K mg base hN "_law_heard" (defScope (top i)) f cdv A outer s H E) (Wout := fun cls d _ H => E cls d H) (c := .ref C) (ts := fun _ _ _ => tRet (tLst (tCons (tC (.str "paper")) tNil)))
    (tb := fun W => tRet (tIf (tT K W C (ev Γ0 irCond)) (tCallL 0 fa (spD K C n g) [] (fun cls d H => ∀ σ, W cls d σ H) (tA K W C (evs Γ0 ir2))) (tCallL 0 fa (spD K C n g) [] (fun cls d H => ∀ σ, W cls d σ H) (tA K W C (evs Γ0 ir3)))))
    rfl rfl ⟨gl, by decide +kernel, .inl S.gC⟩ (takes_of rfl rfl rfl rfl) (fun W pn xe tk po => ?_) (fun a oe cls d pn _ _ => pss_one (ps_ret (pe_lst (pa_cons pe_str pa_nil))))), ?_⟩
  · have G := heard_good scH (j := j) S hr tk
    exact pss_one (ps_ret (pe_ifExp (c1 W C _ G) (pe_callL Fa hr rfl (.inl l0) ka ba .nil (passes_call tk fun cls d σ H h => h σ) (c2 W C _ G) (by decide +kernel) (by decide +kernel) (star_no s2) (star_all a2))
      (pe_callL Fa hr rfl (.inl l0) ka ba .nil (passes_call tk fun cls d σ H h => h σ) (c3 W C _ G) (by decide +kernel) (by decide +kernel) (star_no s3) (star_all a3))))
  · have sx : XOk K T M (L2.start hN [.ref fa, v]) [none, some (.dat (.tup ds))] t H := by
      refine ⟨rfl, fun i e q => ?_, ti, tm, dm⟩
      match i, q with
      | 0, q => cases q
      | 1, q =>
        cases q
        exact ⟨v, rfl, r⟩
      | i + 2, q => cases q
    refine ⟨T, M, _, t, sx, ?_⟩
    rw [len2 n hl]
    intro b H1 e1 i1 hb
    obtain rfl : b = decide (n = 2) := hb
    rcases hn with rfl | rfl
    · match ds, hl with
      | [a, b], _ => exact heard_call S sx e1 i1 rfl rfl rfl rfl h
    · match ds, hl with
      | [a, b, c], _ => exact heard_call S sx e1 i1 rfl rfl rfl rfl h
end
end Dry
set_option Elab.async false
set_option linter.all false
set_option maxRecDepth 100000
set_option maxHeartbeats 4000000
set_option autoImplicit false
/-! DryQ: all levels; the law's def. -/
namespace Dry
open PySem PySem.Spec PyProof.Rows L2

theorem heard_gl : (defScope (top 102)).names.lookup ("NoPaper" : Str) = some .globalImplicit := by kernel_rfl
theorem heard_l0 : (defScope (top 102)).names.lookup ("_law_way_so" : Str) = some .local := by kernel_rfl
theorem scHeard : FnScope hN hN (defScope (top 102)) := ⟨rfl, rfl, rfl, by decide +kernel, rfl, by decide +kernel, by decide +kernel⟩
theorem heard_bd (kV doc pm : Value) (an : Option Addr) (cdv ct : Value) (us : List Value) (hl : us.length = hN.length) : bindArgs (PySem.W.fnOf "_law_heard" "_law_heard" (defArgs (top 102)) (defBody (top 102)) (defScope (top 102)) .none kV doc pm an cdv ct) ⟨us, []⟩ = pure (hN.zip us) :=
  match us, hl with
  | [_, _], _ => rfl
section
variable {P : Program} {w : World} {K : PySem.W.Frag} {mg : Str → Option Value} {base : Heap} {C : Addr}
theorem lev_heard (S : Sit K mg C) {j : Nat} {Γ : Gam} (L : Lev P w K mg base C j Γ) : ∀ x n g, Γ x = some (n, g) → x ∈ heardNames → ∃ f fd ps a, mg x = some (.ref a) ∧ FnOk P w K mg base (L2.CX P w) (j + 1) f fd ps (spH K a n g) ∧ mg "_law_heard" = some (.ref f) ∧ PySem.W.keepIn K (.ref f) = true ∧ Binds K fd ps [] := by
  intro x n g h hx
  obtain ⟨fa, fda, ps, h1, h2, h3, h4⟩ := L.tab x n g h
  obtain ⟨f, fd, g1, F⟩ := S.heard
  exact ⟨f, fd, hN, fa, h2, heard_ok scHeard heard_body heard_gl heard_l0 S h1 h3 h4 F, g1, F.kp, F.bindsN heard_bd⟩
theorem lev_ok (S : Sit K mg C) : ∀ k : Nat, Lev P w K mg base C (2 * k) (Γs k)
  | 0 => ⟨fun x n g h => by cases h⟩
  | k + 1 => by
    have L := lev_ok S k
    refine ⟨fun x n g h => ?_⟩
    cases q : dfOf x with
    | none =>
      have h : (dfOf x).map (fun d => (d.ps.length, callF (Γs k) d)) = some (n, g) := h
      rw [q] at h
      cases h
    | some d =>
      have h : (dfOf x).map (fun d => (d.ps.length, callF (Γs k) d)) = some (n, g) := h
      rw [q] at h
      cases h
      obtain ⟨hm, rfl⟩ := dfOf_mem q
      obtain ⟨f, fd, g1, F⟩ := S.defs d hm
      have o := tbl_ok d hm
      exact ⟨f, fd, d.ps, fn_ok S L (lev_heard S L) o F, g1, F.kp, F.bindsN o.bd⟩
end

/-! ### the law's def -/
abbrev lN : List Str := ["_law_script"]
def dLaw (i : Nat) : Df := ⟨i, "law", lN, lN, [], .nil⟩
def irHand : Ex := .call "_law_by_hand_right" .nil
def irBox : Exs := .cons (.call "_law_box" (.cons (.call "_law_cells" (.cons (.var 0) (.cons (.int 1) .nil))) (.cons (.int 0) .nil))) .nil
def lawS (e b : Expr) (p1 p2 p3 p4 : Pos) : List Stmt := [.Return (some (.BoolOp .And [e, .Call (.Name "_law_right" p1) [b] [] p2] p3)) p4]
structure LB (Γ : Gam) (i : Nat) (st : List Stmt) : Prop where
  ex : ∃ e b p1 p2 p3 p4, st = lawS e b p1 p2 p3 p4 ∧ (cE Γ 20 (ctOf i lN []) e).map (·.1) = some irHand ∧ (cA Γ 20 (ctOf i lN []) [b]).map (·.1) = some irBox ∧ notStar b = true
def lE (b : List Stmt) : Option Expr := match b with
  | [.Return (some (.BoolOp .And [e, .Call (.Name x p1) [b] [] p2] p3)) p4] => if x = "_law_right" then some e else none
  | _ => none
def lB (b : List Stmt) : Option Expr := match b with
  | [.Return (some (.BoolOp .And [e, .Call (.Name x p1) [b] [] p2] p3)) p4] => some b
  | _ => none
theorem lb_of {Γ : Gam} {i : Nat} {b : List Stmt} (h1 : ((lE b).bind fun e => (cE Γ 20 (ctOf i lN []) e).map (·.1)) = some irHand) (h2 : ((lB b).bind fun e => (cA Γ 20 (ctOf i lN []) [e]).map (·.1)) = some irBox)
    (s : (lB b).map notStar = some true) : LB Γ i b := by
  cases q : lE b with
  | none =>
    rw [q] at h1
    cases h1
  | some e =>
    have q' := q
    unfold lE at q'
    split at q'
    · split at q'
      · rename_i hx
        cases q'
        subst hx
        rw [q] at h1
        exact ⟨⟨_, _, _, _, _, _, rfl, h1, h2, Option.some.inj s⟩⟩
      · cases q'
    · cases q'
theorem law_lb (Γ : Gam) : LB Γ 108 (defBody (top 108)) := lb_of (by kernel_rfl) (by kernel_rfl) (by kernel_rfl)
theorem law_gl : (defScope (top 108)).names.lookup ("_law_right" : Str) = some .globalImplicit := by kernel_rfl
theorem scLaw : FnScope lN lN (defScope (top 108)) := ⟨rfl, rfl, rfl, by decide +kernel, rfl, by decide +kernel, by decide +kernel⟩
theorem law_bd (kV doc pm : Value) (an : Option Addr) (cdv ct : Value) (us : List Value) (hl : us.length = lN.length) : bindArgs (PySem.W.fnOf "law" "law" (defArgs (top 108)) (defBody (top 108)) (defScope (top 108)) .none kV doc pm an cdv ct) ⟨us, []⟩ = pure (lN.zip us) :=
  match us, hl with
  | [_], _ => rfl

def spLaw (K : PySem.W.Frag) : Sp := fun vs H Q _ => ∃ (a : Addr) (ns : List Int), vs = [.ref a] ∧ SqL K H a (ns.map V.int) ∧ ns.length ≤ 63 ∧ ∀ H', Q (.bl true) H'
/-- what is left: the law over plain data -/
def Plain (k : Nat) : Prop := (∀ t, ev (Γs k) irHand [none] t = .ok (.bl true) t) ∧ ∃ gR, Γs k "_law_right" = some (1, gR) ∧
  ∀ ns : List Int, ns.length ≤ 63 → ∃ a c e t', evs (Γs k) irBox [some (.dat (.scr ns))] (0, 0, 0) = .ok [.lst [.int a, .int c, .int e]] (0, 0, 0) ∧ gR [.tin] (a, c, e) = .ok (.bl true) t'
section
variable {P : Program} {w : World} {K : PySem.W.Frag} {mg : Str → Option Value} {base : Heap} {C : Addr} {i : Nat}
theorem law_ok (sc : FnScope lN lN (defScope (top i))) (lb : ∀ Γ, LB Γ i (defBody (top i))) (gl : (defScope (top i)).names.lookup ("_law_right" : Str) = some .globalImplicit) (S : Sit K mg C) (k : Nat) (pl : Plain k) {f : Addr} {fd : FuncData}
    (F : FunD K "law" "law" (defArgs (top i)) (defBody (top i)) (defScope (top i)) [] [] f fd) : FnOk P w K mg base (L2.CX P w) (2 * k + 2) f fd lN (spLaw K) := by
  refine F.ok sc (fun vs H Q E h => ?_) fun cdv A outer s H vs Q E hr h => ?_
  · obtain ⟨a, ns, rfl, _⟩ := h
    rfl
  obtain ⟨e, b, p1, p2, p3, p4, hb, h1, h2, hs⟩ := (lb (Γs k)).ex
  have c1 := some_of h1
  have c2 := some_of h2
  have L : Lev P w K mg base C (2 * k) (Γs k) := lev_ok S k
  have G := good_of (d := dLaw i) S L (lev_heard S L) sc (E := E) (outer := outer) (H := H) hr
  obtain ⟨pl1, gR, hgR, pl2⟩ := pl
  obtain ⟨f', fd', ps', F', g1, kp', bd'⟩ := L.tab _ _ _ hgR
  rw [hb]
  refine ⟨_, pss_one (ps_ret (pe_and (c1 _ C _ G.toGood) (pe_one (pe_callS F' (hr.mono (Nat.le_succ _)) gl g1 kp' bd' (fun σ => passAt G.takes σ) (c2 _ C _ G.toGood) (by decide +kernel) (star_no hs) rfl)))), ?_⟩
  obtain ⟨a, ns, rfl, hS, hl, hQ⟩ := h
  obtain ⟨da, dc, de, t', e1, e2⟩ := pl2 ns hl
  have x0 : XOk K none [] (L2.start lN [.ref a]) [some (.dat (.scr ns))] (0, 0, 0) H := by
    refine ⟨rfl, fun i e q => ?_, fun a h => (by cases h), fun a h => (by cases h), fun a h => (by cases h)⟩
    match i, q with
    | 0, q =>
      cases q
      exact ⟨.ref a, rfl, hS.elim (fun r => .scr (by simp) r) .kscr⟩
    | i + 1, q => cases q
  have x1 : XOk K none [] (L2.start lN [.ref a]) [none] (0, 0, 0) H := by
    refine ⟨rfl, fun i e q => ?_, fun a h => (by cases h), fun a h => (by cases h), fun a h => (by cases h)⟩
    match i, q with
    | 0, q => cases q
    | i + 1, q => cases q
  refine ⟨none, [], _, (0, 0, 0), x1, ?_⟩
  rw [pl1]
  intro v H1 x2 i1 r1
  cases (show Dat K none [] H1 v (.bl true) from r1)
  refine ⟨true, rfl, ?_⟩
  rw [if_pos rfl]
  refine ⟨none, [], _, (0, 0, 0), x0.keep x2 i1, ?_⟩
  rw [e1]
  intro vs H2 x3 i2 r2
  cases (show DatL K none [] H2 vs [.lst [.int da, .int dc, .int de]] from r2) with
  | cons r3 r4 =>
    cases r4
    obtain ⟨p, xs, rfl, _, hp, _, r5⟩ := r3.sql
    have r6 : xs = [.int da, .int dc, .int de] := DatL.ints (ns := [da, dc, de]) r5
    subst r6
    refine ⟨some p, [p], (da, dc, de), [.tin], fun a ha => (by cases ha; exact List.mem_singleton.mpr rfl), fun a ha => ?_, fun a ha => ?_, .cons (.tin rfl) .nil, rfl, ?_⟩
    · rw [List.mem_singleton.mp ha, hp]
      intro z
      cases z
    · cases ha
      exact hp
    · rw [e2]
      intro v H' _ _ rv
      cases rv
      exact hQ H'
end
end Dry
set_option Elab.async false
set_option linter.all false
set_option maxRecDepth 100000
set_option maxHeartbeats 0
/-! DryHead: the top of the program, by its facts. -/
namespace Dry
open PySem PySem.Spec PyProof.Rows L2
def ddOf (x : Str) (i : Nat) : He.DefD := ⟨(x, none), x, x, defArgs (top i), defBody (top i), defScope (top i), [], []⟩
def fn : List He.DefD := tbl.map (fun d => ddOf d.x d.i) ++ [ddOf "_law_heard" 102, ddOf "law" 108]
def lo0 : List Str := ["__name__", "Unfit", "NoPaper", "PRIMES", "tupled", "is_number", "is_count", "is_below", "is_tuple_of", "is_prime", "is_row", "inverse_digit", "zero_row", "unit_row", "fit_lengths", "row_sum", "row_less", "row_times", "row_product", "sum_of_multiples", "marked_places", "led_row", "fit_rows", "place_led", "less_at", "with_row", "leads_of", "lead_places", "grid_rank", "fit_both"]
def lo1 : List Str := ["is_spanned", "fresh_in", "multiples_in", "multiples_for", "is_multiples", "unmarked_rows", "bar_row", "turned_grid", "shape_of", "cells_in", "greys", "rests", "are_rows_of", "is_key", "read_in", "sure_tones", "reading", "is_seen_pair", "sure_pairs", "sure_rests", "digits_at", "rows_fitting", "key_fitting", "fits_in", "fits_pairs", "some_key", "power_of", "many_fitting", "how_many_keys", "odd_row"]
def lo2 : List Str := ["is_odd_row", "sure_seen", "is_told", "message_of", "told_message", "telling", "is_telling", "two_keys", "is_two_keys", "keys_that_read", "told_apart", "_law_box", "_law_take", "_law_cells", "_law_of", "_law_pick", "_law_lists", "_law_same", "_law_is_number", "_law_greys", "_law_shaped", "_law_rests", "_law_row_plus", "_law_row_times", "_law_all_rows", "_law_read", "_law_reading", "_law_is_digits", "_law_are_multiples", "_law_picture"]
def lo3 : List Str := ["_law_message", "_law_seen", "_law_fitting", "_law_caught", "_law_heard", "_law_by_hand_right", "_law_is_odd", "_law_is_two", "_law_picture_right", "_law_right"]
def loose : List Str := lo0 ++ lo1 ++ lo2 ++ lo3
def fa : List He.Fa := tbl.map (fun d => .glo d.x) ++ (blts.map .free ++ [.glo "_law_heard", .glo "law", .exc "NoPaper", .exm "NoPaper" "NoPaper" true, .glo "NoPaper", .glo "PRIMES"])
abbrev R : PySem.W.OpenRow := PySem.W.OpenLaw.row PySem.Challenge.rw_drycells_k43_whole_what_all_keys_read
def exK (K : PySem.W.Frag) : Bool := He.tupB K "PRIMES" [.int 2, .int 3, .int 5]
abbrev hk : PySem.W.Hook := He.hookX 2 fa fn [] [] exK
def ob (s : PySem.W.SharedT) : He.AlX := He.obsX 2 fa fn [] [] exK (HandSHeadRun.getT s)
theorem ob_eq (s : PySem.W.SharedT) : ob s = hk.obs s.abs := He.obsX_eq (HandSHeadRun.getT_eq s)
theorem run (w : World) : HandSHeadRun.RunEq R (PySem.W.view R.prog [108]) hk ob 8000 loose w := by
  intro os
  kernel_rfl
end Dry
set_option Elab.async false
set_option linter.all false
set_option maxRecDepth 100000
set_option maxHeartbeats 4000000
set_option autoImplicit false
/-! DryR: evaluating meanings: the general lemmas. -/
namespace Dry
open PySem PySem.Spec PyProof.Rows L2

def call (k : Nat) (x : Str) (ds : List D) (t : Tin) : Res D := app (Γs k) x (.ok ds t)
theorem call_of {k : Nat} {x : Str} {ds : List D} {t : Tin} {d : Df} (h : dfOf x = some d) (hl : ds.length = d.ps.length) : call (k + 1) x ds t = callF (Γs k) d ds t := by
  unfold call app
  have e : Γs (k + 1) x = some (d.ps.length, callF (Γs k) d) := by
    show (dfOf x).map (fun d => (d.ps.length, callF (Γs k) d)) = _
    rw [h] <;> rfl
  rw [e]
  show appN d.ps.length (callF (Γs k) d) ds t = _
  unfold appN
  rw [if_pos hl]
/-- a body that returns -/
theorem callF_ret {Γ : Gam} {d : Df} {ds : List D} {t t' : Tin} {r : D} (h : exs Γ d.b (ds.map (fun e => some (En.dat e)) ++ List.replicate (d.N.length - ds.length) none) t = .ret r t') : callF Γ d ds t = .ok r t' := by
  unfold callF
  rw [h]
theorem callF_nx {Γ : Gam} {d : Df} {ds : List D} {t t' : Tin} {ρ : Env'} (h : exs Γ d.b (ds.map (fun e => some (En.dat e)) ++ List.replicate (d.N.length - ds.length) none) t = .nx ρ t') : callF Γ d ds t = .ok .non t' := by
  unfold callF
  rw [h]
theorem callF_exn {Γ : Gam} {d : Df} {ds : List D} {t t' : Tin} (h : exs Γ d.b (ds.map (fun e => some (En.dat e)) ++ List.replicate (d.N.length - ds.length) none) t = .exn t') : callF Γ d ds t = .exn t' := by
  unfold callF
  rw [h]

/-! ### data -/
def dT {α : Type} (f : α → D) (xs : List α) : D := .tup (xs.map f)
def dL {α : Type} (f : α → D) (xs : List α) : D := .lst (xs.map f)
abbrev dRow : List Int → D := dT D.int
abbrev dGrid : List (List Int) → D := dT dRow
def okN : Nat → D → Bool
  | _, .non => true
  | _, .bl _ => true
  | _, .int _ => true
  | _, .str x => PyData.strOk x
  | 0, _ => false
  | n + 1, .lst xs => xs.all (okN n)
  | n + 1, .tup xs => xs.all (okN n)
  | _, _ => false
theorem okN_spec : ∀ (n : Nat) (d : D), okN n d = true → d.pure = true ∧ d.py.canLay0 = true ∧ d.py.depth ≤ n := by
  have go : ∀ (n : Nat), (∀ d : D, okN n d = true → d.pure = true ∧ d.py.canLay0 = true ∧ d.py.depth ≤ n) → ∀ xs : List D, xs.all (okN n) = true → D.pures xs = true ∧ PyData.canLayAll0 (D.pys xs) = true ∧ PyData.depthAll (D.pys xs) ≤ n := by
    intro n ih xs
    induction xs with
    | nil =>
      intro _
      exact ⟨rfl, rfl, Nat.zero_le _⟩
    | cons d ds ihd =>
      intro h
      rw [List.all_cons, Bool.and_eq_true] at h
      obtain ⟨a1, a2, a3⟩ := ih d h.1
      obtain ⟨b1, b2, b3⟩ := ihd h.2
      refine ⟨?_, ?_, ?_⟩
      · show (d.pure && D.pures ds) = true
        rw [a1, b1] <;> rfl
      · show (d.py.canLay0 && PyData.canLayAll0 (D.pys ds)) = true
        rw [a2, b2] <;> rfl
      · show max d.py.depth (PyData.depthAll (D.pys ds)) ≤ n
        omega
  intro n
  induction n with
  | zero =>
    intro d h
    cases d with
    | non => exact ⟨rfl, rfl, Nat.le_refl _⟩
    | bl b => exact ⟨rfl, rfl, Nat.le_refl _⟩
    | int i => exact ⟨rfl, rfl, Nat.le_refl _⟩
    | str x => exact ⟨rfl, h, Nat.le_refl _⟩
    | _ => cases h
  | succ n ih =>
    intro d h
    cases d with
    | non => exact ⟨rfl, rfl, Nat.zero_le _⟩
    | bl b => exact ⟨rfl, rfl, Nat.zero_le _⟩
    | int i => exact ⟨rfl, rfl, Nat.zero_le _⟩
    | str x => exact ⟨rfl, h, Nat.zero_le _⟩
    | lst xs =>
      obtain ⟨a1, a2, a3⟩ := go n ih xs h
      exact ⟨a1, a2, Nat.succ_le_succ a3⟩
    | tup xs =>
      obtain ⟨a1, a2, a3⟩ := go n ih xs h
      exact ⟨a1, a2, Nat.succ_le_succ a3⟩
    | _ => cases h
theorem okB_of {n : Nat} {d : D} (h : okN n d = true) (hn : n ≤ 64) : okB d = true := by
  obtain ⟨a1, a2, a3⟩ := okN_spec n d h
  show (d.pure && (d.py.canLay0 && decide (d.py.depth ≤ 64))) = true
  rw [a1, a2, decide_eq_true (Nat.le_trans a3 hn)] <;> rfl
theorem okN_T {α : Type} {f : α → D} {n : Nat} {xs : List α} (h : ∀ x ∈ xs, okN n (f x) = true) : okN (n + 1) (dT f xs) = true := by
  show (xs.map f).all (okN n) = true
  rw [List.all_map, List.all_eq_true]
  exact h
theorem okN_L {α : Type} {f : α → D} {n : Nat} {xs : List α} (h : ∀ x ∈ xs, okN n (f x) = true) : okN (n + 1) (dL f xs) = true := by
  show (xs.map f).all (okN n) = true
  rw [List.all_map, List.all_eq_true]
  exact h
theorem okN_int {n : Nat} {i : Int} : okN n (.int i) = true := by
  cases n <;> rfl
theorem okN_bl {n : Nat} {i : Bool} : okN n (.bl i) = true := by
  cases n <;> rfl
theorem okN_non {n : Nat} : okN n .non = true := by
  cases n <;> rfl
theorem okN_mono : ∀ {n m : Nat} {d : D}, n ≤ m → okN n d = true → okN m d = true := by
  intro n
  induction n with
  | zero =>
    intro m d _ h
    cases d with
    | non => exact okN_non
    | bl b => exact okN_bl
    | int i => exact okN_int
    | str x => cases m <;> exact h
    | _ => cases h
  | succ n ih =>
    intro m d hm h
    cases m with
    | zero => omega
    | succ m =>
      cases d with
      | non => exact okN_non
      | bl b => exact okN_bl
      | int i => exact okN_int
      | str x => exact h
      | lst xs =>
        have h : xs.all (okN n) = true := h
        show xs.all (okN m) = true
        rw [List.all_eq_true] at h ⊢
        exact fun x hx => ih (by omega) (h x hx)
      | tup xs =>
        have h : xs.all (okN n) = true := h
        show xs.all (okN m) = true
        rw [List.all_eq_true] at h ⊢
        exact fun x hx => ih (by omega) (h x hx)
      | _ => cases h
theorem okN_row {n : Nat} {r : List Int} : okN (n + 1) (dRow r) = true := okN_T fun _ _ => okN_int
theorem okN_grid {n : Nat} {r : List (List Int)} : okN (n + 2) (dGrid r) = true := okN_T fun _ _ => okN_row

/-! ### equality -/
theorem dEq_ok {a b : D} (ha : okN 64 a = true) (hb : okN 64 b = true) : dEq a b = some (.bl (PyData.eqv a.py b.py)) := by
  unfold dEq
  rw [if_pos ⟨okB_of ha (Nat.le_refl _), okB_of hb (Nat.le_refl _)⟩]
theorem dNe_ok {a b : D} (ha : okN 64 a = true) (hb : okN 64 b = true) : dNe a b = some (.bl (!PyData.eqv a.py b.py)) := by
  unfold dNe
  rw [if_pos ⟨okB_of ha (Nat.le_refl _), okB_of hb (Nat.le_refl _)⟩]
theorem dEq_int {i j : Int} : dEq (.int i) (.int j) = some (.bl (i == j)) := dEq_ok okN_int okN_int
theorem dNe_int {i j : Int} : dNe (.int i) (.int j) = some (.bl (i != j)) := dNe_ok okN_int okN_int
/-- == on a type is read off its data -/
def EqOk {α : Type} [BEq α] (f : α → D) : Prop := ∀ a b, PyData.eqv (f a).py (f b).py = (a == b)
theorem eq_all {α : Type} [BEq α] {f : α → D} (h : EqOk f) : ∀ xs ys : List α, PyData.eqvAll (D.pys (xs.map f)) (D.pys (ys.map f)) = (xs == ys)
  | [], [] => rfl
  | [], _ :: _ => rfl
  | _ :: _, [] => rfl
  | x :: xs, y :: ys => by
    show (PyData.eqv (f x).py (f y).py && PyData.eqvAll (D.pys (xs.map f)) (D.pys (ys.map f))) = (x :: xs == y :: ys)
    rw [h, eq_all h] <;> rfl
theorem EqOk.int : EqOk D.int := fun _ _ => rfl
theorem EqOk.tup {α : Type} [BEq α] {f : α → D} (h : EqOk f) : EqOk (dT f) := fun xs ys => eq_all h xs ys
theorem EqOk.lst {α : Type} [BEq α] {f : α → D} (h : EqOk f) : EqOk (dL f) := fun xs ys => eq_all h xs ys
theorem EqOk.row : EqOk dRow := EqOk.int.tup
theorem EqOk.grid : EqOk dGrid := EqOk.row.tup

/-! ### walks -/
theorem compA_map {α : Type} {F : D → Tin → Res (Option D)} {enc : α → D} {g : α → Option D} {t : Tin} : ∀ (xs : List α) (acc : List D), (∀ x ∈ xs, F (enc x) t = .ok (g x) t) → compA F (xs.map enc) acc t = .ok (acc ++ xs.filterMap g) t
  | [], acc, _ => by
    show Res.ok acc t = _
    rw [List.filterMap_nil, List.append_nil]
  | x :: xs, acc, h => by
    have hx := h x (List.mem_cons_self ..)
    show (match F (enc x) t with
      | .ok (some r) t' => compA F (xs.map enc) (acc ++ [r]) t'
      | .ok none t' => compA F (xs.map enc) acc t'
      | _ => .bad) = _
    rw [hx]
    cases z : g x with
    | none =>
      show compA F (xs.map enc) acc t = _
      rw [compA_map xs acc fun y hy => h y (List.mem_cons_of_mem _ hy), List.filterMap_cons, z]
    | some r =>
      show compA F (xs.map enc) (acc ++ [r]) t = _
      rw [compA_map xs _ fun y hy => h y (List.mem_cons_of_mem _ hy), List.filterMap_cons, z, List.append_assoc]
      rfl
theorem ev_comp {α : Type} {Γ : Gam} {it : Itx} {s : Bool} {tg vs : List Nat} {e : Ex} {ρ : Env'} {t t1 : Tin} (xs : List α) (enc g : α → D) (hI : evI Γ it ρ t = .ok (xs.map enc) t1) (hc : xs.length ≤ cap)
    (h : ∀ x ∈ xs, ∃ ρ', bindT s tg (enc x) (wipeE ρ vs) = some ρ' ∧ ev Γ e ρ' t1 = .ok (g x) t1) : ev Γ (.comp it s tg vs e) ρ t = .ok (dL g xs) t1 := by
  unfold ev
  rw [hI]
  show ((capL (xs.map enc) t1).bind _) = _
  unfold capL
  rw [if_pos (by rw [List.length_map]; exact hc)]
  show (compA _ (xs.map enc) [] t1).bind _ = _
  rw [compA_map (g := fun x => some (g x)) xs [] fun x hx => ?_]
  · show Res.ok (D.lst ([] ++ xs.filterMap fun x => some (g x))) t1 = _
    rw [List.nil_append, List.filterMap_eq_map']
    rfl
  · obtain ⟨ρ', h1, h2⟩ := h x hx
    show ((ofO (bindT s tg (enc x) (wipeE ρ vs)) t1).bind _) = _
    rw [h1]
    show ((ev Γ e ρ' t1).bind _) = _
    rw [h2]
    rfl
theorem ev_compIf {α : Type} {Γ : Gam} {it : Itx} {s : Bool} {tg vs : List Nat} {c e : Ex} {ρ : Env'} {t t1 : Tin} (xs : List α) (enc g : α → D) (q : α → Bool) (hI : evI Γ it ρ t = .ok (xs.map enc) t1) (hc : xs.length ≤ cap)
    (h : ∀ x ∈ xs, ∃ ρ', bindT s tg (enc x) (wipeE ρ vs) = some ρ' ∧ ev Γ c ρ' t1 = .ok (.bl (q x)) t1 ∧ (q x = true → ev Γ e ρ' t1 = .ok (g x) t1)) : ev Γ (.compIf it s tg vs c e) ρ t = .ok (dL g (xs.filter q)) t1 := by
  unfold ev
  rw [hI]
  show ((capL (xs.map enc) t1).bind _) = _
  unfold capL
  rw [if_pos (by rw [List.length_map]; exact hc)]
  show (compA _ (xs.map enc) [] t1).bind _ = _
  rw [compA_map (g := fun x => if q x = true then some (g x) else none) xs [] fun x hx => ?_]
  · show Res.ok (D.lst ([] ++ xs.filterMap fun x => if q x = true then some (g x) else none)) t1 = _
    rw [List.nil_append]
    congr 2
    clear hI hc h
    induction xs with
    | nil => rfl
    | cons x xs ih =>
      rw [List.filterMap_cons, List.filter_cons]
      by_cases hq : q x = true
      · rw [if_pos hq, if_pos hq, ih] <;> rfl
      · rw [if_neg hq, if_neg hq, ih]
  · obtain ⟨ρ', h1, h2, h3⟩ := h x hx
    show ((ofO (bindT s tg (enc x) (wipeE ρ vs)) t1).bind _) = _
    rw [h1]
    show ((asB (ev Γ c ρ' t1)).bind _) = _
    rw [h2]
    cases z : q x with
    | true =>
      show ((ev Γ e ρ' t1).bind _) = _
      rw [h3 z]
      rfl
    | false => rfl
theorem loopF_fold {α β : Type} {F : D → Env' → Tin → SR} {enc : α → D} {t : Tin} (Rel : β → Env' → Prop) (step : β → α → β) : ∀ (xs : List α) (b : β) (ρ : Env'), (∀ b x ρ, x ∈ xs → Rel b ρ → ∃ ρ', F (enc x) ρ t = .nx ρ' t ∧ Rel (step b x) ρ') → Rel b ρ →
    ∃ ρ', loopF F (xs.map enc) ρ t = .nx ρ' t ∧ Rel (xs.foldl step b) ρ'
  | [], b, ρ, _, r => ⟨ρ, rfl, r⟩
  | x :: xs, b, ρ, h, r => by
    obtain ⟨ρ1, h1, r1⟩ := h b x ρ (List.mem_cons_self ..) r
    obtain ⟨ρ2, h2, r2⟩ := loopF_fold Rel step xs (step b x) ρ1 (fun b y ρ hy => h b y ρ (List.mem_cons_of_mem _ hy)) r1
    refine ⟨ρ2, ?_, r2⟩
    show (match F (enc x) ρ t with
      | .nx ρ' t' => loopF F (xs.map enc) ρ' t'
      | r => r) = _
    rw [h1]
    exact h2
/-- the first that is found is returned -/
theorem loopF_find {α : Type} {F : D → Env' → Tin → SR} {enc g : α → D} {t : Tin} (Rel : Env' → Prop) (q : α → Bool) : ∀ (xs : List α) (ρ : Env'), (∀ x ρ, x ∈ xs → Rel ρ → (q x = true → F (enc x) ρ t = .ret (g x) t) ∧ (q x = false → ∃ ρ', F (enc x) ρ t = .nx ρ' t ∧ Rel ρ')) → Rel ρ →
    (∃ x, xs.find? q = some x ∧ loopF F (xs.map enc) ρ t = .ret (g x) t) ∨ (xs.find? q = none ∧ ∃ ρ', loopF F (xs.map enc) ρ t = .nx ρ' t ∧ Rel ρ')
  | [], ρ, _, r => .inr ⟨rfl, ρ, rfl, r⟩
  | x :: xs, ρ, h, r => by
    obtain ⟨h1, h2⟩ := h x ρ (List.mem_cons_self ..) r
    have e : loopF F ((x :: xs).map enc) ρ t = (match F (enc x) ρ t with
      | .nx ρ' t' => loopF F (xs.map enc) ρ' t'
      | r => r) := rfl
    cases z : q x with
    | true =>
      refine .inl ⟨x, by rw [List.find?_cons, z], ?_⟩
      rw [e, h1 z]
    | false =>
      obtain ⟨ρ1, f1, r1⟩ := h2 z
      rw [e, f1, List.find?_cons, z]
      exact loopF_find Rel q xs ρ1 (fun y ρ hy => h y ρ (List.mem_cons_of_mem _ hy)) r1
end Dry
set_option Elab.async false
set_option linter.all false
set_option maxRecDepth 100000
set_option maxHeartbeats 4000000
set_option autoImplicit false
/-! DryS: the steps of an evaluation, for simp; the small defs. -/
namespace Dry
open PySem PySem.Spec PyProof.Rows L2
section
variable {Γ : Gam} {ρ : Env'} {t : Tin} {a b c e : Ex} {as bs : Exs} {sa : Sx} {sb sc : Sxs}
@[simp] theorem S.nil : exs Γ .nil ρ t = .nx ρ t := (rfl)
@[simp] theorem S.cons : exs Γ (.cons sa sb) ρ t = (ex Γ sa ρ t).thn (exs Γ sb) := (rfl)
@[simp] theorem S.thn_nx {f : Env' → Tin → SR} : (SR.nx ρ t).thn f = f ρ t := (rfl)
@[simp] theorem S.thn_ret {f : Env' → Tin → SR} {d : D} : (SR.ret d t).thn f = .ret d t := (rfl)
@[simp] theorem S.thn_exn {f : Env' → Tin → SR} : (SR.exn t).thn f = .exn t := (rfl)
@[simp] theorem S.toS_ok {α : Type} {f : α → Tin → SR} {x : α} : (Res.ok x t).toS f = f x t := (rfl)
@[simp] theorem S.toS_exn {α : Type} {f : α → Tin → SR} : (Res.exn t : Res α).toS f = .exn t := (rfl)
@[simp] theorem S.bind_ok {α β : Type} {f : α → Tin → Res β} {x : α} : (Res.ok x t).bind f = f x t := (rfl)
@[simp] theorem S.bind_exn {α β : Type} {f : α → Tin → Res β} : (Res.exn t : Res α).bind f = .exn t := (rfl)
@[simp] theorem S.ofO_some {α : Type} {x : α} : ofO (some x) t = .ok x t := (rfl)
@[simp] theorem S.ofS_some : ofS (some ρ) t = .nx ρ t := (rfl)
@[simp] theorem S.asB_ok {x : Bool} : asB (.ok (.bl x) t) = .ok x t := (rfl)
@[simp] theorem S.asB_exn : asB (.exn t) = .exn t := (rfl)
@[simp] theorem S.asI_ok {x : Int} : asI (.ok (.int x) t) = .ok x t := (rfl)
@[simp] theorem S.asg {s : Bool} {tg : List Nat} : ex Γ (.asg s tg e) ρ t = (ev Γ e ρ t).toS fun d t => ofS (bindT s tg d ρ) t := (rfl)
@[simp] theorem S.ret : ex Γ (.ret e) ρ t = (ev Γ e ρ t).toS fun d t => .ret d t := (rfl)
@[simp] theorem S.drop : ex Γ (.drop e) ρ t = (ev Γ e ρ t).toS fun _ t => .nx ρ t := (rfl)
@[simp] theorem S.ife : ex Γ (.ife c sb sc) ρ t = (asB (ev Γ c ρ t)).toS fun k t => match k with
    | true => exs Γ sb ρ t
    | false => exs Γ sc ρ t := (rfl)
@[simp] theorem S.never : ex Γ .never ρ t = .bad := (rfl)
@[simp] theorem S.raiseP : ex Γ .raiseP ρ t = .exn t := (rfl)
@[simp] theorem S.var {i : Nat} : ev Γ (.var i) ρ t = match ρ[i]? with
  | some (some (.dat d)) => .ok d t
  | _ => .bad := (rfl)
@[simp] theorem S.int {i : Int} : ev Γ (.int i) ρ t = .ok (.int i) t := (rfl)
@[simp] theorem S.bl {i : Bool} : ev Γ (.bl i) ρ t = .ok (.bl i) t := (rfl)
@[simp] theorem S.non : ev Γ .non ρ t = .ok .non t := (rfl)
@[simp] theorem S.str {i : Str} : ev Γ (.str i) ρ t = .ok (.str i) t := (rfl)
@[simp] theorem S.primes : ev Γ .primes ρ t = .ok (.tup [.int 2, .int 3, .int 5]) t := (rfl)
@[simp] theorem S.two {p : P2} : ev Γ (.two p a b) ρ t = (ev Γ a ρ t).bind fun d t => (ev Γ b ρ t).bind fun e t => ofO (p.f d e) t := (rfl)
@[simp] theorem S.ix : ev Γ (.ix a b) ρ t = (ev Γ a ρ t).bind fun d t => (ev Γ b ρ t).bind fun e t => ofO (ixD d e t) t := (rfl)
@[simp] theorem S.fn {p : P1} : ev Γ (.fn p as) ρ t = (evs Γ as ρ t).bind fun ds t => ofO (p.f ds) t := (rfl)
@[simp] theorem S.rev : ev Γ (.rev e) ρ t = (ev Γ e ρ t).bind fun d t => ofO (dRev d) t := (rfl)
@[simp] theorem S.cutTo : ev Γ (.cutTo e b) ρ t = (ev Γ e ρ t).bind fun d t => (asI (ev Γ b ρ t)).bind fun j t => ofO (dCut none (some j) d) t := (rfl)
@[simp] theorem S.cutFrom : ev Γ (.cutFrom e b) ρ t = (ev Γ e ρ t).bind fun d t => (asI (ev Γ b ρ t)).bind fun j t => ofO (dCut (some j) none d) t := (rfl)
@[simp] theorem S.isN : ev Γ (.isN e) ρ t = (ev Γ e ρ t).bind fun d t => .ok (.bl (isNonD d)) t := (rfl)
@[simp] theorem S.notN : ev Γ (.notN e) ρ t = (ev Γ e ρ t).bind fun d t => .ok (.bl (!isNonD d)) t := (rfl)
@[simp] theorem S.isI {ts : List Ty} : ev Γ (.isI ts e) ρ t = (ev Γ e ρ t).bind fun d t => ofO (dIs ts d) t := (rfl)
@[simp] theorem S.and : ev Γ (.and_ a b) ρ t = (asB (ev Γ a ρ t)).bind fun c t => match c with
    | true => ev Γ b ρ t
    | false => .ok (.bl false) t := (rfl)
@[simp] theorem S.or : ev Γ (.or_ a b) ρ t = (asB (ev Γ a ρ t)).bind fun c t => match c with
    | true => .ok (.bl true) t
    | false => ev Γ b ρ t := (rfl)
@[simp] theorem S.not : ev Γ (.not_ a) ρ t = (asB (ev Γ a ρ t)).bind fun c t => .ok (.bl (!c)) t := (rfl)
@[simp] theorem S.ite : ev Γ (.ite c a b) ρ t = (asB (ev Γ c ρ t)).bind fun k t => match k with
    | true => ev Γ a ρ t
    | false => ev Γ b ρ t := (rfl)
@[simp] theorem S.call {k : Nat} {x : Str} {ds : List D} : app (Γs k) x (.ok ds t) = Dry.call k x ds t := (rfl)
@[simp] theorem S.callE {x : Str} : ev Γ (.call x as) ρ t = app Γ x (evs Γ as ρ t) := (rfl)
@[simp] theorem S.tup : ev Γ (.tup as) ρ t = (evs Γ as ρ t).bind fun ds t => (capL ds t).bind fun ds t => .ok (.tup ds) t := (rfl)
@[simp] theorem S.lst : ev Γ (.lst as) ρ t = (evs Γ as ρ t).bind fun ds t => (capL ds t).bind fun ds t => .ok (.lst ds) t := (rfl)
@[simp] theorem S.snil : evs Γ .nil ρ t = .ok [] t := (rfl)
@[simp] theorem S.scons : evs Γ (.cons e as) ρ t = (ev Γ e ρ t).bind fun d t => (evs Γ as ρ t).bind fun ds t => .ok (d :: ds) t := (rfl)
@[simp] theorem S.sstar : evs Γ (.star e as) ρ t = (ev Γ e ρ t).bind fun d t => (ofO (dItems d) t).bind fun xs t => (evs Γ as ρ t).bind fun ds t => .ok (xs ++ ds) t := (rfl)
@[simp] theorem S.seq : evI Γ (.seq e) ρ t = (ev Γ e ρ t).bind fun d t => ofO (dItems d) t := (rfl)
@[simp] theorem S.ifn {p : PI_} : evI Γ (.fn p as) ρ t = (evs Γ as ρ t).bind fun ds t => ofO (p.f ds) t := (rfl)
end
@[simp] theorem bindT_one {i : Nat} {d : D} {ρ : Env'} : bindT true [i] d ρ = some (ρ.set i (some (.dat d))) := (rfl)
@[simp] theorem bindT_tup {tg : List Nat} {ds : List D} {ρ : Env'} : bindT false tg (.tup ds) ρ = setAll tg ds ρ := (rfl)
@[simp] theorem setAll_nil {ρ : Env'} : setAll [] [] ρ = some ρ := (rfl)
@[simp] theorem setAll_cons {i : Nat} {is : List Nat} {d : D} {ds : List D} {ρ : Env'} : setAll (i :: is) (d :: ds) ρ = setAll is ds (ρ.set i (some (.dat d))) := (rfl)
@[simp] theorem wipeE_nil {ρ : Env'} : wipeE ρ [] = ρ := (rfl)
@[simp] theorem wipeE_cons {ρ : Env'} {v : Nat} {vs : List Nat} : wipeE ρ (v :: vs) = (wipeE ρ vs).set v none := (rfl)
@[simp] theorem capL_few {ds : List D} {t : Tin} (h : ds.length ≤ 10) : capL ds t = .ok ds t := by
  unfold capL
  rw [if_pos (Nat.le_trans h (by decide))]
section
@[simp] theorem f_add : P2.f .add = dAdd := (rfl)
@[simp] theorem f_sub : P2.f .sub = dSub := (rfl)
@[simp] theorem f_mul : P2.f .mul = dMul := (rfl)
@[simp] theorem f_div : P2.f .div = dDiv := (rfl)
@[simp] theorem f_mod : P2.f .mod = dMod := (rfl)
@[simp] theorem f_pow : P2.f .pow = dPow := (rfl)
@[simp] theorem f_eq : P2.f .eq = dEq := (rfl)
@[simp] theorem f_ne : P2.f .ne = dNe := (rfl)
@[simp] theorem f_lt : P2.f .lt = dLt := (rfl)
@[simp] theorem f_le : P2.f .le = dLe := (rfl)
@[simp] theorem f_gt : P2.f .gt = dGt := (rfl)
@[simp] theorem f_ge : P2.f .ge = dGe := (rfl)
@[simp] theorem f_in : P2.f .in_ = dIn := (rfl)
@[simp] theorem f_notin : P2.f .notin = dNotIn := (rfl)
@[simp] theorem g_len : P1.f .len = dLen := (rfl)
@[simp] theorem g_tuple : P1.f .tuple = dTuple := (rfl)
@[simp] theorem g_list : P1.f .list = dList := (rfl)
@[simp] theorem g_sum : P1.f .sum = dSum := (rfl)
@[simp] theorem g_all : P1.f .all = dAll := (rfl)
@[simp] theorem g_any : P1.f .any = dAny := (rfl)
@[simp] theorem g_abs : P1.f .abs = dAbs := (rfl)
@[simp] theorem g_int : P1.f .int = dInt := (rfl)
@[simp] theorem g_min : P1.f .min2 = dMin2 := (rfl)
@[simp] theorem g_sum2 : P1.f .sum2 = dSumL := (rfl)
@[simp] theorem g_sorted : P1.f .sorted = dSorted := (rfl)
@[simp] theorem h_r1 : PI_.f .rng1 = iRng1' := (rfl)
@[simp] theorem h_r2 : PI_.f .rng2 = iRng2' := (rfl)
@[simp] theorem h_zip : PI_.f .zip = iZip' := (rfl)
@[simp] theorem h_enum : PI_.f .enum = iEnum' := (rfl)
@[simp] theorem add_int {i j : Int} : dAdd (.int i) (.int j) = some (.int (i + j)) := (rfl)
@[simp] theorem sub_int {i j : Int} : dSub (.int i) (.int j) = some (.int (i - j)) := (rfl)
@[simp] theorem mod_int {i j : Int} (h : j ≠ 0) : dMod (.int i) (.int j) = some (.int (i.fmod j)) := if_pos h
@[simp] theorem eq_int {i j : Int} : dEq (.int i) (.int j) = some (.bl (i == j)) := dEq_int
@[simp] theorem ne_int {i j : Int} : dNe (.int i) (.int j) = some (.bl (i != j)) := dNe_int
@[simp] theorem lt_int {i j : Int} : dLt (.int i) (.int j) = some (.bl (decide (i < j))) := (rfl)
@[simp] theorem le_int {i j : Int} : dLe (.int i) (.int j) = some (.bl (decide (i ≤ j))) := (rfl)
@[simp] theorem gt_int {i j : Int} : dGt (.int i) (.int j) = some (.bl (decide (j < i))) := (rfl)
@[simp] theorem ge_int {i j : Int} : dGe (.int i) (.int j) = some (.bl (decide (j ≤ i))) := (rfl)
variable {α β : Type} {f : α → D} {g : β → D} {xs : List α} {ys : List β}
@[simp] theorem len_T : dLen [dT f xs] = some (.int xs.length) := by
  show some (D.int (xs.map f).length) = _
  rw [List.length_map]
@[simp] theorem len_L : dLen [dL f xs] = some (.int xs.length) := by
  show some (D.int (xs.map f).length) = _
  rw [List.length_map]
@[simp] theorem tuple_L : dTuple [dL f xs] = some (dT f xs) := (rfl)
@[simp] theorem tuple_T : dTuple [dT f xs] = some (dT f xs) := (rfl)
@[simp] theorem list_L : dList [dL f xs] = some (dL f xs) := (rfl)
@[simp] theorem list_T : dList [dT f xs] = some (dL f xs) := (rfl)
@[simp] theorem all_L {bs : List Bool} : dAll [dL .bl bs] = some (.bl (bs.all id)) := by
  show (dBls (bs.map D.bl)).map _ = _
  rw [dBls_map] <;> rfl
@[simp] theorem sum_L {bs : List Int} : dSum [dL .int bs] = some (.int bs.sum) := by
  show (dInts (bs.map D.int)).map _ = _
  rw [dInts_map] <;> rfl
@[simp] theorem any_T {bs : List Int} : dAny [dT .int bs] = some (.bl (bs.any fun n => n != 0)) := by
  show (dInts (bs.map D.int)).map _ = _
  rw [dInts_map] <;> rfl
@[simp] theorem items_T : dItems (dT f xs) = some (xs.map f) := (rfl)
@[simp] theorem items_L : dItems (dL f xs) = some (xs.map f) := (rfl)
def pD (f : α → D) (g : β → D) (p : α × β) : D := .tup [f p.1, g p.2]
theorem zip_map : ∀ (xs : List α) (ys : List β), ((xs.map f).zip (ys.map g)).map pairD = (xs.zip ys).map (pD f g)
  | [], _ => rfl
  | _ :: _, [] => rfl
  | x :: xs, y :: ys => by
    show pairD (f x, g y) :: ((xs.map f).zip (ys.map g)).map pairD = pD f g (x, y) :: (xs.zip ys).map (pD f g)
    rw [zip_map xs ys] <;> rfl
@[simp] theorem zip_TT : iZip' [dT f xs, dT g ys] = some ((xs.zip ys).map (pD f g)) := by
  show some (((xs.map f).zip (ys.map g)).map pairD) = _
  rw [zip_map]
@[simp] theorem zip_LL : iZip' [dL f xs, dL g ys] = some ((xs.zip ys).map (pD f g)) := by
  show some (((xs.map f).zip (ys.map g)).map pairD) = _
  rw [zip_map]
@[simp] theorem zip_TL : iZip' [dT f xs, dL g ys] = some ((xs.zip ys).map (pD f g)) := by
  show some (((xs.map f).zip (ys.map g)).map pairD) = _
  rw [zip_map]
/-- with their places -/
def nat (n : Nat) : D := .int (n : Int)
theorem enum_map (xs : List α) : enumD (xs.map f) = ((List.range xs.length).zip xs).map (pD nat f) := by
  unfold enumD
  rw [List.length_map]
  have : (List.range xs.length).zip (xs.map f) = ((List.range xs.length).zip xs).map fun p => (p.1, f p.2) := by
    rw [List.zip_map_right]
    rfl
  rw [this, List.map_map]
  rfl
@[simp] theorem enum_T : iEnum' [dT f xs] = some (((List.range xs.length).zip xs).map (pD nat f)) := by
  show some (enumD (xs.map f)) = _
  rw [enum_map]
@[simp] theorem enum_L : iEnum' [dL f xs] = some (((List.range xs.length).zip xs).map (pD nat f)) := by
  show some (enumD (xs.map f)) = _
  rw [enum_map]
@[simp] theorem rng1 {n : Nat} (h : n ≤ 1000000) : iRng1' [.int n] = some ((List.range n).map nat) := by
  show (if -1000000 ≤ (n : Int) ∧ (n : Int) ≤ 1000000 then some (rngD 0 (n : Int).toNat) else none) = _
  rw [if_pos ⟨by omega, by omega⟩]
  unfold rngD
  simp [nat]
end
end Dry
set_option Elab.async false
set_option linter.all false
set_option maxRecDepth 100000
set_option maxHeartbeats 4000000
/-! DryT: each def by its name. -/
namespace Dry
open PySem
theorem of_tupled : dfOf "tupled" = some dd_tupled := by kernel_rfl
theorem of_is_number : dfOf "is_number" = some dd_is_number := by kernel_rfl
theorem of_is_count : dfOf "is_count" = some dd_is_count := by kernel_rfl
theorem of_is_below : dfOf "is_below" = some dd_is_below := by kernel_rfl
theorem of_is_tuple_of : dfOf "is_tuple_of" = some dd_is_tuple_of := by kernel_rfl
theorem of_is_prime : dfOf "is_prime" = some dd_is_prime := by kernel_rfl
theorem of_is_row : dfOf "is_row" = some dd_is_row := by kernel_rfl
theorem of_inverse_digit : dfOf "inverse_digit" = some dd_inverse_digit := by kernel_rfl
theorem of_zero_row : dfOf "zero_row" = some dd_zero_row := by kernel_rfl
theorem of_unit_row : dfOf "unit_row" = some dd_unit_row := by kernel_rfl
theorem of_fit_lengths : dfOf "fit_lengths" = some dd_fit_lengths := by kernel_rfl
theorem of_row_sum : dfOf "row_sum" = some dd_row_sum := by kernel_rfl
theorem of_row_less : dfOf "row_less" = some dd_row_less := by kernel_rfl
theorem of_row_times : dfOf "row_times" = some dd_row_times := by kernel_rfl
theorem of_row_product : dfOf "row_product" = some dd_row_product := by kernel_rfl
theorem of_sum_of_multiples : dfOf "sum_of_multiples" = some dd_sum_of_multiples := by kernel_rfl
theorem of_marked_places : dfOf "marked_places" = some dd_marked_places := by kernel_rfl
theorem of_led_row : dfOf "led_row" = some dd_led_row := by kernel_rfl
theorem of_fit_rows : dfOf "fit_rows" = some dd_fit_rows := by kernel_rfl
theorem of_place_led : dfOf "place_led" = some dd_place_led := by kernel_rfl
theorem of_less_at : dfOf "less_at" = some dd_less_at := by kernel_rfl
theorem of_with_row : dfOf "with_row" = some dd_with_row := by kernel_rfl
theorem of_leads_of : dfOf "leads_of" = some dd_leads_of := by kernel_rfl
theorem of_lead_places : dfOf "lead_places" = some dd_lead_places := by kernel_rfl
theorem of_grid_rank : dfOf "grid_rank" = some dd_grid_rank := by kernel_rfl
theorem of_fit_both : dfOf "fit_both" = some dd_fit_both := by kernel_rfl
theorem of_is_spanned : dfOf "is_spanned" = some dd_is_spanned := by kernel_rfl
theorem of_fresh_in : dfOf "fresh_in" = some dd_fresh_in := by kernel_rfl
theorem of_multiples_in : dfOf "multiples_in" = some dd_multiples_in := by kernel_rfl
theorem of_multiples_for : dfOf "multiples_for" = some dd_multiples_for := by kernel_rfl
theorem of_is_multiples : dfOf "is_multiples" = some dd_is_multiples := by kernel_rfl
theorem of_unmarked_rows : dfOf "unmarked_rows" = some dd_unmarked_rows := by kernel_rfl
theorem of_bar_row : dfOf "bar_row" = some dd_bar_row := by kernel_rfl
theorem of_turned_grid : dfOf "turned_grid" = some dd_turned_grid := by kernel_rfl
theorem of_shape_of : dfOf "shape_of" = some dd_shape_of := by kernel_rfl
theorem of_cells_in : dfOf "cells_in" = some dd_cells_in := by kernel_rfl
theorem of_greys : dfOf "greys" = some dd_greys := by kernel_rfl
theorem of_rests : dfOf "rests" = some dd_rests := by kernel_rfl
theorem of_are_rows_of : dfOf "are_rows_of" = some dd_are_rows_of := by kernel_rfl
theorem of_is_key : dfOf "is_key" = some dd_is_key := by kernel_rfl
theorem of_read_in : dfOf "read_in" = some dd_read_in := by kernel_rfl
theorem of_sure_tones : dfOf "sure_tones" = some dd_sure_tones := by kernel_rfl
theorem of_reading : dfOf "reading" = some dd_reading := by kernel_rfl
theorem of_is_seen_pair : dfOf "is_seen_pair" = some dd_is_seen_pair := by kernel_rfl
theorem of_sure_pairs : dfOf "sure_pairs" = some dd_sure_pairs := by kernel_rfl
theorem of_sure_rests : dfOf "sure_rests" = some dd_sure_rests := by kernel_rfl
theorem of_digits_at : dfOf "digits_at" = some dd_digits_at := by kernel_rfl
theorem of_rows_fitting : dfOf "rows_fitting" = some dd_rows_fitting := by kernel_rfl
theorem of_key_fitting : dfOf "key_fitting" = some dd_key_fitting := by kernel_rfl
theorem of_fits_in : dfOf "fits_in" = some dd_fits_in := by kernel_rfl
theorem of_fits_pairs : dfOf "fits_pairs" = some dd_fits_pairs := by kernel_rfl
theorem of_some_key : dfOf "some_key" = some dd_some_key := by kernel_rfl
theorem of_power_of : dfOf "power_of" = some dd_power_of := by kernel_rfl
theorem of_many_fitting : dfOf "many_fitting" = some dd_many_fitting := by kernel_rfl
theorem of_how_many_keys : dfOf "how_many_keys" = some dd_how_many_keys := by kernel_rfl
theorem of_odd_row : dfOf "odd_row" = some dd_odd_row := by kernel_rfl
theorem of_is_odd_row : dfOf "is_odd_row" = some dd_is_odd_row := by kernel_rfl
theorem of_sure_seen : dfOf "sure_seen" = some dd_sure_seen := by kernel_rfl
theorem of_is_told : dfOf "is_told" = some dd_is_told := by kernel_rfl
theorem of_message_of : dfOf "message_of" = some dd_message_of := by kernel_rfl
theorem of_told_message : dfOf "told_message" = some dd_told_message := by kernel_rfl
theorem of_telling : dfOf "telling" = some dd_telling := by kernel_rfl
theorem of_is_telling : dfOf "is_telling" = some dd_is_telling := by kernel_rfl
theorem of_two_keys : dfOf "two_keys" = some dd_two_keys := by kernel_rfl
theorem of_is_two_keys : dfOf "is_two_keys" = some dd_is_two_keys := by kernel_rfl
theorem of_keys_that_read : dfOf "keys_that_read" = some dd_keys_that_read := by kernel_rfl
theorem of_told_apart : dfOf "told_apart" = some dd_told_apart := by kernel_rfl
theorem of_law_box : dfOf "_law_box" = some dd_law_box := by kernel_rfl
theorem of_law_take : dfOf "_law_take" = some dd_law_take := by kernel_rfl
theorem of_law_cells : dfOf "_law_cells" = some dd_law_cells := by kernel_rfl
theorem of_law_of : dfOf "_law_of" = some dd_law_of := by kernel_rfl
theorem of_law_pick : dfOf "_law_pick" = some dd_law_pick := by kernel_rfl
theorem of_law_lists : dfOf "_law_lists" = some dd_law_lists := by kernel_rfl
theorem of_law_same : dfOf "_law_same" = some dd_law_same := by kernel_rfl
theorem of_law_is_number : dfOf "_law_is_number" = some dd_law_is_number := by kernel_rfl
theorem of_law_greys : dfOf "_law_greys" = some dd_law_greys := by kernel_rfl
theorem of_law_shaped : dfOf "_law_shaped" = some dd_law_shaped := by kernel_rfl
theorem of_law_rests : dfOf "_law_rests" = some dd_law_rests := by kernel_rfl
theorem of_law_row_plus : dfOf "_law_row_plus" = some dd_law_row_plus := by kernel_rfl
theorem of_law_row_times : dfOf "_law_row_times" = some dd_law_row_times := by kernel_rfl
theorem of_law_all_rows : dfOf "_law_all_rows" = some dd_law_all_rows := by kernel_rfl
theorem of_law_read : dfOf "_law_read" = some dd_law_read := by kernel_rfl
theorem of_law_reading : dfOf "_law_reading" = some dd_law_reading := by kernel_rfl
theorem of_law_is_digits : dfOf "_law_is_digits" = some dd_law_is_digits := by kernel_rfl
theorem of_law_are_multiples : dfOf "_law_are_multiples" = some dd_law_are_multiples := by kernel_rfl
theorem of_law_picture : dfOf "_law_picture" = some dd_law_picture := by kernel_rfl
theorem of_law_message : dfOf "_law_message" = some dd_law_message := by kernel_rfl
theorem of_law_seen : dfOf "_law_seen" = some dd_law_seen := by kernel_rfl
theorem of_law_fitting : dfOf "_law_fitting" = some dd_law_fitting := by kernel_rfl
theorem of_law_caught : dfOf "_law_caught" = some dd_law_caught := by kernel_rfl
theorem of_law_by_hand_right : dfOf "_law_by_hand_right" = some dd_law_by_hand_right := by kernel_rfl
theorem of_law_is_odd : dfOf "_law_is_odd" = some dd_law_is_odd := by kernel_rfl
theorem of_law_is_two : dfOf "_law_is_two" = some dd_law_is_two := by kernel_rfl
theorem of_law_picture_right : dfOf "_law_picture_right" = some dd_law_picture_right := by kernel_rfl
theorem of_law_right : dfOf "_law_right" = some dd_law_right := by kernel_rfl
end Dry
set_option Elab.async false
set_option linter.all false
set_option maxRecDepth 100000
set_option maxHeartbeats 4000000
set_option autoImplicit false
/-! DryU: what the defs compute: rows. -/
namespace Dry
open PySem PySem.Spec PyProof.Rows L2
theorem dT_map {α β : Type} {f : β → D} {h : α → β} {xs : List α} : dT f (xs.map h) = dT (fun x => f (h x)) xs := by
  unfold dT
  rw [List.map_map]
  rfl
theorem dL_map {α β : Type} {f : β → D} {h : α → β} {xs : List α} : dL f (xs.map h) = dL (fun x => f (h x)) xs := by
  unfold dL
  rw [List.map_map]
  rfl
def rowSum (p : Int) (a b : List Int) : List Int := (a.zip b).map fun q => (q.1 + q.2).fmod p
def rowLess (p : Int) (a b : List Int) : List Int := (a.zip b).map fun q => (q.1 - q.2).fmod p
def rowTimes (p g : Int) (a : List Int) : List Int := a.map fun x => (g * x).fmod p
def rowProd (p : Int) (a b : List Int) : Int := (((a.zip b).map fun (q : Int × Int) => q.1 * q.2).sum).fmod p
/-- a digit's factor -/
def smallI (i : Int) : Prop := -(2 ^ 64) < i ∧ i < 2 ^ 64
theorem mul_small {i j : Int} (h : smallI i) : dMul (.int i) (.int j) = some (.int (i * j)) := by
  show (if mulB i j = true then _ else _) = _
  rw [if_pos]
  unfold mulB
  rw [decide_eq_true h.1, decide_eq_true h.2] <;> rfl
theorem mul_small' {i j : Int} (h : smallI j) : dMul (.int i) (.int j) = some (.int (i * j)) := by
  show (if mulB i j = true then _ else _) = _
  rw [if_pos]
  unfold mulB
  rw [decide_eq_true h.1, decide_eq_true h.2, Bool.and_self, Bool.or_true]
section
variable {k : Nat} {t : Tin} {p : Int}
theorem e_fit_lengths {α β : Type} {f : α → D} {g : β → D} {a : List α} {b : List β} (h : a.length = b.length) : call (k + 1) "fit_lengths" [dT f a, dT g b] t = .ok .non t := by
  rw [call_of of_fit_lengths rfl]
  refine callF_nx (ρ := [some (.dat (dT f a)), some (.dat (dT g b))]) ?_
  show exs _ f_fit_lengths [some (.dat (dT f a)), some (.dat (dT g b))] t = _
  simp [f_fit_lengths, h]
theorem e_row_sum {a b : List Int} (hp : p ≠ 0) (h : a.length = b.length) (hc : a.length ≤ cap) : call (k + 2) "row_sum" [.int p, dRow a, dRow b] t = .ok (dRow (rowSum p a b)) t := by
  rw [call_of of_row_sum rfl]
  refine callF_ret ?_
  show exs _ f_row_sum [some (.dat (.int p)), some (.dat (dRow a)), some (.dat (dRow b)), none, none] t = _
  have hcm := ev_comp (Γ := Γs (k + 1)) (it := .fn .zip (.cons (.var 1) (.cons (.var 2) .nil))) (s := false) (tg := [3, 4]) (vs := [3, 4]) (e := .two .mod (.two .add (.var 3) (.var 4)) (.var 0)) (t1 := t)
    (ρ := [some (.dat (.int p)), some (.dat (dRow a)), some (.dat (dRow b)), none, none]) (t := t) (a.zip b) (pD .int .int) (fun q => .int ((q.1 + q.2).fmod p)) (by simp) (by rw [List.length_zip]; omega) (fun x hx => ⟨_, rfl, by simp [hp]⟩)
  simp [f_row_sum, e_fit_lengths h, hcm, rowSum, dT_map]
theorem e_row_less {a b : List Int} (hp : p ≠ 0) (h : a.length = b.length) (hc : a.length ≤ cap) : call (k + 2) "row_less" [.int p, dRow a, dRow b] t = .ok (dRow (rowLess p a b)) t := by
  rw [call_of of_row_less rfl]
  refine callF_ret ?_
  show exs _ f_row_less [some (.dat (.int p)), some (.dat (dRow a)), some (.dat (dRow b)), none, none] t = _
  have hcm := ev_comp (Γ := Γs (k + 1)) (it := .fn .zip (.cons (.var 1) (.cons (.var 2) .nil))) (s := false) (tg := [3, 4]) (vs := [3, 4]) (e := .two .mod (.two .sub (.var 3) (.var 4)) (.var 0)) (t1 := t)
    (ρ := [some (.dat (.int p)), some (.dat (dRow a)), some (.dat (dRow b)), none, none]) (t := t) (a.zip b) (pD .int .int) (fun q => .int ((q.1 - q.2).fmod p)) (by simp) (by rw [List.length_zip]; omega) (fun x hx => ⟨_, rfl, by simp [hp]⟩)
  simp [f_row_less, e_fit_lengths h, hcm, rowLess, dT_map]
theorem e_row_times {g : Int} {a : List Int} (hp : p ≠ 0) (hg : smallI g) (hc : a.length ≤ cap) : call (k + 1) "row_times" [.int p, .int g, dRow a] t = .ok (dRow (rowTimes p g a)) t := by
  rw [call_of of_row_times rfl]
  refine callF_ret ?_
  show exs _ f_row_times [some (.dat (.int p)), some (.dat (.int g)), some (.dat (dRow a)), none] t = _
  have hcm := ev_comp (Γ := Γs k) (it := .seq (.var 2)) (s := true) (tg := [3]) (vs := [3]) (e := .two .mod (.two .mul (.var 1) (.var 3)) (.var 0)) (t1 := t)
    (ρ := [some (.dat (.int p)), some (.dat (.int g)), some (.dat (dRow a)), none]) (t := t) a .int (fun x => .int ((g * x).fmod p)) (by simp) hc (fun x hx => ⟨_, rfl, by simp [hp, mul_small hg]⟩)
  simp [f_row_times, hcm, rowTimes, dT_map]
theorem e_row_product {a b : List Int} (hp : p ≠ 0) (h : a.length = b.length) (hc : a.length ≤ cap) (ha : ∀ x ∈ a, smallI x) : call (k + 2) "row_product" [.int p, dRow a, dRow b] t = .ok (.int (rowProd p a b)) t := by
  rw [call_of of_row_product rfl]
  refine callF_ret ?_
  show exs _ f_row_product [some (.dat (.int p)), some (.dat (dRow a)), some (.dat (dRow b)), none, none] t = _
  have hcm := ev_comp (Γ := Γs (k + 1)) (it := .fn .zip (.cons (.var 1) (.cons (.var 2) .nil))) (s := false) (tg := [3, 4]) (vs := [3, 4]) (e := .two .mul (.var 3) (.var 4)) (t1 := t)
    (ρ := [some (.dat (.int p)), some (.dat (dRow a)), some (.dat (dRow b)), none, none]) (t := t) (a.zip b) (pD .int .int) (fun q => .int (q.1 * q.2)) (by simp) (by rw [List.length_zip]; omega)
      (fun x hx => ⟨_, rfl, by simp [mul_small (ha x.1 (List.of_mem_zip hx).1)]⟩)
  have e : dL (fun (q : Int × Int) => D.int (q.1 * q.2)) (a.zip b) = dL .int ((a.zip b).map fun q => q.1 * q.2) := dL_map.symm
  rw [e] at hcm
  simp [f_row_product, e_fit_lengths h, hcm, rowProd, hp]
theorem atI_nat {α : Type} {xs : List α} {n : Nat} {x : α} (h : xs[n]? = some x) : atI xs (n : Int) = some x := by
  have hl := (List.getElem?_eq_some_iff.mp h).1
  have e : ixN xs.length (n : Int) = some n := by
    unfold ixN
    rw [if_pos (by omega), if_pos (by omega), Int.toNat_natCast]
  unfold atI
  rw [e]
  exact h
theorem ix_T {α : Type} {f : α → D} {xs : List α} {n : Nat} {i : Int} {x : α} (hi : i = n) (h : xs[n]? = some x) : ixD (dT f xs) (.int i) t = some (f x) := by
  subst hi
  show atI (xs.map f) n = _
  exact atI_nat (by rw [List.getElem?_map, h]; rfl)
theorem ix_L {α : Type} {f : α → D} {xs : List α} {n : Nat} {i : Int} {x : α} (hi : i = n) (h : xs[n]? = some x) : ixD (dL f xs) (.int i) t = some (f x) := by
  subst hi
  show atI (xs.map f) n = _
  exact atI_nat (by rw [List.getElem?_map, h]; rfl)
def zeroRow (n : Nat) : List Int := List.replicate n 0
theorem e_zero_row {n : Nat} (h : n ≤ 1000) : call (k + 1) "zero_row" [nat n] t = .ok (dRow (zeroRow n)) t := by
  rw [call_of of_zero_row rfl]
  refine callF_ret ?_
  show exs _ f_zero_row [some (.dat (nat n))] t = _
  have e : dMul (.tup [.int 0]) (nat n) = some (dRow (zeroRow n)) := by
    show (if [D.int 0] ≠ [] ∧ (0 : Int) ≤ (n : Int) ∧ (n : Int) ≤ 1000 ∧ [D.int 0].length ≤ 1000 then some (D.tup (List.replicate (n : Int).toNat [D.int 0]).flatten) else none) = _
    rw [if_pos ⟨by simp, by omega, by omega, by simp⟩]
    unfold dRow dT zeroRow
    simp
  simp [f_zero_row, e]
def unitRow (n j : Nat) : List Int := (List.range n).map fun o => if o = j then 1 else 0
theorem e_unit_row {n j : Nat} (h : n ≤ 1000) (hj : j < n) : call (k + 1) "unit_row" [nat n, nat j] t = .ok (dRow (unitRow n j)) t := by
  rw [call_of of_unit_row rfl]
  refine callF_ret ?_
  show exs _ f_unit_row [some (.dat (nat n)), some (.dat (nat j)), none] t = _
  have hcm := ev_comp (Γ := Γs k) (it := .fn .rng1 (.cons (.var 0) .nil)) (s := true) (tg := [2]) (vs := [2]) (e := .fn .int (.cons (.two .eq (.var 2) (.var 1)) .nil)) (t1 := t)
    (ρ := [some (.dat (nat n)), some (.dat (nat j)), none]) (t := t) (List.range n) nat (fun o => .int (if o = j then 1 else 0)) (by simp [nat, rng1 (show n ≤ 1000000 by omega)]) (by rw [List.length_range]; exact Nat.le_trans h (by decide))
    (fun x hx => ⟨_, rfl, by
      simp [nat, dInt]
      by_cases hx : x = j
      · simp [hx]
      · simp [hx]
        omega⟩)
  have hge : dGe (nat j) (nat n) = some (.bl false) := by
    show some (D.bl (decide ((n : Int) ≤ (j : Int)))) = _
    rw [decide_eq_false (by omega)]
  simp [f_unit_row, hcm, hge, unitRow, dT_map]
end
end Dry
set_option Elab.async false
set_option linter.all false
set_option maxRecDepth 100000
set_option maxHeartbeats 4000000
set_option autoImplicit false
/-! DryV: what the defs compute: leads. -/
namespace Dry
open PySem PySem.Spec PyProof.Rows L2
/-! ### loops -/
def bodyF (Γ : Gam) (s : Bool) (tg : List Nat) (body : Sxs) : D → Env' → Tin → SR := fun d ρ t => match bindT s tg d ρ with
  | some ρ' => exs Γ body ρ' t
  | none => .bad
theorem bodyF_some {Γ : Gam} {s : Bool} {tg : List Nat} {body : Sxs} {d : D} {ρ ρ' : Env'} {t : Tin} (h : bindT s tg d ρ = some ρ') : bodyF Γ s tg body d ρ t = exs Γ body ρ' t := by
  unfold bodyF
  rw [h]
theorem ex_loop {Γ : Gam} {it : Itx} {s : Bool} {tg : List Nat} {body : Sxs} {ρ : Env'} {t t1 : Tin} {items : List D} (h : evI Γ it ρ t = .ok items t1) : ex Γ (.loop it s tg body) ρ t = loopF (bodyF Γ s tg body) items ρ t1 := by
  unfold ex
  rw [h]
  rfl
section
variable {k : Nat} {t : Tin} {α : Type}
/-! ### tupled -/
theorem e_tup_int {i : Int} : call (k + 1) "tupled" [.int i] t = .ok (.int i) t := by
  rw [call_of of_tupled rfl]
  refine callF_ret ?_
  show exs _ f_tupled [some (.dat (.int i)), none] t = _
  simp [f_tupled, dIs, isOne, tyOf]
theorem e_tup_T {f g : α → D} {xs : List α} (hc : xs.length ≤ cap) (h : ∀ x ∈ xs, call k "tupled" [f x] t = .ok (g x) t) : call (k + 1) "tupled" [dT f xs] t = .ok (dT g xs) t := by
  rw [call_of of_tupled rfl]
  refine callF_ret ?_
  show exs _ f_tupled [some (.dat (dT f xs)), none] t = _
  have hcm := ev_comp (Γ := Γs k) (it := .seq (.var 0)) (s := true) (tg := [1]) (vs := [1]) (e := .call "tupled" (.cons (.var 1) .nil)) (t1 := t)
    (ρ := [some (.dat (dT f xs)), none]) (t := t) xs f g (by simp) hc (fun x hx => ⟨_, rfl, by simp [h x hx]⟩)
  have hi : dIs [.list, .tuple] (dT f xs) = some (.bl true) := rfl
  simp [f_tupled, hi, hcm]
theorem e_tup_L {f g : α → D} {xs : List α} (hc : xs.length ≤ cap) (h : ∀ x ∈ xs, call k "tupled" [f x] t = .ok (g x) t) : call (k + 1) "tupled" [dL f xs] t = .ok (dT g xs) t := by
  rw [call_of of_tupled rfl]
  refine callF_ret ?_
  show exs _ f_tupled [some (.dat (dL f xs)), none] t = _
  have hcm := ev_comp (Γ := Γs k) (it := .seq (.var 0)) (s := true) (tg := [1]) (vs := [1]) (e := .call "tupled" (.cons (.var 1) .nil)) (t1 := t)
    (ρ := [some (.dat (dL f xs)), none]) (t := t) xs f g (by simp) hc (fun x hx => ⟨_, rfl, by simp [h x hx]⟩)
  have hi : dIs [.list, .tuple] (dL f xs) = some (.bl true) := rfl
  simp [f_tupled, hi, hcm]
theorem e_tup_row {r : List Int} (hc : r.length ≤ cap) : call (k + 2) "tupled" [dRow r] t = .ok (dRow r) t := e_tup_T hc fun _ _ => e_tup_int
theorem e_tup_grid {g : List (List Int)} (hc : g.length ≤ cap) (h : ∀ r ∈ g, r.length ≤ cap) : call (k + 3) "tupled" [dGrid g] t = .ok (dGrid g) t := e_tup_T hc fun r hr => e_tup_row (h r hr)
theorem e_tup_gridL {g : List (List Int)} (hc : g.length ≤ cap) (h : ∀ r ∈ g, r.length ≤ cap) : call (k + 3) "tupled" [dL dRow g] t = .ok (dGrid g) t := e_tup_L hc fun r hr => e_tup_row (h r hr)

/-! ### equality with nothing -/
theorem eq_nilL {f : α → D} {xs : List α} (h : okN 64 (dL f xs) = true) : dEq (dL f xs) (.lst []) = some (.bl xs.isEmpty) := by
  rw [dEq_ok h rfl]
  cases xs <;> rfl
theorem eq_nilT {f : α → D} {xs : List α} (h : okN 64 (dT f xs) = true) : dEq (dT f xs) (.tup []) = some (.bl xs.isEmpty) := by
  rw [dEq_ok h rfl]
  cases xs <;> rfl
theorem okN_natL {xs : List Nat} : okN 64 (dL nat xs) = true := okN_L fun _ _ => okN_int
theorem okN_natT {xs : List Nat} : okN 64 (dT nat xs) = true := okN_T fun _ _ => okN_int

/-! ### digits -/
/-- a row of digits, w wide -/
structure Rw (p w : Nat) (r : List Int) : Prop where
  len : r.length = w
  dig : ∀ x ∈ r, 0 ≤ x ∧ x < p
theorem Rw.small {p w : Nat} {r : List Int} (h : Rw p w r) (hp : p ≤ 5) : ∀ x ∈ r, smallI x := fun x hx => by
  have := h.dig x hx
  unfold smallI
  omega
theorem fmod_dig {p : Nat} (hp : 0 < p) (x : Int) : 0 ≤ x.fmod p ∧ x.fmod p < p := by
  have h : (0 : Int) < (p : Int) := by omega
  exact ⟨Int.fmod_nonneg_of_pos x h, Int.fmod_lt_of_pos x h⟩
theorem Rw.less {p w : Nat} {a b : List Int} (hp : 0 < p) (ha : a.length = w) (hb : b.length = w) : Rw p w (rowLess p a b) := by
  refine ⟨?_, fun x hx => ?_⟩
  · unfold rowLess
    rw [List.length_map, List.length_zip, ha, hb, Nat.min_self]
  · obtain ⟨q, _, rfl⟩ := List.mem_map.mp hx
    exact fmod_dig hp _
theorem Rw.times {p w : Nat} {g : Int} {a : List Int} (hp : 0 < p) (ha : a.length = w) : Rw p w (rowTimes p g a) := by
  refine ⟨?_, fun x hx => ?_⟩
  · unfold rowTimes
    rw [List.length_map, ha]
  · obtain ⟨q, _, rfl⟩ := List.mem_map.mp hx
    exact fmod_dig hp _
def invD (p : Nat) (g : Int) : Nat := ((List.range p).filter fun (o : Nat) => ((o : Int) * g).fmod p == 1).headD 0
theorem e_inverse_digit {p : Nat} {g : Int} (hp : 0 < p) (hp5 : p ≤ 5) (hg : smallI g) (h : ((List.range p).filter fun (o : Nat) => ((o : Int) * g).fmod p == 1) ≠ []) : call (k + 1) "inverse_digit" [nat p, .int g] t = .ok (nat (invD p g)) t := by
  rw [call_of of_inverse_digit rfl]
  refine callF_ret ?_
  show exs _ f_inverse_digit [some (.dat (nat p)), some (.dat (.int g)), none, none] t = _
  have hcm := ev_compIf (Γ := Γs k) (it := .fn .rng1 (.cons (.var 0) .nil)) (s := true) (tg := [3]) (vs := [3]) (c := .two .eq (.two .mod (.two .mul (.var 3) (.var 1)) (.var 0)) (.int 1)) (e := .var 3) (t1 := t)
    (ρ := [some (.dat (nat p)), some (.dat (.int g)), none, none]) (t := t) (List.range p) nat nat (fun o => ((o : Int) * g).fmod p == 1) (by simp [nat, rng1 (show p ≤ 1000000 by omega)]) (by rw [List.length_range]; unfold cap; omega)
    (fun x hx => ⟨_, rfl, by
      have hp' : (p : Int) ≠ 0 := by omega
      have e1 : dMul (nat x) (.int g) = some (.int ((x : Int) * g)) := mul_small' hg
      have e2 : dMod (.int ((x : Int) * g)) (nat p) = some (.int (((x : Int) * g).fmod p)) := mod_int hp'
      simp [e1, e2], by simp⟩)
  obtain ⟨o, os, ho⟩ : ∃ o os, ((List.range p).filter fun (o : Nat) => ((o : Int) * g).fmod p == 1) = o :: os := by
    cases z : ((List.range p).filter fun (o : Nat) => ((o : Int) * g).fmod p == 1) with
    | nil => exact absurd z h
    | cons o os => exact ⟨o, os, rfl⟩
  have hi : invD p g = o := by
    unfold invD
    rw [ho] <;> rfl
  rw [ho] at hcm
  have hx : ixD (dL nat (o :: os)) (.int 0) t = some (nat o) := ix_L (n := 0) rfl rfl
  have he : dEq (dL nat (o :: os)) (.lst []) = some (.bl false) := eq_nilL okN_natL
  simp [f_inverse_digit, hcm, hi, hx, he]
def places (r : List Int) : List Nat := (((List.range r.length).zip r).filter fun q => q.2 != 0).map Prod.fst
theorem e_marked_places {r : List Int} (hc : r.length ≤ cap) : call (k + 1) "marked_places" [dRow r] t = .ok (dT nat (places r)) t := by
  rw [call_of of_marked_places rfl]
  refine callF_ret ?_
  show exs _ f_marked_places [some (.dat (dRow r)), none, none] t = _
  have hcm := ev_compIf (Γ := Γs k) (it := .fn .enum (.cons (.var 0) .nil)) (s := false) (tg := [1, 2]) (vs := [1, 2]) (c := .two .ne (.var 2) (.int 0)) (e := .var 1) (t1 := t)
    (ρ := [some (.dat (dRow r)), none, none]) (t := t) ((List.range r.length).zip r) (pD nat .int) (fun q => nat q.1) (fun q => q.2 != 0) (by simp) (by rw [List.length_zip, List.length_range]; omega)
    (fun x hx => ⟨_, rfl, by simp, by simp⟩)
  have e : dL (fun (q : Nat × Int) => nat q.1) (((List.range r.length).zip r).filter fun q => q.2 != 0) = dL nat (places r) := dL_map.symm
  rw [e] at hcm
  simp [f_marked_places, hcm]
/-- the first place that is not 0 -/
def placeLed (r : List Int) : Option Nat := (((List.range r.length).zip r).find? fun q => q.2 != 0).map Prod.fst
def optN : Option Nat → D
  | some n => nat n
  | none => .non
theorem e_place_led {r : List Int} : call (k + 1) "place_led" [dRow r] t = .ok (optN (placeLed r)) t := by
  rw [call_of of_place_led rfl]
  refine callF_ret ?_
  show exs _ f_place_led [some (.dat (dRow r)), none, none] t = _
  have hl := loopF_find (F := bodyF (Γs k) false [1, 2] (.cons (.ife (.two .ne (.var 2) (.int 0)) (.cons (.ret (.var 1)) .nil) .nil) .nil)) (enc := pD nat .int) (g := fun q => nat q.1) (t := t) (fun ρ => ∃ a b, ρ = [some (.dat (dRow r)), a, b]) (fun q => q.2 != 0) ((List.range r.length).zip r) [some (.dat (dRow r)), none, none]
    (fun q ρ _ hr => by
      obtain ⟨a, b, rfl⟩ := hr
      have hb : bindT false [1, 2] (pD nat .int q) [some (.dat (dRow r)), a, b] = some [some (.dat (dRow r)), some (.dat (nat q.1)), some (.dat (.int q.2))] := rfl
      refine ⟨fun h => ?_, fun h => ⟨[some (.dat (dRow r)), some (.dat (nat q.1)), some (.dat (.int q.2))], ?_, _, _, rfl⟩⟩
      · have h' : (q.2 != 0) = true := h
        rw [bodyF_some hb]
        simp [h']
      · have h' : (q.2 != 0) = false := h
        rw [bodyF_some hb]
        simp [h']) ⟨none, none, rfl⟩
  have hev := ex_loop (Γ := Γs k) (it := .fn .enum (.cons (.var 0) .nil)) (s := false) (tg := [1, 2]) (body := .cons (.ife (.two .ne (.var 2) (.int 0)) (.cons (.ret (.var 1)) .nil) .nil) .nil) (ρ := [some (.dat (dRow r)), none, none]) (t := t) (t1 := t) (items := ((List.range r.length).zip r).map (pD nat .int)) (by simp)
  unfold placeLed
  rcases hl with ⟨q, h1, h2⟩ | ⟨h1, ρ', h2, _⟩
  · rw [h2] at hev
    rw [h1]
    simp [f_place_led, hev, optN]
  · rw [h2] at hev
    rw [h1]
    simp [f_place_led, hev, optN]
end
end Dry
set_option Elab.async false
set_option linter.all false
set_option maxRecDepth 100000
set_option maxHeartbeats 4000000
set_option autoImplicit false
/-! DryW: what the defs compute: elimination. -/
namespace Dry
open PySem PySem.Spec PyProof.Rows L2
@[simp] theorem nn_nat {n : Nat} : isNonD (nat n) = false := (rfl)
@[simp] theorem nn_non : isNonD .non = true := (rfl)
@[simp] theorem nn_T {α : Type} {f : α → D} {xs : List α} : isNonD (dT f xs) = false := (rfl)
@[simp] theorem nn_L {α : Type} {f : α → D} {xs : List α} : isNonD (dL f xs) = false := (rfl)
/-- the primes that the law draws -/
def Pr (p : Nat) : Prop := p = 2 ∨ p = 3
theorem Pr.pos {p : Nat} (h : Pr p) : 0 < p := by
  unfold Pr at h
  omega
theorem Pr.le {p : Nat} (h : Pr p) : p ≤ 5 := by
  unfold Pr at h
  omega
theorem Pr.inv {p : Nat} (h : Pr p) {g : Int} (h0 : 0 < g) (h1 : g < p) : ((List.range p).filter fun (o : Nat) => ((o : Int) * g).fmod p == 1) ≠ [] := by
  rcases h with rfl | rfl
  · obtain rfl : g = 1 := by omega
    decide
  · have : g = 1 ∨ g = 2 := by omega
    rcases this with rfl | rfl <;> decide
/-- the j-th digit -/
def at0 (r : List Int) (j : Nat) : Int := r.getD j 0
def ledRow (p : Nat) (r : List Int) : List Int := rowTimes p (invD p (at0 r ((placeLed r).getD 0))) r
def lessAt (p : Nat) (r lead : List Int) (j : Nat) : List Int := rowLess p r (rowTimes p (at0 r j) lead)
abbrev Lead := Nat × List Int
abbrev ld : Lead → D := pD nat dRow
structure Ld (p w : Nat) (q : Lead) : Prop where
  lt : q.1 < w
  rw : Rw p w q.2
def reduce (p : Nat) (leads : List Lead) (r : List Int) : List Int := leads.foldl (fun l q => lessAt p l q.2 q.1) r
def sortL (l : List Lead) : List Lead := l.mergeSort fun a b => PySem.W.dataLe false D.py (ld a) (ld b)
def withRow (p : Nat) (leads : List Lead) (r : List Int) : List Lead × Bool := match placeLed (reduce p leads r) with
  | none => (leads, true)
  | some j => (sortL (leads.map (fun q => (q.1, lessAt p q.2 (ledRow p (reduce p leads r)) j)) ++ [(j, ledRow p (reduce p leads r))]), false)
def leadsOf (p : Nat) (rows : List (List Int)) : List Lead := rows.foldl (fun l r => (withRow p l r).1) []
section
variable {k : Nat} {t : Tin} {p w : Nat}
theorem Rw.getD {r : List Int} (h : Rw p w r) (hp : 0 < p) (j : Nat) : 0 ≤ at0 r j ∧ at0 r j < p := by
  unfold at0
  rw [List.getD_eq_getElem?_getD]
  cases z : r[j]? with
  | none =>
    show (0 : Int) ≤ 0 ∧ (0 : Int) < p
    omega
  | some x => exact h.dig x (List.mem_of_getElem? z)
theorem small_of {p : Nat} (hp : p ≤ 5) {x : Int} (h : 0 ≤ x ∧ x < p) : smallI x := by
  unfold smallI
  omega
theorem get_some {r : List Int} {j : Nat} (h : j < r.length) : r[j]? = some (at0 r j) := by
  unfold at0
  rw [List.getD_eq_getElem?_getD, List.getElem?_eq_getElem h]
  rfl
theorem Rw.lessAt {r lead : List Int} (hp : 0 < p) (hr : r.length = w) (hl : lead.length = w) (j : Nat) : Rw p w (lessAt p r lead j) := .less hp hr (Rw.times (p := p) hp hl).len
theorem e_less_at {r lead : List Int} {j : Nat} (hp : Pr p) (hr : Rw p w r) (hl : Rw p w lead) (hj : j < w) (hc : w ≤ cap) : call (k + 3) "less_at" [nat p, dRow r, dRow lead, nat j] t = .ok (dRow (lessAt p r lead j)) t := by
  rw [call_of of_less_at rfl]
  refine callF_ret ?_
  show exs _ f_less_at [some (.dat (nat p)), some (.dat (dRow r)), some (.dat (dRow lead)), some (.dat (nat j))] t = _
  have hx : ixD (dRow r) (nat j) t = some (.int (at0 r j)) := ix_T (i := (j : Int)) rfl (get_some (by rw [hr.len]; exact hj))
  have hp' : (p : Int) ≠ 0 := by
    have := hp.pos
    omega
  have h1 : call (k + 2) "row_times" [nat p, .int (at0 r j), dRow lead] t = .ok (dRow (rowTimes p (at0 r j) lead)) t := e_row_times hp' (small_of hp.le (hr.getD hp.pos j)) (by rw [hl.len]; exact hc)
  have h2 : call (k + 2) "row_less" [nat p, dRow r, dRow (rowTimes p (at0 r j) lead)] t = .ok (dRow (rowLess p r (rowTimes p (at0 r j) lead))) t :=
    e_row_less hp' (by rw [hr.len, (Rw.times (p := p) hp.pos hl.len).len]) (by rw [hr.len]; exact hc)
  simp [f_less_at, hx, h1, h2, lessAt]
theorem places_head {r : List Int} {j : Nat} (h : placeLed r = some j) : (places r)[0]? = some j := by
  unfold placeLed at h
  unfold places
  rw [← List.head?_eq_getElem?, List.head?_map, List.head?_filter]
  exact h
theorem placeLed_spec {r : List Int} {j : Nat} (h : placeLed r = some j) : j < r.length ∧ at0 r j ≠ 0 := by
  unfold placeLed at h
  rw [Option.map_eq_some_iff] at h
  obtain ⟨⟨a, x⟩, h1, rfl⟩ := h
  have h2 := List.find?_some h1
  have h3 := List.mem_of_find?_eq_some h1
  obtain ⟨i, hi⟩ := List.mem_iff_getElem?.mp h3
  obtain ⟨e1, e2⟩ := List.getElem?_zip_eq_some.mp hi
  have e1' : (List.range r.length)[i]? = some a := e1
  have hil : i < r.length := by
    have := (List.getElem?_eq_some_iff.mp e1').1
    simpa using this
  rw [List.getElem?_range hil] at e1'
  cases e1'
  refine ⟨hil, ?_⟩
  unfold at0
  rw [List.getD_eq_getElem?_getD, e2]
  simpa using h2
theorem e_led_row {r : List Int} {j : Nat} (hp : Pr p) (hr : Rw p w r) (hj : placeLed r = some j) (hc : w ≤ cap) : call (k + 2) "led_row" [nat p, dRow r] t = .ok (dRow (ledRow p r)) t := by
  rw [call_of of_led_row rfl]
  refine callF_ret ?_
  show exs _ f_led_row [some (.dat (nat p)), some (.dat (dRow r)), none] t = _
  obtain ⟨s1, s2⟩ := placeLed_spec hj
  have hd := hr.getD hp.pos j
  have hx : ixD (dT nat (places r)) (.int 0) t = some (nat j) := ix_T (n := 0) rfl (places_head hj)
  have hx2 : ixD (dRow r) (nat j) t = some (.int (at0 r j)) := ix_T (i := (j : Int)) rfl (get_some s1)
  have hp' : (p : Int) ≠ 0 := by
    have := hp.pos
    omega
  have hmp : call (k + 1) "marked_places" [dRow r] t = .ok (dT nat (places r)) t := e_marked_places (by rw [hr.len]; exact hc)
  have hi : call (k + 1) "inverse_digit" [nat p, .int (at0 r j)] t = .ok (nat (invD p (at0 r j))) t := e_inverse_digit hp.pos hp.le (small_of hp.le hd) (hp.inv (by omega) hd.2)
  have hib : invD p (at0 r j) < p := by
    have hne := hp.inv (g := at0 r j) (by omega) hd.2
    unfold invD
    cases z : ((List.range p).filter fun (o : Nat) => ((o : Int) * at0 r j).fmod p == 1) with
    | nil => exact absurd z hne
    | cons o os =>
      have : o ∈ (List.range p).filter fun (o : Nat) => ((o : Int) * at0 r j).fmod p == 1 := by
        rw [z]
        exact List.mem_cons_self ..
      exact List.mem_range.mp (List.mem_filter.mp this).1
  have h1 : call (k + 1) "row_times" [nat p, nat (invD p (at0 r j)), dRow r] t = .ok (dRow (rowTimes p (invD p (at0 r j)) r)) t := e_row_times hp' (small_of hp.le ⟨by omega, by omega⟩) (by rw [hr.len]; exact hc)
  have he : dEq (dT nat (places r)) (.tup []) = some (.bl false) := by
    rw [eq_nilT okN_natT]
    have := places_head hj
    cases z : places r with
    | nil =>
      rw [z] at this
      cases this
    | cons a b => rfl
  simp [f_led_row, hmp, he, hx, hx2, hi, h1, ledRow, hj]
theorem Rw.led {r : List Int} (hp : Pr p) (hr : Rw p w r) : Rw p w (ledRow p r) := .times hp.pos hr.len
theorem Rw.reduce {leads : List Lead} (hp : Pr p) : ∀ {r : List Int}, Rw p w r → (∀ q ∈ leads, Ld p w q) → Rw p w (reduce p leads r) := by
  induction leads with
  | nil => exact fun h _ => h
  | cons q qs ih => exact fun h hl => ih (.lessAt hp.pos h.len (hl q (List.mem_cons_self ..)).rw.len _) fun q' hq => hl q' (List.mem_cons_of_mem _ hq)
theorem sortL_perm (l : List Lead) : (sortL l).Perm l := List.mergeSort_perm _ _
theorem sorted_leads {l : List Lead} (hc : l.length ≤ 1000) : dSorted [dL ld l] = some (dL ld (sortL l)) := by
  show (if (l.map ld).all isPr = true ∧ (l.map ld).length ≤ 1000 then some (D.lst ((l.map ld).mergeSort fun a b => PySem.W.dataLe false D.py a b)) else none) = _
  rw [if_pos]
  · unfold dL sortL
    rw [List.map_mergeSort (s := fun a b => PySem.W.dataLe false D.py a b) (fun a _ b _ => rfl)]
  · refine ⟨?_, by rw [List.length_map]; exact hc⟩
    rw [List.all_map, List.all_eq_true]
    intro q _
    show (dInts (q.2.map D.int)).isSome = true
    rw [dInts_map] <;> rfl
def dWith (x : List Lead × Bool) : D := .tup [dL ld x.1, .bl x.2]
theorem e_with_row {leads : List Lead} {r : List Int} (hp : Pr p) (hr : Rw p w r) (hl : ∀ q ∈ leads, Ld p w q) (hc : w ≤ cap) (hn : leads.length < 1000) : call (k + 4) "with_row" [nat p, dL ld leads, dRow r] t = .ok (dWith (withRow p leads r)) t := by
  rw [call_of of_with_row rfl]
  refine callF_ret ?_
  show exs _ f_with_row [some (.dat (nat p)), some (.dat (dL ld leads)), some (.dat (dRow r)), none, none, none, none, none, none] t = _
  -- the loop
  have hlp := loopF_fold (F := bodyF (Γs (k + 3)) false [4, 5] (.cons (.asg true [3] (.call "less_at" (.cons (.var 0) (.cons (.var 3) (.cons (.var 5) (.cons (.var 4) .nil)))))) .nil)) (enc := ld) (t := t)
    (fun (b : List Int) ρ => Rw p w b ∧ ∃ x y, ρ = [some (.dat (nat p)), some (.dat (dL ld leads)), some (.dat (dRow r)), some (.dat (dRow b)), x, y, none, none, none]) (fun l q => lessAt p l q.2 q.1) leads r
    [some (.dat (nat p)), some (.dat (dL ld leads)), some (.dat (dRow r)), some (.dat (dRow r)), none, none, none, none, none]
    (fun b q ρ hq hR => by
      obtain ⟨hb, x, y, rfl⟩ := hR
      have hbd : bindT false [4, 5] (ld q) [some (.dat (nat p)), some (.dat (dL ld leads)), some (.dat (dRow r)), some (.dat (dRow b)), x, y, none, none, none] =
        some [some (.dat (nat p)), some (.dat (dL ld leads)), some (.dat (dRow r)), some (.dat (dRow b)), some (.dat (nat q.1)), some (.dat (dRow q.2)), none, none, none] := rfl
      have hq' := hl q hq
      refine ⟨[some (.dat (nat p)), some (.dat (dL ld leads)), some (.dat (dRow r)), some (.dat (dRow (lessAt p b q.2 q.1))), some (.dat (nat q.1)), some (.dat (dRow q.2)), none, none, none], ?_, .lessAt hp.pos hb.len hq'.rw.len _, _, _, rfl⟩
      rw [bodyF_some hbd]
      simp [e_less_at (k := k) (t := t) hp hb hq'.rw hq'.lt hc]) ⟨hr, none, none, rfl⟩
  obtain ⟨ρ', hl1, hb, x, y, rfl⟩ := hlp
  have hev := ex_loop (Γ := Γs (k + 3)) (it := .seq (.var 1)) (s := false) (tg := [4, 5]) (body := .cons (.asg true [3] (.call "less_at" (.cons (.var 0) (.cons (.var 3) (.cons (.var 5) (.cons (.var 4) .nil)))))) .nil)
    (ρ := [some (.dat (nat p)), some (.dat (dL ld leads)), some (.dat (dRow r)), some (.dat (dRow r)), none, none, none, none, none]) (t := t) (t1 := t) (items := leads.map ld) (by simp)
  rw [hl1] at hev
  have hpl : call (k + 3) "place_led" [dRow (reduce p leads r)] t = .ok (optN (placeLed (reduce p leads r))) t := e_place_led
  have hred : leads.foldl (fun l q => lessAt p l q.2 q.1) r = reduce p leads r := rfl
  rw [hred] at hev hb
  cases hz : placeLed (reduce p leads r) with
  | none =>
    rw [hz] at hpl
    have hw : withRow p leads r = (leads, true) := by
      unfold withRow
      rw [hz]
    simp [f_with_row, hev, hpl, hw, dWith, optN]
  | some j =>
    rw [hz] at hpl
    obtain ⟨s1, s2⟩ := placeLed_spec hz
    rw [hb.len] at s1
    have hown : Rw p w (ledRow p (reduce p leads r)) := .led hp hb
    have hw : withRow p leads r = (sortL (leads.map (fun q => (q.1, lessAt p q.2 (ledRow p (reduce p leads r)) j)) ++ [(j, ledRow p (reduce p leads r))]), false) := by
      unfold withRow
      rw [hz]
    have hle : call (k + 3) "led_row" [nat p, dRow (reduce p leads r)] t = .ok (dRow (ledRow p (reduce p leads r))) t := e_led_row hp hb hz hc
    have hcm := ev_comp (Γ := Γs (k + 3)) (it := .seq (.var 1)) (s := false) (tg := [4, 5]) (vs := [4, 5]) (e := .tup (.cons (.var 4) (.cons (.call "less_at" (.cons (.var 0) (.cons (.var 5) (.cons (.var 7) (.cons (.var 6) .nil))))) .nil))) (t1 := t)
      (ρ := [some (.dat (nat p)), some (.dat (dL ld leads)), some (.dat (dRow r)), some (.dat (dRow (reduce p leads r))), x, y, some (.dat (nat j)), some (.dat (dRow (ledRow p (reduce p leads r)))), none]) (t := t) leads ld
      (fun q => ld (q.1, lessAt p q.2 (ledRow p (reduce p leads r)) j)) (by simp) (Nat.le_trans (Nat.le_of_lt hn) (by decide))
      (fun q hq => ⟨[some (.dat (nat p)), some (.dat (dL ld leads)), some (.dat (dRow r)), some (.dat (dRow (reduce p leads r))), some (.dat (nat q.1)), some (.dat (dRow q.2)), some (.dat (nat j)), some (.dat (dRow (ledRow p (reduce p leads r)))), none], rfl, by
        simp [e_less_at (k := k) (t := t) hp (hl q hq).rw hown s1 hc, pD]⟩)
    have hadd : dAdd (dL (fun q => ld (q.1, lessAt p q.2 (ledRow p (reduce p leads r)) j)) leads) (.lst [.tup [nat j, dRow (ledRow p (reduce p leads r))]]) = some (dL ld (leads.map (fun q => (q.1, lessAt p q.2 (ledRow p (reduce p leads r)) j)) ++ [(j, ledRow p (reduce p leads r))])) := by
      show (if (leads.map _).length + 1 ≤ cap then some (D.lst (leads.map _ ++ [_])) else none) = _
      rw [if_pos (by rw [List.length_map]; unfold cap; omega)]
      unfold dL
      rw [List.map_append, List.map_map]
      rfl
    have hso := sorted_leads (l := leads.map (fun q => (q.1, lessAt p q.2 (ledRow p (reduce p leads r)) j)) ++ [(j, ledRow p (reduce p leads r))]) (by simp; omega)
    simp [f_with_row, hev, hpl, hw, dWith, optN, hle, hcm, hadd, hso]
end
end Dry
set_option Elab.async false
set_option linter.all false
set_option maxRecDepth 100000
set_option maxHeartbeats 4000000
set_option autoImplicit false
/-! DryX: what the defs compute: grids. -/
namespace Dry
open PySem PySem.Spec PyProof.Rows L2
/-- rows of digits, w wide -/
abbrev Gr (p w : Nat) (g : List (List Int)) : Prop := ∀ r ∈ g, Rw p w r
def isSpanned (p : Nat) (rows : List (List Int)) (r : List Int) : Bool := (withRow p (leadsOf p rows) r).2
theorem loopF_foldI {α β : Type} {F : D → Env' → Tin → SR} {enc : α → D} {t : Tin} (Rel : Nat → β → Env' → Prop) (step : β → α → β) : ∀ (xs : List α) (i : Nat) (b : β) (ρ : Env'), (∀ j b x ρ, i ≤ j → j < i + xs.length → x ∈ xs → Rel j b ρ → ∃ ρ', F (enc x) ρ t = .nx ρ' t ∧ Rel (j + 1) (step b x) ρ') → Rel i b ρ →
    ∃ ρ', loopF F (xs.map enc) ρ t = .nx ρ' t ∧ Rel (i + xs.length) (xs.foldl step b) ρ'
  | [], i, b, ρ, _, r => ⟨ρ, rfl, r⟩
  | x :: xs, i, b, ρ, h, r => by
    obtain ⟨ρ1, h1, r1⟩ := h i b x ρ (Nat.le_refl _) (by simp) (List.mem_cons_self ..) r
    obtain ⟨ρ2, h2, r2⟩ := loopF_foldI Rel step xs (i + 1) (step b x) ρ1 (fun j b y ρ hj hj2 hy => h j b y ρ (by omega) (by simp; omega) (List.mem_cons_of_mem _ hy)) r1
    refine ⟨ρ2, ?_, ?_⟩
    · show (match F (enc x) ρ t with
        | .nx ρ' t' => loopF F (xs.map enc) ρ' t'
        | r => r) = _
      rw [h1]
      exact h2
    · have e : i + (x :: xs).length = i + 1 + xs.length := by simp; omega
      rw [e]
      exact r2
section
variable {k : Nat} {t : Tin} {p w : Nat}
theorem Ld.withRow {leads : List Lead} {r : List Int} (hp : Pr p) (hr : Rw p w r) (hl : ∀ q ∈ leads, Ld p w q) : ∀ q ∈ (withRow p leads r).1, Ld p w q := by
  unfold Dry.withRow
  have hb := Rw.reduce (leads := leads) hp hr hl
  cases hz : placeLed (reduce p leads r) with
  | none => exact hl
  | some j =>
    obtain ⟨s1, s2⟩ := placeLed_spec hz
    rw [hb.len] at s1
    intro q hq
    rw [(sortL_perm _).mem_iff] at hq
    rcases List.mem_append.mp hq with hq | hq
    · obtain ⟨q', hq', rfl⟩ := List.mem_map.mp hq
      exact ⟨(hl q' hq').lt, .lessAt hp.pos (hl q' hq').rw.len (Rw.led hp hb).len _⟩
    · rw [List.mem_singleton.mp hq]
      exact ⟨s1, .led hp hb⟩
theorem withRow_len {leads : List Lead} {r : List Int} : (withRow p leads r).1.length ≤ leads.length + 1 := by
  unfold withRow
  cases placeLed (reduce p leads r) with
  | none => exact Nat.le_succ _
  | some j =>
    show (sortL _).length ≤ _
    rw [(sortL_perm _).length_eq, List.length_append, List.length_map]
    exact Nat.le_refl _
theorem foldLeads {rows : List (List Int)} (hp : Pr p) : ∀ {l : List Lead}, Gr p w rows → (∀ q ∈ l, Ld p w q) → (∀ q ∈ rows.foldl (fun l r => (withRow p l r).1) l, Ld p w q) ∧ (rows.foldl (fun l r => (withRow p l r).1) l).length ≤ l.length + rows.length := by
  induction rows with
  | nil => exact fun _ h => ⟨h, Nat.le_refl _⟩
  | cons r rows ih =>
    intro l hg hl
    obtain ⟨h1, h2⟩ := ih (fun r' hr' => hg r' (List.mem_cons_of_mem _ hr')) (Ld.withRow hp (hg r (List.mem_cons_self ..)) hl)
    refine ⟨h1, Nat.le_trans h2 ?_⟩
    have := withRow_len (p := p) (leads := l) (r := r)
    rw [List.length_cons]
    omega
theorem Ld.leadsOf {rows : List (List Int)} (hp : Pr p) (hg : Gr p w rows) : ∀ q ∈ leadsOf p rows, Ld p w q := (foldLeads hp hg (l := []) (fun q h => by cases h)).1
theorem leadsOf_len {rows : List (List Int)} (hp : Pr p) (hg : Gr p w rows) : (leadsOf p rows).length ≤ rows.length := by
  have := (foldLeads hp hg (l := []) (fun q h => by cases h)).2
  rw [List.length_nil, Nat.zero_add] at this
  exact this
theorem e_leads_of {rows : List (List Int)} {d : D} (hp : Pr p) (hg : Gr p w rows) (hc : w ≤ cap) (hn : rows.length < 500) (hd : dItems d = some (rows.map dRow)) : call (k + 5) "leads_of" [nat p, d] t = .ok (dL ld (leadsOf p rows)) t := by
  rw [call_of of_leads_of rfl]
  refine callF_ret ?_
  show exs _ f_leads_of [some (.dat (nat p)), some (.dat d), none, none, none] t = _
  have hlp := loopF_foldI (F := bodyF (Γs (k + 4)) true [3] (.cons (.asg false [2, 4] (.call "with_row" (.cons (.var 0) (.cons (.var 2) (.cons (.var 3) .nil))))) .nil)) (enc := dRow) (t := t)
    (fun i (b : List Lead) ρ => (∀ q ∈ b, Ld p w q) ∧ b.length ≤ i ∧ ∃ x y, ρ = [some (.dat (nat p)), some (.dat d), some (.dat (dL ld b)), x, y]) (fun b r => (withRow p b r).1) rows 0 []
    [some (.dat (nat p)), some (.dat d), some (.dat (dL ld [])), none, none]
    (fun i b r ρ _ hi hr hR => by
      obtain ⟨hb, hbl, x, y, rfl⟩ := hR
      have hbd : bindT true [3] (dRow r) [some (.dat (nat p)), some (.dat d), some (.dat (dL ld b)), x, y] = some [some (.dat (nat p)), some (.dat d), some (.dat (dL ld b)), some (.dat (dRow r)), y] := rfl
      have hr' := hg r hr
      refine ⟨[some (.dat (nat p)), some (.dat d), some (.dat (dL ld (withRow p b r).1)), some (.dat (dRow r)), some (.dat (.bl (withRow p b r).2))], ?_, Ld.withRow hp hr' hb, Nat.le_trans withRow_len (Nat.succ_le_succ hbl), _, _, rfl⟩
      rw [bodyF_some hbd]
      have hw := e_with_row (k := k) (t := t) hp hr' hb hc (by omega)
      simp [hw, dWith]) ⟨fun q h => (by cases h), Nat.le_refl _, none, none, rfl⟩
  obtain ⟨ρ', hl1, _, _, x, y, rfl⟩ := hlp
  have hev := ex_loop (Γ := Γs (k + 4)) (it := .seq (.var 1)) (s := true) (tg := [3]) (body := .cons (.asg false [2, 4] (.call "with_row" (.cons (.var 0) (.cons (.var 2) (.cons (.var 3) .nil))))) .nil)
    (ρ := [some (.dat (nat p)), some (.dat d), some (.dat (dL ld [])), none, none]) (t := t) (t1 := t) (items := rows.map dRow) (by simp [hd])
  rw [hl1] at hev
  have he : (.lst [] : D) = dL ld [] := rfl
  have hfo : rows.foldl (fun b r => (withRow p b r).1) [] = leadsOf p rows := rfl
  rw [hfo] at hev
  simp [f_leads_of, he, hev]
/-- all rows are as wide as they should be -/
theorem e_fit_rows {rows : List (List Int)} {d : D} (hg : ∀ r ∈ rows, r.length = w) (hn : rows.length ≤ cap) (hd : dItems d = some (rows.map dRow)) : call (k + 1) "fit_rows" [nat w, d] t = .ok .non t := by
  rw [call_of of_fit_rows rfl]
  have hcm := ev_comp (Γ := Γs k) (it := .seq (.var 1)) (s := true) (tg := [2]) (vs := [2]) (e := .two .eq (.fn .len (.cons (.var 2) .nil)) (.var 0)) (t1 := t)
    (ρ := [some (.dat (nat w)), some (.dat d), none]) (t := t) rows dRow (fun r => .bl true) (by simp [hd]) hn (fun r hr => ⟨_, rfl, by
      have he : dEq (.int (r.length : Int)) (nat w) = some (.bl true) := by
        rw [hg r hr]
        exact dEq_int.trans (by simp)
      simp [he]⟩)
  refine callF_nx (ρ := [some (.dat (nat w)), some (.dat d), none]) ?_
  show exs _ f_fit_rows [some (.dat (nat w)), some (.dat d), none] t = _
  have ha : dAll [dL (fun (r : List Int) => D.bl true) rows] = some (.bl true) := by
    have e : dL (fun (r : List Int) => D.bl true) rows = dL .bl (rows.map fun _ => true) := dL_map.symm
    rw [e, all_L]
    simp
  simp [f_fit_rows, hcm, ha]
theorem e_fit_both {rows : List (List Int)} {r : List Int} {d : D} (hg : ∀ r ∈ rows, r.length = w) (hr : r.length = w) (hn : rows.length ≤ cap) (hd : dItems d = some (rows.map dRow)) : call (k + 2) "fit_both" [nat w, d, dRow r] t = .ok .non t := by
  rw [call_of of_fit_both rfl]
  refine callF_nx (ρ := [some (.dat (nat w)), some (.dat d), some (.dat (dRow r))]) ?_
  show exs _ f_fit_both [some (.dat (nat w)), some (.dat d), some (.dat (dRow r))] t = _
  have h1 : call (k + 1) "fit_rows" [nat w, d] t = .ok .non t := e_fit_rows hg hn hd
  have h2 : call (k + 1) "fit_rows" [nat w, .tup [dRow r]] t = .ok .non t := e_fit_rows (rows := [r]) (fun r' h => by rw [List.mem_singleton.mp h]; exact hr) (show 1 ≤ cap by decide) rfl
  simp [f_fit_both, h1, h2]
theorem e_is_spanned {rows : List (List Int)} {r : List Int} {d : D} (hp : Pr p) (hg : Gr p w rows) (hr : Rw p w r) (hc : w ≤ cap) (hn : rows.length < 500) (hd : d = dGrid rows ∨ d = dL dRow rows) : call (k + 6) "is_spanned" [nat p, nat w, d, dRow r] t = .ok (.bl (isSpanned p rows r)) t := by
  rw [call_of of_is_spanned rfl]
  refine callF_ret ?_
  show exs _ f_is_spanned [some (.dat (nat p)), some (.dat (nat w)), some (.dat d), some (.dat (dRow r))] t = _
  have hdi : dItems d = some (rows.map dRow) := by rcases hd with rfl | rfl <;> rfl
  have hnc : rows.length ≤ cap := Nat.le_trans (Nat.le_of_lt hn) (by decide)
  have h1 : call (k + 5) "fit_both" [nat w, d, dRow r] t = .ok .non t := e_fit_both (k := k + 3) (fun r h => (hg r h).len) hr.len hnc hdi
  have h2 : call (k + 5) "tupled" [d] t = .ok (dGrid rows) t := by
    rcases hd with rfl | rfl
    · exact e_tup_grid (k := k + 2) hnc fun r h => by rw [(hg r h).len]; exact hc
    · exact e_tup_gridL (k := k + 2) hnc fun r h => by rw [(hg r h).len]; exact hc
  have h3 : call (k + 5) "tupled" [dRow r] t = .ok (dRow r) t := e_tup_row (k := k + 3) (by rw [hr.len]; exact hc)
  have h4 : call (k + 5) "leads_of" [nat p, dGrid rows] t = .ok (dL ld (leadsOf p rows)) t := e_leads_of hp hg hc hn rfl
  have h5 : call (k + 5) "with_row" [nat p, dL ld (leadsOf p rows), dRow r] t = .ok (dWith (withRow p (leadsOf p rows) r)) t := e_with_row (k := k + 1) hp hr (.leadsOf hp hg) hc (by have := leadsOf_len hp hg; omega)
  have h6 : ixD (dWith (withRow p (leadsOf p rows) r)) (.int 1) t = some (.bl (isSpanned p rows r)) := rfl
  simp [f_is_spanned, h1, h2, h3, h4, h5, h6]
theorem e_lead_places {rows : List (List Int)} {d : D} (hp : Pr p) (hg : Gr p w rows) (hc : w ≤ cap) (hn : rows.length < 500) (hd : d = dGrid rows ∨ d = dL dRow rows) : call (k + 6) "lead_places" [nat p, nat w, d] t = .ok (dT (fun q => nat q.1) (leadsOf p rows)) t := by
  rw [call_of of_lead_places rfl]
  refine callF_ret ?_
  show exs _ f_lead_places [some (.dat (nat p)), some (.dat (nat w)), some (.dat d), none, none] t = _
  have hdi : dItems d = some (rows.map dRow) := by rcases hd with rfl | rfl <;> rfl
  have hnc : rows.length ≤ cap := Nat.le_trans (Nat.le_of_lt hn) (by decide)
  have h1 : call (k + 5) "fit_rows" [nat w, d] t = .ok .non t := e_fit_rows (k := k + 4) (fun r h => (hg r h).len) hnc hdi
  have h2 : call (k + 5) "tupled" [d] t = .ok (dGrid rows) t := by
    rcases hd with rfl | rfl
    · exact e_tup_grid (k := k + 2) hnc fun r h => by rw [(hg r h).len]; exact hc
    · exact e_tup_gridL (k := k + 2) hnc fun r h => by rw [(hg r h).len]; exact hc
  have h4 : call (k + 5) "leads_of" [nat p, dGrid rows] t = .ok (dL ld (leadsOf p rows)) t := e_leads_of hp hg hc hn rfl
  have hcm := ev_comp (Γ := Γs (k + 5)) (it := .seq (.call "leads_of" (.cons (.var 0) (.cons (.call "tupled" (.cons (.var 2) .nil)) .nil)))) (s := false) (tg := [3, 4]) (vs := [3, 4]) (e := .var 3) (t1 := t)
    (ρ := [some (.dat (nat p)), some (.dat (nat w)), some (.dat d), none, none]) (t := t) (leadsOf p rows) ld (fun q => nat q.1) (by simp [h2, h4]) (Nat.le_trans (leadsOf_len hp hg) hnc) (fun q hq => ⟨_, rfl, by simp⟩)
  simp [f_lead_places, h1, hcm]
theorem e_grid_rank {rows : List (List Int)} {d : D} (hp : Pr p) (hg : Gr p w rows) (hc : w ≤ cap) (hn : rows.length < 500) (hd : d = dGrid rows ∨ d = dL dRow rows) : call (k + 7) "grid_rank" [nat p, nat w, d] t = .ok (nat (leadsOf p rows).length) t := by
  rw [call_of of_grid_rank rfl]
  refine callF_ret ?_
  show exs _ f_grid_rank [some (.dat (nat p)), some (.dat (nat w)), some (.dat d)] t = _
  simp [f_grid_rank, e_lead_places (k := k) (t := t) hp hg hc hn hd]
  rfl
end
end Dry
set_option Elab.async false
set_option linter.all false
set_option maxRecDepth 100000
set_option maxHeartbeats 4000000
set_option autoImplicit false
/-! DryY: what the defs compute: multiples. -/
namespace Dry
open PySem PySem.Spec PyProof.Rows L2
section
variable {Γ : Gam} {ρ : Env'} {t : Tin} {e k : Ex} {i j : Nat} {a b : Oe}
@[simp] theorem S.app : ex Γ (.app i e) ρ t = (ownAt ρ i t).toS fun ds t => (ev Γ e ρ t).toS fun d t => if ds.length < cap then .nx (ρ.set i (some (.own (ds ++ [d])))) t else .bad := (rfl)
@[simp] theorem S.ownAt' : ownAt ρ i t = match ρ[i]? with
  | some (some (.own ds)) => .ok ds t
  | _ => .bad := (rfl)
@[simp] theorem S.one : ex Γ (.one i a) ρ t = (evO Γ a ρ t).toS fun u t => if ρ.length ≤ i then .bad else .nx (ρ.set i (some u)) t := (rfl)
@[simp] theorem S.par : ex Γ (.par i j a b) ρ t = (evO Γ a ρ t).toS fun u t => (evO Γ b ρ t).toS fun w t => if i = j ∨ ρ.length ≤ i ∨ ρ.length ≤ j then .bad else .nx ((ρ.set i (some u)).set j (some w)) t := (rfl)
@[simp] theorem S.odat : evO Γ (.dat e) ρ t = (ev Γ e ρ t).bind fun d t => .ok (.dat d) t := (rfl)
@[simp] theorem S.onew : evO Γ .new ρ t = .ok (.own []) t := (rfl)
@[simp] theorem S.olist : evO Γ (.list e) ρ t = (ev Γ e ρ t).bind fun d t => (ofO (dItems d) t).bind fun xs t => .ok (.own xs) t := (rfl)
@[simp] theorem S.retO : ex Γ (.retO i) ρ t = (ownAt ρ i t).toS fun ds t => .ret (.lst ds) t := (rfl)
@[simp] theorem S.otup : ev Γ (.otup i) ρ t = match ρ[i]? with
  | some (some (.own ds)) => .ok (.tup ds) t
  | _ => .bad := (rfl)
@[simp] theorem S.olen : ev Γ (.olen i) ρ t = match ρ[i]? with
  | some (some (.own ds)) => .ok (.int ds.length) t
  | _ => .bad := (rfl)
@[simp] theorem S.oset : ex Γ (.oset i k e) ρ t = (ev Γ e ρ t).toS fun d t => (ownAt ρ i t).toS fun ds t => (asI (ev Γ k ρ t)).toS fun k t => (ofO (ixN ds.length k) t).toS fun j t => .nx (ρ.set i (some (.own (ds.set j d)))) t := (rfl)
end
/-- the sum of multiples -/
def combo (p w : Nat) (rows : List (List Int)) (ds : List Int) : List Int := (rows.zip ds).foldl (fun f q => rowSum p f (rowTimes p q.2 q.1)) (zeroRow w)
theorem Rw.sum {p w : Nat} {a b : List Int} (hp : 0 < p) (ha : a.length = w) (hb : b.length = w) : Rw p w (rowSum p a b) := by
  refine ⟨?_, fun x hx => ?_⟩
  · unfold rowSum
    rw [List.length_map, List.length_zip, ha, hb, Nat.min_self]
  · obtain ⟨q, _, rfl⟩ := List.mem_map.mp hx
    exact fmod_dig hp _
theorem Rw.zero {p w : Nat} (hp : 0 < p) : Rw p w (zeroRow w) := ⟨List.length_replicate, fun x hx => by
  have := (List.mem_replicate.mp hx).2
  omega⟩
section
variable {k : Nat} {t : Tin} {p w : Nat}
theorem e_sum_of_multiples {rows : List (List Int)} {ds : List Int} (hp : Pr p) (hg : ∀ r ∈ rows, r.length = w) (hw : w ≤ 1000) (hl : rows.length = ds.length) (hd : ∀ x ∈ ds, smallI x) :
    call (k + 3) "sum_of_multiples" [nat p, nat w, dGrid rows, dRow ds] t = .ok (dRow (combo p w rows ds)) t := by
  rw [call_of of_sum_of_multiples rfl]
  refine callF_ret ?_
  show exs _ f_sum_of_multiples [some (.dat (nat p)), some (.dat (nat w)), some (.dat (dGrid rows)), some (.dat (dRow ds)), none, none, none] t = _
  have hp' : (p : Int) ≠ 0 := by
    have := hp.pos
    omega
  have hc : w ≤ cap := Nat.le_trans hw (by decide)
  have hz : call (k + 2) "zero_row" [nat w] t = .ok (dRow (zeroRow w)) t := e_zero_row hw
  have hlp1 := loopF_fold (F := bodyF (Γs (k + 2)) true [5] (.cons (.drop (.call "fit_lengths" (.cons (.var 4) (.cons (.var 5) .nil)))) .nil)) (enc := dRow) (t := t)
    (fun (b : Unit) ρ => ∃ x, ρ = [some (.dat (nat p)), some (.dat (nat w)), some (.dat (dGrid rows)), some (.dat (dRow ds)), some (.dat (dRow (zeroRow w))), x, none]) (fun b r => ()) rows ()
    [some (.dat (nat p)), some (.dat (nat w)), some (.dat (dGrid rows)), some (.dat (dRow ds)), some (.dat (dRow (zeroRow w))), none, none]
    (fun b r ρ hr hR => by
      obtain ⟨x, rfl⟩ := hR
      have hbd : bindT true [5] (dRow r) [some (.dat (nat p)), some (.dat (nat w)), some (.dat (dGrid rows)), some (.dat (dRow ds)), some (.dat (dRow (zeroRow w))), x, none] =
        some [some (.dat (nat p)), some (.dat (nat w)), some (.dat (dGrid rows)), some (.dat (dRow ds)), some (.dat (dRow (zeroRow w))), some (.dat (dRow r)), none] := rfl
      refine ⟨[some (.dat (nat p)), some (.dat (nat w)), some (.dat (dGrid rows)), some (.dat (dRow ds)), some (.dat (dRow (zeroRow w))), some (.dat (dRow r)), none], ?_, _, rfl⟩
      rw [bodyF_some hbd]
      have h1 : call (k + 2) "fit_lengths" [dRow (zeroRow w), dRow r] t = .ok .non t := e_fit_lengths (by rw [hg r hr, zeroRow, List.length_replicate])
      simp [h1]) ⟨none, rfl⟩
  obtain ⟨ρ1, hl1, x, rfl⟩ := hlp1
  have hev1 := ex_loop (Γ := Γs (k + 2)) (it := .seq (.var 2)) (s := true) (tg := [5]) (body := .cons (.drop (.call "fit_lengths" (.cons (.var 4) (.cons (.var 5) .nil)))) .nil)
    (ρ := [some (.dat (nat p)), some (.dat (nat w)), some (.dat (dGrid rows)), some (.dat (dRow ds)), some (.dat (dRow (zeroRow w))), none, none]) (t := t) (t1 := t) (items := rows.map dRow) (by simp)
  rw [hl1] at hev1
  have hf : call (k + 2) "fit_lengths" [dGrid rows, dRow ds] t = .ok .non t := e_fit_lengths hl
  have hlp2 := loopF_fold (F := bodyF (Γs (k + 2)) false [5, 6] (.cons (.asg true [4] (.call "row_sum" (.cons (.var 0) (.cons (.var 4) (.cons (.call "row_times" (.cons (.var 0) (.cons (.var 6) (.cons (.var 5) .nil)))) .nil))))) .nil)) (enc := pD dRow .int) (t := t)
    (fun (b : List Int) ρ => b.length = w ∧ ∃ x y, ρ = [some (.dat (nat p)), some (.dat (nat w)), some (.dat (dGrid rows)), some (.dat (dRow ds)), some (.dat (dRow b)), x, y]) (fun f q => rowSum p f (rowTimes p q.2 q.1)) (rows.zip ds) (zeroRow w)
    [some (.dat (nat p)), some (.dat (nat w)), some (.dat (dGrid rows)), some (.dat (dRow ds)), some (.dat (dRow (zeroRow w))), x, none]
    (fun b q ρ hq hR => by
      obtain ⟨hb, x, y, rfl⟩ := hR
      obtain ⟨m1, m2⟩ := List.of_mem_zip (show (q.1, q.2) ∈ rows.zip ds from hq)
      have hbd : bindT false [5, 6] (pD dRow .int q) [some (.dat (nat p)), some (.dat (nat w)), some (.dat (dGrid rows)), some (.dat (dRow ds)), some (.dat (dRow b)), x, y] =
        some [some (.dat (nat p)), some (.dat (nat w)), some (.dat (dGrid rows)), some (.dat (dRow ds)), some (.dat (dRow b)), some (.dat (dRow q.1)), some (.dat (.int q.2))] := rfl
      have ht := Rw.times (p := p) (g := q.2) hp.pos (hg q.1 m1)
      refine ⟨[some (.dat (nat p)), some (.dat (nat w)), some (.dat (dGrid rows)), some (.dat (dRow ds)), some (.dat (dRow (rowSum p b (rowTimes p q.2 q.1)))), some (.dat (dRow q.1)), some (.dat (.int q.2))], ?_, (Rw.sum hp.pos hb ht.len).len, _, _, rfl⟩
      rw [bodyF_some hbd]
      have h1 : call (k + 2) "row_times" [nat p, .int q.2, dRow q.1] t = .ok (dRow (rowTimes p q.2 q.1)) t := e_row_times hp' (hd q.2 m2) (by rw [hg q.1 m1]; exact hc)
      have h2 : call (k + 2) "row_sum" [nat p, dRow b, dRow (rowTimes p q.2 q.1)] t = .ok (dRow (rowSum p b (rowTimes p q.2 q.1))) t := e_row_sum hp' (by rw [hb, ht.len]) (by rw [hb]; exact hc)
      simp [h1, h2]) ⟨List.length_replicate, x, none, rfl⟩
  obtain ⟨ρ2, hl2, _, x2, y2, rfl⟩ := hlp2
  have hev2 := ex_loop (Γ := Γs (k + 2)) (it := .fn .zip (.cons (.var 2) (.cons (.var 3) .nil))) (s := false) (tg := [5, 6]) (body := .cons (.asg true [4] (.call "row_sum" (.cons (.var 0) (.cons (.var 4) (.cons (.call "row_times" (.cons (.var 0) (.cons (.var 6) (.cons (.var 5) .nil)))) .nil))))) .nil)
    (ρ := [some (.dat (nat p)), some (.dat (nat w)), some (.dat (dGrid rows)), some (.dat (dRow ds)), some (.dat (dRow (zeroRow w))), x, none]) (t := t) (t1 := t) (items := (rows.zip ds).map (pD dRow .int)) (by simp)
  rw [hl2] at hev2
  simp [f_sum_of_multiples, hz, hev1, hf, hev2, combo]
/-- the columns as rows -/
def turned (w : Nat) (rows : List (List Int)) : List (List Int) := (List.range w).map fun j => rows.map fun r => at0 r j
theorem e_turned_grid {rows : List (List Int)} (hg : ∀ r ∈ rows, r.length = w) (hw : w ≤ 1000) (hn : rows.length ≤ cap) : call (k + 2) "turned_grid" [nat p, nat w, dGrid rows] t = .ok (dGrid (turned w rows)) t := by
  rw [call_of of_turned_grid rfl]
  refine callF_ret ?_
  show exs _ f_turned_grid [some (.dat (nat p)), some (.dat (nat w)), some (.dat (dGrid rows)), none, none] t = _
  have h1 : call (k + 1) "fit_rows" [nat w, dGrid rows] t = .ok .non t := e_fit_rows hg hn rfl
  have hcm := ev_comp (Γ := Γs (k + 1)) (it := .fn .rng1 (.cons (.var 1) .nil)) (s := true) (tg := [4]) (vs := [4]) (e := .fn .tuple (.cons (.comp (.seq (.var 2)) true [3] [3] (.ix (.var 3) (.var 4))) .nil)) (t1 := t)
    (ρ := [some (.dat (nat p)), some (.dat (nat w)), some (.dat (dGrid rows)), none, none]) (t := t) (List.range w) nat (fun j => dRow (rows.map fun r => at0 r j)) (by simp [nat, rng1 (show w ≤ 1000000 by omega)]) (by rw [List.length_range]; exact Nat.le_trans hw (by decide))
    (fun j hj => ⟨[some (.dat (nat p)), some (.dat (nat w)), some (.dat (dGrid rows)), none, some (.dat (nat j))], rfl, by
      have hj' := List.mem_range.mp hj
      have hcm2 := ev_comp (Γ := Γs (k + 1)) (it := .seq (.var 2)) (s := true) (tg := [3]) (vs := [3]) (e := .ix (.var 3) (.var 4)) (t1 := t)
        (ρ := [some (.dat (nat p)), some (.dat (nat w)), some (.dat (dGrid rows)), none, some (.dat (nat j))]) (t := t) rows dRow (fun r => .int (at0 r j)) (by simp) hn
        (fun r hr => ⟨_, rfl, by
          have hx : ixD (dRow r) (nat j) t = some (.int (at0 r j)) := ix_T (i := (j : Int)) rfl (get_some (by rw [hg r hr]; exact hj'))
          simp [hx]⟩)
      simp [hcm2, dT_map]⟩)
  simp [f_turned_grid, h1, hcm, turned, dT_map]
end
end Dry
set_option Elab.async false
set_option linter.all false
set_option maxRecDepth 100000
set_option maxHeartbeats 4000000
set_option autoImplicit false
/-! DryY2: what the defs compute: fresh rows, multiples. -/
namespace Dry
open PySem PySem.Spec PyProof.Rows L2
def freshStep (p : Nat) (b : List Lead × List Nat) (q : Nat × List Int) : List Lead × List Nat := ((withRow p b.1 q.2).1, if (withRow p b.1 q.2).2 = true then b.2 else b.2 ++ [q.1])
def freshIn (p : Nat) (rows : List (List Int)) : List Nat := (((List.range rows.length).zip rows).foldl (freshStep p) ([], [])).2
section
variable {k : Nat} {t : Tin} {p w : Nat}
theorem e_fresh_in {rows : List (List Int)} (hp : Pr p) (hg : Gr p w rows) (hc : w ≤ cap) (hn : rows.length < 500) : call (k + 5) "fresh_in" [nat p, dGrid rows] t = .ok (dL nat (freshIn p rows)) t := by
  rw [call_of of_fresh_in rfl]
  refine callF_ret ?_
  show exs _ f_fresh_in [some (.dat (nat p)), some (.dat (dGrid rows)), none, none, none, none, none] t = _
  have hlen : ((List.range rows.length).zip rows).length = rows.length := by rw [List.length_zip, List.length_range, Nat.min_self]
  have hlp := loopF_foldI (F := bodyF (Γs (k + 4)) false [4, 5] (.cons (.asg false [2, 6] (.call "with_row" (.cons (.var 0) (.cons (.var 2) (.cons (.var 5) .nil))))) (.cons (.ife (.not_ (.var 6)) (.cons (.app 3 (.var 4)) .nil) .nil) .nil))) (enc := pD nat dRow) (t := t)
    (fun i (b : List Lead × List Nat) ρ => (∀ q ∈ b.1, Ld p w q) ∧ b.1.length ≤ i ∧ b.2.length ≤ i ∧ ∃ x y z, ρ = [some (.dat (nat p)), some (.dat (dGrid rows)), some (.dat (dL ld b.1)), some (.own (b.2.map nat)), x, y, z]) (freshStep p) ((List.range rows.length).zip rows) 0 ([], [])
    [some (.dat (nat p)), some (.dat (dGrid rows)), some (.dat (dL ld [])), some (.own []), none, none, none]
    (fun i b q ρ _ hi hq hR => by
      obtain ⟨hb, hbl, hbl2, x, y, z, rfl⟩ := hR
      have hm : q.2 ∈ rows := (List.of_mem_zip (show (q.1, q.2) ∈ (List.range rows.length).zip rows from hq)).2
      have hbd : bindT false [4, 5] (pD nat dRow q) [some (.dat (nat p)), some (.dat (dGrid rows)), some (.dat (dL ld b.1)), some (.own (b.2.map nat)), x, y, z] =
        some [some (.dat (nat p)), some (.dat (dGrid rows)), some (.dat (dL ld b.1)), some (.own (b.2.map nat)), some (.dat (nat q.1)), some (.dat (dRow q.2)), z] := rfl
      have hw := e_with_row (k := k) (t := t) hp (hg q.2 hm) hb hc (by omega)
      have hcl : (b.2.map nat).length < cap := by
        rw [List.length_map]
        unfold cap
        omega
      cases hs : (withRow p b.1 q.2).2 with
      | true =>
        refine ⟨[some (.dat (nat p)), some (.dat (dGrid rows)), some (.dat (dL ld (withRow p b.1 q.2).1)), some (.own (b.2.map nat)), some (.dat (nat q.1)), some (.dat (dRow q.2)), some (.dat (.bl true))], ?_, Ld.withRow hp (hg q.2 hm) hb, Nat.le_trans withRow_len (Nat.succ_le_succ hbl), ?_, some (.dat (nat q.1)), some (.dat (dRow q.2)), some (.dat (.bl true)), ?_⟩
        · rw [bodyF_some hbd]
          simp [hw, dWith, hs]
        · unfold freshStep
          rw [if_pos hs]
          exact Nat.le_succ_of_le hbl2
        · unfold freshStep
          rw [if_pos hs]
      | false =>
        refine ⟨[some (.dat (nat p)), some (.dat (dGrid rows)), some (.dat (dL ld (withRow p b.1 q.2).1)), some (.own (b.2.map nat ++ [nat q.1])), some (.dat (nat q.1)), some (.dat (dRow q.2)), some (.dat (.bl false))], ?_, Ld.withRow hp (hg q.2 hm) hb, Nat.le_trans withRow_len (Nat.succ_le_succ hbl), ?_, some (.dat (nat q.1)), some (.dat (dRow q.2)), some (.dat (.bl false)), ?_⟩
        · rw [bodyF_some hbd]
          have hcl' : b.2.length < cap := by rw [List.length_map] at hcl; exact hcl
          simp [hw, dWith, hs, hcl']
        · unfold freshStep
          rw [if_neg (by rw [hs]; exact Bool.false_ne_true), List.length_append]
          exact Nat.succ_le_succ hbl2
        · unfold freshStep
          rw [if_neg (by rw [hs]; exact Bool.false_ne_true), List.map_append]
          rfl) ⟨fun q h => (by cases h), Nat.le_refl _, Nat.le_refl _, none, none, none, rfl⟩
  obtain ⟨ρ', hl1, _, _, _, x, y, z, rfl⟩ := hlp
  have hev := ex_loop (Γ := Γs (k + 4)) (it := .fn .enum (.cons (.var 1) .nil)) (s := false) (tg := [4, 5]) (body := .cons (.asg false [2, 6] (.call "with_row" (.cons (.var 0) (.cons (.var 2) (.cons (.var 5) .nil))))) (.cons (.ife (.not_ (.var 6)) (.cons (.app 3 (.var 4)) .nil) .nil) .nil))
    (ρ := [some (.dat (nat p)), some (.dat (dGrid rows)), some (.dat (dL ld [])), some (.own []), none, none, none]) (t := t) (t1 := t) (items := ((List.range rows.length).zip rows).map (pD nat dRow)) (by simp)
  rw [hl1] at hev
  have he : (.lst [] : D) = dL ld [] := rfl
  have hfi : (((List.range rows.length).zip rows).foldl (freshStep p) ([], [])).2 = freshIn p rows := rfl
  rw [hfi] at hev
  simp [f_fresh_in, he, hev]
  rfl
end
end Dry
set_option Elab.async false
set_option linter.all false
set_option maxRecDepth 100000
set_option maxHeartbeats 4000000
set_option autoImplicit false
/-! DryY3: what the defs compute: multiples. -/
namespace Dry
open PySem PySem.Spec PyProof.Rows L2
@[simp] theorem S.get3 {Γ : Gam} {ρ : Env'} {t : Tin} {a b c : Ex} : ev Γ (.get3 a b c) ρ t = (ev Γ a ρ t).bind fun d t => (isDct d t).bind fun d t => (ev Γ b ρ t).bind fun e t => (ev Γ c ρ t).bind fun f t => ofO (dGet3 [d, e, f]) t := (rfl)
@[simp] theorem S.dzip {Γ : Gam} {ρ : Env'} {t : Tin} {a b : Ex} : ev Γ (.dzip a b) ρ t = (ev Γ a ρ t).bind fun d t => (ev Γ b ρ t).bind fun e t => ofO (dZipD d e) t := (rfl)
/-- the wide rows: the kept rows, each with its unit row -/
def wideRows (rows : List (List Int)) (kept : List Nat) : List (List Int) := ((List.range kept.length).zip kept).map fun q => rows.getD q.2 [] ++ unitRow kept.length q.1
def leftOf (p w : Nat) (rows : List (List Int)) (r : List Int) : List Int := reduce p (leadsOf p (wideRows rows (freshIn p rows))) (r ++ zeroRow (freshIn p rows).length)
def toldOf (p w : Nat) (rows : List (List Int)) (r : List Int) : List Int := rowTimes p ((p : Int) - 1) ((leftOf p w rows r).drop w)
def multsIn (p w : Nat) (rows : List (List Int)) (r : List Int) : Option (List Int) := match placeLed ((leftOf p w rows r).take w) with
  | some _ => none
  | none => some ((List.range rows.length).map fun (i : Nat) => (((freshIn p rows).map fun (n : Nat) => (n : Int)).zip (toldOf p w rows r)).lookup (i : Int) |>.getD 0)
def optR : Option (List Int) → D
  | some r => dRow r
  | none => .non
section
variable {k : Nat} {t : Tin} {p w : Nat}
theorem cut_to {α : Type} {f : α → D} {xs : List α} {n : Nat} (h : n ≤ xs.length) : dCut none (some (n : Int)) (dT f xs) = some (dT f (xs.take n)) := by
  show some (D.tup (cutD (xs.map f) none (some (n : Int)))) = _
  unfold cutD
  rw [HT.sIx_none, HT.sIx_nat, List.drop_zero, List.length_map, Nat.min_eq_left h, Nat.sub_zero]
  unfold dT
  rw [List.map_take]
theorem cut_from {α : Type} {f : α → D} {xs : List α} {n : Nat} (h : n ≤ xs.length) : dCut (some (n : Int)) none (dT f xs) = some (dT f (xs.drop n)) := by
  show some (D.tup (cutD (xs.map f) (some (n : Int)) none)) = _
  unfold cutD
  rw [HT.sIx_none, HT.sIx_nat, List.length_map, Nat.min_eq_left h]
  unfold dT
  rw [List.map_drop, List.take_of_length_le (by rw [List.length_drop, List.length_map]; exact Nat.le_refl _)]
theorem fresh_sub {rows : List (List Int)} : ∀ n ∈ freshIn p rows, n < rows.length := by
  have go : ∀ (xs : List (Nat × List Int)) (b : List Lead × List Nat), (∀ q ∈ xs, q.1 < rows.length) → (∀ n ∈ b.2, n < rows.length) → ∀ n ∈ (xs.foldl (freshStep p) b).2, n < rows.length := by
    intro xs
    induction xs with
    | nil => exact fun b _ h => h
    | cons x xs ih =>
      intro b h1 h2
      refine ih _ (fun q hq => h1 q (List.mem_cons_of_mem _ hq)) fun n hn => ?_
      unfold freshStep at hn
      dsimp only at hn
      split at hn
      · exact h2 n hn
      · rcases List.mem_append.mp hn with hn | hn
        · exact h2 n hn
        · rw [List.mem_singleton.mp hn]
          exact h1 x (List.mem_cons_self ..)
  exact go _ _ (fun q hq => List.mem_range.mp (List.of_mem_zip (show (q.1, q.2) ∈ (List.range rows.length).zip rows from hq)).1) (fun n hn => by cases hn)
theorem fresh_list {rows : List (List Int)} : (freshIn p rows).Sublist (List.range rows.length) := by
  have go : ∀ (xs : List (Nat × List Int)) (b : List Lead × List Nat), ∃ l, l.Sublist (xs.map Prod.fst) ∧ (xs.foldl (freshStep p) b).2 = b.2 ++ l := by
    intro xs
    induction xs with
    | nil => exact fun b => ⟨[], .slnil, (List.append_nil _).symm⟩
    | cons x xs ih =>
      intro b
      obtain ⟨l, h1, h2⟩ := ih (freshStep p b x)
      show ∃ l, l.Sublist (x.1 :: xs.map Prod.fst) ∧ (xs.foldl (freshStep p) (freshStep p b x)).2 = b.2 ++ l
      rw [h2]
      unfold freshStep
      dsimp only
      split
      · exact ⟨l, h1.cons _, rfl⟩
      · exact ⟨x.1 :: l, h1.cons₂ _, by rw [List.append_assoc]; rfl⟩
  obtain ⟨l, h1, h2⟩ := go ((List.range rows.length).zip rows) ([], [])
  rw [List.map_fst_zip (by rw [List.length_range]; exact Nat.le_refl _)] at h1
  unfold freshIn
  rw [h2]
  exact h1
theorem fresh_nodup {rows : List (List Int)} : (freshIn p rows).Nodup := fresh_list.nodup List.nodup_range
theorem fresh_len {rows : List (List Int)} : (freshIn p rows).length ≤ rows.length := by
  have := (fresh_list (p := p) (rows := rows)).length_le
  rwa [List.length_range] at this
theorem Rw.append {v : Nat} {a b : List Int} (ha : Rw p w a) (hb : Rw p v b) : Rw p (w + v) (a ++ b) := ⟨by rw [List.length_append, ha.len, hb.len], fun x hx => by
  rcases List.mem_append.mp hx with h | h
  · exact ha.dig x h
  · exact hb.dig x h⟩
theorem Rw.unit {n j : Nat} (hp : Pr p) : Rw p n (unitRow n j) := by
  refine ⟨by unfold unitRow; rw [List.length_map, List.length_range], fun x hx => ?_⟩
  unfold unitRow at hx
  obtain ⟨o, _, rfl⟩ := List.mem_map.mp hx
  unfold Pr at hp
  split <;> omega
theorem wide_gr {rows : List (List Int)} (hp : Pr p) (hg : Gr p w rows) : Gr p (w + (freshIn p rows).length) (wideRows rows (freshIn p rows)) := by
  intro r hr
  unfold wideRows at hr
  obtain ⟨q, hq, rfl⟩ := List.mem_map.mp hr
  have hm := (List.of_mem_zip (show (q.1, q.2) ∈ (List.range (freshIn p rows).length).zip (freshIn p rows) from hq)).2
  have hl := fresh_sub _ hm
  refine .append (hg _ ?_) (.unit hp)
  rw [List.getD_eq_getElem?_getD, List.getElem?_eq_getElem hl]
  exact List.getElem_mem hl
theorem wide_len {rows : List (List Int)} {kept : List Nat} : (wideRows rows kept).length = kept.length := by
  unfold wideRows
  rw [List.length_map, List.length_zip, List.length_range, Nat.min_self]
theorem left_rw {rows : List (List Int)} {r : List Int} (hp : Pr p) (hg : Gr p w rows) (hr : Rw p w r) : Rw p (w + (freshIn p rows).length) (leftOf p w rows r) :=
  .reduce hp (.append hr (.zero hp.pos)) (.leadsOf hp (wide_gr hp hg))
theorem e_multiples_in {rows : List (List Int)} {r : List Int} (hp : Pr p) (hg : Gr p w rows) (hr : Rw p w r) (hw : w ≤ 400) (hn : rows.length ≤ 400) : call (k + 6) "multiples_in" [nat p, nat w, dGrid rows, dRow r] t = .ok (optR (multsIn p w rows r)) t := by
  rw [call_of of_multiples_in rfl]
  refine callF_ret ?_
  show exs _ f_multiples_in [some (.dat (nat p)), some (.dat (nat w)), some (.dat (dGrid rows)), some (.dat (dRow r)), none, none, none, none, none, none, none, none, none] t = _
  have hc : w ≤ cap := Nat.le_trans hw (by decide)
  have hp' : (p : Int) ≠ 0 := by
    have := hp.pos
    omega
  have hkl := fresh_len (p := p) (rows := rows)
  have hc2 : w + (freshIn p rows).length ≤ cap := Nat.le_trans (show _ ≤ 1000 by omega) (by decide)
  have h1 : call (k + 5) "fresh_in" [nat p, dGrid rows] t = .ok (dL nat (freshIn p rows)) t := e_fresh_in hp hg hc (by omega)
  have hwide := ev_comp (Γ := Γs (k + 5)) (it := .fn .enum (.cons (.var 4) .nil)) (s := false) (tg := [11, 12]) (vs := [11, 12]) (e := .two .add (.ix (.var 2) (.var 12)) (.call "unit_row" (.cons (.fn .len (.cons (.var 4) .nil)) (.cons (.var 11) .nil)))) (t1 := t)
    (ρ := [some (.dat (nat p)), some (.dat (nat w)), some (.dat (dGrid rows)), some (.dat (dRow r)), some (.dat (dL nat (freshIn p rows))), none, none, none, none, none, none, none, none]) (t := t) ((List.range (freshIn p rows).length).zip (freshIn p rows)) (pD nat nat)
    (fun q => dRow (rows.getD q.2 [] ++ unitRow (freshIn p rows).length q.1)) (by simp) (by rw [List.length_zip, List.length_range]; omega)
    (fun q hq => ⟨[some (.dat (nat p)), some (.dat (nat w)), some (.dat (dGrid rows)), some (.dat (dRow r)), some (.dat (dL nat (freshIn p rows))), none, none, none, none, none, none, some (.dat (nat q.1)), some (.dat (nat q.2))], rfl, by
      obtain ⟨m1, m2⟩ := List.of_mem_zip (show (q.1, q.2) ∈ (List.range (freshIn p rows).length).zip (freshIn p rows) from hq)
      have hl := fresh_sub _ m2
      have hgd : rows[q.2]? = some (rows.getD q.2 []) := by rw [List.getD_eq_getElem?_getD, List.getElem?_eq_getElem hl]; rfl
      have hx : ixD (dGrid rows) (nat q.2) t = some (dRow (rows.getD q.2 [])) := ix_T (i := (q.2 : Int)) rfl hgd
      have hu : call (k + 5) "unit_row" [.int (freshIn p rows).length, nat q.1] t = .ok (dRow (unitRow (freshIn p rows).length q.1)) t := e_unit_row (by omega) (List.mem_range.mp m1)
      have hln := (hg _ (List.mem_of_getElem? hgd)).len
      have ha : dAdd (dRow (rows.getD q.2 [])) (dRow (unitRow (freshIn p rows).length q.1)) = some (dRow (rows.getD q.2 [] ++ unitRow (freshIn p rows).length q.1)) := by
        show (if (List.map D.int _).length + (List.map D.int _).length ≤ cap then some (D.tup (List.map D.int _ ++ List.map D.int _)) else none) = _
        rw [if_pos (by rw [List.length_map, List.length_map, hln, (Rw.unit (p := p) hp).len]; exact hc2), ← List.map_append]
        rfl
      generalize rows.getD q.2 [] = rr at hx ha ⊢
      simp [hx, hu, ha]⟩)
  have hwe : dL (fun (q : Nat × Nat) => dRow (rows.getD q.2 [] ++ unitRow (freshIn p rows).length q.1)) ((List.range (freshIn p rows).length).zip (freshIn p rows)) = dL dRow (wideRows rows (freshIn p rows)) := dL_map.symm
  rw [hwe] at hwide
  have hz : call (k + 5) "zero_row" [.int (freshIn p rows).length] t = .ok (dRow (zeroRow (freshIn p rows).length)) t := e_zero_row (by omega)
  have hadd : dAdd (dRow r) (dRow (zeroRow (freshIn p rows).length)) = some (dRow (r ++ zeroRow (freshIn p rows).length)) := by
    show (if (List.map D.int _).length + (List.map D.int _).length ≤ cap then some (D.tup (List.map D.int _ ++ List.map D.int _)) else none) = _
    rw [if_pos (by rw [List.length_map, List.length_map, hr.len, (Rw.zero (w := (freshIn p rows).length) hp.pos).len]; exact hc2), ← List.map_append]
    rfl
  have hgw := wide_gr hp hg
  have hlo : call (k + 5) "leads_of" [nat p, dL dRow (wideRows rows (freshIn p rows))] t = .ok (dL ld (leadsOf p (wideRows rows (freshIn p rows)))) t := e_leads_of hp hgw hc2 (by rw [wide_len]; omega) rfl
  have hld := Ld.leadsOf hp hgw
  have hlp := loopF_fold (F := bodyF (Γs (k + 5)) false [7, 8] (.cons (.asg true [6] (.call "less_at" (.cons (.var 0) (.cons (.var 6) (.cons (.var 8) (.cons (.var 7) .nil)))))) .nil)) (enc := ld) (t := t)
    (fun (b : List Int) ρ => Rw p (w + (freshIn p rows).length) b ∧ ∃ x y, ρ = [some (.dat (nat p)), some (.dat (nat w)), some (.dat (dGrid rows)), some (.dat (dRow r)), some (.dat (dL nat (freshIn p rows))), some (.dat (dL dRow (wideRows rows (freshIn p rows)))), some (.dat (dRow b)), x, y, none, none, none, none]) (fun l q => lessAt p l q.2 q.1) (leadsOf p (wideRows rows (freshIn p rows))) (r ++ zeroRow (freshIn p rows).length)
    [some (.dat (nat p)), some (.dat (nat w)), some (.dat (dGrid rows)), some (.dat (dRow r)), some (.dat (dL nat (freshIn p rows))), some (.dat (dL dRow (wideRows rows (freshIn p rows)))), some (.dat (dRow (r ++ zeroRow (freshIn p rows).length))), none, none, none, none, none, none]
    (fun b q ρ hq hR => by
      obtain ⟨hb, x, y, rfl⟩ := hR
      have hbd : bindT false [7, 8] (ld q) [some (.dat (nat p)), some (.dat (nat w)), some (.dat (dGrid rows)), some (.dat (dRow r)), some (.dat (dL nat (freshIn p rows))), some (.dat (dL dRow (wideRows rows (freshIn p rows)))), some (.dat (dRow b)), x, y, none, none, none, none] =
        some [some (.dat (nat p)), some (.dat (nat w)), some (.dat (dGrid rows)), some (.dat (dRow r)), some (.dat (dL nat (freshIn p rows))), some (.dat (dL dRow (wideRows rows (freshIn p rows)))), some (.dat (dRow b)), some (.dat (nat q.1)), some (.dat (dRow q.2)), none, none, none, none] := rfl
      have hq' := hld q hq
      refine ⟨[some (.dat (nat p)), some (.dat (nat w)), some (.dat (dGrid rows)), some (.dat (dRow r)), some (.dat (dL nat (freshIn p rows))), some (.dat (dL dRow (wideRows rows (freshIn p rows)))), some (.dat (dRow (lessAt p b q.2 q.1))), some (.dat (nat q.1)), some (.dat (dRow q.2)), none, none, none, none], ?_, .lessAt hp.pos hb.len hq'.rw.len _, some (.dat (nat q.1)), some (.dat (dRow q.2)), rfl⟩
      rw [bodyF_some hbd]
      simp [e_less_at (k := k + 2) (t := t) hp hb hq'.rw hq'.lt hc2]) ⟨.append hr (.zero hp.pos), none, none, rfl⟩
  obtain ⟨ρ', hl1, hb, x, y, rfl⟩ := hlp
  have hred : (leadsOf p (wideRows rows (freshIn p rows))).foldl (fun l q => lessAt p l q.2 q.1) (r ++ zeroRow (freshIn p rows).length) = leftOf p w rows r := rfl
  rw [hred] at hl1 hb
  have hev := ex_loop (Γ := Γs (k + 5)) (it := .seq (.call "leads_of" (.cons (.var 0) (.cons (.var 5) .nil)))) (s := false) (tg := [7, 8]) (body := .cons (.asg true [6] (.call "less_at" (.cons (.var 0) (.cons (.var 6) (.cons (.var 8) (.cons (.var 7) .nil)))))) .nil)
    (ρ := [some (.dat (nat p)), some (.dat (nat w)), some (.dat (dGrid rows)), some (.dat (dRow r)), some (.dat (dL nat (freshIn p rows))), some (.dat (dL dRow (wideRows rows (freshIn p rows)))), some (.dat (dRow (r ++ zeroRow (freshIn p rows).length))), none, none, none, none, none, none]) (t := t) (t1 := t) (items := (leadsOf p (wideRows rows (freshIn p rows))).map ld) (by simp [hlo])
  rw [hl1] at hev
  have hct : dCut none (some (w : Int)) (dRow (leftOf p w rows r)) = some (dRow ((leftOf p w rows r).take w)) := cut_to (by rw [hb.len]; omega)
  have hcf : dCut (some (w : Int)) none (dRow (leftOf p w rows r)) = some (dRow ((leftOf p w rows r).drop w)) := cut_from (by rw [hb.len]; omega)
  have hwI : asI (.ok (nat w) t) = .ok (w : Int) t := rfl
  have hpl : call (k + 5) "place_led" [dRow ((leftOf p w rows r).take w)] t = .ok (optN (placeLed ((leftOf p w rows r).take w))) t := e_place_led
  cases hzz : placeLed ((leftOf p w rows r).take w) with
  | some j =>
    rw [hzz] at hpl
    have hm : multsIn p w rows r = none := by
      unfold multsIn
      rw [hzz]
    simp [f_multiples_in, h1, hwide, hz, hadd, hev, hwI, hct, hpl, hm, optN, optR]
  | none =>
    rw [hzz] at hpl
    have hm : multsIn p w rows r = some ((List.range rows.length).map fun (i : Nat) => (((freshIn p rows).map fun (n : Nat) => (n : Int)).zip (toldOf p w rows r)).lookup (i : Int) |>.getD 0) := by
      unfold multsIn
      rw [hzz]
    have hdl : ((leftOf p w rows r).drop w).length = (freshIn p rows).length := by
      rw [List.length_drop, hb.len]
      omega
    have hsub : dSub (nat p) (.int 1) = some (.int ((p : Int) - 1)) := rfl
    have hrt : call (k + 5) "row_times" [nat p, .int ((p : Int) - 1), dRow ((leftOf p w rows r).drop w)] t = .ok (dRow (toldOf p w rows r)) t := e_row_times hp' (by have := hp.le; unfold smallI; omega) (by rw [hdl]; omega)
    have htl : (toldOf p w rows r).length = (freshIn p rows).length := by
      unfold toldOf rowTimes
      rw [List.length_map, hdl]
    have hdz : dZipD (dL nat (freshIn p rows)) (dRow (toldOf p w rows r)) = some (.dct (((freshIn p rows).map fun (n : Nat) => (n : Int)).zip (toldOf p w rows r))) := by
      have e1 : dInts ((freshIn p rows).map nat) = some ((freshIn p rows).map fun (n : Nat) => (n : Int)) := by
        have e : (freshIn p rows).map nat = ((freshIn p rows).map fun (n : Nat) => (n : Int)).map D.int := by rw [List.map_map]; rfl
        rw [e, dInts_map]
      show (dInts ((freshIn p rows).map nat)).bind (fun ns => (dInts ((toldOf p w rows r).map D.int)).bind fun ms => _) = _
      rw [e1, dInts_map]
      show (if _ ∧ _ ∧ _ then _ else _) = _
      rw [if_pos]
      refine ⟨?_, by rw [List.length_map, htl], by rw [List.length_map]; omega⟩
      exact fresh_nodup.map _ (fun a b hab z => hab (by exact Int.ofNat.inj z))
    have hcm := ev_comp (Γ := Γs (k + 5)) (it := .fn .rng1 (.cons (.fn .len (.cons (.var 2) .nil)) .nil)) (s := true) (tg := [12]) (vs := [12]) (e := .get3 (.var 10) (.var 12) (.int 0)) (t1 := t)
      (ρ := [some (.dat (nat p)), some (.dat (nat w)), some (.dat (dGrid rows)), some (.dat (dRow r)), some (.dat (dL nat (freshIn p rows))), some (.dat (dL dRow (wideRows rows (freshIn p rows)))), some (.dat (dRow (leftOf p w rows r))), x, y, some (.dat (dRow (toldOf p w rows r))), some (.dat (.dct (((freshIn p rows).map fun (n : Nat) => (n : Int)).zip (toldOf p w rows r)))), none, none]) (t := t) (List.range rows.length) nat
      (fun (i : Nat) => .int ((((freshIn p rows).map fun (n : Nat) => (n : Int)).zip (toldOf p w rows r)).lookup (i : Int) |>.getD 0)) (by simp [rng1 (show rows.length ≤ 1000000 by omega)]) (by rw [List.length_range]; exact Nat.le_trans hn (by decide))
      (fun i hi => ⟨[some (.dat (nat p)), some (.dat (nat w)), some (.dat (dGrid rows)), some (.dat (dRow r)), some (.dat (dL nat (freshIn p rows))), some (.dat (dL dRow (wideRows rows (freshIn p rows)))), some (.dat (dRow (leftOf p w rows r))), x, y, some (.dat (dRow (toldOf p w rows r))), some (.dat (.dct (((freshIn p rows).map fun (n : Nat) => (n : Int)).zip (toldOf p w rows r)))), none, some (.dat (nat i))], rfl, by
        generalize ((freshIn p rows).map fun (n : Nat) => (n : Int)).zip (toldOf p w rows r) = kvs
        have hd : isDct (.dct kvs) t = .ok (.dct kvs) t := rfl
        have hgt : dGet3 [.dct kvs, nat i, .int 0] = some (.int ((kvs.lookup (i : Int)).getD 0)) := by
          show some (match kvs.lookup (i : Int) with
            | some v => D.int v
            | none => D.int 0) = _
          cases kvs.lookup (i : Int) <;> rfl
        simp [hd, hgt]⟩)
    rw [hm]
    simp [f_multiples_in, h1, hwide, hz, hadd, hev, hwI, hct, hpl, optN, optR, hsub, hcf, hrt, hdz, hcm, dT_map]
end
end Dry
set_option Elab.async false
set_option linter.all false
set_option maxRecDepth 100000
set_option maxHeartbeats 4000000
set_option autoImplicit false
/-! DryY4: what the defs compute: tests of things, multiples_for, is_multiples. -/
namespace Dry
open PySem PySem.Spec PyProof.Rows L2
/-- no draws, no dict, no script -/
def plainD : D → Bool
  | .tin => false
  | .dct _ => false
  | .scr _ => false
  | _ => true
def isIntD : D → Bool
  | .int _ => true
  | _ => false
def countD : D → Bool
  | .int i => decide (0 ≤ i)
  | _ => false
def belowD (n : Nat) : D → Bool
  | .int i => decide (0 ≤ i) && decide (i < n)
  | _ => false
def rowD (n : Nat) : D → Bool
  | .tup xs => xs.all (belowD n)
  | _ => false
section
variable {k : Nat} {t : Tin} {p w : Nat}
theorem e_is_number {d : D} (h : plainD d = true) : call (k + 1) "is_number" [d] t = .ok (.bl (isIntD d)) t := by
  rw [call_of of_is_number rfl]
  refine callF_ret ?_
  show exs _ f_is_number [some (.dat d)] t = _
  cases d <;> first | (cases h; done) | simp [f_is_number, dIs, isOne, tyOf, isIntD]
theorem e_is_count {d : D} (h : plainD d = true) : call (k + 2) "is_count" [d] t = .ok (.bl (countD d)) t := by
  rw [call_of of_is_count rfl]
  refine callF_ret ?_
  show exs _ f_is_count [some (.dat d)] t = _
  have h1 := e_is_number (k := k) (t := t) h
  cases d <;> first | (cases h; done) | simp [f_is_count, h1, isIntD, countD]
theorem e_is_below {d : D} (h : plainD d = true) : call (k + 3) "is_below" [d, nat p] t = .ok (.bl (belowD p d)) t := by
  rw [call_of of_is_below rfl]
  refine callF_ret ?_
  show exs _ f_is_below [some (.dat d), some (.dat (nat p))] t = _
  have h1 := e_is_count (k := k) (t := t) h
  cases d with
  | int i =>
    have hlt : dLt (.int i) (nat p) = some (.bl (decide (i < (p : Int)))) := rfl
    have hb : belowD p (.int i) = (decide (0 ≤ i) && decide (i < (p : Int))) := rfl
    rw [hb]
    cases hc : decide (0 ≤ i) with
    | true =>
      have hcd : countD (.int i) = true := hc
      rw [hcd] at h1
      simp [f_is_below, h1, hlt]
    | false =>
      have hcd : countD (.int i) = false := hc
      rw [hcd] at h1
      simp [f_is_below, h1]
  | tin => cases h
  | dct _ => cases h
  | scr _ => cases h
  | _ => simp [f_is_below, h1, countD, belowD]
theorem e_is_row {d : D} (h : plainD d = true) (hx : ∀ xs, d = .tup xs → xs.length ≤ cap ∧ ∀ x ∈ xs, plainD x = true) : call (k + 4) "is_row" [nat p, d] t = .ok (.bl (rowD p d)) t := by
  rw [call_of of_is_row rfl]
  refine callF_ret ?_
  show exs _ f_is_row [some (.dat (nat p)), some (.dat d), none] t = _
  cases d with
  | tup xs =>
    obtain ⟨hl, hp⟩ := hx xs rfl
    have hcm := ev_comp (Γ := Γs (k + 3)) (it := .seq (.var 1)) (s := true) (tg := [2]) (vs := [2]) (e := .call "is_below" (.cons (.var 2) (.cons (.var 0) .nil))) (t1 := t)
      (ρ := [some (.dat (nat p)), some (.dat (.tup xs)), none]) (t := t) xs id (fun x => .bl (belowD p x)) (by simp [dItems]) hl (fun x hx => ⟨[some (.dat (nat p)), some (.dat (.tup xs)), some (.dat x)], rfl, by simp [e_is_below (k := k) (t := t) (p := p) (hp x hx)]⟩)
    have e : dL (fun x => D.bl (belowD p x)) xs = dL .bl (xs.map (belowD p)) := dL_map.symm
    rw [e] at hcm
    have hi : dIs [.tuple] (.tup xs) = some (.bl true) := rfl
    have hr : rowD p (.tup xs) = (xs.map (belowD p)).all id := by
      rw [List.all_map]
      rfl
    simp only [f_is_row, hr]
    simp [hi, hcm]
  | tin => cases h
  | dct _ => cases h
  | scr _ => cases h
  | _ => simp [f_is_row, dIs, isOne, tyOf, rowD]
theorem e_multiples_for {rows : List (List Int)} {r : List Int} {d : D} (hp : Pr p) (hg : Gr p w rows) (hr : Rw p w r) (hw : w ≤ 400) (hn : rows.length ≤ 400) (hd : d = dGrid rows ∨ d = dL dRow rows) :
    call (k + 7) "multiples_for" [nat p, nat w, d, dRow r] t = match multsIn p w rows r with
      | some m => .ok (dRow m) t
      | none => .exn t := by
  rw [call_of of_multiples_for rfl]
  have hc : w ≤ cap := Nat.le_trans hw (by decide)
  have hdi : dItems d = some (rows.map dRow) := by rcases hd with rfl | rfl <;> rfl
  have hnc : rows.length ≤ cap := Nat.le_trans hn (by decide)
  have h1 : call (k + 6) "fit_both" [nat w, d, dRow r] t = .ok .non t := e_fit_both (k := k + 4) (fun r h => (hg r h).len) hr.len hnc hdi
  have h2 : call (k + 6) "tupled" [d] t = .ok (dGrid rows) t := by
    rcases hd with rfl | rfl
    · exact e_tup_grid (k := k + 3) hnc fun r h => by rw [(hg r h).len]; exact hc
    · exact e_tup_gridL (k := k + 3) hnc fun r h => by rw [(hg r h).len]; exact hc
  have h3 : call (k + 6) "tupled" [dRow r] t = .ok (dRow r) t := e_tup_row (k := k + 4) (by rw [hr.len]; exact hc)
  have h4 : call (k + 6) "multiples_in" [nat p, nat w, dGrid rows, dRow r] t = .ok (optR (multsIn p w rows r)) t := e_multiples_in hp hg hr hw hn
  cases hm : multsIn p w rows r with
  | none =>
    rw [hm] at h4
    refine callF_exn ?_
    show exs _ f_multiples_for [some (.dat (nat p)), some (.dat (nat w)), some (.dat d), some (.dat (dRow r)), none] t = _
    simp [f_multiples_for, h1, h2, h3, h4, optR]
  | some m =>
    rw [hm] at h4
    refine callF_ret ?_
    show exs _ f_multiples_for [some (.dat (nat p)), some (.dat (nat w)), some (.dat d), some (.dat (dRow r)), none] t = _
    simp [f_multiples_for, h1, h2, h3, h4, optR]
end
end Dry
set_option Elab.async false
set_option linter.all false
set_option maxRecDepth 100000
set_option maxHeartbeats 4000000
set_option autoImplicit false
/-! DryY5: what the defs compute: is_multiples, unmarked_rows, bar_row. -/
namespace Dry
open PySem PySem.Spec PyProof.Rows L2
/-- the digits of a thing that is a row of digits -/
def digitsD (p : Nat) : D → Option (List Int)
  | .tup xs => match dInts xs with
    | some ds => if ds.all (fun x => decide (0 ≤ x) && decide (x < (p : Int))) = true then some ds else none
    | none => none
  | _ => none
theorem digitsD_tup {p : Nat} {xs : List D} : digitsD p (.tup xs) = (dInts xs).bind fun ds => if ds.all (fun x => decide (0 ≤ x) && decide (x < (p : Int))) = true then some ds else none := by
  show (match dInts xs with
    | some ds => _
    | none => _) = _
  cases dInts xs <;> rfl
theorem below_all {p : Nat} : ∀ xs : List D, xs.all (belowD p) = true → ∃ ds : List Int, xs = ds.map D.int ∧ ds.all (fun x => decide (0 ≤ x) && decide (x < (p : Int))) = true
  | [], _ => ⟨[], rfl, rfl⟩
  | x :: xs, h => by
    rw [List.all_cons, Bool.and_eq_true] at h
    obtain ⟨ds, rfl, h2⟩ := below_all xs h.2
    cases x with
    | int i =>
      refine ⟨i :: ds, rfl, ?_⟩
      rw [List.all_cons, Bool.and_eq_true]
      exact ⟨h.1, h2⟩
    | _ => cases h.1
theorem digits_row {p : Nat} {d : D} : rowD p d = (digitsD p d).isSome ∧ ∀ ds, digitsD p d = some ds → d = dRow ds ∧ ∀ x ∈ ds, 0 ≤ x ∧ x < p := by
  cases d with
  | tup xs =>
    cases hr : rowD p (.tup xs) with
    | true =>
      obtain ⟨ds, rfl, h2⟩ := below_all xs hr
      have e : digitsD p (.tup (ds.map D.int)) = some ds := by
        rw [digitsD_tup, dInts_map]
        exact if_pos h2
      rw [e]
      refine ⟨rfl, fun ds' h => ?_⟩
      cases h
      refine ⟨rfl, fun x hx => ?_⟩
      have := List.all_eq_true.mp h2 x hx
      rw [Bool.and_eq_true] at this
      exact ⟨of_decide_eq_true this.1, of_decide_eq_true this.2⟩
    | false =>
      have e : digitsD p (.tup xs) = none := by
        rw [digitsD_tup]
        cases z : dInts xs with
        | none => rfl
        | some ds =>
          refine if_neg fun h2 => ?_
          have e2 := dInts_of z
          subst e2
          have : rowD p (.tup (ds.map D.int)) = true := by
            show (ds.map D.int).all (belowD p) = true
            rw [List.all_map]
            exact h2
          rw [hr] at this
          cases this
      rw [e]
      exact ⟨rfl, fun ds h => by cases h⟩
  | _ => exact ⟨rfl, fun ds h => by cases h⟩
def isMults (p w : Nat) (rows : List (List Int)) (r : List Int) (d : D) : Bool := match digitsD p d with
  | some ds => decide (ds.length = rows.length) && (combo p w rows ds == r)
  | none => false
section
variable {k : Nat} {t : Tin} {p w : Nat}
theorem e_is_multiples {rows : List (List Int)} {r : List Int} {d x : D} (hp : Pr p) (hg : Gr p w rows) (hr : Rw p w r) (hw : w ≤ 400) (hn : rows.length ≤ 400) (hd : d = dGrid rows ∨ d = dL dRow rows) (hx : plainD x = true) (hx2 : ∀ xs, x = .tup xs → xs.length ≤ cap ∧ ∀ y ∈ xs, plainD y = true) :
    call (k + 5) "is_multiples" [nat p, nat w, d, dRow r, x] t = .ok (.bl (isMults p w rows r x)) t := by
  rw [call_of of_is_multiples rfl]
  refine callF_ret ?_
  show exs _ f_is_multiples [some (.dat (nat p)), some (.dat (nat w)), some (.dat d), some (.dat (dRow r)), some (.dat x)] t = _
  have hc : w ≤ cap := Nat.le_trans hw (by decide)
  have hdi : dItems d = some (rows.map dRow) := by rcases hd with rfl | rfl <;> rfl
  have hnc : rows.length ≤ cap := Nat.le_trans hn (by decide)
  have hlen : dLen [d] = some (.int rows.length) := by rcases hd with rfl | rfl <;> simp
  have h1 : call (k + 4) "fit_both" [nat w, d, dRow r] t = .ok .non t := e_fit_both (k := k + 2) (fun r h => (hg r h).len) hr.len hnc hdi
  have h2 : call (k + 4) "tupled" [d] t = .ok (dGrid rows) t := by
    rcases hd with rfl | rfl
    · exact e_tup_grid (k := k + 1) hnc fun r h => by rw [(hg r h).len]; exact hc
    · exact e_tup_gridL (k := k + 1) hnc fun r h => by rw [(hg r h).len]; exact hc
  have h3 : call (k + 4) "tupled" [dRow r] t = .ok (dRow r) t := e_tup_row (k := k + 2) (by rw [hr.len]; exact hc)
  have h4 : call (k + 4) "is_row" [nat p, x] t = .ok (.bl (rowD p x)) t := e_is_row hx hx2
  obtain ⟨r1, r2⟩ := digits_row (p := p) (d := x)
  rw [r1] at h4
  unfold isMults
  cases hz : digitsD p x with
  | none =>
    rw [hz] at h4
    simp [f_is_multiples, h1, h4]
  | some ds =>
    rw [hz] at h4
    obtain ⟨rfl, hdig⟩ := r2 ds hz
    by_cases hl : ds.length = rows.length
    · have h5 : call (k + 4) "sum_of_multiples" [nat p, nat w, dGrid rows, dRow ds] t = .ok (dRow (combo p w rows ds)) t :=
        e_sum_of_multiples (k := k + 1) hp (fun r h => (hg r h).len) (by omega) hl.symm (fun y hy => small_of hp.le (hdig y hy))
      have he : dEq (dRow (combo p w rows ds)) (dRow r) = some (.bl (combo p w rows ds == r)) := by
        rw [dEq_ok okN_row okN_row, EqOk.row]
      simp [f_is_multiples, h1, h4, hlen, hl, h2, h3, h5, he]
    · have hne : ((ds.length : Int) != (rows.length : Int)) = true := bne_iff_ne.mpr (by omega)
      simp [f_is_multiples, h1, h4, hlen, hl, hne]
end
end Dry
set_option Elab.async false
set_option linter.all false
set_option maxRecDepth 100000
set_option maxHeartbeats 4000000
set_option autoImplicit false
/-! DryY6: what the defs compute: unmarked_rows, bar_row. -/
namespace Dry
open PySem PySem.Spec PyProof.Rows L2
def backLeads (p w : Nat) (rows : List (List Int)) : List Lead := (leadsOf p (rows.map List.reverse)).map fun q => (w - 1 - q.1, q.2.reverse)
def unmarkedOf (p w : Nat) (leads : List Lead) (f : Nat) : List Int := leads.foldl (fun own q => own.set q.1 (((p : Int) - at0 q.2 f).fmod p)) (unitRow w f)
def unmarked (p w : Nat) (rows : List (List Int)) : List (List Int) := ((List.range w).filter fun f => !((backLeads p w rows).map Prod.fst).contains f).map (unmarkedOf p w (backLeads p w rows))
section
variable {k : Nat} {t : Tin} {p w : Nat}
theorem rev_row {r : List Int} : dRev (dRow r) = some (dRow r.reverse) := by
  show some (D.tup (r.map D.int).reverse) = _
  rw [← List.map_reverse]
  rfl
theorem Ld.back {rows : List (List Int)} (hp : Pr p) (hg : Gr p w rows) : ∀ q ∈ backLeads p w rows, Ld p w q := by
  intro q hq
  obtain ⟨q', hq', rfl⟩ := List.mem_map.mp hq
  have hgr : Gr p w (rows.map List.reverse) := fun r hr => by
    obtain ⟨r', hr', rfl⟩ := List.mem_map.mp hr
    exact ⟨by rw [List.length_reverse, (hg r' hr').len], fun x hx => (hg r' hr').dig x (List.mem_reverse.mp hx)⟩
  have h := Ld.leadsOf hp hgr q' hq'
  have h1 := h.lt
  exact ⟨by dsimp only; omega, by rw [List.length_reverse, h.rw.len], fun x hx => h.rw.dig x (List.mem_reverse.mp hx)⟩
theorem unmarkedOf_len {leads : List Lead} {f : Nat} : (unmarkedOf p w leads f).length = w := by
  unfold unmarkedOf
  have go : ∀ (l : List Lead) (o : List Int), (l.foldl (fun own q => own.set q.1 (((p : Int) - at0 q.2 f).fmod p)) o).length = o.length := by
    intro l
    induction l with
    | nil => exact fun _ => rfl
    | cons q l ih => exact fun o => (ih _).trans (List.length_set ..)
  rw [go, unitRow, List.length_map, List.length_range]
theorem notin_nat {xs : List Nat} {f : Nat} : dNotIn (nat f) (dL nat xs) = some (.bl (!xs.contains f)) := by
  have e : dNotIn (nat f) (dL nat xs) = (if okB (nat f) = true ∧ okB (dL nat xs) = true then some (.bl (!((xs.map nat).any fun z => PyData.eqv z.py (nat f).py))) else none) := rfl
  rw [e, if_pos ⟨rfl, okB_of okN_natL (Nat.le_refl _)⟩]
  congr 2
  congr 1
  rw [List.any_map, List.contains_eq_any_beq]
  congr 1
  funext x
  show ((x : Int) == (f : Int)) = (f == x)
  by_cases h : x = f
  · simp [h]
  · have h1 : ((x : Int) == (f : Int)) = false := beq_eq_false_iff_ne.mpr (by omega)
    have h2 : (f == x) = false := beq_eq_false_iff_ne.mpr (Ne.symm h)
    rw [h1, h2]
theorem e_unmarked_inner {rows : List (List Int)} {leads : List Lead} {f : Nat} (hp : Pr p) (hf : f < w) (hw : w ≤ 400) (hl : ∀ q ∈ leads, Ld p w q) (fo : En) (pl : En) (a b : Option En) (x10 : Option En) (D2 : D) :
    ∃ c d, ex (Γs k) (.loop (.seq (.var 6)) false [4, 5] (.cons (.oset 3 (.var 4) (.two .mod (.two .sub (.var 0) (.ix (.var 5) (.var 9))) (.var 0))) .nil))
      [some (.dat (nat p)), some (.dat (nat w)), some (.dat D2), some (.own ((unitRow w f).map .int)), a, b, some (.dat (dL ld leads)), some pl, some fo, some (.dat (nat f)), x10] t =
      .nx [some (.dat (nat p)), some (.dat (nat w)), some (.dat D2), some (.own ((unmarkedOf p w leads f).map .int)), c, d, some (.dat (dL ld leads)), some pl, some fo, some (.dat (nat f)), x10] t := by
  have hp' : (p : Int) ≠ 0 := by
    have := hp.pos
    omega
  have hlp := loopF_fold (F := bodyF (Γs k) false [4, 5] (.cons (.oset 3 (.var 4) (.two .mod (.two .sub (.var 0) (.ix (.var 5) (.var 9))) (.var 0))) .nil)) (enc := ld) (t := t)
    (fun (o : List Int) ρ => o.length = w ∧ ∃ c d, ρ = [some (.dat (nat p)), some (.dat (nat w)), some (.dat D2), some (.own (o.map .int)), c, d, some (.dat (dL ld leads)), some pl, some fo, some (.dat (nat f)), x10]) (fun own q => own.set q.1 (((p : Int) - at0 q.2 f).fmod p)) leads (unitRow w f)
    [some (.dat (nat p)), some (.dat (nat w)), some (.dat D2), some (.own ((unitRow w f).map .int)), a, b, some (.dat (dL ld leads)), some pl, some fo, some (.dat (nat f)), x10]
    (fun o q ρ hq hR => by
      obtain ⟨ho, c, d, rfl⟩ := hR
      have hq' := hl q hq
      have hbd : bindT false [4, 5] (ld q) [some (.dat (nat p)), some (.dat (nat w)), some (.dat D2), some (.own (o.map .int)), c, d, some (.dat (dL ld leads)), some pl, some fo, some (.dat (nat f)), x10] =
        some [some (.dat (nat p)), some (.dat (nat w)), some (.dat D2), some (.own (o.map .int)), some (.dat (nat q.1)), some (.dat (dRow q.2)), some (.dat (dL ld leads)), some pl, some fo, some (.dat (nat f)), x10] := rfl
      refine ⟨[some (.dat (nat p)), some (.dat (nat w)), some (.dat D2), some (.own ((o.set q.1 (((p : Int) - at0 q.2 f).fmod p)).map .int)), some (.dat (nat q.1)), some (.dat (dRow q.2)), some (.dat (dL ld leads)), some pl, some fo, some (.dat (nat f)), x10], ?_, by rw [List.length_set]; exact ho, some (.dat (nat q.1)), some (.dat (dRow q.2)), rfl⟩
      rw [bodyF_some hbd]
      have hx : ixD (dRow q.2) (nat f) t = some (.int (at0 q.2 f)) := ix_T (i := (f : Int)) rfl (get_some (by rw [hq'.rw.len]; exact hf))
      have hs : dSub (nat p) (.int (at0 q.2 f)) = some (.int ((p : Int) - at0 q.2 f)) := rfl
      have hm : dMod (.int ((p : Int) - at0 q.2 f)) (nat p) = some (.int (((p : Int) - at0 q.2 f).fmod p)) := mod_int hp'
      have hI : asI (.ok (nat q.1) t) = .ok (q.1 : Int) t := rfl
      have hix : ixN o.length (q.1 : Int) = some q.1 := by
        have := hq'.lt
        unfold ixN
        rw [if_pos (by omega), if_pos (by omega), Int.toNat_natCast]
      simp [hx, hs, hm, hI, hix, List.map_set]) ⟨by rw [unitRow, List.length_map, List.length_range], a, b, rfl⟩
  obtain ⟨ρ', hl1, _, c, d, rfl⟩ := hlp
  refine ⟨c, d, ?_⟩
  rw [ex_loop (Γ := Γs k) (it := .seq (.var 6)) (s := false) (tg := [4, 5]) (items := leads.map ld) (t1 := t) (by simp)]
  exact hl1
def umStep (p w : Nat) (leads : List Lead) (found : List (List Int)) (f : Nat) : List (List Int) := if (leads.map Prod.fst).contains f = true then found else found ++ [unmarkedOf p w leads f]
theorem umStep_all {leads : List Lead} : ∀ (xs : List Nat) (acc : List (List Int)), xs.foldl (umStep p w leads) acc = acc ++ (xs.filter fun f => !(leads.map Prod.fst).contains f).map (unmarkedOf p w leads)
  | [], acc => (List.append_nil acc).symm
  | x :: xs, acc => by
    rw [List.foldl_cons, umStep_all xs, List.filter_cons]
    unfold umStep
    cases h : (leads.map Prod.fst).contains x with
    | true => rfl
    | false =>
      rw [if_neg Bool.false_ne_true, List.append_assoc]
      rfl
theorem e_unmarked_rows {rows : List (List Int)} {d : D} (hp : Pr p) (hg : Gr p w rows) (hw : w ≤ 400) (hn : rows.length ≤ 400) (hd : d = dGrid rows ∨ d = dL dRow rows) : call (k + 6) "unmarked_rows" [nat p, nat w, d] t = .ok (dGrid (unmarked p w rows)) t := by
  rw [call_of of_unmarked_rows rfl]
  refine callF_ret ?_
  show exs _ f_unmarked_rows [some (.dat (nat p)), some (.dat (nat w)), some (.dat d), none, none, none, none, none, none, none, none] t = _
  have hc : w ≤ cap := Nat.le_trans hw (by decide)
  have hdi : dItems d = some (rows.map dRow) := by rcases hd with rfl | rfl <;> rfl
  have hnc : rows.length ≤ cap := Nat.le_trans hn (by decide)
  have h1 : call (k + 5) "fit_rows" [nat w, d] t = .ok .non t := e_fit_rows (k := k + 4) (fun r h => (hg r h).len) hnc hdi
  have h2 : call (k + 5) "tupled" [d] t = .ok (dGrid rows) t := by
    rcases hd with rfl | rfl
    · exact e_tup_grid (k := k + 2) hnc fun r h => by rw [(hg r h).len]; exact hc
    · exact e_tup_gridL (k := k + 2) hnc fun r h => by rw [(hg r h).len]; exact hc
  have hrv := ev_comp (Γ := Γs (k + 5)) (it := .seq (.call "tupled" (.cons (.var 2) .nil))) (s := true) (tg := [3]) (vs := [3]) (e := .rev (.var 3)) (t1 := t)
    (ρ := [some (.dat (nat p)), some (.dat (nat w)), some (.dat d), none, none, none, none, none, none, none, none]) (t := t) rows dRow (fun r => dRow r.reverse) (by simp [h2]) hnc
    (fun r hr => ⟨[some (.dat (nat p)), some (.dat (nat w)), some (.dat d), some (.dat (dRow r)), none, none, none, none, none, none, none], rfl, by simp [rev_row]⟩)
  have hre : dL (fun r => dRow (List.reverse r)) rows = dL dRow (rows.map List.reverse) := dL_map.symm
  rw [hre] at hrv
  have hgr : Gr p w (rows.map List.reverse) := fun r hr => by
    obtain ⟨r', hr', rfl⟩ := List.mem_map.mp hr
    exact ⟨by rw [List.length_reverse, (hg r' hr').len], fun x hx => (hg r' hr').dig x (List.mem_reverse.mp hx)⟩
  have hlo : call (k + 5) "leads_of" [nat p, dL dRow (rows.map List.reverse)] t = .ok (dL ld (leadsOf p (rows.map List.reverse))) t := e_leads_of hp hgr hc (by rw [List.length_map]; omega) rfl
  have hll : (leadsOf p (rows.map List.reverse)).length ≤ cap := Nat.le_trans (leadsOf_len hp hgr) (by rw [List.length_map]; exact hnc)
  have hld := Ld.leadsOf hp hgr
  have hbk := ev_comp (Γ := Γs (k + 5)) (it := .seq (.call "leads_of" (.cons (.var 0) (.cons (.comp (.seq (.call "tupled" (.cons (.var 2) .nil))) true [3] [3] (.rev (.var 3))) .nil)))) (s := false) (tg := [4, 5]) (vs := [4, 5])
    (e := .tup (.cons (.two .sub (.two .sub (.var 1) (.int 1)) (.var 4)) (.cons (.rev (.var 5)) .nil))) (t1 := t)
    (ρ := [some (.dat (nat p)), some (.dat (nat w)), some (.dat d), none, none, none, none, none, none, none, none]) (t := t) (leadsOf p (rows.map List.reverse)) ld (fun q => ld (w - 1 - q.1, q.2.reverse)) (by simp [hrv, hlo]) hll
    (fun q hq => ⟨[some (.dat (nat p)), some (.dat (nat w)), some (.dat d), none, some (.dat (nat q.1)), some (.dat (dRow q.2)), none, none, none, none, none], rfl, by
      have hlt := (hld q hq).lt
      have s1 : dSub (nat w) (.int 1) = some (.int ((w : Int) - 1)) := rfl
      have s2 : dSub (.int ((w : Int) - 1)) (nat q.1) = some (nat (w - 1 - q.1)) := by
        show some (D.int ((w : Int) - 1 - (q.1 : Int))) = some (D.int ((w - 1 - q.1 : Nat) : Int))
        congr 2
        omega
      simp [s1, s2, rev_row, pD]⟩)
  have hbe : dL (fun (q : Lead) => ld (w - 1 - q.1, q.2.reverse)) (leadsOf p (rows.map List.reverse)) = dL ld (backLeads p w rows) := dL_map.symm
  rw [hbe] at hbk
  have hbl : (backLeads p w rows).length ≤ cap := by
    unfold backLeads
    rw [List.length_map]
    exact hll
  have hpc := ev_comp (Γ := Γs (k + 5)) (it := .seq (.var 6)) (s := false) (tg := [4, 10]) (vs := [4, 10]) (e := .var 4) (t1 := t)
    (ρ := [some (.dat (nat p)), some (.dat (nat w)), some (.dat d), none, none, none, some (.dat (dL ld (backLeads p w rows))), none, none, none, none]) (t := t) (backLeads p w rows) ld (fun q => nat q.1) (by simp) hbl
    (fun q hq => ⟨[some (.dat (nat p)), some (.dat (nat w)), some (.dat d), none, some (.dat (nat q.1)), none, some (.dat (dL ld (backLeads p w rows))), none, none, none, some (.dat (dRow q.2))], rfl, by simp⟩)
  have hpe : dL (fun (q : Lead) => nat q.1) (backLeads p w rows) = dL nat ((backLeads p w rows).map Prod.fst) := dL_map.symm
  rw [hpe] at hpc
  have hba := Ld.back hp hg
  have hlp := loopF_foldI (F := bodyF (Γs (k + 5)) true [9] (.cons (.ife (.two .notin (.var 9) (.var 7)) (.cons (.one 3 (.list (.call "unit_row" (.cons (.var 1) (.cons (.var 9) .nil))))) (.cons (.loop (.seq (.var 6)) false [4, 5] (.cons (.oset 3 (.var 4) (.two .mod (.two .sub (.var 0) (.ix (.var 5) (.var 9))) (.var 0))) .nil)) (.cons (.app 8 (.otup 3)) .nil))) .nil) .nil)) (enc := nat) (t := t)
    (fun i (b : List (List Int)) ρ => b.length ≤ i ∧ ∃ o3 o4 o5 o9, ρ = [some (.dat (nat p)), some (.dat (nat w)), some (.dat d), o3, o4, o5, some (.dat (dL ld (backLeads p w rows))), some (.dat (dL nat ((backLeads p w rows).map Prod.fst))), some (.own (b.map dRow)), o9, none]) (umStep p w (backLeads p w rows)) (List.range w) 0 []
    [some (.dat (nat p)), some (.dat (nat w)), some (.dat d), none, none, none, some (.dat (dL ld (backLeads p w rows))), some (.dat (dL nat ((backLeads p w rows).map Prod.fst))), some (.own []), none, none]
    (fun i b f ρ _ hi hf hR => by
      obtain ⟨hbl, o3, o4, o5, o9, rfl⟩ := hR
      have hf' := List.mem_range.mp hf
      rw [List.length_range] at hi
      have hbd : bindT true [9] (nat f) [some (.dat (nat p)), some (.dat (nat w)), some (.dat d), o3, o4, o5, some (.dat (dL ld (backLeads p w rows))), some (.dat (dL nat ((backLeads p w rows).map Prod.fst))), some (.own (b.map dRow)), o9, none] =
        some [some (.dat (nat p)), some (.dat (nat w)), some (.dat d), o3, o4, o5, some (.dat (dL ld (backLeads p w rows))), some (.dat (dL nat ((backLeads p w rows).map Prod.fst))), some (.own (b.map dRow)), some (.dat (nat f)), none] := rfl
      have hni := notin_nat (xs := (backLeads p w rows).map Prod.fst) (f := f)
      have hcl : b.length < cap := by
        unfold cap
        omega
      cases hs : ((backLeads p w rows).map Prod.fst).contains f with
      | true =>
        rw [hs] at hni
        refine ⟨[some (.dat (nat p)), some (.dat (nat w)), some (.dat d), o3, o4, o5, some (.dat (dL ld (backLeads p w rows))), some (.dat (dL nat ((backLeads p w rows).map Prod.fst))), some (.own (b.map dRow)), some (.dat (nat f)), none], ?_, ?_, o3, o4, o5, some (.dat (nat f)), ?_⟩
        · rw [bodyF_some hbd]
          simp [hni]
        · unfold umStep
          rw [if_pos hs]
          omega
        · unfold umStep
          rw [if_pos hs]
      | false =>
        rw [hs] at hni
        have hu : call (k + 5) "unit_row" [nat w, nat f] t = .ok (dRow (unitRow w f)) t := e_unit_row (k := k + 4) (by omega) hf'
        obtain ⟨c, e, hin⟩ := e_unmarked_inner (k := k + 5) (t := t) (rows := rows) hp hf' hw hba (.own (b.map dRow)) (.dat (dL nat ((backLeads p w rows).map Prod.fst))) o4 o5 none d
        refine ⟨[some (.dat (nat p)), some (.dat (nat w)), some (.dat d), some (.own ((unmarkedOf p w (backLeads p w rows) f).map .int)), c, e, some (.dat (dL ld (backLeads p w rows))), some (.dat (dL nat ((backLeads p w rows).map Prod.fst))), some (.own (b.map dRow ++ [dRow (unmarkedOf p w (backLeads p w rows) f)])), some (.dat (nat f)), none], ?_, ?_, some (.own ((unmarkedOf p w (backLeads p w rows) f).map .int)), c, e, some (.dat (nat f)), ?_⟩
        · rw [bodyF_some hbd]
          simp [hni, hu, hin, hcl]
          rfl
        · unfold umStep
          rw [if_neg (by rw [hs]; exact Bool.false_ne_true), List.length_append]
          exact Nat.succ_le_succ hbl
        · unfold umStep
          rw [if_neg (by rw [hs]; exact Bool.false_ne_true), List.map_append]
          rfl) ⟨Nat.le_refl _, none, none, none, none, rfl⟩
  obtain ⟨ρ', hl1, _, o3, o4, o5, o9, rfl⟩ := hlp
  have hum : (List.range w).foldl (umStep p w (backLeads p w rows)) [] = unmarked p w rows := by
    rw [umStep_all]
    rfl
  rw [hum] at hl1
  have hev := ex_loop (Γ := Γs (k + 5)) (it := .fn .rng1 (.cons (.var 1) .nil)) (s := true) (tg := [9]) (body := .cons (.ife (.two .notin (.var 9) (.var 7)) (.cons (.one 3 (.list (.call "unit_row" (.cons (.var 1) (.cons (.var 9) .nil))))) (.cons (.loop (.seq (.var 6)) false [4, 5] (.cons (.oset 3 (.var 4) (.two .mod (.two .sub (.var 0) (.ix (.var 5) (.var 9))) (.var 0))) .nil)) (.cons (.app 8 (.otup 3)) .nil))) .nil) .nil)
    (ρ := [some (.dat (nat p)), some (.dat (nat w)), some (.dat d), none, none, none, some (.dat (dL ld (backLeads p w rows))), some (.dat (dL nat ((backLeads p w rows).map Prod.fst))), some (.own []), none, none]) (t := t) (t1 := t) (items := (List.range w).map nat) (by simp [nat, rng1 (show w ≤ 1000000 by omega)])
  rw [hl1] at hev
  simp [f_unmarked_rows, h1, hbk, hpc, hev]
  rfl
end
end Dry
set_option Elab.async false
set_option linter.all false
set_option maxRecDepth 100000
set_option maxHeartbeats 4000000
set_option autoImplicit false
/-! DryY7: what the defs compute: bar_row. -/
namespace Dry
open PySem PySem.Spec PyProof.Rows L2
def barRow (p w : Nat) (rows : List (List Int)) (r : List Int) : Option (List Int) := (unmarked p w rows).find? fun u => rowProd p u r != 0
section
variable {k : Nat} {t : Tin} {p w : Nat}
theorem unmarkedOf_rw {leads : List Lead} {f : Nat} (hp : Pr p) : Rw p w (unmarkedOf p w leads f) := by
  refine ⟨unmarkedOf_len, ?_⟩
  unfold unmarkedOf
  have go : ∀ (l : List Lead) (o : List Int), (∀ x ∈ o, 0 ≤ x ∧ x < (p : Int)) → ∀ x ∈ l.foldl (fun own q => own.set q.1 (((p : Int) - at0 q.2 f).fmod p)) o, 0 ≤ x ∧ x < (p : Int) := by
    intro l
    induction l with
    | nil => exact fun o h => h
    | cons q l ih =>
      refine fun o h => ih _ fun x hx => ?_
      rcases List.mem_or_eq_of_mem_set hx with hx | rfl
      · exact h x hx
      · exact fmod_dig hp.pos _
  exact go _ _ (Rw.unit (p := p) hp).dig
theorem e_bar_row {rows : List (List Int)} {r : List Int} {d : D} (hp : Pr p) (hg : Gr p w rows) (hr : Rw p w r) (hw : w ≤ 400) (hn : rows.length ≤ 400) (hd : d = dGrid rows ∨ d = dL dRow rows) :
    call (k + 7) "bar_row" [nat p, nat w, d, dRow r] t = match barRow p w rows r with
      | some u => .ok (dRow u) t
      | none => .exn t := by
  rw [call_of of_bar_row rfl]
  have hp' : (p : Int) ≠ 0 := by
    have := hp.pos
    omega
  have hc : w ≤ cap := Nat.le_trans hw (by decide)
  have hdi : dItems d = some (rows.map dRow) := by rcases hd with rfl | rfl <;> rfl
  have hnc : rows.length ≤ cap := Nat.le_trans hn (by decide)
  have h1 : call (k + 6) "fit_both" [nat w, d, dRow r] t = .ok .non t := e_fit_both (k := k + 4) (fun r h => (hg r h).len) hr.len hnc hdi
  have h2 : call (k + 6) "unmarked_rows" [nat p, nat w, d] t = .ok (dGrid (unmarked p w rows)) t := e_unmarked_rows hp hg hw hn hd
  have hl := loopF_find (F := bodyF (Γs (k + 6)) true [4] (.cons (.ife (.two .ne (.call "row_product" (.cons (.var 0) (.cons (.var 4) (.cons (.var 3) .nil)))) (.int 0)) (.cons (.ret (.var 4)) .nil) .nil) .nil)) (enc := dRow) (g := dRow) (t := t)
    (fun ρ => ∃ a, ρ = [some (.dat (nat p)), some (.dat (nat w)), some (.dat d), some (.dat (dRow r)), a]) (fun u => rowProd p u r != 0) (unmarked p w rows) [some (.dat (nat p)), some (.dat (nat w)), some (.dat d), some (.dat (dRow r)), none]
    (fun u ρ hu hR => by
      obtain ⟨a, rfl⟩ := hR
      have hbd : bindT true [4] (dRow u) [some (.dat (nat p)), some (.dat (nat w)), some (.dat d), some (.dat (dRow r)), a] = some [some (.dat (nat p)), some (.dat (nat w)), some (.dat d), some (.dat (dRow r)), some (.dat (dRow u))] := rfl
      have hur : Rw p w u := by
        unfold unmarked at hu
        obtain ⟨f, _, rfl⟩ := List.mem_map.mp hu
        exact unmarkedOf_rw hp
      have hpr : call (k + 6) "row_product" [nat p, dRow u, dRow r] t = .ok (.int (rowProd p u r)) t := e_row_product (k := k + 4) hp' (by rw [hur.len, hr.len]) (by rw [hur.len]; exact hc) (hur.small hp.le)
      refine ⟨fun h => ?_, fun h => ⟨[some (.dat (nat p)), some (.dat (nat w)), some (.dat d), some (.dat (dRow r)), some (.dat (dRow u))], ?_, some (.dat (dRow u)), rfl⟩⟩
      · have h' : (rowProd p u r != 0) = true := h
        rw [bodyF_some hbd]
        simp [hpr, h']
      · have h' : (rowProd p u r != 0) = false := h
        rw [bodyF_some hbd]
        simp [hpr, h']) ⟨none, rfl⟩
  have hev := ex_loop (Γ := Γs (k + 6)) (it := .seq (.call "unmarked_rows" (.cons (.var 0) (.cons (.var 1) (.cons (.var 2) .nil))))) (s := true) (tg := [4]) (body := .cons (.ife (.two .ne (.call "row_product" (.cons (.var 0) (.cons (.var 4) (.cons (.var 3) .nil)))) (.int 0)) (.cons (.ret (.var 4)) .nil) .nil) .nil)
    (ρ := [some (.dat (nat p)), some (.dat (nat w)), some (.dat d), some (.dat (dRow r)), none]) (t := t) (t1 := t) (items := (unmarked p w rows).map dRow) (by simp [h2])
  unfold barRow
  rcases hl with ⟨u, f1, f2⟩ | ⟨f1, ρ', f2, _⟩
  · rw [f2] at hev
    rw [f1]
    refine callF_ret ?_
    show exs _ f_bar_row [some (.dat (nat p)), some (.dat (nat w)), some (.dat d), some (.dat (dRow r)), none] t = _
    simp [f_bar_row, h1, hev]
  · rw [f2] at hev
    rw [f1]
    refine callF_exn ?_
    show exs _ f_bar_row [some (.dat (nat p)), some (.dat (nat w)), some (.dat d), some (.dat (dRow r)), none] t = _
    simp [f_bar_row, h1, hev]
end
end Dry
set_option Elab.async false
set_option linter.all false
set_option maxRecDepth 100000
set_option maxHeartbeats 4000000
set_option autoImplicit false
namespace Dry
open Lean.Grind
instance (priority := low) caI {R : Type} [Ring R] : IntCast R := Ring.intCast
section
variable {R : Type} [CommRing R]
/-- the sum of the first so many -/
def sm (n : Nat) (f : Nat → R) : R := match n with
  | 0 => 0
  | n + 1 => sm n f + f n
theorem sm_congr {n : Nat} {f g : Nat → R} (h : ∀ j, j < n → f j = g j) : sm n f = sm n g := by
  induction n with
  | zero => rfl
  | succ n ih =>
    show sm n f + f n = sm n g + g n
    rw [ih fun j hj => h j (by omega), h n (by omega)]
theorem sm_zero {n : Nat} {f : Nat → R} (h : ∀ j, j < n → f j = 0) : sm n f = 0 := by
  induction n with
  | zero => rfl
  | succ n ih =>
    show sm n f + f n = 0
    rw [ih fun j hj => h j (by omega), h n (by omega)]
    grind
theorem sm_add {n : Nat} {f g : Nat → R} : sm n (fun j => f j + g j) = sm n f + sm n g := by
  induction n with
  | zero => show (0 : R) = 0 + 0; grind
  | succ n ih =>
    show sm n _ + (f n + g n) = (sm n f + f n) + (sm n g + g n)
    rw [ih]
    grind
theorem sm_mul {n : Nat} {c : R} {f : Nat → R} : sm n (fun j => c * f j) = c * sm n f := by
  induction n with
  | zero => show (0 : R) = c * 0; grind
  | succ n ih =>
    show sm n _ + c * f n = c * (sm n f + f n)
    rw [ih]
    grind
theorem sm_head {n : Nat} {f : Nat → R} : sm (n + 1) f = f 0 + sm n (fun j => f (j + 1)) := by
  induction n with
  | zero => show (0 : R) + f 0 = f 0 + 0; grind
  | succ n ih =>
    show sm (n + 1) f + f (n + 1) = f 0 + (sm n (fun j => f (j + 1)) + f (n + 1))
    rw [ih]
    grind
theorem sm_split {n m : Nat} {f : Nat → R} : sm (n + m) f = sm n f + sm m (fun j => f (n + j)) := by
  induction m with
  | zero => show sm n f = sm n f + 0; grind
  | succ m ih =>
    show sm (n + m) f + f (n + m) = sm n f + (sm m (fun j => f (n + j)) + f (n + m))
    rw [ih]
    grind
theorem sm_one {n j : Nat} {f : Nat → R} (hj : j < n) (h : ∀ i, i < n → i ≠ j → f i = 0) : sm n f = f j := by
  induction n with
  | zero => omega
  | succ n ih =>
    show sm n f + f n = f j
    by_cases e : j = n
    · subst e
      rw [sm_zero fun i hi => h i (by omega) (by omega)]
      grind
    · rw [ih (by omega) fun i hi => h i (by omega), h n (by omega) (by omega)]
      grind
theorem sm_two {n j k : Nat} {f : Nat → R} (hj : j < n) (hk : k < n) (hjk : j ≠ k) (h : ∀ i, i < n → i ≠ j → i ≠ k → f i = 0) : sm n f = f j + f k := by
  induction n with
  | zero => omega
  | succ n ih =>
    show sm n f + f n = f j + f k
    by_cases e : j = n
    · subst e
      rw [sm_one (show k < j by omega) fun i hi hik => h i (by omega) (by omega) hik]
      grind
    · by_cases e2 : k = n
      · subst e2
        rw [sm_one (show j < k by omega) fun i hi hik => h i (by omega) hik (by omega)]
      · rw [ih (by omega) (by omega) fun i hi => h i (by omega), h n (by omega) (by omega) (by omega)]
        grind
theorem sm_comm {n m : Nat} {f : Nat → Nat → R} : sm n (fun i => sm m (fun j => f i j)) = sm m (fun j => sm n (fun i => f i j)) := by
  induction n with
  | zero => exact (sm_zero fun _ _ => rfl).symm
  | succ n ih =>
    show sm n (fun i => sm m (fun j => f i j)) + sm m (fun j => f n j) = sm m (fun j => sm n (fun i => f i j) + f n j)
    rw [ih, sm_add]
/-- the product of two rows -/
def dt (n : Nat) (y v : Nat → R) : R := sm n fun j => y j * v j
theorem dt_congr {n : Nat} {y v u : Nat → R} (h : ∀ j, j < n → v j = u j) : dt n y v = dt n y u := sm_congr fun j hj => by rw [h j hj]
theorem dt_less {n : Nat} {y v u : Nat → R} {c : R} : dt n y (fun j => v j - c * u j) = dt n y v - c * dt n y u := by
  unfold dt
  rw [← sm_mul]
  have e : (fun j => y j * (v j - c * u j)) = fun j => y j * v j + (-c) * (y j * u j) := by
    funext j
    grind
  rw [e, sm_add, sm_mul, sm_mul]
  grind
theorem dt_times {n : Nat} {y v : Nat → R} {c : R} : dt n y (fun j => c * v j) = c * dt n y v := by
  unfold dt
  rw [← sm_mul]
  exact sm_congr fun j _ => by grind
theorem dt_symm {n : Nat} {y v : Nat → R} : dt n y v = dt n v y := sm_congr fun j _ => by grind
theorem dt_add {n : Nat} {y v u : Nat → R} : dt n y (fun j => v j + u j) = dt n y v + dt n y u := by
  unfold dt
  rw [← sm_add]
  exact sm_congr fun j _ => by grind
theorem dt_sub {n : Nat} {y v u : Nat → R} : dt n y (fun j => v j - u j) = dt n y v - dt n y u := by
  have h := dt_less (n := n) (y := y) (v := v) (u := u) (c := 1)
  have e : (fun j => v j - 1 * u j) = fun j => v j - u j := by
    funext j
    grind
  rw [e] at h
  rw [h]
  grind
theorem dt_zero {n : Nat} {y v : Nat → R} (h : ∀ j, j < n → v j = 0) : dt n y v = 0 := sm_zero fun j hj => by
  rw [h j hj]
  grind
end
/-- the row's digits, as rests -/
def cv (R : Type) [CommRing R] (v : List Int) : Nat → R := fun j => ((at0 v j : Int) : R)
section
variable {R : Type} [CommRing R] {p w : Nat} [IsCharP R p]
theorem ca_mod {p : Nat} [IsCharP R p] (hp : 0 < p) {x : Int} : ((x.fmod p : Int) : R) = (x : R) := by
  rw [IsCharP.intCast_ext_iff p, Int.fmod_eq_emod_of_nonneg x (by omega), Int.emod_emod]
theorem ca_inj {p : Nat} (R : Type) [CommRing R] [IsCharP R p] {x y : Int} (hx : 0 ≤ x ∧ x < p) (hy : 0 ≤ y ∧ y < p) (h : (x : R) = (y : R)) : x = y := by
  rw [IsCharP.intCast_ext_iff p, Int.emod_eq_of_lt hx.1 hx.2, Int.emod_eq_of_lt hy.1 hy.2] at h
  exact h
theorem ca_zero : ((0 : Int) : R) = 0 := Ring.intCast_zero
theorem ca_one : ((1 : Int) : R) = 1 := Ring.intCast_one
theorem ca_ne (R : Type) [CommRing R] {p : Nat} [IsCharP R p] {x : Int} (hx : 0 ≤ x ∧ x < p) (h : x ≠ 0) : (x : R) ≠ 0 := fun e => h (ca_inj R hx ⟨Int.le_refl _, by omega⟩ (e.trans ca_zero.symm))
theorem one_ne {p : Nat} [IsCharP R p] (hp : Pr p) : (1 : R) ≠ 0 := fun e => ca_ne R (p := p) (x := 1) ⟨by omega, by unfold Pr at hp; omega⟩ (by omega) (ca_one.trans e)
theorem at0_lt {v : List Int} {j : Nat} (h : j < v.length) : at0 v j = v[j] := by
  unfold at0
  rw [List.getD_eq_getElem?_getD, List.getElem?_eq_getElem h]
  rfl
theorem at0_ge {v : List Int} {j : Nat} (h : v.length ≤ j) : at0 v j = 0 := by
  unfold at0
  rw [List.getD_eq_getElem?_getD, List.getElem?_eq_none h]
  rfl
theorem cv_ge {v : List Int} {j : Nat} (h : v.length ≤ j) : cv R v j = 0 := by
  unfold cv
  rw [at0_ge h]
  exact ca_zero
theorem cv_ext (R : Type) [CommRing R] {p w : Nat} [IsCharP R p] {a b : List Int} (ha : Rw p w a) (hb : Rw p w b) (h : ∀ j, j < w → cv R a j = cv R b j) : a = b := by
  refine List.ext_getElem (by rw [ha.len, hb.len]) fun j h1 h2 => ?_
  have e := h j (by rw [← ha.len]; exact h1)
  unfold cv at e
  rw [at0_lt h1, at0_lt h2] at e
  exact ca_inj R (ha.dig _ (List.getElem_mem h1)) (hb.dig _ (List.getElem_mem h2)) e
theorem cv_times (hp : 0 < p) {g : Int} {a : List Int} : cv R (rowTimes p g a) = fun j => (g : R) * cv R a j := by
  funext j
  unfold cv rowTimes
  by_cases h : j < a.length
  · rw [at0_lt (by rw [List.length_map]; exact h), at0_lt h, List.getElem_map, ca_mod hp, Ring.intCast_mul]
  · rw [at0_ge (by rw [List.length_map]; omega), at0_ge (by omega), ca_zero]
    grind
theorem cv_sum (hp : 0 < p) {a b : List Int} (h : a.length = b.length) : cv R (rowSum p a b) = fun j => cv R a j + cv R b j := by
  funext j
  unfold cv rowSum
  by_cases hj : j < a.length
  · rw [at0_lt (by rw [List.length_map, List.length_zip]; omega), at0_lt hj, at0_lt (by omega), List.getElem_map, List.getElem_zip, ca_mod hp, Ring.intCast_add]
  · rw [at0_ge (by rw [List.length_map, List.length_zip]; omega), at0_ge (by omega), at0_ge (by omega), ca_zero]
    grind
theorem cv_less (hp : 0 < p) {a b : List Int} (h : a.length = b.length) : cv R (rowLess p a b) = fun j => cv R a j - cv R b j := by
  funext j
  unfold cv rowLess
  by_cases hj : j < a.length
  · rw [at0_lt (by rw [List.length_map, List.length_zip]; omega), at0_lt hj, at0_lt (by omega), List.getElem_map, List.getElem_zip, ca_mod hp, Ring.intCast_sub]
  · rw [at0_ge (by rw [List.length_map, List.length_zip]; omega), at0_ge (by omega), at0_ge (by omega), ca_zero]
    grind
theorem cv_lessAt (hp : 0 < p) {a b : List Int} {j : Nat} (h : a.length = b.length) : cv R (lessAt p a b j) = fun i => cv R a i - cv R a j * cv R b i := by
  unfold lessAt
  rw [cv_less hp (by unfold rowTimes; rw [List.length_map]; exact h), cv_times hp]
  rfl
theorem cv_zero {n : Nat} : cv R (zeroRow n) = fun _ => 0 := by
  funext j
  unfold cv zeroRow
  by_cases hj : j < n
  · rw [at0_lt (by rw [List.length_replicate]; exact hj), List.getElem_replicate]
    exact ca_zero
  · rw [at0_ge (by rw [List.length_replicate]; omega)]
    exact ca_zero
theorem cv_unit {n f : Nat} : ∀ j, j < n → cv R (unitRow n f) j = if j = f then 1 else 0 := by
  intro j hj
  unfold cv unitRow
  rw [at0_lt (by rw [List.length_map, List.length_range]; exact hj), List.getElem_map, List.getElem_range]
  split
  · exact ca_one
  · exact ca_zero
theorem cv_cons {x : Int} {a : List Int} : (fun j => cv R (x :: a) (j + 1)) = cv R a := rfl
theorem cv_cons0 {x : Int} {a : List Int} : cv R (x :: a) 0 = (x : R) := rfl
theorem ca_dot {n : Nat} : ∀ {a b : List Int}, a.length = n → b.length = n → ((((a.zip b).map fun (q : Int × Int) => q.1 * q.2).sum : Int) : R) = dt n (cv R a) (cv R b) := by
  induction n with
  | zero =>
    intro a b ha hb
    obtain rfl := List.length_eq_zero_iff.mp ha
    exact ca_zero
  | succ n ih =>
    intro a b ha hb
    obtain ⟨x, a, rfl⟩ := List.exists_cons_of_length_eq_add_one ha
    obtain ⟨y, b, rfl⟩ := List.exists_cons_of_length_eq_add_one hb
    unfold dt
    rw [sm_head]
    show ((x * y + _ : Int) : R) = (x : R) * (y : R) + dt n (cv R a) (cv R b)
    rw [← ih (by simpa using ha) (by simpa using hb), Ring.intCast_add, Ring.intCast_mul]
    rfl
theorem ca_prod (hp : 0 < p) {n : Nat} {a b : List Int} (ha : a.length = n) (hb : b.length = n) : ((rowProd p a b : Int) : R) = dt n (cv R a) (cv R b) := by
  unfold rowProd
  rw [ca_mod hp, ca_dot ha hb]
theorem cv_combo (hp : 0 < p) {n : Nat} {rows : List (List Int)} {ds : List Int} (hr : ∀ r ∈ rows, r.length = w) (h1 : rows.length = n) (h2 : ds.length = n) : ∀ j, cv R (combo p w rows ds) j = sm n fun i => cv R ds i * cv R (rows.getD i []) j := by
  have go : ∀ (n : Nat) (rows : List (List Int)) (ds acc : List Int), (∀ r ∈ rows, r.length = w) → rows.length = n → ds.length = n → acc.length = w → ∀ j, cv R ((rows.zip ds).foldl (fun f q => rowSum p f (rowTimes p q.2 q.1)) acc) j = cv R acc j + sm n fun i => cv R ds i * cv R (rows.getD i []) j := by
    intro n
    induction n with
    | zero =>
      intro rows ds acc hr h1 h2 ha j
      obtain rfl := List.length_eq_zero_iff.mp h1
      show cv R acc j = cv R acc j + 0
      grind
    | succ n ih =>
      intro rows ds acc hr h1 h2 ha j
      obtain ⟨r, rows, rfl⟩ := List.exists_cons_of_length_eq_add_one h1
      obtain ⟨d, ds, rfl⟩ := List.exists_cons_of_length_eq_add_one h2
      have hl : r.length = w := hr r (List.mem_cons_self ..)
      have hl2 : acc.length = (rowTimes p d r).length := by unfold rowTimes; rw [List.length_map, hl, ha]
      rw [sm_head]
      show cv R ((rows.zip ds).foldl (fun f q => rowSum p f (rowTimes p q.2 q.1)) (rowSum p acc (rowTimes p d r))) j = cv R acc j + ((d : R) * cv R r j + sm n fun i => cv R ds i * cv R (rows.getD i []) j)
      rw [ih rows ds _ (fun r' h => hr r' (List.mem_cons_of_mem _ h)) (by simpa using h1) (by simpa using h2) (by unfold rowSum; rw [List.length_map, List.length_zip, ← hl2, Nat.min_self, ha]) j, cv_sum hp hl2, cv_times hp]
      grind
  intro j
  unfold combo
  rw [go n rows ds (zeroRow w) hr h1 h2 List.length_replicate j, cv_zero]
  grind
end
end Dry
set_option Elab.async false
set_option linter.all false
set_option maxRecDepth 100000
set_option maxHeartbeats 4000000
set_option autoImplicit false
namespace Dry
open Lean.Grind
section
variable {R : Type} [CommRing R] {p w : Nat} [IsCharP R p]
theorem cx_lessAt (hp : 0 < p) {a b : List Int} {i j : Nat} (h : a.length = b.length) : cv R (lessAt p a b j) i = cv R a i - cv R a j * cv R b i := by
  rw [cv_lessAt hp h]
/-- leads that are 1 at their place, 0 at those of the others -/
structure Gd (R : Type) [CommRing R] (p w : Nat) (L : List Lead) : Prop where
  ld : ∀ q ∈ L, Ld p w q
  one : ∀ q ∈ L, cv R q.2 q.1 = 1
  off : L.Pairwise fun a b => cv R a.2 b.1 = 0 ∧ cv R b.2 a.1 = 0
theorem Gd.nil : Gd R p w [] := ⟨fun _ h => (by cases h), fun _ h => (by cases h), .nil⟩
theorem Gd.tail {q : Lead} {L : List Lead} (g : Gd R p w (q :: L)) : Gd R p w L := ⟨fun a h => g.ld a (List.mem_cons_of_mem _ h), fun a h => g.one a (List.mem_cons_of_mem _ h), (List.pairwise_cons.mp g.off).2⟩
theorem red_cons {q : Lead} {L : List Lead} {v : List Int} : reduce p (q :: L) v = reduce p L (lessAt p v q.2 q.1) := rfl
/-- a place where no lead has a digit stays -/
theorem red_still (hp : Pr p) {L : List Lead} {j : Nat} : ∀ {v : List Int}, v.length = w → (∀ q ∈ L, Ld p w q) → (∀ q ∈ L, cv R q.2 j = 0) → cv R (reduce p L v) j = cv R v j := by
  induction L with
  | nil => exact fun _ _ _ => rfl
  | cons q L ih =>
    intro v hv hl h0
    have hq := hl q (List.mem_cons_self ..)
    rw [red_cons, ih (Rw.lessAt hp.pos hv hq.rw.len _).len (fun a h => hl a (List.mem_cons_of_mem _ h)) (fun a h => h0 a (List.mem_cons_of_mem _ h)), cx_lessAt hp.pos (by rw [hv, hq.rw.len]), h0 q (List.mem_cons_self ..)]
    grind
/-- at the places nothing is left -/
theorem red_place (hp : Pr p) {L : List Lead} : ∀ {v : List Int}, v.length = w → Gd R p w L → ∀ q ∈ L, cv R (reduce p L v) q.1 = 0 := by
  induction L with
  | nil => exact fun _ _ _ h => by cases h
  | cons q L ih =>
    intro v hv g a ha
    have hq := g.ld q (List.mem_cons_self ..)
    have hl := (Rw.lessAt (p := p) hp.pos hv hq.rw.len q.1).len
    rw [red_cons]
    rcases List.mem_cons.mp ha with rfl | ha
    · rw [red_still hp hl g.tail.ld fun b hb => ((List.pairwise_cons.mp g.off).1 b hb).2, cx_lessAt hp.pos (by rw [hv, hq.rw.len]), g.one _ (List.mem_cons_self ..)]
      grind
    · exact ih hl g.tail a ha
/-- what kills the leads sees only what is left -/
theorem red_dt (hp : Pr p) {y : Nat → R} {n : Nat} {L : List Lead} : ∀ {v : List Int}, v.length = w → (∀ q ∈ L, Ld p w q) → (∀ q ∈ L, dt n y (cv R q.2) = 0) → dt n y (cv R (reduce p L v)) = dt n y (cv R v) := by
  induction L with
  | nil => exact fun _ _ _ => rfl
  | cons q L ih =>
    intro v hv hl h0
    have hq := hl q (List.mem_cons_self ..)
    rw [red_cons, ih (Rw.lessAt hp.pos hv hq.rw.len _).len (fun a h => hl a (List.mem_cons_of_mem _ h)) (fun a h => h0 a (List.mem_cons_of_mem _ h)), cv_lessAt hp.pos (by rw [hv, hq.rw.len]), dt_less, h0 q (List.mem_cons_self ..)]
    grind
theorem placeLed_none {r : List Int} (h : placeLed r = none) : ∀ j, at0 r j = 0 := by
  intro j
  by_cases hj : j < r.length
  · unfold placeLed at h
    rw [Option.map_eq_none_iff, List.find?_eq_none] at h
    have hm : (j, at0 r j) ∈ (List.range r.length).zip r := by
      refine List.mem_iff_getElem?.mpr ⟨j, ?_⟩
      rw [List.getElem?_zip_eq_some]
      exact ⟨List.getElem?_range hj, get_some hj⟩
    have := h _ hm
    simpa using this
  · exact at0_ge (by omega)
theorem inv_one (hp : Pr p) {x : Int} (h0 : 0 ≤ x ∧ x < p) (h1 : x ≠ 0) : ((invD p x : Nat) : Int).cast * (x : R) = 1 := by
  have e : ((((invD p x : Nat) : Int) * x).fmod p) = 1 := by
    rcases hp with rfl | rfl
    · obtain rfl : x = 1 := by omega
      decide
    · have : x = 1 ∨ x = 2 := by omega
      rcases this with rfl | rfl <;> decide
  have e2 : ((((invD p x : Nat) : Int) * x : Int) : R) = 1 := by
    rw [← ca_mod (p := p) hp.pos, e]
    exact ca_one
  rw [← e2, Ring.intCast_mul]
theorem cv_led (hp : Pr p) {r : List Int} {j : Nat} (hj : placeLed r = some j) : cv R (ledRow p r) = fun i => ((invD p (at0 r j) : Nat) : Int).cast * cv R r i := by
  unfold ledRow
  rw [hj]
  exact cv_times hp.pos
theorem cx_led (hp : Pr p) {r : List Int} {j i : Nat} (hj : placeLed r = some j) : cv R (ledRow p r) i = ((invD p (at0 r j) : Nat) : Int).cast * cv R r i := by
  rw [cv_led hp hj]
theorem led_one (hp : Pr p) {r : List Int} {j : Nat} (hr : Rw p w r) (hj : placeLed r = some j) : cv R (ledRow p r) j = 1 := by
  rw [cx_led hp hj]
  exact inv_one hp (hr.getD hp.pos j) (placeLed_spec hj).2
/-- what is left of a row -/
abbrev leftR (p : Nat) (L : List Lead) (r : List Int) : List Int := reduce p L r
theorem Gd.perm {L M : List Lead} (g : Gd R p w L) (h : M.Perm L) : Gd R p w M := ⟨fun q hq => g.ld q (h.mem_iff.mp hq), fun q hq => g.one q (h.mem_iff.mp hq), (h.pairwise_iff fun ⟨a, b⟩ => ⟨b, a⟩).mpr g.off⟩
theorem with_none {L : List Lead} {r : List Int} (h : placeLed (reduce p L r) = none) : withRow p L r = (L, true) := by
  unfold withRow
  rw [h]
theorem with_some {L : List Lead} {r : List Int} {j : Nat} (h : placeLed (reduce p L r) = some j) : withRow p L r = (sortL (L.map (fun q => (q.1, lessAt p q.2 (ledRow p (reduce p L r)) j)) ++ [(j, ledRow p (reduce p L r))]), false) := by
  unfold withRow
  rw [h]
theorem Gd.with (hp : Pr p) {L : List Lead} {r : List Int} (hr : Rw p w r) (g : Gd R p w L) : Gd R p w (withRow p L r).1 := by
  cases hz : placeLed (reduce p L r) with
  | none =>
    rw [with_none hz]
    exact g
  | some j =>
    rw [with_some hz]
    have hb := Rw.reduce hp hr g.ld
    obtain ⟨s1, s2⟩ := placeLed_spec hz
    rw [hb.len] at s1
    have ho : Rw p w (ledRow p (reduce p L r)) := .led hp hb
    have h1 : cv R (ledRow p (reduce p L r)) j = 1 := led_one hp hb hz
    have h0 : ∀ q ∈ L, cv R (ledRow p (reduce p L r)) q.1 = 0 := fun q hq => by
      rw [cx_led hp hz, red_place hp hr.len g q hq]
      grind
    refine Gd.perm ?_ (sortL_perm _)
    refine ⟨fun q hq => ?_, fun q hq => ?_, ?_⟩
    · rcases List.mem_append.mp hq with hq | hq
      · obtain ⟨q', hq', rfl⟩ := List.mem_map.mp hq
        exact ⟨(g.ld q' hq').lt, .lessAt hp.pos (g.ld q' hq').rw.len ho.len _⟩
      · rw [List.mem_singleton.mp hq]
        exact ⟨s1, ho⟩
    · rcases List.mem_append.mp hq with hq | hq
      · obtain ⟨q', hq', rfl⟩ := List.mem_map.mp hq
        show cv R (lessAt p q'.2 _ j) q'.1 = 1
        rw [cx_lessAt hp.pos (by rw [(g.ld q' hq').rw.len, ho.len]), g.one q' hq', h0 q' hq']
        grind
      · rw [List.mem_singleton.mp hq]
        exact h1
    · rw [List.pairwise_append]
      refine ⟨?_, List.pairwise_singleton .., fun a ha b hb' => ?_⟩
      · rw [List.pairwise_map]
        refine List.Pairwise.imp_of_mem (fun {a b} ha hb' hab => ?_) g.off
        dsimp only
        rw [cx_lessAt hp.pos (by rw [(g.ld a ha).rw.len, ho.len]), cx_lessAt hp.pos (by rw [(g.ld b hb').rw.len, ho.len]), h0 a ha, h0 b hb', hab.1, hab.2]
        constructor <;> grind
      · rw [List.mem_singleton.mp hb']
        obtain ⟨q', hq', rfl⟩ := List.mem_map.mp ha
        dsimp only
        rw [cx_lessAt hp.pos (by rw [(g.ld q' hq').rw.len, ho.len]), h1, h0 q' hq']
        constructor <;> grind
/-- what kills the leads behind kills the leads ahead, and the row -/
theorem van_with (hp : Pr p) {n : Nat} {y : Nat → R} {L : List Lead} {r : List Int} (hr : Rw p w r) (hl : ∀ q ∈ L, Ld p w q) : (∀ q ∈ (withRow p L r).1, dt n y (cv R q.2) = 0) ↔ (∀ q ∈ L, dt n y (cv R q.2) = 0) ∧ dt n y (cv R r) = 0 := by
  cases hz : placeLed (reduce p L r) with
  | none =>
    rw [with_none hz]
    refine ⟨fun h => ⟨h, ?_⟩, fun h => h.1⟩
    rw [← red_dt hp hr.len hl h]
    refine dt_zero fun j _ => ?_
    unfold cv
    rw [placeLed_none hz]
    exact ca_zero
  | some j =>
    rw [with_some hz]
    have hb := Rw.reduce hp hr hl
    obtain ⟨s1, s2⟩ := placeLed_spec hz
    have ho : Rw p w (ledRow p (reduce p L r)) := .led hp hb
    have h1 : cv R (ledRow p (reduce p L r)) j = 1 := led_one hp hb hz
    have e : dt n y (cv R (ledRow p (reduce p L r))) = ((invD p (at0 (reduce p L r) j) : Nat) : Int).cast * dt n y (cv R (reduce p L r)) := by
      rw [cv_led hp hz, dt_times]
    have hiv := inv_one (R := R) hp (hb.getD hp.pos j) s2
    have e2 : ∀ q ∈ L, dt n y (cv R (lessAt p q.2 (ledRow p (reduce p L r)) j)) = dt n y (cv R q.2) - cv R q.2 j * dt n y (cv R (ledRow p (reduce p L r))) := fun q hq => by
      rw [cv_lessAt hp.pos (by rw [(hl q hq).rw.len, ho.len]), dt_less]
    have hm : ∀ q, q ∈ sortL (L.map (fun q => (q.1, lessAt p q.2 (ledRow p (reduce p L r)) j)) ++ [(j, ledRow p (reduce p L r))]) ↔ (∃ a ∈ L, (a.1, lessAt p a.2 (ledRow p (reduce p L r)) j) = q) ∨ q = (j, ledRow p (reduce p L r)) := fun q => by
      rw [(sortL_perm _).mem_iff, List.mem_append, List.mem_map, List.mem_singleton]
    refine ⟨fun h => ?_, fun h q hq => ?_⟩
    · have k0 : dt n y (cv R (ledRow p (reduce p L r))) = 0 := h (j, ledRow p (reduce p L r)) ((hm _).mpr (.inr rfl))
      have k1 : ∀ q ∈ L, dt n y (cv R q.2) = 0 := fun q hq => by
        have := h (q.1, lessAt p q.2 (ledRow p (reduce p L r)) j) ((hm _).mpr (.inl ⟨q, hq, rfl⟩))
        rw [e2 q hq, k0] at this
        grind
      refine ⟨k1, ?_⟩
      rw [red_dt hp hr.len hl k1] at e
      grind
    · have k0 : dt n y (cv R (ledRow p (reduce p L r))) = 0 := by
        rw [e, red_dt hp hr.len hl h.1, h.2]
        grind
      rcases (hm q).mp hq with ⟨a, ha, rfl⟩ | rfl
      · dsimp only
        rw [e2 a ha, k0, h.1 a ha]
        grind
      · exact k0
theorem fold_good (hp : Pr p) {rows : List (List Int)} : ∀ {L : List Lead}, Gr p w rows → Gd R p w L → Gd R p w (rows.foldl (fun l r => (withRow p l r).1) L) := by
  induction rows with
  | nil => exact fun _ g => g
  | cons r rows ih => exact fun hg g => ih (fun r' h => hg r' (List.mem_cons_of_mem _ h)) (g.with hp (hg r (List.mem_cons_self ..)))
theorem fold_van (hp : Pr p) {n : Nat} {y : Nat → R} {rows : List (List Int)} : ∀ {L : List Lead}, Gr p w rows → (∀ q ∈ L, Ld p w q) → ((∀ q ∈ rows.foldl (fun l r => (withRow p l r).1) L, dt n y (cv R q.2) = 0) ↔ (∀ q ∈ L, dt n y (cv R q.2) = 0) ∧ ∀ r ∈ rows, dt n y (cv R r) = 0) := by
  induction rows with
  | nil => exact fun _ _ => ⟨fun h => ⟨h, fun r h => by cases h⟩, fun h => h.1⟩
  | cons r rows ih =>
    intro L hg hl
    have hr := hg r (List.mem_cons_self ..)
    refine (ih (fun r' h => hg r' (List.mem_cons_of_mem _ h)) (Ld.withRow hp hr hl)).trans ?_
    rw [van_with hp hr hl]
    constructor
    · rintro ⟨⟨a, b⟩, c⟩
      refine ⟨a, fun r' h => ?_⟩
      rcases List.mem_cons.mp h with rfl | h
      · exact b
      · exact c r' h
    · rintro ⟨a, b⟩
      exact ⟨⟨a, b r (List.mem_cons_self ..)⟩, fun r' h => b r' (List.mem_cons_of_mem _ h)⟩
theorem leads_good (hp : Pr p) {rows : List (List Int)} (hg : Gr p w rows) : Gd R p w (leadsOf p rows) := fold_good hp hg .nil
theorem leads_van (hp : Pr p) {n : Nat} {y : Nat → R} {rows : List (List Int)} (hg : Gr p w rows) : (∀ q ∈ leadsOf p rows, dt n y (cv R q.2) = 0) ↔ ∀ r ∈ rows, dt n y (cv R r) = 0 := by
  have h := fold_van (R := R) (n := n) (y := y) hp hg (L := []) (fun q h => by cases h)
  refine h.trans ⟨fun h => h.2, fun h => ⟨fun q h => (by cases h), h⟩⟩
end
end Dry
set_option Elab.async false
set_option linter.all false
set_option maxRecDepth 100000
set_option maxHeartbeats 4000000
set_option autoImplicit false
namespace Dry
open Lean.Grind
section
variable {R : Type} [CommRing R] {p w : Nat} [IsCharP R p]
theorem cv_set {o : List Int} {j i : Nat} {x : Int} (hj : j < o.length) : cv R (o.set j x) i = if i = j then (x : R) else cv R o i := by
  unfold cv at0
  rw [List.getD_eq_getElem?_getD, List.getElem?_set]
  by_cases h : j = i
  · subst h
    rw [if_pos rfl, if_pos rfl, if_pos hj]
    rfl
  · rw [if_neg h, if_neg (Ne.symm h), List.getD_eq_getElem?_getD]
def umF (p : Nat) (f : Nat) (o : List Int) (L : List Lead) : List Int := L.foldl (fun own q => own.set q.1 (((p : Int) - at0 q.2 f).fmod p)) o
theorem umF_len {f : Nat} {L : List Lead} : ∀ {o : List Int}, (umF p f o L).length = o.length := by
  induction L with
  | nil => exact rfl
  | cons q L ih => exact ih.trans (List.length_set ..)
theorem umF_off {f i : Nat} {L : List Lead} : ∀ {o : List Int}, (∀ q ∈ L, q.1 < o.length) → (∀ q ∈ L, q.1 ≠ i) → cv R (umF p f o L) i = cv R o i := by
  induction L with
  | nil => exact fun _ _ => rfl
  | cons q L ih =>
    intro o hl h
    show cv R (umF p f (o.set q.1 (((p : Int) - at0 q.2 f).fmod p)) L) i = _
    rw [ih (fun a ha => by rw [List.length_set]; exact hl a (List.mem_cons_of_mem _ ha)) (fun a ha => h a (List.mem_cons_of_mem _ ha)), cv_set (hl q (List.mem_cons_self ..)), if_neg (Ne.symm (h q (List.mem_cons_self ..)))]
theorem ca_p : ((p : Int) : R) = 0 := by
  have : ((p : Int) : R) = ((0 : Int) : R) := by
    rw [IsCharP.intCast_ext_iff p]
    simp
  rw [this]
  exact ca_zero
theorem good_ne (hp : Pr p) {L : List Lead} (g : Gd R p w L) : L.Pairwise fun a b => a.1 ≠ b.1 := by
  refine List.Pairwise.imp_of_mem (fun {a b} ha hb hab e => ?_) g.off
  have h1 := g.one a ha
  rw [e, hab.1] at h1
  exact one_ne hp h1.symm
theorem umF_at (hp : Pr p) {f : Nat} {L : List Lead} : ∀ {o : List Int}, (∀ q ∈ L, q.1 < o.length) → (L.Pairwise fun a b => a.1 ≠ b.1) → ∀ q ∈ L, cv R (umF p f o L) q.1 = - cv R q.2 f := by
  induction L with
  | nil => exact fun _ _ _ h => by cases h
  | cons q L ih =>
    intro o hl h a ha
    have hl' : ∀ a ∈ L, a.1 < (o.set q.1 (((p : Int) - at0 q.2 f).fmod p)).length := fun a ha => by rw [List.length_set]; exact hl a (List.mem_cons_of_mem _ ha)
    show cv R (umF p f (o.set q.1 (((p : Int) - at0 q.2 f).fmod p)) L) a.1 = _
    rcases List.mem_cons.mp ha with rfl | ha
    · rw [umF_off hl' (fun b hb => Ne.symm ((List.pairwise_cons.mp h).1 b hb)), cv_set (hl a (List.mem_cons_self ..)), if_pos rfl, ca_mod hp.pos, Ring.intCast_sub, ca_p]
      show 0 - cv R a.2 f = - cv R a.2 f
      grind
    · exact ih hl' (List.pairwise_cons.mp h).2 a ha
theorem um_eq {f : Nat} {L : List Lead} : unmarkedOf p w L f = umF p f (unitRow w f) L := rfl
theorem unit_len {n f : Nat} : (unitRow n f).length = n := by
  unfold unitRow
  rw [List.length_map, List.length_range]
section
variable {L : List Lead} {f : Nat}
theorem um_f (hp : Pr p) (g : Gd R p w L) (hf : f < w) (hn : ∀ q ∈ L, q.1 ≠ f) : cv R (unmarkedOf p w L f) f = 1 := by
  rw [um_eq, umF_off (fun q hq => by rw [unit_len]; exact (g.ld q hq).lt) hn, cv_unit f hf, if_pos rfl]
theorem um_off (hp : Pr p) (g : Gd R p w L) {i : Nat} (hi : i < w) (hif : i ≠ f) (hn : ∀ q ∈ L, q.1 ≠ i) : cv R (unmarkedOf p w L f) i = 0 := by
  rw [um_eq, umF_off (fun q hq => by rw [unit_len]; exact (g.ld q hq).lt) hn, cv_unit i hi, if_neg hif]
theorem um_at (hp : Pr p) (g : Gd R p w L) : ∀ q ∈ L, cv R (unmarkedOf p w L f) q.1 = - cv R q.2 f := by
  rw [um_eq]
  exact umF_at hp (fun q hq => by rw [unit_len]; exact (g.ld q hq).lt) (good_ne hp g)
/-- the row of a free place kills the leads -/
theorem pw_at {q a : Lead} (g : Gd R p w L) (hq : q ∈ L) (ha : a ∈ L) (hne : q.1 ≠ a.1) : cv R q.2 a.1 = 0 := by
  have o := g.off
  clear g
  induction L with
  | nil => cases hq
  | cons b L ih =>
    obtain ⟨o1, o2⟩ := List.pairwise_cons.mp o
    rcases List.mem_cons.mp hq with e1 | hq <;> rcases List.mem_cons.mp ha with e2 | ha
    · rw [e1, e2] at hne
      exact absurd rfl hne
    · rw [e1]
      exact (o1 a ha).1
    · rw [e2]
      exact (o1 q hq).2
    · exact ih hq ha o2
theorem um_kill (hp : Pr p) (g : Gd R p w L) (hf : f < w) (hn : ∀ q ∈ L, q.1 ≠ f) : ∀ q ∈ L, dt w (cv R (unmarkedOf p w L f)) (cv R q.2) = 0 := by
  intro q hq
  have e : dt w (cv R (unmarkedOf p w L f)) (cv R q.2) = cv R (unmarkedOf p w L f) f * cv R q.2 f + cv R (unmarkedOf p w L f) q.1 * cv R q.2 q.1 := by
    refine sm_two hf (g.ld q hq).lt (Ne.symm (hn q hq)) fun i hi h1 h2 => ?_
    by_cases h : ∃ a ∈ L, a.1 = i
    · obtain ⟨a, ha, rfl⟩ := h
      rw [pw_at g hq ha (Ne.symm h2)]
      grind
    · rw [um_off hp g hi h1 fun a ha e => h ⟨a, ha, e⟩]
      grind
  rw [e, um_f hp g hf hn, um_at hp g q hq, g.one q hq]
  grind
/-- and sees the digit there, if nothing is at the places -/
theorem um_see (hp : Pr p) (g : Gd R p w L) (hf : f < w) (hn : ∀ q ∈ L, q.1 ≠ f) {v : Nat → R} (h0 : ∀ q ∈ L, v q.1 = 0) : dt w (cv R (unmarkedOf p w L f)) v = v f := by
  have e : dt w (cv R (unmarkedOf p w L f)) v = cv R (unmarkedOf p w L f) f * v f := by
    refine sm_one hf fun i hi h1 => ?_
    by_cases h : ∃ a ∈ L, a.1 = i
    · obtain ⟨a, ha, rfl⟩ := h
      rw [h0 a ha]
      grind
    · rw [um_off hp g hi h1 fun a ha e => h ⟨a, ha, e⟩]
      grind
  rw [e, um_f hp g hf hn]
  grind
/-- of any row it sees the digit that is left there -/
theorem um_left (hp : Pr p) (g : Gd R p w L) (hf : f < w) (hn : ∀ q ∈ L, q.1 ≠ f) {r : List Int} (hr : r.length = w) : dt w (cv R (unmarkedOf p w L f)) (cv R r) = cv R (reduce p L r) f := by
  rw [← red_dt hp hr g.ld (um_kill hp g hf hn), um_see hp g hf hn (red_place hp hr g)]
/-- a place where something is left is free -/
theorem left_free (hp : Pr p) (g : Gd R p w L) {r : List Int} (hr : r.length = w) (h : cv R (reduce p L r) f ≠ 0) : ∀ q ∈ L, q.1 ≠ f := fun q hq e => h (by rw [← e]; exact red_place hp hr g q hq)
end
/-! ### what is spanned -/
theorem spanned_kill (hp : Pr p) {rows : List (List Int)} {r : List Int} (hg : Gr p w rows) (hr : Rw p w r) (h : isSpanned p rows r = true) {n : Nat} {y : Nat → R} (hy : ∀ a ∈ rows, dt n y (cv R a) = 0) : dt n y (cv R r) = 0 := by
  unfold isSpanned at h
  cases hz : placeLed (reduce p (leadsOf p rows) r) with
  | some j =>
    rw [with_some hz] at h
    cases h
  | none =>
    have hv := (leads_van hp hg).mpr hy
    have := (van_with (R := R) (n := n) (y := y) hp hr (leads_good (R := R) hp hg).ld).mp (by rw [with_none hz]; exact hv)
    exact this.2
theorem unspanned (R : Type) [CommRing R] {p w : Nat} [IsCharP R p] (hp : Pr p) {rows : List (List Int)} {r : List Int} (hg : Gr p w rows) (hr : Rw p w r) (h : isSpanned p rows r = false) : ∃ u, Rw p w u ∧ (∀ a ∈ rows, dt w (cv R u) (cv R a) = 0) ∧ dt w (cv R u) (cv R r) ≠ 0 := by
  unfold isSpanned at h
  cases hz : placeLed (reduce p (leadsOf p rows) r) with
  | none =>
    rw [with_none hz] at h
    cases h
  | some f =>
    obtain ⟨s1, s2⟩ := placeLed_spec hz
    have g : Gd R p w (leadsOf p rows) := leads_good hp hg
    have hb := Rw.reduce hp hr g.ld
    rw [hb.len] at s1
    have s3 : cv R (reduce p (leadsOf p rows) r) f ≠ 0 := ca_ne R (hb.getD hp.pos f) s2
    have hn := left_free hp g hr.len s3
    exact ⟨unmarkedOf p w (leadsOf p rows) f, ⟨unmarkedOf_len, (unmarkedOf_rw hp).dig⟩, (leads_van hp hg).mp (um_kill hp g s1 hn), by rw [um_left hp g s1 hn hr.len]; exact s3⟩
/-! ### reversed -/
theorem cv_rev {r : List Int} {j : Nat} (hr : r.length = w) (hj : j < w) : cv R r.reverse j = cv R r (w - 1 - j) := by
  unfold cv
  rw [at0_lt (by rw [List.length_reverse, hr]; exact hj), at0_lt (by omega), List.getElem_reverse]
  congr 2
  simp only [hr]
theorem sm_rev {n : Nat} {f : Nat → R} : sm n (fun j => f (n - 1 - j)) = sm n f := by
  induction n with
  | zero => rfl
  | succ n ih =>
    rw [sm_head]
    show f (n + 1 - 1 - 0) + sm n (fun j => f (n + 1 - 1 - (j + 1))) = sm n f + f n
    have e : sm n (fun j => f (n + 1 - 1 - (j + 1))) = sm n (fun j => f (n - 1 - j)) := sm_congr fun j _ => by
      congr 1
      omega
    rw [e, ih]
    show f n + sm n f = sm n f + f n
    grind
theorem back_good (hp : Pr p) {rows : List (List Int)} (hg : Gr p w rows) : Gd R p w (backLeads p w rows) := by
  have hgr : Gr p w (rows.map List.reverse) := fun r hr => by
    obtain ⟨r', hr', rfl⟩ := List.mem_map.mp hr
    exact ⟨by rw [List.length_reverse, (hg r' hr').len], fun x hx => (hg r' hr').dig x (List.mem_reverse.mp hx)⟩
  have g : Gd R p w (leadsOf p (rows.map List.reverse)) := leads_good hp hgr
  have key : ∀ a ∈ leadsOf p (rows.map List.reverse), ∀ b ∈ leadsOf p (rows.map List.reverse), cv R a.2.reverse (w - 1 - b.1) = cv R a.2 b.1 := fun a ha b hb => by
    have h1 := (g.ld b hb).lt
    rw [cv_rev (g.ld a ha).rw.len (by omega)]
    congr 1
    omega
  refine ⟨Ld.back hp hg, fun q hq => ?_, ?_⟩
  · obtain ⟨q', hq', rfl⟩ := List.mem_map.mp hq
    exact (key q' hq' q' hq').trans (g.one q' hq')
  · unfold backLeads
    rw [List.pairwise_map]
    refine List.Pairwise.imp_of_mem (fun {a b} ha hb hab => ?_) g.off
    exact ⟨(key a ha b hb).trans hab.1, (key b hb a ha).trans hab.2⟩
theorem back_van (hp : Pr p) {y : Nat → R} {rows : List (List Int)} (hg : Gr p w rows) : (∀ q ∈ backLeads p w rows, dt w y (cv R q.2) = 0) ↔ ∀ r ∈ rows, dt w y (cv R r) = 0 := by
  have hgr : Gr p w (rows.map List.reverse) := fun r hr => by
    obtain ⟨r', hr', rfl⟩ := List.mem_map.mp hr
    exact ⟨by rw [List.length_reverse, (hg r' hr').len], fun x hx => (hg r' hr').dig x (List.mem_reverse.mp hx)⟩
  have e : ∀ r : List Int, r.length = w → dt w y (cv R r.reverse) = dt w (fun j => y (w - 1 - j)) (cv R r) := fun r hr => by
    unfold dt
    rw [← sm_rev]
    refine sm_congr fun j hj => ?_
    rw [cv_rev hr (by omega)]
    congr 2
    omega
  have h := leads_van (R := R) (n := w) (y := fun j => y (w - 1 - j)) hp hgr
  have g : Gd R p w (leadsOf p (rows.map List.reverse)) := leads_good hp hgr
  refine Iff.trans ⟨fun k q hq => ?_, fun k q hq => ?_⟩ (h.trans ⟨fun k r hr => ?_, fun k r hr => ?_⟩)
  · rw [← e _ (g.ld q hq).rw.len]
    exact k (w - 1 - q.1, q.2.reverse) (List.mem_map.mpr ⟨q, hq, rfl⟩)
  · obtain ⟨q', hq', rfl⟩ := List.mem_map.mp hq
    dsimp only
    rw [e _ (g.ld q' hq').rw.len]
    exact k q' hq'
  · have k1 := k r.reverse (List.mem_map.mpr ⟨r, hr, rfl⟩)
    rw [← e _ (by rw [List.length_reverse, (hg r hr).len]), List.reverse_reverse] at k1
    exact k1
  · obtain ⟨r', hr', rfl⟩ := List.mem_map.mp hr
    rw [← e _ (by rw [List.length_reverse, (hg r' hr').len]), List.reverse_reverse]
    exact k r' hr'
theorem unmarked_kill (hp : Pr p) {rows : List (List Int)} (hg : Gr p w rows) : ∀ u ∈ unmarked p w rows, Rw p w u ∧ ∀ a ∈ rows, dt w (cv R u) (cv R a) = 0 := by
  intro u hu
  obtain ⟨f, hf, rfl⟩ := List.mem_map.mp hu
  obtain ⟨f1, f2⟩ := List.mem_filter.mp hf
  have g : Gd R p w (backLeads p w rows) := back_good hp hg
  have hn : ∀ q ∈ backLeads p w rows, q.1 ≠ f := fun q hq e => by
    have : f ∈ (backLeads p w rows).map Prod.fst := List.mem_map.mpr ⟨q, hq, e⟩
    rw [← List.contains_iff_mem] at this
    rw [this] at f2
    cases f2
  exact ⟨unmarkedOf_rw hp, (back_van hp hg).mp (um_kill hp g (List.mem_range.mp f1) hn)⟩
/-- a row that tells that another one is not spanned -/
structure BarOk (R : Type) [CommRing R] (p w : Nat) (rows : List (List Int)) (r u : List Int) : Prop where
  rw : Rw p w u
  kill : ∀ a ∈ rows, dt w (cv R u) (cv R a) = 0
  see : dt w (cv R u) (cv R r) ≠ 0
theorem bar_some (R : Type) [CommRing R] {p w : Nat} [IsCharP R p] (hp : Pr p) {rows : List (List Int)} {r u : List Int} (hg : Gr p w rows) (hr : Rw p w r) (h : barRow p w rows r = some u) : BarOk R p w rows r u := by
  obtain ⟨h1, h2⟩ := unmarked_kill (R := R) hp hg u (List.mem_of_find?_eq_some h)
  refine ⟨h1, h2, ?_⟩
  have h3 := List.find?_some h
  rw [← ca_prod (R := R) hp.pos h1.len hr.len]
  refine ca_ne R (p := p) ?_ (by simpa using h3)
  unfold rowProd
  exact fmod_dig hp.pos _
theorem bar_iff (R : Type) [CommRing R] {p w : Nat} [IsCharP R p] (hp : Pr p) {rows : List (List Int)} {r : List Int} (hg : Gr p w rows) (hr : Rw p w r) : (barRow p w rows r).isSome = !isSpanned p rows r := by
  cases hs : isSpanned p rows r with
  | true =>
    cases hb : barRow p w rows r with
    | none => rfl
    | some u =>
      have b := bar_some R hp hg hr hb
      exact absurd (spanned_kill hp hg hr hs b.kill) b.see
  | false =>
    obtain ⟨y, hy, y1, y2⟩ := unspanned R hp hg hr hs
    cases hb : barRow p w rows r with
    | some u => rfl
    | none =>
      exfalso
      have g : Gd R p w (backLeads p w rows) := back_good hp hg
      have y3 := (back_van hp hg).mpr y1
      rw [← red_dt hp hr.len g.ld y3] at y2
      refine y2 (dt_zero fun f hf => Classical.byContradiction fun hne => ?_)
      have hn := left_free hp g hr.len hne
      rw [← um_left hp g hf hn hr.len] at hne
      have hm : unmarkedOf p w (backLeads p w rows) f ∈ unmarked p w rows := List.mem_map.mpr ⟨f, List.mem_filter.mpr ⟨List.mem_range.mpr hf, by
        have : ¬ ((backLeads p w rows).map Prod.fst).contains f = true := fun e => by
          obtain ⟨q, hq, rfl⟩ := List.mem_map.mp (List.contains_iff_mem.mp e)
          exact hn q hq rfl
        simpa using this⟩, rfl⟩
      have := List.find?_eq_none.mp hb _ hm
      rw [← ca_prod (R := R) hp.pos unmarkedOf_len hr.len] at hne
      refine hne ?_
      have e : rowProd p (unmarkedOf p w (backLeads p w rows) f) r = 0 := by simpa using this
      rw [e]
      exact ca_zero
end
end Dry
set_option Elab.async false
set_option linter.all false
set_option maxRecDepth 100000
set_option maxHeartbeats 4000000
set_option autoImplicit false
namespace Dry
open Lean.Grind
section
variable {R : Type} [CommRing R] {p w : Nat} [IsCharP R p]
theorem placeLed_first {r : List Int} {f j : Nat} (h : placeLed r = some f) (hj : at0 r j ≠ 0) : f ≤ j := by
  have hl : j < r.length := Classical.byContradiction fun hn => hj (at0_ge (by omega))
  unfold placeLed at h
  rw [Option.map_eq_some_iff] at h
  obtain ⟨⟨a, x⟩, h1, rfl⟩ := h
  obtain ⟨_, i, hi, e, h2⟩ := List.find?_eq_some_iff_getElem.mp h1
  rw [List.getElem_zip, List.getElem_range] at e
  have e1 := congrArg Prod.fst e
  dsimp only at e1 ⊢
  refine Classical.byContradiction fun hn => ?_
  have := h2 j (by omega)
  rw [List.getElem_zip] at this
  rw [at0_lt hl] at hj
  simp [hj] at this
theorem leads_snoc {rows : List (List Int)} {r : List Int} : leadsOf p (rows ++ [r]) = (withRow p (leadsOf p rows) r).1 := by
  unfold leadsOf
  rw [List.foldl_append]
  rfl
/-- all places are low if rows that are low there tell each row from those ahead -/
theorem low (hp : Pr p) {n : Nat} : ∀ (k : Nat) (rows : List (List Int)), rows.length = k → Gr p n rows → (∀ i, i < k → ∃ y : Nat → R, (∀ j, w ≤ j → y j = 0) ∧ (∀ j, j < i → dt n y (cv R (rows.getD j [])) = 0) ∧ dt n y (cv R (rows.getD i [])) ≠ 0) → ∀ q ∈ leadsOf p rows, q.1 < w := by
  intro k
  induction k with
  | zero =>
    intro rows h _ _ q hq
    obtain rfl := List.length_eq_zero_iff.mp h
    cases hq
  | succ k ih =>
    intro rows h hg hy q hq
    have hne : rows ≠ [] := fun e => by rw [e] at h; cases h
    obtain ⟨A, x, rfl⟩ : ∃ A x, rows = A ++ [x] := ⟨_, _, (List.dropLast_concat_getLast hne).symm⟩
    have hA : A.length = k := by simpa using h
    have hgA : Gr p n A := fun r hr => hg r (List.mem_append_left _ hr)
    have hx : Rw p n x := hg x (List.mem_append_right _ (List.mem_singleton.mpr rfl))
    have gA : ∀ j, j < k → (A ++ [x]).getD j [] = A.getD j [] := fun j hj => by
      rw [List.getD_eq_getElem?_getD, List.getD_eq_getElem?_getD, List.getElem?_append_left (by omega)]
    have gx : (A ++ [x]).getD k [] = x := by
      rw [List.getD_eq_getElem?_getD, List.getElem?_append_right (by omega), hA, Nat.sub_self]
      rfl
    have hlow := ih A hA hgA fun i hi => by
      obtain ⟨y, y1, y2, y3⟩ := hy i (by omega)
      refine ⟨y, y1, fun j hj => ?_, ?_⟩
      · rw [← gA j (by omega)]
        exact y2 j hj
      · rw [← gA i hi]
        exact y3
    obtain ⟨y, y1, y2, y3⟩ := hy k (by omega)
    rw [gx] at y3
    have yk : ∀ a ∈ A, dt n y (cv R a) = 0 := fun a ha => by
      obtain ⟨j, hj, rfl⟩ := List.getElem_of_mem ha
      have := y2 j (by omega)
      rw [gA j (by omega), List.getD_eq_getElem?_getD, List.getElem?_eq_getElem hj] at this
      exact this
    have g : Gd R p n (leadsOf p A) := leads_good hp hgA
    have yl := (leads_van hp hgA).mpr yk
    rw [← red_dt hp hx.len g.ld yl] at y3
    rw [leads_snoc] at hq
    cases hz : placeLed (reduce p (leadsOf p A) x) with
    | none =>
      rw [with_none hz] at hq
      exact hlow q hq
    | some f =>
      rw [with_some hz] at hq
      rw [(sortL_perm _).mem_iff] at hq
      rcases List.mem_append.mp hq with hq | hq
      · obtain ⟨q', hq', rfl⟩ := List.mem_map.mp hq
        exact hlow q' hq'
      · rw [List.mem_singleton.mp hq]
        show f < w
        refine Classical.byContradiction fun hn => y3 (sm_zero fun j _ => ?_)
        by_cases hj : w ≤ j
        · rw [y1 j hj]
          grind
        · have : at0 (reduce p (leadsOf p A) x) j = 0 := Classical.byContradiction fun h0 => by
            have := placeLed_first hz h0
            omega
          unfold cv
          rw [this, ca_zero]
          grind
/-! ### the kept rows -/
theorem fresh_inv (hp : Pr p) {rows : List (List Int)} : ∀ (xs : List (Nat × List Int)) (b : List Lead × List Nat), (∀ q ∈ xs, Rw p w q.2 ∧ rows.getD q.1 [] = q.2) →
    Gd R p w b.1 → (∀ y : Nat → R, (∀ n ∈ b.2, dt w y (cv R (rows.getD n [])) = 0) ↔ ∀ q ∈ b.1, dt w y (cv R q.2) = 0) →
    (∀ i, i < b.2.length → ∃ y : Nat → R, (∀ j, j < i → dt w y (cv R (rows.getD (b.2.getD j 0) [])) = 0) ∧ dt w y (cv R (rows.getD (b.2.getD i 0) [])) ≠ 0) →
    (xs.foldl (freshStep p) b).1 = (xs.map Prod.snd).foldl (fun l r => (withRow p l r).1) b.1 ∧
    (∀ y : Nat → R, (∀ n ∈ (xs.foldl (freshStep p) b).2, dt w y (cv R (rows.getD n [])) = 0) ↔ ∀ q ∈ (xs.foldl (freshStep p) b).1, dt w y (cv R q.2) = 0) ∧
    (∀ i, i < (xs.foldl (freshStep p) b).2.length → ∃ y : Nat → R, (∀ j, j < i → dt w y (cv R (rows.getD ((xs.foldl (freshStep p) b).2.getD j 0) [])) = 0) ∧ dt w y (cv R (rows.getD ((xs.foldl (freshStep p) b).2.getD i 0) [])) ≠ 0) := by
  intro xs
  induction xs with
  | nil => exact fun b _ _ h1 h2 => ⟨rfl, h1, h2⟩
  | cons x xs ih =>
    intro b hx g h1 h2
    obtain ⟨hr, hd⟩ := hx x (List.mem_cons_self ..)
    refine (ih (freshStep p b x) (fun q hq => hx q (List.mem_cons_of_mem _ hq)) (g.with hp hr) (fun y => ?_) ?_)
    · show (∀ n ∈ (if (withRow p b.1 x.2).2 = true then b.2 else b.2 ++ [x.1]), dt w y (cv R (rows.getD n [])) = 0) ↔ ∀ q ∈ (withRow p b.1 x.2).1, dt w y (cv R q.2) = 0
      rw [van_with hp hr g.ld]
      cases hz : placeLed (reduce p b.1 x.2) with
      | none =>
        rw [with_none hz, if_pos rfl, h1]
        refine ⟨fun h => ⟨h, ?_⟩, fun h => h.1⟩
        exact ((van_with hp hr g.ld).mp (by rw [with_none hz]; exact h)).2
      | some f =>
        rw [with_some hz, if_neg Bool.false_ne_true, ← h1]
        constructor
        · intro h
          refine ⟨fun n hn => h n (List.mem_append_left _ hn), ?_⟩
          rw [← hd]
          exact h x.1 (List.mem_append_right _ (List.mem_singleton.mpr rfl))
        · rintro ⟨a, c⟩ n hn
          rcases List.mem_append.mp hn with hn | hn
          · exact a n hn
          · rw [List.mem_singleton.mp hn, hd]
            exact c
    · show ∀ i, i < (if (withRow p b.1 x.2).2 = true then b.2 else b.2 ++ [x.1]).length → ∃ y : Nat → R, (∀ j, j < i → dt w y (cv R (rows.getD ((if (withRow p b.1 x.2).2 = true then b.2 else b.2 ++ [x.1]).getD j 0) [])) = 0) ∧ dt w y (cv R (rows.getD ((if (withRow p b.1 x.2).2 = true then b.2 else b.2 ++ [x.1]).getD i 0) [])) ≠ 0
      cases hz : placeLed (reduce p b.1 x.2) with
      | none =>
        rw [with_none hz, if_pos rfl]
        exact h2
      | some f =>
        rw [with_some hz, if_neg Bool.false_ne_true]
        intro i hi
        rw [List.length_append, List.length_singleton] at hi
        have gl : ∀ j, j < b.2.length → (b.2 ++ [x.1]).getD j 0 = b.2.getD j 0 := fun j hj => by
          rw [List.getD_eq_getElem?_getD, List.getD_eq_getElem?_getD, List.getElem?_append_left hj]
        by_cases hi' : i < b.2.length
        · obtain ⟨y, y1, y2⟩ := h2 i hi'
          refine ⟨y, fun j hj => ?_, ?_⟩
          · rw [gl j (by omega)]
            exact y1 j hj
          · rw [gl i hi']
            exact y2
        · obtain rfl : i = b.2.length := by omega
          obtain ⟨s1, s2⟩ := placeLed_spec hz
          have hb := Rw.reduce hp hr g.ld
          rw [hb.len] at s1
          have s3 : cv R (reduce p b.1 x.2) f ≠ 0 := ca_ne R (hb.getD hp.pos f) s2
          have hn := left_free hp g hr.len s3
          refine ⟨cv R (unmarkedOf p w b.1 f), fun j hj => ?_, ?_⟩
          · rw [gl j hj]
            refine (h1 _).mpr (um_kill hp g s1 hn) _ ?_
            rw [List.getD_eq_getElem?_getD, List.getElem?_eq_getElem hj]
            exact List.getElem_mem hj
          · have e : (b.2 ++ [x.1]).getD b.2.length 0 = x.1 := by
              rw [List.getD_eq_getElem?_getD, List.getElem?_append_right (Nat.le_refl _), Nat.sub_self]
              rfl
            rw [e, hd, um_left hp g s1 hn hr.len]
            exact s3
theorem fresh_all (R : Type) [CommRing R] {p w : Nat} [IsCharP R p] (hp : Pr p) {rows : List (List Int)} (hg : Gr p w rows) :
    (∀ y : Nat → R, (∀ n ∈ freshIn p rows, dt w y (cv R (rows.getD n [])) = 0) → ∀ r ∈ rows, dt w y (cv R r) = 0) ∧
    (∀ i, i < (freshIn p rows).length → ∃ y : Nat → R, (∀ j, j < i → dt w y (cv R (rows.getD ((freshIn p rows).getD j 0) [])) = 0) ∧ dt w y (cv R (rows.getD ((freshIn p rows).getD i 0) [])) ≠ 0) := by
  obtain ⟨h1, h2, h3⟩ := fresh_inv (R := R) hp (rows := rows) ((List.range rows.length).zip rows) ([], []) (fun q hq => by
    obtain ⟨i, hi⟩ := List.mem_iff_getElem?.mp hq
    obtain ⟨e1, e2⟩ := List.getElem?_zip_eq_some.mp hi
    have hil : i < rows.length := (List.getElem?_eq_some_iff.mp e2).1
    rw [List.getElem?_range hil] at e1
    cases e1
    refine ⟨hg _ (List.mem_of_getElem? e2), ?_⟩
    rw [List.getD_eq_getElem?_getD, e2]
    rfl) .nil (fun y => ⟨fun _ q h => (by cases h), fun _ q h => (by cases h)⟩) (fun i hi => by cases hi)
  refine ⟨fun y hy => ?_, h3⟩
  have h4 := (h2 y).mp hy
  rw [h1, List.map_snd_zip (by rw [List.length_range]; exact Nat.le_refl _)] at h4
  exact (leads_van hp hg).mp h4
/-! ### the wide rows -/
theorem cv_app1 {a b : List Int} {j : Nat} (ha : a.length = w) (hj : j < w) : cv R (a ++ b) j = cv R a j := by
  unfold cv at0
  rw [List.getD_eq_getElem?_getD, List.getD_eq_getElem?_getD, List.getElem?_append_left (by omega)]
theorem cv_app2 {a b : List Int} {j : Nat} (ha : a.length = w) : cv R (a ++ b) (w + j) = cv R b j := by
  unfold cv at0
  rw [List.getD_eq_getElem?_getD, List.getD_eq_getElem?_getD, List.getElem?_append_right (by omega), ha, Nat.add_sub_cancel_left]
theorem dt_app {n : Nat} {y : Nat → R} {a b : List Int} (ha : a.length = w) : dt (w + n) y (cv R (a ++ b)) = dt w y (cv R a) + dt n (fun j => y (w + j)) (cv R b) := by
  unfold dt
  rw [sm_split]
  congr 1
  · exact sm_congr fun j hj => by rw [cv_app1 ha hj]
  · exact sm_congr fun j hj => by rw [cv_app2 ha]
theorem wide_get {rows : List (List Int)} {kept : List Nat} {i : Nat} (hi : i < kept.length) : (wideRows rows kept).getD i [] = rows.getD (kept.getD i 0) [] ++ unitRow kept.length i := by
  unfold wideRows
  rw [List.getD_eq_getElem?_getD, List.getElem?_map, List.getElem?_eq_getElem (by rw [List.length_zip, List.length_range]; omega), List.getElem_zip, List.getElem_range, List.getD_eq_getElem?_getD (l := kept), List.getElem?_eq_getElem hi]
  rfl
theorem getD_row {rows : List (List Int)} (hg : Gr p w rows) {i : Nat} (hi : i < rows.length) : Rw p w (rows.getD i []) := by
  rw [List.getD_eq_getElem?_getD, List.getElem?_eq_getElem hi]
  exact hg _ (List.getElem_mem hi)
theorem fresh_at {rows : List (List Int)} {i : Nat} (hi : i < (freshIn p rows).length) : (freshIn p rows).getD i 0 < rows.length := by
  rw [List.getD_eq_getElem?_getD, List.getElem?_eq_getElem hi]
  exact fresh_sub _ (List.getElem_mem hi)
theorem wide_low (R : Type) [CommRing R] {p w : Nat} [IsCharP R p] (hp : Pr p) {rows : List (List Int)} (hg : Gr p w rows) : ∀ q ∈ leadsOf p (wideRows rows (freshIn p rows)), q.1 < w := by
  refine low (R := R) hp (n := w + (freshIn p rows).length) _ _ wide_len (wide_gr hp hg) fun i hi => ?_
  obtain ⟨y, y1, y2⟩ := (fresh_all R hp hg).2 i hi
  have key : ∀ j, j < (freshIn p rows).length → dt (w + (freshIn p rows).length) (fun j => if j < w then y j else 0) (cv R ((wideRows rows (freshIn p rows)).getD j [])) = dt w y (cv R (rows.getD ((freshIn p rows).getD j 0) [])) := fun j hj => by
    rw [wide_get hj, dt_app (getD_row hg (fresh_at hj)).len]
    have e1 : dt w (fun j => if j < w then y j else 0) (cv R (rows.getD ((freshIn p rows).getD j 0) [])) = dt w y (cv R (rows.getD ((freshIn p rows).getD j 0) [])) := sm_congr fun j hj => by
      dsimp only
      rw [if_pos hj]
    have e2 : dt (freshIn p rows).length (fun j => if w + j < w then y (w + j) else 0) (cv R (unitRow (freshIn p rows).length j)) = 0 := sm_zero fun j hj => by
      dsimp only
      rw [if_neg (by omega)]
      grind
    rw [e1, e2]
    grind
  refine ⟨fun j => if j < w then y j else 0, fun j hj => if_neg (by omega), fun j hj => ?_, ?_⟩
  · rw [key j (by omega)]
    exact y1 j hj
  · rw [key i hi]
    exact y2
theorem take_at {z : List Int} {n j : Nat} (hj : j < n) : at0 (z.take n) j = at0 z j := by
  unfold at0
  rw [List.getD_eq_getElem?_getD, List.getD_eq_getElem?_getD, List.getElem?_take, if_pos hj]
theorem drop_cv {z : List Int} {n j : Nat} : cv R (z.drop n) j = cv R z (n + j) := by
  unfold cv at0
  rw [List.getD_eq_getElem?_getD, List.getD_eq_getElem?_getD, List.getElem?_drop]
/-- the sum by places is the sum over the kept -/
theorem sm_lookup {n : Nat} {g : Nat → R} : ∀ (K : List Nat) (T : List Int), K.Nodup → (∀ k ∈ K, k < n) → T.length = K.length →
    sm n (fun i => ((((K.map fun (n : Nat) => (n : Int)).zip T).lookup (i : Int)).getD 0 : Int).cast * g i) = sm K.length fun k => cv R T k * g (K.getD k 0) := by
  intro K
  induction K with
  | nil =>
    intro T _ _ _
    refine sm_zero fun i _ => ?_
    show ((0 : Int) : R) * g i = 0
    rw [ca_zero]
    grind
  | cons k K ih =>
    intro T hn hk ht
    obtain ⟨x, T, rfl⟩ := List.exists_cons_of_length_eq_add_one ht
    obtain ⟨n1, n2⟩ := List.nodup_cons.mp hn
    have h := ih T n2 (fun a ha => hk a (List.mem_cons_of_mem _ ha)) (by simpa using ht)
    show _ = sm (K.length + 1) _
    rw [sm_head]
    show _ = (x : R) * g k + sm K.length fun k => cv R T k * g (K.getD k 0)
    rw [← h]
    have e : ∀ i, i < n → ((((((k :: K).map fun (n : Nat) => (n : Int)).zip (x :: T)).lookup (i : Int)).getD 0 : Int) : R) * g i = (if i = k then (x : R) * g k else 0) + ((((K.map fun (n : Nat) => (n : Int)).zip T).lookup (i : Int)).getD 0 : Int).cast * g i := fun i _ => by
      show (((List.lookup (i : Int) (((k : Int), x) :: (K.map fun (n : Nat) => (n : Int)).zip T)).getD 0 : Int) : R) * g i = _
      rw [List.lookup_cons]
      by_cases hik : i = k
      · subst hik
        have hnone : ((K.map fun (n : Nat) => (n : Int)).zip T).lookup (i : Int) = none := by
          rw [List.lookup_eq_none_iff]
          intro a ha
          have := (List.of_mem_zip (show (a.1, a.2) ∈ _ from ha)).1
          obtain ⟨b, hb, e⟩ := List.mem_map.mp this
          simp only [bne_iff_ne, ne_eq, beq_iff_eq]
          intro z
          rw [← e] at z
          exact n1 (by rw [Int.ofNat.inj z]; exact hb)
        rw [hnone, if_pos rfl, beq_self_eq_true]
        show (x : R) * g i = (x : R) * g i + ((0 : Int) : R) * g i
        rw [ca_zero]
        grind
      · have : ((i : Int) == (k : Int)) = false := beq_eq_false_iff_ne.mpr (by omega)
        rw [this, if_neg hik]
        show (((List.lookup _ _).getD 0 : Int) : R) * g i = _
        grind
    rw [sm_congr e, sm_add]
    congr 1
    rw [sm_one (j := k) (hk k (List.mem_cons_self ..)) (fun i _ hi => if_neg hi), if_pos rfl]
/-- what is told for a row -/
structure MultOk (p w : Nat) (rows : List (List Int)) (r m : List Int) : Prop where
  rw : Rw p rows.length m
  eq : combo p w rows m = r
theorem combo_rw (hp : 0 < p) {rows : List (List Int)} {ds : List Int} (hr : ∀ r ∈ rows, r.length = w) : Rw p w (combo p w rows ds) := by
  unfold combo
  have go : ∀ (xs : List (List Int × Int)) (a : List Int), (∀ q ∈ xs, q.1.length = w) → Rw p w a → Rw p w (xs.foldl (fun f q => rowSum p f (rowTimes p q.2 q.1)) a) := by
    intro xs
    induction xs with
    | nil => exact fun _ _ h => h
    | cons x xs ih => exact fun a h1 h2 => ih _ (fun q hq => h1 q (List.mem_cons_of_mem _ hq)) (.sum hp h2.len (Rw.times (p := p) hp (h1 x (List.mem_cons_self ..))).len)
  exact go _ _ (fun q hq => hr _ (List.of_mem_zip (show (q.1, q.2) ∈ _ from hq)).1) (.zero hp)
theorem mults_some (R : Type) [CommRing R] {p w : Nat} [IsCharP R p] (hp : Pr p) {rows : List (List Int)} {r m : List Int} (hg : Gr p w rows) (hr : Rw p w r) (h : multsIn p w rows r = some m) : MultOk p w rows r m := by
  unfold multsIn at h
  cases hz : placeLed ((leftOf p w rows r).take w) with
  | some j =>
    rw [hz] at h
    cases h
  | none =>
    rw [hz] at h
    have e := Option.some.inj h
    have hlen := left_rw hp hg hr
    have htl : (toldOf p w rows r).length = (freshIn p rows).length := by
      unfold toldOf rowTimes
      rw [List.length_map, List.length_drop, hlen.len]
      omega
    have htr : ∀ x ∈ toldOf p w rows r, 0 ≤ x ∧ x < p := fun x hx => by
      unfold toldOf rowTimes at hx
      obtain ⟨y, _, rfl⟩ := List.mem_map.mp hx
      exact fmod_dig hp.pos _
    have hm : Rw p rows.length m := by
      rw [← e]
      refine ⟨by rw [List.length_map, List.length_range], fun x hx => ?_⟩
      obtain ⟨i, _, rfl⟩ := List.mem_map.mp hx
      cases hlk : (((freshIn p rows).map fun (n : Nat) => (n : Int)).zip (toldOf p w rows r)).lookup (i : Int) with
      | none =>
        have := hp.pos
        show (0 : Int) ≤ 0 ∧ (0 : Int) < p
        omega
      | some y =>
        obtain ⟨l1, l2, e', _⟩ := List.lookup_eq_some_iff.mp hlk
        have : ((i : Int), y) ∈ ((freshIn p rows).map fun (n : Nat) => (n : Int)).zip (toldOf p w rows r) := by
          rw [e']
          exact List.mem_append_right _ (List.mem_cons_self ..)
        exact htr y (List.of_mem_zip this).2
    refine ⟨hm, cv_ext R (combo_rw hp.pos fun a ha => (hg a ha).len) hr fun j hj => ?_⟩
    rw [cv_combo hp.pos (fun a ha => (hg a ha).len) rfl hm.len]
    have e1 : sm rows.length (fun i => cv R m i * cv R (rows.getD i []) j) = sm rows.length (fun i => (((((freshIn p rows).map fun (n : Nat) => (n : Int)).zip (toldOf p w rows r)).lookup (i : Int)).getD 0 : Int).cast * cv R (rows.getD i []) j) := sm_congr fun i hi => by
      congr 1
      rw [← e]
      unfold cv
      rw [at0_lt (by rw [List.length_map, List.length_range]; exact hi), List.getElem_map, List.getElem_range]
    rw [e1, sm_lookup _ _ fresh_nodup fresh_sub htl]
    -- what kills the wide rows and sees the place
    let y : Nat → R := fun i => if i < w then (if i = j then 1 else 0) else - cv R (rows.getD ((freshIn p rows).getD (i - w) 0) []) j
    have ya : ∀ a b : List Int, a.length = w → dt (w + (freshIn p rows).length) y (cv R (a ++ b)) = cv R a j - sm (freshIn p rows).length fun k => cv R (rows.getD ((freshIn p rows).getD k 0) []) j * cv R b k := fun a b ha => by
      rw [dt_app ha]
      have z1 : dt w y (cv R a) = cv R a j := by
        have : dt w y (cv R a) = y j * cv R a j := sm_one hj fun i hi hne => by
          show (if i < w then (if i = j then (1 : R) else 0) else _) * _ = 0
          rw [if_pos hi, if_neg hne]
          grind
        rw [this]
        show (if j < w then (if j = j then (1 : R) else 0) else _) * _ = _
        rw [if_pos hj, if_pos rfl]
        grind
      have z2 : dt (freshIn p rows).length (fun k => y (w + k)) (cv R b) = (-1) * sm (freshIn p rows).length fun k => cv R (rows.getD ((freshIn p rows).getD k 0) []) j * cv R b k := by
        rw [← sm_mul]
        refine sm_congr fun k hk => ?_
        show (if w + k < w then (if w + k = j then (1 : R) else 0) else - cv R (rows.getD ((freshIn p rows).getD (w + k - w) 0) []) j) * _ = _
        rw [if_neg (by omega), Nat.add_sub_cancel_left]
        grind
      rw [z1, z2]
      grind
    have hwg := wide_gr hp hg
    have g : Gd R p (w + (freshIn p rows).length) (leadsOf p (wideRows rows (freshIn p rows))) := leads_good hp hwg
    have yk : ∀ a ∈ wideRows rows (freshIn p rows), dt (w + (freshIn p rows).length) y (cv R a) = 0 := fun a ha => by
      obtain ⟨i, hi, rfl⟩ := List.getElem_of_mem ha
      have hi' : i < (freshIn p rows).length := by rw [← wide_len (rows := rows)]; exact hi
      have e2 := wide_get (rows := rows) hi'
      rw [List.getD_eq_getElem?_getD, List.getElem?_eq_getElem hi] at e2
      have e3 : (wideRows rows (freshIn p rows))[i] = rows.getD ((freshIn p rows).getD i 0) [] ++ unitRow (freshIn p rows).length i := e2
      rw [e3, ya _ _ (getD_row hg (fresh_at hi')).len]
      have e4 : sm (freshIn p rows).length (fun k => cv R (rows.getD ((freshIn p rows).getD k 0) []) j * cv R (unitRow (freshIn p rows).length i) k) = cv R (rows.getD ((freshIn p rows).getD i 0) []) j := by
        rw [sm_one hi' fun k hk hne => by rw [cv_unit k hk, if_neg hne]; grind]
        rw [cv_unit i hi', if_pos rfl]
        grind
      rw [e4]
      grind
    have yl := (leads_van hp hwg).mpr yk
    have hz0 : Rw p (freshIn p rows).length (zeroRow (freshIn p rows).length) := .zero hp.pos
    have e5 : dt (w + (freshIn p rows).length) y (cv R (leftOf p w rows r)) = dt (w + (freshIn p rows).length) y (cv R (r ++ zeroRow (freshIn p rows).length)) := red_dt hp (Rw.append hr hz0).len g.ld yl
    have e6 : leftOf p w rows r = (leftOf p w rows r).take w ++ (leftOf p w rows r).drop w := (List.take_append_drop ..).symm
    rw [ya _ _ hr.len, e6, ya _ _ (by rw [List.length_take, hlen.len]; omega)] at e5
    have e7 : cv R ((leftOf p w rows r).take w) j = 0 := by
      unfold cv
      rw [placeLed_none hz]
      exact ca_zero
    have e8 : sm (freshIn p rows).length (fun k => cv R (rows.getD ((freshIn p rows).getD k 0) []) j * cv R (zeroRow (freshIn p rows).length) k) = 0 := sm_zero fun k _ => by
      rw [cv_zero]
      grind
    rw [e7, e8] at e5
    have e9 : sm (freshIn p rows).length (fun k => cv R (toldOf p w rows r) k * cv R (rows.getD ((freshIn p rows).getD k 0) []) j) = (-1) * sm (freshIn p rows).length (fun k => cv R (rows.getD ((freshIn p rows).getD k 0) []) j * cv R ((leftOf p w rows r).drop w) k) := by
      rw [← sm_mul]
      refine sm_congr fun k _ => ?_
      unfold toldOf
      rw [cv_times hp.pos, Ring.intCast_sub, ca_p, ca_one]
      grind
    rw [e9]
    grind
theorem mults_spanned (R : Type) [CommRing R] {p w : Nat} [IsCharP R p] (hp : Pr p) {rows : List (List Int)} {r : List Int} (hg : Gr p w rows) (hr : Rw p w r) (h : isSpanned p rows r = true) : ∃ m, multsIn p w rows r = some m := by
  unfold multsIn
  cases hz : placeLed ((leftOf p w rows r).take w) with
  | none => exact ⟨_, rfl⟩
  | some f =>
    exfalso
    have hlen := left_rw hp hg hr
    obtain ⟨s1, s2⟩ := placeLed_spec hz
    rw [List.length_take, hlen.len] at s1
    have hf : f < w := by omega
    rw [take_at hf] at s2
    have s3 : cv R (leftOf p w rows r) f ≠ 0 := ca_ne R (hlen.getD hp.pos f) s2
    have hwg := wide_gr hp hg
    have g : Gd R p (w + (freshIn p rows).length) (leadsOf p (wideRows rows (freshIn p rows))) := leads_good hp hwg
    have hz0 : Rw p (freshIn p rows).length (zeroRow (freshIn p rows).length) := .zero hp.pos
    have hrl := (Rw.append hr hz0).len
    have hn : ∀ q ∈ leadsOf p (wideRows rows (freshIn p rows)), q.1 ≠ f := left_free hp g hrl s3
    have hk := (leads_van hp hwg).mp (um_kill hp g (by omega : f < w + (freshIn p rows).length) hn)
    have hs := um_left hp g (by omega : f < w + (freshIn p rows).length) hn hrl
    have hlow := wide_low R hp hg
    have ya : ∀ a b : List Int, a.length = w → dt (w + (freshIn p rows).length) (cv R (unmarkedOf p (w + (freshIn p rows).length) (leadsOf p (wideRows rows (freshIn p rows))) f)) (cv R (a ++ b)) = dt w (cv R (unmarkedOf p (w + (freshIn p rows).length) (leadsOf p (wideRows rows (freshIn p rows))) f)) (cv R a) := fun a b ha => by
      rw [dt_app ha]
      have : dt (freshIn p rows).length (fun j => cv R (unmarkedOf p (w + (freshIn p rows).length) (leadsOf p (wideRows rows (freshIn p rows))) f) (w + j)) (cv R b) = 0 := sm_zero fun k hk => by
        dsimp only
        rw [um_off hp g (by omega) (by omega) (fun q hq e => by have := hlow q hq; omega)]
        grind
      rw [this]
      grind
    rw [ya _ _ hr.len] at hs
    refine s3 (hs.symm.trans ?_)
    refine spanned_kill hp hg hr h ((fresh_all R hp hg).1 _ fun n hn => ?_)
    obtain ⟨i, hi, rfl⟩ := List.getElem_of_mem hn
    have e2 := wide_get (rows := rows) hi
    have hmem : (wideRows rows (freshIn p rows)).getD i [] ∈ wideRows rows (freshIn p rows) := by
      rw [List.getD_eq_getElem?_getD, List.getElem?_eq_getElem (by rw [wide_len]; exact hi)]
      exact List.getElem_mem _
    have := hk _ hmem
    rw [e2, ya _ _ (getD_row hg (fresh_at hi)).len] at this
    have e3 : (freshIn p rows).getD i 0 = (freshIn p rows)[i] := by
      rw [List.getD_eq_getElem?_getD, List.getElem?_eq_getElem hi]
      rfl
    rw [e3] at this
    exact this
/-- a product with a sum of multiples -/
theorem dt_combo (hp : 0 < p) {n : Nat} {y : Nat → R} {rows : List (List Int)} {ds : List Int} (hr : ∀ r ∈ rows, r.length = w) (h1 : rows.length = n) (h2 : ds.length = n) : dt w y (cv R (combo p w rows ds)) = sm n fun i => cv R ds i * dt w y (cv R (rows.getD i [])) := by
  unfold dt
  have e : sm w (fun j => y j * cv R (combo p w rows ds) j) = sm w (fun j => sm n fun i => cv R ds i * (y j * cv R (rows.getD i []) j)) := sm_congr fun j _ => by
    rw [cv_combo hp hr h1 h2, ← sm_mul]
    exact sm_congr fun i _ => by grind
  rw [e, sm_comm]
  exact sm_congr fun i _ => by rw [sm_mul]
theorem mults_iff (R : Type) [CommRing R] {p w : Nat} [IsCharP R p] (hp : Pr p) {rows : List (List Int)} {r : List Int} (hg : Gr p w rows) (hr : Rw p w r) : (multsIn p w rows r).isSome = isSpanned p rows r := by
  cases h : isSpanned p rows r with
  | true =>
    obtain ⟨m, hm⟩ := mults_spanned R hp hg hr h
    rw [hm] <;> rfl
  | false =>
    cases hm : multsIn p w rows r with
    | none => rfl
    | some m =>
      exfalso
      obtain ⟨u, _, u1, u2⟩ := unspanned R hp hg hr h
      have k := mults_some R hp hg hr hm
      refine u2 ?_
      rw [← k.eq, dt_combo hp.pos (fun a ha => (hg a ha).len) rfl k.rw.len]
      refine sm_zero fun i hi => ?_
      rw [List.getD_eq_getElem?_getD, List.getElem?_eq_getElem hi]
      have := u1 _ (List.getElem_mem hi)
      show _ * dt w _ (cv R rows[i]) = 0
      rw [this]
      grind
end
end Dry
set_option Elab.async false
set_option linter.all false
set_option maxRecDepth 100000
set_option maxHeartbeats 4000000
set_option autoImplicit false
namespace Dry
open Lean.Grind
/-! ### all tuples -/
def tuplesOf {α : Type} (A : List α) : Nat → List (List α)
  | 0 => [[]]
  | n + 1 => (tuplesOf A n).flatMap fun own => A.map fun x => own ++ [x]
theorem mem_tuples {α : Type} {A : List α} : ∀ {n : Nat} {x : List α}, x ∈ tuplesOf A n ↔ x.length = n ∧ ∀ a ∈ x, a ∈ A := by
  intro n
  induction n with
  | zero =>
    intro x
    show x ∈ [[]] ↔ _
    rw [List.mem_singleton]
    refine ⟨fun h => ?_, fun h => List.length_eq_zero_iff.mp h.1⟩
    subst h
    exact ⟨rfl, fun a h => by cases h⟩
  | succ n ih =>
    intro x
    show x ∈ (tuplesOf A n).flatMap _ ↔ _
    rw [List.mem_flatMap]
    constructor
    · rintro ⟨own, h1, h2⟩
      obtain ⟨a, ha, rfl⟩ := List.mem_map.mp h2
      obtain ⟨h3, h4⟩ := ih.mp h1
      refine ⟨by simp [h3], fun b hb => ?_⟩
      rcases List.mem_append.mp hb with hb | hb
      · exact h4 b hb
      · rw [List.mem_singleton.mp hb]
        exact ha
    · rintro ⟨h1, h2⟩
      have hne : x ≠ [] := fun e => by rw [e] at h1; cases h1
      obtain ⟨own, a, rfl⟩ : ∃ own a, x = own ++ [a] := ⟨_, _, (List.dropLast_concat_getLast hne).symm⟩
      refine ⟨own, ih.mpr ⟨by simpa using h1, fun b hb => h2 b (List.mem_append_left _ hb)⟩, List.mem_map.mpr ⟨a, h2 a (List.mem_append_right _ (List.mem_singleton.mpr rfl)), rfl⟩⟩
theorem nodup_tuples {α : Type} {A : List α} (hA : A.Nodup) : ∀ n, (tuplesOf A n).Nodup := by
  intro n
  induction n with
  | zero => exact List.pairwise_singleton ..
  | succ n ih =>
    show List.Pairwise _ ((tuplesOf A n).flatMap _)
    rw [List.pairwise_flatMap]
    refine ⟨fun a _ => ?_, List.Pairwise.imp (fun {a b} hab => ?_) ih⟩
    · rw [List.pairwise_map]
      exact List.Pairwise.imp (fun {x y} hxy e => hxy (by simpa using e)) hA
    · intro x hx y hy e
      obtain ⟨u, _, rfl⟩ := List.mem_map.mp hx
      obtain ⟨v, _, rfl⟩ := List.mem_map.mp hy
      exact hab (List.append_inj_left' e rfl)
theorem len_tuples {α : Type} {A : List α} : ∀ n, (tuplesOf A n).length = A.length ^ n := by
  intro n
  induction n with
  | zero => rfl
  | succ n ih =>
    show ((tuplesOf A n).flatMap _).length = _
    rw [List.length_flatMap]
    have e : (tuplesOf A n).map (fun own => (A.map fun x => own ++ [x]).length) = List.replicate (tuplesOf A n).length A.length := by
      rw [List.eq_replicate_iff]
      refine ⟨List.length_map .., fun b hb => ?_⟩
      obtain ⟨x, _, rfl⟩ := List.mem_map.mp hb
      exact List.length_map ..
    rw [e, List.sum_replicate_nat, ih, Nat.pow_succ]
def digitsOf (p : Nat) : List Int := (List.range p).map fun (i : Nat) => (i : Int)
theorem mem_digits {p : Nat} {x : Int} : x ∈ digitsOf p ↔ 0 ≤ x ∧ x < p := by
  unfold digitsOf
  rw [List.mem_map]
  constructor
  · rintro ⟨i, hi, rfl⟩
    have := List.mem_range.mp hi
    omega
  · rintro ⟨h1, h2⟩
    exact ⟨x.toNat, List.mem_range.mpr (by omega), by omega⟩
theorem nodup_digits {p : Nat} : (digitsOf p).Nodup := by
  unfold digitsOf
  refine List.pairwise_map.mpr (List.Pairwise.imp (fun {a b} h e => h (Int.ofNat.inj e)) List.nodup_range)
def allRows (p m : Nat) : List (List Int) := tuplesOf (digitsOf p) m
theorem mem_rows {p m : Nat} {x : List Int} : x ∈ allRows p m ↔ Rw p m x := by
  unfold allRows
  rw [mem_tuples]
  exact ⟨fun h => ⟨h.1, fun a ha => mem_digits.mp (h.2 a ha)⟩, fun h => ⟨h.len, fun a ha => mem_digits.mpr (h.dig a ha)⟩⟩
def allKeys (p m c : Nat) : List (List (List Int)) := tuplesOf (allRows p m) c
theorem mem_keys {p m c : Nat} {K : List (List Int)} : K ∈ allKeys p m c ↔ K.length = c ∧ Gr p m K := by
  unfold allKeys
  rw [mem_tuples]
  exact ⟨fun h => ⟨h.1, fun a ha => mem_rows.mp (h.2 a ha)⟩, fun h => ⟨h.1, fun a ha => mem_rows.mpr (h.2 a ha)⟩⟩
theorem nodup_keys {p m c : Nat} : (allKeys p m c).Nodup := nodup_tuples (nodup_tuples nodup_digits m) c
theorem len_rows {p m : Nat} : (allRows p m).length = p ^ m := by
  unfold allRows
  rw [len_tuples]
  unfold digitsOf
  rw [List.length_map, List.length_range]
theorem len_keys {p m c : Nat} : (allKeys p m c).length = p ^ (m * c) := by
  unfold allKeys
  rw [len_tuples, len_rows, Nat.pow_mul]
/-! ### keys -/
abbrev Key := List (List Int)
abbrev Pair := List Int × List Int
def fitsK (p m : Nat) (ps : List Pair) (K : Key) : Bool := ps.all fun q => combo p m K q.1 == q.2
def fitting (p m c : Nat) (ps : List Pair) : List Key := (allKeys p m c).filter (fitsK p m ps)
theorem mem_fit {p m c : Nat} {ps : List Pair} {K : Key} : K ∈ fitting p m c ps ↔ (K.length = c ∧ Gr p m K) ∧ ∀ q ∈ ps, combo p m K q.1 = q.2 := by
  unfold fitting fitsK
  rw [List.mem_filter, mem_keys, List.all_eq_true]
  refine and_congr_right fun _ => ⟨fun h q hq => beq_iff_eq.mp (h q hq), fun h q hq => beq_iff_eq.mpr (h q hq)⟩
theorem nodup_fit {p m c : Nat} {ps : List Pair} : (fitting p m c ps).Nodup := nodup_keys.filter _
section
variable {R : Type} [CommRing R] {p m c : Nat} [IsCharP R p]
/-- one row of a key -/
def kf (R : Type) [CommRing R] (K : Key) (i : Nat) : Nat → R := fun j => cv R (K.getD j []) i
theorem cv_read (hp : 0 < p) {K : Key} {g : List Int} (hK : K.length = c) (hG : Gr p m K) (hg : g.length = c) {i : Nat} : cv R (combo p m K g) i = dt c (kf R K i) (cv R g) := by
  rw [cv_combo hp (fun a ha => (hG a ha).len) hK hg]
  exact sm_congr fun j _ => by
    show _ = cv R (K.getD j []) i * cv R g j
    grind
theorem read_rw (hp : 0 < p) {K : Key} {g : List Int} (hG : Gr p m K) : Rw p m (combo p m K g) := combo_rw hp fun a ha => (hG a ha).len
/-- pairs of rests, messages -/
abbrev PsOk (p m c : Nat) (ps : List Pair) : Prop := ∀ q ∈ ps, Rw p c q.1 ∧ Rw p m q.2
theorem PsOk.gr {ps : List Pair} (h : PsOk p m c ps) : Gr p c (ps.map Prod.fst) := fun r hr => by
  obtain ⟨q, hq, rfl⟩ := List.mem_map.mp hr
  exact (h q hq).1
theorem PsOk.gm {ps : List Pair} (h : PsOk p m c ps) : Gr p m (ps.map Prod.snd) := fun r hr => by
  obtain ⟨q, hq, rfl⟩ := List.mem_map.mp hr
  exact (h q hq).2
/-- what is spanned is read alike -/
theorem read_same (R : Type) [CommRing R] {p m c : Nat} [IsCharP R p] (hp : Pr p) {ps : List Pair} (ho : PsOk p m c ps) {K K' : Key} (h : K ∈ fitting p m c ps) (h' : K' ∈ fitting p m c ps) {g : List Int} (hg : Rw p c g) (hs : isSpanned p (ps.map Prod.fst) g = true) : combo p m K g = combo p m K' g := by
  obtain ⟨⟨k1, k2⟩, k3⟩ := mem_fit.mp h
  obtain ⟨⟨l1, l2⟩, l3⟩ := mem_fit.mp h'
  refine cv_ext R (read_rw hp.pos k2) (read_rw hp.pos l2) fun i _ => ?_
  rw [cv_read hp.pos k1 k2 hg.len, cv_read hp.pos l1 l2 hg.len]
  have e : ∀ v : Nat → R, dt c (fun j => kf R K i j - kf R K' i j) v = dt c (kf R K i) v - dt c (kf R K' i) v := fun v => by
    rw [dt_symm, dt_sub, dt_symm, dt_symm (v := kf R K' i)]
  have := spanned_kill (R := R) (n := c) (y := fun j => kf R K i j - kf R K' i j) hp ho.gr hg hs fun a ha => by
    obtain ⟨q, hq, rfl⟩ := List.mem_map.mp ha
    rw [e, ← cv_read hp.pos k1 k2 (ho q hq).1.len, ← cv_read hp.pos l1 l2 (ho q hq).1.len, k3 q hq, l3 q hq]
    grind
  rw [e] at this
  grind
/-- what is told is read -/
theorem read_told (R : Type) [CommRing R] {p m c : Nat} [IsCharP R p] (hp : Pr p) {ps : List Pair} (ho : PsOk p m c ps) {K : Key} (h : K ∈ fitting p m c ps) {g ds : List Int} (hd : MultOk p c (ps.map Prod.fst) g ds) : combo p m K g = combo p m (ps.map Prod.snd) ds := by
  obtain ⟨⟨k1, k2⟩, k3⟩ := mem_fit.mp h
  have hl : ds.length = ps.length := by
    have := hd.rw.len
    rwa [List.length_map] at this
  refine cv_ext R (read_rw hp.pos k2) (combo_rw hp.pos fun a ha => (ho.gm a ha).len) fun i _ => ?_
  rw [← hd.eq, cv_read hp.pos k1 k2 (combo_rw hp.pos fun a ha => (ho.gr a ha).len).len, dt_combo hp.pos (fun a ha => (ho.gr a ha).len) (List.length_map ..) hl, cv_combo hp.pos (fun a ha => (ho.gm a ha).len) (List.length_map ..) hl]
  refine sm_congr fun k hk => ?_
  have e1 : (ps.map Prod.fst).getD k [] = ps[k].1 := by
    rw [List.getD_eq_getElem?_getD, List.getElem?_map, List.getElem?_eq_getElem hk]
    rfl
  have e2 : (ps.map Prod.snd).getD k [] = ps[k].2 := by
    rw [List.getD_eq_getElem?_getD, List.getElem?_map, List.getElem?_eq_getElem hk]
    rfl
  have hm := List.getElem_mem hk
  rw [e1, e2, ← cv_read hp.pos k1 k2 (ho _ hm).1.len, k3 _ hm]
/-- a key with another row added, by the digits of u -/
def shiftK (p : Nat) (K : Key) (u d : List Int) : Key := (K.zip u).map fun q => rowSum p q.1 (rowTimes p q.2 d)
theorem shift_ok (hp : 0 < p) {K : Key} {u d : List Int} (hK : K.length = c) (hG : Gr p m K) (hu : u.length = c) (hd : d.length = m) : (shiftK p K u d).length = c ∧ Gr p m (shiftK p K u d) := by
  refine ⟨by unfold shiftK; rw [List.length_map, List.length_zip]; omega, fun r hr => ?_⟩
  unfold shiftK at hr
  obtain ⟨q, hq, rfl⟩ := List.mem_map.mp hr
  exact .sum hp (hG _ (List.of_mem_zip (show (q.1, q.2) ∈ _ from hq)).1).len (Rw.times (p := p) hp hd).len
theorem kf_shift (hp : 0 < p) {K : Key} {u d : List Int} (hK : K.length = c) (hG : Gr p m K) (hu : u.length = c) (hd : d.length = m) {i j : Nat} (hj : j < c) : kf R (shiftK p K u d) i j = kf R K i j + cv R u j * cv R d i := by
  unfold kf shiftK
  have e : ((K.zip u).map fun q => rowSum p q.1 (rowTimes p q.2 d)).getD j [] = rowSum p K[j] (rowTimes p u[j] d) := by
    rw [List.getD_eq_getElem?_getD, List.getElem?_map, List.getElem?_eq_getElem (by rw [List.length_zip]; omega), List.getElem_zip]
    rfl
  have e2 : K.getD j [] = K[j] := by
    rw [List.getD_eq_getElem?_getD, List.getElem?_eq_getElem (by omega)]
    rfl
  rw [e, e2, cv_sum hp (by rw [(hG _ (List.getElem_mem _)).len, (Rw.times (p := p) hp hd).len]), cv_times hp]
  have e3 : cv R u j = ((u[j] : Int) : R) := by
    unfold cv
    rw [at0_lt]
  rw [e3]
theorem read_shift (hp : 0 < p) {K : Key} {u d g : List Int} (hK : K.length = c) (hG : Gr p m K) (hu : u.length = c) (hd : d.length = m) (hg : g.length = c) {i : Nat} : cv R (combo p m (shiftK p K u d) g) i = cv R (combo p m K g) i + dt c (cv R u) (cv R g) * cv R d i := by
  obtain ⟨s1, s2⟩ := shift_ok hp hK hG hu hd
  rw [cv_read hp s1 s2 hg, cv_read hp hK hG hg, dt_symm, dt_symm (y := kf R K i), dt_symm (y := cv R u)]
  have e : dt c (cv R g) (kf R (shiftK p K u d) i) = dt c (cv R g) (fun j => kf R K i j + cv R d i * cv R u j) := dt_congr fun j hj => by
    rw [kf_shift hp hK hG hu hd hj]
    grind
  rw [e, dt_add, dt_times]
  grind
theorem shift_fit (hp : Pr p) {ps : List Pair} (ho : PsOk p m c ps) {K : Key} {u d : List Int} (h : K ∈ fitting p m c ps) (hu : u.length = c) (hd : d.length = m) (hk : ∀ a ∈ ps.map Prod.fst, dt c (cv R u) (cv R a) = 0) : shiftK p K u d ∈ fitting p m c ps := by
  obtain ⟨⟨k1, k2⟩, k3⟩ := mem_fit.mp h
  obtain ⟨s1, s2⟩ := shift_ok hp.pos k1 k2 hu hd
  refine mem_fit.mpr ⟨⟨s1, s2⟩, fun q hq => ?_⟩
  rw [← k3 q hq]
  refine cv_ext R (read_rw hp.pos s2) (read_rw hp.pos k2) fun i _ => ?_
  rw [read_shift hp.pos k1 k2 hu hd (ho q hq).1.len, hk _ (List.mem_map.mpr ⟨q, hq, rfl⟩)]
  grind
theorem shift_inj (R : Type) [CommRing R] {p m c : Nat} [IsCharP R p] (hp : 0 < p) {K K' : Key} {u d : List Int} (hK : K.length = c ∧ Gr p m K) (hK' : K'.length = c ∧ Gr p m K') (hu : u.length = c) (hd : d.length = m) (h : shiftK p K u d = shiftK p K' u d) : K = K' := by
  refine List.ext_getElem (by rw [hK.1, hK'.1]) fun j h1 h2 => cv_ext R (hK.2 _ (List.getElem_mem h1)) (hK'.2 _ (List.getElem_mem h2)) fun i _ => ?_
  have hj : j < c := by rw [← hK.1]; exact h1
  have e1 := kf_shift (R := R) hp hK.1 hK.2 hu hd (i := i) hj
  have e2 := kf_shift (R := R) hp hK'.1 hK'.2 hu hd (i := i) hj
  rw [h] at e1
  have e3 : kf R K i j = cv R K[j] i := by
    unfold kf
    rw [List.getD_eq_getElem?_getD, List.getElem?_eq_getElem h1]
    rfl
  have e4 : kf R K' i j = cv R K'[j] i := by
    unfold kf
    rw [List.getD_eq_getElem?_getD, List.getElem?_eq_getElem h2]
    rfl
  rw [← e3, ← e4]
  grind
/-- the row by which one is read where another one was -/
theorem scaled (R : Type) [CommRing R] {p c : Nat} [IsCharP R p] (hp : Pr p) {rows : List (List Int)} {r : List Int} (hg : Gr p c rows) (hr : Rw p c r) (h : isSpanned p rows r = false) : ∃ u, Rw p c u ∧ (∀ a ∈ rows, dt c (cv R u) (cv R a) = 0) ∧ dt c (cv R u) (cv R r) = 1 := by
  obtain ⟨u, u1, u2, u3⟩ := unspanned R hp hg hr h
  refine ⟨rowTimes p (invD p (rowProd p u r)) u, Rw.times hp.pos u1.len, fun a ha => ?_, ?_⟩
  · rw [cv_times hp.pos, dt_symm, dt_times, dt_symm, u2 a ha]
    grind
  · rw [cv_times hp.pos, dt_symm, dt_times, dt_symm, ← ca_prod hp.pos u1.len hr.len]
    refine inv_one hp ?_ fun e => ?_
    · unfold rowProd
      exact fmod_dig hp.pos _
    · rw [← ca_prod (R := R) hp.pos u1.len hr.len, e] at u3
      exact u3 ca_zero
def readIs (p m : Nat) (g t : List Int) (K : Key) : Bool := combo p m K g == t
theorem fibre_le (R : Type) [CommRing R] {p m c : Nat} [IsCharP R p] (hp : Pr p) {ps : List Pair} (ho : PsOk p m c ps) {g t1 t2 : List Int} (hg : Rw p c g) (h1 : Rw p m t1) (h2 : Rw p m t2) (hs : isSpanned p (ps.map Prod.fst) g = false) : (fitting p m c ps).countP (readIs p m g t1) ≤ (fitting p m c ps).countP (readIs p m g t2) := by
  obtain ⟨u, u1, u2, u3⟩ := scaled R hp ho.gr hg hs
  have hd : Rw p m (rowLess p t2 t1) := .less hp.pos h2.len h1.len
  rw [List.countP_eq_length_filter, List.countP_eq_length_filter, ← List.length_map (fun K => shiftK p K u (rowLess p t2 t1))]
  refine List.Nodup.length_le_of_subset ?_ fun K' hK' => ?_
  · rw [List.Nodup, List.pairwise_map]
    refine List.Pairwise.imp_of_mem (fun {a b} ha hb hab e => hab ?_) (nodup_fit.filter _)
    exact shift_inj R hp.pos (mem_fit.mp (List.mem_filter.mp ha).1).1 (mem_fit.mp (List.mem_filter.mp hb).1).1 u1.len hd.len e
  · obtain ⟨K, hK, rfl⟩ := List.mem_map.mp hK'
    obtain ⟨f1, f2⟩ := List.mem_filter.mp hK
    obtain ⟨⟨k1, k2⟩, _⟩ := mem_fit.mp f1
    refine List.mem_filter.mpr ⟨shift_fit (R := R) hp ho f1 u1.len hd.len u2, beq_iff_eq.mpr ?_⟩
    obtain ⟨s1, s2⟩ := shift_ok hp.pos k1 k2 u1.len hd.len
    refine cv_ext R (read_rw hp.pos s2) h2 fun i _ => ?_
    rw [read_shift hp.pos k1 k2 u1.len hd.len hg.len, u3, beq_iff_eq.mp f2, cv_less hp.pos (by rw [h1.len, h2.len])]
    grind
theorem fibre_eq (R : Type) [CommRing R] {p m c : Nat} [IsCharP R p] (hp : Pr p) {ps : List Pair} (ho : PsOk p m c ps) {g t1 t2 : List Int} (hg : Rw p c g) (h1 : Rw p m t1) (h2 : Rw p m t2) (hs : isSpanned p (ps.map Prod.fst) g = false) : (fitting p m c ps).countP (readIs p m g t1) = (fitting p m c ps).countP (readIs p m g t2) :=
  Nat.le_antisymm (fibre_le R hp ho hg h1 h2 hs) (fibre_le R hp ho hg h2 h1 hs)
/-- all are counted by what they read -/
theorem count_all {α β : Type} [BEq β] [LawfulBEq β] {f : α → β} {B : List β} (hB : B.Nodup) : ∀ A : List α, (∀ a ∈ A, f a ∈ B) → (B.map fun b => A.countP fun a => f a == b).sum = A.length := by
  intro A
  induction A with
  | nil =>
    intro _
    have : (B.map fun b => ([] : List α).countP fun a => f a == b) = List.replicate B.length 0 := by
      rw [List.eq_replicate_iff]
      refine ⟨List.length_map .., fun b hb => ?_⟩
      obtain ⟨x, _, rfl⟩ := List.mem_map.mp hb
      rfl
    rw [this, List.sum_replicate_nat]
    rfl
  | cons a A ih =>
    intro h
    have e : (B.map fun b => (a :: A).countP fun a => f a == b) = B.map fun b => (A.countP fun a => f a == b) + if f a == b then 1 else 0 := by
      refine List.map_congr_left fun b _ => ?_
      rw [List.countP_cons]
    have hs : ∀ (B : List β) (g h : β → Nat), (B.map fun b => g b + h b).sum = (B.map g).sum + (B.map h).sum := by
      intro B g h
      induction B with
      | nil => rfl
      | cons b B ih =>
        rw [List.map_cons, List.map_cons, List.map_cons, List.sum_cons, List.sum_cons, List.sum_cons, ih]
        omega
    rw [e, hs, ih fun b hb => h b (List.mem_cons_of_mem _ hb), List.length_cons]
    congr 1
    have ha := h a (List.mem_cons_self ..)
    clear e ih h hs
    generalize f a = y at ha
    induction B with
    | nil => cases ha
    | cons b B ih =>
      obtain ⟨n1, n2⟩ := List.nodup_cons.mp hB
      rw [List.map_cons, List.sum_cons]
      by_cases hy : y = b
      · subst hy
        have : (B.map fun b => if y == b then 1 else 0) = List.replicate B.length 0 := by
          rw [List.eq_replicate_iff]
          refine ⟨List.length_map .., fun z hz => ?_⟩
          obtain ⟨x, hx, rfl⟩ := List.mem_map.mp hz
          have : (y == x) = false := beq_eq_false_iff_ne.mpr fun e => n1 (by rw [e]; exact hx)
          rw [this] <;> rfl
        rw [this, List.sum_replicate_nat, beq_self_eq_true] <;> rfl
      · have : (y == b) = false := beq_eq_false_iff_ne.mpr hy
        rw [this, ih n2 ((List.mem_cons.mp ha).resolve_left hy)] <;> rfl
/-- of what is not spanned each message is read equally often -/
theorem fibre_count (R : Type) [CommRing R] {p m c : Nat} [IsCharP R p] (hp : Pr p) {ps : List Pair} (ho : PsOk p m c ps) {g t : List Int} (hg : Rw p c g) (ht : Rw p m t) (hs : isSpanned p (ps.map Prod.fst) g = false) : p ^ m * (fitting p m c ps).countP (readIs p m g t) = (fitting p m c ps).length := by
  have h := count_all (f := fun K => combo p m K g) (B := allRows p m) (nodup_tuples nodup_digits m) (fitting p m c ps) fun K hK => mem_rows.mpr (read_rw hp.pos (mem_fit.mp hK).1.2)
  have e : ((allRows p m).map fun b => (fitting p m c ps).countP fun K => combo p m K g == b) = List.replicate (p ^ m) ((fitting p m c ps).countP (readIs p m g t)) := by
    rw [List.eq_replicate_iff]
    refine ⟨by rw [List.length_map, len_rows], fun b hb => ?_⟩
    obtain ⟨x, hx, rfl⟩ := List.mem_map.mp hb
    exact fibre_eq R hp ho hg (mem_rows.mp hx) ht hs
  rw [e, List.sum_replicate_nat] at h
  exact h
theorem fit_snoc {ps : List Pair} {q : Pair} : fitting p m c (ps ++ [q]) = (fitting p m c ps).filter (readIs p m q.1 q.2) := by
  unfold fitting
  rw [List.filter_filter]
  congr 1
  funext K
  unfold fitsK readIs
  rw [List.all_append, List.all_cons, List.all_nil, Bool.and_true, Bool.and_comm]
theorem rank_snoc {rows : List (List Int)} {r : List Int} : (leadsOf p (rows ++ [r])).length = (leadsOf p rows).length + if isSpanned p rows r = true then 0 else 1 := by
  rw [leads_snoc]
  unfold isSpanned
  cases hz : placeLed (reduce p (leadsOf p rows) r) with
  | none =>
    rw [with_none hz] <;> rfl
  | some f =>
    rw [with_some hz]
    show (sortL _).length = _
    rw [(sortL_perm _).length_eq, List.length_append, List.length_map] <;> rfl
/-- how many keys fit -/
theorem fit_count (R : Type) [CommRing R] {p m c : Nat} [IsCharP R p] (hp : Pr p) : ∀ (k : Nat) (ps : List Pair), ps.length = k → PsOk p m c ps → fitting p m c ps ≠ [] → (fitting p m c ps).length * p ^ (m * (leadsOf p (ps.map Prod.fst)).length) = p ^ (m * c) := by
  intro k
  induction k with
  | zero =>
    intro ps h _ _
    obtain rfl := List.length_eq_zero_iff.mp h
    have e : fitting p m c [] = allKeys p m c := by
      unfold fitting
      rw [List.filter_eq_self]
      exact fun _ _ => rfl
    rw [e, len_keys]
    show p ^ (m * c) * p ^ (m * 0) = _
    rw [Nat.mul_zero, Nat.pow_zero, Nat.mul_one]
  | succ k ih =>
    intro ps h ho hne
    have hne' : ps ≠ [] := fun e => by rw [e] at h; cases h
    obtain ⟨A, q, rfl⟩ : ∃ A q, ps = A ++ [q] := ⟨_, _, (List.dropLast_concat_getLast hne').symm⟩
    have hoA : PsOk p m c A := fun a ha => ho a (List.mem_append_left _ ha)
    obtain ⟨q1, q2⟩ := ho q (List.mem_append_right _ (List.mem_singleton.mpr rfl))
    rw [fit_snoc] at hne ⊢
    obtain ⟨K0, hK0⟩ := List.exists_mem_of_ne_nil _ hne
    obtain ⟨f1, f2⟩ := List.mem_filter.mp hK0
    have hA := ih A (by simpa using h) hoA (fun e => by rw [e] at f1; cases f1)
    rw [List.map_append, List.map_singleton, rank_snoc]
    cases hs : isSpanned p (A.map Prod.fst) q.1 with
    | true =>
      rw [if_pos rfl, Nat.add_zero]
      have : (fitting p m c A).filter (readIs p m q.1 q.2) = fitting p m c A := by
        rw [List.filter_eq_self]
        intro K hK
        unfold readIs
        rw [read_same R hp hoA hK f1 q1 hs]
        exact f2
      rw [this]
      exact hA
    | false =>
      rw [if_neg Bool.false_ne_true, ← List.countP_eq_length_filter, Nat.mul_add, Nat.mul_one, Nat.pow_add, ← hA, ← fibre_count R hp hoA q1 q2 hs]
      rw [Nat.mul_comm (p ^ (m * _)) (p ^ m), ← Nat.mul_assoc, Nat.mul_comm (List.countP _ _) (p ^ m)]
end
end Dry
set_option Elab.async false
set_option linter.all false
set_option maxRecDepth 100000
set_option maxHeartbeats 4000000
set_option autoImplicit false
namespace Dry
open Lean.Grind
def colAt (M : List (List Int)) (i : Nat) : List Int := M.map fun r => at0 r i
section
variable {R : Type} [CommRing R] {p m c : Nat} [IsCharP R p]
theorem mult_spanned (R : Type) [CommRing R] {p w : Nat} [IsCharP R p] (hp : Pr p) {rows : List (List Int)} {r m : List Int} (hg : Gr p w rows) (hr : Rw p w r) (k : MultOk p w rows r m) : isSpanned p rows r = true := by
  cases h : isSpanned p rows r with
  | true => rfl
  | false =>
    exfalso
    obtain ⟨u, _, u1, u2⟩ := unspanned R hp hg hr h
    refine u2 ?_
    rw [← k.eq, dt_combo hp.pos (fun a ha => (hg a ha).len) rfl k.rw.len]
    refine sm_zero fun i hi => ?_
    rw [List.getD_eq_getElem?_getD, List.getElem?_eq_getElem hi]
    have := u1 _ (List.getElem_mem hi)
    show _ * dt w _ (cv R rows[i]) = 0
    rw [this]
    grind
theorem cv_nil {j : Nat} : cv R [] j = 0 := cv_ge (Nat.zero_le _)
theorem cv_col {M : List (List Int)} {i k : Nat} : cv R (colAt M i) k = cv R (M.getD k []) i := by
  unfold colAt
  by_cases hk : k < M.length
  · have e : M.getD k [] = M[k] := by
      rw [List.getD_eq_getElem?_getD, List.getElem?_eq_getElem hk]
      rfl
    rw [e]
    unfold cv
    rw [at0_lt (by rw [List.length_map]; exact hk), List.getElem_map]
  · have e : M.getD k [] = [] := by
      rw [List.getD_eq_getElem?_getD, List.getElem?_eq_none (by omega)]
      rfl
    rw [e, cv_nil, cv_ge (by rw [List.length_map]; omega)]
theorem Rw.col {w : Nat} {M : List (List Int)} (hp : 0 < p) (h : Gr p w M) {i : Nat} : Rw p M.length (colAt M i) := by
  refine ⟨List.length_map .., fun x hx => ?_⟩
  obtain ⟨r, hr, rfl⟩ := List.mem_map.mp hx
  exact (h r hr).getD hp i
theorem turned_len {w : Nat} {G : List (List Int)} : (turned w G).length = w := by
  unfold turned
  rw [List.length_map, List.length_range]
theorem turned_get {w : Nat} {G : List (List Int)} {j : Nat} (hj : j < w) : (turned w G).getD j [] = colAt G j := by
  unfold turned
  rw [List.getD_eq_getElem?_getD, List.getElem?_map, List.getElem?_range hj] <;> rfl
theorem Gr.turned {v w : Nat} {G : List (List Int)} (hp : 0 < p) (h : Gr p v G) : Gr p G.length (turned w G) := by
  intro r hr
  obtain ⟨j, _, rfl⟩ := List.mem_map.mp hr
  exact Rw.col hp h
/-- a row made by the columns -/
theorem cv_turned (hp : 0 < p) {v w : Nat} {G : List (List Int)} (h : Gr p v G) {x : List Int} (hx : x.length = w) {k : Nat} : cv R (combo p G.length (turned w G) x) k = dt w (cv R x) (cv R (G.getD k [])) := by
  rw [cv_combo hp (fun a ha => (Gr.turned hp h a ha).len) turned_len hx]
  exact sm_congr fun j hj => by rw [turned_get hj, cv_col]
variable {ps : List Pair}
theorem get_fst {k : Nat} (hk : k < ps.length) : (ps.map Prod.fst).getD k [] = ps[k].1 := by
  rw [List.getD_eq_getElem?_getD, List.getElem?_map, List.getElem?_eq_getElem hk] <;> rfl
theorem get_snd {k : Nat} (hk : k < ps.length) : (ps.map Prod.snd).getD k [] = ps[k].2 := by
  rw [List.getD_eq_getElem?_getD, List.getElem?_map, List.getElem?_eq_getElem hk] <;> rfl
def rowAt (p m c : Nat) (ps : List Pair) (i : Nat) : Option (List Int) := multsIn p ps.length (turned c (ps.map Prod.fst)) (colAt (ps.map Prod.snd) i)
def rowsFit (p m c : Nat) (ps : List Pair) : List (Option (List Int)) := (List.range m).map (rowAt p m c ps)
theorem gt_ok (hp : Pr p) (ho : PsOk p m c ps) : Gr p ps.length (turned c (ps.map Prod.fst)) := by
  have := Gr.turned (w := c) hp.pos ho.gr
  rwa [List.length_map] at this
theorem col_ok (hp : Pr p) (ho : PsOk p m c ps) {i : Nat} : Rw p ps.length (colAt (ps.map Prod.snd) i) := by
  have := Rw.col (i := i) hp.pos ho.gm
  rwa [List.length_map] at this
/-- each row of a key that fits tells a column -/
theorem fit_spanned (R : Type) [CommRing R] {p m c : Nat} [IsCharP R p] (hp : Pr p) {ps : List Pair} (ho : PsOk p m c ps) {K : Key} (h : K ∈ fitting p m c ps) {i : Nat} : MultOk p ps.length (turned c (ps.map Prod.fst)) (colAt (ps.map Prod.snd) i) (colAt K i) := by
  obtain ⟨⟨k1, k2⟩, k3⟩ := mem_fit.mp h
  have h1 := Rw.col (i := i) hp.pos k2
  rw [k1] at h1
  refine ⟨by rw [turned_len]; exact h1, ?_⟩
  have e : combo p ps.length (turned c (ps.map Prod.fst)) (colAt K i) = combo p (ps.map Prod.fst).length (turned c (ps.map Prod.fst)) (colAt K i) := by rw [List.length_map]
  refine cv_ext R (combo_rw hp.pos fun a ha => (gt_ok hp ho a ha).len) (col_ok hp ho) fun k hk => ?_
  rw [e, cv_turned hp.pos ho.gr h1.len, cv_col, get_fst hk, get_snd hk, ← k3 _ (List.getElem_mem hk), cv_read hp.pos k1 k2 (ho _ (List.getElem_mem hk)).1.len]
  exact sm_congr fun j _ => by rw [cv_col]; rfl
theorem row_some (R : Type) [CommRing R] {p m c : Nat} [IsCharP R p] (hp : Pr p) {ps : List Pair} (ho : PsOk p m c ps) (h : fitting p m c ps ≠ []) (i : Nat) : ∃ x, rowAt p m c ps i = some x := by
  obtain ⟨K, hK⟩ := List.exists_mem_of_ne_nil _ h
  exact mults_spanned R hp (gt_ok hp ho) (col_ok hp ho) (mult_spanned R hp (gt_ok hp ho) (col_ok hp ho) (fit_spanned R hp ho hK))
/-- the key of rows -/
theorem key_fits (R : Type) [CommRing R] {p m c : Nat} [IsCharP R p] (hp : Pr p) {ps : List Pair} (ho : PsOk p m c ps) {xs : List (List Int)} (h : rowsFit p m c ps = xs.map some) : turned c xs ∈ fitting p m c ps := by
  have hl : xs.length = m := by
    have := congrArg List.length h
    unfold rowsFit at this
    rw [List.length_map, List.length_range, List.length_map] at this
    exact this.symm
  have hx : ∀ i, i < m → MultOk p ps.length (turned c (ps.map Prod.fst)) (colAt (ps.map Prod.snd) i) (xs.getD i []) := fun i hi => by
    have e : (rowsFit p m c ps)[i]? = some (rowAt p m c ps i) := by
      unfold rowsFit
      rw [List.getElem?_map, List.getElem?_range hi] <;> rfl
    rw [h, List.getElem?_map, List.getElem?_eq_getElem (by omega)] at e
    have e2 : xs.getD i [] = xs[i] := by
      rw [List.getD_eq_getElem?_getD, List.getElem?_eq_getElem (by omega)] <;> rfl
    rw [e2]
    exact mults_some R hp (gt_ok hp ho) (col_ok hp ho) (Option.some.inj e).symm
  have hgx : Gr p c xs := fun r hr => by
    obtain ⟨i, hi, rfl⟩ := List.getElem_of_mem hr
    have := (hx i (by omega)).rw
    rw [turned_len, List.getD_eq_getElem?_getD, List.getElem?_eq_getElem hi] at this
    exact this
  have hgt : Gr p m (turned c xs) := by
    have := Gr.turned (w := c) hp.pos hgx
    rwa [hl] at this
  refine mem_fit.mpr ⟨⟨turned_len, hgt⟩, fun q hq => cv_ext R (read_rw hp.pos hgt) (ho q hq).2 fun i hi => ?_⟩
  rw [cv_read hp.pos turned_len hgt (ho q hq).1.len]
  obtain ⟨k, hk, rfl⟩ := List.getElem_of_mem hq
  have e := congrArg (fun r => cv R r k) (hx i hi).eq
  have e1 : combo p ps.length (turned c (ps.map Prod.fst)) (xs.getD i []) = combo p (ps.map Prod.fst).length (turned c (ps.map Prod.fst)) (xs.getD i []) := by rw [List.length_map]
  have hxl := (hx i hi).rw.len
  rw [turned_len] at hxl
  rw [e1, cv_turned hp.pos ho.gr hxl, cv_col, get_fst hk, get_snd hk] at e
  rw [← e]
  refine sm_congr fun j hj => ?_
  unfold kf
  rw [turned_get hj, cv_col]
/-- a row that tells that no key fits -/
structure OddOk (p m c : Nat) (ps : List Pair) (u : List Int) : Prop where
  rw : Rw p ps.length u
  zero : combo p c (ps.map Prod.fst) u = zeroRow c
  odd : combo p m (ps.map Prod.snd) u ≠ zeroRow m
theorem odd_some (R : Type) [CommRing R] {p m c : Nat} [IsCharP R p] (hp : Pr p) {ps : List Pair} (ho : PsOk p m c ps) {i : Nat} {u : List Int} (hi : i < m) (h : barRow p ps.length (turned c (ps.map Prod.fst)) (colAt (ps.map Prod.snd) i) = some u) : OddOk p m c ps u := by
  have b := bar_some R hp (gt_ok hp ho) (col_ok hp ho) h
  refine ⟨b.rw, cv_ext R (combo_rw hp.pos fun a ha => (ho.gr a ha).len) (.zero hp.pos) fun j hj => ?_, fun e => b.see ?_⟩
  · rw [cv_combo hp.pos (fun a ha => (ho.gr a ha).len) (List.length_map ..) b.rw.len, cv_zero]
    have := b.kill (colAt (ps.map Prod.fst) j) (List.mem_map.mpr ⟨j, List.mem_range.mpr hj, rfl⟩)
    rw [← this]
    exact sm_congr fun k hk => by rw [cv_col]
  · have e2 := congrArg (fun r => cv R r i) e
    rw [cv_combo hp.pos (fun a ha => (ho.gm a ha).len) (List.length_map ..) b.rw.len, cv_zero] at e2
    refine Eq.trans ?_ e2
    exact sm_congr fun k hk => by rw [cv_col]
theorem bar_of_none (R : Type) [CommRing R] {p m c : Nat} [IsCharP R p] (hp : Pr p) {ps : List Pair} (ho : PsOk p m c ps) {i : Nat} (h : rowAt p m c ps i = none) : ∃ u, barRow p ps.length (turned c (ps.map Prod.fst)) (colAt (ps.map Prod.snd) i) = some u := by
  have h1 := mults_iff R hp (gt_ok hp ho) (col_ok (i := i) hp ho)
  unfold rowAt at h
  rw [h] at h1
  have h2 := bar_iff R hp (gt_ok hp ho) (col_ok (i := i) hp ho)
  rw [← h1] at h2
  cases hb : barRow p ps.length (turned c (ps.map Prod.fst)) (colAt (ps.map Prod.snd) i) with
  | none =>
    rw [hb] at h2
    cases h2
  | some u => exact ⟨u, rfl⟩
/-- two keys that read unlike -/
theorem two_ok (R : Type) [CommRing R] {p m c : Nat} [IsCharP R p] (hp : Pr p) {ps : List Pair} (ho : PsOk p m c ps) {K : Key} {g u : List Int} (hm : 0 < m) (hg : Rw p c g) (hK : K ∈ fitting p m c ps) (h : barRow p c (ps.map Prod.fst) g = some u) : shiftK p K u (unitRow m 0) ∈ fitting p m c ps ∧ combo p m K g ≠ combo p m (shiftK p K u (unitRow m 0)) g := by
  have b := bar_some R hp ho.gr hg h
  refine ⟨shift_fit (R := R) hp ho hK b.rw.len unit_len b.kill, fun e => b.see ?_⟩
  obtain ⟨⟨k1, k2⟩, _⟩ := mem_fit.mp hK
  have e2 := congrArg (fun r => cv R r 0) e
  rw [read_shift hp.pos k1 k2 b.rw.len unit_len hg.len, cv_unit 0 hm, if_pos rfl] at e2
  grind
/-- the lack of two readings is the reading of the lack -/
theorem read_less (R : Type) [CommRing R] {p m c : Nat} [IsCharP R p] (hp : Pr p) {K : Key} {g h : List Int} (hK : K.length = c) (hG : Gr p m K) (hg : Rw p c g) (hh : Rw p c h) : combo p m K g = combo p m K h ↔ combo p m K (rowLess p g h) = zeroRow m := by
  have hl : Rw p c (rowLess p g h) := .less hp.pos hg.len hh.len
  have e : ∀ i, cv R (combo p m K (rowLess p g h)) i = cv R (combo p m K g) i - cv R (combo p m K h) i := fun i => by
    rw [cv_read hp.pos hK hG hl.len, cv_read hp.pos hK hG hg.len, cv_read hp.pos hK hG hh.len, cv_less hp.pos (by rw [hg.len, hh.len]), dt_sub]
  constructor
  · intro k
    refine cv_ext R (read_rw hp.pos hG) (.zero hp.pos) fun i _ => ?_
    rw [e, k, cv_zero]
    grind
  · intro k
    refine cv_ext R (read_rw hp.pos hG) (read_rw hp.pos hG) fun i _ => ?_
    have := e i
    rw [k, cv_zero] at this
    grind
end
/-! ### the facts, with the ring put in -/
section
variable {p m c : Nat} {ps : List Pair}
theorem Pr.nz (hp : Pr p) : NeZero p := ⟨by have := hp.pos; omega⟩
/-- some column is not told exactly if no key fits -/
theorem fits_iff (hp : Pr p) (ho : PsOk p m c ps) : (∃ xs : List (List Int), rowsFit p m c ps = xs.map some ∧ fitting p m c ps ≠ [] ∧ turned c xs ∈ fitting p m c ps) ∨ (∃ i, i < m ∧ (∀ j, j < i → rowAt p m c ps j ≠ none) ∧ rowAt p m c ps i = none ∧ fitting p m c ps = []) := by
  haveI := hp.nz
  cases hf : (List.range m).find? fun i => (rowAt p m c ps i).isNone with
  | none =>
    left
    have h1 := List.find?_eq_none.mp hf
    refine ⟨(List.range m).map fun i => (rowAt p m c ps i).getD [], ?_, ?_⟩
    · unfold rowsFit
      rw [List.map_map]
      refine List.map_congr_left fun i hi => ?_
      have := h1 i hi
      cases hr : rowAt p m c ps i with
      | none =>
        rw [hr] at this
        exact absurd rfl this
      | some x =>
        show some x = some ((rowAt p m c ps i).getD [])
        rw [hr] <;> rfl
    · have : turned c ((List.range m).map fun i => (rowAt p m c ps i).getD []) ∈ fitting p m c ps := by
        refine key_fits (Fin p) hp ho ?_
        unfold rowsFit
        rw [List.map_map]
        refine List.map_congr_left fun i hi => ?_
        have := h1 i hi
        cases hr : rowAt p m c ps i with
        | none =>
          rw [hr] at this
          exact absurd rfl this
        | some x =>
          show some x = some ((rowAt p m c ps i).getD [])
          rw [hr] <;> rfl
      exact ⟨fun e => (by rw [e] at this; cases this), this⟩
  | some i =>
    right
    obtain ⟨h1, k, hk, e, h2⟩ := List.find?_eq_some_iff_getElem.mp hf
    rw [List.getElem_range] at e
    subst e
    rw [List.length_range] at hk
    refine ⟨k, hk, fun j hj e => ?_, ?_, ?_⟩
    · have := h2 j hj
      rw [List.getElem_range, e] at this
      cases this
    · cases hr : rowAt p m c ps k with
      | none => rfl
      | some x =>
        rw [hr] at h1
        cases h1
    · refine Classical.byContradiction fun hne => ?_
      obtain ⟨x, hx⟩ := row_some (Fin p) hp ho hne k
      rw [hx] at h1
      cases h1
theorem odd_told (hp : Pr p) (ho : PsOk p m c ps) {i : Nat} (hi : i < m) (h : rowAt p m c ps i = none) : ∃ u, barRow p ps.length (turned c (ps.map Prod.fst)) (colAt (ps.map Prod.snd) i) = some u ∧ OddOk p m c ps u := by
  haveI := hp.nz
  obtain ⟨u, hu⟩ := bar_of_none (Fin p) hp ho h
  exact ⟨u, hu, odd_some (Fin p) hp ho hi hu⟩
theorem Pr.one_lt (hp : Pr p) : 1 < p := by
  unfold Pr at hp
  omega
theorem many_fit (hp : Pr p) (ho : PsOk p m c ps) (hm : 0 < m) (h : fitting p m c ps ≠ []) : (leadsOf p (ps.map Prod.fst)).length ≤ c ∧ (fitting p m c ps).length = p ^ ((c - (leadsOf p (ps.map Prod.fst)).length) * m) := by
  haveI := hp.nz
  have e := fit_count (Fin p) hp _ ps rfl ho h
  have hpos : 0 < (fitting p m c ps).length := List.length_pos_iff.mpr h
  have h1 : p ^ (m * (leadsOf p (ps.map Prod.fst)).length) ≤ p ^ (m * c) := by
    rw [← e]
    exact Nat.le_mul_of_pos_left _ hpos
  have h2 : m * (leadsOf p (ps.map Prod.fst)).length ≤ m * c := (Nat.pow_le_pow_iff_right hp.one_lt).mp h1
  have h3 : (leadsOf p (ps.map Prod.fst)).length ≤ c := Nat.le_of_mul_le_mul_left h2 hm
  refine ⟨h3, ?_⟩
  have h4 : p ^ (m * c) = p ^ ((c - (leadsOf p (ps.map Prod.fst)).length) * m) * p ^ (m * (leadsOf p (ps.map Prod.fst)).length) := by
    rw [← Nat.pow_add, Nat.mul_comm _ m, ← Nat.mul_add, Nat.sub_add_cancel h3]
  rw [h4] at e
  exact Nat.eq_of_mul_eq_mul_right (Nat.pow_pos hp.pos) e
theorem mults_or (hp : Pr p) {w : Nat} {rows : List (List Int)} {r : List Int} (hg : Gr p w rows) (hr : Rw p w r) : (∃ x, isSpanned p rows r = true ∧ multsIn p w rows r = some x ∧ MultOk p w rows r x ∧ barRow p w rows r = none) ∨ (∃ u, isSpanned p rows r = false ∧ multsIn p w rows r = none ∧ barRow p w rows r = some u) := by
  haveI := hp.nz
  have h1 := mults_iff (Fin p) hp hg hr
  have h2 := bar_iff (Fin p) hp hg hr
  cases hs : isSpanned p rows r with
  | true =>
    rw [hs] at h1 h2
    left
    obtain ⟨x, hx⟩ := Option.isSome_iff_exists.mp h1
    refine ⟨x, rfl, hx, mults_some (Fin p) hp hg hr hx, ?_⟩
    cases hb : barRow p w rows r with
    | none => rfl
    | some u =>
      rw [hb] at h2
      cases h2
  | false =>
    rw [hs] at h1 h2
    right
    obtain ⟨u, hu⟩ := Option.isSome_iff_exists.mp h2
    refine ⟨u, rfl, ?_, hu⟩
    cases hb : multsIn p w rows r with
    | none => rfl
    | some u =>
      rw [hb] at h1
      cases h1
theorem told_read (hp : Pr p) (ho : PsOk p m c ps) {K : Key} (h : K ∈ fitting p m c ps) {g x : List Int} (hx : MultOk p c (ps.map Prod.fst) g x) : combo p m K g = combo p m (ps.map Prod.snd) x := by
  haveI := hp.nz
  exact read_told (Fin p) hp ho h hx
theorem count_read (hp : Pr p) (ho : PsOk p m c ps) {g t : List Int} (hg : Rw p c g) (ht : Rw p m t) (hs : isSpanned p (ps.map Prod.fst) g = false) : p ^ m * (fitting p m c ps).countP (readIs p m g t) = (fitting p m c ps).length := by
  haveI := hp.nz
  exact fibre_count (Fin p) hp ho hg ht hs
theorem two_told (hp : Pr p) (ho : PsOk p m c ps) {K : Key} {g u : List Int} (hm : 0 < m) (hg : Rw p c g) (hK : K ∈ fitting p m c ps) (h : barRow p c (ps.map Prod.fst) g = some u) : shiftK p K u (unitRow m 0) ∈ fitting p m c ps ∧ combo p m K g ≠ combo p m (shiftK p K u (unitRow m 0)) g := by
  haveI := hp.nz
  exact two_ok (Fin p) hp ho hm hg hK h
theorem less_read (hp : Pr p) {K : Key} {g h : List Int} (hK : K.length = c) (hG : Gr p m K) (hg : Rw p c g) (hh : Rw p c h) : combo p m K g = combo p m K h ↔ combo p m K (rowLess p g h) = zeroRow m := by
  haveI := hp.nz
  exact read_less (Fin p) hp hK hG hg hh
/-- each message is read by some key, of what is not spanned -/
theorem some_reads (hp : Pr p) (ho : PsOk p m c ps) (hne : fitting p m c ps ≠ []) {g t : List Int} (hg : Rw p c g) (ht : Rw p m t) (hs : isSpanned p (ps.map Prod.fst) g = false) : ∃ K ∈ fitting p m c ps, combo p m K g = t := by
  have h := count_read hp ho hg ht hs
  have hpos : 0 < (fitting p m c ps).length := List.length_pos_iff.mpr hne
  have : 0 < (fitting p m c ps).countP (readIs p m g t) := Nat.pos_of_ne_zero fun e => by
    rw [e] at h
    omega
  obtain ⟨K, hK, e⟩ := List.countP_pos_iff.mp this
  exact ⟨K, hK, beq_iff_eq.mp e⟩
end
end Dry
set_option Elab.async false
set_option linter.all false
set_option maxRecDepth 100000
set_option maxHeartbeats 4000000
set_option autoImplicit false
/-! DryYa: what the defs compute: pictures. -/
namespace Dry
open PySem PySem.Spec PyProof.Rows L2
@[simp] theorem bindT_lst {tg : List Nat} {ds : List D} {ρ : Env'} : bindT false tg (.lst ds) ρ = setAll tg ds ρ := (rfl)
@[simp] theorem S.ext {Γ : Gam} {ρ : Env'} {t : Tin} {e : Ex} {i : Nat} : ex Γ (.ext i e) ρ t = (ownAt ρ i t).toS fun ds t => (ev Γ e ρ t).toS fun d t => (ofO (dItems d) t).toS fun es t => if ds.length + es.length ≤ cap then .nx (ρ.set i (some (.own (ds ++ es)))) t else .bad := (rfl)
abbrev Pic := Int × List (List Int)
/-- a picture, as a tuple or as a list -/
def dPic (q : Pic) : D := pD .int dGrid q
def dPicL (q : Pic) : D := .lst [.int q.1, dL (dL .int) q.2]
def IsPic (d : D) (q : Pic) : Prop := d = dPic q ∨ d = dPicL q
/-- rows of one length, so many cells -/
structure PicOk (q : Pic) (c : Nat) : Prop where
  ne : q.2 ≠ []
  sh : ∃ w, 0 < w ∧ (∀ r ∈ q.2, r.length = w) ∧ q.2.length * w = c
  few : c ≤ 100
def greysOf (q : Pic) : List Int := q.2.flatten
def restsOf (p : Nat) (q : Pic) : List Int := (greysOf q).map fun x => x.fmod p
theorem flat_len {α : Type} {w : Nat} : ∀ {xs : List (List α)}, (∀ r ∈ xs, r.length = w) → xs.flatten.length = xs.length * w
  | [], _ => by simp
  | x :: xs, h => by
    rw [List.flatten_cons, List.length_append, flat_len fun r hr => h r (List.mem_cons_of_mem _ hr), h x (List.mem_cons_self ..), List.length_cons, Nat.succ_mul, Nat.add_comm]
section
variable {k : Nat} {t : Tin} {p c : Nat} {q : Pic} {d : D}
theorem PicOk.len (h : PicOk q c) : (greysOf q).length = c := by
  obtain ⟨w, _, h2, h3⟩ := h.sh
  unfold greysOf
  rw [flat_len h2, h3]
theorem PicOk.high (h : PicOk q c) : q.2.length ≤ c := by
  obtain ⟨w, h1, _, h3⟩ := h.sh
  rw [← h3]
  exact Nat.le_mul_of_pos_right _ h1
theorem Rw.rests (hp : 0 < p) (h : PicOk q c) : Rw p c (restsOf p q) := by
  unfold restsOf
  refine ⟨by rw [List.length_map, h.len], fun x hx => ?_⟩
  obtain ⟨y, _, rfl⟩ := List.mem_map.mp hx
  exact fmod_dig hp _
theorem e_cells_in (hd : IsPic d q) (h : PicOk q c) : call (k + 2) "cells_in" [d] t = .ok (nat c) t := by
  obtain ⟨w, h1, h2, h3⟩ := h.sh
  have hc := h.few
  have hh := h.high
  obtain ⟨r0, hr0⟩ : ∃ r0, q.2[0]? = some r0 := ⟨_, List.getElem?_eq_getElem (List.length_pos_iff.mpr h.ne)⟩
  have hw := h2 r0 (List.mem_of_getElem? hr0)
  have h4 : call (k + 1) "shape_of" [d] t = .ok (.tup [.int q.1, nat q.2.length, nat w]) t := by
    rw [call_of of_shape_of rfl]
    refine callF_ret ?_
    show exs _ f_shape_of [some (.dat d), none, none] t = _
    rcases hd with rfl | rfl
    · have hx : ixD (dGrid q.2) (.int 0) t = some (dRow r0) := ix_T (n := 0) rfl hr0
      simp [f_shape_of, dPic, pD, hx, hw, nat]
    · have hx : ixD (dL (dL .int) q.2) (.int 0) t = some (dL .int r0) := ix_L (n := 0) rfl hr0
      simp [f_shape_of, dPicL, hx, hw, nat]
  rw [call_of of_cells_in rfl]
  refine callF_ret ?_
  show exs _ f_cells_in [some (.dat d), none, none, none] t = _
  have hm : dMul (nat q.2.length) (nat w) = some (nat c) := by
    have := mul_small (i := (q.2.length : Int)) (j := (w : Int)) (by unfold smallI; omega)
    rw [nat, nat, this, nat, ← h3, Int.natCast_mul]
  simp [f_cells_in, h4, hm]
theorem ix_pair1 {a b : D} : ixD (.tup [a, b]) (.int 1) t = some b := rfl
theorem ix_pair0 {a b : D} : ixD (.tup [a, b]) (.int 0) t = some a := rfl
theorem ix_lpair1 {a b : D} : ixD (.lst [a, b]) (.int 1) t = some b := rfl
theorem ix_lpair0 {a b : D} : ixD (.lst [a, b]) (.int 0) t = some a := rfl
theorem ix_tri0 {a b c : D} : ixD (.tup [a, b, c]) (.int 0) t = some a := rfl
theorem ix_tri1 {a b c : D} : ixD (.tup [a, b, c]) (.int 1) t = some b := rfl
theorem ix_tri2 {a b c : D} : ixD (.tup [a, b, c]) (.int 2) t = some c := rfl
/-- of what each row is made -/
theorem greys_loop {Γ : Gam} {f : List Int → D} (hf : ∀ r, dItems (f r) = some (r.map .int)) (d0 : D) (rows : List (List Int)) (hl : rows.flatten.length ≤ cap) (acc : List Int) (ha : acc.length + rows.flatten.length ≤ cap) (x : Option En) :
    ∃ y, loopF (bodyF Γ true [2] (.cons (.ext 1 (.var 2)) .nil)) (rows.map f) [some (.dat d0), some (.own (acc.map .int)), x] t = .nx [some (.dat d0), some (.own ((acc ++ rows.flatten).map .int)), y] t := by
  induction rows generalizing acc x with
  | nil =>
    refine ⟨x, ?_⟩
    show SR.nx _ t = _
    simp
  | cons r rows ih =>
    rw [List.flatten_cons, List.length_append] at hl ha
    obtain ⟨y, h⟩ := ih (by omega) (acc ++ r) (by rw [List.length_append]; omega) (some (.dat (f r)))
    refine ⟨y, ?_⟩
    show (match bodyF Γ true [2] (.cons (.ext 1 (.var 2)) .nil) (f r) [some (.dat d0), some (.own (acc.map .int)), x] t with
      | .nx ρ' t' => loopF _ (rows.map f) ρ' t'
      | r => r) = _
    have hb : bodyF Γ true [2] (.cons (.ext 1 (.var 2)) .nil) (f r) [some (.dat d0), some (.own (acc.map .int)), x] t = .nx [some (.dat d0), some (.own ((acc ++ r).map .int)), some (.dat (f r))] t := by
      rw [bodyF_some (ρ' := [some (.dat d0), some (.own (acc.map .int)), some (.dat (f r))]) rfl]
      simp [hf, show acc.length + r.length ≤ cap by omega]
    rw [hb]
    show loopF _ (rows.map f) _ t = _
    rw [h]
    simp
theorem e_greys (hd : IsPic d q) (h : PicOk q c) : call (k + 1) "greys" [d] t = .ok (dRow (greysOf q)) t := by
  have hl := h.len
  have hc := h.few
  have hfl : q.2.flatten.length ≤ cap := by
    show (greysOf q).length ≤ cap
    rw [hl]
    exact Nat.le_trans hc (by decide)
  rw [call_of of_greys rfl]
  refine callF_ret ?_
  show exs _ f_greys [some (.dat d), none, none] t = _
  have hg : D.tup ((greysOf q).map .int) = dRow (greysOf q) := rfl
  rcases hd with rfl | rfl
  · obtain ⟨y, h1⟩ := greys_loop (t := t) (Γ := Γs k) (f := dRow) (fun _ => rfl) (dPic q) q.2 hfl [] (by simpa using hfl) none
    have hev := ex_loop (Γ := Γs k) (it := .seq (.ix (.var 0) (.int 1))) (s := true) (tg := [2]) (body := .cons (.ext 1 (.var 2)) .nil) (ρ := [some (.dat (dPic q)), some (.own []), none]) (t := t) (t1 := t) (items := q.2.map dRow) (by
      have hx : ixD (dPic q) (.int 1) t = some (dGrid q.2) := rfl
      simp [hx])
    rw [show ([] : List D) = ([] : List Int).map .int from rfl, h1] at hev
    simp at hev
    simp [f_greys, hev, dT, greysOf, List.map_flatten]
  · obtain ⟨y, h1⟩ := greys_loop (t := t) (Γ := Γs k) (f := dL .int) (fun _ => rfl) (dPicL q) q.2 hfl [] (by simpa using hfl) none
    have hev := ex_loop (Γ := Γs k) (it := .seq (.ix (.var 0) (.int 1))) (s := true) (tg := [2]) (body := .cons (.ext 1 (.var 2)) .nil) (ρ := [some (.dat (dPicL q)), some (.own []), none]) (t := t) (t1 := t) (items := q.2.map (dL .int)) (by
      have hx : ixD (dPicL q) (.int 1) t = some (dL (dL .int) q.2) := rfl
      simp [hx])
    rw [show ([] : List D) = ([] : List Int).map .int from rfl, h1] at hev
    simp at hev
    simp [f_greys, hev, dT, greysOf, List.map_flatten]
theorem e_rests (hp : 0 < p) (hd : IsPic d q) (h : PicOk q c) : call (k + 2) "rests" [d, nat p] t = .ok (dRow (restsOf p q)) t := by
  rw [call_of of_rests rfl]
  refine callF_ret ?_
  show exs _ f_rests [some (.dat d), some (.dat (nat p)), none] t = _
  have hp' : (p : Int) ≠ 0 := by omega
  have h1 : call (k + 1) "greys" [d] t = .ok (dRow (greysOf q)) t := e_greys hd h
  have hcm := ev_comp (Γ := Γs (k + 1)) (it := .seq (.call "greys" (.cons (.var 0) .nil))) (s := true) (tg := [2]) (vs := [2]) (e := .two .mod (.var 2) (.var 1)) (t1 := t)
    (ρ := [some (.dat d), some (.dat (nat p)), none]) (t := t) (greysOf q) .int (fun x => .int (x.fmod p)) (by simp [h1]) (by rw [h.len]; exact Nat.le_trans h.few (by decide)) (fun x hx => ⟨_, rfl, by
      have : dMod (.int x) (nat p) = some (.int (x.fmod p)) := mod_int hp'
      simp [this]⟩)
  simp [f_rests, hcm, restsOf, dT_map]
end
end Dry
set_option Elab.async false
set_option linter.all false
set_option maxRecDepth 100000
set_option maxHeartbeats 4000000
set_option autoImplicit false
/-! DryYb: what the defs compute: keys, readings. -/
namespace Dry
open PySem PySem.Spec PyProof.Rows L2
def dKey (p m : Nat) (K : Key) : D := .tup [nat p, nat m, dGrid K]
/-- what a key reads of greys -/
def readIn (p m : Nat) (K : Key) (g : List Int) : List Int := (List.range m).map fun i => (((g.zip K).map fun (q : Int × List Int) => q.1 * at0 q.2 i).sum).fmod p
section
open Lean.Grind
variable {p m c : Nat}
theorem ca_dotK {R : Type} [CommRing R] {i : Nat} : ∀ {c : Nat} {g : List Int} {K : Key}, g.length = c → K.length = c → ((((g.zip K).map fun (q : Int × List Int) => q.1 * at0 q.2 i).sum : Int) : R) = sm c fun j => cv R g j * cv R (K.getD j []) i := by
  intro c
  induction c with
  | zero =>
    intro a b ha hb
    obtain rfl := List.length_eq_zero_iff.mp ha
    exact ca_zero
  | succ n ih =>
    intro a b ha hb
    obtain ⟨x, a, rfl⟩ := List.exists_cons_of_length_eq_add_one ha
    obtain ⟨y, b, rfl⟩ := List.exists_cons_of_length_eq_add_one hb
    rw [sm_head]
    show ((x * at0 y i + _ : Int) : R) = (x : R) * cv R y i + sm n fun j => cv R a j * cv R (b.getD j []) i
    rw [← ih (by simpa using ha) (by simpa using hb), Ring.intCast_add, Ring.intCast_mul]
    rfl
theorem readIn_combo (hp : Pr p) {q : Pic} (h : PicOk q c) {K : Key} (hK : K.length = c) (hG : Gr p m K) : readIn p m K (greysOf q) = combo p m K (restsOf p q) := by
  haveI := hp.nz
  have hr := Rw.rests hp.pos h
  refine cv_ext (Fin p) (p := p) (w := m) ⟨by unfold readIn; rw [List.length_map, List.length_range], fun x hx => ?_⟩ (read_rw hp.pos hG) fun i hi => ?_
  · unfold readIn at hx
    obtain ⟨j, _, rfl⟩ := List.mem_map.mp hx
    exact fmod_dig hp.pos _
  · rw [cv_combo hp.pos (fun a ha => (hG a ha).len) hK hr.len]
    unfold readIn
    have e : cv (Fin p) ((List.range m).map fun i => (((greysOf q).zip K).map fun (q : Int × List Int) => q.1 * at0 q.2 i).sum.fmod p) i = (((((greysOf q).zip K).map fun (q : Int × List Int) => q.1 * at0 q.2 i).sum : Int) : Fin p) := by
      unfold cv
      rw [at0_lt (by rw [List.length_map, List.length_range]; exact hi), List.getElem_map, List.getElem_range, ca_mod hp.pos]
    rw [e, ca_dotK h.len hK]
    refine sm_congr fun j hj => ?_
    congr 1
    unfold restsOf cv
    rw [at0_lt (by rw [h.len]; exact hj), at0_lt (by rw [List.length_map, h.len]; exact hj), List.getElem_map, ca_mod hp.pos]
end
section
variable {k : Nat} {t : Tin} {p m c : Nat} {q : Pic} {d : D} {K : Key}
structure KeyOk (p m c : Nat) (K : Key) : Prop where
  len : K.length = c
  gr : Gr p m K
theorem e_tup_key (h : KeyOk p m c K) (hc : c ≤ 100) (hm : m ≤ 100) : call (k + 4) "tupled" [dKey p m K] t = .ok (dKey p m K) t := by
  refine e_tup_T (f := id) (g := id) (xs := [nat p, nat m, dGrid K]) (show 3 ≤ cap by decide) fun x hx => ?_
  rcases List.mem_cons.mp hx with rfl | hx
  · exact e_tup_int
  rcases List.mem_cons.mp hx with rfl | hx
  · exact e_tup_int
  rcases List.mem_cons.mp hx with rfl | hx
  · exact e_tup_grid (by rw [h.len]; exact Nat.le_trans hc (by decide)) fun r hr => by rw [(h.gr r hr).len]; exact Nat.le_trans hm (by decide)
  · cases hx
theorem dKey_ok {n : Nat} : okN (n + 3) (dKey p m K) = true := by
  show ([nat p, nat m, dGrid K]).all (okN (n + 2)) = true
  rw [List.all_cons, List.all_cons, List.all_cons, show okN (n + 2) (nat p) = true from okN_int, show okN (n + 2) (nat m) = true from okN_int, okN_grid] <;> rfl
theorem e_read_in {g : List Int} (hp : Pr p) (h : KeyOk p m c K) (hg : g.length = c) (hc : c ≤ 100) (hm : m ≤ 100) : call (k + 1) "read_in" [dKey p m K, dRow g] t = .ok (dRow (readIn p m K g)) t := by
  rw [call_of of_read_in rfl]
  refine callF_ret ?_
  show exs _ f_read_in [some (.dat (dKey p m K)), some (.dat (dRow g)), none, none, none] t = _
  have hp' : (p : Int) ≠ 0 := by
    have := hp.pos
    omega
  have hx0 : ixD (dKey p m K) (.int 0) t = some (nat p) := rfl
  have hx1 : ixD (dKey p m K) (.int 1) t = some (nat m) := rfl
  have hx2 : ixD (dKey p m K) (.int 2) t = some (dGrid K) := rfl
  have hin : ∀ i, i < m → ev (Γs k) (.comp (.fn .zip (.cons (.var 1) (.cons (.ix (.var 0) (.int 2)) .nil))) false [2, 3] [2, 3] (.two .mul (.var 2) (.ix (.var 3) (.var 4)))) [some (.dat (dKey p m K)), some (.dat (dRow g)), none, none, some (.dat (nat i))] t = .ok (dL .int ((g.zip K).map fun (q : Int × List Int) => q.1 * at0 q.2 i)) t := fun i hi => by
    have hcm := ev_comp (Γ := Γs k) (it := .fn .zip (.cons (.var 1) (.cons (.ix (.var 0) (.int 2)) .nil))) (s := false) (tg := [2, 3]) (vs := [2, 3]) (e := .two .mul (.var 2) (.ix (.var 3) (.var 4))) (t1 := t)
      (ρ := [some (.dat (dKey p m K)), some (.dat (dRow g)), none, none, some (.dat (nat i))]) (t := t) (g.zip K) (pD .int dRow) (fun q => .int (q.1 * at0 q.2 i)) (by simp [hx2]) (by rw [List.length_zip, hg]; exact Nat.le_trans (Nat.min_le_left _ _) (Nat.le_trans hc (by decide)))
      (fun x hx => ⟨[some (.dat (dKey p m K)), some (.dat (dRow g)), some (.dat (.int x.1)), some (.dat (dRow x.2)), some (.dat (nat i))], rfl, by
        have hr := h.gr _ (List.of_mem_zip (show (x.1, x.2) ∈ _ from hx)).2
        have hxx : ixD (dRow x.2) (nat i) t = some (.int (at0 x.2 i)) := ix_T (i := (i : Int)) rfl (get_some (by rw [hr.len]; exact hi))
        have hmm : dMul (.int x.1) (.int (at0 x.2 i)) = some (.int (x.1 * at0 x.2 i)) := mul_small' (small_of hp.le (hr.getD hp.pos i))
        simp [hxx, hmm]⟩)
    rw [hcm, dL_map]
  have hcm := ev_comp (Γ := Γs k) (it := .fn .rng1 (.cons (.ix (.var 0) (.int 1)) .nil)) (s := true) (tg := [4]) (vs := [4]) (e := .two .mod (.fn .sum (.cons (.comp (.fn .zip (.cons (.var 1) (.cons (.ix (.var 0) (.int 2)) .nil))) false [2, 3] [2, 3] (.two .mul (.var 2) (.ix (.var 3) (.var 4)))) .nil)) (.ix (.var 0) (.int 0))) (t1 := t)
    (ρ := [some (.dat (dKey p m K)), some (.dat (dRow g)), none, none, none]) (t := t) (List.range m) nat (fun i => .int ((((g.zip K).map fun (q : Int × List Int) => q.1 * at0 q.2 i).sum).fmod p)) (by simp [hx1, nat, rng1 (show m ≤ 1000000 by omega)]) (by rw [List.length_range]; exact Nat.le_trans hm (by decide))
    (fun i hi => ⟨[some (.dat (dKey p m K)), some (.dat (dRow g)), none, none, some (.dat (nat i))], rfl, by
      have hmd : ∀ x : Int, dMod (.int x) (nat p) = some (.int (x.fmod p)) := fun x => mod_int hp'
      simp [hin i (List.mem_range.mp hi), hx0, hmd]⟩)
  simp [f_read_in, hcm, readIn, dT_map]
theorem e_reading (hp : Pr p) (hd : IsPic d q) (h : PicOk q c) (hK : KeyOk p m c K) (hm : m ≤ 100) : call (k + 6) "reading" [d, dKey p m K] t = .ok (dRow (combo p m K (restsOf p q))) t := by
  have hc := h.few
  have h1 : call (k + 4) "greys" [d] t = .ok (dRow (greysOf q)) t := e_greys hd h
  have h2 : call (k + 4) "tupled" [dKey p m K] t = .ok (dKey p m K) t := e_tup_key hK hc hm
  have hx2 : ixD (dKey p m K) (.int 2) t = some (dGrid K) := rfl
  have h3 : call (k + 5) "sure_tones" [d, dKey p m K] t = .ok (.tup [dRow (greysOf q), dKey p m K]) t := by
    rw [call_of of_sure_tones rfl]
    refine callF_ret ?_
    show exs _ f_sure_tones [some (.dat d), some (.dat (dKey p m K)), none, none] t = _
    simp [f_sure_tones, h1, h2, hx2, h.len, hK.len]
  rw [call_of of_reading rfl]
  refine callF_ret ?_
  show exs _ f_reading [some (.dat d), some (.dat (dKey p m K)), none, none] t = _
  have h4 : call (k + 5) "read_in" [dKey p m K, dRow (greysOf q)] t = .ok (dRow (readIn p m K (greysOf q))) t := e_read_in hp hK h.len hc hm
  simp [f_reading, h3, h4, readIn_combo hp h hK.len hK.gr]
theorem KeyOk.mem (h : K ∈ allKeys p m c) : KeyOk p m c K := ⟨(mem_keys.mp h).1, (mem_keys.mp h).2⟩
theorem e_is_tuple_of_T {n : Nat} {xs : List D} {i : Int} (hi : i = n) : call (k + 1) "is_tuple_of" [.tup xs, .int i] t = .ok (.bl (xs.length == n)) t := by
  subst hi
  rw [call_of of_is_tuple_of rfl]
  refine callF_ret ?_
  show exs _ f_is_tuple_of [some (.dat (.tup xs)), some (.dat (nat n))] t = _
  have hi : dIs [.tuple] (.tup xs) = some (.bl true) := rfl
  have hl : dLen [.tup xs] = some (nat xs.length) := rfl
  have he : dEq (nat xs.length) (nat n) = some (.bl (xs.length == n)) := by
    rw [show dEq (nat xs.length) (nat n) = _ from dEq_int]
    congr 2
    by_cases h : xs.length = n
    · simp [h]
    · have h1 : ((xs.length : Int) == (n : Int)) = false := beq_eq_false_iff_ne.mpr (by omega)
      rw [h1, beq_eq_false_iff_ne.mpr h]
  simp [f_is_tuple_of, hi, hl, he]
/-- what is no tuple -/
def noTup : D → Bool
  | .tup _ => false
  | .tin => false
  | .dct _ => false
  | _ => true
theorem noTup_is {d : D} (h : noTup d = true) : dIs [.tuple] d = some (.bl false) := by
  cases d <;> first | (cases h; done) | rfl
theorem e_is_tuple_of_no {i : Int} (h : noTup d = true) : call (k + 1) "is_tuple_of" [d, .int i] t = .ok (.bl false) t := by
  rw [call_of of_is_tuple_of rfl]
  refine callF_ret ?_
  show exs _ f_is_tuple_of [some (.dat d), some (.dat (.int i))] t = _
  simp [f_is_tuple_of, noTup_is h]
theorem row_belowD {r : List Int} {w : Nat} (h : Rw p w r) : rowD p (dRow r) = true := by
  show (r.map D.int).all (belowD p) = true
  rw [List.all_map, List.all_eq_true]
  intro x hx
  have := h.dig x hx
  show (decide (0 ≤ x) && decide (x < (p : Int))) = true
  rw [decide_eq_true this.1, decide_eq_true this.2] <;> rfl
theorem e_is_row_row {r : List Int} {w : Nat} (h : Rw p w r) (hw : w ≤ 100) : call (k + 4) "is_row" [nat p, dRow r] t = .ok (.bl true) t := by
  rw [e_is_row rfl fun xs hx => ?_, row_belowD h]
  cases hx
  refine ⟨by rw [List.length_map, h.len]; exact Nat.le_trans hw (by decide), fun x hx => ?_⟩
  obtain ⟨y, _, rfl⟩ := List.mem_map.mp hx
  rfl
theorem e_is_prime (hp : Pr p) : call (k + 2) "is_prime" [nat p] t = .ok (.bl true) t := by
  rw [call_of of_is_prime rfl]
  refine callF_ret ?_
  show exs _ f_is_prime [some (.dat (nat p))] t = _
  have h1 : call (k + 1) "is_number" [nat p] t = .ok (.bl true) t := e_is_number rfl
  have h2 : dIn (nat p) (.tup [.int 2, .int 3, .int 5]) = some (.bl true) := by
    rcases hp with rfl | rfl <;> kernel_rfl
  simp [f_is_prime, h1, h2]
theorem all_trueL {α : Type} {xs : List α} : dAll [dL (fun _ => D.bl true) xs] = some (.bl true) := by
  have e : dL (fun (r : α) => D.bl true) xs = dL .bl (xs.map fun _ => true) := dL_map.symm
  rw [e, all_L]
  simp
theorem e_is_key (hp : Pr p) (hK : KeyOk p m c K) (hc : 0 < c) (hc2 : c ≤ 100) (hm : m ≤ 100) : call (k + 6) "is_key" [dKey p m K] t = .ok (.bl true) t := by
  have hx0 : ixD (dKey p m K) (.int 0) t = some (nat p) := rfl
  have hx1 : ixD (dKey p m K) (.int 1) t = some (nat m) := rfl
  have hx2 : ixD (dKey p m K) (.int 2) t = some (dGrid K) := rfl
  have h1 : call (k + 5) "are_rows_of" [nat p, nat m, dGrid K] t = .ok (.bl true) t := by
    rw [call_of of_are_rows_of rfl]
    refine callF_ret ?_
    show exs _ f_are_rows_of [some (.dat (nat p)), some (.dat (nat m)), some (.dat (dGrid K)), none] t = _
    have hi : dIs [.tuple] (dGrid K) = some (.bl true) := rfl
    have hne : dNe (dGrid K) (.tup []) = some (.bl true) := by
      rw [dNe_ok okN_grid rfl]
      cases K with
      | nil =>
        have := hK.len
        rw [List.length_nil] at this
        omega
      | cons a b => rfl
    have hcm := ev_comp (Γ := Γs (k + 4)) (it := .seq (.var 2)) (s := true) (tg := [3]) (vs := [3]) (e := .and_ (.call "is_row" (.cons (.var 0) (.cons (.var 3) .nil))) (.two .eq (.fn .len (.cons (.var 3) .nil)) (.var 1))) (t1 := t)
      (ρ := [some (.dat (nat p)), some (.dat (nat m)), some (.dat (dGrid K)), none]) (t := t) K dRow (fun _ => .bl true) (by simp) (by rw [hK.len]; exact Nat.le_trans hc2 (by decide))
      (fun r hr => ⟨[some (.dat (nat p)), some (.dat (nat m)), some (.dat (dGrid K)), some (.dat (dRow r))], rfl, by
        have h1 : call (k + 4) "is_row" [nat p, dRow r] t = .ok (.bl true) t := e_is_row_row (hK.gr r hr) hm
        have h2 : dEq (.int r.length) (nat m) = some (.bl true) := by
          rw [show dEq (.int r.length) (nat m) = _ from dEq_int, (hK.gr r hr).len]
          simp
        simp [h1, h2]⟩)
    simp [f_are_rows_of, hi, hne, hcm, all_trueL]
  rw [call_of of_is_key rfl]
  refine callF_ret ?_
  show exs _ f_is_key [some (.dat (dKey p m K))] t = _
  have h2 : call (k + 5) "is_tuple_of" [dKey p m K, .int 3] t = .ok (.bl true) t := e_is_tuple_of_T (n := 3) rfl
  have h3 : call (k + 5) "is_prime" [nat p] t = .ok (.bl true) t := e_is_prime hp
  have h4 : call (k + 5) "is_count" [nat m] t = .ok (.bl true) t := by
    rw [e_is_count rfl]
    show Res.ok (D.bl (decide (0 ≤ (m : Int)))) t = _
    rw [decide_eq_true (by omega)]
  simp [f_is_key, h1, h2, h3, h4, hx0, hx1, hx2]
theorem e_is_key_no (h : noTup d = true) : call (k + 6) "is_key" [d] t = .ok (.bl false) t := by
  rw [call_of of_is_key rfl]
  refine callF_ret ?_
  show exs _ f_is_key [some (.dat d)] t = _
  have h2 : call (k + 5) "is_tuple_of" [d, .int 3] t = .ok (.bl false) t := e_is_tuple_of_no h
  simp [f_is_key, h2]
theorem e_is_key_odd {a b : D} : call (k + 6) "is_key" [.tup [.lst [], a, b]] t = .ok (.bl false) t := by
  rw [call_of of_is_key rfl]
  refine callF_ret ?_
  show exs _ f_is_key [some (.dat (.tup [.lst [], a, b]))] t = _
  have h2 : call (k + 5) "is_tuple_of" [.tup [.lst [], a, b], .int 3] t = .ok (.bl true) t := e_is_tuple_of_T (n := 3) rfl
  have hx0 : ixD (.tup [.lst [], a, b]) (.int 0) t = some (.lst []) := rfl
  have h3 : call (k + 5) "is_prime" [.lst []] t = .ok (.bl false) t := by
    rw [call_of of_is_prime rfl]
    refine callF_ret ?_
    show exs _ f_is_prime [some (.dat (.lst []))] t = _
    have h1 : call (k + 4) "is_number" [.lst []] t = .ok (.bl false) t := e_is_number rfl
    simp [f_is_prime, h1]
  simp [f_is_key, h2, hx0, h3]
end
end Dry
set_option Elab.async false
set_option linter.all false
set_option maxRecDepth 100000
set_option maxHeartbeats 4000000
set_option autoImplicit false
/-! DryYc: what the defs compute: pairs. -/
namespace Dry
open PySem PySem.Spec PyProof.Rows L2
abbrev Prs := List (Pic × List Int)
def dPair : Pic × List Int → D := pD dPic dRow
def dPairL (q : Pic × List Int) : D := .lst [dPicL q.1, dL .int q.2]
def dPrs (pp : Prs) : D := dT dPair pp
def dPrsL (pp : Prs) : D := dL dPairL pp
def IsPrs (d : D) (pp : Prs) : Prop := d = dPrs pp ∨ d = dPrsL pp
def psOf (p : Nat) (pp : Prs) : List Pair := pp.map fun q => (restsOf p q.1, q.2)
structure PrsOk (p m c : Nat) (pp : Prs) : Prop where
  pr : Pr p
  ne : pp ≠ []
  few : pp.length ≤ 100
  ok : ∀ q ∈ pp, PicOk q.1 c ∧ Rw p m q.2
  mpos : 0 < m
  mfew : m ≤ 100
section
variable {k : Nat} {t : Tin} {p m c : Nat} {pp : Prs} {d : D}
theorem PrsOk.ps (h : PrsOk p m c pp) : PsOk p m c (psOf p pp) := fun q hq => by
  obtain ⟨a, ha, rfl⟩ := List.mem_map.mp hq
  exact ⟨Rw.rests h.pr.pos (h.ok a ha).1, (h.ok a ha).2⟩
theorem PrsOk.head (h : PrsOk p m c pp) : ∃ q0 qs, pp = q0 :: qs := by
  cases pp with
  | nil => exact absurd rfl h.ne
  | cons a b => exact ⟨a, b, rfl⟩
theorem PrsOk.cfew (h : PrsOk p m c pp) : c ≤ 100 := by
  obtain ⟨q0, qs, rfl⟩ := h.head
  exact (h.ok q0 (List.mem_cons_self ..)).1.few
theorem PrsOk.cpos (h : PrsOk p m c pp) : 0 < c := by
  obtain ⟨q0, qs, rfl⟩ := h.head
  have h1 := (h.ok q0 (List.mem_cons_self ..)).1
  have := h1.high
  have := List.length_pos_iff.mpr h1.ne
  omega
theorem ps_len : (psOf p pp).length = pp.length := List.length_map ..
theorem ps_fst : (psOf p pp).map Prod.fst = pp.map fun q => restsOf p q.1 := by
  unfold psOf
  rw [List.map_map]
  rfl
theorem ps_snd : (psOf p pp).map Prod.snd = pp.map Prod.snd := by
  unfold psOf
  rw [List.map_map]
  rfl
theorem PicOk.rows {q : Pic} (h : PicOk q c) : ∀ r ∈ q.2, r.length ≤ cap := fun r hr => by
  obtain ⟨w, h1, h2, h3⟩ := h.sh
  have := h.few
  have hl := List.length_pos_iff.mpr h.ne
  have : 1 * w ≤ q.2.length * w := Nat.mul_le_mul_right _ hl
  rw [h2 r hr]
  unfold cap
  omega
theorem PicOk.rowsl {q : Pic} (h : PicOk q c) : q.2.length ≤ cap := by
  have := h.high
  have := h.few
  unfold cap
  omega
theorem e_tup_rowL {r : List Int} (hc : r.length ≤ cap) : call (k + 2) "tupled" [dL .int r] t = .ok (dRow r) t := e_tup_L hc fun _ _ => e_tup_int
theorem e_tup_pic {q : Pic} (h : PicOk q c) : call (k + 4) "tupled" [dPic q] t = .ok (dPic q) t := by
  refine e_tup_T (f := id) (g := id) (xs := [.int q.1, dGrid q.2]) (show 2 ≤ cap by decide) fun x hx => ?_
  rcases List.mem_cons.mp hx with rfl | hx
  · exact e_tup_int
  rcases List.mem_cons.mp hx with rfl | hx
  · exact e_tup_grid h.rowsl h.rows
  · cases hx
theorem e_tup_picL {q : Pic} (h : PicOk q c) : call (k + 4) "tupled" [dPicL q] t = .ok (dPic q) t := by
  refine e_tup_L (f := Prod.fst) (g := Prod.snd) (xs := [(D.int q.1, D.int q.1), (dL (dL .int) q.2, dGrid q.2)]) (show 2 ≤ cap by decide) fun x hx => ?_
  rcases List.mem_cons.mp hx with rfl | hx
  · exact e_tup_int
  rcases List.mem_cons.mp hx with rfl | hx
  · exact e_tup_L h.rowsl fun r hr => e_tup_rowL (h.rows r hr)
  · cases hx
theorem PrsOk.msg (h : PrsOk p m c pp) {q : Pic × List Int} (hq : q ∈ pp) : q.2.length ≤ cap := by
  rw [(h.ok q hq).2.len]
  exact Nat.le_trans h.mfew (by decide)
theorem e_tup_pp (hd : IsPrs d pp) (h : PrsOk p m c pp) : call (k + 6) "tupled" [d] t = .ok (dPrs pp) t := by
  have hn : pp.length ≤ cap := Nat.le_trans h.few (by decide)
  rcases hd with rfl | rfl
  · refine e_tup_T hn fun q hq => ?_
    refine e_tup_T (f := id) (g := id) (xs := [dPic q.1, dRow q.2]) (show 2 ≤ cap by decide) fun x hx => ?_
    rcases List.mem_cons.mp hx with rfl | hx
    · exact e_tup_pic (h.ok q hq).1
    rcases List.mem_cons.mp hx with rfl | hx
    · exact e_tup_row (h.msg hq)
    · cases hx
  · refine e_tup_L hn fun q hq => ?_
    refine e_tup_L (f := Prod.fst) (g := Prod.snd) (xs := [(dPicL q.1, dPic q.1), (dL .int q.2, dRow q.2)]) (show 2 ≤ cap by decide) fun x hx => ?_
    rcases List.mem_cons.mp hx with rfl | hx
    · exact e_tup_picL (h.ok q hq).1
    rcases List.mem_cons.mp hx with rfl | hx
    · exact e_tup_rowL (h.msg hq)
    · cases hx
theorem okN_pic {n : Nat} {q : Pic} : okN (n + 3) (dPic q) = true := by
  show ([.int q.1, dGrid q.2]).all (okN (n + 2)) = true
  rw [List.all_cons, List.all_cons, show okN (n + 2) (.int q.1) = true from okN_int, okN_grid] <;> rfl
theorem okN_pair {n : Nat} {q : Pic × List Int} : okN (n + 4) (dPair q) = true := by
  show ([dPic q.1, dRow q.2]).all (okN (n + 3)) = true
  rw [List.all_cons, List.all_cons, okN_pic, okN_row] <;> rfl
theorem okN_pp {n : Nat} : okN (n + 5) (dPrs pp) = true := okN_T fun _ _ => okN_pair
theorem eq_nat {a b : Nat} : dEq (nat a) (nat b) = some (.bl (a == b)) := by
  rw [show dEq (nat a) (nat b) = _ from dEq_int]
  congr 2
  by_cases h : a = b
  · simp [h]
  · have h1 : ((a : Int) == (b : Int)) = false := beq_eq_false_iff_ne.mpr (by omega)
    rw [h1, beq_eq_false_iff_ne.mpr h]
theorem ne_nat {a b : Nat} : dNe (nat a) (nat b) = some (.bl (a != b)) := by
  rw [show dNe (nat a) (nat b) = _ from dNe_int]
  congr 2
  by_cases h : a = b
  · simp [h]
  · have h1 : ((a : Int) != (b : Int)) = true := bne_iff_ne.mpr (by omega)
    rw [h1, bne_iff_ne.mpr h]
theorem lenT' {α : Type} {f : α → D} {xs : List α} {n : Nat} (h : xs.length = n) : dLen [dT f xs] = some (nat n) := by
  rw [len_T, h] <;> rfl
theorem e_is_seen_pair (h : PrsOk p m c pp) {q : Pic × List Int} (hq : q ∈ pp) : call (k + 5) "is_seen_pair" [nat p, nat c, nat m, dPair q] t = .ok (.bl true) t := by
  obtain ⟨h1, h2⟩ := h.ok q hq
  rw [call_of of_is_seen_pair rfl]
  refine callF_ret ?_
  show exs _ f_is_seen_pair [some (.dat (nat p)), some (.dat (nat c)), some (.dat (nat m)), some (.dat (dPair q))] t = _
  have e1 : call (k + 4) "is_tuple_of" [dPair q, .int 2] t = .ok (.bl true) t := e_is_tuple_of_T (n := 2) rfl
  have e2 : call (k + 4) "cells_in" [dPic q.1] t = .ok (nat c) t := e_cells_in (.inl rfl) h1
  have e3 : call (k + 4) "is_row" [nat p, dRow q.2] t = .ok (.bl true) t := e_is_row_row h2 h.mfew
  have x0 : ixD (dPair q) (.int 0) t = some (dPic q.1) := rfl
  have x1 : ixD (dPair q) (.int 1) t = some (dRow q.2) := rfl
  have e4 : dLen [dRow q.2] = some (nat m) := lenT' h2.len
  simp only [f_is_seen_pair]
  simp [e1, e2, e3, x0, x1, e4, ne_nat, eq_nat, - len_T]
def dSure (p : Nat) (pp : Prs) : D := .tup [dPrs pp, dGrid ((psOf p pp).map Prod.fst), dGrid ((psOf p pp).map Prod.snd)]
theorem e_sure_pairs (hd : IsPrs d pp) (h : PrsOk p m c pp) : call (k + 7) "sure_pairs" [nat p, d] t = .ok (dSure p pp) t := by
  rw [call_of of_sure_pairs rfl]
  refine callF_ret ?_
  show exs _ f_sure_pairs [some (.dat (nat p)), some (.dat d), none, none, none, none, none, none, none] t = _
  have hn : pp.length ≤ cap := Nat.le_trans h.few (by decide)
  have e0 : call (k + 6) "tupled" [d] t = .ok (dPrs pp) t := e_tup_pp hd h
  have hi : dIs [.tuple] (dPrs pp) = some (.bl true) := rfl
  have he : dEq (dPrs pp) (.tup []) = some (.bl false) := by
    rw [show dEq (dPrs pp) (.tup []) = _ from eq_nilT okN_pp]
    obtain ⟨q0, qs, rfl⟩ := h.head
    rfl
  obtain ⟨q0, hq0⟩ : ∃ q0, pp[0]? = some q0 := ⟨_, List.getElem?_eq_getElem (List.length_pos_iff.mpr h.ne)⟩
  have hm0 := List.mem_of_getElem? hq0
  obtain ⟨hp0, hr0⟩ := h.ok q0 hm0
  have x0 : ixD (dPrs pp) (.int 0) t = some (dPair q0) := ix_T (n := 0) rfl hq0
  have x00 : ixD (dPair q0) (.int 0) t = some (dPic q0.1) := rfl
  have x01 : ixD (dPair q0) (.int 1) t = some (dRow q0.2) := rfl
  have e1 : call (k + 6) "is_tuple_of" [dPair q0, .int 2] t = .ok (.bl true) t := e_is_tuple_of_T (n := 2) rfl
  have e2 : call (k + 6) "cells_in" [dPic q0.1] t = .ok (nat c) t := e_cells_in (.inl rfl) hp0
  have e3 : dLen [dRow q0.2] = some (nat m) := lenT' hr0.len
  have e4 : dEq (nat m) (.int 0) = some (.bl false) := by
    rw [show dEq (nat m) (.int 0) = _ from dEq_int]
    have := h.mpos
    rw [beq_eq_false_iff_ne.mpr (show (m : Int) ≠ 0 by omega)]
  have hc1 := ev_comp (Γ := Γs (k + 6)) (it := .seq (.var 2)) (s := true) (tg := [5]) (vs := [5]) (e := .call "is_seen_pair" (.cons (.var 0) (.cons (.var 3) (.cons (.var 4) (.cons (.var 5) .nil))))) (t1 := t)
    (ρ := [some (.dat (nat p)), some (.dat d), some (.dat (dPrs pp)), some (.dat (nat c)), some (.dat (nat m)), none, none, none, none]) (t := t) pp dPair (fun _ => .bl true) (by simp [dPrs]) hn
    (fun q hq => ⟨[some (.dat (nat p)), some (.dat d), some (.dat (dPrs pp)), some (.dat (nat c)), some (.dat (nat m)), some (.dat (dPair q)), none, none, none], rfl, by
      have : call (k + 6) "is_seen_pair" [nat p, nat c, nat m, dPair q] t = .ok (.bl true) t := e_is_seen_pair h hq
      simp [this]⟩)
  have hc2 := ev_comp (Γ := Γs (k + 6)) (it := .seq (.var 2)) (s := false) (tg := [6, 7]) (vs := [6, 7]) (e := .call "rests" (.cons (.var 6) (.cons (.var 0) .nil))) (t1 := t)
    (ρ := [some (.dat (nat p)), some (.dat d), some (.dat (dPrs pp)), some (.dat (nat c)), some (.dat (nat m)), none, none, none, none]) (t := t) pp dPair (fun q => dRow (restsOf p q.1)) (by simp [dPrs]) hn
    (fun q hq => ⟨[some (.dat (nat p)), some (.dat d), some (.dat (dPrs pp)), some (.dat (nat c)), some (.dat (nat m)), none, some (.dat (dPic q.1)), some (.dat (dRow q.2)), none], rfl, by
      have : call (k + 6) "rests" [dPic q.1, nat p] t = .ok (dRow (restsOf p q.1)) t := e_rests h.pr.pos (.inl rfl) (h.ok q hq).1
      simp [this]⟩)
  have hc3 := ev_comp (Γ := Γs (k + 6)) (it := .seq (.var 2)) (s := false) (tg := [7, 8]) (vs := [7, 8]) (e := .var 8) (t1 := t)
    (ρ := [some (.dat (nat p)), some (.dat d), some (.dat (dPrs pp)), some (.dat (nat c)), some (.dat (nat m)), none, none, none, none]) (t := t) pp dPair (fun q => dRow q.2) (by simp [dPrs]) hn
    (fun q hq => ⟨[some (.dat (nat p)), some (.dat d), some (.dat (dPrs pp)), some (.dat (nat c)), some (.dat (nat m)), none, none, some (.dat (dPic q.1)), some (.dat (dRow q.2))], rfl, by simp⟩)
  have g1 : dT (fun (q : Pic × List Int) => dRow (restsOf p q.1)) pp = dGrid ((psOf p pp).map Prod.fst) := by rw [ps_fst]; exact dT_map.symm
  have g2 : dT (fun (q : Pic × List Int) => dRow q.2) pp = dGrid ((psOf p pp).map Prod.snd) := by rw [ps_snd]; exact dT_map.symm
  simp only [f_sure_pairs]
  simp [e0, hi, he, x0, x00, x01, e1, e2, e3, e4, hc1, hc2, hc3, all_trueL, g1, g2, dSure, - len_T]
theorem grid_head (h : PrsOk p m c pp) : ∃ g0, ((psOf p pp).map Prod.fst)[0]? = some g0 ∧ Rw p c g0 := by
  obtain ⟨q0, qs, rfl⟩ := h.head
  exact ⟨_, rfl, Rw.rests h.pr.pos (h.ok q0 (List.mem_cons_self ..)).1⟩
theorem msg_head (h : PrsOk p m c pp) : ∃ g0, ((psOf p pp).map Prod.snd)[0]? = some g0 ∧ Rw p m g0 := by
  obtain ⟨q0, qs, rfl⟩ := h.head
  exact ⟨_, rfl, (h.ok q0 (List.mem_cons_self ..)).2⟩
theorem e_sure_rests (h : PrsOk p m c pp) {q : Pic} {e : D} (he : IsPic e q) (hq : PicOk q c) : call (k + 3) "sure_rests" [nat p, dGrid ((psOf p pp).map Prod.fst), e] t = .ok (dRow (restsOf p q)) t := by
  rw [call_of of_sure_rests rfl]
  refine callF_ret ?_
  show exs _ f_sure_rests [some (.dat (nat p)), some (.dat (dGrid ((psOf p pp).map Prod.fst))), some (.dat e)] t = _
  obtain ⟨g0, hg0, hg1⟩ := grid_head h
  have x0 : ixD (dGrid ((psOf p pp).map Prod.fst)) (.int 0) t = some (dRow g0) := ix_T (n := 0) rfl hg0
  have e1 : call (k + 2) "cells_in" [e] t = .ok (nat c) t := e_cells_in he hq
  have e2 : dLen [dRow g0] = some (nat c) := lenT' hg1.len
  have e3 : call (k + 2) "rests" [e, nat p] t = .ok (dRow (restsOf p q)) t := e_rests h.pr.pos he hq
  simp only [f_sure_rests]
  simp [x0, e1, e2, e3, ne_nat, - len_T]
theorem e_digits_at {M : List (List Int)} {i : Nat} (hM : Gr p m M) (hi : i < m) (hn : M.length ≤ cap) : call (k + 1) "digits_at" [dGrid M, nat i] t = .ok (dRow (colAt M i)) t := by
  rw [call_of of_digits_at rfl]
  refine callF_ret ?_
  show exs _ f_digits_at [some (.dat (dGrid M)), some (.dat (nat i)), none] t = _
  have hcm := ev_comp (Γ := Γs k) (it := .seq (.var 0)) (s := true) (tg := [2]) (vs := [2]) (e := .ix (.var 2) (.var 1)) (t1 := t)
    (ρ := [some (.dat (dGrid M)), some (.dat (nat i)), none]) (t := t) M dRow (fun r => .int (at0 r i)) (by simp) hn
    (fun r hr => ⟨[some (.dat (dGrid M)), some (.dat (nat i)), some (.dat (dRow r))], rfl, by
      have : ixD (dRow r) (nat i) t = some (.int (at0 r i)) := ix_T (i := (i : Int)) rfl (get_some (by rw [(hM r hr).len]; exact hi))
      simp [this]⟩)
  simp [f_digits_at, hcm, colAt, dT_map]
theorem fold_snoc {α β : Type} {f : α → β} : ∀ (xs : List α) (acc : List β), xs.foldl (fun b x => b ++ [f x]) acc = acc ++ xs.map f
  | [], acc => (List.append_nil acc).symm
  | x :: xs, acc => by
    rw [List.foldl_cons, fold_snoc xs, List.append_assoc]
    rfl
theorem e_rows_fitting (h : PrsOk p m c pp) : call (k + 8) "rows_fitting" [nat p, dGrid ((psOf p pp).map Prod.fst), dGrid ((psOf p pp).map Prod.snd)] t = .ok (dL optR (rowsFit p m c (psOf p pp))) t := by
  rw [call_of of_rows_fitting rfl]
  refine callF_ret ?_
  show exs _ f_rows_fitting [some (.dat (nat p)), some (.dat (dGrid ((psOf p pp).map Prod.fst))), some (.dat (dGrid ((psOf p pp).map Prod.snd))), none, none, none, none, none] t = _
  have ho := h.ps
  have hcf := h.cfew
  have hmf := h.mfew
  have hpf := h.few
  have hn : (psOf p pp).length ≤ 100 := by rw [ps_len]; exact hpf
  have hG := ho.gr
  have hM := ho.gm
  have hT := gt_ok (c := c) h.pr ho
  obtain ⟨g0, hg0, hg1⟩ := grid_head h
  obtain ⟨m0, hm0, hm1⟩ := msg_head h
  have x0 : ixD (dGrid ((psOf p pp).map Prod.fst)) (.int 0) t = some (dRow g0) := ix_T (n := 0) rfl hg0
  have y0 : ixD (dGrid ((psOf p pp).map Prod.snd)) (.int 0) t = some (dRow m0) := ix_T (n := 0) rfl hm0
  have l1 : dLen [dRow g0] = some (nat c) := lenT' hg1.len
  have l2 : dLen [dRow m0] = some (nat m) := lenT' hm1.len
  have l3 : dLen [dGrid ((psOf p pp).map Prod.fst)] = some (nat (psOf p pp).length) := lenT' (List.length_map ..)
  have e1 : call (k + 7) "turned_grid" [nat p, nat c, dGrid ((psOf p pp).map Prod.fst)] t = .ok (dGrid (turned c ((psOf p pp).map Prod.fst))) t :=
    e_turned_grid (k := k + 5) (fun r hr => (hG r hr).len) (by omega) (by rw [List.length_map]; exact Nat.le_trans hn (by decide))
  generalize hGG : dGrid ((psOf p pp).map Prod.fst) = GG at *
  generalize hMM : dGrid ((psOf p pp).map Prod.snd) = MM at *
  have hlp := loopF_foldI (F := bodyF (Γs (k + 7)) true [5] (.cons (.asg true [6] (.call "digits_at" (.cons (.var 2) (.cons (.var 5) .nil)))) (.cons (.asg true [7] (.call "is_spanned" (.cons (.var 0) (.cons (.fn .len (.cons (.var 1) .nil)) (.cons (.var 4) (.cons (.var 6) .nil)))))) (.cons (.app 3 (.ite (.var 7) (.call "multiples_for" (.cons (.var 0) (.cons (.fn .len (.cons (.var 1) .nil)) (.cons (.var 4) (.cons (.var 6) .nil))))) .non)) .nil)))) (enc := nat) (t := t)
    (fun i (b : List (Option (List Int))) ρ => b.length ≤ i ∧ ∃ x5 x6 x7, ρ = [some (.dat (nat p)), some (.dat GG), some (.dat MM), some (.own (b.map optR)), some (.dat (dGrid (turned c ((psOf p pp).map Prod.fst)))), x5, x6, x7]) (fun b i => b ++ [rowAt p m c (psOf p pp) i]) (List.range m) 0 []
    [some (.dat (nat p)), some (.dat GG), some (.dat MM), some (.own []), some (.dat (dGrid (turned c ((psOf p pp).map Prod.fst)))), none, none, none]
    (fun j b i ρ _ hj hi hR => by
      obtain ⟨hb, x5, x6, x7, rfl⟩ := hR
      have hi' := List.mem_range.mp hi
      rw [List.length_range] at hj
      have hbd : bindT true [5] (nat i) [some (.dat (nat p)), some (.dat GG), some (.dat MM), some (.own (b.map optR)), some (.dat (dGrid (turned c ((psOf p pp).map Prod.fst)))), x5, x6, x7] =
        some [some (.dat (nat p)), some (.dat GG), some (.dat MM), some (.own (b.map optR)), some (.dat (dGrid (turned c ((psOf p pp).map Prod.fst)))), some (.dat (nat i)), x6, x7] := rfl
      have hcol := col_ok (i := i) h.pr ho
      have f1 : call (k + 7) "digits_at" [MM, nat i] t = .ok (dRow (colAt ((psOf p pp).map Prod.snd) i)) t := by
        rw [← hMM]
        exact e_digits_at hM hi' (by rw [List.length_map]; exact Nat.le_trans hn (by decide))
      have f2 : call (k + 7) "is_spanned" [nat p, nat (psOf p pp).length, dGrid (turned c ((psOf p pp).map Prod.fst)), dRow (colAt ((psOf p pp).map Prod.snd) i)] t = .ok (.bl (isSpanned p (turned c ((psOf p pp).map Prod.fst)) (colAt ((psOf p pp).map Prod.snd) i))) t :=
        e_is_spanned (k := k + 1) h.pr hT hcol (Nat.le_trans hn (by decide)) (by rw [turned_len]; omega) (.inl rfl)
      have f3 : call (k + 7) "multiples_for" [nat p, nat (psOf p pp).length, dGrid (turned c ((psOf p pp).map Prod.fst)), dRow (colAt ((psOf p pp).map Prod.snd) i)] t = match rowAt p m c (psOf p pp) i with
        | some m => .ok (dRow m) t
        | none => .exn t := e_multiples_for h.pr hT hcol (by omega) (by rw [turned_len]; omega) (.inl rfl)
      have hcp : b.length < cap := by
        unfold cap
        omega
      refine ⟨[some (.dat (nat p)), some (.dat GG), some (.dat MM), some (.own ((b ++ [rowAt p m c (psOf p pp) i]).map optR)), some (.dat (dGrid (turned c ((psOf p pp).map Prod.fst)))), some (.dat (nat i)), some (.dat (dRow (colAt ((psOf p pp).map Prod.snd) i))), some (.dat (.bl (isSpanned p (turned c ((psOf p pp).map Prod.fst)) (colAt ((psOf p pp).map Prod.snd) i))))], ?_, by rw [List.length_append]; exact Nat.succ_le_succ hb, _, _, _, rfl⟩
      rw [bodyF_some hbd]
      rcases mults_or h.pr hT hcol with ⟨x, s1, s2, _, _⟩ | ⟨u, s1, s2, _⟩
      · have s3 : rowAt p m c (psOf p pp) i = some x := s2
        rw [s3] at f3
        rw [s1] at f2
        rw [s3, s1]
        simp [f1, f2, f3, l3, hcp, optR, - len_T]
      · have s3 : rowAt p m c (psOf p pp) i = none := s2
        rw [s1] at f2
        rw [s3, s1]
        simp [f1, f2, l3, hcp, optR, - len_T]) ⟨Nat.le_refl _, none, none, none, rfl⟩
  obtain ⟨ρ', hl1, _, x5, x6, x7, rfl⟩ := hlp
  rw [fold_snoc, List.nil_append] at hl1
  have hev := ex_loop (Γ := Γs (k + 7)) (it := .fn .rng1 (.cons (.fn .len (.cons (.ix (.var 2) (.int 0)) .nil)) .nil)) (s := true) (tg := [5]) (body := .cons (.asg true [6] (.call "digits_at" (.cons (.var 2) (.cons (.var 5) .nil)))) (.cons (.asg true [7] (.call "is_spanned" (.cons (.var 0) (.cons (.fn .len (.cons (.var 1) .nil)) (.cons (.var 4) (.cons (.var 6) .nil)))))) (.cons (.app 3 (.ite (.var 7) (.call "multiples_for" (.cons (.var 0) (.cons (.fn .len (.cons (.var 1) .nil)) (.cons (.var 4) (.cons (.var 6) .nil))))) .non)) .nil)))
    (ρ := [some (.dat (nat p)), some (.dat GG), some (.dat MM), some (.own []), some (.dat (dGrid (turned c ((psOf p pp).map Prod.fst)))), none, none, none]) (t := t) (t1 := t) (items := (List.range m).map nat) (by
      have : iRng1' [nat m] = some ((List.range m).map nat) := rng1 (by omega)
      simp [y0, l2, this, - len_T])
  rw [hl1] at hev
  simp only [f_rows_fitting]
  simp [x0, l1, e1, hev, - len_T]
  unfold rowsFit dL
  rw [List.map_map]
end
end Dry
set_option Elab.async false
set_option linter.all false
set_option maxRecDepth 100000
set_option maxHeartbeats 4000000
set_option autoImplicit false
/-! DryYd: what the defs compute: keys that fit, odd rows. -/
namespace Dry
open PySem PySem.Spec PyProof.Rows L2
section
variable {k : Nat} {t : Tin} {p m c : Nat} {pp : Prs} {d : D}
theorem okN_optR {n : Nat} {o : Option (List Int)} : okN (n + 1) (optR o) = true := by
  cases o with
  | none => rfl
  | some r => exact okN_row
theorem okN_optL {n : Nat} {rs : List (Option (List Int))} : okN (n + 2) (dL optR rs) = true := okN_L fun _ _ => okN_optR
theorem eqv_optR {o : Option (List Int)} : PyData.eqv (optR o).py D.non.py = o.isNone := by
  cases o <;> rfl
theorem in_none {rs : List (Option (List Int))} : dIn .non (dL optR rs) = some (.bl (rs.any Option.isNone)) := by
  have e : dIn .non (dL optR rs) = (if okB .non = true ∧ okB (dL optR rs) = true then some (.bl ((rs.map optR).any fun z => PyData.eqv z.py D.non.py)) else none) := rfl
  rw [e, if_pos ⟨rfl, okB_of (n := 64) okN_optL (Nat.le_refl _)⟩]
  congr 2
  rw [List.any_map]
  congr 1
  funext x
  exact eqv_optR
theorem notin_none {rs : List (Option (List Int))} : dNotIn .non (dL optR rs) = some (.bl (!rs.any Option.isNone)) := by
  have e : dNotIn .non (dL optR rs) = (if okB .non = true ∧ okB (dL optR rs) = true then some (.bl (!((rs.map optR).any fun z => PyData.eqv z.py D.non.py))) else none) := rfl
  rw [e, if_pos ⟨rfl, okB_of (n := 64) okN_optL (Nat.le_refl _)⟩]
  congr 2
  rw [List.any_map]
  congr 2
  funext x
  exact eqv_optR
theorem any_some {xs : List (List Int)} : (xs.map some).any Option.isNone = false := by
  rw [List.any_map, List.any_eq_false]
  intro x _
  simp
theorem any_none {ps : List Pair} {i : Nat} (hi : i < m) (hn : rowAt p m c ps i = none) : (rowsFit p m c ps).any Option.isNone = true := by
  rw [List.any_eq_true]
  exact ⟨none, List.mem_map.mpr ⟨i, List.mem_range.mpr hi, hn⟩, rfl⟩
theorem optR_some {xs : List (List Int)} : dL optR (xs.map some) = dL dRow xs := dL_map
/-- rows that are told are as wide as there are cells -/
theorem rows_rw (h : PrsOk p m c pp) {xs : List (List Int)} (hx : rowsFit p m c (psOf p pp) = xs.map some) : xs.length = m ∧ Gr p c xs := by
  refine ⟨?_, fun r hr => ?_⟩
  · have := congrArg List.length hx
    unfold rowsFit at this
    rw [List.length_map, List.length_range, List.length_map] at this
    exact this.symm
  · have : some r ∈ rowsFit p m c (psOf p pp) := by
      rw [hx]
      exact List.mem_map.mpr ⟨r, hr, rfl⟩
    obtain ⟨i, _, hi⟩ := List.mem_map.mp this
    have hT := gt_ok (c := c) h.pr h.ps
    have hcol := col_ok (i := i) h.pr h.ps
    rcases mults_or h.pr hT hcol with ⟨x, s1, s2, s3, _⟩ | ⟨u, s1, s2, _⟩
    · have s4 : rowAt p m c (psOf p pp) i = some x := s2
      rw [s4] at hi
      cases hi
      have := s3.rw
      rw [turned_len] at this
      exact this
    · have s4 : rowAt p m c (psOf p pp) i = none := s2
      rw [s4] at hi
      cases hi
abbrev gOf (p : Nat) (pp : Prs) : List (List Int) := (psOf p pp).map Prod.fst
abbrev mOf (p : Nat) (pp : Prs) : List (List Int) := (psOf p pp).map Prod.snd
def dFit (p m c : Nat) (pp : Prs) (xs : List (List Int)) : D := .tup [dGrid (gOf p pp), dGrid (mOf p pp), dKey p m (turned c xs)]
theorem e_key_fitting (hd : IsPrs d pp) (h : PrsOk p m c pp) {xs : List (List Int)} (hx : rowsFit p m c (psOf p pp) = xs.map some) : call (k + 9) "key_fitting" [nat p, d] t = .ok (dFit p m c pp xs) t := by
  rw [call_of of_key_fitting rfl]
  refine callF_ret ?_
  show exs _ f_key_fitting [some (.dat (nat p)), some (.dat d), none, none, none, none, none, none, none] t = _
  obtain ⟨hxl, hxr⟩ := rows_rw h hx
  have hcf := h.cfew
  have hmf := h.mfew
  have e1 : call (k + 8) "sure_pairs" [nat p, d] t = .ok (dSure p pp) t := e_sure_pairs hd h
  have e2 : call (k + 8) "rows_fitting" [nat p, dGrid (gOf p pp), dGrid (mOf p pp)] t = .ok (dL dRow xs) t := by
    rw [e_rows_fitting h, hx, optR_some]
  have e3 : dIn .non (dL dRow xs) = some (.bl false) := by
    rw [← optR_some, in_none, any_some]
  obtain ⟨g0, hg0, hg1⟩ := grid_head h
  have x0 : ixD (dGrid (gOf p pp)) (.int 0) t = some (dRow g0) := ix_T (n := 0) rfl hg0
  have l1 : dLen [dRow g0] = some (nat c) := lenT' hg1.len
  have l2 : dLen [dL dRow xs] = some (nat m) := by rw [len_L, hxl] <;> rfl
  have hds : dSure p pp = .tup [dPrs pp, dGrid (gOf p pp), dGrid (mOf p pp)] := rfl
  generalize hGG : dGrid (gOf p pp) = GG at *
  generalize hMM : dGrid (mOf p pp) = MM at *
  have hcm := ev_comp (Γ := Γs (k + 8)) (it := .fn .rng1 (.cons (.fn .len (.cons (.ix (.var 3) (.int 0)) .nil)) .nil)) (s := true) (tg := [8]) (vs := [8]) (e := .fn .tuple (.cons (.comp (.seq (.var 5)) true [7] [7] (.ix (.var 7) (.var 8))) .nil)) (t1 := t)
    (ρ := [some (.dat (nat p)), some (.dat d), some (.dat (dPrs pp)), some (.dat GG), some (.dat MM), some (.dat (dL dRow xs)), none, none, none]) (t := t) (List.range c) nat (fun j => dRow (xs.map fun r => at0 r j)) (by
      have : iRng1' [nat c] = some ((List.range c).map nat) := rng1 (by omega)
      simp [x0, l1, this, - len_T]) (by rw [List.length_range]; exact Nat.le_trans hcf (by decide))
    (fun j hj => ⟨[some (.dat (nat p)), some (.dat d), some (.dat (dPrs pp)), some (.dat GG), some (.dat MM), some (.dat (dL dRow xs)), none, none, some (.dat (nat j))], rfl, by
      have hcm2 := ev_comp (Γ := Γs (k + 8)) (it := .seq (.var 5)) (s := true) (tg := [7]) (vs := [7]) (e := .ix (.var 7) (.var 8)) (t1 := t)
        (ρ := [some (.dat (nat p)), some (.dat d), some (.dat (dPrs pp)), some (.dat GG), some (.dat MM), some (.dat (dL dRow xs)), none, none, some (.dat (nat j))]) (t := t) xs dRow (fun r => .int (at0 r j)) (by simp) (by rw [hxl]; exact Nat.le_trans hmf (by decide))
        (fun r hr => ⟨[some (.dat (nat p)), some (.dat d), some (.dat (dPrs pp)), some (.dat GG), some (.dat MM), some (.dat (dL dRow xs)), none, some (.dat (dRow r)), some (.dat (nat j))], rfl, by
          have : ixD (dRow r) (nat j) t = some (.int (at0 r j)) := ix_T (i := (j : Int)) rfl (get_some (by rw [(hxr r hr).len]; exact List.mem_range.mp hj))
          simp [this]⟩)
      simp [hcm2, dT_map]⟩)
  simp only [f_key_fitting]
  simp [e1, hds, e2, e3, hcm, l2, - len_L]
  unfold dFit dKey
  rw [hGG, hMM]
  simp [turned, dT_map]
theorem e_key_fitting_no (hd : IsPrs d pp) (h : PrsOk p m c pp) {i : Nat} (hi : i < m) (hn : rowAt p m c (psOf p pp) i = none) : call (k + 9) "key_fitting" [nat p, d] t = .exn t := by
  rw [call_of of_key_fitting rfl]
  refine callF_exn ?_
  show exs _ f_key_fitting [some (.dat (nat p)), some (.dat d), none, none, none, none, none, none, none] t = _
  have e1 : call (k + 8) "sure_pairs" [nat p, d] t = .ok (dSure p pp) t := e_sure_pairs hd h
  have e2 : call (k + 8) "rows_fitting" [nat p, dGrid (gOf p pp), dGrid (mOf p pp)] t = .ok (dL optR (rowsFit p m c (psOf p pp))) t := e_rows_fitting h
  have e3 : dIn .non (dL optR (rowsFit p m c (psOf p pp))) = some (.bl true) := by
    rw [in_none, any_none hi hn]
  have hds : dSure p pp = .tup [dPrs pp, dGrid (gOf p pp), dGrid (mOf p pp)] := rfl
  generalize hGG : dGrid (gOf p pp) = GG at *
  generalize hMM : dGrid (mOf p pp) = MM at *
  simp only [f_key_fitting]
  simp [e1, hds, e2, e3]
theorem e_some_key (hd : IsPrs d pp) (h : PrsOk p m c pp) {xs : List (List Int)} (hx : rowsFit p m c (psOf p pp) = xs.map some) : call (k + 10) "some_key" [nat p, d] t = .ok (dKey p m (turned c xs)) t := by
  rw [call_of of_some_key rfl]
  refine callF_ret ?_
  show exs _ f_some_key [some (.dat (nat p)), some (.dat d)] t = _
  have e1 : call (k + 9) "key_fitting" [nat p, d] t = .ok (dFit p m c pp xs) t := e_key_fitting hd h hx
  have x2 : ixD (dFit p m c pp xs) (.int 2) t = some (dKey p m (turned c xs)) := rfl
  simp [f_some_key, e1, x2]
theorem e_some_key_no (hd : IsPrs d pp) (h : PrsOk p m c pp) {i : Nat} (hi : i < m) (hn : rowAt p m c (psOf p pp) i = none) : call (k + 10) "some_key" [nat p, d] t = .exn t := by
  rw [call_of of_some_key rfl]
  refine callF_exn ?_
  show exs _ f_some_key [some (.dat (nat p)), some (.dat d)] t = _
  have e1 : call (k + 9) "key_fitting" [nat p, d] t = .exn t := e_key_fitting_no hd h hi hn
  simp [f_some_key, e1]
theorem e_fits_in (h : PrsOk p m c pp) {K : Key} (hK : KeyOk p m c K) : call (k + 7) "fits_in" [nat p, dPrs pp, dKey p m K] t = .ok (.bl (fitsK p m (psOf p pp) K)) t := by
  rw [call_of of_fits_in rfl]
  refine callF_ret ?_
  show exs _ f_fits_in [some (.dat (nat p)), some (.dat (dPrs pp)), some (.dat (dKey p m K)), none, none] t = _
  have hn : pp.length ≤ cap := Nat.le_trans h.few (by decide)
  obtain ⟨q0, hq0⟩ : ∃ q0, pp[0]? = some q0 := ⟨_, List.getElem?_eq_getElem (List.length_pos_iff.mpr h.ne)⟩
  obtain ⟨hp0, hr0⟩ := h.ok q0 (List.mem_of_getElem? hq0)
  have x0 : ixD (dPrs pp) (.int 0) t = some (dPair q0) := ix_T (n := 0) rfl hq0
  have x00 : ixD (dPair q0) (.int 0) t = some (dPic q0.1) := rfl
  have x01 : ixD (dPair q0) (.int 1) t = some (dRow q0.2) := rfl
  have e2 : call (k + 6) "cells_in" [dPic q0.1] t = .ok (nat c) t := e_cells_in (.inl rfl) hp0
  have e3 : dLen [dRow q0.2] = some (nat m) := lenT' hr0.len
  have e4 : dLen [dGrid K] = some (nat c) := lenT' hK.len
  have k0 : ixD (dKey p m K) (.int 0) t = some (nat p) := rfl
  have k1 : ixD (dKey p m K) (.int 1) t = some (nat m) := rfl
  have k2 : ixD (dKey p m K) (.int 2) t = some (dGrid K) := rfl
  have hcm := ev_comp (Γ := Γs (k + 6)) (it := .seq (.var 1)) (s := false) (tg := [3, 4]) (vs := [3, 4]) (e := .two .eq (.call "reading" (.cons (.var 3) (.cons (.var 2) .nil))) (.var 4)) (t1 := t)
    (ρ := [some (.dat (nat p)), some (.dat (dPrs pp)), some (.dat (dKey p m K)), none, none]) (t := t) pp dPair (fun q => .bl (combo p m K (restsOf p q.1) == q.2)) (by simp [dPrs]) hn
    (fun q hq => ⟨[some (.dat (nat p)), some (.dat (dPrs pp)), some (.dat (dKey p m K)), some (.dat (dPic q.1)), some (.dat (dRow q.2))], rfl, by
      have e1 : call (k + 6) "reading" [dPic q.1, dKey p m K] t = .ok (dRow (combo p m K (restsOf p q.1))) t := e_reading h.pr (.inl rfl) (h.ok q hq).1 hK h.mfew
      have e2 : dEq (dRow (combo p m K (restsOf p q.1))) (dRow q.2) = some (.bl (combo p m K (restsOf p q.1) == q.2)) := by
        rw [dEq_ok okN_row okN_row, EqOk.row]
      simp [e1, e2]⟩)
  have ea : dL (fun (q : Pic × List Int) => D.bl (combo p m K (restsOf p q.1) == q.2)) pp = dL .bl (pp.map fun q => combo p m K (restsOf p q.1) == q.2) := dL_map.symm
  rw [ea] at hcm
  have eb : (pp.map fun q => combo p m K (restsOf p q.1) == q.2).all id = fitsK p m (psOf p pp) K := by
    unfold fitsK psOf
    rw [List.all_map, List.all_map]
    rfl
  simp only [f_fits_in]
  simp [x0, x00, x01, e2, e3, e4, k0, k1, k2, ne_nat, hcm, - len_T]
  have := congrArg (fun b => SR.ret (D.bl b) t) eb
  simpa using this
theorem e_fits_pairs (hd : IsPrs d pp) (h : PrsOk p m c pp) {K : Key} (hK : KeyOk p m c K) : call (k + 8) "fits_pairs" [nat p, d, dKey p m K] t = .ok (.bl (fitsK p m (psOf p pp) K)) t := by
  rw [call_of of_fits_pairs rfl]
  refine callF_ret ?_
  show exs _ f_fits_pairs [some (.dat (nat p)), some (.dat d), some (.dat (dKey p m K)), none, none] t = _
  have e1 : call (k + 7) "sure_pairs" [nat p, d] t = .ok (dSure p pp) t := e_sure_pairs hd h
  have e2 : call (k + 7) "tupled" [dKey p m K] t = .ok (dKey p m K) t := e_tup_key hK h.cfew h.mfew
  have e3 : call (k + 7) "fits_in" [nat p, dPrs pp, dKey p m K] t = .ok (.bl (fitsK p m (psOf p pp) K)) t := e_fits_in h hK
  have hds : dSure p pp = .tup [dPrs pp, dGrid (gOf p pp), dGrid (mOf p pp)] := rfl
  simp [f_fits_pairs, e1, hds, e2, e3]
/-! ### how many -/
theorem e_power_of {n : Nat} (hp : p ≤ 5) (hn : n ≤ 1000000) : call (k + 1) "power_of" [nat p, nat n] t = .ok (nat (p ^ n)) t := by
  rw [call_of of_power_of rfl]
  refine callF_ret ?_
  show exs _ f_power_of [some (.dat (nat p)), some (.dat (nat n)), none, none] t = _
  have hlp := loopF_fold (F := bodyF (Γs k) true [3] (.cons (.asg true [2] (.two .mul (.var 2) (.var 0))) .nil)) (enc := nat) (t := t)
    (fun (b : Nat) ρ => ∃ x, ρ = [some (.dat (nat p)), some (.dat (nat n)), some (.dat (nat b)), x]) (fun b _ => b * p) (List.range n) 1
    [some (.dat (nat p)), some (.dat (nat n)), some (.dat (nat 1)), none]
    (fun b i ρ _ hR => by
      obtain ⟨x, rfl⟩ := hR
      have hbd : bindT true [3] (nat i) [some (.dat (nat p)), some (.dat (nat n)), some (.dat (nat b)), x] = some [some (.dat (nat p)), some (.dat (nat n)), some (.dat (nat b)), some (.dat (nat i))] := rfl
      refine ⟨[some (.dat (nat p)), some (.dat (nat n)), some (.dat (nat (b * p))), some (.dat (nat i))], ?_, _, rfl⟩
      rw [bodyF_some hbd]
      have hm : dMul (nat b) (nat p) = some (nat (b * p)) := by
        have := mul_small' (i := (b : Int)) (j := (p : Int)) (by unfold smallI; omega)
        rw [nat, nat, this, nat, Int.natCast_mul]
      simp [hm]) ⟨none, rfl⟩
  obtain ⟨ρ', hl1, x, rfl⟩ := hlp
  have hf : ∀ (xs : List Nat) (b : Nat), xs.foldl (fun b _ => b * p) b = b * p ^ xs.length := by
    intro xs
    induction xs with
    | nil => exact fun b => (Nat.mul_one b).symm
    | cons x xs ih =>
      intro b
      rw [List.foldl_cons, ih, List.length_cons, Nat.pow_succ, Nat.mul_assoc, Nat.mul_comm p]
  rw [hf, List.length_range, Nat.one_mul] at hl1
  have hev := ex_loop (Γ := Γs k) (it := .fn .rng1 (.cons (.var 1) .nil)) (s := true) (tg := [3]) (body := .cons (.asg true [2] (.two .mul (.var 2) (.var 0))) .nil) (ρ := [some (.dat (nat p)), some (.dat (nat n)), some (.dat (nat 1)), none]) (t := t) (t1 := t) (items := (List.range n).map nat) (by
    have : iRng1' [nat n] = some ((List.range n).map nat) := rng1 hn
    simp [this])
  rw [hl1] at hev
  have h1 : D.int 1 = nat 1 := rfl
  simp [f_power_of, h1, hev]
abbrev rankOf (p : Nat) (pp : Prs) : Nat := (leadsOf p (gOf p pp)).length
theorem e_many_fitting (h : PrsOk p m c pp) (hr : rankOf p pp ≤ c) : call (k + 8) "many_fitting" [nat p, dGrid (gOf p pp), dGrid (mOf p pp)] t = .ok (nat (p ^ ((c - rankOf p pp) * m))) t := by
  rw [call_of of_many_fitting rfl]
  refine callF_ret ?_
  show exs _ f_many_fitting [some (.dat (nat p)), some (.dat (dGrid (gOf p pp))), some (.dat (dGrid (mOf p pp)))] t = _
  obtain ⟨g0, hg0, hg1⟩ := grid_head h
  obtain ⟨m0, hm0, hm1⟩ := msg_head h
  have hcf := h.cfew
  have hmf := h.mfew
  have hpf := h.few
  have x0 : ixD (dGrid (gOf p pp)) (.int 0) t = some (dRow g0) := ix_T (n := 0) rfl hg0
  have y0 : ixD (dGrid (mOf p pp)) (.int 0) t = some (dRow m0) := ix_T (n := 0) rfl hm0
  have l1 : dLen [dRow g0] = some (nat c) := lenT' hg1.len
  have l2 : dLen [dRow m0] = some (nat m) := lenT' hm1.len
  have e1 : call (k + 7) "grid_rank" [nat p, nat c, dGrid (gOf p pp)] t = .ok (nat (rankOf p pp)) t := e_grid_rank h.pr h.ps.gr (Nat.le_trans hcf (by decide)) (by rw [List.length_map, ps_len]; omega) (.inl rfl)
  have hs : dSub (nat c) (nat (rankOf p pp)) = some (nat (c - rankOf p pp)) := by
    show some (D.int ((c : Int) - (rankOf p pp : Int))) = some (D.int ((c - rankOf p pp : Nat) : Int))
    congr 2
    omega
  have hb : (c - rankOf p pp) * m ≤ 100 * 100 := Nat.mul_le_mul (by omega) hmf
  have hm : dMul (nat (c - rankOf p pp)) (nat m) = some (nat ((c - rankOf p pp) * m)) := by
    have := mul_small' (i := ((c - rankOf p pp : Nat) : Int)) (j := (m : Int)) (by unfold smallI; omega)
    rw [nat, nat, this, nat, Int.natCast_mul]
  have e2 : call (k + 7) "power_of" [nat p, nat ((c - rankOf p pp) * m)] t = .ok (nat (p ^ ((c - rankOf p pp) * m))) t := e_power_of h.pr.le (by omega)
  generalize rankOf p pp = rk at *
  generalize hGG : dGrid (gOf p pp) = GG at *
  generalize hMM : dGrid (mOf p pp) = MM at *
  simp only [f_many_fitting]
  simp [x0, y0, l1, l2, e1, hs, hm, e2, - len_T]
theorem e_how_many (hd : IsPrs d pp) (h : PrsOk p m c pp) : call (k + 9) "how_many_keys" [nat p, d] t = .ok (nat (fitting p m c (psOf p pp)).length) t := by
  rw [call_of of_how_many_keys rfl]
  refine callF_ret ?_
  show exs _ f_how_many_keys [some (.dat (nat p)), some (.dat d), none, none, none] t = _
  have e1 : call (k + 8) "sure_pairs" [nat p, d] t = .ok (dSure p pp) t := e_sure_pairs hd h
  have e2 : call (k + 8) "rows_fitting" [nat p, dGrid (gOf p pp), dGrid (mOf p pp)] t = .ok (dL optR (rowsFit p m c (psOf p pp))) t := e_rows_fitting h
  have hds : dSure p pp = .tup [dPrs pp, dGrid (gOf p pp), dGrid (mOf p pp)] := rfl
  rcases fits_iff h.pr h.ps with ⟨xs, hx, hne, _⟩ | ⟨i, hi, _, hn, he⟩
  · have e3 : dIn .non (dL optR (rowsFit p m c (psOf p pp))) = some (.bl false) := by
      rw [in_none, hx, any_some]
    obtain ⟨r1, r2⟩ := many_fit h.pr h.ps h.mpos hne
    have e4 : call (k + 8) "many_fitting" [nat p, dGrid (gOf p pp), dGrid (mOf p pp)] t = .ok (nat (fitting p m c (psOf p pp)).length) t := by
      rw [e_many_fitting h r1, r2]
    generalize hGG : dGrid (gOf p pp) = GG at *
    generalize hMM : dGrid (mOf p pp) = MM at *
    simp only [f_how_many_keys]
    simp [e1, hds, e2, e3, e4]
  · have e3 : dIn .non (dL optR (rowsFit p m c (psOf p pp))) = some (.bl true) := by
      rw [in_none, any_none hi hn]
    generalize hGG : dGrid (gOf p pp) = GG at *
    generalize hMM : dGrid (mOf p pp) = MM at *
    simp only [f_how_many_keys]
    rw [he]
    simp [e1, hds, e2, e3]
    rfl
/-! ### odd rows -/
theorem e_odd_row_no (hd : IsPrs d pp) (h : PrsOk p m c pp) {xs : List (List Int)} (hx : rowsFit p m c (psOf p pp) = xs.map some) : call (k + 9) "odd_row" [nat p, d] t = .exn t := by
  rw [call_of of_odd_row rfl]
  refine callF_exn ?_
  show exs _ f_odd_row [some (.dat (nat p)), some (.dat d), none, none, none, none] t = _
  have e1 : call (k + 8) "sure_pairs" [nat p, d] t = .ok (dSure p pp) t := e_sure_pairs hd h
  have e2 : call (k + 8) "rows_fitting" [nat p, dGrid (gOf p pp), dGrid (mOf p pp)] t = .ok (dL optR (rowsFit p m c (psOf p pp))) t := e_rows_fitting h
  have hds : dSure p pp = .tup [dPrs pp, dGrid (gOf p pp), dGrid (mOf p pp)] := rfl
  have e3 : dNotIn .non (dL optR (rowsFit p m c (psOf p pp))) = some (.bl true) := by
    rw [notin_none, hx, any_some] <;> rfl
  generalize hGG : dGrid (gOf p pp) = GG at *
  generalize hMM : dGrid (mOf p pp) = MM at *
  simp only [f_odd_row]
  simp [e1, hds, e2, e3]
@[simp] theorem S.mt {Γ : Gam} {ρ : Env'} {t : Tin} {q : PM} {o : Ex} {as : Exs} : ev Γ (.mt q o as) ρ t = (ev Γ o ρ t).bind fun d t => (isL d t).bind fun d t => (evs Γ as ρ t).bind fun ds t => ofO (q.f d ds) t := (rfl)
@[simp] theorem isL_dL {α : Type} {f : α → D} {xs : List α} {t : Tin} : isL (dL f xs) t = .ok (dL f xs) t := (rfl)
@[simp] theorem pm_count : PM.f .count = dCount := (rfl)
@[simp] theorem pm_index : PM.f .index = dIndex := (rfl)
theorem index_none {ps : List Pair} {i : Nat} (hi : i < m) (hb : ∀ j, j < i → rowAt p m c ps j ≠ none) (hn : rowAt p m c ps i = none) : dIndex (dL optR (rowsFit p m c ps)) [.non] = some (nat i) := by
  have e : dIndex (dL optR (rowsFit p m c ps)) [.non] = (if okB .non = true ∧ okB (dL optR (rowsFit p m c ps)) = true then (((rowsFit p m c ps).map optR).findIdx? fun z => PyData.eqv z.py D.non.py).map fun j => .int (j : Nat) else none) := rfl
  rw [e, if_pos ⟨rfl, okB_of (n := 64) okN_optL (Nat.le_refl _)⟩]
  have e2 : (((rowsFit p m c ps).map optR).findIdx? fun z => PyData.eqv z.py D.non.py) = some i := by
    rw [List.findIdx?_map]
    have e3 : ((fun z => PyData.eqv z.py D.non.py) ∘ optR) = fun (o : Option (List Int)) => o.isNone := by
      funext o
      exact eqv_optR
    rw [e3, List.findIdx?_eq_some_iff_getElem]
    have hl : i < (rowsFit p m c ps).length := by
      unfold rowsFit
      rw [List.length_map, List.length_range]
      exact hi
    have hg : ∀ j (hj : j < (rowsFit p m c ps).length), (rowsFit p m c ps)[j] = rowAt p m c ps j := fun j hj => by
      simp only [rowsFit, List.getElem_map, List.getElem_range]
    refine ⟨hl, ?_, fun j hj => ?_⟩
    · rw [hg, hn] <;> rfl
    · rw [hg]
      have := hb j hj
      cases hr : rowAt p m c ps j with
      | none => exact absurd hr this
      | some x => simp
  rw [e2] <;> rfl
theorem e_odd_row (hd : IsPrs d pp) (h : PrsOk p m c pp) {i : Nat} (hi : i < m) (hb : ∀ j, j < i → rowAt p m c (psOf p pp) j ≠ none) (hn : rowAt p m c (psOf p pp) i = none) : ∃ u, OddOk p m c (psOf p pp) u ∧ ∀ k t, call (k + 9) "odd_row" [nat p, d] t = .ok (dRow u) t := by
  obtain ⟨u, hu, ho⟩ := odd_told h.pr h.ps hi hn
  refine ⟨u, ho, fun k t => ?_⟩
  rw [call_of of_odd_row rfl]
  refine callF_ret ?_
  show exs _ f_odd_row [some (.dat (nat p)), some (.dat d), none, none, none, none] t = _
  have hcf := h.cfew
  have hpf := h.few
  have hln : (psOf p pp).length ≤ 100 := by rw [ps_len]; exact hpf
  have e1 : call (k + 8) "sure_pairs" [nat p, d] t = .ok (dSure p pp) t := e_sure_pairs hd h
  have e2 : call (k + 8) "rows_fitting" [nat p, dGrid (gOf p pp), dGrid (mOf p pp)] t = .ok (dL optR (rowsFit p m c (psOf p pp))) t := e_rows_fitting h
  have hds : dSure p pp = .tup [dPrs pp, dGrid (gOf p pp), dGrid (mOf p pp)] := rfl
  have e3 : dNotIn .non (dL optR (rowsFit p m c (psOf p pp))) = some (.bl false) := by
    rw [notin_none, any_none hi hn] <;> rfl
  have e4 := index_none hi hb hn
  obtain ⟨g0, hg0, hg1⟩ := grid_head h
  have x0 : ixD (dGrid (gOf p pp)) (.int 0) t = some (dRow g0) := ix_T (n := 0) rfl hg0
  have l1 : dLen [dRow g0] = some (nat c) := lenT' hg1.len
  have l3 : dLen [dGrid (gOf p pp)] = some (nat (psOf p pp).length) := lenT' (List.length_map ..)
  have e5 : call (k + 8) "turned_grid" [nat p, nat c, dGrid (gOf p pp)] t = .ok (dGrid (turned c (gOf p pp))) t :=
    e_turned_grid (k := k + 6) (fun r hr => (h.ps.gr r hr).len) (by omega) (by rw [List.length_map]; exact Nat.le_trans hln (by decide))
  have e6 : call (k + 8) "digits_at" [dGrid (mOf p pp), nat i] t = .ok (dRow (colAt (mOf p pp) i)) t := e_digits_at (k := k + 7) h.ps.gm hi (by rw [List.length_map]; exact Nat.le_trans hln (by decide))
  have e7 : call (k + 8) "bar_row" [nat p, nat (psOf p pp).length, dGrid (turned c (gOf p pp)), dRow (colAt (mOf p pp) i)] t = .ok (dRow u) t := by
    rw [e_bar_row (k := k + 1) h.pr (gt_ok h.pr h.ps) (col_ok h.pr h.ps) (by omega) (by rw [turned_len]; omega) (.inl rfl), hu]
  generalize hGG : dGrid (gOf p pp) = GG at *
  generalize hMM : dGrid (mOf p pp) = MM at *
  simp only [f_odd_row]
  simp [e1, hds, e2, e3, e4, e5, e6, e7, x0, l1, l3, - len_T]
theorem any_zero {w : Nat} {r : List Int} (h : r.length = w) : (r.any fun n => n != 0) = !(r == zeroRow w) := by
  subst h
  induction r with
  | nil => rfl
  | cons x r ih =>
    rw [List.any_cons, ih]
    show _ = !(x :: r == (0 : Int) :: zeroRow r.length)
    rw [List.cons_beq_cons]
    cases h : x == 0 <;> simp [h, bne]
/-- whether a thing is an odd row -/
def isOdd (p m c : Nat) (ps : List Pair) (d : D) : Bool := match digitsD p d with
  | some ds => decide (ds.length = ps.length) && ((combo p c (ps.map Prod.fst) ds == zeroRow c) && !(combo p m (ps.map Prod.snd) ds == zeroRow m))
  | none => false
/-- things that the tests take -/
def tame (x : D) : Prop := plainD x = true ∧ ∀ xs, x = .tup xs → xs.length ≤ cap ∧ ∀ y ∈ xs, plainD y = true
theorem e_is_odd_row (hd : IsPrs d pp) (h : PrsOk p m c pp) {x : D} (hx : tame x) : call (k + 8) "is_odd_row" [nat p, d, x] t = .ok (.bl (isOdd p m c (psOf p pp) x)) t := by
  rw [call_of of_is_odd_row rfl]
  refine callF_ret ?_
  show exs _ f_is_odd_row [some (.dat (nat p)), some (.dat d), some (.dat x), none, none, none] t = _
  have hcf := h.cfew
  have hmf := h.mfew
  have e1 : call (k + 7) "sure_pairs" [nat p, d] t = .ok (dSure p pp) t := e_sure_pairs hd h
  have hds : dSure p pp = .tup [dPrs pp, dGrid (gOf p pp), dGrid (mOf p pp)] := rfl
  have e2 : call (k + 7) "is_row" [nat p, x] t = .ok (.bl (rowD p x)) t := e_is_row hx.1 hx.2
  obtain ⟨r1, r2⟩ := digits_row (p := p) (d := x)
  rw [r1] at e2
  unfold isOdd
  obtain ⟨g0, hg0, hg1⟩ := grid_head h
  obtain ⟨m0, hm0, hm1⟩ := msg_head h
  have x0 : ixD (dGrid (gOf p pp)) (.int 0) t = some (dRow g0) := ix_T (n := 0) rfl hg0
  have y0 : ixD (dGrid (mOf p pp)) (.int 0) t = some (dRow m0) := ix_T (n := 0) rfl hm0
  have l1 : dLen [dRow g0] = some (nat c) := lenT' hg1.len
  have l2 : dLen [dRow m0] = some (nat m) := lenT' hm1.len
  have l3 : dLen [dGrid (gOf p pp)] = some (nat (psOf p pp).length) := lenT' (List.length_map ..)
  cases hz : digitsD p x with
  | none =>
    rw [hz] at e2
    generalize hGG : dGrid (gOf p pp) = GG at *
    generalize hMM : dGrid (mOf p pp) = MM at *
    simp only [f_is_odd_row]
    simp [e1, hds, e2]
  | some ds =>
    rw [hz] at e2
    obtain ⟨rfl, hdig⟩ := r2 ds hz
    have l4 : dLen [dRow ds] = some (nat ds.length) := lenT' rfl
    by_cases hl : ds.length = (psOf p pp).length
    · have e3 : call (k + 7) "sum_of_multiples" [nat p, nat c, dGrid (gOf p pp), dRow ds] t = .ok (dRow (combo p c (gOf p pp) ds)) t :=
        e_sum_of_multiples (k := k + 4) h.pr (fun r hr => (h.ps.gr r hr).len) (by omega) (by rw [List.length_map, hl]) (fun y hy => small_of h.pr.le (hdig y hy))
      have e4 : call (k + 7) "sum_of_multiples" [nat p, nat m, dGrid (mOf p pp), dRow ds] t = .ok (dRow (combo p m (mOf p pp) ds)) t :=
        e_sum_of_multiples (k := k + 4) h.pr (fun r hr => (h.ps.gm r hr).len) (by omega) (by rw [List.length_map, hl]) (fun y hy => small_of h.pr.le (hdig y hy))
      have a1 : dAny [dRow (combo p c (gOf p pp) ds)] = some (.bl (!(combo p c (gOf p pp) ds == zeroRow c))) := by
        rw [show dAny [dRow (combo p c (gOf p pp) ds)] = _ from any_T, any_zero (combo_rw h.pr.pos fun a ha => (h.ps.gr a ha).len).len]
      have a2 : dAny [dRow (combo p m (mOf p pp) ds)] = some (.bl (!(combo p m (mOf p pp) ds == zeroRow m))) := by
        rw [show dAny [dRow (combo p m (mOf p pp) ds)] = _ from any_T, any_zero (combo_rw h.pr.pos fun a ha => (h.ps.gm a ha).len).len]
      have n1 : dNe (nat ds.length) (nat (psOf p pp).length) = some (.bl false) := by
        rw [ne_nat, hl]
        simp
      have hdd : decide (ds.length = (psOf p pp).length) = true := decide_eq_true hl
      have hp1 : (psOf p pp).map Prod.fst = gOf p pp := rfl
      have hp2 : (psOf p pp).map Prod.snd = mOf p pp := rfl
      rw [hp1, hp2]
      dsimp only
      rw [hdd]
      generalize (psOf p pp).length = ln at *
      generalize combo p c (gOf p pp) ds = c1 at *
      generalize combo p m (mOf p pp) ds = c2 at *
      generalize hGG : dGrid (gOf p pp) = GG at *
      generalize hMM : dGrid (mOf p pp) = MM at *
      simp only [f_is_odd_row]
      cases hb : c1 == zeroRow c with
      | true =>
        rw [hb] at a1
        simp [e1, hds, e2, l4, l3, n1, x0, y0, l1, l2, e3, e4, a1, a2, - len_T, - any_T]
      | false =>
        rw [hb] at a1
        simp [e1, hds, e2, l4, l3, n1, x0, y0, l1, l2, e3, e4, a1, a2, - len_T, - any_T]
    · have n1 : dNe (nat ds.length) (nat (psOf p pp).length) = some (.bl true) := by
        rw [ne_nat, bne_iff_ne.mpr hl]
      have hdd : decide (ds.length = (psOf p pp).length) = false := decide_eq_false hl
      dsimp only
      rw [hdd]
      generalize (psOf p pp).length = ln at *
      generalize hGG : dGrid (gOf p pp) = GG at *
      generalize hMM : dGrid (mOf p pp) = MM at *
      simp only [f_is_odd_row]
      simp [e1, hds, e2, l4, l3, n1, - len_T]
end
end Dry
set_option Elab.async false
set_option linter.all false
set_option maxRecDepth 100000
set_option maxHeartbeats 4000000
set_option autoImplicit false
/-! DryYe: what the defs compute: what keys that fit tell. -/
namespace Dry
open PySem PySem.Spec PyProof.Rows L2
section
variable {k : Nat} {t : Tin} {p m c : Nat} {pp : Prs} {d e : D} {q : Pic} {xs : List (List Int)}
/-- pairs that some key fits, and a picture -/
structure Seen (p m c : Nat) (pp : Prs) (xs : List (List Int)) (d : D) (q : Pic) (e : D) : Prop where
  ok : PrsOk p m c pp
  fit : rowsFit p m c (psOf p pp) = xs.map some
  dd : IsPrs d pp
  pq : PicOk q c
  de : IsPic e q
theorem Seen.pr (S : Seen p m c pp xs d q e) : Pr p := S.ok.pr
theorem Seen.rw (S : Seen p m c pp xs d q e) : Rw p c (restsOf p q) := .rests S.ok.pr.pos S.pq
theorem Seen.gr (S : Seen p m c pp xs d q e) : Gr p c (gOf p pp) := S.ok.ps.gr
theorem Seen.gm (S : Seen p m c pp xs d q e) : Gr p m (mOf p pp) := S.ok.ps.gm
theorem Seen.gl (S : Seen p m c pp xs d q e) : (gOf p pp).length ≤ 100 := by
  rw [List.length_map, ps_len]
  exact S.ok.few
theorem Seen.key (S : Seen p m c pp xs d q e) : KeyOk p m c (turned c xs) := by
  obtain ⟨h1, h2⟩ := rows_rw S.ok S.fit
  refine ⟨turned_len, ?_⟩
  have := Gr.turned (w := c) S.pr.pos h2
  rwa [h1] at this
theorem Seen.mem (S : Seen p m c pp xs d q e) : turned c xs ∈ fitting p m c (psOf p pp) := by
  haveI := S.pr.nz
  exact key_fits (Fin p) S.pr S.ok.ps S.fit
theorem Seen.ne (S : Seen p m c pp xs d q e) : fitting p m c (psOf p pp) ≠ [] := fun z => by
  have := S.mem
  rw [z] at this
  cases this
theorem e_sure_seen (S : Seen p m c pp xs d q e) : call (k + 10) "sure_seen" [nat p, d, e] t = .ok (.tup [dGrid (gOf p pp), dGrid (mOf p pp), dKey p m (turned c xs), dRow (restsOf p q)]) t := by
  rw [call_of of_sure_seen rfl]
  refine callF_ret ?_
  show exs _ f_sure_seen [some (.dat (nat p)), some (.dat d), some (.dat e), none, none, none] t = _
  have e1 : call (k + 9) "sure_pairs" [nat p, d] t = .ok (dSure p pp) t := e_sure_pairs S.dd S.ok
  have hds : dSure p pp = .tup [dPrs pp, dGrid (gOf p pp), dGrid (mOf p pp)] := rfl
  have e2 : call (k + 9) "sure_rests" [nat p, dGrid (gOf p pp), e] t = .ok (dRow (restsOf p q)) t := e_sure_rests S.ok S.de S.pq
  have e3 : call (k + 9) "key_fitting" [nat p, d] t = .ok (dFit p m c pp xs) t := e_key_fitting S.dd S.ok S.fit
  have hdf : dFit p m c pp xs = .tup [dGrid (gOf p pp), dGrid (mOf p pp), dKey p m (turned c xs)] := rfl
  generalize hGG : dGrid (gOf p pp) = GG at *
  generalize hMM : dGrid (mOf p pp) = MM at *
  simp only [f_sure_seen]
  simp [e1, hds, e2, e3, hdf, dItems]
theorem e_is_told (S : Seen p m c pp xs d q e) : call (k + 11) "is_told" [nat p, d, e] t = .ok (.bl (isSpanned p (gOf p pp) (restsOf p q))) t := by
  rw [call_of of_is_told rfl]
  refine callF_ret ?_
  show exs _ f_is_told [some (.dat (nat p)), some (.dat d), some (.dat e), none, none, none] t = _
  have e1 := e_sure_seen (k := k) (t := t) S
  have hgl := S.gl
  have hcf := S.pq.few
  have l1 : dLen [dRow (restsOf p q)] = some (nat c) := lenT' S.rw.len
  have e2 : call (k + 10) "is_spanned" [nat p, nat c, dGrid (gOf p pp), dRow (restsOf p q)] t = .ok (.bl (isSpanned p (gOf p pp) (restsOf p q))) t := e_is_spanned (k := k + 4) S.pr S.gr S.rw (Nat.le_trans S.pq.few (by decide)) (by omega) (.inl rfl)
  generalize hGG : dGrid (gOf p pp) = GG at *
  generalize hMM : dGrid (mOf p pp) = MM at *
  simp only [f_is_told]
  simp [e1, e2, l1, - len_T]
/-- what all keys read, if it is told -/
def msgOf (p m c : Nat) (pp : Prs) (g : List Int) : Option (List Int) := (multsIn p c (gOf p pp) g).map fun x => combo p m (mOf p pp) x
theorem e_message_of (h : PrsOk p m c pp) {g : List Int} (hg : Rw p c g) : call (k + 8) "message_of" [nat p, dGrid (gOf p pp), dGrid (mOf p pp), dRow g] t = match msgOf p m c pp g with
    | some x => .ok (dRow x) t
    | none => .exn t := by
  rw [call_of of_message_of rfl]
  obtain ⟨m0, hm0, hm1⟩ := msg_head h
  have y0 : ixD (dGrid (mOf p pp)) (.int 0) t = some (dRow m0) := ix_T (n := 0) rfl hm0
  have l2 : dLen [dRow m0] = some (nat m) := lenT' hm1.len
  have l1 : dLen [dRow g] = some (nat c) := lenT' hg.len
  have hcf := h.cfew
  have hmf := h.mfew
  have hpf := h.few
  have hgl : (gOf p pp).length = (mOf p pp).length := by rw [List.length_map, List.length_map]
  have e1 : call (k + 7) "multiples_for" [nat p, nat c, dGrid (gOf p pp), dRow g] t = match multsIn p c (gOf p pp) g with
      | some m => .ok (dRow m) t
      | none => .exn t := e_multiples_for h.pr h.ps.gr hg (by omega) (by rw [List.length_map, ps_len]; omega) (.inl rfl)
  unfold msgOf
  rcases mults_or h.pr h.ps.gr hg with ⟨x, s1, s2, s3, _⟩ | ⟨u, s1, s2, _⟩
  · rw [s2] at e1 ⊢
    have e2 : call (k + 7) "sum_of_multiples" [nat p, nat m, dGrid (mOf p pp), dRow x] t = .ok (dRow (combo p m (mOf p pp) x)) t :=
      e_sum_of_multiples (k := k + 4) h.pr (fun r hr => (h.ps.gm r hr).len) (by omega) (by rw [← hgl, ← s3.rw.len]) (s3.rw.small h.pr.le)
    refine callF_ret ?_
    show exs _ f_message_of [some (.dat (nat p)), some (.dat (dGrid (gOf p pp))), some (.dat (dGrid (mOf p pp))), some (.dat (dRow g))] t = _
    generalize hGG : dGrid (gOf p pp) = GG at *
    generalize hMM : dGrid (mOf p pp) = MM at *
    simp only [f_message_of]
    simp [y0, l1, l2, e1, e2, - len_T]
  · rw [s2] at e1 ⊢
    refine callF_exn ?_
    show exs _ f_message_of [some (.dat (nat p)), some (.dat (dGrid (gOf p pp))), some (.dat (dGrid (mOf p pp))), some (.dat (dRow g))] t = _
    generalize hGG : dGrid (gOf p pp) = GG at *
    generalize hMM : dGrid (mOf p pp) = MM at *
    simp only [f_message_of]
    simp [y0, l1, l2, e1, - len_T]
    rfl
theorem e_told_message (S : Seen p m c pp xs d q e) : call (k + 11) "told_message" [nat p, d, e] t = match msgOf p m c pp (restsOf p q) with
    | some x => .ok (dRow x) t
    | none => .exn t := by
  rw [call_of of_told_message rfl]
  have e1 := e_sure_seen (k := k) (t := t) S
  have e2 : call (k + 10) "message_of" [nat p, dGrid (gOf p pp), dGrid (mOf p pp), dRow (restsOf p q)] t = _ := e_message_of S.ok S.rw
  cases hz : msgOf p m c pp (restsOf p q) with
  | some x =>
    rw [hz] at e2
    refine callF_ret ?_
    show exs _ f_told_message [some (.dat (nat p)), some (.dat d), some (.dat e), none, none, none, none] t = _
    generalize hGG : dGrid (gOf p pp) = GG at *
    generalize hMM : dGrid (mOf p pp) = MM at *
    simp only [f_told_message]
    simp [e1, e2]
  | none =>
    rw [hz] at e2
    refine callF_exn ?_
    show exs _ f_told_message [some (.dat (nat p)), some (.dat d), some (.dat e), none, none, none, none] t = _
    generalize hGG : dGrid (gOf p pp) = GG at *
    generalize hMM : dGrid (mOf p pp) = MM at *
    simp only [f_told_message]
    simp [e1, e2]
theorem e_telling (S : Seen p m c pp xs d q e) : call (k + 11) "telling" [nat p, d, e] t = match multsIn p c (gOf p pp) (restsOf p q) with
    | some x => .ok (dRow x) t
    | none => .exn t := by
  rw [call_of of_telling rfl]
  have hgl := S.gl
  have hcf := S.pq.few
  have e1 := e_sure_seen (k := k) (t := t) S
  have l1 : dLen [dRow (restsOf p q)] = some (nat c) := lenT' S.rw.len
  have e2 : call (k + 10) "multiples_for" [nat p, nat c, dGrid (gOf p pp), dRow (restsOf p q)] t = _ := e_multiples_for S.pr S.gr S.rw (by omega) (by omega) (.inl rfl)
  cases hz : multsIn p c (gOf p pp) (restsOf p q) with
  | some x =>
    rw [hz] at e2
    refine callF_ret ?_
    show exs _ f_telling [some (.dat (nat p)), some (.dat d), some (.dat e), none, none, none] t = _
    generalize hGG : dGrid (gOf p pp) = GG at *
    generalize hMM : dGrid (mOf p pp) = MM at *
    simp only [f_telling]
    simp [e1, e2, l1, - len_T]
  | none =>
    rw [hz] at e2
    refine callF_exn ?_
    show exs _ f_telling [some (.dat (nat p)), some (.dat d), some (.dat e), none, none, none] t = _
    generalize hGG : dGrid (gOf p pp) = GG at *
    generalize hMM : dGrid (mOf p pp) = MM at *
    simp only [f_telling]
    simp [e1, e2, l1, - len_T]
theorem e_is_telling (S : Seen p m c pp xs d q e) {x : D} (hx : tame x) : call (k + 11) "is_telling" [nat p, d, e, x] t = .ok (.bl (isMults p c (gOf p pp) (restsOf p q) x)) t := by
  rw [call_of of_is_telling rfl]
  refine callF_ret ?_
  show exs _ f_is_telling [some (.dat (nat p)), some (.dat d), some (.dat e), some (.dat x), none, none, none] t = _
  have hgl := S.gl
  have hcf := S.pq.few
  have e1 := e_sure_seen (k := k) (t := t) S
  have l1 : dLen [dRow (restsOf p q)] = some (nat c) := lenT' S.rw.len
  have e2 : call (k + 10) "is_multiples" [nat p, nat c, dGrid (gOf p pp), dRow (restsOf p q), x] t = .ok (.bl (isMults p c (gOf p pp) (restsOf p q) x)) t := e_is_multiples (k := k + 5) S.pr S.gr S.rw (by omega) (by omega) (.inl rfl) hx.1 hx.2
  generalize hGG : dGrid (gOf p pp) = GG at *
  generalize hMM : dGrid (mOf p pp) = MM at *
  simp only [f_is_telling]
  simp [e1, e2, l1, - len_T]
/-- the other key -/
abbrev key2 (p m c : Nat) (xs : List (List Int)) (u : List Int) : Key := shiftK p (turned c xs) u (unitRow m 0)
theorem unit_times {p m : Nat} (hp : Pr p) {x : Int} (hx : 0 ≤ x ∧ x < p) : (unitRow m 0).map (fun o => x * o) = rowTimes p x (unitRow m 0) := by
  unfold rowTimes
  refine List.map_congr_left fun o ho => ?_
  have : o = 0 ∨ o = 1 := by
    unfold unitRow at ho
    obtain ⟨i, _, rfl⟩ := List.mem_map.mp ho
    split
    · exact .inr rfl
    · exact .inl rfl
  have hp0 := hp.one_lt
  have hpp : (0 : Int) ≤ p := by omega
  rcases this with rfl | rfl
  · rw [Int.mul_zero, Int.fmod_eq_emod_of_nonneg _ hpp, Int.zero_emod]
  · rw [Int.mul_one, Int.fmod_eq_emod_of_nonneg _ hpp, Int.emod_eq_of_lt hx.1 hx.2]
theorem e_two_keys (S : Seen p m c pp xs d q e) {u : List Int} (hu : barRow p c (gOf p pp) (restsOf p q) = some u) (hur : Rw p c u) : call (k + 11) "two_keys" [nat p, d, e] t = .ok (.tup [dKey p m (turned c xs), dKey p m (key2 p m c xs u)]) t := by
  rw [call_of of_two_keys rfl]
  refine callF_ret ?_
  show exs _ f_two_keys [some (.dat (nat p)), some (.dat d), some (.dat e), none, none, none, none, none, none, none, none, none, none] t = _
  have hgl := S.gl
  have hcf := S.pq.few
  have hmf := S.ok.mfew
  have hp' : (p : Int) ≠ 0 := by
    have := S.pr.pos
    omega
  have e1 := e_sure_seen (k := k) (t := t) S
  have l1 : dLen [dRow (restsOf p q)] = some (nat c) := lenT' S.rw.len
  obtain ⟨m0, hm0, hm1⟩ := msg_head S.ok
  have y0 : ixD (dGrid (mOf p pp)) (.int 0) t = some (dRow m0) := ix_T (n := 0) rfl hm0
  have l2 : dLen [dRow m0] = some (nat m) := lenT' hm1.len
  have e2 : call (k + 10) "bar_row" [nat p, nat c, dGrid (gOf p pp), dRow (restsOf p q)] t = .ok (dRow u) t := by
    rw [e_bar_row (k := k + 3) S.pr S.gr S.rw (by omega) (by omega) (.inl rfl), hu]
  have e3 : call (k + 10) "unit_row" [nat m, .int 0] t = .ok (dRow (unitRow m 0)) t := e_unit_row (j := 0) (by omega) S.ok.mpos
  have k2 : ixD (dKey p m (turned c xs)) (.int 2) t = some (dGrid (turned c xs)) := rfl
  have hct : dCut none (some 2) (dKey p m (turned c xs)) = some (.tup [nat p, nat m]) := rfl
  have hK := S.key
  generalize hGG : dGrid (gOf p pp) = GG at *
  generalize hMM : dGrid (mOf p pp) = MM at *
  generalize hKK : turned c xs = KK at *
  have hcm := ev_comp (Γ := Γs (k + 10)) (it := .fn .zip (.cons (.ix (.var 5) (.int 2)) (.cons (.var 7) .nil))) (s := false) (tg := [11, 12]) (vs := [11, 12]) (e := .call "row_sum" (.cons (.var 0) (.cons (.var 11) (.cons (.fn .tuple (.cons (.comp (.seq (.var 8)) true [10] [10] (.two .mul (.var 12) (.var 10))) .nil)) .nil)))) (t1 := t)
    (ρ := [some (.dat (nat p)), some (.dat d), some (.dat e), some (.dat GG), some (.dat MM), some (.dat (dKey p m KK)), some (.dat (dRow (restsOf p q))), some (.dat (dRow u)), some (.dat (dRow (unitRow m 0))), none, none, none, none]) (t := t) (KK.zip u) (pD dRow .int) (fun q => dRow (rowSum p q.1 (rowTimes p q.2 (unitRow m 0)))) (by simp [k2]) (by rw [List.length_zip, hK.len, hur.len]; unfold cap; omega)
    (fun x hx => ⟨[some (.dat (nat p)), some (.dat d), some (.dat e), some (.dat GG), some (.dat MM), some (.dat (dKey p m KK)), some (.dat (dRow (restsOf p q))), some (.dat (dRow u)), some (.dat (dRow (unitRow m 0))), none, none, some (.dat (dRow x.1)), some (.dat (.int x.2))], rfl, by
      obtain ⟨z1, z2⟩ := List.of_mem_zip (show (x.1, x.2) ∈ _ from hx)
      have hx1 := hK.gr _ z1
      have hx2 := hur.dig _ z2
      have hcm2 := ev_comp (Γ := Γs (k + 10)) (it := .seq (.var 8)) (s := true) (tg := [10]) (vs := [10]) (e := .two .mul (.var 12) (.var 10)) (t1 := t)
        (ρ := [some (.dat (nat p)), some (.dat d), some (.dat e), some (.dat GG), some (.dat MM), some (.dat (dKey p m KK)), some (.dat (dRow (restsOf p q))), some (.dat (dRow u)), some (.dat (dRow (unitRow m 0))), none, none, some (.dat (dRow x.1)), some (.dat (.int x.2))]) (t := t) (unitRow m 0) .int (fun o => .int (x.2 * o)) (by simp) (by rw [unit_len]; unfold cap; omega)
        (fun o ho => ⟨[some (.dat (nat p)), some (.dat d), some (.dat e), some (.dat GG), some (.dat MM), some (.dat (dKey p m KK)), some (.dat (dRow (restsOf p q))), some (.dat (dRow u)), some (.dat (dRow (unitRow m 0))), none, some (.dat (.int o)), some (.dat (dRow x.1)), some (.dat (.int x.2))], rfl, by
          have : dMul (.int x.2) (.int o) = some (.int (x.2 * o)) := mul_small (small_of S.pr.le hx2)
          simp [this]⟩)
      have ea : dL (fun (o : Int) => D.int (x.2 * o)) (unitRow m 0) = dL .int (rowTimes p x.2 (unitRow m 0)) := by
        rw [← unit_times S.pr hx2]
        exact dL_map.symm
      rw [ea] at hcm2
      have e4 : call (k + 10) "row_sum" [nat p, dRow x.1, dRow (rowTimes p x.2 (unitRow m 0))] t = .ok (dRow (rowSum p x.1 (rowTimes p x.2 (unitRow m 0)))) t := e_row_sum (k := k + 8) hp' (by rw [hx1.len, (Rw.times (p := p) S.pr.pos unit_len).len]) (by rw [hx1.len]; unfold cap; omega)
      simp [hcm2, e4]⟩)
  have eb : dL (fun (q : List Int × Int) => dRow (rowSum p q.1 (rowTimes p q.2 (unitRow m 0)))) (KK.zip u) = dL dRow (shiftK p KK u (unitRow m 0)) := dL_map.symm
  rw [eb] at hcm
  have ed : D.tup ([nat p, nat m] ++ [dGrid (shiftK p KK u (unitRow m 0))]) = dKey p m (key2 p m c xs u) := by
    unfold key2
    rw [hKK]
    rfl
  simp only [f_two_keys]
  simp [e1, y0, l1, l2, e2, e3, hcm, hct, dItems, - len_T]
  unfold key2
  rw [hKK]
  rfl
theorem e_two_keys_no (S : Seen p m c pp xs d q e) (hu : barRow p c (gOf p pp) (restsOf p q) = none) : call (k + 11) "two_keys" [nat p, d, e] t = .exn t := by
  rw [call_of of_two_keys rfl]
  refine callF_exn ?_
  show exs _ f_two_keys [some (.dat (nat p)), some (.dat d), some (.dat e), none, none, none, none, none, none, none, none, none, none] t = _
  have hgl := S.gl
  have hcf := S.pq.few
  have e1 := e_sure_seen (k := k) (t := t) S
  have l1 : dLen [dRow (restsOf p q)] = some (nat c) := lenT' S.rw.len
  have e2 : call (k + 10) "bar_row" [nat p, nat c, dGrid (gOf p pp), dRow (restsOf p q)] t = .exn t := by
    rw [e_bar_row (k := k + 3) S.pr S.gr S.rw (by omega) (by omega) (.inl rfl), hu]
  generalize hGG : dGrid (gOf p pp) = GG at *
  generalize hMM : dGrid (mOf p pp) = MM at *
  simp only [f_two_keys]
  simp [e1, l1, e2, - len_T]
/-! ### two keys judged -/
def isTwo (p m : Nat) (ps : List Pair) (g : List Int) : List Key → Bool
  | [a, b] => (fitsK p m ps a && fitsK p m ps b) && combo p m a g != combo p m b g
  | _ => false
theorem two_ne {a b : List Int} : dNe (dRow a) (dRow b) = some (.bl (a != b)) := by
  rw [dNe_ok okN_row okN_row, EqOk.row] <;> rfl
/-- the judging, up to what is told of the thing -/
theorem e_is_two_pre (S : Seen p m c pp xs d q e) {x : D} {b1 b2 b3 : Bool} (h1 : ∀ k, call (k + 1) "is_tuple_of" [x, .int 2] t = .ok (.bl b1) t)
    (h2 : b1 = true → ev (Γs (k + 10)) (.comp (.seq (.var 3)) true [6] [6] (.and_ (.call "is_key" (.cons (.var 6) .nil)) (.call "fits_in" (.cons (.var 0) (.cons (.var 4) (.cons (.var 6) .nil)))))) [some (.dat (nat p)), some (.dat d), some (.dat e), some (.dat x), some (.dat (dPrs pp)), some (.dat (dGrid (mOf p pp))), none] t = .ok (dL .bl [b2, b3]) t)
    {r : Bool} (h3 : b1 = true → b2 = true → b3 = true → ev (Γs (k + 10)) (.two .ne (.call "reading" (.cons (.var 2) (.cons (.ix (.var 3) (.int 0)) .nil))) (.call "reading" (.cons (.var 2) (.cons (.ix (.var 3) (.int 1)) .nil)))) [some (.dat (nat p)), some (.dat d), some (.dat e), some (.dat x), some (.dat (dPrs pp)), some (.dat (dGrid (mOf p pp))), none] t = .ok (.bl r) t) : call (k + 11) "is_two_keys" [nat p, d, e, x] t = .ok (.bl (b1 && (b2 && b3) && r)) t := by
  rw [call_of of_is_two_keys rfl]
  refine callF_ret ?_
  show exs _ f_is_two_keys [some (.dat (nat p)), some (.dat d), some (.dat e), some (.dat x), none, none, none] t = _
  have e1 := e_sure_seen (k := k) (t := t) S
  have e2 : call (k + 10) "sure_pairs" [nat p, d] t = .ok (dSure p pp) t := e_sure_pairs S.dd S.ok
  have hds : dSure p pp = .tup [dPrs pp, dGrid (gOf p pp), dGrid (mOf p pp)] := rfl
  have e3 : call (k + 10) "is_tuple_of" [x, .int 2] t = .ok (.bl b1) t := h1 _
  generalize hGG : dGrid (gOf p pp) = GG at *
  generalize hMM : dGrid (mOf p pp) = MM at *
  simp only [f_is_two_keys]
  cases b1 with
  | false => simp [e1, e2, hds, e3]
  | true =>
    have h2' := h2 rfl
    cases b2 with
    | false => simp [e1, e2, hds, e3, h2']
    | true =>
      cases b3 with
      | false => simp [e1, e2, hds, e3, h2']
      | true =>
        have h3' := h3 rfl rfl rfl
        simp at h3'
        simp [e1, e2, hds, e3, h2', h3']
theorem e_is_two_no (S : Seen p m c pp xs d q e) {x : D} (hx : noTup x = true) : call (k + 11) "is_two_keys" [nat p, d, e, x] t = .ok (.bl false) t :=
  e_is_two_pre S (b1 := false) (b2 := false) (b3 := false) (r := false) (fun _ => e_is_tuple_of_no hx) (fun h => by cases h) (fun h => by cases h)
theorem e_is_two_len (S : Seen p m c pp xs d q e) {ys : List D} (hx : ys.length ≠ 2) : call (k + 11) "is_two_keys" [nat p, d, e, .tup ys] t = .ok (.bl false) t :=
  e_is_two_pre S (b1 := false) (b2 := false) (b3 := false) (r := false) (fun _ => (e_is_tuple_of_T (n := 2) (i := 2) rfl).trans (by rw [beq_eq_false_iff_ne.mpr hx])) (fun h => by cases h) (fun h => by cases h)
theorem two_comp (S : Seen p m c pp xs d q e) {a b : D} {b2 b3 : Bool} (ha : ∀ ρ : Env', ρ = [some (.dat (nat p)), some (.dat d), some (.dat e), some (.dat (.tup [a, b])), some (.dat (dPrs pp)), some (.dat (dGrid (mOf p pp))), some (.dat a)] → ev (Γs (k + 10)) (.and_ (.call "is_key" (.cons (.var 6) .nil)) (.call "fits_in" (.cons (.var 0) (.cons (.var 4) (.cons (.var 6) .nil))))) ρ t = .ok (.bl b2) t)
    (hb : ∀ ρ : Env', ρ = [some (.dat (nat p)), some (.dat d), some (.dat e), some (.dat (.tup [a, b])), some (.dat (dPrs pp)), some (.dat (dGrid (mOf p pp))), some (.dat b)] → ev (Γs (k + 10)) (.and_ (.call "is_key" (.cons (.var 6) .nil)) (.call "fits_in" (.cons (.var 0) (.cons (.var 4) (.cons (.var 6) .nil))))) ρ t = .ok (.bl b3) t) :
    ev (Γs (k + 10)) (.comp (.seq (.var 3)) true [6] [6] (.and_ (.call "is_key" (.cons (.var 6) .nil)) (.call "fits_in" (.cons (.var 0) (.cons (.var 4) (.cons (.var 6) .nil)))))) [some (.dat (nat p)), some (.dat d), some (.dat e), some (.dat (.tup [a, b])), some (.dat (dPrs pp)), some (.dat (dGrid (mOf p pp))), none] t = .ok (dL .bl [b2, b3]) t := by
  have := ev_comp (Γ := Γs (k + 10)) (it := .seq (.var 3)) (s := true) (tg := [6]) (vs := [6]) (e := .and_ (.call "is_key" (.cons (.var 6) .nil)) (.call "fits_in" (.cons (.var 0) (.cons (.var 4) (.cons (.var 6) .nil))))) (t1 := t)
    (ρ := [some (.dat (nat p)), some (.dat d), some (.dat e), some (.dat (.tup [a, b])), some (.dat (dPrs pp)), some (.dat (dGrid (mOf p pp))), none]) (t := t) [(a, b2), (b, b3)] Prod.fst (fun x => .bl x.2) (by simp [dItems]) (show 2 ≤ cap by decide)
    (fun x hx => ⟨[some (.dat (nat p)), some (.dat d), some (.dat e), some (.dat (.tup [a, b])), some (.dat (dPrs pp)), some (.dat (dGrid (mOf p pp))), some (.dat x.1)], rfl, by
      rcases List.mem_cons.mp hx with rfl | hx
      · exact ha _ rfl
      rcases List.mem_cons.mp hx with rfl | hx
      · exact hb _ rfl
      · cases hx⟩)
  exact this
theorem two_key (S : Seen p m c pp xs d q e) {K : Key} (hK : KeyOk p m c K) {o : D} : ev (Γs (k + 10)) (.and_ (.call "is_key" (.cons (.var 6) .nil)) (.call "fits_in" (.cons (.var 0) (.cons (.var 4) (.cons (.var 6) .nil))))) [some (.dat (nat p)), some (.dat d), some (.dat e), some (.dat o), some (.dat (dPrs pp)), some (.dat (dGrid (mOf p pp))), some (.dat (dKey p m K))] t = .ok (.bl (fitsK p m (psOf p pp) K)) t := by
  have e1 : call (k + 10) "is_key" [dKey p m K] t = .ok (.bl true) t := e_is_key (k := k + 4) S.pr hK S.ok.cpos S.ok.cfew S.ok.mfew
  have e2 : call (k + 10) "fits_in" [nat p, dPrs pp, dKey p m K] t = .ok (.bl (fitsK p m (psOf p pp) K)) t := e_fits_in S.ok hK
  simp [e1, e2]
theorem two_bad {a o : D} (h : ∀ k, call (k + 6) "is_key" [a] t = .ok (.bl false) t) : ev (Γs (k + 10)) (.and_ (.call "is_key" (.cons (.var 6) .nil)) (.call "fits_in" (.cons (.var 0) (.cons (.var 4) (.cons (.var 6) .nil))))) [some (.dat (nat p)), some (.dat d), some (.dat e), some (.dat o), some (.dat (dPrs pp)), some (.dat (dGrid (mOf p pp))), some (.dat a)] t = .ok (.bl false) t := by
  have e1 : call (k + 10) "is_key" [a] t = .ok (.bl false) t := h (k + 4)
  simp [e1]
theorem e_is_two_keys (S : Seen p m c pp xs d q e) {ks : List Key} (hk : ∀ K ∈ ks, KeyOk p m c K) : call (k + 11) "is_two_keys" [nat p, d, e, dT (dKey p m) ks] t = .ok (.bl (isTwo p m (psOf p pp) (restsOf p q) ks)) t := by
  match ks, hk with
  | [], _ => exact e_is_two_len S (ys := []) (fun z => by cases z)
  | [a], _ => exact e_is_two_len S (ys := [dKey p m a]) (fun z => by cases z)
  | a :: b :: f :: ks, _ => exact e_is_two_len S (ys := dKey p m a :: dKey p m b :: dKey p m f :: ks.map (dKey p m)) (by rw [List.length_cons, List.length_cons, List.length_cons]; omega)
  | [a, b], hk =>
    have ha := hk a (List.mem_cons_self ..)
    have hb := hk b (List.mem_cons_of_mem _ (List.mem_cons_self ..))
    have e1 : call (k + 10) "reading" [e, dKey p m a] t = .ok (dRow (combo p m a (restsOf p q))) t := e_reading (k := k + 4) S.pr S.de S.pq ha S.ok.mfew
    have e2 : call (k + 10) "reading" [e, dKey p m b] t = .ok (dRow (combo p m b (restsOf p q))) t := e_reading (k := k + 4) S.pr S.de S.pq hb S.ok.mfew
    exact e_is_two_pre S (x := .tup [dKey p m a, dKey p m b]) (b1 := true) (fun _ => e_is_tuple_of_T (n := 2) rfl) (fun _ => two_comp S (fun ρ h => by rw [h]; exact two_key S ha) (fun ρ h => by rw [h]; exact two_key S hb))
      (r := combo p m a (restsOf p q) != combo p m b (restsOf p q)) (fun _ _ _ => by
        have x0 : ixD (.tup [dKey p m a, dKey p m b]) (.int 0) t = some (dKey p m a) := rfl
        have x1 : ixD (.tup [dKey p m a, dKey p m b]) (.int 1) t = some (dKey p m b) := rfl
        simp [x0, x1, e1, e2, two_ne])
theorem e_is_two_ab (S : Seen p m c pp xs d q e) {a b : D} (ha : noTup a = true) (hb : noTup b = true) : call (k + 11) "is_two_keys" [nat p, d, e, .tup [a, b]] t = .ok (.bl false) t :=
  e_is_two_pre S (b1 := true) (b2 := false) (b3 := false) (r := false) (fun _ => e_is_tuple_of_T (n := 2) rfl) (fun _ => two_comp S (fun ρ h => by rw [h]; exact two_bad fun _ => e_is_key_no ha) (fun ρ h => by rw [h]; exact two_bad fun _ => e_is_key_no hb)) (fun _ h => by cases h)
theorem e_is_two_odd (S : Seen p m c pp xs d q e) {a b : D} {K : Key} (hK : KeyOk p m c K) : call (k + 11) "is_two_keys" [nat p, d, e, .tup [.tup [.lst [], a, b], dKey p m K]] t = .ok (.bl false) t :=
  e_is_two_pre S (b1 := true) (b2 := false) (r := false) (fun _ => e_is_tuple_of_T (n := 2) rfl) (fun _ => two_comp S (fun ρ h => by rw [h]; exact two_bad fun _ => e_is_key_odd) (fun ρ h => by rw [h]; exact two_key S hK)) (fun _ h => by cases h)
/-! ### counts, near and far -/
theorem count_msg (S : Seen p m c pp xs d q e) {g w : List Int} (hg : Rw p c g) (hw : Rw p m w) : (fitting p m c (psOf p pp)).countP (readIs p m g w) = if isSpanned p (gOf p pp) g = true then (if msgOf p m c pp g = some w then (fitting p m c (psOf p pp)).length else 0) else (fitting p m c (psOf p pp)).length / p ^ m := by
  unfold msgOf
  rcases mults_or S.pr S.gr hg with ⟨x, s1, s2, s3, _⟩ | ⟨u, s1, s2, _⟩
  · rw [if_pos s1, s2, Option.map_some]
    have hr : ∀ K ∈ fitting p m c (psOf p pp), combo p m K g = combo p m (mOf p pp) x := fun K hK => told_read S.pr S.ok.ps hK s3
    by_cases he : combo p m (mOf p pp) x = w
    · rw [if_pos (by rw [he]), List.countP_eq_length]
      intro K hK
      exact beq_iff_eq.mpr ((hr K hK).trans he)
    · rw [if_neg (fun z => he (Option.some.inj z)), List.countP_eq_zero]
      intro K hK z
      exact he ((hr K hK).symm.trans (beq_iff_eq.mp z))
  · rw [if_neg (by rw [s1]; exact Bool.false_ne_true), ← count_read S.pr S.ok.ps hg hw s1, Nat.mul_div_cancel_left _ (Nat.pow_pos S.pr.pos)]
theorem div_nat {a b : Nat} (h0 : b ≠ 0) (h : b < 1073741824) : dDiv (nat a) (nat b) = some (nat (a / b)) := by
  show (if (b : Int) ≠ 0 ∧ (b : Int).natAbs < 1073741824 then some (D.int ((a : Int).fdiv b)) else none) = _
  rw [if_pos ⟨by omega, by omega⟩, Int.fdiv_eq_ediv_of_nonneg _ (by omega)]
  rfl
theorem e_keys_that (S : Seen p m c pp xs d q e) {w : List Int} {dw : D} (hdw : ∀ k t, call (k + 2) "tupled" [dw] t = .ok (dRow w) t) (hw : Rw p m w) (hm : m ≤ 10) : call (k + 11) "keys_that_read" [nat p, d, e, dw] t = .ok (nat ((fitting p m c (psOf p pp)).countP (readIs p m (restsOf p q) w))) t := by
  rw [call_of of_keys_that_read rfl]
  refine callF_ret ?_
  show exs _ f_keys_that_read [some (.dat (nat p)), some (.dat d), some (.dat e), some (.dat dw), none, none, none, none, none, none, none] t = _
  have hgl := S.gl
  have hcf := S.pq.few
  have e1 : call (k + 10) "sure_pairs" [nat p, d] t = .ok (dSure p pp) t := e_sure_pairs S.dd S.ok
  have hds : dSure p pp = .tup [dPrs pp, dGrid (gOf p pp), dGrid (mOf p pp)] := rfl
  have e2 : call (k + 10) "tupled" [dw] t = .ok (dRow w) t := hdw (k + 8) t
  have e3 : call (k + 10) "is_row" [nat p, dRow w] t = .ok (.bl true) t := e_is_row_row hw (by omega)
  obtain ⟨m0, hm0, hm1⟩ := msg_head S.ok
  have y0 : ixD (dGrid (mOf p pp)) (.int 0) t = some (dRow m0) := ix_T (n := 0) rfl hm0
  have l2 : dLen [dRow m0] = some (nat m) := lenT' hm1.len
  have l3 : dLen [dRow w] = some (nat m) := lenT' hw.len
  have l1 : dLen [dRow (restsOf p q)] = some (nat c) := lenT' S.rw.len
  have e4 := e_sure_seen (k := k) (t := t) S
  obtain ⟨r1, r2⟩ := many_fit S.pr S.ok.ps S.ok.mpos S.ne
  have e5 : call (k + 10) "many_fitting" [nat p, dGrid (gOf p pp), dGrid (mOf p pp)] t = .ok (nat (fitting p m c (psOf p pp)).length) t := by
    rw [e_many_fitting (k := k + 2) S.ok r1, r2]
  have e6 : call (k + 10) "is_spanned" [nat p, nat c, dGrid (gOf p pp), dRow (restsOf p q)] t = .ok (.bl (isSpanned p (gOf p pp) (restsOf p q))) t := e_is_spanned (k := k + 4) S.pr S.gr S.rw (Nat.le_trans S.pq.few (by decide)) (by omega) (.inl rfl)
  have e7 : call (k + 10) "power_of" [nat p, nat m] t = .ok (nat (p ^ m)) t := e_power_of S.pr.le (by omega)
  have e8 : call (k + 10) "message_of" [nat p, dGrid (gOf p pp), dGrid (mOf p pp), dRow (restsOf p q)] t = _ := e_message_of (k := k + 2) S.ok S.rw
  have hcnt := count_msg S S.rw hw
  have hpm : p ^ m < 1073741824 := Nat.lt_of_le_of_lt (Nat.pow_le_pow_left (show p ≤ 3 by have := S.pr; unfold Pr at this; omega) m) (Nat.lt_of_le_of_lt (Nat.pow_le_pow_right (by decide) hm) (by decide))
  have hdv := div_nat (a := (fitting p m c (psOf p pp)).length) (b := p ^ m) (Nat.ne_of_gt (Nat.pow_pos S.pr.pos)) hpm
  have hmo := mults_or S.pr S.gr S.rw
  unfold msgOf at e8 hcnt
  generalize hGG : dGrid (gOf p pp) = GG at *
  generalize hMM : dGrid (mOf p pp) = MM at *
  generalize hf : (fitting p m c (psOf p pp)).countP (readIs p m (restsOf p q) w) = ct at *
  generalize hff : (fitting p m c (psOf p pp)).length = fl at *
  simp only [f_keys_that_read]
  rcases hmo with ⟨x, s1, s2, s3, _⟩ | ⟨u, s1, s2, _⟩
  · rw [s1] at e6
    rw [if_pos s1, s2, Option.map_some] at hcnt
    rw [s2] at e8
    by_cases he : combo p m (mOf p pp) x = w
    · rw [if_pos (by rw [he])] at hcnt
      have e9 : dEq (dRow (combo p m (mOf p pp) x)) (dRow w) = some (.bl true) := by
        rw [dEq_ok okN_row okN_row, EqOk.row, he]
        simp
      have e8' : call (k + 10) "message_of" [nat p, GG, MM, dRow (restsOf p q)] t = .ok (dRow (combo p m (mOf p pp) x)) t := e8
      generalize dRow (combo p m (mOf p pp) x) = cx at *
      simp [e1, hds, e2, e3, y0, l1, l2, l3, ne_nat, e4, e5, e6, e8', e9, hcnt, - len_T]
    · rw [if_neg (fun z => he (Option.some.inj z))] at hcnt
      have e9 : dEq (dRow (combo p m (mOf p pp) x)) (dRow w) = some (.bl false) := by
        rw [dEq_ok okN_row okN_row, EqOk.row, beq_eq_false_iff_ne.mpr he]
      have e8' : call (k + 10) "message_of" [nat p, GG, MM, dRow (restsOf p q)] t = .ok (dRow (combo p m (mOf p pp) x)) t := e8
      generalize dRow (combo p m (mOf p pp) x) = cx at *
      simp [e1, hds, e2, e3, y0, l1, l2, l3, ne_nat, e4, e5, e6, e8', e9, hcnt, - len_T]
      rfl
  · rw [s1] at e6
    rw [if_neg (by rw [s1]; exact Bool.false_ne_true)] at hcnt
    simp [e1, hds, e2, e3, y0, l1, l2, l3, ne_nat, e4, e5, e6, e7, hdv, hcnt, - len_T]
theorem e_keys_that_read (S : Seen p m c pp xs d q e) {w : List Int} (hw : Rw p m w) (hm : m ≤ 10) : call (k + 11) "keys_that_read" [nat p, d, e, dL .int w] t = .ok (nat ((fitting p m c (psOf p pp)).countP (readIs p m (restsOf p q) w))) t := e_keys_that S (fun _ _ => e_tup_rowL (by rw [hw.len]; unfold cap; omega)) hw hm
theorem e_keys_that_readT (S : Seen p m c pp xs d q e) {w : List Int} (hw : Rw p m w) (hm : m ≤ 10) : call (k + 11) "keys_that_read" [nat p, d, e, dRow w] t = .ok (nat ((fitting p m c (psOf p pp)).countP (readIs p m (restsOf p q) w))) t := e_keys_that S (fun _ _ => e_tup_row (by rw [hw.len]; unfold cap; omega)) hw hm
/-- near and far -/
def apart (p m c : Nat) (pp : Prs) (w : List Int) : Str := if isSpanned p (gOf p pp) w = true then (match msgOf p m c pp w with
  | some x => if x == zeroRow m then "alike" else "unlike"
  | none => "alike") else "open"
theorem e_told_apart (S : Seen p m c pp xs d q e) {q2 : Pic} {e2 : D} (h2 : PicOk q2 c) (he2 : IsPic e2 q2) : call (k + 11) "told_apart" [nat p, d, e, e2] t = .ok (.str (apart p m c pp (rowLess p (restsOf p q) (restsOf p q2)))) t := by
  rw [call_of of_told_apart rfl]
  refine callF_ret ?_
  show exs _ f_told_apart [some (.dat (nat p)), some (.dat d), some (.dat e), some (.dat e2), none, none, none, none, none] t = _
  have hgl := S.gl
  have hcf := S.pq.few
  have hp' : (p : Int) ≠ 0 := by
    have := S.pr.pos
    omega
  have hr2 : Rw p c (restsOf p q2) := .rests S.pr.pos h2
  have hw : Rw p c (rowLess p (restsOf p q) (restsOf p q2)) := .less S.pr.pos S.rw.len hr2.len
  have e1 : call (k + 10) "sure_pairs" [nat p, d] t = .ok (dSure p pp) t := e_sure_pairs S.dd S.ok
  have hds : dSure p pp = .tup [dPrs pp, dGrid (gOf p pp), dGrid (mOf p pp)] := rfl
  have e3 : call (k + 10) "sure_rests" [nat p, dGrid (gOf p pp), e] t = .ok (dRow (restsOf p q)) t := e_sure_rests S.ok S.de S.pq
  have e4 : call (k + 10) "sure_rests" [nat p, dGrid (gOf p pp), e2] t = .ok (dRow (restsOf p q2)) t := e_sure_rests S.ok he2 h2
  have e5 : call (k + 10) "row_less" [nat p, dRow (restsOf p q), dRow (restsOf p q2)] t = .ok (dRow (rowLess p (restsOf p q) (restsOf p q2))) t := e_row_less hp' (by rw [S.rw.len, hr2.len]) (by rw [S.rw.len]; unfold cap; omega)
  have e6 : call (k + 10) "key_fitting" [nat p, d] t = .ok (dFit p m c pp xs) t := e_key_fitting S.dd S.ok S.fit
  have hdf : dFit p m c pp xs = .tup [dGrid (gOf p pp), dGrid (mOf p pp), dKey p m (turned c xs)] := rfl
  have l1 : dLen [dRow (rowLess p (restsOf p q) (restsOf p q2))] = some (nat c) := lenT' hw.len
  have e7 : call (k + 10) "is_spanned" [nat p, nat c, dGrid (gOf p pp), dRow (rowLess p (restsOf p q) (restsOf p q2))] t = .ok (.bl (isSpanned p (gOf p pp) (rowLess p (restsOf p q) (restsOf p q2)))) t := e_is_spanned (k := k + 4) S.pr S.gr hw (Nat.le_trans S.pq.few (by decide)) (by omega) (.inl rfl)
  have e8 : call (k + 10) "message_of" [nat p, dGrid (gOf p pp), dGrid (mOf p pp), dRow (rowLess p (restsOf p q) (restsOf p q2))] t = _ := e_message_of (k := k + 2) S.ok hw
  have hmo := mults_or S.pr S.gr hw
  unfold apart
  unfold msgOf at e8 ⊢
  generalize rowLess p (restsOf p q) (restsOf p q2) = ww at *
  generalize hGG : dGrid (gOf p pp) = GG at *
  generalize hMM : dGrid (mOf p pp) = MM at *
  simp only [f_told_apart]
  rcases hmo with ⟨x, s1, s2, s3, _⟩ | ⟨u, s1, s2, _⟩
  · rw [s1] at e7
    rw [s2] at e8
    rw [if_pos s1, s2]
    have e8' : call (k + 10) "message_of" [nat p, GG, MM, dRow ww] t = .ok (dRow (combo p m (mOf p pp) x)) t := e8
    have a1 : dAny [dRow (combo p m (mOf p pp) x)] = some (.bl (!(combo p m (mOf p pp) x == zeroRow m))) := by
      rw [show dAny [dRow (combo p m (mOf p pp) x)] = _ from any_T, any_zero (combo_rw S.pr.pos fun a ha => (S.gm a ha).len).len]
    show _ = SR.ret (.str (if combo p m (mOf p pp) x == zeroRow m then "alike" else "unlike")) t
    cases hb : combo p m (mOf p pp) x == zeroRow m with
    | true =>
      rw [hb] at a1
      simp [e1, hds, e3, e4, e5, e6, hdf, l1, e7, e8', a1, - len_T, - any_T]
    | false =>
      rw [hb] at a1
      simp [e1, hds, e3, e4, e5, e6, hdf, l1, e7, e8', a1, - len_T, - any_T]
  · rw [s1] at e7
    rw [if_neg (by rw [s1]; exact Bool.false_ne_true)]
    simp [e1, hds, e3, e4, e5, e6, hdf, l1, e7, - len_T]
end
end Dry
set_option Elab.async false
set_option linter.all false
set_option maxRecDepth 100000
set_option maxHeartbeats 4000000
set_option autoImplicit false
/-! DryYf: what the law's own defs compute: readings, tests. -/
namespace Dry
open PySem PySem.Spec PyProof.Rows L2
theorem eq_bl {a b : Bool} : dEq (.bl a) (.bl b) = some (.bl (a == b)) := by
  rw [dEq_ok okN_bl okN_bl]
  cases a <;> cases b <;> rfl
theorem ne_bl {a b : Bool} : dNe (.bl a) (.bl b) = some (.bl (a != b)) := by
  rw [dNe_ok okN_bl okN_bl]
  cases a <;> cases b <;> rfl
theorem eq_str {x : Str} (h : PyData.strOk x = true) : dEq (.str x) (.str x) = some (.bl true) := by
  rw [dEq_ok (show okN 64 (.str x) = true from h) (show okN 64 (.str x) = true from h)]
  show some (D.bl (x == x)) = _
  rw [beq_self_eq_true]
theorem eq_non : dEq .non .non = some (.bl true) := rfl
section
variable {t : Tin}
theorem zip_self (xs : List D) : (xs.zip xs).map pairD = xs.map fun x => .tup [x, x] := by
  induction xs with
  | nil => rfl
  | cons x xs ih =>
    show pairD (x, x) :: (xs.zip xs).map pairD = _
    rw [ih] <;> rfl
/-- a thing is the same as itself -/
theorem e_same : ∀ (n : Nat) {k : Nat} {d : D}, okN n d = true → (∀ xs, d = .lst xs ∨ d = .tup xs → xs.length ≤ cap) → (∀ m, m < n → True) → (∀ ys : List D, (d = .lst ys ∨ d = .tup ys) → ∀ y ∈ ys, ∀ j, j < n → call (k + n) "_law_same" [y, y] t = .ok (.bl true) t) → call (k + n + 1) "_law_same" [d, d] t = .ok (.bl true) t := by
  intro n k d hd hc _ hy
  rw [call_of of_law_same rfl]
  refine callF_ret ?_
  show exs _ f_law_same [some (.dat d), some (.dat d), none, none] t = _
  cases d with
  | non => simp [f_law_same, dIs, isOne, tyOf, eq_non, eq_bl]
  | bl b => simp [f_law_same, dIs, isOne, tyOf, eq_bl, isNonD]
  | int i => simp [f_law_same, dIs, isOne, tyOf, isNonD]
  | str x =>
    have hx : PyData.strOk x = true := by
      cases n <;> exact hd
    simp [f_law_same, dIs, isOne, tyOf, eq_bl, isNonD, eq_str hx]
  | lst xs =>
    have hl := hc xs (.inl rfl)
    cases n with
    | zero => cases hd
    | succ n =>
      have hcm := ev_comp (Γ := Γs (k + (n + 1))) (it := .fn .zip (.cons (.var 0) (.cons (.var 1) .nil))) (s := false) (tg := [2, 3]) (vs := [2, 3]) (e := .call "_law_same" (.cons (.var 2) (.cons (.var 3) .nil))) (t1 := t)
        (ρ := [some (.dat (.lst xs)), some (.dat (.lst xs)), none, none]) (t := t) xs (fun x => .tup [x, x]) (fun _ => .bl true) (by
          have : iZip' [.lst xs, .lst xs] = some (xs.map fun x => .tup [x, x]) := by
            show some ((xs.zip xs).map pairD) = _
            rw [zip_self]
          simp [this]) hl
        (fun x hx => ⟨[some (.dat (.lst xs)), some (.dat (.lst xs)), some (.dat x), some (.dat x)], rfl, by
          have := hy xs (.inl rfl) x hx 0 (Nat.succ_pos _)
          simp [this]⟩)
      have h1 : dIs [.list, .tuple] (.lst xs) = some (.bl true) := rfl
      have h2 : dIs [.list] (.lst xs) = some (.bl true) := rfl
      have h3 : dIs [.tuple] (.lst xs) = some (.bl false) := rfl
      have h4 : dLen [.lst xs] = some (.int xs.length) := rfl
      simp [f_law_same, h1, h2, h3, h4, ne_bl, hcm, all_trueL]
  | tup xs =>
    have hl := hc xs (.inr rfl)
    cases n with
    | zero => cases hd
    | succ n =>
      have hcm := ev_comp (Γ := Γs (k + (n + 1))) (it := .fn .zip (.cons (.var 0) (.cons (.var 1) .nil))) (s := false) (tg := [2, 3]) (vs := [2, 3]) (e := .call "_law_same" (.cons (.var 2) (.cons (.var 3) .nil))) (t1 := t)
        (ρ := [some (.dat (.tup xs)), some (.dat (.tup xs)), none, none]) (t := t) xs (fun x => .tup [x, x]) (fun _ => .bl true) (by
          have : iZip' [.tup xs, .tup xs] = some (xs.map fun x => .tup [x, x]) := by
            show some ((xs.zip xs).map pairD) = _
            rw [zip_self]
          simp [this]) hl
        (fun x hx => ⟨[some (.dat (.tup xs)), some (.dat (.tup xs)), some (.dat x), some (.dat x)], rfl, by
          have := hy xs (.inr rfl) x hx 0 (Nat.succ_pos _)
          simp [this]⟩)
      have h1 : dIs [.list, .tuple] (.tup xs) = some (.bl true) := rfl
      have h2 : dIs [.list] (.tup xs) = some (.bl false) := rfl
      have h3 : dIs [.tuple] (.tup xs) = some (.bl true) := rfl
      have h4 : dLen [.tup xs] = some (.int xs.length) := rfl
      simp [f_law_same, h1, h2, h3, h4, ne_bl, hcm, all_trueL]
  | tin => cases n <;> cases hd
  | dct _ => cases n <;> cases hd
  | scr _ => cases n <;> cases hd
/-- plain data, short at every depth -/
def shortN : Nat → D → Bool
  | _, .non => true
  | _, .bl _ => true
  | _, .int _ => true
  | _, .str x => PyData.strOk x
  | 0, _ => false
  | n + 1, .lst xs => decide (xs.length ≤ cap) && xs.all (shortN n)
  | n + 1, .tup xs => decide (xs.length ≤ cap) && xs.all (shortN n)
  | _, _ => false
theorem short_ok : ∀ {n : Nat} {d : D}, shortN n d = true → okN n d = true := by
  intro n
  induction n with
  | zero =>
    intro d h
    cases d with
    | str x => exact h
    | _ => first | rfl | (cases h; done)
  | succ n ih =>
    intro d h
    cases d with
    | non => rfl
    | bl b => rfl
    | int i => rfl
    | str x => exact h
    | lst xs =>
      have h : (decide (xs.length ≤ cap) && xs.all (shortN n)) = true := h
      rw [Bool.and_eq_true, List.all_eq_true] at h
      show xs.all (okN n) = true
      rw [List.all_eq_true]
      exact fun x hx => ih (h.2 x hx)
    | tup xs =>
      have h : (decide (xs.length ≤ cap) && xs.all (shortN n)) = true := h
      rw [Bool.and_eq_true, List.all_eq_true] at h
      show xs.all (okN n) = true
      rw [List.all_eq_true]
      exact fun x hx => ih (h.2 x hx)
    | tin => cases h
    | dct _ => cases h
    | scr _ => cases h
theorem same_self : ∀ (n : Nat) {k : Nat} {d : D}, shortN n d = true → call (k + n + 1) "_law_same" [d, d] t = .ok (.bl true) t := by
  intro n
  induction n with
  | zero =>
    intro k d h
    refine e_same 0 (short_ok h) (fun xs hx => ?_) (fun _ _ => trivial) (fun ys _ y _ j hj => by omega)
    rcases hx with rfl | rfl <;> cases h
  | succ n ih =>
    intro k d h
    refine e_same (n + 1) (short_ok h) (fun xs hx => ?_) (fun _ _ => trivial) (fun ys hy y hm j hj => ?_)
    · rcases hx with rfl | rfl
      · have h : (decide (xs.length ≤ cap) && xs.all (shortN n)) = true := h
        rw [Bool.and_eq_true] at h
        exact of_decide_eq_true h.1
      · have h : (decide (xs.length ≤ cap) && xs.all (shortN n)) = true := h
        rw [Bool.and_eq_true] at h
        exact of_decide_eq_true h.1
    · have hys : ys.all (shortN n) = true := by
        rcases hy with rfl | rfl
        · have h : (decide (ys.length ≤ cap) && ys.all (shortN n)) = true := h
          rw [Bool.and_eq_true] at h
          exact h.2
        · have h : (decide (ys.length ≤ cap) && ys.all (shortN n)) = true := h
          rw [Bool.and_eq_true] at h
          exact h.2
      exact ih (k := k) (List.all_eq_true.mp hys y hm)
end
section
variable {k : Nat} {t : Tin} {p m c : Nat} {pp : Prs} {d : D} {q : Pic} {K : Key}
/-! ### lists in the place of tuples -/
theorem e_lists_int {i : Int} : call (k + 1) "_law_lists" [.int i] t = .ok (.int i) t := by
  rw [call_of of_law_lists rfl]
  refine callF_ret ?_
  show exs _ f_law_lists [some (.dat (.int i)), none] t = _
  simp [f_law_lists, dIs, isOne, tyOf]
theorem e_lists_T {α : Type} {f g : α → D} {xs : List α} (hc : xs.length ≤ cap) (h : ∀ x ∈ xs, call k "_law_lists" [f x] t = .ok (g x) t) : call (k + 1) "_law_lists" [dT f xs] t = .ok (dL g xs) t := by
  rw [call_of of_law_lists rfl]
  refine callF_ret ?_
  show exs _ f_law_lists [some (.dat (dT f xs)), none] t = _
  have hcm := ev_comp (Γ := Γs k) (it := .seq (.var 0)) (s := true) (tg := [1]) (vs := [1]) (e := .call "_law_lists" (.cons (.var 1) .nil)) (t1 := t)
    (ρ := [some (.dat (dT f xs)), none]) (t := t) xs f g (by simp) hc (fun x hx => ⟨_, rfl, by simp [h x hx]⟩)
  have hi : dIs [.list, .tuple] (dT f xs) = some (.bl true) := rfl
  simp [f_law_lists, hi, hcm]
theorem e_lists_row {r : List Int} (hc : r.length ≤ cap) : call (k + 2) "_law_lists" [dRow r] t = .ok (dL .int r) t := e_lists_T hc fun _ _ => e_lists_int
theorem e_lists_pic (h : PicOk q c) : call (k + 4) "_law_lists" [dPic q] t = .ok (dPicL q) t := by
  refine e_lists_T (f := Prod.fst) (g := Prod.snd) (xs := [(D.int q.1, D.int q.1), (dGrid q.2, dL (dL .int) q.2)]) (show 2 ≤ cap by decide) fun x hx => ?_
  rcases List.mem_cons.mp hx with rfl | hx
  · exact e_lists_int
  rcases List.mem_cons.mp hx with rfl | hx
  · exact e_lists_T h.rowsl fun r hr => e_lists_row (h.rows r hr)
  · cases hx
theorem e_lists_pp (h : PrsOk p m c pp) : call (k + 6) "_law_lists" [dPrs pp] t = .ok (dPrsL pp) t := by
  refine e_lists_T (Nat.le_trans h.few (by decide)) fun q hq => ?_
  refine e_lists_T (f := Prod.fst) (g := Prod.snd) (xs := [(dPic q.1, dPicL q.1), (dRow q.2, dL .int q.2)]) (show 2 ≤ cap by decide) fun x hx => ?_
  rcases List.mem_cons.mp hx with rfl | hx
  · exact e_lists_pic (h.ok q hq).1
  rcases List.mem_cons.mp hx with rfl | hx
  · exact e_lists_row (h.msg hq)
  · cases hx
/-! ### readings -/
theorem lsts_map : ∀ xs : List (List Int), dLsts (xs.map (dL .int)) = some (xs.map fun r => r.map .int)
  | [] => rfl
  | x :: xs => by
    show (dLsts (xs.map (dL .int))).map _ = _
    rw [lsts_map xs] <;> rfl
theorem e_law_greys (h : PicOk q c) : call (k + 1) "_law_greys" [dPic q] t = .ok (dL .int (greysOf q)) t := by
  rw [call_of of_law_greys rfl]
  refine callF_ret ?_
  show exs _ f_law_greys [some (.dat (dPic q)), none] t = _
  have x1 : ixD (dPic q) (.int 1) t = some (dGrid q.2) := rfl
  have hcm := ev_comp (Γ := Γs k) (it := .seq (.ix (.var 0) (.int 1))) (s := true) (tg := [1]) (vs := [1]) (e := .fn .list (.cons (.var 1) .nil)) (t1 := t)
    (ρ := [some (.dat (dPic q)), none]) (t := t) q.2 dRow (dL .int) (by simp [x1]) h.rowsl (fun x hx => ⟨[some (.dat (dPic q)), some (.dat (dRow x))], rfl, by simp⟩)
  have hs : dSumL [dL (dL .int) q.2, .lst []] = some (dL .int (greysOf q)) := by
    show (dLsts (q.2.map (dL .int))).bind _ = _
    rw [lsts_map]
    show (if (q.2.map fun r => r.map D.int).flatten.length ≤ cap then some (D.lst (q.2.map fun r => r.map D.int).flatten) else none) = _
    have e : (q.2.map fun r => r.map D.int).flatten = (greysOf q).map D.int := by
      unfold greysOf
      rw [List.map_flatten]
    rw [e, if_pos (by rw [List.length_map, h.len]; exact Nat.le_trans h.few (by decide))]
    rfl
  simp [f_law_greys, hcm, hs]
theorem e_law_rests (hp : 0 < p) (h : PicOk q c) : call (k + 2) "_law_rests" [dPic q, nat p] t = .ok (dRow (restsOf p q)) t := by
  rw [call_of of_law_rests rfl]
  refine callF_ret ?_
  show exs _ f_law_rests [some (.dat (dPic q)), some (.dat (nat p)), none] t = _
  have hp' : (p : Int) ≠ 0 := by omega
  have h1 : call (k + 1) "_law_greys" [dPic q] t = .ok (dL .int (greysOf q)) t := e_law_greys h
  have hcm := ev_comp (Γ := Γs (k + 1)) (it := .seq (.call "_law_greys" (.cons (.var 0) .nil))) (s := true) (tg := [2]) (vs := [2]) (e := .two .mod (.var 2) (.var 1)) (t1 := t)
    (ρ := [some (.dat (dPic q)), some (.dat (nat p)), none]) (t := t) (greysOf q) .int (fun x => .int (x.fmod p)) (by simp [h1]) (by rw [h.len]; exact Nat.le_trans h.few (by decide)) (fun x hx => ⟨[some (.dat (dPic q)), some (.dat (nat p)), some (.dat (.int x))], rfl, by
      have : dMod (.int x) (nat p) = some (.int (x.fmod p)) := mod_int hp'
      simp [this]⟩)
  simp [f_law_rests, hcm, restsOf, dT_map]
theorem e_law_plus {a b : List Int} (hp : 0 < p) (hc : a.length ≤ cap) : call (k + 1) "_law_row_plus" [dRow a, dRow b, nat p] t = .ok (dRow (rowSum p a b)) t := by
  rw [call_of of_law_row_plus rfl]
  refine callF_ret ?_
  show exs _ f_law_row_plus [some (.dat (dRow a)), some (.dat (dRow b)), some (.dat (nat p)), none, none] t = _
  have hp' : (p : Int) ≠ 0 := by omega
  have hcm := ev_comp (Γ := Γs k) (it := .fn .zip (.cons (.var 0) (.cons (.var 1) .nil))) (s := false) (tg := [3, 4]) (vs := [3, 4]) (e := .two .mod (.two .add (.var 3) (.var 4)) (.var 2)) (t1 := t)
    (ρ := [some (.dat (dRow a)), some (.dat (dRow b)), some (.dat (nat p)), none, none]) (t := t) (a.zip b) (pD .int .int) (fun q => .int ((q.1 + q.2).fmod p)) (by simp) (by rw [List.length_zip]; omega) (fun x hx => ⟨[some (.dat (dRow a)), some (.dat (dRow b)), some (.dat (nat p)), some (.dat (.int x.1)), some (.dat (.int x.2))], rfl, by
      have : dMod (.int (x.1 + x.2)) (nat p) = some (.int ((x.1 + x.2).fmod p)) := mod_int hp'
      simp [this]⟩)
  simp [f_law_row_plus, hcm, rowSum, dT_map]
theorem e_law_times {g : Int} {a : List Int} (hp : 0 < p) (hg : smallI g) (hc : a.length ≤ cap) : call (k + 1) "_law_row_times" [.int g, dRow a, nat p] t = .ok (dRow (rowTimes p g a)) t := by
  rw [call_of of_law_row_times rfl]
  refine callF_ret ?_
  show exs _ f_law_row_times [some (.dat (.int g)), some (.dat (dRow a)), some (.dat (nat p)), none] t = _
  have hp' : (p : Int) ≠ 0 := by omega
  have hcm := ev_comp (Γ := Γs k) (it := .seq (.var 1)) (s := true) (tg := [3]) (vs := [3]) (e := .two .mod (.two .mul (.var 0) (.var 3)) (.var 2)) (t1 := t)
    (ρ := [some (.dat (.int g)), some (.dat (dRow a)), some (.dat (nat p)), none]) (t := t) a .int (fun x => .int ((g * x).fmod p)) (by simp) hc (fun x hx => ⟨[some (.dat (.int g)), some (.dat (dRow a)), some (.dat (nat p)), some (.dat (.int x))], rfl, by
      have h1 : dMul (.int g) (.int x) = some (.int (g * x)) := mul_small hg
      have : dMod (.int (g * x)) (nat p) = some (.int ((g * x).fmod p)) := mod_int hp'
      simp [h1, this]⟩)
  simp [f_law_row_times, hcm, rowTimes, dT_map]
theorem zero_mul {n : Nat} (h : n ≤ 1000) : dMul (.tup [.int 0]) (nat n) = some (dRow (zeroRow n)) := by
  show (if [D.int 0] ≠ [] ∧ (0 : Int) ≤ (n : Int) ∧ (n : Int) ≤ 1000 ∧ [D.int 0].length ≤ 1000 then some (D.tup (List.replicate (n : Int).toNat [D.int 0]).flatten) else none) = _
  rw [if_pos ⟨by simp, by omega, by omega, by simp⟩]
  unfold dRow dT zeroRow
  simp
/-- the sum, with digits ahead -/
theorem combo_swap {w : Nat} {rows : List (List Int)} {ds : List Int} : combo p w rows ds = (ds.zip rows).foldl (fun f q => rowSum p f (rowTimes p q.1 q.2)) (zeroRow w) := by
  unfold combo
  generalize zeroRow w = a
  induction rows generalizing ds a with
  | nil =>
    rw [List.zip_nil_right] <;> rfl
  | cons r rows ih =>
    cases ds with
    | nil => rfl
    | cons d ds => exact ih _
theorem e_law_read {g : List Int} (hp : Pr p) (hK : KeyOk p m c K) (hg : Rw p c g) (hm : m ≤ 100) (hc : c ≤ 100) : call (k + 2) "_law_read" [dKey p m K, dRow g] t = .ok (dRow (combo p m K g)) t := by
  rw [call_of of_law_read rfl]
  refine callF_ret ?_
  show exs _ f_law_read [some (.dat (dKey p m K)), some (.dat (dRow g)), none, none, none] t = _
  have x0 : ixD (dKey p m K) (.int 0) t = some (nat p) := rfl
  have x1 : ixD (dKey p m K) (.int 1) t = some (nat m) := rfl
  have x2 : ixD (dKey p m K) (.int 2) t = some (dGrid K) := rfl
  have hz := zero_mul (n := m) (by omega)
  have hlp := loopF_fold (F := bodyF (Γs (k + 1)) false [3, 4] (.cons (.asg true [2] (.call "_law_row_plus" (.cons (.var 2) (.cons (.call "_law_row_times" (.cons (.var 3) (.cons (.var 4) (.cons (.ix (.var 0) (.int 0)) .nil)))) (.cons (.ix (.var 0) (.int 0)) .nil))))) .nil)) (enc := pD .int dRow) (t := t)
    (fun (b : List Int) ρ => b.length = m ∧ ∃ x y, ρ = [some (.dat (dKey p m K)), some (.dat (dRow g)), some (.dat (dRow b)), x, y]) (fun f q => rowSum p f (rowTimes p q.1 q.2)) (g.zip K) (zeroRow m)
    [some (.dat (dKey p m K)), some (.dat (dRow g)), some (.dat (dRow (zeroRow m))), none, none]
    (fun b z ρ hz hR => by
      obtain ⟨hb, x, y, rfl⟩ := hR
      obtain ⟨z1, z2⟩ := List.of_mem_zip (show (z.1, z.2) ∈ _ from hz)
      have hr := hK.gr _ z2
      have hbd : bindT false [3, 4] (pD .int dRow z) [some (.dat (dKey p m K)), some (.dat (dRow g)), some (.dat (dRow b)), x, y] = some [some (.dat (dKey p m K)), some (.dat (dRow g)), some (.dat (dRow b)), some (.dat (.int z.1)), some (.dat (dRow z.2))] := rfl
      have ht := (Rw.times (p := p) (g := z.1) hp.pos hr.len).len
      have e1 : call (k + 1) "_law_row_times" [.int z.1, dRow z.2, nat p] t = .ok (dRow (rowTimes p z.1 z.2)) t := e_law_times hp.pos (small_of hp.le (hg.dig _ z1)) (by rw [hr.len]; unfold cap; omega)
      have e2 : call (k + 1) "_law_row_plus" [dRow b, dRow (rowTimes p z.1 z.2), nat p] t = .ok (dRow (rowSum p b (rowTimes p z.1 z.2))) t := e_law_plus hp.pos (by rw [hb]; unfold cap; omega)
      refine ⟨[some (.dat (dKey p m K)), some (.dat (dRow g)), some (.dat (dRow (rowSum p b (rowTimes p z.1 z.2)))), some (.dat (.int z.1)), some (.dat (dRow z.2))], ?_, (Rw.sum (p := p) hp.pos hb ht).len, _, _, rfl⟩
      rw [bodyF_some hbd]
      simp [x0, e1, e2]) ⟨List.length_replicate, none, none, rfl⟩
  obtain ⟨ρ', hl1, _, x, y, rfl⟩ := hlp
  rw [← combo_swap] at hl1
  have hev := ex_loop (Γ := Γs (k + 1)) (it := .fn .zip (.cons (.var 1) (.cons (.ix (.var 0) (.int 2)) .nil))) (s := false) (tg := [3, 4]) (body := .cons (.asg true [2] (.call "_law_row_plus" (.cons (.var 2) (.cons (.call "_law_row_times" (.cons (.var 3) (.cons (.var 4) (.cons (.ix (.var 0) (.int 0)) .nil)))) (.cons (.ix (.var 0) (.int 0)) .nil))))) .nil)
    (ρ := [some (.dat (dKey p m K)), some (.dat (dRow g)), some (.dat (dRow (zeroRow m))), none, none]) (t := t) (t1 := t) (items := (g.zip K).map (pD .int dRow)) (by simp [x2])
  rw [hl1] at hev
  simp [f_law_read, x1, hz, hev]
theorem e_law_reading (hp : Pr p) (hK : KeyOk p m c K) (h : PicOk q c) (hm : m ≤ 100) : call (k + 3) "_law_reading" [dPic q, dKey p m K] t = .ok (dRow (combo p m K (restsOf p q))) t := by
  rw [call_of of_law_reading rfl]
  refine callF_ret ?_
  show exs _ f_law_reading [some (.dat (dPic q)), some (.dat (dKey p m K))] t = _
  have x0 : ixD (dKey p m K) (.int 0) t = some (nat p) := rfl
  have e1 : call (k + 2) "_law_rests" [dPic q, nat p] t = .ok (dRow (restsOf p q)) t := e_law_rests hp.pos h
  have e2 : call (k + 2) "_law_read" [dKey p m K, dRow (restsOf p q)] t = .ok (dRow (combo p m K (restsOf p q))) t := e_law_read hp hK (.rests hp.pos h) hm h.few
  simp [f_law_reading, x0, e1, e2]
/-! ### tests -/
theorem e_law_number {x : D} (h : plainD x = true) : call (k + 1) "_law_is_number" [x] t = .ok (.bl (isIntD x)) t := by
  rw [call_of of_law_is_number rfl]
  refine callF_ret ?_
  show exs _ f_law_is_number [some (.dat x)] t = _
  cases x <;> first | (cases h; done) | simp [f_law_is_number, dIs, isOne, tyOf, isIntD]
theorem e_law_digits {x : D} {n : Nat} (hx : tame x) : call (k + 2) "_law_is_digits" [x, nat p, nat n] t = .ok (.bl (match digitsD p x with
    | some ds => decide (ds.length = n)
    | none => false)) t := by
  rw [call_of of_law_is_digits rfl]
  refine callF_ret ?_
  show exs _ f_law_is_digits [some (.dat x), some (.dat (nat p)), some (.dat (nat n)), none] t = _
  cases x with
  | tup xs =>
    have hi : dIs [.tuple] (.tup xs) = some (.bl true) := rfl
    have hl : dLen [.tup xs] = some (nat xs.length) := rfl
    obtain ⟨r1, r2⟩ := digits_row (p := p) (d := .tup xs)
    by_cases hn : xs.length = n
    · have n1 : dNe (nat xs.length) (nat n) = some (.bl false) := by
        rw [ne_nat, hn]
        simp
      have hcm := ev_comp (Γ := Γs (k + 1)) (it := .seq (.var 0)) (s := true) (tg := [3]) (vs := [3]) (e := .and_ (.call "_law_is_number" (.cons (.var 3) .nil)) (.chain (.int 0) (.var 3) (.var 1))) (t1 := t)
        (ρ := [some (.dat (.tup xs)), some (.dat (nat p)), some (.dat (nat n)), none]) (t := t) xs id (fun x => .bl (belowD p x)) (by simp [dItems]) (hx.2 xs rfl).1 (fun x hxx => ⟨[some (.dat (.tup xs)), some (.dat (nat p)), some (.dat (nat n)), some (.dat x)], rfl, by
          have e1 : call (k + 1) "_law_is_number" [x] t = .ok (.bl (isIntD x)) t := e_law_number ((hx.2 xs rfl).2 x hxx)
          cases x with
          | int i =>
            have hpp : asI (.ok (nat p) t) = .ok (p : Int) t := rfl
            have hb : belowD p (.int i) = (decide (0 ≤ i) && decide (i < (p : Int))) := rfl
            have hch : ev (Γs (k + 1)) (.chain (.int 0) (.var 3) (.var 1)) [some (.dat (.tup xs)), some (.dat (nat p)), some (.dat (nat n)), some (.dat (.int i))] t = .ok (.bl (decide (0 ≤ i) && decide (i < (p : Int)))) t := by
              show (match decide ((0 : Int) ≤ i) with
                | true => Res.ok (D.bl (decide (i < (p : Int)))) t
                | false => .ok (.bl false) t) = _
              cases decide ((0 : Int) ≤ i) <;> rfl
            have e1' : call (k + 1) "_law_is_number" [.int i] t = .ok (.bl true) t := e1
            rw [hb]
            generalize (decide (0 ≤ i) && decide (i < (p : Int))) = bb at *
            simp [e1', hch]
          | tin => exact absurd ((hx.2 xs rfl).2 _ hxx) (by simp [plainD])
          | dct _ => exact absurd ((hx.2 xs rfl).2 _ hxx) (by simp [plainD])
          | scr _ => exact absurd ((hx.2 xs rfl).2 _ hxx) (by simp [plainD])
          | _ => simp [e1, isIntD, belowD]⟩)
      have e : dL (fun x => D.bl (belowD p x)) xs = dL .bl (xs.map (belowD p)) := dL_map.symm
      rw [e] at hcm
      have hr : rowD p (.tup xs) = (xs.map (belowD p)).all id := by
        rw [List.all_map]
        rfl
      have hv : (match digitsD p (.tup xs) with
          | some ds => decide (ds.length = n)
          | none => false) = rowD p (.tup xs) := by
        rw [r1]
        cases hz : digitsD p (.tup xs) with
        | none => rfl
        | some ds =>
          obtain ⟨hd, _⟩ := r2 ds hz
          have : xs.length = ds.length := by
            have := D.tup.inj hd
            rw [this, List.length_map]
          exact decide_eq_true (by rw [← this]; exact hn)
      rw [hv, hr]
      simp only [f_law_is_digits]
      simp [hi, hl, n1, hcm, - List.all_map]
    · have n1 : dNe (nat xs.length) (nat n) = some (.bl true) := by
        rw [ne_nat, bne_iff_ne.mpr hn]
      have hv : (match digitsD p (.tup xs) with
          | some ds => decide (ds.length = n)
          | none => false) = false := by
        cases hz : digitsD p (.tup xs) with
        | none => rfl
        | some ds =>
          obtain ⟨hd, _⟩ := r2 ds hz
          have : xs.length = ds.length := by
            have := D.tup.inj hd
            rw [this, List.length_map]
          exact decide_eq_false (by rw [← this]; exact hn)
      rw [hv]
      simp only [f_law_is_digits]
      simp [hi, hl, n1]
  | tin => cases hx.1
  | dct _ => cases hx.1
  | scr _ => exact absurd hx.1 (by simp [plainD])
  | _ => simp [f_law_is_digits, dIs, isOne, tyOf, digitsD]
theorem e_law_mults {w : Nat} {rows : List (List Int)} {r : List Int} {x : D} (hp : Pr p) (hg : Gr p w rows) (hr : Rw p w r) (hw : w ≤ 400) (hn : rows.length ≤ 400) (hx : tame x) : call (k + 3) "_law_are_multiples" [nat p, dL dRow rows, dRow r, x] t = .ok (.bl (isMults p w rows r x)) t := by
  rw [call_of of_law_are_multiples rfl]
  refine callF_ret ?_
  show exs _ f_law_are_multiples [some (.dat (nat p)), some (.dat (dL dRow rows)), some (.dat (dRow r)), some (.dat x), none, none, none] t = _
  have l1 : dLen [dL dRow rows] = some (nat rows.length) := len_L
  have l2 : dLen [dRow r] = some (nat w) := lenT' hr.len
  have e1 : call (k + 2) "_law_is_digits" [x, nat p, nat rows.length] t = _ := e_law_digits (k := k) hx
  obtain ⟨r1, r2⟩ := digits_row (p := p) (d := x)
  unfold isMults
  cases hz : digitsD p x with
  | none =>
    rw [hz] at e1
    have e1' : call (k + 2) "_law_is_digits" [x, nat p, nat rows.length] t = .ok (.bl false) t := e1
    simp [f_law_are_multiples, l1, e1', - len_L]
  | some ds =>
    rw [hz] at e1
    obtain ⟨rfl, hdig⟩ := r2 ds hz
    by_cases hl : ds.length = rows.length
    · have e1' : call (k + 2) "_law_is_digits" [dRow ds, nat p, nat rows.length] t = .ok (.bl true) t := by
        rw [e1]
        show Res.ok (D.bl (decide (ds.length = rows.length))) t = _
        rw [decide_eq_true hl]
      have hzr := zero_mul (n := w) (by omega)
      have hlp := loopF_fold (F := bodyF (Γs (k + 2)) false [5, 6] (.cons (.asg true [4] (.call "_law_row_plus" (.cons (.var 4) (.cons (.call "_law_row_times" (.cons (.var 5) (.cons (.var 6) (.cons (.var 0) .nil)))) (.cons (.var 0) .nil))))) .nil)) (enc := pD .int dRow) (t := t)
        (fun (b : List Int) ρ => b.length = w ∧ ∃ x y, ρ = [some (.dat (nat p)), some (.dat (dL dRow rows)), some (.dat (dRow r)), some (.dat (dRow ds)), some (.dat (dRow b)), x, y]) (fun f q => rowSum p f (rowTimes p q.1 q.2)) (ds.zip rows) (zeroRow w)
        [some (.dat (nat p)), some (.dat (dL dRow rows)), some (.dat (dRow r)), some (.dat (dRow ds)), some (.dat (dRow (zeroRow w))), none, none]
        (fun b z ρ hz hR => by
          obtain ⟨hb, x, y, rfl⟩ := hR
          obtain ⟨z1, z2⟩ := List.of_mem_zip (show (z.1, z.2) ∈ _ from hz)
          have hr := hg _ z2
          have hbd : bindT false [5, 6] (pD .int dRow z) [some (.dat (nat p)), some (.dat (dL dRow rows)), some (.dat (dRow r)), some (.dat (dRow ds)), some (.dat (dRow b)), x, y] = some [some (.dat (nat p)), some (.dat (dL dRow rows)), some (.dat (dRow r)), some (.dat (dRow ds)), some (.dat (dRow b)), some (.dat (.int z.1)), some (.dat (dRow z.2))] := rfl
          have ht := (Rw.times (p := p) (g := z.1) hp.pos hr.len).len
          have e1 : call (k + 2) "_law_row_times" [.int z.1, dRow z.2, nat p] t = .ok (dRow (rowTimes p z.1 z.2)) t := e_law_times hp.pos (small_of hp.le (hdig _ z1)) (by rw [hr.len]; unfold cap; omega)
          have e2 : call (k + 2) "_law_row_plus" [dRow b, dRow (rowTimes p z.1 z.2), nat p] t = .ok (dRow (rowSum p b (rowTimes p z.1 z.2))) t := e_law_plus hp.pos (by rw [hb]; unfold cap; omega)
          refine ⟨[some (.dat (nat p)), some (.dat (dL dRow rows)), some (.dat (dRow r)), some (.dat (dRow ds)), some (.dat (dRow (rowSum p b (rowTimes p z.1 z.2)))), some (.dat (.int z.1)), some (.dat (dRow z.2))], ?_, (Rw.sum (p := p) hp.pos hb ht).len, _, _, rfl⟩
          rw [bodyF_some hbd]
          simp [e1, e2]) ⟨List.length_replicate, none, none, rfl⟩
      obtain ⟨ρ', hl1, _, x, y, rfl⟩ := hlp
      rw [← combo_swap] at hl1
      have hev := ex_loop (Γ := Γs (k + 2)) (it := .fn .zip (.cons (.var 3) (.cons (.var 1) .nil))) (s := false) (tg := [5, 6]) (body := .cons (.asg true [4] (.call "_law_row_plus" (.cons (.var 4) (.cons (.call "_law_row_times" (.cons (.var 5) (.cons (.var 6) (.cons (.var 0) .nil)))) (.cons (.var 0) .nil))))) .nil)
        (ρ := [some (.dat (nat p)), some (.dat (dL dRow rows)), some (.dat (dRow r)), some (.dat (dRow ds)), some (.dat (dRow (zeroRow w))), none, none]) (t := t) (t1 := t) (items := (ds.zip rows).map (pD .int dRow)) (by simp)
      rw [hl1] at hev
      have he : dEq (dRow (combo p w rows ds)) (dRow r) = some (.bl (combo p w rows ds == r)) := by
        rw [dEq_ok okN_row okN_row, EqOk.row]
      have hdd : decide (ds.length = rows.length) = true := decide_eq_true hl
      dsimp only
      rw [hdd]
      simp [f_law_are_multiples, l1, l2, e1', hzr, hev, he, - len_L, - len_T]
    · have e1' : call (k + 2) "_law_is_digits" [dRow ds, nat p, nat rows.length] t = .ok (.bl false) t := by
        rw [e1]
        show Res.ok (D.bl (decide (ds.length = rows.length))) t = _
        rw [decide_eq_false hl]
      have hdd : decide (ds.length = rows.length) = false := decide_eq_false hl
      dsimp only
      rw [hdd]
      simp [f_law_are_multiples, l1, e1', - len_L]
theorem e_law_is_odd (h : PrsOk p m c pp) {x : D} (hx : tame x) : call (k + 4) "_law_is_odd" [nat p, dPrs pp, x] t = .ok (.bl (isOdd p m c (psOf p pp) x)) t := by
  rw [call_of of_law_is_odd rfl]
  refine callF_ret ?_
  show exs _ f_law_is_odd [some (.dat (nat p)), some (.dat (dPrs pp)), some (.dat x), none, none, none, none] t = _
  have hcf := h.cfew
  have hmf := h.mfew
  have hpf := h.few
  have hn : pp.length ≤ cap := Nat.le_trans h.few (by decide)
  have l1 : dLen [dPrs pp] = some (nat (psOf p pp).length) := by
    rw [ps_len]
    exact lenT' rfl
  have e1 : call (k + 3) "_law_is_digits" [x, nat p, nat (psOf p pp).length] t = _ := e_law_digits (k := k + 1) hx
  have g1 : dL (fun (q : Pic × List Int) => dRow (restsOf p q.1)) pp = dL dRow (gOf p pp) := by
    unfold gOf
    rw [ps_fst]
    exact dL_map.symm
  have g2 : dL (fun (q : Pic × List Int) => dRow q.2) pp = dL dRow (mOf p pp) := by
    unfold mOf
    rw [ps_snd]
    exact dL_map.symm
  have hc1 := ev_comp (Γ := Γs (k + 3)) (it := .seq (.var 1)) (s := true) (tg := [6]) (vs := [6]) (e := .call "_law_rests" (.cons (.ix (.var 6) (.int 0)) (.cons (.var 0) .nil))) (t1 := t)
    (ρ := [some (.dat (nat p)), some (.dat (dPrs pp)), some (.dat x), none, none, none, none]) (t := t) pp dPair (fun q => dRow (restsOf p q.1)) (by simp [dPrs]) hn
    (fun q hq => ⟨[some (.dat (nat p)), some (.dat (dPrs pp)), some (.dat x), none, none, none, some (.dat (dPair q))], rfl, by
      have x0 : ixD (dPair q) (.int 0) t = some (dPic q.1) := rfl
      have e1 : call (k + 3) "_law_rests" [dPic q.1, nat p] t = .ok (dRow (restsOf p q.1)) t := e_law_rests h.pr.pos (h.ok q hq).1
      simp [x0, e1]⟩)
  have hc2 := ev_comp (Γ := Γs (k + 3)) (it := .seq (.var 1)) (s := true) (tg := [6]) (vs := [6]) (e := .ix (.var 6) (.int 1)) (t1 := t)
    (ρ := [some (.dat (nat p)), some (.dat (dPrs pp)), some (.dat x), none, none, none, none]) (t := t) pp dPair (fun q => dRow q.2) (by simp [dPrs]) hn
    (fun q hq => ⟨[some (.dat (nat p)), some (.dat (dPrs pp)), some (.dat x), none, none, none, some (.dat (dPair q))], rfl, by
      have x0 : ixD (dPair q) (.int 1) t = some (dRow q.2) := rfl
      simp [x0]⟩)
  rw [g1] at hc1
  rw [g2] at hc2
  obtain ⟨g0, hg0, hg1⟩ := grid_head h
  obtain ⟨m0, hm0, hm1⟩ := msg_head h
  have x0 : ixD (dL dRow (gOf p pp)) (.int 0) t = some (dRow g0) := ix_L (n := 0) rfl hg0
  have y0 : ixD (dL dRow (mOf p pp)) (.int 0) t = some (dRow m0) := ix_L (n := 0) rfl hm0
  have l2 : dLen [dRow g0] = some (nat c) := lenT' hg1.len
  have l3 : dLen [dRow m0] = some (nat m) := lenT' hm1.len
  have z1 := zero_mul (n := c) (by omega)
  have z2 := zero_mul (n := m) (by omega)
  have hz1 : Rw p c (zeroRow c) := .zero h.pr.pos
  have hz2 : Rw p m (zeroRow m) := .zero h.pr.pos
  have e2 : call (k + 3) "_law_are_multiples" [nat p, dL dRow (gOf p pp), dRow (zeroRow c), x] t = _ := e_law_mults (k := k) h.pr h.ps.gr hz1 (by omega) (by rw [List.length_map, ps_len]; omega) hx
  have e3 : call (k + 3) "_law_are_multiples" [nat p, dL dRow (mOf p pp), dRow (zeroRow m), x] t = _ := e_law_mults (k := k) h.pr h.ps.gm hz2 (by omega) (by rw [List.length_map, ps_len]; omega) hx
  have lg : (gOf p pp).length = (psOf p pp).length := List.length_map ..
  have lm : (mOf p pp).length = (psOf p pp).length := List.length_map ..
  unfold isMults at e2 e3
  rw [lg] at e2
  rw [lm] at e3
  unfold isOdd
  cases hz : digitsD p x with
  | none =>
    rw [hz] at e1
    have e1' : call (k + 3) "_law_is_digits" [x, nat p, nat (psOf p pp).length] t = .ok (.bl false) t := e1
    simp [f_law_is_odd, l1, e1', - len_T]
  | some ds =>
    rw [hz] at e1 e2 e3
    by_cases hl : ds.length = (psOf p pp).length
    · have hdd : decide (ds.length = (psOf p pp).length) = true := decide_eq_true hl
      dsimp only at e1 e2 e3 ⊢
      rw [hdd] at e1 e2 e3 ⊢
      rw [Bool.true_and] at e2 e3 ⊢
      simp only [f_law_is_odd]
      generalize (psOf p pp).length = ln at *
      generalize hGG : gOf p pp = GG at *
      generalize hMM : mOf p pp = MM at *
      have hGG' : (psOf p pp).map Prod.fst = GG := hGG
      have hMM' : (psOf p pp).map Prod.snd = MM := hMM
      rw [hGG', hMM']
      generalize (combo p c GG ds == zeroRow c) = b1 at *
      generalize (combo p m MM ds == zeroRow m) = b2 at *
      cases b1 <;> simp [l1, e1, hc1, hc2, x0, y0, l2, l3, z1, z2, e2, e3, - len_T]
    · have hdd : decide (ds.length = (psOf p pp).length) = false := decide_eq_false hl
      dsimp only at e1 ⊢
      rw [hdd] at e1 ⊢
      simp [f_law_is_odd, l1, e1, - len_T]
end
end Dry
set_option Elab.async false
set_option linter.all false
set_option maxRecDepth 100000
set_option maxHeartbeats 4000000
set_option autoImplicit false
/-! DryYg: what the law's own defs compute: all rows, all keys. -/
namespace Dry
open PySem PySem.Spec PyProof.Rows L2
section
variable {k : Nat} {t : Tin} {p m c : Nat} {pp : Prs} {d : D} {q : Pic} {K : Key}
theorem add_LL {α : Type} {f : α → D} {a b : List α} (h : a.length + b.length ≤ cap) : dAdd (dL f a) (dL f b) = some (dL f (a ++ b)) := by
  show (if (a.map f).length + (b.map f).length ≤ cap then some (D.lst (a.map f ++ b.map f)) else none) = _
  rw [if_pos (by rw [List.length_map, List.length_map]; exact h), ← List.map_append]
  rfl
theorem add_T1 {α : Type} {f : α → D} {a : List α} {x : α} (h : a.length + 1 ≤ cap) : dAdd (dT f a) (.tup [f x]) = some (dT f (a ++ [x])) := by
  show (if (a.map f).length + 1 ≤ cap then some (D.tup (a.map f ++ [f x])) else none) = _
  rw [if_pos (by rw [List.length_map]; exact h)]
  unfold dT
  rw [List.map_append]
  rfl
theorem fold_flat {α β : Type} {g : α → List β} : ∀ (xs : List α) (b : List β), xs.foldl (fun b x => b ++ g x) b = b ++ xs.flatMap g
  | [], b => (List.append_nil b).symm
  | x :: xs, b => by
    rw [List.foldl_cons, fold_flat xs, List.flatMap_cons, List.append_assoc]
theorem fold_tuples {α : Type} {A : List α} : ∀ (n i : Nat), (List.range n).foldl (fun b _ => b.flatMap fun own => A.map fun x => own ++ [x]) (tuplesOf A i) = tuplesOf A (i + n) := by
  have go : ∀ (xs : List Nat) (i : Nat), xs.foldl (fun b _ => b.flatMap fun own => A.map fun x => own ++ [x]) (tuplesOf A i) = tuplesOf A (i + xs.length) := by
    intro xs
    induction xs with
    | nil => exact fun _ => rfl
    | cons x xs ih =>
      intro i
      rw [List.foldl_cons, List.length_cons]
      show xs.foldl _ (tuplesOf A (i + 1)) = _
      rw [ih]
      congr 1
      omega
  intro n i
  rw [go, List.length_range]
theorem digits_nat {n : Nat} : dL D.int (digitsOf n) = dL nat (List.range n) := by
  unfold digitsOf dL
  rw [List.map_map]
  rfl
/-- one round: each longer by each of A -/
theorem grow_inner {α : Type} {Γ : Gam} {A : List α} {f : α → D} {F : D → Env' → Tin → SR} {E : List (List α) → Env' → Prop} {n : Nat} (hA : ∀ (b : List (List α)) (own : List α) (ρ : Env'), own.length = n → b.length + A.length ≤ cap → E b ρ → ∃ ρ', F (dT f own) ρ t = .nx ρ' t ∧ E (b ++ A.map fun x => own ++ [x]) ρ')
    (xs : List (List α)) (hx : ∀ x ∈ xs, x.length = n) (hl : (xs.length + 1) * A.length ≤ cap) {ρ : Env'} (h0 : E [] ρ) : ∃ ρ', loopF F (xs.map (dT f)) ρ t = .nx ρ' t ∧ E (xs.flatMap fun own => A.map fun x => own ++ [x]) ρ' := by
  have := loopF_foldI (F := F) (enc := dT f) (t := t) (fun j (b : List (List α)) ρ => b.length = j * A.length ∧ E b ρ) (fun b own => b ++ A.map fun x => own ++ [x]) xs 0 [] ρ
    (fun j b own ρ _ hj ho hR => by
      obtain ⟨h1, h2⟩ := hR
      have hb : b.length + A.length ≤ cap := by
        rw [h1]
        have : (j + 1) * A.length ≤ (xs.length + 1) * A.length := Nat.mul_le_mul_right _ (by omega)
        rw [Nat.succ_mul] at this
        omega
      obtain ⟨ρ', h3, h4⟩ := hA b own ρ (hx own ho) hb h2
      exact ⟨ρ', h3, by rw [List.length_append, List.length_map, h1, Nat.succ_mul], h4⟩) ⟨by simp, h0⟩
  obtain ⟨ρ', h1, _, h2⟩ := this
  rw [fold_flat, List.nil_append] at h2
  exact ⟨ρ', h1, h2⟩
theorem e_all_rows {n : Nat} (hp : p ≤ 5) (hp0 : 0 < p) (hn : n ≤ 100) (hpn : p ^ n ≤ 1000) : call (k + 1) "_law_all_rows" [nat p, nat n] t = .ok (dL dRow (allRows p n)) t := by
  rw [call_of of_law_all_rows rfl]
  refine callF_ret ?_
  show exs _ f_law_all_rows [some (.dat (nat p)), some (.dat (nat n)), none, none, none, none, none] t = _
  have hdl : (digitsOf p).length = p := by
    unfold digitsOf
    rw [List.length_map, List.length_range]
  have hlp := loopF_foldI (F := bodyF (Γs k) true [3] (.cons (.asg true [4] (.lst .nil)) (.cons (.loop (.seq (.var 2)) true [5] (.cons (.asg true [4] (.two .add (.var 4) (.comp (.fn .rng1 (.cons (.var 0) .nil)) true [6] [6] (.two .add (.var 5) (.tup (.cons (.var 6) .nil)))))) .nil)) (.cons (.asg true [2] (.var 4)) .nil)))) (enc := nat) (t := t)
    (fun j (b : List (List Int)) ρ => b = tuplesOf (digitsOf p) j ∧ ∃ x3 x4 x5 x6, ρ = [some (.dat (nat p)), some (.dat (nat n)), some (.dat (dL dRow b)), x3, x4, x5, x6]) (fun b _ => b.flatMap fun own => (digitsOf p).map fun x => own ++ [x]) (List.range n) 0 [[]]
    [some (.dat (nat p)), some (.dat (nat n)), some (.dat (dL dRow [[]])), none, none, none, none]
    (fun j b i ρ _ hj hi hR => by
      obtain ⟨hb, x3, x4, x5, x6, rfl⟩ := hR
      rw [List.length_range] at hj
      have hbd : bindT true [3] (nat i) [some (.dat (nat p)), some (.dat (nat n)), some (.dat (dL dRow b)), x3, x4, x5, x6] = some [some (.dat (nat p)), some (.dat (nat n)), some (.dat (dL dRow b)), some (.dat (nat i)), x4, x5, x6] := rfl
      have hbl : b.length ≤ 1000 := by
        rw [hb, len_tuples, hdl]
        exact Nat.le_trans (Nat.pow_le_pow_right hp0 (by omega)) hpn
      obtain ⟨ρ', h1, x3', x5', x6', rfl⟩ := grow_inner (t := t) (Γ := Γs k) (A := digitsOf p) (f := D.int) (F := bodyF (Γs k) true [5] (.cons (.asg true [4] (.two .add (.var 4) (.comp (.fn .rng1 (.cons (.var 0) .nil)) true [6] [6] (.two .add (.var 5) (.tup (.cons (.var 6) .nil)))))) .nil))
        (E := fun b' ρ => ∃ x3 x5 x6, ρ = [some (.dat (nat p)), some (.dat (nat n)), some (.dat (dL dRow b)), x3, some (.dat (dL dRow b')), x5, x6]) (n := j) (fun b' own ρ ho hb' hR => by
          obtain ⟨x3, x5, x6, rfl⟩ := hR
          have hbd : bindT true [5] (dRow own) [some (.dat (nat p)), some (.dat (nat n)), some (.dat (dL dRow b)), x3, some (.dat (dL dRow b')), x5, x6] = some [some (.dat (nat p)), some (.dat (nat n)), some (.dat (dL dRow b)), x3, some (.dat (dL dRow b')), some (.dat (dRow own)), x6] := rfl
          have hcm := ev_comp (Γ := Γs k) (it := .fn .rng1 (.cons (.var 0) .nil)) (s := true) (tg := [6]) (vs := [6]) (e := .two .add (.var 5) (.tup (.cons (.var 6) .nil))) (t1 := t)
            (ρ := [some (.dat (nat p)), some (.dat (nat n)), some (.dat (dL dRow b)), x3, some (.dat (dL dRow b')), some (.dat (dRow own)), x6]) (t := t) (digitsOf p) .int (fun x => dRow (own ++ [x])) (by
              have h1 : iRng1' [nat p] = some ((List.range p).map nat) := rng1 (by omega)
              have h2 : (List.range p).map nat = (digitsOf p).map D.int := by
                unfold digitsOf
                rw [List.map_map]
                rfl
              simp [h1, h2]) (by rw [hdl]; unfold cap; omega) (fun x hx => ⟨[some (.dat (nat p)), some (.dat (nat n)), some (.dat (dL dRow b)), x3, some (.dat (dL dRow b')), some (.dat (dRow own)), some (.dat (.int x))], rfl, by
                have : dAdd (dRow own) (.tup [.int x]) = some (dRow (own ++ [x])) := add_T1 (by rw [ho]; unfold cap; omega)
                simp [this]⟩)
          have ea : dL (fun (x : Int) => dRow (own ++ [x])) (digitsOf p) = dL dRow ((digitsOf p).map fun x => own ++ [x]) := dL_map.symm
          rw [ea] at hcm
          have hadd : dAdd (dL dRow b') (dL dRow ((digitsOf p).map fun x => own ++ [x])) = some (dL dRow (b' ++ (digitsOf p).map fun x => own ++ [x])) := add_LL (by rw [List.length_map]; exact hb')
          refine ⟨[some (.dat (nat p)), some (.dat (nat n)), some (.dat (dL dRow b)), x3, some (.dat (dL dRow (b' ++ (digitsOf p).map fun x => own ++ [x]))), some (.dat (dRow own)), x6], ?_, x3, some (.dat (dRow own)), x6, rfl⟩
          rw [bodyF_some hbd]
          simp [hcm, hadd]) b (fun x hx => by rw [hb] at hx; exact (mem_tuples.mp hx).1) (by
            rw [hdl]
            have : (b.length + 1) * p ≤ 1001 * 5 := Nat.mul_le_mul (by omega) hp
            unfold cap
            omega) (ρ := [some (.dat (nat p)), some (.dat (nat n)), some (.dat (dL dRow b)), some (.dat (nat i)), some (.dat (dL dRow [])), x5, x6]) ⟨_, _, _, rfl⟩
      have hev := ex_loop (Γ := Γs k) (it := .seq (.var 2)) (s := true) (tg := [5]) (body := .cons (.asg true [4] (.two .add (.var 4) (.comp (.fn .rng1 (.cons (.var 0) .nil)) true [6] [6] (.two .add (.var 5) (.tup (.cons (.var 6) .nil)))))) .nil)
        (ρ := [some (.dat (nat p)), some (.dat (nat n)), some (.dat (dL dRow b)), some (.dat (nat i)), some (.dat (dL dRow [])), x5, x6]) (t := t) (t1 := t) (items := b.map dRow) (by simp)
      rw [show (b.map dRow) = b.map (dT D.int) from rfl, h1] at hev
      have hnil : (.lst [] : D) = dL dRow [] := rfl
      refine ⟨[some (.dat (nat p)), some (.dat (nat n)), some (.dat (dL dRow (b.flatMap fun own => (digitsOf p).map fun x => own ++ [x]))), x3', some (.dat (dL dRow (b.flatMap fun own => (digitsOf p).map fun x => own ++ [x]))), x5', x6'], ?_, by rw [hb]; rfl, _, _, _, _, rfl⟩
      rw [bodyF_some hbd]
      simp [hnil, hev]) ⟨rfl, none, none, none, none, rfl⟩
  obtain ⟨ρ', hl1, hb, x3, x4, x5, x6, rfl⟩ := hlp
  rw [hb, List.length_range, Nat.zero_add] at hl1
  have hev := ex_loop (Γ := Γs k) (it := .fn .rng1 (.cons (.var 1) .nil)) (s := true) (tg := [3]) (body := .cons (.asg true [4] (.lst .nil)) (.cons (.loop (.seq (.var 2)) true [5] (.cons (.asg true [4] (.two .add (.var 4) (.comp (.fn .rng1 (.cons (.var 0) .nil)) true [6] [6] (.two .add (.var 5) (.tup (.cons (.var 6) .nil)))))) .nil)) (.cons (.asg true [2] (.var 4)) .nil)))
    (ρ := [some (.dat (nat p)), some (.dat (nat n)), some (.dat (dL dRow [[]])), none, none, none, none]) (t := t) (t1 := t) (items := (List.range n).map nat) (by
      have h1 : iRng1' [nat n] = some ((List.range n).map nat) := rng1 (by omega)
      simp [h1])
  rw [hl1] at hev
  have h0 : (.lst [.tup []] : D) = dL dRow [[]] := rfl
  simp [f_law_all_rows, h0, hev]
  rfl
theorem fold_filter {α : Type} {f : α → Bool} : ∀ (xs b : List α), xs.foldl (fun b x => if f x = true then b ++ [x] else b) b = b ++ xs.filter f
  | [], b => (List.append_nil b).symm
  | x :: xs, b => by
    rw [List.foldl_cons, fold_filter xs, List.filter_cons]
    cases f x with
    | true =>
      rw [if_pos rfl, if_pos rfl, List.append_assoc]
      rfl
    | false => rw [if_neg Bool.false_ne_true, if_neg Bool.false_ne_true]
theorem filter_empty {α : Type} {f : α → Bool} : ∀ xs : List α, (xs.filter fun x => !f x).isEmpty = xs.all f
  | [] => rfl
  | x :: xs => by
    rw [List.filter_cons, List.all_cons, ← filter_empty xs]
    cases f x <;> rfl
theorem e_law_fitting (h : PrsOk p m c pp) (hK : KeyOk p m c K) (hpm : p ^ (m * c) ≤ 1000) : call (k + 4) "_law_fitting" [dKey p m K, dPrs pp] t = .ok (dL (dKey p m) (fitting p m c (psOf p pp))) t := by
  rw [call_of of_law_fitting rfl]
  refine callF_ret ?_
  show exs _ f_law_fitting [some (.dat (dKey p m K)), some (.dat (dPrs pp)), none, none, none, none, none, none, none, none, none, none] t = _
  have hcf := h.cfew
  have hmf := h.mfew
  have hpf := h.few
  have hp := h.pr
  have hn : pp.length ≤ cap := Nat.le_trans h.few (by decide)
  have x0 : ixD (dKey p m K) (.int 0) t = some (nat p) := rfl
  have x1 : ixD (dKey p m K) (.int 1) t = some (nat m) := rfl
  have x2 : ixD (dKey p m K) (.int 2) t = some (dGrid K) := rfl
  have lK : dLen [dGrid K] = some (nat c) := lenT' hK.len
  have hpm1 : p ^ m ≤ 1000 := Nat.le_trans (Nat.pow_le_pow_right hp.pos (Nat.le_mul_of_pos_right _ h.cpos)) hpm
  have e1 : call (k + 3) "_law_all_rows" [nat p, nat m] t = .ok (dL dRow (allRows p m)) t := e_all_rows (k := k + 2) hp.le hp.pos (by omega) hpm1
  have hrl : (allRows p m).length = p ^ m := len_rows
  have hkl : ∀ j, j ≤ c → (tuplesOf (allRows p m) j).length ≤ 1000 := fun j hj => by
    rw [len_tuples, hrl, ← Nat.pow_mul]
    exact Nat.le_trans (Nat.pow_le_pow_right hp.pos (Nat.mul_le_mul_left _ hj)) hpm
  have hrow : ∀ x ∈ allRows p m, x.length = m := fun x hx => (mem_rows.mp hx).len
  generalize hAA : allRows p m = AA at *
  -- the keys
  have hlp := loopF_foldI (F := bodyF (Γs (k + 3)) true [5] (.cons (.asg true [6] (.lst .nil)) (.cons (.loop (.seq (.var 4)) true [7] (.cons (.asg true [6] (.two .add (.var 6) (.comp (.seq (.var 3)) true [9] [9] (.two .add (.var 7) (.tup (.cons (.var 9) .nil)))))) .nil)) (.cons (.asg true [4] (.var 6)) .nil)))) (enc := nat) (t := t)
    (fun j (b : List Key) ρ => b = tuplesOf AA j ∧ ∃ x5 x6 x7 x9, ρ = [some (.dat (dKey p m K)), some (.dat (dPrs pp)), some (.own []), some (.dat (dL dRow AA)), some (.dat (dL dGrid b)), x5, x6, x7, none, x9, none, none]) (fun b _ => b.flatMap fun own => AA.map fun x => own ++ [x]) (List.range c) 0 [[]]
    [some (.dat (dKey p m K)), some (.dat (dPrs pp)), some (.own []), some (.dat (dL dRow AA)), some (.dat (dL dGrid [[]])), none, none, none, none, none, none, none]
    (fun j b i ρ _ hj hi hR => by
      obtain ⟨hb, x5, x6, x7, x9, rfl⟩ := hR
      rw [List.length_range] at hj
      have hbd : bindT true [5] (nat i) [some (.dat (dKey p m K)), some (.dat (dPrs pp)), some (.own []), some (.dat (dL dRow AA)), some (.dat (dL dGrid b)), x5, x6, x7, none, x9, none, none] = some [some (.dat (dKey p m K)), some (.dat (dPrs pp)), some (.own []), some (.dat (dL dRow AA)), some (.dat (dL dGrid b)), some (.dat (nat i)), x6, x7, none, x9, none, none] := rfl
      have hbl : b.length ≤ 1000 := by
        rw [hb]
        exact hkl j (by omega)
      obtain ⟨ρ', h1, x5', x7', x9', rfl⟩ := grow_inner (t := t) (Γ := Γs (k + 3)) (A := AA) (f := dRow) (F := bodyF (Γs (k + 3)) true [7] (.cons (.asg true [6] (.two .add (.var 6) (.comp (.seq (.var 3)) true [9] [9] (.two .add (.var 7) (.tup (.cons (.var 9) .nil)))))) .nil))
        (E := fun b' ρ => ∃ x5 x7 x9, ρ = [some (.dat (dKey p m K)), some (.dat (dPrs pp)), some (.own []), some (.dat (dL dRow AA)), some (.dat (dL dGrid b)), x5, some (.dat (dL dGrid b')), x7, none, x9, none, none]) (n := j) (fun b' own ρ ho hb' hR => by
          obtain ⟨x5, x7, x9, rfl⟩ := hR
          have hbd : bindT true [7] (dGrid own) [some (.dat (dKey p m K)), some (.dat (dPrs pp)), some (.own []), some (.dat (dL dRow AA)), some (.dat (dL dGrid b)), x5, some (.dat (dL dGrid b')), x7, none, x9, none, none] = some [some (.dat (dKey p m K)), some (.dat (dPrs pp)), some (.own []), some (.dat (dL dRow AA)), some (.dat (dL dGrid b)), x5, some (.dat (dL dGrid b')), some (.dat (dGrid own)), none, x9, none, none] := rfl
          have hcm := ev_comp (Γ := Γs (k + 3)) (it := .seq (.var 3)) (s := true) (tg := [9]) (vs := [9]) (e := .two .add (.var 7) (.tup (.cons (.var 9) .nil))) (t1 := t)
            (ρ := [some (.dat (dKey p m K)), some (.dat (dPrs pp)), some (.own []), some (.dat (dL dRow AA)), some (.dat (dL dGrid b)), x5, some (.dat (dL dGrid b')), some (.dat (dGrid own)), none, x9, none, none]) (t := t) AA dRow (fun x => dGrid (own ++ [x])) (by simp) (by rw [hrl]; unfold cap; omega) (fun x hx => ⟨[some (.dat (dKey p m K)), some (.dat (dPrs pp)), some (.own []), some (.dat (dL dRow AA)), some (.dat (dL dGrid b)), x5, some (.dat (dL dGrid b')), some (.dat (dGrid own)), none, some (.dat (dRow x)), none, none], rfl, by
                have : dAdd (dGrid own) (.tup [dRow x]) = some (dGrid (own ++ [x])) := add_T1 (by rw [ho]; unfold cap; omega)
                simp [this]⟩)
          have ea : dL (fun (x : List Int) => dGrid (own ++ [x])) AA = dL dGrid (AA.map fun x => own ++ [x]) := dL_map.symm
          rw [ea] at hcm
          have hadd : dAdd (dL dGrid b') (dL dGrid (AA.map fun x => own ++ [x])) = some (dL dGrid (b' ++ AA.map fun x => own ++ [x])) := add_LL (by rw [List.length_map]; exact hb')
          refine ⟨[some (.dat (dKey p m K)), some (.dat (dPrs pp)), some (.own []), some (.dat (dL dRow AA)), some (.dat (dL dGrid b)), x5, some (.dat (dL dGrid (b' ++ AA.map fun x => own ++ [x]))), some (.dat (dGrid own)), none, x9, none, none], ?_, x5, some (.dat (dGrid own)), x9, rfl⟩
          rw [bodyF_some hbd]
          simp [hcm, hadd]) b (fun x hx => by rw [hb] at hx; exact (mem_tuples.mp hx).1) (by
            rw [hrl]
            have : (b.length + 1) * p ^ m ≤ 1001 * 1000 := Nat.mul_le_mul (by omega) hpm1
            have h2 : b.length * p ^ m ≤ 1000 := by
              rw [hb, len_tuples, hrl, ← Nat.pow_succ, ← Nat.pow_mul]
              exact Nat.le_trans (Nat.pow_le_pow_right hp.pos (Nat.mul_le_mul_left _ (by omega))) hpm
            rw [Nat.succ_mul]
            unfold cap
            omega) (ρ := [some (.dat (dKey p m K)), some (.dat (dPrs pp)), some (.own []), some (.dat (dL dRow AA)), some (.dat (dL dGrid b)), some (.dat (nat i)), some (.dat (dL dGrid [])), x7, none, x9, none, none]) ⟨_, _, _, rfl⟩
      have hev := ex_loop (Γ := Γs (k + 3)) (it := .seq (.var 4)) (s := true) (tg := [7]) (body := .cons (.asg true [6] (.two .add (.var 6) (.comp (.seq (.var 3)) true [9] [9] (.two .add (.var 7) (.tup (.cons (.var 9) .nil)))))) .nil)
        (ρ := [some (.dat (dKey p m K)), some (.dat (dPrs pp)), some (.own []), some (.dat (dL dRow AA)), some (.dat (dL dGrid b)), some (.dat (nat i)), some (.dat (dL dGrid [])), x7, none, x9, none, none]) (t := t) (t1 := t) (items := b.map dGrid) (by simp)
      rw [show (b.map dGrid) = b.map (dT dRow) from rfl, h1] at hev
      have hnil : (.lst [] : D) = dL dGrid [] := rfl
      refine ⟨[some (.dat (dKey p m K)), some (.dat (dPrs pp)), some (.own []), some (.dat (dL dRow AA)), some (.dat (dL dGrid (b.flatMap fun own => AA.map fun x => own ++ [x]))), x5', some (.dat (dL dGrid (b.flatMap fun own => AA.map fun x => own ++ [x]))), x7', none, x9', none, none], ?_, by rw [hb]; rfl, _, _, _, _, rfl⟩
      rw [bodyF_some hbd]
      simp [hnil, hev]) ⟨rfl, none, none, none, none, rfl⟩
  obtain ⟨ρ', hl1, hb, x5, x6, x7, x9, rfl⟩ := hlp
  rw [hb, List.length_range, Nat.zero_add] at hl1
  have hev1 := ex_loop (Γ := Γs (k + 3)) (it := .fn .rng1 (.cons (.fn .len (.cons (.ix (.var 0) (.int 2)) .nil)) .nil)) (s := true) (tg := [5]) (body := .cons (.asg true [6] (.lst .nil)) (.cons (.loop (.seq (.var 4)) true [7] (.cons (.asg true [6] (.two .add (.var 6) (.comp (.seq (.var 3)) true [9] [9] (.two .add (.var 7) (.tup (.cons (.var 9) .nil)))))) .nil)) (.cons (.asg true [4] (.var 6)) .nil)))
    (ρ := [some (.dat (dKey p m K)), some (.dat (dPrs pp)), some (.own []), some (.dat (dL dRow AA)), some (.dat (dL dGrid [[]])), none, none, none, none, none, none, none]) (t := t) (t1 := t) (items := (List.range c).map nat) (by
      have h1 : iRng1' [nat c] = some ((List.range c).map nat) := rng1 (by omega)
      simp [h1, x2, lK, - len_T])
  rw [hl1] at hev1
  clear hl1 hb
  -- those that fit
  have hall : tuplesOf AA c = allKeys p m c := by
    unfold allKeys
    rw [hAA]
  have hlp2 := loopF_foldI (F := bodyF (Γs (k + 3)) true [7] (.cons (.asg true [8] (.tup (.cons (.ix (.var 0) (.int 0)) (.cons (.ix (.var 0) (.int 1)) (.cons (.var 7) .nil))))) (.cons (.ife (.two .eq (.compIf (.seq (.var 1)) false [10, 11] [10, 11] (.two .ne (.call "_law_reading" (.cons (.var 10) (.cons (.var 8) .nil))) (.var 11)) (.int 1)) (.lst .nil)) (.cons (.app 2 (.var 8)) .nil) .nil) .nil))) (enc := dGrid) (t := t)
    (fun j (b : List Key) ρ => b.length ≤ j ∧ ∃ x7 x8, ρ = [some (.dat (dKey p m K)), some (.dat (dPrs pp)), some (.own (b.map (dKey p m))), some (.dat (dL dRow AA)), some (.dat (dL dGrid (tuplesOf AA c))), x5, x6, x7, x8, x9, none, none]) (fun b K' => if fitsK p m (psOf p pp) K' = true then b ++ [K'] else b) (tuplesOf AA c) 0 []
    [some (.dat (dKey p m K)), some (.dat (dPrs pp)), some (.own []), some (.dat (dL dRow AA)), some (.dat (dL dGrid (tuplesOf AA c))), x5, x6, x7, none, x9, none, none]
    (fun j b K' ρ _ hj hi hR => by
      obtain ⟨hbl, x7, x8, rfl⟩ := hR
      have hcl := hkl c (Nat.le_refl _)
      have hbd : bindT true [7] (dGrid K') [some (.dat (dKey p m K)), some (.dat (dPrs pp)), some (.own (b.map (dKey p m))), some (.dat (dL dRow AA)), some (.dat (dL dGrid (tuplesOf AA c))), x5, x6, x7, x8, x9, none, none] = some [some (.dat (dKey p m K)), some (.dat (dPrs pp)), some (.own (b.map (dKey p m))), some (.dat (dL dRow AA)), some (.dat (dL dGrid (tuplesOf AA c))), x5, x6, some (.dat (dGrid K')), x8, x9, none, none] := rfl
      have hK' : KeyOk p m c K' := by
        rw [hall] at hi
        exact .mem hi
      generalize dL dGrid (tuplesOf AA c) = TT at *
      generalize dL dRow AA = RR at *
      have hcm := ev_compIf (Γ := Γs (k + 3)) (it := .seq (.var 1)) (s := false) (tg := [10, 11]) (vs := [10, 11]) (c := .two .ne (.call "_law_reading" (.cons (.var 10) (.cons (.var 8) .nil))) (.var 11)) (e := .int 1) (t1 := t)
        (ρ := [some (.dat (dKey p m K)), some (.dat (dPrs pp)), some (.own (b.map (dKey p m))), some (.dat RR), some (.dat TT), x5, x6, some (.dat (dGrid K')), some (.dat (dKey p m K')), x9, none, none]) (t := t) pp dPair (fun _ => .int 1) (fun q => combo p m K' (restsOf p q.1) != q.2) (by simp [dPrs]) hn
        (fun q hq => ⟨[some (.dat (dKey p m K)), some (.dat (dPrs pp)), some (.own (b.map (dKey p m))), some (.dat RR), some (.dat TT), x5, x6, some (.dat (dGrid K')), some (.dat (dKey p m K')), x9, some (.dat (dPic q.1)), some (.dat (dRow q.2))], rfl, by
          have e1 : call (k + 3) "_law_reading" [dPic q.1, dKey p m K'] t = .ok (dRow (combo p m K' (restsOf p q.1))) t := e_law_reading hp hK' (h.ok q hq).1 hmf
          simp [e1, two_ne], fun _ => by simp⟩)
      have he : dEq (dL (fun _ => D.int 1) (pp.filter fun q => combo p m K' (restsOf p q.1) != q.2)) (.lst []) = some (.bl (fitsK p m (psOf p pp) K')) := by
        rw [eq_nilL (okN_L fun _ _ => okN_int)]
        congr 2
        unfold fitsK psOf
        rw [List.all_map]
        exact filter_empty pp
      have hkk : D.tup [nat p, nat m, dGrid K'] = dKey p m K' := rfl
      cases hf : fitsK p m (psOf p pp) K' with
      | true =>
        rw [hf] at he
        refine ⟨[some (.dat (dKey p m K)), some (.dat (dPrs pp)), some (.own ((b ++ [K']).map (dKey p m))), some (.dat RR), some (.dat TT), x5, x6, some (.dat (dGrid K')), some (.dat (dKey p m K')), x9, none, none], ?_, by rw [if_pos rfl, List.length_append]; exact Nat.succ_le_succ hbl, _, _, by rw [if_pos rfl]⟩
        rw [bodyF_some hbd]
        have hcap : b.length < cap := by
          unfold cap
          omega
        simp [x0, x1, hkk, hcm, he, hcap]
      | false =>
        rw [hf] at he
        refine ⟨[some (.dat (dKey p m K)), some (.dat (dPrs pp)), some (.own (b.map (dKey p m))), some (.dat RR), some (.dat TT), x5, x6, some (.dat (dGrid K')), some (.dat (dKey p m K')), x9, none, none], ?_, by rw [if_neg Bool.false_ne_true]; omega, _, _, by rw [if_neg Bool.false_ne_true]⟩
        rw [bodyF_some hbd]
        simp [x0, x1, hkk, hcm, he]) ⟨Nat.le_refl _, _, _, rfl⟩
  obtain ⟨ρ', hl2, _, y7, y8, rfl⟩ := hlp2
  rw [fold_filter, List.nil_append] at hl2
  have hff : (tuplesOf AA c).filter (fitsK p m (psOf p pp)) = fitting p m c (psOf p pp) := by
    rw [hall]
    rfl
  rw [hff] at hl2
  have hev2 := ex_loop (Γ := Γs (k + 3)) (it := .seq (.var 4)) (s := true) (tg := [7]) (body := .cons (.asg true [8] (.tup (.cons (.ix (.var 0) (.int 0)) (.cons (.ix (.var 0) (.int 1)) (.cons (.var 7) .nil))))) (.cons (.ife (.two .eq (.compIf (.seq (.var 1)) false [10, 11] [10, 11] (.two .ne (.call "_law_reading" (.cons (.var 10) (.cons (.var 8) .nil))) (.var 11)) (.int 1)) (.lst .nil)) (.cons (.app 2 (.var 8)) .nil) .nil) .nil))
    (ρ := [some (.dat (dKey p m K)), some (.dat (dPrs pp)), some (.own []), some (.dat (dL dRow AA)), some (.dat (dL dGrid (tuplesOf AA c))), x5, x6, x7, none, x9, none, none]) (t := t) (t1 := t) (items := (tuplesOf AA c).map dGrid) (by simp)
  rw [hl2] at hev2
  have h0 : (.lst [.tup []] : D) = dL dGrid [[]] := rfl
  simp only [f_law_fitting]
  simp [x0, x1, e1, h0, hev1, hev2]
  rfl
end
end Dry
set_option Elab.async false
set_option linter.all false
set_option maxRecDepth 100000
set_option maxHeartbeats 4000000
set_option autoImplicit false
/-! DryYh: what the law's own defs compute: two keys judged. -/
namespace Dry
open PySem PySem.Spec PyProof.Rows L2
theorem EqOk.key {p m : Nat} : EqOk (dKey p m) := fun a b => by
  show (PyData.eqv (nat p).py (nat p).py && (PyData.eqv (nat m).py (nat m).py && (PyData.eqv (dGrid a).py (dGrid b).py && true))) = (a == b)
  have h1 : ∀ n : Nat, PyData.eqv (nat n).py (nat n).py = true := fun n => by
    show ((n : Int) == (n : Int)) = true
    rw [beq_self_eq_true]
  rw [h1, h1, EqOk.grid, Bool.true_and, Bool.true_and, Bool.and_true]
section
variable {k : Nat} {t : Tin} {p m c : Nat} {pp : Prs} {d : D} {q : Pic} {K : Key}
theorem okN_keys {n : Nat} {F : List Key} : okN (n + 4) (dL (dKey p m) F) = true := okN_L fun _ _ => dKey_ok
theorem in_keys {F : List Key} (h : okN 64 d = true) : dIn d (dL (dKey p m) F) = some (.bl (F.any fun K => PyData.eqv (dKey p m K).py d.py)) := by
  have e : dIn d (dL (dKey p m) F) = (if okB d = true ∧ okB (dL (dKey p m) F) = true then some (.bl ((F.map (dKey p m)).any fun z => PyData.eqv z.py d.py)) else none) := rfl
  rw [e, if_pos ⟨okB_of h (Nat.le_refl _), okB_of (n := 64) okN_keys (Nat.le_refl _)⟩, List.any_map]
  rfl
theorem in_key {F : List Key} : dIn (dKey p m K) (dL (dKey p m) F) = some (.bl (decide (K ∈ F))) := by
  rw [in_keys dKey_ok]
  congr 2
  have e : (fun K' => PyData.eqv (dKey p m K').py (dKey p m K).py) = fun K' => K' == K := funext fun K' => EqOk.key K' K
  rw [e]
  rw [Bool.eq_iff_iff, List.any_eq_true, decide_eq_true_iff]
  exact ⟨fun ⟨x, h1, h2⟩ => by rw [← beq_iff_eq.mp h2]; exact h1, fun h => ⟨K, h, beq_self_eq_true _⟩⟩
theorem notin_key {F : List Key} : dNotIn (dKey p m K) (dL (dKey p m) F) = some (.bl (!decide (K ∈ F))) := by
  have e : dNotIn (dKey p m K) (dL (dKey p m) F) = (if okB (dKey p m K) = true ∧ okB (dL (dKey p m) F) = true then some (.bl (!((F.map (dKey p m)).any fun z => PyData.eqv z.py (dKey p m K).py))) else none) := rfl
  have e2 := in_key (p := p) (m := m) (K := K) (F := F)
  have e3 : dIn (dKey p m K) (dL (dKey p m) F) = (if okB (dKey p m K) = true ∧ okB (dL (dKey p m) F) = true then some (.bl ((F.map (dKey p m)).any fun z => PyData.eqv z.py (dKey p m K).py)) else none) := rfl
  have hh : okB (dKey p m K) = true ∧ okB (dL (dKey p m) F) = true := ⟨okB_of (n := 64) dKey_ok (Nat.le_refl _), okB_of (n := 64) okN_keys (Nat.le_refl _)⟩
  rw [e3, if_pos hh] at e2
  rw [e, if_pos hh, D.bl.inj (Option.some.inj e2)]
theorem index_key {F : List Key} (h : K ∈ F) : ∃ i : Nat, dIndex (dL (dKey p m) F) [dKey p m K] = some (nat i) ∧ F[i]? = some K := by
  have e : dIndex (dL (dKey p m) F) [dKey p m K] = (if okB (dKey p m K) = true ∧ okB (dL (dKey p m) F) = true then ((F.map (dKey p m)).findIdx? fun z => PyData.eqv z.py (dKey p m K).py).map fun j => .int (j : Nat) else none) := rfl
  rw [e, if_pos ⟨okB_of (n := 64) dKey_ok (Nat.le_refl _), okB_of (n := 64) okN_keys (Nat.le_refl _)⟩, List.findIdx?_map]
  have e3 : ((fun z => PyData.eqv z.py (dKey p m K).py) ∘ dKey p m) = fun K' => K' == K := funext fun K' => EqOk.key K' K
  rw [e3]
  cases hz : F.findIdx? fun K' => K' == K with
  | none =>
    have := List.findIdx?_eq_none_iff.mp hz K h
    rw [beq_self_eq_true] at this
    cases this
  | some i =>
    refine ⟨i, rfl, ?_⟩
    obtain ⟨h1, h2, _⟩ := List.findIdx?_eq_some_iff_getElem.mp hz
    rw [List.getElem?_eq_getElem h1, beq_iff_eq.mp h2]
theorem short_int {n : Nat} {i : Int} : shortN n (.int i) = true := by
  cases n <;> rfl
theorem short_bl {n : Nat} {i : Bool} : shortN n (.bl i) = true := by
  cases n <;> rfl
theorem short_T {α : Type} {f : α → D} {n : Nat} {xs : List α} (hl : xs.length ≤ cap) (h : ∀ x ∈ xs, shortN n (f x) = true) : shortN (n + 1) (dT f xs) = true := by
  show (decide ((xs.map f).length ≤ cap) && (xs.map f).all (shortN n)) = true
  rw [List.length_map, decide_eq_true hl, List.all_map, Bool.true_and, List.all_eq_true]
  exact h
theorem short_L {α : Type} {f : α → D} {n : Nat} {xs : List α} (hl : xs.length ≤ cap) (h : ∀ x ∈ xs, shortN n (f x) = true) : shortN (n + 1) (dL f xs) = true := by
  show (decide ((xs.map f).length ≤ cap) && (xs.map f).all (shortN n)) = true
  rw [List.length_map, decide_eq_true hl, List.all_map, Bool.true_and, List.all_eq_true]
  exact h
theorem short_row {n : Nat} {r : List Int} (hl : r.length ≤ cap) : shortN (n + 1) (dRow r) = true := short_T hl fun _ _ => short_int
theorem short_key {n : Nat} (hK : KeyOk p m c K) (hc : c ≤ 100) (hm : m ≤ 100) : shortN (n + 3) (dKey p m K) = true := by
  have hg : shortN (n + 2) (dGrid K) = true := short_T (by rw [hK.len]; unfold cap; omega) fun r hr => short_row (by rw [(hK.gr r hr).len]; unfold cap; omega)
  show (decide (3 ≤ cap) && ([nat p, nat m, dGrid K]).all (shortN (n + 2))) = true
  rw [List.all_cons, List.all_cons, List.all_cons, hg, show shortN (n + 2) (nat p) = true from short_int, show shortN (n + 2) (nat m) = true from short_int] <;> rfl
/-! ### the test of two keys -/
abbrev cIn : Ex := .comp (.seq (.var 2)) true [3] [3] (.two .in_ (.var 3) (.var 0))
abbrev cSame : Ex := .comp (.seq (.var 2)) true [3] [3] (.call "_law_same" (.cons (.var 3) (.cons (.ix (.var 0) (.mt .index (.var 0) (.cons (.var 3) .nil))) .nil)))
theorem e_two_pre {F : List Key} {a b : D} {b1 b2 : Bool} {r : Bool} (h1 : dIn a (dL (dKey p m) F) = some (.bl b1)) (h2 : dIn b (dL (dKey p m) F) = some (.bl b2))
    (hs : b1 = true → b2 = true → ev (Γs (k + 5)) cSame [some (.dat (dL (dKey p m) F)), some (.dat d), some (.dat (.tup [a, b])), none] t = .ok (dL .bl [true, true]) t)
    (hr : b1 = true → b2 = true → ev (Γs (k + 5)) (.two .ne (.call "_law_reading" (.cons (.var 1) (.cons (.ix (.var 2) (.int 0)) .nil))) (.call "_law_reading" (.cons (.var 1) (.cons (.ix (.var 2) (.int 1)) .nil)))) [some (.dat (dL (dKey p m) F)), some (.dat d), some (.dat (.tup [a, b])), none] t = .ok (.bl r) t) :
    call (k + 6) "_law_is_two" [dL (dKey p m) F, d, .tup [a, b]] t = .ok (.bl (b1 && b2 && r)) t := by
  rw [call_of of_law_is_two rfl]
  refine callF_ret ?_
  show exs _ f_law_is_two [some (.dat (dL (dKey p m) F)), some (.dat d), some (.dat (.tup [a, b])), none] t = _
  have hi : dIs [.tuple] (.tup [a, b]) = some (.bl true) := rfl
  have hl : dLen [.tup [a, b]] = some (.int 2) := rfl
  have hcm : ev (Γs (k + 5)) cIn [some (.dat (dL (dKey p m) F)), some (.dat d), some (.dat (.tup [a, b])), none] t = .ok (dL .bl [b1, b2]) t :=
    ev_comp (Γ := Γs (k + 5)) (it := .seq (.var 2)) (s := true) (tg := [3]) (vs := [3]) (e := .two .in_ (.var 3) (.var 0)) (t1 := t)
      (ρ := [some (.dat (dL (dKey p m) F)), some (.dat d), some (.dat (.tup [a, b])), none]) (t := t) [(a, b1), (b, b2)] Prod.fst (fun x => .bl x.2) (by simp [dItems]) (show 2 ≤ cap by decide)
      (fun x hx => ⟨[some (.dat (dL (dKey p m) F)), some (.dat d), some (.dat (.tup [a, b])), some (.dat x.1)], rfl, by
        rcases List.mem_cons.mp hx with rfl | hx
        · simp [h1]
        rcases List.mem_cons.mp hx with rfl | hx
        · simp [h2]
        · cases hx⟩)
  simp only [f_law_is_two]
  cases b1 with
  | false => simp [hi, hl, hcm]
  | true =>
    cases b2 with
    | false => simp [hi, hl, hcm]
    | true =>
      have hs' := hs rfl rfl
      have hr' := hr rfl rfl
      simp at hr'
      simp [hi, hl, hcm, hs', hr']
theorem e_two_no {F : List Key} {x : D} (hx : noTup x = true) : call (k + 6) "_law_is_two" [dL (dKey p m) F, d, x] t = .ok (.bl false) t := by
  rw [call_of of_law_is_two rfl]
  refine callF_ret ?_
  show exs _ f_law_is_two [some (.dat (dL (dKey p m) F)), some (.dat d), some (.dat x), none] t = _
  simp [f_law_is_two, noTup_is hx]
theorem e_two_len {F : List Key} {ys : List D} (hx : ys.length ≠ 2) : call (k + 6) "_law_is_two" [dL (dKey p m) F, d, .tup ys] t = .ok (.bl false) t := by
  rw [call_of of_law_is_two rfl]
  refine callF_ret ?_
  show exs _ f_law_is_two [some (.dat (dL (dKey p m) F)), some (.dat d), some (.dat (.tup ys)), none] t = _
  have hi : dIs [.tuple] (.tup ys) = some (.bl true) := rfl
  have hl : dLen [.tup ys] = some (.int ys.length) := rfl
  have hne : ((ys.length : Int) != 2) = true := bne_iff_ne.mpr (by omega)
  simp [f_law_is_two, hi, hl, hne]
theorem e_two_keysF (h : PrsOk p m c pp) (hq : PicOk q c) {ks : List Key} (hk : ∀ K ∈ ks, KeyOk p m c K) : call (k + 6) "_law_is_two" [dL (dKey p m) (fitting p m c (psOf p pp)), dPic q, dT (dKey p m) ks] t = .ok (.bl (isTwo p m (psOf p pp) (restsOf p q) ks)) t := by
  match ks, hk with
  | [], _ => exact e_two_len (ys := []) (fun z => by cases z)
  | [a], _ => exact e_two_len (ys := [dKey p m a]) (fun z => by cases z)
  | a :: b :: f :: ks, _ => exact e_two_len (ys := dKey p m a :: dKey p m b :: dKey p m f :: ks.map (dKey p m)) (by rw [List.length_cons, List.length_cons, List.length_cons]; omega)
  | [a, b], hk =>
    have ha := hk a (List.mem_cons_self ..)
    have hb := hk b (List.mem_cons_of_mem _ (List.mem_cons_self ..))
    have hF : ∀ K, KeyOk p m c K → decide (K ∈ fitting p m c (psOf p pp)) = fitsK p m (psOf p pp) K := fun K hK => by
      rw [Bool.eq_iff_iff, decide_eq_true_iff]
      unfold fitting
      rw [List.mem_filter]
      exact ⟨fun h => h.2, fun h => ⟨mem_keys.mpr ⟨hK.len, hK.gr⟩, h⟩⟩
    have e1 : call (k + 5) "_law_reading" [dPic q, dKey p m a] t = .ok (dRow (combo p m a (restsOf p q))) t := e_law_reading h.pr ha hq h.mfew
    have e2 : call (k + 5) "_law_reading" [dPic q, dKey p m b] t = .ok (dRow (combo p m b (restsOf p q))) t := e_law_reading h.pr hb hq h.mfew
    have hsame : ∀ K, KeyOk p m c K → call (k + 5) "_law_same" [dKey p m K, dKey p m K] t = .ok (.bl true) t := fun K hK => same_self 3 (k := k + 1) (short_key hK h.cfew h.mfew)
    have := e_two_pre (k := k) (t := t) (p := p) (m := m) (d := dPic q) (F := fitting p m c (psOf p pp)) (a := dKey p m a) (b := dKey p m b) (r := combo p m a (restsOf p q) != combo p m b (restsOf p q)) in_key in_key
      (fun b1 b2 => by
        obtain ⟨i, i1, i2⟩ := index_key (p := p) (m := m) (of_decide_eq_true b1)
        obtain ⟨j, j1, j2⟩ := index_key (p := p) (m := m) (of_decide_eq_true b2)
        have ix1 : ixD (dL (dKey p m) (fitting p m c (psOf p pp))) (nat i) t = some (dKey p m a) := ix_L (i := (i : Int)) rfl i2
        have ix2 : ixD (dL (dKey p m) (fitting p m c (psOf p pp))) (nat j) t = some (dKey p m b) := ix_L (i := (j : Int)) rfl j2
        exact ev_comp (Γ := Γs (k + 5)) (it := .seq (.var 2)) (s := true) (tg := [3]) (vs := [3]) (e := .call "_law_same" (.cons (.var 3) (.cons (.ix (.var 0) (.mt .index (.var 0) (.cons (.var 3) .nil))) .nil))) (t1 := t)
          (ρ := [some (.dat (dL (dKey p m) (fitting p m c (psOf p pp)))), some (.dat (dPic q)), some (.dat (.tup [dKey p m a, dKey p m b])), none]) (t := t) [(dKey p m a, true), (dKey p m b, true)] Prod.fst (fun x => .bl x.2) (by simp [dItems]) (show 2 ≤ cap by decide)
          (fun x hx => ⟨[some (.dat (dL (dKey p m) (fitting p m c (psOf p pp)))), some (.dat (dPic q)), some (.dat (.tup [dKey p m a, dKey p m b])), some (.dat x.1)], rfl, by
            rcases List.mem_cons.mp hx with rfl | hx
            · simp [i1, ix1, hsame a ha]
            rcases List.mem_cons.mp hx with rfl | hx
            · simp [j1, ix2, hsame b hb]
            · cases hx⟩))
      (fun _ _ => by
        have x0 : ixD (.tup [dKey p m a, dKey p m b]) (.int 0) t = some (dKey p m a) := rfl
        have x1 : ixD (.tup [dKey p m a, dKey p m b]) (.int 1) t = some (dKey p m b) := rfl
        simp [x0, x1, e1, e2, two_ne])
    rw [hF a ha, hF b hb] at this
    exact this
theorem e_two_bad {F : List Key} {a b : D} {b2 : Bool} (h1 : dIn a (dL (dKey p m) F) = some (.bl false)) (h2 : dIn b (dL (dKey p m) F) = some (.bl b2)) : call (k + 6) "_law_is_two" [dL (dKey p m) F, d, .tup [a, b]] t = .ok (.bl false) t :=
  e_two_pre (r := false) h1 h2 (fun z => by cases z) (fun z => by cases z)
theorem in_str {F : List Key} {x : Str} (h : PyData.strOk x = true) : dIn (.str x) (dL (dKey p m) F) = some (.bl false) := by
  rw [in_keys (show okN 64 (.str x) = true from h)]
  congr 2
  rw [List.any_eq_false]
  intro K _ z
  cases z
theorem in_oddkey {F : List Key} {x : Str} (h : PyData.strOk x = true) : dIn (.tup [.lst [], .str x, .non]) (dL (dKey p m) F) = some (.bl false) := by
  rw [in_keys]
  · congr 2
    rw [List.any_eq_false]
    intro K _ z
    cases z
  · show ([D.lst [], D.str x, D.non]).all (okN 63) = true
    rw [List.all_cons, List.all_cons, show okN 63 (D.str x) = true from h] <;> rfl
end
end Dry
set_option Elab.async false
set_option linter.all false
set_option maxRecDepth 100000
set_option maxHeartbeats 4000000
set_option autoImplicit false
/-! DryYi: draws. -/
namespace Dry
open PySem PySem.Spec PyProof.Rows L2
/-- room for so many further draws -/
def TOk (n : Nat) (t : Tin) : Prop := 0 ≤ t.2.2 ∧ t.2.2 + n ≤ 1000000
theorem TOk.mono {n m : Nat} {t : Tin} (h : TOk n t) (hm : m ≤ n) : TOk m t := ⟨h.1, by have := h.2; omega⟩
section
variable {Γ : Gam} {ρ : Env'} {t : Tin} {a b c e k' : Ex} {i j : Nat}
@[simp] theorem S.tset : ex Γ (.tset i k' e) ρ t = (asI (ev Γ e ρ t)).toS fun v t => (isTin ρ i t).toS fun _ t => (asI (ev Γ k' ρ t)).toS fun k t => (ofO (setTin t k v) t).toS fun t' _ => .nx ρ t' := (rfl)
@[simp] theorem S.isTin : isTin ρ i t = match ρ[i]? with
  | some (some (.dat .tin)) => .ok () t
  | _ => .bad := (rfl)
@[simp] theorem setTin0 {v : Int} : setTin t 0 v = some (v, t.2.1, t.2.2) := (rfl)
@[simp] theorem setTin2 {v : Int} : setTin t 2 v = some (t.1, t.2.1, v) := (rfl)
@[simp] theorem tin0 : ixD .tin (.int 0) t = some (.int t.1) := (rfl)
@[simp] theorem tin1 : ixD .tin (.int 1) t = some (.int t.2.1) := (rfl)
@[simp] theorem tin2 : ixD .tin (.int 2) t = some (.int t.2.2) := (rfl)
@[simp] theorem dInt_int {i : Int} : dInt [.int i] = some (.int i) := (rfl)
@[simp] theorem S.appPop : ex Γ (.appPop i j e) ρ t = (ownAt ρ i t).toS fun ds t => (ownAt ρ j t).toS fun es t => if i = j ∨ cap < es.length then .bad else (asI (ev Γ e ρ t)).toS fun k t => (ofO (ixN es.length k) t).toS fun m t =>
      (ofO es[m]? t).toS fun d t => if ds.length < cap then .nx ((ρ.set j (some (.own (es.eraseIdx m)))).set i (some (.own (ds ++ [d])))) t else .bad := (rfl)
end
section
variable {k n : Nat} {t : Tin}
theorem div_int {i j : Int} (h : j ≠ 0 ∧ j.natAbs < 1073741824) : dDiv (.int i) (.int j) = some (.int (i.fdiv j)) := if_pos h
theorem map_erase {α β : Type} {f : α → β} : ∀ (xs : List α) (r : Nat), (xs.map f).eraseIdx r = (xs.eraseIdx r).map f
  | [], _ => rfl
  | x :: xs, 0 => rfl
  | x :: xs, r + 1 => by
    show f x :: (xs.map f).eraseIdx r = f x :: (xs.eraseIdx r).map f
    rw [map_erase xs r]
theorem e_take {b : Nat} (hb : 0 < b) (hb2 : b < 1073741824) (h : TOk (n + 1) t) : ∃ r t', call (k + 1) "_law_take" [.tin, nat b] t = .ok (nat r) t' ∧ r < b ∧ TOk n t' := by
  have hb' : (b : Int) ≠ 0 := by omega
  obtain ⟨a, c, e⟩ := t
  obtain ⟨h1, h2⟩ := h
  dsimp only at h1 h2
  have hmod : ∀ x : Int, dMod (.int x) (nat b) = some (.int (x.fmod b)) := fun x => mod_int hb'
  have hrng : ∀ x : Int, ∃ r : Nat, x.fmod b = r ∧ r < b := fun x => by
    have := fmod_dig (p := b) hb x
    exact ⟨(x.fmod b).toNat, by omega, by omega⟩
  rw [call_of of_law_take rfl]
  by_cases ha : 0 < a
  · obtain ⟨r, hr, hrb⟩ := hrng a
    refine ⟨r, (a.fdiv b, c, e), callF_ret ?_, hrb, h1, by dsimp only; omega⟩
    show exs _ f_law_take [some (.dat .tin), some (.dat (nat b)), none, none, none, none] (a, c, e) = _
    have hdv : dDiv (.int a) (nat b) = some (.int (a.fdiv b)) := if_pos ⟨hb', by omega⟩
    have hm := hmod a
    rw [hr] at hm
    have hn : D.int (r : Int) = nat r := rfl
    simp [f_law_take, ha, hm, hdv, hn]
  · have sm2 : smallI (39373 + (e + 1)) := by
      unfold smallI
      omega
    have m1 : dMul (.int 48271) (.int (e + 1)) = some (.int (48271 * (e + 1))) := mul_small (by unfold smallI; omega)
    have m2 : dMul (.int (c + 48271 * (e + 1))) (.int (39373 + (e + 1))) = some (.int ((c + 48271 * (e + 1)) * (39373 + (e + 1)))) := mul_small' sm2
    generalize ho : ((c + 48271 * (e + 1)) * (39373 + (e + 1))).fmod 2147483647 = once at *
    have hw : 0 ≤ once.fmod 40009 ∧ once.fmod 40009 < 40009 := ⟨Int.fmod_nonneg_of_pos _ (by decide), Int.fmod_lt_of_pos _ (by decide)⟩
    generalize hwd : once.fmod 40009 + 7 = wide at *
    have d1 : dDiv (.int c) (.int 1000003) = some (.int (c.fdiv 1000003)) := div_int ⟨by decide, by decide⟩
    have m3 : dMul (.int (once + (e + 1) + c.fdiv 1000003)) (.int wide) = some (.int ((once + (e + 1) + c.fdiv 1000003) * wide)) := mul_small' (by unfold smallI; omega)
    generalize htw : ((once + (e + 1) + c.fdiv 1000003) * wide).fmod 2147483629 = twice at *
    have m4 : dMul (.int twice) (.int 48271) = some (.int (twice * 48271)) := mul_small' (by unfold smallI; omega)
    have d2 : dDiv (.int ((twice * 48271 + once).fmod 2147483587)) (.int 64) = some (.int (((twice * 48271 + once).fmod 2147483587).fdiv 64)) := div_int ⟨by decide, by decide⟩
    obtain ⟨r, hr, hrb⟩ := hrng (((twice * 48271 + once).fmod 2147483587).fdiv 64)
    refine ⟨r, (a, c, e + 1), callF_ret ?_, hrb, by dsimp only; omega, by dsimp only; omega⟩
    show exs _ f_law_take [some (.dat .tin), some (.dat (nat b)), none, none, none, none] (a, c, e) = _
    have hm := hmod (((twice * 48271 + once).fmod 2147483587).fdiv 64)
    rw [hr] at hm
    have hn : D.int (r : Int) = nat r := rfl
    simp [f_law_take, ha, m1, m2, ho, hwd, d1, m3, htw, m4, d2, hm, hn]
theorem atI_lt {α : Type} {xs : List α} {r : Nat} (h : r < xs.length) : ∃ x ∈ xs, atI xs (r : Int) = some x := ⟨_, List.getElem_mem h, atI_nat (List.getElem?_eq_getElem h)⟩
theorem e_of {xs : List D} (hx : xs ≠ []) (hl : xs.length < 1073741824) (h : TOk (n + 1) t) : ∃ x ∈ xs, ∃ t', call (k + 2) "_law_of" [.tin, .lst xs] t = .ok x t' ∧ TOk n t' := by
  obtain ⟨r, t', h1, h2, h3⟩ := e_take (k := k) (b := xs.length) (List.length_pos_iff.mpr hx) hl h
  obtain ⟨x, hx1, hx2⟩ := atI_lt h2
  refine ⟨x, hx1, t', ?_, h3⟩
  rw [call_of of_law_of rfl]
  refine callF_ret ?_
  show exs _ f_law_of [some (.dat .tin), some (.dat (.lst xs))] t = _
  have hln : dLen [.lst xs] = some (nat xs.length) := rfl
  have hix : ixD (.lst xs) (nat r) t' = some x := hx2
  simp [f_law_of, hln, h1, hix]
/-! ### walks whose draws go on -/
theorem loopF_run {F : D → Env' → Tin → SR} (P : Nat → Env' → Tin → Prop) : ∀ (items : List D) (i : Nat) (ρ : Env') (t : Tin), (∀ j d ρ t, items[j]? = some d → P (i + j) ρ t → ∃ ρ' t', F d ρ t = .nx ρ' t' ∧ P (i + j + 1) ρ' t') → P i ρ t → ∃ ρ' t', loopF F items ρ t = .nx ρ' t' ∧ P (i + items.length) ρ' t'
  | [], i, ρ, t, _, h => ⟨ρ, t, rfl, h⟩
  | d :: ds, i, ρ, t, hs, h => by
    obtain ⟨ρ1, t1, h1, h2⟩ := hs 0 d ρ t rfl h
    obtain ⟨ρ2, t2, h3, h4⟩ := loopF_run P ds (i + 1) ρ1 t1 (fun j d' ρ t hj hP => by
      have := hs (j + 1) d' ρ t hj (by rw [show i + (j + 1) = i + 1 + j by omega]; exact hP)
      rw [show i + (j + 1) = i + 1 + j by omega] at this
      exact this) h2
    refine ⟨ρ2, t2, ?_, by rw [List.length_cons, show i + (ds.length + 1) = i + 1 + ds.length by omega]; exact h4⟩
    show (match F d ρ t with
      | .nx ρ' t' => loopF F ds ρ' t'
      | r => r) = _
    rw [h1]
    exact h3
theorem compA_run {F : D → Tin → Res (Option D)} (P : Nat → Tin → Prop) (Q : D → Prop) : ∀ (items acc : List D) (i : Nat) (t : Tin), (∀ j d t, items[j]? = some d → P (i + j) t → ∃ r t', F d t = .ok (some r) t' ∧ Q r ∧ P (i + j + 1) t') → P i t → ∃ rs t', compA F items acc t = .ok (acc ++ rs) t' ∧ rs.length = items.length ∧ (∀ r ∈ rs, Q r) ∧ P (i + items.length) t'
  | [], acc, i, t, _, h => ⟨[], t, by rw [List.append_nil]; rfl, rfl, fun r hr => (by cases hr), h⟩
  | d :: ds, acc, i, t, hs, h => by
    obtain ⟨r1, t1, h1, h2, h3⟩ := hs 0 d t rfl h
    obtain ⟨rs, t2, h4, h5, h6, h7⟩ := compA_run P Q ds (acc ++ [r1]) (i + 1) t1 (fun j d' t hj hP => by
      have := hs (j + 1) d' t hj (by rw [show i + (j + 1) = i + 1 + j by omega]; exact hP)
      rw [show i + (j + 1) = i + 1 + j by omega] at this
      exact this) h3
    refine ⟨r1 :: rs, t2, ?_, by rw [List.length_cons, h5, List.length_cons], fun r hr => ?_, by rw [List.length_cons, show i + (ds.length + 1) = i + 1 + ds.length by omega]; exact h7⟩
    · show (match F d t with
        | .ok (some r) t' => compA F ds (acc ++ [r]) t'
        | .ok none t' => compA F ds acc t'
        | _ => .bad) = _
      rw [h1]
      show compA F ds (acc ++ [r1]) t1 = _
      rw [h4, List.append_assoc]
      rfl
    · rcases List.mem_cons.mp hr with rfl | hr
      · exact h2
      · exact h6 r hr
theorem ev_comp_run {Γ : Gam} {it : Itx} {s : Bool} {tg vs : List Nat} {e : Ex} {ρ : Env'} {t t1 : Tin} {items : List D} (P : Nat → Tin → Prop) (Q : D → Prop) (hI : evI Γ it ρ t = .ok items t1) (hc : items.length ≤ cap)
    (h : ∀ j d t, items[j]? = some d → P j t → ∃ ρ', bindT s tg d (wipeE ρ vs) = some ρ' ∧ ∃ r t', ev Γ e ρ' t = .ok r t' ∧ Q r ∧ P (j + 1) t') (h0 : P 0 t1) : ∃ rs t', ev Γ (.comp it s tg vs e) ρ t = .ok (.lst rs) t' ∧ rs.length = items.length ∧ (∀ r ∈ rs, Q r) ∧ P items.length t' := by
  obtain ⟨rs, t', h1, h2, h3, h4⟩ := compA_run (F := fun d t => (ofO (bindT s tg d (wipeE ρ vs)) t).bind fun ρ' t => (ev Γ e ρ' t).bind fun r t => .ok (some r) t) P Q items [] 0 t1 (fun j d t hj hP => by
    rw [Nat.zero_add] at hP ⊢
    obtain ⟨ρ', b1, r, t', b2, b3, b4⟩ := h j d t hj hP
    refine ⟨r, t', ?_, b3, b4⟩
    show ((ofO (bindT s tg d (wipeE ρ vs)) t).bind _) = _
    rw [b1]
    show ((ev Γ e ρ' t).bind _) = _
    rw [b2]
    rfl) h0
  rw [Nat.zero_add] at h4
  refine ⟨rs, t', ?_, h2, h3, h4⟩
  unfold ev
  rw [hI]
  show ((capL items t1).bind _) = _
  unfold capL
  rw [if_pos hc]
  show (compA _ items [] t1).bind _ = _
  rw [h1]
  rfl
/-- values of one kind -/
theorem of_kind {α : Type} {f : α → D} {R : α → Prop} : ∀ (rs : List D), (∀ r ∈ rs, ∃ x, r = f x ∧ R x) → ∃ xs : List α, rs = xs.map f ∧ xs.length = rs.length ∧ ∀ x ∈ xs, R x
  | [], _ => ⟨[], rfl, rfl, fun x h => by cases h⟩
  | r :: rs, h => by
    obtain ⟨x, rfl, hx⟩ := h r (List.mem_cons_self ..)
    obtain ⟨xs, rfl, hl, hxs⟩ := of_kind rs fun r hr => h r (List.mem_cons_of_mem _ hr)
    refine ⟨x :: xs, rfl, by rw [List.length_cons, List.length_cons, hl], fun y hy => ?_⟩
    rcases List.mem_cons.mp hy with rfl | hy
    · exact hx
    · exact hxs y hy
theorem e_pick {α : Type} {f : α → D} {gs : List α} {cnt : Nat} (hl : gs.length ≤ 1000000) (hcn : cnt ≤ 100) (h : TOk (n + cnt) t) : ∃ xs t', call (k + 2) "_law_pick" [.tin, dL f gs, nat cnt] t = .ok (dL f xs) t' ∧ xs.length ≤ cnt ∧ (∀ x ∈ xs, x ∈ gs) ∧ TOk n t' := by
  obtain ⟨ρ', t', h1, pool, found, x5, rfl, h2, h3, h4, h5, h6⟩ := loopF_run (F := bodyF (Γs (k + 1)) true [5] (.cons (.appPop 4 3 (.call "_law_take" (.cons (.var 0) (.cons (.olen 3) .nil)))) .nil))
    (fun j ρ t => ∃ (pool found : List α) (x5 : Option En), ρ = [some (.dat .tin), some (.dat (dL f gs)), some (.dat (nat cnt)), some (.own (pool.map f)), some (.own (found.map f)), x5] ∧ pool.length + j = gs.length ∧ found.length = j ∧ (∀ x ∈ pool, x ∈ gs) ∧ (∀ x ∈ found, x ∈ gs) ∧ TOk (n + cnt - j) t)
    ((List.range (min cnt gs.length)).map nat) 0 [some (.dat .tin), some (.dat (dL f gs)), some (.dat (nat cnt)), some (.own (gs.map f)), some (.own []), none] t
    (fun j d ρ t hj hP => by
      rw [Nat.zero_add] at hP ⊢
      obtain ⟨pool, found, x5, rfl, h2, h3, h4, h5, h6⟩ := hP
      have hjl := (List.getElem?_eq_some_iff.mp hj).1
      rw [List.length_map, List.length_range] at hjl
      have hpl : 0 < pool.length := by omega
      obtain ⟨r, t', b1, b2, b3⟩ := e_take (k := k) (b := pool.length) (n := n + cnt - (j + 1)) hpl (by omega) (h6.mono (by omega))
      have hb1 : call (k + 1) "_law_take" [.tin, .int (pool.map f).length] t = .ok (nat r) t' := by
        rw [List.length_map]
        exact b1
      have hbd : bindT true [5] d [some (.dat .tin), some (.dat (dL f gs)), some (.dat (nat cnt)), some (.own (pool.map f)), some (.own (found.map f)), x5] = some [some (.dat .tin), some (.dat (dL f gs)), some (.dat (nat cnt)), some (.own (pool.map f)), some (.own (found.map f)), some (.dat d)] := rfl
      have hcap : ¬ cap < (pool.map f).length := by
        rw [List.length_map]
        unfold cap
        omega
      have hcap2 : (found.map f).length < cap := by
        rw [List.length_map]
        unfold cap
        omega
      have hix : ixN (pool.map f).length (r : Int) = some r := by
        rw [List.length_map]
        unfold ixN
        rw [if_pos (by omega), if_pos (by omega), Int.toNat_natCast]
      have hgt : (pool.map f)[r]? = some (f pool[r]) := by
        rw [List.getElem?_map, List.getElem?_eq_getElem b2] <;> rfl
      refine ⟨[some (.dat .tin), some (.dat (dL f gs)), some (.dat (nat cnt)), some (.own ((pool.eraseIdx r).map f)), some (.own ((found ++ [pool[r]]).map f)), some (.dat d)], t', ?_, pool.eraseIdx r, found ++ [pool[r]], _, rfl, ?_, by rw [List.length_append, h3]; rfl, fun x hx => h4 x (List.mem_of_mem_eraseIdx hx), fun x hx => ?_, b3⟩
      · rw [bodyF_some hbd]
        have hI : asI (.ok (nat r) t') = .ok (r : Int) t' := rfl
        have her : (pool.map f).eraseIdx r = (pool.eraseIdx r).map f := map_erase pool r
        generalize hpm : pool.map f = PM at *
        generalize hfm : found.map f = FM at *
        simp [hcap, hb1, hI, hix, hgt, hcap2, her, hfm]
      · rw [List.length_eraseIdx, if_pos b2]
        omega
      · rcases List.mem_append.mp hx with hx | hx
        · exact h5 x hx
        · rw [List.mem_singleton.mp hx]
          exact h4 _ (List.getElem_mem b2))
    ⟨gs, [], none, rfl, rfl, rfl, fun _ h => h, fun x h => (by cases h), by rw [Nat.sub_zero]; exact h⟩
  rw [List.length_map, List.length_range, Nat.zero_add] at h3 h6
  refine ⟨found, t', ?_, by rw [h3]; exact Nat.min_le_left _ _, h5, h6.mono (by omega)⟩
  rw [call_of of_law_pick rfl]
  refine callF_ret ?_
  show exs _ f_law_pick [some (.dat .tin), some (.dat (dL f gs)), some (.dat (nat cnt)), none, none, none] t = _
  have hI : dInt [nat cnt] = some (nat cnt) := rfl
  have hmin : dMin2 [nat cnt, .int (gs.map f).length] = some (nat (min cnt gs.length)) := by
    show some (D.int (if ((gs.map f).length : Int) < (cnt : Int) then ((gs.map f).length : Int) else (cnt : Int))) = some (D.int ((min cnt gs.length : Nat) : Int))
    rw [List.length_map]
    congr 2
    split <;> omega
  have hr : iRng1' [nat (min cnt gs.length)] = some ((List.range (min cnt gs.length)).map nat) := rng1 (by omega)
  have hev := ex_loop (Γ := Γs (k + 1)) (it := .fn .rng1 (.cons (.fn .min2 (.cons (.fn .int (.cons (.var 2) .nil)) (.cons (.olen 3) .nil))) .nil)) (s := true) (tg := [5]) (body := .cons (.appPop 4 3 (.call "_law_take" (.cons (.var 0) (.cons (.olen 3) .nil)))) .nil)
    (ρ := [some (.dat .tin), some (.dat (dL f gs)), some (.dat (nat cnt)), some (.own (gs.map f)), some (.own []), none]) (t := t) (t1 := t) (items := (List.range (min cnt gs.length)).map nat) (by simp only [S.ifn, S.scons, S.fn, S.olen]; simp [hI, - List.length_map]; rw [hmin]; simp [hr])
  rw [h1] at hev
  simp [f_law_pick, hev]
  rfl
end
end Dry
set_option Elab.async false
set_option linter.all false
set_option maxRecDepth 100000
set_option maxHeartbeats 4000000
set_option autoImplicit false
/-! DryYj: drawn messages, pictures, keys, pairs. -/
namespace Dry
open PySem PySem.Spec PyProof.Rows L2
@[simp] theorem S.cutAB {Γ : Gam} {ρ : Env'} {t : Tin} {a b c : Ex} : ev Γ (.cutAB a b c) ρ t = (ev Γ a ρ t).bind fun d t => (asI (ev Γ b ρ t)).bind fun i t => (asI (ev Γ c ρ t)).bind fun j t => ofO (dCut (some i) (some j) d) t := (rfl)
theorem cut_ab {α : Type} {f : α → D} {xs : List α} {a b : Nat} (h : a ≤ b) (hb : b ≤ xs.length) : dCut (some (a : Int)) (some (b : Int)) (dL f xs) = some (dL f ((xs.drop a).take (b - a))) := by
  show some (D.lst (cutD (xs.map f) (some (a : Int)) (some (b : Int)))) = _
  unfold cutD
  rw [HT.sIx_nat, HT.sIx_nat, List.length_map, Nat.min_eq_left hb, Nat.min_eq_left (Nat.le_trans h hb)]
  unfold dL
  rw [List.map_take, List.map_drop]
section
variable {k n p m c : Nat} {t : Tin} {K : Key} {pp : Prs}
/-- c draws -/
theorem e_draws {Γ' : Nat} {ρ : Env'} {b cnt : Nat} {it : Itx} {j : Nat} {items : List D} {eb : Ex} (hI : evI (Γs (k + 1)) it ρ t = .ok items t) (hl : items.length = cnt) (hc : cnt ≤ 100) (hb : 0 < b) (hb2 : b < 1073741824)
    (he : ∀ d t, ∃ ρ', bindT true [j] d (wipeE ρ [j]) = some ρ' ∧ evs (Γs (k + 1)) (.cons (.var 0) (.cons eb .nil)) ρ' t = .ok [.tin, nat b] t) (h : TOk (n + cnt) t) :
    ∃ (xs : List Int) (t' : Tin), ev (Γs (k + 1)) (.comp it true [j] [j] (.call "_law_take" (.cons (.var 0) (.cons eb .nil)))) ρ t = .ok (dL .int xs) t' ∧ Rw b cnt xs ∧ TOk n t' := by
  obtain ⟨rs, t', h1, h2, h3, h4⟩ := ev_comp_run (Γ := Γs (k + 1)) (it := it) (s := true) (tg := [j]) (vs := [j]) (e := .call "_law_take" (.cons (.var 0) (.cons eb .nil))) (ρ := ρ) (t := t) (t1 := t) (items := items)
    (fun i t => TOk (n + cnt - i) t ∧ i ≤ cnt) (fun r => ∃ x : Int, r = .int x ∧ 0 ≤ x ∧ x < b) hI (by rw [hl]; unfold cap; omega)
    (fun i d t hi hP => by
      obtain ⟨ρ', b1, b2⟩ := he d t
      have hil := (List.getElem?_eq_some_iff.mp hi).1
      rw [hl] at hil
      obtain ⟨r, t', c1, c2, c3⟩ := e_take (k := k) (b := b) (n := n + cnt - (i + 1)) hb hb2 (hP.1.mono (by omega))
      refine ⟨ρ', b1, nat r, t', ?_, ⟨r, rfl, by omega, by omega⟩, c3, by omega⟩
      show app (Γs (k + 1)) "_law_take" (evs (Γs (k + 1)) (.cons (.var 0) (.cons eb .nil)) ρ' t) = _
      rw [b2]
      exact c1) ⟨by rw [Nat.sub_zero]; exact h, Nat.zero_le _⟩
  obtain ⟨xs, rfl, hxl, hx⟩ := of_kind (f := D.int) (R := fun x => 0 ≤ x ∧ x < (b : Int)) rs h3
  rw [hl] at h2 h4
  exact ⟨xs, t', h1, ⟨by rw [hxl, h2], hx⟩, h4.1.mono (by omega)⟩
theorem e_law_message (hp : Pr p) (hm : m ≤ 100) (h : TOk (n + m) t) : ∃ w t', call (k + 2) "_law_message" [.tin, dKey p m K] t = .ok (dRow w) t' ∧ Rw p m w ∧ TOk n t' := by
  have x0 : ∀ t, ixD (dKey p m K) (.int 0) t = some (nat p) := fun _ => rfl
  have x1 : ixD (dKey p m K) (.int 1) t = some (nat m) := rfl
  have hp1 := hp.pos
  have hp5 := hp.le
  have hr : iRng1' [nat m] = some ((List.range m).map nat) := rng1 (by omega)
  obtain ⟨w, t', h1, h2, h3⟩ := e_draws (Γ' := 0) (k := k) (t := t) (n := n) (b := p) (cnt := m) (j := 2) (it := .fn .rng1 (.cons (.ix (.var 1) (.int 1)) .nil)) (eb := .ix (.var 1) (.int 0)) (ρ := [some (.dat .tin), some (.dat (dKey p m K)), none]) (items := (List.range m).map nat) (by simp [x1, hr]) (by rw [List.length_map, List.length_range]) hm (by omega) (by omega)
    (fun d t => ⟨[some (.dat .tin), some (.dat (dKey p m K)), some (.dat d)], rfl, by simp [x0]⟩) h
  refine ⟨w, t', ?_, h2, h3⟩
  rw [call_of of_law_message rfl]
  refine callF_ret ?_
  show exs _ f_law_message [some (.dat .tin), some (.dat (dKey p m K)), none] t = _
  simp only [f_law_message, S.cons, S.ret, S.fn, S.scons]
  rw [h1]
  simp
/-- rows of a picture, off its greys -/
def cutRows (g : List Int) (w high : Nat) : List (List Int) := (List.range high).map fun i => (g.drop (i * w)).take w
theorem e_law_shaped {top : Int} {g r0 : List Int} {w high : Nat} {rows : List (List Int)} (h0 : rows[0]? = some r0) (hw : r0.length = w) (hh : rows.length = high) (hg : g.length = high * w) (hc : high * w ≤ 100) (hh2 : high ≤ 100) (hw2 : w ≤ 100) : call (k + 1) "_law_shaped" [.tup [.int top, dGrid rows], dL .int g] t = .ok (dPic (top, cutRows g w high)) t := by
  rw [call_of of_law_shaped rfl]
  refine callF_ret ?_
  show exs _ f_law_shaped [some (.dat (.tup [.int top, dGrid rows])), some (.dat (dL .int g)), none, none] t = _
  have x0 : ixD (.tup [.int top, dGrid rows]) (.int 0) t = some (.int top) := rfl
  have x1 : ixD (.tup [.int top, dGrid rows]) (.int 1) t = some (dGrid rows) := rfl
  have x2 : ixD (dGrid rows) (.int 0) t = some (dRow r0) := ix_T (n := 0) rfl h0
  have l1 : dLen [dRow r0] = some (nat w) := lenT' hw
  have l2 : dLen [dGrid rows] = some (nat high) := lenT' hh
  have hr : iRng1' [nat high] = some ((List.range high).map nat) := rng1 (by omega)
  have hcm := ev_comp (Γ := Γs k) (it := .fn .rng1 (.cons (.fn .len (.cons (.ix (.var 0) (.int 1)) .nil)) .nil)) (s := true) (tg := [3]) (vs := [3]) (e := .fn .tuple (.cons (.cutAB (.var 1) (.two .mul (.var 3) (.var 2)) (.two .mul (.two .add (.var 3) (.int 1)) (.var 2))) .nil)) (t1 := t)
    (ρ := [some (.dat (.tup [.int top, dGrid rows])), some (.dat (dL .int g)), some (.dat (nat w)), none]) (t := t) (List.range high) nat (fun i => dRow ((g.drop (i * w)).take w)) (by simp [x1, l2, hr, - len_T]) (by rw [List.length_range]; unfold cap; omega)
    (fun i hi => ⟨[some (.dat (.tup [.int top, dGrid rows])), some (.dat (dL .int g)), some (.dat (nat w)), some (.dat (nat i))], rfl, by
      have hi' := List.mem_range.mp hi
      have m1 : dMul (nat i) (nat w) = some (nat (i * w)) := by
        have := mul_small' (i := (i : Int)) (j := (w : Int)) (by unfold smallI; omega)
        rw [nat, nat, this, nat, Int.natCast_mul]
      have a1 : dAdd (nat i) (.int 1) = some (nat (i + 1)) := rfl
      have m2 : dMul (nat (i + 1)) (nat w) = some (nat ((i + 1) * w)) := by
        have := mul_small' (i := ((i + 1 : Nat) : Int)) (j := (w : Int)) (by unfold smallI; omega)
        rw [nat, nat, this, nat, Int.natCast_mul]
      have hle : (i + 1) * w ≤ high * w := Nat.mul_le_mul_right _ (by omega)
      have hct := cut_ab (f := D.int) (xs := g) (a := i * w) (b := (i + 1) * w) (Nat.mul_le_mul_right _ (by omega)) (by rw [hg]; exact hle)
      rw [show (i + 1) * w - i * w = w by rw [Nat.succ_mul]; omega] at hct
      have I1 : asI (.ok (nat (i * w)) t) = .ok ((i * w : Nat) : Int) t := rfl
      have I2 : asI (.ok (nat ((i + 1) * w)) t) = .ok (((i + 1) * w : Nat) : Int) t := rfl
      simp only [S.fn, S.scons, S.cutAB, S.two, S.var, S.int, List.getElem?_cons_succ, List.getElem?_cons_zero, S.bind_ok, f_mul, f_add, m1, a1, m2, S.ofO_some, I1, I2, hct, S.snil, g_tuple, tuple_L]⟩)
  have ea : dL (fun (i : Nat) => dRow ((g.drop (i * w)).take w)) (List.range high) = dL dRow (cutRows g w high) := dL_map.symm
  rw [ea] at hcm
  simp [f_law_shaped, x0, x1, x2, l1, hcm, - len_T]
  rfl
theorem cut_ok {top : Int} {g : List Int} {w high : Nat} (hw : 0 < w) (hh : 0 < high) (hg : g.length = high * w) (hc : high * w = c) (hc2 : c ≤ 100) : PicOk (top, cutRows g w high) c := by
  refine ⟨fun e => ?_, ⟨w, hw, fun r hr => ?_, ?_⟩, hc2⟩
  · have := congrArg List.length e
    unfold cutRows at this
    rw [List.length_map, List.length_range, List.length_nil] at this
    omega
  · obtain ⟨i, hi, rfl⟩ := List.mem_map.mp hr
    have := List.mem_range.mp hi
    have hle : (i + 1) * w ≤ high * w := Nat.mul_le_mul_right _ (by omega)
    rw [Nat.succ_mul] at hle
    rw [List.length_take, List.length_drop, hg]
    omega
  · show (cutRows g w high).length * w = c
    unfold cutRows
    rw [List.length_map, List.length_range, hc]
theorem e_law_picture (hc : 0 < c) (hc2 : c ≤ 10) (h : TOk (n + 20) t) : ∃ q t', call (k + 3) "_law_picture" [.tin, nat c] t = .ok (dPic q) t' ∧ PicOk q c ∧ TOk n t' := by
  obtain ⟨topD, ht1, t1, ht2, ht3⟩ := e_of (k := k) (t := t) (n := n + 19) (xs := [.int 4, .int 5, .int 7, .int 9, .int 4, .int 30]) (by simp) (by decide) h
  obtain ⟨top, rfl, ht4⟩ : ∃ top : Nat, topD = nat top ∧ top ≤ 30 := by
    simp only [List.mem_cons, List.not_mem_nil, or_false] at ht1
    rcases ht1 with h | h | h | h | h | h
    · exact ⟨4, h, by omega⟩
    · exact ⟨5, h, by omega⟩
    · exact ⟨7, h, by omega⟩
    · exact ⟨9, h, by omega⟩
    · exact ⟨4, h, by omega⟩
    · exact ⟨30, h, by omega⟩
  have a1 : dAdd (nat c) (.int 1) = some (nat (c + 1)) := rfl
  have r2 : iRng2' [.int 1, nat (c + 1)] = some ((List.range c).map fun i => nat (1 + i)) := by
    show (if -1000000 ≤ (1 : Int) ∧ (1 : Int) ≤ 1000000 ∧ -1000000 ≤ ((c + 1 : Nat) : Int) ∧ ((c + 1 : Nat) : Int) ≤ 1000000 then some (rngD 1 (((c + 1 : Nat) : Int) - 1).toNat) else none) = _
    rw [if_pos ⟨by omega, by omega, by omega, by omega⟩, show (((c + 1 : Nat) : Int) - 1).toNat = c by omega]
    rfl
  have hcm := ev_compIf (Γ := Γs (k + 2)) (it := .fn .rng2 (.cons (.int 1) (.cons (.two .add (.var 1) (.int 1)) .nil))) (s := true) (tg := [5]) (vs := [5]) (c := .two .eq (.two .mod (.var 1) (.var 5)) (.int 0)) (e := .var 5) (t1 := t1)
    (ρ := [some (.dat .tin), some (.dat (nat c)), some (.dat (nat top)), none, none, none, none]) (t := t1) (List.range c) (fun i => nat (1 + i)) (fun i => nat (1 + i)) (fun i => c % (1 + i) == 0) (by
      simp [a1, r2]) (by rw [List.length_range]; unfold cap; omega)
    (fun i hi => ⟨[some (.dat .tin), some (.dat (nat c)), some (.dat (nat top)), none, none, some (.dat (nat (1 + i))), none], rfl, by
      have hm : dMod (nat c) (nat (1 + i)) = some (nat (c % (1 + i))) := by
        have := mod_int (i := (c : Int)) (j := ((1 + i : Nat) : Int)) (by omega)
        rw [nat, nat, this, Int.fmod_eq_emod_of_nonneg _ (by omega), nat, Int.natCast_emod]
      have he : dEq (nat (c % (1 + i))) (.int 0) = some (.bl (c % (1 + i) == 0)) := eq_nat (b := 0)
      simp [hm, he], fun _ => by simp⟩)
  obtain ⟨tallD, hl1, t2, hl2, hl3⟩ := e_of (k := k) (t := t1) (n := n + 18) (xs := ((List.range c).filter fun i => c % (1 + i) == 0).map fun i => nat (1 + i)) (by
      have h1 : 0 ∈ (List.range c).filter fun i => c % (1 + i) == 0 := List.mem_filter.mpr ⟨List.mem_range.mpr hc, by simp [Nat.mod_one]⟩
      intro e
      rw [List.map_eq_nil_iff] at e
      rw [e] at h1
      cases h1) (by
      rw [List.length_map]
      exact Nat.lt_of_le_of_lt (List.length_filter_le _ _) (by rw [List.length_range]; omega)) ht3
  obtain ⟨i0, hi0, rfl⟩ := List.mem_map.mp hl1
  obtain ⟨hi1, hi2⟩ := List.mem_filter.mp hi0
  have hi1 := List.mem_range.mp hi1
  have hdiv : c % (1 + i0) = 0 := by simpa using hi2
  generalize htall : 1 + i0 = tall at *
  have htp : 0 < tall := by omega
  have htc : tall ≤ c := by omega
  have hmul : tall * (c / tall) = c := Nat.mul_div_cancel' (Nat.dvd_of_mod_eq_zero hdiv)
  have hwp : 0 < c / tall := Nat.div_pos htc htp
  have hwc : c / tall ≤ c := Nat.div_le_self _ _
  have r1 : iRng1' [nat c] = some ((List.range c).map nat) := rng1 (by omega)
  have a2 : dAdd (nat top) (.int 1) = some (nat (top + 1)) := rfl
  obtain ⟨g, t3, g1, g2, g3⟩ := e_draws (Γ' := 0) (k := k + 1) (t := t2) (n := n) (b := top + 1) (cnt := c) (j := 6) (it := .fn .rng1 (.cons (.var 1) .nil)) (eb := .two .add (.var 2) (.int 1)) (ρ := [some (.dat .tin), some (.dat (nat c)), some (.dat (nat top)), some (.dat (nat tall)), none, none, none]) (items := (List.range c).map nat) (by simp [r1]) (by rw [List.length_map, List.length_range]) (by omega) (by omega) (by omega)
    (fun d t => ⟨[some (.dat .tin), some (.dat (nat c)), some (.dat (nat top)), some (.dat (nat tall)), none, none, some (.dat d)], rfl, by simp [a2]⟩) (hl3.mono (by omega))
  have d1 : dDiv (nat c) (nat tall) = some (nat (c / tall)) := div_nat (by omega) (by omega)
  have z1 := zero_mul (n := c / tall) (by omega)
  have z2 : dMul (.tup [dRow (zeroRow (c / tall))]) (nat tall) = some (dGrid (List.replicate tall (zeroRow (c / tall)))) := by
    show (if [dRow (zeroRow (c / tall))] ≠ [] ∧ (0 : Int) ≤ (tall : Int) ∧ (tall : Int) ≤ 1000 ∧ [dRow (zeroRow (c / tall))].length ≤ 1000 then some (D.tup (List.replicate (tall : Int).toNat [dRow (zeroRow (c / tall))]).flatten) else none) = _
    rw [if_pos ⟨by simp, by omega, by omega, by simp⟩]
    unfold dGrid dT
    simp
  have sh : call (k + 2) "_law_shaped" [.tup [nat top, dGrid (List.replicate tall (zeroRow (c / tall)))], dL .int g] t3 = .ok (dPic ((top : Int), cutRows g (c / tall) tall)) t3 := by
    refine e_law_shaped (top := (top : Int)) (r0 := zeroRow (c / tall)) ?_ List.length_replicate List.length_replicate (by rw [g2.len, hmul]) (by rw [hmul]; omega) (by omega) (by omega)
    rw [List.getElem?_replicate, if_pos htp]
  refine ⟨((top : Int), cutRows g (c / tall) tall), t3, ?_, cut_ok hwp htp (by rw [g2.len, hmul]) hmul (by omega), g3⟩
  rw [call_of of_law_picture rfl]
  refine callF_ret ?_
  show exs _ f_law_picture [some (.dat .tin), some (.dat (nat c)), none, none, none, none, none] t = _
  have hl2' : call (k + 2) "_law_of" [.tin, dL (fun i => nat (1 + i)) ((List.range c).filter fun i => c % (1 + i) == 0)] t1 = .ok (nat tall) t2 := hl2
  generalize dL (fun i => nat (1 + i)) ((List.range c).filter fun i => c % (1 + i) == 0) = DD at *
  simp [f_law_picture, ht2, hcm, hl2', g1, d1, z1, z2, sh]
/-- the sizes that are drawn -/
structure Cfg (p m c : Nat) : Prop where
  pr : Pr p
  m1 : 0 < m
  m2 : m ≤ 2
  c1 : 0 < c
  c4 : c ≤ 4
  few : p ^ (m * c) ≤ 100
def cfgs : List (Nat × Nat × Nat) := [(2, 1, 2), (2, 2, 1), (2, 2, 2), (2, 3, 1), (2, 3, 2), (3, 2, 1), (3, 2, 2), (3, 3, 1), (2, 4, 1)]
def dCfg (q : Nat × Nat × Nat) : D := .tup [nat q.1, nat q.2.1, nat q.2.2]
theorem cfg_ok : ∀ q ∈ cfgs, Cfg q.1 q.2.2 q.2.1 := by
  have h : ∀ q ∈ cfgs, (q.1 = 2 ∨ q.1 = 3) ∧ 0 < q.2.2 ∧ q.2.2 ≤ 2 ∧ 0 < q.2.1 ∧ q.2.1 ≤ 4 ∧ q.1 ^ (q.2.2 * q.2.1) ≤ 100 := by decide
  intro q hq
  obtain ⟨h1, h2, h3, h4, h5, h6⟩ := h q hq
  exact ⟨h1, h2, h3, h4, h5, h6⟩
theorem e_law_seen (h : TOk (n + 200) t) : ∃ p m c K pp t', call (k + 4) "_law_seen" [.tin] t = .ok (.tup [dKey p m K, dPrs pp]) t' ∧ Cfg p m c ∧ KeyOk p m c K ∧ PrsOk p m c pp ∧ pp.length ≤ 4 ∧ TOk n t' := by
  obtain ⟨cd, hc1, t1, hc2, hc3⟩ := e_of (k := k + 1) (t := t) (n := n + 199) (xs := cfgs.map dCfg) (by decide +kernel) (by decide) h
  obtain ⟨⟨p, c, m⟩, hq, rfl⟩ := List.mem_map.mp hc1
  have C := cfg_ok _ hq
  dsimp only at C
  have hp1 := C.pr.pos
  have hp5 := C.pr.le
  have hm2 := C.m2
  have hc4 := C.c4
  have hc0 := C.c1
  have r1 : iRng1' [nat c] = some ((List.range c).map nat) := rng1 (by omega)
  have r2 : iRng1' [nat m] = some ((List.range m).map nat) := rng1 (by omega)
  -- the columns
  obtain ⟨rs, t2, k1, k2, k3, k4⟩ := ev_comp_run (Γ := Γs (k + 3)) (it := .fn .rng1 (.cons (.var 2) .nil)) (s := true) (tg := [4]) (vs := [4]) (e := .fn .tuple (.cons (.comp (.fn .rng1 (.cons (.var 3) .nil)) true [10] [10] (.call "_law_take" (.cons (.var 0) (.cons (.var 1) .nil)))) .nil))
    (ρ := [some (.dat .tin), some (.dat (nat p)), some (.dat (nat c)), some (.dat (nat m)), none, none, none, none, none, none, none]) (t := t1) (t1 := t1) (items := (List.range c).map nat)
    (fun i t => TOk (n + 199 - 2 * i) t ∧ i ≤ c) (fun r => ∃ x : List Int, r = dRow x ∧ Rw p m x) (by simp [r1]) (by rw [List.length_map, List.length_range]; unfold cap; omega)
    (fun i d t hi hP => by
      have hil := (List.getElem?_eq_some_iff.mp hi).1
      rw [List.length_map, List.length_range] at hil
      obtain ⟨w, t', w1, w2, w3⟩ := e_draws (Γ' := 0) (k := k + 2) (t := t) (n := n + 199 - 2 * (i + 1)) (b := p) (cnt := m) (j := 10) (it := .fn .rng1 (.cons (.var 3) .nil)) (eb := .var 1) (ρ := [some (.dat .tin), some (.dat (nat p)), some (.dat (nat c)), some (.dat (nat m)), some (.dat d), none, none, none, none, none, none]) (items := (List.range m).map nat) (by simp [r2]) (by rw [List.length_map, List.length_range]) (by omega) (by omega) (by omega)
        (fun d' t => ⟨[some (.dat .tin), some (.dat (nat p)), some (.dat (nat c)), some (.dat (nat m)), some (.dat d), none, none, none, none, none, some (.dat d')], rfl, by simp⟩) (hP.1.mono (by omega))
      refine ⟨[some (.dat .tin), some (.dat (nat p)), some (.dat (nat c)), some (.dat (nat m)), some (.dat d), none, none, none, none, none, none], rfl, dRow w, t', ?_, ⟨w, rfl, w2⟩, w3, by omega⟩
      simp only [S.fn, S.scons]
      rw [w1]
      simp) ⟨hc3, Nat.zero_le _⟩
  obtain ⟨K, rfl, hKl, hKr⟩ := of_kind (f := dRow) (R := fun x => Rw p m x) rs k3
  simp only [List.length_map, List.length_range] at k2 k4
  have hK : KeyOk p m c K := ⟨k2, hKr⟩
  -- how many pairs
  obtain ⟨r, t3, p1, p2, p3⟩ := e_take (k := k + 2) (b := 4) (n := n + 190) (by decide) (by decide) (k4.1.mono (by omega))
  have p1' : call (k + 3) "_law_take" [.tin, .int 4] t2 = .ok (nat r) t3 := p1
  have a1 : dAdd (.int 1) (nat r) = some (nat (1 + r)) := by
    show some (D.int (1 + (r : Int))) = some (D.int ((1 + r : Nat) : Int))
    congr 2
  have r3 : iRng1' [nat (1 + r)] = some ((List.range (1 + r)).map nat) := rng1 (by omega)
  have hkk : D.tup [nat p, nat m, .tup (K.map dRow)] = dKey p m K := rfl
  obtain ⟨ρ', t4, l1, pp, x4, x8, x9, rfl, l2, l3, l4⟩ := loopF_run (F := bodyF (Γs (k + 3)) true [4] (.cons (.asg true [8] (.call "_law_picture" (.cons (.var 0) (.cons (.var 2) .nil)))) (.cons (.asg true [9] (.call "_law_reading" (.cons (.var 8) (.cons (.var 6) .nil)))) (.cons (.app 7 (.tup (.cons (.var 8) (.cons (.ite (.two .eq (.call "_law_take" (.cons (.var 0) (.cons (.int 6) .nil))) (.int 0)) (.call "_law_message" (.cons (.var 0) (.cons (.var 6) .nil))) (.var 9)) .nil)))) .nil))))
    (fun j ρ t => ∃ (pp : Prs) (x4 x8 x9 : Option En), ρ = [some (.dat .tin), some (.dat (nat p)), some (.dat (nat c)), some (.dat (nat m)), x4, some (.dat (dGrid K)), some (.dat (dKey p m K)), some (.own (pp.map dPair)), x8, x9, none] ∧ pp.length = j ∧ (∀ q ∈ pp, PicOk q.1 c ∧ Rw p m q.2) ∧ TOk (n + 190 - 30 * j) t)
    ((List.range (1 + r)).map nat) 0 [some (.dat .tin), some (.dat (nat p)), some (.dat (nat c)), some (.dat (nat m)), none, some (.dat (dGrid K)), some (.dat (dKey p m K)), some (.own []), none, none, none] t3
    (fun j d ρ t hj hP => by
      rw [Nat.zero_add] at hP ⊢
      obtain ⟨pp, x4, x8, x9, rfl, l2, l3, l4⟩ := hP
      have hjl := (List.getElem?_eq_some_iff.mp hj).1
      rw [List.length_map, List.length_range] at hjl
      have hbd : bindT true [4] d [some (.dat .tin), some (.dat (nat p)), some (.dat (nat c)), some (.dat (nat m)), x4, some (.dat (dGrid K)), some (.dat (dKey p m K)), some (.own (pp.map dPair)), x8, x9, none] = some [some (.dat .tin), some (.dat (nat p)), some (.dat (nat c)), some (.dat (nat m)), some (.dat d), some (.dat (dGrid K)), some (.dat (dKey p m K)), some (.own (pp.map dPair)), x8, x9, none] := rfl
      obtain ⟨q, t5, q1, q2, q3⟩ := e_law_picture (k := k) (t := t) (n := n + 190 - 30 * (j + 1) + 5) C.c1 (by omega) (l4.mono (by omega))
      have q4 : call (k + 3) "_law_reading" [dPic q, dKey p m K] t5 = .ok (dRow (combo p m K (restsOf p q))) t5 := e_law_reading C.pr hK q2 (by omega)
      have hrd : Rw p m (combo p m K (restsOf p q)) := read_rw hp1 hKr
      obtain ⟨r6, t6, s1, s2, s3⟩ := e_take (k := k + 2) (b := 6) (n := n + 190 - 30 * (j + 1) + 4) (t := t5) (by decide) (by decide) q3
      have s1' : call (k + 3) "_law_take" [.tin, .int 6] t5 = .ok (nat r6) t6 := s1
      have hcap : (pp.map dPair).length < cap := by
        rw [List.length_map]
        unfold cap
        omega
      have he : dEq (nat r6) (.int 0) = some (.bl (r6 == 0)) := eq_nat (b := 0)
      cases h6 : r6 == 0 with
      | true =>
        rw [h6] at he
        obtain ⟨w, t7, m1, m2, m3⟩ := e_law_message (k := k + 1) (p := p) (m := m) (K := K) (t := t6) (n := n + 190 - 30 * (j + 1)) C.pr (by omega) (s3.mono (by omega))
        refine ⟨[some (.dat .tin), some (.dat (nat p)), some (.dat (nat c)), some (.dat (nat m)), some (.dat d), some (.dat (dGrid K)), some (.dat (dKey p m K)), some (.own ((pp ++ [(q, w)]).map dPair)), some (.dat (dPic q)), some (.dat (dRow (combo p m K (restsOf p q)))), none], t7, ?_, pp ++ [(q, w)], _, _, _, rfl, by rw [List.length_append, l2]; rfl, fun a ha => ?_, m3⟩
        · rw [bodyF_some hbd]
          have hdp : D.tup [dPic q, dRow w] = dPair (q, w) := rfl
          generalize hpm : pp.map dPair = PM at *
          simp [q1, q4, s1', he, m1, hcap, hdp, hpm]
        · rcases List.mem_append.mp ha with ha | ha
          · exact l3 a ha
          · rw [List.mem_singleton.mp ha]
            exact ⟨q2, m2⟩
      | false =>
        rw [h6] at he
        refine ⟨[some (.dat .tin), some (.dat (nat p)), some (.dat (nat c)), some (.dat (nat m)), some (.dat d), some (.dat (dGrid K)), some (.dat (dKey p m K)), some (.own ((pp ++ [(q, combo p m K (restsOf p q))]).map dPair)), some (.dat (dPic q)), some (.dat (dRow (combo p m K (restsOf p q)))), none], t6, ?_, pp ++ [(q, combo p m K (restsOf p q))], _, _, _, rfl, by rw [List.length_append, l2]; rfl, fun a ha => ?_, s3.mono (by omega)⟩
        · rw [bodyF_some hbd]
          have hdp : D.tup [dPic q, dRow (combo p m K (restsOf p q))] = dPair (q, combo p m K (restsOf p q)) := rfl
          generalize hpm : pp.map dPair = PM at *
          simp [q1, q4, s1', he, hcap, hdp, hpm]
        · rcases List.mem_append.mp ha with ha | ha
          · exact l3 a ha
          · rw [List.mem_singleton.mp ha]
            exact ⟨q2, hrd⟩)
    ⟨[], none, none, none, rfl, rfl, fun q h => (by cases h), p3⟩
  rw [List.length_map, List.length_range, Nat.zero_add] at l2 l4
  refine ⟨p, m, c, K, pp, t4, ?_, C, hK, ⟨C.pr, fun e => by rw [e, List.length_nil] at l2; omega, by omega, l3, C.m1, by omega⟩, by omega, l4.mono (by omega)⟩
  rw [call_of of_law_seen rfl]
  refine callF_ret ?_
  show exs _ f_law_seen [some (.dat .tin), none, none, none, none, none, none, none, none, none, none] t = _
  have hev := ex_loop (Γ := Γs (k + 3)) (it := .fn .rng1 (.cons (.two .add (.int 1) (.call "_law_take" (.cons (.var 0) (.cons (.int 4) .nil)))) .nil)) (s := true) (tg := [4]) (body := .cons (.asg true [8] (.call "_law_picture" (.cons (.var 0) (.cons (.var 2) .nil)))) (.cons (.asg true [9] (.call "_law_reading" (.cons (.var 8) (.cons (.var 6) .nil)))) (.cons (.app 7 (.tup (.cons (.var 8) (.cons (.ite (.two .eq (.call "_law_take" (.cons (.var 0) (.cons (.int 6) .nil))) (.int 0)) (.call "_law_message" (.cons (.var 0) (.cons (.var 6) .nil))) (.var 9)) .nil)))) .nil)))
    (ρ := [some (.dat .tin), some (.dat (nat p)), some (.dat (nat c)), some (.dat (nat m)), none, some (.dat (dGrid K)), some (.dat (dKey p m K)), some (.own []), none, none, none]) (t := t2) (t1 := t3) (items := (List.range (1 + r)).map nat) (by simp [p1', a1, r3])
  rw [l1] at hev
  have hcl : call (k + 3) "_law_of" [.tin, .lst [.tup [.int 2, .int 1, .int 2], .tup [.int 2, .int 2, .int 1], .tup [.int 2, .int 2, .int 2], .tup [.int 2, .int 3, .int 1], .tup [.int 2, .int 3, .int 2], .tup [.int 3, .int 2, .int 1], .tup [.int 3, .int 2, .int 2], .tup [.int 3, .int 3, .int 1], .tup [.int 2, .int 4, .int 1]]] t = .ok (.tup [nat p, nat c, nat m]) t1 := hc2
  have hk1 : ev (Γs (k + 3)) (.comp (.fn .rng1 (.cons (.var 2) .nil)) true [4] [4] (.fn .tuple (.cons (.comp (.fn .rng1 (.cons (.var 3) .nil)) true [10] [10] (.call "_law_take" (.cons (.var 0) (.cons (.var 1) .nil)))) .nil))) [some (.dat .tin), some (.dat (nat p)), some (.dat (nat c)), some (.dat (nat m)), none, none, none, none, none, none, none] t1 = .ok (dL dRow K) t2 := k1
  have hkk2 : D.tup [nat p, nat m, dGrid K] = dKey p m K := rfl
  simp [f_law_seen, hcl, hk1, hkk2, hev]
  rfl
end
end Dry
set_option Elab.async false
set_option linter.all false
set_option maxRecDepth 100000
set_option maxHeartbeats 4000000
set_option autoImplicit false
/-! DryYk: the run of _law_picture_right, over abstract data. -/
namespace Dry
open PySem PySem.Spec PyProof.Rows L2
abbrev paperD : D := .lst [.str "paper"]
@[simp] theorem S.heardE {Γ : Gam} {ρ : Env'} {t : Tin} {x : Str} {as : Exs} : ev Γ (.heard x as) ρ t = appH Γ x (evs Γ as ρ t) := (rfl)
@[simp] theorem S.lenset {Γ : Gam} {ρ : Env'} {t : Tin} {e : Ex} : ev Γ (.lenset e) ρ t = (ev Γ e ρ t).bind fun d t => ofO (dLenSet [d]) t := (rfl)
theorem appH_call {k : Nat} {x : Str} {ds : List D} {t : Tin} {d : Df} (h : dfOf x = some d) (hl : ds.length = d.ps.length) (hn : d.ps.length = 2 ∨ d.ps.length = 3) : appH (Γs (k + 1)) x (.ok ds t) = heardR (call (k + 1) x ds t) := by
  rw [call_of h hl]
  unfold appH
  have e : Γs (k + 1) x = some (d.ps.length, callF (Γs k) d) := by
    show (dfOf x).map (fun d => (d.ps.length, callF (Γs k) d)) = _
    rw [h] <;> rfl
  rw [e]
  show (if d.ps.length = 2 ∨ d.ps.length = 3 then heardR (appN d.ps.length (callF (Γs k) d) ds t) else .bad) = _
  rw [if_pos hn]
  unfold appN
  rw [if_pos hl]
/-- the things of the first test, of the second -/
abbrev tell6 (TOLD TL S1 S2 : D) : D := .lst [TOLD, TL, .non, S1, S2, .str "told"]
abbrev two9 (PK TWO TWR FC KD : D) : D := .lst [PK, TWO, TWR, FC, .tup [KD, KD], .non, .tup [.str "a", .str "b"], .tup [.tup [.lst [], .str "1", .non], KD], .str "two"]
theorem pr_run {k : Nat} {KD PD FD Q1 Q2 P RD W WL PL QL G2 G3 TOLD TWO TWR TL RS GL AR LN S1 S2 PK1 PK2 PT FC TH1 TH2 B3 B5 AL NN : D} {b : Bool} {word : Str} {t t1 t2 t3 : Tin}
    (hP : ∀ t, ixD KD (.int 0) t = some P)
    (c1 : ev (Γs k) (.comp (.seq (.var 3)) true [18] [18] (.call "_law_reading" (.cons (.var 4) (.cons (.var 18) .nil)))) [some (.dat .tin), some (.dat KD), some (.dat PD), some (.dat FD), some (.dat Q1), some (.dat Q2), none, none, none, none, none, none, none, none, none, none, none, none, none] t = .ok RD t)
    (hb1 : dLenSet [RD] = some NN)
    (hb2 : dEq NN (.int 1) = some (.bl b))
    (hw : call k "_law_message" [.tin, KD] t = .ok W t1)
    (hl1 : call k "_law_lists" [PD] t1 = .ok PL t1)
    (hl2 : call k "_law_lists" [Q1] t1 = .ok QL t1)
    (hl3 : dList [W] = some WL)
    (g1 : call k "is_told" [P, PL, Q1] t1 = .ok (.bl b) t1)
    (g2 : appH (Γs k) "told_message" (.ok [P, PD, QL] t1) = .ok G2 t1)
    (g3 : call k "keys_that_read" [P, PD, Q1, WL] t1 = .ok G3 t1)
    (d2 : ev (Γs k) (.ite (.var 8) (.ix (.var 7) (.int 0)) (.lst (.cons (.str "paper") .nil))) [some (.dat .tin), some (.dat KD), some (.dat PD), some (.dat FD), some (.dat Q1), some (.dat Q2), some (.dat P), some (.dat RD), some (.dat (.bl b)), some (.dat W), some (.dat (.lst [.bl b, G2, G3])), none, none, none, none, none, none, none, none] t1 = .ok G2 t1)
    (d3 : dCount RD [W] = some G3)
    (d4 : isL RD t1 = .ok RD t1)
    (sm1 : call k "_law_same" [.lst [.bl b, G2, G3], .lst [.bl b, G2, G3]] t1 = .ok (.bl true) t1)
    (h1 : appH (Γs k) "telling" (.ok [P, PD, Q1] t1) = .ok TOLD t1)
    (h2 : appH (Γs k) "two_keys" (.ok [P, PD, Q1] t1) = .ok TWO t1)
    (c2 : ev (Γs k) (.comp (.seq (.var 2)) true [18] [18] (.call "_law_rests" (.cons (.ix (.var 18) (.int 0)) (.cons (.var 6) .nil)))) [some (.dat .tin), some (.dat KD), some (.dat PD), some (.dat FD), some (.dat Q1), some (.dat Q2), some (.dat P), some (.dat RD), some (.dat (.bl b)), some (.dat W), some (.dat (.lst [.bl b, G2, G3])), some (.dat TOLD), some (.dat TWO), none, none, none, none, none, none] t1 = .ok RS t1)
    (hg : call k "_law_rests" [Q1, P] t1 = .ok GL t1)
    (k7 : ev (Γs k) (.and_ (.var 8) (.or_ (.not_ (.call "_law_are_multiples" (.cons (.var 6) (.cons (.var 13) (.cons (.var 14) (.cons (.var 11) .nil)))))) (.not_ (.call "_law_same" (.cons (.var 12) (.cons (.lst (.cons (.str "paper") .nil)) .nil)))))) [some (.dat .tin), some (.dat KD), some (.dat PD), some (.dat FD), some (.dat Q1), some (.dat Q2), some (.dat P), some (.dat RD), some (.dat (.bl b)), some (.dat W), some (.dat (.lst [.bl b, G2, G3])), some (.dat TOLD), some (.dat TWO), some (.dat RS), some (.dat GL), none, none, none, none] t1 = .ok (.bl false) t1)
    (k8 : ev (Γs k) (.and_ (.not_ (.var 8)) (.or_ (.not_ (.call "_law_same" (.cons (.var 11) (.cons (.lst (.cons (.str "paper") .nil)) .nil)))) (.not_ (.call "_law_is_two" (.cons (.var 3) (.cons (.var 4) (.cons (.var 12) .nil))))))) [some (.dat .tin), some (.dat KD), some (.dat PD), some (.dat FD), some (.dat Q1), some (.dat Q2), some (.dat P), some (.dat RD), some (.dat (.bl b)), some (.dat W), some (.dat (.lst [.bl b, G2, G3])), some (.dat TOLD), some (.dat TWO), some (.dat RS), some (.dat GL), none, none, none, none] t1 = .ok (.bl false) t1)
    (ln : dLen [PD] = some LN)
    (ar : call k "_law_all_rows" [P, LN] t1 = .ok AR t1)
    (pk1 : call k "_law_pick" [.tin, AR, .int 4] t1 = .ok PK1 t2)
    (tl : dList [TOLD] = some TL)
    (s1 : dMul (.tup [.str "1"]) LN = some S1)
    (s2 : dMul (.tup [.lst []]) LN = some S2)
    (th1 : dAdd PK1 (tell6 TOLD TL S1 S2) = some TH1)
    (c3 : ev (Γs k) (.comp (.seq (.var 15)) true [18] [18] (.call "is_telling" (.cons (.var 6) (.cons (.var 2) (.cons (.var 4) (.cons (.var 18) .nil)))))) [some (.dat .tin), some (.dat KD), some (.dat PD), some (.dat FD), some (.dat Q1), some (.dat Q2), some (.dat P), some (.dat RD), some (.dat (.bl b)), some (.dat W), some (.dat (.lst [.bl b, G2, G3])), some (.dat TOLD), some (.dat TWO), some (.dat RS), some (.dat GL), some (.dat TH1), none, none, none] t2 = .ok B3 t2)
    (c4 : ev (Γs k) (.comp (.seq (.var 15)) true [18] [18] (.call "_law_are_multiples" (.cons (.var 6) (.cons (.var 13) (.cons (.var 14) (.cons (.var 18) .nil)))))) [some (.dat .tin), some (.dat KD), some (.dat PD), some (.dat FD), some (.dat Q1), some (.dat Q2), some (.dat P), some (.dat RD), some (.dat (.bl b)), some (.dat W), some (.dat (.lst [.bl b, G2, G3])), some (.dat TOLD), some (.dat TWO), some (.dat RS), some (.dat GL), some (.dat TH1), none, none, none] t2 = .ok B3 t2)
    (sm3 : call k "_law_same" [B3, B3] t2 = .ok (.bl true) t2)
    (pk2 : call k "_law_pick" [.tin, FD, .int 2] t2 = .ok PK2 t3)
    (pt : dTuple [PK2] = some PT)
    (rv : dRev TWO = some TWR)
    (fc : dCut none (some 2) FD = some FC)
    (hT2 : TH2 = two9 PT TWO TWR FC KD)
    (c5 : ev (Γs k) (.comp (.seq (.var 15)) true [18] [18] (.call "is_two_keys" (.cons (.var 6) (.cons (.var 2) (.cons (.var 4) (.cons (.var 18) .nil)))))) [some (.dat .tin), some (.dat KD), some (.dat PD), some (.dat FD), some (.dat Q1), some (.dat Q2), some (.dat P), some (.dat RD), some (.dat (.bl b)), some (.dat W), some (.dat (.lst [.bl b, G2, G3])), some (.dat TOLD), some (.dat TWO), some (.dat RS), some (.dat GL), some (.dat TH2), none, none, none] t3 = .ok B5 t3)
    (c6 : ev (Γs k) (.comp (.seq (.var 15)) true [18] [18] (.call "_law_is_two" (.cons (.var 3) (.cons (.var 4) (.cons (.var 18) .nil))))) [some (.dat .tin), some (.dat KD), some (.dat PD), some (.dat FD), some (.dat Q1), some (.dat Q2), some (.dat P), some (.dat RD), some (.dat (.bl b)), some (.dat W), some (.dat (.lst [.bl b, G2, G3])), some (.dat TOLD), some (.dat TWO), some (.dat RS), some (.dat GL), some (.dat TH2), none, none, none] t3 = .ok B5 t3)
    (sm5 : call k "_law_same" [B5, B5] t3 = .ok (.bl true) t3)
    (c7 : ev (Γs k) (.comp (.seq (.var 3)) true [18] [18] (.two .eq (.call "_law_reading" (.cons (.var 4) (.cons (.var 18) .nil))) (.call "_law_reading" (.cons (.var 5) (.cons (.var 18) .nil))))) [some (.dat .tin), some (.dat KD), some (.dat PD), some (.dat FD), some (.dat Q1), some (.dat Q2), some (.dat P), some (.dat RD), some (.dat (.bl b)), some (.dat W), some (.dat (.lst [.bl b, G2, G3])), some (.dat TOLD), some (.dat TWO), some (.dat RS), some (.dat GL), some (.dat TH2), none, none, none] t3 = .ok AL t3)
    (w17 : ev (Γs k) (.ite (.and_ (.two .in_ (.bl true) (.var 16)) (.two .in_ (.bl false) (.var 16))) (.str "open") (.ite (.ix (.var 16) (.int 0)) (.str "alike") (.str "unlike"))) [some (.dat .tin), some (.dat KD), some (.dat PD), some (.dat FD), some (.dat Q1), some (.dat Q2), some (.dat P), some (.dat RD), some (.dat (.bl b)), some (.dat W), some (.dat (.lst [.bl b, G2, G3])), some (.dat TOLD), some (.dat TWO), some (.dat RS), some (.dat GL), some (.dat TH2), some (.dat AL), none, none] t3 = .ok (.str word) t3)
    (ta : call k "told_apart" [P, PD, Q1, Q2] t3 = .ok (.str word) t3)
    (sm7 : call k "_law_same" [.str word, .str word] t3 = .ok (.bl true) t3)
    : call (k + 1) "_law_picture_right" [.tin, KD, PD, FD, Q1, Q2] t = .ok (.bl true) t3 := by
  rw [call_of of_law_picture_right rfl]
  refine callF_ret ?_
  show exs _ f_law_picture_right [some (.dat .tin), some (.dat KD), some (.dat PD), some (.dat FD), some (.dat Q1), some (.dat Q2), none, none, none, none, none, none, none, none, none, none, none, none, none] t = _
  have z0 : ex (Γs k) (.asg false [6, 7] (.tup (.cons (.ix (.var 1) (.int 0)) (.cons (.comp (.seq (.var 3)) true [18] [18] (.call "_law_reading" (.cons (.var 4) (.cons (.var 18) .nil)))) .nil)))) [some (.dat .tin), some (.dat KD), some (.dat PD), some (.dat FD), some (.dat Q1), some (.dat Q2), none, none, none, none, none, none, none, none, none, none, none, none, none] t = .nx [some (.dat .tin), some (.dat KD), some (.dat PD), some (.dat FD), some (.dat Q1), some (.dat Q2), some (.dat P), some (.dat RD), none, none, none, none, none, none, none, none, none, none, none] t := by simp [hP, c1]
  have z1 : ex (Γs k) (.par 8 9 (.dat (.two .eq (.lenset (.var 7)) (.int 1))) (.dat (.call "_law_message" (.cons (.var 0) (.cons (.var 1) .nil))))) [some (.dat .tin), some (.dat KD), some (.dat PD), some (.dat FD), some (.dat Q1), some (.dat Q2), some (.dat P), some (.dat RD), none, none, none, none, none, none, none, none, none, none, none] t = .nx [some (.dat .tin), some (.dat KD), some (.dat PD), some (.dat FD), some (.dat Q1), some (.dat Q2), some (.dat P), some (.dat RD), some (.dat (.bl b)), some (.dat W), none, none, none, none, none, none, none, none, none] t1 := by simp [hb1, hb2, hw]
  have z2 : ex (Γs k) (.asg true [10] (.lst (.cons (.call "is_told" (.cons (.var 6) (.cons (.call "_law_lists" (.cons (.var 2) .nil)) (.cons (.var 4) .nil)))) (.cons (.heard "told_message" (.cons (.var 6) (.cons (.var 2) (.cons (.call "_law_lists" (.cons (.var 4) .nil)) .nil)))) (.cons (.call "keys_that_read" (.cons (.var 6) (.cons (.var 2) (.cons (.var 4) (.cons (.fn .list (.cons (.var 9) .nil)) .nil))))) .nil))))) [some (.dat .tin), some (.dat KD), some (.dat PD), some (.dat FD), some (.dat Q1), some (.dat Q2), some (.dat P), some (.dat RD), some (.dat (.bl b)), some (.dat W), none, none, none, none, none, none, none, none, none] t1 = .nx [some (.dat .tin), some (.dat KD), some (.dat PD), some (.dat FD), some (.dat Q1), some (.dat Q2), some (.dat P), some (.dat RD), some (.dat (.bl b)), some (.dat W), some (.dat (.lst [.bl b, G2, G3])), none, none, none, none, none, none, none, none] t1 := by simp [hl1, hl2, hl3, g1, g2, g3]
  have z3 : ex (Γs k) (.ife (.not_ (.call "_law_same" (.cons (.var 10) (.cons (.lst (.cons (.var 8) (.cons (.ite (.var 8) (.ix (.var 7) (.int 0)) (.lst (.cons (.str "paper") .nil))) (.cons (.mt .count (.var 7) (.cons (.var 9) .nil)) .nil)))) .nil)))) (.cons (.ret (.bl false)) .nil) .nil) [some (.dat .tin), some (.dat KD), some (.dat PD), some (.dat FD), some (.dat Q1), some (.dat Q2), some (.dat P), some (.dat RD), some (.dat (.bl b)), some (.dat W), some (.dat (.lst [.bl b, G2, G3])), none, none, none, none, none, none, none, none] t1 = .nx [some (.dat .tin), some (.dat KD), some (.dat PD), some (.dat FD), some (.dat Q1), some (.dat Q2), some (.dat P), some (.dat RD), some (.dat (.bl b)), some (.dat W), some (.dat (.lst [.bl b, G2, G3])), none, none, none, none, none, none, none, none] t1 := by
    have d2' := d2
    simp at d2'
    simp [d2', d3, d4, sm1]
  have z4 : ex (Γs k) (.par 11 12 (.dat (.heard "telling" (.cons (.var 6) (.cons (.var 2) (.cons (.var 4) .nil))))) (.dat (.heard "two_keys" (.cons (.var 6) (.cons (.var 2) (.cons (.var 4) .nil)))))) [some (.dat .tin), some (.dat KD), some (.dat PD), some (.dat FD), some (.dat Q1), some (.dat Q2), some (.dat P), some (.dat RD), some (.dat (.bl b)), some (.dat W), some (.dat (.lst [.bl b, G2, G3])), none, none, none, none, none, none, none, none] t1 = .nx [some (.dat .tin), some (.dat KD), some (.dat PD), some (.dat FD), some (.dat Q1), some (.dat Q2), some (.dat P), some (.dat RD), some (.dat (.bl b)), some (.dat W), some (.dat (.lst [.bl b, G2, G3])), some (.dat TOLD), some (.dat TWO), none, none, none, none, none, none] t1 := by simp [h1, h2]
  have z5 : ex (Γs k) (.asg false [13, 14] (.tup (.cons (.comp (.seq (.var 2)) true [18] [18] (.call "_law_rests" (.cons (.ix (.var 18) (.int 0)) (.cons (.var 6) .nil)))) (.cons (.call "_law_rests" (.cons (.var 4) (.cons (.var 6) .nil))) .nil)))) [some (.dat .tin), some (.dat KD), some (.dat PD), some (.dat FD), some (.dat Q1), some (.dat Q2), some (.dat P), some (.dat RD), some (.dat (.bl b)), some (.dat W), some (.dat (.lst [.bl b, G2, G3])), some (.dat TOLD), some (.dat TWO), none, none, none, none, none, none] t1 = .nx [some (.dat .tin), some (.dat KD), some (.dat PD), some (.dat FD), some (.dat Q1), some (.dat Q2), some (.dat P), some (.dat RD), some (.dat (.bl b)), some (.dat W), some (.dat (.lst [.bl b, G2, G3])), some (.dat TOLD), some (.dat TWO), some (.dat RS), some (.dat GL), none, none, none, none] t1 := by simp [c2, hg]
  have z6 : ex (Γs k) (.ife (.and_ (.var 8) (.or_ (.not_ (.call "_law_are_multiples" (.cons (.var 6) (.cons (.var 13) (.cons (.var 14) (.cons (.var 11) .nil)))))) (.not_ (.call "_law_same" (.cons (.var 12) (.cons (.lst (.cons (.str "paper") .nil)) .nil)))))) (.cons (.ret (.bl false)) .nil) .nil) [some (.dat .tin), some (.dat KD), some (.dat PD), some (.dat FD), some (.dat Q1), some (.dat Q2), some (.dat P), some (.dat RD), some (.dat (.bl b)), some (.dat W), some (.dat (.lst [.bl b, G2, G3])), some (.dat TOLD), some (.dat TWO), some (.dat RS), some (.dat GL), none, none, none, none] t1 = .nx [some (.dat .tin), some (.dat KD), some (.dat PD), some (.dat FD), some (.dat Q1), some (.dat Q2), some (.dat P), some (.dat RD), some (.dat (.bl b)), some (.dat W), some (.dat (.lst [.bl b, G2, G3])), some (.dat TOLD), some (.dat TWO), some (.dat RS), some (.dat GL), none, none, none, none] t1 := by
    rw [S.ife, k7]
    rfl
  have z7 : ex (Γs k) (.ife (.and_ (.not_ (.var 8)) (.or_ (.not_ (.call "_law_same" (.cons (.var 11) (.cons (.lst (.cons (.str "paper") .nil)) .nil)))) (.not_ (.call "_law_is_two" (.cons (.var 3) (.cons (.var 4) (.cons (.var 12) .nil))))))) (.cons (.ret (.bl false)) .nil) .nil) [some (.dat .tin), some (.dat KD), some (.dat PD), some (.dat FD), some (.dat Q1), some (.dat Q2), some (.dat P), some (.dat RD), some (.dat (.bl b)), some (.dat W), some (.dat (.lst [.bl b, G2, G3])), some (.dat TOLD), some (.dat TWO), some (.dat RS), some (.dat GL), none, none, none, none] t1 = .nx [some (.dat .tin), some (.dat KD), some (.dat PD), some (.dat FD), some (.dat Q1), some (.dat Q2), some (.dat P), some (.dat RD), some (.dat (.bl b)), some (.dat W), some (.dat (.lst [.bl b, G2, G3])), some (.dat TOLD), some (.dat TWO), some (.dat RS), some (.dat GL), none, none, none, none] t1 := by
    rw [S.ife, k8]
    rfl
  have z8 : ex (Γs k) (.asg true [15] (.two .add (.call "_law_pick" (.cons (.var 0) (.cons (.call "_law_all_rows" (.cons (.var 6) (.cons (.fn .len (.cons (.var 2) .nil)) .nil))) (.cons (.int 4) .nil)))) (.lst (.cons (.var 11) (.cons (.fn .list (.cons (.var 11) .nil)) (.cons .non (.cons (.two .mul (.tup (.cons (.str "1") .nil)) (.fn .len (.cons (.var 2) .nil))) (.cons (.two .mul (.tup (.cons (.lst .nil) .nil)) (.fn .len (.cons (.var 2) .nil))) (.cons (.str "told") .nil))))))))) [some (.dat .tin), some (.dat KD), some (.dat PD), some (.dat FD), some (.dat Q1), some (.dat Q2), some (.dat P), some (.dat RD), some (.dat (.bl b)), some (.dat W), some (.dat (.lst [.bl b, G2, G3])), some (.dat TOLD), some (.dat TWO), some (.dat RS), some (.dat GL), none, none, none, none] t1 = .nx [some (.dat .tin), some (.dat KD), some (.dat PD), some (.dat FD), some (.dat Q1), some (.dat Q2), some (.dat P), some (.dat RD), some (.dat (.bl b)), some (.dat W), some (.dat (.lst [.bl b, G2, G3])), some (.dat TOLD), some (.dat TWO), some (.dat RS), some (.dat GL), some (.dat TH1), none, none, none] t2 := by
    simp [ln, ar, pk1, tl, s1, s2]
    rw [th1]
    rfl
  have z9 : ex (Γs k) (.ife (.not_ (.call "_law_same" (.cons (.comp (.seq (.var 15)) true [18] [18] (.call "is_telling" (.cons (.var 6) (.cons (.var 2) (.cons (.var 4) (.cons (.var 18) .nil)))))) (.cons (.comp (.seq (.var 15)) true [18] [18] (.call "_law_are_multiples" (.cons (.var 6) (.cons (.var 13) (.cons (.var 14) (.cons (.var 18) .nil)))))) .nil)))) (.cons (.ret (.bl false)) .nil) .nil) [some (.dat .tin), some (.dat KD), some (.dat PD), some (.dat FD), some (.dat Q1), some (.dat Q2), some (.dat P), some (.dat RD), some (.dat (.bl b)), some (.dat W), some (.dat (.lst [.bl b, G2, G3])), some (.dat TOLD), some (.dat TWO), some (.dat RS), some (.dat GL), some (.dat TH1), none, none, none] t2 = .nx [some (.dat .tin), some (.dat KD), some (.dat PD), some (.dat FD), some (.dat Q1), some (.dat Q2), some (.dat P), some (.dat RD), some (.dat (.bl b)), some (.dat W), some (.dat (.lst [.bl b, G2, G3])), some (.dat TOLD), some (.dat TWO), some (.dat RS), some (.dat GL), some (.dat TH1), none, none, none] t2 := by simp [c3, c4, sm3]
  have z10 : ex (Γs k) (.asg true [15] (.lst (.cons (.fn .tuple (.cons (.call "_law_pick" (.cons (.var 0) (.cons (.var 3) (.cons (.int 2) .nil)))) .nil)) (.cons (.var 12) (.cons (.rev (.var 12)) (.cons (.cutTo (.var 3) (.int 2)) (.cons (.tup (.cons (.var 1) (.cons (.var 1) .nil))) (.cons .non (.cons (.tup (.cons (.str "a") (.cons (.str "b") .nil))) (.cons (.tup (.cons (.tup (.cons (.lst .nil) (.cons (.str "1") (.cons .non .nil)))) (.cons (.var 1) .nil))) (.cons (.str "two") .nil))))))))))) [some (.dat .tin), some (.dat KD), some (.dat PD), some (.dat FD), some (.dat Q1), some (.dat Q2), some (.dat P), some (.dat RD), some (.dat (.bl b)), some (.dat W), some (.dat (.lst [.bl b, G2, G3])), some (.dat TOLD), some (.dat TWO), some (.dat RS), some (.dat GL), some (.dat TH1), none, none, none] t2 = .nx [some (.dat .tin), some (.dat KD), some (.dat PD), some (.dat FD), some (.dat Q1), some (.dat Q2), some (.dat P), some (.dat RD), some (.dat (.bl b)), some (.dat W), some (.dat (.lst [.bl b, G2, G3])), some (.dat TOLD), some (.dat TWO), some (.dat RS), some (.dat GL), some (.dat TH2), none, none, none] t3 := by
    subst hT2
    simp [pk2, pt, rv, fc]
  have z11 : ex (Γs k) (.ife (.not_ (.call "_law_same" (.cons (.comp (.seq (.var 15)) true [18] [18] (.call "is_two_keys" (.cons (.var 6) (.cons (.var 2) (.cons (.var 4) (.cons (.var 18) .nil)))))) (.cons (.comp (.seq (.var 15)) true [18] [18] (.call "_law_is_two" (.cons (.var 3) (.cons (.var 4) (.cons (.var 18) .nil))))) .nil)))) (.cons (.ret (.bl false)) .nil) .nil) [some (.dat .tin), some (.dat KD), some (.dat PD), some (.dat FD), some (.dat Q1), some (.dat Q2), some (.dat P), some (.dat RD), some (.dat (.bl b)), some (.dat W), some (.dat (.lst [.bl b, G2, G3])), some (.dat TOLD), some (.dat TWO), some (.dat RS), some (.dat GL), some (.dat TH2), none, none, none] t3 = .nx [some (.dat .tin), some (.dat KD), some (.dat PD), some (.dat FD), some (.dat Q1), some (.dat Q2), some (.dat P), some (.dat RD), some (.dat (.bl b)), some (.dat W), some (.dat (.lst [.bl b, G2, G3])), some (.dat TOLD), some (.dat TWO), some (.dat RS), some (.dat GL), some (.dat TH2), none, none, none] t3 := by simp [c5, c6, sm5]
  have z12 : ex (Γs k) (.asg true [16] (.comp (.seq (.var 3)) true [18] [18] (.two .eq (.call "_law_reading" (.cons (.var 4) (.cons (.var 18) .nil))) (.call "_law_reading" (.cons (.var 5) (.cons (.var 18) .nil)))))) [some (.dat .tin), some (.dat KD), some (.dat PD), some (.dat FD), some (.dat Q1), some (.dat Q2), some (.dat P), some (.dat RD), some (.dat (.bl b)), some (.dat W), some (.dat (.lst [.bl b, G2, G3])), some (.dat TOLD), some (.dat TWO), some (.dat RS), some (.dat GL), some (.dat TH2), none, none, none] t3 = .nx [some (.dat .tin), some (.dat KD), some (.dat PD), some (.dat FD), some (.dat Q1), some (.dat Q2), some (.dat P), some (.dat RD), some (.dat (.bl b)), some (.dat W), some (.dat (.lst [.bl b, G2, G3])), some (.dat TOLD), some (.dat TWO), some (.dat RS), some (.dat GL), some (.dat TH2), some (.dat AL), none, none] t3 := by simp [c7]
  have z13 : ex (Γs k) (.asg true [17] (.ite (.and_ (.two .in_ (.bl true) (.var 16)) (.two .in_ (.bl false) (.var 16))) (.str "open") (.ite (.ix (.var 16) (.int 0)) (.str "alike") (.str "unlike")))) [some (.dat .tin), some (.dat KD), some (.dat PD), some (.dat FD), some (.dat Q1), some (.dat Q2), some (.dat P), some (.dat RD), some (.dat (.bl b)), some (.dat W), some (.dat (.lst [.bl b, G2, G3])), some (.dat TOLD), some (.dat TWO), some (.dat RS), some (.dat GL), some (.dat TH2), some (.dat AL), none, none] t3 = .nx [some (.dat .tin), some (.dat KD), some (.dat PD), some (.dat FD), some (.dat Q1), some (.dat Q2), some (.dat P), some (.dat RD), some (.dat (.bl b)), some (.dat W), some (.dat (.lst [.bl b, G2, G3])), some (.dat TOLD), some (.dat TWO), some (.dat RS), some (.dat GL), some (.dat TH2), some (.dat AL), some (.dat (.str word)), none] t3 := by
    rw [S.asg, w17]
    rfl
  have z14 : ex (Γs k) (.ret (.call "_law_same" (.cons (.call "told_apart" (.cons (.var 6) (.cons (.var 2) (.cons (.var 4) (.cons (.var 5) .nil))))) (.cons (.var 17) .nil)))) [some (.dat .tin), some (.dat KD), some (.dat PD), some (.dat FD), some (.dat Q1), some (.dat Q2), some (.dat P), some (.dat RD), some (.dat (.bl b)), some (.dat W), some (.dat (.lst [.bl b, G2, G3])), some (.dat TOLD), some (.dat TWO), some (.dat RS), some (.dat GL), some (.dat TH2), some (.dat AL), some (.dat (.str word)), none] t3 = .ret (.bl true) t3 := by simp [ta, sm7]
  simp only [f_law_picture_right, S.cons, z0, z1, z2, z3, z4, z5, z6, z7, z8, z9, z10, z11, z12, z13, z14, S.thn_nx, S.thn_ret]
end Dry
set_option Elab.async false
set_option linter.all false
set_option maxRecDepth 100000
set_option maxHeartbeats 4000000
set_option autoImplicit false
/-! DryYl: what all keys read in a picture is right. -/
namespace Dry
open PySem PySem.Spec PyProof.Rows L2
/-! ### sets, counts -/
theorem nodup_dups {α : Type} [BEq α] [LawfulBEq α] : ∀ (n : Nat) (xs : List α), xs.length ≤ n → xs.eraseDups.Nodup := by
  intro n
  induction n with
  | zero =>
    intro xs h
    obtain rfl := List.length_eq_zero_iff.mp (Nat.le_zero.mp h)
    exact List.Pairwise.nil
  | succ n ih =>
    intro xs h
    cases xs with
    | nil => exact List.Pairwise.nil
    | cons x xs =>
      rw [List.eraseDups_cons]
      refine List.nodup_cons.mpr ⟨fun hm => ?_, ih _ (Nat.le_trans (List.length_filter_le _ _) (Nat.le_of_succ_le_succ h))⟩
      have := (List.mem_filter.mp (List.mem_eraseDups.mp hm)).2
      rw [beq_self_eq_true] at this
      cases this
theorem dRows_map : ∀ xs : List (List Int), dRows (xs.map dRow) = some xs
  | [] => rfl
  | x :: xs => by
    show (dInts (x.map D.int)).bind (fun ns => (dRows (xs.map dRow)).map (ns :: ·)) = _
    rw [dInts_map, dRows_map xs] <;> rfl
theorem lenset_rows {rs : List (List Int)} (h1 : rs.eraseDups.length ≤ 30) (h2 : rs.length ≤ 1000) : dLenSet [dL dRow rs] = some (nat rs.eraseDups.length) := by
  show (dRows (rs.map dRow)).bind _ = _
  rw [dRows_map]
  show (if rs.eraseDups.length ≤ 30 ∧ rs.length ≤ 1000 then some (D.int rs.eraseDups.length) else none) = _
  rw [if_pos ⟨h1, h2⟩]
  rfl
theorem count_rows {rs : List (List Int)} {w : List Int} : dCount (dL dRow rs) [dRow w] = some (nat (rs.countP fun r => r == w)) := by
  have e : dCount (dL dRow rs) [dRow w] = (if okB (dRow w) = true ∧ okB (dL dRow rs) = true then some (.int ((rs.map dRow).countP fun z => PyData.eqv z.py (dRow w).py : Nat)) else none) := rfl
  rw [e, if_pos ⟨okB_of (n := 64) okN_row (Nat.le_refl _), okB_of (n := 64) (okN_L fun _ _ => okN_row) (Nat.le_refl _)⟩, List.countP_map]
  have e2 : ((fun z => PyData.eqv z.py (dRow w).py) ∘ dRow) = fun r => r == w := funext fun r => EqOk.row r w
  rw [e2]
  rfl
theorem in_bls {bs : List Bool} {x : Bool} : dIn (.bl x) (dL .bl bs) = some (.bl (decide (x ∈ bs))) := by
  have e : dIn (.bl x) (dL .bl bs) = (if okB (.bl x) = true ∧ okB (dL .bl bs) = true then some (.bl ((bs.map D.bl).any fun z => PyData.eqv z.py (D.bl x).py)) else none) := rfl
  rw [e, if_pos ⟨rfl, okB_of (n := 64) (okN_L fun _ _ => okN_bl) (Nat.le_refl _)⟩, List.any_map]
  congr 2
  rw [Bool.eq_iff_iff, List.any_eq_true, decide_eq_true_iff]
  have e2 : ∀ y : Bool, ((fun z => PyData.eqv z.py (D.bl x).py) ∘ D.bl) y = true ↔ y = x := fun y => by cases y <;> cases x <;> decide
  constructor
  · rintro ⟨y, h1, h2⟩
    rw [← (e2 y).mp h2]
    exact h1
  · exact fun h => ⟨x, h, (e2 x).mpr rfl⟩
/-! ### things -/
theorem tame_row {r : List Int} (h : r.length ≤ cap) : tame (dRow r) := ⟨rfl, fun xs hx => by
  cases hx
  refine ⟨by rw [List.length_map]; exact h, fun y hy => ?_⟩
  obtain ⟨i, _, rfl⟩ := List.mem_map.mp hy
  rfl⟩
theorem tame_no {x : D} (h : noTup x = true) (h2 : plainD x = true) : tame x := ⟨h2, fun xs hx => by rw [hx] at h; cases h⟩
theorem tame_rep {x : D} {n : Nat} (hn : n ≤ cap) (h : plainD x = true) : tame (.tup (List.replicate n x)) := ⟨rfl, fun xs hx => by
  cases hx
  refine ⟨by rw [List.length_replicate]; exact hn, fun y hy => ?_⟩
  rw [(List.mem_replicate.mp hy).2]
  exact h⟩
theorem rep_mul {x : D} {n : Nat} (hn : n ≤ 1000) : dMul (.tup [x]) (nat n) = some (.tup (List.replicate n x)) := by
  show (if [x] ≠ [] ∧ (0 : Int) ≤ (n : Int) ∧ (n : Int) ≤ 1000 ∧ [x].length ≤ 1000 then some (D.tup (List.replicate (n : Int).toNat [x]).flatten) else none) = _
  rw [if_pos ⟨by simp, by omega, by omega, by simp⟩]
  simp
section
variable {k n p m c : Nat} {t : Tin} {K : Key} {pp : Prs} {xs : List (List Int)} {q1 q2 : Pic}
/-- what is told of a picture: the message, or that there is none -/
def orPaper {α : Type} (f : α → D) : Option α → D
  | some x => f x
  | none => paperD
/-- what is needed -/
structure Sit2 (p m c : Nat) (K : Key) (pp : Prs) (xs : List (List Int)) (q1 q2 : Pic) : Prop where
  C : Cfg p m c
  h : PrsOk p m c pp
  h4 : pp.length ≤ 4
  hK : KeyOk p m c K
  fit : rowsFit p m c (psOf p pp) = xs.map some
  p1 : PicOk q1 c
  p2 : PicOk q2 c
abbrev fitOf (p m c : Nat) (pp : Prs) : List Key := fitting p m c (psOf p pp)
theorem Sit2.S (s : Sit2 p m c K pp xs q1 q2) : Seen p m c pp xs (dPrs pp) q1 (dPic q1) := ⟨s.h, s.fit, .inl rfl, s.p1, .inl rfl⟩
theorem Sit2.SL (s : Sit2 p m c K pp xs q1 q2) : Seen p m c pp xs (dPrsL pp) q1 (dPic q1) := ⟨s.h, s.fit, .inr rfl, s.p1, .inl rfl⟩
theorem Sit2.SQ (s : Sit2 p m c K pp xs q1 q2) : Seen p m c pp xs (dPrs pp) q1 (dPicL q1) := ⟨s.h, s.fit, .inl rfl, s.p1, .inr rfl⟩
theorem fit_len (C : Cfg p m c) : (fitOf p m c pp).length ≤ 100 := by
  refine Nat.le_trans (List.length_filter_le _ _) ?_
  rw [len_keys]
  exact C.few
theorem fit_key {K' : Key} (h : K' ∈ fitOf p m c pp) : KeyOk p m c K' := ⟨(mem_fit.mp h).1.1, (mem_fit.mp h).1.2⟩
theorem reads_comp (s : Sit2 p m c K pp xs q1 q2) {X6 : Option En} {r : List (Option En)} : ev (Γs (k + 12)) (.comp (.seq (.var 3)) true [18] [18] (.call "_law_reading" (.cons (.var 4) (.cons (.var 18) .nil))))
    [some (.dat .tin), some (.dat (dKey p m K)), some (.dat (dPrs pp)), some (.dat (dL (dKey p m) (fitOf p m c pp))), some (.dat (dPic q1)), some (.dat (dPic q2)), none, none, none, none, none, none, none, none, none, none, none, none, none] t = .ok (dL dRow ((fitOf p m c pp).map fun K' => combo p m K' (restsOf p q1))) t := by
  have := ev_comp (Γ := Γs (k + 12)) (it := .seq (.var 3)) (s := true) (tg := [18]) (vs := [18]) (e := .call "_law_reading" (.cons (.var 4) (.cons (.var 18) .nil))) (t1 := t)
    (ρ := [some (.dat .tin), some (.dat (dKey p m K)), some (.dat (dPrs pp)), some (.dat (dL (dKey p m) (fitOf p m c pp))), some (.dat (dPic q1)), some (.dat (dPic q2)), none, none, none, none, none, none, none, none, none, none, none, none, none]) (t := t) (fitOf p m c pp) (dKey p m) (fun K' => dRow (combo p m K' (restsOf p q1))) (by simp) (Nat.le_trans (fit_len s.C) (by decide))
    (fun K' hK' => ⟨[some (.dat .tin), some (.dat (dKey p m K)), some (.dat (dPrs pp)), some (.dat (dL (dKey p m) (fitOf p m c pp))), some (.dat (dPic q1)), some (.dat (dPic q2)), none, none, none, none, none, none, none, none, none, none, none, none, some (.dat (dKey p m K'))], rfl, by
      have e1 : call (k + 12) "_law_reading" [dPic q1, dKey p m K'] t = .ok (dRow (combo p m K' (restsOf p q1))) t := e_law_reading (k := k + 9) s.C.pr (fit_key hK') s.p1 s.h.mfew
      simp [e1]⟩)
  rw [this]
  congr 1
  exact dL_map.symm
/-- one reading alone exactly if it is told -/
theorem reads_one (s : Sit2 p m c K pp xs q1 q2) : ((fitOf p m c pp).map fun K' => combo p m K' (restsOf p q1)).eraseDups.length ≤ 30 ∧ (((fitOf p m c pp).map fun K' => combo p m K' (restsOf p q1)).eraseDups.length == 1) = isSpanned p (gOf p pp) (restsOf p q1) := by
  have hne := s.S.ne
  have hnd := nodup_dups _ ((fitOf p m c pp).map fun K' => combo p m K' (restsOf p q1)) (Nat.le_refl _)
  have hmem : ∀ r, r ∈ ((fitOf p m c pp).map fun K' => combo p m K' (restsOf p q1)).eraseDups ↔ ∃ K' ∈ fitOf p m c pp, combo p m K' (restsOf p q1) = r := fun r => by
    rw [List.mem_eraseDups, List.mem_map]
  generalize ((fitOf p m c pp).map fun K' => combo p m K' (restsOf p q1)).eraseDups = E at *
  have hsub : E ⊆ allRows p m := fun r hr => by
    obtain ⟨K', hK', rfl⟩ := (hmem r).mp hr
    exact mem_rows.mpr (read_rw s.C.pr.pos (fit_key hK').gr)
  have hle := hnd.length_le_of_subset hsub
  rw [len_rows] at hle
  have hpm : p ^ m ≤ 9 := Nat.le_trans (Nat.pow_le_pow_left (show p ≤ 3 by have := s.C.pr; unfold Pr at this; omega) m) (Nat.le_trans (Nat.pow_le_pow_right (by decide) s.C.m2) (by decide))
  refine ⟨by omega, ?_⟩
  obtain ⟨K0, hK0⟩ := List.exists_mem_of_ne_nil _ hne
  rcases mults_or s.C.pr s.S.gr s.S.rw with ⟨x, s1, s2, s3, _⟩ | ⟨u, s1, s2, s3⟩
  · rw [s1]
    have hall : ∀ r ∈ E, r = combo p m (mOf p pp) x := fun r hr => by
      obtain ⟨K', hK', rfl⟩ := (hmem r).mp hr
      exact told_read s.C.pr s.h.ps hK' s3
    have hin : combo p m (mOf p pp) x ∈ E := (hmem _).mpr ⟨K0, hK0, told_read s.C.pr s.h.ps hK0 s3⟩
    cases E with
    | nil => cases hin
    | cons a E =>
      cases E with
      | nil => rfl
      | cons b E =>
        have h1 := hall a (List.mem_cons_self ..)
        have h2 := hall b (List.mem_cons_of_mem _ (List.mem_cons_self ..))
        exact absurd (h1.trans h2.symm) (fun e => (List.nodup_cons.mp hnd).1 (by rw [e]; exact List.mem_cons_self ..))
  · rw [s1]
    obtain ⟨t1, t2⟩ := two_told s.C.pr s.h.ps s.C.m1 s.S.rw hK0 s3
    have m1 := (hmem _).mpr ⟨K0, hK0, rfl⟩
    have m2 := (hmem _).mpr ⟨_, t1, rfl⟩
    cases E with
    | nil => cases m1
    | cons a E =>
      cases E with
      | nil =>
        exact absurd ((List.mem_singleton.mp m1).trans (List.mem_singleton.mp m2).symm) t2
      | cons b E =>
        rw [beq_eq_false_iff_ne]
        rw [List.length_cons, List.length_cons]
        omega
/-- what alike reading tells -/
theorem apart_word (s : Sit2 p m c K pp xs q1 q2) : ∀ (ρ : Env'), ρ[16]? = some (some (.dat (dL .bl ((fitOf p m c pp).map fun K' => combo p m K' (restsOf p q1) == combo p m K' (restsOf p q2))))) →
    ev (Γs (k + 12)) (.ite (.and_ (.two .in_ (.bl true) (.var 16)) (.two .in_ (.bl false) (.var 16))) (.str "open") (.ite (.ix (.var 16) (.int 0)) (.str "alike") (.str "unlike"))) ρ t = .ok (.str (apart p m c pp (rowLess p (restsOf p q1) (restsOf p q2)))) t := by
  intro ρ hρ
  have hne := s.S.ne
  have hr2 : Rw p c (restsOf p q2) := .rests s.C.pr.pos s.p2
  have hw : Rw p c (rowLess p (restsOf p q1) (restsOf p q2)) := .less s.C.pr.pos s.S.rw.len hr2.len
  have hal : ∀ K' ∈ fitOf p m c pp, (combo p m K' (restsOf p q1) == combo p m K' (restsOf p q2)) = (combo p m K' (rowLess p (restsOf p q1) (restsOf p q2)) == zeroRow m) := fun K' hK' => by
    rw [Bool.eq_iff_iff, beq_iff_eq, beq_iff_eq]
    exact less_read s.C.pr (fit_key hK').len (fit_key hK').gr s.S.rw hr2
  have hmap : ((fitOf p m c pp).map fun K' => combo p m K' (restsOf p q1) == combo p m K' (restsOf p q2)) = (fitOf p m c pp).map fun K' => combo p m K' (rowLess p (restsOf p q1) (restsOf p q2)) == zeroRow m := List.map_congr_left hal
  rw [hmap] at hρ
  unfold apart msgOf
  generalize rowLess p (restsOf p q1) (restsOf p q2) = g at *
  obtain ⟨K0, hK0⟩ := List.exists_mem_of_ne_nil _ hne
  rcases mults_or s.C.pr s.S.gr hw with ⟨x, s1, s2, s3, _⟩ | ⟨u, s1, s2, s3⟩
  · rw [if_pos s1, s2, Option.map_some]
    have hall : ((fitOf p m c pp).map fun K' => combo p m K' g == zeroRow m) = List.replicate (fitOf p m c pp).length (combo p m (mOf p pp) x == zeroRow m) := by
      rw [List.eq_replicate_iff]
      refine ⟨List.length_map .., fun b hb => ?_⟩
      obtain ⟨K', hK', rfl⟩ := List.mem_map.mp hb
      rw [told_read s.C.pr s.h.ps hK' s3]
    rw [hall] at hρ
    have hl : (fitOf p m c pp).length ≠ 0 := fun e => hne (List.length_eq_zero_iff.mp e)
    have hx0 : ∀ y : Bool, ixD (dL .bl (List.replicate (fitOf p m c pp).length y)) (.int 0) t = some (.bl y) := fun y => ix_L (n := 0) rfl (by rw [List.getElem?_replicate, if_pos (Nat.pos_of_ne_zero hl)])
    show _ = Res.ok (D.str (if combo p m (mOf p pp) x == zeroRow m then "alike" else "unlike")) t
    generalize (combo p m (mOf p pp) x == zeroRow m) = y at *
    generalize (fitOf p m c pp).length = l at *
    have ht : decide (true ∈ List.replicate l y) = y := by
      rw [Bool.eq_iff_iff, decide_eq_true_iff, List.mem_replicate]
      exact ⟨fun h => h.2.symm, fun h => ⟨hl, h.symm⟩⟩
    have hf : decide (false ∈ List.replicate l y) = !y := by
      rw [Bool.eq_iff_iff, decide_eq_true_iff, List.mem_replicate]
      cases y
      · exact ⟨fun _ => rfl, fun _ => ⟨hl, rfl⟩⟩
      · exact ⟨fun h => (by cases h.2), fun h => by cases h⟩
    have i1 := in_bls (bs := List.replicate l y) (x := true)
    have i2 := in_bls (bs := List.replicate l y) (x := false)
    rw [ht] at i1
    rw [hf] at i2
    have hx := hx0 y
    generalize dL D.bl (List.replicate l y) = AL at *
    cases y <;> simp [hρ, i1, i2, hx]
  · rw [if_neg (by rw [s1]; exact Bool.false_ne_true)]
    have hz : Rw p m (zeroRow m) := .zero s.C.pr.pos
    have hu : Rw p m (unitRow m 0) := .unit s.C.pr
    have hzu : unitRow m 0 ≠ zeroRow m := fun e => by
      have h1 : at0 (unitRow m 0) 0 = 1 := by
        rw [at0_lt (by rw [unit_len]; exact s.C.m1)]
        unfold unitRow
        rw [List.getElem_map, List.getElem_range]
        rfl
      have h2 : at0 (zeroRow m) 0 = 0 := by
        unfold zeroRow
        rw [at0_lt (by rw [List.length_replicate]; exact s.C.m1), List.getElem_replicate]
      rw [e, h2] at h1
      cases h1
    obtain ⟨Ka, ha1, ha2⟩ := some_reads s.C.pr s.h.ps hne hw hz s1
    obtain ⟨Kb, hb1, hb2⟩ := some_reads s.C.pr s.h.ps hne hw hu s1
    have it : true ∈ (fitOf p m c pp).map fun K' => combo p m K' g == zeroRow m := List.mem_map.mpr ⟨Ka, ha1, beq_iff_eq.mpr ha2⟩
    have jf : false ∈ (fitOf p m c pp).map fun K' => combo p m K' g == zeroRow m := List.mem_map.mpr ⟨Kb, hb1, by
      rw [hb2]
      exact beq_eq_false_iff_ne.mpr hzu⟩
    have i1 := in_bls (bs := (fitOf p m c pp).map fun K' => combo p m K' g == zeroRow m) (x := true)
    have i2 := in_bls (bs := (fitOf p m c pp).map fun K' => combo p m K' g == zeroRow m) (x := false)
    rw [decide_eq_true it] at i1
    rw [decide_eq_true jf] at i2
    generalize dL D.bl ((fitOf p m c pp).map fun K' => combo p m K' g == zeroRow m) = AL at *
    simp [hρ, i1, i2]
end
end Dry
set_option Elab.async false
set_option linter.all false
set_option maxRecDepth 100000
set_option maxHeartbeats 4000000
set_option autoImplicit false
/-! DryYm: _law_picture_right tells True. -/
namespace Dry
open PySem PySem.Spec PyProof.Rows L2
section
variable {k n p m c : Nat} {t : Tin} {K : Key} {pp : Prs} {xs : List (List Int)} {q1 q2 : Pic}
theorem paper_ok {n : Nat} : shortN (n + 1) paperD = true := by
  show (decide (1 ≤ cap) && ([D.str "paper"]).all (shortN n)) = true
  rw [List.all_cons, show shortN n (.str "paper") = true from by cases n <;> (show PyData.strOk _ = true; decide +kernel)] <;> rfl
theorem same_paper {k : Nat} {t : Tin} : call (k + 2) "_law_same" [paperD, paperD] t = .ok (.bl true) t := same_self 1 (k := k) paper_ok
theorem cut_keys {F : List Key} : ∃ fc, dCut none (some 2) (dL (dKey p m) F) = some (.lst fc) := ⟨_, rfl⟩
theorem add_Ll {a b : List D} (h : a.length + b.length ≤ cap) : dAdd (.lst a) (.lst b) = some (.lst (a ++ b)) := if_pos h
theorem pr_mid (s : Sit2 p m c K pp xs q1 q2) (ht : TOk (n + 20) t) {b : Bool} (hb : isSpanned p (gOf p pp) (restsOf p q1) = b) {G2 TOLD TL TWO TWR : D}
    (g2 : ∀ t, appH (Γs (k + 12)) "told_message" (.ok [nat p, dPrs pp, dPicL q1] t) = .ok G2 t)
    (d2 : b = true → ∀ t, ixD (dL dRow ((fitOf p m c pp).map fun K' => combo p m K' (restsOf p q1))) (.int 0) t = some G2) (d2' : b = false → G2 = paperD) (sh : shortN 2 G2 = true)
    (h1 : ∀ t, appH (Γs (k + 12)) "telling" (.ok [nat p, dPrs pp, dPic q1] t) = .ok TOLD t)
    (h2 : ∀ t, appH (Γs (k + 12)) "two_keys" (.ok [nat p, dPrs pp, dPic q1] t) = .ok TWO t)
    (k7 : b = true → (∀ t, call (k + 12) "_law_are_multiples" [nat p, dL dRow (gOf p pp), dRow (restsOf p q1), TOLD] t = .ok (.bl true) t) ∧ TWO = paperD)
    (k8 : b = false → TOLD = paperD ∧ ∀ t, call (k + 12) "_law_is_two" [dL (dKey p m) (fitOf p m c pp), dPic q1, TWO] t = .ok (.bl true) t)
    (tl : dList [TOLD] = some TL) (ta : tame TOLD) (tb : tame TL) (rv : dRev TWO = some TWR)
    (v1 : ∃ v, ∀ t, call (k + 12) "is_two_keys" [nat p, dPrs pp, dPic q1, TWO] t = .ok (.bl v) t ∧ call (k + 12) "_law_is_two" [dL (dKey p m) (fitOf p m c pp), dPic q1, TWO] t = .ok (.bl v) t)
    (v2 : ∃ v, ∀ t, call (k + 12) "is_two_keys" [nat p, dPrs pp, dPic q1, TWR] t = .ok (.bl v) t ∧ call (k + 12) "_law_is_two" [dL (dKey p m) (fitOf p m c pp), dPic q1, TWR] t = .ok (.bl v) t) :
    ∃ t', call (k + 13) "_law_picture_right" [.tin, dKey p m K, dPrs pp, dL (dKey p m) (fitOf p m c pp), dPic q1, dPic q2] t = .ok (.bl true) t' := by
  have hp := s.C.pr
  have hm2 := s.C.m2
  have hc4 := s.C.c4
  have h4 := s.h4
  have hfl : (fitOf p m c pp).length ≤ 100 := fit_len s.C
  have hp3 : p ≤ 3 := by
    unfold Pr at hp
    omega
  have hpn : p ^ pp.length ≤ 81 := Nat.le_trans (Nat.pow_le_pow_left hp3 _) (Nat.le_trans (Nat.pow_le_pow_right (by decide) h4) (by decide))
  obtain ⟨w, t1, w1, w2, w3⟩ := e_law_message (k := k + 10) (K := K) (t := t) (n := n + 18) hp (by omega : m ≤ 100) (ht.mono (by omega))
  obtain ⟨rows1, t2, r1, r2, r3, r4⟩ := e_pick (k := k + 10) (f := dRow) (gs := allRows p pp.length) (cnt := 4) (t := t1) (n := n + 14) (by rw [len_rows]; omega) (by omega) w3
  obtain ⟨ks, t3, u1, u2, u3, u4⟩ := e_pick (k := k + 10) (f := dKey p m) (gs := fitOf p m c pp) (cnt := 2) (t := t2) (n := n + 12) (by omega) (by omega) r4
  obtain ⟨o1, o2⟩ := reads_one s
  obtain ⟨fc, hfc⟩ := cut_keys (p := p) (m := m) (F := fitOf p m c pp)
  obtain ⟨va, hva⟩ := v1
  obtain ⟨vb, hvb⟩ := v2
  have hS := s.S
  have hrow1 : ∀ r ∈ rows1, Rw p pp.length r := fun r hr => mem_rows.mp (r3 r hr)
  have hks : ∀ K' ∈ ks, KeyOk p m c K' := fun K' hK' => fit_key (u3 K' hK')
  have hgl : (gOf p pp).length ≤ 400 := by
    rw [List.length_map, ps_len]
    omega
  have htame : ∀ x ∈ rows1.map dRow ++ [TOLD, TL, .non, .tup (List.replicate pp.length (.str "1")), .tup (List.replicate pp.length (.lst [])), .str "told"], tame x := fun x hx => by
    rcases List.mem_append.mp hx with hx | hx
    · obtain ⟨r, hr, rfl⟩ := List.mem_map.mp hx
      exact tame_row (by rw [(hrow1 r hr).len]; unfold cap; omega)
    · simp only [List.mem_cons, List.not_mem_nil, or_false] at hx
      rcases hx with rfl | rfl | rfl | rfl | rfl | rfl
      · exact ta
      · exact tb
      · exact tame_no rfl rfl
      · exact tame_rep (by unfold cap; omega) rfl
      · exact tame_rep (by unfold cap; omega) rfl
      · exact tame_no rfl rfl
  have hthl : (rows1.map dRow ++ [TOLD, TL, .non, .tup (List.replicate pp.length (.str "1")), .tup (List.replicate pp.length (.lst [])), .str "told"]).length ≤ 100 := by
    rw [List.length_append, List.length_map]
    show rows1.length + 6 ≤ 100
    omega
  have hrl : ((fitOf p m c pp).map fun K' => combo p m K' (restsOf p q1)).length ≤ 1000 := by
    rw [List.length_map]
    omega
  have ms : ∀ {x : D}, tame x → ∀ t, call (k + 12) "_law_are_multiples" [nat p, dL dRow (gOf p pp), dRow (restsOf p q1), x] t = .ok (.bl (isMults p c (gOf p pp) (restsOf p q1) x)) t := fun hx t => e_law_mults (k := k + 9) hp hS.gr hS.rw (by omega) hgl hx
  refine ⟨t3, pr_run (k := k + 12) (P := nat p) (RD := dL dRow ((fitOf p m c pp).map fun K' => combo p m K' (restsOf p q1))) (W := dRow w) (WL := dL .int w) (PL := dPrsL pp) (QL := dPicL q1) (G2 := G2) (G3 := nat ((fitOf p m c pp).countP (readIs p m (restsOf p q1) w))) (TOLD := TOLD) (TWO := TWO) (TWR := TWR) (TL := TL)
    (RS := dL dRow (gOf p pp)) (GL := dRow (restsOf p q1)) (AR := dL dRow (allRows p pp.length)) (LN := nat pp.length) (S1 := .tup (List.replicate pp.length (.str "1"))) (S2 := .tup (List.replicate pp.length (.lst []))) (PK1 := dL dRow rows1) (PK2 := dL (dKey p m) ks) (PT := dT (dKey p m) ks) (FC := .lst fc)
    (TH1 := .lst (rows1.map dRow ++ [TOLD, TL, .non, .tup (List.replicate pp.length (.str "1")), .tup (List.replicate pp.length (.lst [])), .str "told"]))
    (TH2 := two9 (dT (dKey p m) ks) TWO TWR (.lst fc) (dKey p m K))
    (B3 := dL .bl ((rows1.map dRow ++ [TOLD, TL, .non, .tup (List.replicate pp.length (.str "1")), .tup (List.replicate pp.length (.lst [])), .str "told"]).map (isMults p c (gOf p pp) (restsOf p q1))))
    (B5 := dL .bl [isTwo p m (psOf p pp) (restsOf p q1) ks, va, vb, false, isTwo p m (psOf p pp) (restsOf p q1) [K, K], false, false, false, false])
    (AL := dL .bl ((fitOf p m c pp).map fun K' => combo p m K' (restsOf p q1) == combo p m K' (restsOf p q2))) (NN := nat ((fitOf p m c pp).map fun K' => combo p m K' (restsOf p q1)).eraseDups.length) (b := b) (word := apart p m c pp (rowLess p (restsOf p q1) (restsOf p q2))) (t1 := t1) (t2 := t2) (t3 := t3)
    (fun _ => rfl) (reads_comp (X6 := none) (r := []) s) (lenset_rows o1 hrl) ?hb2 w1 (e_lists_pp (k := k + 6) s.h) (e_lists_pic (k := k + 8) s.p1) list_T ?g1 (g2 t1) (e_keys_that_read (k := k + 1) hS w2 (by omega)) ?d2 ?d3 rfl ?sm1 (h1 t1) (h2 t1) ?c2 (e_law_rests (k := k + 10) hp.pos s.p1) ?k7 ?k8 (lenT' rfl)
    (e_all_rows (k := k + 11) hp.le hp.pos (by omega) (by omega)) r1 tl (rep_mul (by omega)) (rep_mul (by omega)) (add_Ll (by rw [List.length_append, List.length_map] at hthl; rw [List.length_map]; unfold cap; omega)) ?c3 ?c4 ?sm3 u1 tuple_L rv hfc rfl ?c5 ?c6 ?sm5 ?c7 (apart_word s _ rfl) (e_told_apart (k := k + 1) hS s.p2 (.inl rfl)) ?sm7⟩
  case hb2 =>
    rw [show dEq (nat ((fitOf p m c pp).map fun K' => combo p m K' (restsOf p q1)).eraseDups.length) (.int 1) = _ from eq_nat (b := 1), o2, hb]
  case g1 =>
    rw [← hb]
    exact e_is_told (k := k + 1) s.SL
  case d2 =>
    cases b with
    | true =>
      have := d2 rfl t1
      generalize dL dRow ((fitOf p m c pp).map fun K' => combo p m K' (restsOf p q1)) = RD at *
      simp [this]
    | false =>
      rw [d2' rfl]
      simp
  case d3 =>
    rw [count_rows, List.countP_map]
    rfl
  case sm1 =>
    refine same_self 3 (k := k + 8) ?_
    show (decide (3 ≤ cap) && ([.bl b, G2, nat _]).all (shortN 2)) = true
    rw [List.all_cons, List.all_cons, List.all_cons, show shortN 2 (.bl b) = true from short_bl, sh, show ∀ a, shortN 2 (nat a) = true from fun a => short_int] <;> rfl
  case c2 =>
    have g1 : dL dRow (gOf p pp) = dL (fun (q : Pic × List Int) => dRow (restsOf p q.1)) pp := by
      unfold gOf
      rw [ps_fst]
      exact dL_map
    rw [g1]
    refine ev_comp pp dPair _ (by simp [dPrs]) (by unfold cap; omega) fun q hq => ⟨_, rfl, ?_⟩
    have x0 : ixD (dPair q) (.int 0) t1 = some (dPic q.1) := rfl
    have e1 : call (k + 12) "_law_rests" [dPic q.1, nat p] t1 = .ok (dRow (restsOf p q.1)) t1 := e_law_rests (k := k + 10) hp.pos (s.h.ok q hq).1
    simp [x0, e1]
  case k7 =>
    cases b with
    | true =>
      obtain ⟨a1, a2⟩ := k7 rfl
      have e1 := a1 t1
      have e2 : call (k + 12) "_law_same" [paperD, paperD] t1 = .ok (.bl true) t1 := same_paper (k := k + 10)
      rw [a2]
      simp [e1]
      rw [e2]
      rfl
    | false => simp
  case k8 =>
    cases b with
    | true => simp
    | false =>
      obtain ⟨a1, a2⟩ := k8 rfl
      have e1 := a2 t1
      have e2 : call (k + 12) "_law_same" [paperD, paperD] t1 = .ok (.bl true) t1 := same_paper (k := k + 10)
      rw [a1]
      simp
      rw [e2]
      simp [e1]
  case c3 =>
    rw [show dL D.bl ((rows1.map dRow ++ [TOLD, TL, .non, .tup (List.replicate pp.length (.str "1")), .tup (List.replicate pp.length (.lst [])), .str "told"]).map (isMults p c (gOf p pp) (restsOf p q1))) = dL (fun x => D.bl (isMults p c (gOf p pp) (restsOf p q1) x)) (rows1.map dRow ++ [TOLD, TL, .non, .tup (List.replicate pp.length (.str "1")), .tup (List.replicate pp.length (.lst [])), .str "told"]) from dL_map]
    refine ev_comp (rows1.map dRow ++ [TOLD, TL, .non, .tup (List.replicate pp.length (.str "1")), .tup (List.replicate pp.length (.lst [])), .str "told"]) id (fun x => D.bl (isMults p c (gOf p pp) (restsOf p q1) x)) (by simp [dItems]) (Nat.le_trans hthl (by decide)) fun x hx => ⟨_, rfl, ?_⟩
    have e1 : call (k + 12) "is_telling" [nat p, dPrs pp, dPic q1, x] t2 = .ok (.bl (isMults p c (gOf p pp) (restsOf p q1) x)) t2 := e_is_telling (k := k + 1) hS (htame x hx)
    simp [e1]
  case c4 =>
    rw [show dL D.bl ((rows1.map dRow ++ [TOLD, TL, .non, .tup (List.replicate pp.length (.str "1")), .tup (List.replicate pp.length (.lst [])), .str "told"]).map (isMults p c (gOf p pp) (restsOf p q1))) = dL (fun x => D.bl (isMults p c (gOf p pp) (restsOf p q1) x)) (rows1.map dRow ++ [TOLD, TL, .non, .tup (List.replicate pp.length (.str "1")), .tup (List.replicate pp.length (.lst [])), .str "told"]) from dL_map]
    refine ev_comp (rows1.map dRow ++ [TOLD, TL, .non, .tup (List.replicate pp.length (.str "1")), .tup (List.replicate pp.length (.lst [])), .str "told"]) id (fun x => D.bl (isMults p c (gOf p pp) (restsOf p q1) x)) (by simp [dItems]) (Nat.le_trans hthl (by decide)) fun x hx => ⟨_, rfl, ?_⟩
    simp [ms (htame x hx)]
  case sm3 => exact same_self 1 (k := k + 10) (short_L (by rw [List.length_map]; exact Nat.le_trans hthl (by decide)) fun _ _ => short_bl)
  case c5 =>
    refine ev_comp (g := fun x => D.bl x.2) [(dT (dKey p m) ks, isTwo p m (psOf p pp) (restsOf p q1) ks), (TWO, va), (TWR, vb), (.lst fc, false), (.tup [dKey p m K, dKey p m K], isTwo p m (psOf p pp) (restsOf p q1) [K, K]), (.non, false), (.tup [.str "a", .str "b"], false), (.tup [.tup [.lst [], .str "1", .non], dKey p m K], false), (.str "two", false)] Prod.fst (by simp [dItems]) (show 9 ≤ cap by decide) fun x hx => ⟨_, rfl, ?_⟩
    have key : call (k + 12) "is_two_keys" [nat p, dPrs pp, dPic q1, x.1] t3 = .ok (.bl x.2) t3 := by
      simp only [List.mem_cons, List.not_mem_nil, or_false] at hx
      rcases hx with rfl | rfl | rfl | rfl | rfl | rfl | rfl | rfl | rfl
      · exact e_is_two_keys (k := k + 1) hS hks
      · exact (hva t3).1
      · exact (hvb t3).1
      · exact e_is_two_no (k := k + 1) hS rfl
      · exact e_is_two_keys (k := k + 1) hS (ks := [K, K]) (fun K' hK' => by
          simp only [List.mem_cons, List.not_mem_nil, or_false, or_self] at hK'
          rw [hK']
          exact s.hK)
      · exact e_is_two_no (k := k + 1) hS rfl
      · exact e_is_two_ab (k := k + 1) hS rfl rfl
      · exact e_is_two_odd (k := k + 1) hS s.hK
      · exact e_is_two_no (k := k + 1) hS rfl
    simp [key]
  case c6 =>
    refine ev_comp (g := fun x => D.bl x.2) [(dT (dKey p m) ks, isTwo p m (psOf p pp) (restsOf p q1) ks), (TWO, va), (TWR, vb), (.lst fc, false), (.tup [dKey p m K, dKey p m K], isTwo p m (psOf p pp) (restsOf p q1) [K, K]), (.non, false), (.tup [.str "a", .str "b"], false), (.tup [.tup [.lst [], .str "1", .non], dKey p m K], false), (.str "two", false)] Prod.fst (by simp [dItems]) (show 9 ≤ cap by decide) fun x hx => ⟨_, rfl, ?_⟩
    have key : call (k + 12) "_law_is_two" [dL (dKey p m) (fitOf p m c pp), dPic q1, x.1] t3 = .ok (.bl x.2) t3 := by
      simp only [List.mem_cons, List.not_mem_nil, or_false] at hx
      rcases hx with rfl | rfl | rfl | rfl | rfl | rfl | rfl | rfl | rfl
      · exact e_two_keysF (k := k + 6) s.h s.p1 hks
      · exact (hva t3).2
      · exact (hvb t3).2
      · exact e_two_no (k := k + 6) rfl
      · exact e_two_keysF (k := k + 6) s.h s.p1 (ks := [K, K]) (fun K' hK' => by
          simp only [List.mem_cons, List.not_mem_nil, or_false, or_self] at hK'
          rw [hK']
          exact s.hK)
      · exact e_two_no (k := k + 6) rfl
      · exact e_two_bad (k := k + 6) (in_str (by decide +kernel)) (in_str (by decide +kernel))
      · exact e_two_bad (k := k + 6) (in_oddkey (by decide +kernel)) in_key
      · exact e_two_no (k := k + 6) rfl
    simp [key]
  case sm5 => exact same_self 1 (k := k + 10) (short_L (show 9 ≤ cap by decide) fun _ _ => short_bl)
  case c7 =>
    rw [show dL D.bl ((fitOf p m c pp).map fun K' => combo p m K' (restsOf p q1) == combo p m K' (restsOf p q2)) = dL (fun K' => D.bl (combo p m K' (restsOf p q1) == combo p m K' (restsOf p q2))) (fitOf p m c pp) from dL_map]
    refine ev_comp (fitOf p m c pp) (dKey p m) (fun K' => D.bl (combo p m K' (restsOf p q1) == combo p m K' (restsOf p q2))) (by simp) (Nat.le_trans hfl (by decide)) fun K' hK' => ⟨_, rfl, ?_⟩
    have e1 : call (k + 12) "_law_reading" [dPic q1, dKey p m K'] t3 = .ok (dRow (combo p m K' (restsOf p q1))) t3 := e_law_reading (k := k + 9) hp (fit_key hK') s.p1 s.h.mfew
    have e2 : call (k + 12) "_law_reading" [dPic q2, dKey p m K'] t3 = .ok (dRow (combo p m K' (restsOf p q2))) t3 := e_law_reading (k := k + 9) hp (fit_key hK') s.p2 s.h.mfew
    have e3 : dEq (dRow (combo p m K' (restsOf p q1))) (dRow (combo p m K' (restsOf p q2))) = some (.bl (combo p m K' (restsOf p q1) == combo p m K' (restsOf p q2))) := by
      rw [dEq_ok okN_row okN_row, EqOk.row]
    simp [e1, e2, e3]
  case sm7 =>
    refine same_self 0 (k := k + 11) ?_
    show PyData.strOk _ = true
    unfold apart
    split
    · split
      · split <;> decide +kernel
      · decide +kernel
    · decide +kernel
theorem heardR_ok {d : D} {t : Tin} : heardR (.ok d t) = .ok d t := rfl
theorem heardR_exn {t : Tin} : heardR (.exn t) = .ok paperD t := rfl
theorem e_picture_right (s : Sit2 p m c K pp xs q1 q2) (ht : TOk (n + 20) t) : ∃ t', call (k + 13) "_law_picture_right" [.tin, dKey p m K, dPrs pp, dL (dKey p m) (fitOf p m c pp), dPic q1, dPic q2] t = .ok (.bl true) t' := by
  have hp := s.C.pr
  have hS := s.S
  have hm2 := s.C.m2
  have hc4 := s.C.c4
  have h4 := s.h4
  obtain ⟨K0, hK0⟩ := List.exists_mem_of_ne_nil _ hS.ne
  have hk0 : turned c xs ∈ fitOf p m c pp := hS.mem
  have t2 : ∀ (r : Res D) (t : Tin), call (k + 12) "told_message" [nat p, dPrs pp, dPicL q1] t = r → appH (Γs (k + 12)) "told_message" (.ok [nat p, dPrs pp, dPicL q1] t) = heardR r := fun r t h => by
    rw [appH_call (k := k + 11) of_told_message rfl (.inr rfl), h]
  have t3 : ∀ (r : Res D) (t : Tin), call (k + 12) "telling" [nat p, dPrs pp, dPic q1] t = r → appH (Γs (k + 12)) "telling" (.ok [nat p, dPrs pp, dPic q1] t) = heardR r := fun r t h => by
    rw [appH_call (k := k + 11) of_telling rfl (.inr rfl), h]
  have t4 : ∀ (r : Res D) (t : Tin), call (k + 12) "two_keys" [nat p, dPrs pp, dPic q1] t = r → appH (Γs (k + 12)) "two_keys" (.ok [nat p, dPrs pp, dPic q1] t) = heardR r := fun r t h => by
    rw [appH_call (k := k + 11) of_two_keys rfl (.inr rfl), h]
  have m1 := fun t => e_told_message (k := k + 1) (t := t) s.SQ
  have m2 := fun t => e_telling (k := k + 1) (t := t) hS
  rcases mults_or hp hS.gr hS.rw with ⟨x, s1, s2, s3, s4⟩ | ⟨u, s1, s2, s3⟩
  · have hmsg : msgOf p m c pp (restsOf p q1) = some (combo p m (mOf p pp) x) := by
      unfold msgOf
      rw [s2] <;> rfl
    have hxl : x.length ≤ cap := by
      rw [s3.rw.len, List.length_map, ps_len]
      unfold cap
      omega
    refine pr_mid s ht s1 (G2 := dRow (combo p m (mOf p pp) x)) (TOLD := dRow x) (TL := dL .int x) (TWO := paperD) (TWR := paperD) (fun t => ?_) (fun _ t => ?_) (fun z => by cases z) (short_row (by rw [(combo_rw hp.pos fun a ha => (hS.gm a ha).len : Rw p m (combo p m (mOf p pp) x)).len]; unfold cap; omega)) (fun t => ?_) (fun t => ?_) (fun _ => ⟨fun t => ?_, rfl⟩) (fun z => by cases z) list_T (tame_row hxl) (tame_no rfl rfl) rfl
      ⟨false, fun t => ⟨e_is_two_no (k := k + 1) hS rfl, e_two_no (k := k + 6) rfl⟩⟩ ⟨false, fun t => ⟨e_is_two_no (k := k + 1) hS rfl, e_two_no (k := k + 6) rfl⟩⟩
    · have := m1 t
      rw [hmsg] at this
      exact t2 _ t this
    · obtain ⟨F0, hF0⟩ : ∃ F0, (fitOf p m c pp)[0]? = some F0 := ⟨_, List.getElem?_eq_getElem (List.length_pos_iff.mpr hS.ne)⟩
      have e : ((fitOf p m c pp).map fun K' => combo p m K' (restsOf p q1))[0]? = some (combo p m (mOf p pp) x) := by
        rw [List.getElem?_map, hF0, Option.map_some, told_read hp s.h.ps (List.mem_of_getElem? hF0) s3]
      exact ix_L (n := 0) rfl e
    · have := m2 t
      rw [s2] at this
      exact t3 _ t this
    · exact t4 _ t (e_two_keys_no (k := k + 1) hS s4)
    · rw [e_law_mults (k := k + 9) hp hS.gr hS.rw (by omega) (by rw [List.length_map, ps_len]; omega) (tame_row hxl)]
      congr 2
      unfold isMults
      have hd : digitsD p (dRow x) = some x := by
        obtain ⟨r1, r2⟩ := digits_row (p := p) (d := dRow x)
        rw [row_belowD s3.rw] at r1
        cases hz : digitsD p (dRow x) with
        | none =>
          rw [hz] at r1
          cases r1
        | some ds =>
          obtain ⟨e, _⟩ := r2 ds hz
          have e1 := dInts_map x
          have e2 := dInts_map ds
          rw [show x.map D.int = ds.map D.int from D.tup.inj e, e2] at e1
          rw [Option.some.inj e1]
      rw [hd]
      show (decide (x.length = (gOf p pp).length) && (combo p c (gOf p pp) x == restsOf p q1)) = true
      rw [decide_eq_true s3.rw.len, s3.eq, beq_self_eq_true] <;> rfl
  · have hmsg : msgOf p m c pp (restsOf p q1) = none := by
      unfold msgOf
      rw [s2] <;> rfl
    haveI := hp.nz
    have hu : Rw p c u := (bar_some (Fin p) hp hS.gr hS.rw s3).rw
    obtain ⟨w1, w2⟩ := two_told hp s.h.ps s.C.m1 hS.rw hk0 s3
    have kk : ∀ K' ∈ [turned c xs, key2 p m c xs u], KeyOk p m c K' := fun K' hK' => by
      simp only [List.mem_cons, List.not_mem_nil, or_false] at hK'
      rcases hK' with rfl | rfl
      · exact hS.key
      · exact fit_key w1
    have kk2 : ∀ K' ∈ [key2 p m c xs u, turned c xs], KeyOk p m c K' := fun K' hK' => kk K' (by
      simp only [List.mem_cons, List.not_mem_nil, or_false] at hK' ⊢
      exact hK'.symm)
    have hfk : ∀ K' ∈ fitOf p m c pp, fitsK p m (psOf p pp) K' = true := fun K' hK' => (List.mem_filter.mp hK').2
    refine pr_mid s ht s1 (G2 := paperD) (TOLD := paperD) (TL := paperD) (TWO := dT (dKey p m) [turned c xs, key2 p m c xs u]) (TWR := dT (dKey p m) [key2 p m c xs u, turned c xs]) (fun t => ?_) (fun z => by cases z) (fun _ => rfl) paper_ok (fun t => ?_) (fun t => ?_) (fun z => by cases z) (fun _ => ⟨rfl, fun t => ?_⟩) rfl (tame_no rfl rfl) (tame_no rfl rfl) rfl
      ⟨_, fun t => ⟨e_is_two_keys (k := k + 1) hS kk, e_two_keysF (k := k + 6) s.h s.p1 kk⟩⟩ ⟨_, fun t => ⟨e_is_two_keys (k := k + 1) hS kk2, e_two_keysF (k := k + 6) s.h s.p1 kk2⟩⟩
    · have := m1 t
      rw [hmsg] at this
      exact t2 _ t this
    · have := m2 t
      rw [s2] at this
      exact t3 _ t this
    · exact t4 _ t (e_two_keys (k := k + 1) hS s3 hu)
    · rw [e_two_keysF (k := k + 6) s.h s.p1 kk]
      congr 2
      show ((fitsK p m (psOf p pp) (turned c xs) && fitsK p m (psOf p pp) (key2 p m c xs u)) && combo p m (turned c xs) (restsOf p q1) != combo p m (key2 p m c xs u) (restsOf p q1)) = true
      rw [hfk _ hk0, hfk _ w1, bne_iff_ne.mpr w2] <;> rfl
end
end Dry
set_option Elab.async false
set_option linter.all false
set_option maxRecDepth 100000
set_option maxHeartbeats 4000000
set_option autoImplicit false
/-! DryYn: the runs of _law_right, over abstract data. -/
namespace Dry
open PySem PySem.Spec PyProof.Rows L2
theorem lr_empty {k : Nat} {KD PD P FD PL TOLD FL LN AR PK TL S1 S2 TH BS : D} {t t1 t2 : Tin}
    (s0 : call k "_law_seen" [.tin] t = .ok (.tup [KD, PD]) t1)
    (hP : ∀ t, ixD KD (.int 0) t = some P)
    (ff : call k "_law_fitting" [KD, PD] t1 = .ok FD t1)
    (hl : ∀ t, call k "_law_lists" [PD] t = .ok PL t)
    (od : appH (Γs k) "odd_row" (.ok [P, PL] t1) = .ok TOLD t1)
    (hm : call k "how_many_keys" [P, PD] t1 = .ok FL t1)
    (lf : dLen [FD] = some FL)
    (sm1 : call k "_law_same" [FL, FL] t1 = .ok (.bl true) t1)
    (ln : dLen [PD] = some LN)
    (ar : call k "_law_all_rows" [P, LN] t1 = .ok AR t1)
    (pk : call k "_law_pick" [.tin, AR, .int 6] t1 = .ok PK t2)
    (tl : dList [TOLD] = some TL)
    (s1 : dMul (.tup [.str "1"]) LN = some S1)
    (s2 : dMul (.tup [.lst []]) LN = some S2)
    (th : dAdd PK (.lst [TOLD, TL, S1, S2, .non]) = some TH)
    (c1 : ev (Γs k) (.comp (.seq (.var 6)) true [7] [7] (.call "is_odd_row" (.cons (.var 3) (.cons (.var 2) (.cons (.var 7) .nil))))) [some (.dat .tin), some (.dat KD), some (.dat PD), some (.dat P), some (.dat FD), some (.dat TOLD), some (.dat TH), none, none, none, none] t2 = .ok BS t2)
    (c2 : ev (Γs k) (.comp (.seq (.var 6)) true [7] [7] (.call "_law_is_odd" (.cons (.var 3) (.cons (.var 2) (.cons (.var 7) .nil))))) [some (.dat .tin), some (.dat KD), some (.dat PD), some (.dat P), some (.dat FD), some (.dat TOLD), some (.dat TH), none, none, none, none] t2 = .ok BS t2)
    (sm2 : call k "_law_same" [BS, BS] t2 = .ok (.bl true) t2)
    (fe : dEq FD (.lst []) = some (.bl true))
    (io : call k "_law_is_odd" [P, PD, TOLD] t2 = .ok (.bl true) t2)
    (sk : appH (Γs k) "some_key" (.ok [P, PD] t2) = .ok paperD t2)
    (sm3 : call k "_law_same" [paperD, paperD] t2 = .ok (.bl true) t2)
    : call (k + 1) "_law_right" [.tin] t = .ok (.bl true) t2 := by
  rw [call_of of_law_right rfl]
  refine callF_ret ?_
  show exs _ f_law_right [some (.dat .tin), none, none, none, none, none, none, none, none, none, none] t = _
  have z0 : ex (Γs k) (.asg false [1, 2] (.call "_law_seen" (.cons (.var 0) .nil))) [some (.dat .tin), none, none, none, none, none, none, none, none, none, none] t = .nx [some (.dat .tin), some (.dat KD), some (.dat PD), none, none, none, none, none, none, none, none] t1 := by simp [s0]
  have z1 : ex (Γs k) (.asg false [3, 4] (.tup (.cons (.ix (.var 1) (.int 0)) (.cons (.call "_law_fitting" (.cons (.var 1) (.cons (.var 2) .nil))) .nil)))) [some (.dat .tin), some (.dat KD), some (.dat PD), none, none, none, none, none, none, none, none] t1 = .nx [some (.dat .tin), some (.dat KD), some (.dat PD), some (.dat P), some (.dat FD), none, none, none, none, none, none] t1 := by simp [hP, ff]
  have z2 : ex (Γs k) (.asg true [5] (.heard "odd_row" (.cons (.var 3) (.cons (.call "_law_lists" (.cons (.var 2) .nil)) .nil)))) [some (.dat .tin), some (.dat KD), some (.dat PD), some (.dat P), some (.dat FD), none, none, none, none, none, none] t1 = .nx [some (.dat .tin), some (.dat KD), some (.dat PD), some (.dat P), some (.dat FD), some (.dat TOLD), none, none, none, none, none] t1 := by simp [hl, od]
  have z3 : ex (Γs k) (.ife (.not_ (.call "_law_same" (.cons (.call "how_many_keys" (.cons (.var 3) (.cons (.var 2) .nil))) (.cons (.fn .len (.cons (.var 4) .nil)) .nil)))) (.cons (.ret (.bl false)) .nil) .nil) [some (.dat .tin), some (.dat KD), some (.dat PD), some (.dat P), some (.dat FD), some (.dat TOLD), none, none, none, none, none] t1 = .nx [some (.dat .tin), some (.dat KD), some (.dat PD), some (.dat P), some (.dat FD), some (.dat TOLD), none, none, none, none, none] t1 := by simp [hm, lf, sm1]
  have z4 : ex (Γs k) (.asg true [6] (.two .add (.call "_law_pick" (.cons (.var 0) (.cons (.call "_law_all_rows" (.cons (.var 3) (.cons (.fn .len (.cons (.var 2) .nil)) .nil))) (.cons (.int 6) .nil)))) (.lst (.cons (.var 5) (.cons (.fn .list (.cons (.var 5) .nil)) (.cons (.two .mul (.tup (.cons (.str "1") .nil)) (.fn .len (.cons (.var 2) .nil))) (.cons (.two .mul (.tup (.cons (.lst .nil) .nil)) (.fn .len (.cons (.var 2) .nil))) (.cons .non .nil)))))))) [some (.dat .tin), some (.dat KD), some (.dat PD), some (.dat P), some (.dat FD), some (.dat TOLD), none, none, none, none, none] t1 = .nx [some (.dat .tin), some (.dat KD), some (.dat PD), some (.dat P), some (.dat FD), some (.dat TOLD), some (.dat TH), none, none, none, none] t2 := by
    simp [ln, ar, pk, tl, s1, s2]
    rw [th]
    rfl
  have z5 : ex (Γs k) (.ife (.not_ (.call "_law_same" (.cons (.comp (.seq (.var 6)) true [7] [7] (.call "is_odd_row" (.cons (.var 3) (.cons (.var 2) (.cons (.var 7) .nil))))) (.cons (.comp (.seq (.var 6)) true [7] [7] (.call "_law_is_odd" (.cons (.var 3) (.cons (.var 2) (.cons (.var 7) .nil))))) .nil)))) (.cons (.ret (.bl false)) .nil) .nil) [some (.dat .tin), some (.dat KD), some (.dat PD), some (.dat P), some (.dat FD), some (.dat TOLD), some (.dat TH), none, none, none, none] t2 = .nx [some (.dat .tin), some (.dat KD), some (.dat PD), some (.dat P), some (.dat FD), some (.dat TOLD), some (.dat TH), none, none, none, none] t2 := by simp [c1, c2, sm2]
  have z6 : ex (Γs k) (.ife (.two .eq (.var 4) (.lst .nil)) (.cons (.ret (.and_ (.call "_law_is_odd" (.cons (.var 3) (.cons (.var 2) (.cons (.var 5) .nil)))) (.call "_law_same" (.cons (.heard "some_key" (.cons (.var 3) (.cons (.var 2) .nil))) (.cons (.lst (.cons (.str "paper") .nil)) .nil))))) .nil) .nil) [some (.dat .tin), some (.dat KD), some (.dat PD), some (.dat P), some (.dat FD), some (.dat TOLD), some (.dat TH), none, none, none, none] t2 = .ret (.bl true) t2 := by simp [fe, io, sk, sm3]
  simp only [f_law_right, S.cons, z0, z1, z2, z3, z4, z5, z6, S.thn_nx, S.thn_ret]
theorem lr_some {k : Nat} {KD PD P FD PL TOLD FL LN AR PK TL S1 S2 TH BS OWN KC LC QA PS QB : D} {bk : Bool} {t t1 t2 t3 t4 t5 : Tin}
    (s0 : call k "_law_seen" [.tin] t = .ok (.tup [KD, PD]) t1)
    (hP : ∀ t, ixD KD (.int 0) t = some P)
    (ff : call k "_law_fitting" [KD, PD] t1 = .ok FD t1)
    (hl : ∀ t, call k "_law_lists" [PD] t = .ok PL t)
    (od : appH (Γs k) "odd_row" (.ok [P, PL] t1) = .ok TOLD t1)
    (hm : call k "how_many_keys" [P, PD] t1 = .ok FL t1)
    (lf : dLen [FD] = some FL)
    (sm1 : call k "_law_same" [FL, FL] t1 = .ok (.bl true) t1)
    (ln : dLen [PD] = some LN)
    (ar : call k "_law_all_rows" [P, LN] t1 = .ok AR t1)
    (pk : call k "_law_pick" [.tin, AR, .int 6] t1 = .ok PK t2)
    (tl : dList [TOLD] = some TL)
    (s1 : dMul (.tup [.str "1"]) LN = some S1)
    (s2 : dMul (.tup [.lst []]) LN = some S2)
    (th : dAdd PK (.lst [TOLD, TL, S1, S2, .non]) = some TH)
    (c1 : ev (Γs k) (.comp (.seq (.var 6)) true [7] [7] (.call "is_odd_row" (.cons (.var 3) (.cons (.var 2) (.cons (.var 7) .nil))))) [some (.dat .tin), some (.dat KD), some (.dat PD), some (.dat P), some (.dat FD), some (.dat TOLD), some (.dat TH), none, none, none, none] t2 = .ok BS t2)
    (c2 : ev (Γs k) (.comp (.seq (.var 6)) true [7] [7] (.call "_law_is_odd" (.cons (.var 3) (.cons (.var 2) (.cons (.var 7) .nil))))) [some (.dat .tin), some (.dat KD), some (.dat PD), some (.dat P), some (.dat FD), some (.dat TOLD), some (.dat TH), none, none, none, none] t2 = .ok BS t2)
    (sm2 : call k "_law_same" [BS, BS] t2 = .ok (.bl true) t2)
    (fe : dEq FD (.lst []) = some (.bl false))
    (sk : call k "some_key" [P, PL] t2 = .ok OWN t2)
    (k8 : ev (Γs k) (.or_ (.not_ (.call "_law_same" (.cons (.var 5) (.cons (.lst (.cons (.str "paper") .nil)) .nil)))) (.or_ (.two .notin (.var 7) (.var 4)) (.not_ (.call "_law_same" (.cons (.var 7) (.cons (.ix (.var 4) (.mt .index (.var 4) (.cons (.var 7) .nil))) .nil)))))) [some (.dat .tin), some (.dat KD), some (.dat PD), some (.dat P), some (.dat FD), some (.dat TOLD), some (.dat TH), some (.dat OWN), none, none, none] t2 = .ok (.bl false) t2)
    (c3 : ev (Γs k) (.comp (.seq (.tup (.cons (.var 1) (.cons (.var 7) .nil)))) true [10] [10] (.call "fits_pairs" (.cons (.var 3) (.cons (.var 2) (.cons (.var 10) .nil))))) [some (.dat .tin), some (.dat KD), some (.dat PD), some (.dat P), some (.dat FD), some (.dat TOLD), some (.dat TH), some (.dat OWN), none, none, none] t2 = .ok (.lst [.bl bk, .bl true]) t2)
    (ki : dIn KD FD = some (.bl bk))
    (sm4 : call k "_law_same" [.lst [.bl bk, .bl true], .lst [.bl bk, .bl true]] t2 = .ok (.bl true) t2)
    (x2 : ∀ t, ixD KD (.int 2) t = some KC)
    (lc : dLen [KC] = some LC)
    (pi : call k "_law_picture" [.tin, LC] t2 = .ok QA t3)
    (c4 : ev (Γs k) (.comp (.seq (.var 2)) true [10] [10] (.ix (.var 10) (.int 0))) [some (.dat .tin), some (.dat KD), some (.dat PD), some (.dat P), some (.dat FD), some (.dat TOLD), some (.dat TH), some (.dat OWN), none, none, none] t3 = .ok PS t3)
    (of : call k "_law_of" [.tin, PS] t3 = .ok QB t4)
    (pr : call k "_law_picture_right" [.tin, KD, PD, FD, QA, QB] t4 = .ok (.bl true) t5)
    : call (k + 1) "_law_right" [.tin] t = .ok (.bl true) t5 := by
  rw [call_of of_law_right rfl]
  refine callF_ret ?_
  show exs _ f_law_right [some (.dat .tin), none, none, none, none, none, none, none, none, none, none] t = _
  have z0 : ex (Γs k) (.asg false [1, 2] (.call "_law_seen" (.cons (.var 0) .nil))) [some (.dat .tin), none, none, none, none, none, none, none, none, none, none] t = .nx [some (.dat .tin), some (.dat KD), some (.dat PD), none, none, none, none, none, none, none, none] t1 := by simp [s0]
  have z1 : ex (Γs k) (.asg false [3, 4] (.tup (.cons (.ix (.var 1) (.int 0)) (.cons (.call "_law_fitting" (.cons (.var 1) (.cons (.var 2) .nil))) .nil)))) [some (.dat .tin), some (.dat KD), some (.dat PD), none, none, none, none, none, none, none, none] t1 = .nx [some (.dat .tin), some (.dat KD), some (.dat PD), some (.dat P), some (.dat FD), none, none, none, none, none, none] t1 := by simp [hP, ff]
  have z2 : ex (Γs k) (.asg true [5] (.heard "odd_row" (.cons (.var 3) (.cons (.call "_law_lists" (.cons (.var 2) .nil)) .nil)))) [some (.dat .tin), some (.dat KD), some (.dat PD), some (.dat P), some (.dat FD), none, none, none, none, none, none] t1 = .nx [some (.dat .tin), some (.dat KD), some (.dat PD), some (.dat P), some (.dat FD), some (.dat TOLD), none, none, none, none, none] t1 := by simp [hl, od]
  have z3 : ex (Γs k) (.ife (.not_ (.call "_law_same" (.cons (.call "how_many_keys" (.cons (.var 3) (.cons (.var 2) .nil))) (.cons (.fn .len (.cons (.var 4) .nil)) .nil)))) (.cons (.ret (.bl false)) .nil) .nil) [some (.dat .tin), some (.dat KD), some (.dat PD), some (.dat P), some (.dat FD), some (.dat TOLD), none, none, none, none, none] t1 = .nx [some (.dat .tin), some (.dat KD), some (.dat PD), some (.dat P), some (.dat FD), some (.dat TOLD), none, none, none, none, none] t1 := by simp [hm, lf, sm1]
  have z4 : ex (Γs k) (.asg true [6] (.two .add (.call "_law_pick" (.cons (.var 0) (.cons (.call "_law_all_rows" (.cons (.var 3) (.cons (.fn .len (.cons (.var 2) .nil)) .nil))) (.cons (.int 6) .nil)))) (.lst (.cons (.var 5) (.cons (.fn .list (.cons (.var 5) .nil)) (.cons (.two .mul (.tup (.cons (.str "1") .nil)) (.fn .len (.cons (.var 2) .nil))) (.cons (.two .mul (.tup (.cons (.lst .nil) .nil)) (.fn .len (.cons (.var 2) .nil))) (.cons .non .nil)))))))) [some (.dat .tin), some (.dat KD), some (.dat PD), some (.dat P), some (.dat FD), some (.dat TOLD), none, none, none, none, none] t1 = .nx [some (.dat .tin), some (.dat KD), some (.dat PD), some (.dat P), some (.dat FD), some (.dat TOLD), some (.dat TH), none, none, none, none] t2 := by
    simp [ln, ar, pk, tl, s1, s2]
    rw [th]
    rfl
  have z5 : ex (Γs k) (.ife (.not_ (.call "_law_same" (.cons (.comp (.seq (.var 6)) true [7] [7] (.call "is_odd_row" (.cons (.var 3) (.cons (.var 2) (.cons (.var 7) .nil))))) (.cons (.comp (.seq (.var 6)) true [7] [7] (.call "_law_is_odd" (.cons (.var 3) (.cons (.var 2) (.cons (.var 7) .nil))))) .nil)))) (.cons (.ret (.bl false)) .nil) .nil) [some (.dat .tin), some (.dat KD), some (.dat PD), some (.dat P), some (.dat FD), some (.dat TOLD), some (.dat TH), none, none, none, none] t2 = .nx [some (.dat .tin), some (.dat KD), some (.dat PD), some (.dat P), some (.dat FD), some (.dat TOLD), some (.dat TH), none, none, none, none] t2 := by simp [c1, c2, sm2]
  have z6 : ex (Γs k) (.ife (.two .eq (.var 4) (.lst .nil)) (.cons (.ret (.and_ (.call "_law_is_odd" (.cons (.var 3) (.cons (.var 2) (.cons (.var 5) .nil)))) (.call "_law_same" (.cons (.heard "some_key" (.cons (.var 3) (.cons (.var 2) .nil))) (.cons (.lst (.cons (.str "paper") .nil)) .nil))))) .nil) .nil) [some (.dat .tin), some (.dat KD), some (.dat PD), some (.dat P), some (.dat FD), some (.dat TOLD), some (.dat TH), none, none, none, none] t2 = .nx [some (.dat .tin), some (.dat KD), some (.dat PD), some (.dat P), some (.dat FD), some (.dat TOLD), some (.dat TH), none, none, none, none] t2 := by simp [fe]
  have z7 : ex (Γs k) (.asg true [7] (.call "some_key" (.cons (.var 3) (.cons (.call "_law_lists" (.cons (.var 2) .nil)) .nil)))) [some (.dat .tin), some (.dat KD), some (.dat PD), some (.dat P), some (.dat FD), some (.dat TOLD), some (.dat TH), none, none, none, none] t2 = .nx [some (.dat .tin), some (.dat KD), some (.dat PD), some (.dat P), some (.dat FD), some (.dat TOLD), some (.dat TH), some (.dat OWN), none, none, none] t2 := by simp [hl, sk]
  have z8 : ex (Γs k) (.ife (.or_ (.not_ (.call "_law_same" (.cons (.var 5) (.cons (.lst (.cons (.str "paper") .nil)) .nil)))) (.or_ (.two .notin (.var 7) (.var 4)) (.not_ (.call "_law_same" (.cons (.var 7) (.cons (.ix (.var 4) (.mt .index (.var 4) (.cons (.var 7) .nil))) .nil)))))) (.cons (.ret (.bl false)) .nil) .nil) [some (.dat .tin), some (.dat KD), some (.dat PD), some (.dat P), some (.dat FD), some (.dat TOLD), some (.dat TH), some (.dat OWN), none, none, none] t2 = .nx [some (.dat .tin), some (.dat KD), some (.dat PD), some (.dat P), some (.dat FD), some (.dat TOLD), some (.dat TH), some (.dat OWN), none, none, none] t2 := by
    rw [S.ife, k8]
    rfl
  have z9 : ex (Γs k) (.ife (.not_ (.call "_law_same" (.cons (.comp (.seq (.tup (.cons (.var 1) (.cons (.var 7) .nil)))) true [10] [10] (.call "fits_pairs" (.cons (.var 3) (.cons (.var 2) (.cons (.var 10) .nil))))) (.cons (.lst (.cons (.two .in_ (.var 1) (.var 4)) (.cons (.bl true) .nil))) .nil)))) (.cons (.ret (.bl false)) .nil) .nil) [some (.dat .tin), some (.dat KD), some (.dat PD), some (.dat P), some (.dat FD), some (.dat TOLD), some (.dat TH), some (.dat OWN), none, none, none] t2 = .nx [some (.dat .tin), some (.dat KD), some (.dat PD), some (.dat P), some (.dat FD), some (.dat TOLD), some (.dat TH), some (.dat OWN), none, none, none] t2 := by simp [c3, ki, sm4]
  have z10 : ex (Γs k) (.par 8 9 (.dat (.call "_law_picture" (.cons (.var 0) (.cons (.fn .len (.cons (.ix (.var 1) (.int 2)) .nil)) .nil)))) (.dat (.call "_law_of" (.cons (.var 0) (.cons (.comp (.seq (.var 2)) true [10] [10] (.ix (.var 10) (.int 0))) .nil))))) [some (.dat .tin), some (.dat KD), some (.dat PD), some (.dat P), some (.dat FD), some (.dat TOLD), some (.dat TH), some (.dat OWN), none, none, none] t2 = .nx [some (.dat .tin), some (.dat KD), some (.dat PD), some (.dat P), some (.dat FD), some (.dat TOLD), some (.dat TH), some (.dat OWN), some (.dat QA), some (.dat QB), none] t4 := by simp [x2, lc, pi, c4, of]
  have z11 : ex (Γs k) (.ret (.call "_law_picture_right" (.cons (.var 0) (.cons (.var 1) (.cons (.var 2) (.cons (.var 4) (.cons (.var 8) (.cons (.var 9) .nil)))))))) [some (.dat .tin), some (.dat KD), some (.dat PD), some (.dat P), some (.dat FD), some (.dat TOLD), some (.dat TH), some (.dat OWN), some (.dat QA), some (.dat QB), none] t4 = .ret (.bl true) t5 := by simp [pr]
  simp only [f_law_right, S.cons, z0, z1, z2, z3, z4, z5, z6, z7, z8, z9, z10, z11, S.thn_nx, S.thn_ret]
end Dry
set_option Elab.async false
set_option linter.all false
set_option maxRecDepth 100000
set_option maxHeartbeats 4000000
set_option autoImplicit false
/-! DryYo: _law_right tells True. -/
namespace Dry
open PySem PySem.Spec PyProof.Rows L2
section
variable {k n p m c : Nat} {t : Tin} {K : Key} {pp : Prs} {xs : List (List Int)}
theorem digits_of {w : Nat} {r : List Int} (h : Rw p w r) : digitsD p (dRow r) = some r := by
  obtain ⟨r1, r2⟩ := digits_row (p := p) (d := dRow r)
  rw [row_belowD h] at r1
  cases hz : digitsD p (dRow r) with
  | none =>
    rw [hz] at r1
    cases r1
  | some ds =>
    obtain ⟨e, _⟩ := r2 ds hz
    have e1 := dInts_map r
    have e2 := dInts_map ds
    rw [show r.map D.int = ds.map D.int from D.tup.inj e, e2] at e1
    rw [Option.some.inj e1]
theorem odd_is {u : List Int} (o : OddOk p m c (psOf p pp) u) : isOdd p m c (psOf p pp) (dRow u) = true := by
  unfold isOdd
  rw [digits_of o.rw]
  show (decide (u.length = (psOf p pp).length) && ((combo p c (gOf p pp) u == zeroRow c) && !(combo p m (mOf p pp) u == zeroRow m))) = true
  rw [decide_eq_true o.rw.len, show combo p c (gOf p pp) u = zeroRow c from o.zero, beq_self_eq_true, beq_eq_false_iff_ne.mpr (show combo p m (mOf p pp) u ≠ zeroRow m from o.odd)] <;> rfl
theorem e_law_right (ht : TOk (n + 300) t) : ∃ t', call (k + 14) "_law_right" [.tin] t = .ok (.bl true) t' := by
  obtain ⟨p, m, c, K, pp, t1, a1, C, hK, h, h4, a2⟩ := e_law_seen (k := k + 9) (t := t) (n := n + 100) (ht.mono (by omega))
  have hp := C.pr
  have hm2 := C.m2
  have hc4 := C.c4
  have hp3 : p ≤ 3 := by
    unfold Pr at hp
    omega
  have hpn : p ^ pp.length ≤ 81 := Nat.le_trans (Nat.pow_le_pow_left hp3 _) (Nat.le_trans (Nat.pow_le_pow_right (by decide) h4) (by decide))
  have hfl : (fitOf p m c pp).length ≤ 100 := fit_len C
  obtain ⟨rows1, t2, r1, r2, r3, r4⟩ := e_pick (k := k + 11) (f := dRow) (gs := allRows p pp.length) (cnt := 6) (t := t1) (n := n + 90) (by rw [len_rows]; omega) (by omega) (a2.mono (by omega))
  have hrow1 : ∀ r ∈ rows1, Rw p pp.length r := fun r hr => mem_rows.mp (r3 r hr)
  have ff : call (k + 13) "_law_fitting" [dKey p m K, dPrs pp] t1 = .ok (dL (dKey p m) (fitOf p m c pp)) t1 := e_law_fitting (k := k + 9) h hK (Nat.le_trans C.few (by decide))
  have hl : ∀ t, call (k + 13) "_law_lists" [dPrs pp] t = .ok (dPrsL pp) t := fun t => e_lists_pp (k := k + 7) h
  have hm : call (k + 13) "how_many_keys" [nat p, dPrs pp] t1 = .ok (nat (fitOf p m c pp).length) t1 := e_how_many (k := k + 4) (.inl rfl) h
  have od : ∀ (r : Res D) (t : Tin), call (k + 13) "odd_row" [nat p, dPrsL pp] t = r → appH (Γs (k + 13)) "odd_row" (.ok [nat p, dPrsL pp] t) = heardR r := fun r t h => by
    rw [appH_call (k := k + 12) of_odd_row rfl (.inl rfl), h]
  have sk : ∀ (r : Res D) (t : Tin), call (k + 13) "some_key" [nat p, dPrs pp] t = r → appH (Γs (k + 13)) "some_key" (.ok [nat p, dPrs pp] t) = heardR r := fun r t h => by
    rw [appH_call (k := k + 12) of_some_key rfl (.inl rfl), h]
  have lf : dLen [dL (dKey p m) (fitOf p m c pp)] = some (nat (fitOf p m c pp).length) := len_L
  have sm1 : call (k + 13) "_law_same" [nat (fitOf p m c pp).length, nat (fitOf p m c pp).length] t1 = .ok (.bl true) t1 := same_self 0 (k := k + 12) rfl
  have ar : call (k + 13) "_law_all_rows" [nat p, nat pp.length] t1 = .ok (dL dRow (allRows p pp.length)) t1 := e_all_rows (k := k + 12) hp.le hp.pos (by omega) (by omega)
  -- the things
  have things : ∀ {TOLD TL : D}, tame TOLD → tame TL → (∀ x ∈ rows1.map dRow ++ [TOLD, TL, .tup (List.replicate pp.length (.str "1")), .tup (List.replicate pp.length (.lst [])), .non], tame x) ∧ (rows1.map dRow ++ [TOLD, TL, .tup (List.replicate pp.length (.str "1")), .tup (List.replicate pp.length (.lst [])), .non]).length ≤ 100 := fun ta tb => by
    refine ⟨fun x hx => ?_, by rw [List.length_append, List.length_map]; show rows1.length + 5 ≤ 100; omega⟩
    rcases List.mem_append.mp hx with hx | hx
    · obtain ⟨r, hr, rfl⟩ := List.mem_map.mp hx
      exact tame_row (by rw [(hrow1 r hr).len]; unfold cap; omega)
    · simp only [List.mem_cons, List.not_mem_nil, or_false] at hx
      rcases hx with rfl | rfl | rfl | rfl | rfl
      · exact ta
      · exact tb
      · exact tame_rep (by unfold cap; omega) rfl
      · exact tame_rep (by unfold cap; omega) rfl
      · exact tame_no rfl rfl
  have th : ∀ (TOLD TL : D), dAdd (dL dRow rows1) (.lst [TOLD, TL, .tup (List.replicate pp.length (.str "1")), .tup (List.replicate pp.length (.lst [])), .non]) = some (.lst (rows1.map dRow ++ [TOLD, TL, .tup (List.replicate pp.length (.str "1")), .tup (List.replicate pp.length (.lst [])), .non])) := fun _ _ => add_Ll (by
    rw [List.length_map]
    show rows1.length + 5 ≤ cap
    unfold cap
    omega)
  have c1 : ∀ (TS : List D), (∀ x ∈ TS, tame x) → TS.length ≤ 100 → ∀ X1 X3 X5, ev (Γs (k + 13)) (.comp (.seq (.var 6)) true [7] [7] (.call "is_odd_row" (.cons (.var 3) (.cons (.var 2) (.cons (.var 7) .nil))))) [some (.dat .tin), X1, some (.dat (dPrs pp)), some (.dat (nat p)), X3, X5, some (.dat (.lst TS)), none, none, none, none] t2 = .ok (dL .bl (TS.map (isOdd p m c (psOf p pp)))) t2 := fun TS hts hl X1 X3 X5 => by
    rw [dL_map]
    refine ev_comp TS id (fun x => D.bl (isOdd p m c (psOf p pp) x)) (by simp [dItems]) (Nat.le_trans hl (by decide)) fun x hx => ⟨_, rfl, ?_⟩
    have e1 : call (k + 13) "is_odd_row" [nat p, dPrs pp, x] t2 = .ok (.bl (isOdd p m c (psOf p pp) x)) t2 := e_is_odd_row (k := k + 5) (.inl rfl) h (hts x hx)
    simp [e1]
  have c2 : ∀ (TS : List D), (∀ x ∈ TS, tame x) → TS.length ≤ 100 → ∀ X1 X3 X5, ev (Γs (k + 13)) (.comp (.seq (.var 6)) true [7] [7] (.call "_law_is_odd" (.cons (.var 3) (.cons (.var 2) (.cons (.var 7) .nil))))) [some (.dat .tin), X1, some (.dat (dPrs pp)), some (.dat (nat p)), X3, X5, some (.dat (.lst TS)), none, none, none, none] t2 = .ok (dL .bl (TS.map (isOdd p m c (psOf p pp)))) t2 := fun TS hts hl X1 X3 X5 => by
    rw [dL_map]
    refine ev_comp TS id (fun x => D.bl (isOdd p m c (psOf p pp) x)) (by simp [dItems]) (Nat.le_trans hl (by decide)) fun x hx => ⟨_, rfl, ?_⟩
    have e1 : call (k + 13) "_law_is_odd" [nat p, dPrs pp, x] t2 = .ok (.bl (isOdd p m c (psOf p pp) x)) t2 := e_law_is_odd (k := k + 9) h (hts x hx)
    simp [e1]
  have sm2 : ∀ (TS : List D), TS.length ≤ 100 → call (k + 13) "_law_same" [dL .bl (TS.map (isOdd p m c (psOf p pp))), dL .bl (TS.map (isOdd p m c (psOf p pp)))] t2 = .ok (.bl true) t2 := fun TS hl => same_self 1 (k := k + 11) (short_L (by rw [List.length_map]; exact Nat.le_trans hl (by decide)) fun _ _ => short_bl)
  rcases fits_iff hp h.ps with ⟨xs, hx, hne, hmem⟩ | ⟨i, hi, hb, hn, he⟩
  · -- some key fits
    have hfe : dEq (dL (dKey p m) (fitOf p m c pp)) (.lst []) = some (.bl false) := by
      rw [eq_nilL (okN_keys (n := 60))]
      cases hz : fitOf p m c pp with
      | nil => exact absurd hz hne
      | cons a b => rfl
    obtain ⟨q1, t3, b1, b2, b3⟩ := e_law_picture (k := k + 10) (t := t2) (n := n + 60) C.c1 (by omega) (r4.mono (by omega))
    obtain ⟨qd, d1, t4, d2, d3⟩ := e_of (k := k + 11) (t := t3) (n := n + 50) (xs := pp.map fun q => dPic q.1) (fun z => h.ne (List.map_eq_nil_iff.mp z)) (by rw [List.length_map]; omega) (b3.mono (by omega))
    obtain ⟨q2, hq2, rfl⟩ := List.mem_map.mp d1
    have s : Sit2 p m c K pp xs q1 q2.1 := ⟨C, h, h4, hK, hx, b2, (h.ok q2 hq2).1⟩
    obtain ⟨t5, hpr⟩ := e_picture_right (k := k) (t := t4) (n := n + 30) s (d3.mono (by omega))
    obtain ⟨ti, tl⟩ := things (TOLD := paperD) (TL := paperD) (tame_no rfl rfl) (tame_no rfl rfl)
    have hok : KeyOk p m c (turned c xs) := fit_key hmem
    have hsame : ∀ t, call (k + 13) "_law_same" [dKey p m (turned c xs), dKey p m (turned c xs)] t = .ok (.bl true) t := fun t => same_self 3 (k := k + 9) (short_key hok h.cfew h.mfew)
    obtain ⟨j, j1, j2⟩ := index_key (p := p) (m := m) hmem
    have ix1 : ixD (dL (dKey p m) (fitOf p m c pp)) (nat j) t2 = some (dKey p m (turned c xs)) := ix_L (i := (j : Int)) rfl j2
    have sp : call (k + 13) "_law_same" [paperD, paperD] t2 = .ok (.bl true) t2 := same_paper (k := k + 11)
    have hki : dIn (dKey p m K) (dL (dKey p m) (fitOf p m c pp)) = some (.bl (fitsK p m (psOf p pp) K)) := by
      rw [in_key]
      congr 2
      rw [Bool.eq_iff_iff, decide_eq_true_iff]
      unfold fitOf fitting
      rw [List.mem_filter]
      exact ⟨fun h => h.2, fun h => ⟨mem_keys.mpr ⟨hK.len, hK.gr⟩, h⟩⟩
    refine ⟨t5, lr_some (k := k + 13) a1 (fun _ => rfl) ff hl (od _ t1 (e_odd_row_no (k := k + 4) (.inr rfl) h hx)) hm lf sm1 (lenT' rfl) ar r1 rfl (rep_mul (by omega)) (rep_mul (by omega)) (th _ _) (c1 _ ti tl _ _ _) (c2 _ ti tl _ _ _) (sm2 _ tl) hfe
      (e_some_key (k := k + 3) (.inr rfl) h hx) ?k8 (bk := fitsK p m (psOf p pp) K) ?c3 hki ?sm4 (KC := dGrid K) (fun _ => rfl) (lenT' hK.len) b1 (PS := dL (fun q => dPic q.1) pp) ?c4 d2 hpr⟩
    case k8 =>
      have hni : dNotIn (dKey p m (turned c xs)) (dL (dKey p m) (fitOf p m c pp)) = some (.bl false) := by
        rw [notin_key, decide_eq_true hmem] <;> rfl
      have hs := hsame t2
      simp
      rw [sp]
      simp [hni, j1, ix1, hs]
    case c3 =>
      refine ev_comp (g := fun x => D.bl x.2) [(dKey p m K, fitsK p m (psOf p pp) K), (dKey p m (turned c xs), true)] Prod.fst (by simp [dItems]) (show 2 ≤ cap by decide) fun x hx => ⟨_, rfl, ?_⟩
      have key : call (k + 13) "fits_pairs" [nat p, dPrs pp, x.1] t2 = .ok (.bl x.2) t2 := by
        simp only [List.mem_cons, List.not_mem_nil, or_false] at hx
        rcases hx with rfl | rfl
        · exact e_fits_pairs (k := k + 5) (.inl rfl) h hK
        · have := e_fits_pairs (k := k + 5) (t := t2) (.inl rfl) h hok
          rw [(List.mem_filter.mp hmem).2] at this
          exact this
      simp [key]
    case sm4 =>
      refine same_self 1 (k := k + 11) ?_
      show (decide (2 ≤ cap) && ([D.bl _, D.bl true]).all (shortN 0)) = true
      rfl
    case c4 =>
      refine ev_comp pp dPair (fun q => dPic q.1) (by simp [dPrs]) (Nat.le_trans h.few (by decide)) fun q hq => ⟨_, rfl, ?_⟩
      have x0 : ixD (dPair q) (.int 0) t3 = some (dPic q.1) := rfl
      simp [x0]
  · -- no key fits
    have hfe : dEq (dL (dKey p m) (fitOf p m c pp)) (.lst []) = some (.bl true) := by
      rw [eq_nilL (okN_keys (n := 60)), show fitOf p m c pp = [] from he] <;> rfl
    obtain ⟨u, hu, hou⟩ := e_odd_row (d := dPrsL pp) (.inr rfl) h hi hb hn
    have hul : u.length ≤ cap := by
      rw [hu.rw.len, ps_len]
      unfold cap
      omega
    obtain ⟨ti, tl⟩ := things (TOLD := dRow u) (TL := dL .int u) (tame_row hul) (tame_no rfl rfl)
    have io : call (k + 13) "_law_is_odd" [nat p, dPrs pp, dRow u] t2 = .ok (.bl true) t2 := by
      rw [e_law_is_odd (k := k + 9) h (tame_row hul), odd_is hu]
    exact ⟨t2, lr_empty (k := k + 13) a1 (fun _ => rfl) ff hl (od _ t1 (hou (k + 4) t1)) hm lf sm1 (lenT' rfl) ar r1 list_T (rep_mul (by omega)) (rep_mul (by omega)) (th _ _) (c1 _ ti tl _ _ _) (c2 _ ti tl _ _ _) (sm2 _ tl) hfe io (sk _ t2 (e_some_key_no (k := k + 3) (.inl rfl) h hi hn)) (same_paper (k := k + 11))⟩
end
end Dry
set_option Elab.async false
set_option linter.all false
set_option maxRecDepth 100000
set_option maxHeartbeats 4000000
set_option autoImplicit false
/-! DryYp: what is right by hand. -/
namespace Dry
open PySem PySem.Spec PyProof.Rows L2
@[simp] theorem S.unl {Γ : Gam} {ρ : Env'} {t : Tin} {tg : List Nat} {e : Ex} : ex Γ (.unl tg e) ρ t = (ev Γ e ρ t).toS fun d t => match d with
    | .lst ds => ofS (setAll tg ds ρ) t
    | _ => .bad := (rfl)
def qA : Pic := (4, [[1, 0, 3]])
def qB : Pic := (4, [[2, 1, 1]])
def qC : Pic := (4, [[1, 1, 4]])
def qD : Pic := (4, [[1, 0, 0]])
def pp0 : Prs := [(qA, [1, 0]), (qB, [1, 1])]
def pp1 : Prs := [(qA, [1, 0]), (qB, [1, 1]), (qC, [1, 1])]
theorem pic_of {r : List Int} (h : r.length = 3) : PicOk (4, [r]) 3 := by
  refine ⟨fun e => (by cases e), ⟨3, by decide, fun x hx => ?_, rfl⟩, by decide⟩
  rw [List.mem_singleton.mp hx]
  exact h
theorem rw_of {p w : Nat} {r : List Int} (h : (decide (r.length = w) && r.all fun x => decide (0 ≤ x) && decide (x < (p : Int))) = true) : Rw p w r := by
  rw [Bool.and_eq_true, List.all_eq_true] at h
  refine ⟨of_decide_eq_true h.1, fun x hx => ?_⟩
  have := h.2 x hx
  rw [Bool.and_eq_true] at this
  exact ⟨of_decide_eq_true this.1, of_decide_eq_true this.2⟩
theorem ok0 : PrsOk 2 2 3 pp0 := by
  refine ⟨.inl rfl, fun e => (by cases e), by decide, fun q hq => ?_, by decide, by decide⟩
  rcases List.mem_cons.mp hq with rfl | hq
  · exact ⟨pic_of rfl, rw_of rfl⟩
  rcases List.mem_cons.mp hq with rfl | hq
  · exact ⟨pic_of rfl, rw_of rfl⟩
  · cases hq
theorem ok1 : PrsOk 2 2 3 pp1 := by
  refine ⟨.inl rfl, fun e => (by cases e), by decide, fun q hq => ?_, by decide, by decide⟩
  rcases List.mem_cons.mp hq with rfl | hq
  · exact ⟨pic_of rfl, rw_of rfl⟩
  rcases List.mem_cons.mp hq with rfl | hq
  · exact ⟨pic_of rfl, rw_of rfl⟩
  rcases List.mem_cons.mp hq with rfl | hq
  · exact ⟨pic_of rfl, rw_of rfl⟩
  · cases hq
theorem h_len : (fitOf 2 2 3 pp0).length = 4 := by decide +kernel
theorem h_none : fitOf 2 2 3 pp1 = [] := by decide +kernel
theorem h_third : ∀ K ∈ fitOf 2 2 3 pp0, combo 2 2 K (restsOf 2 qC) = [0, 1] := by decide +kernel
theorem h_lone : ∃ A ∈ fitOf 2 2 3 pp0, ∃ B ∈ fitOf 2 2 3 pp0, combo 2 2 A (restsOf 2 qD) ≠ combo 2 2 B (restsOf 2 qD) := by decide +kernel
theorem h_unlike : ∀ K ∈ fitOf 2 2 3 pp0, combo 2 2 K (rowLess 2 (restsOf 2 qA) (restsOf 2 qC)) = [1, 1] := by decide +kernel
theorem h_open : ∃ A ∈ fitOf 2 2 3 pp0, ∃ B ∈ fitOf 2 2 3 pp0, combo 2 2 A (rowLess 2 (restsOf 2 qA) (restsOf 2 qD)) ≠ combo 2 2 B (rowLess 2 (restsOf 2 qA) (restsOf 2 qD)) := by decide +kernel
theorem h_c0 : (fitOf 2 2 3 pp0).countP (readIs 2 2 (restsOf 2 qC) [1, 1]) = 0 := by decide +kernel
theorem h_c4 : (fitOf 2 2 3 pp0).countP (readIs 2 2 (restsOf 2 qC) [0, 1]) = 4 := by decide +kernel
theorem h_odd : ∀ u ∈ allRows 2 3, combo 2 3 (gOf 2 pp1) u = zeroRow 3 → combo 2 2 (mOf 2 pp1) u ≠ zeroRow 2 → u = [1, 1, 1] := by decide +kernel
section
variable {p m c : Nat} {pp : Prs} {g r : List Int}
theorem told_all (h : PrsOk p m c pp) (hne : fitOf p m c pp ≠ []) (hg : Rw p c g) (ha : ∀ K ∈ fitOf p m c pp, combo p m K g = r) : isSpanned p (gOf p pp) g = true ∧ msgOf p m c pp g = some r := by
  obtain ⟨K0, hK0⟩ := List.exists_mem_of_ne_nil _ hne
  unfold msgOf
  rcases mults_or h.pr h.ps.gr hg with ⟨x, s1, s2, s3, _⟩ | ⟨u, s1, s2, s3⟩
  · refine ⟨s1, ?_⟩
    rw [s2, Option.map_some, ← ha K0 hK0]
    congr 1
    exact (told_read h.pr h.ps hK0 s3).symm
  · obtain ⟨t1, t2⟩ := two_told h.pr h.ps h.mpos hg hK0 s3
    exact absurd ((ha _ hK0).trans (ha _ t1).symm) t2
theorem told_not (h : PrsOk p m c pp) (hg : Rw p c g) (ha : ∃ A ∈ fitOf p m c pp, ∃ B ∈ fitOf p m c pp, combo p m A g ≠ combo p m B g) : isSpanned p (gOf p pp) g = false ∧ msgOf p m c pp g = none := by
  obtain ⟨A, hA, B, hB, hn⟩ := ha
  unfold msgOf
  rcases mults_or h.pr h.ps.gr hg with ⟨x, s1, s2, s3, _⟩ | ⟨u, s1, s2, s3⟩
  · exact absurd ((told_read h.pr h.ps hA s3).trans (told_read h.pr h.ps hB s3).symm) hn
  · exact ⟨s1, by rw [s2]; rfl⟩
end
section
variable {k : Nat} {t : Tin}
theorem e_caught : call (k + 1) "_law_caught" [] t = .ok (.tup [dPic qC, dPic qD, dPrs pp0]) t := by
  rw [call_of of_law_caught rfl]
  refine callF_ret ?_
  show exs _ f_law_caught [none, none, none, none, none] t = _
  have hcm := ev_comp (Γ := Γs k) (it := .seq (.tup (.cons (.tup (.cons (.int 1) (.cons (.int 0) (.cons (.int 3) .nil)))) (.cons (.tup (.cons (.int 2) (.cons (.int 1) (.cons (.int 1) .nil)))) (.cons (.tup (.cons (.int 1) (.cons (.int 1) (.cons (.int 4) .nil)))) (.cons (.tup (.cons (.int 1) (.cons (.int 0) (.cons (.int 0) .nil)))) .nil)))))) (s := true) (tg := [4]) (vs := [4]) (e := .tup (.cons (.int 4) (.cons (.tup (.cons (.var 4) .nil)) .nil))) (t1 := t)
    (ρ := [none, none, none, none, none]) (t := t) [[1, 0, 3], [2, 1, 1], [1, 1, 4], [1, 0, 0]] dRow (fun r => dPic (4, [r])) (by simp [dItems]; exact ⟨rfl, rfl, rfl, rfl⟩) (show 4 ≤ cap by decide) (fun r _ => ⟨[none, none, none, none, some (.dat (dRow r))], rfl, by simp; rfl⟩)
  have hd : dL (fun (r : List Int) => dPic (4, [r])) [[1, 0, 3], [2, 1, 1], [1, 1, 4], [1, 0, 0]] = .lst [dPic qA, dPic qB, dPic qC, dPic qD] := rfl
  rw [hd] at hcm
  simp [f_law_caught, hcm]
  rfl
theorem e_by_hand : call (k + 13) "_law_by_hand_right" [] t = .ok (.bl true) t := by
  have hne : fitOf 2 2 3 pp0 ≠ [] := fun e => by
    have := h_len
    rw [e] at this
    cases this
  obtain ⟨xs, hx⟩ : ∃ xs : List (List Int), rowsFit 2 2 3 (psOf 2 pp0) = xs.map some := by
    rcases fits_iff ok0.pr ok0.ps with ⟨xs, hx, _, _⟩ | ⟨i, _, _, _, he⟩
    · exact ⟨xs, hx⟩
    · exact absurd he hne
  have SC : Seen 2 2 3 pp0 xs (dPrs pp0) qC (dPic qC) := ⟨ok0, hx, .inl rfl, pic_of rfl, .inl rfl⟩
  have SD : Seen 2 2 3 pp0 xs (dPrs pp0) qD (dPic qD) := ⟨ok0, hx, .inl rfl, pic_of rfl, .inl rfl⟩
  have SA : Seen 2 2 3 pp0 xs (dPrs pp0) qA (dPic qA) := ⟨ok0, hx, .inl rfl, pic_of rfl, .inl rfl⟩
  have rA : Rw 2 3 (restsOf 2 qA) := SA.rw
  have e1 : call (k + 12) "how_many_keys" [.int 2, dPrs pp0] t = .ok (.int 4) t := by
    have := e_how_many (k := k + 3) (t := t) (.inl rfl) ok0
    rw [show (fitting 2 2 3 (psOf 2 pp0)).length = 4 from h_len] at this
    exact this
  have e2 : call (k + 12) "told_message" [.int 2, dPrs pp0, dPic qC] t = .ok (dRow [0, 1]) t := by
    have := e_told_message (k := k + 1) (t := t) SC
    rw [(told_all ok0 hne SC.rw h_third).2] at this
    exact this
  have e3 : appH (Γs (k + 12)) "told_message" (.ok [.int 2, dPrs pp0, dPic qD] t) = .ok paperD t := by
    have := e_told_message (k := k + 1) (t := t) SD
    rw [(told_not ok0 SD.rw h_lone).2] at this
    rw [appH_call (k := k + 11) of_told_message rfl (.inr rfl)]
    have e : call (k + 12) "told_message" [.int 2, dPrs pp0, dPic qD] t = .exn t := this
    rw [e] <;> rfl
  have e4 : call (k + 12) "is_told" [.int 2, dPrs pp0, dPic qD] t = .ok (.bl false) t := by
    have := e_is_told (k := k + 1) (t := t) SD
    rw [(told_not ok0 SD.rw h_lone).1] at this
    exact this
  have e5 : call (k + 12) "told_apart" [.int 2, dPrs pp0, dPic qA, dPic qC] t = .ok (.str "unlike") t := by
    have := e_told_apart (k := k + 1) (t := t) SA SC.pq (.inl rfl)
    obtain ⟨a1, a2⟩ := told_all ok0 hne (.less (by decide) rA.len SC.rw.len) h_unlike
    unfold apart at this
    rw [if_pos a1, a2] at this
    exact this
  have e6 : call (k + 12) "told_apart" [.int 2, dPrs pp0, dPic qA, dPic qD] t = .ok (.str "open") t := by
    have := e_told_apart (k := k + 1) (t := t) SA SD.pq (.inl rfl)
    obtain ⟨a1, a2⟩ := told_not ok0 (.less (by decide) rA.len SD.rw.len) h_open
    unfold apart at this
    rw [if_neg (by rw [a1]; exact Bool.false_ne_true)] at this
    exact this
  have e7 : appH (Γs (k + 12)) "odd_row" (.ok [.int 2, dPrs pp0] t) = .ok paperD t := by
    rw [appH_call (k := k + 11) of_odd_row rfl (.inl rfl)]
    have e : call (k + 12) "odd_row" [.int 2, dPrs pp0] t = .exn t := e_odd_row_no (k := k + 3) (.inl rfl) ok0 hx
    rw [e] <;> rfl
  have e8 : call (k + 12) "odd_row" [.int 2, dPrs pp1] t = .ok (dRow [1, 1, 1]) t := by
    rcases fits_iff ok1.pr ok1.ps with ⟨xs, _, hn, _⟩ | ⟨i, hi, hb, hn, he⟩
    · exact absurd h_none hn
    · obtain ⟨u, hu, hou⟩ := e_odd_row (d := dPrs pp1) (.inl rfl) ok1 hi hb hn
      have := h_odd u (mem_rows.mpr hu.rw) hu.zero hu.odd
      have h2 := hou (k + 3) t
      rw [this] at h2
      exact h2
  have e9 : call (k + 12) "keys_that_read" [.int 2, dPrs pp0, dPic qC, dRow [1, 1]] t = .ok (.int 0) t := by
    have := e_keys_that_readT (k := k + 1) (t := t) (w := [1, 1]) SC (rw_of rfl) (by decide)
    rw [show (fitting 2 2 3 (psOf 2 pp0)).countP (readIs 2 2 (restsOf 2 qC) [1, 1]) = 0 from h_c0] at this
    exact this
  have e10 : call (k + 12) "keys_that_read" [.int 2, dPrs pp0, dPic qC, dRow [0, 1]] t = .ok (.int 4) t := by
    have := e_keys_that_readT (k := k + 1) (t := t) (w := [0, 1]) SC (rw_of rfl) (by decide)
    rw [show (fitting 2 2 3 (psOf 2 pp0)).countP (readIs 2 2 (restsOf 2 qC) [0, 1]) = 4 from h_c4] at this
    exact this
  have e11 : call (k + 12) "_law_same" [.lst [.int 4, dRow [0, 1], paperD, .bl false, .str "unlike", .str "open", paperD, dRow [1, 1, 1], .int 0, .int 4], .lst [.int 4, dRow [0, 1], paperD, .bl false, .str "unlike", .str "open", paperD, dRow [1, 1, 1], .int 0, .int 4]] t = .ok (.bl true) t := same_self 2 (k := k + 9) (by decide +kernel)
  have c0 : call (k + 12) "_law_caught" [] t = .ok (.tup [dPic qC, dPic qD, dPrs pp0]) t := e_caught
  have x0 : ixD (dPrs pp0) (.int 0) t = some (dPair (qA, [1, 0])) := rfl
  have x00 : ixD (dPair (qA, [1, 0])) (.int 0) t = some (dPic qA) := rfl
  have ad : dAdd (dPrs pp0) (.tup [.tup [dPic qC, .tup [.int 1, .int 1]]]) = some (dPrs pp1) := rfl
  rw [call_of of_law_by_hand_right rfl]
  refine callF_ret ?_
  show exs _ f_law_by_hand_right [none, none, none, none, none] t = _
  generalize hC : dPic qC = DC at *
  generalize hD : dPic qD = DD at *
  generalize hA : dPic qA = DA at *
  generalize h0 : dPrs pp0 = D0 at *
  generalize h1 : dPrs pp1 = D1 at *
  generalize hP : dPair (qA, [1, 0]) = DP at *
  have m1 : ∀ X : D, ev (Γs (k + 12)) (.comp (.seq (.tup (.cons (.var 0) (.cons (.var 1) .nil)))) true [4] [4] (.call "told_apart" (.cons (.int 2) (.cons (.var 2) (.cons (.ix (.ix (.var 2) (.int 0)) (.int 0)) (.cons (.var 4) .nil)))))) [some (.dat DC), some (.dat DD), some (.dat D0), some (.dat X), none] t = .ok (.lst [.str "unlike", .str "open"]) t := fun X =>
    ev_comp (g := fun x => D.str x.2) (t1 := t) [(DC, (("unlike" : Str))), (DD, (("open" : Str)))] Prod.fst (by simp [dItems]) (show 2 ≤ cap by decide) fun x hx => ⟨[some (.dat DC), some (.dat DD), some (.dat D0), some (.dat X), some (.dat x.1)], rfl, by
      simp only [List.mem_cons, List.not_mem_nil, or_false] at hx
      rcases hx with rfl | rfl
      · simp [x0, x00, e5]
      · simp [x0, x00, e6]⟩
  have m2 : ∀ X : D, ev (Γs (k + 12)) (.comp (.seq (.tup (.cons (.tup (.cons (.int 1) (.cons (.int 1) .nil))) (.cons (.tup (.cons (.int 0) (.cons (.int 1) .nil))) .nil)))) true [4] [4] (.call "keys_that_read" (.cons (.int 2) (.cons (.var 2) (.cons (.var 0) (.cons (.var 4) .nil)))))) [some (.dat DC), some (.dat DD), some (.dat D0), some (.dat X), none] t = .ok (.lst [.int 0, .int 4]) t := fun X =>
    ev_comp (g := fun x => D.int x.2) (t1 := t) [(dRow [1, 1], (0 : Int)), (dRow [0, 1], (4 : Int))] Prod.fst (by simp [dItems]; exact ⟨rfl, rfl⟩) (show 2 ≤ cap by decide) fun x hx => ⟨[some (.dat DC), some (.dat DD), some (.dat D0), some (.dat X), some (.dat x.1)], rfl, by
      simp only [List.mem_cons, List.not_mem_nil, or_false] at hx
      rcases hx with rfl | rfl
      · simp [e9]
      · simp [e10]⟩
  have a1 : dAdd (.lst [.int 4, dRow [0, 1], paperD, .bl false]) (.lst [.str "unlike", .str "open"]) = some (.lst [.int 4, dRow [0, 1], paperD, .bl false, .str "unlike", .str "open"]) := rfl
  have a2 : dAdd (.lst [.int 4, dRow [0, 1], paperD, .bl false, .str "unlike", .str "open"]) (.lst [paperD, dRow [1, 1, 1]]) = some (.lst [.int 4, dRow [0, 1], paperD, .bl false, .str "unlike", .str "open", paperD, dRow [1, 1, 1]]) := rfl
  have a3 : dAdd (.lst [.int 4, dRow [0, 1], paperD, .bl false, .str "unlike", .str "open", paperD, dRow [1, 1, 1]]) (.lst [.int 0, .int 4]) = some (.lst [.int 4, dRow [0, 1], paperD, .bl false, .str "unlike", .str "open", paperD, dRow [1, 1, 1], .int 0, .int 4]) := rfl
  have r1 : D.tup [.int 0, .int 1] = dRow [0, 1] := rfl
  have r2 : D.tup [.int 1, .int 1, .int 1] = dRow [1, 1, 1] := rfl
  have r3 : D.lst [.str "paper"] = paperD := rfl
  generalize paperD = PA at *
  generalize dRow [0, 1] = R01 at *
  generalize dRow [1, 1, 1] = R111 at *
  simp [f_law_by_hand_right, c0, e1, e2, e3, e4, m1, a1, e7, ad, e8, a2, m2, a3, r1, r2, r3, e11]
end
end Dry
set_option Elab.async false
set_option linter.all false
set_option maxRecDepth 100000
set_option maxHeartbeats 4000000
set_option autoImplicit false
/-! DryYq: the box of draws; the law over plain data. -/
namespace Dry
open PySem PySem.Spec PyProof.Rows L2
@[simp] theorem S.listOr {Γ : Gam} {ρ : Env'} {t : Tin} {e z : Ex} : evO Γ (.listOr e z) ρ t = (ev Γ e ρ t).bind fun d t => (ofO (dItems d) t).bind fun xs t => if xs.isEmpty = true then (ev Γ z ρ t).bind fun w t => .ok (.own [w]) t else .ok (.own xs) t := (rfl)
@[simp] theorem S.oix {Γ : Gam} {ρ : Env'} {t : Tin} {i : Nat} {e : Ex} : ev Γ (.oix i e) ρ t = match ρ[i]? with
    | some (some (.own ds)) => (asI (ev Γ e ρ t)).bind fun k t => ofO (atI ds k) t
    | _ => .bad := (rfl)
section
variable {k : Nat} {t : Tin}
theorem e_cells {ns : List Int} : ∃ x : Int, call (k + 1) "_law_cells" [.scr ns, .int 1] t = .ok (.lst [.int x]) t := by
  -- the first number, or 0
  have hct : dCut none (some 1) (.scr ns) = some (.lst ((ns.take 1).map .int)) := by
    show some (D.lst ((cutD ns none (some ((1 : Nat) : Int))).map .int)) = _
    unfold cutD
    rw [HT.sIx_none, HT.sIx_nat, List.drop_zero, Nat.sub_zero]
    congr 3
    rw [List.take_eq_take_iff]
    omega
  obtain ⟨x0, hx0⟩ : ∃ x0 : Int, ev (Γs k) (.cutTo (.var 0) (.var 1)) [some (.dat (.scr ns)), some (.dat (.int 1)), none, none, none, none] t = .ok (.lst ((ns.take 1).map .int)) t ∧ (((ns.take 1).map D.int).isEmpty = true ∧ x0 = 0 ∨ (ns.take 1).map D.int = [.int x0]) := by
    cases ns with
    | nil => exact ⟨0, by simp [hct], .inl ⟨rfl, rfl⟩⟩
    | cons a ns => exact ⟨a, by simp [hct], .inr rfl⟩
  have z0 : ex (Γs k) (.one 2 (.listOr (.cutTo (.var 0) (.var 1)) (.int 0))) [some (.dat (.scr ns)), some (.dat (.int 1)), none, none, none, none] t = .nx [some (.dat (.scr ns)), some (.dat (.int 1)), some (.own [.int x0]), none, none, none] t := by
    obtain ⟨h1, h2⟩ := hx0
    rw [S.one, S.listOr, h1]
    rcases h2 with ⟨h2, rfl⟩ | h2
    · show (Res.toS (if ((ns.take 1).map D.int).isEmpty = true then _ else _) _) = _
      rw [if_pos h2]
      rfl
    · show (Res.toS (if ((ns.take 1).map D.int).isEmpty = true then _ else _) _) = _
      rw [h2]
      rfl
  -- the later ones
  have hcb : ∃ ys : List Int, dCut (some 1) (some 63) (.scr ns) = some (dL .int ys) ∧ ys.length ≤ 63 := by
    refine ⟨cutD ns (some ((1 : Nat) : Int)) (some ((63 : Nat) : Int)), rfl, ?_⟩
    unfold cutD
    rw [HT.sIx_nat, HT.sIx_nat, List.length_take]
    omega
  obtain ⟨ys, hy1, hy2⟩ := hcb
  obtain ⟨ρ', t', h1, ht, x, x3, x4, x5, rfl⟩ := loopF_run (F := bodyF (Γs k) false [3, 4] (.cons (.asg true [5] (.two .mod (.fn .int (.cons (.var 3) .nil)) (.var 1))) (.cons (.oset 2 (.var 5) (.two .add (.oix 2 (.var 5)) (.two .mul (.var 4) (.two .add (.var 3) (.int 2))))) .nil)))
    (fun _ ρ t' => t' = t ∧ ∃ (x : Int) (x3 x4 x5 : Option En), ρ = [some (.dat (.scr ns)), some (.dat (.int 1)), some (.own [.int x]), x3, x4, x5]) (((List.range ys.length).zip ys).map (pD nat .int)) 0 [some (.dat (.scr ns)), some (.dat (.int 1)), some (.own [.int x0]), none, none, none] t
    (fun j d ρ t' hj hP => by
      obtain ⟨rfl, x, x3, x4, x5, rfl⟩ := hP
      obtain ⟨q, hq, rfl⟩ := List.mem_map.mp (List.mem_of_getElem? hj)
      have hql := List.mem_range.mp (List.of_mem_zip (show (q.1, q.2) ∈ _ from hq)).1
      have hbd : bindT false [3, 4] (pD nat .int q) [some (.dat (.scr ns)), some (.dat (.int 1)), some (.own [.int x]), x3, x4, x5] = some [some (.dat (.scr ns)), some (.dat (.int 1)), some (.own [.int x]), some (.dat (nat q.1)), some (.dat (.int q.2)), x5] := rfl
      have i1 : dInt [nat q.1] = some (nat q.1) := rfl
      have m1 : dMod (nat q.1) (.int 1) = some (.int 0) := by
        show (if (1 : Int) ≠ 0 then some (D.int ((q.1 : Int).fmod 1)) else none) = _
        rw [if_pos (by decide), Int.fmod_one]
      have a1 : dAdd (nat q.1) (.int 2) = some (.int ((q.1 : Int) + 2)) := rfl
      have m2 : dMul (.int q.2) (.int ((q.1 : Int) + 2)) = some (.int (q.2 * ((q.1 : Int) + 2))) := mul_small' (by unfold smallI; omega)
      have x1 : atI [D.int x] 0 = some (.int x) := rfl
      have x2 : ixN 1 0 = some 0 := rfl
      refine ⟨[some (.dat (.scr ns)), some (.dat (.int 1)), some (.own [.int (x + q.2 * ((q.1 : Int) + 2))]), some (.dat (nat q.1)), some (.dat (.int q.2)), some (.dat (.int 0))], t', ?_, rfl, _, _, _, _, rfl⟩
      rw [bodyF_some hbd]
      simp [i1, m1, a1, m2, x1, x2]) ⟨rfl, x0, none, none, none, rfl⟩
  subst ht
  refine ⟨x, ?_⟩
  have hev := ex_loop (Γ := Γs k) (it := .fn .enum (.cons (.cutAB (.var 0) (.var 1) (.int 63)) .nil)) (s := false) (tg := [3, 4]) (body := .cons (.asg true [5] (.two .mod (.fn .int (.cons (.var 3) .nil)) (.var 1))) (.cons (.oset 2 (.var 5) (.two .add (.oix 2 (.var 5)) (.two .mul (.var 4) (.two .add (.var 3) (.int 2))))) .nil))
    (ρ := [some (.dat (.scr ns)), some (.dat (.int 1)), some (.own [.int x0]), none, none, none]) (t := t') (t1 := t') (items := ((List.range ys.length).zip ys).map (pD nat .int)) (by simp [hy1])
  rw [h1] at hev
  rw [call_of of_law_cells rfl]
  refine callF_ret ?_
  show exs _ f_law_cells [some (.dat (.scr ns)), some (.dat (.int 1)), none, none, none, none] t' = _
  simp only [f_law_cells, S.cons, z0, S.thn_nx, hev]
  simp
theorem e_box {x : Int} : ∃ a c : Int, call (k + 1) "_law_box" [.lst [.int x], .int 0] t = .ok (.lst [.int a, .int c, .int 0]) t := by
  have hx : ixD (.lst [.int x]) (.int 0) t = some (.int x) := rfl
  have ha : dAbs [.int x] = some (.int (if x < 0 then -x else x)) := rfl
  have hp : dPow (.int 10) (.int 18) = some (.int 1000000000000000000) := by kernel_rfl
  generalize (if x < 0 then -x else x) = y at *
  have hb : dInt [.bl (decide ((1000000000000000000 : Int) ≤ y))] = some (.int (if decide ((1000000000000000000 : Int) ≤ y) = true then 1 else 0)) := rfl
  have hm : dMul (.int y) (.int (if decide ((1000000000000000000 : Int) ≤ y) = true then 1 else 0)) = some (.int (y * (if decide ((1000000000000000000 : Int) ≤ y) = true then 1 else 0))) := mul_small' (by
    unfold smallI
    split <;> omega)
  generalize (if decide ((1000000000000000000 : Int) ≤ y) = true then (1 : Int) else 0) = z at *
  have hm2 : dMul (.int 39373) (.int 0) = some (.int (39373 * 0)) := mul_small (by unfold smallI; omega)
  have hl : dLen [.lst [.int x]] = some (.int 1) := rfl
  refine ⟨y * z, x.fmod 2305843009213693951 + 39373 * 0 + 11031, ?_⟩
  rw [call_of of_law_box rfl]
  refine callF_ret ?_
  show exs _ f_law_box [some (.dat (.lst [.int x])), some (.dat (.int 0)), none] t = _
  simp only [f_law_box]
  simp [hx, ha, hp, hb, hm, hm2, hl]
end
theorem plain : Plain 20 := by
  refine ⟨fun t => ?_, callF (Γs 19) dd_law_right, ?_, fun ns _ => ?_⟩
  · show call 20 "_law_by_hand_right" [] t = _
    exact e_by_hand (k := 7)
  · show (dfOf "_law_right").map (fun d => (d.ps.length, callF (Γs 19) d)) = _
    rw [of_law_right]
    rfl
  · obtain ⟨x, hx⟩ := e_cells (k := 19) (t := (0, 0, 0)) (ns := ns)
    obtain ⟨a, c, hb⟩ := e_box (k := 19) (t := (0, 0, 0)) (x := x)
    obtain ⟨t', ht⟩ := e_law_right (k := 6) (n := 0) (t := (a, c, 0)) ⟨Int.le_refl 0, by show (0 : Int) + 300 ≤ 1000000; decide⟩
    refine ⟨a, c, 0, t', ?_, ?_⟩
    · have hx' : call 20 "_law_cells" [.scr ns, .int 1] (0, 0, 0) = .ok (.lst [.int x]) (0, 0, 0) := hx
      have hb' : call 20 "_law_box" [.lst [.int x], .int 0] (0, 0, 0) = .ok (.lst [.int a, .int c, .int 0]) (0, 0, 0) := hb
      simp [irBox, hx', hb']
    · have e := call_of (k := 19) (t := (a, c, 0)) (ds := [.tin]) of_law_right rfl
      rw [← e]
      exact ht
end Dry
set_option Elab.async false
set_option linter.all false
set_option maxRecDepth 100000
set_option maxHeartbeats 4000000
set_option autoImplicit false
/-! DryZ: the head's facts; the end. -/
namespace Dry
open PySem PySem.Spec PyProof.Rows L2
theorem mem_glo {d : Df} (h : d ∈ tbl) : He.Fa.glo d.x ∈ fa := List.mem_append_left _ (List.mem_map.mpr ⟨d, h, rfl⟩)
theorem mem_free {x : Str} (h : x ∈ blts) : He.Fa.free x ∈ fa := List.mem_append_right _ (List.mem_append_left _ (List.mem_map.mpr ⟨x, h, rfl⟩))
theorem mem_more {f : He.Fa} (h : f ∈ ([.glo "_law_heard", .glo "law", .exc "NoPaper", .exm "NoPaper" "NoPaper" true, .glo "NoPaper", .glo "PRIMES"] : List He.Fa)) : f ∈ fa := List.mem_append_right _ (List.mem_append_right _ h)
theorem mem_fn {d : Df} (h : d ∈ tbl) : ddOf d.x d.i ∈ fn := List.mem_append_left _ (List.mem_map.mpr ⟨d, h, rfl⟩)
theorem sit_of {K : PySem.W.Frag} {h : Heap} {mg : Str → Option Value} {w : World} (X : K.In h) (G : h.Ns mainGlobals mg) (c : He.SaysX fa fn [] [] exK w h K) : Sit K mg (He.ga K "NoPaper") := by
  have glo : ∀ x, He.Fa.glo x ∈ fa → mg x = some (.ref (He.ga K x)) := fun x hx => He.glo_ok X G (c.t.d.facts hx)
  have ge := He.exc_ok (c.t.d.facts (mem_more (f := .exc "NoPaper") (by simp)))
  refine ⟨fun x hx => He.free_ok X G (c.t.d.facts (mem_free hx)), ⟨_, glo "PRIMES" (mem_more (by simp)), ?_⟩, glo "NoPaper" (mem_more (by simp)), ge.1, ge.2.1, ge.2.2.1, ge.2.2.2, He.exm_ok (c.t.d.facts (mem_more (f := .exm "NoPaper" "NoPaper" true) (by simp))), fun d hd => ?_, ?_⟩
  · have z := He.tupB_ok (c.more : He.tupB K "PRIMES" [.int 2, .int 3, .int 5] = true) (fun _ => none)
    rcases z with z | z
    · rcases z with z | ⟨o, z⟩ <;> cases z
    · exact z
  · obtain ⟨fd, F⟩ := c.t.d.defs (mem_fn hd)
    exact ⟨_, fd, glo d.x (mem_glo hd), F⟩
  · obtain ⟨fd, F⟩ := c.t.d.defs (d := ddOf "_law_heard" 102) (List.mem_append_right _ (by simp))
    exact ⟨_, fd, glo "_law_heard" (mem_more (by simp)), F⟩
theorem facts {P : Program} {w : World} {K : PySem.W.Frag} {h : Heap} {mg : Str → Option Value} {f : Addr} (pl : Plain 20) (X : K.In h) (G : h.Ns mainGlobals mg) (hfa : mg ("law" : Str) = some (.ref f)) (c : He.SaysX fa fn [] [] exK w h K) :
    ∃ fd : FuncData, (∀ (s : Shared) (v : Value), BindsTo s fd ⟨[v], []⟩ [("_law_script", v)]) ∧ ∀ base : Heap, K.In base → base.Ns mainGlobals mg → FnOk P w K mg base (L2.CX P w) 42 f fd ["_law_script"] (spLaw K) := by
  obtain ⟨fd, F⟩ := c.t.d.defs (d := ddOf "law" 108) (List.mem_append_right _ (by simp))
  have e := hfa.symm.trans (He.glo_ok X G (c.t.d.facts (mem_more (f := .glo "law") (by simp))))
  cases e
  have b := FunD.bindsA (ps := lN) F law_bd
  exact ⟨fd, fun s v => b s [v] rfl, fun base _ _ => law_ok scLaw law_lb law_gl (sit_of X G c) 20 pl F⟩
theorem law_nox {P : Program} {w : World} {K : PySem.W.Frag} {mg : Str → Option Value} {base : Heap} {k : Nat} {f : Addr} {fd : FuncData} {ps : List Str} (F : FnOk P w K mg base (L2.CX P w) k f fd ps (spLaw K)) : FnOk P w K mg base CX0 k f fd ps (spLaw K) :=
  ⟨F.len, fun A outer s H args us vs Q E hr e0 hb hv hs => codeAny_mono (F.run A outer s H args us vs Q (fun _ _ _ => False) hr e0 hb hv hs) fun r s' hq => by
    cases r with
    | ok fl => cases fl <;> exact hq
    | error e =>
      obtain ⟨_, _, _, _, _, _, _, _, _, _, _, _, z⟩ := hq
      exact z⟩
end Dry
open PySem PySem.W PySem.Calls PyProof.Rows
theorem PySem.Challenge.cw_drycells_k43_whole_what_all_keys_read_holds : PySem.Challenge.rw_drycells_k43_whole_what_all_keys_read.Holds := by
  w_on; o_law
  refine HandSHeadRun.head_any (r := OpenLaw.row PySem.Challenge.rw_drycells_k43_whole_what_all_keys_read) (q := view (OpenLaw.row PySem.Challenge.rw_drycells_k43_whole_what_all_keys_read).prog [108]) (H := Dry.hk) (ob := Dry.ob) (M := 8000) (loose := Dry.loose) (d := HandSHeadRun.topDef (OpenLaw.row PySem.Challenge.rw_drycells_k43_whole_what_all_keys_read).prog 108) (kwd := []) Dry.ob_eq
    (by kernel_rfl) (fun s => by kernel_rfl) Dry.run (by kernel_rfl) (by kernel_rfl) (by kernel_rfl) (by rfl) (by first | assumption | decide +kernel) (by decide +kernel) ⟨rfl, rfl, rfl, rfl, rfl, by decide +kernel⟩ ?hw ?hc
  case hw => w_witness2
  case hc =>
    refine L2.walk_ofE (l := PySem.Challenge.rw_drycells_k43_whole_what_all_keys_read) (n := 63) (k := 42) (x := "_law_script") (CX := L2.CX0) rfl (by decide) (by kernel_rfl) ⟨rfl, by decide, by decide⟩ ?F (fun _ _ _ _ z => z)
    intro w mg fa h Y G hmg0
    obtain ⟨K, KX, c⟩ := Y
    have hmg : mg ("law" : PySem.Str) = some (.ref fa) := by
      have e : (HandSHeadRun.topDef (OpenLaw.row PySem.Challenge.rw_drycells_k43_whole_what_all_keys_read).prog 108).name = ("law" : PySem.Str) := by kernel_rfl
      rw [← e]
      exact hmg0
    obtain ⟨fd, hb, hF⟩ := Dry.facts (P := (PySem.Challenge.rw_drycells_k43_whole_what_all_keys_read).prog) (w := w) Dry.plain KX G hmg c
    exact ⟨K, fd, Dry.spLaw K, KX, hb, fun H a ns hl _ hS => ⟨a, ns, rfl, hS, hl, fun _ => rfl⟩, fun base k1 k2 => Dry.law_nox (hF base k1 k2)⟩
