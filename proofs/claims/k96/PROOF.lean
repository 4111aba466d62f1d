import PyProof.Rows.All
import Wide.All
import OpenK.AllK
import Wide.FinOn
import HandS.ForMost
import HandS.ForExc
import HandS.Deep
import HandS.ExcOwn
import KE.KeyNested
import HandS.TupAny
import HandS.TupSets
import HandS.SortInts
import HandS.SetFor
import HandS.Wide
import KE.SortData
import KE.DataMinMax
import HandS.IsInst
import HandS.Defaults
import PyProof.AutoSeq1
import KE.GoesMore
import HandS.Zip
import HandS.Style
import HandS.Sort
import PyProof.DictFindH
import PyProof.DictRoadsH
import HandS.Dict
import KE.KDictCopyH
import KE.KDictSum
import HandS.Flow
import HandS.HeadEnd
import HandS.TryOnly
import KE.KStateDown
import HandS.More
import HandS.Words
import HandS.WordsExc
import HandS.Exc
import HandS.Head0
import HandS.Head1
import HandS.Head2
import HandS.HeadHook1
import HandS.HeadHook2
import PySem.Challenge.RW_handshakes_k96_main_how_many_look_alike
set_option Elab.async false
set_option linter.all false
set_option maxRecDepth 100000
set_option maxHeartbeats 4000000
/-! Ev1: a value semantics of the Python used here, over HandS. -/
namespace Ev
open PySem PySem.Spec PyProof.Rows L2

abbrev D := PyData
/-- a raised exception: its class's name, its fields -/
structure Exn where
  cls : Str
  fs : List (Str × D)

/-- what a piece of code may come to; draw n k: some number below n -/
inductive R (α : Type) where
  | fail
  | ok (a : α)
  | exc (x : Exn)
  | draw (n : Nat) (k : Nat → R α)
namespace R
def bind {α β : Type} : R α → (α → R β) → R β
  | .fail, _ => .fail
  | .ok a, f => f a
  | .exc x, _ => .exc x
  | .draw n k, f => .draw n fun i => (k i).bind f
def post {α : Type} : R α → Nat → (Nat → α → Prop) → (Nat → Exn → Prop) → Prop
  | .fail, _, _, _ => False
  | .ok a, b, Q, _ => Q b a
  | .exc x, b, _, W => W b x
  | .draw n k, b, Q, W => (0 < n ∧ n < 1073741824) ∧ ∃ b', b = b' + 1 ∧ ∀ i, i < n → (k i).post b' Q W
theorem post_bind {α β : Type} {f : α → R β} {Q : Nat → β → Prop} {W : Nat → Exn → Prop} : ∀ {m : R α} {b : Nat}, (m.bind f).post b Q W → m.post b (fun b' a => (f a).post b' Q W) W
  | .fail, _, h => h
  | .ok _, _, h => h
  | .exc _, _, h => h
  | .draw n k, b, ⟨hn, b', e, h⟩ => ⟨hn, b', e, fun i hi => post_bind (h i hi)⟩
theorem post_mono {α : Type} {Q Q' : Nat → α → Prop} {W W' : Nat → Exn → Prop} (hQ : ∀ b a, Q b a → Q' b a) (hW : ∀ b x, W b x → W' b x) : ∀ {m : R α} {b : Nat}, m.post b Q W → m.post b Q' W'
  | .fail, _, h => h
  | .ok _, _, h => hQ _ _ h
  | .exc _, _, h => hW _ _ h
  | .draw n k, b, ⟨hn, b', e, h⟩ => ⟨hn, b', e, fun i hi => post_mono hQ hW (h i hi)⟩
theorem bind_post {α β : Type} {f : α → R β} {Q : Nat → β → Prop} {W : Nat → Exn → Prop} : ∀ {m : R α} {b : Nat}, m.post b (fun b' a => (f a).post b' Q W) W → (m.bind f).post b Q W
  | .fail, _, h => h
  | .ok _, _, h => h
  | .exc _, _, h => h
  | .draw n k, b, ⟨hn, b', e, h⟩ => ⟨hn, b', e, fun i hi => bind_post (h i hi)⟩
/-- no exception -/
def nox {α : Type} : R α → R α
  | .fail => .fail
  | .ok a => .ok a
  | .exc _ => .fail
  | .draw n k => .draw n fun i => (k i).nox
theorem post_nox {α : Type} {Q : Nat → α → Prop} {W W' : Nat → Exn → Prop} : ∀ {m : R α} {b : Nat}, m.nox.post b Q W → m.post b Q W'
  | .fail, _, h => h
  | .ok _, _, h => h
  | .exc _, _, h => h.elim
  | .draw n k, b, ⟨hn, b', e, h⟩ => ⟨hn, b', e, fun i hi => post_nox (h i hi)⟩
end R

/-! ### heaps: Z what is frozen -/
/-- from (Z, H) to (Z', H'): what was tracked and not frozen is kept (but for the urn at r), and stays out of what is frozen -/
structure Ext (r : Option Addr) (Z H Z' H' : Hp) : Prop where
  zz : Same Z Z'
  zh : Same Z' H'
  keep : ∀ a o, H a = some o → Z a = none → r ≠ some a → H' a = some o
  out : ∀ a o, H a = some o → Z a = none → Z' a = none
theorem Ext.refl {r : Option Addr} {Z H : Hp} (s : Same Z H) : Ext r Z H Z H := ⟨Same.refl _, s, fun _ _ h _ _ => h, fun _ _ _ h => h⟩
theorem Same.none {Z H : Hp} (s : Same Z H) {a : Addr} (h : H a = Option.none) : Z a = Option.none := s.free h
theorem Ext.there {r : Option Addr} {Z H Z' H' : Hp} (e : Ext r Z H Z' H') (s : Same Z H) {a : Addr} {o : HO} (h : H a = some o) (hr : r ≠ some a) : H' a = some o := by
  cases q : Z a with
  | none => exact e.keep a o h q hr
  | some u =>
    have hu := s a u q
    rw [h] at hu
    cases hu
    exact e.zh a o (e.zz a o q)
theorem Ext.trans {r : Option Addr} {Z H Z1 H1 Z2 H2 : Hp} (a : Ext r Z H Z1 H1) (b : Ext r Z1 H1 Z2 H2) (hr : ∀ x, r = some x → ∀ o, H x = some o → Z x = none → ∃ o', H1 x = some o') : Ext r Z H Z2 H2 where
  zz := a.zz.trans b.zz
  zh := b.zh
  keep := fun x o h z n => b.keep x o (a.keep x o h z n) (a.out x o h z) n
  out := fun x o h z => by
    by_cases n : r = some x
    · obtain ⟨o', e⟩ := hr x n o h z
      exact b.out x o' e (a.out x o h z)
    · exact b.out x o (a.keep x o h z n) (a.out x o h z)
/-- nothing at all has changed but for new things -/
theorem Ext.lift {r : Option Addr} {Z H Z' H' : Hp} (e : Ext none Z H Z' H') : Ext r Z H Z' H' := ⟨e.zz, e.zh, fun a o h z _ => e.keep a o h z (by simp), e.out⟩
/-- a new frozen thing -/
theorem Ext.new {r : Option Addr} {Z H : Hp} (s : Same Z H) {p : Addr} {o : HO} (hp : H p = none) : Ext r Z H (upd Z p o) (upd H p o) where
  zz := fun a x h => by rw [upd_ne (ne_of_none h (s.free hp))]; exact h
  zh := fun a x h => by
    by_cases e : a = p
    · subst e; rw [upd_same] at h ⊢; exact h
    · rw [upd_ne e] at h ⊢; exact s a x h
  keep := fun a x h _ _ => by rw [upd_ne (ne_of_none h hp)]; exact h
  out := fun a x h z => by rw [upd_ne (ne_of_none h hp)]; exact z
/-- a new thing, not frozen -/
theorem Ext.newU {r : Option Addr} {Z H : Hp} (s : Same Z H) {p : Addr} {o : HO} (hp : H p = none) : Ext r Z H Z (upd H p o) where
  zz := Same.refl _
  zh := fun a x h => by rw [upd_ne (ne_of_none h (s.free hp))]; exact s a x h
  keep := fun a x h _ _ => by rw [upd_ne (ne_of_none h hp)]; exact h
  out := fun a x h z => z
/-- what stands in H and is new to the entry is frozen -/
theorem Ext.freeze {r : Option Addr} {Z H Z1 H1 : Hp} (e : Ext r Z H Z1 H1) {p : Addr} {o : HO} (h1 : H1 p = some o) (hp : H p = none) (zp : Z1 p = none) : Ext r Z H (upd Z1 p o) H1 where
  zz := fun a x h => by
    have := e.zz a x h
    rw [upd_ne (ne_of_none this zp)]; exact this
  zh := fun a x h => by
    by_cases q : a = p
    · subst q; rw [upd_same] at h; cases h; exact h1
    · rw [upd_ne q] at h; exact e.zh a x h
  keep := e.keep
  out := fun a x h z => by rw [upd_ne (ne_of_none h hp)]; exact e.out a x h z

/-! ### the urn -/
def UrnAt (b : Nat) (a : Addr) (H : Hp) : Prop := ∃ x y c : Int, H a = some (.lst [.int x, .int y, .int c]) ∧ 0 ≤ x ∧ 0 ≤ y ∧ y < 2 ^ 63 ∧ 0 ≤ c ∧ c + b ≤ 2 ^ 40
def UrnO (r : Option Addr) (b : Nat) (Z H : Hp) : Prop := match r with
  | none => True
  | some a => Z a = none ∧ UrnAt b a H
theorem UrnO.there {r : Option Addr} {b : Nat} {Z H : Hp} (u : UrnO r b Z H) : ∀ x, r = some x → ∃ o, H x = some o := fun x e => by
  subst e
  obtain ⟨_, _, _, _, h, _⟩ := u
  exact ⟨_, h⟩
theorem Ext.trans' {r : Option Addr} {b : Nat} {Z H Z1 H1 Z2 H2 : Hp} (a : Ext r Z H Z1 H1) (c : Ext r Z1 H1 Z2 H2) (u : UrnO r b Z1 H1) : Ext r Z H Z2 H2 := a.trans c fun x e _ _ _ => u.there x e
/-- a step that does not touch the urn -/
theorem UrnO.step {r : Option Addr} {b : Nat} {Z H Z' H' : Hp} (u : UrnO r b Z H) (e : Ext none Z H Z' H') : UrnO r b Z' H' := by
  cases r with
  | none => trivial
  | some a =>
    obtain ⟨z, x, y, c, h, q⟩ := u
    exact ⟨e.out a _ h z, x, y, c, e.keep a _ h z (by simp), q⟩

/-! ### data -/
mutual
/-- v is the datum: lists are tracked, tuples tracked or written -/
inductive Dq (K : PySem.W.Frag) (Z : Hp) : V → PyData → Prop
  | non : Dq K Z .non .none
  | bl (b : Bool) : Dq K Z (.bl b) (.bool b)
  | int (i : Int) : Dq K Z (.int i) (.int i)
  | str (x : Str) : Dq K Z (.str x) (.str x)
  | lst {a : Addr} {xs : List V} {ds : List PyData} : Z a = some (.lst xs) → DqAll K Z xs ds → Dq K Z (.ref a) (.list ds)
  | tup {a : Addr} {xs : List V} {ds : List PyData} : SqT K Z a xs → DqAll K Z xs ds → Dq K Z (.ref a) (.tuple ds)
inductive DqAll (K : PySem.W.Frag) (Z : Hp) : List V → List PyData → Prop
  | nil : DqAll K Z [] []
  | cons {v : V} {vs : List V} {d : PyData} {ds : List PyData} : Dq K Z v d → DqAll K Z vs ds → DqAll K Z (v :: vs) (d :: ds)
end
mutual
theorem Dq.dp {K : PySem.W.Frag} {Z : Hp} : ∀ {d : PyData} {v : V}, Dq K Z v d → Dp K Z v d
  | .none, _, h => by cases h; exact .non
  | .bool b, _, h => by cases h; exact .bl b
  | .int i, _, h => by cases h; exact .int i
  | .str x, _, h => by cases h; exact .str x
  | .list ds, _, h => by
    cases h with
    | lst hs ha => exact .lst (SqL.of hs) (DqAll.dp ha)
  | .tuple ds, _, h => by
    cases h with
    | tup hs ha => exact .tup hs (DqAll.dp ha)
  | .dict _, _, h => by cases h
theorem DqAll.dp {K : PySem.W.Frag} {Z : Hp} : ∀ {ds : List PyData} {vs : List V}, DqAll K Z vs ds → DpAll K Z vs ds
  | [], _, h => by cases h; exact .nil
  | d :: ds, _, h => by
    cases h with
    | cons h1 h2 => exact .cons (Dq.dp h1) (DqAll.dp h2)
end
mutual
theorem Dq.mono {K : PySem.W.Frag} {Z Z' : Hp} (s : Same Z Z') : ∀ {d : PyData} {v : V}, Dq K Z v d → Dq K Z' v d
  | .none, _, h => by cases h; exact .non
  | .bool b, _, h => by cases h; exact .bl b
  | .int i, _, h => by cases h; exact .int i
  | .str x, _, h => by cases h; exact .str x
  | .list ds, _, h => by
    cases h with
    | lst hs ha => exact .lst (s _ _ hs) (DqAll.mono s ha)
  | .tuple ds, _, h => by
    cases h with
    | tup hs ha => exact .tup (seqT s hs) (DqAll.mono s ha)
  | .dict _, _, h => by cases h
theorem DqAll.mono {K : PySem.W.Frag} {Z Z' : Hp} (s : Same Z Z') : ∀ {ds : List PyData} {vs : List V}, DqAll K Z vs ds → DqAll K Z' vs ds
  | [], _, h => by cases h; exact .nil
  | d :: ds, _, h => by
    cases h with
    | cons h1 h2 => exact .cons (Dq.mono s h1) (DqAll.mono s h2)
theorem seqT {K : PySem.W.Frag} {H H' : Hp} {a : Addr} {xs : List V} (e : Same H H') (h : SqT K H a xs) : SqT K H' a xs := by
  rcases h with (h | ⟨o, h⟩) | h
  · exact .inl (.inl (e _ _ h))
  · exact .inl (.inr ⟨o, e _ _ h⟩)
  · exact .inr h
end
theorem DqAll.len {K : PySem.W.Frag} {Z : Hp} : ∀ {vs : List V} {ds : List PyData}, DqAll K Z vs ds → vs.length = ds.length
  | _, _, .nil => rfl
  | _, _, .cons _ h => congrArg (· + 1) (DqAll.len h)
theorem DqAll.get {K : PySem.W.Frag} {Z : Hp} : ∀ {vs : List V} {ds : List PyData} {i : Nat} {d : PyData}, DqAll K Z vs ds → ds[i]? = some d → ∃ v, vs[i]? = some v ∧ Dq K Z v d
  | _, _, _, _, .nil, h => by simp at h
  | _, _, 0, _, .cons h _, e => by simp at e; subst e; exact ⟨_, rfl, h⟩
  | _, _, i + 1, _, .cons _ h, e => by
    obtain ⟨v, h1, h2⟩ := DqAll.get (i := i) h (by simpa using e)
    exact ⟨v, by simpa using h1, h2⟩
theorem DqAll.getV {K : PySem.W.Frag} {Z : Hp} : ∀ {vs : List V} {ds : List PyData} {i : Nat} {v : V}, DqAll K Z vs ds → vs[i]? = some v → ∃ d, ds[i]? = some d ∧ Dq K Z v d
  | _, _, _, _, .nil, h => by simp at h
  | _, _, 0, _, .cons h _, e => by simp at e; subst e; exact ⟨_, rfl, h⟩
  | _, _, i + 1, _, .cons _ h, e => by
    obtain ⟨v, h1, h2⟩ := DqAll.getV (i := i) h (by simpa using e)
    exact ⟨v, by simpa using h1, h2⟩
theorem DqAll.app {K : PySem.W.Frag} {Z : Hp} : ∀ {vs : List V} {ds : List PyData} {ws : List V} {es : List PyData}, DqAll K Z vs ds → DqAll K Z ws es → DqAll K Z (vs ++ ws) (ds ++ es)
  | _, _, _, _, .nil, h => h
  | _, _, _, _, .cons h r, h' => .cons h (DqAll.app r h')
theorem DqAll.setI {K : PySem.W.Frag} {Z : Hp} {v : V} {d : PyData} (h' : Dq K Z v d) : ∀ {vs : List V} {ds : List PyData} (i : Nat), DqAll K Z vs ds → DqAll K Z (vs.set i v) (ds.set i d)
  | _, _, _, .nil => .nil
  | _, _, 0, .cons _ r => .cons h' r
  | _, _, i + 1, .cons h r => .cons h (DqAll.setI h' i r)
theorem DqAll.ints {K : PySem.W.Frag} {Z : Hp} : ∀ {ns : List Int} {vs : List V}, DqAll K Z vs (ns.map PyData.int) → vs = ns.map V.int
  | [], _, .nil => rfl
  | _ :: _, _, .cons h r => by cases h; rw [DqAll.ints r]; rfl
theorem DqAll.of_ints {K : PySem.W.Frag} {Z : Hp} : ∀ (ns : List Int), DqAll K Z (ns.map V.int) (ns.map PyData.int)
  | [] => .nil
  | n :: r => .cons (.int n) (DqAll.of_ints r)

/-! ### slots -/
/-- an owned object: a list, a dict -/
inductive Ob where
  | l (ds : List D)
  | d (kvs : List (D × D))
inductive Sl where
  | un
  | va (d : D)
  | ow (o : Ob)
  | ur
abbrev Sl.ol (ds : List D) : Sl := .ow (.l ds)
abbrev Sl.di (kvs : List (D × D)) : Sl := .ow (.d kvs)
abbrev Env := List Sl
def sl : Env → Nat → Sl
  | [], _ => .un
  | s :: _, 0 => s
  | _ :: r, i + 1 => sl r i
def setS : Env → Nat → Sl → Env
  | [], _, _ => []
  | _ :: r, 0, s => s :: r
  | x :: r, i + 1, s => x :: setS r i s
theorem setS_length : ∀ (e : Env) (i : Nat) (s : Sl), (setS e i s).length = e.length
  | [], _, _ => rfl
  | _ :: _, 0, _ => rfl
  | _ :: r, i + 1, s => congrArg (· + 1) (setS_length r i s)
theorem sl_setS_same : ∀ (e : Env) (i : Nat) (s : Sl), i < e.length → sl (setS e i s) i = s
  | [], _, _, h => absurd h (Nat.not_lt_zero _)
  | _ :: _, 0, _, _ => rfl
  | _ :: r, i + 1, s, h => sl_setS_same r i s (Nat.lt_of_succ_lt_succ h)
theorem sl_setS_ne : ∀ (e : Env) (i j : Nat) (s : Sl), i ≠ j → sl (setS e i s) j = sl e j
  | [], _, _, _, _ => rfl
  | _ :: _, 0, 0, _, h => absurd rfl h
  | _ :: _, 0, _ + 1, _, _ => rfl
  | _ :: _, _ + 1, 0, _, _ => rfl
  | _ :: r, i + 1, j + 1, s, h => sl_setS_ne r i j s fun e => h (congrArg (· + 1) e)
theorem sl_un_of_le : ∀ (e : Env) (i : Nat), e.length ≤ i → sl e i = .un
  | [], _, _ => rfl
  | _ :: _, 0, h => absurd h (Nat.not_succ_le_zero _)
  | _ :: r, i + 1, h => sl_un_of_le r i (Nat.le_of_succ_le_succ h)

/-! ### dicts: keys None, ints, tuples of such -/
mutual
/-- the hash of a key without texts -/
def hash0 : NestedKey → Int
  | .none => reduceHash 0xFCA86420
  | .num i => hashInt i
  | .text _ => 0
  | .tup ks => reduceHash (Builtin.Tuple.tupleHashOf (hashs0 ks))
def hashs0 : List NestedKey → List Int
  | [] => []
  | k :: ks => hash0 k :: hashs0 ks
end
mutual
def keyD : D → Option NestedKey
  | .none => some .none
  | .int i => some (.num i)
  | .tuple ds => match keyDs ds with
    | some ks => some (.tup ks)
    | none => none
  | _ => none
def keyDs : List D → Option (List NestedKey)
  | [] => some []
  | d :: r => match keyD d with
    | some k => match keyDs r with
      | some ks => some (k :: ks)
      | none => none
    | none => none
end
/-- an entry: its key, its key as it lies, its value as it lies -/
abbrev Ent := NestedKey × Value × Value
def DictPh (a : Addr) (es : List Ent) : Heap → Prop := fun h => ∃ o t ep, h.get? a = some o ∧ o.ExactDict ∧ o.data = .dict t ep ∧ t.toList = es.map fun e => ⟨hash0 e.1, e.2.1, e.2.2⟩
inductive EntsOk (K : PySem.W.Frag) (Z : Hp) : List Ent → List (D × D) → Prop
  | nil : EntsOk K Z [] []
  | cons {k : NestedKey} {u v : Value} {x y : V} {dk dv : D} {es : List Ent} {kvs : List (D × D)} : keyD dk = some k → k.depth ≤ 8 → RelV x u → Dq K Z x dk → RelV y v → Dq K Z y dv → EntsOk K Z es kvs → EntsOk K Z ((k, u, v) :: es) ((dk, dv) :: kvs)
theorem EntsOk.mono {K : PySem.W.Frag} {Z Z' : Hp} (s : Same Z Z') : ∀ {es : List Ent} {kvs : List (D × D)}, EntsOk K Z es kvs → EntsOk K Z' es kvs
  | _, _, .nil => .nil
  | _, _, .cons a a' b c d e t => .cons a a' b (c.mono s) d (e.mono s) (t.mono s)
def DiOk (K : PySem.W.Frag) (Z : Hp) (a : Addr) (o : HO) (kvs : List (D × D)) : Prop := (a == sysModules) = false ∧ kvs.length ≤ sizeLine ∧ ∃ es : List Ent, o = .ext (DictPh a es) ∧ EntsOk K Z es kvs ∧ (es.map (·.1)).Nodup
def ObOk (K : PySem.W.Frag) (Z : Hp) (a : Addr) (o : HO) : Ob → Prop
  | .l ds => ∃ vs, o = .lst vs ∧ DqAll K Z vs ds
  | .d kvs => DiOk K Z a o kvs
theorem ObOk.mono {K : PySem.W.Frag} {Z Z' : Hp} (s : Same Z Z') {a : Addr} {o : HO} {ob : Ob} (h : ObOk K Z a o ob) : ObOk K Z' a o ob := by
  cases ob with
  | l ds => obtain ⟨vs, h1, h2⟩ := h; exact ⟨vs, h1, h2.mono s⟩
  | d kvs => obtain ⟨h0, h1, es, h2, h3, h4⟩ := h; exact ⟨h0, h1, es, h2, h3.mono s, h4⟩
/-- the script, a list that may be known to the object -/
def scD (ds : List D) : D := .dict [(.list ds, .none)]
theorem SqL.same {K : PySem.W.Frag} {H H' : Hp} {a : Addr} {xs : List V} (e : Same H H') (h : SqL K H a xs) : SqL K H' a xs := by
  rcases h with (h | ⟨o, h⟩) | h
  · exact .inl (.inl (e _ _ h))
  · exact .inl (.inr ⟨o, e _ _ h⟩)
  · exact .inr h
def VaOk (K : PySem.W.Frag) (Z : Hp) (v : V) (d : D) : Prop := Dq K Z v d ∨ ∃ ds a xs, d = scD ds ∧ v = .ref a ∧ SqL K Z a xs ∧ DqAll K Z xs ds
theorem VaOk.mono {K : PySem.W.Frag} {Z Z' : Hp} (s : Same Z Z') {v : V} {d : D} (h : VaOk K Z v d) : VaOk K Z' v d := by
  rcases h with h | ⟨ds, a, xs, h1, h2, h3, h4⟩
  · exact .inl (h.mono s)
  · exact .inr ⟨ds, a, xs, h1, h2, SqL.same s h3, h4.mono s⟩
/-- slot i holds it: ow i the address of an owned object -/
def SlOk (r : Option Addr) (K : PySem.W.Frag) (Z H : Hp) (ow : Nat → Addr) (σ : L2.St) (i : Nat) : Sl → Prop
  | .un => True
  | .va d => ∃ v, σ[i]? = some (some v) ∧ VaOk K Z v d
  | .ow ob => σ[i]? = some (some (.ref (ow i))) ∧ Z (ow i) = none ∧ r ≠ some (ow i) ∧ ∃ o, H (ow i) = some o ∧ ObOk K Z (ow i) o ob
  | .ur => ∃ a, r = some a ∧ σ[i]? = some (some (.ref a))
structure SE (r : Option Addr) (b : Nat) (K : PySem.W.Frag) (Z H : Hp) (ow : Nat → Addr) (σ : L2.St) (env : Env) : Prop where
  zh : Same Z H
  urn : UrnO r b Z H
  at_ : ∀ i, SlOk r K Z H ow σ i (sl env i)
  len : env.length = σ.length
theorem SlOk.ext {r : Option Addr} {K : PySem.W.Frag} {Z H Z' H' : Hp} {ow : Nat → Addr} {σ : L2.St} {i : Nat} {s : Sl} (h : SlOk r K Z H ow σ i s) (e : Ext r Z H Z' H') : SlOk r K Z' H' ow σ i s := by
  cases s with
  | un => trivial
  | va d => obtain ⟨v, h1, h2⟩ := h; exact ⟨v, h1, VaOk.mono e.zz h2⟩
  | ow ob =>
    obtain ⟨h1, z, n, o, h2, h3⟩ := h
    exact ⟨h1, e.out _ _ h2 z, n, o, e.keep _ _ h2 z n, h3.mono e.zz⟩
  | ur => exact h
theorem SE.ext {r : Option Addr} {b b' : Nat} {K : PySem.W.Frag} {Z H Z' H' : Hp} {ow : Nat → Addr} {σ : L2.St} {env : Env} (S : SE r b K Z H ow σ env) (e : Ext r Z H Z' H') (u : UrnO r b' Z' H') : SE r b' K Z' H' ow σ env :=
  ⟨e.zh, u, fun i => (S.at_ i).ext e, S.len⟩

/-- how an exception lies: its class, its dict's address -/
def XRel (K : PySem.W.Frag) (Z H : Hp) (C : Str → Addr) (x : Exn) (cls : Value) (dd : Option Addr) : Prop :=
  cls = .ref (C x.cls) ∧ match x.fs with
    | [] => True
    | fs => ∃ a vs, dd = some a ∧ H a = some (.xd (fs.map (·.1) |>.zip vs)) ∧ DqAll K Z vs (fs.map (·.2))

/-! ### readings -/
/-- the world of a def: the urn's address, the classes of exceptions -/
structure G where
  r : Option Addr
  C : Str → Addr
def KG {α V' : Type} (g : G) (K : PySem.W.Frag) (W : WX) (σ : L2.St) (b : Nat) (Z H : Hp) (Rel : α → V' → Hp → Hp → Prop) (m : R α) (Q : V' → Hp → Prop) : Prop :=
  m.post b (fun b' a => ∀ v H' Z', Ext g.r Z H Z' H' → UrnO g.r b' Z' H' → Rel a v Z' H' → Q v H') (fun b' x => ∀ cls dd H' Z', Ext g.r Z H Z' H' → UrnO g.r b' Z' H' → XRel K Z' H' g.C x cls dd → W cls dd σ H')
def tG {α V' : Type} (g : G) (K : PySem.W.Frag) (W : WX) (Rel : Hp → α → V' → Hp → Hp → Prop) (f : Env → R α) : L2.St → Hp → (V' → Hp → Prop) → Prop := fun σ H Q =>
  ∃ b Z ow env, SE g.r b K Z H ow σ env ∧ KG g K W σ b Z H (Rel H) (f env) Q

section
variable {g : G} {K : PySem.W.Frag} {W : WX} {σ : L2.St} {b : Nat} {Z H : Hp} {ow : Nat → Addr} {env : Env}
/-- one thing behind another -/
theorem KG.seq {α β V' V'' : Type} {Rel : α → V' → Hp → Hp → Prop} {Rel2 : β → V'' → Hp → Hp → Prop} {m : R α} {f : α → R β} {Q : V'' → Hp → Prop} {Q' : V' → Hp → Prop} (S : SE g.r b K Z H ow σ env)
    (h : KG g K W σ b Z H Rel2 (m.bind f) Q)
    (k : ∀ b1 a v H1 Z1, Ext g.r Z H Z1 H1 → SE g.r b1 K Z1 H1 ow σ env → Rel a v Z1 H1 → KG g K W σ b1 Z1 H1 Rel2 (f a) Q → Q' v H1) : KG g K W σ b Z H Rel m Q' := by
  refine R.post_mono (fun b1 a q v H1 Z1 e u rel => ?_) (fun _ _ q => q) (R.post_bind h)
  refine k b1 a v H1 Z1 e (S.ext e u) rel ?_
  exact R.post_mono (fun b2 c q2 w H2 Z2 e2 u2 rel2 => q2 w H2 Z2 (e.trans' e2 u) u2 rel2) (fun b2 x q2 cls dd H2 Z2 e2 u2 xr => q2 cls dd H2 Z2 (e.trans' e2 u) u2 xr) q
theorem KG.ok {α V' : Type} {Rel : α → V' → Hp → Hp → Prop} {a : α} {Q : V' → Hp → Prop} (S : SE g.r b K Z H ow σ env) (h : KG g K W σ b Z H Rel (.ok a) Q) {v : V'} (r : Rel a v Z H) : Q v H :=
  h v H Z (Ext.refl S.zh) S.urn r
theorem KG.ok' {α V' : Type} {Rel : α → V' → Hp → Hp → Prop} {a : α} {Q : V' → Hp → Prop} (S : SE g.r b K Z H ow σ env) (h : KG g K W σ b Z H Rel (.ok a) Q) {v : V'} {Z' H' : Hp} (e : Ext none Z H Z' H') (r : Rel a v Z' H') : Q v H' :=
  h v H' Z' e.lift (S.urn.step e) r
end

/-! ### judgements -/
abbrev RelD (K : PySem.W.Frag) : Hp → D → V → Hp → Hp → Prop := fun _ d v Z' _ => Dq K Z' v d
abbrev RelA (K : PySem.W.Frag) : Hp → List D → List V → Hp → Hp → Prop := fun _ ds vs Z' _ => DqAll K Z' vs ds
abbrev RelT : Hp → Bool → Bool → Hp → Hp → Prop := fun _ c x _ _ => x = c
/-- a new list, of no one else's -/
abbrev RelN (r : Option Addr) (K : PySem.W.Frag) : Hp → List D → V → Hp → Hp → Prop := fun H ds v Z' H' => ∃ p vs, v = .ref p ∧ H p = none ∧ Z' p = none ∧ r ≠ some p ∧ H' p = some (.lst vs) ∧ DqAll K Z' vs ds
/-- a list to be read now -/
abbrev RelB (r : Option Addr) (K : PySem.W.Frag) : Hp → D → V → Hp → Hp → Prop := fun _ d v Z' H' => Dq K Z' v d ∨ (∃ p vs ds, v = .ref p ∧ d = .list ds ∧ Z' p = none ∧ r ≠ some p ∧ H' p = some (.lst vs) ∧ DqAll K Z' vs ds) ∨ ∃ p vs ds, v = .ref p ∧ d = .list ds ∧ SqL K Z' p vs ∧ DqAll K Z' vs ds
abbrev VE (g : G) (W : WX) (X : Cx) (e : Expr) (f : Env → R D) : Prop := PE X e (tG g X.K W (RelD X.K) f)
abbrev NE (g : G) (W : WX) (X : Cx) (e : Expr) (f : Env → R (List D)) : Prop := PE X e (tG g X.K W (RelN g.r X.K) f)
abbrev TEs (g : G) (W : WX) (X : Cx) (e : Expr) (f : Env → R Bool) : Prop := PT X e (tG g X.K W RelT f)
abbrev AEs (g : G) (W : WX) (X : Cx) (es : List Expr) (f : Env → R (List D)) : Prop := PA X es (tG g X.K W (RelA X.K) f)

theorem PE.of {X : Cx} {e : Expr} {t t' : TE} (h : PE X e t) (i : ∀ σ H Q, t' σ H Q → t σ H Q) : PE X e t' := ⟨fun pins s σ H Q I q => h.run pins s σ H Q I (i σ H Q q)⟩
theorem PT.of {X : Cx} {e : Expr} {t t' : TT} (h : PT X e t) (i : ∀ σ H Q, t' σ H Q → t σ H Q) : PT X e t' := ⟨fun pins s σ H Q I q => h.run pins s σ H Q I (i σ H Q q)⟩
theorem PW.of {X : Cx} {e : Expr} {t t' : TT} (h : PW X e t) (i : ∀ σ H Q, t' σ H Q → t σ H Q) : PW X e t' := ⟨fun w pins s σ H Q I q => h.run w pins s σ H Q I (i σ H Q q)⟩
theorem PA.of {X : Cx} {e : List Expr} {t t' : TA} (h : PA X e t) (i : ∀ σ H Q, t' σ H Q → t σ H Q) : PA X e t' := ⟨fun pos pins s σ H Q I q => h.run pos pins s σ H Q I (i σ H Q q)⟩
end Ev
set_option Elab.async false
set_option linter.all false
set_option maxRecDepth 100000
set_option maxHeartbeats 4000000
/-! Ev2: expressions. -/
namespace Ev
open PySem PySem.Spec PyProof.Rows L2

/-! ### what Dq says of a datum's form -/
section
variable {K : PySem.W.Frag} {Z : Hp} {v : V}
theorem Dq.int_ {i : Int} (h : Dq K Z v (.int i)) : v = .int i := by cases h; rfl
theorem Dq.bl_ {i : Bool} (h : Dq K Z v (.bool i)) : v = .bl i := by cases h; rfl
theorem Dq.str_ {i : Str} (h : Dq K Z v (.str i)) : v = .str i := by cases h; rfl
theorem Dq.non_ (h : Dq K Z v .none) : v = .non := by cases h; rfl
theorem Dq.lst_ {ds : List D} (h : Dq K Z v (.list ds)) : ∃ a xs, v = .ref a ∧ Z a = some (.lst xs) ∧ DqAll K Z xs ds := by cases h with | lst a b => exact ⟨_, _, rfl, a, b⟩
theorem Dq.tup_ {ds : List D} (h : Dq K Z v (.tuple ds)) : ∃ a xs, v = .ref a ∧ SqT K Z a xs ∧ DqAll K Z xs ds := by cases h with | tup a b => exact ⟨_, _, rfl, a, b⟩
end
def isN (d : D) : Bool := match d with
  | .none => true
  | _ => false
/-- none or not, by the value -/
theorem Dq.none_iff {K : PySem.W.Frag} {Z : Hp} {v : V} {d : D} (h : Dq K Z v d) : decide (v = .non) = isN d := by
  cases h <;> rfl

def R.of {α : Type} : Option α → R α
  | some a => .ok a
  | none => .fail
theorem KG.of {α V' : Type} {g : G} {K : PySem.W.Frag} {W : WX} {σ : L2.St} {b : Nat} {Z H : Hp} {Rel : α → V' → Hp → Hp → Prop} {o : Option α} {Q : V' → Hp → Prop} (h : KG g K W σ b Z H Rel (.of o) Q) : ∃ a, o = some a ∧ KG g K W σ b Z H Rel (.ok a) Q := by
  cases o with
  | none => exact h.elim
  | some a => exact ⟨a, rfl, h⟩

/-! ### names, constants -/
def vaD : D → R D
  | .dict _ => .fail
  | d => .ok d
def vaB : D → R D
  | .dict [(.list ds, .none)] => .ok (.list ds)
  | .dict _ => .fail
  | d => .ok d
theorem VaOk.dq {K : PySem.W.Frag} {Z : Hp} {v : V} {d d' : D} (h : VaOk K Z v d) (e : vaD d = .ok d') : Dq K Z v d' := by
  rcases h with h | ⟨ds, a, xs, h1, _⟩
  · cases d <;> cases e <;> exact h
  · subst h1; cases e
theorem vaD_any (d : D) : vaD d = .fail ∨ vaD d = .ok d := by cases d <;> first | exact .inl rfl | exact .inr rfl
theorem vaB_any {K : PySem.W.Frag} {Z : Hp} {v : V} {d : D} (h : VaOk K Z v d) : vaB d = .fail ∨ (vaB d = .ok d ∧ Dq K Z v d) ∨ ∃ ds a xs, vaB d = .ok (.list ds) ∧ v = .ref a ∧ SqL K Z a xs ∧ DqAll K Z xs ds := by
  rcases h with h | ⟨ds, a, xs, h1, h2, h3, h4⟩
  · cases d <;> first | exact .inr (.inl ⟨rfl, h⟩) | cases h
  · subst h1; exact .inr (.inr ⟨ds, a, xs, rfl, h2, h3, h4⟩)
def eVar (i : Nat) : Env → R D := fun env => match sl env i with
  | .va d => vaD d
  | _ => .fail
def bVar (i : Nat) : Env → R D := fun env => match sl env i with
  | .va d => vaB d
  | .ow (.l ds) => .ok (.list ds)
  | _ => .fail
def eC (d : D) : Env → R D := fun _ => .ok d
abbrev BE (g : G) (W : WX) (X : Cx) (e : Expr) (f : Env → R D) : Prop := PE X e (tG g X.K W (RelB g.r X.K) f)
section
variable {g : G} {W : WX} {X : Cx}
theorem ve_var {i : Nat} {x : Str} {pos : Pos} (hN : X.N[i]? = some x) (hv : Vis X.env.scope x) (hd : (x == ("__debug__" : Str)) = false := by decide) (hcd : (x == ("__classdict__" : Str)) = false := by decide) : VE g W X (.Name x pos) (eVar i) := by
  refine PE.of (pe_var hN hv hd hcd) fun σ H Q ⟨b, Z, ow, env, S, k⟩ => ?_
  unfold eVar at k
  have a := S.at_ i
  split at k
  · rename_i d e
    rw [e] at a
    obtain ⟨v, h1, h2⟩ := a
    rcases vaD_any d with h | h
    · rw [h] at k; exact k.elim
    · rw [h] at k
      exact ⟨v, h1, k.ok S (h2.dq h)⟩
  · exact k.elim
theorem be_var {i : Nat} {x : Str} {pos : Pos} (hN : X.N[i]? = some x) (hv : Vis X.env.scope x) (hd : (x == ("__debug__" : Str)) = false := by decide) (hcd : (x == ("__classdict__" : Str)) = false := by decide) : BE g W X (.Name x pos) (bVar i) := by
  refine PE.of (pe_var hN hv hd hcd) fun σ H Q ⟨b, Z, ow, env, S, k⟩ => ?_
  unfold bVar at k
  have a := S.at_ i
  split at k
  · rename_i d e
    rw [e] at a
    obtain ⟨v, h1, h2⟩ := a
    rcases vaB_any h2 with h | ⟨h, hq⟩ | ⟨ds, p, xs, h, q1, q2, q3⟩
    · rw [h] at k; exact k.elim
    · rw [h] at k
      exact ⟨v, h1, k.ok S (.inl hq)⟩
    · rw [h] at k
      exact ⟨v, h1, k.ok S (.inr (.inr ⟨p, xs, ds, q1, rfl, q2, q3⟩))⟩
  · rename_i d e
    rw [e] at a
    obtain ⟨h1, h2, h3, _, h4, vs, rfl, h5⟩ := a
    exact ⟨_, h1, k.ok S (.inr (.inl ⟨_, vs, _, rfl, rfl, h2, h3, h4, h5⟩))⟩
  · exact k.elim
theorem be_ve {e : Expr} {f : Env → R D} (h : VE g W X e f) : BE g W X e f := by
  refine PE.of h fun σ H Q ⟨b, Z, ow, env, S, k⟩ => ⟨b, Z, ow, env, S, ?_⟩
  exact R.post_mono (fun b a q v H' Z' e u r => q v H' Z' e u (.inl r)) (fun _ _ q => q) k
theorem ve_c {e : Expr} {v : V} {d : D} (h : PE X e (tC v)) (hd : ∀ Z, Dq X.K Z v d) : VE g W X e (eC d) :=
  PE.of h fun σ H Q ⟨b, Z, ow, env, S, k⟩ => k.ok S (hd Z)
theorem ve_int {i j pos} : VE g W X (.Constant (.int i) j pos) (eC (.int i)) := ve_c pe_int fun _ => .int i
theorem ve_bl {i j pos} : VE g W X (.Constant (.bool i) j pos) (eC (.bool i)) := ve_c pe_bl fun _ => .bl i
theorem ve_str {i j pos} : VE g W X (.Constant (.str i) j pos) (eC (.str i)) := ve_c pe_str fun _ => .str i
theorem ve_non {j pos} : VE g W X (.Constant .none j pos) (eC .none) := ve_c pe_non fun _ => .non
theorem ve_gint {x : Str} {pos : Pos} {i : Int} (hg : Gl X x) (hm : ∃ t, X.mg x = some (.int i t)) (hd : (x == ("__debug__" : Str)) = false := by decide) : VE g W X (.Name x pos) (eC (.int i)) :=
  let ⟨t, e⟩ := hm
  ve_c (pe_glob (v := .int i) hg e ⟨t, rfl⟩ hd) fun _ => .int i
theorem ve_gstr {x : Str} {pos : Pos} {i : Str} (hg : Gl X x) (hm : ∃ t, X.mg x = some (.str i t)) (hd : (x == ("__debug__" : Str)) = false := by decide) : VE g W X (.Name x pos) (eC (.str i)) :=
  let ⟨t, e⟩ := hm
  ve_c (pe_glob (v := .str i) hg e ⟨t, rfl⟩ hd) fun _ => .str i
end

/-! ### operators by values -/
/-- a rule by values: nothing that was there has changed -/
def rD2 (K : PySem.W.Frag) (op : D → D → Option D) : R2 := fun x y H Q => ∃ Z dx dy d, Same Z H ∧ Dq K Z x dx ∧ Dq K Z y dy ∧ op dx dy = some d ∧ ∀ v H' Z', Ext none Z H Z' H' → Dq K Z' v d → Q v H'
def rD1 (K : PySem.W.Frag) (op : D → Option D) : V → Hp → VK → Prop := fun x H Q => ∃ Z dx d, Same Z H ∧ Dq K Z x dx ∧ op dx = some d ∧ ∀ v H' Z', Ext none Z H Z' H' → Dq K Z' v d → Q v H'
theorem q_same {K : PySem.W.Frag} {Z H : Hp} {d : D} {Q : VK} {v : V} (s : Same Z H) (q : ∀ v H' Z', Ext none Z H Z' H' → Dq K Z' v d → Q v H') (h : Dq K Z v d) : Q v H := q v H Z (Ext.refl s) h
theorem q_tup {K : PySem.W.Frag} {Z H : Hp} {ds : List D} {Q : VK} {xs : List V} (s : Same Z H) (q : ∀ v H' Z', Ext none Z H Z' H' → Dq K Z' v (.tuple ds) → Q v H') (h : DqAll K Z xs ds) : ∀ p, H p = none → Q (.ref p) (upd H p (.tup xs)) := fun p hp =>
  q _ _ (upd Z p (.tup xs)) (Ext.new s hp) (.tup (SqT.of upd_same) (DqAll.mono (Ext.new (r := none) s hp).zz h))
theorem q_lst {K : PySem.W.Frag} {Z H : Hp} {ds : List D} {Q : VK} {xs : List V} (s : Same Z H) (q : ∀ v H' Z', Ext none Z H Z' H' → Dq K Z' v (.list ds) → Q v H') (h : DqAll K Z xs ds) : ∀ p, H p = none → Q (.ref p) (upd H p (.lst xs)) := fun p hp =>
  q _ _ (upd Z p (.lst xs)) (Ext.new s hp) (.lst upd_same (DqAll.mono (Ext.new (r := none) s hp).zz h))

def eBin (op : D → D → Option D) (f h : Env → R D) : Env → R D := fun env => (f env).bind fun x => (h env).bind fun y => .of (op x y)
def eUn (op : D → Option D) (f : Env → R D) : Env → R D := fun env => (f env).bind fun x => .of (op x)
section
variable {g : G} {W : WX} {X : Cx} {a b c : Expr} {f h : Env → R D} {pos : Pos}
/-- two operands, then a rule by values -/
theorem tOp_of {K : PySem.W.Frag} {op : D → D → Option D} {σ : L2.St} {H : Hp} {Q : VK} (q : tG g K W (RelD K) (eBin op f h) σ H Q) : tOp (rD2 K op) (tG g K W (RelD K) f) (tG g K W (RelD K) h) σ H Q := by
  obtain ⟨b, Z, ow, env, S, k⟩ := q
  refine ⟨b, Z, ow, env, S, KG.seq S k fun b1 x vx H1 Z1 e1 S1 hx k1 => ?_⟩
  refine ⟨b1, Z1, ow, env, S1, KG.seq S1 k1 fun b2 y vy H2 Z2 e2 S2 hy k2 => ?_⟩
  obtain ⟨d, hd, k3⟩ := k2.of
  exact ⟨Z2, x, y, d, S2.zh, Dq.mono e2.zz hx, hy, hd, fun v H' Z' e r => k3.ok' S2 e r⟩
theorem ve_bin {o : Operator} {op : D → D → Option D} (ho : OpR X (binaryOp o) (rD2 X.K op)) (ha : VE g W X a f) (hb : VE g W X b h) : VE g W X (.BinOp a o b pos) (eBin op f h) :=
  PE.of (pe_op ho ha hb) fun _ _ _ q => tOp_of q
theorem ve_un {o : UnaryOp} {op : D → Option D} (ho : UnR X (unaryOp o) (rD1 X.K op)) (ha : VE g W X a f) : VE g W X (.UnaryOp o a pos) (eUn op f) :=
  PE.of (pe_un ho ha) fun σ H Q ⟨b, Z, ow, env, S, k⟩ => ⟨b, Z, ow, env, S, KG.seq S k fun b1 x vx H1 Z1 e1 S1 hx k1 => by
    obtain ⟨d, hd, k3⟩ := k1.of
    exact ⟨Z1, x, d, S1.zh, hx, hd, fun v H' Z' e r => k3.ok' S1 e r⟩⟩
theorem ve_cmp {o : CmpOp} {op : D → D → Option D} (ho : OpR X (compareOp o) (rD2 X.K op)) (ha : VE g W X a f) (hb : VE g W X b h) (hm : behindInMarks o b = false := by rfl) : VE g W X (.Compare a [o] [b] pos) (eBin op f h) :=
  PE.of (pe_cmpR ho ha hb hm) fun _ _ _ q => tOp_of q
def asB : D → R Bool
  | .bool b => .ok b
  | _ => .fail
def eT (f : Env → R D) : Env → R Bool := fun env => (f env).bind asB
theorem KG.asB {K : PySem.W.Frag} {σ : L2.St} {b : Nat} {Z H : Hp} {ow : Nat → Addr} {env : Env} {d : D} {v : V} {Q : Bool → Hp → Prop} {α V' : Type} {Rel : α → V' → Hp → Hp → Prop} (S : SE g.r b K Z H ow σ env) (hd : Dq K Z v d)
    (k : KG g K W σ b Z H (RelT H) (Ev.asB d) Q) : ∃ c, v = .bl c ∧ Q c H := by
  cases d <;> first | exact k.elim | skip
  rename_i c
  exact ⟨c, Dq.bl_ hd, k.ok S rfl⟩
theorem tTest_of {K : PySem.W.Frag} {t : TE} {σ : L2.St} {H : Hp} {Q : Bool → Hp → Prop} (ht : ∀ σ H Q, tG g K W (RelD K) f σ H Q → t σ H Q) (q : tG g K W RelT (eT f) σ H Q) : tTest t σ H Q := by
  obtain ⟨b, Z, ow, env, S, k⟩ := q
  refine ht _ _ _ ⟨b, Z, ow, env, S, KG.seq S k fun b1 x vx H1 Z1 e1 S1 hx k1 => ?_⟩
  exact KG.asB (α := Bool) (V' := Bool) (Rel := RelT H1) S1 hx k1
theorem te_cmp {o : CmpOp} {op : D → D → Option D} (ho : OpR X (compareOp o) (rD2 X.K op)) (ha : VE g W X a f) (hb : VE g W X b h) (hm : behindInMarks o b = false := by rfl) : TEs g W X (.Compare a [o] [b] pos) (eT (eBin op f h)) :=
  PT.of (pt_cmpR ho ha hb hm) fun _ _ _ q => tTest_of (fun _ _ _ q => tOp_of q) q
/-- an expression of another form whose value is a bool -/
theorem te_val {e : Expr} (hf : VE g W X e f) (he : ∀ whole, isTrue e X.env whole = (do let v ← whole; standAt e.pos; holding [v] (truthy v)) := by intro _; rfl) : TEs g W X e (eT f) :=
  PT.of (pt_val hf he) fun σ H Q q => tTest_of (t := tG g X.K W (RelD X.K) f) (fun _ _ _ q => q) q
/-! chains -/
def eChain (p q : D → D → Option D) (f h k : Env → R D) : Env → R D := fun env => (f env).bind fun x => (h env).bind fun y => (R.of (p x y)).bind fun t => (asB t).bind fun
  | true => (k env).bind fun z => .of (q y z)
  | false => .ok (.bool false)
theorem tChain_of {K : PySem.W.Frag} {p q : D → D → Option D} {k : Env → R D} {σ : L2.St} {H : Hp} {Q : VK} (hq : tG g K W (RelD K) (eChain p q f h k) σ H Q) :
    tChain (rD2 K p) (rD2 K q) (tG g K W (RelD K) f) (tG g K W (RelD K) h) (tG g K W (RelD K) k) σ H Q := by
  obtain ⟨b, Z, ow, env, S, kk⟩ := hq
  refine ⟨b, Z, ow, env, S, KG.seq S kk fun b1 x vx H1 Z1 e1 S1 hx k1 => ?_⟩
  refine ⟨b1, Z1, ow, env, S1, KG.seq S1 k1 fun b2 y vy H2 Z2 e2 S2 hy k2 => ?_⟩
  cases hp : p x y with
  | none => rw [hp] at k2; exact k2.elim
  | some t =>
    rw [hp] at k2
    refine ⟨Z2, x, y, t, S2.zh, Dq.mono e2.zz hx, hy, hp, fun v H3 Z3 e3 ht => ?_⟩
    have S3 := S2.ext e3.lift (S2.urn.step e3)
    cases t <;> first | exact k2.elim | skip
    rename_i c
    refine ⟨c, Dq.bl_ ht, ?_⟩
    cases c with
    | true =>
      rw [if_pos rfl]
      have k4 : KG g K W σ b2 Z2 H2 (RelD K H2) ((k env).bind fun z => .of (q y z)) Q := k2
      have k5 : KG g K W σ b2 Z3 H3 (RelD K H3) ((k env).bind fun z => .of (q y z)) Q := R.post_mono (fun b' a q v H' Z' e u r => q v H' Z' (e3.lift.trans' e S3.urn) u r) (fun b' x q c d H' Z' e u r => q c d H' Z' (e3.lift.trans' e S3.urn) u r) k4
      refine ⟨b2, Z3, ow, env, S3, KG.seq S3 k5 fun b4 z vz H4 Z4 e4 S4 hz k6 => ?_⟩
      obtain ⟨d, hd, k7⟩ := k6.of
      exact ⟨Z4, y, z, d, S4.zh, Dq.mono (e3.zz.trans e4.zz) hy, hz, hd, fun v H' Z' e r => k7.ok' S4 e r⟩
    | false =>
      rw [if_neg Bool.false_ne_true]
      exact KG.ok' (a := PyData.bool false) S2 k2 e3 (.bl false)
theorem ve_chain {o o' : CmpOp} {p q : D → D → Option D} {k : Env → R D} (ho : OpR X (compareOp o) (rD2 X.K p)) (ho' : OpR X (compareOp o') (rD2 X.K q)) (ha : VE g W X a f) (hb : VE g W X b h) (hc : VE g W X c k)
    (hm : lastMarks [o, o'] [b, c] = false := by with_unfolding_all rfl) : VE g W X (.Compare a [o, o'] [b, c] pos) (eChain p q f h k) := PE.of (pe_chain ho ho' ha hb hc hm) fun _ _ _ q => tChain_of q
theorem te_chain {o o' : CmpOp} {p q : D → D → Option D} {k : Env → R D} (ho : OpR X (compareOp o) (rD2 X.K p)) (ho' : OpR X (compareOp o') (rD2 X.K q)) (ha : VE g W X a f) (hb : VE g W X b h) (hc : VE g W X c k)
    (hm : lastMarks [o, o'] [b, c] = false := by with_unfolding_all rfl) : TEs g W X (.Compare a [o, o'] [b, c] pos) (eT (eChain p q f h k)) := PT.of (pt_chain ho ho' ha hb hc hm) fun _ _ _ q => tTest_of (fun _ _ _ q => tChain_of q) q
/-! and, or, not -/
variable {t u : Env → R Bool} {rest : List Expr}
def tAnd (t u : Env → R Bool) : Env → R Bool := fun env => (t env).bind fun
  | true => u env
  | false => .ok false
def tOr (t u : Env → R Bool) : Env → R Bool := fun env => (t env).bind fun
  | true => .ok true
  | false => u env
def tNot (t : Env → R Bool) : Env → R Bool := fun env => (t env).bind fun c => .ok (!c)
abbrev WEs (g : G) (W : WX) (X : Cx) (e : Expr) (f : Env → R Bool) : Prop := PW X e (tG g X.K W RelT f)
theorem we_and1 (ha : TEs g W X a t) : WEs g W X (.BoolOp .And [a] pos) t := pw_and1 ha
theorem we_or1 (ha : TEs g W X a t) : WEs g W X (.BoolOp .Or [a] pos) t := pw_or1 ha
theorem we_and (ha : TEs g W X a t) (hb : WEs g W X (.BoolOp .And (b :: rest) pos) u) : WEs g W X (.BoolOp .And (a :: b :: rest) pos) (tAnd t u) :=
  PW.of (pw_and ha hb) fun σ H Q ⟨b, Z, ow, env, S, k⟩ => ⟨b, Z, ow, env, S, KG.seq S k fun b1 x vx H1 Z1 e1 S1 hx k1 => by
    cases hx
    cases x with
    | true => rw [if_pos rfl]; exact ⟨b1, Z1, ow, env, S1, k1⟩
    | false => rw [if_neg Bool.false_ne_true]; exact KG.ok (Rel := RelT H1) S1 k1 rfl⟩
theorem we_or (ha : TEs g W X a t) (hb : WEs g W X (.BoolOp .Or (b :: rest) pos) u) : WEs g W X (.BoolOp .Or (a :: b :: rest) pos) (tOr t u) :=
  PW.of (pw_or ha hb) fun σ H Q ⟨b, Z, ow, env, S, k⟩ => ⟨b, Z, ow, env, S, KG.seq S k fun b1 x vx H1 Z1 e1 S1 hx k1 => by
    cases hx
    cases x with
    | false => rw [if_neg Bool.false_ne_true]; exact ⟨b1, Z1, ow, env, S1, k1⟩
    | true => rw [if_pos rfl]; exact KG.ok (Rel := RelT H1) S1 k1 rfl⟩
theorem te_w {e : Expr} (h : WEs g W X e t) : TEs g W X e t := h.pt
theorem te_not (ha : TEs g W X a t) : TEs g W X (.UnaryOp .Not a pos) (tNot t) :=
  PT.of (pt_not ha) fun σ H Q ⟨b, Z, ow, env, S, k⟩ => ⟨b, Z, ow, env, S, KG.seq S k fun b1 x vx H1 Z1 e1 S1 hx k1 => by
    cases hx
    exact KG.ok (Rel := RelT H1) S1 k1 rfl⟩
/-! the same as values, of bools -/
def vAnd (f h : Env → R D) : Env → R D := fun env => (f env).bind fun x => (asB x).bind fun
  | true => h env
  | false => .ok (.bool false)
def vOr (f h : Env → R D) : Env → R D := fun env => (f env).bind fun x => (asB x).bind fun
  | true => .ok (.bool true)
  | false => h env
def vNot (f : Env → R D) : Env → R D := fun env => (f env).bind fun x => (asB x).bind fun c => .ok (.bool (!c))
theorem ve_one {op} (h : VE g W X a f) : VE g W X (.BoolOp op [a] pos) f := pe_one h
theorem ve_and (ha : VE g W X a f) (hb : VE g W X (.BoolOp .And (b :: rest) pos) h) : VE g W X (.BoolOp .And (a :: b :: rest) pos) (vAnd f h) :=
  PE.of (pe_and ha hb) fun σ H Q ⟨b, Z, ow, env, S, k⟩ => ⟨b, Z, ow, env, S, KG.seq S k fun b1 x vx H1 Z1 e1 S1 hx k1 => by
    cases x <;> first | exact k1.elim | skip
    rename_i c
    refine ⟨c, Dq.bl_ hx, ?_⟩
    cases c with
    | true => rw [if_pos rfl]; exact ⟨b1, Z1, ow, env, S1, k1⟩
    | false => rw [if_neg Bool.false_ne_true]; exact KG.ok (Rel := RelD X.K H1) (a := PyData.bool false) S1 k1 (.bl false)⟩
theorem ve_or (ha : VE g W X a f) (hb : VE g W X (.BoolOp .Or (b :: rest) pos) h) : VE g W X (.BoolOp .Or (a :: b :: rest) pos) (vOr f h) :=
  PE.of (pe_or ha hb) fun σ H Q ⟨b, Z, ow, env, S, k⟩ => ⟨b, Z, ow, env, S, KG.seq S k fun b1 x vx H1 Z1 e1 S1 hx k1 => by
    cases x <;> first | exact k1.elim | skip
    rename_i c
    refine ⟨c, Dq.bl_ hx, ?_⟩
    cases c with
    | false => rw [if_neg Bool.false_ne_true]; exact ⟨b1, Z1, ow, env, S1, k1⟩
    | true => rw [if_pos rfl]; exact KG.ok (Rel := RelD X.K H1) (a := PyData.bool true) S1 k1 (.bl true)⟩
theorem ve_not (ha : VE g W X a f) : VE g W X (.UnaryOp .Not a pos) (vNot f) :=
  PE.of (pe_not ha) fun σ H Q ⟨b, Z, ow, env, S, k⟩ => ⟨b, Z, ow, env, S, KG.seq S k fun b1 x vx H1 Z1 e1 S1 hx k1 => by
    cases x <;> first | exact k1.elim | skip
    rename_i c
    refine ⟨c, Dq.bl_ hx, ?_⟩
    exact KG.ok (Rel := RelD X.K H1) (a := PyData.bool (!c)) S1 k1 (.bl _)⟩
/-! a if t else b -/
def eIf (t : Env → R Bool) (f h : Env → R D) : Env → R D := fun env => (t env).bind fun
  | true => f env
  | false => h env
theorem ve_if (hc : TEs g W X c t) (ha : VE g W X a f) (hb : VE g W X b h) : VE g W X (.IfExp c a b pos) (eIf t f h) :=
  PE.of (pe_ifExp hc ha hb) fun σ H Q ⟨b, Z, ow, env, S, k⟩ => ⟨b, Z, ow, env, S, KG.seq S k fun b1 x vx H1 Z1 e1 S1 hx k1 => by
    cases hx
    cases x with
    | true => rw [if_pos rfl]; exact ⟨b1, Z1, ow, env, S1, k1⟩
    | false => rw [if_neg Bool.false_ne_true]; exact ⟨b1, Z1, ow, env, S1, k1⟩⟩
/-! is None -/
def eIsN (f : Env → R D) : Env → R D := fun env => (f env).bind fun x => .ok (.bool (isN x))
def eNotN (f : Env → R D) : Env → R D := fun env => (f env).bind fun x => .ok (.bool (!isN x))
theorem pc_is {j pos'} (ha : VE g W X a f) : PC X .Is a (.Constant .none j pos') (tG g X.K W (RelD X.K) (eIsN f)) :=
  ⟨fun pins s σ H Q I ⟨b, Z, ow, env, S, k⟩ => (pc_isN ha).run pins s σ H Q I ⟨b, Z, ow, env, S, KG.seq S k fun b1 x vx H1 Z1 e1 S1 hx k1 => by
    rw [Dq.none_iff hx]
    exact KG.ok (Rel := RelD X.K H1) (a := PyData.bool (isN x)) S1 k1 (.bl _)⟩⟩
theorem pc_isnt {j pos'} (ha : VE g W X a f) : PC X .IsNot a (.Constant .none j pos') (tG g X.K W (RelD X.K) (eNotN f)) :=
  ⟨fun pins s σ H Q I ⟨b, Z, ow, env, S, k⟩ => (pc_notN ha).run pins s σ H Q I ⟨b, Z, ow, env, S, KG.seq S k fun b1 x vx H1 Z1 e1 S1 hx k1 => by
    rw [Dq.none_iff hx]
    exact KG.ok (Rel := RelD X.K H1) (a := PyData.bool (!isN x)) S1 k1 (.bl _)⟩⟩
theorem ve_isN {j pos'} (ha : VE g W X a f) : VE g W X (.Compare a [.Is] [.Constant .none j pos'] pos) (eIsN f) := pe_cmp (pc_is ha)
theorem ve_notN {j pos'} (ha : VE g W X a f) : VE g W X (.Compare a [.IsNot] [.Constant .none j pos'] pos) (eNotN f) := pe_cmp (pc_isnt ha)
theorem te_isN {j pos'} (ha : VE g W X a f) : TEs g W X (.Compare a [.Is] [.Constant .none j pos'] pos) (eT (eIsN f)) := PT.of (pt_cmp (pc_is ha)) fun σ H Q q => tTest_of (t := tG g X.K W (RelD X.K) (eIsN f)) (fun _ _ _ q => q) q
theorem te_notN {j pos'} (ha : VE g W X a f) : TEs g W X (.Compare a [.IsNot] [.Constant .none j pos'] pos) (eT (eNotN f)) := PT.of (pt_cmp (pc_isnt ha)) fun σ H Q q => tTest_of (t := tG g X.K W (RelD X.K) (eNotN f)) (fun _ _ _ q => q) q

/-! ### arguments, displays -/
def aNil : Env → R (List D) := fun _ => .ok []
def aCons (f : Env → R D) (h : Env → R (List D)) : Env → R (List D) := fun env => (f env).bind fun x => (h env).bind fun xs => .ok (x :: xs)
theorem ae_nil : AEs g W X [] aNil := PA.of pa_nil fun σ H Q ⟨b, Z, ow, env, S, k⟩ => KG.ok (Rel := RelA X.K H) S k .nil
theorem ae_cons {e : Expr} {es : List Expr} {h : Env → R (List D)} (ha : VE g W X e f) (hr : AEs g W X es h) (hs : starEach (e :: es) X.env = (false, eval e X.env) :: starEach es X.env := by rfl) : AEs g W X (e :: es) (aCons f h) :=
  PA.of (pa_cons ha hr hs) fun σ H Q ⟨b, Z, ow, env, S, k⟩ => ⟨b, Z, ow, env, S, KG.seq S k fun b1 x vx H1 Z1 e1 S1 hx k1 => ⟨b1, Z1, ow, env, S1, KG.seq S1 k1 fun b2 y vy H2 Z2 e2 S2 hy k2 =>
    KG.ok (Rel := RelA X.K H2) S2 k2 (.cons (Dq.mono e2.zz hx) hy)⟩⟩
def smallN (n : Nat) : Bool := Nat.ble n 16777216
theorem smallN_ok {n : Nat} (h : smallN n = true) : n ≤ sizeLine := by rw [sizeLine_eq]; exact Nat.le_of_ble_eq_true h
def eTup (h : Env → R (List D)) : Env → R D := fun env => (h env).bind fun xs => match smallN xs.length with
  | true => .ok (.tuple xs)
  | false => .fail
def nLst (h : Env → R (List D)) : Env → R (List D) := fun env => (h env).bind fun xs => match smallN xs.length with
  | true => .ok xs
  | false => .fail
theorem ve_tup {es : List Expr} {x1} {h : Env → R (List D)} (ha : AEs g W X es h) : VE g W X (.Tuple es x1 pos) (eTup h) :=
  PE.of (pe_tup ha) fun σ H Q ⟨b, Z, ow, env, S, k⟩ => ⟨b, Z, ow, env, S, KG.seq S k fun b1 xs vs H1 Z1 e1 S1 hx k1 => by
    cases hz : smallN xs.length with
    | false => rw [hz] at k1; exact k1.elim
    | true =>
      rw [hz] at k1
      refine ⟨by rw [DqAll.len hx]; exact smallN_ok hz, q_tup S1.zh (fun v H' Z' e r => ?_) hx⟩
      exact KG.ok' (Rel := RelD X.K H1) (a := PyData.tuple xs) S1 k1 e r⟩
theorem UrnO.ne {r : Option Addr} {b : Nat} {Z H : Hp} (u : UrnO r b Z H) {p : Addr} (hp : H p = none) : r ≠ some p := fun e => by
  obtain ⟨o, h⟩ := u.there p e
  rw [hp] at h
  cases h
theorem UrnO.newU {r : Option Addr} {b : Nat} {Z H : Hp} (u : UrnO r b Z H) {p : Addr} {o : HO} (hp : H p = none) : UrnO r b Z (upd H p o) := by
  cases r with
  | none => trivial
  | some a =>
    obtain ⟨z, x, y, c, h, q⟩ := u
    exact ⟨z, x, y, c, by rw [upd_ne (ne_of_none h hp)]; exact h, q⟩
theorem SE.newU {r : Option Addr} {b : Nat} {K : PySem.W.Frag} {Z H : Hp} {ow : Nat → Addr} {σ : L2.St} {env : Env} (S : SE r b K Z H ow σ env) {p : Addr} {o : HO} (hp : H p = none) : SE r b K Z (upd H p o) ow σ env := S.ext (Ext.newU S.zh hp) (S.urn.newU hp)
theorem ne_lst {es : List Expr} {h : Env → R (List D)} (ha : AEs g W X es h) : NE g W X (.List es pos) (nLst h) :=
  PE.of (pe_lst ha) fun σ H Q ⟨b, Z, ow, env, S, k⟩ => ⟨b, Z, ow, env, S, KG.seq S k fun b1 xs vs H1 Z1 e1 S1 hx k1 => by
    cases hz : smallN xs.length with
    | false => rw [hz] at k1; exact k1.elim
    | true =>
      rw [hz] at k1
      refine ⟨by rw [DqAll.len hx]; exact smallN_ok hz, fun p hp => ?_⟩
      have hpH : H p = none := by
        cases q : H p with
        | none => rfl
        | some o =>
          by_cases n : g.r = some p
          · exact absurd n (S1.urn.ne hp)
          · rw [e1.there S.zh q n] at hp; cases hp
      exact k1 _ _ Z1 (Ext.newU S1.zh hp) (S1.urn.newU hp) ⟨p, vs, rfl, hpH, S1.zh.free hp, S1.urn.ne hp, upd_same, hx⟩⟩
/-- a new list as a value -/
def eN (h : Env → R (List D)) : Env → R D := fun env => (h env).bind fun xs => .ok (.list xs)
theorem ve_n {e : Expr} {h : Env → R (List D)} (hn : NE g W X e h) : VE g W X e (eN h) :=
  PE.of hn fun σ H Q ⟨b, Z, ow, env, S, k⟩ => ⟨b, Z, ow, env, S, by
    refine R.post_mono (fun b1 xs q v H1 Z1 e1 u1 ⟨p, vs, hv, hp, zp, rp, hl, hd⟩ => ?_) (fun _ _ q => q) (R.post_bind k)
    subst hv
    have e2 : Ext g.r Z H (upd Z1 p (.lst vs)) H1 := e1.freeze hl hp zp
    refine q _ H1 (upd Z1 p (.lst vs)) e2 ?_ (.lst upd_same (DqAll.mono (fun a x h => ?_) hd))
    · cases hr : g.r with
      | none => trivial
      | some a =>
        rw [hr] at u1 rp
        obtain ⟨z, x⟩ := u1
        exact ⟨by rw [upd_ne (fun e => rp (by rw [e]))]; exact z, x⟩
    · rw [upd_ne (ne_of_none h zp)]; exact h⟩
end
end Ev
set_option Elab.async false
set_option linter.all false
set_option maxRecDepth 100000
set_option maxHeartbeats 4000000
/-! Ev3: operators and built-ins by values. -/
namespace Ev
open PySem PySem.Spec PyProof.Rows L2

/-! ### ints, for the kernel -/
def ltI : Int → Int → Bool
  | .ofNat a, .ofNat b => Nat.blt a b
  | .ofNat _, .negSucc _ => false
  | .negSucc _, .ofNat _ => true
  | .negSucc a, .negSucc b => Nat.blt b a
def leI (a b : Int) : Bool := !ltI b a
def eqI : Int → Int → Bool
  | .ofNat a, .ofNat b => Nat.beq a b
  | .negSucc a, .negSucc b => Nat.beq a b
  | .ofNat _, .negSucc _ => false
  | .negSucc _, .ofNat _ => false
theorem blt_eq (a b : Nat) : Nat.blt a b = decide (a < b) := by
  rw [Bool.eq_iff_iff]; simp [Nat.blt_eq]
theorem ltI_eq (i j : Int) : ltI i j = decide (i < j) := by
  cases i with
  | ofNat a => cases j with
    | ofNat b =>
      show Nat.blt a b = _
      rw [blt_eq, Bool.eq_iff_iff]
      simp only [decide_eq_true_eq, Int.ofNat_eq_natCast]
      omega
    | negSucc b =>
      show false = _
      rw [Bool.eq_iff_iff]
      simp only [decide_eq_true_eq, Bool.false_eq_true, Int.ofNat_eq_natCast, false_iff]
      omega
  | negSucc a => cases j with
    | ofNat b =>
      show true = _
      rw [Bool.eq_iff_iff]
      simp only [decide_eq_true_eq, Int.ofNat_eq_natCast, true_iff]
      omega
    | negSucc b =>
      show Nat.blt b a = _
      rw [blt_eq, Bool.eq_iff_iff]
      simp only [decide_eq_true_eq]
      omega
theorem leI_eq (i j : Int) : leI i j = decide (i ≤ j) := by
  unfold leI
  rw [ltI_eq, Bool.eq_iff_iff]
  simp
theorem eqI_eq (i j : Int) : eqI i j = decide (i = j) := by
  cases i with
  | ofNat a => cases j with
    | ofNat b =>
      show Nat.beq a b = _
      rw [Bool.eq_iff_iff]
      simp only [Nat.beq_eq, decide_eq_true_eq, Int.ofNat_eq_natCast]
      omega
    | negSucc b =>
      show false = _
      simp
  | negSucc a => cases j with
    | ofNat b =>
      show false = _
      simp
    | negSucc b =>
      show Nat.beq a b = _
      rw [Bool.eq_iff_iff]
      simp [Nat.beq_eq]

/-! ### equality -/
def shp (d : D) : Bool := SeqAt.shaped d
def eqD (a b : D) : Option Bool := match a, b with
  | .int i, .int j => some (eqI i j)
  | a, b => match shp a, shp b with
    | true, true => some (PyData.eqv a b)
    | _, _ => none
def mB (o : Option Bool) : Option D := match o with
  | some b => some (.bool b)
  | none => none
def eqOp (a b : D) : Option D := mB (eqD a b)
def neOp (a b : D) : Option D := match eqD a b with
  | some b => some (.bool (!b))
  | none => none
section
variable {K : PySem.W.Frag} {X : Cx}
theorem eqD_cases {a b : D} {c : Bool} (h : eqD a b = some c) : (∃ i j, a = .int i ∧ b = .int j ∧ c = decide (i = j)) ∨ (shp a = true ∧ shp b = true ∧ c = PyData.eqv a b) := by
  unfold eqD at h
  split at h
  · rename_i i j
    exact .inl ⟨i, j, rfl, rfl, by rw [← eqI_eq]; exact (Option.some.inj h).symm⟩
  · split at h
    · rename_i h1 h2
      exact .inr ⟨h1, h2, (Option.some.inj h).symm⟩
    · cases h
theorem eq_rd {x y : V} {H : Hp} {Q : VK} (h : rD2 K eqOp x y H Q) : rEq x y H Q ∨ rEqD K x y H Q := by
  obtain ⟨Z, dx, dy, d, s, hx, hy, e, q⟩ := h
  unfold eqOp at e
  cases hc : eqD dx dy with
  | none => rw [hc] at e; cases e
  | some c =>
    rw [hc] at e
    cases e
    rcases eqD_cases hc with ⟨i, j, rfl, rfl, rfl⟩ | ⟨h1, h2, rfl⟩
    · refine .inl ?_
      rw [Dq.int_ hx, Dq.int_ hy]
      refine ⟨rfl, ?_⟩
      have : decide (V.int i = V.int j) = decide (i = j) := by rw [dec_int, Bool.beq_eq_decide_eq]
      rw [this]
      exact q_same s q (.bl _)
    · exact .inr ⟨dx, dy, (hx.mono s).dp, (hy.mono s).dp, h1, h2, q_same s q (.bl _)⟩
theorem o_eq (hu : X.A.units + 64 < cLine) : OpR X (compareOp .Eq) (rD2 X.K eqOp) := fun pins s σ H x y v u Q I rx ry h => (op_eq.or (op_eqD hu)) pins s σ H x y v u Q I rx ry (eq_rd h)
theorem ne_rd {x y : V} {H : Hp} {Q : VK} (h : rD2 K neOp x y H Q) : rNe x y H Q ∨ rNeD K x y H Q := by
  obtain ⟨Z, dx, dy, d, s, hx, hy, e, q⟩ := h
  unfold neOp at e
  cases hc : eqD dx dy with
  | none => rw [hc] at e; cases e
  | some c =>
    rw [hc] at e
    cases e
    rcases eqD_cases hc with ⟨i, j, rfl, rfl, rfl⟩ | ⟨h1, h2, rfl⟩
    · refine .inl ?_
      rw [Dq.int_ hx, Dq.int_ hy]
      refine ⟨rfl, ?_⟩
      have : decide (V.int i = V.int j) = decide (i = j) := by rw [dec_int, Bool.beq_eq_decide_eq]
      rw [this]
      exact q_same s q (.bl _)
    · exact .inr ⟨dx, dy, (hx.mono s).dp, (hy.mono s).dp, h1, h2, q_same s q (.bl _)⟩
theorem o_ne (hu : X.A.units + 64 < cLine) : OpR X (compareOp .NotEq) (rD2 X.K neOp) := fun pins s σ H x y v u Q I rx ry h => (op_ne.or (op_neD hu)) pins s σ H x y v u Q I rx ry (ne_rd h)

/-! ### order of ints -/
def cmpOp (p : Int → Int → Bool) (a b : D) : Option D := match a, b with
  | .int i, .int j => some (.bool (p i j))
  | _, _ => none
abbrev ltOp := cmpOp ltI
abbrev leOp := cmpOp leI
abbrev gtOp := cmpOp fun i j => ltI j i
abbrev geOp := cmpOp fun i j => leI j i
theorem cmp_rd {p : Int → Int → Bool} {p' : Int → Int → Bool} (hp : ∀ i j, p i j = p' i j) {x y : V} {H : Hp} {Q : VK} (h : rD2 K (cmpOp p) x y H Q) : rI0 (fun i j => .bl (p' i j)) x y H Q := by
  obtain ⟨Z, dx, dy, d, s, hx, hy, e, q⟩ := h
  unfold cmpOp at e
  split at e
  · cases e
    refine ⟨_, _, Dq.int_ hx, Dq.int_ hy, q_same s q ?_⟩
    show Dq K Z (.bl (p' _ _)) _
    rw [← hp]
    exact .bl _
  · cases e
theorem o_lt : OpR X (compareOp .Lt) (rD2 X.K ltOp) := fun pins s σ H x y v u Q I rx ry h => op_lt pins s σ H x y v u Q I rx ry (cmp_rd ltI_eq h)
theorem o_le : OpR X (compareOp .LtE) (rD2 X.K leOp) := fun pins s σ H x y v u Q I rx ry h => op_le pins s σ H x y v u Q I rx ry (cmp_rd leI_eq h)
theorem o_gt : OpR X (compareOp .Gt) (rD2 X.K gtOp) := fun pins s σ H x y v u Q I rx ry h => op_gt pins s σ H x y v u Q I rx ry (cmp_rd (fun i j => ltI_eq j i) h)
theorem o_ge : OpR X (compareOp .GtE) (rD2 X.K geOp) := fun pins s σ H x y v u Q I rx ry h => op_ge pins s σ H x y v u Q I rx ry (cmp_rd (fun i j => leI_eq j i) h)

/-! ### arithmetic, + of sequences -/
def addD (a b : D) : Option D := match a, b with
  | .int i, .int j => some (.int (i + j))
  | .tuple xs, .tuple ys => match smallN (xs.length + ys.length) with
    | true => some (.tuple (xs ++ ys))
    | false => none
  | .list xs, .list ys => match smallN (xs.length + ys.length) with
    | true => some (.list (xs ++ ys))
    | false => none
  | .str x, .str y => match smallN (x.length + y.length) with
    | true => some (.str (x ++ y))
    | false => none
  | _, _ => none
theorem DqAll.nil_iff {Z : Hp} {xs : List V} {ds : List D} (h : DqAll K Z xs ds) : xs = [] ↔ ds = [] := by
  cases h <;> simp
theorem add_rd {x y : V} {H : Hp} {Q : VK} (h : rD2 K addD x y H Q) : ((rI0 fun i j => .int (i + j)) x y H Q ∨ rCatA K x y H Q) ∨ rCat x y H Q ∨ ∃ i j, x = .str i ∧ y = .str j ∧ i.length + j.length ≤ sizeLine ∧ Q (.str (i ++ j)) H := by
  obtain ⟨Z, dx, dy, d, s, hx, hy, e, q⟩ := h
  unfold addD at e
  split at e
  · cases e
    exact .inl (.inl ⟨_, _, Dq.int_ hx, Dq.int_ hy, q_same s q (.int _)⟩)
  · split at e
    · cases e
      rename_i hz
      obtain ⟨a, vx, rfl, ha, hA⟩ := Dq.tup_ hx
      obtain ⟨b, vy, rfl, hb, hB⟩ := Dq.tup_ hy
      refine .inl (.inr ⟨a, b, vx, vy, rfl, rfl, seqT s ha, seqT s hb, ?_, fun e0 => ?_, fun e0 e1 => ?_, fun e0 e1 => ?_⟩)
      · rw [hA.len, hB.len]; exact smallN_ok hz
      · rw [(DqAll.nil_iff hA).mp e0] at q
        exact q_same s q hy
      · rw [(DqAll.nil_iff hB).mp e1, List.append_nil] at q
        exact q_same s q hx
      · exact q_tup s q (hA.app hB)
    · cases e
  · split at e
    · cases e
      rename_i hz
      obtain ⟨a, vx, rfl, ha, hA⟩ := Dq.lst_ hx
      obtain ⟨b, vy, rfl, hb, hB⟩ := Dq.lst_ hy
      refine .inr (.inl ⟨a, b, vx, vy, rfl, rfl, s _ _ ha, s _ _ hb, ?_, q_lst s q (hA.app hB)⟩)
      rw [hA.len, hB.len]; exact smallN_ok hz
    · cases e
  · split at e
    · cases e
      rename_i hz
      exact .inr (.inr ⟨_, _, Dq.str_ hx, Dq.str_ hy, smallN_ok hz, q_same s q (.str _)⟩)
    · cases e
  · cases e
theorem o_add : OpR X (binaryOp .Add) (rD2 X.K addD) := fun pins s σ H x y v u Q I rx ry h => ((op_add.or op_catA).or (op_cat.or op_add_str)) pins s σ H x y v u Q I rx ry (add_rd h)
def arD (c : Int → Int → Bool) (f : Int → Int → Int) (a b : D) : Option D := match a, b with
  | .int i, .int j => match c i j with
    | true => some (.int (f i j))
    | false => none
  | _, _ => none
theorem ar_rd {c : Int → Int → Bool} {C : Int → Int → Prop} {f f' : Int → Int → Int} (hc : ∀ i j, c i j = true → C i j ∧ f i j = f' i j) {x y : V} {H : Hp} {Q : VK} (h : rD2 K (arD c f) x y H Q) : rI C (fun i j => .int (f' i j)) x y H Q := by
  obtain ⟨Z, dx, dy, d, s, hx, hy, e, q⟩ := h
  unfold arD at e
  split at e
  · split at e
    · cases e
      rename_i hz
      obtain ⟨h1, h2⟩ := hc _ _ hz
      refine ⟨_, _, Dq.int_ hx, Dq.int_ hy, h1, q_same s q ?_⟩
      show Dq K Z (.int (f' _ _)) _
      rw [← h2]
      exact .int _
    · cases e
  · cases e
abbrev subD := arD (fun _ _ => true) fun i j => i - j
theorem o_sub : OpR X (binaryOp .Sub) (rD2 X.K subD) := fun pins s σ H x y v u Q I rx ry h => by
  obtain ⟨i, j, e1, e2, _, q⟩ := ar_rd (C := fun _ _ => True) (f' := fun i j => i - j) (fun _ _ _ => ⟨trivial, rfl⟩) h
  exact op_sub pins s σ H x y v u Q I rx ry ⟨i, j, e1, e2, q⟩
def in64 (i : Int) : Bool := ltI (-18446744073709551616) i && ltI i 18446744073709551616
def mulC (i j : Int) : Bool := Nat.blt (i.natAbs.log2 + j.natAbs.log2) 1000000 || (in64 i || in64 j)
/-- * of two factors of together less than a million bits, or one of them small -/
def CMulA (i j : Int) : Prop := CMulW i j ∨ CMul i j
theorem op_mulA : OpR X (binaryOp .Mult) (rI CMulA fun i j => .int (i * j)) := opI fun _ _ _ _ _ _ _ hc q => mul_int q (hc.elim CMulW.ok CMul.ok)
theorem in64_ok {i : Int} (h : in64 i = true) : -(2 ^ 64) < i ∧ i < 2 ^ 64 := by
  unfold in64 at h
  rw [Bool.and_eq_true, ltI_eq, ltI_eq, decide_eq_true_eq, decide_eq_true_eq] at h
  exact ⟨by omega, by omega⟩
theorem mulC_ok {i j : Int} (h : mulC i j = true) : CMulA i j := by
  unfold mulC at h
  rw [Bool.or_eq_true, Bool.or_eq_true, blt_eq, decide_eq_true_eq] at h
  exact h.imp id fun h => h.imp in64_ok in64_ok
def mulD (a b : D) : Option D := match a, b with
  | .int i, .int j => match mulC i j with
    | true => some (.int (i * j))
    | false => none
  | .list xs, .int k => match leI k 16777216 && smallN (xs.length * k.toNat) && ltI (-9223372036854775808) k with
    | true => some (.list (List.replicate k.toNat xs).flatten)
    | false => none
  | _, _ => none
theorem DqAll.rep {Z : Hp} {xs : List V} {ds : List D} (h : DqAll K Z xs ds) : ∀ n : Nat, DqAll K Z (List.replicate n xs).flatten (List.replicate n ds).flatten
  | 0 => .nil
  | n + 1 => by
    rw [List.replicate_succ, List.replicate_succ, List.flatten_cons, List.flatten_cons]
    exact h.app (DqAll.rep h n)
theorem mul_rd {x y : V} {H : Hp} {Q : VK} (h : rD2 K mulD x y H Q) : rI CMulA (fun i j => .int (i * j)) x y H Q ∨ rRep x y H Q := by
  obtain ⟨Z, dx, dy, d, s, hx, hy, e, q⟩ := h
  unfold mulD at e
  split at e
  · split at e
    · cases e
      rename_i hz
      exact .inl ⟨_, _, Dq.int_ hx, Dq.int_ hy, mulC_ok hz, q_same s q (.int _)⟩
    · cases e
  · split at e
    · cases e
      rename_i xs k _ hz
      rw [Bool.and_eq_true, Bool.and_eq_true, leI_eq, ltI_eq, decide_eq_true_eq, decide_eq_true_eq] at hz
      obtain ⟨a, vx, rfl, ha, hA⟩ := Dq.lst_ hx
      refine .inr ⟨a, k, vx, rfl, Dq.int_ hy, s _ _ ha, by omega, by omega, ?_, q_lst s q (hA.rep _)⟩
      rw [hA.len]; exact smallN_ok hz.1.2
    · cases e
  · cases e
theorem o_mul : OpR X (binaryOp .Mult) (rD2 X.K mulD) := fun pins s σ H x y v u Q I rx ry h => (op_mulA.or op_rep) pins s σ H x y v u Q I rx ry (mul_rd h)
def divC (_ j : Int) : Bool := !eqI j 0 && Nat.blt j.natAbs.log2 9000
abbrev divD := arD divC fun i j => i.fdiv j
theorem op_fdivA : OpR X (binaryOp .FloorDiv) (rI (fun _ j => j ≠ 0 ∧ j.natAbs.log2 < 9000) fun i j => .int (i.fdiv j)) := opI fun i j _ _ _ _ _ hc q => floordiv_int hc.1 q (.inl (PyProof.noPylong_of_log2 hc.2))
theorem divC_ok {i j : Int} (h : divC i j = true) : j ≠ 0 ∧ j.natAbs.log2 < 9000 := by
  unfold divC at h
  rw [Bool.and_eq_true, blt_eq, decide_eq_true_eq, eqI_eq, Bool.not_eq_true', decide_eq_false_iff_not] at h
  exact h
theorem o_div : OpR X (binaryOp .FloorDiv) (rD2 X.K divD) := fun pins s σ H x y v u Q I rx ry h => op_fdivA pins s σ H x y v u Q I rx ry (ar_rd (fun i j h => ⟨divC_ok h, rfl⟩) h)
abbrev modD := arD (fun _ j => ltI 0 j) fun i j => i % j
theorem o_mod : OpR X (binaryOp .Mod) (rD2 X.K modD) := fun pins s σ H x y v u Q I rx ry h => op_mod pins s σ H x y v u Q I rx ry (ar_rd (fun i j h => by
  rw [ltI_eq, decide_eq_true_eq] at h
  exact ⟨h, rfl⟩) h)
abbrev andD := arD (fun _ _ => true) Builtin.bitAnd
theorem o_and : OpR X (binaryOp .BitAnd) (rD2 X.K andD) := fun pins s σ H x y v u Q I rx ry h => by
  obtain ⟨i, j, e1, e2, _, q⟩ := ar_rd (C := fun _ _ => True) (f' := Builtin.bitAnd) (fun _ _ _ => ⟨trivial, rfl⟩) h
  exact op_and pins s σ H x y v u Q I rx ry ⟨i, j, e1, e2, q⟩
def powC (i j : Int) : Bool := leI 0 j && leI j 1000000 && Nat.blt i.natAbs 18446744073709551616
abbrev powD := arD powC fun i j => i ^ j.toNat
theorem o_pow : OpR X (binaryOp .Pow) (rD2 X.K powD) := fun pins s σ H x y v u Q I rx ry h => op_pow pins s σ H x y v u Q I rx ry (ar_rd (fun i j h => by
  unfold powC at h
  rw [Bool.and_eq_true, Bool.and_eq_true, leI_eq, leI_eq, blt_eq, decide_eq_true_eq, decide_eq_true_eq, decide_eq_true_eq] at h
  exact ⟨⟨h.1.1, h.1.2, h.2⟩, rfl⟩) h)
def negD (a : D) : Option D := match a with
  | .int i => some (.int (-i))
  | _ => none
theorem o_neg : UnR X (unaryOp .USub) (rD1 X.K negD) := fun pins s σ H x v Q I rx h => by
  obtain ⟨Z, dx, d, s', hx, e, q⟩ := h
  unfold negD at e
  split at e
  · cases e
    exact un_neg pins s σ H x v Q I rx ⟨_, Dq.int_ hx, q_same s' q (.int _)⟩
  · cases e
end

/-! ### a sequence that is read now -/
def seqOf (d : D) : Option (List D) := match d with
  | .list ds => some ds
  | .tuple ds => some ds
  | _ => none
theorem RelB.seq {r : Option Addr} {K : PySem.W.Frag} {Z H H0 : Hp} {d : D} {v : V} {ds : List D} (s : Same Z H) (h : RelB r K H0 d v Z H) (e : seqOf d = some ds) : ∃ a xs, v = .ref a ∧ (SqL K H a xs ∨ SqT K H a xs) ∧ DqAll K Z xs ds := by
  rcases h with h | ⟨p, vs, es, rfl, rfl, zp, rp, hp, ha⟩ | ⟨p, vs, es, rfl, rfl, hp, ha⟩
  · cases d <;> first | cases e | skip
    · obtain ⟨a, xs, rfl, h1, h2⟩ := Dq.lst_ h
      exact ⟨a, xs, rfl, .inl (SqL.of (s _ _ h1)), h2⟩
    · obtain ⟨a, xs, rfl, h1, h2⟩ := Dq.tup_ h
      exact ⟨a, xs, rfl, .inr (seqT s h1), h2⟩
  · cases e
    exact ⟨p, vs, rfl, .inl (SqL.of hp), ha⟩
  · cases e
    exact ⟨p, vs, rfl, .inl (SqL.same s hp), ha⟩
theorem RelB.lst {r : Option Addr} {K : PySem.W.Frag} {Z H H0 : Hp} {v : V} {ds : List D} (s : Same Z H) (h : RelB r K H0 (.list ds) v Z H) : ∃ a xs, v = .ref a ∧ SqL K H a xs ∧ DqAll K Z xs ds := by
  rcases h with h | ⟨p, vs, es, rfl, e, zp, rp, hp, ha⟩ | ⟨p, vs, es, rfl, e, hp, ha⟩
  · obtain ⟨a, xs, rfl, h1, h2⟩ := Dq.lst_ h
    exact ⟨a, xs, rfl, SqL.of (s _ _ h1), h2⟩
  · cases e
    exact ⟨p, vs, rfl, SqL.of hp, ha⟩
  · cases e
    exact ⟨p, vs, rfl, SqL.same s hp, ha⟩
theorem RelB.tup {r : Option Addr} {K : PySem.W.Frag} {Z H H0 : Hp} {v : V} {ds : List D} (s : Same Z H) (h : RelB r K H0 (.tuple ds) v Z H) : ∃ a xs, v = .ref a ∧ SqT K H a xs ∧ DqAll K Z xs ds ∧ Dq K Z v (.tuple ds) := by
  rcases h with h | ⟨p, vs, es, rfl, e, zp, rp, hp, ha⟩ | ⟨p, vs, es, rfl, e, hp, ha⟩
  · obtain ⟨a, xs, rfl, h1, h2⟩ := Dq.tup_ h
    exact ⟨a, xs, rfl, seqT s h1, h2, h⟩
  · cases e
  · cases e
theorem RelB.str {r : Option Addr} {K : PySem.W.Frag} {Z H H0 : Hp} {v : V} {z : Str} (h : RelB r K H0 (.str z) v Z H) : v = .str z := by
  rcases h with h | ⟨p, vs, es, rfl, e, _⟩ | ⟨p, vs, es, rfl, e, _⟩
  · exact Dq.str_ h
  · cases e
  · cases e
theorem RelB.dp {r : Option Addr} {K : PySem.W.Frag} {Z H H0 : Hp} {d : D} {v : V} (s : Same Z H) (h : RelB r K H0 d v Z H) : Dp K H v d := by
  rcases h with h | ⟨p, vs, es, rfl, rfl, zp, rp, hp, ha⟩ | ⟨p, vs, es, rfl, rfl, hp, ha⟩
  · exact (h.mono s).dp
  · exact .lst (SqL.of hp) (ha.mono s).dp
  · exact .lst (SqL.same s hp) (ha.mono s).dp
theorem RelB.ext {K : PySem.W.Frag} {Z H Z' H' H0 H1 : Hp} {r : Option Addr} {d : D} {v : V} (h : RelB r K H0 d v Z H) (e : Ext r Z H Z' H') : RelB r K H1 d v Z' H' := by
  rcases h with h | ⟨p, vs, es, rfl, rfl, zp, rp, hp, ha⟩ | ⟨p, vs, es, rfl, rfl, hp, ha⟩
  · exact .inl (h.mono e.zz)
  · exact .inr (.inl ⟨p, vs, es, rfl, rfl, e.out _ _ hp zp, rp, e.keep _ _ hp zp rp, ha.mono e.zz⟩)
  · exact .inr (.inr ⟨p, vs, es, rfl, rfl, SqL.same e.zz hp, ha.mono e.zz⟩)

/-- rules by values whose sequence may be read now: the first, the second, the only operand -/
def rB2 (r : Option Addr) (K : PySem.W.Frag) (op : D → D → Option D) : R2 := fun x y H Q => ∃ Z dx dy d, Same Z H ∧ RelB r K H dx x Z H ∧ Dq K Z y dy ∧ op dx dy = some d ∧ ∀ v H' Z', Ext none Z H Z' H' → Dq K Z' v d → Q v H'
def rB2' (r : Option Addr) (K : PySem.W.Frag) (op : D → D → Option D) : R2 := fun x y H Q => ∃ Z dx dy d, Same Z H ∧ Dq K Z x dx ∧ RelB r K H dy y Z H ∧ op dx dy = some d ∧ ∀ v H' Z', Ext none Z H Z' H' → Dq K Z' v d → Q v H'
section
variable {g : G} {W : WX} {X : Cx} {a b c : Expr} {f h : Env → R D} {pos : Pos}
theorem tOp_ofB {K : PySem.W.Frag} {op : D → D → Option D} {σ : L2.St} {H : Hp} {Q : VK} (q : tG g K W (RelD K) (eBin op f h) σ H Q) : tOp (rB2 g.r K op) (tG g K W (RelB g.r K) f) (tG g K W (RelD K) h) σ H Q := by
  obtain ⟨b, Z, ow, env, S, k⟩ := q
  refine ⟨b, Z, ow, env, S, KG.seq S k fun b1 x vx H1 Z1 e1 S1 hx k1 => ?_⟩
  refine ⟨b1, Z1, ow, env, S1, KG.seq S1 k1 fun b2 y vy H2 Z2 e2 S2 hy k2 => ?_⟩
  obtain ⟨d, hd, k3⟩ := k2.of
  exact ⟨Z2, x, y, d, S2.zh, RelB.ext hx e2, hy, hd, fun v H' Z' e r => k3.ok' S2 e r⟩
theorem tOp_ofB' {K : PySem.W.Frag} {op : D → D → Option D} {σ : L2.St} {H : Hp} {Q : VK} (q : tG g K W (RelD K) (eBin op f h) σ H Q) : tOp (rB2' g.r K op) (tG g K W (RelD K) f) (tG g K W (RelB g.r K) h) σ H Q := by
  obtain ⟨b, Z, ow, env, S, k⟩ := q
  refine ⟨b, Z, ow, env, S, KG.seq S k fun b1 x vx H1 Z1 e1 S1 hx k1 => ?_⟩
  refine ⟨b1, Z1, ow, env, S1, KG.seq S1 k1 fun b2 y vy H2 Z2 e2 S2 hy k2 => ?_⟩
  obtain ⟨d, hd, k3⟩ := k2.of
  exact ⟨Z2, x, y, d, S2.zh, hx.mono e2.zz, RelB.ext hy (Ext.refl S2.zh), hd, fun v H' Z' e r => k3.ok' S2 e r⟩
/-! ### an item -/
def nthO : List D → Nat → Option D
  | [], _ => none
  | d :: _, 0 => some d
  | _ :: r, n + 1 => nthO r n
theorem nthO_eq : ∀ (ds : List D) (n : Nat), nthO ds n = ds[n]?
  | [], _ => rfl
  | _ :: _, 0 => rfl
  | _ :: r, n + 1 => by
    show nthO r n = _
    rw [nthO_eq r n]
    simp
def atD (ds : List D) : Int → Option D
  | .ofNat n => nthO ds n
  | .negSucc n => match Nat.ble (n + 1) ds.length with
    | true => nthO ds (ds.length - (n + 1))
    | false => none
theorem atD_eq (ds : List D) (i : Int) : atD ds i = atI ds i := by
  unfold atI ixN
  cases i with
  | ofNat n =>
    show nthO ds n = _
    rw [nthO_eq, if_pos (by simp)]
    by_cases h : n < ds.length
    · rw [if_pos (by simpa using h)]
      simp
    · rw [if_neg (by simpa using h)]
      simp only [Option.bind_none]
      exact List.getElem?_eq_none (by omega)
  | negSucc n =>
    show (match Nat.ble (n + 1) ds.length with | true => nthO ds (ds.length - (n + 1)) | false => none) = _
    rw [if_neg (by omega)]
    by_cases h : n + 1 ≤ ds.length
    · rw [Nat.ble_eq_true_of_le h, if_pos (by omega)]
      simp only [Option.bind_some, nthO_eq]
      congr 1
      omega
    · have h' : Nat.ble (n + 1) ds.length = false := by
        cases q : Nat.ble (n + 1) ds.length with
        | false => rfl
        | true => exact absurd (Nat.le_of_ble_eq_true q) h
      rw [h', if_neg (by omega)]
      rfl
def ixD (a b : D) : Option D := match a, b with
  | .list ds, .int i => atD ds i
  | .tuple ds, .int i => atD ds i
  | .str z, .int i => match smallN z.length, atI z.cps.toList i with
    | true, some c => some (.str ⟨#[c]⟩)
    | _, _ => none
  | _, _ => none
theorem atI_dq {K : PySem.W.Frag} {Z : Hp} {xs : List V} {ds : List D} (h : DqAll K Z xs ds) {i : Int} {d : D} (e : atI ds i = some d) : ∃ v, atI xs i = some v ∧ Dq K Z v d := by
  unfold atI at e ⊢
  rw [h.len]
  cases q : ixN ds.length i with
  | none => rw [q] at e; cases e
  | some j =>
    rw [q] at e
    exact h.get e
theorem ix_rd {r : Option Addr} {K : PySem.W.Frag} {x y : V} {H : Hp} {Q : VK} (h : rB2 r K ixD x y H Q) : rIx K x y H Q := by
  obtain ⟨Z, dx, dy, d, s, hx, hy, e, q⟩ := h
  unfold ixD at e
  split at e
  · rw [atD_eq] at e
    obtain ⟨a, xs, rfl, h1, h2⟩ := RelB.lst s hx
    obtain ⟨v, h3, h4⟩ := atI_dq h2 e
    exact .inl ⟨a, xs, _, v, rfl, Dq.int_ hy, h1, h3, q_same s q h4⟩
  · rw [atD_eq] at e
    obtain ⟨a, xs, rfl, h1, h2, _⟩ := RelB.tup s hx
    obtain ⟨v, h3, h4⟩ := atI_dq h2 e
    exact .inr (.inl ⟨a, xs, _, v, rfl, Dq.int_ hy, h1, h3, q_same s q h4⟩)
  · split at e
    · cases e
      rename_i hz hc
      exact .inr (.inr ⟨_, _, _, RelB.str hx, Dq.int_ hy, smallN_ok hz, hc, q_same s q (.str _)⟩)
    · cases e
  · cases e
theorem ve_ix (ha : BE g W X a f) (hb : VE g W X b h) (hs : PlainIx b := by intro _ _; rfl) : VE g W X (.Subscript a b pos) (eBin ixD f h) :=
  PE.of (pe_ix (r := rB2 g.r X.K ixD) (fun value slice pins s σ H x y v u Q I rx ry h hs => ix_seq value slice pins s σ H x y v u Q I rx ry (ix_rd h) hs) ha hb hs) fun _ _ _ q => tOp_ofB q
end
end Ev
set_option Elab.async false
set_option linter.all false
set_option maxRecDepth 100000
set_option maxHeartbeats 4000000
/-! Ev4: in, built-ins, slices. -/
namespace Ev
open PySem PySem.Spec PyProof.Rows L2
section
variable {g : G} {W : WX} {X : Cx} {a b c : Expr} {f h : Env → R D} {pos : Pos} {K : PySem.W.Frag}
/-! ### in -/
def flatD (d : D) : Bool := match d with
  | .none => true
  | .bool _ => true
  | .int _ => true
  | .str _ => true
  | _ => false
theorem flat_dq {Z : Hp} {v : V} {d : D} (h : Dq K Z v d) (e : flatD d = true) : flatV v = true := by
  cases h <;> first | rfl | cases e
theorem flat_all {Z : Hp} : ∀ {xs : List V} {ds : List D}, DqAll K Z xs ds → ds.all flatD = true → xs.all flatV = true
  | _, _, .nil, _ => rfl
  | _, _, .cons h r, e => by
    rw [List.all_cons, Bool.and_eq_true] at e
    rw [List.all_cons, flat_dq h e.1, flat_all r e.2]
    rfl
theorem eqV_eq {Z : Hp} {x y : V} {d e : D} (hx : Dq K Z x d) (hy : Dq K Z y e) (fx : flatD d = true) (fy : flatD e = true) : eqV x y = PyData.eqv d e := by
  cases hx with
  | lst _ _ => cases fx
  | tup _ _ => cases fx
  | non => cases hy <;> first | cases fy; done | simp only [eqV, PyData.eqv]
  | bl _ => cases hy <;> first | cases fy; done | simp only [eqV, PyData.eqv]
  | int _ => cases hy <;> first | cases fy; done | simp only [eqV, PyData.eqv]
  | str _ => cases hy <;> first | cases fy; done | simp only [eqV, PyData.eqv]
theorem inV_eq {Z : Hp} {x : V} {d : D} (hx : Dq K Z x d) (fx : flatD d = true) : ∀ {xs : List V} {ds : List D}, DqAll K Z xs ds → ds.all flatD = true → inV x xs = ds.any fun z => PyData.eqv z d
  | _, _, .nil, _ => rfl
  | y :: xs, e :: ds, .cons h r, q => by
    rw [List.all_cons, Bool.and_eq_true] at q
    have ih := inV_eq hx fx r q.2
    unfold inV at ih ⊢
    rw [List.any_cons, List.any_cons, ih, eqV_eq h hx q.1 fx]
def inD (a b : D) : Option Bool := match b with
  | .list ds => match shp a, shp (.list ds) with
    | true, true => some (ds.any fun z => PyData.eqv z a)
    | _, _ => none
  | .tuple ds => match flatD a, ds.all flatD with
    | true, true => some (ds.any fun z => PyData.eqv z a)
    | _, _ => none
  | .str z => match a with
    | .str ⟨⟨[c]⟩⟩ => some (z.cps.toList.any fun x => Nat.beq x c)
    | _ => none
  | _ => none
def inOp (a b : D) : Option D := mB (inD a b)
def ninOp (a b : D) : Option D := match inD a b with
  | some c => some (.bool (!c))
  | none => none
theorem in_rd {r : Option Addr} {x y : V} {H : Hp} {Q : VK} {c : Bool} {Z : Hp} {dx dy : D} (s : Same Z H) (hx : Dq K Z x dx) (hy : RelB r K H dy y Z H) (e : inD dx dy = some c) :
    (∃ d ds, Dp K H x d ∧ Dp K H y (.list ds) ∧ SeqAt.shaped d = true ∧ SeqAt.shaped (.list ds) = true ∧ c = ds.any fun z => PyData.eqv z d) ∨
    (∃ p xs, y = .ref p ∧ (SqL K H p xs ∨ SqT K H p xs) ∧ flatV x = true ∧ xs.all flatV = true ∧ c = inV x xs) ∨
    (∃ (k : Nat) (z : Str), x = .str ⟨#[k]⟩ ∧ y = .str z ∧ c = decide (k ∈ z.cps.toList)) := by
  unfold inD at e
  split at e
  · split at e
    · rename_i h1 h2
      exact .inl ⟨dx, _, (hx.mono s).dp, RelB.dp s hy, h1, h2, (Option.some.inj e).symm⟩
    · cases e
  · split at e
    · rename_i h1 h2
      obtain ⟨p, xs, rfl, h3, h4, _⟩ := RelB.tup s hy
      exact .inr (.inl ⟨p, xs, rfl, .inr h3, flat_dq hx h1, flat_all h4 h2, by rw [inV_eq hx h1 h4 h2]; exact (Option.some.inj e).symm⟩)
    · cases e
  · split at e
    · rename_i z _ k
      refine .inr (.inr ⟨k, z, Dq.str_ hx, RelB.str hy, ?_⟩)
      rw [← Option.some.inj e, Bool.eq_iff_iff, List.any_eq_true, decide_eq_true_eq]
      constructor
      · rintro ⟨y, hy, e⟩
        rw [← Nat.eq_of_beq_eq_true e]
        exact hy
      · exact fun h => ⟨k, h, Nat.beq_refl k⟩
    · cases e
  · cases e
theorem o_in {r : Option Addr} (hu : X.A.units + 65 < cLine) : OpR X (compareOp .In) (rB2' r X.K inOp) := fun pins s σ H x y v u Q I rx ry ⟨Z, dx, dy, d, z, hx, hy, e, q⟩ => by
  unfold inOp at e
  cases hc : inD dx dy with
  | none => rw [hc] at e; cases e
  | some c =>
    rw [hc] at e
    cases e
    have q' : Q (.bl c) H := q_same z q (.bl c)
    rcases in_rd (Q := Q) z hx hy hc with ⟨d, ds, h1, h2, h3, h4, e⟩ | ⟨p, xs, h1, h2, h3, h4, e⟩ | ⟨k, zz, h1, h2, e⟩
    · exact op_inD hu pins s σ H x y v u Q I rx ry ⟨d, ds, h1, h2, h3, h4, by rw [← e]; exact q'⟩
    · exact op_in_seq pins s σ H x y v u Q I rx ry ⟨p, xs, h1, h2, h3, h4, by rw [if_neg Bool.false_ne_true, ← e]; exact q'⟩
    · exact op_in_sign pins s σ H x y v u Q I rx ry ⟨k, zz, h1, h2, by rw [← e]; exact q'⟩
theorem o_nin {r : Option Addr} (hu : X.A.units + 65 < cLine) : OpR X (compareOp .NotIn) (rB2' r X.K ninOp) := fun pins s σ H x y v u Q I rx ry ⟨Z, dx, dy, d, z, hx, hy, e, q⟩ => by
  unfold ninOp at e
  cases hc : inD dx dy with
  | none => rw [hc] at e; cases e
  | some c =>
    rw [hc] at e
    cases e
    have q' : Q (.bl (!c)) H := q_same z q (.bl (!c))
    rcases in_rd (Q := Q) z hx hy hc with ⟨d, ds, h1, h2, h3, h4, e⟩ | ⟨p, xs, h1, h2, h3, h4, e⟩ | ⟨k, zz, h1, h2, e⟩
    · exact op_notInD hu pins s σ H x y v u Q I rx ry ⟨d, ds, h1, h2, h3, h4, by rw [← e]; exact q'⟩
    · exact op_notIn_seq pins s σ H x y v u Q I rx ry ⟨p, xs, h1, h2, h3, h4, by rw [if_pos rfl, ← e]; exact q'⟩
    · exact op_notIn_sign pins s σ H x y v u Q I rx ry ⟨k, zz, h1, h2, by rw [← e]; exact q'⟩
theorem ve_in (hu : X.A.units + 65 < cLine) (ha : VE g W X a f) (hb : BE g W X b h) (hm : behindInMarks .In b = false := by rfl) : VE g W X (.Compare a [.In] [b] pos) (eBin inOp f h) :=
  PE.of (pe_cmpR (o_in (r := g.r) hu) ha hb hm) fun _ _ _ q => tOp_ofB' q
theorem ve_nin (hu : X.A.units + 65 < cLine) (ha : VE g W X a f) (hb : BE g W X b h) (hm : behindInMarks .NotIn b = false := by rfl) : VE g W X (.Compare a [.NotIn] [b] pos) (eBin ninOp f h) :=
  PE.of (pe_cmpR (o_nin (r := g.r) hu) ha hb hm) fun _ _ _ q => tOp_ofB' q
theorem te_in (hu : X.A.units + 65 < cLine) (ha : VE g W X a f) (hb : BE g W X b h) (hm : behindInMarks .In b = false := by rfl) : TEs g W X (.Compare a [.In] [b] pos) (eT (eBin inOp f h)) :=
  PT.of (pt_cmpR (o_in (r := g.r) hu) ha hb hm) fun _ _ _ q => tTest_of (fun _ _ _ q => tOp_ofB' q) q
theorem te_nin (hu : X.A.units + 65 < cLine) (ha : VE g W X a f) (hb : BE g W X b h) (hm : behindInMarks .NotIn b = false := by rfl) : TEs g W X (.Compare a [.NotIn] [b] pos) (eT (eBin ninOp f h)) :=
  PT.of (pt_cmpR (o_nin (r := g.r) hu) ha hb hm) fun _ _ _ q => tTest_of (fun _ _ _ q => tOp_ofB' q) q

/-! ### built-ins of one argument, to be read now -/
def rB1 (r : Option Addr) (K : PySem.W.Frag) (op : D → Option D) : List V → Hp → VK → Prop := fun xs H Q => ∃ x Z dx d, xs = [x] ∧ Same Z H ∧ RelB r K H dx x Z H ∧ op dx = some d ∧ ∀ v H' Z', Ext none Z H Z' H' → Dq K Z' v d → Q v H'
theorem tCB_of {op : D → Option D} {σ : L2.St} {H : Hp} {Q : VK} (q : tG g K W (RelD K) (eUn op f) σ H Q) : tCB (rB1 g.r K op) (L2.tCons (tG g K W (RelB g.r K) f) tNil) σ H Q := by
  obtain ⟨b, Z, ow, env, S, k⟩ := q
  refine ⟨b, Z, ow, env, S, KG.seq S k fun b1 x vx H1 Z1 e1 S1 hx k1 => ?_⟩
  obtain ⟨d, hd, k3⟩ := k1.of
  exact ⟨vx, Z1, x, d, rfl, S1.zh, RelB.ext hx (Ext.refl S1.zh), hd, fun v H' Z' e r => k3.ok' S1 e r⟩
theorem ve_b1 {x : Str} {id : String} {p : Pos} {op : D → Option D} (hc : CallR X (.builtin id) (rB1 g.r X.K op)) (hg : Gl X x) (hm : X.mg x = none) (hv : bootBuiltins x = some (.builtin id)) (ha : BE g W X a f) (hn : x ≠ "__name__" := by decide) (hdb : (x == ("__debug__" : Str)) = false := by decide)
    (he : starEach [a] X.env = (false, eval a X.env) :: starEach [] X.env := by rfl) : VE g W X (.Call (.Name x p) [a] [] pos) (eUn op f) :=
  PE.of (pe_callB hc hg hm hv (pa_cons ha pa_nil he) hn hdb he) fun _ _ _ q => tCB_of q
theorem ve_t1 {x : Str} {T : String} {p : Pos} {op : D → Option D} (hc : CallR X (.type T) (rB1 g.r X.K op)) (hg : Gl X x) (hm : X.mg x = none) (hv : bootBuiltins x = some (.type T)) (ha : BE g W X a f) (hn : x ≠ "__name__" := by decide) (hdb : (x == ("__debug__" : Str)) = false := by decide)
    (he : starEach [a] X.env = (false, eval a X.env) :: starEach [] X.env := by rfl) : VE g W X (.Call (.Name x p) [a] [] pos) (eUn op f) :=
  PE.of (pe_callTy hc hg hm hv (pa_cons ha pa_nil he) hn hdb he) fun _ _ _ q => tCB_of q
def lenL : List D → Nat
  | [] => 0
  | _ :: r => Nat.succ (lenL r)
theorem lenL_eq : ∀ ds : List D, lenL ds = ds.length
  | [] => rfl
  | _ :: r => congrArg (· + 1) (lenL_eq r)
def lenD (d : D) : Option D := match d with
  | .list ds => some (.int (.ofNat (lenL ds)))
  | .tuple ds => some (.int (.ofNat (lenL ds)))
  | .str z => match smallN z.length with
    | true => some (.int (.ofNat z.length))
    | false => none
  | _ => none
theorem c_len {r : Option Addr} : CallR X (.builtin "len") (rB1 r X.K lenD) := fun pins s σ H xs us Q I rv ⟨x, Z, dx, d, e1, z, hx, e, q⟩ => by
  refine (call_len_seq.or call_len_str) pins s σ H xs us Q I rv ?_
  subst e1
  unfold lenD at e
  split at e
  · cases e
    obtain ⟨a, ys, rfl, h1, h2⟩ := RelB.lst z hx
    refine .inl ⟨a, ys, rfl, .inl h1, ?_⟩
    rw [h2.len, ← lenL_eq]
    exact q_same z q (.int _)
  · cases e
    obtain ⟨a, ys, rfl, h1, h2, _⟩ := RelB.tup z hx
    refine .inl ⟨a, ys, rfl, .inr h1, ?_⟩
    rw [h2.len, ← lenL_eq]
    exact q_same z q (.int _)
  · split at e
    · cases e
      rename_i hz
      exact .inr ⟨_, by rw [RelB.str hx], smallN_ok hz, q_same z q (.int _)⟩
    · cases e
  · cases e
def intsOf : List D → Option (List Int)
  | [] => some []
  | .int i :: r => match intsOf r with
    | some is => some (i :: is)
    | none => none
  | _ :: _ => none
theorem intsOf_eq : ∀ {ds : List D} {is : List Int}, intsOf ds = some is → ds = is.map PyData.int
  | [], _, e => by cases e; rfl
  | d :: r, is, e => by
    cases d <;> first | cases e; done | skip
    rename_i i
    cases h2 : intsOf r with
    | none =>
      have e' : (match intsOf r with | some is => some (i :: is) | none => none) = some is := e
      rw [h2] at e'
      cases e'
    | some is' =>
      have e' : (match intsOf r with | some is => some (i :: is) | none => none) = some is := e
      rw [h2] at e'
      cases e'
      rw [intsOf_eq h2]
      rfl
def sumI : List Int → Int
  | [] => 0
  | i :: r => i + sumI r
theorem sumI_eq : ∀ is : List Int, sumI is = is.sum
  | [] => rfl
  | i :: r => by rw [List.sum_cons, ← sumI_eq r]; rfl
def sumD (d : D) : Option D := match d with
  | .list ds => match intsOf ds with
    | some is => some (.int (sumI is))
    | none => none
  | _ => none
theorem c_sum {r : Option Addr} (hc : X.calm = true) : CallR X (.builtin "sum") (rB1 r X.K sumD) := fun pins s σ H xs us Q I rv ⟨x, Z, dx, d, e1, z, hx, e, q⟩ => by
  refine cr_sum hc pins s σ H xs us Q I rv ?_
  subst e1
  unfold sumD at e
  split at e
  · split at e
    · cases e
      rename_i is hi
      obtain ⟨a, ys, rfl, h1, h2⟩ := RelB.lst z hx
      rw [intsOf_eq hi] at h2
      rw [h2.ints] at h1
      refine ⟨a, is, rfl, h1, ?_⟩
      rw [← sumI_eq]
      exact q_same z q (.int _)
    · cases e
  · cases e
def bsOf : List D → Option (List Bool)
  | [] => some []
  | .bool i :: r => match bsOf r with
    | some is => some (i :: is)
    | none => none
  | _ :: _ => none
theorem bsOf_eq : ∀ {ds : List D} {is : List Bool}, bsOf ds = some is → ds = is.map PyData.bool
  | [], _, e => by cases e; rfl
  | d :: r, is, e => by
    cases d <;> first | cases e; done | skip
    rename_i i
    cases h2 : bsOf r with
    | none =>
      have e' : (match bsOf r with | some is => some (i :: is) | none => none) = some is := e
      rw [h2] at e'
      cases e'
    | some is' =>
      have e' : (match bsOf r with | some is => some (i :: is) | none => none) = some is := e
      rw [h2] at e'
      cases e'
      rw [bsOf_eq h2]
      rfl
theorem DqAll.bls {Z : Hp} : ∀ {ns : List Bool} {vs : List V}, DqAll K Z vs (ns.map PyData.bool) → vs = ns.map V.bl
  | [], _, .nil => rfl
  | _ :: _, _, .cons h r => by cases h; rw [DqAll.bls r]; rfl
def anyD (d : D) : Option D := match d with
  | .list ds => match bsOf ds with
    | some is => some (.bool (is.any id))
    | none => none
  | _ => none
def allD (d : D) : Option D := match d with
  | .list ds => match bsOf ds with
    | some is => some (.bool (is.all id))
    | none => none
  | _ => none
theorem c_any {r : Option Addr} (hc : X.calm = true) : CallR X (.builtin "any") (rB1 r X.K anyD) := fun pins s σ H xs us Q I rv ⟨x, Z, dx, d, e1, z, hx, e, q⟩ => by
  refine cr_any hc pins s σ H xs us Q I rv ?_
  subst e1
  unfold anyD at e
  split at e
  · split at e
    · cases e
      rename_i is hi
      obtain ⟨a, ys, rfl, h1, h2⟩ := RelB.lst z hx
      rw [bsOf_eq hi] at h2
      rw [h2.bls] at h1
      exact ⟨a, is, rfl, h1, q_same z q (.bl _)⟩
    · cases e
  · cases e
theorem c_all {r : Option Addr} (hc : X.calm = true) : CallR X (.builtin "all") (rB1 r X.K allD) := fun pins s σ H xs us Q I rv ⟨x, Z, dx, d, e1, z, hx, e, q⟩ => by
  refine cr_all hc pins s σ H xs us Q I rv ?_
  subst e1
  unfold allD at e
  split at e
  · split at e
    · cases e
      rename_i is hi
      obtain ⟨a, ys, rfl, h1, h2⟩ := RelB.lst z hx
      rw [bsOf_eq hi] at h2
      rw [h2.bls] at h1
      exact ⟨a, is, rfl, h1, q_same z q (.bl _)⟩
    · cases e
  · cases e
theorem RelB.int {r : Option Addr} {Z H H0 : Hp} {v : V} {z : Int} (h : RelB r K H0 (.int z) v Z H) : v = .int z := by
  rcases h with h | ⟨p, vs, es, rfl, e, _⟩ | ⟨p, vs, es, rfl, e, _⟩
  · exact Dq.int_ h
  · cases e
  · cases e
theorem RelB.bl {r : Option Addr} {Z H H0 : Hp} {v : V} {z : Bool} (h : RelB r K H0 (.bool z) v Z H) : v = .bl z := by
  rcases h with h | ⟨p, vs, es, rfl, e, _⟩ | ⟨p, vs, es, rfl, e, _⟩
  · exact Dq.bl_ h
  · cases e
  · cases e
def absD (d : D) : Option D := match d with
  | .int i => some (.int (.ofNat i.natAbs))
  | _ => none
theorem c_abs {r : Option Addr} : CallR X (.builtin "abs") (rB1 r X.K absD) := fun pins s σ H xs us Q I rv ⟨x, Z, dx, d, e1, z, hx, e, q⟩ => by
  refine call_abs pins s σ H xs us Q I rv ?_
  subst e1
  unfold absD at e
  split at e
  · cases e
    rename_i i
    refine ⟨i, by rw [RelB.int hx], ?_⟩
    have : (if i < 0 then -i else i) = Int.ofNat i.natAbs := by
      rw [Int.ofNat_eq_natCast]
      split <;> omega
    rw [this]
    exact q_same z q (.int _)
  · cases e
def intD (d : D) : Option D := match d with
  | .int i => some (.int i)
  | .bool true => some (.int 1)
  | .bool false => some (.int 0)
  | _ => none
theorem c_int {r : Option Addr} : CallR X (.type "int") (rB1 r X.K intD) := fun pins s σ H xs us Q I rv ⟨x, Z, dx, d, e1, z, hx, e, q⟩ => by
  refine call_int1 pins s σ H xs us Q I rv ?_
  subst e1
  unfold intD at e
  split at e
  · cases e
    exact .inl ⟨_, by rw [RelB.int hx], q_same z q (.int _)⟩
  · cases e
    exact .inr ⟨true, by rw [RelB.bl hx], q_same z q (.int 1)⟩
  · cases e
    exact .inr ⟨false, by rw [RelB.bl hx], q_same z q (.int 0)⟩
  · cases e
def tupD (d : D) : Option D := match d with
  | .list ds => some (.tuple ds)
  | .tuple ds => some (.tuple ds)
  | _ => none
theorem c_tup {r : Option Addr} : CallR X (.type "tuple") (rB1 r X.K tupD) := fun pins s σ H xs us Q I rv ⟨x, Z, dx, d, e1, z, hx, e, q⟩ => by
  refine call_tuple_of pins s σ H xs us Q I rv ?_
  subst e1
  unfold tupD at e
  split at e
  · cases e
    obtain ⟨a, ys, rfl, h1, h2⟩ := RelB.lst z hx
    exact ⟨a, ys, rfl, .inl ⟨h1, q_tup z q h2⟩⟩
  · cases e
    obtain ⟨a, ys, rfl, h1, h2, h3⟩ := RelB.tup z hx
    exact ⟨a, ys, rfl, .inr ⟨h1, q_same z q h3⟩⟩
  · cases e

/-! ### built-ins that hand back a new list -/
def rBN (r : Option Addr) (K : PySem.W.Frag) (op : D → Option (List D)) : List V → Hp → VK → Prop := fun xs H Q => ∃ x Z dx ds, xs = [x] ∧ Same Z H ∧ RelB r K H dx x Z H ∧ op dx = some ds ∧ ∀ p vs, H p = none → DqAll K Z vs ds → Q (.ref p) (upd H p (.lst vs))
def nUn (op : D → Option (List D)) (f : Env → R D) : Env → R (List D) := fun env => (f env).bind fun x => .of (op x)
theorem KG.newL {σ : L2.St} {b b1 : Nat} {Z H Z1 H1 : Hp} {ow : Nat → Addr} {env : Env} {ds : List D} {Q : VK} {p : Addr} {vs : List V} (e1 : Ext g.r Z H Z1 H1) (S : SE g.r b K Z H ow σ env) (S1 : SE g.r b1 K Z1 H1 ow σ env)
    (k : KG g K W σ b1 Z1 H1 (RelN g.r K H) (.ok ds) Q) (hp : H1 p = none) (hd : DqAll K Z1 vs ds) : Q (.ref p) (upd H1 p (.lst vs)) := by
  have hpH : H p = none := by
    cases q : H p with
    | none => rfl
    | some o =>
      by_cases n : g.r = some p
      · exact absurd n (S1.urn.ne hp)
      · rw [e1.there S.zh q n] at hp; cases hp
  exact k _ _ Z1 (Ext.newU S1.zh hp) (S1.urn.newU hp) ⟨p, vs, rfl, hpH, S1.zh.free hp, S1.urn.ne hp, upd_same, hd⟩
theorem tCN_of {op : D → Option (List D)} {σ : L2.St} {H : Hp} {Q : VK} (q : tG g K W (RelN g.r K) (nUn op f) σ H Q) : tCB (rBN g.r K op) (L2.tCons (tG g K W (RelB g.r K) f) tNil) σ H Q := by
  obtain ⟨b, Z, ow, env, S, k⟩ := q
  refine ⟨b, Z, ow, env, S, KG.seq S k fun b1 x vx H1 Z1 e1 S1 hx k1 => ?_⟩
  obtain ⟨d, hd, k3⟩ := k1.of
  exact ⟨vx, Z1, x, d, rfl, S1.zh, RelB.ext hx (Ext.refl S1.zh), hd, fun p vs hp hv => KG.newL e1 S S1 k3 hp hv⟩
theorem ne_b1 {x : Str} {id : String} {p : Pos} {op : D → Option (List D)} (hc : CallR X (.builtin id) (rBN g.r X.K op)) (hg : Gl X x) (hm : X.mg x = none) (hv : bootBuiltins x = some (.builtin id)) (ha : BE g W X a f) (hn : x ≠ "__name__" := by decide) (hdb : (x == ("__debug__" : Str)) = false := by decide)
    (he : starEach [a] X.env = (false, eval a X.env) :: starEach [] X.env := by rfl) : NE g W X (.Call (.Name x p) [a] [] pos) (nUn op f) :=
  PE.of (pe_callB hc hg hm hv (pa_cons ha pa_nil he) hn hdb he) fun _ _ _ q => tCN_of q
theorem ne_t1 {x : Str} {T : String} {p : Pos} {op : D → Option (List D)} (hc : CallR X (.type T) (rBN g.r X.K op)) (hg : Gl X x) (hm : X.mg x = none) (hv : bootBuiltins x = some (.type T)) (ha : BE g W X a f) (hn : x ≠ "__name__" := by decide) (hdb : (x == ("__debug__" : Str)) = false := by decide)
    (he : starEach [a] X.env = (false, eval a X.env) :: starEach [] X.env := by rfl) : NE g W X (.Call (.Name x p) [a] [] pos) (nUn op f) :=
  PE.of (pe_callTy hc hg hm hv (pa_cons ha pa_nil he) hn hdb he) fun _ _ _ q => tCN_of q
theorem c_list {r : Option Addr} : CallR X (.type "list") (rBN r X.K seqOf) := fun pins s σ H xs us Q I rv ⟨x, Z, dx, ds, e1, z, hx, e, q⟩ => by
  refine call_list_of pins s σ H xs us Q I rv ?_
  subst e1
  obtain ⟨a, ys, rfl, h1, h2⟩ := RelB.seq z hx e
  exact ⟨a, ys, rfl, h1, fun p hp => q p ys hp h2⟩
end
end Ev
set_option Elab.async false
set_option linter.all false
set_option maxRecDepth 100000
set_option maxHeartbeats 4000000
/-! Ev5: statements, defs, calls. -/
namespace Ev
open PySem PySem.Spec PyProof.Rows L2

inductive Flw where
  | nx (env : Env)
  | bk (env : Env)
  | ct (env : Env)
  | rt (d : D) (env : Env)
  | xc (x : Exn) (env : Env)
def R.bindS {α : Type} : R α → Env → (α → R Flw) → R Flw
  | .fail, _, _ => .fail
  | .ok a, _, k => k a
  | .exc x, env, _ => .ok (.xc x env)
  | .draw n f, env, k => .draw n fun i => (f i).bindS env k
structure SS (r : Option Addr) (b : Nat) (K : PySem.W.Frag) (Z0 H0 Z H : Hp) (ow : Nat → Addr) (σ : L2.St) (env : Env) : Prop where
  se : SE r b K Z H ow σ env
  s0 : Same Z0 H0
  ext : Ext r Z0 H0 Z H
  fresh : ∀ i ds, sl env i = .ow ds → H0 (ow i) = none
  apart : ∀ i j ds es, sl env i = .ow ds → sl env j = .ow es → i ≠ j → ow i ≠ ow j
section
variable {r : Option Addr} {b b' : Nat} {K : PySem.W.Frag} {Z0 H0 Z H Z' H' : Hp} {ow : Nat → Addr} {σ : L2.St} {env : Env}
theorem SS.ext' (S : SS r b K Z0 H0 Z H ow σ env) (e : Ext r Z H Z' H') (u : UrnO r b' Z' H') : SS r b' K Z0 H0 Z' H' ow σ env :=
  ⟨S.se.ext e u, S.s0, S.ext.trans' e S.se.urn, S.fresh, S.apart⟩
/-- what was there at the entry is there -/
theorem SS.was (S : SS r b K Z0 H0 Z H ow σ env) {p : Addr} (h : H p = none) : H0 p = none := by
  cases q : H0 p with
  | none => rfl
  | some o =>
    by_cases n : r = some p
    · exact absurd n (S.se.urn.ne h)
    · rw [S.ext.there S.s0 q n] at h; cases h
theorem getS {σ : L2.St} {i j : Nat} {v : Option V} : (σ.set i v)[j]? = if j = i ∧ i < σ.length then some v else σ[j]? := by
  by_cases h : i = j
  · subst h
    by_cases hl : i < σ.length
    · rw [List.getElem?_set_self hl, if_pos ⟨rfl, hl⟩]
    · rw [List.getElem?_eq_none (by rw [List.length_set]; omega), if_neg (fun q => hl q.2), List.getElem?_eq_none (by omega)]
  · rw [List.getElem?_set_ne h, if_neg (fun q => h q.1.symm)]
theorem slS {env : Env} {i j : Nat} {s : Sl} : sl (setS env i s) j = if j = i ∧ i < env.length then s else sl env j := by
  by_cases h : i = j
  · subst h
    by_cases hl : i < env.length
    · rw [sl_setS_same _ _ _ hl, if_pos ⟨rfl, hl⟩]
    · rw [if_neg (fun q => hl q.2), sl_un_of_le _ _ (by rw [setS_length]; omega), sl_un_of_le _ _ (by omega)]
  · rw [sl_setS_ne _ _ _ _ h, if_neg (fun q => h q.1.symm)]
/-- the other slots as a slot changes -/
theorem SlOk.other {i j : Nat} {v : Option V} {s : Sl} (h : SlOk r K Z H ow σ j s) (hj : ¬ (j = i ∧ i < σ.length)) : SlOk r K Z H ow (σ.set i v) j s := by
  have e : (σ.set i v)[j]? = σ[j]? := by rw [getS, if_neg hj]
  cases s with
  | un => trivial
  | va d => obtain ⟨w, h1, h2⟩ := h; exact ⟨w, by rw [e]; exact h1, h2⟩
  | ow ob => obtain ⟨h1, h2⟩ := h; exact ⟨by rw [e]; exact h1, h2⟩
  | ur => obtain ⟨a, h1, h2⟩ := h; exact ⟨a, h1, by rw [e]; exact h2⟩
theorem SS.setVa (S : SS r b K Z0 H0 Z H ow σ env) (i : Nat) {v : V} {d : D} (h : Dq K Z v d) : SS r b K Z0 H0 Z H ow (σ.set i (some v)) (setS env i (.va d)) := by
  refine ⟨⟨S.se.zh, S.se.urn, fun j => ?_, by rw [setS_length, List.length_set]; exact S.se.len⟩, S.s0, S.ext, fun j ds e => ?_, fun j k ds es e1 e2 n => ?_⟩
  · rw [slS]
    split
    · rename_i hj
      exact ⟨v, by rw [getS, if_pos (by rw [← S.se.len]; exact hj)], .inl h⟩
    · rename_i hj
      exact (S.se.at_ j).other (by rw [← S.se.len]; exact hj)
  · rw [slS] at e
    split at e
    · cases e
    · exact S.fresh j ds e
  · rw [slS] at e1 e2
    split at e1
    · cases e1
    · split at e2
      · cases e2
      · exact S.apart j k ds es e1 e2 n
theorem SS.setOw (S : SS r b K Z0 H0 Z H ow σ env) (i : Nat) {p : Addr} {o : HO} {ob : Ob} (zp : Z p = none) (rp : r ≠ some p) (hp : H p = some o) (hd : ObOk K Z p o ob) (h0 : H0 p = none) (hn : ∀ j es, sl env j = .ow es → ow j ≠ p) :
    SS r b K Z0 H0 Z H (fun j => if j = i then p else ow j) (σ.set i (some (.ref p))) (setS env i (.ow ob)) := by
  refine ⟨⟨S.se.zh, S.se.urn, fun j => ?_, by rw [setS_length, List.length_set]; exact S.se.len⟩, S.s0, S.ext, fun j ds e => ?_, fun j k ds es e1 e2 n => ?_⟩
  · rw [slS]
    split
    · rename_i hj
      have e : (if j = i then p else ow j) = p := if_pos hj.1
      refine ⟨?_, ?_, ?_, o, ?_, ?_⟩
      · show (σ.set i (some (V.ref p)))[j]? = some (some (V.ref (if j = i then p else ow j)))
        rw [e, getS, if_pos (by rw [← S.se.len]; exact hj)]
      · show Z (if j = i then p else ow j) = none
        rw [e]; exact zp
      · show r ≠ some (if j = i then p else ow j)
        rw [e]; exact rp
      · show H (if j = i then p else ow j) = _
        rw [e]; exact hp
      · show ObOk K Z (if j = i then p else ow j) o ob
        rw [e]; exact hd
    · rename_i hj
      have q := (S.se.at_ j).other (v := some (V.ref p)) (i := i) (by rw [← S.se.len]; exact hj)
      by_cases hji : j = i
      · have hl : ¬ i < env.length := fun z => hj ⟨hji, z⟩
        rw [hji, sl_un_of_le _ _ (by omega)]
        trivial
      · generalize sl env j = s at q ⊢
        cases s with
        | un => trivial
        | va d => exact q
        | ow es =>
          have e : (if j = i then p else ow j) = ow j := if_neg hji
          unfold SlOk at q ⊢
          simp only [e]
          exact q
        | ur => exact q
  · rw [slS] at e
    split at e
    · rename_i hj
      show H0 (if j = i then p else ow j) = none
      rw [if_pos hj.1]; exact h0
    · rename_i hj
      show H0 (if j = i then p else ow j) = none
      by_cases hji : j = i
      · rw [if_pos hji]; exact h0
      · rw [if_neg hji]; exact S.fresh j ds e
  · show (if j = i then p else ow j) ≠ (if k = i then p else ow k)
    rw [slS] at e1 e2
    by_cases hj : j = i
    · have hk : k ≠ i := fun z => n (by rw [hj, z])
      rw [if_pos hj, if_neg hk]
      rw [if_neg (fun z => hk z.1)] at e2
      exact fun z => hn k es e2 z.symm
    · rw [if_neg hj]
      rw [if_neg (fun z => hj z.1)] at e1
      by_cases hk : k = i
      · rw [if_pos hk]; exact hn j ds e1
      · rw [if_neg hk]
        rw [if_neg (fun z => hk z.1)] at e2
        exact S.apart j k ds es e1 e2 n
theorem SS.setOl (S : SS r b K Z0 H0 Z H ow σ env) (i : Nat) {p : Addr} {vs : List V} {ds : List D} (zp : Z p = none) (rp : r ≠ some p) (hp : H p = some (.lst vs)) (hd : DqAll K Z vs ds) (h0 : H0 p = none) (hn : ∀ j es, sl env j = .ow es → ow j ≠ p) :
    SS r b K Z0 H0 Z H (fun j => if j = i then p else ow j) (σ.set i (some (.ref p))) (setS env i (.ol ds)) := S.setOw i zp rp hp ⟨vs, rfl, hd⟩ h0 hn
/-- a slot forgotten -/
theorem SS.setUn (S : SS r b K Z0 H0 Z H ow σ env) (i : Nat) : SS r b K Z0 H0 Z H ow σ (setS env i .un) := by
  refine ⟨⟨S.se.zh, S.se.urn, fun j => ?_, by rw [setS_length]; exact S.se.len⟩, S.s0, S.ext, fun j ds e => ?_, fun j k ds es e1 e2 n => ?_⟩
  · rw [slS]
    split
    · trivial
    · exact S.se.at_ j
  · rw [slS] at e
    split at e
    · cases e
    · exact S.fresh j ds e
  · rw [slS] at e1 e2
    split at e1
    · cases e1
    · split at e2
      · cases e2
      · exact S.apart j k ds es e1 e2 n
/-- an owned list changes -/
theorem SS.mutO (S : SS r b K Z0 H0 Z H ow σ env) {i : Nat} {ob ob2 : Ob} {o2 : HO} (e : sl env i = .ow ob) (hd : ObOk K Z (ow i) o2 ob2) :
    SS r b K Z0 H0 Z (upd H (ow i) o2) ow σ (setS env i (.ow ob2)) := by
  have a := S.se.at_ i
  rw [e] at a
  obtain ⟨h1, zp, rp, o1, h2, h3⟩ := a
  have f0 := S.fresh i ob e
  have zh : Same Z (upd H (ow i) o2) := fun x o q => by rw [upd_ne (ne_of_none q zp)]; exact S.se.zh x o q
  refine ⟨⟨zh, ?_, fun j => ?_, by rw [setS_length]; exact S.se.len⟩, S.s0, ⟨S.ext.zz, zh, fun x o q z n => ?_, S.ext.out⟩, fun j ds' e1 => ?_, fun j k ds1 es1 e1 e2 n => ?_⟩
  · have u := S.se.urn
    cases hr : r with
    | none => trivial
    | some x =>
      rw [hr] at u rp
      obtain ⟨z, p, q, c, h, t⟩ := u
      exact ⟨z, p, q, c, by rw [upd_ne (fun w => rp (by rw [w]))]; exact h, t⟩
  · have aj := S.se.at_ j
    rw [slS]
    split
    · rename_i hj
      obtain ⟨hj, _⟩ := hj
      subst hj
      exact ⟨h1, zp, rp, o2, upd_same, hd⟩
    · rename_i hj
      by_cases hji : j = i
      · have hl : ¬ i < env.length := fun z => hj ⟨hji, z⟩
        rw [hji, sl_un_of_le _ _ (by omega)]
        trivial
      · generalize hs : sl env j = s at aj ⊢
        cases s with
        | un => trivial
        | va d => exact aj
        | ow ds' =>
          obtain ⟨k1, k2, k3, ws', k4, k5⟩ := aj
          exact ⟨k1, k2, k3, ws', by rw [upd_ne (S.apart j i ds' ob hs e hji)]; exact k4, k5⟩
        | ur => exact aj
  · rw [upd_ne (ne_of_none q f0)]
    exact S.ext.keep x o q z n
  · rw [slS] at e1
    split at e1
    · rename_i hj
      rw [hj.1]; exact f0
    · exact S.fresh j ds' e1
  · rw [slS] at e1 e2
    have f : ∀ {x : Nat} {l : Ob}, (if x = i ∧ i < env.length then Sl.ow ob2 else sl env x) = .ow l → ∃ l', sl env x = .ow l' := fun {x l} q => by
      split at q
      · rename_i hx
        exact ⟨ob, by rw [hx.1]; exact e⟩
      · exact ⟨l, q⟩
    obtain ⟨l1, q1⟩ := f e1
    obtain ⟨l2, q2⟩ := f e2
    exact S.apart j k l1 l2 q1 q2 n
theorem SS.mut (S : SS r b K Z0 H0 Z H ow σ env) {i : Nat} {ds es : List D} {vs : List V} (e : sl env i = .ol ds) (hd : DqAll K Z vs es) :
    SS r b K Z0 H0 Z (upd H (ow i) (.lst vs)) ow σ (setS env i (.ol es)) := S.mutO e ⟨vs, rfl, hd⟩
/-- an owned list is frozen -/
theorem SS.frz (S : SS r b K Z0 H0 Z H ow σ env) {i : Nat} {ds : List D} (e : sl env i = .ol ds) : ∃ Z', Same Z Z' ∧ SS r b K Z0 H0 Z' H ow σ (setS env i (.va (.list ds))) := by
  have a := S.se.at_ i
  rw [e] at a
  obtain ⟨h1, zp, rp, _, h2, ws, rfl, h3⟩ := a
  have f0 := S.fresh i _ e
  have zz : Same Z (upd Z (ow i) (.lst ws)) := fun x o q => by rw [upd_ne (ne_of_none q zp)]; exact q
  refine ⟨upd Z (ow i) (.lst ws), zz, ⟨fun x o q => ?_, ?_, fun j => ?_, by rw [setS_length]; exact S.se.len⟩, S.s0, S.ext.freeze h2 f0 zp, fun j ds' e1 => ?_, fun j k ds1 es1 e1 e2 n => ?_⟩
  · by_cases hx : x = ow i
    · subst hx; rw [upd_same] at q; cases q; exact h2
    · rw [upd_ne hx] at q; exact S.se.zh x o q
  · have u := S.se.urn
    cases hr : r with
    | none => trivial
    | some x =>
      rw [hr] at u rp
      obtain ⟨z, t⟩ := u
      exact ⟨by rw [upd_ne (fun w => rp (by rw [w]))]; exact z, t⟩
  · have aj := S.se.at_ j
    rw [slS]
    split
    · rename_i hj
      obtain ⟨hj, _⟩ := hj
      subst hj
      exact ⟨_, h1, .inl (.lst upd_same (h3.mono zz))⟩
    · rename_i hj
      by_cases hji : j = i
      · have hl : ¬ i < env.length := fun z => hj ⟨hji, z⟩
        rw [hji, sl_un_of_le _ _ (by omega)]
        trivial
      · generalize hs : sl env j = s at aj ⊢
        cases s with
        | un => trivial
        | va d => obtain ⟨v, q1, q2⟩ := aj; exact ⟨v, q1, VaOk.mono zz q2⟩
        | ow ds' =>
          obtain ⟨k1, k2, k3, ws', k4, k5⟩ := aj
          exact ⟨k1, by rw [upd_ne (S.apart j i ds' _ hs e hji)]; exact k2, k3, ws', k4, k5.mono zz⟩
        | ur => exact aj
  · rw [slS] at e1
    split at e1
    · cases e1
    · exact S.fresh j ds' e1
  · rw [slS] at e1 e2
    split at e1
    · cases e1
    · split at e2
      · cases e2
      · exact S.apart j k ds1 es1 e1 e2 n
def frz1 (env : Env) (i : Nat) : Env := match sl env i with
  | .ow (.l ds) => setS env i (.va (.list ds))
  | _ => env
theorem SS.frz1 (S : SS r b K Z0 H0 Z H ow σ env) (i : Nat) : ∃ Z', Same Z Z' ∧ SS r b K Z0 H0 Z' H ow σ (Ev.frz1 env i) := by
  unfold Ev.frz1
  split
  · rename_i ds e
    exact S.frz e
  · exact ⟨Z, Same.refl _, S⟩
def frzL : List Nat → Env → Env
  | [], env => env
  | i :: r, env => frzL r (Ev.frz1 env i)
theorem SS.frzL : ∀ (l : List Nat) {Z : Hp} {env : Env}, SS r b K Z0 H0 Z H ow σ env → ∃ Z', Same Z Z' ∧ SS r b K Z0 H0 Z' H ow σ (Ev.frzL l env)
  | [], Z, _, S => ⟨Z, Same.refl _, S⟩
  | i :: l, _, _, S => let ⟨_, z1, S1⟩ := S.frz1 i; let ⟨Z2, z2, S2⟩ := SS.frzL l S1; ⟨Z2, z1.trans z2, S2⟩
def fgtL : List Nat → Env → Env
  | [], env => env
  | i :: r, env => fgtL r (setS env i .un)
theorem SS.fgtL : ∀ (l : List Nat) {env : Env}, SS r b K Z0 H0 Z H ow σ env → SS r b K Z0 H0 Z H ow σ (Ev.fgtL l env)
  | [], _, S => S
  | i :: l, _, S => SS.fgtL l (S.setUn i)
end

/-! ### statements -/
/-- how a piece of a def ends; Zs: what was frozen at its start -/
def FK (g : G) (K : PySem.W.Frag) (W : WX) (Z0 H0 Zs : Hp) (E : Ends) (b : Nat) : Flw → Prop
  | .nx env => ∀ σ H Z ow, Same Zs Z → SS g.r b K Z0 H0 Z H ow σ env → E.nx σ H
  | .bk env => ∀ σ H Z ow, Same Zs Z → SS g.r b K Z0 H0 Z H ow σ env → E.bk σ H
  | .ct env => ∀ σ H Z ow, Same Zs Z → SS g.r b K Z0 H0 Z H ow σ env → E.ct σ H
  | .rt d env => ∀ v σ H Z ow, Same Zs Z → SS g.r b K Z0 H0 Z H ow σ env → Dq K Z v d → E.rt v H
  | .xc x env => ∀ cls dd σ H Z ow, Same Zs Z → SS g.r b K Z0 H0 Z H ow σ env → XRel K Z H g.C x cls dd → W cls dd σ H
theorem FK.mono {g : G} {K : PySem.W.Frag} {W : WX} {Z0 H0 Zs Zt : Hp} {E : Ends} {b : Nat} (z : Same Zs Zt) : ∀ {fl : Flw}, FK g K W Z0 H0 Zs E b fl → FK g K W Z0 H0 Zt E b fl
  | .nx _, h => fun σ H Z ow q S => h σ H Z ow (z.trans q) S
  | .bk _, h => fun σ H Z ow q S => h σ H Z ow (z.trans q) S
  | .ct _, h => fun σ H Z ow q S => h σ H Z ow (z.trans q) S
  | .rt _ _, h => fun v σ H Z ow q S => h v σ H Z ow (z.trans q) S
  | .xc _ _, h => fun c d σ H Z ow q S => h c d σ H Z ow (z.trans q) S
def SK (g : G) (K : PySem.W.Frag) (W : WX) (Z0 H0 Zs : Hp) (b : Nat) (m : R Flw) (E : Ends) : Prop := m.post b (FK g K W Z0 H0 Zs E) fun _ _ => False
theorem SK.mono {g : G} {K : PySem.W.Frag} {W : WX} {Z0 H0 Zs Zt : Hp} {E : Ends} {b : Nat} {m : R Flw} (z : Same Zs Zt) (h : SK g K W Z0 H0 Zs b m E) : SK g K W Z0 H0 Zt b m E := R.post_mono (fun _ _ q => FK.mono z q) (fun _ _ q => q) h
def tS (g : G) (K : PySem.W.Frag) (W : WX) (Z0 H0 : Hp) (f : Env → R Flw) : TS := fun E σ H => ∃ b Z ow env, SS g.r b K Z0 H0 Z H ow σ env ∧ SK g K W Z0 H0 Z b (f env) E
abbrev VS (g : G) (W : WX) (Z0 H0 : Hp) (X : Cx) (st : Stmt) (f : Env → R Flw) : Prop := PS X st (tS g X.K W Z0 H0 f)
abbrev VSs (g : G) (W : WX) (Z0 H0 : Hp) (X : Cx) (st : List Stmt) (f : Env → R Flw) : Prop := PSs X st (tS g X.K W Z0 H0 f)
theorem PS.of {X : Cx} {e : Stmt} {t t' : TS} (h : PS X e t) (i : ∀ σ H Q, t' Q σ H → t Q σ H) : PS X e t' := ⟨fun pins s σ H Q I q => h.run pins s σ H Q I (i σ H Q q)⟩
theorem PSs.of {X : Cx} {e : List Stmt} {t t' : TS} (h : PSs X e t) (i : ∀ σ H Q, t' Q σ H → t Q σ H) : PSs X e t' := ⟨fun pins s σ H Q I q => h.run pins s σ H Q I (i σ H Q q)⟩
section
variable {g : G} {W : WX} {X : Cx} {K : PySem.W.Frag} {Z0 H0 : Hp} {st : Stmt} {rest : List Stmt} {e : Expr} {pos : Pos} {σ : L2.St} {b : Nat} {Z H : Hp} {ow : Nat → Addr} {env : Env} {E : Ends}
theorem SK.xc' {α : Type} {Zs : Hp} {m : R α} {k : α → R Flw} {A : Nat → α → Prop} {B : Nat → Exn → Prop} : ∀ {b : Nat}, (m.bindS env k).post b (FK g K W Z0 H0 Zs E) (fun _ _ => False) → (∀ b' a, (k a).post b' (FK g K W Z0 H0 Zs E) (fun _ _ => False) → A b' a) →
    (∀ b' x, FK g K W Z0 H0 Zs E b' (.xc x env) → B b' x) → m.post b A B := by
  induction m with
  | fail => exact fun h _ _ => h
  | ok a => exact fun h ha _ => ha _ _ h
  | exc x => exact fun h _ hb => hb _ _ h
  | draw n f ih => exact fun ⟨hn, b', e, h⟩ ha hb => ⟨hn, b', e, fun i hi => ih i (h i hi) ha hb⟩
/-- an expression, then what follows -/
theorem SK.seq {α V' : Type} {Rel : α → V' → Hp → Hp → Prop} {m : R α} {f : α → R Flw} {Q' : V' → Hp → Prop} (S : SS g.r b K Z0 H0 Z H ow σ env) (h : SK g K W Z0 H0 Z b (m.bindS env f) E)
    (k : ∀ b1 a v H1 Z1, Ext g.r Z H Z1 H1 → SS g.r b1 K Z0 H0 Z1 H1 ow σ env → Rel a v Z1 H1 → SK g K W Z0 H0 Z1 b1 (f a) E → Q' v H1) : KG g K W σ b Z H Rel m Q' :=
  SK.xc' h (fun b1 a q v H1 Z1 e u rel => k b1 a v H1 Z1 e (S.ext' e u) rel (SK.mono e.zz q)) fun b1 x q cls dd H1 Z1 e u xr => q cls dd σ H1 Z1 ow e.zz (S.ext' e u) xr
theorem SK.nx {Zs : Hp} (S : SS g.r b K Z0 H0 Z H ow σ env) (h : SK g K W Z0 H0 Zs b (.ok (.nx env)) E) (z : Same Zs Z := by exact Same.refl _) : E.nx σ H := h σ H Z ow z S

/-! blocks -/
def thenS (m : R Flw) (k : Env → R Flw) : R Flw := m.bind fun
  | .nx env => k env
  | f => .ok f
def sNil : Env → R Flw := fun env => .ok (.nx env)
def sCons (f h : Env → R Flw) : Env → R Flw := fun env => thenS (f env) h
theorem vss_nil : VSs g W Z0 H0 X [] sNil := PSs.of pss_nil fun σ H E ⟨b, Z, ow, env, S, h⟩ => SK.nx S h
theorem vss_cons {f h : Env → R Flw} (h1 : VS g W Z0 H0 X st f) (h2 : VSs g W Z0 H0 X rest h) : VSs g W Z0 H0 X (st :: rest) (sCons f h) :=
  PSs.of (pss_cons h1 h2) fun σ H E ⟨b, Z, ow, env, S, k⟩ => ⟨b, Z, ow, env, S, by
    refine R.post_mono (fun b1 fl q => ?_) (fun _ _ q => q) (R.post_bind k)
    cases fl with
    | nx env1 => exact fun σ1 H1 Z1 ow1 z1 S1 => ⟨b1, Z1, ow1, env1, S1, SK.mono z1 q⟩
    | bk env1 => exact q
    | ct env1 => exact q
    | rt d env1 => exact q
    | xc x env1 => exact q⟩
theorem vss_one {f : Env → R Flw} (h1 : VS g W Z0 H0 X st f) : VSs g W Z0 H0 X [st] f := pss_one h1
/-- some owned lists are frozen ahead of it, some slots are forgotten behind it -/
def sFrz (l : List Nat) (f : Env → R Flw) : Env → R Flw := fun env => f (frzL l env)
theorem vs_frz {f : Env → R Flw} (l : List Nat) (h : VS g W Z0 H0 X st f) : VS g W Z0 H0 X st (sFrz l f) :=
  PS.of h fun σ H E ⟨b, Z, ow, env, S, k⟩ => let ⟨Z', z, S'⟩ := SS.frzL l S; ⟨b, Z', ow, _, S', SK.mono z k⟩
def sFgt (l : List Nat) (f : Env → R Flw) : Env → R Flw := fun env => (f env).bind fun
  | .nx env => .ok (.nx (fgtL l env))
  | f => .ok f
theorem vs_fgt {f : Env → R Flw} (l : List Nat) (h : VS g W Z0 H0 X st f) : VS g W Z0 H0 X st (sFgt l f) :=
  PS.of h fun σ H E ⟨b, Z, ow, env, S, k⟩ => ⟨b, Z, ow, env, S, by
    refine R.post_mono (fun b1 fl q => ?_) (fun _ _ q => q) (R.post_bind k)
    cases fl with
    | nx env1 => exact fun σ1 H1 Z1 ow1 z1 S1 => q σ1 H1 Z1 ow1 z1 (SS.fgtL l S1)
    | bk env1 => exact q
    | ct env1 => exact q
    | rt d env1 => exact q
    | xc x env1 => exact q⟩

/-! small statements -/
def sRet (f : Env → R D) : Env → R Flw := fun env => (f env).bindS env fun d => .ok (.rt d env)
theorem vs_ret {f : Env → R D} (h : VE g W X e f) : VS g W Z0 H0 X (.Return (some e) pos) (sRet f) :=
  PS.of (ps_ret h) fun σ H E ⟨b, Z, ow, env, S, k⟩ => ⟨b, Z, ow, env, S.se, SK.seq S k fun b1 d v H1 Z1 e1 S1 hd k1 => k1 v σ H1 Z1 ow (Same.refl _) S1 hd⟩
def sExpr {α : Type} (f : Env → R α) : Env → R Flw := fun env => (f env).bindS env fun _ => .ok (.nx env)
theorem vs_expr {f : Env → R D} (h : VE g W X e f) (hs : swapsWith e none pos.line X.env = pure false := by rfl) : VS g W Z0 H0 X (.Expr e pos) (sExpr f) :=
  PS.of (ps_expr h hs) fun σ H E ⟨b, Z, ow, env, S, k⟩ => ⟨b, Z, ow, env, S.se, SK.seq S k fun b1 d v H1 Z1 e1 S1 hd k1 => SK.nx S1 k1⟩
theorem vs_pass : VS g W Z0 H0 X (.Pass pos) sNil := PS.of ps_pass fun σ H E ⟨b, Z, ow, env, S, h⟩ => SK.nx S h
def sBrk : Env → R Flw := fun env => .ok (.bk env)
def sCnt : Env → R Flw := fun env => .ok (.ct env)
theorem vs_break : VS g W Z0 H0 X (.Break pos) sBrk := PS.of ps_break fun σ H E ⟨b, Z, ow, env, S, h⟩ => h σ H Z ow (Same.refl _) S
theorem vs_continue : VS g W Z0 H0 X (.Continue pos) sCnt := PS.of ps_continue fun σ H E ⟨b, Z, ow, env, S, h⟩ => h σ H Z ow (Same.refl _) S
/-- code that is not come to -/
def sNev : Env → R Flw := fun _ => .fail
theorem vs_never : VS g W Z0 H0 X st sNev := PS.of ps_never fun σ H E ⟨b, Z, ow, env, S, h⟩ => h.elim
def sIf (t : Env → R Bool) (f h : Env → R Flw) : Env → R Flw := fun env => (t env).bindS env fun
  | true => f env
  | false => h env
theorem vs_if {c : Expr} {p q : List Stmt} {t : Env → R Bool} {f h : Env → R Flw} (hc : TEs g W X c t) (ha : VSs g W Z0 H0 X p f) (hb : VSs g W Z0 H0 X q h) : VS g W Z0 H0 X (.If c p q pos) (sIf t f h) :=
  PS.of (ps_if hc ha hb) fun σ H E ⟨b, Z, ow, env, S, k⟩ => ⟨b, Z, ow, env, S.se, SK.seq S k fun b1 d v H1 Z1 e1 S1 hd k1 => by
    cases hd
    cases d with
    | true => rw [if_pos rfl]; exact ⟨b1, Z1, ow, env, S1, k1⟩
    | false => rw [if_neg Bool.false_ne_true]; exact ⟨b1, Z1, ow, env, S1, k1⟩⟩
/-- name = value -/
def sAsg (i : Nat) (f : Env → R D) : Env → R Flw := fun env => (f env).bindS env fun d => .ok (.nx (setS env i (.va d)))
theorem asg_of {f : Env → R D} {i : Nat} {σ : L2.St} {H : Hp} {E : Ends} (q : tS g K W Z0 H0 (sAsg i f) E σ H) : tAsg (tG g K W (RelD K) f) (gName i) E σ H := by
  obtain ⟨b, Z, ow, env, S, k⟩ := q
  exact ⟨b, Z, ow, env, S.se, SK.seq S k fun b1 d v H1 Z1 e1 S1 hd k1 => SK.nx (S1.setVa i hd) k1⟩
theorem vs_asg {i : Nat} {x : Str} {f : Env → R D} {pos' : Pos} (hN : X.N.Nodup) (hi : X.N[i]? = some x) (hx : Loc X.env.scope x) (h : VE g W X e f) (hs : swapsWith e (some (.Name x pos')) pos.line X.env = pure false := by rfl)
    (hf : X.fn x = true ∨ X.env.scope.names.lookup x = some .local := by first | exact .inl rfl | exact .inr rfl | assumption) : VS g W Z0 H0 X (.Assign [.Name x pos'] e pos) (sAsg i f) :=
  PS.of (ps_set hN hi hx h hs hf) fun _ _ _ q => asg_of q
/-- name = a new list, the name's own -/
def sNew (i : Nat) (f : Env → R (List D)) : Env → R Flw := fun env => (f env).bindS env fun ds => .ok (.nx (setS env i (.ol ds)))
theorem new_of {f : Env → R (List D)} {i : Nat} {σ : L2.St} {H : Hp} {E : Ends} (q : tS g K W Z0 H0 (sNew i f) E σ H) : tAsg (tG g K W (RelN g.r K) f) (gName i) E σ H := by
  obtain ⟨b, Z, ow, env, S, k⟩ := q
  refine ⟨b, Z, ow, env, S.se, SK.seq S k fun b1 ds v H1 Z1 e1 S1 ⟨p, vs, hv, hp, zp, rp, hl, hd⟩ k1 => ?_⟩
  subst hv
  refine SK.nx (S1.setOl i zp rp hl hd (S.was hp) fun j es q e => ?_) k1
  have a := S.se.at_ j
  rw [q] at a
  obtain ⟨_, _, _, ws, h2, _⟩ := a
  rw [e, hp] at h2
  cases h2
theorem vs_new {i : Nat} {x : Str} {f : Env → R (List D)} {pos' : Pos} (hN : X.N.Nodup) (hi : X.N[i]? = some x) (hx : Loc X.env.scope x) (h : NE g W X e f) (hs : swapsWith e (some (.Name x pos')) pos.line X.env = pure false := by rfl)
    (hf : X.fn x = true ∨ X.env.scope.names.lookup x = some .local := by first | exact .inl rfl | exact .inr rfl | assumption) : VS g W Z0 H0 X (.Assign [.Name x pos'] e pos) (sNew i f) :=
  PS.of (ps_set hN hi hx h hs hf) fun _ _ _ q => new_of q
/-- name op= e -/
def sAug (i : Nat) (op : D → D → Option D) (f : Env → R D) : Env → R Flw := fun env => match sl env i with
  | .va d => (f env).bindS env fun y => (vaD d).bindS env fun d => (R.of (op d y)).bindS env fun z => .ok (.nx (setS env i (.va z)))
  | _ => .fail
theorem SK.of {α : Type} {Zs : Hp} {o : Option α} {f : α → R Flw} (h : SK g K W Z0 H0 Zs b ((R.of o).bindS env f) E) : ∃ a, o = some a ∧ SK g K W Z0 H0 Zs b (f a) E := by
  cases o with
  | none => exact h.elim
  | some a => exact ⟨a, rfl, h⟩
theorem vs_aug {i : Nat} {x : Str} {f : Env → R D} {pos' : Pos} {o : Operator} {op : D → D → Option D} (hN : X.N.Nodup) (hi : X.N[i]? = some x) (hx : Loc X.env.scope x) (h : VE g W X e f) (ho : OpR X (inplaceOp o) (rD2 X.K op))
    (hf : X.fn x = true ∨ X.env.scope.names.lookup x = some .local := by first | exact .inl rfl | exact .inr rfl | assumption) : VS g W Z0 H0 X (.AugAssign (.Name x pos') o e pos) (sAug i op f) :=
  PS.of (ps_aug hN hi hx h (fun pins s σ H x y v u Q I rx ry q => ho pins s σ H x y v u Q I rx ry q) hf) fun σ H E ⟨b, Z, ow, env, S, k⟩ => by
    unfold sAug at k
    have a := S.se.at_ i
    split at k
    · rename_i d e
      rw [e] at a
      obtain ⟨v, h1, h2⟩ := a
      refine ⟨v, h1, b, Z, ow, env, S.se, SK.seq S k fun b1 y w H1 Z1 e1 S1 hd k1 => ?_⟩
      rcases vaD_any d with hv | hv
      · rw [hv] at k1; exact k1.elim
      rw [hv] at k1
      obtain ⟨z, hz, k2⟩ := SK.of (f := fun z => .ok (.nx (setS env i (.va z)))) k1
      refine ⟨Z1, d, y, z, S1.se.zh, (h2.dq hv).mono e1.zz, hd, hz, fun v2 H2 Z2 e2 r2 => ?_⟩
      exact SK.nx ((S1.ext' e2.lift (S1.se.urn.step e2)).setVa i r2) k2 e2.zz
    · exact k.elim
theorem io_add : OpR X (inplaceOp .Add) (rD2 X.K (arD (fun _ _ => true) fun i j => i + j)) := fun pins s σ H x y v u Q I rx ry h => by
  obtain ⟨i, j, e1, e2, _, q⟩ := ar_rd (C := fun _ _ => True) (f' := fun i j => i + j) (fun _ _ _ => ⟨trivial, rfl⟩) h
  exact iop_add pins s σ H x y v u Q I rx ry ⟨i, j, e1, e2, q⟩
theorem io_sub : OpR X (inplaceOp .Sub) (rD2 X.K subD) := fun pins s σ H x y v u Q I rx ry h => by
  obtain ⟨i, j, e1, e2, _, q⟩ := ar_rd (C := fun _ _ => True) (f' := fun i j => i - j) (fun _ _ _ => ⟨trivial, rfl⟩) h
  exact iop_sub pins s σ H x y v u Q I rx ry ⟨i, j, e1, e2, q⟩
abbrev imulD := arD mulC fun i j => i * j
theorem iop_mulW : OpR X (inplaceOp .Mult) (rI CMulA fun i j => .int (i * j)) := opI fun _ _ _ _ _ _ _ hc q => imul_int q (hc.elim CMulW.ok CMul.ok)
theorem io_mul : OpR X (inplaceOp .Mult) (rD2 X.K imulD) := fun pins s σ H x y v u Q I rx ry h => iop_mulW pins s σ H x y v u Q I rx ry (ar_rd (fun i j h => ⟨mulC_ok h, rfl⟩) h)
end
end Ev
set_option Elab.async false
set_option linter.all false
set_option maxRecDepth 100000
set_option maxHeartbeats 4000000
/-! Ev6: targets, loops, changes of owned lists, comprehensions. -/
namespace Ev
open PySem PySem.Spec PyProof.Rows L2
section
variable {g : G} {W : WX} {X : Cx} {K : PySem.W.Frag} {Z0 H0 : Hp} {st : Stmt} {rest : List Stmt} {e : Expr} {pos : Pos} {σ : L2.St} {b : Nat} {Z H : Hp} {ow : Nat → Addr} {env : Env} {E : Ends}
/-! ### targets -/
inductive Tg where
  | one (i : Nat)
  | tup (is : List Nat)
def bindL : List Nat → List D → Env → Option Env
  | [], [], env => some env
  | i :: is, d :: ds, env => bindL is ds (setS env i (.va d))
  | _, _, _ => none
def bindT (t : Tg) (d : D) (env : Env) : Option Env := match t with
  | .one i => some (setS env i (.va d))
  | .tup is => match d with
    | .tuple ds => bindL is ds env
    | _ => none
/-- a target, by data -/
def TgK (K : PySem.W.Frag) (v : V) (σ : L2.St) (H : Hp) (Q : L2.St → Hp → Prop) : Tg → Prop
  | .one i => Q (σ.set i (some v)) H
  | .tup is => ∃ a xs, v = .ref a ∧ SqT K H a xs ∧ xs.length = is.length ∧ Q ((xs.zip is).foldl (fun σ p => σ.set p.2 (some p.1)) σ) H
def gNs : List Nat → TGs
  | [] => gNil
  | i :: r => gCons (gName i) (gNs r)
def tgG (K : PySem.W.Frag) : Tg → TG
  | .one i => gName i
  | .tup is => gTup K is.length (gNs is)
abbrev PTg (X : Cx) (tg : Expr) (t : Tg) : Prop := PG X tg (tgG X.K t)
theorem gNs_of : ∀ {is : List Nat} {vs : List V} {σ : L2.St} {H : Hp} {Q : L2.St → Hp → Prop}, vs.length = is.length → Q ((vs.zip is).foldl (fun σ p => σ.set p.2 (some p.1)) σ) H → gNs is vs σ H Q
  | [], [], _, _, _, _, h => ⟨rfl, h⟩
  | i :: is, v :: vs, _, _, _, hl, h => ⟨v, vs, rfl, gNs_of (Nat.succ.inj hl) h⟩
  | [], _ :: _, _, _, _, hl, _ => by cases hl
  | _ :: _, [], _, _, _, hl, _ => by cases hl
theorem tgG_of {K : PySem.W.Frag} {v : V} {σ : L2.St} {H : Hp} {Q : L2.St → Hp → Prop} : ∀ {t : Tg}, TgK K v σ H Q t → tgG K t v σ H Q
  | .one _, h => h
  | .tup _, ⟨a, xs, e, hs, hl, q⟩ => ⟨a, xs, e, hs, hl, gNs_of hl q⟩
theorem tg_one {i : Nat} {x : Str} (hN : X.N.Nodup) (hi : X.N[i]? = some x) (hx : Loc X.env.scope x) (hf : X.fn x = true ∨ X.env.scope.names.lookup x = some .local := by first | exact .inl rfl | exact .inr rfl | assumption) : PTg X (.Name x pos) (.one i) := pg_name hN hi hx hf
abbrev PTgs (X : Cx) (es : List Expr) (is : List Nat) : Prop := PGs X es (gNs is)
theorem tgs_nil : PTgs X [] [] := pgs_nil
theorem tgs_cons {i : Nat} {x : Str} {es : List Expr} {is : List Nat} (hN : X.N.Nodup) (hi : X.N[i]? = some x) (hx : Loc X.env.scope x) (hr : PTgs X es is) (hf : X.fn x = true ∨ X.env.scope.names.lookup x = some .local := by first | exact .inl rfl | exact .inr rfl | assumption)
    (hs : (assignEach (.Name x pos :: es) X.env).map (·.2) = assign (.Name x pos) X.env :: (assignEach es X.env).map (·.2) := by rfl) : PTgs X (.Name x pos :: es) (i :: is) := pgs_cons (pg_name hN hi hx hf) hr hs
theorem tg_tup {es : List Expr} {is : List Nat} {k : Nat} (hc : X.calm = true) (h : PTgs X es is) (hn : (assignEach es X.env).length = is.length := by rfl) (hst : (assignEach es X.env).findIdx? (·.1) = none := by rfl) : PTg X (.Tuple es k pos) (.tup is) := pg_tup hc h hn hst
theorem SS.setL {r : Option Addr} : ∀ {is : List Nat} {vs : List V} {ds : List D} {σ : L2.St} {env env' : Env}, SS r b K Z0 H0 Z H ow σ env → DqAll K Z vs ds → bindL is ds env = some env' → vs.length = is.length ∧ SS r b K Z0 H0 Z H ow ((vs.zip is).foldl (fun σ p => σ.set p.2 (some p.1)) σ) env'
  | [], [], [], _, _, _, S, _, e => by cases e; exact ⟨rfl, S⟩
  | i :: is, v :: vs, d :: ds, _, _, _, S, .cons h1 h2, e => by
    obtain ⟨l, q⟩ := SS.setL (is := is) (S.setVa i h1) h2 e
    exact ⟨congrArg (· + 1) l, q⟩
  | [], _, _ :: _, _, _, _, _, _, e => by cases e
  | _ :: _, _, [], _, _, _, _, _, e => by cases e
/-- a datum is bound -/
theorem bind_ok {t : Tg} {r : Option Addr} {d : D} {v : V} {env' : Env} (S : SS r b K Z0 H0 Z H ow σ env) (hd : Dq K Z v d) (e : bindT t d env = some env') {Q : L2.St → Hp → Prop} (k : ∀ σ', SS r b K Z0 H0 Z H ow σ' env' → Q σ' H) : TgK K v σ H Q t := by
  cases t with
  | one i => cases e; exact k _ (S.setVa i hd)
  | tup is =>
    cases d <;> first | cases e; done | skip
    rename_i ds
    obtain ⟨a, xs, rfl, h1, h2⟩ := Dq.tup_ hd
    obtain ⟨hl, S'⟩ := SS.setL (is := is) S h2 e
    exact ⟨a, xs, rfl, seqT S.se.zh h1, hl, k _ S'⟩
/-- target = value -/
def sTup (t : Tg) (f : Env → R D) : Env → R Flw := fun env => (f env).bindS env fun d => (R.of (bindT t d env)).bindS env fun env' => .ok (.nx env')
theorem vs_tgt {tg : Expr} {t : Tg} {f : Env → R D} (ht : PTg X tg t) (h : VE g W X e f) (hs : swapsWithSole [tg] e pos.line X.env = pure false := by rfl) (hw : swappedStores [tg] e X.env = pure none := by rfl)
    (h1 : (assignEach [tg] X.env).map (·.2) = [assign tg X.env] := by rfl) : VS g W Z0 H0 X (.Assign [tg] e pos) (sTup t f) := by
  refine PS.of (ps_asg h ht hs hw h1) fun σ H E ⟨b, Z, ow, env, S, k⟩ => ⟨b, Z, ow, env, S.se, SK.seq S k fun b1 d v H1 Z1 e1 S1 hd k1 => ?_⟩
  obtain ⟨env', he, k2⟩ := k1.of
  exact tgG_of (bind_ok S1 hd he fun σ' S' => SK.nx S' k2)

/-! ### what a for walks -/
/-- J walks the data ds -/
def ItOk (K : PySem.W.Frag) (Z : Hp) (J : It) (ds : List D) : Prop := ∀ Z2 H2, Same Z Z2 → Same Z2 H2 → J.stop ds.length H2 ∧ ∀ i d, ds[i]? = some d → J.go i H2 ∧ ∀ x H3, J.yld i H2 x H3 → ∃ Z3, Ext none Z2 H2 Z3 H3 ∧ Dq K Z3 x d
abbrev RelI (K : PySem.W.Frag) : Hp → List D → It → Hp → Hp → Prop := fun _ ds J Z' _ => ItOk K Z' J ds
abbrev IE (g : G) (W : WX) (X : Cx) (tg e : Expr) (f : Env → R (List D)) : Prop := PI X tg e (tG g X.K W (RelI X.K) f)
theorem PI.of {tg : Expr} {t t' : TI} (h : PI X tg e t) (i : ∀ σ H Q, t' σ H Q → t σ H Q) : PI X tg e t' := ⟨fun pins s σ H Q I q => h.run pins s σ H Q I (i σ H Q q)⟩
theorem it_list {a : Addr} {xs : List V} {ds : List D} (h : Z a = some (.lst xs)) (hd : DqAll K Z xs ds) : ItOk K Z (Itl K a) ds := fun Z2 H2 z1 z2 => by
  have e : SqL K H2 a xs := SqL.of (z2 _ _ (z1 _ _ h))
  refine ⟨⟨xs, e, by rw [hd.len]; exact Nat.le_refl _⟩, fun i d hi => ?_⟩
  obtain ⟨v, hv, hq⟩ := hd.get hi
  refine ⟨⟨xs, v, e, hv⟩, fun x H3 ⟨e1, e2⟩ => ?_⟩
  subst e1
  have := e2 xs e
  rw [hv] at this
  cases this
  exact ⟨Z2, Ext.refl z2, hq.mono z1⟩
theorem it_tup {a : Addr} {xs : List V} {ds : List D} (h : SqT K Z a xs) (hd : DqAll K Z xs ds) : ItOk K Z (Itt K a) ds := fun Z2 H2 z1 z2 => by
  have e : SqT K H2 a xs := seqT (z1.trans z2) h
  refine ⟨⟨xs, e, by rw [hd.len]; exact Nat.le_refl _⟩, fun i d hi => ?_⟩
  obtain ⟨v, hv, hq⟩ := hd.get hi
  refine ⟨⟨xs, v, e, hv⟩, fun x H3 ⟨e1, e2⟩ => ?_⟩
  subst e1
  have := e2 xs e
  rw [hv] at this
  cases this
  exact ⟨Z2, Ext.refl z2, hq.mono z1⟩
/-- a list, by its static kind -/
def iLst (f : Env → R D) : Env → R (List D) := fun env => (f env).bind fun
  | .list ds => .ok ds
  | _ => .fail
def iTupl (f : Env → R D) : Env → R (List D) := fun env => (f env).bind fun
  | .tuple ds => .ok ds
  | _ => .fail
theorem ie_list {tg : Expr} {f : Env → R D} (h : VE g W X e f) : IE g W X tg e (iLst f) :=
  PI.of (pi_list h) fun σ H Q ⟨b, Z, ow, env, S, k⟩ => ⟨b, Z, ow, env, S, KG.seq S k fun b1 d v H1 Z1 e1 S1 hd k1 => by
    cases d <;> first | exact k1.elim | skip
    obtain ⟨a, xs, rfl, h1, h2⟩ := Dq.lst_ hd
    exact ⟨a, rfl, ⟨xs, SqL.of (S1.zh _ _ h1)⟩, KG.ok (Rel := RelI X.K H1) S1 k1 (it_list h1 h2)⟩⟩
theorem ie_tup {tg : Expr} {f : Env → R D} (h : VE g W X e f) : IE g W X tg e (iTupl f) :=
  PI.of (pi_tup h) fun σ H Q ⟨b, Z, ow, env, S, k⟩ => ⟨b, Z, ow, env, S, KG.seq S k fun b1 d v H1 Z1 e1 S1 hd k1 => by
    cases d <;> first | exact k1.elim | skip
    obtain ⟨a, xs, rfl, h1, h2⟩ := Dq.tup_ hd
    exact ⟨a, rfl, ⟨xs, seqT S1.zh h1⟩, KG.ok (Rel := RelI X.K H1) S1 k1 (it_tup h1 h2)⟩⟩
/-- a list or a tuple, whichever comes -/
def iAny (f : Env → R D) : Env → R (List D) := fun env => (f env).bind fun d => .of (seqOf d)
theorem ie_any {tg : Expr} {f : Env → R D} (h : VE g W X e f) : IE g W X tg e (iAny f) := by
  refine ⟨fun pins s σ H Q I ⟨b, Z, ow, env, S, k⟩ => ?_⟩
  refine thn (h.run pins s σ H (fun (v : V) (H1 : Hp) => ∃ (J : It), (∃ (a : Addr) (xs : List V), v = .ref a ∧ ((J = Itl X.K a ∧ SqL X.K H1 a xs) ∨ (J = Itt X.K a ∧ SqT X.K H1 a xs))) ∧ (Q J H1)) I ⟨b, Z, ow, env, S, KG.seq S k fun b1 d v H1 Z1 e1 S1 hd k1 => ?_⟩) fun u s1 q0 => ?_
  · obtain ⟨ds, hds, k2⟩ := k1.of
    cases d <;> first | cases hds; done | skip
    · cases hds
      obtain ⟨a, xs, rfl, h1, h2⟩ := Dq.lst_ hd
      exact ⟨_, ⟨a, xs, rfl, .inl ⟨rfl, SqL.of (S1.zh _ _ h1)⟩⟩, KG.ok (Rel := RelI X.K H1) S1 k2 (it_list h1 h2)⟩
    · cases hds
      obtain ⟨a, xs, rfl, h1, h2⟩ := Dq.tup_ hd
      exact ⟨_, ⟨a, xs, rfl, .inr ⟨rfl, seqT S1.zh h1⟩⟩, KG.ok (Rel := RelI X.K H1) S1 k2 (it_tup h1 h2)⟩
  · obtain ⟨v, H1, I1, r1, J, ⟨a, xs, ev, hJ⟩, q⟩ := q0
    subst ev
    cases r1
    rcases hJ with ⟨rfl, hq⟩ | ⟨rfl, hq⟩
    · obtain ⟨its, rv, p, hz⟩ := I1.list hq
      refine wpAny_pyIter_list p.isList ?_
      refine ⟨s1.heap.objs.size, [s1.heap.objs.size], _, _, H1, rfl, I1.kept (t' := s1.toks) fun b o e => Heap.get?_push_of_some _ e, turn_list a _, ⟨_, Heap.get?_push_size _ rfl, rfl, rfl⟩, fun b hb => ?_, q⟩
      have e : b = s1.heap.objs.size := by simpa using hb
      subst e
      exact I1.fpOk (Nat.le_refl _) (I1.hok.fresh (Nat.le_refl _))
    · obtain ⟨its, rv, p, hz⟩ := I1.tuple hq
      refine wpAny_pyIter_tuple (show s1.heap.IsTuple a its.toArray from p) ?_
      refine ⟨s1.heap.objs.size, [s1.heap.objs.size], _, _, H1, rfl, I1.kept (t' := s1.toks) fun b o e => Heap.get?_push_of_some _ e, turn_tuple a _, ⟨_, Heap.get?_push_size _ rfl, rfl, rfl⟩, fun b hb => ?_, q⟩
      have e : b = s1.heap.objs.size := by simpa using hb
      subst e
      exact I1.fpOk (Nat.le_refl _) (I1.hok.fresh (Nat.le_refl _))
/-- ranges -/
def rng (lo : Int) : Nat → List D
  | 0 => []
  | n + 1 => .int lo :: rng (lo + 1) n
theorem rng_len : ∀ (lo : Int) (n : Nat), (rng lo n).length = n
  | _, 0 => rfl
  | lo, n + 1 => congrArg (· + 1) (rng_len (lo + 1) n)
theorem rng_get : ∀ (lo : Int) (n i : Nat) (d : D), (rng lo n)[i]? = some d → i < n ∧ d = .int (lo + i)
  | _, 0, _, _, h => by cases h
  | lo, n + 1, 0, d, h => by
    have : some (PyData.int lo) = some d := h
    cases this
    exact ⟨Nat.zero_lt_succ _, by simp⟩
  | lo, n + 1, i + 1, d, h => by
    obtain ⟨h1, h2⟩ := rng_get (lo + 1) n i d (by simpa [rng] using h)
    refine ⟨Nat.succ_lt_succ h1, ?_⟩
    rw [h2]
    congr 1
    omega
theorem it_rng {lo : Int} {n : Nat} : ItOk K Z (Itr lo n) (rng lo n) := fun Z2 H2 z1 z2 => by
  refine ⟨by rw [rng_len]; exact Nat.le_refl _, fun i d hi => ?_⟩
  obtain ⟨h1, h2⟩ := rng_get lo n i d hi
  refine ⟨h1, fun x H3 ⟨e1, e2⟩ => ?_⟩
  subst e1 e2 h2
  exact ⟨Z2, Ext.refl z2, .int _⟩
def in62 (i : Int) : Bool := leI (-4611686018427387904) i && ltI i 4611686018427387904
theorem in62_ok {i : Int} (h : in62 i = true) : -(2 ^ 62) ≤ i ∧ i < 2 ^ 62 := by
  unfold in62 at h
  rw [Bool.and_eq_true, ltI_eq, leI_eq, decide_eq_true_eq, decide_eq_true_eq] at h
  exact ⟨by omega, by omega⟩
def rng1 : List D → Option (List D)
  | [.int j] => match in62 j with
    | true => some (rng 0 j.toNat)
    | false => none
  | _ => none
def rng2 : List D → Option (List D)
  | [.int i, .int j] => match in62 i && in62 j with
    | true => some (rng i (j - i).toNat)
    | false => none
  | _ => none
def iRng (op : List D → Option (List D)) (h : Env → R (List D)) : Env → R (List D) := fun env => (h env).bind fun ds => .of (op ds)
theorem DqAll.one {v : List V} {d : D} (h : DqAll K Z v [d]) : ∃ x, v = [x] ∧ Dq K Z x d := by
  cases h with
  | cons h1 h2 => cases h2; exact ⟨_, rfl, h1⟩
theorem DqAll.two {v : List V} {d e : D} (h : DqAll K Z v [d, e]) : ∃ x y, v = [x, y] ∧ Dq K Z x d ∧ Dq K Z y e := by
  cases h with
  | cons h1 h2 => obtain ⟨y, rfl, h3⟩ := DqAll.one h2; exact ⟨_, y, rfl, h1, h3⟩
theorem ie_rng1 {tg a : Expr} {p : Pos} {h : Env → R (List D)} (hg : Gl X "range") (hm : X.mg "range" = none) (ha : AEs g W X [a] h) (hs : starEach [a] X.env = [(false, eval a X.env)] := by rfl) : IE g W X tg (.Call (.Name "range" p) [a] [] pos) (iRng rng1 h) :=
  PI.of (pi_range1 hg hm ha hs) fun σ H Q ⟨b, Z, ow, env, S, k⟩ => ⟨b, Z, ow, env, S, KG.seq S k fun b1 ds vs H1 Z1 e1 S1 hd k1 => by
    obtain ⟨rs, hr, k2⟩ := k1.of
    unfold rng1 at hr
    split at hr
    · split at hr
      · cases hr
        rename_i j _ hj
        obtain ⟨x, rfl, hx⟩ := DqAll.one hd
        rw [Dq.int_ hx]
        obtain ⟨q1, q2⟩ := in62_ok hj
        exact ⟨j, rfl, q1, q2, KG.ok (Rel := RelI X.K H1) S1 k2 it_rng⟩
      · cases hr
    · cases hr⟩
theorem ie_rng2 {tg a c : Expr} {p : Pos} {h : Env → R (List D)} (hg : Gl X "range") (hm : X.mg "range" = none) (ha : AEs g W X [a, c] h) (hs : starEach [a, c] X.env = [(false, eval a X.env), (false, eval c X.env)] := by rfl) (hs2 : starEach [c] X.env = [(false, eval c X.env)] := by rfl) :
    IE g W X tg (.Call (.Name "range" p) [a, c] [] pos) (iRng rng2 h) :=
  PI.of (pi_range2 hg hm ha hs hs2) fun σ H Q ⟨b, Z, ow, env, S, k⟩ => ⟨b, Z, ow, env, S, KG.seq S k fun b1 ds vs H1 Z1 e1 S1 hd k1 => by
    obtain ⟨rs, hr, k2⟩ := k1.of
    unfold rng2 at hr
    split at hr
    · split at hr
      · cases hr
        rename_i i j _ hj
        rw [Bool.and_eq_true] at hj
        obtain ⟨x, y, rfl, hx, hy⟩ := DqAll.two hd
        rw [Dq.int_ hx, Dq.int_ hy]
        obtain ⟨q1, q2⟩ := in62_ok hj.1
        obtain ⟨q3, q4⟩ := in62_ok hj.2
        exact ⟨i, j, rfl, ⟨q1, q2, q3, q4⟩, KG.ok (Rel := RelI X.K H1) S1 k2 it_rng⟩
      · cases hr
    · cases hr⟩

/-! ### for -/
def forL (t : Tg) (f : Env → R Flw) : List D → Env → R Flw
  | [], env => .ok (.nx env)
  | d :: ds, env => (R.of (bindT t d env)).bind fun env1 => (f env1).bind fun
    | .nx env2 => forL t f ds env2
    | .ct env2 => forL t f ds env2
    | .bk env2 => .ok (.nx env2)
    | x => .ok x
def sFor (t : Tg) (it : Env → R (List D)) (f : Env → R Flw) : Env → R Flw := fun env => (it env).bindS env fun ds => forL t f ds env
theorem R.of_post {α : Type} {o : Option α} {b : Nat} {Q : Nat → α → Prop} {W : Nat → Exn → Prop} (h : (R.of o).post b Q W) : ∃ a, o = some a ∧ Q b a := by
  cases o with
  | none => exact h.elim
  | some a => exact ⟨a, rfl, h⟩
theorem vs_for {tg iter : Expr} {body : List Stmt} {t : Tg} {it : Env → R (List D)} {f : Env → R Flw} (hp : PassesOwn (model X.prog X.w) X.A X.env X.xe) (hc : X.calm = true) (hi : IE g W X tg iter it) (ht : PTg X tg t) (hb : VSs g W Z0 H0 X body f)
    (hs : ∀ x, foldedSetIterable iter X.env x = pure x := by intro _; rfl) : VS g W Z0 H0 X (.For tg iter body [] pos) (sFor t it f) := by
  refine PS.of (ps_for hp hc hi ht hb hs) fun σ H E ⟨b, Z, ow, env, S, k⟩ => ⟨b, Z, ow, env, S.se, SK.seq S k fun b1 ds J H1 Z1 e1 S1 hJ k1 => ?_⟩
  refine ⟨fun i m σ2 H2 => ∃ b2 Z2 ow2 env2, Same Z1 Z2 ∧ SS g.r b2 X.K Z0 H0 Z2 H2 ow2 σ2 env2 ∧ i ≤ ds.length ∧ m = ds.length - i ∧ SK g X.K W Z0 H0 Z2 b2 (forL t f (ds.drop i) env2) E, ⟨ds.length, b1, Z1, ow, env, Same.refl _, S1, Nat.zero_le _, rfl, k1⟩, ?_⟩
  rintro i m σ2 H2 ⟨b2, Z2, ow2, env2, z12, S2, hi2, rfl, k2⟩
  obtain ⟨j1, j2⟩ := hJ Z2 H2 z12 S2.se.zh
  by_cases hlt : i < ds.length
  · obtain ⟨d, hd⟩ : ∃ d, ds[i]? = some d := ⟨ds[i], by simp [hlt]⟩
    obtain ⟨hgo, hy⟩ := j2 i d hd
    have hdrop : ds.drop i = d :: ds.drop (i + 1) := by
      rw [List.drop_eq_getElem_cons hlt]
      rw [List.getElem?_eq_getElem hlt] at hd
      rw [Option.some.inj hd]
    rw [hdrop] at k2
    refine .inr ⟨hgo, fun σ3 H3 => ∃ b3 Z3 ow3 env3, Same Z1 Z3 ∧ SS g.r b3 X.K Z0 H0 Z3 H3 ow3 σ3 env3 ∧ SK g X.K W Z0 H0 Z3 b3 (forL t f (ds.drop (i + 1)) env3) E,
      fun σ3 H3 ⟨b3, Z3, ow3, env3, z3, S3, k3⟩ => ⟨ds.length - (i + 1), by omega, b3, Z3, ow3, env3, z3, S3, hlt, rfl, k3⟩, fun x H3 hx => ?_⟩
    obtain ⟨Z3, e3, hx3⟩ := hy x H3 hx
    have S3 := S2.ext' e3.lift (S2.se.urn.step e3)
    obtain ⟨env3, hb3, k4⟩ := R.of_post (R.post_bind k2)
    refine tgG_of (bind_ok S3 hx3 hb3 fun σ4 S4 => ?_)
    refine ⟨b2, Z3, ow2, env3, S4, ?_⟩
    refine R.post_mono (fun b5 fl q => ?_) (fun _ _ q => q) (R.post_bind (SK.mono e3.zz k4))
    have q' := q
    cases fl with
    | nx env5 => exact fun σ5 H5 Z5 ow5 z5 S5 => ⟨b5, Z5, ow5, env5, z12.trans (e3.zz.trans z5), S5, SK.mono z5 q⟩
    | ct env5 => exact fun σ5 H5 Z5 ow5 z5 S5 => ⟨b5, Z5, ow5, env5, z12.trans (e3.zz.trans z5), S5, SK.mono z5 q⟩
    | bk env5 => exact fun σ5 H5 Z5 ow5 z5 S5 => SK.nx S5 q z5
    | rt d env5 => exact q
    | xc x env5 => exact q
  · have e : i = ds.length := by omega
    subst e
    rw [List.drop_length] at k2
    exact .inl ⟨j1, SK.nx S2 k2⟩
end
end Ev
set_option Elab.async false
set_option linter.all false
set_option maxRecDepth 100000
set_option maxHeartbeats 4000000
/-! Ev7: while, changes of owned lists, comprehensions, calls, defs. -/
namespace Ev
open PySem PySem.Spec PyProof.Rows L2
open PySem.AutoSeq1 in
set_option maxRecDepth 8000 in
theorem extend_tup_any (l : Addr) (items : Array Value) (n : Nat) (b : Addr) (items2 : Array Value) (n2 : Nat) (dd : Option Addr) (sl : Array (Option Value)) (hs0 : ¬(!items.isEmpty && Builtin.List.listTooLong (items.size + items2.size)) = true) (hs1 : items.size ≤ sizeLine) (hs2 : items.size + items2.size ≤ sizeLine + 1) :
    Meets (Builtin.«list.extend» ⟨[.ref l, .ref b], []⟩) (fun _ R s => s.heap.get? l = some { cls := .type "list", dict := none, data := .seq items n, slots := #[] } ∧ s.heap.get? b = some { cls := .type "tuple", dict := dd, data := .seq items2 n2, slots := sl } ∧ R (.ok (.ret Value.none)) { s with heap := s.heap.update l (Obj.mapSeq fun x => x ++ items2), toks := s.toks }) :=
  .of_wp fun prog w A R s h => by
    obtain ⟨hp, g, d, tk, os⟩ := s; obtain ⟨hl, hb, h⟩ := h; have f1 := PySem.AutoSeq1.idx_int; have f2 := PySem.AutoSeq1.sub_tuple_tuple; have f3 := PySem.AutoSeq1.sub_list_list; have f4 := PySem.AutoSeq1.sub_tuple_list; have f5 := PySem.AutoSeq1.sub_list_tuple;
    have hz' : (items ++ items2).size ≤ sizeLine + 1 := by rw [Array.size_append]; exact hs2
    wp_walk using (wpAny_updateSeq hl rfl (hz := hs1) (_hz' := hz')), wpAny_loadPart' hl, wpAny_loadPart' hb; exact ⟨_, rfl, h⟩
def rExtT (K : PySem.W.Frag) : V → List V → Hp → VK → Prop := fun x vs H Q => ∃ l b xs zs, x = .ref l ∧ vs = [.ref b] ∧ H l = some (.lst xs) ∧ SqT K H b zs ∧ xs.length + zs.length ≤ sizeLine ∧ Q .non (upd H l (.lst (xs ++ zs)))
theorem mt_extendT {X : Cx} : MtM X "list.extend" (rExtT X.K) := by
  intro pins s σ H x vs v us Q I rx rv h
  obtain ⟨l, b, xs, zs, rfl, rfl, hH, hB, hz, q⟩ := h
  cases rx
  obtain ⟨u, rfl, ru⟩ := rv.one
  cases ru
  obtain ⟨z, its, n, r, hl, e⟩ := I.lstM hH
  obtain ⟨its2, r2, ⟨⟨oc, od, dt, osl⟩, e2, hc, n2, hd⟩, z2⟩ := I.tuple hB
  replace hc : oc = .type "tuple" := hc
  replace hd : dt = .seq its2.toArray n2 := hd
  subst hc hd
  have hl2 := r2.length
  have hsz : its.toArray.size + its2.toArray.size ≤ sizeLine := by rw [List.size_toArray, List.size_toArray]; omega
  have hlong : ¬ (!its.toArray.isEmpty && Builtin.List.listTooLong (its.toArray.size + its2.toArray.size)) = true := by
    rw [notLongL hsz, Bool.and_false]
    exact Bool.false_ne_true
  refine call_meets F.slot_list_extend ⟨_, e, rfl⟩ F.entry_list_extend (F.args_list_extend_2 _ _)
    (extend_tup_any l its.toArray n b its2.toArray n2 od osl hlong (by rw [List.size_toArray]; omega) (by omega)) ⟨e, e2, ?_⟩
  refine ⟨.non, _, I.lset (its' := its ++ its2) hH e (by simp) (r.append r2) ?_, rfl, q⟩
  rw [List.length_append]
  omega
section
variable {g : G} {W : WX} {X : Cx} {K : PySem.W.Frag} {Z0 H0 : Hp} {st : Stmt} {rest : List Stmt} {e : Expr} {pos : Pos} {σ : L2.St} {b : Nat} {Z H : Hp} {ow : Nat → Addr} {env : Env} {E : Ends}
/-! ### while -/
def whileL (t : Env → R Bool) (f : Env → R Flw) : Nat → Env → R Flw
  | 0, _ => .fail
  | n + 1, env => (t env).bindS env fun
    | true => (f env).bind fun
      | .nx env2 => whileL t f n env2
      | .ct env2 => whileL t f n env2
      | .bk env2 => .ok (.nx env2)
      | x => .ok x
    | false => .ok (.nx env)
theorem vs_while {c : Expr} {body : List Stmt} {t : Env → R Bool} {f : Env → R Flw} (n : Nat) (hp : PassesOwn (model X.prog X.w) X.A X.env X.xe) (hc : TEs g W X c t) (hb : VSs g W Z0 H0 X body f) : VS g W Z0 H0 X (.While c body [] pos) (whileL t f n) :=
  PS.of (ps_while hp hc hb) fun σ H E ⟨b, Z, ow, env, S, k⟩ => by
    refine ⟨fun m σ2 H2 => ∃ b2 Z2 ow2 env2, SS g.r b2 X.K Z0 H0 Z2 H2 ow2 σ2 env2 ∧ SK g X.K W Z0 H0 Z2 b2 (whileL t f m env2) E, ⟨n, b, Z, ow, env, S, k⟩, ?_⟩
    rintro m σ2 H2 ⟨b2, Z2, ow2, env2, S2, k2⟩
    cases m with
    | zero => exact k2.elim
    | succ m =>
      refine ⟨b2, Z2, ow2, env2, S2.se, SK.seq S2 k2 fun b3 c v H3 Z3 e3 S3 hc k3 => ?_⟩
      cases hc
      cases c with
      | false => rw [if_neg Bool.false_ne_true]; exact SK.nx S3 k3
      | true =>
        rw [if_pos rfl]
        refine ⟨fun σ4 H4 => ∃ b4 Z4 ow4 env4, SS g.r b4 X.K Z0 H0 Z4 H4 ow4 σ4 env4 ∧ SK g X.K W Z0 H0 Z4 b4 (whileL t f m env4) E, fun σ4 H4 h => ⟨m, Nat.lt_succ_self m, h⟩, b3, Z3, ow2, env2, S3, ?_⟩
        refine R.post_mono (fun b5 fl q => ?_) (fun _ _ q => q) (R.post_bind k3)
        cases fl with
        | nx env5 => exact fun σ5 H5 Z5 ow5 z5 S5 => ⟨b5, Z5, ow5, env5, S5, SK.mono z5 q⟩
        | ct env5 => exact fun σ5 H5 Z5 ow5 z5 S5 => ⟨b5, Z5, ow5, env5, S5, SK.mono z5 q⟩
        | bk env5 => exact fun σ5 H5 Z5 ow5 z5 S5 => SK.nx S5 q z5
        | rt d env5 => exact q
        | xc x env5 => exact q

/-! ### owned lists -/
def smaller (n : Nat) : Bool := Nat.blt n 16777216
theorem smaller_ok {n : Nat} (h : smaller n = true) : n < sizeLine := by
  rw [sizeLine_eq]
  unfold smaller at h
  rw [blt_eq, decide_eq_true_eq] at h
  exact h
/-- x.append(e) -/
def sApp (i : Nat) (f : Env → R D) : Env → R Flw := fun env => match sl env i with
  | .ow (.l ds) => match smaller ds.length with
    | true => (f env).bindS env fun d => .ok (.nx (setS env i (.ol (ds ++ [d]))))
    | false => .fail
  | _ => .fail
theorem vs_app {i : Nat} {x : Str} {p1 p2 p3 : Pos} {f : Env → R D} (hN : X.N[i]? = some x) (hv : Vis X.env.scope x) (h : VE g W X e f) (hs : starEach [e] X.env = (false, eval e X.env) :: starEach [] X.env := by rfl)
    (hd : (x == ("__debug__" : Str)) = false := by decide) (hcd : (x == ("__classdict__" : Str)) = false := by decide)
    (hfew : ((backTo p3 (starEach [e] X.env)).all (fun x => !x.1) && (backToKw p3 (keywordEach [] X.env)).all (fun x => x.1.isSome) && decide ([e].length + ([] : List Keyword).length + (if ([] : List Keyword).isEmpty then 0 else 1) < 30)) = true := by rfl)
    (hline : (p2.endLine == p3.line) = true := by rfl) : VS g W Z0 H0 X (.Expr (.Call (.Attribute (.Name x p1) "append" p2) [e] [] p3) pos) (sApp i f) :=
  PS.of (ps_expr (pe_bm PySem.F.plainAttrs_list PySem.F.slot_list_append PySem.F.type_list_append mt_append (pe_var hN hv hd hcd) (pa_cons h pa_nil hs) rfl hfew hline hs rfl) rfl) fun σ H E ⟨b, Z, ow, env, S, k⟩ => by
    unfold sApp at k
    have a := S.se.at_ i
    cases e : sl env i <;> rw [e] at k <;> first | exact k.elim | skip
    rename_i ob
    cases ob <;> first | exact k.elim | skip
    rename_i ds
    dsimp only at k
    cases hz : smaller ds.length <;> rw [hz] at k <;> first | exact k.elim | skip
    rw [e] at a
    obtain ⟨h1, zp, rp, _, h2, ws, rfl, h3⟩ := a
    refine ⟨_, h1, .inl ⟨rfl, ws, SqL.of h2⟩, b, Z, ow, env, S.se, SK.seq S k fun b1 d v H1 Z1 e1 S1 hd k1 => ?_⟩
    have h2' := e1.keep _ _ h2 zp rp
    refine ⟨_, ws, v, rfl, rfl, h2', by rw [h3.len]; exact smaller_ok hz, ?_⟩
    exact SK.nx (S1.mut e ((h3.mono e1.zz).app (.cons hd .nil))) k1
/-- x.extend(e), e a list or a tuple (by kind) -/
def sExt (i : Nat) (f : Env → R D) : Env → R Flw := fun env => match sl env i with
  | .ow (.l ds) => (f env).bindS env fun d => match seqOf d with
    | some es => match smallN (ds.length + es.length) with
      | true => .ok (.nx (setS env i (.ol (ds ++ es))))
      | false => .fail
    | none => .fail
  | _ => .fail
theorem vs_ext {i : Nat} {x : Str} {p1 p2 p3 : Pos} {f : Env → R D} (hN : X.N[i]? = some x) (hv : Vis X.env.scope x) (h : VE g W X e f) (hs : starEach [e] X.env = (false, eval e X.env) :: starEach [] X.env := by rfl)
    (hd : (x == ("__debug__" : Str)) = false := by decide) (hcd : (x == ("__classdict__" : Str)) = false := by decide)
    (hfew : ((backTo p3 (starEach [e] X.env)).all (fun x => !x.1) && (backToKw p3 (keywordEach [] X.env)).all (fun x => x.1.isSome) && decide ([e].length + ([] : List Keyword).length + (if ([] : List Keyword).isEmpty then 0 else 1) < 30)) = true := by rfl)
    (hline : (p2.endLine == p3.line) = true := by rfl) : VS g W Z0 H0 X (.Expr (.Call (.Attribute (.Name x p1) "extend" p2) [e] [] p3) pos) (sExt i f) :=
  PS.of (ps_expr (pe_bm PySem.F.plainAttrs_list PySem.F.slot_list_extend PySem.F.type_list_extend (MtR.or mt_extend mt_extendT) (pe_var hN hv hd hcd) (pa_cons h pa_nil hs) rfl hfew hline hs rfl) rfl) fun σ H E ⟨b, Z, ow, env, S, k⟩ => by
    unfold sExt at k
    have a := S.se.at_ i
    cases e : sl env i <;> rw [e] at k <;> first | exact k.elim | skip
    rename_i ob
    cases ob <;> first | exact k.elim | skip
    rename_i ds
    rw [e] at a
    obtain ⟨h1, zp, rp, _, h2, ws, rfl, h3⟩ := a
    refine ⟨_, h1, .inl ⟨rfl, ws, SqL.of h2⟩, b, Z, ow, env, S.se, SK.seq S k fun b1 d v H1 Z1 e1 S1 hd k1 => ?_⟩
    cases he : seqOf d with
    | none => rw [he] at k1; exact k1.elim
    | some es =>
      rw [he] at k1
      dsimp only at k1
      cases hz : smallN (ds.length + es.length) <;> rw [hz] at k1 <;> first | exact k1.elim | skip
      have h2' := e1.keep _ _ h2 zp rp
      cases d <;> first | cases he; done | skip
      · cases he
        obtain ⟨a, xs, rfl, q1, q2⟩ := Dq.lst_ hd
        refine .inl ⟨_, a, ws, xs, rfl, rfl, h2', S1.se.zh _ _ q1, by rw [h3.len, q2.len]; exact smallN_ok hz, ?_⟩
        exact SK.nx (S1.mut e ((h3.mono e1.zz).app q2)) k1
      · cases he
        obtain ⟨a, xs, rfl, q1, q2⟩ := Dq.tup_ hd
        refine .inr ⟨_, a, ws, xs, rfl, rfl, h2', seqT S1.se.zh q1, by rw [h3.len, q2.len]; exact smallN_ok hz, ?_⟩
        exact SK.nx (S1.mut e ((h3.mono e1.zz).app q2)) k1
/-- x[e1] = e2 -/
def ixOf (n : Nat) : D → Option Nat
  | .int i => ixN n i
  | _ => none
def sSet (i : Nat) (fi fv : Env → R D) : Env → R Flw := fun env => match sl env i with
  | .ow (.l ds) => (fv env).bindS env fun d => (fi env).bindS env fun k => (R.of (ixOf ds.length k)).bindS env fun j => .ok (.nx (setS env i (.ol (ds.set j d))))
  | _ => .fail
theorem vs_set {i : Nat} {x : Str} {p1 p2 : Pos} {ei ev : Expr} {fi fv : Env → R D} (hN : X.N[i]? = some x) (hv : Vis X.env.scope x) (h1 : VE g W X ei fi) (h2 : VE g W X ev fv)
    (hd : (x == ("__debug__" : Str)) = false := by decide) (hcd : (x == ("__classdict__" : Str)) = false := by decide)
    (ha : ∀ v, assign (.Subscript (.Name x p1) ei p2) X.env v = (do
      let ov ← holding [v] (eval (.Name x p1) X.env)
      let iv ← holding [v, ov] (eval ei X.env)
      standAt p2
      holding [v, ov, iv] (setItem ov iv v)
      release [v, ov, iv] []) := by intro _; rfl)
    (hs : swapsWithSole [.Subscript (.Name x p1) ei p2] ev pos.line X.env = pure false := by rfl) (hw : swappedStores [.Subscript (.Name x p1) ei p2] ev X.env = pure none := by rfl)
    (hA : (assignEach [.Subscript (.Name x p1) ei p2] X.env).map (·.2) = [assign (.Subscript (.Name x p1) ei p2) X.env] := by rfl) : VS g W Z0 H0 X (.Assign [.Subscript (.Name x p1) ei p2] ev pos) (sSet i fi fv) :=
  PS.of (ps_asg h2 (pg_sub (pe_var hN hv hd hcd) h1 set_list ha) hs hw hA) fun σ H E ⟨b, Z, ow, env, S, k⟩ => by
    unfold sSet at k
    have a := S.se.at_ i
    cases e : sl env i <;> rw [e] at k <;> first | exact k.elim | skip
    rename_i ob
    cases ob <;> first | exact k.elim | skip
    rename_i ds
    rw [e] at a
    obtain ⟨q1, zp, rp, _, q2, ws, rfl, q3⟩ := a
    refine ⟨b, Z, ow, env, S.se, SK.seq S k fun b1 d v H1 Z1 e1 S1 hd k1 => ?_⟩
    refine ⟨_, q1, b1, Z1, ow, env, S1.se, SK.seq S1 k1 fun b2 y w H2 Z2 e2 S2 hy k2 => ?_⟩
    obtain ⟨j, hj, k3⟩ := k2.of
    cases y <;> first | cases hj; done | skip
    rename_i n
    have h2' := (e1.trans' e2 S1.se.urn).keep _ _ q2 zp rp
    refine ⟨_, ws, n, j, rfl, Dq.int_ hy, h2', by rw [q3.len]; exact hj, ?_⟩
    exact SK.nx (S2.mut e (((q3.mono e1.zz).mono e2.zz).setI (hd.mono e2.zz) j)) k3
end

/-! ### calls of defs -/
/-- the urn as an argument -/
def urnD : D := .dict []
inductive AAll (r : Option Addr) (K : PySem.W.Frag) (Z : Hp) : List V → List D → Prop
  | nil : AAll r K Z [] []
  | val {v : V} {d : D} {vs : List V} {ds : List D} : Dq K Z v d → AAll r K Z vs ds → AAll r K Z (v :: vs) (d :: ds)
  | urn {a : Addr} {vs : List V} {ds : List D} : r = some a → AAll r K Z vs ds → AAll r K Z (.ref a :: vs) (urnD :: ds)
  | scr {a : Addr} {xs vs : List V} {es ds : List D} : SqL K Z a xs → DqAll K Z xs es → AAll r K Z vs ds → AAll r K Z (.ref a :: vs) (scD es :: ds)
theorem AAll.mono {r : Option Addr} {K : PySem.W.Frag} {Z Z' : Hp} (s : Same Z Z') : ∀ {vs : List V} {ds : List D}, AAll r K Z vs ds → AAll r K Z' vs ds
  | _, _, .nil => .nil
  | _, _, .val h t => .val (h.mono s) (t.mono s)
  | _, _, .urn h t => .urn h (t.mono s)
  | _, _, .scr h h2 t => .scr (SqL.same s h) (h2.mono s) (t.mono s)
theorem AAll.len {r : Option Addr} {K : PySem.W.Frag} {Z : Hp} : ∀ {vs : List V} {ds : List D}, AAll r K Z vs ds → vs.length = ds.length
  | _, _, .nil => rfl
  | _, _, .val _ t => congrArg (· + 1) t.len
  | _, _, .urn _ t => congrArg (· + 1) t.len
  | _, _, .scr _ _ t => congrArg (· + 1) t.len
abbrev RelAA (r : Option Addr) (K : PySem.W.Frag) : Hp → List D → List V → Hp → Hp → Prop := fun _ ds vs Z' _ => AAll r K Z' vs ds
abbrev CEs (g : G) (W : WX) (X : Cx) (es : List Expr) (f : Env → R (List D)) : Prop := PA X es (tG g X.K W (RelAA g.r X.K) f)
/-- what a def of n parameters does: u whether it draws -/
def spD (C : Str → Addr) (K : PySem.W.Frag) (u : Bool) (n : Nat) (d : List D → R D) : Sp := fun vs H Q E => vs.length = n ∧ ∃ (r : Option Addr) (b : Nat) (Z : Hp) (as : List D), u = r.isSome ∧ Same Z H ∧ UrnO r b Z H ∧ AAll r K Z vs as ∧
  (d as).post b (fun b' x => ∀ v H' Z', Ext r Z H Z' H' → UrnO r b' Z' H' → Dq K Z' v x → Q v H') (fun b' x => ∀ cls dd H' Z', Ext r Z H Z' H' → UrnO r b' Z' H' → XRel K Z' H' C x cls dd → E cls dd H')
section
variable {g : G} {W : WX} {X : Cx} {pos : Pos} {e : Expr} {es : List Expr}
def aUrn (i : Nat) (h : Env → R (List D)) : Env → R (List D) := fun env => match sl env i with
  | .ur => (h env).bind fun xs => .ok (urnD :: xs)
  | _ => .fail
theorem ce_nil : CEs g W X [] aNil := PA.of pa_nil fun σ H Q ⟨b, Z, ow, env, S, k⟩ => KG.ok (Rel := RelAA g.r X.K H) S k .nil
theorem ce_cons {f : Env → R D} {h : Env → R (List D)} (ha : VE g W X e f) (hr : CEs g W X es h) (hs : starEach (e :: es) X.env = (false, eval e X.env) :: starEach es X.env := by rfl) : CEs g W X (e :: es) (aCons f h) :=
  PA.of (pa_cons ha hr hs) fun σ H Q ⟨b, Z, ow, env, S, k⟩ => ⟨b, Z, ow, env, S, KG.seq S k fun b1 x vx H1 Z1 e1 S1 hx k1 => ⟨b1, Z1, ow, env, S1, KG.seq S1 k1 fun b2 y vy H2 Z2 e2 S2 hy k2 =>
    KG.ok (Rel := RelAA g.r X.K H2) S2 k2 (.val (hx.mono e2.zz) hy)⟩⟩
theorem ce_urn {i : Nat} {x : Str} {p : Pos} {h : Env → R (List D)} (hN : X.N[i]? = some x) (hv : Vis X.env.scope x) (hr : CEs g W X es h) (hd : (x == ("__debug__" : Str)) = false := by decide) (hcd : (x == ("__classdict__" : Str)) = false := by decide)
    (hs : starEach (.Name x p :: es) X.env = (false, eval (.Name x p) X.env) :: starEach es X.env := by rfl) : CEs g W X (.Name x p :: es) (aUrn i h) :=
  PA.of (pa_cons (pe_var hN hv hd hcd) hr hs) fun σ H Q ⟨b, Z, ow, env, S, k⟩ => by
    unfold aUrn at k
    have a := S.at_ i
    cases e : sl env i <;> rw [e] at k <;> first | exact k.elim | skip
    rw [e] at a
    obtain ⟨r, h1, h2⟩ := a
    exact ⟨_, h2, b, Z, ow, env, S, KG.seq S k fun b2 y vy H2 Z2 e2 S2 hy k2 => KG.ok (Rel := RelAA g.r X.K H2) S2 k2 (.urn h1 hy)⟩
theorem R.post_le {α : Type} {Q : Nat → α → Prop} {W : Nat → Exn → Prop} : ∀ {m : R α} {b : Nat}, m.post b Q W → m.post b (fun b' a => b' ≤ b ∧ Q b' a) (fun b' x => b' ≤ b ∧ W b' x)
  | .fail, _, h => h
  | .ok _, _, h => ⟨Nat.le_refl _, h⟩
  | .exc _, _, h => ⟨Nat.le_refl _, h⟩
  | .draw n k, b, ⟨hn, b', e, h⟩ => ⟨hn, b', e, fun i hi => R.post_mono (fun _ _ q => ⟨by omega, q.2⟩) (fun _ _ q => ⟨by omega, q.2⟩) (R.post_le (h i hi))⟩
theorem UrnO.le {r : Option Addr} {b b' : Nat} {Z H : Hp} (u : UrnO r b Z H) (h : b' ≤ b) : UrnO r b' Z H := by
  cases r with
  | none => trivial
  | some a =>
    obtain ⟨z, x, y, c, h1, h2, h3, h4, h5, h6⟩ := u
    exact ⟨z, x, y, c, h1, h2, h3, h4, h5, by omega⟩
/-- the arguments of a def that does not draw -/
theorem AAll.pure {r : Option Addr} {K : PySem.W.Frag} {Z : Hp} : ∀ {vs : List V} {ds : List D}, AAll r K Z vs ds → (∀ d ∈ ds, ∀ l, d ≠ .dict l) → AAll none K Z vs ds
  | _, _, .nil, _ => .nil
  | _, _, .val h t, q => .val h (t.pure fun d hd => q d (List.mem_cons_of_mem _ hd))
  | _, _, .urn h t, q => absurd rfl (q urnD List.mem_cons_self [])
  | _, _, .scr _ _ t, q => absurd rfl (q (scD _) List.mem_cons_self _)
def eCall (d : List D → R D) (h : Env → R (List D)) : Env → R D := fun env => (h env).bind d
/-- a def that stands behind the name x, of n arguments, and what it does -/
structure Fd (P : Program) (w : World) (K : PySem.W.Frag) (mg : Str → Option Value) (base : Heap) (C : Str → Addr) (x : Str) (u : Bool) (n k : Nat) (d : List D → R D) : Prop where
  ex : ∃ (f : Addr) (fd : FuncData) (ps : List Str), FnOk P w K mg base (L2.CX P w) k f fd ps (spD C K u n d) ∧ mg x = some (.ref f) ∧ PySem.W.keepIn K (.ref f) = true ∧ Binds K fd ps []
  len : ∀ (as : List D) (b : Nat) (Q : Nat → D → Prop) (W : Nat → Exn → Prop), (d as).post b Q W → as.length = n
theorem Fd.up {P : Program} {w : World} {K : PySem.W.Frag} {mg : Str → Option Value} {base : Heap} {C : Str → Addr} {x : Str} {u : Bool} {n j k : Nat} {d : List D → R D} (F : Fd P w K mg base C x u n j d) (h : j ≤ k) : Fd P w K mg base C x u n k d :=
  let ⟨f, fd, ps, h1, h2⟩ := F.ex
  ⟨⟨f, fd, ps, h1.mono h, h2⟩, F.len⟩
theorem AAll.of {r : Option Addr} {K : PySem.W.Frag} {Z : Hp} : ∀ {vs : List V} {ds : List D}, DqAll K Z vs ds → AAll r K Z vs ds
  | _, _, .nil => .nil
  | _, _, .cons h t => .val h (AAll.of t)
/-- a def that does not draw is called -/
theorem ve_call {x : Str} {p : Pos} {n j k : Nat} {d : List D → R D} {h : Env → R (List D)} (F : Fd X.prog X.w X.K X.mg X.base g.C x false n j d) (hr : Room k X.A) (tk : Takes X W) (hg : Gl X x) (ha : AEs g W X (e :: es) h) (hj : j ≤ k := by decide)
    (hdb : (x == ("__debug__" : Str)) = false := by decide) (he : starEach (e :: es) X.env = (false, eval e X.env) :: starEach es X.env := by rfl) (hpl : (backTo pos (starEach es X.env)).any (·.1) = false := by rfl) :
    VE g W X (.Call (.Name x p) (e :: es) [] pos) (eCall d h) := by
  obtain ⟨f, fd, ps, F1, hm, hk, hb⟩ := F.ex
  refine PE.of (pe_callS (E := WE W) (F1.mono hj) hr hg hm hk hb (fun σ => passAt tk σ) ha hdb he hpl) fun σ H Q ⟨b, Z, ow, env, S, k⟩ => ⟨b, Z, ow, env, S, KG.seq S k fun b1 ds vs H1 Z1 e1 S1 hd k1 => ?_⟩
  refine ⟨by rw [hd.len]; exact F.len _ _ _ _ k1, none, b1, Z1, ds, rfl, S1.zh, trivial, AAll.of hd, ?_⟩
  refine R.post_mono (fun b2 x ⟨hl, q⟩ v H2 Z2 e2 _ r2 => q v H2 Z2 e2.lift ((S1.urn.step e2).le hl) r2) (fun b2 x ⟨hl, q⟩ cls dd H2 Z2 e2 _ r2 => q cls dd H2 Z2 e2.lift ((S1.urn.step e2).le hl) r2) (R.post_le k1)
/-- a def that draws is called -/
theorem ve_callU {x : Str} {p : Pos} {n j k : Nat} {d : List D → R D} {h : Env → R (List D)} (F : Fd X.prog X.w X.K X.mg X.base g.C x true n j d) (hr : Room k X.A) (tk : Takes X W) (hg : Gl X x) (ha : CEs g W X (e :: es) h) (hu : g.r.isSome = true) (hj : j ≤ k := by decide)
    (hdb : (x == ("__debug__" : Str)) = false := by decide) (he : starEach (e :: es) X.env = (false, eval e X.env) :: starEach es X.env := by rfl) (hpl : (backTo pos (starEach es X.env)).any (·.1) = false := by rfl) :
    VE g W X (.Call (.Name x p) (e :: es) [] pos) (eCall d h) := by
  obtain ⟨f, fd, ps, F1, hm, hk, hb⟩ := F.ex
  refine PE.of (pe_callS (E := WE W) (F1.mono hj) hr hg hm hk hb (fun σ => passAt tk σ) ha hdb he hpl) fun σ H Q ⟨b, Z, ow, env, S, k⟩ => ⟨b, Z, ow, env, S, KG.seq S k fun b1 ds vs H1 Z1 e1 S1 hd k1 => ?_⟩
  exact ⟨by rw [hd.len]; exact F.len _ _ _ _ k1, g.r, b1, Z1, ds, hu.symm, S1.zh, S1.urn, hd, k1⟩

/-! ### a def by its body -/
def slOf : D → Sl
  | .dict [] => .ur
  | d => .va d
def reps (n : Nat) : Env := List.replicate n .un
/-- n parameters, m further names -/
def fnD (n m : Nat) (f : Env → R Flw) (as : List D) : R D := match Nat.beq as.length n with
  | true => (f (as.map slOf ++ reps m)).nox.bind fun
    | .rt d _ => .ok d
    | .nx _ => .ok .none
    | .xc x _ => .exc x
    | _ => .fail
  | false => .fail
theorem fnD_len {n m : Nat} {f : Env → R Flw} {as : List D} {b : Nat} {Q : Nat → D → Prop} {W : Nat → Exn → Prop} (h : (fnD n m f as).post b Q W) : as.length = n := by
  unfold fnD at h
  split at h
  · rename_i e
    exact Nat.eq_of_beq_eq_true e
  · exact h.elim
/-- what is wanted of an exception by a def -/
abbrev WOf (E : XK) : WX := fun cls dd _ H => E cls dd H
theorem startAt {N : List Str} {vs : List V} (i : Nat) : (L2.start N vs)[i]? = if i < vs.length then (vs[i]?).map some else if i < N.length then some none else none := by
  unfold L2.start
  by_cases h : i < vs.length
  · rw [if_pos h, List.getElem?_append_left (by simpa using h), List.getElem?_map]
  · rw [if_neg h, List.getElem?_append_right (by simpa using h), List.getElem?_replicate, List.length_map]
    by_cases h2 : i < N.length
    · rw [if_pos h2, if_pos (by omega)]
    · rw [if_neg h2, if_neg (by omega)]
theorem AAll.get {r : Option Addr} {K : PySem.W.Frag} {Z : Hp} : ∀ {vs : List V} {ds : List D} {i : Nat} {d : D}, AAll r K Z vs ds → ds[i]? = some d → ∃ v, vs[i]? = some v ∧ (VaOk K Z v d ∨ d = urnD ∧ ∃ a, r = some a ∧ v = .ref a)
  | _, _, _, _, .nil, h => by simp at h
  | _, _, 0, _, .val h _, e => by simp at e; subst e; exact ⟨_, rfl, .inl (.inl h)⟩
  | _, _, 0, _, .scr h h2 _, e => by simp at e; subst e; exact ⟨_, rfl, .inl (.inr ⟨_, _, _, rfl, rfl, h, h2⟩)⟩
  | _, _, 0, _, .urn h _, e => by simp at e; subst e; exact ⟨_, rfl, .inr ⟨rfl, _, h, rfl⟩⟩
  | _, _, i + 1, _, .val _ h, e => by
    obtain ⟨v, h1, h2⟩ := AAll.get (i := i) h (by simpa using e)
    exact ⟨v, by simpa using h1, h2⟩
  | _, _, i + 1, _, .urn _ h, e => by
    obtain ⟨v, h1, h2⟩ := AAll.get (i := i) h (by simpa using e)
    exact ⟨v, by simpa using h1, h2⟩
  | _, _, i + 1, _, .scr _ _ h, e => by
    obtain ⟨v, h1, h2⟩ := AAll.get (i := i) h (by simpa using e)
    exact ⟨v, by simpa using h1, h2⟩
theorem sl_start : ∀ (as : List D) (m i : Nat), sl (as.map slOf ++ reps m) i = match as[i]? with
    | some d => slOf d
    | none => .un
  | [], m, i => by
    show sl (reps m) i = .un
    unfold reps
    induction m generalizing i with
    | zero => rfl
    | succ m ih => cases i with
      | zero => rfl
      | succ i => exact ih i
  | d :: as, m, 0 => rfl
  | d :: as, m, i + 1 => by
    show sl (as.map slOf ++ reps m) i = _
    rw [sl_start as m i]
    simp
theorem slOf_ow (d : D) (o : Ob) : slOf d ≠ .ow o := by
  unfold slOf
  split <;> exact fun e => by cases e
theorem slOf_va {K : PySem.W.Frag} {Z : Hp} {v : V} {d : D} (h : VaOk K Z v d) : slOf d = .va d := by
  rcases h with h | ⟨ds, a, xs, h1, _⟩
  · cases h <;> rfl
  · subst h1; rfl
theorem ss_start {r : Option Addr} {b : Nat} {K : PySem.W.Frag} {Z H : Hp} {vs : List V} {as : List D} {N : List Str} {m : Nat} (z : Same Z H) (u : UrnO r b Z H) (ha : AAll r K Z vs as) (hl : as.length + m = N.length) : SS r b K Z H Z H (fun _ => 0) (L2.start N vs) (as.map slOf ++ reps m) := by
  have no : ∀ i ds, sl (as.map slOf ++ reps m) i ≠ .ow ds := fun i ds e => by
    rw [sl_start] at e
    split at e
    · exact slOf_ow _ _ e
    · cases e
  refine ⟨⟨z, u, fun i => ?_, ?_⟩, z, Ext.refl z, fun i ds e => absurd e (no i ds), fun i j ds es e => absurd e (no i ds)⟩
  · rw [sl_start]
    split
    · rename_i d e
      obtain ⟨v, h1, h2⟩ := ha.get e
      have hi : i < vs.length := (List.getElem?_eq_some_iff.mp h1).1
      have hs : (L2.start N vs)[i]? = some (some v) := by rw [startAt, if_pos hi, h1]; rfl
      rcases h2 with h2 | ⟨rfl, a, ea, ev⟩
      · rw [slOf_va h2]
        exact ⟨v, hs, h2⟩
      · exact ⟨a, ea, by rw [← ev]; exact hs⟩
    · trivial
  · unfold L2.start reps
    have := ha.len
    simp only [List.length_append, List.length_map, List.length_replicate]
    omega
/-- a def of the text, by its body's closure -/
theorem fd_of {P : Program} {w : World} {K : PySem.W.Frag} {mg : Str → Option Value} {base : Heap} {C : Str → Addr} {x : Str} {u : Bool} {n m k : Nat} {fB : Env → R Flw} {params : Arguments} {body : List Stmt} {scope : Scope} {f : Addr} {fd : FuncData} {N ps : List Str}
    (F : FunD K x x params body scope [] [] f fd) (gm : mg x = some (.ref f)) (S : FnScope N ps scope) (hb : Binds K fd ps []) (hn : ps.length = n) (hN : N.length = n + m)
    (hB : ∀ (r : Option Addr) (cdv : Value) (A : Around) (outer : List PySem.Env) (s : Shared) (Z H : Hp) (E : XK), u = r.isSome → Room k (A.deeper (envOfC x scope s.heap.objs.size f cdv)) →
      VSs ⟨r, C⟩ (WOf E) Z H (cxOf (L2.CX P w) P w K mg base N x scope f cdv A outer s H E) body fB) : Fd P w K mg base C x u n (k + 1) (fnD n m fB) := by
  refine ⟨⟨f, fd, ps, F.ok S (fun vs H Q E h => by rw [hn]; exact h.1) fun cdv A outer s H vs Q E hr ⟨hl, r, b, Z, as, hu, z, ur, ha, hp⟩ => ?_, gm, F.kp, hb⟩, fun as b Q W h => fnD_len h⟩
  refine ⟨_, hB r cdv A outer s Z H E hu hr, b, Z, fun _ => 0, as.map slOf ++ reps m, ss_start z ur ha ?_, ?_⟩
  · have := fnD_len hp
    omega
  · have hle := fnD_len hp
    unfold fnD at hp
    rw [hle, show Nat.beq n n = true from Nat.beq_refl n] at hp
    refine R.post_nox (R.post_mono (fun b1 fl q => ?_) (fun _ _ q => q) (R.post_bind hp))
    cases fl with
    | rt d env1 => exact fun v σ1 H1 Z1 ow1 _ S1 hd => q v H1 Z1 S1.ext S1.se.urn hd
    | nx env1 => exact fun σ1 H1 Z1 ow1 _ S1 => q .non H1 Z1 S1.ext S1.se.urn .non
    | xc x env1 => exact fun cls dd σ1 H1 Z1 ow1 _ S1 xr => q cls dd H1 Z1 S1.ext S1.se.urn xr
    | bk _ => exact q.elim
    | ct _ => exact q.elim
end
end Ev
set_option Elab.async false
set_option linter.all false
set_option maxRecDepth 100000
set_option maxHeartbeats 4000000
/-! Ev8: comprehensions. -/
namespace Ev
open PySem PySem.Spec PyProof.Rows L2
/-! ### slots of a comprehension's own -/
theorem wipe_at (σ : L2.St) (i : Nat) : ∀ vs : List Nat, (wipe σ vs)[i]? = if i ∈ vs ∧ i < σ.length then some none else σ[i]?
  | [] => by simp [wipe]
  | v :: vs => by
    unfold wipe
    rw [getS, wipe_length, wipe_at σ i vs]
    by_cases h : i = v
    · subst h
      by_cases hl : i < σ.length
      · rw [if_pos ⟨rfl, hl⟩, if_pos ⟨List.mem_cons_self, hl⟩]
      · rw [if_neg (fun q => hl q.2), if_neg (fun q => hl q.2), if_neg (fun q => hl q.2)]
    · rw [if_neg (fun q => h q.1)]
      by_cases hm : i ∈ vs ∧ i < σ.length
      · rw [if_pos hm, if_pos ⟨List.mem_cons_of_mem _ hm.1, hm.2⟩]
      · rw [if_neg hm, if_neg (fun q => hm ⟨(List.mem_cons.mp q.1).resolve_left h, q.2⟩)]
theorem wipe_eq {σ τ : L2.St} {vs : List Nat} (hl : σ.length = τ.length) (h : ∀ i, i ∉ vs → σ[i]? = τ[i]?) : wipe σ vs = wipe τ vs := by
  apply List.ext_getElem?
  intro i
  rw [wipe_at, wipe_at, hl]
  by_cases hm : i ∈ vs ∧ i < τ.length
  · rw [if_pos hm, if_pos hm]
  · rw [if_neg hm, if_neg hm]
    by_cases hi : i ∈ vs
    · have : ¬ i < τ.length := fun z => hm ⟨hi, z⟩
      rw [List.getElem?_eq_none (by omega), List.getElem?_eq_none (by omega)]
    · exact h i hi
theorem sl_fgtL : ∀ (vs : List Nat) (env : Env) (i : Nat), sl (fgtL vs env) i = if i ∈ vs then .un else sl env i
  | [], _, _ => by simp [fgtL]
  | v :: vs, env, i => by
    unfold fgtL
    rw [sl_fgtL vs, slS]
    by_cases hv : i ∈ vs
    · rw [if_pos hv, if_pos (List.mem_cons_of_mem _ hv)]
    · rw [if_neg hv]
      by_cases h : i = v
      · subst h
        rw [if_pos List.mem_cons_self]
        split
        · rfl
        · rename_i hl
          exact sl_un_of_le _ _ (by
            have : ¬ i < env.length := fun z => hl ⟨rfl, z⟩
            omega)
      · rw [if_neg (fun q => h q.1), if_neg (fun q => (List.mem_cons.mp q).elim h hv)]
theorem fgtL_length : ∀ (vs : List Nat) (env : Env), (fgtL vs env).length = env.length
  | [], _ => rfl
  | v :: vs, env => by unfold fgtL; rw [fgtL_length vs, setS_length]
def Tg.ixs : Tg → List Nat
  | .one i => [i]
  | .tup is => is
def subL (a b : List Nat) : Bool := a.all fun i => b.any fun j => Nat.beq i j
theorem subL_ok {a b : List Nat} (h : subL a b = true) : ∀ i ∈ a, i ∈ b := fun i hi => by
  have := List.all_eq_true.mp h i hi
  obtain ⟨j, hj, e⟩ := List.any_eq_true.mp this
  rw [Nat.eq_of_beq_eq_true e]
  exact hj
theorem foldSet : ∀ (ps : List (V × Nat)) (σ : L2.St), (ps.foldl (fun σ p => σ.set p.2 (some p.1)) σ).length = σ.length ∧ ∀ i, i ∉ ps.map (·.2) → (ps.foldl (fun σ p => σ.set p.2 (some p.1)) σ)[i]? = σ[i]?
  | [], σ => ⟨rfl, fun _ _ => rfl⟩
  | p :: ps, σ => by
    obtain ⟨h1, h2⟩ := foldSet ps (σ.set p.2 (some p.1))
    refine ⟨by rw [List.foldl_cons, h1, List.length_set], fun i hi => ?_⟩
    rw [List.map_cons, List.mem_cons, not_or] at hi
    rw [List.foldl_cons, h2 i hi.2, getS, if_neg (fun q : i = p.2 ∧ p.2 < σ.length => hi.1 q.1)]
theorem TgK.imp {K : PySem.W.Frag} {v : V} {σ : L2.St} {H : Hp} {Q Q' : L2.St → Hp → Prop} {t : Tg} {vs : List Nat} (hs : ∀ i ∈ t.ixs, i ∈ vs) (h : TgK K v σ H Q t) (k : ∀ σ', wipe σ' vs = wipe σ vs → Q σ' H → Q' σ' H) : TgK K v σ H Q' t := by
  cases t with
  | one i =>
    refine k _ (wipe_eq (by rw [List.length_set]) fun j hj => ?_) h
    have hji : ¬ (j = i ∧ i < σ.length) := fun q => hj (by rw [q.1]; exact hs i (by simp [Tg.ixs]))
    rw [getS, if_neg hji]
  | tup is =>
    obtain ⟨a, xs, e, h1, h2, q⟩ := h
    obtain ⟨f1, f2⟩ := foldSet (xs.zip is) σ
    refine ⟨a, xs, e, h1, h2, k _ (wipe_eq f1 fun j hj => f2 j fun hm => hj ?_) q⟩
    obtain ⟨p, hp, rfl⟩ := List.mem_map.mp hm
    exact hs _ (List.of_mem_zip hp).2

section
variable {g : G} {W : WX} {X : Cx} {K : PySem.W.Frag} {Z0 H0 : Hp} {e : Expr} {pos : Pos} {σ : L2.St} {b : Nat} {Z H : Hp} {ow : Nat → Addr} {env : Env} {E : Ends}
theorem SE.wipe {r : Option Addr} (S : SE r b K Z H ow σ env) (vs : List Nat) : SE r b K Z H ow (L2.wipe σ vs) (fgtL vs env) := by
  refine ⟨S.zh, S.urn, fun i => ?_, by rw [fgtL_length, wipe_length]; exact S.len⟩
  rw [sl_fgtL]
  by_cases h : i ∈ vs
  · rw [if_pos h]; trivial
  · rw [if_neg h]
    have e : (L2.wipe σ vs)[i]? = σ[i]? := by rw [wipe_at, if_neg (fun q => h q.1)]
    have a := S.at_ i
    generalize sl env i = s at a ⊢
    cases s with
    | un => trivial
    | va d => obtain ⟨v, h1, h2⟩ := a; exact ⟨v, by rw [e]; exact h1, h2⟩
    | ow ds => obtain ⟨h1, h2⟩ := a; exact ⟨by rw [e]; exact h1, h2⟩
    | ur => obtain ⟨x, h1, h2⟩ := a; exact ⟨x, h1, by rw [e]; exact h2⟩
/-- SE alone, with what binding needs of it -/
theorem SE.ss {r : Option Addr} (S : SE r b K Z H ow σ env) (no : ∀ i ds, sl env i ≠ .ow ds) : SS r b K Z H Z H ow σ env := ⟨S, S.zh, Ext.refl S.zh, fun i ds e => absurd e (no i ds), fun i _ ds _ e => absurd e (no i ds)⟩
theorem SE.setVa {r : Option Addr} (S : SE r b K Z H ow σ env) (i : Nat) {v : V} {d : D} (h : Dq K Z v d) : SE r b K Z H ow (σ.set i (some v)) (setS env i (.va d)) := by
  refine ⟨S.zh, S.urn, fun j => ?_, by rw [setS_length, List.length_set]; exact S.len⟩
  rw [slS]
  split
  · rename_i hj
    exact ⟨v, by rw [getS, if_pos (by rw [← S.len]; exact hj)], .inl h⟩
  · rename_i hj
    exact (S.at_ j).other (by rw [← S.len]; exact hj)
theorem SE.setL {r : Option Addr} : ∀ {is : List Nat} {vs : List V} {ds : List D} {σ : L2.St} {env env' : Env}, SE r b K Z H ow σ env → DqAll K Z vs ds → bindL is ds env = some env' → vs.length = is.length ∧ SE r b K Z H ow ((vs.zip is).foldl (fun σ p => σ.set p.2 (some p.1)) σ) env'
  | [], [], [], _, _, _, S, _, e => by cases e; exact ⟨rfl, S⟩
  | i :: is, v :: vs, d :: ds, _, _, _, S, .cons h1 h2, e => by
    obtain ⟨l, q⟩ := SE.setL (is := is) (S.setVa i h1) h2 e
    exact ⟨congrArg (· + 1) l, q⟩
  | [], _, _ :: _, _, _, _, _, _, e => by cases e
  | _ :: _, _, [], _, _, _, _, _, e => by cases e
theorem bind_okE {t : Tg} {r : Option Addr} {d : D} {v : V} {env' : Env} (S : SE r b K Z H ow σ env) (hd : Dq K Z v d) (e : bindT t d env = some env') {Q : L2.St → Hp → Prop} (k : ∀ σ', SE r b K Z H ow σ' env' → Q σ' H) : TgK K v σ H Q t := by
  cases t with
  | one i => cases e; exact k _ (S.setVa i hd)
  | tup is =>
    cases d <;> first | cases e; done | skip
    rename_i ds
    obtain ⟨a, xs, rfl, h1, h2⟩ := Dq.tup_ hd
    obtain ⟨hl, S'⟩ := SE.setL (is := is) S h2 e
    exact ⟨a, xs, rfl, seqT S.zh h1, hl, k _ S'⟩

/-! ### [f for t in it if c] -/
def lcL (t : Tg) (c : Env → R Bool) (f : Env → R D) (env : Env) : List D → R (List D)
  | [] => .ok []
  | d :: ds => (R.of (bindT t d env)).bind fun env1 => (c env1).nox.bind fun
    | true => (f env1).nox.bind fun y => (lcL t c f env ds).bind fun ys => .ok (y :: ys)
    | false => lcL t c f env ds
def nLc (vs : List Nat) (t : Tg) (it : Env → R (List D)) (c : Env → R Bool) (f : Env → R D) : Env → R (List D) := fun env => (it env).bind fun ds => match smallN ds.length && subL t.ixs vs with
  | true => lcL t c f (fgtL vs env) ds
  | false => .fail
abbrev W0 : WX := fun _ _ _ _ => False
theorem R.bind_assoc {α β γ : Type} {f : α → R β} {h : β → R γ} : ∀ {m : R α}, (m.bind f).bind h = m.bind fun a => (f a).bind h
  | .fail => rfl
  | .ok _ => rfl
  | .exc _ => rfl
  | .draw n k => by
    show R.draw n _ = R.draw n _
    congr 1
    funext i
    exact R.bind_assoc
theorem R.bind_ok {α : Type} : ∀ {m : R α}, (m.bind fun a => .ok a) = m
  | .fail => rfl
  | .ok _ => rfl
  | .exc _ => rfl
  | .draw n k => by
    show R.draw n _ = R.draw n _
    congr 1
    funext i
    exact R.bind_ok
theorem KG.exc {α V' : Type} {Rel : α → V' → Hp → Hp → Prop} {m : R α} {Q : V' → Hp → Prop} {W' : WX} (h : KG g K W0 σ b Z H Rel m Q) : KG g K W' σ b Z H Rel m Q := R.post_mono (fun _ _ q => q) (fun _ _ q cls dd H' Z' e u x => (q cls dd H' Z' e u x).elim) h
theorem KG.nox_of {α β V' : Type} {Rel : β → V' → Hp → Hp → Prop} {m : R α} {f : α → R β} {Q : V' → Hp → Prop} {A : Nat → α → Prop} (h : KG g K W σ b Z H Rel (m.nox.bind f) Q)
    (k : ∀ b1 a, KG g K W σ b1 Z H Rel (f a) Q → A b1 a) {B : Nat → Exn → Prop} : m.post b A B := R.post_nox (R.post_mono (fun b1 a q => k b1 a q) (fun _ _ q => q) (R.post_bind h))
/-- the shift of what is wanted to a later heap -/
theorem KG.shift {α V' : Type} {Rel : α → V' → Hp → Hp → Prop} {m : R α} {Q : V' → Hp → Prop} {b1 : Nat} {Z1 H1 : Hp} (e : Ext g.r Z H Z1 H1) (u : UrnO g.r b1 Z1 H1) (h : KG g K W σ b1 Z H Rel m Q) : KG g K W σ b1 Z1 H1 Rel m Q :=
  R.post_mono (fun b2 c q2 w H2 Z2 e2 u2 rel2 => q2 w H2 Z2 (e.trans' e2 u) u2 rel2) (fun b2 x q2 cls dd H2 Z2 e2 u2 xr => q2 cls dd H2 Z2 (e.trans' e2 u) u2 xr) h
theorem lc_of {vs : List Nat} {t : Tg} {it : Env → R (List D)} {c : Env → R Bool} {f : Env → R D} {Q : VK} (q : tG g K W (RelN g.r K) (nLc vs t it c f) σ H Q) :
    tLc (tG g K W (RelI K) it) (tgG K t) (tG g K W0 RelT c) (tG g K W0 (RelD K) f) vs σ H Q := by
  obtain ⟨b, Z, ow, env, S, k⟩ := q
  refine ⟨b, Z, ow, env, S, KG.seq S k fun b1 ds J H1 Z1 e1 S1 hJ k1 => fun P hP => ?_⟩
  cases hz : smallN ds.length && subL t.ixs vs <;> rw [hz] at k1 <;> first | exact k1.elim | skip
  rw [Bool.and_eq_true] at hz
  have hsz := smallN_ok hz.1
  have hsub := subL_ok hz.2
  have hPH : H P = none := by
    cases q : H P with
    | none => rfl
    | some o =>
      by_cases n : g.r = some P
      · exact absurd n (S1.urn.ne hP)
      · rw [e1.there S.zh q n] at hP; cases hP
  have rP : g.r ≠ some P := S1.urn.ne hP
  have zP1 : Z1 P = none := S1.zh.free hP
  -- the walk: done so far, the rest
  refine ⟨fun i m H2 => ∃ b2 Z2 done ys, Ext g.r Z1 H1 Z2 H2 ∧ UrnO g.r b2 Z2 H2 ∧ Z2 P = none ∧ H2 P = some (.lst ys) ∧ DqAll K Z2 ys done ∧ done.length ≤ i ∧ i ≤ ds.length ∧ m = ds.length - i ∧
    KG g K W σ b2 Z1 H1 (RelN g.r K H) ((lcL t c f (fgtL vs env) (ds.drop i)).bind fun rest => .ok (done ++ rest)) Q,
    ⟨ds.length, b1, Z1, [], [], Ext.newU S1.zh hP, S1.urn.newU hP, zP1, upd_same, .nil, Nat.zero_le _, Nat.zero_le _, rfl, ?_⟩, ?_⟩
  · rw [List.drop_zero]
    have : ((lcL t c f (fgtL vs env) ds).bind fun rest => R.ok ([] ++ rest)) = lcL t c f (fgtL vs env) ds := R.bind_ok
    rw [this]
    exact k1
  rintro i m H2 ⟨b2, Z2, done, ys, e2, u2, zP2, hP2, hd2, hi1, hi2, rfl, k2⟩
  obtain ⟨j1, j2⟩ := hJ Z2 H2 e2.zz e2.zh
  by_cases hlt : i < ds.length
  · obtain ⟨d, hd⟩ : ∃ d, ds[i]? = some d := ⟨ds[i], by simp [hlt]⟩
    obtain ⟨hgo, hy⟩ := j2 i d hd
    have hdrop : ds.drop i = d :: ds.drop (i + 1) := by
      rw [List.drop_eq_getElem_cons hlt]
      rw [List.getElem?_eq_getElem hlt] at hd
      rw [Option.some.inj hd]
    rw [hdrop] at k2
    refine .inr ⟨hgo, fun H3 => ∃ b3 Z3 done ys, Ext g.r Z1 H1 Z3 H3 ∧ UrnO g.r b3 Z3 H3 ∧ Z3 P = none ∧ H3 P = some (.lst ys) ∧ DqAll K Z3 ys done ∧ done.length ≤ i + 1 ∧
      KG g K W σ b3 Z1 H1 (RelN g.r K H) ((lcL t c f (fgtL vs env) (ds.drop (i + 1))).bind fun rest => .ok (done ++ rest)) Q,
      fun H3 ⟨b3, Z3, done3, ys3, x1, x2, x3, x4, x5, x6, x7⟩ => ⟨ds.length - (i + 1), by omega, b3, Z3, done3, ys3, x1, x2, x3, x4, x5, x6, hlt, rfl, x7⟩, fun x H3 hx => ?_⟩
    obtain ⟨Z3, e3, hx3⟩ := hy x H3 hx
    have u3 := u2.step e3
    have e13 : Ext g.r Z1 H1 Z3 H3 := e2.trans' e3.lift u2
    have zP3 : Z3 P = none := e3.out _ _ hP2 zP2
    have hP3 : H3 P = some (.lst ys) := e3.keep _ _ hP2 zP2 (by simp)
    have hd3 := hd2.mono e3.zz
    have S3 : SE g.r b2 K Z3 H3 ow (wipe σ vs) (fgtL vs env) := (S1.ext e13 u3).wipe vs
    -- the item is bound
    have k3 : KG g K W σ b2 Z1 H1 (RelN g.r K H) ((R.of (bindT t d (fgtL vs env))).bind fun env1 => (c env1).nox.bind fun b => match b with
      | true => (f env1).nox.bind fun y => (lcL t c f (fgtL vs env) (ds.drop (i + 1))).bind fun r => .ok (done ++ y :: r)
      | false => (lcL t c f (fgtL vs env) (ds.drop (i + 1))).bind fun r => .ok (done ++ r)) Q := by
      have e : ((lcL t c f (fgtL vs env) (d :: ds.drop (i + 1))).bind fun rest => R.ok (done ++ rest)) = _ := R.bind_assoc
      rw [e] at k2
      refine cast ?_ k2
      congr 2
      funext env1
      rw [R.bind_assoc]
      congr 1
      funext b
      cases b with
      | false => rfl
      | true =>
        show (R.bind _ _).bind _ = _
        rw [R.bind_assoc]
        congr 1
        funext y
        exact R.bind_assoc
    obtain ⟨env1, hb, k4⟩ := R.of_post (R.post_bind k3)
    refine tgG_of ((bind_okE (Q := fun σ2 H2 => SE g.r b2 K Z3 H2 ow σ2 env1 ∧ H2 = H3) S3 hx3 hb fun σ' S' => ⟨S', rfl⟩).imp hsub fun σ2 hw ⟨S4, _⟩ => ⟨hw.trans (by
      apply wipe_eq (wipe_length σ vs)
      intro j hj
      rw [wipe_at, if_neg (fun q => hj q.1)]), ?_⟩)
    refine ⟨b2, Z3, ow, env1, S4, KG.nox_of k4 fun b4 cb k5 => ?_⟩
    intro cb' H4 Z4 e4 u4 hcb
    cases hcb
    have e14 := e13.trans' e4 u3
    have zP4 : Z4 P = none := e4.out _ _ hP3 zP3
    have hP4 : H4 P = some (.lst ys) := e4.keep _ _ hP3 zP3 rP
    cases cb with
    | false =>
      rw [if_neg Bool.false_ne_true]
      exact ⟨b4, Z4, done, ys, e14, u4, zP4, hP4, hd3.mono e4.zz, by omega, k5⟩
    | true =>
      rw [if_pos rfl]
      refine ⟨b4, Z4, ow, env1, S4.ext e4 u4, KG.nox_of k5 fun b5 y k6 => ?_⟩
      intro vy H5 Z5 e5 u5 hvy
      have e15 := e14.trans' e5 u4
      have zP5 : Z5 P = none := e5.out _ _ hP4 zP4
      have hP5 : H5 P = some (.lst ys) := e5.keep _ _ hP4 zP4 rP
      have hd5 := (hd3.mono e4.zz).mono e5.zz
      refine ⟨ys, hP5, by rw [hd5.len]; omega, b5, Z5, done ++ [y], ys ++ [vy], ?_, ?_, zP5, upd_same, hd5.app (.cons hvy .nil), by rw [List.length_append]; show _ + 1 ≤ _; omega, ?_⟩
      · exact ⟨e15.zz, fun a o q => by rw [upd_ne (ne_of_none q zP5)]; exact e15.zh a o q, fun a o q z n => by rw [upd_ne (ne_of_none q hP)]; exact e15.keep a o q z n, e15.out⟩
      · cases hr : g.r with
        | none => trivial
        | some a =>
          rw [hr] at u5 rP
          obtain ⟨z, p, q, cc, h, tt⟩ := u5
          exact ⟨z, p, q, cc, by rw [upd_ne (fun w => rP (by rw [w]))]; exact h, tt⟩
      · refine cast ?_ k6
        congr 2
        funext r
        rw [List.append_assoc]
        rfl
  · have e : i = ds.length := by omega
    subst e
    rw [List.drop_length] at k2
    refine .inl ⟨j1, ?_⟩
    have k3 : KG g K W σ b2 Z1 H1 (RelN g.r K H) (.ok (done ++ [])) Q := k2
    rw [List.append_nil] at k3
    exact k3 _ _ Z2 e2 u2 ⟨P, ys, rfl, hPH, zP2, rP, hP2, hd2⟩
/-- no test -/
def cYes : Env → R Bool := fun _ => .ok true
theorem pts_yes : PTs X [] (tG g X.K W0 RelT cYes) := ⟨fun pins s σ H Q I ⟨b, Z, ow, env, S, k⟩ => pts_nil.run pins s σ H Q I (KG.ok (Rel := RelT H) S k rfl)⟩
theorem pts_if {c : Expr} {t : Env → R Bool} (h : TEs g W0 X c t) : PTs X [c] (tG g X.K W0 RelT t) := pts_one h
theorem ne_lc {elt tg iter : Expr} {ifs : List Expr} {scope : Scope} {own : List (Str × Nat)} {t : Tg} {it : Env → R (List D)} {c : Env → R Bool} {f : Env → R D} (hc : X.calm = true) (hN : X.N.Nodup) (hi : IE g W X tg iter it) (ok : BlkOk X.N X.env.scope scope own)
    (hg : ∀ (s : Shared) (H : Hp) (C : Addr) (cl : List (Str × Addr)) (fp : List Addr), PTg (X.blk s H scope (compEnvC scope cl C X.env) fp) tg t) (ht : ∀ (s : Shared) (H : Hp) (C : Addr) (cl : List (Str × Addr)) (fp : List Addr), PTs (X.blk s H scope (compEnvC scope cl C X.env) fp) ifs (tG g X.K W0 RelT c))
    (he : ∀ (s : Shared) (H : Hp) (C : Addr) (cl : List (Str × Addr)) (fp : List Addr), VE g W0 (X.blk s H scope (compEnvC scope cl C X.env) fp) elt f) (hs : ∀ x, foldedSetIterable iter X.env x = pure x := by intro _; rfl) :
    NE g W X (.ListComp elt [⟨tg, iter, ifs, 0⟩] scope pos) (nLc (own.map (·.2)) t it c f) :=
  PE.of (pe_lc hc hN hi ok hg ht he hs) fun _ _ _ q => lc_of q
/-- given to a name on the same line -/
theorem vs_lcNew {i : Nat} {y : Str} {py spos : Pos} {elt tg iter : Expr} {ifs : List Expr} {scope : Scope} {own : List (Str × Nat)} {t : Tg} {it : Env → R (List D)} {c : Env → R Bool} {f : Env → R D} (hc : X.calm = true) (hN : X.N.Nodup) (hy : X.N[i]? = some y) (hyl : X.env.scope.names.lookup y = some .local)
    (hsw : swapsWith (.ListComp elt [⟨tg, iter, ifs, 0⟩] scope pos) (some (.Name y py)) spos.line X.env = pure true) (hi : IE g W X tg iter it) (ok : BlkOk X.N X.env.scope scope own)
    (hg : ∀ (s : Shared) (H : Hp) (C : Addr) (cl : List (Str × Addr)) (fp : List Addr), PTg (X.blk s H scope (compEnvC scope cl C X.env) fp) tg t) (ht : ∀ (s : Shared) (H : Hp) (C : Addr) (cl : List (Str × Addr)) (fp : List Addr), PTs (X.blk s H scope (compEnvC scope cl C X.env) fp) ifs (tG g X.K W0 RelT c))
    (he : ∀ (s : Shared) (H : Hp) (C : Addr) (cl : List (Str × Addr)) (fp : List Addr), VE g W0 (X.blk s H scope (compEnvC scope cl C X.env) fp) elt f) (hs : ∀ x, foldedSetIterable iter X.env x = pure x := by intro _; rfl) :
    VS g W Z0 H0 X (.Assign [.Name y py] (.ListComp elt [⟨tg, iter, ifs, 0⟩] scope pos) spos) (sNew i (nLc (own.map (·.2)) t it c f)) :=
  PS.of (ps_setLc hc hN hy hyl hsw hi ok hg ht he hs) fun σ H E q => by
    obtain ⟨b, Z, ow, env, S, k⟩ := q
    have h := new_of (f := nLc (own.map (·.2)) t it c f) (i := i) ⟨b, Z, ow, env, S, k⟩
    exact lc_of h
end
end Ev
set_option Elab.async false
set_option linter.all false
set_option maxRecDepth 100000
set_option maxHeartbeats 4000000
/-! Ev9: enumerate and zip of lists and tuples. -/
namespace Ev
open PySem PySem.Spec PyProof.Rows L2
/-! ### enumerate(tuple): made -/
theorem meets_enumT (t : Addr) (its : Array Value) (m : Nat) (dd : Option Addr) (slt : Array (Option Value)) :
    Meets (Builtin.«enumerate.__new__» ⟨[.type "enumerate", .ref t], []⟩) (fun _ F s => s.heap.get? t = some { cls := .type "tuple", dict := dd, data := .seq its m, slots := slt } ∧
      F (.ok (.ret (.ref (s.heap.push { cls := .type "tuple_iterator", data := .fields #[.ref t, .int 0 0] }).objs.size)))
        { s with heap := (s.heap.push { cls := .type "tuple_iterator", data := .fields #[.ref t, .int 0 0] }).push { cls := .type "enumerate", data := .fields #[.none, .bool false, .ref s.heap.objs.size, rawInt 0, .none, .none] } }) :=
  .of_wp fun prog w A F s q => by
    obtain ⟨heap0, gens0, drawn0, toks0, os0⟩ := s; obtain ⟨ht, q⟩ := q
    have hse := sub_enumerate
    have hTup : Heap.IsTuple (Shared.heap ⟨heap0, gens0, drawn0, toks0, os0⟩) t its := ⟨_, ht, rfl, m, rfl⟩
    wp_walk using AutoSeq1.wpAny_loadPart' ht
    refine wpAny_stack_any fun stk => wpAny_pure ?_
    split
    · rename_i cc _ _ _ _ _
      cases (cc == Value.type "enumerate")
      · wp_walk using AutoSeq1.wpAny_loadPart' ht, wpAny_pyIter_tuple hTup
        exact ⟨_, rfl, q⟩
      · wp_walk using AutoSeq1.wpAny_loadPart' ht, wpAny_pyIter_tuple hTup
        exact ⟨_, rfl, q⟩
    · wp_walk using AutoSeq1.wpAny_loadPart' ht, wpAny_pyIter_tuple hTup
      exact ⟨_, rfl, q⟩
section
variable {prog : Program} {w : World} {A : Around} {E : Value → Shared → Prop} {s : Shared}
theorem call_enumT {t : Addr} {its : Array Value} {Q : Value → Shared → Prop} (hT : s.heap.IsTuple t its)
    (q : ∀ h', IsEnum h' (s.heap.objs.size + 1) s.heap.objs.size 0 .none → h'.IsTupleIter s.heap.objs.size t 0 → h'.objs.size = s.heap.objs.size + 2 → (∀ b o, s.heap.get? b = some o → h'.get? b = some o) → Q (.ref (s.heap.objs.size + 1)) { s with heap := h' }) :
    wpAny (model prog w) A (call (.type "enumerate") [.ref t]) Q E s := by
  obtain ⟨⟨cc, dd, dt, slt⟩, ht, hc, m, hd⟩ := hT
  replace hc : cc = .type "tuple" := hc
  replace hd : dt = .seq its m := hd
  subst hc hd
  refine callType_new F.called_enumerate (by decide) (F.typeCall_enumerate_1 _) (F.newCall_enumerate_1 _) (fun obj => F.args_object_init_2 obj _) F.entry_enumerate_new (meets_enumT t its m dd slt) ⟨ht, ?_⟩
  have sz : (s.heap.push { cls := .type "tuple_iterator", data := .fields #[.ref t, .int 0 0] }).objs.size = s.heap.objs.size + 1 := Heap.size_push ..
  show _ ∧ _
  rw [sz]
  have he : IsEnum ((s.heap.push { cls := .type "tuple_iterator", data := .fields #[.ref t, .int 0 0] }).push { cls := .type "enumerate", data := .fields #[.none, .bool false, .ref s.heap.objs.size, rawInt 0, .none, .none] }) (s.heap.objs.size + 1) s.heap.objs.size 0 .none := by
    have z := Heap.get?_push_size (s.heap.push { cls := .type "tuple_iterator", data := .fields #[.ref t, .int 0 0] }) (o := { cls := .type "enumerate", data := .fields #[.none, .bool false, .ref s.heap.objs.size, rawInt 0, .none, .none] }) rfl
    rw [sz] at z; exact z
  exact ⟨⟨_, he, rfl⟩, q _ he ⟨_, Heap.get?_push_of_some _ (Heap.get?_push_size _ rfl), rfl, rfl⟩ (by rw [Heap.size_push, sz]) fun b o x => Heap.get?_push_of_some _ (Heap.get?_push_of_some _ x)⟩
end
/-- the pairs of places and items of the tuple at a -/
def IteT (K : PySem.W.Frag) (a : Addr) : It :=
  ⟨fun i H => ∃ (xs : List V) (x : V), SqT K H a xs ∧ xs[i]? = some x, fun i H v H' => ∃ T x, v = .ref T ∧ H T = none ∧ H' = upd H T (.tup [.int (i : Nat), x]) ∧ ∀ xs, SqT K H a xs → xs[i]? = some x, fun i H => ∃ xs : List V, SqT K H a xs ∧ xs.length = i⟩
theorem tup_ne_iter {h : Heap} {a it : Addr} {its : Array Value} {t : Addr} {i : Nat} (p : IsTup h a its) (q : h.IsTupleIter it t i) : a ≠ it := by
  rintro rfl
  obtain ⟨o, ho, hc, _⟩ := p
  obtain ⟨o', ho', hc', _⟩ := q
  rw [ho] at ho'
  cases ho'
  rw [hc] at hc'
  exact absurd (Value.type.inj hc') (by decide)
theorem turn_enumT {P : Program} {w : World} {K : PySem.W.Frag} {elts : List Expr} {kk : Nat} {tpos : Pos} (a e it : Addr) :
    Turn P w K (.Tuple elts kk tpos) (IteT K a) [e, it] e (fun i h => (∃ old, IsEnum h e it ((i : Nat) : Int) old) ∧ h.IsTupleIter it a i ∧ e ≠ it) where
  mem := by simp
  obj := fun i h st b hb => by
    obtain ⟨⟨old, he⟩, ⟨o, ho, hc, hd⟩, _⟩ := st
    rcases (show b = e ∨ b = it by simpa using hb) with z | z
    · rw [z]; exact ⟨_, he, fun v q => nomatch q⟩
    · rw [z]; exact ⟨o, ho, fun v q => by rw [hd] at q; cases q⟩
  keep := fun i h h' st k => let ⟨⟨old, he⟩, hi, hne⟩ := st; ⟨⟨old, k e (by simp) _ he⟩, hi.at fun o q => k it (by simp) o q, hne⟩
  item := by
    intro X hP hw hK hc i pins s σ H E I hf st hg
    subst hP hw hK
    obtain ⟨⟨old, he⟩, hit, hne⟩ := st
    obtain ⟨xs, x, hq, hx⟩ := hg
    obtain ⟨its, rv, p, hz⟩ := I.tuple hq
    obtain ⟨u, hu, ru⟩ := rv.get hx
    have hel : e < s.heap.objs.size := Heap.lt_size he
    have hil : it < s.heap.objs.size := by obtain ⟨_, q, _⟩ := hit; exact Heap.lt_size q
    have nai : a ≠ it := tup_ne_iter p hit
    have nae : e ≠ a := by
      rintro rfl
      obtain ⟨o, ho, hc, _⟩ := p
      have he' : s.heap.get? e = some _ := he
      rw [ho] at he'
      cases he'
      exact absurd (Value.type.inj hc) (by decide)
    have hlt : i < its.toArray.size := by
      rw [List.size_toArray]
      exact (List.getElem?_eq_some_iff.mp hu).1
    refine wpAny_pyNext_enum_itemD (Draws.tuple (A := X.A.in1) (show X.A.in1.handled = none from I.ok.hd hc) it a nai its.toArray) he ⟨hit, show s.heap.IsTuple a its.toArray from p⟩ hlt hne (by simp [hne, nae]) fun y h' tk hy ho st' hT hsz hk => ?_
    refine ⟨_, rfl, wpAny_letOwnedTupleGo_enum (s := { s with heap := h', toks := tk + 1 }) ho fun h'' he' sb => ?_⟩
    have ey : y = u := by
      have hy' : its.toArray[i]? = some y := hy
      rw [show its.toArray[i]? = its[i]? by simp, hu] at hy'
      exact (Option.some.inj hy').symm
    subst ey
    have hT2 : h''.get? s.heap.objs.size = some { cls := .type "tuple", data := .seq #[.int i tk, y] } := (sb.2 _ (Nat.ne_of_gt hel)).trans hT
    have new : ObjOk X.prog X.w (upd H s.heap.objs.size (.tup [.int (i : Nat), x])) h'' s.heap.objs.size (.tup [.int (i : Nat), x]) :=
      ⟨by show 2 ≤ sizeLine; decide, [.int i tk, y], .cons ⟨_, rfl⟩ (.cons ru .nil), ⟨_, hT2, rfl, _, rfl⟩⟩
    have I1 : Inv X pins σ (upd H s.heap.objs.size (.tup [.int (i : Nat), x])) { s with heap := h'', toks := tk + 1 } :=
      I.turnedNew (ch := [e, it]) (fun b ob hb q => (sb.2 b (fun z => hb (by simp [z]))).trans (hk b ob (fun z => hb (by simp [z])) (fun z => hb (by simp [z])) q)) hf (Nat.le_refl _) new
    refine ⟨.ref s.heap.objs.size, _, I1, rfl, ⟨_, x, rfl, I.hok.fresh (Nat.le_refl _), rfl, fun ys hy => by rw [I.tuple_inj hy hq]; exact hx⟩, ⟨⟨y, ?_⟩, (st'.1).at fun o q => (sb.2 it (Ne.symm hne)).trans q, hne⟩, fun b hb => ?_⟩
    · rw [show ((i + 1 : Nat) : Int) = (i : Int) + 1 by omega]
      exact he'
    · have hb' : b < s.heap.objs.size := by
        rcases (show b = e ∨ b = it by simpa using hb) with z | z
        · rw [z]; exact hel
        · rw [z]; exact hil
      rw [upd_ne (Nat.ne_of_lt hb')]
      exact (hf b hb).1
  done := by
    intro X hP hw hK hc i pins s σ H E I hf st hg
    subst hP hw hK
    obtain ⟨⟨old, he⟩, hit, hne⟩ := st
    obtain ⟨xs, hq, hx⟩ := hg
    obtain ⟨its, rv, p, hz⟩ := I.tuple hq
    obtain ⟨f0, f1, f2, f3, f4, f5⟩ := hf it (by simp)
    have hi : its.toArray.size = i := by rw [List.size_toArray, ← rv.length]; exact hx
    subst hi
    exact wpAny_pyNext_enum_endD (Draws.tuple (A := X.A.in1) (show X.A.in1.handled = none from I.ok.hd hc) it a (tup_ne_iter p hit) its.toArray) he ⟨hit, show s.heap.IsTuple a its.toArray from p⟩
      fun h' eb => ⟨rfl, I.turned (t' := s.toks) (fun b o hb q => eb b o hb q) f0 f1 f3 f4 f5⟩
  self := fun A i s Q E st h => let ⟨⟨_, he⟩, _⟩ := st; wpAny_pyIter_enum he h
/-- the items with their places -/
def enumL : Nat → List D → List D
  | _, [] => []
  | i, d :: r => .tuple [.int (.ofNat i), d] :: enumL (i + 1) r
theorem enumL_len : ∀ (i : Nat) (ds : List D), (enumL i ds).length = ds.length
  | _, [] => rfl
  | i, _ :: r => congrArg (· + 1) (enumL_len (i + 1) r)
theorem enumL_get : ∀ (i j : Nat) (ds : List D) (x : D), (enumL i ds)[j]? = some x → ∃ d, ds[j]? = some d ∧ x = .tuple [.int (.ofNat (i + j)), d]
  | _, _, [], _, h => by cases h
  | i, 0, d :: r, x, h => by
    have : some (PyData.tuple [.int (.ofNat i), d]) = some x := h
    cases this
    exact ⟨d, rfl, rfl⟩
  | i, j + 1, d :: r, x, h => by
    obtain ⟨e, h1, h2⟩ := enumL_get (i + 1) j r x (by simpa [enumL] using h)
    refine ⟨e, by simpa using h1, ?_⟩
    rw [h2, show i + 1 + j = i + (j + 1) by omega]
section
variable {g : G} {W : WX} {X : Cx} {K : PySem.W.Frag} {e : Expr} {pos : Pos} {σ : L2.St} {b : Nat} {Z H : Hp} {ow : Nat → Addr} {env : Env}
theorem it_enumT {a : Addr} {xs : List V} {ds : List D} (h : SqT K Z a xs) (hd : DqAll K Z xs ds) : ItOk K Z (IteT K a) (enumL 0 ds) := fun Z2 H2 z1 z2 => by
  have e : SqT K H2 a xs := seqT (z1.trans z2) h
  refine ⟨⟨xs, e, by rw [enumL_len, hd.len]⟩, fun i d hi => ?_⟩
  obtain ⟨d', hd', rfl⟩ := enumL_get 0 i ds d hi
  obtain ⟨v, hv, hq⟩ := hd.get hd'
  refine ⟨⟨xs, v, e, hv⟩, fun x H3 ⟨T, y, e1, e2, e3, e4⟩ => ?_⟩
  subst e1 e3
  have := e4 xs e
  rw [hv] at this
  cases this
  rw [Nat.zero_add]
  exact ⟨upd Z2 T _, Ext.new z2 e2, .tup (SqT.of upd_same) (.cons (.int _) (.cons ((hq.mono z1).mono (Ext.new (r := none) z2 e2).zz) .nil))⟩
theorem it_enumL {a : Addr} {xs : List V} {ds : List D} (h : Z a = some (.lst xs)) (hd : DqAll K Z xs ds) : ItOk K Z (Ite K a) (enumL 0 ds) := fun Z2 H2 z1 z2 => by
  have e : SqL K H2 a xs := SqL.of (z2 _ _ (z1 _ _ h))
  refine ⟨⟨xs, e, by rw [enumL_len, hd.len]; exact Nat.le_refl _⟩, fun i d hi => ?_⟩
  obtain ⟨d', hd', rfl⟩ := enumL_get 0 i ds d hi
  obtain ⟨v, hv, hq⟩ := hd.get hd'
  refine ⟨⟨xs, v, e, hv⟩, fun x H3 ⟨T, y, e1, e2, e3, e4⟩ => ?_⟩
  subst e1 e3
  have := e4 xs e
  rw [hv] at this
  cases this
  rw [Nat.zero_add]
  exact ⟨upd Z2 T _, Ext.new z2 e2, .tup (SqT.of upd_same) (.cons (.int _) (.cons ((hq.mono z1).mono (Ext.new (r := none) z2 e2).zz) .nil))⟩
def iEnu (h : Env → R (List D)) : Env → R (List D) := fun env => (h env).bind fun
  | [.list ds] => .ok (enumL 0 ds)
  | [.tuple ds] => .ok (enumL 0 ds)
  | _ => .fail
theorem ie_enum {p tpos : Pos} {elts : List Expr} {kk : Nat} {h : Env → R (List D)} (hg : Gl X "enumerate") (hm : X.mg "enumerate" = none) (ha : AEs g W X [e] h) (hs : starEach [e] X.env = [(false, eval e X.env)] := by rfl) : IE g W X (.Tuple elts kk tpos) (.Call (.Name "enumerate" p) [e] [] pos) (iEnu h) := by
  refine ⟨fun pins s σ H Q I ⟨b, Z, ow, env, S, k⟩ => ?_⟩
  refine Call_ (ld_blt I hg hm boot_enumerate (PyProof.Rows.callWith_type1 (thn (ha.run pos pins s σ H (fun (vs : List V) (H1 : Hp) => ∃ (a : Addr) (xs : List V), vs = [.ref a] ∧ ((SqL X.K H1 a xs ∧ Q (Ite X.K a) H1) ∨ (SqT X.K H1 a xs ∧ Q (IteT X.K a) H1))) I ⟨b, Z, ow, env, S, KG.seq S k fun b1 ds vs H1 Z1 e1 S1 hd k1 => ?_⟩) fun us s1 q0 => ?_) hs rfl))
  · split at k1
    · obtain ⟨x, rfl, hx⟩ := DqAll.one hd
      obtain ⟨a, xs, rfl, h1, h2⟩ := Dq.lst_ hx
      exact ⟨a, xs, rfl, .inl ⟨SqL.of (S1.zh _ _ h1), KG.ok (Rel := RelI X.K H1) S1 k1 (it_enumL h1 h2)⟩⟩
    · obtain ⟨x, rfl, hx⟩ := DqAll.one hd
      obtain ⟨a, xs, rfl, h1, h2⟩ := Dq.tup_ hx
      exact ⟨a, xs, rfl, .inr ⟨seqT S1.zh h1, KG.ok (Rel := RelI X.K H1) S1 k1 (it_enumT h1 h2)⟩⟩
    · exact k1.elim
  · obtain ⟨vs, H1, I1, r1, a, xs, ex, q1⟩ := q0
    subst ex
    cases r1 with
    | cons r rr =>
      cases rr
      cases r
      have fin : ∀ {h' : Heap} {tn : Nat → Heap → Prop} {J : It}, (∀ b o, s1.heap.get? b = some o → h'.get? b = some o) → Turn X.prog X.w X.K (.Tuple elts kk tpos) J [s1.heap.objs.size + 1, s1.heap.objs.size] (s1.heap.objs.size + 1) tn → tn 0 h' → Q J H1 → PIE X pins σ (.Tuple elts kk tpos) Q (.ref (s1.heap.objs.size + 1)) { s1 with heap := h' } := fun {h' tn J} hk T ht q => by
        refine ⟨s1.heap.objs.size + 1, [s1.heap.objs.size + 1, s1.heap.objs.size], tn, J, H1, rfl, I1.kept (t' := s1.toks) hk, T, ht, fun b hb => ?_, q⟩
        have hle : s1.heap.objs.size ≤ b := by
          rcases (show b = s1.heap.objs.size + 1 ∨ b = s1.heap.objs.size by simpa using hb) with z | z
          · rw [z]; exact Nat.le_succ _
          · rw [z]; exact Nat.le_refl _
        exact I1.fpOk hle (I1.hok.fresh hle)
      rcases q1 with ⟨hq, q⟩ | ⟨hq, q⟩
      · obtain ⟨its, rv, p', hz⟩ := I1.list hq
        exact call_enumerate_list p'.isList fun h' he hit hsz hk => wpAny_pyIter_enum he (fin hk (turn_enum a _ _) ⟨⟨.none, he⟩, hit, Nat.succ_ne_self _⟩ q)
      · obtain ⟨its, rv, p', hz⟩ := I1.tuple hq
        exact call_enumT (show s1.heap.IsTuple a its.toArray from p') fun h' he hit hsz hk => wpAny_pyIter_enum he (fin hk (turn_enumT a _ _) ⟨⟨.none, he⟩, hit, Nat.succ_ne_self _⟩ q)
end
end Ev
set_option Elab.async false
set_option linter.all false
set_option maxRecDepth 100000
set_option maxHeartbeats 4000000
/-! Ev10: sorted, min, max, slices, zip, isinstance, count. -/
namespace Ev
open PySem PySem.Spec PyProof.Rows L2
/-! ### sorting by insertion -/
section
variable {α : Type}
def insB (le : α → α → Bool) (x : α) : List α → List α
  | [] => [x]
  | y :: r => match le x y with
    | true => x :: y :: r
    | false => y :: insB le x r
def isort (le : α → α → Bool) : List α → List α
  | [] => []
  | x :: r => insB le x (isort le r)
theorem insB_mem {le : α → α → Bool} {x z : α} : ∀ {l : List α}, z ∈ insB le x l → z = x ∨ z ∈ l
  | [], h => .inl (by simpa [insB] using h)
  | y :: r, h => by
    unfold insB at h
    split at h
    · rcases List.mem_cons.mp h with e | h
      · exact .inl e
      · exact .inr h
    · rcases List.mem_cons.mp h with e | h
      · exact .inr (by rw [e]; exact List.mem_cons_self)
      · rcases insB_mem h with e | h
        · exact .inl e
        · exact .inr (List.mem_cons_of_mem _ h)
theorem insB_pw {le : α → α → Bool} (t : PySem.W.TotalLe le) {x : α} : ∀ {l : List α}, l.Pairwise (fun a b => le a b = true) → (insB le x l).Pairwise (fun a b => le a b = true)
  | [], _ => by simp [insB]
  | y :: r, h => by
    have h' := List.pairwise_cons.mp h
    unfold insB
    split
    · rename_i e
      refine List.pairwise_cons.mpr ⟨fun z hz => ?_, h⟩
      rcases List.mem_cons.mp hz with q | hz
      · rw [q]; exact e
      · exact t.trans _ _ _ e (h'.1 z hz)
    · rename_i e
      have yx : le y x = true := (t.total x y).resolve_left (by rw [e]; exact Bool.false_ne_true)
      refine List.pairwise_cons.mpr ⟨fun z hz => ?_, insB_pw t h'.2⟩
      rcases insB_mem hz with q | hz
      · rw [q]; exact yx
      · exact h'.1 z hz
theorem insB_fl {le : α → α → Bool} (t : PySem.W.TotalLe le) {x c : α} : ∀ {l : List α}, (insB le x l).filter (PySem.W.sameRank le c) = (x :: l).filter (PySem.W.sameRank le c)
  | [] => rfl
  | y :: r => by
    unfold insB
    split
    · rfl
    · rename_i e
      rw [List.filter_cons (x := y), insB_fl t]
      by_cases hx : PySem.W.sameRank le c x = true
      · have hy : ¬ PySem.W.sameRank le c y = true := fun hy => by
          unfold PySem.W.sameRank at hx hy
          rw [Bool.and_eq_true] at hx hy
          have := t.trans _ _ _ hx.2 hy.1
          rw [e] at this
          cases this
        rw [if_neg hy, List.filter_cons_of_pos hx, List.filter_cons_of_pos hx, List.filter_cons_of_neg hy]
      · rw [List.filter_cons_of_neg hx, List.filter_cons_of_neg hx, List.filter_cons]
theorem isort_eq {le : α → α → Bool} (t : PySem.W.TotalLe le) : ∀ l : List α, isort le l = l.mergeSort le := by
  have hp : ∀ l : List α, (isort le l).Pairwise (fun a b => le a b = true) := fun l => by
    induction l with
    | nil => exact List.Pairwise.nil
    | cons x r ih => exact insB_pw t ih
  have hf : ∀ (l : List α) c, (isort le l).filter (PySem.W.sameRank le c) = l.filter (PySem.W.sameRank le c) := fun l c => by
    induction l with
    | nil => rfl
    | cons x r ih =>
      show (insB le x (isort le r)).filter _ = _
      rw [insB_fl t, List.filter_cons, List.filter_cons, ih]
  exact fun l => PySem.W.sort_unique t (hp l) (hf l)
end
/-- rows of ints -/
def leR : List Int → List Int → Bool
  | [], _ => true
  | _ :: _, [] => false
  | x :: xs, y :: ys => match ltI x y with
    | true => true
    | false => match eqI x y with
      | true => leR xs ys
      | false => false
theorem leR_eq : ∀ (x y : List Int), leR x y = decide (x ≤ y)
  | [], y => by simp [leR]
  | x :: xs, [] => by simp [leR]
  | x :: xs, y :: ys => by
    unfold leR
    rw [ltI_eq, eqI_eq, leR_eq xs ys]
    by_cases h : x < y
    · rw [decide_eq_true h]
      simp [List.cons_le_cons_iff, h]
    · rw [decide_eq_false h]
      by_cases e : x = y
      · rw [decide_eq_true e]
        simp [List.cons_le_cons_iff, e]
      · rw [decide_eq_false e]
        simp [List.cons_le_cons_iff, h, e]
theorem dataLe_tups : PySem.W.dataLe false (fun b : List Int => PyData.tuple (b.map .int)) = leR := by
  funext p q
  show (!PySem.W.dataLt (.tuple (q.map .int)) (.tuple (p.map .int))) = _
  rw [PySem.W.dataLt_tuple, leR_eq]
  show (!PySem.W.rowLt (q.map .int) (p.map .int)) = _
  rw [PySem.W.dataLt_ints]
  by_cases h : q < p
  · have h' : ¬ p ≤ q := fun r => List.not_lt.mpr r h
    simp [h, h']
  · have h' : p ≤ q := List.not_lt.mp h
    simp [h, h']
theorem dataLe_is : PySem.W.dataLe false (fun b : Int => PyData.int b) = leI := by
  rw [PySem.W.dataLe_int]
  funext a b
  rw [leI_eq]
def rowOf : D → Option (List Int)
  | .tuple (.int i :: ds) => match intsOf ds with
    | some is => some (i :: is)
    | none => none
  | _ => none
def rowsOf : List D → Option (List (List Int))
  | [] => some []
  | d :: r => match rowOf d with
    | some x => match rowsOf r with
      | some xs => some (x :: xs)
      | none => none
    | none => none
def tupI (b : List Int) : D := .tuple (b.map .int)
theorem rowOf_eq {d : D} {x : List Int} (h : rowOf d = some x) : d = tupI x ∧ x ≠ [] := by
  unfold rowOf at h
  split at h
  · split at h
    · rename_i e
      cases h
      exact ⟨by rw [intsOf_eq e]; rfl, by simp⟩
    · cases h
  · cases h
theorem rowsOf_eq : ∀ {ds : List D} {xs : List (List Int)}, rowsOf ds = some xs → ds = xs.map tupI ∧ ∀ x ∈ xs, x ≠ []
  | [], _, h => by cases h; exact ⟨rfl, fun _ h => by cases h⟩
  | d :: r, xs, h => by
    unfold rowsOf at h
    split at h
    · rename_i x e
      split at h
      · rename_i ys e2
        cases h
        obtain ⟨q1, q2⟩ := rowOf_eq e
        obtain ⟨q3, q4⟩ := rowsOf_eq e2
        refine ⟨by rw [q1, q3]; rfl, fun z hz => ?_⟩
        rcases List.mem_cons.mp hz with e | hz
        · rw [e]; exact q2
        · exact q4 z hz
      · cases h
    · cases h
def sortL (ds : List D) : Option (List D) := match rowsOf ds with
  | some rows => some ((isort leR rows).map tupI)
  | none => match intsOf ds with
    | some is => some ((isort leI is).map .int)
    | none => none
def sortD (d : D) : Option (List D) := match d with
  | .list ds => sortL ds
  | _ => none
section
variable {g : G} {W : WX} {X : Cx} {K : PySem.W.Frag} {Z : Hp} {β : Type}
theorem each_of (I : ∀ d v u, Dq X.K Z v d → RelV v u → ∃ as, Reads K' u d as) {enc : β → D} : ∀ {bs : List β} {vs : List V} {us : List Value}, DqAll X.K Z vs (bs.map enc) → Vals vs us →
    PySem.W.EachIs (fun u b => ∃ x, RelV x u ∧ Dq X.K Z x (enc b)) us bs ∧ PySem.W.EachIs (fun u b => ∃ as, Reads K' u (enc b) as) us bs
  | [], _, _, h, r => by
    have h' : DqAll X.K Z _ [] := h
    cases h'; cases r; exact ⟨.nil, .nil⟩
  | b :: bs, _, _, h, r => by
    have h' : DqAll X.K Z _ (enc b :: bs.map enc) := h
    cases h' with
    | cons h1 h2 =>
      cases r with
      | cons r1 r2 =>
        obtain ⟨e1, e2⟩ := each_of I h2 r2
        exact ⟨.cons ⟨_, r1, h1⟩ e1, .cons (I _ _ _ h1 r1) e2⟩
theorem each_back {enc : β → D} : ∀ {us : List Value} {bs : List β}, PySem.W.EachIs (fun u b => ∃ x, RelV x u ∧ Dq K Z x (enc b)) us bs → ∃ vs, Vals vs us ∧ DqAll K Z vs (bs.map enc)
  | _, _, .nil => ⟨[], .nil, .nil⟩
  | _, _, .cons ⟨x, h1, h2⟩ t => let ⟨vs, q1, q2⟩ := each_back t; ⟨x :: vs, .cons h1 q1, .cons h2 q2⟩
theorem sorted_of {r : Option Addr} (hu : X.A.units + 65 < cLine) {enc : β → D} {le : β → β → Bool} (hle : PySem.W.dataLe false enc = le) {pins : List (Addr × Obj)} {σ : L2.St} {H : Hp} {s : Shared} {Q : VK} (I : Inv X pins σ H s) (z : Same Z H) {a : Addr} {ys : List V} {bs : List β} (h1 : SqL X.K H a ys) (h2 : DqAll X.K Z ys (bs.map enc))
    (hal : PySem.W.AllAlike (bs.map enc)) (hk : PySem.W.Sortable (bs.map enc)) (hd : ∀ b, (enc b).depth ≤ 60) (q : ∀ p vs, H p = none → DqAll X.K Z vs ((isort le bs).map enc) → Q (.ref p) (upd H p (.lst vs))) :
    wpAny (model X.prog X.w) X.A (call (.builtin "sorted") [.ref a]) (EP X pins σ Q) X.xe s := by
  obtain ⟨its, rv, hl, hz⟩ := I.list h1
  obtain ⟨e1, e2⟩ := each_of (X := X) (K' := s.heap) (fun d v u h r => Dp.reads I d v u (h.mono z).dp r) h2 rv
  have hbl : bs.length = ys.length := by rw [h2.len, List.length_map]
  refine PySem.W.sorted_data hl.isList e1 e2 hal hk (by rw [hbl]; exact hz) (fun b _ => by have := hd b; omega) fun out ho he => ?_
  rw [hle] at he
  have te : PySem.W.TotalLe le := by rw [← hle]; exact PySem.W.sortLe_total _ _ _
  rw [← isort_eq te] at he
  obtain ⟨vs, v1, v2⟩ := each_back he
  obtain ⟨ep, he'⟩ := PyProof.Rows.sortedAll_at s.heap its out.toArray
  refine ⟨.ref _, upd H (s.heap.objs.size + 1) (.lst vs), I.laid (t' := s.toks) (fun _ _ => PyProof.Rows.sortedAll_old) (Nat.le_succ _) ⟨?_, out, ep, v1, he'⟩, rfl, q _ vs (I.hok.fresh (Nat.le_succ _)) v2⟩
  rw [v1.length, ho, hbl]; exact hz
theorem alike_rows (bs : List (List Int)) : PySem.W.AllAlike (bs.map tupI) := PySem.W.AllAlike.of fun b b' => by
  show PySem.W.alike (.tuple _) (.tuple _) = true
  rw [PySem.W.alike]
  exact PySem.W.alike_ints _ _
theorem c_sorted {r : Option Addr} (hu : X.A.units + 65 < cLine) : CallR X (.builtin "sorted") (rBN r X.K sortD) := fun pins s σ H xs us Q I rv ⟨x, Z, dx, ds, e1, z, hx, e, q⟩ => by
  subst e1
  unfold sortD at e
  split at e
  · rename_i es
    obtain ⟨a, ys, rfl, h1, h2⟩ := RelB.lst z hx
    rw [Vals.ref1 rv]
    unfold sortL at e
    split at e
    · rename_i rows hr
      cases e
      obtain ⟨q1, q2⟩ := rowsOf_eq hr
      rw [q1] at h2
      refine sorted_of (r := r) hu dataLe_tups I z h1 h2 (alike_rows rows) (.inl fun d hd => ?_) (fun b => ?_) q
      · obtain ⟨b, hb, rfl⟩ := List.mem_map.mp hd
        cases b with
        | nil => exact absurd rfl (q2 _ hb)
        | cons i b => exact ⟨.int i, b.map .int, rfl⟩
      · show (PyData.tuple (b.map .int)).depth ≤ 60
        rw [PyData.depth, PySem.W.depth_ints]
        decide
    · split at e
      · rename_i is hi
        cases e
        rw [intsOf_eq hi] at h2
        refine sorted_of (r := r) hu dataLe_is I z h1 h2 (PySem.W.AllAlike.of fun b b' => by simp [PySem.W.alike]) (.inr fun d hd => ?_) (fun b => ?_) q
        · obtain ⟨b, hb, rfl⟩ := List.mem_map.mp hd
          exact ⟨by simp, by simp⟩
        · simp [PyData.depth]
      · cases e
  · cases e
/-! ### min, max -/
def minI : Int → List Int → Int
  | m, [] => m
  | m, i :: r => match ltI i m with
    | true => minI i r
    | false => minI m r
def maxI : Int → List Int → Int
  | m, [] => m
  | m, i :: r => match ltI m i with
    | true => maxI i r
    | false => maxI m r
theorem minI_eq : ∀ (r : List Int) (m : Int), r.foldl min m = minI m r
  | [], _ => rfl
  | i :: r, m => by
    unfold minI
    rw [List.foldl_cons, ltI_eq, minI_eq r]
    by_cases h : i < m
    · rw [decide_eq_true h, Int.min_eq_right (by omega)]
    · rw [decide_eq_false h, Int.min_eq_left (by omega)]
theorem maxI_eq : ∀ (r : List Int) (m : Int), r.foldl max m = maxI m r
  | [], _ => rfl
  | i :: r, m => by
    unfold maxI
    rw [List.foldl_cons, ltI_eq, maxI_eq r]
    by_cases h : m < i
    · rw [decide_eq_true h, Int.max_eq_right (by omega)]
    · rw [decide_eq_false h, Int.max_eq_left (by omega)]
def mmD (f : Int → List Int → Int) (d : D) : Option D := match d with
  | .list ds => match intsOf ds with
    | some (i :: is) => some (.int (f i is))
    | _ => none
  | .tuple ds => match intsOf ds with
    | some (i :: is) => some (.int (f i is))
    | _ => none
  | _ => none
theorem alike_is (is : List Int) : PySem.W.AlikeAll (is.map PyData.int) := by
  refine ⟨fun d hd d' hd' => ?_, fun d hd => ?_⟩
  · obtain ⟨b, _, rfl⟩ := List.mem_map.mp hd
    obtain ⟨b', _, rfl⟩ := List.mem_map.mp hd'
    simp [PySem.W.alike]
  · obtain ⟨b, _, rfl⟩ := List.mem_map.mp hd
    simp
theorem mm_rd {r : Option Addr} {H : Hp} {dx : D} {x : V} {f : Int → List Int → Int} {d : D} (z : Same Z H) (hx : RelB r K H dx x Z H) (e : mmD f dx = some d) : ∃ i is a ys, x = .ref a ∧ (SqL K H a ys ∨ SqT K H a ys) ∧ DqAll K Z ys ((i :: is).map PyData.int) ∧ d = .int (f i is) := by
  unfold mmD at e
  split at e
  · split at e
    · rename_i hi
      cases e
      obtain ⟨a, ys, h0, h1, h2⟩ := RelB.lst z hx
      exact ⟨_, _, a, ys, h0, .inl h1, by rw [← intsOf_eq hi]; exact h2, rfl⟩
    · cases e
  · split at e
    · rename_i hi
      cases e
      obtain ⟨a, ys, h0, h1, h2, _⟩ := RelB.tup z hx
      exact ⟨_, _, a, ys, h0, .inr h1, by rw [← intsOf_eq hi]; exact h2, rfl⟩
    · cases e
  · cases e
theorem c_min {r : Option Addr} (hc : X.calm = true) (hu : X.A.units + 65 < cLine) : CallR X (.builtin "min") (rB1 r X.K (mmD minI)) := fun pins s σ H xs us Q I rv ⟨x, Z, dx, d, e1, z, hx, e, q⟩ => by
  subst e1
  obtain ⟨i, is, a, ys, rfl, h1, h2, rfl⟩ := mm_rd z hx e
  rw [Vals.ref1 rv]
  have hdp : PyData.depthAll (PyData.int i :: is.map PyData.int) = 0 := PySem.W.depth_ints (i :: is)
  have fin : ∀ (v : Value) (h' : Heap) (tk : Nat) (bs : List Addr), Reads h' v (PySem.W.minD (.int i) (is.map .int)) bs → (∀ b o, s.heap.get? b = some o → h'.get? b = some o) → EP X pins σ Q v { s with heap := h', toks := tk } := fun v h' tk bs hr k => by
    rw [PySem.W.minD_ints, minI_eq] at hr
    cases hr
    exact ⟨.int (minI i is), H, I.kept k, ⟨_, rfl⟩, q_same z q (.int _)⟩
  rcases h1 with h1 | h1
  · obtain ⟨its, rv, hl, hz⟩ := I.list h1
    obtain ⟨as, hr⟩ := Dp.readsAll I _ _ its (h2.mono z).dp rv
    exact PySem.W.min_list_data (I.ok.hd hc) hl.isList (by simpa using hr) (alike_is (i :: is)) (by rw [hdp]; omega) fun _ v h' tk bs _ hr k => fin v h' tk bs hr k
  · obtain ⟨its, rv, hl, hz⟩ := I.tuple h1
    obtain ⟨as, hr⟩ := Dp.readsAll I _ _ its (h2.mono z).dp rv
    exact PySem.W.min_tuple_data (I.ok.hd hc) (show s.heap.IsTuple a its.toArray from hl) (by simpa using hr) (alike_is (i :: is)) (by rw [hdp]; omega) fun _ v h' tk bs _ hr k => fin v h' tk bs hr k
theorem c_max {r : Option Addr} (hc : X.calm = true) (hu : X.A.units + 65 < cLine) : CallR X (.builtin "max") (rB1 r X.K (mmD maxI)) := fun pins s σ H xs us Q I rv ⟨x, Z, dx, d, e1, z, hx, e, q⟩ => by
  subst e1
  obtain ⟨i, is, a, ys, rfl, h1, h2, rfl⟩ := mm_rd z hx e
  rw [Vals.ref1 rv]
  have hdp : PyData.depthAll (PyData.int i :: is.map PyData.int) = 0 := PySem.W.depth_ints (i :: is)
  have fin : ∀ (v : Value) (h' : Heap) (tk : Nat) (bs : List Addr), Reads h' v (PySem.W.maxD (.int i) (is.map .int)) bs → (∀ b o, s.heap.get? b = some o → h'.get? b = some o) → EP X pins σ Q v { s with heap := h', toks := tk } := fun v h' tk bs hr k => by
    rw [PySem.W.maxD_ints, maxI_eq] at hr
    cases hr
    exact ⟨.int (maxI i is), H, I.kept k, ⟨_, rfl⟩, q_same z q (.int _)⟩
  rcases h1 with h1 | h1
  · obtain ⟨its, rv, hl, hz⟩ := I.list h1
    obtain ⟨as, hr⟩ := Dp.readsAll I _ _ its (h2.mono z).dp rv
    exact PySem.W.max_list_data (I.ok.hd hc) hl.isList (by simpa using hr) (alike_is (i :: is)) (by rw [hdp]; omega) fun _ v h' tk bs _ hr k => fin v h' tk bs hr k
  · obtain ⟨its, rv, hl, hz⟩ := I.tuple h1
    obtain ⟨as, hr⟩ := Dp.readsAll I _ _ its (h2.mono z).dp rv
    exact PySem.W.max_tuple_data (I.ok.hd hc) (show s.heap.IsTuple a its.toArray from hl) (by simpa using hr) (alike_is (i :: is)) (by rw [hdp]; omega) fun _ v h' tk bs _ hr k => fin v h' tk bs hr k
/-- built-ins of two values -/
def rV2 (K : PySem.W.Frag) (op : List D → Option D) : List V → Hp → VK → Prop := fun xs H Q => ∃ Z ds d, Same Z H ∧ DqAll K Z xs ds ∧ op ds = some d ∧ ∀ v H' Z', Ext none Z H Z' H' → Dq K Z' v d → Q v H'
def eOps (op : List D → Option D) (h : Env → R (List D)) : Env → R D := fun env => (h env).bind fun ds => .of (op ds)
theorem tCV_of {op : List D → Option D} {h : Env → R (List D)} {σ : L2.St} {H : Hp} {Q : VK} (q : tG g K W (RelD K) (eOps op h) σ H Q) : tCB (rV2 K op) (tG g K W (RelA K) h) σ H Q := by
  obtain ⟨b, Z, ow, env, S, k⟩ := q
  refine ⟨b, Z, ow, env, S, KG.seq S k fun b1 ds vs H1 Z1 e1 S1 hd k1 => ?_⟩
  obtain ⟨d, e, k3⟩ := k1.of
  exact ⟨Z1, ds, d, S1.zh, hd, e, fun v H' Z' e r => k3.ok' S1 e r⟩
theorem ve_bs {a : Expr} {es : List Expr} {pos : Pos} {x : Str} {id : String} {p : Pos} {op : List D → Option D} {h : Env → R (List D)} (hc : CallR X (.builtin id) (rV2 X.K op)) (hg : Gl X x) (hm : X.mg x = none) (hv : bootBuiltins x = some (.builtin id)) (ha : AEs g W X (a :: es) h) (hn : x ≠ "__name__" := by decide) (hdb : (x == ("__debug__" : Str)) = false := by decide)
    (he : starEach (a :: es) X.env = (false, eval a X.env) :: starEach es X.env := by rfl) (hpl : (backTo pos (starEach es X.env)).any (·.1) = false := by rfl) : VE g W X (.Call (.Name x p) (a :: es) [] pos) (eOps op h) :=
  PE.of (pe_callB hc hg hm hv ha hn hdb he hpl) fun _ _ _ q => tCV_of q
def min2D : List D → Option D
  | [.int i, .int j] => match ltI j i with
    | true => some (.int j)
    | false => some (.int i)
  | _ => none
def max2D : List D → Option D
  | [.int i, .int j] => match ltI i j with
    | true => some (.int j)
    | false => some (.int i)
  | _ => none
theorem c_min2 (hc : X.calm = true) : CallR X (.builtin "min") (rV2 X.K min2D) := fun pins s σ H xs us Q I rv ⟨Z, ds, d, z, hx, e, q⟩ => by
  unfold min2D at e
  split at e
  · obtain ⟨x, y, rfl, h1, h2⟩ := DqAll.two hx
    rename_i i j _
    refine call_min2 hc pins s σ H _ us Q I rv ⟨i, j, by rw [Dq.int_ h1, Dq.int_ h2], ?_⟩
    rw [ltI_eq] at e
    by_cases hj : j < i
    · rw [if_pos hj]; rw [decide_eq_true hj] at e; cases e; exact q_same z q (.int _)
    · rw [if_neg hj]; rw [decide_eq_false hj] at e; cases e; exact q_same z q (.int _)
  · cases e
theorem c_max2 (hc : X.calm = true) : CallR X (.builtin "max") (rV2 X.K max2D) := fun pins s σ H xs us Q I rv ⟨Z, ds, d, z, hx, e, q⟩ => by
  unfold max2D at e
  split at e
  · obtain ⟨x, y, rfl, h1, h2⟩ := DqAll.two hx
    rename_i i j _
    refine call_max2 hc pins s σ H _ us Q I rv ⟨i, j, by rw [Dq.int_ h1, Dq.int_ h2], ?_⟩
    rw [ltI_eq] at e
    by_cases hj : j > i
    · rw [if_pos hj]; rw [decide_eq_true hj] at e; cases e; exact q_same z q (.int _)
    · rw [if_neg hj]; rw [decide_eq_false hj] at e; cases e; exact q_same z q (.int _)
  · cases e
end
end Ev
set_option Elab.async false
set_option linter.all false
set_option maxRecDepth 100000
set_option maxHeartbeats 4000000
/-! Ev11: slices, zip, isinstance, count. -/
namespace HT
open PySem PySem.Spec PyProof.Rows L2
section
variable {prog : Program} {w : World} {A : Around} {E : Value → Shared → Prop} {s : Shared}
theorem sliceApplied_rev {sl : Addr} {t : Tok} {n : Nat} {Q : Int × Int × Nat → Shared → Prop} (hs : s.heap.IsSliceOf sl .none .none (.int (-1) t))
    (h : Q ((n : Int) - 1, -1, n) s) : wpAny (model prog w) A (Builtin.Slice.sliceApplied (.ref sl) (pure (n : Int))) Q E s := by
  obtain ⟨os, hos, hcs, hds⟩ := id hs
  unfold Builtin.Slice.sliceApplied Builtin.Slice.sliceFields
  refine wpAny_bind (wpAny_bind (wpAny_field hos hds (x := .none) rfl (wpAny_bind (wpAny_field hos hds (x := .none) rfl (wpAny_bind (wpAny_field hos hds (x := .int (-1) t) rfl (wpAny_pure ?_)))))))
  refine wpAny_bind (slicePart_int ?_)
  show wpAny _ _ (if ((-1 : Int) == 0) = true then _ else _) _ _ s
  rw [if_neg (by decide)]
  refine wpAny_bind (slicePart_ .none (wpAny_bind (slicePart_ .none (wpAny_bind (wpAny_pure ?_)))))
  show wpAny _ _ (match Builtin.Slice.sliceAdjust none none (-1) (n : Int) with | (lo, hi) => pure (lo, (-1 : Int), Builtin.Slice.slicePlaces lo hi (-1))) _ _ s
  have e1 : Builtin.Slice.sliceAdjust none none (-1) (n : Int) = ((n : Int) - 1, -1) := by
    unfold Builtin.Slice.sliceAdjust
    simp
  rw [e1]
  show wpAny _ _ (pure ((n : Int) - 1, (-1 : Int), Builtin.Slice.slicePlaces ((n : Int) - 1) (-1) (-1))) _ _ s
  have e2 : Builtin.Slice.slicePlaces ((n : Int) - 1) (-1) (-1) = n := by
    unfold Builtin.Slice.slicePlaces
    have h1 : ¬ ((-1 : Int) > 0) := by omega
    simp only [h1, if_false]
    split
    · simp only [show -(-1 : Int) = 1 by decide, Int.ediv_one]; omega
    · omega
  rw [e2]
  exact wpAny_pure h
theorem getItem_tuple_rev {t sl : Addr} {items : Array Value} {tk : Tok} {Q : Value → Shared → Prop} (ht : IsTup s.heap t items) (hs : s.heap.IsSliceOf sl .none .none (.int (-1) tk))
    (h : Q (.ref s.heap.objs.size) { s with heap := s.heap.push { cls := .type "tuple", data := .seq items.toList.reverse.toArray } })
    (hsz : items.size ≤ sizeLine) : wpAny (model prog w) A (getItem (.ref t) (.ref sl)) Q E s := by
  have htake : sizeOk (.seq items.toList.reverse.toArray) := by
    show items.toList.reverse.toArray.size ≤ sizeLine
    simpa using hsz
  obtain ⟨os, hos, hcs, hds⟩ := id hs
  have hTs : s.TypeIs (.ref sl) "slice" := ⟨os, hos, hcs⟩
  unfold getItem
  try with_reducible refine wpAny_holding ?_
  first | refine wpAny_bind (wpAny_pure ?_) | skip
  refine wpAny_bind (wpAny_sequenceKey ht.typeIs (by decide) ?_)
  refine wpAny_bind (wpAny_callSpecial?_slot (name := Str.ofString "__getitem__") ht.typeIs PyProof.Rows.slot_tuple_getitem
    (wpAny_call_entry PyProof.Rows.slot_tuple_getitem ht.typeIs entry_tuple_getitem ?_ (args_tuple_getitem _ _)))
  show wpAny _ _ (Builtin.Tuple.tupleItemsOf (.ref t) >>= _) _ _ s
  refine wpAny_bind (tupleItemsOf_ ht ?_)
  refine wpAny_bind (wpAny_typeOf hTs ?_)
  rw [if_pos (by decide)]
  refine wpAny_bind (sliceApplied_rev hs ?_)
  have hno : ¬ ((((items.size : Int) - 1) == 0 && (-1 : Int) == 1 && items.size == items.size) = true) := by
    intro q
    rw [Bool.and_eq_true, Bool.and_eq_true] at q
    exact absurd q.1.2 (by decide)
  show wpAny _ _ (if (((items.size : Int) - 1) == 0 && (-1 : Int) == 1 && items.size == items.size) = true then _ else _) _ _ s
  rw [if_neg hno]
  have e : ((List.range items.size).filterMap fun (m : Nat) => items[(((items.size : Int) - 1) + (m : Int) * (-1)).toNat]?).toArray = items.toList.reverse.toArray := by
    congr 1
    have e3 : (List.range items.size).filterMap (fun (m : Nat) => items[(((items.size : Int) - 1) + (m : Int) * (-1)).toNat]?) = ((List.range items.size).map fun k => items.size - 1 - k).filterMap (items[·]?) := by
      rw [List.filterMap_map]
      have go : ∀ (l : List Nat), (∀ m ∈ l, m < items.size) → l.filterMap (fun (m : Nat) => items[(((items.size : Int) - 1) + (m : Int) * (-1)).toNat]?) = l.filterMap ((items[·]?) ∘ fun k => items.size - 1 - k) := fun l => by
        induction l with
        | nil => exact fun _ => rfl
        | cons m l ih =>
          intro hl
          have hm' := hl m List.mem_cons_self
          have e0 : (((items.size : Int) - 1) + (m : Int) * (-1)).toNat = items.size - 1 - m := by omega
          have ih' := ih fun k hk => hl k (List.mem_cons_of_mem _ hk)
          simp only [List.filterMap_cons, Function.comp_apply, e0]
          rw [ih']
      exact go _ fun m hm => List.mem_range.mp hm
    rw [e3, PySem.W.krv_range, List.filterMap_reverse, PySem.W.krv_all]
  rw [e]
  first
    | exact wpAny_bind (m := Builtin.Tuple.tupleExact _) (wpAny_newObj_type (wpAny_pure ⟨_, rfl, wpAny_pure h⟩) htake)
    | exact wpAny_bind (m := Builtin.Tuple.tupleExact _) (wpAny_newObj_type (wpAny_bind (wpAny_pure (wpAny_pure ⟨_, rfl, wpAny_pure h⟩))) htake)
    | exact wpAny_bind (wpAny_bind (m := Builtin.Tuple.tupleExact _) (wpAny_newObj_type (wpAny_pure (wpAny_pure ⟨_, rfl, wpAny_pure h⟩)) htake))
    | exact wpAny_bind (wpAny_bind (m := Builtin.Tuple.tupleExact _) (wpAny_newObj_type (wpAny_pure ⟨_, rfl, wpAny_pure h⟩) htake))
end
end HT
namespace Ev
open PySem PySem.Spec PyProof.Rows L2
section
variable {g : G} {W : WX} {X : Cx} {K : PySem.W.Frag} {e : Expr} {f : Env → R D} {σ : L2.St} {b : Nat} {Z H : Hp} {ow : Nat → Addr} {env : Env}
theorem DqAll.dropA : ∀ {vs : List V} {ds : List D} (n : Nat), DqAll K Z vs ds → DqAll K Z (vs.drop n) (ds.drop n)
  | _, _, 0, h => h
  | _, _, _ + 1, .nil => .nil
  | _, _, n + 1, .cons _ t => t.dropA n
theorem DqAll.takeA : ∀ {vs : List V} {ds : List D} (n : Nat), DqAll K Z vs ds → DqAll K Z (vs.take n) (ds.take n)
  | _, _, 0, h => .nil
  | _, _, _ + 1, .nil => .nil
  | _, _, n + 1, .cons h t => .cons h (t.takeA n)
theorem DqAll.revA : ∀ {vs : List V} {ds : List D}, DqAll K Z vs ds → DqAll K Z vs.reverse ds.reverse
  | _, _, .nil => .nil
  | _, _, .cons h t => by
    rw [List.reverse_cons, List.reverse_cons]
    exact t.revA.app (.cons h .nil)
/-- the bound of a slice -/
def sIxI (n d : Nat) : Option Int → Nat
  | none => d
  | some v => match ltI v 0 with
    | true => (v + Int.ofNat n).toNat
    | false => match Nat.ble v.toNat n with
      | true => v.toNat
      | false => n
theorem sIxI_eq (n d : Nat) (o : Option Int) : sIxI n d o = HT.sIx n d o := by
  cases o with
  | none => rfl
  | some v =>
    show (match ltI v 0 with
      | true => (v + Int.ofNat n).toNat
      | false => match Nat.ble v.toNat n with
        | true => v.toNat
        | false => n) = if v < 0 then (v + (n : Int)).toNat else min v.toNat n
    rw [ltI_eq]
    by_cases h : v < 0
    · rw [decide_eq_true h, if_pos h]; rfl
    · rw [decide_eq_false h, if_neg h]
      by_cases h2 : v.toNat ≤ n
      · rw [show Nat.ble v.toNat n = true from Nat.ble_eq_true_of_le h2, Nat.min_eq_left h2]
      · rw [show Nat.ble v.toNat n = false from Bool.eq_false_iff.mpr fun q => h2 (Nat.le_of_ble_eq_true q), Nat.min_eq_right (by omega)]
def dropL : Nat → List D → List D
  | 0, l => l
  | _ + 1, [] => []
  | n + 1, _ :: l => dropL n l
def takeL : Nat → List D → List D
  | 0, _ => []
  | _ + 1, [] => []
  | n + 1, x :: l => x :: takeL n l
theorem dropL_eq : ∀ (n : Nat) (l : List D), dropL n l = l.drop n
  | 0, _ => rfl
  | _ + 1, [] => rfl
  | n + 1, _ :: l => dropL_eq n l
theorem takeL_eq : ∀ (n : Nat) (l : List D), takeL n l = l.take n
  | 0, _ => rfl
  | _ + 1, [] => rfl
  | n + 1, x :: l => congrArg (x :: ·) (takeL_eq n l)
def cutD (ds : List D) (lo hi : Option Int) : List D :=
  let n := lenL ds
  takeL (sIxI n n hi - sIxI n 0 lo) (dropL (sIxI n 0 lo) ds)
theorem cutD_ok {vs : List V} {ds : List D} (h : DqAll K Z vs ds) (lo hi : Option Int) : DqAll K Z (cutV vs lo hi) (cutD ds lo hi) := by
  unfold cutV cutD
  simp only [takeL_eq, dropL_eq, sIxI_eq, lenL_eq, h.len]
  exact (h.dropA _).takeA _
/-- the parts of a slice -/
def pNo : Env → R (Option Int) := fun _ => .ok none
def pAt (f : Env → R D) : Env → R (Option Int) := fun env => (f env).bind fun
  | .int i => .ok (some i)
  | _ => .fail
abbrev RelO (K : PySem.W.Frag) : Hp → Option Int → Option Int → Hp → Hp → Prop := fun _ a x _ _ => x = a
abbrev OE (g : G) (W : WX) (X : Cx) (e : Option Expr) (f : Env → R (Option Int)) : Prop := PO X e (tG g X.K W (RelO X.K) f)
theorem PO.of {X : Cx} {e : Option Expr} {t t' : TO} (h : PO X e t) (i : ∀ σ H Q, t' σ H Q → t σ H Q) : PO X e t' := ⟨fun pins s σ H Q I q => h.run pins s σ H Q I (i σ H Q q)⟩
theorem oe_no : OE g W X none pNo := PO.of po_none fun σ H Q ⟨b, Z, ow, env, S, k⟩ => KG.ok (Rel := RelO X.K H) S k rfl
theorem oe_at (h : VE g W X e f) : OE g W X (some e) (pAt f) := PO.of (po_some h) fun σ H Q ⟨b, Z, ow, env, S, k⟩ => ⟨b, Z, ow, env, S, KG.seq S k fun b1 d v H1 Z1 e1 S1 hd k1 => by
  cases d <;> first | exact k1.elim | skip
  exact ⟨_, Dq.int_ hd, KG.ok (Rel := RelO X.K H1) S1 k1 rfl⟩⟩
def slD (d : D) (lo hi : Option Int) : Option D := match d with
  | .tuple ds => some (.tuple (cutD ds lo hi))
  | .list ds => some (.list (cutD ds lo hi))
  | _ => none
def eSl (f : Env → R D) (lo hi : Env → R (Option Int)) : Env → R D := fun env => (f env).bind fun d => (lo env).bind fun l => (hi env).bind fun u => .of (slD d l u)
theorem sIx_hi (n : Nat) (hi : Option Int) : HT.sIx n n hi ≤ n := by
  cases hi with
  | none => exact Nat.le_refl _
  | some v =>
    show (if v < 0 then (v + (n : Int)).toNat else min v.toNat n) ≤ n
    split
    · omega
    · exact Nat.min_le_right _ _
theorem ve_slice {a : Expr} {lo hi : Option Expr} {tl th : Env → R (Option Int)} {p2 pos : Pos} (h : BE g W X a f) (hl : OE g W X lo tl) (hh : OE g W X hi th) : VE g W X (.Subscript a (.Slice lo hi none p2) pos) (eSl f tl th) := by
  refine PE.of (pe_slice (SlR.or sl_tupA sl_list) h hl hh) fun σ H Q ⟨b, Z, ow, env, S, k⟩ => ⟨b, Z, ow, env, S, KG.seq S k fun b1 d v H1 Z1 e1 S1 hd k1 => ?_⟩
  refine ⟨b1, Z1, ow, env, S1, KG.seq S1 k1 fun b2 l vl H2 Z2 e2 S2 el k2 => ?_⟩
  cases el
  refine ⟨b2, Z2, ow, env, S2, KG.seq S2 k2 fun b3 u vu H3 Z3 e3 S3 eu k3 => ?_⟩
  cases eu
  obtain ⟨r, hr, k4⟩ := k3.of
  have hd3 : RelB g.r X.K H3 d v Z3 H3 := RelB.ext (H0 := H2) (RelB.ext hd e2 : RelB g.r X.K H2 d v Z2 H2) e3
  unfold slD at hr
  split at hr
  · rename_i ds
    cases hr
    obtain ⟨a, xs, rfl, h1, h2, h3⟩ := RelB.tup S3.zh hd3
    refine .inl ⟨a, xs, rfl, h1, fun ⟨w1, w2⟩ => ?_, fun _ p hp => ?_⟩
    · have e : cutV xs l u = xs := by
        unfold cutV
        rw [w1, w2]
        simp
      have q := cutD_ok h2 l u
      rw [e] at q
      obtain ⟨a', xs', ea, sx, dx⟩ := Dq.tup_ h3
      cases ea
      refine KG.ok (Rel := RelD X.K H3) S3 k4 (.tup sx ?_)
      have e5 : cutD ds l u = ds := by
        unfold cutD
        simp only [takeL_eq, dropL_eq, sIxI_eq, lenL_eq, ← h2.len]
        rw [w1, w2, h2.len]
        simp
      rw [e5]
      exact dx
    · exact KG.ok' (Rel := RelD X.K H3) S3 k4 (Ext.new (r := none) S3.zh hp) (.tup (SqT.of upd_same) ((cutD_ok h2 l u).mono (Ext.new (r := none) S3.zh hp).zz))
  · cases hr
    obtain ⟨a, xs, rfl, h1, h2⟩ := RelB.lst S3.zh hd3
    refine .inr ⟨a, xs, rfl, h1, fun p hp => ?_⟩
    exact KG.ok' (Rel := RelD X.K H3) S3 k4 (Ext.new (r := none) S3.zh hp) (.lst upd_same ((cutD_ok h2 l u).mono (Ext.new (r := none) S3.zh hp).zz))
  · cases hr
end
end Ev
set_option Elab.async false
set_option linter.all false
set_option maxRecDepth 100000
set_option maxHeartbeats 4000000
/-! Ev12: a, b = x, y. -/
namespace Ev
open PySem PySem.Spec PyProof.Rows L2
/-- a value, or a new object -/
inductive PV where
  | v (d : D)
  | o (ob : Ob)
abbrev PV.n (ds : List D) : PV := .o (.l ds)
inductive PAll (r : Option Addr) (K : PySem.W.Frag) (H0 Z H : Hp) : List PV → List V → List Addr → Prop
  | nil : PAll r K H0 Z H [] [] []
  | val {v : V} {d : D} {ps : List PV} {vs : List V} {as : List Addr} : Dq K Z v d → PAll r K H0 Z H ps vs as → PAll r K H0 Z H (.v d :: ps) (v :: vs) as
  | new {p : Addr} {o : HO} {ob : Ob} {ps : List PV} {vs : List V} {as : List Addr} : p ∉ as → H0 p = none → Z p = none → r ≠ some p → H p = some o → ObOk K Z p o ob → PAll r K H0 Z H ps vs as → PAll r K H0 Z H (.o ob :: ps) (.ref p :: vs) (p :: as)
abbrev RelP (r : Option Addr) (K : PySem.W.Frag) : Hp → List PV → List V → Hp → Hp → Prop := fun H ps vs Z' H' => ∃ as, PAll r K H Z' H' ps vs as
abbrev APs (g : G) (W : WX) (X : Cx) (es : List Expr) (h : Env → R (List PV)) : Prop := PA X es (tG g X.K W (RelP g.r X.K) h)
def bindP : List Nat → List PV → Env → Option Env
  | [], [], env => some env
  | i :: is, .v d :: ps, env => bindP is ps (setS env i (.va d))
  | i :: is, .o ob :: ps, env => bindP is ps (setS env i (.ow ob))
  | _, _, _ => none
def pO (f : Env → R Ob) (h : Env → R (List PV)) : Env → R (List PV) := fun env => (f env).bind fun d => (h env).bind fun ps => .ok (.o d :: ps)
def pNil : Env → R (List PV) := fun _ => .ok []
def pV (f : Env → R D) (h : Env → R (List PV)) : Env → R (List PV) := fun env => (f env).bind fun d => (h env).bind fun ps => .ok (.v d :: ps)
def pN (f : Env → R (List D)) (h : Env → R (List PV)) : Env → R (List PV) := fun env => (f env).bind fun d => (h env).bind fun ps => .ok (.n d :: ps)
/-- a new object, of no one else's -/
abbrev RelNO (r : Option Addr) (K : PySem.W.Frag) : Hp → Ob → V → Hp → Hp → Prop := fun H ob v Z' H' => ∃ p o, v = .ref p ∧ H p = none ∧ Z' p = none ∧ r ≠ some p ∧ H' p = some o ∧ ObOk K Z' p o ob
abbrev NOE (g : G) (W : WX) (X : Cx) (e : Expr) (f : Env → R Ob) : Prop := PE X e (tG g X.K W (RelNO g.r X.K) f)
section
variable {g : G} {W : WX} {X : Cx} {K : PySem.W.Frag} {r : Option Addr} {e : Expr} {es : List Expr} {σ : L2.St} {b : Nat} {Z H Z0 H0 : Hp} {ow : Nat → Addr} {env : Env} {pos : Pos}
theorem PAll.fresh {Hx : Hp} : ∀ {ps : List PV} {vs : List V} {as : List Addr}, PAll r K Hx Z H ps vs as → ∀ p ∈ as, Hx p = none
  | _, _, _, .nil, _, h => by cases h
  | _, _, _, .val _ t, p, h => t.fresh p h
  | _, _, _, .new _ h0 _ _ _ _ t, p, h => by
    rcases List.mem_cons.mp h with e | h
    · rw [e]; exact h0
    · exact t.fresh p h
theorem PAll.base {Hx Hy : Hp} (k : ∀ p, Hx p = none → Hy p = none) : ∀ {ps : List PV} {vs : List V} {as : List Addr}, PAll r K Hx Z H ps vs as → PAll r K Hy Z H ps vs as
  | _, _, _, .nil => .nil
  | _, _, _, .val h t => .val h (t.base k)
  | _, _, _, .new a b c d e f t => .new a (k _ b) c d e f (t.base k)
theorem PAll.heap {Hx Z' H' : Hp} (e : Ext r Z H Z' H') : ∀ {ps : List PV} {vs : List V} {as : List Addr}, PAll r K Hx Z H ps vs as → PAll r K Hx Z' H' ps vs as
  | _, _, _, .nil => .nil
  | _, _, _, .val h t => .val (h.mono e.zz) (t.heap e)
  | _, _, _, .new a b c d f j t => .new a b (e.out _ _ f c) d (e.keep _ _ f c d) (j.mono e.zz) (t.heap e)
theorem SE.was {Z1 H1 : Hp} (S : SE r b K Z H ow σ env) {b1 : Nat} (S1 : SE r b1 K Z1 H1 ow σ env) (e : Ext r Z H Z1 H1) {p : Addr} (h : H1 p = none) : H p = none := by
  cases q : H p with
  | none => rfl
  | some o =>
    by_cases n : r = some p
    · exact absurd n (S1.urn.ne h)
    · rw [e.there S.zh q n] at h; cases h
theorem ap_nil : APs g W X [] pNil := PA.of pa_nil fun σ H Q ⟨b, Z, ow, env, S, k⟩ => KG.ok (Rel := RelP g.r X.K H) S k ⟨[], .nil⟩
theorem ap_v {f : Env → R D} {h : Env → R (List PV)} (ha : VE g W X e f) (hr : APs g W X es h) (hs : starEach (e :: es) X.env = (false, eval e X.env) :: starEach es X.env := by rfl) : APs g W X (e :: es) (pV f h) :=
  PA.of (pa_cons ha hr hs) fun σ H Q ⟨b, Z, ow, env, S, k⟩ => ⟨b, Z, ow, env, S, KG.seq S k fun b1 x vx H1 Z1 e1 S1 hx k1 => ⟨b1, Z1, ow, env, S1, KG.seq S1 k1 fun b2 y vy H2 Z2 e2 S2 ⟨as, hy⟩ k2 =>
    KG.ok (Rel := RelP g.r X.K H) S2 k2 ⟨as, .val (hx.mono e2.zz) (hy.base fun p q => SE.was S S1 e1 q)⟩⟩⟩
theorem ap_n {f : Env → R (List D)} {h : Env → R (List PV)} (ha : NE g W X e f) (hr : APs g W X es h) (hs : starEach (e :: es) X.env = (false, eval e X.env) :: starEach es X.env := by rfl) : APs g W X (e :: es) (pN f h) :=
  PA.of (pa_cons ha hr hs) fun σ H Q ⟨b, Z, ow, env, S, k⟩ => ⟨b, Z, ow, env, S, KG.seq S k fun b1 x vx H1 Z1 e1 S1 ⟨p, vs, hv, hp, zp, rp, hl, hd⟩ k1 => ⟨b1, Z1, ow, env, S1, KG.seq S1 k1 fun b2 y vy H2 Z2 e2 S2 ⟨as, hy⟩ k2 => by
    subst hv
    refine KG.ok (Rel := RelP g.r X.K H) S2 k2 ⟨p :: as, .new (fun q => ?_) hp (e2.out _ _ hl zp) rp (e2.keep _ _ hl zp rp) ⟨_, rfl, hd.mono e2.zz⟩ (hy.base fun p q => SE.was S S1 e1 q)⟩
    have := hy.fresh p q
    rw [hl] at this
    cases this⟩⟩
theorem ap_o {f : Env → R Ob} {h : Env → R (List PV)} (ha : NOE g W X e f) (hr : APs g W X es h) (hs : starEach (e :: es) X.env = (false, eval e X.env) :: starEach es X.env := by rfl) : APs g W X (e :: es) (pO f h) :=
  PA.of (pa_cons ha hr hs) fun σ H Q ⟨b, Z, ow, env, S, k⟩ => ⟨b, Z, ow, env, S, KG.seq S k fun b1 x vx H1 Z1 e1 S1 ⟨p, o, hv, hp, zp, rp, hl, hd⟩ k1 => ⟨b1, Z1, ow, env, S1, KG.seq S1 k1 fun b2 y vy H2 Z2 e2 S2 ⟨as, hy⟩ k2 => by
    subst hv
    refine KG.ok (Rel := RelP g.r X.K H) S2 k2 ⟨p :: as, .new (fun q => ?_) hp (e2.out _ _ hl zp) rp (e2.keep _ _ hl zp rp) (hd.mono e2.zz) (hy.base fun p q => SE.was S S1 e1 q)⟩
    have := hy.fresh p q
    rw [hl] at this
    cases this⟩⟩
theorem SS.setPs {Hx : Hp} : ∀ {is : List Nat} {ps : List PV} {vs : List V} {as : List Addr} {σ : L2.St} {ow : Nat → Addr} {env env' : Env}, SS r b K Z0 H0 Z H ow σ env → PAll r K Hx Z H ps vs as → (∀ p ∈ as, H0 p = none) → (∀ j es, sl env j = .ow es → ow j ∉ as) →
    bindP is ps env = some env' → vs.length = is.length ∧ ∃ ow', SS r b K Z0 H0 Z H ow' ((vs.zip is).foldl (fun σ p => σ.set p.2 (some p.1)) σ) env'
  | [], _, _, _, _, ow, _, _, S, .nil, _, _, e => by cases e; exact ⟨rfl, ow, S⟩
  | i :: is, _, _, _, _, ow, env, _, S, .val h t, h0, no, e => by
    obtain ⟨l, ow', q⟩ := SS.setPs (is := is) (S.setVa i h) t h0 (fun j es q => by
      rw [slS] at q
      split at q
      · cases q
      · exact no j es q) e
    exact ⟨congrArg (· + 1) l, ow', q⟩
  | i :: is, _, _, _, _, ow, env, _, S, .new (p := p) na hx zp rp hl hd t, h0, no, e => by
    obtain ⟨l, ow', q⟩ := SS.setPs (is := is) (S.setOw i zp rp hl hd (h0 p List.mem_cons_self) fun j es q z => no j es q (by rw [z]; exact List.mem_cons_self)) t (fun p hp => h0 p (List.mem_cons_of_mem _ hp)) (fun j es q => by
      by_cases hj : j = i
      · show (if j = i then p else ow j) ∉ _
        rw [if_pos hj]; exact na
      · rw [slS, if_neg (fun z => hj z.1)] at q
        show (if j = i then p else ow j) ∉ _
        rw [if_neg hj]
        exact fun z => no j es q (List.mem_cons_of_mem _ z)) e
    exact ⟨congrArg (· + 1) l, ow', q⟩
  | [], _, _, _, _, _, _, _, _, .val _ _, _, _, e => by cases e
  | [], _, _, _, _, _, _, _, _, .new _ _ _ _ _ _ _, _, _, e => by cases e
  | _ :: _, _, _, _, _, _, _, _, _, .nil, _, _, e => by cases e
def sPar (is : List Nat) (h : Env → R (List PV)) : Env → R Flw := fun env => (h env).bindS env fun ps => (R.of (bindP is ps env)).bindS env fun env' => .ok (.nx env')
theorem par_of {Q : L2.St → Hp → Prop} {is : List Nat} {h : Env → R (List PV)} {E : Ends} {σ : L2.St} {H : Hp} {t : List V → Hp → Prop} (q : tS g K W Z0 H0 (sPar is h) E σ H)
    (k : ∀ {b : Nat} {ow : Nat → Addr} {vs : List V} {Z1 H1 : Hp} {env env' : Env}, vs.length = is.length → SS g.r b K Z0 H0 Z1 H1 ow ((vs.zip is).foldl (fun σ p => σ.set p.2 (some p.1)) σ) env' → SK g K W Z0 H0 Z1 b (.ok (.nx env')) E → t vs H1) : tG g K W (RelP g.r K) (fun env => h env) σ H t := by
  obtain ⟨b, Z, ow, env, S, kk⟩ := q
  refine ⟨b, Z, ow, env, S.se, SK.seq S kk fun b1 ps vs H1 Z1 e1 S1 ⟨as, hp⟩ k1 => ?_⟩
  obtain ⟨env', he, k2⟩ := k1.of
  have fr := hp.fresh
  obtain ⟨l, ow', S2⟩ := S1.setPs hp (fun p h => S.was (fr p h)) (fun j es q hj => by
    have a := S.se.at_ j
    rw [q] at a
    obtain ⟨_, _, _, ws, h2, _⟩ := a
    have := fr _ hj
    rw [h2] at this
    cases this) he
  exact k (env := env) l S2 k2
theorem vs_par2 {i j : Nat} {x y : Str} {a c : Expr} {h : Env → R (List PV)} {px py pt : Pos} {kt k2 pt2} (hc : X.calm = true) (hN : X.N.Nodup) (hi : X.N[i]? = some x) (hj : X.N[j]? = some y)
    (hx : X.env.scope.names.lookup x = some .local) (hy : X.env.scope.names.lookup y = some .local) (ha : APs g W X [a, c] h)
    (hw : swappedStores [.Tuple [.Name x px, .Name y py] kt pt] (.Tuple [a, c] k2 pt2) X.env = pure (some [x, y])) (hij : i ≠ j := by decide)
    (hs : swapsWithSole [.Tuple [.Name x px, .Name y py] kt pt] (.Tuple [a, c] k2 pt2) pos.line X.env = pure false := by rfl) :
    VS g W Z0 H0 X (.Assign [.Tuple [.Name x px, .Name y py] kt pt] (.Tuple [a, c] k2 pt2) pos) (sPar [i, j] h) :=
  PS.of (ps_par hc hN hi hj hij hx hy ha hw hs) fun σ H E q => par_of (Q := E.nx) q fun {b ow vs Z1 H1 env env'} hl S k => by
    match vs, hl with
    | [v, w], _ => exact ⟨v, w, rfl, SK.nx S k⟩
theorem vs_par3 {i j l : Nat} {x y z : Str} {a c d : Expr} {h : Env → R (List PV)} {px py pz pt : Pos} {kt k2 pt2} (hc : X.calm = true) (hN : X.N.Nodup) (hi : X.N[i]? = some x) (hj : X.N[j]? = some y) (hl : X.N[l]? = some z)
    (hx : X.env.scope.names.lookup x = some .local) (hy : X.env.scope.names.lookup y = some .local) (hz : X.env.scope.names.lookup z = some .local) (ha : APs g W X [a, c, d] h)
    (hw : swappedStores [.Tuple [.Name x px, .Name y py, .Name z pz] kt pt] (.Tuple [a, c, d] k2 pt2) X.env = pure (some [x, y, z])) (hij : i ≠ j := by decide) (hil : i ≠ l := by decide) (hjl : j ≠ l := by decide)
    (hs : swapsWithSole [.Tuple [.Name x px, .Name y py, .Name z pz] kt pt] (.Tuple [a, c, d] k2 pt2) pos.line X.env = pure false := by rfl) :
    VS g W Z0 H0 X (.Assign [.Tuple [.Name x px, .Name y py, .Name z pz] kt pt] (.Tuple [a, c, d] k2 pt2) pos) (sPar [i, j, l] h) :=
  PS.of (ps_par3 hc hN hi hj hl hij hil hjl hx hy hz ha hw hs) fun σ H E q => par_of (Q := E.nx) q fun {b ow vs Z1 H1 env env'} hl S k => by
    match vs, hl with
    | [v, w, u], _ => exact ⟨v, w, u, rfl, SK.nx S k⟩
/-- the general way: by the tuple -/
theorem vs_parT {tgs vals : List Expr} {is : List Nat} {h : Env → R (List PV)} {pt : Pos} {kt k2 pt2} (hc : X.calm = true) (ht : PTgs X tgs is) (ha : APs g W X vals h) (hz : Nat.ble is.length 1000 = true := by rfl) (hn : (assignEach tgs X.env).length = is.length := by rfl) (hst : (assignEach tgs X.env).findIdx? (·.1) = none := by rfl)
    (hs : swapsWithSole [.Tuple tgs kt pt] (.Tuple vals k2 pt2) pos.line X.env = pure false := by rfl) (hw : swappedStores [.Tuple tgs kt pt] (.Tuple vals k2 pt2) X.env = pure none := by rfl)
    (h1 : (assignEach [.Tuple tgs kt pt] X.env).map (·.2) = [assign (.Tuple tgs kt pt) X.env] := by rfl) :
    VS g W Z0 H0 X (.Assign [.Tuple tgs kt pt] (.Tuple vals k2 pt2) pos) (sPar is h) := by
  refine PS.of (ps_asg (pe_tup ha) (tg_tup hc ht hn hst) hs hw h1) fun σ H E q => par_of (Q := E.nx) q fun {b ow vs Z1 H1 env env'} hl S k => ?_
  have hz' : is.length ≤ 1000 := Nat.le_of_ble_eq_true hz
  have hsl := sizeLine_eq
  refine ⟨by omega, fun p hp => ?_⟩
  have e : Ext g.r Z1 H1 Z1 (upd H1 p (.tup vs)) := Ext.newU S.se.zh hp
  exact tgG_of (t := .tup is) ⟨p, vs, rfl, SqT.of upd_same, hl, SK.nx (S.ext' e (S.se.urn.newU hp)) k⟩
end
end Ev
set_option Elab.async false
set_option linter.all false
set_option maxRecDepth 100000
set_option maxHeartbeats 4000000
/-! Ev13: isinstance, count, zip, new lists by operators, reversed slices. -/
namespace Ev
open PySem PySem.Spec PyProof.Rows L2
/-! ### isinstance -/
inductive Cl where
  | int | bool | str | list | tuple
def Cl.nm : Cl → String
  | .int => "int"
  | .bool => "bool"
  | .str => "str"
  | .list => "list"
  | .tuple => "tuple"
def tyN : D → String
  | .none => "NoneType"
  | .bool _ => "bool"
  | .int _ => "int"
  | .str _ => "str"
  | .list _ => "list"
  | .tuple _ => "tuple"
  | .dict _ => "dict"
def isC (d : D) (c : Cl) : Option Bool := match d with
  | .none => some false
  | .bool _ => match c with
    | .bool => some true
    | .int => some true
    | _ => some false
  | .int _ => match c with
    | .int => some true
    | _ => some false
  | .str _ => match c with
    | .str => some true
    | _ => some false
  | .list _ => match c with
    | .list => some true
    | _ => some false
  | .tuple _ => match c with
    | .tuple => some true
    | _ => some false
  | .dict _ => none
theorem isC_ok {d : D} {c : Cl} {b : Bool} (h : isC d c = some b) : kitB (tyN d) c.nm = some b := by
  cases d with
  | none => cases c <;> cases h <;> (show kitB _ _ = _; simp only [tyN, Cl.nm]; decide +kernel)
  | bool x => cases c <;> cases h <;> (show kitB _ _ = _; simp only [tyN, Cl.nm]; decide +kernel)
  | int x => cases c <;> cases h <;> (show kitB _ _ = _; simp only [tyN, Cl.nm]; decide +kernel)
  | str x => cases c <;> cases h <;> (show kitB _ _ = _; simp only [tyN, Cl.nm]; decide +kernel)
  | list x => cases c <;> cases h <;> (show kitB _ _ = _; simp only [tyN, Cl.nm]; decide +kernel)
  | tuple x => cases c <;> cases h <;> (show kitB _ _ = _; simp only [tyN, Cl.nm]; decide +kernel)
  | dict x => cases h
def isAny (d : D) : List Cl → Option Bool
  | [] => some false
  | c :: cs => match isC d c with
    | some true => some true
    | some false => isAny d cs
    | none => none
section
variable {g : G} {W : WX} {X : Cx} {K : PySem.W.Frag} {e : Expr} {es : List Expr} {f h : Env → R D} {σ : L2.St} {b : Nat} {Z H Z0 H0 : Hp} {ow : Nat → Addr} {env : Env} {pos : Pos}
theorem isAny_ok {d : D} : ∀ {cs : List Cl} {b : Bool}, isAny d cs = some b → PySem.W.kitAny K (.type (tyN d)) (cs.map fun c => .type c.nm) = some b
  | [], b, h => by cases h; exact kitAny_nil
  | c :: cs, b, h => by
    unfold isAny at h
    cases hc : isC d c with
    | none => rw [hc] at h; cases h
    | some x =>
      rw [hc] at h
      cases x with
      | true => cases h; exact kitAny_cons (kit_ty (isC_ok hc)) (fun q => nomatch q) (fun _ => rfl)
      | false => exact kitAny_cons (kit_ty (isC_ok hc)) (fun _ => isAny_ok h) (fun q => nomatch q)
theorem ty_dq {v : V} {d : D} (z : Same Z H) (hd : Dq K Z v d) : TyX K H v (.type (tyN d)) := by
  cases hd with
  | non => exact .base .non
  | bl b => exact .base (.bl b)
  | int i => exact .base (.int i)
  | str x => exact .base (.str x)
  | lst h _ => exact .base (.lst (z _ _ h))
  | tup h _ =>
    rcases h with (h | ⟨o, h⟩) | ⟨o, its, n, h1, h2, _⟩
    · exact .base (.tup (z _ _ h))
    · exact .fTuple (z _ _ h)
    · exact .kTuple h1 h2
theorem ty_b {r : Option Addr} {v : V} {d : D} {Hx : Hp} (z : Same Z H) (hd : RelB r K Hx d v Z H) : TyX K H v (.type (tyN d)) := by
  rcases hd with h | ⟨p, vs, ds, rfl, rfl, _, _, hp, _⟩ | ⟨p, vs, ds, rfl, rfl, hp, _⟩
  · exact ty_dq z h
  · exact .base (.lst hp)
  · rcases SqL.same z hp with (h | ⟨o, h⟩) | ⟨o, its, n, h1, h2, _⟩
    · exact .base (.lst h)
    · exact .base (.frz h)
    · exact .kList h1 h2
def eIs1 (c : Cl) (f : Env → R D) : Env → R D := fun env => (f env).bind fun d => (R.of (isC d c)).bind fun b => .ok (.bool b)
def eIsAny (cs : List Cl) (f : Env → R D) : Env → R D := fun env => (f env).bind fun d => (R.of (isAny d cs)).bind fun b => .ok (.bool b)
theorem KG.ofB {α β V' : Type} {Rel : α → V' → Hp → Hp → Prop} {o : Option β} {k : β → R α} {Q : V' → Hp → Prop} (h : KG g K W σ b Z H Rel ((R.of o).bind k) Q) : ∃ a, o = some a ∧ KG g K W σ b Z H Rel (k a) Q := by
  cases o with
  | none => exact h.elim
  | some a => exact ⟨a, rfl, h⟩
theorem ve_isi {x : Str} {p p2 : Pos} (c : Cl) (hg : Gl X "isinstance") (hm : X.mg "isinstance" = none) (hgc : Gl X x) (hmc : X.mg x = none) (hv : bootBuiltins x = some (.type c.nm)) (ha : BE g W X e f) (hn : x ≠ "__name__" := by decide) (hdb : (x == ("__debug__" : Str)) = false := by decide)
    (he : starEach [e, .Name x p2] X.env = (false, eval e X.env) :: starEach [.Name x p2] X.env := by rfl) (he2 : starEach [.Name x p2] X.env = (false, eval (.Name x p2) X.env) :: starEach [] X.env := by rfl) (hpl : (backTo pos (starEach [.Name x p2] X.env)).any (·.1) = false := by rfl) :
    VE g W X (.Call (.Name "isinstance" p) [e, .Name x p2] [] pos) (eIs1 c f) :=
  PE.of (pe_callB call_isi hg hm PyProof.Rows.boot_isinstance (pa_cons ha (pa_cons (pe_bltn (v := .ty c.nm) hgc hmc hv rfl hn hdb) pa_nil he2) he) (by decide) (by decide) he hpl) fun σ H Q ⟨b, Z, ow, env, S, k⟩ => ⟨b, Z, ow, env, S, KG.seq S k fun b1 d v H1 Z1 e1 S1 hd k1 => by
    obtain ⟨y, hy, k2⟩ := k1.ofB
    exact ⟨v, .ty c.nm, .type (tyN d), .type c.nm, y, rfl, .ty _, ty_b S1.zh hd, kit_ty (isC_ok hy), KG.ok (Rel := RelD X.K H1) (a := PyData.bool y) S1 k2 (.bl y)⟩⟩
abbrev CLs (X : Cx) (es : List Expr) (cs : List Cl) : Prop := PA X es (fun _ H Q => Q (cs.map fun c => V.ty c.nm) H)
theorem cl_nil : CLs X [] [] := ⟨fun p pins s σ H Q I h => pa_nil.run p pins s σ H Q I h⟩
theorem cl_cons {x : Str} {p2 : Pos} {cs : List Cl} (c : Cl) (hgc : Gl X x) (hmc : X.mg x = none) (hv : bootBuiltins x = some (.type c.nm)) (hr : CLs X es cs) (hn : x ≠ "__name__" := by decide) (hdb : (x == ("__debug__" : Str)) = false := by decide)
    (he : starEach (.Name x p2 :: es) X.env = (false, eval (.Name x p2) X.env) :: starEach es X.env := by rfl) : CLs X (.Name x p2 :: es) (c :: cs) :=
  PA.of (pa_cons (pe_bltn (v := .ty c.nm) hgc hmc hv rfl hn hdb) hr he) fun σ H Q q => q
theorem pair_cl : ∀ cs : List Cl, Paired ClsV (cs.map fun c => V.ty c.nm) (cs.map fun c => .type c.nm)
  | [] => .nil
  | c :: cs => .cons (.ty c.nm) (pair_cl cs)
theorem ve_isiT {p pt : Pos} {kt} {cs : List Cl} (hg : Gl X "isinstance") (hm : X.mg "isinstance" = none) (hc : CLs X es cs) (ha : BE g W X e f) (hsz : Nat.ble cs.length 1000 = true := by rfl)
    (he : starEach [e, .Tuple es kt pt] X.env = (false, eval e X.env) :: starEach [.Tuple es kt pt] X.env := by rfl) (he2 : starEach [.Tuple es kt pt] X.env = (false, eval (.Tuple es kt pt) X.env) :: starEach [] X.env := by rfl) (hpl : (backTo pos (starEach [.Tuple es kt pt] X.env)).any (·.1) = false := by rfl) :
    VE g W X (.Call (.Name "isinstance" p) [e, .Tuple es kt pt] [] pos) (eIsAny cs f) :=
  PE.of (pe_callB call_isiT hg hm PyProof.Rows.boot_isinstance (pa_cons ha (pa_cons (pe_tup hc) pa_nil he2) he) (by decide) (by decide) he hpl) fun σ H Q ⟨b, Z, ow, env, S, k⟩ => ⟨b, Z, ow, env, S, KG.seq S k fun b1 d v H1 Z1 e1 S1 hd k1 => by
    obtain ⟨y, hy, k2⟩ := k1.ofB
    have h1 : cs.length ≤ 1000 := Nat.le_of_ble_eq_true hsz
    have hsl := sizeLine_eq
    refine ⟨by rw [List.length_map]; omega, fun q hq => ?_⟩
    have e2 : Ext none Z1 H1 Z1 (upd H1 q (.tup (cs.map fun c => V.ty c.nm))) := Ext.newU S1.zh hq
    refine ⟨v, q, cs.map fun c => V.ty c.nm, .type (tyN d), cs.map fun c => .type c.nm, y, rfl, upd_same, ?_, ty_b (Z := Z1) e2.zh (RelB.ext (H0 := H1) (H1 := H1) hd e2.lift), isAny_ok hy, ?_⟩
    · exact pair_cl cs
    · exact KG.ok' (Rel := RelD X.K H1) (a := PyData.bool y) S1 k2 e2 (.bl y)⟩
/-! ### count -/
def cntI (k : Int) : List Int → Nat
  | [] => 0
  | i :: r => match eqI i k with
    | true => Nat.succ (cntI k r)
    | false => cntI k r
theorem cntI_eq (k : Int) : ∀ l : List Int, cntI k l = l.count k
  | [] => rfl
  | i :: r => by
    unfold cntI
    rw [eqI_eq, List.count_cons, cntI_eq k r]
    by_cases h : i = k
    · rw [decide_eq_true h, if_pos (by simp [h])]
    · rw [decide_eq_false h, if_neg (by simp [h])]; rfl
def cntD (ds : List D) (c : D) : Option D := match c with
  | .int k => match intsOf ds with
    | some is => some (.int (.ofNat (cntI k is)))
    | none => none
  | _ => none
def eCnt (f h : Env → R D) : Env → R D := fun env => (f env).bind fun x => match x with
  | .list ds => (h env).bind fun y => .of (cntD ds y)
  | _ => .fail
theorem ve_count {o : Expr} {p2 p3 : Pos} (hf : BE g W X o f) (ha : VE g W X e h) (hbase : attributeBase o "count" X.env (eval o X.env) = eval o X.env := by rfl) (hs : starEach [e] X.env = (false, eval e X.env) :: starEach [] X.env := by rfl)
    (hfew : ((backTo p3 (starEach [e] X.env)).all (fun x => !x.1) && (backToKw p3 (keywordEach [] X.env)).all (fun x => x.1.isSome) && decide ([e].length + ([] : List Keyword).length + (if ([] : List Keyword).isEmpty then 0 else 1) < 30)) = true := by rfl)
    (hline : (p2.endLine == p3.line) = true := by rfl) : VE g W X (.Call (.Attribute o "count" p2) [e] [] p3) (eCnt f h) :=
  PE.of (pe_bm PySem.F.plainAttrs_list PySem.F.slot_list_count PySem.F.type_list_count mt_lcount hf (pa_cons ha pa_nil hs) hbase hfew hline hs rfl) fun σ H Q ⟨b, Z, ow, env, S, k⟩ => ⟨b, Z, ow, env, S, KG.seq S k fun b1 x vx H1 Z1 e1 S1 hx k1 => by
    cases x <;> first | exact k1.elim | skip
    rename_i ds
    obtain ⟨a, ys, rfl, h1, h2⟩ := RelB.lst S1.zh hx
    refine ⟨.inl ⟨rfl, ys, h1⟩, b1, Z1, ow, env, S1, KG.seq S1 k1 fun b2 y vy H2 Z2 e2 S2 hy k2 => ?_⟩
    obtain ⟨d, hd, k3⟩ := k2.of
    cases y <;> first | cases hd; done | skip
    rename_i kk
    unfold cntD at hd
    dsimp only at hd
    split at hd
    · rename_i is hi
      cases hd
      have hx2 : RelB g.r X.K H1 (.list ds) (.ref a) Z2 H2 := RelB.ext hx e2
      obtain ⟨a', ys', ea, h3, h4⟩ := RelB.lst S2.zh hx2
      cases ea
      rw [intsOf_eq hi] at h4
      rw [h4.ints] at h3
      rw [Dq.int_ hy]
      refine ⟨a, is, kk, rfl, rfl, h3, ?_⟩
      rw [← cntI_eq]
      exact KG.ok (Rel := RelD X.K H2) S2 k3 (.int _)
    · cases hd⟩
end
end Ev
set_option Elab.async false
set_option linter.all false
set_option maxRecDepth 100000
set_option maxHeartbeats 4000000
/-! Ev14: zip, new lists by operators, reversed slices, two sources, stores in order. -/
namespace Ev
open PySem PySem.Spec PyProof.Rows L2
section
variable {g : G} {W : WX} {X : Cx} {K : PySem.W.Frag} {e : Expr} {es : List Expr} {f h : Env → R D} {σ : L2.St} {b : Nat} {Z H Z0 H0 : Hp} {ow : Nat → Addr} {env : Env} {pos : Pos}
/-! ### zip -/
def zipL : List D → List D → List D
  | x :: xs, y :: ys => .tuple [x, y] :: zipL xs ys
  | _, _ => []
theorem zipL_get : ∀ (xs ys : List D) (i : Nat) (d : D), (zipL xs ys)[i]? = some d → ∃ x y, xs[i]? = some x ∧ ys[i]? = some y ∧ d = .tuple [x, y]
  | [], _, _, _, h => by simp [zipL] at h
  | _ :: _, [], _, _, h => by simp [zipL] at h
  | x :: xs, y :: ys, 0, d, h => by
    have : some (PyData.tuple [x, y]) = some d := h
    cases this
    exact ⟨x, y, rfl, rfl, rfl⟩
  | x :: xs, y :: ys, i + 1, d, h => zipL_get xs ys i d (by simpa [zipL] using h)
theorem zipL_len : ∀ (xs ys : List D), xs.length ≤ (zipL xs ys).length ∨ ys.length ≤ (zipL xs ys).length
  | [], _ => .inl (Nat.zero_le _)
  | _ :: _, [] => .inr (Nat.zero_le _)
  | x :: xs, y :: ys => by
    rcases zipL_len xs ys with h | h
    · exact .inl (Nat.succ_le_succ h)
    · exact .inr (Nat.succ_le_succ h)
theorem it_zipL {a c : Addr} {xs ys : List V} {ds es : List D} (h1 : Z a = some (.lst xs)) (h2 : Z c = some (.lst ys)) (hd : DqAll K Z xs ds) (he : DqAll K Z ys es) : ItOk K Z (Itz K a c) (zipL ds es) := fun Z2 H2 z1 z2 => by
  have e1 : SqL K H2 a xs := SqL.of (z2 _ _ (z1 _ _ h1))
  have e2 : SqL K H2 c ys := SqL.of (z2 _ _ (z1 _ _ h2))
  refine ⟨⟨xs, ys, e1, e2, by rw [hd.len, he.len]; exact zipL_len ds es⟩, fun i d hi => ?_⟩
  obtain ⟨x, y, hx, hy, rfl⟩ := zipL_get ds es i d hi
  obtain ⟨v, hv, qv⟩ := hd.get hx
  obtain ⟨w, hw, qw⟩ := he.get hy
  refine ⟨⟨xs, ys, v, w, e1, e2, hv, hw⟩, fun z H3 ⟨T, p, q, q1, q2, q3, q4, q5⟩ => ?_⟩
  subst q1 q3
  have t1 := q4 xs e1
  have t2 := q5 ys e2
  rw [hv] at t1
  rw [hw] at t2
  cases t1
  cases t2
  have zz := (Ext.new (r := none) (o := .tup [v, w]) z2 q2).zz
  exact ⟨upd Z2 T _, Ext.new z2 q2, .tup (SqT.of upd_same) (.cons ((qv.mono z1).mono zz) (.cons ((qw.mono z1).mono zz) .nil))⟩
theorem it_zipT {a c : Addr} {xs ys : List V} {ds es : List D} (h1 : SqT K Z a xs) (h2 : SqT K Z c ys) (hd : DqAll K Z xs ds) (he : DqAll K Z ys es) : ItOk K Z (RZ.ItzT K a c) (zipL ds es) := fun Z2 H2 z1 z2 => by
  have e1 : SqT K H2 a xs := seqT (z1.trans z2) h1
  have e2 : SqT K H2 c ys := seqT (z1.trans z2) h2
  refine ⟨⟨xs, ys, e1, e2, by rw [hd.len, he.len]; exact zipL_len ds es⟩, fun i d hi => ?_⟩
  obtain ⟨x, y, hx, hy, rfl⟩ := zipL_get ds es i d hi
  obtain ⟨v, hv, qv⟩ := hd.get hx
  obtain ⟨w, hw, qw⟩ := he.get hy
  refine ⟨⟨xs, ys, v, w, e1, e2, hv, hw⟩, fun z H3 ⟨T, p, q, q1, q2, q3, q4, q5⟩ => ?_⟩
  subst q1 q3
  have t1 := q4 xs e1
  have t2 := q5 ys e2
  rw [hv] at t1
  rw [hw] at t2
  cases t1
  cases t2
  have zz := (Ext.new (r := none) (o := .tup [v, w]) z2 q2).zz
  exact ⟨upd Z2 T _, Ext.new z2 q2, .tup (SqT.of upd_same) (.cons ((qv.mono z1).mono zz) (.cons ((qw.mono z1).mono zz) .nil))⟩
def iZp (h : Env → R (List D)) : Env → R (List D) := fun env => (h env).bind fun
  | [.list xs, .list ys] => .ok (zipL xs ys)
  | [.tuple xs, .tuple ys] => .ok (zipL xs ys)
  | _ => .fail
theorem ie_zip {e2 : Expr} {p tpos : Pos} {elts : List Expr} {kk : Nat} {h : Env → R (List D)} (hg : Gl X "zip") (hm : X.mg "zip" = none) (ha : AEs g W X [e, e2] h)
    (hs : starEach [e, e2] X.env = (false, eval e X.env) :: starEach [e2] X.env := by rfl) (hpl : (backTo pos (starEach [e2] X.env)).any (·.1) = false := by rfl) : IE g W X (.Tuple elts kk tpos) (.Call (.Name "zip" p) [e, e2] [] pos) (iZp h) :=
  PI.of (RZ.pi_zipA hg hm ha hs hpl) fun σ H Q ⟨b, Z, ow, env, S, k⟩ => ⟨b, Z, ow, env, S, KG.seq S k fun b1 ds vs H1 Z1 e1 S1 hd k1 => by
    split at k1
    · obtain ⟨x, y, rfl, hx, hy⟩ := DqAll.two hd
      obtain ⟨a, xs, rfl, a1, a2⟩ := Dq.lst_ hx
      obtain ⟨c, ys, rfl, c1, c2⟩ := Dq.lst_ hy
      exact ⟨a, c, xs, ys, rfl, .inl ⟨SqL.of (S1.zh _ _ a1), SqL.of (S1.zh _ _ c1), KG.ok (Rel := RelI X.K H1) S1 k1 (it_zipL a1 c1 a2 c2)⟩⟩
    · obtain ⟨x, y, rfl, hx, hy⟩ := DqAll.two hd
      obtain ⟨a, xs, rfl, a1, a2⟩ := Dq.tup_ hx
      obtain ⟨c, ys, rfl, c1, c2⟩ := Dq.tup_ hy
      exact ⟨a, c, xs, ys, rfl, .inr ⟨seqT S1.zh a1, seqT S1.zh c1, KG.ok (Rel := RelI X.K H1) S1 k1 (it_zipT a1 c1 a2 c2)⟩⟩
    · exact k1.elim⟩
/-! ### new lists by operators -/
def rN2 (K : PySem.W.Frag) (op : D → D → Option (List D)) : R2 := fun x y H Q => ∃ Z dx dy ds, Same Z H ∧ Dq K Z x dx ∧ Dq K Z y dy ∧ op dx dy = some ds ∧ ∀ p vs, H p = none → DqAll K Z vs ds → Q (.ref p) (upd H p (.lst vs))
def nBin (op : D → D → Option (List D)) (f h : Env → R D) : Env → R (List D) := fun env => (f env).bind fun x => (h env).bind fun y => .of (op x y)
theorem ne_bin {o : Operator} {a c : Expr} {op : D → D → Option (List D)} (ho : OpR X (binaryOp o) (rN2 X.K op)) (ha : VE g W X a f) (hb : VE g W X c h) : NE g W X (.BinOp a o c pos) (nBin op f h) :=
  PE.of (pe_op ho ha hb) fun σ H Q ⟨b, Z, ow, env, S, k⟩ => ⟨b, Z, ow, env, S, KG.seq S k fun b1 x vx H1 Z1 e1 S1 hx k1 => ⟨b1, Z1, ow, env, S1, KG.seq S1 k1 fun b2 y vy H2 Z2 e2 S2 hy k2 => by
    obtain ⟨ds, hd, k3⟩ := k2.of
    exact ⟨Z2, x, y, ds, S2.zh, hx.mono e2.zz, hy, hd, fun p vs hp hv => KG.newL (e1.trans' e2 S1.urn) S S2 k3 hp hv⟩⟩⟩
def repD (a c : D) : Option (List D) := match a, c with
  | .list xs, .int k => match leI k 16777216 && smallN (xs.length * k.toNat) && ltI (-9223372036854775808) k with
    | true => some (List.replicate k.toNat xs).flatten
    | false => none
  | _, _ => none
theorem n_mul : OpR X (binaryOp .Mult) (rN2 X.K repD) := fun pins s σ H x y v u Q I rx ry ⟨Z, dx, dy, ds, z, hx, hy, e, q⟩ => by
  unfold repD at e
  split at e
  · split at e
    · cases e
      rename_i hz
      rw [Bool.and_eq_true, Bool.and_eq_true, leI_eq, ltI_eq, decide_eq_true_eq, decide_eq_true_eq] at hz
      obtain ⟨a, vx, rfl, ha, hA⟩ := Dq.lst_ hx
      refine op_rep pins s σ H _ y v u Q I rx ry ⟨a, _, vx, rfl, Dq.int_ hy, z _ _ ha, by omega, by omega, ?_, fun p hp => q p _ hp (hA.rep _)⟩
      rw [hA.len]; exact smallN_ok hz.1.2
    · cases e
  · cases e
def catD (a c : D) : Option (List D) := match a, c with
  | .list xs, .list ys => match smallN (xs.length + ys.length) with
    | true => some (xs ++ ys)
    | false => none
  | _, _ => none
theorem n_add : OpR X (binaryOp .Add) (rN2 X.K catD) := fun pins s σ H x y v u Q I rx ry ⟨Z, dx, dy, ds, z, hx, hy, e, q⟩ => by
  unfold catD at e
  split at e
  · split at e
    · cases e
      rename_i hz
      obtain ⟨a, vx, rfl, ha, hA⟩ := Dq.lst_ hx
      obtain ⟨c, vy, rfl, hc, hC⟩ := Dq.lst_ hy
      refine op_cat pins s σ H _ _ v u Q I rx ry ⟨a, c, vx, vy, rfl, rfl, z _ _ ha, z _ _ hc, ?_, fun p hp => q p _ hp (hA.app hC)⟩
      rw [hA.len, hC.len]; exact smallN_ok hz
    · cases e
  · cases e
/-! ### t[::-1] -/
def tRevT (K : PySem.W.Frag) (te : TE) : TE := fun σ H Q => te σ H fun x H1 => (∃ a xs, x = .ref a ∧ SqL K H1 a xs ∧ ∀ p, H1 p = none → Q (.ref p) (upd H1 p (.lst xs.reverse))) ∨ ∃ a xs, x = .ref a ∧ SqT K H1 a xs ∧ ∀ p, H1 p = none → Q (.ref p) (upd H1 p (.tup xs.reverse))
theorem pe_revA {te : TE} {k : Nat} {p1 p2 p3 : Pos} (he : PE X e te) : PE X (.Subscript e (.Slice none none (some (.UnaryOp .USub (.Constant (.int 1) k p1) p2)) p3) pos) (tRevT X.K te) := by
  refine ⟨fun pins s σ H Q I h => ?_⟩
  refine Subscript_ (thn (he.run pins s σ H _ I h) fun v s1 ⟨x, H1, I1, r1, q1⟩ => ?_)
  have hst : PO X (some (.UnaryOp .USub (.Constant (.int 1) k p1) p2)) (tPart (tUn (rU fun i => .int (-i)) (tC (.int 1)))) := po_some (pe_un un_neg pe_int)
  refine wpAny_Slice (thn (po_none.run pins s1 σ H1 (fun o H2 => o = none ∧ H2 = H1) I1 ⟨rfl, rfl⟩) fun vl s2 ⟨l, H2, I2, pl, el, e2⟩ => ?_)
  subst el e2
  refine thn (po_none.run pins s2 σ H2 (fun o H3 => o = none ∧ H3 = H2) I2 ⟨rfl, rfl⟩) fun vu s3 ⟨u, H3, I3, pu, eu, e3⟩ => ?_
  subst eu e3
  refine thn (hst.run pins s3 σ H3 (fun o H4 => o = some (-1) ∧ H4 = H3) I3 ⟨1, rfl, -1, rfl, rfl, rfl⟩) fun vs s4 ⟨o, H4, I4, ps, eo, e4⟩ => ?_
  subst eo e4
  have I5 : Inv X pins σ H4 { s4 with heap := s4.heap.push { cls := .type "slice", data := .fields #[vl, vu, vs] } } := I4.kept (t' := s4.toks) fun b ob q => Heap.get?_push_of_some _ q
  rcases q1 with ⟨a, xs, ex, hx, q⟩ | ⟨a, xs, ex, hx, q⟩
  · subst ex
    cases r1
    obtain ⟨its, r, ht, hz⟩ := I5.list hx
    have hlen := r.length
    show wpAny (model X.prog X.w) X.A (subscriptTail e (.Slice none none (some (.UnaryOp .USub (.Constant (.int 1) k p1) p2)) p3) (.ref a) (.ref s4.heap.objs.size)) (EP X pins σ Q) X.xe { s4 with heap := s4.heap.push { cls := .type "slice", data := .fields #[vl, vu, vs] } }
    refine tail_any (ops := [.ref a, .ref s4.heap.objs.size]) ht.isList.typeIs (PySem.slot_list_getitem.lookup) ?_ (by with_unfolding_all rfl)
    refine wpAny_getItem_list_slice ht.isList (Heap.IsSliceOf.new _ vl vu vs) pl pu ps (by decide) ?_ (by rw [List.size_toArray]; omega)
    rw [PySem.W.krv_pick]
    refine ⟨.ref _, _, I5.laid (t' := s4.toks) (o := .lst xs.reverse) (fun b ob q => Heap.get?_push_of_some _ q) (Nat.le_refl _) ?_, rfl, q _ (I5.hok.fresh (Nat.le_refl _))⟩
    exact ⟨by rw [List.length_reverse]; exact hz, _, 0, r.reverse, Heap.get?_push_size _ rfl⟩
  · subst ex
    cases r1
    cases pl
    cases pu
    cases ps
    obtain ⟨its, r, ht, hz⟩ := I5.tuple hx
    have hlen := r.length
    refine tail_any (ops := [.ref a, .ref s4.heap.objs.size]) ht.typeIs (PyProof.Rows.slot_tuple_getitem.lookup) ?_ (by with_unfolding_all rfl)
    refine HT.getItem_tuple_rev ht (Heap.IsSliceOf.new _ _ _ _) ?_ (by rw [List.size_toArray]; omega)
    refine ⟨.ref _, _, I5.laid (t' := s4.toks) (o := .tup xs.reverse) (fun b ob q => Heap.get?_push_of_some _ q) (Nat.le_refl _) ?_, rfl, q _ (I5.hok.fresh (Nat.le_refl _))⟩
    exact ⟨by rw [List.length_reverse]; exact hz, _, by simpa using r.reverse, IsTup.new _ _⟩
def revD (d : D) : Option D := match d with
  | .tuple ds => some (.tuple (List.reverse ds))
  | .list ds => some (.list (List.reverse ds))
  | _ => none
theorem ve_rev {k : Nat} {p1 p2 p3 : Pos} (he : BE g W X e f) : VE g W X (.Subscript e (.Slice none none (some (.UnaryOp .USub (.Constant (.int 1) k p1) p2)) p3) pos) (eUn revD f) :=
  PE.of (pe_revA he) fun σ H Q ⟨b, Z, ow, env, S, k⟩ => ⟨b, Z, ow, env, S, KG.seq S k fun b1 d v H1 Z1 e1 S1 hd k1 => by
    obtain ⟨y, hy, k2⟩ := k1.of
    unfold revD at hy
    split at hy
    · cases hy
      obtain ⟨a, xs, rfl, h1, h2, _⟩ := RelB.tup S1.zh hd
      exact .inr ⟨a, xs, rfl, h1, fun p hp => KG.ok' (Rel := RelD X.K H1) S1 k2 (Ext.new (r := none) S1.zh hp) (.tup (SqT.of upd_same) (h2.revA.mono (Ext.new (r := none) S1.zh hp).zz))⟩
    · cases hy
      obtain ⟨a, xs, rfl, h1, h2⟩ := RelB.lst S1.zh hd
      exact .inl ⟨a, xs, rfl, h1, fun p hp => KG.ok' (Rel := RelD X.K H1) S1 k2 (Ext.new (r := none) S1.zh hp) (.lst upd_same (h2.revA.mono (Ext.new (r := none) S1.zh hp).zz))⟩
    · cases hy⟩
end
end Ev
set_option Elab.async false
set_option linter.all false
set_option maxRecDepth 100000
set_option maxHeartbeats 4000000
/-! Ev15: comprehensions of two sources, stores in order. -/
namespace Ev
open PySem PySem.Spec PyProof.Rows L2
def small4 (n : Nat) : Bool := Nat.ble n 4000
def lc2L (vs1 : List Nat) (t : Tg) (c : Env → R Bool) (t1 : Tg) (it1 : Env → R (List D)) (c1 : Env → R Bool) (f : Env → R D) (env : Env) : List D → R (List D)
  | [] => .ok []
  | d :: ds => (R.of (bindT t d env)).bind fun env1 => (c env1).nox.bind fun
    | true => (it1 env1).nox.bind fun ds1 => match small4 ds1.length with
      | true => (lcL t1 c1 f (fgtL vs1 env1) ds1).nox.bind fun ys => (lc2L vs1 t c t1 it1 c1 f env ds).bind fun zs => .ok (ys ++ zs)
      | false => .fail
    | false => lc2L vs1 t c t1 it1 c1 f env ds
def nLc2 (vs vs1 : List Nat) (t : Tg) (it : Env → R (List D)) (c : Env → R Bool) (t1 : Tg) (it1 : Env → R (List D)) (c1 : Env → R Bool) (f : Env → R D) : Env → R (List D) := fun env => (it env).bind fun ds => match small4 ds.length && (subL t.ixs vs && subL t1.ixs vs1) with
  | true => lc2L vs1 t c t1 it1 c1 f (fgtL vs env) ds
  | false => .fail
section
variable {g : G} {W : WX} {X : Cx} {K : PySem.W.Frag} {Z0 H0 : Hp} {e : Expr} {pos : Pos} {σ : L2.St} {b : Nat} {Z H : Hp} {ow : Nat → Addr} {env : Env} {E : Ends}
theorem bind_ok' {α β : Type} {m : R α} {f : α → R β} : (m.bind fun a => f a) = m.bind f := rfl
/-- the list so far -/
structure Acc (g : G) (K : PySem.W.Frag) (Z1 H1 : Hp) (P : Addr) (b2 : Nat) (Z2 H2 : Hp) (done : List D) : Prop where
  ex : Ext g.r Z1 H1 Z2 H2
  ur : UrnO g.r b2 Z2 H2
  zp : Z2 P = none
  hp : ∃ ys, H2 P = some (.lst ys) ∧ DqAll K Z2 ys done
theorem Acc.step {Z1 H1 Z2 H2 Z3 H3 : Hp} {P : Addr} {b2 b3 : Nat} {done : List D} (A : Acc g K Z1 H1 P b2 Z2 H2 done) (rP : g.r ≠ some P) (e : Ext g.r Z2 H2 Z3 H3) (u : UrnO g.r b3 Z3 H3) : Acc g K Z1 H1 P b3 Z3 H3 done :=
  let ⟨ys, h1, h2⟩ := A.hp
  ⟨A.ex.trans' e A.ur, u, e.out _ _ h1 A.zp, ys, e.keep _ _ h1 A.zp rP, h2.mono e.zz⟩
theorem Acc.push {Z1 H1 Z2 H2 : Hp} {P : Addr} {b2 : Nat} {done : List D} {y : D} {vy : V} (A : Acc g K Z1 H1 P b2 Z2 H2 done) (hP : H1 P = none) (rP : g.r ≠ some P) (hv : Dq K Z2 vy y) :
    ∃ ys, H2 P = some (.lst ys) ∧ ys.length = done.length ∧ Acc g K Z1 H1 P b2 Z2 (upd H2 P (.lst (ys ++ [vy]))) (done ++ [y]) := by
  obtain ⟨ys, h1, h2⟩ := A.hp
  refine ⟨ys, h1, h2.len, ⟨A.ex.zz, fun a o q => by rw [upd_ne (ne_of_none q A.zp)]; exact A.ex.zh a o q, fun a o q z n => by rw [upd_ne (ne_of_none q hP)]; exact A.ex.keep a o q z n, A.ex.out⟩, ?_, A.zp, _, upd_same, h2.app (.cons hv .nil)⟩
  have u5 := A.ur
  cases hr : g.r with
  | none => trivial
  | some a =>
    rw [hr] at u5 rP
    obtain ⟨z, p, q, cc, h, tt⟩ := u5
    exact ⟨z, p, q, cc, by rw [upd_ne (fun w => rP (by rw [w]))]; exact h, tt⟩
theorem SE.updP {r : Option Addr} {P : Addr} {o : HO} (S : SE r b K Z H ow σ env) (hz : Z P = none) (hr : r ≠ some P) (no : ∀ i ds, sl env i = .ow ds → ow i ≠ P) : SE r b K Z (upd H P o) ow σ env := by
  refine ⟨fun a x q => by rw [upd_ne (ne_of_none q hz)]; exact S.zh a x q, ?_, fun i => ?_, S.len⟩
  · have u5 := S.urn
    cases hr' : r with
    | none => trivial
    | some a =>
      rw [hr'] at u5 hr
      obtain ⟨z, p, q, cc, h, tt⟩ := u5
      exact ⟨z, p, q, cc, by rw [upd_ne (fun w => hr (by rw [w]))]; exact h, tt⟩
  · have a := S.at_ i
    generalize hs : sl env i = s at a ⊢
    cases s with
    | un => trivial
    | va d => exact a
    | ow ds =>
      obtain ⟨q1, q2, q3, ws, q4, q5⟩ := a
      exact ⟨q1, q2, q3, ws, by rw [upd_ne (no i ds hs)]; exact q4, q5⟩
    | ur => exact a
theorem fgtL_ol {vs : List Nat} {env : Env} {i : Nat} {ds : Ob} (h : sl (fgtL vs env) i = .ow ds) : sl env i = .ow ds := by
  rw [sl_fgtL] at h
  split at h
  · cases h
  · exact h
theorem bindL_ol : ∀ {is : List Nat} {ds : List D} {env env' : Env} {i : Nat} {es : Ob}, bindL is ds env = some env' → sl env' i = .ow es → sl env i = .ow es
  | [], [], _, _, _, _, h, e => by cases h; exact e
  | j :: is, d :: ds, env, _, i, es, h, e => by
    have q := bindL_ol (is := is) h e
    rw [slS] at q
    split at q
    · cases q
    · exact q
  | [], _ :: _, _, _, _, _, h, _ => by cases h
  | _ :: _, [], _, _, _, _, h, _ => by cases h
theorem bindT_ol {t : Tg} {d : D} {env env' : Env} {i : Nat} {es : Ob} (h : bindT t d env = some env') (e : sl env' i = .ow es) : sl env i = .ow es := by
  cases t with
  | one j =>
    cases h
    rw [slS] at e
    split at e
    · cases e
    · exact e
  | tup is =>
    cases d <;> first | cases h; done | skip
    exact bindL_ol h e
/-- one clause's own loop: from it Nx is reached -/
theorem lc_loop {t1 : Tg} {c1 : Env → R Bool} {f : Env → R D} {vs1 : List Nat} {Z1 H1 Z4 H4 : Hp} {P : Addr} {σ2 : L2.St} {env2 : Env} {b4 : Nat} {done : List D} {ds1 : List D} {J1 : It} {m0 : Nat} {Nx : Hp → Prop}
    (hP : H1 P = none) (rP : g.r ≠ some P) (no : ∀ i ds, sl env2 i = .ow ds → ow i ≠ P) (hsub : ∀ i ∈ t1.ixs, i ∈ vs1) (S4 : SE g.r b4 K Z4 H4 ow σ2 env2) (A4 : Acc g K Z1 H1 P b4 Z4 H4 done) (hJ : ItOk K Z4 J1 ds1) (hd : done.length ≤ m0) (hm : m0 + ds1.length < sizeLine)
    (kk : (lcL t1 c1 f (fgtL vs1 env2) ds1).post b4 (fun b5 ys => ∀ Z5 H5, Acc g K Z1 H1 P b5 Z5 H5 (done ++ ys) → (done ++ ys).length ≤ m0 + ds1.length → Nx H5) fun _ _ => False) :
    ∃ W1 : Nat → Nat → Hp → Prop, (∃ m, W1 0 m H4) ∧ ∀ j k H, W1 j k H →
      (J1.stop j H ∧ Nx H) ∨ (J1.go j H ∧ ∃ Nx1 : Hp → Prop, (∀ H', Nx1 H' → ∃ k', k' < k ∧ W1 (j + 1) k' H') ∧ ∀ x H', J1.yld j H x H' → tgG K t1 x (wipe σ2 vs1) H' fun σ3 H5 => wipe σ3 vs1 = wipe σ2 vs1 ∧ tG g K W0 RelT c1 σ3 H5 fun b H6 =>
        if b = true then tG g K W0 (RelD K) f σ3 H6 fun y H7 => ∃ acc, H7 P = some (.lst acc) ∧ acc.length < sizeLine ∧ Nx1 (upd H7 P (.lst (acc ++ [y]))) else Nx1 H6) := by
  refine ⟨fun j k H => ∃ b5 Z5 done5, Same Z4 Z5 ∧ Ext g.r Z4 H4 Z4 H4 ∧ SE g.r b5 K Z5 H ow (wipe σ2 vs1) (fgtL vs1 env2) ∧ Acc g K Z1 H1 P b5 Z5 H done5 ∧ j ≤ ds1.length ∧ k = ds1.length - j ∧ done5.length ≤ m0 + j ∧
    (lcL t1 c1 f (fgtL vs1 env2) (ds1.drop j)).post b5 (fun b6 ys => ∀ Z6 H6, Acc g K Z1 H1 P b6 Z6 H6 (done5 ++ ys) → (done5 ++ ys).length ≤ m0 + ds1.length → Nx H6) fun _ _ => False,
    ⟨ds1.length, b4, Z4, done, Same.refl _, Ext.refl S4.zh, S4.wipe vs1, A4, Nat.zero_le _, rfl, hd, by rw [List.drop_zero]; exact kk⟩, ?_⟩
  rintro j k H5 ⟨b5, Z5, done5, z5, _, S5, A5, hj, rfl, hl5, k5⟩
  obtain ⟨j1, j2⟩ := hJ Z5 H5 z5 S5.zh
  by_cases hlt : j < ds1.length
  · obtain ⟨d, hd'⟩ : ∃ d, ds1[j]? = some d := ⟨ds1[j], by simp [hlt]⟩
    obtain ⟨hgo, hy⟩ := j2 j d hd'
    have hdrop : ds1.drop j = d :: ds1.drop (j + 1) := by
      rw [List.drop_eq_getElem_cons hlt]
      rw [List.getElem?_eq_getElem hlt] at hd'
      rw [Option.some.inj hd']
    rw [hdrop] at k5
    refine .inr ⟨hgo, fun H6 => ∃ b6 Z6 done6, Same Z4 Z6 ∧ SE g.r b6 K Z6 H6 ow (wipe σ2 vs1) (fgtL vs1 env2) ∧ Acc g K Z1 H1 P b6 Z6 H6 done6 ∧ done6.length ≤ m0 + (j + 1) ∧
      (lcL t1 c1 f (fgtL vs1 env2) (ds1.drop (j + 1))).post b6 (fun b7 ys => ∀ Z7 H7, Acc g K Z1 H1 P b7 Z7 H7 (done6 ++ ys) → (done6 ++ ys).length ≤ m0 + ds1.length → Nx H7) fun _ _ => False,
      fun H6 ⟨b6, Z6, done6, x1, x2, x3, x4, x5⟩ => ⟨ds1.length - (j + 1), by omega, b6, Z6, done6, x1, Ext.refl S4.zh, x2, x3, hlt, rfl, x4, x5⟩, fun x H6 hx => ?_⟩
    obtain ⟨Z6, e6, hx6⟩ := hy x H6 hx
    have u6 := S5.urn.step e6
    have A6 := A5.step rP e6.lift u6
    have S6 := S5.ext e6.lift u6
    have k6 : ((R.of (bindT t1 d (fgtL vs1 env2))).bind fun env1 => (c1 env1).nox.bind fun b => match b with
      | true => (f env1).nox.bind fun y => (lcL t1 c1 f (fgtL vs1 env2) (ds1.drop (j + 1))).bind fun r => .ok (y :: r)
      | false => lcL t1 c1 f (fgtL vs1 env2) (ds1.drop (j + 1))).post b5 (fun b6 ys => ∀ Z6 H6, Acc g K Z1 H1 P b6 Z6 H6 (done5 ++ ys) → (done5 ++ ys).length ≤ m0 + ds1.length → Nx H6) fun _ _ => False := k5
    obtain ⟨env3, hb, k7⟩ := R.of_post (R.post_bind k6)
    refine tgG_of ((bind_okE (Q := fun σ2 H2 => SE g.r b5 K Z6 H2 ow σ2 env3 ∧ H2 = H6) S6 hx6 hb fun σ' S' => ⟨S', rfl⟩).imp hsub fun σ3 hw ⟨S7, _⟩ => ⟨hw.trans (by
      apply wipe_eq (wipe_length σ2 vs1)
      intro j hj
      rw [wipe_at, if_neg (fun q => hj q.1)]), ?_⟩)
    refine ⟨b5, Z6, ow, env3, S7, R.post_nox (R.post_mono (fun b8 cb k8 => ?_) (fun _ _ q => q) (R.post_bind k7))⟩
    intro cb' H8 Z8 e8 u8 hcb
    cases hcb
    have A8 := A6.step rP e8 u8
    cases cb with
    | false =>
      rw [if_neg Bool.false_ne_true]
      exact ⟨b8, Z8, done5, z5.trans (e6.zz.trans e8.zz), S6.ext e8 u8, A8, by omega, k8⟩
    | true =>
      rw [if_pos rfl]
      refine ⟨b8, Z8, ow, env3, S7.ext e8 u8, R.post_nox (R.post_mono (fun b9 y k9 => ?_) (fun _ _ q => q) (R.post_bind k8))⟩
      intro vy H9 Z9 e9 u9 hvy
      have A9 := A8.step rP e9 u9
      obtain ⟨ys, hys, hyl, A10⟩ := A9.push hP rP hvy
      have S9 := (S6.ext e8 u8).ext e9 u9
      refine ⟨ys, hys, by omega, b9, Z9, done5 ++ [y], z5.trans (e6.zz.trans (e8.zz.trans e9.zz)), ?_, A10, by rw [List.length_append]; show _ + 1 ≤ _; omega, ?_⟩
      · exact S9.updP A9.zp rP fun i ds q => no i ds (fgtL_ol q)
      · exact R.post_mono (fun b10 r q Z H A hl => q Z H (by simpa using A) (by simpa using hl)) (fun _ _ q => q) (R.post_bind k9)
  · have e : j = ds1.length := by omega
    subst e
    rw [List.drop_length] at k5
    exact .inl ⟨j1, k5 Z5 H5 (by rw [List.append_nil]; exact A5) (by rw [List.append_nil]; exact hl5)⟩
theorem lc2_of {vs vs1 : List Nat} {t t1 : Tg} {it it1 : Env → R (List D)} {c c1 : Env → R Bool} {f : Env → R D} {Q : VK} (q : tG g K W (RelN g.r K) (nLc2 vs vs1 t it c t1 it1 c1 f) σ H Q) :
    tLc2 (tG g K W (RelI K) it) (tgG K t) (tG g K W0 RelT c) (tG g K W0 (RelI K) it1) (tgG K t1) (tG g K W0 RelT c1) (tG g K W0 (RelD K) f) vs vs1 σ H Q := by
  obtain ⟨b, Z, ow, env, S, k⟩ := q
  refine ⟨b, Z, ow, env, S, KG.seq S k fun b1 ds J H1 Z1 e1 S1 hJ k1 => fun P hP => ?_⟩
  cases hz : small4 ds.length && (subL t.ixs vs && subL t1.ixs vs1) <;> rw [hz] at k1 <;> first | exact k1.elim | skip
  rw [Bool.and_eq_true, Bool.and_eq_true] at hz
  have hsz : ds.length ≤ 4000 := Nat.le_of_ble_eq_true hz.1
  have hsub := subL_ok hz.2.1
  have hsub1 := subL_ok hz.2.2
  have hsl := sizeLine_eq
  have hPH : H P = none := SE.was S S1 e1 hP
  have rP : g.r ≠ some P := S1.urn.ne hP
  have zP1 : Z1 P = none := S1.zh.free hP
  refine ⟨fun i m H2 => ∃ b2 Z2 done, Acc g K Z1 H1 P b2 Z2 H2 done ∧ done.length ≤ i * 4000 ∧ i ≤ ds.length ∧ m = ds.length - i ∧
    KG g K W σ b2 Z1 H1 (RelN g.r K H) ((lc2L vs1 t c t1 it1 c1 f (fgtL vs env) (ds.drop i)).bind fun rest => .ok (done ++ rest)) Q,
    ⟨ds.length, b1, Z1, [], ⟨Ext.newU S1.zh hP, S1.urn.newU hP, zP1, [], upd_same, .nil⟩, Nat.zero_le _, Nat.zero_le _, rfl, ?_⟩, ?_⟩
  · rw [List.drop_zero]
    have : ((lc2L vs1 t c t1 it1 c1 f (fgtL vs env) ds).bind fun rest => R.ok ([] ++ rest)) = lc2L vs1 t c t1 it1 c1 f (fgtL vs env) ds := R.bind_ok
    rw [this]
    exact k1
  rintro i m H2 ⟨b2, Z2, done, A2, hi1, hi2, rfl, k2⟩
  obtain ⟨j1, j2⟩ := hJ Z2 H2 A2.ex.zz A2.ex.zh
  by_cases hlt : i < ds.length
  · obtain ⟨d, hd⟩ : ∃ d, ds[i]? = some d := ⟨ds[i], by simp [hlt]⟩
    obtain ⟨hgo, hy⟩ := j2 i d hd
    have hdrop : ds.drop i = d :: ds.drop (i + 1) := by
      rw [List.drop_eq_getElem_cons hlt]
      rw [List.getElem?_eq_getElem hlt] at hd
      rw [Option.some.inj hd]
    rw [hdrop] at k2
    refine .inr ⟨hgo, fun H3 => ∃ b3 Z3 done, Acc g K Z1 H1 P b3 Z3 H3 done ∧ done.length ≤ (i + 1) * 4000 ∧
      KG g K W σ b3 Z1 H1 (RelN g.r K H) ((lc2L vs1 t c t1 it1 c1 f (fgtL vs env) (ds.drop (i + 1))).bind fun rest => .ok (done ++ rest)) Q,
      fun H3 ⟨b3, Z3, done3, x1, x2, x3⟩ => ⟨ds.length - (i + 1), by omega, b3, Z3, done3, x1, x2, hlt, rfl, x3⟩, fun x H3 hx => ?_⟩
    obtain ⟨Z3, e3, hx3⟩ := hy x H3 hx
    have u3 := A2.ur.step e3
    have A3 := A2.step rP e3.lift u3
    have S3 : SE g.r b2 K Z3 H3 ow (wipe σ vs) (fgtL vs env) := (S1.ext A3.ex u3).wipe vs
    have k3 : KG g K W σ b2 Z1 H1 (RelN g.r K H) ((R.of (bindT t d (fgtL vs env))).bind fun env1 => (c env1).nox.bind fun b => match b with
      | true => (it1 env1).nox.bind fun ds1 => match small4 ds1.length with
        | true => (lcL t1 c1 f (fgtL vs1 env1) ds1).nox.bind fun ys => (lc2L vs1 t c t1 it1 c1 f (fgtL vs env) (ds.drop (i + 1))).bind fun r => .ok (done ++ (ys ++ r))
        | false => .fail
      | false => (lc2L vs1 t c t1 it1 c1 f (fgtL vs env) (ds.drop (i + 1))).bind fun r => .ok (done ++ r)) Q := by
      have e : ((lc2L vs1 t c t1 it1 c1 f (fgtL vs env) (d :: ds.drop (i + 1))).bind fun rest => R.ok (done ++ rest)) = _ := R.bind_assoc
      rw [e] at k2
      refine cast ?_ k2
      congr 2
      funext env1
      rw [R.bind_assoc]
      congr 1
      funext b
      cases b with
      | false => rfl
      | true =>
        show (R.bind _ _).bind _ = _
        rw [R.bind_assoc]
        congr 1
        funext ds1
        cases small4 ds1.length with
        | false => rfl
        | true =>
          show (R.bind _ _).bind _ = _
          rw [R.bind_assoc]
          congr 1
          funext ys
          exact R.bind_assoc
    obtain ⟨env1, hb, k4⟩ := R.of_post (R.post_bind k3)
    refine tgG_of ((bind_okE (Q := fun σ2 H2 => SE g.r b2 K Z3 H2 ow σ2 env1 ∧ H2 = H3) S3 hx3 hb fun σ' S' => ⟨S', rfl⟩).imp hsub fun σ2 hw ⟨S4, _⟩ => ⟨hw.trans (by
      apply wipe_eq (wipe_length σ vs)
      intro j hj
      rw [wipe_at, if_neg (fun q => hj q.1)]), ?_⟩)
    refine ⟨b2, Z3, ow, env1, S4, KG.nox_of k4 fun b4 cb k5 => ?_⟩
    intro cb' H4 Z4 e4 u4 hcb
    cases hcb
    have A4 := A3.step rP e4 u4
    cases cb with
    | false =>
      rw [if_neg Bool.false_ne_true]
      exact ⟨b4, Z4, done, A4, by omega, k5⟩
    | true =>
      rw [if_pos rfl]
      refine ⟨b4, Z4, ow, env1, S4.ext e4 u4, KG.nox_of k5 fun b5 ds1 k6 => ?_⟩
      intro J1 H5 Z5 e5 u5 hJ1
      have A5 := A4.step rP e5 u5
      cases hz1 : small4 ds1.length <;> rw [hz1] at k6 <;> first | exact k6.elim | skip
      have hsz1 : ds1.length ≤ 4000 := Nat.le_of_ble_eq_true hz1
      refine lc_loop (m0 := i * 4000) hP rP (fun i ds q => ?_) hsub1 ((S4.ext e4 u4).ext e5 u5) A5 hJ1 hi1 (by omega) ?_
      · have q2 := fgtL_ol (bindT_ol hb q)
        have a := S1.at_ i
        rw [q2] at a
        obtain ⟨_, _, _, ws, h2, _⟩ := a
        intro e
        rw [e, hP] at h2
        cases h2
      · refine KG.nox_of k6 fun b7 ys q Z7 H7 A7 hl => ⟨b7, Z7, done ++ ys, A7, by omega, ?_⟩
        have q' : KG g K W σ b7 Z1 H1 (RelN g.r K H) ((lc2L vs1 t c t1 it1 c1 f (fgtL vs env) (ds.drop (i + 1))).bind fun r => .ok (done ++ (ys ++ r))) Q := q
        refine cast ?_ q'
        congr 2
        funext r
        rw [List.append_assoc]
  · have e : i = ds.length := by omega
    subst e
    rw [List.drop_length] at k2
    refine .inl ⟨j1, ?_⟩
    have k3 : KG g K W σ b2 Z1 H1 (RelN g.r K H) (.ok (done ++ [])) Q := k2
    rw [List.append_nil] at k3
    obtain ⟨ys, h1, h2⟩ := A2.hp
    exact k3 _ _ Z2 A2.ex A2.ur ⟨P, ys, rfl, hPH, A2.zp, rP, h1, h2⟩
theorem ne_lc2 {elt tg iter tg1 iter1 : Expr} {ifs ifs1 : List Expr} {scope : Scope} {own : List (Str × Nat)} {vs1 : List Nat} {t t1 : Tg} {it it1 : Env → R (List D)} {c c1 : Env → R Bool} {f : Env → R D} (hc : X.calm = true) (hN : X.N.Nodup) (hi : IE g W X tg iter it) (ok : BlkOk X.N X.env.scope scope own) (hv : subL vs1 (own.map (·.2)) = true)
    (hg : ∀ (s : Shared) (H : Hp) (C : Addr) (cl : List (Str × Addr)) (fp : List Addr), PTg (X.blk s H scope (compEnvC scope cl C X.env) fp) tg t) (ht : ∀ (s : Shared) (H : Hp) (C : Addr) (cl : List (Str × Addr)) (fp : List Addr), PTs (X.blk s H scope (compEnvC scope cl C X.env) fp) ifs (tG g X.K W0 RelT c))
    (hi1 : ∀ (s : Shared) (H : Hp) (C : Addr) (cl : List (Str × Addr)) (fp : List Addr), IE g W0 (X.blk s H scope (compEnvC scope cl C X.env) fp) tg1 iter1 it1)
    (hg1 : ∀ (s : Shared) (H : Hp) (C : Addr) (cl : List (Str × Addr)) (fp : List Addr), PTg (X.blk s H scope (compEnvC scope cl C X.env) fp) tg1 t1) (ht1 : ∀ (s : Shared) (H : Hp) (C : Addr) (cl : List (Str × Addr)) (fp : List Addr), PTs (X.blk s H scope (compEnvC scope cl C X.env) fp) ifs1 (tG g X.K W0 RelT c1))
    (he : ∀ (s : Shared) (H : Hp) (C : Addr) (cl : List (Str × Addr)) (fp : List Addr), VE g W0 (X.blk s H scope (compEnvC scope cl C X.env) fp) elt f) (hs : ∀ x, foldedSetIterable iter X.env x = pure x := by intro _; rfl) (hs1 : ∀ env x, foldedSetIterable iter1 env x = pure x := by intro _ _; rfl) :
    NE g W X (.ListComp elt [⟨tg, iter, ifs, 0⟩, ⟨tg1, iter1, ifs1, 0⟩] scope pos) (nLc2 (own.map (·.2)) vs1 t it c t1 it1 c1 f) :=
  PE.of (pe_lc2 hc hN hi ok (subL_ok hv) hg ht hi1 hg1 ht1 he hs hs1) fun _ _ _ q => lc2_of q
theorem vs_lc2New {i : Nat} {y : Str} {py spos : Pos} {elt tg iter tg1 iter1 : Expr} {ifs ifs1 : List Expr} {scope : Scope} {own : List (Str × Nat)} {vs1 : List Nat} {t t1 : Tg} {it it1 : Env → R (List D)} {c c1 : Env → R Bool} {f : Env → R D} (hc : X.calm = true) (hN : X.N.Nodup) (hy : X.N[i]? = some y) (hyl : X.env.scope.names.lookup y = some .local)
    (hsw : swapsWith (.ListComp elt [⟨tg, iter, ifs, 0⟩, ⟨tg1, iter1, ifs1, 0⟩] scope pos) (some (.Name y py)) spos.line X.env = pure true) (hi : IE g W X tg iter it) (ok : BlkOk X.N X.env.scope scope own) (hv : subL vs1 (own.map (·.2)) = true)
    (hg : ∀ (s : Shared) (H : Hp) (C : Addr) (cl : List (Str × Addr)) (fp : List Addr), PTg (X.blk s H scope (compEnvC scope cl C X.env) fp) tg t) (ht : ∀ (s : Shared) (H : Hp) (C : Addr) (cl : List (Str × Addr)) (fp : List Addr), PTs (X.blk s H scope (compEnvC scope cl C X.env) fp) ifs (tG g X.K W0 RelT c))
    (hi1 : ∀ (s : Shared) (H : Hp) (C : Addr) (cl : List (Str × Addr)) (fp : List Addr), IE g W0 (X.blk s H scope (compEnvC scope cl C X.env) fp) tg1 iter1 it1)
    (hg1 : ∀ (s : Shared) (H : Hp) (C : Addr) (cl : List (Str × Addr)) (fp : List Addr), PTg (X.blk s H scope (compEnvC scope cl C X.env) fp) tg1 t1) (ht1 : ∀ (s : Shared) (H : Hp) (C : Addr) (cl : List (Str × Addr)) (fp : List Addr), PTs (X.blk s H scope (compEnvC scope cl C X.env) fp) ifs1 (tG g X.K W0 RelT c1))
    (he : ∀ (s : Shared) (H : Hp) (C : Addr) (cl : List (Str × Addr)) (fp : List Addr), VE g W0 (X.blk s H scope (compEnvC scope cl C X.env) fp) elt f) (hs : ∀ x, foldedSetIterable iter X.env x = pure x := by intro _; rfl) (hs1 : ∀ env x, foldedSetIterable iter1 env x = pure x := by intro _ _; rfl) :
    VS g W Z0 H0 X (.Assign [.Name y py] (.ListComp elt [⟨tg, iter, ifs, 0⟩, ⟨tg1, iter1, ifs1, 0⟩] scope pos) spos) (sNew i (nLc2 (own.map (·.2)) vs1 t it c t1 it1 c1 f)) :=
  PS.of (ps_setLc2 hc hN hy hyl hsw hi ok (subL_ok hv) hg ht hi1 hg1 ht1 he hs hs1) fun σ H E q => by
    obtain ⟨b, Z, ow, env, S, k⟩ := q
    have h := new_of (f := nLc2 (own.map (·.2)) vs1 t it c t1 it1 c1 f) (i := i) ⟨b, Z, ow, env, S, k⟩
    exact lc2_of h
/-! ### targets that are places of owned lists -/
inductive Ta where
  | nm (i : Nat)
  | sub (i : Nat) (f : Env → R D)
def asgT : List Ta → List D → Env → (Env → R Flw) → R Flw
  | [], [], env, k => k env
  | .nm i :: ts, d :: ds, env, k => asgT ts ds (setS env i (.va d)) k
  | .sub i f :: ts, d :: ds, env, k => match sl env i with
    | .ow (.l es) => (f env).bindS env fun y => (R.of (ixOf es.length y)).bindS env fun j => asgT ts ds (setS env i (.ol (es.set j d))) k
    | _ => .fail
  | _, _, _, _ => .fail
def gTas (g : G) (K : PySem.W.Frag) (W : WX) : List Ta → TGs
  | [] => gNil
  | .nm i :: r => gCons (gName i) (gTas g K W r)
  | .sub i f :: r => gCons (gSub (tVar i) (tG g K W (RelD K) f) rSetL) (gTas g K W r)
abbrev PTas (g : G) (W : WX) (X : Cx) (es : List Expr) (ts : List Ta) : Prop := PGs X es (gTas g X.K W ts)
theorem ta_nil : PTas g W X [] [] := pgs_nil
theorem ta_nm {i : Nat} {x : Str} {es : List Expr} {ts : List Ta} (hN : X.N.Nodup) (hi : X.N[i]? = some x) (hx : Loc X.env.scope x) (hr : PTas g W X es ts) (hf : X.fn x = true ∨ X.env.scope.names.lookup x = some .local := by first | exact .inl rfl | exact .inr rfl | assumption)
    (hs : (assignEach (.Name x pos :: es) X.env).map (·.2) = assign (.Name x pos) X.env :: (assignEach es X.env).map (·.2) := by rfl) : PTas g W X (.Name x pos :: es) (.nm i :: ts) := pgs_cons (pg_name hN hi hx hf) hr hs
theorem ta_sub {i : Nat} {x : Str} {ei : Expr} {p1 p2 : Pos} {es : List Expr} {ts : List Ta} {f : Env → R D} (hN : X.N[i]? = some x) (hv : Vis X.env.scope x) (h1 : VE g W X ei f) (hr : PTas g W X es ts)
    (hd : (x == ("__debug__" : Str)) = false := by decide) (hcd : (x == ("__classdict__" : Str)) = false := by decide)
    (ha : ∀ v, assign (.Subscript (.Name x p1) ei p2) X.env v = (do
      let ov ← holding [v] (eval (.Name x p1) X.env)
      let iv ← holding [v, ov] (eval ei X.env)
      standAt p2
      holding [v, ov, iv] (setItem ov iv v)
      release [v, ov, iv] []) := by intro _; rfl)
    (hs : (assignEach (.Subscript (.Name x p1) ei p2 :: es) X.env).map (·.2) = assign (.Subscript (.Name x p1) ei p2) X.env :: (assignEach es X.env).map (·.2) := by rfl) : PTas g W X (.Subscript (.Name x p1) ei p2 :: es) (.sub i f :: ts) :=
  pgs_cons (pg_sub (pe_var hN hv hd hcd) h1 set_list ha) hr hs
theorem tas_ok : ∀ {ts : List Ta} {ds : List D} {vs : List V} {σ : L2.St} {b : Nat} {Z H : Hp} {ow : Nat → Addr} {env : Env} {kk : Env → R Flw} {Q : L2.St → Hp → Prop}, SS g.r b K Z0 H0 Z H ow σ env → DqAll K Z vs ds → SK g K W Z0 H0 Z b (asgT ts ds env kk) E →
    (∀ σ' b' Z' H' ow' env', SS g.r b' K Z0 H0 Z' H' ow' σ' env' → SK g K W Z0 H0 Z' b' (kk env') E → Q σ' H') → gTas g K W ts vs σ H Q
  | [], [], _, _, _, _, _, _, _, _, _, S, .nil, k, hq => ⟨rfl, hq _ _ _ _ _ _ S k⟩
  | .nm i :: ts, d :: ds, _, _, _, _, _, _, _, _, _, S, .cons h t, k, hq => ⟨_, _, rfl, tas_ok (ts := ts) (S.setVa i h) t k hq⟩
  | .sub i f :: ts, d :: ds, _, σ, b, Z, H, ow, env, kk, Q, S, .cons (v := v) (vs := vs) h t, k, hq => by
    have a := S.se.at_ i
    cases e : sl env i <;> simp only [asgT, e] at k <;> first | exact k.elim | skip
    rename_i ob
    cases ob <;> first | exact k.elim | skip
    rename_i es
    rw [e] at a
    obtain ⟨q1, zp, rp, _, q2, ws, rfl, q3⟩ := a
    refine ⟨_, _, rfl, _, q1, b, Z, ow, env, S.se, SK.seq S k fun b1 y w H1 Z1 e1 S1 hy k1 => ?_⟩
    obtain ⟨j, hj, k2⟩ := k1.of
    cases y <;> first | cases hj; done | skip
    rename_i n
    have h2' := e1.keep _ _ q2 zp rp
    refine ⟨_, ws, n, j, rfl, Dq.int_ hy, h2', by rw [q3.len]; exact hj, ?_⟩
    exact tas_ok (ts := ts) (S1.mut e ((q3.mono e1.zz).setI (h.mono e1.zz) j)) (t.mono e1.zz) k2 hq
  | [], _ :: _, _, _, _, _, _, _, _, _, _, _, _, k, _ => k.elim
  | .nm _ :: _, [], _, _, _, _, _, _, _, _, _, _, _, k, _ => k.elim
  | .sub _ _ :: _, [], _, _, _, _, _, _, _, _, _, _, _, k, _ => k.elim
def sAsT (ts : List Ta) (h : Env → R (List D)) : Env → R Flw := fun env => (h env).bindS env fun ds => match smallN ds.length && Nat.beq ds.length ts.length with
  | true => asgT ts ds env fun env' => .ok (.nx env')
  | false => .fail
theorem vs_asT {tgs vals : List Expr} {ts : List Ta} {h : Env → R (List D)} {pt : Pos} {kt k2 pt2} (hc : X.calm = true) (ht : PTas g W X tgs ts) (ha : AEs g W X vals h) (hn : (assignEach tgs X.env).length = ts.length := by rfl) (hst : (assignEach tgs X.env).findIdx? (·.1) = none := by rfl)
    (hs : swapsWithSole [.Tuple tgs kt pt] (.Tuple vals k2 pt2) pos.line X.env = pure false := by rfl) (hw : swappedStores [.Tuple tgs kt pt] (.Tuple vals k2 pt2) X.env = pure none := by rfl)
    (h1 : (assignEach [.Tuple tgs kt pt] X.env).map (·.2) = [assign (.Tuple tgs kt pt) X.env] := by rfl) :
    VS g W Z0 H0 X (.Assign [.Tuple tgs kt pt] (.Tuple vals k2 pt2) pos) (sAsT ts h) := by
  refine PS.of (ps_asg (pe_tup ha) (pg_tup (n := ts.length) hc ht hn hst) hs hw h1) fun σ H E ⟨b, Z, ow, env, S, k⟩ => ⟨b, Z, ow, env, S.se, SK.seq S k fun b1 ds vs H1 Z1 e1 S1 hd k1 => ?_⟩
  cases hz : smallN ds.length && Nat.beq ds.length ts.length <;> rw [hz] at k1 <;> first | exact k1.elim | skip
  rw [Bool.and_eq_true] at hz
  refine ⟨by rw [hd.len]; exact smallN_ok hz.1, fun p hp => ?_⟩
  have e : Ext g.r Z1 H1 Z1 (upd H1 p (.tup vs)) := Ext.newU S1.se.zh hp
  refine ⟨p, vs, rfl, SqT.of upd_same, by rw [hd.len]; exact Nat.eq_of_beq_eq_true hz.2, ?_⟩
  exact tas_ok (S1.ext' e (S1.se.urn.newU hp)) hd k1 fun σ' b' Z' H' ow' env' S' k' => SK.nx S' k'
end
end Ev
set_option Elab.async false
set_option linter.all false
set_option maxRecDepth 100000
set_option maxHeartbeats 4000000
/-! Ev16: what the walks use. -/
namespace Ev
open PySem PySem.Spec PyProof.Rows L2
section
variable {g : G} {W : WX} {X : Cx} {K : PySem.W.Frag} {Z0 H0 : Hp} {st : Stmt}
/-- some owned lists are frozen behind a statement -/
def sFzA (l : List Nat) (f : Env → R Flw) : Env → R Flw := fun env => (f env).bind fun
  | .nx env => .ok (.nx (frzL l env))
  | f => .ok f
theorem vs_frzA {f : Env → R Flw} (l : List Nat) (h : VS g W Z0 H0 X st f) : VS g W Z0 H0 X st (sFzA l f) :=
  PS.of h fun σ H E ⟨b, Z, ow, env, S, k⟩ => ⟨b, Z, ow, env, S, by
    refine R.post_mono (fun b1 fl q => ?_) (fun _ _ q => q) (R.post_bind k)
    cases fl with
    | nx env1 => exact fun σ1 H1 Z1 ow1 z1 S1 => let ⟨Z2, z2, S2⟩ := SS.frzL l S1; q σ1 H1 Z2 ow1 (z1.trans z2) S2
    | bk env1 => exact q
    | ct env1 => exact q
    | rt d env1 => exact q
    | xc x env1 => exact q⟩
theorem takesB : Takes X W0 := fun u s' ⟨a, B, sI, pins, σ, H, cls, d, e, I, nb, up, sky, na, os, ag, w⟩ => w.elim
theorem takesC {P : Program} {w : World} {mg : Str → Option Value} {base : Heap} {N : List Str} {q : Str} {scope : Scope} {f : Addr} {cd : Value} {A : Around} {outer : List PySem.Env} {s : Shared} {H : Hp} {E : XK} : Takes (cxOf (L2.CX P w) P w K mg base N q scope f cd A outer s H E) (WOf E) := takes_of rfl rfl rfl rfl
theorem passesC {P : Program} {w : World} {mg : Str → Option Value} {base : Heap} {N : List Str} {q : Str} {scope : Scope} {f : Addr} {cd : Value} {A : Around} {outer : List PySem.Env} {s : Shared} {H : Hp} {E : XK} : PassesOwn (model P w) (A.deeper (envOfC q scope s.heap.objs.size f cd)) (envOfC q scope s.heap.objs.size f cd) (cxOf (L2.CX P w) P w K mg base N q scope f cd A outer s H E).xe := PassesOwn.leaving
theorem hu {k : Nat} {A : Around} (r : Room k A) : A.units + 65 < cLine := by have := r.un; omega
end
abbrev addI : D → D → Option D := arD (fun _ _ => true) fun i j => i + j
/-- a def of which nothing is said -/
theorem fd_never {P : Program} {w : World} {K : PySem.W.Frag} {mg : Str → Option Value} {base : Heap} {C : Str → Addr} {x : Str} {u : Bool} {n m k : Nat} {params : Arguments} {body : List Stmt} {scope : Scope} {f : Addr} {fd : FuncData} {N ps : List Str}
    (F : FunD K x x params body scope [] [] f fd) (gm : mg x = some (.ref f)) (S : FnScope N ps scope) (hb : Binds K fd ps []) (hn : ps.length = n) (hN : N.length = n + m) : Fd P w K mg base C x u n k (fun _ => .fail) :=
  ⟨⟨f, fd, ps, ⟨fun vs H Q E h => by rw [hn]; exact h.1, fun A outer s H args us vs Q E hr he hb hv ⟨_, r, b, Z, as, _, _, _, _, hp⟩ => hp.elim⟩, gm, F.kp, hb⟩, fun as b Q W h => h.elim⟩
def chkBlk (N : List Str) (sc scope : Scope) (own : List (Str × Nat)) : Bool :=
  decide (scope.kind = .function) && scope.names.all (fun y => decide (scope.names.lookup y.1 = some y.2)) && own.all (fun p => decide (N[p.2]? = some p.1)) &&
  scope.names.all (fun y => !decide (y.2 = .free) || decide (sc.names.lookup y.1 = some .cell) || decide (sc.names.lookup y.1 = some .free)) &&
  scope.names.all (fun y => !(decide (y.2 = .local) || decide (y.2 = .cell)) || decide (y.1 ∈ own.map (·.1)) || !decide (y.1 ∈ N))
theorem blk_of {N : List Str} {sc scope : Scope} {own : List (Str × Nat)} (h : chkBlk N sc scope own = true) : BlkOk N sc scope own := by
  unfold chkBlk at h
  simp only [Bool.and_eq_true, List.all_eq_true, decide_eq_true_eq, Bool.or_eq_true, Bool.not_eq_true', decide_eq_false_iff_not, Bool.or_eq_false_iff] at h
  obtain ⟨⟨⟨⟨h1, h2⟩, h3⟩, h4⟩, h5⟩ := h
  refine ⟨h1, h2, h3, fun y hy hf => ?_, fun y hy hf => ?_⟩
  · rcases h4 y hy with (h | h) | h
    · exact absurd hf h
    · exact .inl h
    · exact .inr h
  · rcases h5 y hy with (h | h) | h
    · rcases hf with hf | hf
      · exact absurd hf h.1
      · exact absurd hf h.2
    · exact .inl h
    · exact .inr h
theorem gl_ {X : Cx} {x : Str} (h : X.env.kindOf x = some .globalImplicit) : Gl X x := h
theorem bt_len : bootBuiltins "len" = some (.builtin "len") := by decide +kernel
theorem bt_sum : bootBuiltins "sum" = some (.builtin "sum") := by decide +kernel
theorem bt_any : bootBuiltins "any" = some (.builtin "any") := by decide +kernel
theorem bt_all : bootBuiltins "all" = some (.builtin "all") := by decide +kernel
theorem bt_abs : bootBuiltins "abs" = some (.builtin "abs") := by decide +kernel
theorem bt_min : bootBuiltins "min" = some (.builtin "min") := by decide +kernel
theorem bt_max : bootBuiltins "max" = some (.builtin "max") := by decide +kernel
theorem bt_sorted : bootBuiltins "sorted" = some (.builtin "sorted") := by decide +kernel
theorem bt_int : bootBuiltins "int" = some (.type "int") := by decide +kernel
theorem bt_bool : bootBuiltins "bool" = some (.type "bool") := by decide +kernel
theorem bt_str : bootBuiltins "str" = some (.type "str") := by decide +kernel
theorem bt_list : bootBuiltins "list" = some (.type "list") := by decide +kernel
theorem bt_tuple : bootBuiltins "tuple" = some (.type "tuple") := by decide +kernel
end Ev
set_option Elab.async false
set_option linter.all false
set_option maxRecDepth 100000
set_option maxHeartbeats 4000000
/-! Ev17: dicts with keys None, ints, tuples of such, mixed. -/
namespace Ev
open PySem PySem.Spec PyProof.Rows L2
/-! ### keys -/
mutual
theorem hash_key (w : World) : ∀ {d : D} {k : NestedKey}, keyD d = some k → k.hash w = hash0 k
  | .none, _, h => by cases h; rfl
  | .int i, _, h => by cases h; rfl
  | .tuple ds, k, h => by
    cases e : keyDs ds with
    | none => simp [keyD, e] at h
    | some ks =>
      simp [keyD, e] at h
      subst h
      rw [NestedKey.hash, hash0, hashs_key w e]
  | .bool _, _, h => by simp [keyD] at h
  | .str _, _, h => by simp [keyD] at h
  | .list _, _, h => by simp [keyD] at h
  | .dict _, _, h => by simp [keyD] at h
theorem hashs_key (w : World) : ∀ {ds : List D} {ks : List NestedKey}, keyDs ds = some ks → NestedKey.hashes w ks = hashs0 ks
  | [], _, h => by simp [keyDs] at h; subst h; simp [NestedKey.hashes, hashs0]
  | d :: r, ks, h => by
    cases e1 : keyD d with
    | none => simp [keyDs, e1] at h
    | some k =>
      cases e2 : keyDs r with
      | none => simp [keyDs, e1, e2] at h
      | some ks' =>
        simp [keyDs, e1, e2] at h
        subst h
        rw [NestedKey.hashes, hashs0, hash_key w e1, hashs_key w e2]
end
section
variable {X : Cx} {pins : List (Addr × Obj)} {σ : L2.St} {H : Hp} {s : Shared} {Z : Hp}
mutual
theorem nested_of (I : Inv X pins σ H s) (z : Same Z H) : ∀ {d : D} {k : NestedKey} {x : V} {u : Value}, keyD d = some k → Dq X.K Z x d → RelV x u → NestedIs s.heap k u ∧ ∀ y t, u ≠ .str y t
  | .none, _, _, _, h, hd, r => by cases h; cases hd; cases r; exact ⟨.none, fun _ _ e => by cases e⟩
  | .int i, _, _, _, h, hd, r => by cases h; cases hd; obtain ⟨t, rfl⟩ := r; exact ⟨.int i t, fun _ _ e => by cases e⟩
  | .tuple ds, k, _, _, h, hd, r => by
    cases e : keyDs ds with
    | none => simp [keyD, e] at h
    | some ks =>
      simp [keyD, e] at h
      subst h
      obtain ⟨a, xs, rfl, h1, h2⟩ := Dq.tup_ hd
      cases r
      obtain ⟨its, rv, ⟨o, ho, hc, n, hdt⟩, _⟩ := I.tuple (seqT z h1)
      exact ⟨.tup ho hc hdt (nesteds_of I z e h2 rv), fun _ _ e => by cases e⟩
  | .bool _, _, _, _, h, _, _ => by simp [keyD] at h
  | .str _, _, _, _, h, _, _ => by simp [keyD] at h
  | .list _, _, _, _, h, _, _ => by simp [keyD] at h
  | .dict _, _, _, _, h, _, _ => by simp [keyD] at h
theorem nesteds_of (I : Inv X pins σ H s) (z : Same Z H) : ∀ {ds : List D} {ks : List NestedKey} {xs : List V} {us : List Value}, keyDs ds = some ks → DqAll X.K Z xs ds → Vals xs us → NestedAll s.heap ks us
  | [], _, _, _, h, .nil, r => by simp [keyDs] at h; subst h; cases r; exact .nil
  | d :: ds, ks, _, _, h, .cons h1 h2, r => by
    cases e1 : keyD d with
    | none => simp [keyDs, e1] at h
    | some k =>
      cases e2 : keyDs ds with
      | none => simp [keyDs, e1, e2] at h
      | some ks' =>
        simp [keyDs, e1, e2] at h
        subst h
        cases r with
        | cons r1 r2 => exact .cons (nested_of I z e1 h1 r1).1 (nesteds_of I z e2 h2 r2)
end
end
/-! ### the search -/
/-- a place of a key -/
structure KeyAt (h : Heap) (w : World) (k : NestedKey) (u : Value) : Prop where
  is : NestedIs h k u
  dp : k.depth ≤ 8
  ha : k.hash w = hash0 k
  ns : ∀ y t, u ≠ .str y t
def entV (e : Ent) : DictEntry := ⟨hash0 e.1, e.2.1, e.2.2⟩
section
variable {prog : Program} {w : World} {A : Around} {E : Value → Shared → Prop} {s : Shared}
theorem eq_ask {k k' : NestedKey} {u v : Value} {Q : Bool → Shared → Prop} (hu : A.units + 8 < cLine) (a : KeyAt s.heap w k u) (b : KeyAt s.heap w k' v) (h : Q (decide (k = k')) s) : wpAny (model prog w) A (eqBool u v) Q E s := by
  have l1 := a.dp
  have l2 := b.dp
  refine eqAt_key k k' A s u v a.is b.is (by omega) prog w E Q ?_
  rw [← NestedKey.decide_eq]
  exact h
theorem tell_no {k : NestedKey} {u : Value} {st : List Value} {Q : Bool → Shared → Prop} (a : KeyAt s.heap w k u) (hst : ∀ v ∈ st, ∃ k', KeyAt s.heap w k' v) (h : Q false s) : wpAny (model prog w) A (tableMayTell u st) Q E s := by
  unfold tableMayTell
  split
  · exact wpAny_pure h
  refine wpAny_bind (quiet_key k u 8 s a.is a.dp A E _ ?_)
  simp only [Bool.not_true, Bool.false_eq_true, if_false]
  refine wpAny_bind (wpAny_forIn_list _ (fun rest r s' => (∀ v ∈ rest, ∃ k', KeyAt s.heap w k' v) ∧ r = (none, ()) ∧ s' = s) _ (fun x rest r s' hr => ?_) (fun r s' hr => ?_) _ _ ⟨hst, rfl, rfl⟩)
  · obtain ⟨h1, rfl, rfl⟩ := hr
    obtain ⟨k', hb⟩ := h1 x List.mem_cons_self
    refine wpAny_bind (quiet_key k' x 8 _ hb.is hb.dp A E _ ?_)
    simp only [Bool.not_true, Bool.false_eq_true, if_false]
    exact wpAny_pure ⟨fun v hv => h1 v (List.mem_cons_of_mem _ hv), rfl, rfl⟩
  · obtain ⟨_, rfl, rfl⟩ := hr
    exact wpAny_pure h
/-- the place of k among the entries -/
def findE (k : NestedKey) : List Ent → Option Nat
  | [] => none
  | e :: r => if e.1 = k then some 0 else (findE k r).map (· + 1)
theorem findE_some {k : NestedKey} : ∀ {es : List Ent} {j : Nat}, findE k es = some j → ∃ e, es[j]? = some e ∧ e.1 = k
  | [], _, h => by simp [findE] at h
  | e :: r, j, h => by
    unfold findE at h
    by_cases q : e.1 = k
    · rw [if_pos q] at h; cases h; exact ⟨e, rfl, q⟩
    · rw [if_neg q] at h
      cases h2 : findE k r with
      | none => rw [h2] at h; cases h
      | some i =>
        rw [h2] at h
        cases h
        obtain ⟨e', h3, h4⟩ := findE_some h2
        exact ⟨e', by simpa using h3, h4⟩
theorem findE_none {k : NestedKey} : ∀ {es : List Ent}, findE k es = none → ∀ e ∈ es, e.1 ≠ k
  | [], _, e, h => by cases h
  | e :: r, h, x, hx => by
    unfold findE at h
    by_cases q : e.1 = k
    · rw [if_pos q] at h; cases h
    · rw [if_neg q] at h
      cases h2 : findE k r with
      | some i => rw [h2] at h; cases h
      | none =>
        rcases List.mem_cons.mp hx with e1 | hx
        · rw [e1]; exact q
        · exact findE_none h2 x hx
theorem only_at {k : NestedKey} {es : List Ent} (hn : (es.map (·.1)).Nodup) {i j : Nat} {a b : Ent} (hi : es[i]? = some a) (hj : es[j]? = some b) (h1 : a.1 = k) (h2 : b.1 = k) : i = j := by
  have hi' : (es.map (·.1))[i]? = some k := by rw [List.getElem?_map, hi]; exact congrArg some h1
  have hj' : (es.map (·.1))[j]? = some k := by rw [List.getElem?_map, hj]; exact congrArg some h2
  exact (List.getElem?_inj (List.getElem?_eq_some_iff.mp hi').1 hn).mp (hi'.trans hj'.symm)
/-- what holds of the places with the hash of k -/
structure Pl (h : Heap) (w : World) (k : NestedKey) (es : List Ent) (t : Array DictEntry) (pl : List Nat) : Prop where
  nd : pl.Nodup
  inn : ∀ {i : Nat} {e : Ent}, es[i]? = some e → e.1 = k → i ∈ pl
  out : ∀ {i : Nat}, i ∈ pl → ∃ e, es[i]? = some e ∧ t[i]? = some (entV e) ∧ hash0 e.1 = hash0 k ∧ KeyAt h w e.1 e.2.1
/-- the walk's state: what is found, what is left -/
def Left (k : NestedKey) (es : List Ent) (pl rest : List Nat) (hit : Option Nat) : Prop := rest.Nodup ∧ (∀ i ∈ rest, i ∈ pl) ∧ match findE k es with
  | none => hit = none
  | some j => (hit = none ∧ j ∈ rest) ∨ (hit = some j ∧ j ∉ rest)
theorem Left.start {h : Heap} {k : NestedKey} {es : List Ent} {t : Array DictEntry} {pl : List Nat} (P : Pl h w k es t pl) : Left k es pl pl none := by
  refine ⟨P.nd, fun _ h => h, ?_⟩
  cases e : findE k es with
  | none => rfl
  | some j =>
    obtain ⟨x, h1, h2⟩ := findE_some e
    exact .inl ⟨rfl, P.inn h1 h2⟩
theorem Left.no {k : NestedKey} {es : List Ent} {pl rest : List Nat} {i : Nat} {hit : Option Nat} {e : Ent} (L : Left k es pl (i :: rest) hit) (h : es[i]? = some e) (hk : e.1 ≠ k) : Left k es pl rest hit := by
  obtain ⟨h1, h2, h3⟩ := L
  refine ⟨(List.nodup_cons.mp h1).2, fun j hj => h2 j (List.mem_cons_of_mem _ hj), ?_⟩
  cases q : findE k es with
  | none => rw [q] at h3; exact h3
  | some j =>
    rw [q] at h3
    rcases h3 with ⟨a, b⟩ | ⟨a, b⟩
    · rcases List.mem_cons.mp b with e1 | b
      · obtain ⟨x, x1, x2⟩ := findE_some q
        rw [e1, h] at x1
        cases x1
        exact absurd x2 hk
      · exact .inl ⟨a, b⟩
    · exact .inr ⟨a, fun z => b (List.mem_cons_of_mem _ z)⟩
theorem Left.yes {k : NestedKey} {es : List Ent} {pl rest : List Nat} {i : Nat} {hit : Option Nat} {e : Ent} (hn : (es.map (·.1)).Nodup) (L : Left k es pl (i :: rest) hit) (h : es[i]? = some e) (hk : e.1 = k) : hit = none ∧ findE k es = some i ∧ Left k es pl rest (some i) := by
  obtain ⟨h1, h2, h3⟩ := L
  have nr := (List.nodup_cons.mp h1).1
  cases q : findE k es with
  | none => exact absurd hk (findE_none q e (List.mem_of_getElem? h))
  | some j =>
    obtain ⟨x, x1, x2⟩ := findE_some q
    have e1 := only_at hn x1 h x2 hk
    subst e1
    rw [q] at h3
    have hh : hit = none := by
      rcases h3 with ⟨a, _⟩ | ⟨_, b⟩
      · exact a
      · exact absurd List.mem_cons_self b
    exact ⟨hh, rfl, (List.nodup_cons.mp h1).2, fun j hj => h2 j (List.mem_cons_of_mem _ hj), by rw [q]; exact .inr ⟨rfl, nr⟩⟩
theorem Left.done {k : NestedKey} {es : List Ent} {pl : List Nat} {hit : Option Nat} (L : Left k es pl [] hit) : hit = findE k es := by
  obtain ⟨_, _, h3⟩ := L
  cases q : findE k es with
  | none => rw [q] at h3; exact h3
  | some j =>
    rw [q] at h3
    rcases h3 with ⟨_, b⟩ | ⟨a, _⟩
    · cases b
    · exact a
theorem plain_key {d : Addr} {u : Value} {o : Obj} {t : Array DictEntry} {ep : Nat} {es : List Ent} {k : NestedKey} {pl : List Nat} {Q : Option Nat → Shared → Prop} (hu : A.units + 8 < cLine) (a : KeyAt s.heap w k u)
    (ho : s.heap.get? d = some o) (hd : o.data = .dict t ep) (hn : (es.map (·.1)).Nodup) (P : Pl s.heap w k es t pl) (q : Q (findE k es) s) : wpAny (model prog w) A (dictWalkPlain d u (hash0 k) t pl) Q E s := by
  unfold dictWalkPlain
  refine wpAny_bind (wpAny_forIn_list _ (fun rest b s' => s' = s ∧ b = (none, ()) ∧ Left k es pl rest none) _ (fun i rest b s' hr => ?_) (fun b s' hr => ?_) _ _ ⟨rfl, rfl, Left.start P⟩)
  · obtain ⟨rfl, rfl, L⟩ := hr
    obtain ⟨e, h1, h2, h3, h4⟩ := P.out (L.2.1 i List.mem_cons_self)
    rw [h2]
    dsimp only
    rw [if_pos (show ((entV e).hash == hash0 k) = true by simp [entV, h3])]
    refine wpAny_bind (wpAny_dictEpoch ho hd (wpAny_bind (eq_ask hu h4 a (wpAny_bind (wpAny_dictEpoch ho hd ?_)))))
    rw [if_neg (by simp)]
    by_cases hk : e.1 = k
    · rw [decide_eq_true hk]
      obtain ⟨_, f, _⟩ := L.yes hn h1 hk
      refine wpAny_bind (wpAny_rule (wpAny_pure ?_))
      show wpAny _ _ (pure (some i)) Q E _
      rw [f] at q
      exact wpAny_pure q
    · rw [decide_eq_false hk]
      exact wpAny_bind (wpAny_rule (wpAny_pure ⟨rfl, rfl, L.no h1 hk⟩))
  · obtain ⟨rfl, rfl, L⟩ := hr
    rw [← L.done] at q
    exact wpAny_pure q
theorem find_key {d : Addr} {u : Value} {o : Obj} {t : Array DictEntry} {ep : Nat} {es : List Ent} {k : NestedKey} {Q : Option Nat → Shared → Prop} (hu : A.units + 8 < cLine) (a : KeyAt s.heap w k u)
    (ho : s.heap.get? d = some o) (hd : o.data = .dict t ep) (he : t.toList = es.map entV) (hes : ∀ e ∈ es, KeyAt s.heap w e.1 e.2.1) (hn : (es.map (·.1)).Nodup) (q : Q (findE k es) s) :
    wpAny (model prog w) A (dictFind d u (hash0 k)) Q E s := by
  have hsz : t.size = es.length := by rw [← Array.length_toList, he, List.length_map]
  have at_ : ∀ i, t[i]? = (es[i]?).map entV := fun i => by rw [← Array.getElem?_toList, he, List.getElem?_map]
  have P : Pl s.heap w k es t (placesWithHash t.size (fun i => t[i]?.map (·.hash)) (hash0 k)) := by
    refine ⟨List.Pairwise.filter _ List.nodup_range, fun {i e} h1 h2 => ?_, fun {i} h => ?_⟩
    · refine List.mem_filter.mpr ⟨List.mem_range.mpr ?_, ?_⟩
      · rw [hsz]; exact (List.getElem?_eq_some_iff.mp h1).1
      · show ((t[i]?.map (·.hash)) == some (hash0 k)) = true
        rw [at_, h1]
        simp [entV, h2]
    · obtain ⟨h1, h2⟩ := List.mem_filter.mp h
      have h3 : i < es.length := by rw [← hsz]; exact List.mem_range.mp h1
      have h5 : es[i]? = some es[i] := List.getElem?_eq_getElem h3
      refine ⟨es[i], h5, by rw [at_, h5]; rfl, ?_, hes _ (List.getElem_mem h3)⟩
      have h4 : ((t[i]?.map (·.hash)) == some (hash0 k)) = true := h2
      rw [at_, h5] at h4
      simpa [entV] using h4
  have stK : ∀ v ∈ (placesWithHash t.size (fun i => t[i]?.map (·.hash)) (hash0 k)).filterMap (fun i => t[i]?.map (·.key)), ∃ k', KeyAt s.heap w k' v := fun v hv => by
    obtain ⟨i, _, hi⟩ := List.mem_filterMap.mp hv
    rw [at_] at hi
    cases hei : es[i]? with
    | none => rw [hei] at hi; cases hi
    | some e =>
      rw [hei] at hi
      have e1 : e.2.1 = v := by simpa [entV] using hi
      exact ⟨e.1, by rw [← e1]; exact hes e (List.mem_of_getElem? hei)⟩
  have same : ¬ (t.any fun e => e.key == u && e.hash != hash0 k) = true := by
    rw [← Array.any_toList, he, List.any_eq_true]
    rintro ⟨x, hx, hc⟩
    obtain ⟨e, hem, rfl⟩ := List.mem_map.mp hx
    simp only [entV, Bool.and_eq_true, beq_iff_eq, bne_iff_ne, ne_eq] at hc
    have q1 := (hes e hem).is
    rw [hc.1] at q1
    exact hc.2 (congrArg hash0 (NestedIs.inj _ _ _ q1 a.is))
  unfold dictFind
  try with_reducible refine wpAny_holding ?_
  refine wpAny_bind (wpAny_dictEntries ho hd ?_)
  generalize hpl : placesWithHash t.size (fun i => t[i]?.map (·.hash)) (hash0 k) = pl at P stK
  cases u with
  | str y tk => exact absurd rfl (a.ns y tk)
  | none =>
    dsimp only
    by_cases hc : ((Value.none :: pl.filterMap fun i => t[i]?.map (·.key)).all carriedByValue) = true
    · rw [if_pos hc]
      exact plain_key hu a ho hd hn P q
    · rw [if_neg hc]
      split
      · refine wpAny_bind (wpAny_pure ?_)
        rw [if_neg (by simp)]
        refine wpAny_bind (wpAny_forIn_list _ (fun rest b s' => s' = s ∧ b.1 = none ∧ Left k es pl rest b.2) _ (fun i rest b s' hr => ?_) (fun b s' hr => ?_) _ _ ⟨rfl, rfl, Left.start P⟩)
        · obtain ⟨rfl, h0, L⟩ := hr
          obtain ⟨b1, b2⟩ := b
          obtain rfl : b1 = none := h0
          obtain ⟨e, h1, h2, h3, h4⟩ := P.out (L.2.1 i List.mem_cons_self)
          rw [h2]
          dsimp only
          rw [if_pos (show ((entV e).hash == hash0 k) = true by simp [entV, h3])]
          refine wpAny_bind (wpAny_dictEpoch ho hd (wpAny_bind (eq_ask hu h4 a (wpAny_bind (wpAny_dictEpoch ho hd ?_)))))
          rw [if_neg (by simp)]
          by_cases hk : e.1 = k
          · rw [decide_eq_true hk]
            obtain ⟨hh, f, L2⟩ := L.yes hn h1 hk
            obtain rfl : b2 = none := hh
            simp only [Option.isSome_none, Bool.false_eq_true, if_false, if_true]
            refine wpAny_bind (wpAny_rule ?_)
            rw [f] at q
            split
            · exact wpAny_pure (wpAny_pure q)
            · exact wpAny_pure ⟨rfl, rfl, L2⟩
          · rw [decide_eq_false hk]
            simp only [Bool.false_eq_true, if_false]
            refine wpAny_bind (wpAny_rule ?_)
            rw [if_neg (by simp)]
            exact wpAny_pure ⟨rfl, rfl, L.no h1 hk⟩
        · obtain ⟨rfl, h0, L⟩ := hr
          obtain ⟨b1, b2⟩ := b
          obtain rfl : b1 = none := h0
          rw [← L.done] at q
          exact wpAny_pure q
      · refine wpAny_bind (tell_no a stK ?_)
        rw [if_neg (by simp)]
        refine wpAny_bind (wpAny_forIn_list _ (fun rest b s' => s' = s ∧ b.1 = none ∧ Left k es pl rest b.2) _ (fun i rest b s' hr => ?_) (fun b s' hr => ?_) _ _ ⟨rfl, rfl, Left.start P⟩)
        · obtain ⟨rfl, h0, L⟩ := hr
          obtain ⟨b1, b2⟩ := b
          obtain rfl : b1 = none := h0
          obtain ⟨e, h1, h2, h3, h4⟩ := P.out (L.2.1 i List.mem_cons_self)
          rw [h2]
          dsimp only
          rw [if_pos (show ((entV e).hash == hash0 k) = true by simp [entV, h3])]
          refine wpAny_bind (wpAny_dictEpoch ho hd (wpAny_bind (eq_ask hu h4 a (wpAny_bind (wpAny_dictEpoch ho hd ?_)))))
          rw [if_neg (by simp)]
          by_cases hk : e.1 = k
          · rw [decide_eq_true hk]
            obtain ⟨hh, f, L2⟩ := L.yes hn h1 hk
            obtain rfl : b2 = none := hh
            simp only [Option.isSome_none, Bool.false_eq_true, if_false, if_true]
            refine wpAny_bind (wpAny_rule ?_)
            rw [f] at q
            split
            · exact wpAny_pure (wpAny_pure q)
            · exact wpAny_pure ⟨rfl, rfl, L2⟩
          · rw [decide_eq_false hk]
            simp only [Bool.false_eq_true, if_false]
            refine wpAny_bind (wpAny_rule ?_)
            rw [if_neg (by simp)]
            exact wpAny_pure ⟨rfl, rfl, L.no h1 hk⟩
        · obtain ⟨rfl, h0, L⟩ := hr
          obtain ⟨b1, b2⟩ := b
          obtain rfl : b1 = none := h0
          rw [← L.done] at q
          exact wpAny_pure q
  | bool b =>
    dsimp only
    by_cases hc : ((Value.bool b :: pl.filterMap fun i => t[i]?.map (·.key)).all carriedByValue) = true
    · rw [if_pos hc]
      exact plain_key hu a ho hd hn P q
    · rw [if_neg hc]
      split
      · refine wpAny_bind (wpAny_pure ?_)
        rw [if_neg (by simp)]
        refine wpAny_bind (wpAny_forIn_list _ (fun rest b s' => s' = s ∧ b.1 = none ∧ Left k es pl rest b.2) _ (fun i rest b s' hr => ?_) (fun b s' hr => ?_) _ _ ⟨rfl, rfl, Left.start P⟩)
        · obtain ⟨rfl, h0, L⟩ := hr
          obtain ⟨b1, b2⟩ := b
          obtain rfl : b1 = none := h0
          obtain ⟨e, h1, h2, h3, h4⟩ := P.out (L.2.1 i List.mem_cons_self)
          rw [h2]
          dsimp only
          rw [if_pos (show ((entV e).hash == hash0 k) = true by simp [entV, h3])]
          refine wpAny_bind (wpAny_dictEpoch ho hd (wpAny_bind (eq_ask hu h4 a (wpAny_bind (wpAny_dictEpoch ho hd ?_)))))
          rw [if_neg (by simp)]
          by_cases hk : e.1 = k
          · rw [decide_eq_true hk]
            obtain ⟨hh, f, L2⟩ := L.yes hn h1 hk
            obtain rfl : b2 = none := hh
            simp only [Option.isSome_none, Bool.false_eq_true, if_false, if_true]
            refine wpAny_bind (wpAny_rule ?_)
            rw [f] at q
            split
            · exact wpAny_pure (wpAny_pure q)
            · exact wpAny_pure ⟨rfl, rfl, L2⟩
          · rw [decide_eq_false hk]
            simp only [Bool.false_eq_true, if_false]
            refine wpAny_bind (wpAny_rule ?_)
            rw [if_neg (by simp)]
            exact wpAny_pure ⟨rfl, rfl, L.no h1 hk⟩
        · obtain ⟨rfl, h0, L⟩ := hr
          obtain ⟨b1, b2⟩ := b
          obtain rfl : b1 = none := h0
          rw [← L.done] at q
          exact wpAny_pure q
      · refine wpAny_bind (tell_no a stK ?_)
        rw [if_neg (by simp)]
        refine wpAny_bind (wpAny_forIn_list _ (fun rest b s' => s' = s ∧ b.1 = none ∧ Left k es pl rest b.2) _ (fun i rest b s' hr => ?_) (fun b s' hr => ?_) _ _ ⟨rfl, rfl, Left.start P⟩)
        · obtain ⟨rfl, h0, L⟩ := hr
          obtain ⟨b1, b2⟩ := b
          obtain rfl : b1 = none := h0
          obtain ⟨e, h1, h2, h3, h4⟩ := P.out (L.2.1 i List.mem_cons_self)
          rw [h2]
          dsimp only
          rw [if_pos (show ((entV e).hash == hash0 k) = true by simp [entV, h3])]
          refine wpAny_bind (wpAny_dictEpoch ho hd (wpAny_bind (eq_ask hu h4 a (wpAny_bind (wpAny_dictEpoch ho hd ?_)))))
          rw [if_neg (by simp)]
          by_cases hk : e.1 = k
          · rw [decide_eq_true hk]
            obtain ⟨hh, f, L2⟩ := L.yes hn h1 hk
            obtain rfl : b2 = none := hh
            simp only [Option.isSome_none, Bool.false_eq_true, if_false, if_true]
            refine wpAny_bind (wpAny_rule ?_)
            rw [f] at q
            split
            · exact wpAny_pure (wpAny_pure q)
            · exact wpAny_pure ⟨rfl, rfl, L2⟩
          · rw [decide_eq_false hk]
            simp only [Bool.false_eq_true, if_false]
            refine wpAny_bind (wpAny_rule ?_)
            rw [if_neg (by simp)]
            exact wpAny_pure ⟨rfl, rfl, L.no h1 hk⟩
        · obtain ⟨rfl, h0, L⟩ := hr
          obtain ⟨b1, b2⟩ := b
          obtain rfl : b1 = none := h0
          rw [← L.done] at q
          exact wpAny_pure q
  | int i tk =>
    dsimp only
    by_cases hc : ((Value.int i tk :: pl.filterMap fun i => t[i]?.map (·.key)).all carriedByValue) = true
    · rw [if_pos hc]
      exact plain_key hu a ho hd hn P q
    · rw [if_neg hc]
      split
      · refine wpAny_bind (wpAny_pure ?_)
        rw [if_neg (by simp)]
        refine wpAny_bind (wpAny_forIn_list _ (fun rest b s' => s' = s ∧ b.1 = none ∧ Left k es pl rest b.2) _ (fun i rest b s' hr => ?_) (fun b s' hr => ?_) _ _ ⟨rfl, rfl, Left.start P⟩)
        · obtain ⟨rfl, h0, L⟩ := hr
          obtain ⟨b1, b2⟩ := b
          obtain rfl : b1 = none := h0
          obtain ⟨e, h1, h2, h3, h4⟩ := P.out (L.2.1 i List.mem_cons_self)
          rw [h2]
          dsimp only
          rw [if_pos (show ((entV e).hash == hash0 k) = true by simp [entV, h3])]
          refine wpAny_bind (wpAny_dictEpoch ho hd (wpAny_bind (eq_ask hu h4 a (wpAny_bind (wpAny_dictEpoch ho hd ?_)))))
          rw [if_neg (by simp)]
          by_cases hk : e.1 = k
          · rw [decide_eq_true hk]
            obtain ⟨hh, f, L2⟩ := L.yes hn h1 hk
            obtain rfl : b2 = none := hh
            simp only [Option.isSome_none, Bool.false_eq_true, if_false, if_true]
            refine wpAny_bind (wpAny_rule ?_)
            rw [f] at q
            split
            · exact wpAny_pure (wpAny_pure q)
            · exact wpAny_pure ⟨rfl, rfl, L2⟩
          · rw [decide_eq_false hk]
            simp only [Bool.false_eq_true, if_false]
            refine wpAny_bind (wpAny_rule ?_)
            rw [if_neg (by simp)]
            exact wpAny_pure ⟨rfl, rfl, L.no h1 hk⟩
        · obtain ⟨rfl, h0, L⟩ := hr
          obtain ⟨b1, b2⟩ := b
          obtain rfl : b1 = none := h0
          rw [← L.done] at q
          exact wpAny_pure q
      · refine wpAny_bind (tell_no a stK ?_)
        rw [if_neg (by simp)]
        refine wpAny_bind (wpAny_forIn_list _ (fun rest b s' => s' = s ∧ b.1 = none ∧ Left k es pl rest b.2) _ (fun i rest b s' hr => ?_) (fun b s' hr => ?_) _ _ ⟨rfl, rfl, Left.start P⟩)
        · obtain ⟨rfl, h0, L⟩ := hr
          obtain ⟨b1, b2⟩ := b
          obtain rfl : b1 = none := h0
          obtain ⟨e, h1, h2, h3, h4⟩ := P.out (L.2.1 i List.mem_cons_self)
          rw [h2]
          dsimp only
          rw [if_pos (show ((entV e).hash == hash0 k) = true by simp [entV, h3])]
          refine wpAny_bind (wpAny_dictEpoch ho hd (wpAny_bind (eq_ask hu h4 a (wpAny_bind (wpAny_dictEpoch ho hd ?_)))))
          rw [if_neg (by simp)]
          by_cases hk : e.1 = k
          · rw [decide_eq_true hk]
            obtain ⟨hh, f, L2⟩ := L.yes hn h1 hk
            obtain rfl : b2 = none := hh
            simp only [Option.isSome_none, Bool.false_eq_true, if_false, if_true]
            refine wpAny_bind (wpAny_rule ?_)
            rw [f] at q
            split
            · exact wpAny_pure (wpAny_pure q)
            · exact wpAny_pure ⟨rfl, rfl, L2⟩
          · rw [decide_eq_false hk]
            simp only [Bool.false_eq_true, if_false]
            refine wpAny_bind (wpAny_rule ?_)
            rw [if_neg (by simp)]
            exact wpAny_pure ⟨rfl, rfl, L.no h1 hk⟩
        · obtain ⟨rfl, h0, L⟩ := hr
          obtain ⟨b1, b2⟩ := b
          obtain rfl : b1 = none := h0
          rw [← L.done] at q
          exact wpAny_pure q
  | ref p =>
    dsimp only
    rw [if_neg (by simp [carriedByValue]), if_neg same]
    split
    · refine wpAny_bind (wpAny_pure ?_)
      rw [if_neg (by simp)]
      refine wpAny_bind (wpAny_forIn_list _ (fun rest b s' => s' = s ∧ b.1 = none ∧ Left k es pl rest b.2) _ (fun i rest b s' hr => ?_) (fun b s' hr => ?_) _ _ ⟨rfl, rfl, Left.start P⟩)
      · obtain ⟨rfl, h0, L⟩ := hr
        obtain ⟨b1, b2⟩ := b
        obtain rfl : b1 = none := h0
        obtain ⟨e, h1, h2, h3, h4⟩ := P.out (L.2.1 i List.mem_cons_self)
        rw [h2]
        dsimp only
        rw [if_pos (show ((entV e).hash == hash0 k) = true by simp [entV, h3])]
        refine wpAny_bind (wpAny_dictEpoch ho hd (wpAny_bind (eq_ask hu h4 a (wpAny_bind (wpAny_dictEpoch ho hd ?_)))))
        rw [if_neg (by simp)]
        by_cases hk : e.1 = k
        · rw [decide_eq_true hk]
          obtain ⟨hh, f, L2⟩ := L.yes hn h1 hk
          obtain rfl : b2 = none := hh
          simp only [Option.isSome_none, Bool.false_eq_true, if_false, if_true]
          refine wpAny_bind (wpAny_rule ?_)
          rw [f] at q
          split
          · exact wpAny_pure (wpAny_pure q)
          · exact wpAny_pure ⟨rfl, rfl, L2⟩
        · rw [decide_eq_false hk]
          simp only [Bool.false_eq_true, if_false]
          refine wpAny_bind (wpAny_rule ?_)
          rw [if_neg (by simp)]
          exact wpAny_pure ⟨rfl, rfl, L.no h1 hk⟩
      · obtain ⟨rfl, h0, L⟩ := hr
        obtain ⟨b1, b2⟩ := b
        obtain rfl : b1 = none := h0
        rw [← L.done] at q
        exact wpAny_pure q
    · refine wpAny_bind (tell_no a stK ?_)
      rw [if_neg (by simp)]
      refine wpAny_bind (wpAny_forIn_list _ (fun rest b s' => s' = s ∧ b.1 = none ∧ Left k es pl rest b.2) _ (fun i rest b s' hr => ?_) (fun b s' hr => ?_) _ _ ⟨rfl, rfl, Left.start P⟩)
      · obtain ⟨rfl, h0, L⟩ := hr
        obtain ⟨b1, b2⟩ := b
        obtain rfl : b1 = none := h0
        obtain ⟨e, h1, h2, h3, h4⟩ := P.out (L.2.1 i List.mem_cons_self)
        rw [h2]
        dsimp only
        rw [if_pos (show ((entV e).hash == hash0 k) = true by simp [entV, h3])]
        refine wpAny_bind (wpAny_dictEpoch ho hd (wpAny_bind (eq_ask hu h4 a (wpAny_bind (wpAny_dictEpoch ho hd ?_)))))
        rw [if_neg (by simp)]
        by_cases hk : e.1 = k
        · rw [decide_eq_true hk]
          obtain ⟨hh, f, L2⟩ := L.yes hn h1 hk
          obtain rfl : b2 = none := hh
          simp only [Option.isSome_none, Bool.false_eq_true, if_false, if_true]
          refine wpAny_bind (wpAny_rule ?_)
          rw [f] at q
          split
          · exact wpAny_pure (wpAny_pure q)
          · exact wpAny_pure ⟨rfl, rfl, L2⟩
        · rw [decide_eq_false hk]
          simp only [Bool.false_eq_true, if_false]
          refine wpAny_bind (wpAny_rule ?_)
          rw [if_neg (by simp)]
          exact wpAny_pure ⟨rfl, rfl, L.no h1 hk⟩
      · obtain ⟨rfl, h0, L⟩ := hr
        obtain ⟨b1, b2⟩ := b
        obtain rfl : b1 = none := h0
        rw [← L.done] at q
        exact wpAny_pure q
  | _ => exact nomatch a.is
end
end Ev
set_option Elab.async false
set_option linter.all false
set_option maxRecDepth 100000
set_option maxHeartbeats 4000000
/-! Ev18: dicts as owned things. -/
namespace Ev
open PySem PySem.Spec PyProof.Rows L2
section
variable {prog : Program} {w : World} {A : Around} {E : Value → Shared → Prop} {s : Shared}
/-- the value at k -/
def valE (k : NestedKey) (es : List Ent) : Option Value := (findE k es).bind fun j => (es[j]?).map (·.2.2)
/-- k set to v; the key as it lies is u -/
def putE (k : NestedKey) (u v : Value) (es : List Ent) : List Ent := match findE k es with
  | some j => es.modify j fun e => (e.1, e.2.1, v)
  | none => es ++ [(k, u, v)]
/-- a dict at d with these entries, its keys read -/
structure DictE (h : Heap) (w : World) (d : Addr) (es : List Ent) : Prop where
  ph : DictPh d es h
  ks : ∀ e ∈ es, KeyAt h w e.1 e.2.1
  nd : (es.map (·.1)).Nodup
theorem get_key {d : Addr} {u : Value} {es : List Ent} {k : NestedKey} {Q : Option Value → Shared → Prop} (hu : A.units + 8 < cLine) (a : KeyAt s.heap w k u) (dd : DictE s.heap w d es) (q : ∀ tk, Q (valE k es) { s with toks := tk }) : wpAny (model prog w) A (dictGet d u) Q E s := by
  obtain ⟨⟨o, t, ep, ho, hx, hd, he⟩, hes, hn⟩ := dd
  have l := a.dp
  unfold dictGet
  try with_reducible refine wpAny_holding ?_
  refine wpAny_bind (pyHash_key k u A s _ a.is (by omega) ?_)
  rw [a.ha]
  refine wpAny_bind (find_key (s := { s with toks := s.toks + k.draws }) hu a ho hd he hes hn ?_)
  have q' := q (s.toks + k.draws)
  unfold valE at q'
  cases f : findE k es with
  | none => rw [f] at q'; exact wpAny_pure q'
  | some j =>
    rw [f] at q'
    refine wpAny_bind (wpAny_dictEntries (s := { s with toks := s.toks + k.draws }) ho hd ?_)
    have e : t[j]? = (es[j]?).map entV := by rw [← Array.getElem?_toList, he, List.getElem?_map]; rfl
    rw [e, Option.map_map]
    exact wpAny_pure q'
theorem putE_keys (k : NestedKey) (u v : Value) (es : List Ent) : (putE k u v es).map (·.1) = match findE k es with
  | some _ => es.map (·.1)
  | none => es.map (·.1) ++ [k] := by
  unfold putE
  cases f : findE k es with
  | none => simp
  | some j =>
    show (es.modify j _).map _ = _
    apply List.ext_getElem?
    intro i
    rw [List.getElem?_map, List.getElem?_map, List.getElem?_modify]
    by_cases h : j = i
    · subst h
      simp
      cases es[j]? <;> rfl
    · simp [h]
theorem set_key {d : Addr} {u v : Value} {es : List Ent} {k : NestedKey} {Q : Unit → Shared → Prop} (hu : A.units + 8 < cLine) (a : KeyAt s.heap w k u) (dd : DictE s.heap w d es) (hz : es.length ≤ sizeLine)
    (q : ∀ h' tk, DictPh d (putE k u v es) h' → Heap.SameBut d s.heap h' → Q () { s with heap := h', toks := tk }) : wpAny (model prog w) A (dictSet d u v) Q E s := by
  obtain ⟨⟨o, t, ep, ho, hx, hd, he⟩, hes, hn⟩ := dd
  have l := a.dp
  have hsz : t.size = es.length := by rw [← Array.length_toList, he, List.length_map]
  unfold dictSet
  try with_reducible refine wpAny_holding ?_
  refine wpAny_bind (pyHash_key k u A s _ a.is (by omega) ?_)
  rw [a.ha]
  unfold dictSetHashed
  try with_reducible refine wpAny_holding ?_
  refine wpAny_bind (find_key (s := { s with toks := s.toks + k.draws }) hu a ho hd he hes hn ?_)
  have pe : putE k u v es = match findE k es with
    | some j => es.modify j fun e => (e.1, e.2.1, v)
    | none => es ++ [(k, u, v)] := rfl
  cases f : findE k es with
  | none =>
    rw [f] at pe
    refine wpAny_bind (wpAny_rule (wpAny_updateDictKeys (s := { s with toks := s.toks + k.draws }) ho hd (hz := by rw [hsz]; exact hz) (q _ _ ?_ (Heap.SameBut.update ..))))
    refine ⟨_, _, _, Heap.get?_update_self _ ho (Obj.isFreed_of_dict (Obj.data_mapDictKeys hd _)), hx.mapDictKeys _, Obj.data_mapDictKeys hd _, ?_⟩
    rw [pe, Array.toList_push, he, List.map_append]
    rfl
  | some j =>
    rw [f] at pe
    refine wpAny_bind (wpAny_rule (wpAny_bind (wpAny_updateDict (s := { s with toks := s.toks + k.draws }) ho hd (wpAny_point (q _ _ ?_ (Heap.SameBut.update ..))))))
    refine ⟨_, _, _, Heap.get?_update_self _ ho (Obj.isFreed_of_dict (Obj.data_mapDict hd _)), hx.mapDict _, Obj.data_mapDict hd _, ?_⟩
    rw [pe]
    have e1 : (t.modify j fun e => { e with val := v }).toList = t.toList.modify j fun e => { e with val := v } := by obtain ⟨l⟩ := t; simp
    show (t.modify j fun e => { e with val := v }).toList = _
    rw [e1, he]
    apply List.ext_getElem?
    intro i
    rw [List.getElem?_modify, List.getElem?_map, List.getElem?_map, List.getElem?_modify]
    by_cases h : j = i
    · subst h
      simp
      cases es[j]? <;> rfl
    · simp [h]
end
end Ev
set_option Elab.async false
set_option linter.all false
set_option maxRecDepth 100000
set_option maxHeartbeats 4000000
/-! Ev19: the dict of a local name: {}, get, [], in, stores, sorted values. -/
namespace Ev
open PySem PySem.Spec PyProof.Rows L2
def keyK (d : D) : Option NestedKey := match keyD d with
  | some k => match Nat.ble k.depth 8 with
    | true => some k
    | false => none
  | none => none
theorem keyK_ok {d : D} {k : NestedKey} (h : keyK d = some k) : keyD d = some k ∧ k.depth ≤ 8 := by
  unfold keyK at h
  cases e : keyD d with
  | none => rw [e] at h; cases h
  | some j =>
    rw [e] at h
    dsimp only at h
    cases hb : Nat.ble j.depth 8 with
    | false => rw [hb] at h; cases h
    | true =>
      rw [hb] at h
      cases h
      exact ⟨rfl, Nat.le_of_ble_eq_true hb⟩
def isKey (k : NestedKey) (d : D) : Bool := match keyD d with
  | some j => NestedKey.beq j k
  | none => false
def lookD (k : NestedKey) : List (D × D) → Option D
  | [] => none
  | (a, v) :: r => match isKey k a with
    | true => some v
    | false => lookD k r
def storeD (k : NestedKey) (kd v : D) : List (D × D) → List (D × D)
  | [] => [(kd, v)]
  | (a, x) :: r => match isKey k a with
    | true => (a, v) :: r
    | false => (a, x) :: storeD k kd v r
theorem isKey_eq {k j : NestedKey} {d : D} (h : keyD d = some j) : isKey k d = decide (j = k) := by
  unfold isKey
  rw [h]
  exact (NestedKey.decide_eq j k).symm
section
variable {K : PySem.W.Frag} {Z : Hp}
/-- the look-up, by data and by values -/
theorem look_ok {k : NestedKey} : ∀ {es : List Ent} {kvs : List (D × D)}, EntsOk K Z es kvs → match lookD k kvs with
    | some v => ∃ u y, valE k es = some u ∧ RelV y u ∧ Dq K Z y v
    | none => valE k es = none
  | _, _, .nil => rfl
  | _, _, .cons (k := j) (u := u) (v := v) (dk := dk) (dv := dv) (es := es) (kvs := kvs) hk _ _ _ r d t => by
    have ih := look_ok (k := k) t
    unfold lookD
    rw [isKey_eq hk]
    by_cases h : j = k
    · rw [decide_eq_true h]
      refine ⟨v, _, ?_, r, d⟩
      unfold valE findE
      rw [if_pos h]; rfl
    · rw [decide_eq_false h]
      have e : valE k ((j, u, v) :: es) = valE k es := by
        unfold valE
        rw [show findE k ((j, u, v) :: es) = (findE k es).map (· + 1) by rw [findE, if_neg h]]
        cases findE k es with
        | none => rfl
        | some i => rfl
      rw [e]
      exact ih
theorem store_ok3 {k : NestedKey} {kd v : D} {uk uv : Value} {x y : V} (hk : keyD kd = some k) (hd8 : k.depth ≤ 8) (rx : RelV x uk) (dx : Dq K Z x kd) (ry : RelV y uv) (dy : Dq K Z y v) : ∀ {es : List Ent} {kvs : List (D × D)}, EntsOk K Z es kvs → EntsOk K Z (putE k uk uv es) (storeD k kd v kvs)
  | _, _, .nil => .cons hk hd8 rx dx ry dy .nil
  | _, _, .cons (k := j) (u := u') (v := v') (dk := dk) (dv := dv) (es := es) (kvs := kvs) a a' b c d e t => by
    have ih := store_ok3 hk hd8 rx dx ry dy t
    unfold storeD
    rw [isKey_eq a]
    by_cases h : j = k
    · rw [decide_eq_true h]
      have e1 : putE k uk uv ((j, u', v') :: es) = (j, u', uv) :: es := by
        unfold putE
        rw [show findE k ((j, u', v') :: es) = some 0 by rw [findE, if_pos h]]
        rfl
      rw [e1]
      exact .cons a a' b c ry dy t
    · rw [decide_eq_false h]
      have e1 : putE k uk uv ((j, u', v') :: es) = (j, u', v') :: putE k uk uv es := by
        unfold putE
        rw [show findE k ((j, u', v') :: es) = (findE k es).map (· + 1) by rw [findE, if_neg h]]
        cases findE k es with
        | none => rfl
        | some i => rfl
      rw [e1]
      exact .cons a a' b c d e ih
theorem store_len (k : NestedKey) (kd v : D) : ∀ kvs : List (D × D), (storeD k kd v kvs).length ≤ kvs.length + 1
  | [] => Nat.le_refl _
  | (a, x) :: r => by
    unfold storeD
    split
    · exact Nat.le_succ _
    · exact Nat.succ_le_succ (store_len k kd v r)
theorem EntsOk.len : ∀ {es : List Ent} {kvs : List (D × D)}, EntsOk K Z es kvs → es.length = kvs.length
  | _, _, .nil => rfl
  | _, _, .cons _ _ _ _ _ _ t => congrArg (· + 1) t.len
end
section
variable {X : Cx} {pins : List (Addr × Obj)} {σ : L2.St} {H : Hp} {s : Shared} {Z : Hp}
theorem ents_keys (I : Inv X pins σ H s) (z : Same Z H) : ∀ {es : List Ent} {kvs : List (D × D)}, EntsOk X.K Z es kvs → ∀ e ∈ es, KeyAt s.heap X.w e.1 e.2.1
  | _, _, .nil, e, h => by cases h
  | _, _, .cons a a' b c _ _ t, e, h => by
    rcases List.mem_cons.mp h with q | h
    · rw [q]
      obtain ⟨n1, n2⟩ := nested_of I z a c b
      exact ⟨n1, a', hash_key _ a, n2⟩
    · exact ents_keys I z t e h
/-- the dict at a, as the library sees it -/
theorem dict_at (I : Inv X pins σ H s) (z : Same Z H) {a : Addr} {es : List Ent} {kvs : List (D × D)} (ha : H a = some (.ext (DictPh a es))) (he : EntsOk X.K Z es kvs) (hn : (es.map (·.1)).Nodup) : DictE s.heap X.w a es :=
  ⟨(I.hok a _ ha).1, ents_keys I z he, hn⟩
theorem DictE.ty {w : World} {d : Addr} {es : List Ent} (h : DictE s.heap w d es) : s.TypeIs (.ref d) "dict" := let ⟨o, _, _, ho, hx, _⟩ := h.ph; ⟨o, ho, hx.1⟩
theorem DictE.nodict {w : World} {d : Addr} {es : List Ent} (h : DictE s.heap w d es) : ∀ b, Value.ref d = .ref b → ∃ ob, s.heap.get? b = some ob ∧ ob.dict = none := fun b e => by
  cases e
  obtain ⟨o, _, _, ho, hx, _⟩ := h.ph
  exact ⟨o, ho, hx.2.1⟩
theorem DictPh.obj {h : Heap} {d : Addr} {es : List Ent} (p : DictPh d es h) : ∃ o, h.get? d = some o := let ⟨o, _, _, ho, _⟩ := p; ⟨o, ho⟩
theorem DictPh.frame {d : Addr} {es : List Ent} : ∀ h1 h2 : Heap, DictPh d es h1 → (∀ o, h1.get? d = some o → h2.get? d = some o) → DictPh d es h2 := fun h1 h2 ⟨o, t, ep, ho, r⟩ k => ⟨o, t, ep, k o ho, r⟩
theorem ext_ok {P : Program} {w : World} {H : Hp} {h : Heap} {d : Addr} {es : List Ent} (p : DictPh d es h) : ObjOk P w H h d (.ext (DictPh d es)) := ⟨p, p.obj, DictPh.frame⟩
end
section
variable {g : G} {W : WX} {X : Cx} {K : PySem.W.Frag} {e e2 : Expr} {f h : Env → R D} {σ : L2.St} {b : Nat} {Z H Z0 H0 : Hp} {ow : Nat → Addr} {env : Env} {pos : Pos}
/-! ### {} -/
def oDict : Env → R Ob := fun _ => .ok (.d [])
theorem noe_dict : NOE g W X (.Dict [] [] pos) oDict := by
  refine ⟨fun pins s σ H Q I ⟨b, Z, ow, env, S, k⟩ => wpAny_Dict_empty ?_⟩
  have hp : H s.heap.objs.size = none := I.hok.fresh (Nat.le_refl _)
  have ph : DictPh s.heap.objs.size [] (s.heap.push { cls := .type "dict", data := .dict #[] }) := ⟨_, #[], 0, Heap.get?_push_size _ rfl, ⟨rfl, rfl, rfl⟩, rfl, rfl⟩
  refine ⟨.ref s.heap.objs.size, _, I.laid (a := s.heap.objs.size) (o := .ext (DictPh s.heap.objs.size [])) (t' := s.toks) (fun _ _ q => Heap.get?_push_of_some _ q) (Nat.le_refl _) (ext_ok ph), rfl, ?_⟩
  have hS : (s.heap.objs.size == sysModules) = false := beq_eq_false_iff_ne.mpr (Ne.symm (Nat.ne_of_lt I.big))
  exact k _ _ Z (Ext.newU S.zh hp) (S.urn.newU hp) ⟨_, _, rfl, hp, S.zh.free hp, S.urn.ne hp, upd_same, hS, Nat.zero_le _, [], rfl, .nil, List.nodup_nil⟩
def sNewO (i : Nat) (f : Env → R Ob) : Env → R Flw := fun env => (f env).bindS env fun ob => .ok (.nx (setS env i (.ow ob)))
theorem vs_newO {i : Nat} {x : Str} {f : Env → R Ob} {pos' : Pos} (hN : X.N.Nodup) (hi : X.N[i]? = some x) (hx : Loc X.env.scope x) (h : NOE g W X e f) (hs : swapsWith e (some (.Name x pos')) pos.line X.env = pure false := by rfl)
    (hf : X.fn x = true ∨ X.env.scope.names.lookup x = some .local := by first | exact .inl rfl | exact .inr rfl | assumption) : VS g W Z0 H0 X (.Assign [.Name x pos'] e pos) (sNewO i f) :=
  PS.of (ps_set hN hi hx h hs hf) fun σ H E ⟨b, Z, ow, env, S, k⟩ => by
    refine ⟨b, Z, ow, env, S.se, SK.seq S k fun b1 ob v H1 Z1 e1 S1 ⟨p, o, hv, hp, zp, rp, hl, hd⟩ k1 => ?_⟩
    subst hv
    refine SK.nx (S1.setOw i zp rp hl hd (S.was hp) fun j es q e => ?_) k1
    have a := S.se.at_ j
    rw [q] at a
    obtain ⟨_, _, _, ws, h2, _⟩ := a
    rw [e, hp] at h2
    cases h2
/-! ### d.get(k, x) -/
def getD2 (kvs : List (D × D)) (k d : D) : Option D := match keyK k with
  | some kk => match lookD kk kvs with
    | some v => some v
    | none => some d
  | none => none
def eDGet (i : Nat) (f h : Env → R D) : Env → R D := fun env => match sl env i with
  | .ow (.d kvs) => (f env).bind fun k => (h env).bind fun d => .of (getD2 kvs k d)
  | _ => .fail
theorem ve_dget {i : Nat} {x : Str} {p1 p2 p3 : Pos} (hu : X.A.units + 65 < cLine) (hN : X.N[i]? = some x) (hv : Vis X.env.scope x) (h1 : VE g W X e f) (h2 : VE g W X e2 h) (m : M2 X (.Name x p1) "get" p2 e e2 p3)
    (hdb : (x == ("__debug__" : Str)) = false := by decide) (hcd : (x == ("__classdict__" : Str)) = false := by decide) : VE g W X (.Call (.Attribute (.Name x p1) "get" p2) [e, e2] [] p3) (eDGet i f h) := by
  refine ⟨fun pins s σ H Q I ⟨b, Z, ow, env, S, k⟩ => ?_⟩
  unfold eDGet at k
  have a := S.at_ i
  cases e : sl env i <;> rw [e] at k <;> first | exact k.elim | skip
  rename_i ob
  cases ob <;> first | exact k.elim | skip
  rename_i kvs
  rw [e] at a
  obtain ⟨q1, zp, rp, _, q2, hsm, hlen, es, rfl, hes, hnd⟩ := a
  refine wpAny_Call_method m.base m.few m.line PySem.F.plainAttrs_dict PySem.F.slot_dict_get PySem.F.type_dict_get (thn ((pe_var hN hv hdb hcd).run pins s σ H (fun v H1 => v = .ref (ow i) ∧ H1 = H) I ⟨_, q1, rfl, rfl⟩) fun u s1 ⟨v, H1, I1, r1, e1, e2⟩ => ?_)
  subst e1 e2
  obtain rfl : u = Value.ref (ow i) := r1
  have dd := dict_at I1 S.zh q2 hes hnd
  refine ⟨dd.ty, dd.nodict, ?_⟩
  rw [m.trees]
  refine Calls.callWith_builtin rfl (Calls.evalArgs_plain (Calls.spliced_cons (thn (h1.run pins s1 σ H1 (fun kv H2 => ∃ b2 Z2 dk, SE g.r b2 X.K Z2 H2 ow σ env ∧ Ext g.r Z H1 Z2 H2 ∧ Dq X.K Z2 kv dk ∧ KG g X.K W σ b2 Z2 H2 (RelD X.K H1) ((h env).bind fun d => R.of (getD2 kvs dk d)) Q) I1 ⟨b, Z, ow, env, S, KG.seq S k fun b1 dk kv H2 Z2 e1 S1 hk k1 => ⟨b1, Z2, dk, S1, e1, hk, k1⟩⟩) fun uk s2 ⟨kv, H2, I2, rk, b2, Z2, dk, S2, x2, hk, k2⟩ =>
    Calls.spliced_cons (thn (h2.run pins s2 σ H2 (fun dv H3 => ∃ b3 Z3 dx, SE g.r b3 X.K Z3 H3 ow σ env ∧ Ext g.r Z2 H2 Z3 H3 ∧ Dq X.K Z3 dv dx ∧ KG g X.K W σ b3 Z3 H3 (RelD X.K H1) (R.of (getD2 kvs dk dx)) Q) I2 ⟨b2, Z2, ow, env, S2, KG.seq S2 k2 fun b1 dx dv H3 Z3 e1 S1 hx k1 => ⟨b1, Z3, dx, S1, e1, hx, k1⟩⟩) fun ud s3 ⟨dv, H3, I3, rd, b3, Z3, dx, S3, x3, hx, k3⟩ => Calls.spliced_nil ?_))))
  obtain ⟨d, hd, k4⟩ := k3.of
  have x13 := x2.trans' x3 S2.urn
  have q3 := x13.keep _ _ q2 zp rp
  have es3 := (hes.mono x2.zz).mono x3.zz
  have dd3 := dict_at I3 S3.zh q3 es3 hnd
  unfold getD2 at hd
  cases hkk : keyK dk with
  | none => rw [hkk] at hd; cases hd
  | some kk =>
    rw [hkk] at hd
    dsimp only at hd
    obtain ⟨c1, c2⟩ := keyK_ok hkk
    obtain ⟨n1, n2⟩ := nested_of I3 S3.zh c1 (hk.mono x3.zz) rk
    have ka : KeyAt s3.heap X.w kk uk := ⟨n1, c2, hash_key _ c1, n2⟩
    have lo := look_ok (k := kk) es3
    have fin : ∀ (val : Option Value), val = valE kk es → ∃ y v', RelV y v' ∧ v' = val.getD ud ∧ Dq X.K Z3 y d := fun val hv => by
      subst hv
      cases hl : lookD kk kvs with
      | none =>
        rw [hl] at lo hd
        cases hd
        exact ⟨dv, ud, rd, by rw [lo]; rfl, hx⟩
      | some v =>
        rw [hl] at lo hd
        cases hd
        obtain ⟨u', y, l1, l2, l3⟩ := lo
        exact ⟨y, u', l2, by rw [l1]; rfl, l3⟩
    refine call_meetsIn PySem.F.slot_dict_get dd3.ty PySem.F.entry_dict_get (PySem.F.args_dict_get_3 _ _ _) (S := fun A R s => (∃ es, KeyAt s.heap X.w kk uk ∧ A.units + 10 < cLine ∧ DictE s.heap X.w (ow i) es ∧ ∀ tk, R (.ok (.ret ((valE kk es).getD ud))) { s with toks := tk })) (.of_wp fun A R s ⟨es, h1, h2, h3, h4⟩ => ?_) ⟨es, ka, by omega, dd3, fun tk => ?_⟩
    · show wpAny _ _ (dictGet (ow i) uk >>= _) _ _ s
      refine wpAny_bind (get_key (A := A.in1) (by show A.units + 1 + 8 < cLine; omega) h1 h3 fun tk => ?_)
      have h4' := h4 tk
      cases hf : valE kk es with
      | some v => rw [hf] at h4'; exact wpAny_pure ⟨v, rfl, h4'⟩
      | none =>
        rw [hf] at h4'
        show wpAny _ _ (Builtin.Dict.missed (ow i) uk >>= _) _ _ _
        exact wpAny_bind (wpAny_missed_other hsm (wpAny_pure ⟨ud, rfl, h4'⟩))
    · obtain ⟨y, v', r1, r2, r3⟩ := fin _ rfl
      rw [← r2]
      exact ⟨y, H3, I3.tok tk, r1, KG.ok (Rel := RelD X.K H1) S3 k4 r3⟩
/-! ### d[k] = v -/
def rSetDi (K : PySem.W.Frag) : TSet := fun o i v H Q => ∃ (a : Addr) (es : List Ent) (kvs : List (D × D)) (Z : Hp) (dk dv : D) (kk : NestedKey), o = .ref a ∧ H a = some (.ext (DictPh a es)) ∧ (a == sysModules) = false ∧ kvs.length ≤ sizeLine ∧ Same Z H ∧ EntsOk K Z es kvs ∧ (es.map (·.1)).Nodup ∧
  Dq K Z i dk ∧ Dq K Z v dv ∧ keyK dk = some kk ∧ ∀ es', EntsOk K Z es' (storeD kk dk dv kvs) → (es'.map (·.1)).Nodup → Q (upd H a (.ext (DictPh a es')))
theorem set_di (hu : X.A.units + 65 < cLine) : PSet X (rSetDi X.K) := by
  rintro pins s σ H o i v ov iv u Q I ro ri rv ⟨a, es, kvs, Z, dk, dv, kk, rfl, ha, hsm, hlen, z, hes, hnd, hi, hv, hk, q⟩
  cases ro
  have dd := dict_at I z ha hes hnd
  obtain ⟨c1, c2⟩ := keyK_ok hk
  obtain ⟨n1, n2⟩ := nested_of I z c1 hi ri
  have ka : KeyAt s.heap X.w kk iv := ⟨n1, c2, hash_key _ c1, n2⟩
  have e1 := store_ok3 c1 c2 ri hi rv hv hes
  have hnd' : ((putE kk iv u es).map (·.1)).Nodup := by
    rw [putE_keys]
    cases f : findE kk es with
    | some j => exact hnd
    | none =>
      refine List.nodup_append.mpr ⟨hnd, by simp, fun x hx y hy => ?_⟩
      have : y = kk := by simpa using hy
      subst this
      obtain ⟨e, he, rfl⟩ := List.mem_map.mp hx
      exact findE_none f e he
  unfold setItem
  try with_reducible refine wpAny_holding ?_
  refine wpAny_bind (wpAny_sequenceKey dd.ty (by decide) ?_)
  refine wpAny_bind (wpAny_callSpecial?_slot (name := Str.ofString "__setitem__") dd.ty slot_dict_setitem (wpAny_call_entry slot_dict_setitem dd.ty entry_dict_setitem ?_ (args_dict_setitem _ _ _)))
  show wpAny _ X.A.in1 (Builtin.Dict.notOrdered "__setitem__" ⟨[Value.ref a, iv, u], []⟩ >>= _) _ _ s
  refine wpAny_bind (wpAny_notOrdered_dict dd.ty ?_)
  show wpAny _ X.A.in1 (dictSet a iv u >>= _) _ _ s
  refine wpAny_bind (set_key (A := X.A.in1) (by show X.A.units + 1 + 8 < cLine; omega) ka dd (by rw [hes.len]; exact hlen) fun h' tk hp hs => ?_)
  refine wpAny_pure ⟨.none, rfl, wpAny_pure ⟨_, I.write (x := a) (e := a) (o := .ext (DictPh a (putE kk iv u es))) (t' := tk) (by rw [ha]; exact trivial) (.inl rfl) (fun b ob hb hq => (hs.2 b hb).trans hq) hp.obj (ext_ok hp), q _ e1 hnd'⟩⟩
def sDSet (i : Nat) (fi fv : Env → R D) : Env → R Flw := fun env => match sl env i with
  | .ow (.d kvs) => (fv env).bindS env fun d => (fi env).bindS env fun k => match keyK k with
    | some kk => match smaller kvs.length with
      | true => .ok (.nx (setS env i (.di (storeD kk k d kvs))))
      | false => .fail
    | none => .fail
  | _ => .fail
theorem vs_dset {i : Nat} {x : Str} {p1 p2 : Pos} {ei ev : Expr} {fi fv : Env → R D} (hu : X.A.units + 65 < cLine) (hN : X.N[i]? = some x) (hv : Vis X.env.scope x) (h1 : VE g W X ei fi) (h2 : VE g W X ev fv)
    (hd : (x == ("__debug__" : Str)) = false := by decide) (hcd : (x == ("__classdict__" : Str)) = false := by decide)
    (ha : ∀ v, assign (.Subscript (.Name x p1) ei p2) X.env v = (do
      let ov ← holding [v] (eval (.Name x p1) X.env)
      let iv ← holding [v, ov] (eval ei X.env)
      standAt p2
      holding [v, ov, iv] (setItem ov iv v)
      release [v, ov, iv] []) := by intro _; rfl)
    (hs : swapsWithSole [.Subscript (.Name x p1) ei p2] ev pos.line X.env = pure false := by rfl) (hw : swappedStores [.Subscript (.Name x p1) ei p2] ev X.env = pure none := by rfl)
    (hA : (assignEach [.Subscript (.Name x p1) ei p2] X.env).map (·.2) = [assign (.Subscript (.Name x p1) ei p2) X.env] := by rfl) : VS g W Z0 H0 X (.Assign [.Subscript (.Name x p1) ei p2] ev pos) (sDSet i fi fv) :=
  PS.of (ps_asg h2 (pg_sub (pe_var hN hv hd hcd) h1 (set_di hu) ha) hs hw hA) fun σ H E ⟨b, Z, ow, env, S, k⟩ => by
    unfold sDSet at k
    have a := S.se.at_ i
    cases e : sl env i <;> rw [e] at k <;> first | exact k.elim | skip
    rename_i ob
    cases ob <;> first | exact k.elim | skip
    rename_i kvs
    rw [e] at a
    obtain ⟨q1, zp, rp, _, q2, hsm, hlen, es, rfl, hes, hnd⟩ := a
    refine ⟨b, Z, ow, env, S.se, SK.seq S k fun b1 d v H1 Z1 e1 S1 hd k1 => ?_⟩
    refine ⟨_, q1, b1, Z1, ow, env, S1.se, SK.seq S1 k1 fun b2 y w H2 Z2 e2 S2 hy k2 => ?_⟩
    cases hk : keyK y with
    | none => rw [hk] at k2; exact k2.elim
    | some kk =>
      rw [hk] at k2
      dsimp only at k2
      cases hz : smaller kvs.length <;> rw [hz] at k2 <;> first | exact k2.elim | skip
      have h2' := (e1.trans' e2 S1.se.urn).keep _ _ q2 zp rp
      refine ⟨_, es, kvs, Z2, y, d, kk, rfl, h2', hsm, hlen, S2.se.zh, (hes.mono e1.zz).mono e2.zz, hnd, hy, hd.mono e2.zz, hk, fun es' he' hn' => ?_⟩
      have hl : (storeD kk y d kvs).length ≤ sizeLine := Nat.le_trans (store_len kk y d kvs) (smaller_ok hz)
      exact SK.nx (S2.mutO (ob2 := .d (storeD kk y d kvs)) e ⟨hsm, hl, es', rfl, he', hn'⟩) k2
/-! ### sorted(d.values()) -/
def valsL : List (D × D) → List D
  | [] => []
  | (_, v) :: r => v :: valsL r
theorem vals_ok : ∀ {es : List Ent} {kvs : List (D × D)}, EntsOk K Z es kvs → ∃ vs, Vals vs (es.map (·.2.2)) ∧ DqAll K Z vs (valsL kvs)
  | _, _, .nil => ⟨[], .nil, .nil⟩
  | _, _, .cons _ _ _ _ r d t => let ⟨vs, h1, h2⟩ := vals_ok t; ⟨_ :: vs, .cons r h1, .cons d h2⟩
end
end Ev
set_option Elab.async false
set_option linter.all false
set_option maxRecDepth 100000
set_option maxHeartbeats 4000000
/-! Ev20: sorted(d.values()). -/
namespace Ev
open PySem PySem.Spec PyProof.Rows L2
section
variable {g : G} {W : WX} {X : Cx} {K : PySem.W.Frag} {σ : L2.St} {b : Nat} {Z H Z0 H0 : Hp} {ow : Nat → Addr} {env : Env} {pos : Pos}
def ViewPh (p a : Addr) : Heap → Prop := fun h => h.IsValuesView p a
def tVals (i : Nat) : TE := fun σ H Q => ∃ a es, σ[i]? = some (some (.ref a)) ∧ H a = some (.ext (DictPh a es)) ∧ (a == sysModules) = false ∧ ∀ p, H p = none → Q (.ref p) (upd H p (.ext (ViewPh p a)))
theorem pe_vals {i : Nat} {x : Str} {p1 p2 p3 : Pos} (hN : X.N[i]? = some x) (hv : Vis X.env.scope x) (hbase : attributeBase (.Name x p1) "values" X.env (eval (.Name x p1) X.env) = eval (.Name x p1) X.env := by rfl) (hline : (p2.endLine == p3.line) = true := by rfl)
    (hdb : (x == ("__debug__" : Str)) = false := by decide) (hcd : (x == ("__classdict__" : Str)) = false := by decide) : PE X (.Call (.Attribute (.Name x p1) "values" p2) [] [] p3) (tVals i) := by
  refine ⟨fun pins s σ H Q I ⟨a, es, q1, ha, hsm, q⟩ => ?_⟩
  refine wpAny_Call_method0_late hbase hline (thn ((pe_var hN hv hdb hcd).run pins s σ H (fun v H1 => v = .ref a ∧ H1 = H) I ⟨_, q1, rfl, rfl⟩) fun u s1 ⟨v, H1, I1, r1, e1, e2⟩ => ?_)
  subst e1 e2
  obtain rfl : u = Value.ref a := r1
  obtain ⟨o, t, ep, ho, hx, hd, he⟩ : DictPh a es s1.heap := (I1.hok a _ ha).1
  refine ⟨"dict", "dict.values", PySem.F.plainAttrs_dict, PySem.F.slot_dict_values, PySem.F.type_dict_values, ⟨o, ho, hx.1⟩, fun b e => by cases e; exact ⟨o, ho, hx.2.1⟩, ?_⟩
  refine Calls.callWith_builtin rfl (PySem.evalArgs_none ?_)
  refine call_meetsIn PySem.F.slot_dict_values ⟨o, ho, hx.1⟩ PySem.F.entry_dict_values (PySem.F.args_dict_values_1 _) (meets_dict_values_raw a hsm) ⟨⟨t, ep, o, ho, hx, hd⟩, ?_⟩
  have hw : (s1.heap.push { cls := .type "dict_values", data := .fields #[.ref a] }).IsValuesView s1.heap.objs.size a := ⟨_, Heap.get?_push_size _ rfl, rfl, rfl⟩
  exact ⟨.ref s1.heap.objs.size, _, I1.laid (a := s1.heap.objs.size) (o := .ext (ViewPh s1.heap.objs.size a)) (t' := s1.toks) (fun _ _ q => Heap.get?_push_of_some _ q) (Nat.le_refl _) ⟨hw, ⟨_, Heap.get?_push_size _ rfl⟩, fun h1 h2 ⟨o, ho, r⟩ k => ⟨o, k o ho, r⟩⟩, rfl, q _ (I1.hok.fresh (Nat.le_refl _))⟩
def rSortV (K : PySem.W.Frag) : List V → Hp → VK → Prop := fun xs H Q => ∃ (p a : Addr) (es : List Ent) (Z : Hp) (ys : List V) (rows : List (List Int)), xs = [.ref p] ∧ H p = some (.ext (ViewPh p a)) ∧ H a = some (.ext (DictPh a es)) ∧ es.length ≤ sizeLine ∧ Same Z H ∧
  Vals ys (es.map (·.2.2)) ∧ DqAll K Z ys (rows.map tupI) ∧ (∀ x ∈ rows, x ≠ []) ∧ ∀ q vs, H q = none → DqAll K Z vs ((isort leR rows).map tupI) → Q (.ref q) (upd H q (.lst vs))
theorem sort_list {A : Around} {E : Value → Shared → Prop} (hu : A.units + 65 < cLine) {pins : List (Addr × Obj)} {H : Hp} {s : Shared} {Q : Value → Shared → Prop} (I : Inv X pins σ H s) (z : Same Z H) {ys : List V} {rows : List (List Int)} {D : Addr} {its : List Value} {n : Nat} (rv : Vals ys its) (h2 : DqAll X.K Z ys (rows.map tupI)) (hne : ∀ x ∈ rows, x ≠ [])
    (ho : s.heap.get? D = some (seqObj "list" its.toArray n)) (hz : its.length ≤ sizeLine) (q : ∀ out vs, Vals vs out → DqAll X.K Z vs ((isort leR rows).map tupI) → out.length = its.length → Q .none { s with heap := sortedHeap s.heap D its out.toArray }) :
    wpAny (model X.prog X.w) A (call (.builtin "list.sort") [.ref D]) Q E s := by
  obtain ⟨e1, e2⟩ := each_of (X := X) (K' := s.heap) (fun d v u h r => Dp.reads I d v u (h.mono z).dp r) h2 rv
  have hbl : rows.length = its.length := by rw [← rv.length, h2.len, List.length_map]
  have e3 : PySem.W.EachIs (fun u b => ∃ as, Reads s.heap u (tupI b) as ∧ D ∉ as) its rows := e2.mono fun u b ⟨as, r⟩ => ⟨as, r, by
    have : as = [] := by
      cases r with
      | tuple _ _ _ h4 => exact ints_addrs b h4
    rw [this]; simp⟩
  refine PySem.W.list_sort_data ho e1 e3 (alike_rows rows) (.inl fun d hd => ?_) (by rw [hbl]; exact hz) (fun b _ => ?_) fun out hl he => ?_
  · obtain ⟨b, hb, rfl⟩ := List.mem_map.mp hd
    cases b with
    | nil => exact absurd rfl (hne _ hb)
    | cons i b => exact ⟨.int i, b.map .int, rfl⟩
  · have : (tupI b).depth ≤ 1 := by
      show (PyData.tuple (b.map .int)).depth ≤ 1
      rw [PyData.depth, PySem.W.depth_ints]
      decide
    omega
  · have he' : PySem.W.EachIs (fun u b => ∃ x, RelV x u ∧ Dq X.K Z x (tupI b)) out (rows.mergeSort leR) := by
      have e9 := dataLe_tups
      rw [show PySem.W.dataLe false tupI = leR from e9] at he
      exact he
    have te : PySem.W.TotalLe leR := by rw [← dataLe_tups]; exact PySem.W.sortLe_total _ _ _
    rw [← isort_eq te] at he'
    obtain ⟨vs, v1, v2⟩ := each_back he'
    exact q out vs v1 v2 (by rw [hl, hbl])
where ints_addrs {h : Heap} : ∀ (b : List Int) {vs : List Value} {as : List Addr}, ReadsAll h vs (b.map .int) as → as = []
  | [], _, _, r => by cases r; rfl
  | i :: b, _, _, r => by
    cases r with
    | cons r1 r2 =>
      cases r1
      rw [ints_addrs b r2]
      rfl
theorem c_sortV (hc : X.calm = true) (hu : X.A.units + 66 < cLine) : CallR X (.builtin "sorted") (rSortV X.K) := by
  rintro pins s σ H xs us Q I rv ⟨p, a, es, Z, ys, rows, rfl, hp, ha, hlen, z, vy, hd, hne, q⟩
  rw [Vals.ref1 rv]
  obtain ⟨o, t, ep, ho, hx, hdt, he⟩ : DictPh a es s.heap := (I.hok a _ ha).1
  have hview : s.heap.IsValuesView p a := (I.hok p _ hp).1
  have hsz : t.size = es.length := by rw [← Array.length_toList, he, List.length_map]
  refine Calls.call_function_entry kind_sorted plain_sorted entry_sorted (args_sorted1 _) ?_
  unfold Builtin.«sorted»
  refine wpAny_bind (m := checkCount "sorted" 1 1 _) (wpAny_pure ?_)
  refine wpAny_bind (PySem.W.kdu_collect (A := X.A.in1) (KdlSrc.rawValues (es := t) (ep := ep)) (I.ok.hd hc) ⟨hview, o, ho, hx, hdt⟩ (by rw [hsz]; exact hlen) fun h' tk acc hk hacc => ?_)
  have hal : acc.toList.length = t.size := by rw [Array.length_toList]; exact hacc.1
  have hits : acc.toList = es.map (·.2.2) := by
    apply List.ext_getElem?
    intro j
    by_cases hj : j < t.size
    · have hj2 : j < acc.size := by rw [hacc.1]; exact hj
      have h1 : acc[j]? = some acc[j] := Array.getElem?_eq_getElem hj2
      obtain ⟨hi, e⟩ := hacc.2 j acc[j] h1
      rw [Array.getElem?_toList, h1, e]
      have h3 : t.toList[j]? = some t[j] := by rw [Array.getElem?_toList]; exact Array.getElem?_eq_getElem hi
      rw [he, List.getElem?_map] at h3
      rw [List.getElem?_map]
      cases hh : es[j]? with
      | none => rw [hh] at h3; cases h3
      | some x =>
        rw [hh] at h3
        have h4 := Option.some.inj h3
        show some t[j].val = some x.2.2
        rw [← h4]
    · rw [List.getElem?_eq_none (by omega), List.getElem?_eq_none (by rw [List.length_map]; omega)]
  refine wpAny_bind (wpAny_newList ?_ (by rw [hal, hsz]; exact hlen))
  have I1 : Inv X pins σ H { s with heap := h'.push { cls := .type "list", data := .seq acc.toList.toArray }, toks := tk } := I.kept fun b ob e => Heap.get?_push_of_some _ (hk b ob e)
  have I0 : Inv X pins σ H { s with heap := h', toks := tk } := I.kept fun b ob e => hk b ob e
  refine wpAny_bind (wpAny_holding (sort_list (A := X.A.in1) (by show X.A.units + 1 + 65 < cLine; omega) I1 z vy hd hne (D := h'.objs.size) (its := es.map (·.2.2)) (n := 0) ?_ (by rw [List.length_map]; exact hlen) fun out vs v1 v2 hol => ?_))
  · have h6 := Heap.get?_push_size h' (o := { cls := .type "list", data := .seq acc.toList.toArray }) rfl
    show (h'.push { cls := .type "list", data := .seq acc.toList.toArray }).get? h'.objs.size = _
    rw [h6, hits]
  · have h6 : (h'.push { cls := .type "list", data := .seq acc.toList.toArray }).get? h'.objs.size = some (seqObj "list" (es.map (·.2.2)).toArray 0) := by
      have h7 := Heap.get?_push_size h' (o := { cls := .type "list", data := .seq acc.toList.toArray }) rfl
      rw [hits] at h7
      rw [hits]
      exact h7
    obtain ⟨ep', he'⟩ := PyProof.Rows.sortedHeap_at (vs := es.map (·.2.2)) (out := out.toArray) h6
    refine wpAny_pure ⟨_, rfl, .ref h'.objs.size, _, I0.laid (a := h'.objs.size) (o := .lst vs) (t' := tk) (fun b u e => ?_) (Nat.le_refl _) ⟨?_, out, ep', v1, he'⟩, rfl, q _ vs (I0.hok.fresh (Nat.le_refl _)) v2⟩
    · have hb : b < h'.objs.size := Heap.lt_size e
      have e2 : (h'.push { cls := .type "list", data := .seq acc.toList.toArray }).get? b = some u := Heap.get?_push_of_some _ e
      exact (PyProof.Rows.sortedHeap_old (Nat.ne_of_lt hb) (Heap.lt_size e2)).trans e2
    · rw [v1.length, hol, List.length_map]; exact hlen
def nSortV (i : Nat) : Env → R (List D) := fun env => match sl env i with
  | .ow (.d kvs) => match rowsOf (valsL kvs) with
    | some rows => .ok ((isort leR rows).map tupI)
    | none => .fail
  | _ => .fail
theorem ne_sortV {i : Nat} {x : Str} {p p1 p2 p3 : Pos} (hc : X.calm = true) (hu : X.A.units + 66 < cLine) (hg : Gl X "sorted") (hm : X.mg "sorted" = none) (hN : X.N[i]? = some x) (hv : Vis X.env.scope x)
    (hbase : attributeBase (.Name x p1) "values" X.env (eval (.Name x p1) X.env) = eval (.Name x p1) X.env := by rfl) (hline : (p2.endLine == p3.line) = true := by rfl)
    (hdb : (x == ("__debug__" : Str)) = false := by decide) (hcd : (x == ("__classdict__" : Str)) = false := by decide)
    (he : starEach [.Call (.Attribute (.Name x p1) "values" p2) [] [] p3] X.env = (false, eval (.Call (.Attribute (.Name x p1) "values" p2) [] [] p3) X.env) :: starEach [] X.env := by rfl) :
    NE g W X (.Call (.Name "sorted" p) [.Call (.Attribute (.Name x p1) "values" p2) [] [] p3] [] pos) (nSortV i) :=
  PE.of (pe_callB (c_sortV hc hu) hg hm bt_sorted (pa_cons (pe_vals hN hv hbase hline hdb hcd) pa_nil he) (by decide) (by decide) he) fun σ H Q ⟨b, Z, ow, env, S, k⟩ => by
    unfold nSortV at k
    have a := S.at_ i
    cases e : sl env i <;> rw [e] at k <;> first | exact k.elim | skip
    rename_i ob
    cases ob <;> first | exact k.elim | skip
    rename_i kvs
    rw [e] at a
    obtain ⟨q1, zp, rp, _, q2, hsm, hlen, es, rfl, hes, hnd⟩ := a
    dsimp only at k
    cases hr : rowsOf (valsL kvs) with
    | none => rw [hr] at k; exact k.elim
    | some rows =>
      rw [hr] at k
      obtain ⟨r1, r2⟩ := rowsOf_eq hr
      obtain ⟨vs, v1, v2⟩ := vals_ok hes
      rw [r1] at v2
      refine ⟨ow i, es, q1, q2, hsm, fun p hp => ?_⟩
      refine ⟨p, ow i, es, Z, vs, rows, rfl, upd_same, by rw [upd_ne (ne_of_none q2 hp)]; exact q2, by rw [hes.len]; exact hlen, (Ext.newU (r := g.r) S.zh hp).zh, v1, v2, r2, fun q ws hq hw => ?_⟩
      have S2 : SE g.r b X.K Z (upd H p (.ext (ViewPh p (ow i)))) ow σ env := S.newU hp
      exact KG.newL (H := H) (Z := Z) (Ext.newU S.zh hp) S S2 (k.shift (Ext.newU S.zh hp) S2.urn) hq hw
end
theorem hu66 {k : Nat} {A : Around} (r : Room k A) : A.units + 66 < cLine := by have := r.un; omega
end Ev
set_option Elab.async false
set_option linter.all false
set_option maxRecDepth 100000
set_option maxHeartbeats 4000000
/-! Ev21: a or b of new lists; the source of draws. -/
namespace Ev
open PySem PySem.Spec PyProof.Rows L2
section
variable {g : G} {W : WX} {X : Cx} {K : PySem.W.Frag} {a c : Expr} {σ : L2.St} {b : Nat} {Z H Z0 H0 : Hp} {ow : Nat → Addr} {env : Env} {pos : Pos}
def nOr (f h : Env → R (List D)) : Env → R (List D) := fun env => (f env).bind fun ds => match ds with
  | [] => h env
  | d :: r => .ok (d :: r)
theorem ne_or {f h : Env → R (List D)} (h1 : NE g W X a f) (h2 : NE g W X c h) : NE g W X (.BoolOp .Or [a, c] pos) (nOr f h) :=
  PE.of (pe_orT h1 (pe_one h2)) fun σ H Q ⟨b, Z, ow, env, S, k⟩ => ⟨b, Z, ow, env, S, KG.seq S k fun b1 ds v H1 Z1 e1 S1 ⟨p, vs, hv, hp, zp, rp, hl, hd⟩ k1 => by
    subst hv
    cases hd with
    | nil =>
      refine ⟨false, .inl ⟨[], SqL.of hl, rfl⟩, ?_⟩
      rw [if_neg Bool.false_ne_true]
      refine ⟨b1, Z1, ow, env, S1, ?_⟩
      refine R.post_mono (fun b2 es q v2 H2 Z2 e2 u2 ⟨p2, ws, w1, w2, w3⟩ => ?_) (fun b2 x q cls dd H2 Z2 e2 u2 xr => q cls dd H2 Z2 e2 u2 xr) k1
      exact q v2 H2 Z2 e2 u2 ⟨p2, ws, w1, SE.was S S1 e1 w2, w3⟩
    | cons d1 d2 =>
      refine ⟨true, .inl ⟨_, SqL.of hl, rfl⟩, ?_⟩
      rw [if_pos rfl]
      exact k1 _ _ Z1 (Ext.refl S1.zh) S1.urn ⟨p, _, rfl, hp, zp, rp, hl, .cons d1 d2⟩⟩
end
/-! ### a def that changes the list it is given: slot 0, at a -/
structure SU (a : Addr) (K : PySem.W.Frag) (Z0 H0 Z H : Hp) (σ : L2.St) (env : Env) : Prop where
  se : SE none 0 K Z H (fun _ => a) σ env
  ext : Ext (some a) Z0 H0 Z H
  only : ∀ i ob, sl env i = .ow ob → i = 0
  there : ∃ o, H a = some o
def FU (a : Addr) (K : PySem.W.Frag) (Z0 H0 : Hp) (E : Ends) : Flw → Prop
  | .nx env => ∀ σ H Z, SU a K Z0 H0 Z H σ env → E.nx σ H
  | .rt d env => ∀ v σ H Z, SU a K Z0 H0 Z H σ env → Dq K Z v d → E.rt v H
  | _ => False
def UOk (a : Addr) (K : PySem.W.Frag) (Z0 H0 : Hp) (m : R Flw) (E : Ends) : Prop := ∃ fl, m = .ok fl ∧ FU a K Z0 H0 E fl
def tU (a : Addr) (K : PySem.W.Frag) (Z0 H0 : Hp) (f : Env → R Flw) : TS := fun E σ H => ∃ Z env, SU a K Z0 H0 Z H σ env ∧ UOk a K Z0 H0 (f env) E
section
variable {a : Addr} {C : Str → Addr} {W : WX} {X : Cx} {K : PySem.W.Frag} {Z0 H0 Z H : Hp} {st : Stmt} {rest : List Stmt} {e : Expr} {pos : Pos} {σ : L2.St} {env : Env} {E : Ends}
theorem UOk.bindS {α : Type} {m : R α} {k : α → R Flw} (h : UOk a K Z0 H0 (m.bindS env k) E) : ∃ x, m = .ok x ∧ UOk a K Z0 H0 (k x) E := by
  cases m with
  | ok x => exact ⟨x, rfl, h⟩
  | fail => obtain ⟨_, e, _⟩ := h; cases e
  | exc x => obtain ⟨_, e, q⟩ := h; cases e; exact q.elim
  | draw n f => obtain ⟨_, e, _⟩ := h; cases e
theorem UOk.bind {m : R Flw} {k : Flw → R Flw} (h : UOk a K Z0 H0 (m.bind k) E) : ∃ x, m = .ok x ∧ UOk a K Z0 H0 (k x) E := by
  cases m with
  | ok x => exact ⟨x, rfl, h⟩
  | fail => obtain ⟨_, e, _⟩ := h; cases e
  | exc x => obtain ⟨_, e, q⟩ := h; cases e
  | draw n f => obtain ⟨_, e, _⟩ := h; cases e
theorem SU.ext' {Z1 H1 : Hp} (S : SU a K Z0 H0 Z H σ env) (e : Ext none Z H Z1 H1) : SU a K Z0 H0 Z1 H1 σ env :=
  ⟨S.se.ext e trivial, S.ext.trans e.lift fun x hx o h z => by cases hx; exact (S.there).elim fun o2 h2 => ⟨o2, h2⟩, S.only, by
    obtain ⟨o, h⟩ := S.there
    by_cases z : Z a = none
    · exact ⟨o, e.keep a o h z (by simp)⟩
    · cases q : Z a with
      | none => exact absurd q z
      | some o2 => exact ⟨o2, e.zh _ _ (e.zz _ _ q)⟩⟩
theorem SU.setVa (S : SU a K Z0 H0 Z H σ env) (i : Nat) {v : V} {d : D} (h : Dq K Z v d) : SU a K Z0 H0 Z H (σ.set i (some v)) (setS env i (.va d)) :=
  ⟨S.se.setVa i h, S.ext, fun j ob e => by
    rw [slS] at e
    split at e
    · cases e
    · exact S.only j ob e, S.there⟩
theorem SU.mut {ds es : List D} {vs : List V} (S : SU a K Z0 H0 Z H σ env) (e : sl env 0 = .ol ds) (hd : DqAll K Z vs es) : SU a K Z0 H0 Z (upd H a (.lst vs)) σ (setS env 0 (.ol es)) := by
  have at0 := S.se.at_ 0
  rw [e] at at0
  obtain ⟨q1, zp, rp, _, q2, ws, rfl, q3⟩ := at0
  have zh : Same Z (upd H a (.lst vs)) := fun x o q => by rw [upd_ne (ne_of_none q zp)]; exact S.se.zh x o q
  refine ⟨⟨zh, trivial, fun j => ?_, by rw [setS_length]; exact S.se.len⟩, ⟨S.ext.zz, zh, fun x o h z n => ?_, S.ext.out⟩, fun j ob e2 => ?_, ⟨_, upd_same⟩⟩
  · have aj := S.se.at_ j
    rw [slS]
    split
    · rename_i hj
      rw [hj.1]
      exact ⟨q1, zp, rp, _, upd_same, vs, rfl, hd⟩
    · rename_i hj
      generalize hs : sl env j = sj at aj ⊢
      cases sj with
      | un => trivial
      | va d => exact aj
      | ow ob =>
        have hj0 := S.only j ob hs
        subst hj0
        have hl : ¬ 0 < env.length := fun z => hj ⟨rfl, z⟩
        rw [sl_un_of_le _ _ (by omega)] at hs
        cases hs
      | ur => exact aj
  · have hx : x ≠ a := fun q => n (by rw [q])
    rw [upd_ne hx]
    exact S.ext.keep x o h z n
  · rw [slS] at e2
    split at e2
    · rename_i hj
      exact hj.1
    · exact S.only j ob e2
/-- an expression, then what follows -/
theorem SU.seq {α V' : Type} {Rel : Hp → α → V' → Hp → Hp → Prop} {f : Env → R α} {k : α → R Flw} {Q : V' → Hp → Prop} (S : SU a K Z0 H0 Z H σ env) (h : UOk a K Z0 H0 ((f env).bindS env k) E)
    (q : ∀ x v Z1 H1, SU a K Z0 H0 Z1 H1 σ env → Ext none Z H Z1 H1 → Rel H x v Z1 H1 → UOk a K Z0 H0 (k x) E → Q v H1) : tG ⟨none, C⟩ K W Rel f σ H Q := by
  obtain ⟨x, e, h2⟩ := h.bindS
  refine ⟨0, Z, fun _ => a, env, S.se, ?_⟩
  rw [e]
  exact fun v H1 Z1 e1 _ r => q x v Z1 H1 (S.ext' e1) e1 r h2
abbrev US (a : Addr) (Z0 H0 : Hp) (X : Cx) (st : Stmt) (f : Env → R Flw) : Prop := PS X st (tU a X.K Z0 H0 f)
abbrev USs (a : Addr) (Z0 H0 : Hp) (X : Cx) (st : List Stmt) (f : Env → R Flw) : Prop := PSs X st (tU a X.K Z0 H0 f)
theorem us_nil : USs a Z0 H0 X [] sNil := PSs.of pss_nil fun σ H E ⟨Z, env, S, fl, e, h⟩ => by cases e; exact h σ H Z S
theorem us_one {f : Env → R Flw} (h : US a Z0 H0 X st f) : USs a Z0 H0 X [st] f := pss_one h
theorem us_cons {f h : Env → R Flw} (h1 : US a Z0 H0 X st f) (h2 : USs a Z0 H0 X rest h) : USs a Z0 H0 X (st :: rest) (sCons f h) :=
  PSs.of (pss_cons h1 h2) fun σ H E ⟨Z, env, S, k⟩ => ⟨Z, env, S, by
    obtain ⟨fl, e, k2⟩ := UOk.bind k
    refine ⟨fl, e, ?_⟩
    cases fl with
    | nx env1 => exact fun σ1 H1 Z1 S1 => ⟨Z1, env1, S1, k2⟩
    | bk env1 => obtain ⟨fl, e, q⟩ := k2; cases e; exact q.elim
    | ct env1 => obtain ⟨fl, e, q⟩ := k2; cases e; exact q.elim
    | rt d env1 => obtain ⟨fl, e, q⟩ := k2; cases e; exact q
    | xc x env1 => obtain ⟨fl, e, q⟩ := k2; cases e; exact q.elim⟩
theorem u_if {c : Expr} {p q : List Stmt} {t : Env → R Bool} {f h : Env → R Flw} (hc : TEs ⟨none, fun _ => 0⟩ W0 X c t) (ha : USs a Z0 H0 X p f) (hb : USs a Z0 H0 X q h) : US a Z0 H0 X (.If c p q pos) (sIf t f h) :=
  PS.of (ps_if hc ha hb) fun σ H E ⟨Z, env, S, k⟩ => S.seq k fun x v Z1 H1 S1 e1 r k1 => by
    cases r
    cases x with
    | true => rw [if_pos rfl]; exact ⟨Z1, env, S1, k1⟩
    | false => rw [if_neg Bool.false_ne_true]; exact ⟨Z1, env, S1, k1⟩
theorem u_ret {f : Env → R D} (h : VE ⟨none, fun _ => 0⟩ W0 X e f) : US a Z0 H0 X (.Return (some e) pos) (sRet f) :=
  PS.of (ps_ret h) fun σ H E ⟨Z, env, S, k⟩ => S.seq k fun x v Z1 H1 S1 e1 r ⟨fl, e, k1⟩ => by
    cases e
    exact k1 v σ H1 Z1 S1 r
theorem u_asg {i : Nat} {x : Str} {f : Env → R D} {pos' : Pos} (hN : X.N.Nodup) (hi : X.N[i]? = some x) (hx : Loc X.env.scope x) (h : VE ⟨none, fun _ => 0⟩ W0 X e f) (hs : swapsWith e (some (.Name x pos')) pos.line X.env = pure false := by rfl)
    (hf : X.fn x = true ∨ X.env.scope.names.lookup x = some .local := by first | exact .inl rfl | exact .inr rfl | assumption) : US a Z0 H0 X (.Assign [.Name x pos'] e pos) (sAsg i f) :=
  PS.of (ps_set hN hi hx h hs hf) fun σ H E ⟨Z, env, S, k⟩ => S.seq k fun d v Z1 H1 S1 e1 r ⟨fl, e, k1⟩ => by
    cases e
    exact k1 _ H1 Z1 (S1.setVa i r)
theorem u_set {i : Nat} {x : Str} {p1 p2 : Pos} {ei ev : Expr} {fi fv : Env → R D} (hN : X.N[i]? = some x) (hv : Vis X.env.scope x) (h1 : VE ⟨none, fun _ => 0⟩ W0 X ei fi) (h2 : VE ⟨none, fun _ => 0⟩ W0 X ev fv)
    (hd : (x == ("__debug__" : Str)) = false := by decide) (hcd : (x == ("__classdict__" : Str)) = false := by decide)
    (ha : ∀ v, assign (.Subscript (.Name x p1) ei p2) X.env v = (do
      let ov ← holding [v] (eval (.Name x p1) X.env)
      let iv ← holding [v, ov] (eval ei X.env)
      standAt p2
      holding [v, ov, iv] (setItem ov iv v)
      release [v, ov, iv] []) := by intro _; rfl)
    (hs : swapsWithSole [.Subscript (.Name x p1) ei p2] ev pos.line X.env = pure false := by rfl) (hw : swappedStores [.Subscript (.Name x p1) ei p2] ev X.env = pure none := by rfl)
    (hA : (assignEach [.Subscript (.Name x p1) ei p2] X.env).map (·.2) = [assign (.Subscript (.Name x p1) ei p2) X.env] := by rfl) : US a Z0 H0 X (.Assign [.Subscript (.Name x p1) ei p2] ev pos) (sSet i fi fv) :=
  PS.of (ps_asg h2 (pg_sub (pe_var hN hv hd hcd) h1 set_list ha) hs hw hA) fun σ H E ⟨Z, env, S, k⟩ => by
    unfold sSet at k
    have at0 := S.se.at_ i
    cases e : sl env i <;> rw [e] at k <;> first | (obtain ⟨_, q, _⟩ := k; cases q; done) | skip
    rename_i ob
    cases ob with
    | d kvs => obtain ⟨_, q, _⟩ := k; cases q
    | l ds =>
      obtain rfl := S.only i _ e
      rw [e] at at0
      obtain ⟨q1, zp, rp, _, q2, ws, rfl, q3⟩ := at0
      refine S.seq k fun d v Z1 H1 S1 e1 hdv k1 => ⟨_, q1, S1.seq k1 fun y w Z2 H2 S2 e2 hy k2 => ?_⟩
      obtain ⟨j, hj, k3⟩ := k2.bindS
      cases y <;> first | cases hj; done | skip
      rename_i n
      have h2' := (e1.trans e2 fun x hx => by cases hx).keep _ _ q2 zp rp
      have hj' : ixN ds.length n = some j := by
        have hj2 : R.of (ixN ds.length n) = .ok j := hj
        cases h : ixN ds.length n with
        | none => rw [h] at hj2; cases hj2
        | some j' => rw [h] at hj2; cases hj2; rfl
      refine ⟨_, ws, n, j, rfl, Dq.int_ hy, h2', by rw [q3.len]; exact hj', ?_⟩
      obtain ⟨fl, e9, k4⟩ := k3
      cases e9
      exact k4 _ _ Z2 (S2.mut e (((q3.mono e1.zz).mono e2.zz).setI (hdv.mono e2.zz) j))
end
/-- the urn's three numbers, in bounds -/
def UrnB (b : Nat) (x y c : Int) : Prop := 0 ≤ x ∧ 0 ≤ y ∧ y < 2 ^ 63 ∧ 0 ≤ c ∧ c + b ≤ 2 ^ 40
def urnE (x y c : Int) : List D := [.int x, .int y, .int c]
/-- _law_take's env -/
def envT (x y c n : Int) : Env := [.ol (urnE x y c), .va (.int n), .un, .un, .un, .un]
def takeOk (f : Env → R Flw) : Prop := ∀ (b : Nat) (x y c : Int) (n : Nat), UrnB (b + 1) x y c → 0 < n → n < 1073741824 → ∃ (i : Nat) (x' y' c' : Int) (env' : Env), i < n ∧ UrnB b x' y' c' ∧ sl env' 0 = .ol (urnE x' y' c') ∧ f (envT x y c n) = .ok (.rt (.int i) env')
def D_take : List D → R D := fun as => match as with
  | [.dict [], .int (.ofNat n)] => .draw n fun i => .ok (.int (.ofNat i))
  | _ => .fail
section
variable {P : Program} {w : World} {K : PySem.W.Frag} {mg : Str → Option Value} {base : Heap} {C : Str → Addr} {k : Nat} {fB : Env → R Flw} {params : Arguments} {body : List Stmt} {scope : Scope} {f : Addr} {fd : FuncData} {N ps : List Str} {x : Str}
theorem fd_take (F : FunD K x x params body scope [] [] f fd) (gm : mg x = some (.ref f)) (S : FnScope N ps scope) (hb : Binds K fd ps []) (hn : ps.length = 2) (hN : N.length = 6)
    (hB : ∀ (a : Addr) (cdv : Value) (A : Around) (outer : List PySem.Env) (s : Shared) (Z H H' : Hp) (E : XK), Room k (A.deeper (envOfC x scope s.heap.objs.size f cdv)) →
      USs a Z H (cxOf (L2.CX P w) P w K mg base N x scope f cdv A outer s H E) body fB) (ok : takeOk fB) : Fd P w K mg base C x true 2 (k + 1) D_take := by
  refine ⟨⟨f, fd, ps, F.ok S (fun vs H Q E h => by rw [hn]; exact h.1) fun cdv A outer s H vs Q E hr ⟨hl, r, b, Z, as, hu, z, ur, ha, hp⟩ => ?_, gm, F.kp, hb⟩, fun as b Q W h => ?_⟩
  · unfold D_take at hp
    split at hp
    · rename_i n
      obtain ⟨⟨h1, h2⟩, b', rfl, hk⟩ := hp
      cases ha with
      | val hd _ => cases hd
      | @urn a vs' _ hra ha2 =>
        subst hra
        cases ha2 with
        | @val v2 d2 vs2 ds2 hd2 ha3 =>
          cases ha3
          have ev := Dq.int_ hd2
          subst ev
          obtain ⟨za, x0, y0, c0, hH, ub⟩ := ur
          obtain ⟨i, x', y', c', env', hi, ub', hs, e⟩ := ok b' x0 y0 c0 n ub h1 h2
          have s0 : (L2.start N [V.ref a, V.int (.ofNat n)])[0]? = some (some (V.ref a)) := rfl
          have s1 : (L2.start N [V.ref a, V.int (.ofNat n)])[1]? = some (some (V.int (.ofNat n))) := rfl
          have SU0 : SU a K Z H Z H (L2.start N [V.ref a, V.int (.ofNat n)]) (envT x0 y0 c0 n) := by
            refine ⟨⟨z, trivial, fun j => ?_, ?_⟩, Ext.refl z, fun j ob e1 => ?_, ⟨_, hH⟩⟩
            · match j with
              | 0 => exact ⟨s0, za, by simp, _, hH, _, rfl, .cons (.int _) (.cons (.int _) (.cons (.int _) .nil))⟩
              | 1 => exact ⟨_, s1, .inl (.int _)⟩
              | 2 => exact True.intro
              | 3 => exact True.intro
              | 4 => exact True.intro
              | 5 => exact True.intro
              | j + 6 => exact True.intro
            · show 6 = _
              unfold L2.start
              rw [List.length_append, List.length_replicate, List.length_map, hN]
              rfl
            · match j, e1 with
              | 0, _ => rfl
              | 1, e1 => cases e1
              | 2, e1 => cases e1
              | 3, e1 => cases e1
              | 4, e1 => cases e1
              | 5, e1 => cases e1
              | j + 6, e1 => cases e1
          refine ⟨_, hB a cdv A outer s Z H H E hr, Z, envT x0 y0 c0 n, SU0, _, e, ?_⟩
          intro v σ1 H1 Z1 S1 hv
          have a1 := S1.se.at_ 0
          rw [hs] at a1
          obtain ⟨q1, zo, ro, _, ho, vs1, rfl, hvs⟩ := a1
          have e3 : vs1 = [V.int x', V.int y', V.int c'] := by
            cases hvs with
            | cons w1 w2 => cases w2 with
              | cons w3 w4 => cases w4 with
                | cons w5 w6 =>
                  cases w6
                  rw [Dq.int_ w1, Dq.int_ w3, Dq.int_ w5]
          subst e3
          exact hk i hi v H1 Z1 S1.ext ⟨zo, x', y', c', ho, ub'⟩ hv
    · exact hp.elim
  · unfold D_take at h
    split at h
    · rfl
    · exact h.elim
end
end Ev
set_option Elab.async false
set_option linter.all false
set_option maxRecDepth 100000
set_option maxHeartbeats 4000000
/-! Ev22: the draws of the laws. -/
namespace Ev
open PySem PySem.Spec PyProof.Rows L2
/-! ### steps of closures -/
section
variable {f h : Env → R D} {t : Env → R Bool} {env env1 : Env} {a c d : D} {fl : Flw} {p q : Env → R Flw}
theorem eBin_ok {op : D → D → Option D} (h1 : f env = .ok a) (h2 : h env = .ok c) (h3 : op a c = some d) : eBin op f h env = .ok d := by
  unfold eBin
  rw [h1]
  show (h env).bind _ = _
  rw [h2]
  show R.of (op a c) = _
  rw [h3]
  rfl
theorem eUn_ok {op : D → Option D} (h1 : f env = .ok a) (h3 : op a = some d) : eUn op f env = .ok d := by
  unfold eUn
  rw [h1]
  show R.of (op a) = _
  rw [h3]
  rfl
theorem eT_ok {x : Bool} (h1 : f env = .ok (.bool x)) : eT f env = .ok x := by
  unfold eT
  rw [h1]
  rfl
theorem sCons_nx (h1 : p env = .ok (.nx env1)) : sCons p q env = q env1 := by
  unfold sCons
  rw [h1]
  rfl
theorem sCons_rt (h1 : p env = .ok (.rt d env1)) : sCons p q env = .ok (.rt d env1) := by
  unfold sCons
  rw [h1]
  rfl
theorem sIf_t (h1 : t env = .ok true) : sIf t p q env = p env := by
  unfold sIf
  rw [h1]
  rfl
theorem sIf_f (h1 : t env = .ok false) : sIf t p q env = q env := by
  unfold sIf
  rw [h1]
  rfl
theorem sAsg_ok {i : Nat} (h1 : f env = .ok d) : sAsg i f env = .ok (.nx (setS env i (.va d))) := by
  unfold sAsg
  rw [h1]
  rfl
theorem sRet_ok (h1 : f env = .ok d) : sRet f env = .ok (.rt d env) := by
  unfold sRet
  rw [h1]
  rfl
theorem sSet_ok {i j : Nat} {ds : List D} (h0 : sl env i = .ol ds) (h1 : h env = .ok d) (h2 : f env = .ok a) (h3 : ixOf ds.length a = some j) : sSet i f h env = .ok (.nx (setS env i (.ol (ds.set j d)))) := by
  unfold sSet
  rw [h0]
  dsimp only
  rw [h1]
  show (f env).bindS _ _ = _
  rw [h2]
  show (R.of (ixOf ds.length a)).bindS _ _ = _
  rw [h3]
  rfl
end
def takeB : Ev.Env → R Flw :=
  (sCons (sIf (eT (eBin gtOp (eBin ixD (bVar 0) (eC (.int 0))) (eC (.int 0)))) (sCons (sAsg 2 (eBin modD (eUn intD (eBin ixD (bVar 0) (eC (.int 0)))) (eVar 1)))
  (sCons (sSet 0 (eC (.int 0)) (eBin divD (eBin ixD (bVar 0) (eC (.int 0))) (eVar 1)))
  (sRet (eVar 2)))) sNil)
  (sCons (sSet 0 (eC (.int 2)) (eBin addD (eBin ixD (bVar 0) (eC (.int 2))) (eC (.int 1))))
  (sCons (sAsg 3 (eBin modD (eUn intD (eBin mulD (eBin addD (eBin ixD (bVar 0) (eC (.int 1))) (eBin mulD (eC (.int 48271)) (eBin ixD (bVar 0) (eC (.int 2))))) (eBin addD (eC (.int 39373)) (eBin ixD (bVar 0) (eC (.int 2)))))) (eC (.int 2147483647))))
  (sCons (sAsg 4 (eBin addD (eBin modD (eUn intD (bVar 3)) (eC (.int 40009))) (eC (.int 7))))
  (sCons (sAsg 5 (eBin modD (eUn intD (eBin mulD (eBin addD (eBin addD (eVar 3) (eBin ixD (bVar 0) (eC (.int 2)))) (eBin divD (eBin ixD (bVar 0) (eC (.int 1))) (eC (.int 1000003)))) (eVar 4))) (eC (.int 2147483629))))
  (sRet (eBin modD (eUn intD (eBin divD (eBin modD (eUn intD (eBin addD (eBin mulD (eVar 5) (eC (.int 48271))) (eVar 3))) (eC (.int 2147483587))) (eC (.int 64)))) (eVar 1))))))))
theorem mulC_small {i j : Int} (h : i.natAbs < 2 ^ 200) (h2 : j.natAbs < 2 ^ 200) : mulC i j = true := by
  have a := PySem.Flt.log2_lt_of (by decide) h
  have c := PySem.Flt.log2_lt_of (by decide) h2
  unfold mulC
  rw [Bool.or_eq_true]
  exact .inl (by rw [blt_eq, decide_eq_true_eq]; omega)
theorem divC_pos {i j : Int} (h : 0 < j) (h2 : j < 1073741824) : divC i j = true := by
  unfold divC
  have e : j.natAbs < 2 ^ 30 := by omega
  have a := PySem.Flt.log2_lt_of (by decide) e
  rw [Bool.and_eq_true, eqI_eq, blt_eq, decide_eq_true_eq, Bool.not_eq_true', decide_eq_false_iff_not]
  exact ⟨by omega, by omega⟩
theorem modD_pos {i j : Int} (h : 0 < j) : modD (.int i) (.int j) = some (.int (i % j)) := by
  show (match ltI 0 j with | true => some (PyData.int (i % j)) | false => none) = _
  rw [ltI_eq, decide_eq_true h]
theorem divD_pos {i j : Int} (h : 0 < j) (h2 : j < 1073741824) : divD (.int i) (.int j) = some (.int (i / j)) := by
  show (match divC i j with | true => some (PyData.int (i.fdiv j)) | false => none) = _
  rw [divC_pos h h2, Int.fdiv_eq_ediv_of_nonneg i (by omega)]
theorem mulD_small {i j : Int} (h : i.natAbs < 2 ^ 200) (h2 : j.natAbs < 2 ^ 200) : mulD (.int i) (.int j) = some (.int (i * j)) := by
  show (match mulC i j with | true => some (PyData.int (i * j)) | false => none) = _
  rw [mulC_small h h2]
theorem ok_bind {α β : Type} {a : α} {f : α → R β} : (R.ok a).bind f = f a := rfl
theorem take_ok : takeOk takeB := by
  intro b x y c n ⟨hx, hy, hy2, hc, hcb⟩ hn hn2
  have hN : (0 : Int) < (n : Int) := by omega
  by_cases h0 : 0 < x
  · refine ⟨(x % n).toNat, x / n, y, c, [.ol (urnE (x / n) y c), .va (.int n), .va (.int (x % n)), .un, .un, .un], ?_, ?_, rfl, ?_⟩
    · have h1 := Int.emod_nonneg x (show (n : Int) ≠ 0 by omega)
      have h2 := Int.emod_lt_of_pos x hN
      omega
    · refine ⟨Int.ediv_nonneg hx (by omega), hy, hy2, hc, by omega⟩
    · have e0 : ltI 0 x = true := by rw [ltI_eq, decide_eq_true h0]
      have e1 : modD (.int x) (.int n) = some (.int (x % n)) := modD_pos hN
      have e2 : divD (.int x) (.int n) = some (.int (x / n)) := divD_pos hN (by omega)
      have e3 : ((x % n).toNat : Int) = x % n := Int.toNat_of_nonneg (Int.emod_nonneg x (by omega))
      rw [e3]
      unfold takeB
      refine sCons_rt ((sIf_t (eT_ok (eBin_ok (a := .int x) (c := .int 0) rfl rfl (by rw [← e0]; rfl)))).trans ?_)
      refine (sCons_nx (sAsg_ok (eBin_ok (a := .int x) (c := .int n) rfl rfl e1))).trans ?_
      refine (sCons_nx (sSet_ok (ds := urnE x y c) (j := 0) rfl (eBin_ok (a := .int x) (c := .int n) rfl rfl e2) (a := .int 0) rfl rfl)).trans ?_
      rfl
  · have e0 : ltI 0 x = false := by rw [ltI_eq, decide_eq_false h0]
    let c1 := c + 1
    let on := ((y + 48271 * c1) * (39373 + c1)) % 2147483647
    let fa := on % 40009 + 7
    let tw := ((on + c1 + y / 1000003) * fa) % 2147483629
    let rs := (((tw * 48271 + on) % 2147483587) / 64) % n
    have b1 : 0 ≤ on ∧ on < 2147483647 := ⟨Int.emod_nonneg _ (by decide), Int.emod_lt_of_pos _ (by decide)⟩
    have b2 : 0 ≤ fa ∧ fa < 40016 := by
      have h1 := Int.emod_nonneg on (show (40009 : Int) ≠ 0 by decide)
      have h2 := Int.emod_lt_of_pos on (show (0 : Int) < 40009 by decide)
      exact ⟨by omega, by omega⟩
    have b3 : 0 ≤ tw ∧ tw < 2147483629 := ⟨Int.emod_nonneg _ (by decide), Int.emod_lt_of_pos _ (by decide)⟩
    have hr : 0 ≤ rs ∧ rs < n := ⟨Int.emod_nonneg _ (by omega), Int.emod_lt_of_pos _ hN⟩
    refine ⟨rs.toNat, x, y, c1, [.ol (urnE x y c1), .va (.int n), .un, .va (.int on), .va (.int fa), .va (.int tw)], by omega, ⟨hx, hy, hy2, by omega, by omega⟩, rfl, ?_⟩
    rw [Int.toNat_of_nonneg hr.1]
    have m1 : mulD (.int 48271) (.int c1) = some (.int (48271 * c1)) := mulD_small (by decide) (by omega)
    have m2 : mulD (.int (y + 48271 * c1)) (.int (39373 + c1)) = some (.int ((y + 48271 * c1) * (39373 + c1))) := mulD_small (by omega) (by omega)
    have m3 : mulD (.int (on + c1 + y / 1000003)) (.int fa) = some (.int ((on + c1 + y / 1000003) * fa)) := mulD_small (by omega) (by omega)
    have m4 : mulD (.int tw) (.int 48271) = some (.int (tw * 48271)) := mulD_small (by omega) (by decide)
    have d1 : divD (.int y) (.int 1000003) = some (.int (y / 1000003)) := divD_pos (by decide) (by decide)
    have d2 : divD (.int ((tw * 48271 + on) % 2147483587)) (.int 64) = some (.int (((tw * 48271 + on) % 2147483587) / 64)) := divD_pos (by decide) (by decide)
    have r1 : modD (.int (((tw * 48271 + on) % 2147483587) / 64)) (.int n) = some (.int rs) := modD_pos hN
    unfold takeB
    refine (sCons_nx (env1 := envT x y c n) ((sIf_f (eT_ok (eBin_ok (a := .int x) (c := .int 0) rfl rfl (by rw [← e0]; rfl)))).trans rfl)).trans ?_
    refine (sCons_nx (sSet_ok (ds := urnE x y c) (j := 2) (d := .int c1) rfl rfl (a := .int 2) rfl rfl)).trans ?_
    refine (sCons_nx (sAsg_ok (d := .int on) ?_)).trans ?_
    · refine eBin_ok (a := .int ((y + 48271 * c1) * (39373 + c1))) (c := .int 2147483647) ?_ rfl (modD_pos (by decide))
      refine eUn_ok (a := .int ((y + 48271 * c1) * (39373 + c1))) ?_ rfl
      refine eBin_ok (a := .int (y + 48271 * c1)) (c := .int (39373 + c1)) ?_ rfl m2
      refine eBin_ok (a := .int y) (c := .int (48271 * c1)) rfl ?_ rfl
      exact eBin_ok (a := .int 48271) (c := .int c1) rfl rfl m1
    refine (sCons_nx (sAsg_ok (d := .int fa) ?_)).trans ?_
    · refine eBin_ok (a := .int (on % 40009)) (c := .int 7) ?_ rfl rfl
      exact eBin_ok (a := .int on) (c := .int 40009) rfl rfl (modD_pos (by decide))
    refine (sCons_nx (sAsg_ok (d := .int tw) ?_)).trans ?_
    · refine eBin_ok (a := .int ((on + c1 + y / 1000003) * fa)) (c := .int 2147483629) ?_ rfl (modD_pos (by decide))
      refine eUn_ok (a := .int ((on + c1 + y / 1000003) * fa)) ?_ rfl
      refine eBin_ok (a := .int (on + c1 + y / 1000003)) (c := .int fa) ?_ rfl m3
      refine eBin_ok (a := .int (on + c1)) (c := .int (y / 1000003)) rfl ?_ rfl
      exact eBin_ok (a := .int y) (c := .int 1000003) rfl rfl d1
    refine (sRet_ok (d := .int rs) ?_).trans ?_
    · refine eBin_ok (a := .int (((tw * 48271 + on) % 2147483587) / 64)) (c := .int n) ?_ rfl r1
      refine eUn_ok (a := .int (((tw * 48271 + on) % 2147483587) / 64)) ?_ rfl
      refine eBin_ok (a := .int ((tw * 48271 + on) % 2147483587)) (c := .int 64) ?_ rfl d2
      refine eBin_ok (a := .int (tw * 48271 + on)) (c := .int 2147483587) ?_ rfl (modD_pos (by decide))
      refine eUn_ok (a := .int (tw * 48271 + on)) ?_ rfl
      refine eBin_ok (a := .int (tw * 48271)) (c := .int on) ?_ rfl rfl
      exact eBin_ok (a := .int tw) (c := .int 48271) rfl rfl m4
    rfl
end Ev
set_option Elab.async false
set_option linter.all false
set_option maxRecDepth 100000
set_option maxHeartbeats 4000000
/-! Ev23: a def that hands back a new list; a law's body from its urn on. -/
namespace Ev
open PySem PySem.Spec PyProof.Rows L2
/-- what a def of n parameters that hands back a new list does -/
def spDN (K : PySem.W.Frag) (n : Nat) (d : List D → R (List D)) : Sp := fun vs H Q E => vs.length = n ∧ ∃ (Z : Hp) (as ds : List D), Same Z H ∧ AAll none K Z vs as ∧ d as = .ok ds ∧
  ∀ v H' Z', Ext none Z H Z' H' → RelN none K H ds v Z' H' → Q v H'
structure FdN (P : Program) (w : World) (K : PySem.W.Frag) (mg : Str → Option Value) (base : Heap) (x : Str) (n k : Nat) (d : List D → R (List D)) : Prop where
  ex : ∃ (f : Addr) (fd : FuncData) (ps : List Str), FnOk P w K mg base (L2.CX P w) k f fd ps (spDN K n d) ∧ mg x = some (.ref f) ∧ PySem.W.keepIn K (.ref f) = true ∧ Binds K fd ps []
  len : ∀ (as ds : List D), d as = .ok ds → as.length = n
def nCall (d : List D → R (List D)) (h : Env → R (List D)) : Env → R (List D) := fun env => (h env).bind d
section
variable {g : G} {W : WX} {X : Cx} {e : Expr} {es : List Expr} {pos : Pos}
theorem ne_callN {x : Str} {p : Pos} {n j k : Nat} {d : List D → R (List D)} {h : Env → R (List D)} (F : FdN X.prog X.w X.K X.mg X.base x n j d) (pure : ∀ as, (∃ ds, d as = .ok ds) ∨ d as = .fail) (hr : Room k X.A) (tk : Takes X W) (hg : Gl X x) (ha : AEs g W X (e :: es) h) (hj : j ≤ k := by decide)
    (hdb : (x == ("__debug__" : Str)) = false := by decide) (he : starEach (e :: es) X.env = (false, eval e X.env) :: starEach es X.env := by rfl) (hpl : (backTo pos (starEach es X.env)).any (·.1) = false := by rfl) :
    NE g W X (.Call (.Name x p) (e :: es) [] pos) (nCall d h) := by
  obtain ⟨f, fd, ps, F1, hm, hk, hb⟩ := F.ex
  have F2 : FnOk X.prog X.w X.K X.mg X.base (L2.CX X.prog X.w) k f fd ps (spDN X.K n d) := F1.mono hj
  refine PE.of (pe_callS (E := WE W) F2 hr hg hm hk hb (fun σ => passAt tk σ) ha hdb he hpl) fun σ H Q ⟨b, Z, ow, env, S, k⟩ => ⟨b, Z, ow, env, S, KG.seq S k fun b1 ds vs H1 Z1 e1 S1 hd k1 => ?_⟩
  rcases pure ds with ⟨rs, hrs⟩ | hf
  · rw [hrs] at k1
    refine ⟨by rw [hd.len]; exact F.len _ _ hrs, Z1, ds, rs, S1.zh, AAll.of hd, hrs, fun v H2 Z2 e2 ⟨p, ws, w1, w2, w3, w4, w5, w6⟩ => ?_⟩
    exact k1 v H2 Z2 e2.lift (S1.urn.step e2) ⟨p, ws, w1, SE.was S S1 e1 w2, w3, S1.urn.ne w2, w5, w6⟩
  · rw [hf] at k1
    exact k1.elim
end
def fnDN (n m : Nat) (f1 : Env → R Flw) (f2 : Env → R (List D)) (as : List D) : R (List D) := match Nat.beq as.length n with
  | true => match f1 (as.map slOf ++ reps m) with
    | .ok (.nx env) => match f2 env with
      | .ok ds => .ok ds
      | _ => .fail
    | _ => .fail
  | false => .fail
theorem fnDN_pure {n m : Nat} {f1 : Env → R Flw} {f2 : Env → R (List D)} (as : List D) : (∃ ds, fnDN n m f1 f2 as = .ok ds) ∨ fnDN n m f1 f2 as = .fail := by
  unfold fnDN
  split
  · split
    · split
      · exact .inl ⟨_, rfl⟩
      · exact .inr rfl
    · exact .inr rfl
  · exact .inr rfl
section
variable {P : Program} {w : World} {K : PySem.W.Frag} {mg : Str → Option Value} {base : Heap} {C : Str → Addr} {n m k : Nat} {f1 f2' : Env → R Flw} {f2 : Env → R (List D)} {params : Arguments} {body rest : List Stmt} {st : Stmt} {e : Expr} {pos : Pos} {scope : Scope} {f : Addr} {fd : FuncData} {N ps : List Str} {x : Str}
theorem fdN_of (F : FunD K x x params body scope [] [] f fd) (gm : mg x = some (.ref f)) (S : FnScope N ps scope) (hb : Binds K fd ps []) (hn : ps.length = n) (hN : N.length = n + m) (hbody : body = [st, .Return (some e) pos])
    (hB : ∀ (cdv : Value) (A : Around) (outer : List PySem.Env) (s : Shared) (Z H : Hp) (E : XK), Room k (A.deeper (envOfC x scope s.heap.objs.size f cdv)) →
      VS ⟨none, C⟩ (WOf E) Z H (cxOf (L2.CX P w) P w K mg base N x scope f cdv A outer s H E) st f1 ∧ NE ⟨none, C⟩ (WOf E) (cxOf (L2.CX P w) P w K mg base N x scope f cdv A outer s H E) e f2) : FdN P w K mg base x n (k + 1) (fnDN n m f1 f2) := by
  subst hbody
  refine ⟨⟨f, fd, ps, F.ok S (fun vs H Q E h => by rw [hn]; exact h.1) fun cdv A outer s H vs Q E hr ⟨hl, Z, as, ds, z, ha, hd, hq⟩ => ?_, gm, F.kp, hb⟩, fun as ds h => ?_⟩
  · obtain ⟨h1, h2⟩ := hB cdv A outer s Z H E hr
    have hle : as.length = n := by rw [← ha.len]; exact hl
    refine ⟨_, pss_cons h1 (pss_one (ps_ret h2)), 0, Z, fun _ => 0, as.map slOf ++ reps m, ss_start z trivial ha (by omega), ?_⟩
    unfold fnDN at hd
    rw [hle, show Nat.beq n n = true from Nat.beq_refl n] at hd
    dsimp only at hd
    split at hd
    · rename_i env1 e1
      split at hd
      · rename_i ds' e2
        cases hd
        show (f1 _).post 0 _ _
        rw [e1]
        intro σ1 H1 Z1 ow1 z1 S1
        refine ⟨0, Z1, ow1, env1, S1.se, ?_⟩
        rw [e2]
        intro v H2 Z2 x2 _ ⟨p, ws, w1, w2, w3, w4, w5, w6⟩
        exact hq v H2 Z2 (S1.ext.trans x2 fun x hx => by cases hx) ⟨p, ws, w1, S1.was w2, w3, w4, w5, w6⟩
      · cases hd
    · cases hd
  · unfold fnDN at h
    split at h
    · rename_i e; exact Nat.eq_of_beq_eq_true e
    · cases h
/-! ### a law -/
theorem SS.toUrn {b : Nat} {Z0 H0 Z H : Hp} {ow : Nat → Addr} {σ : L2.St} {env : Env} {i b' : Nat} {x y c : Int} (S : SS none b K Z0 H0 Z H ow σ env) (e : sl env i = .ol (urnE x y c)) (ub : UrnB b' x y c) :
    SS (some (ow i)) b' K Z0 H0 Z H ow σ (setS env i .ur) := by
  have a := S.se.at_ i
  rw [e] at a
  obtain ⟨q1, zp, rp, _, q2, ws, rfl, q3⟩ := a
  have e3 : ws = [V.int x, V.int y, V.int c] := by
    cases q3 with
    | cons w1 w2 => cases w2 with
      | cons w3 w4 => cases w4 with
        | cons w5 w6 =>
          cases w6
          rw [Dq.int_ w1, Dq.int_ w3, Dq.int_ w5]
  subst e3
  refine ⟨⟨S.se.zh, ⟨zp, x, y, c, q2, ub⟩, fun j => ?_, by rw [setS_length]; exact S.se.len⟩, S.s0, S.ext.lift, fun j ob e2 => ?_, fun j l ob ob2 e2 e3 n => ?_⟩
  · rw [slS]
    split
    · rename_i hj
      rw [hj.1]
      exact ⟨ow i, rfl, q1⟩
    · rename_i hj
      have aj := S.se.at_ j
      generalize hs : sl env j = sj at aj ⊢
      cases sj with
      | un => trivial
      | va d => exact aj
      | ow ob =>
        obtain ⟨k1, k2, k3, k4⟩ := aj
        refine ⟨k1, k2, fun z => ?_, k4⟩
        have hji : j ≠ i := fun q => hj ⟨q, by
          by_cases hl : i < env.length
          · exact hl
          · rw [q, sl_un_of_le _ _ (by omega)] at hs; cases hs⟩
        exact S.apart j i _ _ hs e hji (Option.some.inj z).symm
      | ur => obtain ⟨_, z, _⟩ := aj; cases z
  · rw [slS] at e2
    split at e2
    · cases e2
    · exact S.fresh j ob e2
  · rw [slS] at e2 e3
    split at e2
    · cases e2
    · split at e3
      · cases e3
      · exact S.apart j l _ _ e2 e3 n
def spLaw (K : PySem.W.Frag) : Sp := fun vs H Q _ => ∃ (a : Addr) (ns : List Int), vs = [.ref a] ∧ ns.length ≤ 63 ∧ SqL K H a (ns.map V.int) ∧ ∀ H', Q (.bl true) H'
end
end Ev
set_option Elab.async false
set_option linter.all false
set_option maxRecDepth 100000
set_option maxHeartbeats 4000000
/-! Ev24: the first statement of a law: its cells, its box, its urn. -/
namespace Ev
open PySem PySem.Spec PyProof.Rows L2
/-! ### the script as an argument -/
def aScr (i : Nat) (h : Env → R (List D)) : Env → R (List D) := fun env => match sl env i with
  | .va (.dict [(.list ds, .none)]) => (h env).bind fun xs => .ok (scD ds :: xs)
  | _ => .fail
section
variable {g : G} {W : WX} {X : Cx} {e : Expr} {es : List Expr} {pos : Pos}
theorem ce_scr {i : Nat} {x : Str} {p : Pos} {h : Env → R (List D)} (hN : X.N[i]? = some x) (hv : Vis X.env.scope x) (hr : CEs g W X es h) (hd : (x == ("__debug__" : Str)) = false := by decide) (hcd : (x == ("__classdict__" : Str)) = false := by decide)
    (hs : starEach (.Name x p :: es) X.env = (false, eval (.Name x p) X.env) :: starEach es X.env := by rfl) : CEs g W X (.Name x p :: es) (aScr i h) :=
  PA.of (pa_cons (pe_var hN hv hd hcd) hr hs) fun σ H Q ⟨b, Z, ow, env, S, k⟩ => by
    unfold aScr at k
    have a := S.at_ i
    split at k
    · rename_i ds e
      rw [e] at a
      obtain ⟨v, h1, h2⟩ := a
      rcases h2 with h2 | ⟨ds', p, xs, h3, rfl, h5, h6⟩
      · cases h2
      · cases h3
        exact ⟨_, h1, b, Z, ow, env, S, KG.seq S k fun b2 y vy H2 Z2 e2 S2 hy k2 => KG.ok (Rel := RelAA g.r X.K H2) S2 k2 (.scr (SqL.same e2.zz h5) (h6.mono e2.zz) hy)⟩
    · exact k.elim
/-- a def that does not draw is called, the script among the arguments -/
theorem ve_callS {x : Str} {p : Pos} {n j k : Nat} {d : List D → R D} {h : Env → R (List D)} (F : Fd X.prog X.w X.K X.mg X.base g.C x false n j d) (hgr : g.r = none) (hr : Room k X.A) (tk : Takes X W) (hg : Gl X x) (ha : CEs g W X (e :: es) h) (hj : j ≤ k := by decide)
    (hdb : (x == ("__debug__" : Str)) = false := by decide) (he : starEach (e :: es) X.env = (false, eval e X.env) :: starEach es X.env := by rfl) (hpl : (backTo pos (starEach es X.env)).any (·.1) = false := by rfl) :
    VE g W X (.Call (.Name x p) (e :: es) [] pos) (eCall d h) := by
  obtain ⟨f, fd, ps, F1, hm, hk, hb⟩ := F.ex
  refine PE.of (pe_callS (E := WE W) (F1.mono hj) hr hg hm hk hb (fun σ => passAt tk σ) ha hdb he hpl) fun σ H Q ⟨b, Z, ow, env, S, k⟩ => ⟨b, Z, ow, env, S, KG.seq S k fun b1 ds vs H1 Z1 e1 S1 hd k1 => ?_⟩
  exact ⟨by rw [hd.len]; exact F.len _ _ _ _ k1, g.r, b1, Z1, ds, by rw [hgr]; rfl, S1.zh, S1.urn, hd, k1⟩
end
/-! ### what the cells come to -/
def cellsB : Ev.Env → R Flw :=
  (sCons (sNew 2 (nOr (nUn seqOf (eSl (bVar 0) pNo (pAt (eVar 1)))) (nLst (aCons (eC (.int 0)) aNil))))
  (sCons (sFor (.tup [3, 4]) (iEnu (aCons (eSl (bVar 0) (pAt (eVar 1)) (pAt (eC (.int 63)))) aNil)) (sCons (sAsg 5 (eBin modD (eUn intD (bVar 3)) (eUn lenD (bVar 2))))
  (sSet 2 (eVar 5) (eBin addD (eBin ixD (bVar 2) (eVar 5)) (eBin mulD (eVar 4) (eBin addD (eVar 3) (eC (.int 2))))))))
  (sFrz [2] (sRet (eVar 2)))))
theorem sFor_ok {t : Tg} {it : Env → R (List D)} {f : Env → R Flw} {env env' : Env} {ds : List D} (h1 : it env = .ok ds) (h2 : forL t f ds env = .ok (.nx env')) : sFor t it f env = .ok (.nx env') := by
  unfold sFor
  rw [h1]
  exact h2
theorem forL_inv {t : Tg} {f : Env → R Flw} (I : Env → Prop) : ∀ (ds : List D) (env : Env), I env → (∀ d ∈ ds, ∀ env, I env → ∃ env1 env2, bindT t d env = some env1 ∧ f env1 = .ok (.nx env2) ∧ I env2) → ∃ env', forL t f ds env = .ok (.nx env') ∧ I env'
  | [], env, h, _ => ⟨env, rfl, h⟩
  | d :: ds, env, h, k => by
    obtain ⟨env1, env2, h1, h2, h3⟩ := k d List.mem_cons_self env h
    obtain ⟨env', h4, h5⟩ := forL_inv I ds env2 h3 fun d hd => k d (List.mem_cons_of_mem _ hd)
    refine ⟨env', ?_, h5⟩
    unfold forL
    rw [h1]
    show (f env1).bind _ = _
    rw [h2]
    exact h4
theorem takeL_ints : ∀ (n : Nat) (ns : List Int), ∃ ms : List Int, takeL n (ns.map PyData.int) = ms.map PyData.int ∧ ms.length ≤ ns.length
  | 0, _ => ⟨[], rfl, Nat.zero_le _⟩
  | _ + 1, [] => ⟨[], rfl, Nat.le_refl _⟩
  | n + 1, i :: ns => let ⟨ms, h1, h2⟩ := takeL_ints n ns; ⟨i :: ms, congrArg (PyData.int i :: ·) h1, Nat.succ_le_succ h2⟩
theorem dropL_ints : ∀ (n : Nat) (ns : List Int), ∃ ms : List Int, dropL n (ns.map PyData.int) = ms.map PyData.int ∧ ms.length ≤ ns.length
  | 0, ns => ⟨ns, rfl, Nat.le_refl _⟩
  | _ + 1, [] => ⟨[], rfl, Nat.le_refl _⟩
  | n + 1, i :: ns => let ⟨ms, h1, h2⟩ := dropL_ints n ns; ⟨ms, h1, Nat.le_succ_of_le h2⟩
theorem cutD_ints (ns : List Int) (lo hi : Option Int) : ∃ ms : List Int, cutD (ns.map PyData.int) lo hi = ms.map PyData.int ∧ ms.length ≤ ns.length := by
  unfold cutD
  obtain ⟨m1, h1, l1⟩ := dropL_ints (sIxI (lenL (ns.map PyData.int)) 0 lo) ns
  obtain ⟨m2, h2, l2⟩ := takeL_ints (sIxI (lenL (ns.map PyData.int)) (lenL (ns.map PyData.int)) hi - sIxI (lenL (ns.map PyData.int)) 0 lo) m1
  exact ⟨m2, by dsimp only; rw [h1, h2], Nat.le_trans l2 l1⟩
theorem enumL_mem : ∀ (i : Nat) (ms : List Int) (d : D), d ∈ enumL i (ms.map PyData.int) → ∃ (j : Nat) (m : Int), j < i + ms.length ∧ d = .tuple [.int (.ofNat j), .int m]
  | _, [], _, h => by simp [enumL] at h
  | i, m :: ms, d, h => by
    have h' : d ∈ PyData.tuple [.int (.ofNat i), .int m] :: enumL (i + 1) (ms.map PyData.int) := h
    rcases List.mem_cons.mp h' with e | h'
    · exact ⟨i, m, by simp, e⟩
    · obtain ⟨j, m', h1, h2⟩ := enumL_mem (i + 1) ms d h'
      exact ⟨j, m', by simp at h1 ⊢; omega, h2⟩
/-- the first cell: one list of one number -/
theorem head1 (ns : List Int) : ∃ z, nOr (nUn seqOf (eSl (bVar 0) pNo (pAt (eVar 1)))) (nLst (aCons (eC (.int 0)) aNil)) [.va (scD (ns.map .int)), .va (.int 1), .un, .un, .un, .un] = .ok [.int z] := by
  cases ns with
  | nil => exact ⟨0, rfl⟩
  | cons i ns => exact ⟨i, rfl⟩
theorem mulC_64 {i j : Int} (h : -(2 ^ 63) < j) (h2 : j < 2 ^ 63) : mulC i j = true := by
  unfold mulC in64
  rw [Bool.or_eq_true, Bool.or_eq_true, Bool.and_eq_true, Bool.and_eq_true, ltI_eq, ltI_eq, ltI_eq, ltI_eq, decide_eq_true_eq, decide_eq_true_eq, decide_eq_true_eq, decide_eq_true_eq]
  exact .inr (.inr ⟨by omega, by omega⟩)
/-- the cells' env, its slots 3 to 5 whatever they are -/
def cellsI (S : D) (env : Env) : Prop := ∃ (z : Int) (a b c : Sl), env = [.va S, .va (.int 1), .ol [.int z], a, b, c]
theorem cells_ok (ns : List Int) (hl : ns.length ≤ 63) : ∃ z, fnD 2 4 cellsB [scD (ns.map .int), .int 1] = .ok (.list [.int z]) := by
  obtain ⟨z0, h0⟩ := head1 ns
  obtain ⟨ms, hm, hml⟩ := cutD_ints ns (some 1) (some 63)
  have hit : (iEnu (aCons (eSl (bVar 0) (pAt (eVar 1)) (pAt (eC (.int 63)))) aNil)) [.va (scD (ns.map .int)), .va (.int 1), .ol [.int z0], .un, .un, .un] = .ok (enumL 0 (ms.map .int)) := by
    rw [← hm]; rfl
  obtain ⟨env', hf, z, a, b, c, he⟩ := forL_inv (t := .tup [3, 4]) (f := (sCons (sAsg 5 (eBin modD (eUn intD (bVar 3)) (eUn lenD (bVar 2))))
      (sSet 2 (eVar 5) (eBin addD (eBin ixD (bVar 2) (eVar 5)) (eBin mulD (eVar 4) (eBin addD (eVar 3) (eC (.int 2)))))))) (cellsI (scD (ns.map .int)))
    (enumL 0 (ms.map .int)) [.va (scD (ns.map .int)), .va (.int 1), .ol [.int z0], .un, .un, .un] ⟨z0, .un, .un, .un, rfl⟩ (fun d hd env ⟨z, a, b, c, he⟩ => by
      obtain ⟨j, m, hj, rfl⟩ := enumL_mem 0 ms d hd
      subst he
      have hj' : j < 63 := by omega
      have e1 : modD (.int (.ofNat j)) (.int 1) = some (.int 0) := (modD_pos (by decide)).trans (by rw [Int.emod_one])
      have e2 : mulD (.int m) (.int (Int.ofNat j + 2)) = some (.int (m * (Int.ofNat j + 2))) := by
        show (match mulC m (Int.ofNat j + 2) with | true => some (PyData.int (m * (Int.ofNat j + 2))) | false => none) = _
        rw [mulC_64 (by rw [Int.ofNat_eq_natCast]; omega) (by rw [Int.ofNat_eq_natCast]; omega)]
      refine ⟨[.va (scD (ns.map .int)), .va (.int 1), .ol [.int z], .va (.int (.ofNat j)), .va (.int m), c], [.va (scD (ns.map .int)), .va (.int 1), .ol [.int (z + m * (Int.ofNat j + 2))], .va (.int (.ofNat j)), .va (.int m), .va (.int 0)], rfl, ?_, z + m * (Int.ofNat j + 2), _, _, _, rfl⟩
      refine (sCons_nx (sAsg_ok (d := .int 0) ?_)).trans (sSet_ok (ds := [.int z]) (j := 0) (d := .int (z + m * (Int.ofNat j + 2))) (a := .int 0) rfl ?_ rfl rfl)
      · exact eBin_ok (a := .int (.ofNat j)) (c := .int 1) rfl rfl e1
      · refine eBin_ok (a := .int z) (c := .int (m * (Int.ofNat j + 2))) rfl ?_ rfl
        exact eBin_ok (a := .int m) (c := .int (Int.ofNat j + 2)) rfl rfl e2)
  refine ⟨z, ?_⟩
  have hb : cellsB [.va (scD (ns.map .int)), .va (.int 1), .un, .un, .un, .un] = .ok (.rt (.list [.int z]) [.va (scD (ns.map .int)), .va (.int 1), .va (.list [.int z]), a, b, c]) := by
    unfold cellsB
    refine (sCons_nx (env1 := [.va (scD (ns.map .int)), .va (.int 1), .ol [.int z0], .un, .un, .un]) ?_).trans ?_
    · unfold sNew
      rw [h0]
      rfl
    · refine (sCons_nx (sFor_ok hit hf)).trans ?_
      rw [he]
      rfl
  show (R.nox (cellsB _)).bind _ = _
  rw [show ([scD (ns.map .int), PyData.int 1].map slOf ++ reps 4) = [.va (scD (ns.map .int)), .va (.int 1), .un, .un, .un, .un] from rfl, hb]
  rfl
end Ev
set_option Elab.async false
set_option linter.all false
set_option maxRecDepth 100000
set_option maxHeartbeats 4000000
/-! Ev25: the box; a law by its body. -/
namespace Ev
open PySem PySem.Spec PyProof.Rows L2
def boxA : Ev.Env → R Flw := sAsg 2 (eIf (eT (eBin ltOp (eVar 1) (eUn lenD (bVar 0)))) (eBin ixD (bVar 0) (eVar 1)) (eC (.int 0)))
def boxL (M A B : Int) : Ev.Env → R (List D) := nLst (aCons (eBin mulD (eUn absD (bVar 2)) (eUn intD (eBin geOp (eUn absD (bVar 2)) (eBin powD (eC (.int 10)) (eC (.int 18)))))) (aCons (eBin addD (eBin addD (eBin modD (eUn intD (bVar 2)) (eC (.int M))) (eBin mulD (eC (.int A)) (eVar 1))) (eC (.int B))) (aCons (eC (.int 0)) aNil)))
theorem aCons_ok {f : Env → R D} {h : Env → R (List D)} {env : Env} {d : D} {ds : List D} (h1 : f env = .ok d) (h2 : h env = .ok ds) : aCons f h env = .ok (d :: ds) := by
  unfold aCons
  rw [h1]
  show (h env).bind _ = _
  rw [h2]
  rfl
theorem box_ok (M A B z : Int) (hM : 0 < M) (hM2 : M ≤ 2 ^ 61) (hB : 0 ≤ B) (hB2 : B < 2 ^ 61) (hA : A.natAbs < 2 ^ 200) : ∃ x y, fnDN 2 1 boxA (boxL M A B) [.list [.int z], .int 0] = .ok (urnE x y 0) ∧ 0 ≤ x ∧ 0 ≤ y ∧ y < 2 ^ 63 := by
  let az : Int := .ofNat z.natAbs
  let t : Int := if leI (10 ^ 18) az = true then 1 else 0
  have ht : t = 0 ∨ t = 1 := by
    show (if leI (10 ^ 18) az = true then (1 : Int) else 0) = 0 ∨ _
    by_cases h : leI (10 ^ 18) az = true
    · rw [if_pos h]; exact .inr (if_pos h)
    · rw [if_neg h]; exact .inl rfl
  have haz : (0 : Int) ≤ az := Int.natCast_nonneg _
  have m1 : mulD (.int az) (.int t) = some (.int (az * t)) := by
    show (match mulC az t with | true => some (PyData.int (az * t)) | false => none) = _
    rw [mulC_64 (by rcases ht with h | h <;> rw [h] <;> decide) (by rcases ht with h | h <;> rw [h] <;> decide)]
  have m2 : mulD (.int A) (.int 0) = some (.int (A * 0)) := mulD_small hA (by decide)
  have mm : modD (.int z) (.int M) = some (.int (z % M)) := modD_pos hM
  have b1 := Int.emod_nonneg z (show M ≠ 0 by omega)
  have b2 := Int.emod_lt_of_pos z hM
  refine ⟨az * t, z % M + A * 0 + B, ?_, ?_, by omega, by omega⟩
  · have e1 : boxA ([PyData.list [.int z], PyData.int 0].map slOf ++ reps 1) = .ok (.nx [.va (.list [.int z]), .va (.int 0), .va (.int z)]) := rfl
    have e2 : boxL M A B [.va (.list [.int z]), .va (.int 0), .va (.int z)] = .ok (urnE (az * t) (z % M + A * 0 + B) 0) := by
      have q : aCons (eBin mulD (eUn absD (bVar 2)) (eUn intD (eBin geOp (eUn absD (bVar 2)) (eBin powD (eC (.int 10)) (eC (.int 18)))))) (aCons (eBin addD (eBin addD (eBin modD (eUn intD (bVar 2)) (eC (.int M))) (eBin mulD (eC (.int A)) (eVar 1))) (eC (.int B))) (aCons (eC (.int 0)) aNil)) [.va (.list [.int z]), .va (.int 0), .va (.int z)] = .ok (urnE (az * t) (z % M + A * 0 + B) 0) := by
        refine aCons_ok ?_ (aCons_ok ?_ rfl)
        · refine eBin_ok (a := .int az) (c := .int t) rfl ?_ m1
          refine eUn_ok (a := .bool (leI (10 ^ 18) az)) ?_ ?_
          · refine eBin_ok (a := .int az) (c := .int (10 ^ 18)) rfl ?_ rfl
            exact eBin_ok (a := .int 10) (c := .int 18) rfl rfl rfl
          · show intD (.bool (leI (10 ^ 18) az)) = some (.int (if leI (10 ^ 18) az = true then 1 else 0))
            cases leI (10 ^ 18) az <;> rfl
        · refine eBin_ok (a := .int (z % M + A * 0)) (c := .int B) ?_ rfl rfl
          refine eBin_ok (a := .int (z % M)) (c := .int (A * 0)) ?_ ?_ rfl
          · exact eBin_ok (a := .int z) (c := .int M) rfl rfl mm
          · exact eBin_ok (a := .int A) (c := .int 0) rfl rfl m2
      unfold boxL nLst
      rw [q]
      rfl
    unfold fnDN
    rw [show Nat.beq [PyData.list [.int z], PyData.int 0].length 2 = true from rfl]
    dsimp only
    rw [e1]
    dsimp only
    rw [e2]
  · rcases ht with h | h <;> rw [h] <;> omega
/-! ### a law by its body -/
section
variable {P : Program} {w : World} {K : PySem.W.Frag} {mg : Str → Option Value} {base : Heap} {C : Str → Addr} {m k : Nat} {f1 f2 : Env → R Flw} {params : Arguments} {body : List Stmt} {scope : Scope} {f : Addr} {fd : FuncData} {N ps : List Str} {x : Str}
theorem fnOk0 {sp : Sp} (F : FnOk P w K mg base (L2.CX P w) k f fd ps sp) (h : ∀ vs H Q E E', sp vs H Q E → sp vs H Q E') : FnOk P w K mg base CX0 k f fd ps sp :=
  ⟨F.len, fun A outer s H args us vs Q E hr he hb hv hs => codeAny_mono (F.run A outer s H args us vs Q (fun _ _ _ => False) hr he hb hv (h _ _ _ _ _ hs)) fun r s' q => by
    cases r with
    | ok fl => cases fl <;> exact q
    | error e => obtain ⟨a, B, H', cls, d, _, _, _, _, _, _, _, z⟩ := q; exact z.elim⟩
theorem law_of (F : FunD K x x params body scope [] [] f fd) (S : FnScope N ps scope) (hn : ps.length = 1) (hN : N.length = 1 + m) {b0 : Nat}
    (hB : ∀ (cdv : Value) (A : Around) (outer : List PySem.Env) (s : Shared) (Z H : Hp) (E : XK), Room k (A.deeper (envOfC x scope s.heap.objs.size f cdv)) →
      ∃ st rest, body = st :: rest ∧ VS ⟨none, C⟩ (WOf E) Z H (cxOf (L2.CX P w) P w K mg base N x scope f cdv A outer s H E) st f1 ∧ ∀ a, VSs ⟨some a, C⟩ (WOf E) Z H (cxOf (L2.CX P w) P w K mg base N x scope f cdv A outer s H E) rest f2)
    (plain : ∀ ns : List Int, ns.length ≤ 63 → ∃ x y env1, f1 (.va (scD (ns.map .int)) :: reps m) = .ok (.nx env1) ∧ sl env1 1 = .ol (urnE x y 0) ∧ UrnB b0 x y 0 ∧ (f2 (setS env1 1 .ur)).post b0 (fun _ fl => ∃ env, fl = .rt (.bool true) env) fun _ _ => False) :
    FnOk P w K mg base CX0 (k + 1) f fd ps (spLaw K) := by
  refine fnOk0 (F.ok S (fun vs H Q E h => ?_) fun cdv A outer s H vs Q E hr ⟨a, ns, hvs, hl, hq, hQ⟩ => ?_) fun vs H Q E E' h => h
  · obtain ⟨a, ns, rfl, _⟩ := h
    rw [hn]; rfl
  · subst hvs
    obtain ⟨st, rest, rfl, h1, h2⟩ := hB cdv A outer s H H E hr
    obtain ⟨x', y', env1, e1, e2, ub, hp⟩ := plain ns hl
    have h3 : PSs (cxOf (L2.CX P w) P w K mg base N x scope f cdv A outer s H E) rest (fun E2 σ H1 => ∃ a, tS ⟨some a, C⟩ K (WOf E) H H f2 E2 σ H1) := ⟨fun pins s σ H1 E2 I ⟨a, q⟩ => (h2 a).run pins s σ H1 E2 I q⟩
    have ha : AAll none K H [.ref a] [scD (ns.map .int)] := .scr hq (DqAll.of_ints ns) .nil
    refine ⟨_, pss_cons h1 h3, 0, H, fun _ => 0, [scD (ns.map .int)].map slOf ++ reps m, ss_start (Same.refl H) trivial ha (by rw [hN]; rfl), ?_⟩
    show (f1 (.va (scD (ns.map .int)) :: reps m)).post 0 _ _
    rw [e1]
    intro σ1 H1 Z1 ow1 z1 S1
    refine ⟨ow1 1, b0, Z1, ow1, setS env1 1 .ur, S1.toUrn e2 ub, ?_⟩
    refine R.post_mono (fun b fl ⟨env, e⟩ => ?_) (fun _ _ q => q) hp
    subst e
    intro v σ2 H2 Z2 ow2 _ _ hv
    rw [Dq.bl_ hv]
    exact hQ H2
end
end Ev
set_option Elab.async false
set_option linter.all false
set_option maxRecDepth 100000
set_option maxHeartbeats 4000000
/-! Ev26: sorted(set(tuples)). -/
namespace Ev
open PySem PySem.Spec PyProof.Rows L2
/-! ### sorted, each once -/
def insU (x : List Int) : List (List Int) → List (List Int)
  | [] => [x]
  | y :: r => match leR x y with
    | true => match leR y x with
      | true => y :: r
      | false => x :: y :: r
    | false => y :: insU x r
def usort : List (List Int) → List (List Int)
  | [] => []
  | x :: r => insU x (usort r)
theorem leR_anti {x y : List Int} (a : leR x y = true) (b : leR y x = true) : x = y := by
  rw [leR_eq, decide_eq_true_eq] at a b
  exact List.le_antisymm a b
theorem leR_tot (x y : List Int) : leR x y = true ∨ leR y x = true := by
  rw [leR_eq, leR_eq, decide_eq_true_eq, decide_eq_true_eq]
  exact List.le_total x y
theorem leR_trans {x y z : List Int} (a : leR x y = true) (b : leR y z = true) : leR x z = true := by
  rw [leR_eq, decide_eq_true_eq] at a b ⊢
  exact List.le_trans a b
abbrev Strict (l : List (List Int)) : Prop := l.Pairwise fun a b => leR a b = true ∧ leR b a = false
theorem insU_mem {x z : List Int} : ∀ {l : List (List Int)}, z ∈ insU x l ↔ z = x ∨ z ∈ l
  | [] => by simp [insU]
  | y :: r => by
    unfold insU
    split
    · rename_i h1
      split
      · rename_i h2
        have e := leR_anti h1 h2
        subst e
        simp
      · simp
    · rw [List.mem_cons, insU_mem (l := r), List.mem_cons]
      constructor
      · rintro (h | h | h)
        · exact .inr (.inl h)
        · exact .inl h
        · exact .inr (.inr h)
      · rintro (h | h | h)
        · exact .inr (.inl h)
        · exact .inl h
        · exact .inr (.inr h)
theorem insU_strict {x : List Int} : ∀ {l : List (List Int)}, Strict l → Strict (insU x l)
  | [], _ => by simp [insU]
  | y :: r, h => by
    obtain ⟨h1, h2⟩ := List.pairwise_cons.mp h
    unfold insU
    split
    · rename_i e1
      split
      · exact h
      · rename_i e2
        refine List.pairwise_cons.mpr ⟨fun z hz => ?_, h⟩
        rcases List.mem_cons.mp hz with q | q
        · rw [q]; exact ⟨e1, e2⟩
        · obtain ⟨q1, q2⟩ := h1 z q
          refine ⟨leR_trans e1 q1, ?_⟩
          cases hzx : leR z x with
          | false => rfl
          | true =>
            have := leR_trans hzx e1
            rw [q2] at this
            cases this
    · rename_i e1
      refine List.pairwise_cons.mpr ⟨fun z hz => ?_, insU_strict h2⟩
      rcases insU_mem.mp hz with q | q
      · rw [q]; exact ⟨(leR_tot x y).resolve_left (by rw [e1]; exact Bool.false_ne_true), e1⟩
      · exact h1 z q
theorem usort_mem {z : List Int} : ∀ {l : List (List Int)}, z ∈ usort l ↔ z ∈ l
  | [] => Iff.rfl
  | x :: r => by
    show z ∈ insU x (usort r) ↔ _
    rw [insU_mem, usort_mem, List.mem_cons]
theorem usort_strict : ∀ l : List (List Int), Strict (usort l)
  | [] => .nil
  | x :: r => insU_strict (usort_strict r)
theorem pw_perm_eq : ∀ {l k : List (List Int)}, l.Pairwise (fun a b => leR a b = true) → k.Pairwise (fun a b => leR a b = true) → l.Perm k → l = k
  | [], k, _, _, p => (List.perm_nil.mp p.symm).symm
  | a :: l, [], _, _, p => absurd (List.perm_nil.mp p) (by simp)
  | a :: l, b :: k, h1, h2, p => by
    obtain ⟨p1, p2⟩ := List.pairwise_cons.mp h1
    obtain ⟨q1, q2⟩ := List.pairwise_cons.mp h2
    have e : a = b := by
      rcases List.mem_cons.mp (p.mem_iff.mp List.mem_cons_self) with e | e
      · exact e
      · rcases List.mem_cons.mp (p.mem_iff.mpr (List.mem_cons_self (a := b) (l := k))) with f | f
        · exact f.symm
        · exact leR_anti (p1 b f) (q1 a e)
    subst e
    rw [pw_perm_eq p2 q2 ((List.perm_cons a).mp p)]
theorem leR_total : PySem.W.TotalLe leR := by rw [← dataLe_tups]; exact PySem.W.sortLe_total _ _ _
theorem isort_pw : ∀ l : List (List Int), (isort leR l).Pairwise (fun a b => leR a b = true)
  | [] => .nil
  | x :: r => insB_pw leR_total (isort_pw r)
theorem isort_perm (l : List (List Int)) : (isort leR l).Perm l := by
  rw [isort_eq leR_total]
  exact List.mergeSort_perm l leR
/-- a list without doubles and the same sorted, each once -/
theorem isort_usort {l k : List (List Int)} (nd : l.Nodup) (h : ∀ x, x ∈ l ↔ x ∈ k) : isort leR l = usort k := by
  have s := usort_strict k
  refine pw_perm_eq (isort_pw l) (s.imp fun h => h.1) ?_
  refine (isort_perm l).trans ((List.perm_ext_iff_of_nodup nd ?_).mpr fun x => (h x).trans usort_mem.symm)
  refine s.imp fun {a b} h e => ?_
  subst e
  rw [h.1] at h
  cases h.2
theorem isort_same {l k : List (List Int)} (p : l.Perm k) : isort leR l = isort leR k := pw_perm_eq (isort_pw l) (isort_pw k) ((isort_perm l).trans (p.trans (isort_perm k).symm))
/-! ### the heap's side -/
theorem perm_back {α β : Type} {f : α → β} {vs ws : List β} (p : vs.Perm ws) : ∀ L : List α, ws = L.map f → ∃ L1 : List α, L1.Perm L ∧ vs = L1.map f := by
  induction p with
  | nil =>
    intro L e
    cases L with
    | nil => exact ⟨[], .nil, rfl⟩
    | cons _ _ => cases e
  | cons x _ ih =>
    intro L e
    cases L with
    | nil => cases e
    | cons q L =>
      injection e with e1 e2
      obtain ⟨L1, h1, h2⟩ := ih L e2
      exact ⟨q :: L1, h1.cons q, by rw [List.map_cons, ← h2, ← e1]⟩
  | swap x y l =>
    intro L e
    match L, e with
    | a :: b :: L, e =>
      injection e with e1 e2
      injection e2 with e2 e3
      exact ⟨b :: a :: L, .swap a b L, by rw [List.map_cons, List.map_cons, ← e1, ← e2, ← e3]⟩
  | trans _ _ ih1 ih2 =>
    intro L e
    obtain ⟨L2, h1, h2⟩ := ih2 L e
    obtain ⟨L1, h3, h4⟩ := ih1 L2 h2
    exact ⟨L1, h3.trans h1, h4⟩
theorem reads_ints {h : Heap} : ∀ {is : List Int} {vs : List Value} {as : List Addr}, ReadsAll h vs (is.map PyData.int) as → as = []
  | [], _, _, r => by
    have r' : ReadsAll h _ [] _ := r
    cases r'
    rfl
  | i :: is, _, _, r => by
    have r' : ReadsAll h _ (.int i :: is.map PyData.int) _ := r
    cases r' with
    | cons h1 h2 =>
      cases h1
      rw [reads_ints h2]
      rfl
theorem reads_tupI {h : Heap} {v : Value} {b : List Int} {as : List Addr} (r : Reads h v (tupI b) as) : as = [] := by
  have r' : Reads h v (.tuple (b.map .int)) as := r
  cases r' with
  | tuple h1 h2 h3 h4 => exact reads_ints h4
section
variable {g : G} {W : WX} {X : Cx} {K : PySem.W.Frag}
theorem each_of_all {α : Type} {R : Value → List Int → Prop} {f : α → Value} {k : α → List Int} : ∀ {L : List α}, (∀ q ∈ L, R (f q) (k q)) → PySem.W.EachIs R (L.map f) (L.map k)
  | [], _ => .nil
  | q :: L, h => .cons (h q List.mem_cons_self) (each_of_all fun q hq => h q (List.mem_cons_of_mem _ hq))
/-- sorted(a set of tuples) -/
def rSortS (K : PySem.W.Frag) (P : Program) (w : World) : List V → Hp → VK → Prop := fun xs H Q => ∃ (a : Addr) (L : List (Addr × List Int)) (Z : Hp), xs = [.ref a] ∧ H a = some (SetTO P w a L) ∧ Same Z H ∧ (∀ p ∈ L, Dq K Z (.ref p.1) (tupI p.2) ∧ p.2 ≠ []) ∧
  ((L.map (·.2)).Nodup → ∀ p vs, H p = none → DqAll K Z vs ((isort leR (L.map (·.2))).map tupI) → Q (.ref p) (upd H p (.lst vs)))
theorem c_sortS (hc : X.calm = true) (hu : X.A.units + 65 < cLine) : CallR X (.builtin "sorted") (rSortS X.K X.prog X.w) := by
  intro pins s σ H xs us Q I rv ⟨a, L, Z, e1, ha, z, hL, q⟩
  subst e1
  rw [Vals.ref1 rv]
  have sq : ∀ p ∈ L, SqT X.K H p.1 (p.2.map V.int) := fun p hp => by
    obtain ⟨h, _⟩ := hL p hp
    obtain ⟨b, ys, e, h1, h2⟩ := Dq.tup_ (show Dq X.K Z (.ref p.1) (.tuple (p.2.map .int)) from h)
    injection e with e
    rw [e, ← h2.ints]
    exact seqT z h1
  obtain ⟨es, ep, t, R⟩ := SetT0.full (P := X.prog) (w := X.w) ((I.hok a _ ha).1) fun p hp => I.isT (sq p hp)
  have q := q R.nd
  obtain ⟨o, ho, hex, hd⟩ := R.ob
  have few := R.few
  have len := R.size
  refine Calls.call_function_entry kind_sorted plain_sorted entry_sorted (args_sorted1 _) ?_
  unfold Builtin.«sorted»
  refine wpAny_bind (m := checkCount "sorted" 1 1 _) (wpAny_pure ?_)
  refine wpAny_bind (collect_set (A := X.A.in1) (I.ok.hd hc) ⟨o, ho, hex.1, hd⟩ R.fits (by unfold scanBound; omega) R.tab.ris R.led fun s1 vs kp hz g1 o1 pm => ?_)
  have er : es.toList.map (·.2) = L.map fun q => Value.ref q.1 := by
    rw [R.rows]
    unfold L2.rowsOf
    rw [List.map_map]
    rfl
  rw [er] at pm
  obtain ⟨L1, p1, rfl⟩ := perm_back pm L rfl
  have fewL : (L1.map fun q => Value.ref q.1).length ≤ sizeLine := by rw [List.length_map, p1.length_eq, sizeLine_eq]; omega
  refine wpAny_bind (wpAny_newList ?_ fewL)
  have at_ : (s1.heap.push (seqObj "list" (L1.map fun q => Value.ref q.1).toArray 0)).get? s1.heap.objs.size = some (seqObj "list" (L1.map fun q => Value.ref q.1).toArray 0) := Heap.get?_push_size _ rfl
  have keep : ∀ b o, s.heap.get? b = some o → (s1.heap.push (seqObj "list" (L1.map fun q => Value.ref q.1).toArray 0)).get? b = some o := fun b o e => Heap.get?_push_of_some _ (kp b o e)
  have e1 : PySem.W.EachIs (fun u b => ∃ x, RelV x u ∧ Dq X.K Z x (tupI b)) (L1.map fun q => Value.ref q.1) (L1.map (·.2)) := each_of_all fun q hq => ⟨.ref q.1, rfl, (hL q (p1.mem_iff.mp hq)).1⟩
  have e2 : PySem.W.EachIs (fun v b => ∃ as, Reads (s1.heap.push (seqObj "list" (L1.map fun q => Value.ref q.1).toArray 0)) v (tupI b) as ∧ s1.heap.objs.size ∉ as) (L1.map fun q => Value.ref q.1) (L1.map (·.2)) := each_of_all fun q hq => by
    obtain ⟨as, r⟩ := Dp.reads I _ _ (.ref q.1) ((hL q (p1.mem_iff.mp hq)).1.mono z).dp rfl
    have e := reads_tupI r
    subst e
    exact ⟨[], PyProof.Rows.Reads.keeps keep r, List.not_mem_nil⟩
  have hne : ∀ b ∈ L1.map (·.2), b ≠ [] := fun b hb => by
    obtain ⟨p, hp, rfl⟩ := List.mem_map.mp hb
    exact (hL p (p1.mem_iff.mp hp)).2
  have te : ∀ b : List Int, (tupI b).depth = 1 := fun b => by
    show (PyData.tuple (b.map .int)).depth = 1
    rw [PyData.depth, PySem.W.depth_ints]
  refine wpAny_bind (wpAny_holding (PySem.W.list_sort_data (s := { s1 with heap := s1.heap.push (seqObj "list" (L1.map fun q => Value.ref q.1).toArray 0) }) at_ e1 e2 (alike_rows _) (.inl fun d hd => ?_) (by rw [List.length_map, p1.length_eq, sizeLine_eq]; omega) (fun b _ => by rw [te]; show X.A.in1.units + 1 + 1 < cLine; have : X.A.in1.units = X.A.units + 1 := rfl; omega) fun out hl he => ?_))
  · obtain ⟨b, hb, rfl⟩ := List.mem_map.mp hd
    cases b with
    | nil => exact absurd rfl (hne _ hb)
    | cons i b => exact ⟨.int i, b.map .int, rfl⟩
  have hle : PySem.W.dataLe false tupI = leR := dataLe_tups
  rw [hle, ← isort_eq leR_total, isort_same (p1.map (·.2))] at he
  obtain ⟨ys, v1, v2⟩ := each_back he
  obtain ⟨c, hc'⟩ := sortedHeap_at (vs := L1.map fun q => Value.ref q.1) (out := out.toArray) at_
  have hk2 : ∀ b u, s.heap.get? b = some u → (sortedHeap (s1.heap.push (seqObj "list" (L1.map fun q => Value.ref q.1).toArray 0)) s1.heap.objs.size (L1.map fun q => Value.ref q.1) out.toArray).get? b = some u := fun b u e => by
    have lt := Heap.lt_size (kp b u e)
    rw [sortedHeap_old (Nat.ne_of_lt lt) (by rw [size_push']; exact Nat.lt_succ_of_lt lt)]
    exact keep b u e
  have hn : H s1.heap.objs.size = none := I.hok.fresh hz
  have hlen : ys.length ≤ sizeLine := by rw [v1.length, hl, List.length_map, p1.length_eq, sizeLine_eq]; omega
  have J := I.call (s := s) (ch := []) (g' := s1.gens) (t' := s1.toks) (d' := s1.drawn) (Un.laid (o := .lst ys) hk2 hz hn) (I.hok.laid hk2 hz ⟨hlen, out, c, v1, hc'⟩) (by rw [g1]; exact I.bare) (fun _ z => nomatch z)
  refine wpAny_pure ⟨_, rfl, .ref s1.heap.objs.size, upd H s1.heap.objs.size (.lst ys), ?_, rfl, q _ ys hn v2⟩
  obtain ⟨h1', g1', d1', t1', o1'⟩ := s1
  cases o1
  exact J
def usetD (d : D) : Option (List D) := match d with
  | .list ds => match rowsOf ds with
    | some rows => match Nat.blt rows.length 64 with
      | true => some ((usort rows).map tupI)
      | false => none
    | none => none
  | _ => none
theorem tups_of {Z : Hp} : ∀ {rows : List (List Int)} {ys : List V}, DqAll K Z ys (rows.map tupI) → ∃ ks : List (Addr × List Int), ys = ks.map (fun p => V.ref p.1) ∧ ks.map (·.2) = rows ∧ ∀ p ∈ ks, Dq K Z (.ref p.1) (tupI p.2)
  | [], _, h => by
    have h' : DqAll K Z _ [] := h
    cases h'
    exact ⟨[], rfl, rfl, fun p hp => by cases hp⟩
  | b :: rows, _, h => by
    have h' : DqAll K Z _ (tupI b :: rows.map tupI) := h
    cases h' with
    | cons h1 h2 =>
      obtain ⟨ks, e1, e2, e3⟩ := tups_of h2
      obtain ⟨a, ys, rfl, _⟩ := Dq.tup_ (show Dq K Z _ (.tuple (b.map .int)) from h1)
      refine ⟨(a, b) :: ks, by rw [e1]; rfl, by rw [← e2]; rfl, fun p hp => ?_⟩
      rcases List.mem_cons.mp hp with e | hp
      · rw [e]; exact h1
      · exact e3 p hp
theorem dq_sqT {Z H : Hp} (z : Same Z H) {a : Addr} {b : List Int} (h : Dq K Z (.ref a) (tupI b)) : SqT K H a (b.map V.int) := by
  obtain ⟨c, ys, e, h1, h2⟩ := Dq.tup_ (show Dq K Z (.ref a) (.tuple (b.map .int)) from h)
  injection e with e
  rw [e, ← h2.ints]
  exact seqT z h1
theorem tSS_of {P : Program} {w : World} {f : Env → R D} {σ : L2.St} {H : Hp} {Q : VK} (q : tG g K W (RelN g.r K) (nUn usetD f) σ H Q) : tCB (rSortS K P w) (L2.tCons (tCB (rSetOfT K P w) (L2.tCons (tG g K W (RelB g.r K) f) tNil)) tNil) σ H Q := by
  obtain ⟨b, Z, ow, env, S, k⟩ := q
  refine ⟨b, Z, ow, env, S, KG.seq S k fun b1 x vx H1 Z1 e1 S1 hx k1 => ?_⟩
  obtain ⟨ds, hd, k3⟩ := k1.of
  unfold usetD at hd
  split at hd <;> first | (cases hd; done) | skip
  split at hd <;> first | (cases hd; done) | skip
  rename_i es rows hr
  split at hd <;> first | (cases hd; done) | skip
  rename_i hb
  cases hd
  rw [blt_eq, decide_eq_true_eq] at hb
  obtain ⟨a, ys, rfl, h1, h2⟩ := RelB.lst S1.zh hx
  obtain ⟨q1, q2⟩ := rowsOf_eq hr
  rw [q1] at h2
  obtain ⟨ks, k1', k2', k3'⟩ := tups_of h2
  rw [k1'] at h1
  refine ⟨a, ks, rfl, h1, fun p hp => dq_sqT S1.zh (k3' p hp), by rw [← List.length_map (f := (·.2)), k2']; exact hb, fun s L hs hsub hall => ?_⟩
  have z2 : Same Z1 (upd H1 s (SetTO P w s L)) := fun c o e => by rw [upd_ne (ne_of_none e (S1.zh.free hs))]; exact S1.zh c o e
  refine ⟨s, L, Z1, rfl, upd_same, z2, fun p hp => ⟨k3' p (hsub p hp), q2 _ ?_⟩, fun nd p vs hp hv => ?_⟩
  · rw [← k2']
    exact List.mem_map.mpr ⟨p, hsub p hp, rfl⟩
  · have hm : ∀ x, x ∈ L.map (·.2) ↔ x ∈ rows := fun x => by
      rw [← k2']
      constructor
      · intro h
        obtain ⟨p, hp, rfl⟩ := List.mem_map.mp h
        exact List.mem_map.mpr ⟨p, hsub p hp, rfl⟩
      · intro h
        obtain ⟨p, hp, rfl⟩ := List.mem_map.mp h
        exact hall p hp
    rw [isort_usort nd hm] at hv
    have x1 : Ext g.r Z1 H1 Z1 (upd H1 s (SetTO P w s L)) := Ext.newU S1.zh hs
    have S2 := S1.ext x1 (S1.urn.newU hs)
    have hps : p ≠ s := fun e => by rw [e, upd_same] at hp; cases hp
    have hp1 : H1 p = none := by rw [upd_ne hps] at hp; exact hp
    have hpH : H p = none := by
      cases q : H p with
      | none => rfl
      | some o =>
        by_cases n : g.r = some p
        · exact absurd n (S1.urn.ne hp1)
        · rw [e1.there S.zh q n] at hp1; cases hp1
    exact k3 _ _ Z1 (x1.trans' (Ext.newU S2.zh hp) S2.urn) (S2.urn.newU hp) ⟨p, vs, rfl, hpH, S1.zh.free hp1, S1.urn.ne hp1, upd_same, hv⟩
/-- sorted(set(e)), tuples of ints -/
theorem ne_sortSet {a : Expr} {f : Env → R D} {p1 p2 pos pos2 : Pos} (hc : X.calm = true) (hu : X.A.units + 65 < cLine) (hg : Gl X "sorted") (hm : X.mg "sorted" = none) (hg2 : Gl X "set") (hm2 : X.mg "set" = none) (ha : BE g W X a f)
    (he : starEach [a] X.env = (false, eval a X.env) :: starEach [] X.env := by rfl)
    (he2 : starEach [.Call (.Name "set" p2) [a] [] pos2] X.env = (false, eval (.Call (.Name "set" p2) [a] [] pos2) X.env) :: starEach [] X.env := by rfl) :
    NE g W X (.Call (.Name "sorted" p1) [.Call (.Name "set" p2) [a] [] pos2] [] pos) (nUn usetD f) :=
  PE.of (pe_callB (c_sortS hc hu) hg hm bt_sorted (pa_cons (pe_callTy (cr_setOfT hc (by omega)) hg2 hm2 (by decide +kernel) (pa_cons ha pa_nil he) (by decide) (by decide) he) pa_nil he2) (by decide) (by decide) he2) fun _ _ _ q => tSS_of q
end
end Ev
set_option Elab.async false
set_option linter.all false
set_option maxRecDepth 100000
set_option maxHeartbeats 4000000
/-! Ev27: a, b, .. = a list. -/
namespace Ev
open PySem PySem.Spec PyProof.Rows L2
section
variable {g : G} {W : WX} {X : Cx} {Z0 H0 : Hp} {e : Expr} {pos tpos : Pos}
def bindLs (is : List Nat) (d : D) (env : Env) : Option Env := match d with
  | .list ds => bindL is ds env
  | _ => none
def sTupL (is : List Nat) (f : Env → R D) : Env → R Flw := fun env => (f env).bindS env fun d => (R.of (bindLs is d env)).bindS env fun env' => .ok (.nx env')
theorem vs_tgtL {es : List Expr} {is : List Nat} {k : Nat} {f : Env → R D} (hc : X.calm = true) (ht : PTgs X es is) (h : VE g W X e f) (hn : (assignEach es X.env).length = is.length := by rfl) (hst : (assignEach es X.env).findIdx? (·.1) = none := by rfl)
    (hs : swapsWithSole [.Tuple es k tpos] e pos.line X.env = pure false := by rfl) (hw : swappedStores [.Tuple es k tpos] e X.env = pure none := by rfl)
    (h1 : (assignEach [.Tuple es k tpos] X.env).map (·.2) = [assign (.Tuple es k tpos) X.env] := by rfl) : VS g W Z0 H0 X (.Assign [.Tuple es k tpos] e pos) (sTupL is f) := by
  refine PS.of (ps_asg h (pg_lst hc ht hn hst) hs hw h1) fun σ H E ⟨b, Z, ow, env, S, k⟩ => ⟨b, Z, ow, env, S.se, SK.seq S k fun b1 d v H1 Z1 e1 S1 hd k1 => ?_⟩
  obtain ⟨env', he, k2⟩ := k1.of
  unfold bindLs at he
  split at he
  · obtain ⟨a, xs, rfl, q1, q2⟩ := Dq.lst_ hd
    obtain ⟨hl, S'⟩ := SS.setL (is := is) S1 q2 he
    exact ⟨a, xs, rfl, SqL.of (S1.se.zh _ _ q1), hl, gNs_of hl (SK.nx S' k2)⟩
  · cases he
end
end Ev
set_option Elab.async false
set_option linter.all false
set_option maxRecDepth 100000
set_option maxHeartbeats 0
namespace Hd
open PySem PySem.Spec PyProof.Rows L2
def top (i : Nat) : Stmt := PySem.Challenge.pw_handshakes_k96_main_how_many_look_alike.main.body.getD i (.Pass ⟨0, 0, 0, 0⟩)
abbrev s_cross : Stmt := top 5
abbrev s_arms : Stmt := top 6
abbrev s_look_same : Stmt := top 7
abbrev s_crossing : Stmt := top 10
abbrev s_home : Stmt := top 11
abbrev s_free_groups : Stmt := top 12
abbrev s_evidence : Stmt := top 13
abbrev s_catalan : Stmt := top 14
abbrev s_many : Stmt := top 15
abbrev s_with_pair : Stmt := top 16
abbrev s_busy_people : Stmt := top 17
abbrev s_choices : Stmt := top 18
abbrev s_arrangement_at : Stmt := top 19
abbrev s_all_arrangements : Stmt := top 20
abbrev s_gcd : Stmt := top 22
abbrev s_turned : Stmt := top 24
abbrev s_mirrored : Stmt := top 25
abbrev s_period : Stmt := top 26
abbrev s_choose : Stmt := top 27
abbrev s_alike_many : Stmt := top 28
abbrev s_walk : Stmt := top 30
abbrev s_areas : Stmt := top 31
abbrev s_new_arms : Stmt := top 33
abbrev s_is_possible : Stmt := top 34
abbrev s_exchanges : Stmt := top 35
abbrev s_ring_of : Stmt := top 37
abbrev s_rings : Stmt := top 38
abbrev s_distance : Stmt := top 39
abbrev s__law_box : Stmt := top 41
abbrev s__law_take : Stmt := top 42
abbrev s__law_cells : Stmt := top 43
abbrev s__law_same : Stmt := top 44
abbrev s__law_all : Stmt := top 45
abbrev s__law_choose : Stmt := top 46
abbrev s__law_heaps : Stmt := top 47
abbrev s__law_turn : Stmt := top 48
abbrev s__law_few_right : Stmt := top 49
abbrev s__law_far_right : Stmt := top 50
abbrev s_law : Stmt := top 51
def d_cross : He.DefD := ⟨("cross", none), "cross", "cross", defArgs s_cross, defBody s_cross, defScope s_cross, [], []⟩
def d_arms : He.DefD := ⟨("arms", none), "arms", "arms", defArgs s_arms, defBody s_arms, defScope s_arms, [], []⟩
def d_look_same : He.DefD := ⟨("look_same", none), "look_same", "look_same", defArgs s_look_same, defBody s_look_same, defScope s_look_same, [], []⟩
def d_crossing : He.DefD := ⟨("crossing", none), "crossing", "crossing", defArgs s_crossing, defBody s_crossing, defScope s_crossing, [], []⟩
def d_home : He.DefD := ⟨("home", none), "home", "home", defArgs s_home, defBody s_home, defScope s_home, [], []⟩
def d_free_groups : He.DefD := ⟨("free_groups", none), "free_groups", "free_groups", defArgs s_free_groups, defBody s_free_groups, defScope s_free_groups, [], []⟩
def d_evidence : He.DefD := ⟨("evidence", none), "evidence", "evidence", defArgs s_evidence, defBody s_evidence, defScope s_evidence, [], []⟩
def d_catalan : He.DefD := ⟨("catalan", none), "catalan", "catalan", defArgs s_catalan, defBody s_catalan, defScope s_catalan, [], []⟩
def d_many : He.DefD := ⟨("many", none), "many", "many", defArgs s_many, defBody s_many, defScope s_many, [], []⟩
def d_with_pair : He.DefD := ⟨("with_pair", none), "with_pair", "with_pair", defArgs s_with_pair, defBody s_with_pair, defScope s_with_pair, [], []⟩
def d_busy_people : He.DefD := ⟨("busy_people", none), "busy_people", "busy_people", defArgs s_busy_people, defBody s_busy_people, defScope s_busy_people, [], []⟩
def d_choices : He.DefD := ⟨("choices", none), "choices", "choices", defArgs s_choices, defBody s_choices, defScope s_choices, [], []⟩
def d_arrangement_at : He.DefD := ⟨("arrangement_at", none), "arrangement_at", "arrangement_at", defArgs s_arrangement_at, defBody s_arrangement_at, defScope s_arrangement_at, [], []⟩
def d_all_arrangements : He.DefD := ⟨("all_arrangements", none), "all_arrangements", "all_arrangements", defArgs s_all_arrangements, defBody s_all_arrangements, defScope s_all_arrangements, [], []⟩
def d_gcd : He.DefD := ⟨("gcd", none), "gcd", "gcd", defArgs s_gcd, defBody s_gcd, defScope s_gcd, [], []⟩
def d_turned : He.DefD := ⟨("turned", none), "turned", "turned", defArgs s_turned, defBody s_turned, defScope s_turned, [], []⟩
def d_mirrored : He.DefD := ⟨("mirrored", none), "mirrored", "mirrored", defArgs s_mirrored, defBody s_mirrored, defScope s_mirrored, [], []⟩
def d_period : He.DefD := ⟨("period", none), "period", "period", defArgs s_period, defBody s_period, defScope s_period, [], []⟩
def d_choose : He.DefD := ⟨("choose", none), "choose", "choose", defArgs s_choose, defBody s_choose, defScope s_choose, [], []⟩
def d_alike_many : He.DefD := ⟨("alike_many", none), "alike_many", "alike_many", defArgs s_alike_many, defBody s_alike_many, defScope s_alike_many, [], []⟩
def d_walk : He.DefD := ⟨("walk", none), "walk", "walk", defArgs s_walk, defBody s_walk, defScope s_walk, [], []⟩
def d_areas : He.DefD := ⟨("areas", none), "areas", "areas", defArgs s_areas, defBody s_areas, defScope s_areas, [], []⟩
def d_new_arms : He.DefD := ⟨("new_arms", none), "new_arms", "new_arms", defArgs s_new_arms, defBody s_new_arms, defScope s_new_arms, [], []⟩
def d_is_possible : He.DefD := ⟨("is_possible", none), "is_possible", "is_possible", defArgs s_is_possible, defBody s_is_possible, defScope s_is_possible, [], []⟩
def d_exchanges : He.DefD := ⟨("exchanges", none), "exchanges", "exchanges", defArgs s_exchanges, defBody s_exchanges, defScope s_exchanges, [], []⟩
def d_ring_of : He.DefD := ⟨("ring_of", none), "ring_of", "ring_of", defArgs s_ring_of, defBody s_ring_of, defScope s_ring_of, [], []⟩
def d_rings : He.DefD := ⟨("rings", none), "rings", "rings", defArgs s_rings, defBody s_rings, defScope s_rings, [], []⟩
def d_distance : He.DefD := ⟨("distance", none), "distance", "distance", defArgs s_distance, defBody s_distance, defScope s_distance, [], []⟩
def d__law_box : He.DefD := ⟨("_law_box", none), "_law_box", "_law_box", defArgs s__law_box, defBody s__law_box, defScope s__law_box, [], []⟩
def d__law_take : He.DefD := ⟨("_law_take", none), "_law_take", "_law_take", defArgs s__law_take, defBody s__law_take, defScope s__law_take, [], []⟩
def d__law_cells : He.DefD := ⟨("_law_cells", none), "_law_cells", "_law_cells", defArgs s__law_cells, defBody s__law_cells, defScope s__law_cells, [], []⟩
def d__law_same : He.DefD := ⟨("_law_same", none), "_law_same", "_law_same", defArgs s__law_same, defBody s__law_same, defScope s__law_same, [], []⟩
def d__law_all : He.DefD := ⟨("_law_all", none), "_law_all", "_law_all", defArgs s__law_all, defBody s__law_all, defScope s__law_all, [], []⟩
def d__law_choose : He.DefD := ⟨("_law_choose", none), "_law_choose", "_law_choose", defArgs s__law_choose, defBody s__law_choose, defScope s__law_choose, [], []⟩
def d__law_heaps : He.DefD := ⟨("_law_heaps", none), "_law_heaps", "_law_heaps", defArgs s__law_heaps, defBody s__law_heaps, defScope s__law_heaps, [], []⟩
def d__law_turn : He.DefD := ⟨("_law_turn", none), "_law_turn", "_law_turn", defArgs s__law_turn, defBody s__law_turn, defScope s__law_turn, [], []⟩
def d__law_few_right : He.DefD := ⟨("_law_few_right", none), "_law_few_right", "_law_few_right", defArgs s__law_few_right, defBody s__law_few_right, defScope s__law_few_right, [], []⟩
def d__law_far_right : He.DefD := ⟨("_law_far_right", none), "_law_far_right", "_law_far_right", defArgs s__law_far_right, defBody s__law_far_right, defScope s__law_far_right, [], []⟩
def d_law : He.DefD := ⟨("law", none), "law", "law", defArgs s_law, defBody s_law, defScope s_law, [], []⟩
def fn : List He.DefD := [d_cross, d_arms, d_look_same, d_crossing, d_home, d_free_groups, d_evidence, d_catalan, d_many, d_with_pair, d_busy_people, d_choices, d_arrangement_at, d_all_arrangements, d_gcd, d_turned, d_mirrored, d_period, d_choose, d_alike_many, d_walk, d_areas, d_new_arms, d_is_possible, d_exchanges, d_ring_of, d_rings, d_distance, d__law_box, d__law_take, d__law_cells, d__law_same, d__law_all, d__law_choose, d__law_heaps, d__law_turn, d__law_few_right, d__law_far_right, d_law]
def fa : List He.Fa := [.glo "cross", .glo "arms", .glo "look_same", .glo "crossing", .glo "home", .glo "free_groups", .glo "evidence", .glo "catalan", .glo "many", .glo "with_pair", .glo "busy_people", .glo "choices", .glo "arrangement_at", .glo "all_arrangements", .glo "gcd", .glo "turned", .glo "mirrored", .glo "period", .glo "choose", .glo "alike_many", .glo "walk", .glo "areas", .glo "new_arms", .glo "is_possible", .glo "exchanges", .glo "ring_of", .glo "rings", .glo "distance", .glo "_law_box", .glo "_law_take", .glo "_law_cells", .glo "_law_same", .glo "_law_all", .glo "_law_choose", .glo "_law_heaps", .glo "_law_turn", .glo "_law_few_right", .glo "_law_far_right", .glo "law", .glo "OtherPeople", .glo "NoNumber", .glo "TooMany", .free "LookupError", .free "OverflowError", .free "ValueError", .free "abs", .free "all", .free "any", .free "bool", .free "enumerate", .free "int", .free "isinstance", .free "len", .free "list", .free "max", .free "min", .free "range", .free "set", .free "sorted", .free "str", .free "sum", .free "tuple", .free "zip", .int "MOST" 300]
abbrev R : PySem.W.OpenRow := PySem.W.OpenLaw.row PySem.Challenge.rw_handshakes_k96_main_how_many_look_alike
abbrev hk : PySem.W.Hook := He.hookD 4 fa fn
def ob (s : PySem.W.SharedT) : He.AlD := He.obsDG 4 fa fn (HandSHeadRun.getT s)
theorem ob_eq (s : PySem.W.SharedT) : ob s = hk.obs s.abs := He.obsDG_eq (HandSHeadRun.getT_eq s)
def lo0 : List PySem.Str := ["OtherPeople", "NoNumber", "TooMany", "cross", "arms", "look_same", "MOST", "crossing", "home", "free_groups", "evidence", "catalan", "many", "with_pair", "busy_people", "choices", "arrangement_at", "all_arrangements", "gcd", "turned", "mirrored", "period", "choose", "alike_many", "walk", "areas", "new_arms", "is_possible", "exchanges", "ring_of"]
def lo1 : List PySem.Str := ["rings", "distance", "_law_box", "_law_take", "_law_cells", "_law_same", "_law_all", "_law_choose", "_law_heaps", "_law_turn", "_law_few_right", "_law_far_right"]
def loose : List PySem.Str := lo0 ++ lo1
theorem run (w : World) : HandSHeadRun.RunEq R (PySem.W.view R.prog [51]) hk ob 20000 loose w := by
  intro os
  kernel_rfl
end Hd
set_option Elab.async false
set_option linter.all false
set_option maxRecDepth 100000
set_option maxHeartbeats 4000000
namespace Wk
open PySem PySem.Spec PyProof.Rows L2 Ev Hd
/-- the built-ins are free, the numbers stand -/
structure Bi (mg : PySem.Str → Option Value) : Prop where
  LookupError : mg "LookupError" = none
  OverflowError : mg "OverflowError" = none
  ValueError : mg "ValueError" = none
  abs : mg "abs" = none
  all : mg "all" = none
  any : mg "any" = none
  bool : mg "bool" = none
  enumerate : mg "enumerate" = none
  int : mg "int" = none
  isinstance : mg "isinstance" = none
  len : mg "len" = none
  list : mg "list" = none
  max : mg "max" = none
  min : mg "min" = none
  range : mg "range" = none
  set : mg "set" = none
  sorted : mg "sorted" = none
  str : mg "str" = none
  sum : mg "sum" = none
  tuple : mg "tuple" = none
  zip : mg "zip" = none
  MOST : ∃ t, mg "MOST" = some (.int (300) t)
section
variable {P : Program} {w : World} {K : PySem.W.Frag} {mg : PySem.Str → Option Value} {base : Heap} {C : PySem.Str → Addr}
/-! cross -/
abbrev N_cross : List PySem.Str := ["one", "other", "person"]
def B_cross : Ev.Env → R Flw :=
  (sRet (eBin eqOp (eUn lenD (eN (nLc [2] (.one 2) (iAny (eVar 1)) (eT (eChain ltOp ltOp (eUn (mmD minI) (bVar 0)) (eVar 2) (eUn (mmD maxI) (bVar 0)))) (eVar 2)))) (eC (.int 1))))
def D_cross : List D → R D := fnD 2 1 B_cross
theorem sc_cross : FnScope N_cross ["one", "other"] (defScope s_cross) := ⟨rfl, rfl, rfl, by decide +kernel, rfl, by decide +kernel, by decide +kernel⟩
theorem V_cross (bi : Bi mg)  (r : Option Addr) (f : Addr) (cdv : Value) (A : Around) (outer : List PySem.Env) (s : Shared) (Z H : Hp) (E : XK) (hr : Room 0 (A.deeper (envOfC "cross" (defScope s_cross) s.heap.objs.size f cdv))) :
    VSs ⟨r, C⟩ (WOf E) Z H (cxOf (L2.CX P w) P w K mg base N_cross "cross" (defScope s_cross) f cdv A outer s H E) (defBody s_cross) B_cross :=
  (vss_one (vs_ret (ve_cmp (o_eq hr.units) (ve_b1 c_len (gl_ (by kernel_rfl)) bi.len bt_len (be_ve (ve_n (ne_lc rfl sc_cross.nd (ie_any (ve_var rfl (.inl (by kernel_rfl)))) (own := [("person", 2)]) (blk_of (by kernel_rfl)) (fun _ _ _ _ _ => (tg_one sc_cross.nd rfl (.inl (by kernel_rfl)) (hf := .inr (by kernel_rfl)))) (fun _ _ _ _ _ => (pts_if (te_chain o_lt o_lt (ve_b1 (c_min rfl (hu hr)) (gl_ (by kernel_rfl)) bi.min bt_min (be_var rfl (.inr (.inl (by kernel_rfl))))) (ve_var rfl (.inl (by kernel_rfl))) (ve_b1 (c_max rfl (hu hr)) (gl_ (by kernel_rfl)) bi.max bt_max (be_var rfl (.inr (.inl (by kernel_rfl)))))))) (fun _ _ _ _ _ => (ve_var rfl (.inl (by kernel_rfl)))))))) ve_int)))
theorem Fd_cross (bi : Bi mg)  (F : ∃ f fd, FunD K "cross" "cross" (defArgs s_cross) (defBody s_cross) (defScope s_cross) [] [] f fd ∧ mg "cross" = some (.ref f)) : Fd P w K mg base C "cross" false 2 1 D_cross :=
  let ⟨f, fd, h, gm⟩ := F; fd_of h gm sc_cross (h.bindsN fun _ _ _ _ _ _ us hl => match us, hl with | [_, _], _ => rfl) rfl rfl fun r cdv A outer s Z H E hu1 hr => V_cross bi  r f cdv A outer s Z H E hr
/-! arms -/
abbrev N_arms : List PySem.Str := ["arrangement", "person", "partner"]
def B_arms : Ev.Env → R Flw :=
  (sRet (eN (nLc [1, 2] (.tup [1, 2]) (iEnu (aCons (eVar 0) aNil)) (eT (eBin ltOp (eVar 1) (eVar 2))) (eTup (aCons (eVar 1) (aCons (eVar 2) aNil))))))
def D_arms : List D → R D := fnD 1 2 B_arms
theorem sc_arms : FnScope N_arms ["arrangement"] (defScope s_arms) := ⟨rfl, rfl, rfl, by decide +kernel, rfl, by decide +kernel, by decide +kernel⟩
theorem V_arms (bi : Bi mg)  (r : Option Addr) (f : Addr) (cdv : Value) (A : Around) (outer : List PySem.Env) (s : Shared) (Z H : Hp) (E : XK) (hr : Room 0 (A.deeper (envOfC "arms" (defScope s_arms) s.heap.objs.size f cdv))) :
    VSs ⟨r, C⟩ (WOf E) Z H (cxOf (L2.CX P w) P w K mg base N_arms "arms" (defScope s_arms) f cdv A outer s H E) (defBody s_arms) B_arms :=
  (vss_one (vs_ret (ve_n (ne_lc rfl sc_arms.nd (ie_enum (gl_ (by kernel_rfl)) bi.enumerate (ae_cons (ve_var rfl (.inl (by kernel_rfl))) ae_nil)) (own := [("person", 1), ("partner", 2)]) (blk_of (by kernel_rfl)) (fun _ _ _ _ _ => (tg_tup rfl (tgs_cons sc_arms.nd rfl (.inl (by kernel_rfl)) (hf := .inr (by kernel_rfl)) (tgs_cons sc_arms.nd rfl (.inl (by kernel_rfl)) (hf := .inr (by kernel_rfl)) tgs_nil)))) (fun _ _ _ _ _ => (pts_if (te_cmp o_lt (ve_var rfl (.inl (by kernel_rfl))) (ve_var rfl (.inl (by kernel_rfl)))))) (fun _ _ _ _ _ => (ve_tup (ae_cons (ve_var rfl (.inl (by kernel_rfl))) (ae_cons (ve_var rfl (.inl (by kernel_rfl))) ae_nil))))))))
theorem Fd_arms (bi : Bi mg)  (F : ∃ f fd, FunD K "arms" "arms" (defArgs s_arms) (defBody s_arms) (defScope s_arms) [] [] f fd ∧ mg "arms" = some (.ref f)) : Fd P w K mg base C "arms" false 1 1 D_arms :=
  let ⟨f, fd, h, gm⟩ := F; fd_of h gm sc_arms (h.bindsN fun _ _ _ _ _ _ us hl => match us, hl with | [_], _ => rfl) rfl rfl fun r cdv A outer s Z H E hu1 hr => V_arms bi  r f cdv A outer s Z H E hr
/-! look_same -/
abbrev N_look_same : List PySem.Str := ["one", "other"]
def B_look_same : Ev.Env → R Flw :=
  (sIf (eT (eBin neOp (eUn lenD (bVar 0)) (eUn lenD (bVar 1)))) sNev sNil)
def D_look_same : List D → R D := fnD 2 0 B_look_same
theorem sc_look_same : FnScope N_look_same ["one", "other"] (defScope s_look_same) := ⟨rfl, rfl, rfl, by decide +kernel, rfl, by decide +kernel, by decide +kernel⟩
theorem V_look_same (bi : Bi mg)  (r : Option Addr) (f : Addr) (cdv : Value) (A : Around) (outer : List PySem.Env) (s : Shared) (Z H : Hp) (E : XK) (hr : Room 0 (A.deeper (envOfC "look_same" (defScope s_look_same) s.heap.objs.size f cdv))) :
    VSs ⟨r, C⟩ (WOf E) Z H (cxOf (L2.CX P w) P w K mg base N_look_same "look_same" (defScope s_look_same) f cdv A outer s H E) (defBody s_look_same) B_look_same :=
  (vss_one (vs_if (te_cmp (o_ne hr.units) (ve_b1 c_len (gl_ (by kernel_rfl)) bi.len bt_len (be_var rfl (.inl (by kernel_rfl)))) (ve_b1 c_len (gl_ (by kernel_rfl)) bi.len bt_len (be_var rfl (.inl (by kernel_rfl))))) (vss_one vs_never) vss_nil))
theorem Fd_look_same (bi : Bi mg)  (F : ∃ f fd, FunD K "look_same" "look_same" (defArgs s_look_same) (defBody s_look_same) (defScope s_look_same) [] [] f fd ∧ mg "look_same" = some (.ref f)) : Fd P w K mg base C "look_same" false 2 1 D_look_same :=
  let ⟨f, fd, h, gm⟩ := F; fd_of h gm sc_look_same (h.bindsN fun _ _ _ _ _ _ us hl => match us, hl with | [_, _], _ => rfl) rfl rfl fun r cdv A outer s Z H E hu1 hr => V_look_same bi  r f cdv A outer s Z H E hr
/-! crossing -/
abbrev N_crossing : List PySem.Str := ["known", "place", "pair", "other"]
def B_crossing : Ev.Env → R Flw :=
  (sCons (sFor (.tup [1, 2]) (iEnu (aCons (eVar 0) aNil)) (sFor (.one 3) (iAny (eSl (bVar 0) (pAt (eBin addD (eVar 1) (eC (.int 1)))) pNo)) (sIf (eT (eCall D_cross (aCons (eVar 2) (aCons (eVar 3) aNil)))) (sRet (eTup (aCons (eUn tupD (bVar 2)) (aCons (eUn tupD (bVar 3)) aNil)))) sNil)))
  (sRet (eC .none)))
def D_crossing : List D → R D := fnD 1 3 B_crossing
theorem sc_crossing : FnScope N_crossing ["known"] (defScope s_crossing) := ⟨rfl, rfl, rfl, by decide +kernel, rfl, by decide +kernel, by decide +kernel⟩
theorem V_crossing (bi : Bi mg) (F_cross : Fd P w K mg base C "cross" false 2 1 D_cross) (r : Option Addr) (f : Addr) (cdv : Value) (A : Around) (outer : List PySem.Env) (s : Shared) (Z H : Hp) (E : XK) (hr : Room 1 (A.deeper (envOfC "crossing" (defScope s_crossing) s.heap.objs.size f cdv))) :
    VSs ⟨r, C⟩ (WOf E) Z H (cxOf (L2.CX P w) P w K mg base N_crossing "crossing" (defScope s_crossing) f cdv A outer s H E) (defBody s_crossing) B_crossing :=
  (vss_cons (vs_for passesC rfl (ie_enum (gl_ (by kernel_rfl)) bi.enumerate (ae_cons (ve_var rfl (.inl (by kernel_rfl))) ae_nil)) (tg_tup rfl (tgs_cons sc_crossing.nd rfl (.inl (by kernel_rfl)) (tgs_cons sc_crossing.nd rfl (.inl (by kernel_rfl)) tgs_nil))) (vss_one (vs_for passesC rfl (ie_any (ve_slice (be_var rfl (.inl (by kernel_rfl))) (oe_at (ve_bin o_add (ve_var rfl (.inl (by kernel_rfl))) ve_int)) oe_no)) (tg_one sc_crossing.nd rfl (.inl (by kernel_rfl))) (vss_one (vs_if (te_val (ve_call F_cross hr takesC (gl_ (by kernel_rfl)) (ae_cons (ve_var rfl (.inl (by kernel_rfl))) (ae_cons (ve_var rfl (.inl (by kernel_rfl))) ae_nil)))) (vss_one (vs_ret (ve_tup (ae_cons (ve_t1 c_tup (gl_ (by kernel_rfl)) bi.tuple bt_tuple (be_var rfl (.inl (by kernel_rfl)))) (ae_cons (ve_t1 c_tup (gl_ (by kernel_rfl)) bi.tuple bt_tuple (be_var rfl (.inl (by kernel_rfl)))) ae_nil))))) vss_nil)))))
  (vss_one (vs_ret ve_non)))
theorem Fd_crossing (bi : Bi mg) (F_cross : Fd P w K mg base C "cross" false 2 1 D_cross) (F : ∃ f fd, FunD K "crossing" "crossing" (defArgs s_crossing) (defBody s_crossing) (defScope s_crossing) [] [] f fd ∧ mg "crossing" = some (.ref f)) : Fd P w K mg base C "crossing" false 1 2 D_crossing :=
  let ⟨f, fd, h, gm⟩ := F; fd_of h gm sc_crossing (h.bindsN fun _ _ _ _ _ _ us hl => match us, hl with | [_], _ => rfl) rfl rfl fun r cdv A outer s Z H E hu1 hr => V_crossing bi F_cross r f cdv A outer s Z H E hr
/-! home -/
abbrev N_home : List PySem.Str := ["known", "person", "found", "one", "other"]
def B_home : Ev.Env → R Flw :=
  (sCons (sAsg 2 (eC .none))
  (sCons (sFor (.tup [3, 4]) (iAny (eVar 0)) (sIf (tAnd (eT (eChain ltOp ltOp (eVar 3) (eVar 1) (eVar 4))) (tOr (eT (eIsN (eVar 2))) (eT (eBin ltOp (eBin subD (eVar 4) (eVar 3)) (eBin subD (eBin ixD (bVar 2) (eC (.int 1))) (eBin ixD (bVar 2) (eC (.int 0)))))))) (sAsg 2 (eTup (aCons (eVar 3) (aCons (eVar 4) aNil)))) sNil))
  (sRet (eVar 2))))
def D_home : List D → R D := fnD 2 3 B_home
theorem sc_home : FnScope N_home ["known", "person"] (defScope s_home) := ⟨rfl, rfl, rfl, by decide +kernel, rfl, by decide +kernel, by decide +kernel⟩
theorem V_home (bi : Bi mg)  (r : Option Addr) (f : Addr) (cdv : Value) (A : Around) (outer : List PySem.Env) (s : Shared) (Z H : Hp) (E : XK) (hr : Room 0 (A.deeper (envOfC "home" (defScope s_home) s.heap.objs.size f cdv))) :
    VSs ⟨r, C⟩ (WOf E) Z H (cxOf (L2.CX P w) P w K mg base N_home "home" (defScope s_home) f cdv A outer s H E) (defBody s_home) B_home :=
  (vss_cons (vs_asg sc_home.nd rfl (.inl (by kernel_rfl)) ve_non)
  (vss_cons (vs_for passesC rfl (ie_any (ve_var rfl (.inl (by kernel_rfl)))) (tg_tup rfl (tgs_cons sc_home.nd rfl (.inl (by kernel_rfl)) (tgs_cons sc_home.nd rfl (.inl (by kernel_rfl)) tgs_nil))) (vss_one (vs_if (te_w (we_and (te_chain o_lt o_lt (ve_var rfl (.inl (by kernel_rfl))) (ve_var rfl (.inl (by kernel_rfl))) (ve_var rfl (.inl (by kernel_rfl)))) (we_and1 (te_w (we_or (te_isN (ve_var rfl (.inl (by kernel_rfl)))) (we_or1 (te_cmp o_lt (ve_bin o_sub (ve_var rfl (.inl (by kernel_rfl))) (ve_var rfl (.inl (by kernel_rfl)))) (ve_bin o_sub (ve_ix (be_var rfl (.inl (by kernel_rfl))) ve_int) (ve_ix (be_var rfl (.inl (by kernel_rfl))) ve_int))))))))) (vss_one (vs_asg sc_home.nd rfl (.inl (by kernel_rfl)) (ve_tup (ae_cons (ve_var rfl (.inl (by kernel_rfl))) (ae_cons (ve_var rfl (.inl (by kernel_rfl))) ae_nil))))) vss_nil)))
  (vss_one (vs_ret (ve_var rfl (.inl (by kernel_rfl)))))))
theorem Fd_home (bi : Bi mg)  (F : ∃ f fd, FunD K "home" "home" (defArgs s_home) (defBody s_home) (defScope s_home) [] [] f fd ∧ mg "home" = some (.ref f)) : Fd P w K mg base C "home" false 2 1 D_home :=
  let ⟨f, fd, h, gm⟩ := F; fd_of h gm sc_home (h.bindsN fun _ _ _ _ _ _ us hl => match us, hl with | [_, _], _ => rfl) rfl rfl fun r cdv A outer s Z H E hu1 hr => V_home bi  r f cdv A outer s Z H E hr
/-! free_groups -/
abbrev N_free_groups : List PySem.Str := ["people", "known", "busy", "found", "person", "key", "pair"]
def B_free_groups : Ev.Env → R Flw :=
  (sCons (sPar [2, 3] (pV (eN (nLc2 [6, 4] [4] (.one 6) (iAny (eVar 1)) cYes (.one 4) (iAny (eVar 6)) cYes (eVar 4))) (pO oDict pNil)))
  (sCons (sFor (.one 4) (iRng rng1 (aCons (eVar 0) aNil)) (sIf (eT (eBin ninOp (eVar 4) (bVar 2))) (sCons (sAsg 5 (eCall D_home (aCons (eVar 1) (aCons (eVar 4) aNil))))
  (sDSet 3 (eVar 5) (eBin addD (eDGet 3 (eVar 5) (eTup aNil)) (eTup (aCons (eVar 4) aNil))))) sNil))
  (sRet (eN (nSortV 3)))))
def D_free_groups : List D → R D := fnD 2 5 B_free_groups
theorem sc_free_groups : FnScope N_free_groups ["people", "known"] (defScope s_free_groups) := ⟨rfl, rfl, rfl, by decide +kernel, rfl, by decide +kernel, by decide +kernel⟩
theorem V_free_groups (bi : Bi mg) (F_home : Fd P w K mg base C "home" false 2 1 D_home) (r : Option Addr) (f : Addr) (cdv : Value) (A : Around) (outer : List PySem.Env) (s : Shared) (Z H : Hp) (E : XK) (hr : Room 1 (A.deeper (envOfC "free_groups" (defScope s_free_groups) s.heap.objs.size f cdv))) :
    VSs ⟨r, C⟩ (WOf E) Z H (cxOf (L2.CX P w) P w K mg base N_free_groups "free_groups" (defScope s_free_groups) f cdv A outer s H E) (defBody s_free_groups) B_free_groups :=
  (vss_cons (vs_par2 rfl sc_free_groups.nd rfl rfl (by kernel_rfl) (by kernel_rfl) (ap_v (ve_n (ne_lc2 rfl sc_free_groups.nd (ie_any (ve_var rfl (.inl (by kernel_rfl)))) (own := [("pair", 6), ("person", 4)]) (blk_of (by kernel_rfl)) (vs1 := [4]) rfl (fun _ _ _ _ _ => (tg_one sc_free_groups.nd rfl (.inl (by kernel_rfl)) (hf := .inr (by kernel_rfl)))) (fun _ _ _ _ _ => pts_yes) (fun _ _ _ _ _ => (ie_any (ve_var rfl (.inl (by kernel_rfl))))) (fun _ _ _ _ _ => (tg_one sc_free_groups.nd rfl (.inl (by kernel_rfl)) (hf := .inr (by kernel_rfl)))) (fun _ _ _ _ _ => pts_yes) (fun _ _ _ _ _ => (ve_var rfl (.inl (by kernel_rfl)))))) (ap_o noe_dict ap_nil)) (by kernel_rfl))
  (vss_cons (vs_for passesC rfl (ie_rng1 (gl_ (by kernel_rfl)) bi.range (ae_cons (ve_var rfl (.inl (by kernel_rfl))) ae_nil)) (tg_one sc_free_groups.nd rfl (.inl (by kernel_rfl))) (vss_one (vs_if (te_nin (hu hr) (ve_var rfl (.inl (by kernel_rfl))) (be_var rfl (.inl (by kernel_rfl)))) (vss_cons (vs_asg sc_free_groups.nd rfl (.inl (by kernel_rfl)) (ve_call F_home hr takesC (gl_ (by kernel_rfl)) (ae_cons (ve_var rfl (.inl (by kernel_rfl))) (ae_cons (ve_var rfl (.inl (by kernel_rfl))) ae_nil))))
  (vss_one (vs_dset (hu hr) rfl (.inl (by kernel_rfl)) (ve_var rfl (.inl (by kernel_rfl))) (ve_bin o_add (ve_dget (hu hr) rfl (.inl (by kernel_rfl)) (ve_var rfl (.inl (by kernel_rfl))) (ve_tup ae_nil) ⟨rfl, rfl, rfl, rfl⟩) (ve_tup (ae_cons (ve_var rfl (.inl (by kernel_rfl))) ae_nil)))))) vss_nil)))
  (vss_one (vs_ret (ve_n (ne_sortV rfl (hu66 hr) (gl_ (by kernel_rfl)) bi.sorted rfl (.inl (by kernel_rfl))))))))
theorem Fd_free_groups (bi : Bi mg) (F_home : Fd P w K mg base C "home" false 2 1 D_home) (F : ∃ f fd, FunD K "free_groups" "free_groups" (defArgs s_free_groups) (defBody s_free_groups) (defScope s_free_groups) [] [] f fd ∧ mg "free_groups" = some (.ref f)) : Fd P w K mg base C "free_groups" false 2 2 D_free_groups :=
  let ⟨f, fd, h, gm⟩ := F; fd_of h gm sc_free_groups (h.bindsN fun _ _ _ _ _ _ us hl => match us, hl with | [_, _], _ => rfl) rfl rfl fun r cdv A outer s Z H E hu1 hr => V_free_groups bi F_home r f cdv A outer s Z H E hr
/-! evidence -/
abbrev N_evidence : List PySem.Str := ["people", "known", "crossed", "group"]
def B_evidence : Ev.Env → R Flw :=
  (sCons (sAsg 2 (eCall D_crossing (aCons (eVar 1) aNil)))
  (sCons (sIf (eT (eNotN (eVar 2))) (sRet (eBin addD (eTup (aCons (eC (.str "cross")) aNil)) (eVar 2))) sNil)
  (sCons (sFor (.one 3) (iAny (eCall D_free_groups (aCons (eVar 0) (aCons (eVar 1) aNil)))) (sIf (eT (eBin eqOp (eBin modD (eUn lenD (bVar 3)) (eC (.int 2))) (eC (.int 1)))) (sRet (eTup (aCons (eC (.str "odd")) (aCons (eVar 3) aNil)))) sNil))
  (sRet (eC .none)))))
def D_evidence : List D → R D := fnD 2 2 B_evidence
theorem sc_evidence : FnScope N_evidence ["people", "known"] (defScope s_evidence) := ⟨rfl, rfl, rfl, by decide +kernel, rfl, by decide +kernel, by decide +kernel⟩
theorem V_evidence (bi : Bi mg) (F_crossing : Fd P w K mg base C "crossing" false 1 2 D_crossing) (F_free_groups : Fd P w K mg base C "free_groups" false 2 2 D_free_groups) (r : Option Addr) (f : Addr) (cdv : Value) (A : Around) (outer : List PySem.Env) (s : Shared) (Z H : Hp) (E : XK) (hr : Room 2 (A.deeper (envOfC "evidence" (defScope s_evidence) s.heap.objs.size f cdv))) :
    VSs ⟨r, C⟩ (WOf E) Z H (cxOf (L2.CX P w) P w K mg base N_evidence "evidence" (defScope s_evidence) f cdv A outer s H E) (defBody s_evidence) B_evidence :=
  (vss_cons (vs_asg sc_evidence.nd rfl (.inl (by kernel_rfl)) (ve_call F_crossing hr takesC (gl_ (by kernel_rfl)) (ae_cons (ve_var rfl (.inl (by kernel_rfl))) ae_nil)))
  (vss_cons (vs_if (te_notN (ve_var rfl (.inl (by kernel_rfl)))) (vss_one (vs_ret (ve_bin o_add (ve_tup (ae_cons ve_str ae_nil)) (ve_var rfl (.inl (by kernel_rfl)))))) vss_nil)
  (vss_cons (vs_for passesC rfl (ie_any (ve_call F_free_groups hr takesC (gl_ (by kernel_rfl)) (ae_cons (ve_var rfl (.inl (by kernel_rfl))) (ae_cons (ve_var rfl (.inl (by kernel_rfl))) ae_nil)))) (tg_one sc_evidence.nd rfl (.inl (by kernel_rfl))) (vss_one (vs_if (te_cmp (o_eq hr.units) (ve_bin o_mod (ve_b1 c_len (gl_ (by kernel_rfl)) bi.len bt_len (be_var rfl (.inl (by kernel_rfl)))) ve_int) ve_int) (vss_one (vs_ret (ve_tup (ae_cons ve_str (ae_cons (ve_var rfl (.inl (by kernel_rfl))) ae_nil))))) vss_nil)))
  (vss_one (vs_ret ve_non)))))
theorem Fd_evidence (bi : Bi mg) (F_crossing : Fd P w K mg base C "crossing" false 1 2 D_crossing) (F_free_groups : Fd P w K mg base C "free_groups" false 2 2 D_free_groups) (F : ∃ f fd, FunD K "evidence" "evidence" (defArgs s_evidence) (defBody s_evidence) (defScope s_evidence) [] [] f fd ∧ mg "evidence" = some (.ref f)) : Fd P w K mg base C "evidence" false 2 3 D_evidence :=
  let ⟨f, fd, h, gm⟩ := F; fd_of h gm sc_evidence (h.bindsN fun _ _ _ _ _ _ us hl => match us, hl with | [_, _], _ => rfl) rfl rfl fun r cdv A outer s Z H E hu1 hr => V_evidence bi F_crossing F_free_groups r f cdv A outer s Z H E hr
/-! catalan -/
abbrev N_catalan : List PySem.Str := ["pairs", "found", "number"]
def B_catalan : Ev.Env → R Flw :=
  (sCons (sAsg 1 (eC (.int 1)))
  (sCons (sFor (.one 2) (iRng rng1 (aCons (eVar 0) aNil)) (sAsg 1 (eBin divD (eBin mulD (eBin mulD (eVar 1) (eC (.int 2))) (eBin addD (eBin mulD (eC (.int 2)) (eVar 2)) (eC (.int 1)))) (eBin addD (eVar 2) (eC (.int 2))))))
  (sRet (eVar 1))))
def D_catalan : List D → R D := fnD 1 2 B_catalan
theorem sc_catalan : FnScope N_catalan ["pairs"] (defScope s_catalan) := ⟨rfl, rfl, rfl, by decide +kernel, rfl, by decide +kernel, by decide +kernel⟩
theorem V_catalan (bi : Bi mg)  (r : Option Addr) (f : Addr) (cdv : Value) (A : Around) (outer : List PySem.Env) (s : Shared) (Z H : Hp) (E : XK) (hr : Room 0 (A.deeper (envOfC "catalan" (defScope s_catalan) s.heap.objs.size f cdv))) :
    VSs ⟨r, C⟩ (WOf E) Z H (cxOf (L2.CX P w) P w K mg base N_catalan "catalan" (defScope s_catalan) f cdv A outer s H E) (defBody s_catalan) B_catalan :=
  (vss_cons (vs_asg sc_catalan.nd rfl (.inl (by kernel_rfl)) ve_int)
  (vss_cons (vs_for passesC rfl (ie_rng1 (gl_ (by kernel_rfl)) bi.range (ae_cons (ve_var rfl (.inl (by kernel_rfl))) ae_nil)) (tg_one sc_catalan.nd rfl (.inl (by kernel_rfl))) (vss_one (vs_asg sc_catalan.nd rfl (.inl (by kernel_rfl)) (ve_bin o_div (ve_bin o_mul (ve_bin o_mul (ve_var rfl (.inl (by kernel_rfl))) ve_int) (ve_bin o_add (ve_bin o_mul ve_int (ve_var rfl (.inl (by kernel_rfl)))) ve_int)) (ve_bin o_add (ve_var rfl (.inl (by kernel_rfl))) ve_int)))))
  (vss_one (vs_ret (ve_var rfl (.inl (by kernel_rfl)))))))
theorem Fd_catalan (bi : Bi mg)  (F : ∃ f fd, FunD K "catalan" "catalan" (defArgs s_catalan) (defBody s_catalan) (defScope s_catalan) [] [] f fd ∧ mg "catalan" = some (.ref f)) : Fd P w K mg base C "catalan" false 1 1 D_catalan :=
  let ⟨f, fd, h, gm⟩ := F; fd_of h gm sc_catalan (h.bindsN fun _ _ _ _ _ _ us hl => match us, hl with | [_], _ => rfl) rfl rfl fun r cdv A outer s Z H E hu1 hr => V_catalan bi  r f cdv A outer s Z H E hr
/-! many -/
abbrev N_many : List PySem.Str := ["people", "known", "found", "group"]
def B_many : Ev.Env → R Flw :=
  (sCons (sIf (eT (eNotN (eCall D_evidence (aCons (eVar 0) (aCons (eVar 1) aNil))))) (sRet (eC (.int 0))) sNil)
  (sCons (sAsg 2 (eC (.int 1)))
  (sCons (sFor (.one 3) (iAny (eCall D_free_groups (aCons (eVar 0) (aCons (eVar 1) aNil)))) (sAug 2 imulD (eCall D_catalan (aCons (eBin divD (eUn lenD (bVar 3)) (eC (.int 2))) aNil))))
  (sRet (eVar 2)))))
def D_many : List D → R D := fnD 2 2 B_many
theorem sc_many : FnScope N_many ["people", "known"] (defScope s_many) := ⟨rfl, rfl, rfl, by decide +kernel, rfl, by decide +kernel, by decide +kernel⟩
theorem V_many (bi : Bi mg) (F_evidence : Fd P w K mg base C "evidence" false 2 3 D_evidence) (F_free_groups : Fd P w K mg base C "free_groups" false 2 2 D_free_groups) (F_catalan : Fd P w K mg base C "catalan" false 1 1 D_catalan) (r : Option Addr) (f : Addr) (cdv : Value) (A : Around) (outer : List PySem.Env) (s : Shared) (Z H : Hp) (E : XK) (hr : Room 3 (A.deeper (envOfC "many" (defScope s_many) s.heap.objs.size f cdv))) :
    VSs ⟨r, C⟩ (WOf E) Z H (cxOf (L2.CX P w) P w K mg base N_many "many" (defScope s_many) f cdv A outer s H E) (defBody s_many) B_many :=
  (vss_cons (vs_if (te_notN (ve_call F_evidence hr takesC (gl_ (by kernel_rfl)) (ae_cons (ve_var rfl (.inl (by kernel_rfl))) (ae_cons (ve_var rfl (.inl (by kernel_rfl))) ae_nil)))) (vss_one (vs_ret ve_int)) vss_nil)
  (vss_cons (vs_asg sc_many.nd rfl (.inl (by kernel_rfl)) ve_int)
  (vss_cons (vs_for passesC rfl (ie_any (ve_call F_free_groups hr takesC (gl_ (by kernel_rfl)) (ae_cons (ve_var rfl (.inl (by kernel_rfl))) (ae_cons (ve_var rfl (.inl (by kernel_rfl))) ae_nil)))) (tg_one sc_many.nd rfl (.inl (by kernel_rfl))) (vss_one (vs_aug sc_many.nd rfl (.inl (by kernel_rfl)) (ve_call F_catalan hr takesC (gl_ (by kernel_rfl)) (ae_cons (ve_bin o_div (ve_b1 c_len (gl_ (by kernel_rfl)) bi.len bt_len (be_var rfl (.inl (by kernel_rfl)))) ve_int) ae_nil)) io_mul)))
  (vss_one (vs_ret (ve_var rfl (.inl (by kernel_rfl))))))))
theorem Fd_many (bi : Bi mg) (F_evidence : Fd P w K mg base C "evidence" false 2 3 D_evidence) (F_free_groups : Fd P w K mg base C "free_groups" false 2 2 D_free_groups) (F_catalan : Fd P w K mg base C "catalan" false 1 1 D_catalan) (F : ∃ f fd, FunD K "many" "many" (defArgs s_many) (defBody s_many) (defScope s_many) [] [] f fd ∧ mg "many" = some (.ref f)) : Fd P w K mg base C "many" false 2 4 D_many :=
  let ⟨f, fd, h, gm⟩ := F; fd_of h gm sc_many (h.bindsN fun _ _ _ _ _ _ us hl => match us, hl with | [_, _], _ => rfl) rfl rfl fun r cdv A outer s Z H E hu1 hr => V_many bi F_evidence F_free_groups F_catalan r f cdv A outer s Z H E hr
/-! with_pair -/
abbrev N_with_pair : List PySem.Str := ["known", "one", "other", "pair"]
def B_with_pair : Ev.Env → R Flw :=
  (sRet (eUn tupD (eN (nUn sortD (eBin addD (eN (nLc [3] (.one 3) (iAny (eVar 0)) cYes (eUn tupD (bVar 3)))) (eN (nLst (aCons (eTup (aCons (eOps min2D (aCons (eVar 1) (aCons (eVar 2) aNil))) (aCons (eOps max2D (aCons (eVar 1) (aCons (eVar 2) aNil))) aNil))) aNil))))))))
def D_with_pair : List D → R D := fnD 3 1 B_with_pair
theorem sc_with_pair : FnScope N_with_pair ["known", "one", "other"] (defScope s_with_pair) := ⟨rfl, rfl, rfl, by decide +kernel, rfl, by decide +kernel, by decide +kernel⟩
theorem V_with_pair (bi : Bi mg)  (r : Option Addr) (f : Addr) (cdv : Value) (A : Around) (outer : List PySem.Env) (s : Shared) (Z H : Hp) (E : XK) (hr : Room 0 (A.deeper (envOfC "with_pair" (defScope s_with_pair) s.heap.objs.size f cdv))) :
    VSs ⟨r, C⟩ (WOf E) Z H (cxOf (L2.CX P w) P w K mg base N_with_pair "with_pair" (defScope s_with_pair) f cdv A outer s H E) (defBody s_with_pair) B_with_pair :=
  (vss_one (vs_ret (ve_t1 c_tup (gl_ (by kernel_rfl)) bi.tuple bt_tuple (be_ve (ve_n (ne_b1 (c_sorted (hu hr)) (gl_ (by kernel_rfl)) bi.sorted bt_sorted (be_ve (ve_bin o_add (ve_n (ne_lc rfl sc_with_pair.nd (ie_any (ve_var rfl (.inl (by kernel_rfl)))) (own := [("pair", 3)]) (blk_of (by kernel_rfl)) (fun _ _ _ _ _ => (tg_one sc_with_pair.nd rfl (.inl (by kernel_rfl)) (hf := .inr (by kernel_rfl)))) (fun _ _ _ _ _ => pts_yes) (fun _ _ _ _ _ => (ve_t1 c_tup (gl_ (by kernel_rfl)) bi.tuple bt_tuple (be_var rfl (.inl (by kernel_rfl))))))) (ve_n (ne_lst (ae_cons (ve_tup (ae_cons (ve_bs (c_min2 rfl) (gl_ (by kernel_rfl)) bi.min bt_min (ae_cons (ve_var rfl (.inl (by kernel_rfl))) (ae_cons (ve_var rfl (.inl (by kernel_rfl))) ae_nil))) (ae_cons (ve_bs (c_max2 rfl) (gl_ (by kernel_rfl)) bi.max bt_max (ae_cons (ve_var rfl (.inl (by kernel_rfl))) (ae_cons (ve_var rfl (.inl (by kernel_rfl))) ae_nil))) ae_nil))) ae_nil)))))))))))
theorem Fd_with_pair (bi : Bi mg)  (F : ∃ f fd, FunD K "with_pair" "with_pair" (defArgs s_with_pair) (defBody s_with_pair) (defScope s_with_pair) [] [] f fd ∧ mg "with_pair" = some (.ref f)) : Fd P w K mg base C "with_pair" false 3 1 D_with_pair :=
  let ⟨f, fd, h, gm⟩ := F; fd_of h gm sc_with_pair (h.bindsN fun _ _ _ _ _ _ us hl => match us, hl with | [_, _, _], _ => rfl) rfl rfl fun r cdv A outer s Z H E hu1 hr => V_with_pair bi  r f cdv A outer s Z H E hr
/-! busy_people -/
abbrev N_busy_people : List PySem.Str := ["known", "pair", "person"]
def B_busy_people : Ev.Env → R Flw :=
  (sRet (eN (nLc2 [1, 2] [2] (.one 1) (iAny (eVar 0)) cYes (.one 2) (iAny (eVar 1)) cYes (eVar 2))))
def D_busy_people : List D → R D := fnD 1 2 B_busy_people
theorem sc_busy_people : FnScope N_busy_people ["known"] (defScope s_busy_people) := ⟨rfl, rfl, rfl, by decide +kernel, rfl, by decide +kernel, by decide +kernel⟩
theorem V_busy_people (bi : Bi mg)  (r : Option Addr) (f : Addr) (cdv : Value) (A : Around) (outer : List PySem.Env) (s : Shared) (Z H : Hp) (E : XK) (hr : Room 0 (A.deeper (envOfC "busy_people" (defScope s_busy_people) s.heap.objs.size f cdv))) :
    VSs ⟨r, C⟩ (WOf E) Z H (cxOf (L2.CX P w) P w K mg base N_busy_people "busy_people" (defScope s_busy_people) f cdv A outer s H E) (defBody s_busy_people) B_busy_people :=
  (vss_one (vs_ret (ve_n (ne_lc2 rfl sc_busy_people.nd (ie_any (ve_var rfl (.inl (by kernel_rfl)))) (own := [("pair", 1), ("person", 2)]) (blk_of (by kernel_rfl)) (vs1 := [2]) rfl (fun _ _ _ _ _ => (tg_one sc_busy_people.nd rfl (.inl (by kernel_rfl)) (hf := .inr (by kernel_rfl)))) (fun _ _ _ _ _ => pts_yes) (fun _ _ _ _ _ => (ie_any (ve_var rfl (.inl (by kernel_rfl))))) (fun _ _ _ _ _ => (tg_one sc_busy_people.nd rfl (.inl (by kernel_rfl)) (hf := .inr (by kernel_rfl)))) (fun _ _ _ _ _ => pts_yes) (fun _ _ _ _ _ => (ve_var rfl (.inl (by kernel_rfl))))))))
theorem Fd_busy_people (bi : Bi mg)  (F : ∃ f fd, FunD K "busy_people" "busy_people" (defArgs s_busy_people) (defBody s_busy_people) (defScope s_busy_people) [] [] f fd ∧ mg "busy_people" = some (.ref f)) : Fd P w K mg base C "busy_people" false 1 1 D_busy_people :=
  let ⟨f, fd, h, gm⟩ := F; fd_of h gm sc_busy_people (h.bindsN fun _ _ _ _ _ _ us hl => match us, hl with | [_], _ => rfl) rfl rfl fun r cdv A outer s Z H E hu1 hr => V_busy_people bi  r f cdv A outer s Z H E hr
/-! choices -/
abbrev N_choices : List PySem.Str := ["people", "known", "person", "free", "other"]
def B_choices : Ev.Env → R Flw :=
  (sCons (sFzA [3] (sNew 3 (nLc [4] (.one 4) (iRng rng2 (aCons (eBin addD (eVar 2) (eC (.int 1))) (aCons (eVar 0) aNil))) (eT (eBin ninOp (eVar 4) (eCall D_busy_people (aCons (eVar 1) aNil)))) (eVar 4))))
  (sRet (eN (nLc [4] (.one 4) (iAny (eVar 3)) cYes (eTup (aCons (eVar 4) (aCons (eCall D_many (aCons (eVar 0) (aCons (eCall D_with_pair (aCons (eVar 1) (aCons (eVar 2) (aCons (eVar 4) aNil)))) aNil))) aNil)))))))
def D_choices : List D → R D := fnD 3 2 B_choices
theorem sc_choices : FnScope N_choices ["people", "known", "person"] (defScope s_choices) := ⟨rfl, rfl, rfl, by decide +kernel, rfl, by decide +kernel, by decide +kernel⟩
theorem V_choices (bi : Bi mg) (F_busy_people : Fd P w K mg base C "busy_people" false 1 1 D_busy_people) (F_many : Fd P w K mg base C "many" false 2 4 D_many) (F_with_pair : Fd P w K mg base C "with_pair" false 3 1 D_with_pair) (r : Option Addr) (f : Addr) (cdv : Value) (A : Around) (outer : List PySem.Env) (s : Shared) (Z H : Hp) (E : XK) (hr : Room 4 (A.deeper (envOfC "choices" (defScope s_choices) s.heap.objs.size f cdv))) :
    VSs ⟨r, C⟩ (WOf E) Z H (cxOf (L2.CX P w) P w K mg base N_choices "choices" (defScope s_choices) f cdv A outer s H E) (defBody s_choices) B_choices :=
  (vss_cons (vs_frzA [3] (vs_lcNew rfl sc_choices.nd rfl (by kernel_rfl) (by kernel_rfl) (ie_rng2 (gl_ (by kernel_rfl)) bi.range (ae_cons (ve_bin o_add (ve_var rfl (.inr (.inl (by kernel_rfl)))) ve_int) (ae_cons (ve_var rfl (.inr (.inl (by kernel_rfl)))) ae_nil))) (own := [("other", 4)]) (blk_of (by kernel_rfl)) (fun _ _ _ _ _ => (tg_one sc_choices.nd rfl (.inl (by kernel_rfl)) (hf := .inr (by kernel_rfl)))) (fun _ _ _ _ _ => (pts_if (te_nin (hu hr) (ve_var rfl (.inl (by kernel_rfl))) (be_ve (ve_call F_busy_people hr takesB (gl_ (by kernel_rfl)) (ae_cons (ve_var rfl (.inr (.inl (by kernel_rfl)))) ae_nil)))))) (fun _ _ _ _ _ => (ve_var rfl (.inl (by kernel_rfl))))))
  (vss_one (vs_ret (ve_n (ne_lc rfl sc_choices.nd (ie_any (ve_var rfl (.inl (by kernel_rfl)))) (own := [("other", 4)]) (blk_of (by kernel_rfl)) (fun _ _ _ _ _ => (tg_one sc_choices.nd rfl (.inl (by kernel_rfl)) (hf := .inr (by kernel_rfl)))) (fun _ _ _ _ _ => pts_yes) (fun _ _ _ _ _ => (ve_tup (ae_cons (ve_var rfl (.inl (by kernel_rfl))) (ae_cons (ve_call F_many hr takesB (gl_ (by kernel_rfl)) (ae_cons (ve_var rfl (.inr (.inl (by kernel_rfl)))) (ae_cons (ve_call F_with_pair hr takesB (gl_ (by kernel_rfl)) (ae_cons (ve_var rfl (.inr (.inl (by kernel_rfl)))) (ae_cons (ve_var rfl (.inr (.inl (by kernel_rfl)))) (ae_cons (ve_var rfl (.inl (by kernel_rfl))) ae_nil)))) ae_nil))) ae_nil)))))))))
theorem Fd_choices (bi : Bi mg) (F_busy_people : Fd P w K mg base C "busy_people" false 1 1 D_busy_people) (F_many : Fd P w K mg base C "many" false 2 4 D_many) (F_with_pair : Fd P w K mg base C "with_pair" false 3 1 D_with_pair) (F : ∃ f fd, FunD K "choices" "choices" (defArgs s_choices) (defBody s_choices) (defScope s_choices) [] [] f fd ∧ mg "choices" = some (.ref f)) : Fd P w K mg base C "choices" false 3 5 D_choices :=
  let ⟨f, fd, h, gm⟩ := F; fd_of h gm sc_choices (h.bindsN fun _ _ _ _ _ _ us hl => match us, hl with | [_, _, _], _ => rfl) rfl rfl fun r cdv A outer s Z H E hu1 hr => V_choices bi F_busy_people F_many F_with_pair r f cdv A outer s Z H E hr
/-! arrangement_at -/
abbrev N_arrangement_at : List PySem.Str := ["people", "known", "number", "pairs", "left", "person", "other", "ways", "found", "one"]
def B_arrangement_at : Ev.Env → R Flw :=
  (sCons (sIf (tNot (eT (eChain leOp ltOp (eC (.int 0)) (eVar 2) (eCall D_many (aCons (eVar 0) (aCons (eVar 1) aNil)))))) sNev sNil)
  (sCons (sPar [3, 4] (pV (eUn tupD (bVar 1)) (pV (eVar 2) pNil)))
  (sCons (sFor (.one 5) (iRng rng1 (aCons (eVar 0) aNil)) (sIf (eT (eBin ninOp (eVar 5) (eCall D_busy_people (aCons (eVar 3) aNil)))) (sFor (.tup [6, 7]) (iAny (eCall D_choices (aCons (eVar 0) (aCons (eVar 3) (aCons (eVar 5) aNil))))) (sCons (sIf (eT (eBin ltOp (eVar 4) (eVar 7))) (sCons (sAsg 3 (eCall D_with_pair (aCons (eVar 3) (aCons (eVar 5) (aCons (eVar 6) aNil)))))
  sBrk) sNil)
  (sAug 4 subD (eVar 7)))) sNil))
  (sCons (sNew 8 (nBin repD (eN (nLst (aCons (eC (.int 0)) aNil))) (eVar 0)))
  (sCons (sFor (.tup [9, 6]) (iAny (eVar 3)) (sAsT [.sub 8 (eVar 9), .sub 8 (eVar 6)] (aCons (eVar 6) (aCons (eVar 9) aNil))))
  (sRet (eUn tupD (bVar 8))))))))
def D_arrangement_at : List D → R D := fnD 3 7 B_arrangement_at
theorem sc_arrangement_at : FnScope N_arrangement_at ["people", "known", "number"] (defScope s_arrangement_at) := ⟨rfl, rfl, rfl, by decide +kernel, rfl, by decide +kernel, by decide +kernel⟩
theorem V_arrangement_at (bi : Bi mg) (F_many : Fd P w K mg base C "many" false 2 4 D_many) (F_busy_people : Fd P w K mg base C "busy_people" false 1 1 D_busy_people) (F_choices : Fd P w K mg base C "choices" false 3 5 D_choices) (F_with_pair : Fd P w K mg base C "with_pair" false 3 1 D_with_pair) (r : Option Addr) (f : Addr) (cdv : Value) (A : Around) (outer : List PySem.Env) (s : Shared) (Z H : Hp) (E : XK) (hr : Room 5 (A.deeper (envOfC "arrangement_at" (defScope s_arrangement_at) s.heap.objs.size f cdv))) :
    VSs ⟨r, C⟩ (WOf E) Z H (cxOf (L2.CX P w) P w K mg base N_arrangement_at "arrangement_at" (defScope s_arrangement_at) f cdv A outer s H E) (defBody s_arrangement_at) B_arrangement_at :=
  (vss_cons (vs_if (te_not (te_chain o_le o_lt ve_int (ve_var rfl (.inl (by kernel_rfl))) (ve_call F_many hr takesC (gl_ (by kernel_rfl)) (ae_cons (ve_var rfl (.inl (by kernel_rfl))) (ae_cons (ve_var rfl (.inl (by kernel_rfl))) ae_nil))))) (vss_one vs_never) vss_nil)
  (vss_cons (vs_par2 rfl sc_arrangement_at.nd rfl rfl (by kernel_rfl) (by kernel_rfl) (ap_v (ve_t1 c_tup (gl_ (by kernel_rfl)) bi.tuple bt_tuple (be_var rfl (.inl (by kernel_rfl)))) (ap_v (ve_var rfl (.inl (by kernel_rfl))) ap_nil)) (by kernel_rfl))
  (vss_cons (vs_for passesC rfl (ie_rng1 (gl_ (by kernel_rfl)) bi.range (ae_cons (ve_var rfl (.inl (by kernel_rfl))) ae_nil)) (tg_one sc_arrangement_at.nd rfl (.inl (by kernel_rfl))) (vss_one (vs_if (te_nin (hu hr) (ve_var rfl (.inl (by kernel_rfl))) (be_ve (ve_call F_busy_people hr takesC (gl_ (by kernel_rfl)) (ae_cons (ve_var rfl (.inl (by kernel_rfl))) ae_nil)))) (vss_one (vs_for passesC rfl (ie_any (ve_call F_choices hr takesC (gl_ (by kernel_rfl)) (ae_cons (ve_var rfl (.inl (by kernel_rfl))) (ae_cons (ve_var rfl (.inl (by kernel_rfl))) (ae_cons (ve_var rfl (.inl (by kernel_rfl))) ae_nil))))) (tg_tup rfl (tgs_cons sc_arrangement_at.nd rfl (.inl (by kernel_rfl)) (tgs_cons sc_arrangement_at.nd rfl (.inl (by kernel_rfl)) tgs_nil))) (vss_cons (vs_if (te_cmp o_lt (ve_var rfl (.inl (by kernel_rfl))) (ve_var rfl (.inl (by kernel_rfl)))) (vss_cons (vs_asg sc_arrangement_at.nd rfl (.inl (by kernel_rfl)) (ve_call F_with_pair hr takesC (gl_ (by kernel_rfl)) (ae_cons (ve_var rfl (.inl (by kernel_rfl))) (ae_cons (ve_var rfl (.inl (by kernel_rfl))) (ae_cons (ve_var rfl (.inl (by kernel_rfl))) ae_nil)))))
  (vss_one vs_break)) vss_nil)
  (vss_one (vs_aug sc_arrangement_at.nd rfl (.inl (by kernel_rfl)) (ve_var rfl (.inl (by kernel_rfl))) io_sub))))) vss_nil)))
  (vss_cons (vs_new sc_arrangement_at.nd rfl (.inl (by kernel_rfl)) (ne_bin n_mul (ve_n (ne_lst (ae_cons ve_int ae_nil))) (ve_var rfl (.inl (by kernel_rfl)))))
  (vss_cons (vs_for passesC rfl (ie_any (ve_var rfl (.inl (by kernel_rfl)))) (tg_tup rfl (tgs_cons sc_arrangement_at.nd rfl (.inl (by kernel_rfl)) (tgs_cons sc_arrangement_at.nd rfl (.inl (by kernel_rfl)) tgs_nil))) (vss_one (vs_asT rfl (ta_sub rfl (.inl (by kernel_rfl)) (ve_var rfl (.inl (by kernel_rfl))) (ta_sub rfl (.inl (by kernel_rfl)) (ve_var rfl (.inl (by kernel_rfl))) ta_nil)) (ae_cons (ve_var rfl (.inl (by kernel_rfl))) (ae_cons (ve_var rfl (.inl (by kernel_rfl))) ae_nil)))))
  (vss_one (vs_ret (ve_t1 c_tup (gl_ (by kernel_rfl)) bi.tuple bt_tuple (be_var rfl (.inl (by kernel_rfl)))))))))))
theorem Fd_arrangement_at (bi : Bi mg) (F_many : Fd P w K mg base C "many" false 2 4 D_many) (F_busy_people : Fd P w K mg base C "busy_people" false 1 1 D_busy_people) (F_choices : Fd P w K mg base C "choices" false 3 5 D_choices) (F_with_pair : Fd P w K mg base C "with_pair" false 3 1 D_with_pair) (F : ∃ f fd, FunD K "arrangement_at" "arrangement_at" (defArgs s_arrangement_at) (defBody s_arrangement_at) (defScope s_arrangement_at) [] [] f fd ∧ mg "arrangement_at" = some (.ref f)) : Fd P w K mg base C "arrangement_at" false 3 6 D_arrangement_at :=
  let ⟨f, fd, h, gm⟩ := F; fd_of h gm sc_arrangement_at (h.bindsN fun _ _ _ _ _ _ us hl => match us, hl with | [_, _, _], _ => rfl) rfl rfl fun r cdv A outer s Z H E hu1 hr => V_arrangement_at bi F_many F_busy_people F_choices F_with_pair r f cdv A outer s Z H E hr
/-! all_arrangements -/
abbrev N_all_arrangements : List PySem.Str := ["people", "known", "ways", "number"]
def B_all_arrangements : Ev.Env → R Flw :=
  (sCons (sAsg 2 (eCall D_many (aCons (eVar 0) (aCons (eVar 1) aNil))))
  (sCons (sIf (eT (eBin gtOp (eVar 2) (eC (.int (300))))) sNev sNil)
  (sRet (eN (nLc [3] (.one 3) (iRng rng1 (aCons (eVar 2) aNil)) cYes (eCall D_arrangement_at (aCons (eVar 0) (aCons (eVar 1) (aCons (eVar 3) aNil)))))))))
def D_all_arrangements : List D → R D := fnD 2 2 B_all_arrangements
theorem sc_all_arrangements : FnScope N_all_arrangements ["people", "known"] (defScope s_all_arrangements) := ⟨rfl, rfl, rfl, by decide +kernel, rfl, by decide +kernel, by decide +kernel⟩
theorem V_all_arrangements (bi : Bi mg) (F_many : Fd P w K mg base C "many" false 2 4 D_many) (F_arrangement_at : Fd P w K mg base C "arrangement_at" false 3 6 D_arrangement_at) (r : Option Addr) (f : Addr) (cdv : Value) (A : Around) (outer : List PySem.Env) (s : Shared) (Z H : Hp) (E : XK) (hr : Room 6 (A.deeper (envOfC "all_arrangements" (defScope s_all_arrangements) s.heap.objs.size f cdv))) :
    VSs ⟨r, C⟩ (WOf E) Z H (cxOf (L2.CX P w) P w K mg base N_all_arrangements "all_arrangements" (defScope s_all_arrangements) f cdv A outer s H E) (defBody s_all_arrangements) B_all_arrangements :=
  (vss_cons (vs_asg sc_all_arrangements.nd rfl (.inl (by kernel_rfl)) (ve_call F_many hr takesC (gl_ (by kernel_rfl)) (ae_cons (ve_var rfl (.inr (.inl (by kernel_rfl)))) (ae_cons (ve_var rfl (.inr (.inl (by kernel_rfl)))) ae_nil))))
  (vss_cons (vs_if (te_cmp o_gt (ve_var rfl (.inl (by kernel_rfl))) (ve_gint (gl_ (by kernel_rfl)) (bi.MOST))) (vss_one vs_never) vss_nil)
  (vss_one (vs_ret (ve_n (ne_lc rfl sc_all_arrangements.nd (ie_rng1 (gl_ (by kernel_rfl)) bi.range (ae_cons (ve_var rfl (.inl (by kernel_rfl))) ae_nil)) (own := [("number", 3)]) (blk_of (by kernel_rfl)) (fun _ _ _ _ _ => (tg_one sc_all_arrangements.nd rfl (.inl (by kernel_rfl)) (hf := .inr (by kernel_rfl)))) (fun _ _ _ _ _ => pts_yes) (fun _ _ _ _ _ => (ve_call F_arrangement_at hr takesB (gl_ (by kernel_rfl)) (ae_cons (ve_var rfl (.inr (.inl (by kernel_rfl)))) (ae_cons (ve_var rfl (.inr (.inl (by kernel_rfl)))) (ae_cons (ve_var rfl (.inl (by kernel_rfl))) ae_nil)))))))))))
theorem Fd_all_arrangements (bi : Bi mg) (F_many : Fd P w K mg base C "many" false 2 4 D_many) (F_arrangement_at : Fd P w K mg base C "arrangement_at" false 3 6 D_arrangement_at) (F : ∃ f fd, FunD K "all_arrangements" "all_arrangements" (defArgs s_all_arrangements) (defBody s_all_arrangements) (defScope s_all_arrangements) [] [] f fd ∧ mg "all_arrangements" = some (.ref f)) : Fd P w K mg base C "all_arrangements" false 2 7 D_all_arrangements :=
  let ⟨f, fd, h, gm⟩ := F; fd_of h gm sc_all_arrangements (h.bindsN fun _ _ _ _ _ _ us hl => match us, hl with | [_, _], _ => rfl) rfl rfl fun r cdv A outer s Z H E hu1 hr => V_all_arrangements bi F_many F_arrangement_at r f cdv A outer s Z H E hr
/-! gcd -/
abbrev N_gcd : List PySem.Str := ["one", "other"]
def B_gcd : Ev.Env → R Flw :=
  (sCons (whileL (eT (eBin gtOp (eVar 1) (eC (.int 0)))) (sPar [0, 1] (pV (eVar 1) (pV (eBin modD (eVar 0) (eVar 1)) pNil))) 64)
  (sRet (eVar 0)))
def D_gcd : List D → R D := fnD 2 0 B_gcd
theorem sc_gcd : FnScope N_gcd ["one", "other"] (defScope s_gcd) := ⟨rfl, rfl, rfl, by decide +kernel, rfl, by decide +kernel, by decide +kernel⟩
theorem V_gcd (bi : Bi mg)  (r : Option Addr) (f : Addr) (cdv : Value) (A : Around) (outer : List PySem.Env) (s : Shared) (Z H : Hp) (E : XK) (hr : Room 0 (A.deeper (envOfC "gcd" (defScope s_gcd) s.heap.objs.size f cdv))) :
    VSs ⟨r, C⟩ (WOf E) Z H (cxOf (L2.CX P w) P w K mg base N_gcd "gcd" (defScope s_gcd) f cdv A outer s H E) (defBody s_gcd) B_gcd :=
  (vss_cons (vs_while 64 passesC (te_cmp o_gt (ve_var rfl (.inl (by kernel_rfl))) ve_int) (vss_one (vs_par2 rfl sc_gcd.nd rfl rfl (by kernel_rfl) (by kernel_rfl) (ap_v (ve_var rfl (.inl (by kernel_rfl))) (ap_v (ve_bin o_mod (ve_var rfl (.inl (by kernel_rfl))) (ve_var rfl (.inl (by kernel_rfl)))) ap_nil)) (by kernel_rfl))))
  (vss_one (vs_ret (ve_var rfl (.inl (by kernel_rfl))))))
theorem Fd_gcd (bi : Bi mg)  (F : ∃ f fd, FunD K "gcd" "gcd" (defArgs s_gcd) (defBody s_gcd) (defScope s_gcd) [] [] f fd ∧ mg "gcd" = some (.ref f)) : Fd P w K mg base C "gcd" false 2 1 D_gcd :=
  let ⟨f, fd, h, gm⟩ := F; fd_of h gm sc_gcd (h.bindsN fun _ _ _ _ _ _ us hl => match us, hl with | [_, _], _ => rfl) rfl rfl fun r cdv A outer s Z H E hu1 hr => V_gcd bi  r f cdv A outer s Z H E hr
/-! turned -/
abbrev N_turned : List PySem.Str := ["arrangement", "seats", "found", "people", "person", "partner"]
def B_turned : Ev.Env → R Flw :=
  (sCons (sPar [2, 3] (pN (nUn seqOf (bVar 0)) (pV (eUn lenD (bVar 0)) pNil)))
  (sCons (sFor (.tup [4, 5]) (iEnu (aCons (eVar 0) aNil)) (sSet 2 (eBin modD (eBin addD (eVar 4) (eVar 1)) (eVar 3)) (eBin modD (eBin addD (eVar 5) (eVar 1)) (eVar 3))))
  (sRet (eUn tupD (bVar 2)))))
def D_turned : List D → R D := fnD 2 4 B_turned
theorem sc_turned : FnScope N_turned ["arrangement", "seats"] (defScope s_turned) := ⟨rfl, rfl, rfl, by decide +kernel, rfl, by decide +kernel, by decide +kernel⟩
theorem V_turned (bi : Bi mg)  (r : Option Addr) (f : Addr) (cdv : Value) (A : Around) (outer : List PySem.Env) (s : Shared) (Z H : Hp) (E : XK) (hr : Room 0 (A.deeper (envOfC "turned" (defScope s_turned) s.heap.objs.size f cdv))) :
    VSs ⟨r, C⟩ (WOf E) Z H (cxOf (L2.CX P w) P w K mg base N_turned "turned" (defScope s_turned) f cdv A outer s H E) (defBody s_turned) B_turned :=
  (vss_cons (vs_par2 rfl sc_turned.nd rfl rfl (by kernel_rfl) (by kernel_rfl) (ap_n (ne_t1 c_list (gl_ (by kernel_rfl)) bi.list bt_list (be_var rfl (.inl (by kernel_rfl)))) (ap_v (ve_b1 c_len (gl_ (by kernel_rfl)) bi.len bt_len (be_var rfl (.inl (by kernel_rfl)))) ap_nil)) (by kernel_rfl))
  (vss_cons (vs_for passesC rfl (ie_enum (gl_ (by kernel_rfl)) bi.enumerate (ae_cons (ve_var rfl (.inl (by kernel_rfl))) ae_nil)) (tg_tup rfl (tgs_cons sc_turned.nd rfl (.inl (by kernel_rfl)) (tgs_cons sc_turned.nd rfl (.inl (by kernel_rfl)) tgs_nil))) (vss_one (vs_set rfl (.inl (by kernel_rfl)) (ve_bin o_mod (ve_bin o_add (ve_var rfl (.inl (by kernel_rfl))) (ve_var rfl (.inl (by kernel_rfl)))) (ve_var rfl (.inl (by kernel_rfl)))) (ve_bin o_mod (ve_bin o_add (ve_var rfl (.inl (by kernel_rfl))) (ve_var rfl (.inl (by kernel_rfl)))) (ve_var rfl (.inl (by kernel_rfl)))))))
  (vss_one (vs_ret (ve_t1 c_tup (gl_ (by kernel_rfl)) bi.tuple bt_tuple (be_var rfl (.inl (by kernel_rfl))))))))
theorem Fd_turned (bi : Bi mg)  (F : ∃ f fd, FunD K "turned" "turned" (defArgs s_turned) (defBody s_turned) (defScope s_turned) [] [] f fd ∧ mg "turned" = some (.ref f)) : Fd P w K mg base C "turned" false 2 1 D_turned :=
  let ⟨f, fd, h, gm⟩ := F; fd_of h gm sc_turned (h.bindsN fun _ _ _ _ _ _ us hl => match us, hl with | [_, _], _ => rfl) rfl rfl fun r cdv A outer s Z H E hu1 hr => V_turned bi  r f cdv A outer s Z H E hr
/-! mirrored -/
abbrev N_mirrored : List PySem.Str := ["arrangement", "partner"]
def B_mirrored : Ev.Env → R Flw :=
  (sRet (eUn tupD (eN (nLc [1] (.one 1) (iAny (eUn revD (bVar 0))) cYes (eBin subD (eBin subD (eUn lenD (bVar 0)) (eC (.int 1))) (eVar 1))))))
def D_mirrored : List D → R D := fnD 1 1 B_mirrored
theorem sc_mirrored : FnScope N_mirrored ["arrangement"] (defScope s_mirrored) := ⟨rfl, rfl, rfl, by decide +kernel, rfl, by decide +kernel, by decide +kernel⟩
theorem V_mirrored (bi : Bi mg)  (r : Option Addr) (f : Addr) (cdv : Value) (A : Around) (outer : List PySem.Env) (s : Shared) (Z H : Hp) (E : XK) (hr : Room 0 (A.deeper (envOfC "mirrored" (defScope s_mirrored) s.heap.objs.size f cdv))) :
    VSs ⟨r, C⟩ (WOf E) Z H (cxOf (L2.CX P w) P w K mg base N_mirrored "mirrored" (defScope s_mirrored) f cdv A outer s H E) (defBody s_mirrored) B_mirrored :=
  (vss_one (vs_ret (ve_t1 c_tup (gl_ (by kernel_rfl)) bi.tuple bt_tuple (be_ve (ve_n (ne_lc rfl sc_mirrored.nd (ie_any (ve_rev (be_var rfl (.inr (.inl (by kernel_rfl)))))) (own := [("partner", 1)]) (blk_of (by kernel_rfl)) (fun _ _ _ _ _ => (tg_one sc_mirrored.nd rfl (.inl (by kernel_rfl)) (hf := .inr (by kernel_rfl)))) (fun _ _ _ _ _ => pts_yes) (fun _ _ _ _ _ => (ve_bin o_sub (ve_bin o_sub (ve_b1 c_len (gl_ (by kernel_rfl)) bi.len bt_len (be_var rfl (.inr (.inl (by kernel_rfl))))) ve_int) (ve_var rfl (.inl (by kernel_rfl)))))))))))
theorem Fd_mirrored (bi : Bi mg)  (F : ∃ f fd, FunD K "mirrored" "mirrored" (defArgs s_mirrored) (defBody s_mirrored) (defScope s_mirrored) [] [] f fd ∧ mg "mirrored" = some (.ref f)) : Fd P w K mg base C "mirrored" false 1 1 D_mirrored :=
  let ⟨f, fd, h, gm⟩ := F; fd_of h gm sc_mirrored (h.bindsN fun _ _ _ _ _ _ us hl => match us, hl with | [_], _ => rfl) rfl rfl fun r cdv A outer s Z H E hu1 hr => V_mirrored bi  r f cdv A outer s Z H E hr
/-! period -/
abbrev N_period : List PySem.Str := ["arrangement", "seats"]
def B_period : Ev.Env → R Flw :=
  (sCons (sAsg 1 (eC (.int 1)))
  (sCons (whileL (eT (eBin neOp (eCall D_turned (aCons (eVar 0) (aCons (eVar 1) aNil))) (eUn tupD (bVar 0)))) (sAug 1 addI (eC (.int 1))) 64)
  (sRet (eVar 1))))
def D_period : List D → R D := fnD 1 1 B_period
theorem sc_period : FnScope N_period ["arrangement"] (defScope s_period) := ⟨rfl, rfl, rfl, by decide +kernel, rfl, by decide +kernel, by decide +kernel⟩
theorem V_period (bi : Bi mg) (F_turned : Fd P w K mg base C "turned" false 2 1 D_turned) (r : Option Addr) (f : Addr) (cdv : Value) (A : Around) (outer : List PySem.Env) (s : Shared) (Z H : Hp) (E : XK) (hr : Room 1 (A.deeper (envOfC "period" (defScope s_period) s.heap.objs.size f cdv))) :
    VSs ⟨r, C⟩ (WOf E) Z H (cxOf (L2.CX P w) P w K mg base N_period "period" (defScope s_period) f cdv A outer s H E) (defBody s_period) B_period :=
  (vss_cons (vs_asg sc_period.nd rfl (.inl (by kernel_rfl)) ve_int)
  (vss_cons (vs_while 64 passesC (te_cmp (o_ne hr.units) (ve_call F_turned hr takesC (gl_ (by kernel_rfl)) (ae_cons (ve_var rfl (.inl (by kernel_rfl))) (ae_cons (ve_var rfl (.inl (by kernel_rfl))) ae_nil))) (ve_t1 c_tup (gl_ (by kernel_rfl)) bi.tuple bt_tuple (be_var rfl (.inl (by kernel_rfl))))) (vss_one (vs_aug sc_period.nd rfl (.inl (by kernel_rfl)) ve_int io_add)))
  (vss_one (vs_ret (ve_var rfl (.inl (by kernel_rfl)))))))
theorem Fd_period (bi : Bi mg) (F_turned : Fd P w K mg base C "turned" false 2 1 D_turned) (F : ∃ f fd, FunD K "period" "period" (defArgs s_period) (defBody s_period) (defScope s_period) [] [] f fd ∧ mg "period" = some (.ref f)) : Fd P w K mg base C "period" false 1 2 D_period :=
  let ⟨f, fd, h, gm⟩ := F; fd_of h gm sc_period (h.bindsN fun _ _ _ _ _ _ us hl => match us, hl with | [_], _ => rfl) rfl rfl fun r cdv A outer s Z H E hu1 hr => V_period bi F_turned r f cdv A outer s Z H E hr
/-! choose -/
abbrev N_choose : List PySem.Str := ["things", "some", "found", "number"]
def B_choose : Ev.Env → R Flw :=
  (sCons (sAsg 2 (eC (.int 1)))
  (sCons (sFor (.one 3) (iRng rng1 (aCons (eVar 1) aNil)) (sAsg 2 (eBin divD (eBin mulD (eVar 2) (eBin subD (eVar 0) (eVar 3))) (eBin addD (eVar 3) (eC (.int 1))))))
  (sRet (eVar 2))))
def D_choose : List D → R D := fnD 2 2 B_choose
theorem sc_choose : FnScope N_choose ["things", "some"] (defScope s_choose) := ⟨rfl, rfl, rfl, by decide +kernel, rfl, by decide +kernel, by decide +kernel⟩
theorem V_choose (bi : Bi mg)  (r : Option Addr) (f : Addr) (cdv : Value) (A : Around) (outer : List PySem.Env) (s : Shared) (Z H : Hp) (E : XK) (hr : Room 0 (A.deeper (envOfC "choose" (defScope s_choose) s.heap.objs.size f cdv))) :
    VSs ⟨r, C⟩ (WOf E) Z H (cxOf (L2.CX P w) P w K mg base N_choose "choose" (defScope s_choose) f cdv A outer s H E) (defBody s_choose) B_choose :=
  (vss_cons (vs_asg sc_choose.nd rfl (.inl (by kernel_rfl)) ve_int)
  (vss_cons (vs_for passesC rfl (ie_rng1 (gl_ (by kernel_rfl)) bi.range (ae_cons (ve_var rfl (.inl (by kernel_rfl))) ae_nil)) (tg_one sc_choose.nd rfl (.inl (by kernel_rfl))) (vss_one (vs_asg sc_choose.nd rfl (.inl (by kernel_rfl)) (ve_bin o_div (ve_bin o_mul (ve_var rfl (.inl (by kernel_rfl))) (ve_bin o_sub (ve_var rfl (.inl (by kernel_rfl))) (ve_var rfl (.inl (by kernel_rfl))))) (ve_bin o_add (ve_var rfl (.inl (by kernel_rfl))) ve_int)))))
  (vss_one (vs_ret (ve_var rfl (.inl (by kernel_rfl)))))))
theorem Fd_choose (bi : Bi mg)  (F : ∃ f fd, FunD K "choose" "choose" (defArgs s_choose) (defBody s_choose) (defScope s_choose) [] [] f fd ∧ mg "choose" = some (.ref f)) : Fd P w K mg base C "choose" false 2 1 D_choose :=
  let ⟨f, fd, h, gm⟩ := F; fd_of h gm sc_choose (h.bindsN fun _ _ _ _ _ _ us hl => match us, hl with | [_, _], _ => rfl) rfl rfl fun r cdv A outer s Z H E hu1 hr => V_choose bi  r f cdv A outer s Z H E hr
/-! alike_many -/
abbrev N_alike_many : List PySem.Str := ["people", "seats", "order"]
def B_alike_many : Ev.Env → R Flw :=
  (sCons (sIf (eT (eBin eqOp (eVar 0) (eC (.int 0)))) (sRet (eC (.int 1))) sNil)
  (sCons (sAsg 2 (eBin divD (eVar 0) (eCall D_gcd (aCons (eVar 0) (aCons (eBin modD (eVar 1) (eVar 0)) aNil)))))
  (sCons (sIf (eT (eBin eqOp (eVar 2) (eC (.int 1)))) (sRet (eCall D_catalan (aCons (eBin divD (eVar 0) (eC (.int 2))) aNil))) sNil)
  (sCons (sIf (eT (eBin eqOp (eVar 2) (eC (.int 2)))) (sRet (eCall D_choose (aCons (eBin divD (eVar 0) (eC (.int 2))) (aCons (eBin divD (eVar 0) (eC (.int 4))) aNil)))) sNil)
  (sRet (eIf (eT (eBin eqOp (eBin modD (eBin divD (eVar 0) (eC (.int 2))) (eVar 2)) (eC (.int 0)))) (eCall D_choose (aCons (eBin divD (eVar 0) (eVar 2)) (aCons (eBin divD (eVar 0) (eBin mulD (eC (.int 2)) (eVar 2))) aNil))) (eC (.int 0))))))))
def D_alike_many : List D → R D := fnD 2 1 B_alike_many
theorem sc_alike_many : FnScope N_alike_many ["people", "seats"] (defScope s_alike_many) := ⟨rfl, rfl, rfl, by decide +kernel, rfl, by decide +kernel, by decide +kernel⟩
theorem V_alike_many (bi : Bi mg) (F_gcd : Fd P w K mg base C "gcd" false 2 1 D_gcd) (F_catalan : Fd P w K mg base C "catalan" false 1 1 D_catalan) (F_choose : Fd P w K mg base C "choose" false 2 1 D_choose) (r : Option Addr) (f : Addr) (cdv : Value) (A : Around) (outer : List PySem.Env) (s : Shared) (Z H : Hp) (E : XK) (hr : Room 1 (A.deeper (envOfC "alike_many" (defScope s_alike_many) s.heap.objs.size f cdv))) :
    VSs ⟨r, C⟩ (WOf E) Z H (cxOf (L2.CX P w) P w K mg base N_alike_many "alike_many" (defScope s_alike_many) f cdv A outer s H E) (defBody s_alike_many) B_alike_many :=
  (vss_cons (vs_if (te_cmp (o_eq hr.units) (ve_var rfl (.inl (by kernel_rfl))) ve_int) (vss_one (vs_ret ve_int)) vss_nil)
  (vss_cons (vs_asg sc_alike_many.nd rfl (.inl (by kernel_rfl)) (ve_bin o_div (ve_var rfl (.inl (by kernel_rfl))) (ve_call F_gcd hr takesC (gl_ (by kernel_rfl)) (ae_cons (ve_var rfl (.inl (by kernel_rfl))) (ae_cons (ve_bin o_mod (ve_var rfl (.inl (by kernel_rfl))) (ve_var rfl (.inl (by kernel_rfl)))) ae_nil)))))
  (vss_cons (vs_if (te_cmp (o_eq hr.units) (ve_var rfl (.inl (by kernel_rfl))) ve_int) (vss_one (vs_ret (ve_call F_catalan hr takesC (gl_ (by kernel_rfl)) (ae_cons (ve_bin o_div (ve_var rfl (.inl (by kernel_rfl))) ve_int) ae_nil)))) vss_nil)
  (vss_cons (vs_if (te_cmp (o_eq hr.units) (ve_var rfl (.inl (by kernel_rfl))) ve_int) (vss_one (vs_ret (ve_call F_choose hr takesC (gl_ (by kernel_rfl)) (ae_cons (ve_bin o_div (ve_var rfl (.inl (by kernel_rfl))) ve_int) (ae_cons (ve_bin o_div (ve_var rfl (.inl (by kernel_rfl))) ve_int) ae_nil))))) vss_nil)
  (vss_one (vs_ret (ve_if (te_cmp (o_eq hr.units) (ve_bin o_mod (ve_bin o_div (ve_var rfl (.inl (by kernel_rfl))) ve_int) (ve_var rfl (.inl (by kernel_rfl)))) ve_int) (ve_call F_choose hr takesC (gl_ (by kernel_rfl)) (ae_cons (ve_bin o_div (ve_var rfl (.inl (by kernel_rfl))) (ve_var rfl (.inl (by kernel_rfl)))) (ae_cons (ve_bin o_div (ve_var rfl (.inl (by kernel_rfl))) (ve_bin o_mul ve_int (ve_var rfl (.inl (by kernel_rfl))))) ae_nil))) ve_int)))))))
theorem Fd_alike_many (bi : Bi mg) (F_gcd : Fd P w K mg base C "gcd" false 2 1 D_gcd) (F_catalan : Fd P w K mg base C "catalan" false 1 1 D_catalan) (F_choose : Fd P w K mg base C "choose" false 2 1 D_choose) (F : ∃ f fd, FunD K "alike_many" "alike_many" (defArgs s_alike_many) (defBody s_alike_many) (defScope s_alike_many) [] [] f fd ∧ mg "alike_many" = some (.ref f)) : Fd P w K mg base C "alike_many" false 2 2 D_alike_many :=
  let ⟨f, fd, h, gm⟩ := F; fd_of h gm sc_alike_many (h.bindsN fun _ _ _ _ _ _ us hl => match us, hl with | [_, _], _ => rfl) rfl rfl fun r cdv A outer s Z H E hu1 hr => V_alike_many bi F_gcd F_catalan F_choose r f cdv A outer s Z H E hr
/-! walk -/
abbrev N_walk : List PySem.Str := ["arrangement", "place", "found"]
def B_walk : Ev.Env → R Flw :=
  (sCons (sNew 2 (nLst (aCons (eVar 1) aNil)))
  (whileL (eT (eC (.bool true))) (sCons (sAsg 1 (eBin ixD (bVar 0) (eBin modD (eBin addD (eVar 1) (eC (.int 1))) (eUn lenD (bVar 0)))))
  (sCons (sIf (eT (eBin eqOp (eVar 1) (eBin ixD (bVar 2) (eC (.int 0))))) (sRet (eUn tupD (eN (nUn sortD (bVar 2))))) sNil)
  (sApp 2 (eVar 1)))) 64))
def D_walk : List D → R D := fnD 2 1 B_walk
theorem sc_walk : FnScope N_walk ["arrangement", "place"] (defScope s_walk) := ⟨rfl, rfl, rfl, by decide +kernel, rfl, by decide +kernel, by decide +kernel⟩
theorem V_walk (bi : Bi mg)  (r : Option Addr) (f : Addr) (cdv : Value) (A : Around) (outer : List PySem.Env) (s : Shared) (Z H : Hp) (E : XK) (hr : Room 0 (A.deeper (envOfC "walk" (defScope s_walk) s.heap.objs.size f cdv))) :
    VSs ⟨r, C⟩ (WOf E) Z H (cxOf (L2.CX P w) P w K mg base N_walk "walk" (defScope s_walk) f cdv A outer s H E) (defBody s_walk) B_walk :=
  (vss_cons (vs_new sc_walk.nd rfl (.inl (by kernel_rfl)) (ne_lst (ae_cons (ve_var rfl (.inl (by kernel_rfl))) ae_nil)))
  (vss_one (vs_while 64 passesC (te_val ve_bl) (vss_cons (vs_asg sc_walk.nd rfl (.inl (by kernel_rfl)) (ve_ix (be_var rfl (.inl (by kernel_rfl))) (ve_bin o_mod (ve_bin o_add (ve_var rfl (.inl (by kernel_rfl))) ve_int) (ve_b1 c_len (gl_ (by kernel_rfl)) bi.len bt_len (be_var rfl (.inl (by kernel_rfl)))))))
  (vss_cons (vs_if (te_cmp (o_eq hr.units) (ve_var rfl (.inl (by kernel_rfl))) (ve_ix (be_var rfl (.inl (by kernel_rfl))) ve_int)) (vss_one (vs_ret (ve_t1 c_tup (gl_ (by kernel_rfl)) bi.tuple bt_tuple (be_ve (ve_n (ne_b1 (c_sorted (hu hr)) (gl_ (by kernel_rfl)) bi.sorted bt_sorted (be_var rfl (.inl (by kernel_rfl))))))))) vss_nil)
  (vss_one (vs_app rfl (.inl (by kernel_rfl)) (ve_var rfl (.inl (by kernel_rfl))))))))))
theorem Fd_walk (bi : Bi mg)  (F : ∃ f fd, FunD K "walk" "walk" (defArgs s_walk) (defBody s_walk) (defScope s_walk) [] [] f fd ∧ mg "walk" = some (.ref f)) : Fd P w K mg base C "walk" false 2 1 D_walk :=
  let ⟨f, fd, h, gm⟩ := F; fd_of h gm sc_walk (h.bindsN fun _ _ _ _ _ _ us hl => match us, hl with | [_, _], _ => rfl) rfl rfl fun r cdv A outer s Z H E hu1 hr => V_walk bi  r f cdv A outer s Z H E hr
/-! areas -/
abbrev N_areas : List PySem.Str := ["arrangement", "place"]
def B_areas : Ev.Env → R Flw :=
  (sRet (eN (nUn usetD (eN (nLc [1] (.one 1) (iRng rng1 (aCons (eUn lenD (bVar 0)) aNil)) cYes (eCall D_walk (aCons (eVar 0) (aCons (eVar 1) aNil))))))))
def D_areas : List D → R D := fnD 1 1 B_areas
theorem sc_areas : FnScope N_areas ["arrangement"] (defScope s_areas) := ⟨rfl, rfl, rfl, by decide +kernel, rfl, by decide +kernel, by decide +kernel⟩
theorem V_areas (bi : Bi mg) (F_walk : Fd P w K mg base C "walk" false 2 1 D_walk) (r : Option Addr) (f : Addr) (cdv : Value) (A : Around) (outer : List PySem.Env) (s : Shared) (Z H : Hp) (E : XK) (hr : Room 1 (A.deeper (envOfC "areas" (defScope s_areas) s.heap.objs.size f cdv))) :
    VSs ⟨r, C⟩ (WOf E) Z H (cxOf (L2.CX P w) P w K mg base N_areas "areas" (defScope s_areas) f cdv A outer s H E) (defBody s_areas) B_areas :=
  (vss_one (vs_ret (ve_n (ne_sortSet rfl (hu hr) (gl_ (by kernel_rfl)) bi.sorted (gl_ (by kernel_rfl)) bi.set (be_ve (ve_n (ne_lc rfl sc_areas.nd (ie_rng1 (gl_ (by kernel_rfl)) bi.range (ae_cons (ve_b1 c_len (gl_ (by kernel_rfl)) bi.len bt_len (be_var rfl (.inr (.inl (by kernel_rfl))))) ae_nil)) (own := [("place", 1)]) (blk_of (by kernel_rfl)) (fun _ _ _ _ _ => (tg_one sc_areas.nd rfl (.inl (by kernel_rfl)) (hf := .inr (by kernel_rfl)))) (fun _ _ _ _ _ => pts_yes) (fun _ _ _ _ _ => (ve_call F_walk hr takesB (gl_ (by kernel_rfl)) (ae_cons (ve_var rfl (.inr (.inl (by kernel_rfl)))) (ae_cons (ve_var rfl (.inl (by kernel_rfl))) ae_nil)))))))))))
theorem Fd_areas (bi : Bi mg) (F_walk : Fd P w K mg base C "walk" false 2 1 D_walk) (F : ∃ f fd, FunD K "areas" "areas" (defArgs s_areas) (defBody s_areas) (defScope s_areas) [] [] f fd ∧ mg "areas" = some (.ref f)) : Fd P w K mg base C "areas" false 1 2 D_areas :=
  let ⟨f, fd, h, gm⟩ := F; fd_of h gm sc_areas (h.bindsN fun _ _ _ _ _ _ us hl => match us, hl with | [_], _ => rfl) rfl rfl fun r cdv A outer s Z H E hu1 hr => V_areas bi F_walk r f cdv A outer s Z H E hr
/-! new_arms -/
abbrev N_new_arms : List PySem.Str := ["arrangement", "exchange", "one", "other", "first", "second", "third", "last"]
def B_new_arms : Ev.Env → R Flw :=
  (sCons (sTup (.tup [2, 3]) (eVar 1))
  (sCons (sTupL [4, 5, 6, 7] (eN (nUn sortD (eN (nLst (aCons (eVar 2) (aCons (eVar 3) (aCons (eBin ixD (bVar 0) (eVar 2)) (aCons (eBin ixD (bVar 0) (eVar 3)) aNil)))))))))
  (sCons (sIf (eT (eBin eqOp (eBin ixD (bVar 0) (eVar 4)) (eVar 5))) (sRet (eN (nLst (aCons (eTup (aCons (eVar 4) (aCons (eVar 7) aNil))) (aCons (eTup (aCons (eVar 5) (aCons (eVar 6) aNil))) aNil))))) sNil)
  (sRet (eN (nLst (aCons (eTup (aCons (eVar 4) (aCons (eVar 5) aNil))) (aCons (eTup (aCons (eVar 6) (aCons (eVar 7) aNil))) aNil))))))))
def D_new_arms : List D → R D := fnD 2 6 B_new_arms
theorem sc_new_arms : FnScope N_new_arms ["arrangement", "exchange"] (defScope s_new_arms) := ⟨rfl, rfl, rfl, by decide +kernel, rfl, by decide +kernel, by decide +kernel⟩
theorem V_new_arms (bi : Bi mg)  (r : Option Addr) (f : Addr) (cdv : Value) (A : Around) (outer : List PySem.Env) (s : Shared) (Z H : Hp) (E : XK) (hr : Room 0 (A.deeper (envOfC "new_arms" (defScope s_new_arms) s.heap.objs.size f cdv))) :
    VSs ⟨r, C⟩ (WOf E) Z H (cxOf (L2.CX P w) P w K mg base N_new_arms "new_arms" (defScope s_new_arms) f cdv A outer s H E) (defBody s_new_arms) B_new_arms :=
  (vss_cons (vs_tgt (tg_tup rfl (tgs_cons sc_new_arms.nd rfl (.inl (by kernel_rfl)) (tgs_cons sc_new_arms.nd rfl (.inl (by kernel_rfl)) tgs_nil))) (ve_var rfl (.inl (by kernel_rfl))))
  (vss_cons (vs_tgtL rfl (tgs_cons sc_new_arms.nd rfl (.inl (by kernel_rfl)) (tgs_cons sc_new_arms.nd rfl (.inl (by kernel_rfl)) (tgs_cons sc_new_arms.nd rfl (.inl (by kernel_rfl)) (tgs_cons sc_new_arms.nd rfl (.inl (by kernel_rfl)) tgs_nil)))) (ve_n (ne_b1 (c_sorted (hu hr)) (gl_ (by kernel_rfl)) bi.sorted bt_sorted (be_ve (ve_n (ne_lst (ae_cons (ve_var rfl (.inl (by kernel_rfl))) (ae_cons (ve_var rfl (.inl (by kernel_rfl))) (ae_cons (ve_ix (be_var rfl (.inl (by kernel_rfl))) (ve_var rfl (.inl (by kernel_rfl)))) (ae_cons (ve_ix (be_var rfl (.inl (by kernel_rfl))) (ve_var rfl (.inl (by kernel_rfl)))) ae_nil))))))))))
  (vss_cons (vs_if (te_cmp (o_eq hr.units) (ve_ix (be_var rfl (.inl (by kernel_rfl))) (ve_var rfl (.inl (by kernel_rfl)))) (ve_var rfl (.inl (by kernel_rfl)))) (vss_one (vs_ret (ve_n (ne_lst (ae_cons (ve_tup (ae_cons (ve_var rfl (.inl (by kernel_rfl))) (ae_cons (ve_var rfl (.inl (by kernel_rfl))) ae_nil))) (ae_cons (ve_tup (ae_cons (ve_var rfl (.inl (by kernel_rfl))) (ae_cons (ve_var rfl (.inl (by kernel_rfl))) ae_nil))) ae_nil)))))) vss_nil)
  (vss_one (vs_ret (ve_n (ne_lst (ae_cons (ve_tup (ae_cons (ve_var rfl (.inl (by kernel_rfl))) (ae_cons (ve_var rfl (.inl (by kernel_rfl))) ae_nil))) (ae_cons (ve_tup (ae_cons (ve_var rfl (.inl (by kernel_rfl))) (ae_cons (ve_var rfl (.inl (by kernel_rfl))) ae_nil))) ae_nil)))))))))
theorem Fd_new_arms (bi : Bi mg)  (F : ∃ f fd, FunD K "new_arms" "new_arms" (defArgs s_new_arms) (defBody s_new_arms) (defScope s_new_arms) [] [] f fd ∧ mg "new_arms" = some (.ref f)) : Fd P w K mg base C "new_arms" false 2 1 D_new_arms :=
  let ⟨f, fd, h, gm⟩ := F; fd_of h gm sc_new_arms (h.bindsN fun _ _ _ _ _ _ us hl => match us, hl with | [_, _], _ => rfl) rfl rfl fun r cdv A outer s Z H E hu1 hr => V_new_arms bi  r f cdv A outer s Z H E hr
/-! is_possible -/
abbrev N_is_possible : List PySem.Str := ["arrangement", "exchange", "made", "others", "arm", "other"]
def B_is_possible : Ev.Env → R Flw :=
  (sCons (sAsg 2 (eCall D_new_arms (aCons (eVar 0) (aCons (eVar 1) aNil))))
  (sCons (sAsg 3 (eN (nLc [4] (.one 4) (iAny (eCall D_arms (aCons (eVar 0) aNil))) (eT (eBin ninOp (eBin ixD (bVar 4) (eC (.int 0))) (bVar 1))) (eVar 4))))
  (sRet (vNot (eUn anyD (eN (nLc2 [4, 5] [5] (.one 4) (iAny (eVar 2)) cYes (.one 5) (iAny (eVar 3)) cYes (eCall D_cross (aCons (eVar 4) (aCons (eVar 5) aNil))))))))))
def D_is_possible : List D → R D := fnD 2 4 B_is_possible
theorem sc_is_possible : FnScope N_is_possible ["arrangement", "exchange"] (defScope s_is_possible) := ⟨rfl, rfl, rfl, by decide +kernel, rfl, by decide +kernel, by decide +kernel⟩
theorem V_is_possible (bi : Bi mg) (F_new_arms : Fd P w K mg base C "new_arms" false 2 1 D_new_arms) (F_arms : Fd P w K mg base C "arms" false 1 1 D_arms) (F_cross : Fd P w K mg base C "cross" false 2 1 D_cross) (r : Option Addr) (f : Addr) (cdv : Value) (A : Around) (outer : List PySem.Env) (s : Shared) (Z H : Hp) (E : XK) (hr : Room 1 (A.deeper (envOfC "is_possible" (defScope s_is_possible) s.heap.objs.size f cdv))) :
    VSs ⟨r, C⟩ (WOf E) Z H (cxOf (L2.CX P w) P w K mg base N_is_possible "is_possible" (defScope s_is_possible) f cdv A outer s H E) (defBody s_is_possible) B_is_possible :=
  (vss_cons (vs_asg sc_is_possible.nd rfl (.inl (by kernel_rfl)) (ve_call F_new_arms hr takesC (gl_ (by kernel_rfl)) (ae_cons (ve_var rfl (.inl (by kernel_rfl))) (ae_cons (ve_var rfl (.inr (.inl (by kernel_rfl)))) ae_nil))))
  (vss_cons (vs_asg sc_is_possible.nd rfl (.inr (by kernel_rfl)) (ve_n (ne_lc rfl sc_is_possible.nd (ie_any (ve_call F_arms hr takesC (gl_ (by kernel_rfl)) (ae_cons (ve_var rfl (.inl (by kernel_rfl))) ae_nil))) (own := [("arm", 4)]) (blk_of (by kernel_rfl)) (fun _ _ _ _ _ => (tg_one sc_is_possible.nd rfl (.inl (by kernel_rfl)) (hf := .inr (by kernel_rfl)))) (fun _ _ _ _ _ => (pts_if (te_nin (hu hr) (ve_ix (be_var rfl (.inl (by kernel_rfl))) ve_int) (be_var rfl (.inr (.inl (by kernel_rfl))))))) (fun _ _ _ _ _ => (ve_var rfl (.inl (by kernel_rfl)))))))
  (vss_one (vs_ret (ve_not (ve_b1 (c_any rfl) (gl_ (by kernel_rfl)) bi.any bt_any (be_ve (ve_n (ne_lc2 rfl sc_is_possible.nd (ie_any (ve_var rfl (.inl (by kernel_rfl)))) (own := [("arm", 4), ("other", 5)]) (blk_of (by kernel_rfl)) (vs1 := [5]) rfl (fun _ _ _ _ _ => (tg_one sc_is_possible.nd rfl (.inl (by kernel_rfl)) (hf := .inr (by kernel_rfl)))) (fun _ _ _ _ _ => pts_yes) (fun _ _ _ _ _ => (ie_any (ve_var rfl (.inr (.inl (by kernel_rfl)))))) (fun _ _ _ _ _ => (tg_one sc_is_possible.nd rfl (.inl (by kernel_rfl)) (hf := .inr (by kernel_rfl)))) (fun _ _ _ _ _ => pts_yes) (fun _ _ _ _ _ => (ve_call F_cross hr takesB (gl_ (by kernel_rfl)) (ae_cons (ve_var rfl (.inl (by kernel_rfl))) (ae_cons (ve_var rfl (.inl (by kernel_rfl))) ae_nil)))))))))))))
theorem Fd_is_possible (bi : Bi mg) (F_new_arms : Fd P w K mg base C "new_arms" false 2 1 D_new_arms) (F_arms : Fd P w K mg base C "arms" false 1 1 D_arms) (F_cross : Fd P w K mg base C "cross" false 2 1 D_cross) (F : ∃ f fd, FunD K "is_possible" "is_possible" (defArgs s_is_possible) (defBody s_is_possible) (defScope s_is_possible) [] [] f fd ∧ mg "is_possible" = some (.ref f)) : Fd P w K mg base C "is_possible" false 2 2 D_is_possible :=
  let ⟨f, fd, h, gm⟩ := F; fd_of h gm sc_is_possible (h.bindsN fun _ _ _ _ _ _ us hl => match us, hl with | [_, _], _ => rfl) rfl rfl fun r cdv A outer s Z H E hu1 hr => V_is_possible bi F_new_arms F_arms F_cross r f cdv A outer s Z H E hr
/-! exchanges -/
abbrev N_exchanges : List PySem.Str := ["arrangement", "found", "lesser", "place", "one", "arm", "other"]
def B_exchanges : Ev.Env → R Flw :=
  (sCons (sPar [1, 2] (pN (nLst aNil) (pV (eN (nLc [5] (.one 5) (iAny (eCall D_arms (aCons (eVar 0) aNil))) cYes (eBin ixD (bVar 5) (eC (.int 0))))) pNil)))
  (sCons (sFor (.tup [3, 4]) (iEnu (aCons (eVar 2) aNil)) (sExt 1 (eN (nLc [6] (.one 6) (iAny (eSl (bVar 2) (pAt (eBin addD (eVar 3) (eC (.int 1)))) pNo)) (eT (eCall D_is_possible (aCons (eVar 0) (aCons (eTup (aCons (eVar 4) (aCons (eVar 6) aNil))) aNil)))) (eTup (aCons (eVar 4) (aCons (eVar 6) aNil)))))))
  (sFrz [1] (sRet (eVar 1)))))
def D_exchanges : List D → R D := fnD 1 6 B_exchanges
theorem sc_exchanges : FnScope N_exchanges ["arrangement"] (defScope s_exchanges) := ⟨rfl, rfl, rfl, by decide +kernel, rfl, by decide +kernel, by decide +kernel⟩
theorem V_exchanges (bi : Bi mg) (F_arms : Fd P w K mg base C "arms" false 1 1 D_arms) (F_is_possible : Fd P w K mg base C "is_possible" false 2 2 D_is_possible) (r : Option Addr) (f : Addr) (cdv : Value) (A : Around) (outer : List PySem.Env) (s : Shared) (Z H : Hp) (E : XK) (hr : Room 2 (A.deeper (envOfC "exchanges" (defScope s_exchanges) s.heap.objs.size f cdv))) :
    VSs ⟨r, C⟩ (WOf E) Z H (cxOf (L2.CX P w) P w K mg base N_exchanges "exchanges" (defScope s_exchanges) f cdv A outer s H E) (defBody s_exchanges) B_exchanges :=
  (vss_cons (vs_par2 rfl sc_exchanges.nd rfl rfl (by kernel_rfl) (by kernel_rfl) (ap_n (ne_lst ae_nil) (ap_v (ve_n (ne_lc rfl sc_exchanges.nd (ie_any (ve_call F_arms hr takesC (gl_ (by kernel_rfl)) (ae_cons (ve_var rfl (.inr (.inl (by kernel_rfl)))) ae_nil))) (own := [("arm", 5)]) (blk_of (by kernel_rfl)) (fun _ _ _ _ _ => (tg_one sc_exchanges.nd rfl (.inl (by kernel_rfl)) (hf := .inr (by kernel_rfl)))) (fun _ _ _ _ _ => pts_yes) (fun _ _ _ _ _ => (ve_ix (be_var rfl (.inl (by kernel_rfl))) ve_int)))) ap_nil)) (by kernel_rfl))
  (vss_cons (vs_for passesC rfl (ie_enum (gl_ (by kernel_rfl)) bi.enumerate (ae_cons (ve_var rfl (.inl (by kernel_rfl))) ae_nil)) (tg_tup rfl (tgs_cons sc_exchanges.nd rfl (.inl (by kernel_rfl)) (tgs_cons sc_exchanges.nd rfl (.inr (by kernel_rfl)) tgs_nil))) (vss_one (vs_ext rfl (.inl (by kernel_rfl)) (ve_n (ne_lc rfl sc_exchanges.nd (ie_any (ve_slice (be_var rfl (.inl (by kernel_rfl))) (oe_at (ve_bin o_add (ve_var rfl (.inl (by kernel_rfl))) ve_int)) oe_no)) (own := [("other", 6)]) (blk_of (by kernel_rfl)) (fun _ _ _ _ _ => (tg_one sc_exchanges.nd rfl (.inl (by kernel_rfl)) (hf := .inr (by kernel_rfl)))) (fun _ _ _ _ _ => (pts_if (te_val (ve_call F_is_possible hr takesB (gl_ (by kernel_rfl)) (ae_cons (ve_var rfl (.inr (.inl (by kernel_rfl)))) (ae_cons (ve_tup (ae_cons (ve_var rfl (.inr (.inl (by kernel_rfl)))) (ae_cons (ve_var rfl (.inl (by kernel_rfl))) ae_nil))) ae_nil)))))) (fun _ _ _ _ _ => (ve_tup (ae_cons (ve_var rfl (.inr (.inl (by kernel_rfl)))) (ae_cons (ve_var rfl (.inl (by kernel_rfl))) ae_nil)))))))))
  (vss_one (vs_frz [1] (vs_ret (ve_var rfl (.inl (by kernel_rfl))))))))
theorem Fd_exchanges (bi : Bi mg) (F_arms : Fd P w K mg base C "arms" false 1 1 D_arms) (F_is_possible : Fd P w K mg base C "is_possible" false 2 2 D_is_possible) (F : ∃ f fd, FunD K "exchanges" "exchanges" (defArgs s_exchanges) (defBody s_exchanges) (defScope s_exchanges) [] [] f fd ∧ mg "exchanges" = some (.ref f)) : Fd P w K mg base C "exchanges" false 1 3 D_exchanges :=
  let ⟨f, fd, h, gm⟩ := F; fd_of h gm sc_exchanges (h.bindsN fun _ _ _ _ _ _ us hl => match us, hl with | [_], _ => rfl) rfl rfl fun r cdv A outer s Z H E hu1 hr => V_exchanges bi F_arms F_is_possible r f cdv A outer s Z H E hr
/-! ring_of -/
abbrev N_ring_of : List PySem.Str := ["one", "other", "person", "found"]
def B_ring_of : Ev.Env → R Flw :=
  (sCons (sNew 3 (nLst (aCons (eVar 2) (aCons (eBin ixD (bVar 0) (eVar 2)) aNil))))
  (sCons (whileL (eT (eBin neOp (eBin ixD (bVar 1) (eBin ixD (bVar 3) (eUn negD (eC (.int 1))))) (eVar 2))) (sCons (sApp 3 (eBin ixD (bVar 1) (eBin ixD (bVar 3) (eUn negD (eC (.int 1))))))
  (sApp 3 (eBin ixD (bVar 0) (eBin ixD (bVar 3) (eUn negD (eC (.int 1))))))) 64)
  (sRet (eUn tupD (bVar 3)))))
def D_ring_of : List D → R D := fnD 3 1 B_ring_of
theorem sc_ring_of : FnScope N_ring_of ["one", "other", "person"] (defScope s_ring_of) := ⟨rfl, rfl, rfl, by decide +kernel, rfl, by decide +kernel, by decide +kernel⟩
theorem V_ring_of (bi : Bi mg)  (r : Option Addr) (f : Addr) (cdv : Value) (A : Around) (outer : List PySem.Env) (s : Shared) (Z H : Hp) (E : XK) (hr : Room 0 (A.deeper (envOfC "ring_of" (defScope s_ring_of) s.heap.objs.size f cdv))) :
    VSs ⟨r, C⟩ (WOf E) Z H (cxOf (L2.CX P w) P w K mg base N_ring_of "ring_of" (defScope s_ring_of) f cdv A outer s H E) (defBody s_ring_of) B_ring_of :=
  (vss_cons (vs_new sc_ring_of.nd rfl (.inl (by kernel_rfl)) (ne_lst (ae_cons (ve_var rfl (.inl (by kernel_rfl))) (ae_cons (ve_ix (be_var rfl (.inl (by kernel_rfl))) (ve_var rfl (.inl (by kernel_rfl)))) ae_nil))))
  (vss_cons (vs_while 64 passesC (te_cmp (o_ne hr.units) (ve_ix (be_var rfl (.inl (by kernel_rfl))) (ve_ix (be_var rfl (.inl (by kernel_rfl))) (ve_un o_neg ve_int))) (ve_var rfl (.inl (by kernel_rfl)))) (vss_cons (vs_app rfl (.inl (by kernel_rfl)) (ve_ix (be_var rfl (.inl (by kernel_rfl))) (ve_ix (be_var rfl (.inl (by kernel_rfl))) (ve_un o_neg ve_int))))
  (vss_one (vs_app rfl (.inl (by kernel_rfl)) (ve_ix (be_var rfl (.inl (by kernel_rfl))) (ve_ix (be_var rfl (.inl (by kernel_rfl))) (ve_un o_neg ve_int)))))))
  (vss_one (vs_ret (ve_t1 c_tup (gl_ (by kernel_rfl)) bi.tuple bt_tuple (be_var rfl (.inl (by kernel_rfl))))))))
theorem Fd_ring_of (bi : Bi mg)  (F : ∃ f fd, FunD K "ring_of" "ring_of" (defArgs s_ring_of) (defBody s_ring_of) (defScope s_ring_of) [] [] f fd ∧ mg "ring_of" = some (.ref f)) : Fd P w K mg base C "ring_of" false 3 1 D_ring_of :=
  let ⟨f, fd, h, gm⟩ := F; fd_of h gm sc_ring_of (h.bindsN fun _ _ _ _ _ _ us hl => match us, hl with | [_, _, _], _ => rfl) rfl rfl fun r cdv A outer s Z H E hu1 hr => V_ring_of bi  r f cdv A outer s Z H E hr
/-! rings -/
abbrev N_rings : List PySem.Str := ["one", "other", "found", "met", "person"]
def B_rings : Ev.Env → R Flw :=
  (sCons (sExpr (eCall D_look_same (aCons (eVar 0) (aCons (eVar 1) aNil))))
  (sCons (sPar [2, 3] (pN (nLst aNil) (pN (nLst aNil) pNil)))
  (sCons (sFor (.one 4) (iRng rng1 (aCons (eUn lenD (bVar 0)) aNil)) (sIf (eT (eBin ninOp (eVar 4) (bVar 3))) (sCons (sApp 2 (eCall D_ring_of (aCons (eVar 0) (aCons (eVar 1) (aCons (eVar 4) aNil)))))
  (sExt 3 (eBin ixD (bVar 2) (eUn negD (eC (.int 1)))))) sNil))
  (sFrz [2] (sRet (eVar 2))))))
def D_rings : List D → R D := fnD 2 3 B_rings
theorem sc_rings : FnScope N_rings ["one", "other"] (defScope s_rings) := ⟨rfl, rfl, rfl, by decide +kernel, rfl, by decide +kernel, by decide +kernel⟩
theorem V_rings (bi : Bi mg) (F_look_same : Fd P w K mg base C "look_same" false 2 1 D_look_same) (F_ring_of : Fd P w K mg base C "ring_of" false 3 1 D_ring_of) (r : Option Addr) (f : Addr) (cdv : Value) (A : Around) (outer : List PySem.Env) (s : Shared) (Z H : Hp) (E : XK) (hr : Room 1 (A.deeper (envOfC "rings" (defScope s_rings) s.heap.objs.size f cdv))) :
    VSs ⟨r, C⟩ (WOf E) Z H (cxOf (L2.CX P w) P w K mg base N_rings "rings" (defScope s_rings) f cdv A outer s H E) (defBody s_rings) B_rings :=
  (vss_cons (vs_expr (ve_call F_look_same hr takesC (gl_ (by kernel_rfl)) (ae_cons (ve_var rfl (.inl (by kernel_rfl))) (ae_cons (ve_var rfl (.inl (by kernel_rfl))) ae_nil))))
  (vss_cons (vs_par2 rfl sc_rings.nd rfl rfl (by kernel_rfl) (by kernel_rfl) (ap_n (ne_lst ae_nil) (ap_n (ne_lst ae_nil) ap_nil)) (by kernel_rfl))
  (vss_cons (vs_for passesC rfl (ie_rng1 (gl_ (by kernel_rfl)) bi.range (ae_cons (ve_b1 c_len (gl_ (by kernel_rfl)) bi.len bt_len (be_var rfl (.inl (by kernel_rfl)))) ae_nil)) (tg_one sc_rings.nd rfl (.inl (by kernel_rfl))) (vss_one (vs_if (te_nin (hu hr) (ve_var rfl (.inl (by kernel_rfl))) (be_var rfl (.inl (by kernel_rfl)))) (vss_cons (vs_app rfl (.inl (by kernel_rfl)) (ve_call F_ring_of hr takesC (gl_ (by kernel_rfl)) (ae_cons (ve_var rfl (.inl (by kernel_rfl))) (ae_cons (ve_var rfl (.inl (by kernel_rfl))) (ae_cons (ve_var rfl (.inl (by kernel_rfl))) ae_nil)))))
  (vss_one (vs_ext rfl (.inl (by kernel_rfl)) (ve_ix (be_var rfl (.inl (by kernel_rfl))) (ve_un o_neg ve_int))))) vss_nil)))
  (vss_one (vs_frz [2] (vs_ret (ve_var rfl (.inl (by kernel_rfl)))))))))
theorem Fd_rings (bi : Bi mg) (F_look_same : Fd P w K mg base C "look_same" false 2 1 D_look_same) (F_ring_of : Fd P w K mg base C "ring_of" false 3 1 D_ring_of) (F : ∃ f fd, FunD K "rings" "rings" (defArgs s_rings) (defBody s_rings) (defScope s_rings) [] [] f fd ∧ mg "rings" = some (.ref f)) : Fd P w K mg base C "rings" false 2 2 D_rings :=
  let ⟨f, fd, h, gm⟩ := F; fd_of h gm sc_rings (h.bindsN fun _ _ _ _ _ _ us hl => match us, hl with | [_, _], _ => rfl) rfl rfl fun r cdv A outer s Z H E hu1 hr => V_rings bi F_look_same F_ring_of r f cdv A outer s Z H E hr
/-! distance -/
abbrev N_distance : List PySem.Str := ["one", "other"]
def B_distance : Ev.Env → R Flw :=
  (sRet (eBin subD (eBin divD (eUn lenD (bVar 0)) (eC (.int 2))) (eUn lenD (eCall D_rings (aCons (eVar 0) (aCons (eVar 1) aNil))))))
def D_distance : List D → R D := fnD 2 0 B_distance
theorem sc_distance : FnScope N_distance ["one", "other"] (defScope s_distance) := ⟨rfl, rfl, rfl, by decide +kernel, rfl, by decide +kernel, by decide +kernel⟩
theorem V_distance (bi : Bi mg) (F_rings : Fd P w K mg base C "rings" false 2 2 D_rings) (r : Option Addr) (f : Addr) (cdv : Value) (A : Around) (outer : List PySem.Env) (s : Shared) (Z H : Hp) (E : XK) (hr : Room 2 (A.deeper (envOfC "distance" (defScope s_distance) s.heap.objs.size f cdv))) :
    VSs ⟨r, C⟩ (WOf E) Z H (cxOf (L2.CX P w) P w K mg base N_distance "distance" (defScope s_distance) f cdv A outer s H E) (defBody s_distance) B_distance :=
  (vss_one (vs_ret (ve_bin o_sub (ve_bin o_div (ve_b1 c_len (gl_ (by kernel_rfl)) bi.len bt_len (be_var rfl (.inl (by kernel_rfl)))) ve_int) (ve_b1 c_len (gl_ (by kernel_rfl)) bi.len bt_len (be_ve (ve_call F_rings hr takesC (gl_ (by kernel_rfl)) (ae_cons (ve_var rfl (.inl (by kernel_rfl))) (ae_cons (ve_var rfl (.inl (by kernel_rfl))) ae_nil))))))))
theorem Fd_distance (bi : Bi mg) (F_rings : Fd P w K mg base C "rings" false 2 2 D_rings) (F : ∃ f fd, FunD K "distance" "distance" (defArgs s_distance) (defBody s_distance) (defScope s_distance) [] [] f fd ∧ mg "distance" = some (.ref f)) : Fd P w K mg base C "distance" false 2 3 D_distance :=
  let ⟨f, fd, h, gm⟩ := F; fd_of h gm sc_distance (h.bindsN fun _ _ _ _ _ _ us hl => match us, hl with | [_, _], _ => rfl) rfl rfl fun r cdv A outer s Z H E hu1 hr => V_distance bi F_rings r f cdv A outer s Z H E hr
/-! _law_box -/
abbrev N_l_law_box : List PySem.Str := ["script", "k", "cell"]
theorem sc_l_law_box : FnScope N_l_law_box ["script", "k"] (defScope s__law_box) := ⟨rfl, rfl, rfl, by decide +kernel, rfl, by decide +kernel, by decide +kernel⟩
abbrev D_l_law_box : List D → R (List D) := fnDN 2 1 boxA (boxL 2305843009213693951 40361 28284272)
theorem Fd_l_law_box (bi : Bi mg) (F : ∃ f fd, FunD K "_law_box" "_law_box" (defArgs s__law_box) (defBody s__law_box) (defScope s__law_box) [] [] f fd ∧ mg "_law_box" = some (.ref f)) : FdN P w K mg base "_law_box" 2 1 D_l_law_box :=
  let ⟨f, fd, h, gm⟩ := F; fdN_of (C := fun _ => 0) (k := 0) h gm sc_l_law_box (h.bindsN fun _ _ _ _ _ _ us hl => match us, hl with | [_, _], _ => rfl) rfl rfl rfl fun cdv A outer s Z H E hr => ⟨(vs_asg sc_l_law_box.nd rfl (.inl (by kernel_rfl)) (ve_if (te_cmp o_lt (ve_var rfl (.inl (by kernel_rfl))) (ve_b1 c_len (gl_ (by kernel_rfl)) bi.len bt_len (be_var rfl (.inl (by kernel_rfl))))) (ve_ix (be_var rfl (.inl (by kernel_rfl))) (ve_var rfl (.inl (by kernel_rfl)))) ve_int)), (ne_lst (ae_cons (ve_bin o_mul (ve_b1 c_abs (gl_ (by kernel_rfl)) bi.abs bt_abs (be_var rfl (.inl (by kernel_rfl)))) (ve_t1 c_int (gl_ (by kernel_rfl)) bi.int bt_int (be_ve (ve_cmp o_ge (ve_b1 c_abs (gl_ (by kernel_rfl)) bi.abs bt_abs (be_var rfl (.inl (by kernel_rfl)))) (ve_bin o_pow ve_int ve_int))))) (ae_cons (ve_bin o_add (ve_bin o_add (ve_bin o_mod (ve_t1 c_int (gl_ (by kernel_rfl)) bi.int bt_int (be_var rfl (.inl (by kernel_rfl)))) ve_int) (ve_bin o_mul ve_int (ve_var rfl (.inl (by kernel_rfl))))) ve_int) (ae_cons ve_int ae_nil))))⟩
/-! _law_take -/
abbrev N_l_law_take : List PySem.Str := ["urn", "below", "drawn", "once", "far", "twice"]
theorem sc_l_law_take : FnScope N_l_law_take ["urn", "below"] (defScope s__law_take) := ⟨rfl, rfl, rfl, by decide +kernel, rfl, by decide +kernel, by decide +kernel⟩
theorem V_l_law_take (bi : Bi mg) (a : Addr) (f : Addr) (cdv : Value) (A : Around) (outer : List PySem.Env) (s : Shared) (Z H : Hp) (E : XK) (hr : Room 0 (A.deeper (envOfC "_law_take" (defScope s__law_take) s.heap.objs.size f cdv))) :
    USs a Z H (cxOf (L2.CX P w) P w K mg base N_l_law_take "_law_take" (defScope s__law_take) f cdv A outer s H E) (defBody s__law_take) takeB :=
  (us_cons (u_if (te_cmp o_gt (ve_ix (be_var rfl (.inl (by kernel_rfl))) ve_int) ve_int) (us_cons (u_asg sc_l_law_take.nd rfl (.inl (by kernel_rfl)) (ve_bin o_mod (ve_t1 c_int (gl_ (by kernel_rfl)) bi.int bt_int (be_ve (ve_ix (be_var rfl (.inl (by kernel_rfl))) ve_int))) (ve_var rfl (.inl (by kernel_rfl)))))
  (us_cons (u_set rfl (.inl (by kernel_rfl)) ve_int (ve_bin o_div (ve_ix (be_var rfl (.inl (by kernel_rfl))) ve_int) (ve_var rfl (.inl (by kernel_rfl)))))
  (us_one (u_ret (ve_var rfl (.inl (by kernel_rfl))))))) us_nil)
  (us_cons (u_set rfl (.inl (by kernel_rfl)) ve_int (ve_bin o_add (ve_ix (be_var rfl (.inl (by kernel_rfl))) ve_int) ve_int))
  (us_cons (u_asg sc_l_law_take.nd rfl (.inl (by kernel_rfl)) (ve_bin o_mod (ve_t1 c_int (gl_ (by kernel_rfl)) bi.int bt_int (be_ve (ve_bin o_mul (ve_bin o_add (ve_ix (be_var rfl (.inl (by kernel_rfl))) ve_int) (ve_bin o_mul ve_int (ve_ix (be_var rfl (.inl (by kernel_rfl))) ve_int))) (ve_bin o_add ve_int (ve_ix (be_var rfl (.inl (by kernel_rfl))) ve_int))))) ve_int))
  (us_cons (u_asg sc_l_law_take.nd rfl (.inl (by kernel_rfl)) (ve_bin o_add (ve_bin o_mod (ve_t1 c_int (gl_ (by kernel_rfl)) bi.int bt_int (be_var rfl (.inl (by kernel_rfl)))) ve_int) ve_int))
  (us_cons (u_asg sc_l_law_take.nd rfl (.inl (by kernel_rfl)) (ve_bin o_mod (ve_t1 c_int (gl_ (by kernel_rfl)) bi.int bt_int (be_ve (ve_bin o_mul (ve_bin o_add (ve_bin o_add (ve_var rfl (.inl (by kernel_rfl))) (ve_ix (be_var rfl (.inl (by kernel_rfl))) ve_int)) (ve_bin o_div (ve_ix (be_var rfl (.inl (by kernel_rfl))) ve_int) ve_int)) (ve_var rfl (.inl (by kernel_rfl)))))) ve_int))
  (us_one (u_ret (ve_bin o_mod (ve_t1 c_int (gl_ (by kernel_rfl)) bi.int bt_int (be_ve (ve_bin o_div (ve_bin o_mod (ve_t1 c_int (gl_ (by kernel_rfl)) bi.int bt_int (be_ve (ve_bin o_add (ve_bin o_mul (ve_var rfl (.inl (by kernel_rfl))) ve_int) (ve_var rfl (.inl (by kernel_rfl)))))) ve_int) ve_int))) (ve_var rfl (.inl (by kernel_rfl)))))))))))
theorem Fd_l_law_take (bi : Bi mg) (F : ∃ f fd, FunD K "_law_take" "_law_take" (defArgs s__law_take) (defBody s__law_take) (defScope s__law_take) [] [] f fd ∧ mg "_law_take" = some (.ref f)) : Fd P w K mg base C "_law_take" true 2 1 D_take :=
  let ⟨f, fd, h, gm⟩ := F; fd_take h gm sc_l_law_take (h.bindsN fun _ _ _ _ _ _ us hl => match us, hl with | [_, _], _ => rfl) rfl rfl (fun a cdv A outer s Z H _ E hr => V_l_law_take bi a f cdv A outer s Z H E hr) take_ok
/-! _law_cells -/
abbrev N_l_law_cells : List PySem.Str := ["script", "most", "cells", "k", "cell", "at"]
def B_l_law_cells : Ev.Env → R Flw :=
  (sCons (sNew 2 (nOr (nUn seqOf (eSl (bVar 0) pNo (pAt (eVar 1)))) (nLst (aCons (eC (.int 0)) aNil))))
  (sCons (sFor (.tup [3, 4]) (iEnu (aCons (eSl (bVar 0) (pAt (eVar 1)) (pAt (eC (.int 63)))) aNil)) (sCons (sAsg 5 (eBin modD (eUn intD (bVar 3)) (eUn lenD (bVar 2))))
  (sSet 2 (eVar 5) (eBin addD (eBin ixD (bVar 2) (eVar 5)) (eBin mulD (eVar 4) (eBin addD (eVar 3) (eC (.int 2))))))))
  (sFrz [2] (sRet (eVar 2)))))
def D_l_law_cells : List D → R D := fnD 2 4 B_l_law_cells
theorem sc_l_law_cells : FnScope N_l_law_cells ["script", "most"] (defScope s__law_cells) := ⟨rfl, rfl, rfl, by decide +kernel, rfl, by decide +kernel, by decide +kernel⟩
theorem V_l_law_cells (bi : Bi mg)  (r : Option Addr) (f : Addr) (cdv : Value) (A : Around) (outer : List PySem.Env) (s : Shared) (Z H : Hp) (E : XK) (hr : Room 0 (A.deeper (envOfC "_law_cells" (defScope s__law_cells) s.heap.objs.size f cdv))) :
    VSs ⟨r, C⟩ (WOf E) Z H (cxOf (L2.CX P w) P w K mg base N_l_law_cells "_law_cells" (defScope s__law_cells) f cdv A outer s H E) (defBody s__law_cells) B_l_law_cells :=
  (vss_cons (vs_new sc_l_law_cells.nd rfl (.inl (by kernel_rfl)) (ne_or (ne_t1 c_list (gl_ (by kernel_rfl)) bi.list bt_list (be_ve (ve_slice (be_var rfl (.inl (by kernel_rfl))) oe_no (oe_at (ve_var rfl (.inl (by kernel_rfl))))))) (ne_lst (ae_cons ve_int ae_nil))))
  (vss_cons (vs_for passesC rfl (ie_enum (gl_ (by kernel_rfl)) bi.enumerate (ae_cons (ve_slice (be_var rfl (.inl (by kernel_rfl))) (oe_at (ve_var rfl (.inl (by kernel_rfl)))) (oe_at ve_int)) ae_nil)) (tg_tup rfl (tgs_cons sc_l_law_cells.nd rfl (.inl (by kernel_rfl)) (tgs_cons sc_l_law_cells.nd rfl (.inl (by kernel_rfl)) tgs_nil))) (vss_cons (vs_asg sc_l_law_cells.nd rfl (.inl (by kernel_rfl)) (ve_bin o_mod (ve_t1 c_int (gl_ (by kernel_rfl)) bi.int bt_int (be_var rfl (.inl (by kernel_rfl)))) (ve_b1 c_len (gl_ (by kernel_rfl)) bi.len bt_len (be_var rfl (.inl (by kernel_rfl))))))
  (vss_one (vs_set rfl (.inl (by kernel_rfl)) (ve_var rfl (.inl (by kernel_rfl))) (ve_bin o_add (ve_ix (be_var rfl (.inl (by kernel_rfl))) (ve_var rfl (.inl (by kernel_rfl)))) (ve_bin o_mul (ve_var rfl (.inl (by kernel_rfl))) (ve_bin o_add (ve_var rfl (.inl (by kernel_rfl))) ve_int)))))))
  (vss_one (vs_frz [2] (vs_ret (ve_var rfl (.inl (by kernel_rfl))))))))
theorem Fd_l_law_cells (bi : Bi mg)  (F : ∃ f fd, FunD K "_law_cells" "_law_cells" (defArgs s__law_cells) (defBody s__law_cells) (defScope s__law_cells) [] [] f fd ∧ mg "_law_cells" = some (.ref f)) : Fd P w K mg base C "_law_cells" false 2 1 D_l_law_cells :=
  let ⟨f, fd, h, gm⟩ := F; fd_of h gm sc_l_law_cells (h.bindsN fun _ _ _ _ _ _ us hl => match us, hl with | [_, _], _ => rfl) rfl rfl fun r cdv A outer s Z H E hu1 hr => V_l_law_cells bi  r f cdv A outer s Z H E hr
/-! _law_same -/
abbrev N_l_law_same : List PySem.Str := ["got", "goal", "mine", "own"]
def B_l_law_same (dSelf : List D → R D) : Ev.Env → R Flw :=
  (sCons (sIf (eT (eIsAny [.list, .tuple] (bVar 1))) (sCons (sIf (tOr (eT (eBin neOp (eIs1 .list (bVar 0)) (eIs1 .list (bVar 1)))) (eT (eBin neOp (eIs1 .tuple (bVar 0)) (eIs1 .tuple (bVar 1))))) (sRet (eC (.bool false))) sNil)
  (sRet (vAnd (eBin eqOp (eUn lenD (bVar 0)) (eUn lenD (bVar 1))) (eUn allD (eN (nLc [2, 3] (.tup [2, 3]) (iZp (aCons (eVar 0) (aCons (eVar 1) aNil))) cYes (eCall dSelf (aCons (eVar 2) (aCons (eVar 3) aNil))))))))) sNil)
  (sCons (sIf (tOr (eT (eIsN (eVar 1))) (eT (eIsAny [.bool, .str] (bVar 1)))) (sRet (vAnd (eBin eqOp (eVar 0) (eVar 1)) (vAnd (eBin eqOp (eIs1 .str (bVar 0)) (eIs1 .str (bVar 1))) (vAnd (eBin eqOp (eIs1 .bool (bVar 0)) (eIs1 .bool (bVar 1))) (eBin eqOp (eIsN (eVar 0)) (eIsN (eVar 1))))))) sNil)
  (sRet (vAnd (eIs1 .int (bVar 0)) (vAnd (vNot (eIs1 .bool (bVar 0))) (eBin eqOp (eVar 0) (eVar 1)))))))
def Dn_l_law_same : Nat → List D → R D
  | 0 => fun _ => .fail
  | k + 1 => fnD 2 2 (B_l_law_same (Dn_l_law_same k))
theorem sc_l_law_same : FnScope N_l_law_same ["got", "goal"] (defScope s__law_same) := ⟨rfl, rfl, rfl, by decide +kernel, rfl, by decide +kernel, by decide +kernel⟩
theorem V_l_law_same (bi : Bi mg)  (k : Nat) (F_l_law_same : Fd P w K mg base C "_law_same" false 2 (1 + k) (Dn_l_law_same k)) (r : Option Addr) (f : Addr) (cdv : Value) (A : Around) (outer : List PySem.Env) (s : Shared) (Z H : Hp) (E : XK) (hr : Room (1 + k) (A.deeper (envOfC "_law_same" (defScope s__law_same) s.heap.objs.size f cdv))) :
    VSs ⟨r, C⟩ (WOf E) Z H (cxOf (L2.CX P w) P w K mg base N_l_law_same "_law_same" (defScope s__law_same) f cdv A outer s H E) (defBody s__law_same) (B_l_law_same (Dn_l_law_same k)) :=
  (vss_cons (vs_if (te_val (ve_isiT (gl_ (by kernel_rfl)) bi.isinstance (cl_cons .list (gl_ (by kernel_rfl)) bi.list bt_list (cl_cons .tuple (gl_ (by kernel_rfl)) bi.tuple bt_tuple cl_nil)) (be_var rfl (.inl (by kernel_rfl))))) (vss_cons (vs_if (te_w (we_or (te_cmp (o_ne hr.units) (ve_isi .list (gl_ (by kernel_rfl)) bi.isinstance (gl_ (by kernel_rfl)) bi.list bt_list (be_var rfl (.inl (by kernel_rfl)))) (ve_isi .list (gl_ (by kernel_rfl)) bi.isinstance (gl_ (by kernel_rfl)) bi.list bt_list (be_var rfl (.inl (by kernel_rfl))))) (we_or1 (te_cmp (o_ne hr.units) (ve_isi .tuple (gl_ (by kernel_rfl)) bi.isinstance (gl_ (by kernel_rfl)) bi.tuple bt_tuple (be_var rfl (.inl (by kernel_rfl)))) (ve_isi .tuple (gl_ (by kernel_rfl)) bi.isinstance (gl_ (by kernel_rfl)) bi.tuple bt_tuple (be_var rfl (.inl (by kernel_rfl)))))))) (vss_one (vs_ret ve_bl)) vss_nil)
  (vss_one (vs_ret (ve_and (ve_cmp (o_eq hr.units) (ve_b1 c_len (gl_ (by kernel_rfl)) bi.len bt_len (be_var rfl (.inl (by kernel_rfl)))) (ve_b1 c_len (gl_ (by kernel_rfl)) bi.len bt_len (be_var rfl (.inl (by kernel_rfl))))) (ve_one (ve_b1 (c_all rfl) (gl_ (by kernel_rfl)) bi.all bt_all (be_ve (ve_n (ne_lc rfl sc_l_law_same.nd (ie_zip (gl_ (by kernel_rfl)) bi.zip (ae_cons (ve_var rfl (.inl (by kernel_rfl))) (ae_cons (ve_var rfl (.inl (by kernel_rfl))) ae_nil))) (own := [("mine", 2), ("own", 3)]) (blk_of (by kernel_rfl)) (fun _ _ _ _ _ => (tg_tup rfl (tgs_cons sc_l_law_same.nd rfl (.inl (by kernel_rfl)) (hf := .inr (by kernel_rfl)) (tgs_cons sc_l_law_same.nd rfl (.inl (by kernel_rfl)) (hf := .inr (by kernel_rfl)) tgs_nil)))) (fun _ _ _ _ _ => pts_yes) (fun _ _ _ _ _ => (ve_call (hj := by omega) F_l_law_same hr takesB (gl_ (by kernel_rfl)) (ae_cons (ve_var rfl (.inl (by kernel_rfl))) (ae_cons (ve_var rfl (.inl (by kernel_rfl))) ae_nil))))))))))))) vss_nil)
  (vss_cons (vs_if (te_w (we_or (te_isN (ve_var rfl (.inl (by kernel_rfl)))) (we_or1 (te_val (ve_isiT (gl_ (by kernel_rfl)) bi.isinstance (cl_cons .bool (gl_ (by kernel_rfl)) bi.bool bt_bool (cl_cons .str (gl_ (by kernel_rfl)) bi.str bt_str cl_nil)) (be_var rfl (.inl (by kernel_rfl)))))))) (vss_one (vs_ret (ve_and (ve_cmp (o_eq hr.units) (ve_var rfl (.inl (by kernel_rfl))) (ve_var rfl (.inl (by kernel_rfl)))) (ve_and (ve_cmp (o_eq hr.units) (ve_isi .str (gl_ (by kernel_rfl)) bi.isinstance (gl_ (by kernel_rfl)) bi.str bt_str (be_var rfl (.inl (by kernel_rfl)))) (ve_isi .str (gl_ (by kernel_rfl)) bi.isinstance (gl_ (by kernel_rfl)) bi.str bt_str (be_var rfl (.inl (by kernel_rfl))))) (ve_and (ve_cmp (o_eq hr.units) (ve_isi .bool (gl_ (by kernel_rfl)) bi.isinstance (gl_ (by kernel_rfl)) bi.bool bt_bool (be_var rfl (.inl (by kernel_rfl)))) (ve_isi .bool (gl_ (by kernel_rfl)) bi.isinstance (gl_ (by kernel_rfl)) bi.bool bt_bool (be_var rfl (.inl (by kernel_rfl))))) (ve_one (ve_cmp (o_eq hr.units) (ve_isN (ve_var rfl (.inl (by kernel_rfl)))) (ve_isN (ve_var rfl (.inl (by kernel_rfl))))))))))) vss_nil)
  (vss_one (vs_ret (ve_and (ve_isi .int (gl_ (by kernel_rfl)) bi.isinstance (gl_ (by kernel_rfl)) bi.int bt_int (be_var rfl (.inl (by kernel_rfl)))) (ve_and (ve_not (ve_isi .bool (gl_ (by kernel_rfl)) bi.isinstance (gl_ (by kernel_rfl)) bi.bool bt_bool (be_var rfl (.inl (by kernel_rfl))))) (ve_one (ve_cmp (o_eq hr.units) (ve_var rfl (.inl (by kernel_rfl))) (ve_var rfl (.inl (by kernel_rfl)))))))))))
theorem Fn_l_law_same (bi : Bi mg)  (F : ∃ f fd, FunD K "_law_same" "_law_same" (defArgs s__law_same) (defBody s__law_same) (defScope s__law_same) [] [] f fd ∧ mg "_law_same" = some (.ref f)) : ∀ k, Fd P w K mg base C "_law_same" false 2 (1 + k) (Dn_l_law_same k)
  | 0 => let ⟨f, fd, h, gm⟩ := F; fd_never (m := 2) h gm sc_l_law_same (h.bindsN fun _ _ _ _ _ _ us hl => match us, hl with | [_, _], _ => rfl) rfl rfl
  | k + 1 => let ⟨f, fd, h, gm⟩ := F; fd_of h gm sc_l_law_same (h.bindsN fun _ _ _ _ _ _ us hl => match us, hl with | [_, _], _ => rfl) rfl rfl fun r cdv A outer s Z H E hu1 hr => V_l_law_same bi  k (Fn_l_law_same bi  ⟨f, fd, h, gm⟩ k) r f cdv A outer s Z H E hr
/-! _law_all -/
abbrev N_l_law_all : List PySem.Str := ["most", "found", "k", "inner", "outer", "middle", "own"]
def B_l_law_all (dSelf : List D → R D) : Ev.Env → R Flw :=
  (sCons (sIf (eT (eBin eqOp (eVar 0) (eC (.int 0)))) (sRet (eN (nLst (aCons (eTup aNil) aNil)))) sNil)
  (sCons (sNew 1 (nLst aNil))
  (sCons (sFor (.one 2) (iRng rng1 (aCons (eVar 0) aNil)) (sFor (.one 3) (iAny (eCall dSelf (aCons (eVar 2) aNil))) (sFor (.one 4) (iAny (eCall dSelf (aCons (eBin subD (eBin subD (eVar 0) (eC (.int 1))) (eVar 2)) aNil))) (sCons (sAsg 5 (eUn tupD (eN (nLc [6] (.one 6) (iAny (eVar 3)) cYes (eBin addD (eVar 6) (eC (.int 1)))))))
  (sApp 1 (eBin addD (eBin addD (eBin addD (eTup (aCons (eBin addD (eBin mulD (eC (.int 2)) (eVar 2)) (eC (.int 1))) aNil)) (eVar 5)) (eTup (aCons (eC (.int 0)) aNil))) (eUn tupD (eN (nLc [6] (.one 6) (iAny (eVar 4)) cYes (eBin addD (eBin addD (eVar 6) (eBin mulD (eC (.int 2)) (eVar 2))) (eC (.int 2))))))))))))
  (sRet (eN (nUn sortD (bVar 1)))))))
def Dn_l_law_all : Nat → List D → R D
  | 0 => fun _ => .fail
  | k + 1 => fnD 1 6 (B_l_law_all (Dn_l_law_all k))
theorem sc_l_law_all : FnScope N_l_law_all ["most"] (defScope s__law_all) := ⟨rfl, rfl, rfl, by decide +kernel, rfl, by decide +kernel, by decide +kernel⟩
theorem V_l_law_all (bi : Bi mg)  (k : Nat) (F_l_law_all : Fd P w K mg base C "_law_all" false 1 (1 + k) (Dn_l_law_all k)) (r : Option Addr) (f : Addr) (cdv : Value) (A : Around) (outer : List PySem.Env) (s : Shared) (Z H : Hp) (E : XK) (hr : Room (1 + k) (A.deeper (envOfC "_law_all" (defScope s__law_all) s.heap.objs.size f cdv))) :
    VSs ⟨r, C⟩ (WOf E) Z H (cxOf (L2.CX P w) P w K mg base N_l_law_all "_law_all" (defScope s__law_all) f cdv A outer s H E) (defBody s__law_all) (B_l_law_all (Dn_l_law_all k)) :=
  (vss_cons (vs_if (te_cmp (o_eq hr.units) (ve_var rfl (.inl (by kernel_rfl))) ve_int) (vss_one (vs_ret (ve_n (ne_lst (ae_cons (ve_tup ae_nil) ae_nil))))) vss_nil)
  (vss_cons (vs_new sc_l_law_all.nd rfl (.inl (by kernel_rfl)) (ne_lst ae_nil))
  (vss_cons (vs_for passesC rfl (ie_rng1 (gl_ (by kernel_rfl)) bi.range (ae_cons (ve_var rfl (.inl (by kernel_rfl))) ae_nil)) (tg_one sc_l_law_all.nd rfl (.inr (by kernel_rfl))) (vss_one (vs_for passesC rfl (ie_any (ve_call (hj := by omega) F_l_law_all hr takesC (gl_ (by kernel_rfl)) (ae_cons (ve_var rfl (.inr (.inl (by kernel_rfl)))) ae_nil))) (tg_one sc_l_law_all.nd rfl (.inl (by kernel_rfl))) (vss_one (vs_for passesC rfl (ie_any (ve_call (hj := by omega) F_l_law_all hr takesC (gl_ (by kernel_rfl)) (ae_cons (ve_bin o_sub (ve_bin o_sub (ve_var rfl (.inl (by kernel_rfl))) ve_int) (ve_var rfl (.inr (.inl (by kernel_rfl))))) ae_nil))) (tg_one sc_l_law_all.nd rfl (.inl (by kernel_rfl))) (vss_cons (vs_asg sc_l_law_all.nd rfl (.inl (by kernel_rfl)) (ve_t1 c_tup (gl_ (by kernel_rfl)) bi.tuple bt_tuple (be_ve (ve_n (ne_lc rfl sc_l_law_all.nd (ie_any (ve_var rfl (.inl (by kernel_rfl)))) (own := [("own", 6)]) (blk_of (by kernel_rfl)) (fun _ _ _ _ _ => (tg_one sc_l_law_all.nd rfl (.inl (by kernel_rfl)) (hf := .inr (by kernel_rfl)))) (fun _ _ _ _ _ => pts_yes) (fun _ _ _ _ _ => (ve_bin o_add (ve_var rfl (.inl (by kernel_rfl))) ve_int)))))))
  (vss_one (vs_app rfl (.inl (by kernel_rfl)) (ve_bin o_add (ve_bin o_add (ve_bin o_add (ve_tup (ae_cons (ve_bin o_add (ve_bin o_mul ve_int (ve_var rfl (.inr (.inl (by kernel_rfl))))) ve_int) ae_nil)) (ve_var rfl (.inl (by kernel_rfl)))) (ve_tup (ae_cons ve_int ae_nil))) (ve_t1 c_tup (gl_ (by kernel_rfl)) bi.tuple bt_tuple (be_ve (ve_n (ne_lc rfl sc_l_law_all.nd (ie_any (ve_var rfl (.inl (by kernel_rfl)))) (own := [("own", 6)]) (blk_of (by kernel_rfl)) (fun _ _ _ _ _ => (tg_one sc_l_law_all.nd rfl (.inl (by kernel_rfl)) (hf := .inr (by kernel_rfl)))) (fun _ _ _ _ _ => pts_yes) (fun _ _ _ _ _ => (ve_bin o_add (ve_bin o_add (ve_var rfl (.inl (by kernel_rfl))) (ve_bin o_mul ve_int (ve_var rfl (.inr (.inl (by kernel_rfl)))))) ve_int)))))))))))))))
  (vss_one (vs_ret (ve_n (ne_b1 (c_sorted (hu hr)) (gl_ (by kernel_rfl)) bi.sorted bt_sorted (be_var rfl (.inl (by kernel_rfl))))))))))
theorem Fn_l_law_all (bi : Bi mg)  (F : ∃ f fd, FunD K "_law_all" "_law_all" (defArgs s__law_all) (defBody s__law_all) (defScope s__law_all) [] [] f fd ∧ mg "_law_all" = some (.ref f)) : ∀ k, Fd P w K mg base C "_law_all" false 1 (1 + k) (Dn_l_law_all k)
  | 0 => let ⟨f, fd, h, gm⟩ := F; fd_never (m := 6) h gm sc_l_law_all (h.bindsN fun _ _ _ _ _ _ us hl => match us, hl with | [_], _ => rfl) rfl rfl
  | k + 1 => let ⟨f, fd, h, gm⟩ := F; fd_of h gm sc_l_law_all (h.bindsN fun _ _ _ _ _ _ us hl => match us, hl with | [_], _ => rfl) rfl rfl fun r cdv A outer s Z H E hu1 hr => V_l_law_all bi  k (Fn_l_law_all bi  ⟨f, fd, h, gm⟩ k) r f cdv A outer s Z H E hr
/-! _law_choose -/
abbrev N_l_law_choose : List PySem.Str := ["most", "some", "found", "k"]
def B_l_law_choose : Ev.Env → R Flw :=
  (sCons (sIf (tOr (eT (eBin ltOp (eVar 1) (eC (.int 0)))) (eT (eBin gtOp (eVar 1) (eVar 0)))) (sRet (eC (.int 0))) sNil)
  (sCons (sAsg 2 (eC (.int 1)))
  (sCons (sFor (.one 3) (iRng rng1 (aCons (eVar 1) aNil)) (sAsg 2 (eBin divD (eBin mulD (eVar 2) (eBin subD (eVar 0) (eVar 3))) (eBin addD (eVar 3) (eC (.int 1))))))
  (sRet (eVar 2)))))
def D_l_law_choose : List D → R D := fnD 2 2 B_l_law_choose
theorem sc_l_law_choose : FnScope N_l_law_choose ["most", "some"] (defScope s__law_choose) := ⟨rfl, rfl, rfl, by decide +kernel, rfl, by decide +kernel, by decide +kernel⟩
theorem V_l_law_choose (bi : Bi mg)  (r : Option Addr) (f : Addr) (cdv : Value) (A : Around) (outer : List PySem.Env) (s : Shared) (Z H : Hp) (E : XK) (hr : Room 0 (A.deeper (envOfC "_law_choose" (defScope s__law_choose) s.heap.objs.size f cdv))) :
    VSs ⟨r, C⟩ (WOf E) Z H (cxOf (L2.CX P w) P w K mg base N_l_law_choose "_law_choose" (defScope s__law_choose) f cdv A outer s H E) (defBody s__law_choose) B_l_law_choose :=
  (vss_cons (vs_if (te_w (we_or (te_cmp o_lt (ve_var rfl (.inl (by kernel_rfl))) ve_int) (we_or1 (te_cmp o_gt (ve_var rfl (.inl (by kernel_rfl))) (ve_var rfl (.inl (by kernel_rfl))))))) (vss_one (vs_ret ve_int)) vss_nil)
  (vss_cons (vs_asg sc_l_law_choose.nd rfl (.inl (by kernel_rfl)) ve_int)
  (vss_cons (vs_for passesC rfl (ie_rng1 (gl_ (by kernel_rfl)) bi.range (ae_cons (ve_var rfl (.inl (by kernel_rfl))) ae_nil)) (tg_one sc_l_law_choose.nd rfl (.inl (by kernel_rfl))) (vss_one (vs_asg sc_l_law_choose.nd rfl (.inl (by kernel_rfl)) (ve_bin o_div (ve_bin o_mul (ve_var rfl (.inl (by kernel_rfl))) (ve_bin o_sub (ve_var rfl (.inl (by kernel_rfl))) (ve_var rfl (.inl (by kernel_rfl))))) (ve_bin o_add (ve_var rfl (.inl (by kernel_rfl))) ve_int)))))
  (vss_one (vs_ret (ve_var rfl (.inl (by kernel_rfl))))))))
theorem Fd_l_law_choose (bi : Bi mg)  (F : ∃ f fd, FunD K "_law_choose" "_law_choose" (defArgs s__law_choose) (defBody s__law_choose) (defScope s__law_choose) [] [] f fd ∧ mg "_law_choose" = some (.ref f)) : Fd P w K mg base C "_law_choose" false 2 1 D_l_law_choose :=
  let ⟨f, fd, h, gm⟩ := F; fd_of h gm sc_l_law_choose (h.bindsN fun _ _ _ _ _ _ us hl => match us, hl with | [_, _], _ => rfl) rfl rfl fun r cdv A outer s Z H E hu1 hr => V_l_law_choose bi  r f cdv A outer s Z H E hr
/-! _law_turn -/
abbrev N_l_law_turn : List PySem.Str := ["arrangement", "found", "person", "mate"]
def B_l_law_turn : Ev.Env → R Flw :=
  (sCons (sNew 1 (nBin repD (eN (nLst (aCons (eC (.int 0)) aNil))) (eUn lenD (bVar 0))))
  (sCons (sFor (.tup [2, 3]) (iEnu (aCons (eVar 0) aNil)) (sSet 1 (eBin modD (eUn intD (eBin addD (eVar 2) (eC (.int 1)))) (eUn lenD (bVar 1))) (eBin modD (eUn intD (eBin addD (eVar 3) (eC (.int 1)))) (eUn lenD (bVar 1)))))
  (sRet (eUn tupD (bVar 1)))))
def D_l_law_turn : List D → R D := fnD 1 3 B_l_law_turn
theorem sc_l_law_turn : FnScope N_l_law_turn ["arrangement"] (defScope s__law_turn) := ⟨rfl, rfl, rfl, by decide +kernel, rfl, by decide +kernel, by decide +kernel⟩
theorem V_l_law_turn (bi : Bi mg)  (r : Option Addr) (f : Addr) (cdv : Value) (A : Around) (outer : List PySem.Env) (s : Shared) (Z H : Hp) (E : XK) (hr : Room 0 (A.deeper (envOfC "_law_turn" (defScope s__law_turn) s.heap.objs.size f cdv))) :
    VSs ⟨r, C⟩ (WOf E) Z H (cxOf (L2.CX P w) P w K mg base N_l_law_turn "_law_turn" (defScope s__law_turn) f cdv A outer s H E) (defBody s__law_turn) B_l_law_turn :=
  (vss_cons (vs_new sc_l_law_turn.nd rfl (.inl (by kernel_rfl)) (ne_bin n_mul (ve_n (ne_lst (ae_cons ve_int ae_nil))) (ve_b1 c_len (gl_ (by kernel_rfl)) bi.len bt_len (be_var rfl (.inl (by kernel_rfl))))))
  (vss_cons (vs_for passesC rfl (ie_enum (gl_ (by kernel_rfl)) bi.enumerate (ae_cons (ve_var rfl (.inl (by kernel_rfl))) ae_nil)) (tg_tup rfl (tgs_cons sc_l_law_turn.nd rfl (.inl (by kernel_rfl)) (tgs_cons sc_l_law_turn.nd rfl (.inl (by kernel_rfl)) tgs_nil))) (vss_one (vs_set rfl (.inl (by kernel_rfl)) (ve_bin o_mod (ve_t1 c_int (gl_ (by kernel_rfl)) bi.int bt_int (be_ve (ve_bin o_add (ve_var rfl (.inl (by kernel_rfl))) ve_int))) (ve_b1 c_len (gl_ (by kernel_rfl)) bi.len bt_len (be_var rfl (.inl (by kernel_rfl))))) (ve_bin o_mod (ve_t1 c_int (gl_ (by kernel_rfl)) bi.int bt_int (be_ve (ve_bin o_add (ve_var rfl (.inl (by kernel_rfl))) ve_int))) (ve_b1 c_len (gl_ (by kernel_rfl)) bi.len bt_len (be_var rfl (.inl (by kernel_rfl))))))))
  (vss_one (vs_ret (ve_t1 c_tup (gl_ (by kernel_rfl)) bi.tuple bt_tuple (be_var rfl (.inl (by kernel_rfl))))))))
theorem Fd_l_law_turn (bi : Bi mg)  (F : ∃ f fd, FunD K "_law_turn" "_law_turn" (defArgs s__law_turn) (defBody s__law_turn) (defScope s__law_turn) [] [] f fd ∧ mg "_law_turn" = some (.ref f)) : Fd P w K mg base C "_law_turn" false 1 1 D_l_law_turn :=
  let ⟨f, fd, h, gm⟩ := F; fd_of h gm sc_l_law_turn (h.bindsN fun _ _ _ _ _ _ us hl => match us, hl with | [_], _ => rfl) rfl rfl fun r cdv A outer s Z H E hu1 hr => V_l_law_turn bi  r f cdv A outer s Z H E hr
/-! _law_heaps -/
abbrev N_l_law_heaps : List PySem.Str := ["every", "size", "left", "found", "own", "heap", "here", "lap", "far"]
def B_l_law_heaps : Ev.Env → R Flw :=
  (sCons (sPar [2, 3] (pV (eN (nUn seqOf (bVar 0))) (pN (nLst aNil) pNil)))
  (sCons (sFor (.one 4) (iAny (eVar 0)) (sIf (eT (eBin inOp (eVar 4) (bVar 2))) (sCons (sPar [5, 6] (pN (nLst aNil) (pV (eVar 4) pNil)))
  (sCons (sFor (.one 7) (iRng rng1 (aCons (eBin mulD (eC (.int 2)) (eVar 1)) aNil)) (sCons (sIf (eT (eBin ninOp (eVar 6) (bVar 5))) (sApp 5 (eVar 6)) sNil)
  (sAsg 6 (eCall D_l_law_turn (aCons (eVar 6) aNil)))))
  (sCons (sApp 3 (eN (nUn sortD (bVar 5))))
  (sFzA [2] (sNew 2 (nLc [8] (.one 8) (iAny (eVar 2)) (eT (eBin ninOp (eVar 8) (bVar 5))) (eVar 8))))))) sNil))
  (sFrz [3] (sRet (eVar 3)))))
def D_l_law_heaps : List D → R D := fnD 2 7 B_l_law_heaps
theorem sc_l_law_heaps : FnScope N_l_law_heaps ["every", "size"] (defScope s__law_heaps) := ⟨rfl, rfl, rfl, by decide +kernel, rfl, by decide +kernel, by decide +kernel⟩
theorem V_l_law_heaps (bi : Bi mg) (F_l_law_turn : Fd P w K mg base C "_law_turn" false 1 1 D_l_law_turn) (r : Option Addr) (f : Addr) (cdv : Value) (A : Around) (outer : List PySem.Env) (s : Shared) (Z H : Hp) (E : XK) (hr : Room 1 (A.deeper (envOfC "_law_heaps" (defScope s__law_heaps) s.heap.objs.size f cdv))) :
    VSs ⟨r, C⟩ (WOf E) Z H (cxOf (L2.CX P w) P w K mg base N_l_law_heaps "_law_heaps" (defScope s__law_heaps) f cdv A outer s H E) (defBody s__law_heaps) B_l_law_heaps :=
  (vss_cons (vs_par2 rfl sc_l_law_heaps.nd rfl rfl (by kernel_rfl) (by kernel_rfl) (ap_v (ve_n (ne_t1 c_list (gl_ (by kernel_rfl)) bi.list bt_list (be_var rfl (.inl (by kernel_rfl))))) (ap_n (ne_lst ae_nil) ap_nil)) (by kernel_rfl))
  (vss_cons (vs_for passesC rfl (ie_any (ve_var rfl (.inl (by kernel_rfl)))) (tg_one sc_l_law_heaps.nd rfl (.inl (by kernel_rfl))) (vss_one (vs_if (te_in (hu hr) (ve_var rfl (.inl (by kernel_rfl))) (be_var rfl (.inl (by kernel_rfl)))) (vss_cons (vs_parT rfl (tgs_cons sc_l_law_heaps.nd rfl (.inr (by kernel_rfl)) (tgs_cons sc_l_law_heaps.nd rfl (.inl (by kernel_rfl)) tgs_nil)) (ap_n (ne_lst ae_nil) (ap_v (ve_var rfl (.inl (by kernel_rfl))) ap_nil)))
  (vss_cons (vs_for passesC rfl (ie_rng1 (gl_ (by kernel_rfl)) bi.range (ae_cons (ve_bin o_mul ve_int (ve_var rfl (.inl (by kernel_rfl)))) ae_nil)) (tg_one sc_l_law_heaps.nd rfl (.inl (by kernel_rfl))) (vss_cons (vs_if (te_nin (hu hr) (ve_var rfl (.inl (by kernel_rfl))) (be_var rfl (.inr (.inl (by kernel_rfl))))) (vss_one (vs_app rfl (.inr (.inl (by kernel_rfl))) (ve_var rfl (.inl (by kernel_rfl))))) vss_nil)
  (vss_one (vs_asg sc_l_law_heaps.nd rfl (.inl (by kernel_rfl)) (ve_call F_l_law_turn hr takesC (gl_ (by kernel_rfl)) (ae_cons (ve_var rfl (.inl (by kernel_rfl))) ae_nil))))))
  (vss_cons (vs_app rfl (.inl (by kernel_rfl)) (ve_n (ne_b1 (c_sorted (hu hr)) (gl_ (by kernel_rfl)) bi.sorted bt_sorted (be_var rfl (.inr (.inl (by kernel_rfl)))))))
  (vss_one (vs_frzA [2] (vs_lcNew rfl sc_l_law_heaps.nd rfl (by kernel_rfl) (by kernel_rfl) (ie_any (ve_var rfl (.inl (by kernel_rfl)))) (own := [("far", 8)]) (blk_of (by kernel_rfl)) (fun _ _ _ _ _ => (tg_one sc_l_law_heaps.nd rfl (.inl (by kernel_rfl)) (hf := .inr (by kernel_rfl)))) (fun _ _ _ _ _ => (pts_if (te_nin (hu hr) (ve_var rfl (.inl (by kernel_rfl))) (be_var rfl (.inr (.inl (by kernel_rfl))))))) (fun _ _ _ _ _ => (ve_var rfl (.inl (by kernel_rfl)))))))))) vss_nil)))
  (vss_one (vs_frz [3] (vs_ret (ve_var rfl (.inl (by kernel_rfl))))))))
theorem Fd_l_law_heaps (bi : Bi mg) (F_l_law_turn : Fd P w K mg base C "_law_turn" false 1 1 D_l_law_turn) (F : ∃ f fd, FunD K "_law_heaps" "_law_heaps" (defArgs s__law_heaps) (defBody s__law_heaps) (defScope s__law_heaps) [] [] f fd ∧ mg "_law_heaps" = some (.ref f)) : Fd P w K mg base C "_law_heaps" false 2 2 D_l_law_heaps :=
  let ⟨f, fd, h, gm⟩ := F; fd_of h gm sc_l_law_heaps (h.bindsN fun _ _ _ _ _ _ us hl => match us, hl with | [_, _], _ => rfl) rfl rfl fun r cdv A outer s Z H E hu1 hr => V_l_law_heaps bi F_l_law_turn r f cdv A outer s Z H E hr
/-! _law_few_right -/
abbrev N_l_law_few_right : List PySem.Str := ["urn", "size", "every", "heaps", "sums", "heap", "own", "still", "fixed", "lots", "both", "seats", "one", "two", "other", "got", "area"]
def B_l_law_few_right : Ev.Env → R Flw :=
  (sCons (sAsg 2 (eIf (eT (eBin ltOp (eVar 1) (eC (.int 6)))) (eCall D_all_arrangements (aCons (eBin mulD (eC (.int 2)) (eVar 1)) (aCons (eTup aNil) aNil))) (eCall (Dn_l_law_all 7) (aCons (eVar 1) aNil))))
  (sCons (sAsg 3 (eCall D_l_law_heaps (aCons (eCall (Dn_l_law_all 7) (aCons (eVar 1) aNil)) (aCons (eVar 1) aNil))))
  (sCons (sFzA [4] (sNew 4 (nLc [11] (.one 11) (iRng rng1 (aCons (eBin mulD (eC (.int 2)) (eVar 1)) aNil)) cYes (eCall D_alike_many (aCons (eBin mulD (eC (.int 2)) (eVar 1)) (aCons (eVar 11) aNil))))))
  (sCons (sIf (tOr (eT (eBin neOp (eUn sumD (bVar 4)) (eBin mulD (eBin mulD (eC (.int 2)) (eVar 1)) (eUn lenD (bVar 3))))) (eT (eBin neOp (eVar 4) (eN (nLc [11] (.one 11) (iRng rng1 (aCons (eBin mulD (eC (.int 2)) (eVar 1)) aNil)) cYes (eUn lenD (eN (nLc [6] (.one 6) (iAny (eVar 2)) (eT (eBin eqOp (eCall D_turned (aCons (eVar 6) (aCons (eVar 11) aNil))) (eVar 6))) (eVar 6))))))))) (sRet (eC (.bool false))) sNil)
  (sCons (sFor (.one 5) (iAny (eVar 3)) (sFor (.one 6) (iAny (eSl (bVar 5) pNo (pAt (eC (.int 3))))) (sIf (tOr (eT (eBin neOp (eCall D_period (aCons (eVar 6) aNil)) (eUn lenD (bVar 5)))) (tOr (eT (eBin neOp (eCall D_turned (aCons (eVar 6) (aCons (eUn lenD (bVar 5)) aNil))) (eVar 6))) (eT (eBin neOp (eN (nUn sortD (eN (nLc [11] (.one 11) (iRng rng1 (aCons (eUn lenD (bVar 5)) aNil)) cYes (eCall D_turned (aCons (eVar 6) (aCons (eVar 11) aNil))))))) (eVar 5))))) (sRet (eC (.bool false))) sNil)))
  (sCons (sFzA [7] (sNew 7 (nLc [6] (.one 6) (iAny (eVar 2)) (eT (eBin eqOp (eCall D_mirrored (aCons (eVar 6) aNil)) (eVar 6))) (eVar 6))))
  (sCons (sIf (eT (eBin neOp (eUn lenD (bVar 7)) (eCall D_l_law_choose (aCons (eVar 1) (aCons (eBin divD (eVar 1) (eC (.int 2))) aNil))))) (sRet (eC (.bool false))) sNil)
  (sCons (sAsg 8 (eUn sumD (eN (nLc [11] (.one 11) (iRng rng1 (aCons (eBin mulD (eC (.int 2)) (eVar 1)) aNil)) cYes (eUn lenD (eN (nLc [6] (.one 6) (iAny (eVar 2)) (eT (eBin eqOp (eCall D_turned (aCons (eCall D_mirrored (aCons (eVar 6) aNil)) (aCons (eVar 11) aNil))) (eVar 6))) (eVar 6))))))))
  (sCons (sNew 9 (nLst aNil))
  (sCons (sFor (.one 5) (iAny (eVar 3)) (sCons (sAsg 10 (eN (nUn sortD (eBin addD (eVar 5) (eN (nLc [6] (.one 6) (iAny (eVar 5)) (eT (eBin ninOp (eCall D_mirrored (aCons (eVar 6) aNil)) (bVar 5))) (eCall D_mirrored (aCons (eVar 6) aNil))))))))
  (sIf (eT (eBin ninOp (eVar 10) (bVar 9))) (sApp 9 (eVar 10)) sNil)))
  (sCons (sIf (eT (eBin neOp (eBin addD (eUn sumD (bVar 4)) (eVar 8)) (eBin mulD (eBin mulD (eC (.int 4)) (eVar 1)) (eUn lenD (bVar 9))))) (sRet (eC (.bool false))) sNil)
  (sCons (sFor (.one 11) (iRng rng2 (aCons (eC (.int 1)) (aCons (eBin addD (eBin mulD (eC (.int 2)) (eVar 1)) (eC (.int 1))) aNil))) (sIf (eT (eBin neOp (eCall D_alike_many (aCons (eBin mulD (eC (.int 2)) (eVar 1)) (aCons (eVar 11) aNil))) (eUn sumD (eN (nLc [5] (.one 5) (iAny (eVar 3)) (eT (eBin eqOp (eBin modD (eUn intD (bVar 11)) (eUn lenD (bVar 5))) (eC (.int 0)))) (eUn lenD (bVar 5))))))) (sRet (eC (.bool false))) sNil))
  (sCons (sAsg 5 (eBin ixD (bVar 3) (eCall D_take (aUrn 0 (aCons (eUn lenD (bVar 3)) aNil)))))
  (sCons (sPar [12, 13] (pV (eBin ixD (bVar 5) (eC (.int 0))) (pV (eBin ixD (bVar 5) (eUn negD (eC (.int 1)))) pNil)))
  (sCons (sIf (eT (eBin neOp (eN (nLc [6] (.one 6) (iAny (eVar 5)) (tOr (eT (eBin neOp (eN (nUn sortD (eN (nLc [16] (.one 16) (iAny (eCall D_areas (aCons (eVar 6) aNil))) cYes (eUn lenD (bVar 16)))))) (eN (nUn sortD (eN (nLc [16] (.one 16) (iAny (eCall D_areas (aCons (eVar 12) aNil))) cYes (eUn lenD (bVar 16)))))))) (eT (eBin neOp (eUn lenD (eCall D_exchanges (aCons (eVar 6) aNil))) (eUn lenD (eCall D_exchanges (aCons (eVar 12) aNil)))))) (eVar 6))) (eN (nLst aNil)))) (sRet (eC (.bool false))) sNil)
  (sCons (sAsg 14 (eBin ixD (bVar 2) (eCall D_take (aUrn 0 (aCons (eUn lenD (bVar 2)) aNil)))))
  (sCons (sAsg 11 (eCall D_take (aUrn 0 (aCons (eBin mulD (eC (.int 2)) (eVar 1)) aNil))))
  (sCons (sAsg 15 (eN (nLst (aCons (eCall D_distance (aCons (eCall D_turned (aCons (eVar 12) (aCons (eVar 11) aNil))) (aCons (eCall D_turned (aCons (eVar 14) (aCons (eVar 11) aNil))) aNil))) (aCons (eUn lenD (eCall D_rings (aCons (eCall D_mirrored (aCons (eVar 13) aNil)) (aCons (eCall D_mirrored (aCons (eVar 14) aNil)) aNil)))) aNil)))))
  (sRet (eCall (Dn_l_law_same 4) (aCons (eVar 15) (aCons (eN (nLst (aCons (eCall D_distance (aCons (eVar 12) (aCons (eVar 14) aNil))) (aCons (eUn lenD (eCall D_rings (aCons (eVar 13) (aCons (eVar 14) aNil)))) aNil)))) aNil))))))))))))))))))))))
def D_l_law_few_right : List D → R D := fnD 2 15 B_l_law_few_right
theorem sc_l_law_few_right : FnScope N_l_law_few_right ["urn", "size"] (defScope s__law_few_right) := ⟨rfl, rfl, rfl, by decide +kernel, rfl, by decide +kernel, by decide +kernel⟩
theorem V_l_law_few_right (bi : Bi mg) (F_all_arrangements : Fd P w K mg base C "all_arrangements" false 2 7 D_all_arrangements) (F_l_law_all : Fd P w K mg base C "_law_all" false 1 8 (Dn_l_law_all 7)) (F_l_law_heaps : Fd P w K mg base C "_law_heaps" false 2 2 D_l_law_heaps) (F_alike_many : Fd P w K mg base C "alike_many" false 2 2 D_alike_many) (F_turned : Fd P w K mg base C "turned" false 2 1 D_turned) (F_period : Fd P w K mg base C "period" false 1 2 D_period) (F_mirrored : Fd P w K mg base C "mirrored" false 1 1 D_mirrored) (F_l_law_choose : Fd P w K mg base C "_law_choose" false 2 1 D_l_law_choose) (F_l_law_take : Fd P w K mg base C "_law_take" true 2 1 D_take) (F_areas : Fd P w K mg base C "areas" false 1 2 D_areas) (F_exchanges : Fd P w K mg base C "exchanges" false 1 3 D_exchanges) (F_rings : Fd P w K mg base C "rings" false 2 2 D_rings) (F_distance : Fd P w K mg base C "distance" false 2 3 D_distance) (F_l_law_same : Fd P w K mg base C "_law_same" false 2 5 (Dn_l_law_same 4)) (r : Option Addr) (hur : r.isSome = true) (f : Addr) (cdv : Value) (A : Around) (outer : List PySem.Env) (s : Shared) (Z H : Hp) (E : XK) (hr : Room 8 (A.deeper (envOfC "_law_few_right" (defScope s__law_few_right) s.heap.objs.size f cdv))) :
    VSs ⟨r, C⟩ (WOf E) Z H (cxOf (L2.CX P w) P w K mg base N_l_law_few_right "_law_few_right" (defScope s__law_few_right) f cdv A outer s H E) (defBody s__law_few_right) B_l_law_few_right :=
  (vss_cons (vs_asg sc_l_law_few_right.nd rfl (.inr (by kernel_rfl)) (ve_if (te_cmp o_lt (ve_var rfl (.inr (.inl (by kernel_rfl)))) ve_int) (ve_call F_all_arrangements hr takesC (gl_ (by kernel_rfl)) (ae_cons (ve_bin o_mul ve_int (ve_var rfl (.inr (.inl (by kernel_rfl))))) (ae_cons (ve_tup ae_nil) ae_nil))) (ve_call F_l_law_all hr takesC (gl_ (by kernel_rfl)) (ae_cons (ve_var rfl (.inr (.inl (by kernel_rfl)))) ae_nil))))
  (vss_cons (vs_asg sc_l_law_few_right.nd rfl (.inl (by kernel_rfl)) (ve_call F_l_law_heaps hr takesC (gl_ (by kernel_rfl)) (ae_cons (ve_call F_l_law_all hr takesC (gl_ (by kernel_rfl)) (ae_cons (ve_var rfl (.inr (.inl (by kernel_rfl)))) ae_nil)) (ae_cons (ve_var rfl (.inr (.inl (by kernel_rfl)))) ae_nil))))
  (vss_cons (vs_frzA [4] (vs_lcNew rfl sc_l_law_few_right.nd rfl (by kernel_rfl) (by kernel_rfl) (ie_rng1 (gl_ (by kernel_rfl)) bi.range (ae_cons (ve_bin o_mul ve_int (ve_var rfl (.inr (.inl (by kernel_rfl))))) ae_nil)) (own := [("seats", 11)]) (blk_of (by kernel_rfl)) (fun _ _ _ _ _ => (tg_one sc_l_law_few_right.nd rfl (.inl (by kernel_rfl)) (hf := .inr (by kernel_rfl)))) (fun _ _ _ _ _ => pts_yes) (fun _ _ _ _ _ => (ve_call F_alike_many hr takesB (gl_ (by kernel_rfl)) (ae_cons (ve_bin o_mul ve_int (ve_var rfl (.inr (.inl (by kernel_rfl))))) (ae_cons (ve_var rfl (.inl (by kernel_rfl))) ae_nil))))))
  (vss_cons (vs_if (te_w (we_or (te_cmp (o_ne hr.units) (ve_b1 (c_sum rfl) (gl_ (by kernel_rfl)) bi.sum bt_sum (be_var rfl (.inl (by kernel_rfl)))) (ve_bin o_mul (ve_bin o_mul ve_int (ve_var rfl (.inr (.inl (by kernel_rfl))))) (ve_b1 c_len (gl_ (by kernel_rfl)) bi.len bt_len (be_var rfl (.inl (by kernel_rfl)))))) (we_or1 (te_cmp (o_ne hr.units) (ve_var rfl (.inl (by kernel_rfl))) (ve_n (ne_lc rfl sc_l_law_few_right.nd (ie_rng1 (gl_ (by kernel_rfl)) bi.range (ae_cons (ve_bin o_mul ve_int (ve_var rfl (.inr (.inl (by kernel_rfl))))) ae_nil)) (own := [("seats", 11)]) (blk_of (by kernel_rfl)) (fun _ _ _ _ _ => (tg_one sc_l_law_few_right.nd rfl (.inr (by kernel_rfl)) (hf := .inl (by kernel_rfl)))) (fun _ _ _ _ _ => pts_yes) (fun _ _ _ _ _ => (ve_b1 c_len (gl_ (by kernel_rfl)) bi.len bt_len (be_ve (ve_n (ne_lc rfl sc_l_law_few_right.nd (ie_any (ve_var rfl (.inr (.inl (by kernel_rfl))))) (own := [("own", 6)]) (blk_of (by kernel_rfl)) (fun _ _ _ _ _ => (tg_one sc_l_law_few_right.nd rfl (.inl (by kernel_rfl)) (hf := .inr (by kernel_rfl)))) (fun _ _ _ _ _ => (pts_if (te_cmp (o_eq hr.units) (ve_call F_turned hr takesB (gl_ (by kernel_rfl)) (ae_cons (ve_var rfl (.inl (by kernel_rfl))) (ae_cons (ve_var rfl (.inr (.inl (by kernel_rfl)))) ae_nil))) (ve_var rfl (.inl (by kernel_rfl)))))) (fun _ _ _ _ _ => (ve_var rfl (.inl (by kernel_rfl))))))))))))))) (vss_one (vs_ret ve_bl)) vss_nil)
  (vss_cons (vs_for passesC rfl (ie_any (ve_var rfl (.inl (by kernel_rfl)))) (tg_one sc_l_law_few_right.nd rfl (.inr (by kernel_rfl))) (vss_one (vs_for passesC rfl (ie_any (ve_slice (be_var rfl (.inr (.inl (by kernel_rfl)))) oe_no (oe_at ve_int))) (tg_one sc_l_law_few_right.nd rfl (.inr (by kernel_rfl))) (vss_one (vs_if (te_w (we_or (te_cmp (o_ne hr.units) (ve_call F_period hr takesC (gl_ (by kernel_rfl)) (ae_cons (ve_var rfl (.inr (.inl (by kernel_rfl)))) ae_nil)) (ve_b1 c_len (gl_ (by kernel_rfl)) bi.len bt_len (be_var rfl (.inr (.inl (by kernel_rfl)))))) (we_or (te_cmp (o_ne hr.units) (ve_call F_turned hr takesC (gl_ (by kernel_rfl)) (ae_cons (ve_var rfl (.inr (.inl (by kernel_rfl)))) (ae_cons (ve_b1 c_len (gl_ (by kernel_rfl)) bi.len bt_len (be_var rfl (.inr (.inl (by kernel_rfl))))) ae_nil))) (ve_var rfl (.inr (.inl (by kernel_rfl))))) (we_or1 (te_cmp (o_ne hr.units) (ve_n (ne_b1 (c_sorted (hu hr)) (gl_ (by kernel_rfl)) bi.sorted bt_sorted (be_ve (ve_n (ne_lc rfl sc_l_law_few_right.nd (ie_rng1 (gl_ (by kernel_rfl)) bi.range (ae_cons (ve_b1 c_len (gl_ (by kernel_rfl)) bi.len bt_len (be_var rfl (.inr (.inl (by kernel_rfl))))) ae_nil)) (own := [("seats", 11)]) (blk_of (by kernel_rfl)) (fun _ _ _ _ _ => (tg_one sc_l_law_few_right.nd rfl (.inl (by kernel_rfl)) (hf := .inr (by kernel_rfl)))) (fun _ _ _ _ _ => pts_yes) (fun _ _ _ _ _ => (ve_call F_turned hr takesB (gl_ (by kernel_rfl)) (ae_cons (ve_var rfl (.inr (.inl (by kernel_rfl)))) (ae_cons (ve_var rfl (.inl (by kernel_rfl))) ae_nil))))))))) (ve_var rfl (.inr (.inl (by kernel_rfl))))))))) (vss_one (vs_ret ve_bl)) vss_nil)))))
  (vss_cons (vs_frzA [7] (vs_lcNew rfl sc_l_law_few_right.nd rfl (by kernel_rfl) (by kernel_rfl) (ie_any (ve_var rfl (.inr (.inl (by kernel_rfl))))) (own := [("own", 6)]) (blk_of (by kernel_rfl)) (fun _ _ _ _ _ => (tg_one sc_l_law_few_right.nd rfl (.inl (by kernel_rfl)) (hf := .inr (by kernel_rfl)))) (fun _ _ _ _ _ => (pts_if (te_cmp (o_eq hr.units) (ve_call F_mirrored hr takesB (gl_ (by kernel_rfl)) (ae_cons (ve_var rfl (.inl (by kernel_rfl))) ae_nil)) (ve_var rfl (.inl (by kernel_rfl)))))) (fun _ _ _ _ _ => (ve_var rfl (.inl (by kernel_rfl))))))
  (vss_cons (vs_if (te_cmp (o_ne hr.units) (ve_b1 c_len (gl_ (by kernel_rfl)) bi.len bt_len (be_var rfl (.inl (by kernel_rfl)))) (ve_call F_l_law_choose hr takesC (gl_ (by kernel_rfl)) (ae_cons (ve_var rfl (.inr (.inl (by kernel_rfl)))) (ae_cons (ve_bin o_div (ve_var rfl (.inr (.inl (by kernel_rfl)))) ve_int) ae_nil)))) (vss_one (vs_ret ve_bl)) vss_nil)
  (vss_cons (vs_asg sc_l_law_few_right.nd rfl (.inl (by kernel_rfl)) (ve_b1 (c_sum rfl) (gl_ (by kernel_rfl)) bi.sum bt_sum (be_ve (ve_n (ne_lc rfl sc_l_law_few_right.nd (ie_rng1 (gl_ (by kernel_rfl)) bi.range (ae_cons (ve_bin o_mul ve_int (ve_var rfl (.inr (.inl (by kernel_rfl))))) ae_nil)) (own := [("seats", 11)]) (blk_of (by kernel_rfl)) (fun _ _ _ _ _ => (tg_one sc_l_law_few_right.nd rfl (.inr (by kernel_rfl)) (hf := .inl (by kernel_rfl)))) (fun _ _ _ _ _ => pts_yes) (fun _ _ _ _ _ => (ve_b1 c_len (gl_ (by kernel_rfl)) bi.len bt_len (be_ve (ve_n (ne_lc rfl sc_l_law_few_right.nd (ie_any (ve_var rfl (.inr (.inl (by kernel_rfl))))) (own := [("own", 6)]) (blk_of (by kernel_rfl)) (fun _ _ _ _ _ => (tg_one sc_l_law_few_right.nd rfl (.inl (by kernel_rfl)) (hf := .inr (by kernel_rfl)))) (fun _ _ _ _ _ => (pts_if (te_cmp (o_eq hr.units) (ve_call F_turned hr takesB (gl_ (by kernel_rfl)) (ae_cons (ve_call F_mirrored hr takesB (gl_ (by kernel_rfl)) (ae_cons (ve_var rfl (.inl (by kernel_rfl))) ae_nil)) (ae_cons (ve_var rfl (.inr (.inl (by kernel_rfl)))) ae_nil))) (ve_var rfl (.inl (by kernel_rfl)))))) (fun _ _ _ _ _ => (ve_var rfl (.inl (by kernel_rfl))))))))))))))
  (vss_cons (vs_new sc_l_law_few_right.nd rfl (.inl (by kernel_rfl)) (ne_lst ae_nil))
  (vss_cons (vs_for passesC rfl (ie_any (ve_var rfl (.inl (by kernel_rfl)))) (tg_one sc_l_law_few_right.nd rfl (.inr (by kernel_rfl))) (vss_cons (vs_asg sc_l_law_few_right.nd rfl (.inl (by kernel_rfl)) (ve_n (ne_b1 (c_sorted (hu hr)) (gl_ (by kernel_rfl)) bi.sorted bt_sorted (be_ve (ve_bin o_add (ve_var rfl (.inr (.inl (by kernel_rfl)))) (ve_n (ne_lc rfl sc_l_law_few_right.nd (ie_any (ve_var rfl (.inr (.inl (by kernel_rfl))))) (own := [("own", 6)]) (blk_of (by kernel_rfl)) (fun _ _ _ _ _ => (tg_one sc_l_law_few_right.nd rfl (.inl (by kernel_rfl)) (hf := .inr (by kernel_rfl)))) (fun _ _ _ _ _ => (pts_if (te_nin (hu hr) (ve_call F_mirrored hr takesB (gl_ (by kernel_rfl)) (ae_cons (ve_var rfl (.inl (by kernel_rfl))) ae_nil)) (be_var rfl (.inr (.inl (by kernel_rfl))))))) (fun _ _ _ _ _ => (ve_call F_mirrored hr takesB (gl_ (by kernel_rfl)) (ae_cons (ve_var rfl (.inl (by kernel_rfl))) ae_nil))))))))))
  (vss_one (vs_if (te_nin (hu hr) (ve_var rfl (.inl (by kernel_rfl))) (be_var rfl (.inl (by kernel_rfl)))) (vss_one (vs_app rfl (.inl (by kernel_rfl)) (ve_var rfl (.inl (by kernel_rfl))))) vss_nil))))
  (vss_cons (vs_if (te_cmp (o_ne hr.units) (ve_bin o_add (ve_b1 (c_sum rfl) (gl_ (by kernel_rfl)) bi.sum bt_sum (be_var rfl (.inl (by kernel_rfl)))) (ve_var rfl (.inl (by kernel_rfl)))) (ve_bin o_mul (ve_bin o_mul ve_int (ve_var rfl (.inr (.inl (by kernel_rfl))))) (ve_b1 c_len (gl_ (by kernel_rfl)) bi.len bt_len (be_var rfl (.inl (by kernel_rfl)))))) (vss_one (vs_ret ve_bl)) vss_nil)
  (vss_cons (vs_for passesC rfl (ie_rng2 (gl_ (by kernel_rfl)) bi.range (ae_cons ve_int (ae_cons (ve_bin o_add (ve_bin o_mul ve_int (ve_var rfl (.inr (.inl (by kernel_rfl))))) ve_int) ae_nil))) (tg_one sc_l_law_few_right.nd rfl (.inr (by kernel_rfl))) (vss_one (vs_if (te_cmp (o_ne hr.units) (ve_call F_alike_many hr takesC (gl_ (by kernel_rfl)) (ae_cons (ve_bin o_mul ve_int (ve_var rfl (.inr (.inl (by kernel_rfl))))) (ae_cons (ve_var rfl (.inr (.inl (by kernel_rfl)))) ae_nil))) (ve_b1 (c_sum rfl) (gl_ (by kernel_rfl)) bi.sum bt_sum (be_ve (ve_n (ne_lc rfl sc_l_law_few_right.nd (ie_any (ve_var rfl (.inl (by kernel_rfl)))) (own := [("heap", 5)]) (blk_of (by kernel_rfl)) (fun _ _ _ _ _ => (tg_one sc_l_law_few_right.nd rfl (.inl (by kernel_rfl)) (hf := .inr (by kernel_rfl)))) (fun _ _ _ _ _ => (pts_if (te_cmp (o_eq hr.units) (ve_bin o_mod (ve_t1 c_int (gl_ (by kernel_rfl)) bi.int bt_int (be_var rfl (.inr (.inl (by kernel_rfl))))) (ve_b1 c_len (gl_ (by kernel_rfl)) bi.len bt_len (be_var rfl (.inl (by kernel_rfl))))) ve_int))) (fun _ _ _ _ _ => (ve_b1 c_len (gl_ (by kernel_rfl)) bi.len bt_len (be_var rfl (.inl (by kernel_rfl)))))))))) (vss_one (vs_ret ve_bl)) vss_nil)))
  (vss_cons (vs_asg sc_l_law_few_right.nd rfl (.inr (by kernel_rfl)) (ve_ix (be_var rfl (.inl (by kernel_rfl))) (ve_callU F_l_law_take hr takesC (gl_ (by kernel_rfl)) (ce_urn rfl (.inl (by kernel_rfl)) (ce_cons (ve_b1 c_len (gl_ (by kernel_rfl)) bi.len bt_len (be_var rfl (.inl (by kernel_rfl)))) ce_nil)) hur)))
  (vss_cons (vs_parT rfl (tgs_cons sc_l_law_few_right.nd rfl (.inr (by kernel_rfl)) (tgs_cons sc_l_law_few_right.nd rfl (.inl (by kernel_rfl)) tgs_nil)) (ap_v (ve_ix (be_var rfl (.inr (.inl (by kernel_rfl)))) ve_int) (ap_v (ve_ix (be_var rfl (.inr (.inl (by kernel_rfl)))) (ve_un o_neg ve_int)) ap_nil)))
  (vss_cons (vs_if (te_cmp (o_ne hr.units) (ve_n (ne_lc rfl sc_l_law_few_right.nd (ie_any (ve_var rfl (.inr (.inl (by kernel_rfl))))) (own := [("own", 6)]) (blk_of (by kernel_rfl)) (fun _ _ _ _ _ => (tg_one sc_l_law_few_right.nd rfl (.inl (by kernel_rfl)) (hf := .inr (by kernel_rfl)))) (fun _ _ _ _ _ => (pts_if (te_w (we_or (te_cmp (o_ne hr.units) (ve_n (ne_b1 (c_sorted (hu hr)) (gl_ (by kernel_rfl)) bi.sorted bt_sorted (be_ve (ve_n (ne_lc rfl sc_l_law_few_right.nd (ie_any (ve_call F_areas hr takesB (gl_ (by kernel_rfl)) (ae_cons (ve_var rfl (.inl (by kernel_rfl))) ae_nil))) (own := [("area", 16)]) (blk_of (by kernel_rfl)) (fun _ _ _ _ _ => (tg_one sc_l_law_few_right.nd rfl (.inl (by kernel_rfl)) (hf := .inr (by kernel_rfl)))) (fun _ _ _ _ _ => pts_yes) (fun _ _ _ _ _ => (ve_b1 c_len (gl_ (by kernel_rfl)) bi.len bt_len (be_var rfl (.inl (by kernel_rfl)))))))))) (ve_n (ne_b1 (c_sorted (hu hr)) (gl_ (by kernel_rfl)) bi.sorted bt_sorted (be_ve (ve_n (ne_lc rfl sc_l_law_few_right.nd (ie_any (ve_call F_areas hr takesB (gl_ (by kernel_rfl)) (ae_cons (ve_var rfl (.inr (.inl (by kernel_rfl)))) ae_nil))) (own := [("area", 16)]) (blk_of (by kernel_rfl)) (fun _ _ _ _ _ => (tg_one sc_l_law_few_right.nd rfl (.inl (by kernel_rfl)) (hf := .inr (by kernel_rfl)))) (fun _ _ _ _ _ => pts_yes) (fun _ _ _ _ _ => (ve_b1 c_len (gl_ (by kernel_rfl)) bi.len bt_len (be_var rfl (.inl (by kernel_rfl))))))))))) (we_or1 (te_cmp (o_ne hr.units) (ve_b1 c_len (gl_ (by kernel_rfl)) bi.len bt_len (be_ve (ve_call F_exchanges hr takesB (gl_ (by kernel_rfl)) (ae_cons (ve_var rfl (.inl (by kernel_rfl))) ae_nil)))) (ve_b1 c_len (gl_ (by kernel_rfl)) bi.len bt_len (be_ve (ve_call F_exchanges hr takesB (gl_ (by kernel_rfl)) (ae_cons (ve_var rfl (.inr (.inl (by kernel_rfl)))) ae_nil)))))))))) (fun _ _ _ _ _ => (ve_var rfl (.inl (by kernel_rfl)))))) (ve_n (ne_lst ae_nil))) (vss_one (vs_ret ve_bl)) vss_nil)
  (vss_cons (vs_asg sc_l_law_few_right.nd rfl (.inl (by kernel_rfl)) (ve_ix (be_var rfl (.inr (.inl (by kernel_rfl)))) (ve_callU F_l_law_take hr takesC (gl_ (by kernel_rfl)) (ce_urn rfl (.inl (by kernel_rfl)) (ce_cons (ve_b1 c_len (gl_ (by kernel_rfl)) bi.len bt_len (be_var rfl (.inr (.inl (by kernel_rfl))))) ce_nil)) hur)))
  (vss_cons (vs_asg sc_l_law_few_right.nd rfl (.inr (by kernel_rfl)) (ve_callU F_l_law_take hr takesC (gl_ (by kernel_rfl)) (ce_urn rfl (.inl (by kernel_rfl)) (ce_cons (ve_bin o_mul ve_int (ve_var rfl (.inr (.inl (by kernel_rfl))))) ce_nil)) hur))
  (vss_cons (vs_asg sc_l_law_few_right.nd rfl (.inl (by kernel_rfl)) (ve_n (ne_lst (ae_cons (ve_call F_distance hr takesC (gl_ (by kernel_rfl)) (ae_cons (ve_call F_turned hr takesC (gl_ (by kernel_rfl)) (ae_cons (ve_var rfl (.inr (.inl (by kernel_rfl)))) (ae_cons (ve_var rfl (.inr (.inl (by kernel_rfl)))) ae_nil))) (ae_cons (ve_call F_turned hr takesC (gl_ (by kernel_rfl)) (ae_cons (ve_var rfl (.inl (by kernel_rfl))) (ae_cons (ve_var rfl (.inr (.inl (by kernel_rfl)))) ae_nil))) ae_nil))) (ae_cons (ve_b1 c_len (gl_ (by kernel_rfl)) bi.len bt_len (be_ve (ve_call F_rings hr takesC (gl_ (by kernel_rfl)) (ae_cons (ve_call F_mirrored hr takesC (gl_ (by kernel_rfl)) (ae_cons (ve_var rfl (.inl (by kernel_rfl))) ae_nil)) (ae_cons (ve_call F_mirrored hr takesC (gl_ (by kernel_rfl)) (ae_cons (ve_var rfl (.inl (by kernel_rfl))) ae_nil)) ae_nil))))) ae_nil)))))
  (vss_one (vs_ret (ve_call F_l_law_same hr takesC (gl_ (by kernel_rfl)) (ae_cons (ve_var rfl (.inl (by kernel_rfl))) (ae_cons (ve_n (ne_lst (ae_cons (ve_call F_distance hr takesC (gl_ (by kernel_rfl)) (ae_cons (ve_var rfl (.inr (.inl (by kernel_rfl)))) (ae_cons (ve_var rfl (.inl (by kernel_rfl))) ae_nil))) (ae_cons (ve_b1 c_len (gl_ (by kernel_rfl)) bi.len bt_len (be_ve (ve_call F_rings hr takesC (gl_ (by kernel_rfl)) (ae_cons (ve_var rfl (.inl (by kernel_rfl))) (ae_cons (ve_var rfl (.inl (by kernel_rfl))) ae_nil))))) ae_nil)))) ae_nil)))))))))))))))))))))))
theorem Fd_l_law_few_right (bi : Bi mg) (F_all_arrangements : Fd P w K mg base C "all_arrangements" false 2 7 D_all_arrangements) (F_l_law_all : Fd P w K mg base C "_law_all" false 1 8 (Dn_l_law_all 7)) (F_l_law_heaps : Fd P w K mg base C "_law_heaps" false 2 2 D_l_law_heaps) (F_alike_many : Fd P w K mg base C "alike_many" false 2 2 D_alike_many) (F_turned : Fd P w K mg base C "turned" false 2 1 D_turned) (F_period : Fd P w K mg base C "period" false 1 2 D_period) (F_mirrored : Fd P w K mg base C "mirrored" false 1 1 D_mirrored) (F_l_law_choose : Fd P w K mg base C "_law_choose" false 2 1 D_l_law_choose) (F_l_law_take : Fd P w K mg base C "_law_take" true 2 1 D_take) (F_areas : Fd P w K mg base C "areas" false 1 2 D_areas) (F_exchanges : Fd P w K mg base C "exchanges" false 1 3 D_exchanges) (F_rings : Fd P w K mg base C "rings" false 2 2 D_rings) (F_distance : Fd P w K mg base C "distance" false 2 3 D_distance) (F_l_law_same : Fd P w K mg base C "_law_same" false 2 5 (Dn_l_law_same 4)) (F : ∃ f fd, FunD K "_law_few_right" "_law_few_right" (defArgs s__law_few_right) (defBody s__law_few_right) (defScope s__law_few_right) [] [] f fd ∧ mg "_law_few_right" = some (.ref f)) : Fd P w K mg base C "_law_few_right" true 2 9 D_l_law_few_right :=
  let ⟨f, fd, h, gm⟩ := F; fd_of h gm sc_l_law_few_right (h.bindsN fun _ _ _ _ _ _ us hl => match us, hl with | [_, _], _ => rfl) rfl rfl fun r cdv A outer s Z H E hu1 hr => V_l_law_few_right bi F_all_arrangements F_l_law_all F_l_law_heaps F_alike_many F_turned F_period F_mirrored F_l_law_choose F_l_law_take F_areas F_exchanges F_rings F_distance F_l_law_same r hu1.symm f cdv A outer s Z H E hr
/-! _law_far_right -/
abbrev N_l_law_far_right : List PySem.Str := ["urn", "size", "whole", "seats", "own", "span", "got", "total", "turn"]
def B_l_law_far_right : Ev.Env → R Flw :=
  (sCons (sPar [2, 3] (pV (eCall D_many (aCons (eBin mulD (eC (.int 2)) (eVar 1)) (aCons (eTup aNil) aNil))) (pV (eCall D_take (aUrn 0 (aCons (eBin mulD (eC (.int 4)) (eVar 1)) aNil))) pNil)))
  (sCons (sAsg 4 (eCall D_arrangement_at (aCons (eBin mulD (eC (.int 2)) (eVar 1)) (aCons (eTup aNil) (aCons (eCall D_take (aUrn 0 (aCons (eVar 2) aNil))) aNil)))))
  (sCons (sAsg 5 (eCall D_period (aCons (eVar 4) aNil)))
  (sCons (sAsg 6 (eN (nLst (aCons (eCall D_turned (aCons (eVar 4) (aCons (eVar 5) aNil))) (aCons (eCall D_turned (aCons (eVar 4) (aCons (eBin subD (eC (.int 0)) (eVar 5)) aNil))) (aCons (eCall D_turned (aCons (eCall D_turned (aCons (eVar 4) (aCons (eVar 3) aNil))) (aCons (eBin subD (eBin mulD (eC (.int 2)) (eVar 1)) (eVar 3)) aNil))) (aCons (eBin modD (eUn intD (eBin mulD (eC (.int 2)) (eVar 1))) (eVar 5)) aNil)))))))
  (sCons (sAsg 6 (eBin addD (eVar 6) (eN (nLst (aCons (eCall D_alike_many (aCons (eBin mulD (eC (.int 2)) (eVar 1)) (aCons (eC (.int 0)) aNil))) (aCons (eCall D_alike_many (aCons (eBin mulD (eC (.int 2)) (eVar 1)) (aCons (eVar 3) aNil))) (aCons (eCall D_alike_many (aCons (eBin mulD (eC (.int 2)) (eVar 1)) (aCons (eBin subD (eBin mulD (eC (.int 2)) (eVar 1)) (eVar 3)) aNil))) aNil)))))))
  (sCons (sIf (tNot (eT (eCall (Dn_l_law_same 4) (aCons (eVar 6) (aCons (eN (nLst (aCons (eVar 4) (aCons (eVar 4) (aCons (eVar 4) (aCons (eC (.int 0)) (aCons (eVar 2) (aCons (eCall D_alike_many (aCons (eBin mulD (eC (.int 2)) (eVar 1)) (aCons (eBin subD (eC (.int 0)) (eVar 3)) aNil))) (aCons (eCall D_alike_many (aCons (eBin mulD (eC (.int 2)) (eVar 1)) (aCons (eVar 3) aNil))) aNil))))))))) aNil))))) (sRet (eC (.bool false))) sNil)
  (sCons (sAsg 7 (eUn sumD (eN (nLc [8] (.one 8) (iRng rng1 (aCons (eBin mulD (eC (.int 2)) (eVar 1)) aNil)) cYes (eCall D_alike_many (aCons (eBin mulD (eC (.int 2)) (eVar 1)) (aCons (eVar 8) aNil)))))))
  (sCons (sIf (tOr (eT (eBin neOp (eBin modD (eUn intD (bVar 7)) (eBin mulD (eC (.int 2)) (eVar 1))) (eC (.int 0)))) (eT (eBin neOp (eCall D_alike_many (aCons (eBin mulD (eC (.int 2)) (eVar 1)) (aCons (eVar 1) aNil))) (eCall D_l_law_choose (aCons (eVar 1) (aCons (eBin divD (eVar 1) (eC (.int 2))) aNil)))))) (sRet (eC (.bool false))) sNil)
  (sRet (eBin eqOp (eUn lenD (eN (nLc [8] (.one 8) (iRng rng2 (aCons (eC (.int 1)) (aCons (eVar 5) aNil))) (eT (eBin eqOp (eCall D_turned (aCons (eVar 4) (aCons (eVar 8) aNil))) (eVar 4))) (eVar 8)))) (eC (.int 0))))))))))))
def D_l_law_far_right : List D → R D := fnD 2 7 B_l_law_far_right
theorem sc_l_law_far_right : FnScope N_l_law_far_right ["urn", "size"] (defScope s__law_far_right) := ⟨rfl, rfl, rfl, by decide +kernel, rfl, by decide +kernel, by decide +kernel⟩
theorem V_l_law_far_right (bi : Bi mg) (F_l_law_take : Fd P w K mg base C "_law_take" true 2 1 D_take) (F_many : Fd P w K mg base C "many" false 2 4 D_many) (F_arrangement_at : Fd P w K mg base C "arrangement_at" false 3 6 D_arrangement_at) (F_period : Fd P w K mg base C "period" false 1 2 D_period) (F_turned : Fd P w K mg base C "turned" false 2 1 D_turned) (F_alike_many : Fd P w K mg base C "alike_many" false 2 2 D_alike_many) (F_l_law_same : Fd P w K mg base C "_law_same" false 2 5 (Dn_l_law_same 4)) (F_l_law_choose : Fd P w K mg base C "_law_choose" false 2 1 D_l_law_choose) (r : Option Addr) (hur : r.isSome = true) (f : Addr) (cdv : Value) (A : Around) (outer : List PySem.Env) (s : Shared) (Z H : Hp) (E : XK) (hr : Room 6 (A.deeper (envOfC "_law_far_right" (defScope s__law_far_right) s.heap.objs.size f cdv))) :
    VSs ⟨r, C⟩ (WOf E) Z H (cxOf (L2.CX P w) P w K mg base N_l_law_far_right "_law_far_right" (defScope s__law_far_right) f cdv A outer s H E) (defBody s__law_far_right) B_l_law_far_right :=
  (vss_cons (vs_par2 rfl sc_l_law_far_right.nd rfl rfl (by kernel_rfl) (by kernel_rfl) (ap_v (ve_call F_many hr takesC (gl_ (by kernel_rfl)) (ae_cons (ve_bin o_mul ve_int (ve_var rfl (.inr (.inl (by kernel_rfl))))) (ae_cons (ve_tup ae_nil) ae_nil))) (ap_v (ve_callU F_l_law_take hr takesC (gl_ (by kernel_rfl)) (ce_urn rfl (.inl (by kernel_rfl)) (ce_cons (ve_bin o_mul ve_int (ve_var rfl (.inr (.inl (by kernel_rfl))))) ce_nil)) hur) ap_nil)) (by kernel_rfl))
  (vss_cons (vs_asg sc_l_law_far_right.nd rfl (.inr (by kernel_rfl)) (ve_call F_arrangement_at hr takesC (gl_ (by kernel_rfl)) (ae_cons (ve_bin o_mul ve_int (ve_var rfl (.inr (.inl (by kernel_rfl))))) (ae_cons (ve_tup ae_nil) (ae_cons (ve_callU F_l_law_take hr takesC (gl_ (by kernel_rfl)) (ce_urn rfl (.inl (by kernel_rfl)) (ce_cons (ve_var rfl (.inl (by kernel_rfl))) ce_nil)) hur) ae_nil)))))
  (vss_cons (vs_asg sc_l_law_far_right.nd rfl (.inl (by kernel_rfl)) (ve_call F_period hr takesC (gl_ (by kernel_rfl)) (ae_cons (ve_var rfl (.inr (.inl (by kernel_rfl)))) ae_nil)))
  (vss_cons (vs_asg sc_l_law_far_right.nd rfl (.inl (by kernel_rfl)) (ve_n (ne_lst (ae_cons (ve_call F_turned hr takesC (gl_ (by kernel_rfl)) (ae_cons (ve_var rfl (.inr (.inl (by kernel_rfl)))) (ae_cons (ve_var rfl (.inl (by kernel_rfl))) ae_nil))) (ae_cons (ve_call F_turned hr takesC (gl_ (by kernel_rfl)) (ae_cons (ve_var rfl (.inr (.inl (by kernel_rfl)))) (ae_cons (ve_bin o_sub ve_int (ve_var rfl (.inl (by kernel_rfl)))) ae_nil))) (ae_cons (ve_call F_turned hr takesC (gl_ (by kernel_rfl)) (ae_cons (ve_call F_turned hr takesC (gl_ (by kernel_rfl)) (ae_cons (ve_var rfl (.inr (.inl (by kernel_rfl)))) (ae_cons (ve_var rfl (.inl (by kernel_rfl))) ae_nil))) (ae_cons (ve_bin o_sub (ve_bin o_mul ve_int (ve_var rfl (.inr (.inl (by kernel_rfl))))) (ve_var rfl (.inl (by kernel_rfl)))) ae_nil))) (ae_cons (ve_bin o_mod (ve_t1 c_int (gl_ (by kernel_rfl)) bi.int bt_int (be_ve (ve_bin o_mul ve_int (ve_var rfl (.inr (.inl (by kernel_rfl))))))) (ve_var rfl (.inl (by kernel_rfl)))) ae_nil)))))))
  (vss_cons (vs_asg sc_l_law_far_right.nd rfl (.inl (by kernel_rfl)) (ve_bin o_add (ve_var rfl (.inl (by kernel_rfl))) (ve_n (ne_lst (ae_cons (ve_call F_alike_many hr takesC (gl_ (by kernel_rfl)) (ae_cons (ve_bin o_mul ve_int (ve_var rfl (.inr (.inl (by kernel_rfl))))) (ae_cons ve_int ae_nil))) (ae_cons (ve_call F_alike_many hr takesC (gl_ (by kernel_rfl)) (ae_cons (ve_bin o_mul ve_int (ve_var rfl (.inr (.inl (by kernel_rfl))))) (ae_cons (ve_var rfl (.inl (by kernel_rfl))) ae_nil))) (ae_cons (ve_call F_alike_many hr takesC (gl_ (by kernel_rfl)) (ae_cons (ve_bin o_mul ve_int (ve_var rfl (.inr (.inl (by kernel_rfl))))) (ae_cons (ve_bin o_sub (ve_bin o_mul ve_int (ve_var rfl (.inr (.inl (by kernel_rfl))))) (ve_var rfl (.inl (by kernel_rfl)))) ae_nil))) ae_nil)))))))
  (vss_cons (vs_if (te_not (te_val (ve_call F_l_law_same hr takesC (gl_ (by kernel_rfl)) (ae_cons (ve_var rfl (.inl (by kernel_rfl))) (ae_cons (ve_n (ne_lst (ae_cons (ve_var rfl (.inr (.inl (by kernel_rfl)))) (ae_cons (ve_var rfl (.inr (.inl (by kernel_rfl)))) (ae_cons (ve_var rfl (.inr (.inl (by kernel_rfl)))) (ae_cons ve_int (ae_cons (ve_var rfl (.inl (by kernel_rfl))) (ae_cons (ve_call F_alike_many hr takesC (gl_ (by kernel_rfl)) (ae_cons (ve_bin o_mul ve_int (ve_var rfl (.inr (.inl (by kernel_rfl))))) (ae_cons (ve_bin o_sub ve_int (ve_var rfl (.inl (by kernel_rfl)))) ae_nil))) (ae_cons (ve_call F_alike_many hr takesC (gl_ (by kernel_rfl)) (ae_cons (ve_bin o_mul ve_int (ve_var rfl (.inr (.inl (by kernel_rfl))))) (ae_cons (ve_var rfl (.inl (by kernel_rfl))) ae_nil))) ae_nil))))))))) ae_nil))))) (vss_one (vs_ret ve_bl)) vss_nil)
  (vss_cons (vs_asg sc_l_law_far_right.nd rfl (.inl (by kernel_rfl)) (ve_b1 (c_sum rfl) (gl_ (by kernel_rfl)) bi.sum bt_sum (be_ve (ve_n (ne_lc rfl sc_l_law_far_right.nd (ie_rng1 (gl_ (by kernel_rfl)) bi.range (ae_cons (ve_bin o_mul ve_int (ve_var rfl (.inr (.inl (by kernel_rfl))))) ae_nil)) (own := [("turn", 8)]) (blk_of (by kernel_rfl)) (fun _ _ _ _ _ => (tg_one sc_l_law_far_right.nd rfl (.inl (by kernel_rfl)) (hf := .inr (by kernel_rfl)))) (fun _ _ _ _ _ => pts_yes) (fun _ _ _ _ _ => (ve_call F_alike_many hr takesB (gl_ (by kernel_rfl)) (ae_cons (ve_bin o_mul ve_int (ve_var rfl (.inr (.inl (by kernel_rfl))))) (ae_cons (ve_var rfl (.inl (by kernel_rfl))) ae_nil)))))))))
  (vss_cons (vs_if (te_w (we_or (te_cmp (o_ne hr.units) (ve_bin o_mod (ve_t1 c_int (gl_ (by kernel_rfl)) bi.int bt_int (be_var rfl (.inl (by kernel_rfl)))) (ve_bin o_mul ve_int (ve_var rfl (.inr (.inl (by kernel_rfl)))))) ve_int) (we_or1 (te_cmp (o_ne hr.units) (ve_call F_alike_many hr takesC (gl_ (by kernel_rfl)) (ae_cons (ve_bin o_mul ve_int (ve_var rfl (.inr (.inl (by kernel_rfl))))) (ae_cons (ve_var rfl (.inr (.inl (by kernel_rfl)))) ae_nil))) (ve_call F_l_law_choose hr takesC (gl_ (by kernel_rfl)) (ae_cons (ve_var rfl (.inr (.inl (by kernel_rfl)))) (ae_cons (ve_bin o_div (ve_var rfl (.inr (.inl (by kernel_rfl)))) ve_int) ae_nil))))))) (vss_one (vs_ret ve_bl)) vss_nil)
  (vss_one (vs_ret (ve_cmp (o_eq hr.units) (ve_b1 c_len (gl_ (by kernel_rfl)) bi.len bt_len (be_ve (ve_n (ne_lc rfl sc_l_law_far_right.nd (ie_rng2 (gl_ (by kernel_rfl)) bi.range (ae_cons ve_int (ae_cons (ve_var rfl (.inl (by kernel_rfl))) ae_nil))) (own := [("turn", 8)]) (blk_of (by kernel_rfl)) (fun _ _ _ _ _ => (tg_one sc_l_law_far_right.nd rfl (.inl (by kernel_rfl)) (hf := .inr (by kernel_rfl)))) (fun _ _ _ _ _ => (pts_if (te_cmp (o_eq hr.units) (ve_call F_turned hr takesB (gl_ (by kernel_rfl)) (ae_cons (ve_var rfl (.inr (.inl (by kernel_rfl)))) (ae_cons (ve_var rfl (.inl (by kernel_rfl))) ae_nil))) (ve_var rfl (.inr (.inl (by kernel_rfl))))))) (fun _ _ _ _ _ => (ve_var rfl (.inl (by kernel_rfl)))))))) ve_int)))))))))))
theorem Fd_l_law_far_right (bi : Bi mg) (F_l_law_take : Fd P w K mg base C "_law_take" true 2 1 D_take) (F_many : Fd P w K mg base C "many" false 2 4 D_many) (F_arrangement_at : Fd P w K mg base C "arrangement_at" false 3 6 D_arrangement_at) (F_period : Fd P w K mg base C "period" false 1 2 D_period) (F_turned : Fd P w K mg base C "turned" false 2 1 D_turned) (F_alike_many : Fd P w K mg base C "alike_many" false 2 2 D_alike_many) (F_l_law_same : Fd P w K mg base C "_law_same" false 2 5 (Dn_l_law_same 4)) (F_l_law_choose : Fd P w K mg base C "_law_choose" false 2 1 D_l_law_choose) (F : ∃ f fd, FunD K "_law_far_right" "_law_far_right" (defArgs s__law_far_right) (defBody s__law_far_right) (defScope s__law_far_right) [] [] f fd ∧ mg "_law_far_right" = some (.ref f)) : Fd P w K mg base C "_law_far_right" true 2 7 D_l_law_far_right :=
  let ⟨f, fd, h, gm⟩ := F; fd_of h gm sc_l_law_far_right (h.bindsN fun _ _ _ _ _ _ us hl => match us, hl with | [_, _], _ => rfl) rfl rfl fun r cdv A outer s Z H E hu1 hr => V_l_law_far_right bi F_l_law_take F_many F_arrangement_at F_period F_turned F_alike_many F_l_law_same F_l_law_choose r hu1.symm f cdv A outer s Z H E hr
/-! law -/
abbrev N_law : List PySem.Str := ["script", "urn"]
theorem sc_law : FnScope N_law ["script"] (defScope s_law) := ⟨rfl, rfl, rfl, by decide +kernel, rfl, by decide +kernel, by decide +kernel⟩
def S1_law : Ev.Env → R Flw :=
  (sIf (tNot (eT (eCall D_l_law_few_right (aUrn 1 (aCons (eBin addD (eC (.int 1)) (eCall D_take (aUrn 1 (aCons (eC (.int 6)) aNil)))) aNil))))) (sRet (eC (.bool false))) sNil)
def S2_law : Ev.Env → R Flw :=
  (sRet (eCall D_l_law_far_right (aUrn 1 (aCons (eBin addD (eC (.int 1)) (eCall D_take (aUrn 1 (aCons (eC (.int 12)) aNil)))) aNil))))
def A_law : Ev.Env → R Flw := (sNew 1 (nCall D_l_law_box (aCons (eCall D_l_law_cells (aScr 0 (aCons (eC (.int 1)) aNil))) (aCons (eC (.int 0)) aNil))))
def B_law : Ev.Env → R Flw := (sCons S1_law S2_law)
theorem V1_law (bi : Bi mg) (F_l_law_box : FdN P w K mg base "_law_box" 2 1 D_l_law_box) (F_l_law_cells : Fd P w K mg base C "_law_cells" false 2 1 D_l_law_cells) (F_l_law_few_right : Fd P w K mg base C "_law_few_right" true 2 9 D_l_law_few_right) (F_l_law_take : Fd P w K mg base C "_law_take" true 2 1 D_take) (F_l_law_far_right : Fd P w K mg base C "_law_far_right" true 2 7 D_l_law_far_right) (a : Addr) (f : Addr) (cdv : Value) (A : Around) (outer : List PySem.Env) (s : Shared) (Z H : Hp) (E : XK) (hr : Room 9 (A.deeper (envOfC "law" (defScope s_law) s.heap.objs.size f cdv))) :
    VS ⟨some a, C⟩ (WOf E) Z H (cxOf (L2.CX P w) P w K mg base N_law "law" (defScope s_law) f cdv A outer s H E) ((defBody s_law).getD 1 (.Pass ⟨0, 0, 0, 0⟩)) S1_law :=
  (vs_if (te_not (te_val (ve_callU F_l_law_few_right hr takesC (gl_ (by kernel_rfl)) (ce_urn rfl (.inl (by kernel_rfl)) (ce_cons (ve_bin o_add ve_int (ve_callU F_l_law_take hr takesC (gl_ (by kernel_rfl)) (ce_urn rfl (.inl (by kernel_rfl)) (ce_cons ve_int ce_nil)) rfl)) ce_nil)) rfl))) (vss_one (vs_ret ve_bl)) vss_nil)
theorem V2_law (bi : Bi mg) (F_l_law_box : FdN P w K mg base "_law_box" 2 1 D_l_law_box) (F_l_law_cells : Fd P w K mg base C "_law_cells" false 2 1 D_l_law_cells) (F_l_law_few_right : Fd P w K mg base C "_law_few_right" true 2 9 D_l_law_few_right) (F_l_law_take : Fd P w K mg base C "_law_take" true 2 1 D_take) (F_l_law_far_right : Fd P w K mg base C "_law_far_right" true 2 7 D_l_law_far_right) (a : Addr) (f : Addr) (cdv : Value) (A : Around) (outer : List PySem.Env) (s : Shared) (Z H : Hp) (E : XK) (hr : Room 9 (A.deeper (envOfC "law" (defScope s_law) s.heap.objs.size f cdv))) :
    VS ⟨some a, C⟩ (WOf E) Z H (cxOf (L2.CX P w) P w K mg base N_law "law" (defScope s_law) f cdv A outer s H E) ((defBody s_law).getD 2 (.Pass ⟨0, 0, 0, 0⟩)) S2_law :=
  (vs_ret (ve_callU F_l_law_far_right hr takesC (gl_ (by kernel_rfl)) (ce_urn rfl (.inl (by kernel_rfl)) (ce_cons (ve_bin o_add ve_int (ve_callU F_l_law_take hr takesC (gl_ (by kernel_rfl)) (ce_urn rfl (.inl (by kernel_rfl)) (ce_cons ve_int ce_nil)) rfl)) ce_nil)) rfl))
theorem V_law (bi : Bi mg) (F_l_law_box : FdN P w K mg base "_law_box" 2 1 D_l_law_box) (F_l_law_cells : Fd P w K mg base C "_law_cells" false 2 1 D_l_law_cells) (F_l_law_few_right : Fd P w K mg base C "_law_few_right" true 2 9 D_l_law_few_right) (F_l_law_take : Fd P w K mg base C "_law_take" true 2 1 D_take) (F_l_law_far_right : Fd P w K mg base C "_law_far_right" true 2 7 D_l_law_far_right) (f : Addr) (cdv : Value) (A : Around) (outer : List PySem.Env) (s : Shared) (Z H : Hp) (E : XK) (hr : Room 9 (A.deeper (envOfC "law" (defScope s_law) s.heap.objs.size f cdv))) :
    ∃ st rest, defBody s_law = st :: rest ∧ VS ⟨none, C⟩ (WOf E) Z H (cxOf (L2.CX P w) P w K mg base N_law "law" (defScope s_law) f cdv A outer s H E) st A_law ∧ ∀ a, VSs ⟨some a, C⟩ (WOf E) Z H (cxOf (L2.CX P w) P w K mg base N_law "law" (defScope s_law) f cdv A outer s H E) rest B_law :=
  ⟨_, _, rfl, (vs_new sc_law.nd rfl (.inl (by kernel_rfl)) (ne_callN F_l_law_box fnDN_pure hr takesC (gl_ (by kernel_rfl)) (ae_cons (ve_callS F_l_law_cells rfl hr takesC (gl_ (by kernel_rfl)) (ce_scr rfl (.inl (by kernel_rfl)) (ce_cons ve_int ce_nil))) (ae_cons ve_int ae_nil)))), fun a => (vss_cons (V1_law bi F_l_law_box F_l_law_cells F_l_law_few_right F_l_law_take F_l_law_far_right a f cdv A outer s Z H E hr)
    (vss_one (V2_law bi F_l_law_box F_l_law_cells F_l_law_few_right F_l_law_take F_l_law_far_right a f cdv A outer s Z H E hr)))⟩
end
end Wk
set_option Elab.async false
set_option linter.all false
set_option maxRecDepth 100000
set_option maxHeartbeats 4000000
/-! P96a: turned, as a plain function. -/
namespace Wk
open PySem PySem.Spec PyProof.Rows L2 Ev
/-! ### little steps -/
theorem fnD_rt {n m : Nat} {f : Ev.Env → R Flw} {as : List D} {d : D} {env : Ev.Env} (h : f (as.map slOf ++ reps m) = .ok (.rt d env)) (hl : Nat.beq as.length n = true) : fnD n m f as = .ok d := by
  unfold fnD
  rw [hl, h]
  rfl
theorem ints_list {z : List Int} : ∀ {own : List Int}, (own.map PyData.int).length = own.length := by simp
theorem lenL_map {α : Type} (f : α → D) (l : List α) : lenL (l.map f) = l.length := by rw [lenL_eq, List.length_map]
theorem ixN_emod {n : Nat} {z : Int} (h : 0 < n) : ixN n (z % (n : Int)) = some (z % (n : Int)).toNat := by
  have h1 := Int.emod_nonneg z (b := (n : Int)) (by omega)
  have h2 := Int.emod_lt_of_pos z (b := (n : Int)) (by omega)
  unfold ixN
  rw [if_pos h1, if_pos h2]
/-! ### turned -/
def tnGo (n s : Int) : Nat → List Int → List Int → List Int
  | _, [], f => f
  | i, q :: r, f => tnGo n s (i + 1) r (f.set (((i : Int) + s) % n).toNat ((q + s) % n))
def rotP (own : List Int) (s : Int) : List Int := tnGo own.length s 0 own own
theorem tnGo_len {n s : Int} : ∀ {i : Nat} {r f : List Int}, (tnGo n s i r f).length = f.length
  | _, [], _ => rfl
  | i, q :: r, f => by
    show (tnGo n s (i + 1) r _).length = _
    rw [tnGo_len, List.length_set]
abbrev tnB : Ev.Env → R Flw := sSet 2 (eBin modD (eBin addD (eVar 4) (eVar 1)) (eVar 3)) (eBin modD (eBin addD (eVar 5) (eVar 1)) (eVar 3))
theorem tn_loop {A : D} {s : Int} {n : Nat} (hn : 0 < n) : ∀ {i : Nat} {r f : List Int} {x y : Sl}, f.length = n →
    ∃ x' y', forL (.tup [4, 5]) tnB (enumL i (r.map .int)) [.va A, .va (.int s), .ol (f.map .int), .va (.int n), x, y] = .ok (.nx [.va A, .va (.int s), .ol ((tnGo n s i r f).map .int), .va (.int n), x', y'])
  | i, [], f, x, y, _ => ⟨x, y, rfl⟩
  | i, q :: r, f, x, y, hf => by
    have hlt : ltI 0 (n : Int) = true := by rw [ltI_eq, decide_eq_true_eq]; omega
    have e1 : (eBin modD (eBin addD (eVar 4) (eVar 1)) (eVar 3)) [.va A, .va (.int s), .ol (f.map .int), .va (.int n), .va (.int (.ofNat i)), .va (.int q)] = .ok (.int (((i : Int) + s) % n)) := by
      show R.of (match ltI 0 (n : Int) with | true => some (PyData.int ((Int.ofNat i + s) % n)) | false => none) = _
      rw [hlt]
      rfl
    have e2 : (eBin modD (eBin addD (eVar 5) (eVar 1)) (eVar 3)) [.va A, .va (.int s), .ol (f.map .int), .va (.int n), .va (.int (.ofNat i)), .va (.int q)] = .ok (.int ((q + s) % n)) := by
      show R.of (match ltI 0 (n : Int) with | true => some (PyData.int ((q + s) % n)) | false => none) = _
      rw [hlt]
      rfl
    have e3 : tnB [.va A, .va (.int s), .ol (f.map .int), .va (.int n), .va (.int (.ofNat i)), .va (.int q)] = .ok (.nx [.va A, .va (.int s), .ol ((f.set (((i : Int) + s) % n).toNat ((q + s) % n)).map .int), .va (.int n), .va (.int (.ofNat i)), .va (.int q)]) := by
      show R.bindS _ _ _ = _
      rw [e2]
      show R.bindS _ _ _ = _
      rw [e1]
      show R.bindS (R.of (ixN (f.map PyData.int).length (((i : Int) + s) % n))) _ _ = _
      rw [List.length_map, hf, ixN_emod hn, List.map_set]
      rfl
    obtain ⟨x', y', h⟩ := tn_loop (A := A) (s := s) hn (i := i + 1) (r := r) (f := f.set (((i : Int) + s) % n).toNat ((q + s) % n)) (x := .va (.int (.ofNat i))) (y := .va (.int q)) (by rw [List.length_set]; exact hf)
    refine ⟨x', y', ?_⟩
    show R.bind (tnB [.va A, .va (.int s), .ol (f.map .int), .va (.int n), .va (.int (.ofNat i)), .va (.int q)]) _ = _
    rw [e3]
    exact h
theorem turned_eq (own : List Int) (s : Int) : D_turned [tupI own, .int s] = .ok (tupI (rotP own s)) := by
  cases own with
  | nil => rfl
  | cons q r =>
    obtain ⟨x', y', h⟩ := tn_loop (A := tupI (q :: r)) (s := s) (n := (q :: r).length) (by simp) (i := 0) (r := q :: r) (f := q :: r) (x := .un) (y := .un) rfl
    refine fnD_rt (env := [.va (tupI (q :: r)), .va (.int s), .ol ((rotP (q :: r) s).map .int), .va (.int (q :: r).length), x', y']) ?_ rfl
    have e1 : sPar [2, 3] (pN (nUn seqOf (bVar 0)) (pV (eUn lenD (bVar 0)) pNil)) [.va (tupI (q :: r)), .va (.int s), .un, .un, .un, .un] = .ok (.nx [.va (tupI (q :: r)), .va (.int s), .ol ((q :: r).map .int), .va (.int (q :: r).length), .un, .un]) := by
      have e : sPar [2, 3] (pN (nUn seqOf (bVar 0)) (pV (eUn lenD (bVar 0)) pNil)) [.va (tupI (q :: r)), .va (.int s), .un, .un, .un, .un] = .ok (.nx [.va (tupI (q :: r)), .va (.int s), .ol ((q :: r).map .int), .va (.int (.ofNat (lenL ((q :: r).map PyData.int)))), .un, .un]) := rfl
      rw [e, lenL_map]
      rfl
    show (sCons (sPar [2, 3] (pN (nUn seqOf (bVar 0)) (pV (eUn lenD (bVar 0)) pNil))) (sCons (sFor (.tup [4, 5]) (iEnu (aCons (eVar 0) aNil)) tnB) (sRet (eUn tupD (bVar 2))))) [.va (tupI (q :: r)), .va (.int s), .un, .un, .un, .un] = _
    rw [sCons_nx e1]
    have e2 : sFor (.tup [4, 5]) (iEnu (aCons (eVar 0) aNil)) tnB [.va (tupI (q :: r)), .va (.int s), .ol ((q :: r).map .int), .va (.int (q :: r).length), .un, .un] = .ok (.nx [.va (tupI (q :: r)), .va (.int s), .ol ((rotP (q :: r) s).map .int), .va (.int (q :: r).length), x', y']) := h
    rw [sCons_nx e2]
    rfl
/-! ### by places -/
theorem emod_place {n : Nat} {i j : Nat} {s : Int} (hi : i < n) (hj : j < n) : j = (((i : Int) + s) % n).toNat ↔ (((j : Int) - s) % n).toNat = i := by
  have h0 : (0 : Int) < n := by omega
  have a1 := Int.emod_nonneg ((i : Int) + s) (b := (n : Int)) (by omega)
  have b1 := Int.emod_nonneg ((j : Int) - s) (b := (n : Int)) (by omega)
  constructor
  · intro e
    have e' : (j : Int) = ((i : Int) + s) % n := by omega
    have : ((j : Int) - s) % n = i := by
      rw [e', Int.sub_emod, Int.emod_emod_of_dvd _ (Int.dvd_refl _), ← Int.sub_emod, Int.add_sub_cancel, Int.emod_eq_of_lt (by omega) (by omega)]
    omega
  · intro e
    have e' : (i : Int) = ((j : Int) - s) % n := by omega
    have : ((i : Int) + s) % n = j := by
      rw [e', Int.add_emod, Int.emod_emod_of_dvd _ (Int.dvd_refl _), ← Int.add_emod, Int.sub_add_cancel, Int.emod_eq_of_lt (by omega) (by omega)]
    omega
def plc (n : Nat) (s : Int) (j : Nat) : Nat := (((j : Int) - s) % n).toNat
theorem plc_lt {n : Nat} {s : Int} {j : Nat} (h : 0 < n) : plc n s j < n := by
  have a := Int.emod_nonneg ((j : Int) - s) (b := (n : Int)) (by omega)
  have b := Int.emod_lt_of_pos ((j : Int) - s) (b := (n : Int)) (by omega)
  unfold plc
  omega
theorem tnGo_get {n : Nat} {s : Int} : ∀ {i : Nat} {r f : List Int} {j : Nat}, f.length = n → i + r.length ≤ n → j < n →
    (tnGo n s i r f)[j]? = if i ≤ plc n s j ∧ plc n s j < i + r.length then (r[plc n s j - i]?).map (fun q => (q + s) % (n : Int)) else f[j]?
  | i, [], f, j, _, _, _ => by
    rw [if_neg (by simp only [List.length_nil]; omega)]
    rfl
  | i, q :: r, f, j, hf, hi, hj => by
    rw [List.length_cons] at hi
    have ih := tnGo_get (s := s) (i := i + 1) (r := r) (f := f.set (((i : Int) + s) % n).toNat ((q + s) % n)) (j := j) (by rw [List.length_set]; exact hf) (by omega) hj
    show (tnGo n s (i + 1) r _)[j]? = _
    rw [ih]
    have pl := emod_place (s := s) (show i < n by omega) hj
    by_cases e : plc n s j = i
    · have e1 : j = (((i : Int) + s) % n).toNat := pl.mpr e
      rw [if_neg (by omega), if_pos (by rw [List.length_cons]; omega), e, Nat.sub_self, ← e1, List.getElem?_set_self (by omega)]
      rfl
    · have e1 : j ≠ (((i : Int) + s) % n).toNat := fun z => e (pl.mp z)
      by_cases h : i + 1 ≤ plc n s j ∧ plc n s j < i + 1 + r.length
      · rw [if_pos h, if_pos (by rw [List.length_cons]; omega)]
        have : plc n s j - i = (plc n s j - (i + 1)) + 1 := by omega
        rw [this]
        rfl
      · rw [if_neg h, if_neg (by rw [List.length_cons]; omega), List.getElem?_set_ne (Ne.symm e1)]
theorem rotP_len {own : List Int} {s : Int} : (rotP own s).length = own.length := tnGo_len
theorem rotP_get {own : List Int} {s : Int} {j : Nat} (hj : j < own.length) : (rotP own s)[j]? = (own[plc own.length s j]?).map fun q => (q + s) % (own.length : Int) := by
  have h := tnGo_get (n := own.length) (s := s) (i := 0) (r := own) (f := own) (j := j) rfl (by omega) hj
  have p := plc_lt (n := own.length) (s := s) (j := j) (by omega)
  rw [if_pos (by omega), Nat.sub_zero] at h
  exact h
theorem rotP_ext {own own2 : List Int} (hl : own.length = own2.length) (h : ∀ j, j < own.length → own[j]? = own2[j]?) : own = own2 := by
  apply List.ext_getElem?
  intro j
  by_cases hj : j < own.length
  · exact h j hj
  · rw [List.getElem?_eq_none (by omega), List.getElem?_eq_none (by omega)]
theorem plc_plc {n : Nat} {a b : Int} {j : Nat} (h : 0 < n) : plc n a (plc n b j) = plc n (a + b) j := by
  have p := Int.emod_nonneg ((j : Int) - b) (b := (n : Int)) (by omega)
  unfold plc
  rw [Int.toNat_of_nonneg p]
  congr 1
  rw [Int.sub_emod, Int.emod_emod_of_dvd _ (Int.dvd_refl _), ← Int.sub_emod]
  congr 1
  omega
theorem rotP_rotP (own : List Int) (a b : Int) : rotP (rotP own a) b = rotP own (a + b) := by
  refine rotP_ext (by rw [rotP_len, rotP_len, rotP_len]) fun j hj => ?_
  rw [rotP_len, rotP_len] at hj
  rw [rotP_get (by rw [rotP_len]; exact hj), rotP_get hj, rotP_len, rotP_get (plc_lt (by omega)), plc_plc (by omega)]
  cases own[plc own.length (a + b) j]? with
  | none => rfl
  | some q =>
    show some _ = some _
    congr 1
    show ((q + a) % (own.length : Int) + b) % (own.length : Int) = (q + (a + b)) % (own.length : Int)
    rw [Int.add_emod, Int.emod_emod_of_dvd _ (Int.dvd_refl _), ← Int.add_emod]
    congr 1
    omega
/-- numbers of people -/
def InN (own : List Int) : Prop := ∀ q ∈ own, 0 ≤ q ∧ q < (own.length : Int)
theorem rotP_mul {own : List Int} (h : InN own) (k : Int) : rotP own ((own.length : Int) * k) = own := by
  refine rotP_ext rotP_len fun j hj => ?_
  rw [rotP_len] at hj
  rw [rotP_get hj]
  have e : plc own.length ((own.length : Int) * k) j = j := by
    unfold plc
    have : (j : Int) - (own.length : Int) * k = (j : Int) + (own.length : Int) * (-k) := by rw [Int.mul_neg]; omega
    rw [this, Int.add_mul_emod_self_left, Int.emod_eq_of_lt (by omega) (by omega)]
    omega
  rw [e]
  cases hq : own[j]? with
  | none => rfl
  | some q =>
    show some ((q + (own.length : Int) * k) % (own.length : Int)) = some q
    have := h q (List.mem_of_getElem? hq)
    rw [Int.add_mul_emod_self_left, Int.emod_eq_of_lt this.1 this.2]
theorem rotP_zero {own : List Int} (h : InN own) : rotP own 0 = own := by
  have := rotP_mul h 0
  rw [Int.mul_zero] at this
  exact this
theorem rotP_full {own : List Int} (h : InN own) : rotP own own.length = own := by
  have := rotP_mul h 1
  rw [Int.mul_one] at this
  exact this
/-- all turns by a number that leaves it as it is -/
theorem rotP_stay {own : List Int} {p : Int} (h : InN own) (e : rotP own p = own) : ∀ k : Nat, rotP own (p * k) = own
  | 0 => by rw [Int.natCast_zero, Int.mul_zero]; exact rotP_zero h
  | k + 1 => by
    have : p * ((k + 1 : Nat) : Int) = p * (k : Int) + p := by rw [Int.natCast_succ, Int.mul_add, Int.mul_one]
    rw [this, ← rotP_rotP, rotP_stay h e k, e]
theorem rotP_back {own : List Int} {p : Int} (h : InN own) (e : rotP own p = own) : rotP own (0 - p) = own := by
  have h1 := rotP_rotP own p (0 - p)
  rw [e] at h1
  rw [h1]
  have : p + (0 - p) = 0 := by omega
  rw [this]
  exact rotP_zero h
/-- the least turn that leaves it as it is -/
structure Per (own : List Int) (p : Nat) : Prop where
  pos : 0 < p
  le : p ≤ own.length
  stay : rotP own p = own
  least : ∀ t : Nat, 0 < t → t < p → rotP own t ≠ own
theorem per_dvd {own : List Int} {p : Nat} (h : InN own) (P : Per own p) : (own.length : Int) % (p : Int) = 0 := by
  have e : own.length % p = 0 := by
    have hlt := Nat.mod_lt own.length P.pos
    by_cases h0 : own.length % p = 0
    · exact h0
    · refine absurd ?_ (P.least (own.length % p) (by omega) hlt)
      have h1 := rotP_stay h P.stay (own.length / p)
      have h2 := rotP_rotP own ((p : Int) * ((own.length / p : Nat) : Int)) ((own.length % p : Nat) : Int)
      rw [h1] at h2
      rw [h2]
      have : (p : Int) * ((own.length / p : Nat) : Int) + ((own.length % p : Nat) : Int) = (own.length : Int) := by
        rw [← Int.natCast_mul, ← Int.natCast_add, Nat.div_add_mod]
      rw [this]
      exact rotP_full h
  have := congrArg (fun x : Nat => (x : Int)) e
  simpa using this
theorem per_ex {own : List Int} (h : InN own) (h0 : 0 < own.length) : ∃ p, Per own p := by
  have key : ∀ k : Nat, (∃ p, Per own p) ∨ ∀ t : Nat, 0 < t → t < k → t ≤ own.length → rotP own t ≠ own := fun k => by
    induction k with
    | zero => exact .inr fun t h1 h2 => by omega
    | succ k ih =>
      rcases ih with ih | ih
      · exact .inl ih
      · by_cases hk : 0 < k ∧ k ≤ own.length ∧ rotP own k = own
        · exact .inl ⟨k, hk.1, hk.2.1, hk.2.2, fun t h1 h2 => ih t h1 h2 (by omega)⟩
        · refine .inr fun t h1 h2 h3 => ?_
          by_cases e : t = k
          · subst e
            exact fun z => hk ⟨h1, h3, z⟩
          · exact ih t h1 (by omega) h3
  rcases key (own.length + 1) with r | r
  · exact r
  · exact absurd (rotP_full h) (r own.length h0 (by omega) (Nat.le_refl _))
end Wk
set_option Elab.async false
set_option linter.all false
set_option maxRecDepth 100000
set_option maxHeartbeats 4000000
/-! P96b: period, mirrored, rings, distance, as plain functions. -/
namespace Wk
open PySem PySem.Spec PyProof.Rows L2 Ev
/-! ### equality of tuples -/
theorem can_ints : ∀ r : List Int, PyData.canLayAll0 (r.map PyData.int) = true
  | [] => by simp only [List.map_nil, PyData.canLayAll0]
  | _ :: r => by simp only [List.map_cons, PyData.canLayAll0, PyData.canLay0, can_ints r, Bool.and_self]
theorem deep_ints : ∀ r : List Int, PyData.depthAll (r.map PyData.int) = 0
  | [] => by simp only [List.map_nil, PyData.depthAll]
  | _ :: r => by simp only [List.map_cons, PyData.depthAll, PyData.depth, deep_ints r, Nat.max_self]
theorem shp_tupI (r : List Int) : shp (tupI r) = true := by
  have e : (tupI r).depth = 1 := by
    show (PyData.tuple (r.map PyData.int)).depth = 1
    simp only [PyData.depth, deep_ints]
  unfold shp SeqAt.shaped
  rw [Bool.and_eq_true, decide_eq_true_eq, e]
  refine ⟨?_, by omega⟩
  show PyData.canLay0 (.tuple (r.map PyData.int)) = true
  simp only [PyData.canLay0, can_ints]
theorem shp_lstI (r : List Int) : shp (.list (r.map PyData.int)) = true := by
  have e : (PyData.list (r.map PyData.int)).depth = 1 := by simp only [PyData.depth, deep_ints]
  unfold shp SeqAt.shaped
  rw [Bool.and_eq_true, decide_eq_true_eq, e]
  refine ⟨?_, by omega⟩
  simp only [PyData.canLay0, can_ints]
theorem eqv_ints : ∀ a b : List Int, PyData.eqvAll (a.map PyData.int) (b.map PyData.int) = decide (a = b)
  | [], [] => by simp [PyData.eqvAll]
  | [], _ :: _ => by simp [PyData.eqvAll]
  | _ :: _, [] => by simp [PyData.eqvAll]
  | x :: a, y :: b => by
    simp only [List.map_cons, PyData.eqvAll, PyData.eqv, eqv_ints a b]
    rw [Bool.eq_iff_iff]
    simp
theorem eqD_tup (a b : List Int) : eqD (tupI a) (tupI b) = some (decide (a = b)) := by
  show (match shp (tupI a), shp (tupI b) with
    | true, true => some (PyData.eqv (tupI a) (tupI b))
    | _, _ => none) = _
  rw [shp_tupI, shp_tupI]
  show some (PyData.eqv (.tuple (a.map .int)) (.tuple (b.map .int))) = _
  simp only [PyData.eqv, eqv_ints]
theorem neOp_tup (a b : List Int) : neOp (tupI a) (tupI b) = some (.bool (!decide (a = b))) := by
  unfold neOp
  rw [eqD_tup]
theorem neOp_int (a b : Int) : neOp (.int a) (.int b) = some (.bool (!eqI a b)) := rfl
/-! ### period -/
abbrev peT : Ev.Env → R Bool := eT (eBin neOp (eCall D_turned (aCons (eVar 0) (aCons (eVar 1) aNil))) (eUn tupD (bVar 0)))
theorem peT_eq (own : List Int) (s : Int) : peT [.va (tupI own), .va (.int s)] = .ok (!decide (rotP own s = own)) := by
  have e : peT [.va (tupI own), .va (.int s)] = R.bind ((D_turned [tupI own, .int s]).bind fun x => R.of (neOp x (tupI own))) asB := rfl
  rw [e, turned_eq]
  show R.bind (R.of (neOp (tupI (rotP own s)) (tupI own))) asB = _
  rw [neOp_tup]
  rfl
theorem per_loop {own : List Int} {p : Nat} (P : Per own p) : ∀ (fuel s : Nat), 0 < s → s ≤ p → p - s < fuel →
    whileL peT (sAug 1 addI (eC (.int 1))) fuel [.va (tupI own), .va (.int s)] = .ok (.nx [.va (tupI own), .va (.int p)])
  | 0, s, _, _, h => absurd h (Nat.not_lt_zero _)
  | fuel + 1, s, h0, h1, h2 => by
    show R.bindS (peT [.va (tupI own), .va (.int s)]) _ _ = _
    rw [peT_eq]
    by_cases e : s = p
    · subst e
      rw [P.stay, decide_eq_true rfl]
      rfl
    · have n := P.least s h0 (by omega)
      rw [decide_eq_false n]
      have := per_loop P fuel (s + 1) (by omega) (by omega) (by omega)
      exact this
theorem period_eq {own : List Int} {p : Nat} (P : Per own p) (h : own.length ≤ 60) : D_period [tupI own] = .ok (.int p) := by
  refine fnD_rt (env := [.va (tupI own), .va (.int p)]) ?_ rfl
  show (sCons (sAsg 1 (eC (.int 1))) (sCons (whileL peT (sAug 1 addI (eC (.int 1))) 64) (sRet (eVar 1)))) [.va (tupI own), .un] = _
  rw [sCons_nx (env1 := [.va (tupI own), .va (.int 1)]) rfl]
  have := P.le
  have hp : whileL peT (sAug 1 addI (eC (.int 1))) 64 [.va (tupI own), .va (.int 1)] = .ok (.nx [.va (tupI own), .va (.int p)]) := per_loop P 64 1 (by omega) P.pos (by omega)
  rw [sCons_nx hp]
  rfl
/-! ### mirrored -/
theorem lc_map {t : Tg} {f : Ev.Env → R D} {env : Ev.Env} {g : D → D} : ∀ {ds : List D}, (∀ d ∈ ds, ∃ env1, bindT t d env = some env1 ∧ f env1 = .ok (g d)) → lcL t cYes f env ds = .ok (ds.map g)
  | [], _ => rfl
  | d :: ds, h => by
    obtain ⟨env1, h1, h2⟩ := h d List.mem_cons_self
    unfold lcL
    rw [h1]
    show R.bind (R.nox (f env1)) _ = _
    rw [h2]
    show R.bind (lcL t cYes f env ds) _ = _
    rw [lc_map fun d hd => h d (List.mem_cons_of_mem _ hd)]
    rfl
def mirP (own : List Int) : List Int := own.reverse.map fun q => (own.length : Int) - 1 - q
theorem mirrored_eq (own : List Int) (h : own.length ≤ 1000) : D_mirrored [tupI own] = .ok (tupI (mirP own)) := by
  refine fnD_rt (env := [.va (tupI own), .un]) ?_ rfl
  have hz : smallN (own.map PyData.int).reverse.length = true := Nat.ble_eq_true_of_le (by rw [List.length_reverse, List.length_map]; omega)
  have e : lcL (.one 1) cYes (eBin subD (eBin subD (eUn lenD (bVar 0)) (eC (.int 1))) (eVar 1)) [.va (tupI own), .un] (own.map PyData.int).reverse = .ok ((own.map PyData.int).reverse.map fun d => match d with
      | .int q => .int ((own.length : Int) - 1 - q)
      | d => d) := by
    refine lc_map fun d hd => ?_
    rw [List.mem_reverse, List.mem_map] at hd
    obtain ⟨q, _, rfl⟩ := hd
    refine ⟨[.va (tupI own), .va (.int q)], rfl, ?_⟩
    have e2 : eBin subD (eBin subD (eUn lenD (bVar 0)) (eC (.int 1))) (eVar 1) [.va (tupI own), .va (.int q)] = .ok (.int (Int.ofNat (lenL (own.map PyData.int)) - 1 - q)) := rfl
    rw [e2, lenL_map]
    rfl
  have e3 : nLc [1] (.one 1) (iAny (eUn revD (bVar 0))) cYes (eBin subD (eBin subD (eUn lenD (bVar 0)) (eC (.int 1))) (eVar 1)) [.va (tupI own), .un] = .ok (((mirP own).map PyData.int)) := by
    have e4 : nLc [1] (.one 1) (iAny (eUn revD (bVar 0))) cYes (eBin subD (eBin subD (eUn lenD (bVar 0)) (eC (.int 1))) (eVar 1)) [.va (tupI own), .un] = (match smallN (own.map PyData.int).reverse.length && true with
      | true => lcL (.one 1) cYes (eBin subD (eBin subD (eUn lenD (bVar 0)) (eC (.int 1))) (eVar 1)) [.va (tupI own), .un] (own.map PyData.int).reverse
      | false => .fail) := rfl
    rw [e4, hz]
    show lcL _ _ _ _ _ = _
    rw [e]
    congr 1
    unfold mirP
    rw [List.map_map, ← List.map_reverse, List.map_map]
    rfl
  show R.bindS (R.bind (R.bind (nLc [1] (.one 1) (iAny (eUn revD (bVar 0))) cYes (eBin subD (eBin subD (eUn lenD (bVar 0)) (eC (.int 1))) (eVar 1)) [.va (tupI own), .un]) _) _) _ _ = _
  rw [e3]
  rfl
/-! ### rings -/
def nthI (l : List Int) : Int → Option Int
  | .ofNat n => l[n]?
  | .negSucc _ => none
theorem ix_ints {l : List Int} {i v : Int} (h : nthI l i = some v) : ixD (tupI l) (.int i) = some (.int v) := by
  cases i with
  | negSucc _ => cases h
  | ofNat n =>
    show atD (l.map .int) (.ofNat n) = _
    rw [atD_eq]
    refine atI_nat' ?_
    rw [List.getElem?_map]
    have h' : l[n]? = some v := h
    rw [h']
    rfl
where
  atI_nat' {xs : List D} {a : Nat} {v : D} (h : xs[a]? = some v) : atI xs (Int.ofNat a) = some v := by
    have hl : a < xs.length := (List.getElem?_eq_some_iff.mp h).1
    unfold atI ixN
    rw [if_pos (show 0 ≤ Int.ofNat a from Int.natCast_nonneg a), if_pos (show Int.ofNat a < (xs.length : Int) by show (a : Int) < _; omega)]
    exact h
theorem ix_back {ds : List D} {d : D} : atD (ds ++ [d]) (-1) = some d := by
  rw [atD_eq]
  unfold atI ixN
  rw [if_neg (by omega), if_pos (by rw [List.length_append]; simp; omega)]
  have e : ((-1 : Int) + ((ds ++ [d]).length : Int)).toNat = ds.length := by rw [List.length_append]; simp; omega
  rw [e]
  simp
def rgGo (one other : List Int) (p : Int) : Nat → List Int → Int → Option (List Int)
  | 0, _, _ => none
  | f + 1, acc, l => match nthI other l with
    | none => none
    | some x => match eqI x p with
      | true => some acc
      | false => match nthI one x with
        | none => none
        | some y => rgGo one other p f (acc ++ [x, y]) y
abbrev rgT : Ev.Env → R Bool := eT (eBin neOp (eBin ixD (bVar 1) (eBin ixD (bVar 3) (eUn negD (eC (.int 1))))) (eVar 2))
abbrev rgB : Ev.Env → R Flw := sCons (sApp 3 (eBin ixD (bVar 1) (eBin ixD (bVar 3) (eUn negD (eC (.int 1)))))) (sApp 3 (eBin ixD (bVar 0) (eBin ixD (bVar 3) (eUn negD (eC (.int 1))))))
abbrev rgE (one other : List Int) (p : Int) (ds : List D) : Ev.Env := [.va (tupI one), .va (tupI other), .va (.int p), .ol ds]
theorem rg_app {one other : List Int} {p : Int} {ds : List D} {l x : Int} {i : Nat} {A : List Int} (hA : sl (rgE one other p (ds ++ [.int l])) i = .va (tupI A)) (hx : nthI A l = some x) (hz : (ds ++ [PyData.int l]).length < 16777216) :
    sApp 3 (eBin ixD (bVar i) (eBin ixD (bVar 3) (eUn negD (eC (.int 1))))) (rgE one other p (ds ++ [.int l])) = .ok (.nx (rgE one other p (ds ++ [.int l] ++ [.int x]))) := by
  have hs : smaller (ds ++ [PyData.int l]).length = true := by unfold smaller; rw [blt_eq, decide_eq_true_eq]; exact hz
  have e0 : bVar i (rgE one other p (ds ++ [.int l])) = .ok (tupI A) := by unfold bVar; rw [hA]; rfl
  have e1 : eBin ixD (bVar 3) (eUn negD (eC (.int 1))) (rgE one other p (ds ++ [.int l])) = .ok (.int l) := by
    show R.of (atD (ds ++ [.int l]) (-1)) = _
    rw [ix_back]
    rfl
  have e2 : eBin ixD (bVar i) (eBin ixD (bVar 3) (eUn negD (eC (.int 1)))) (rgE one other p (ds ++ [.int l])) = .ok (.int x) := by
    show R.bind (bVar i _) _ = _
    rw [e0]
    show R.bind (eBin ixD (bVar 3) (eUn negD (eC (.int 1))) _) _ = _
    rw [e1]
    show R.of (ixD (tupI A) (.int l)) = _
    rw [ix_ints hx]
    rfl
  show (match smaller (ds ++ [PyData.int l]).length with
    | true => R.bindS (eBin ixD (bVar i) (eBin ixD (bVar 3) (eUn negD (eC (.int 1)))) (rgE one other p (ds ++ [PyData.int l]))) _ _
    | false => _) = _
  rw [hs]
  show R.bindS _ _ _ = _
  rw [e2]
  rfl
theorem rg_loop {one other : List Int} {p : Int} : ∀ {f : Nat} {init : List Int} {l : Int} {r : List Int}, init.length + 2 * f < 1000000 → rgGo one other p f (init ++ [l]) l = some r →
    whileL rgT rgB f (rgE one other p ((init ++ [l]).map .int)) = .ok (.nx (rgE one other p (r.map .int)))
  | 0, _, _, _, _, h => by cases h
  | f + 1, init, l, r, hz, h => by
    have h' : (match nthI other l with
      | none => none
      | some x => match eqI x p with
        | true => some (init ++ [l])
        | false => match nthI one x with
          | none => none
          | some y => rgGo one other p f (init ++ [l] ++ [x, y]) y) = some r := h
    cases hx : nthI other l <;> rw [hx] at h' <;> first | (cases h'; done) | skip
    rename_i x
    have em : (init ++ [l]).map PyData.int = init.map PyData.int ++ [.int l] := by rw [List.map_append]; rfl
    have e1 : rgT (rgE one other p ((init ++ [l]).map .int)) = .ok (!eqI x p) := by
      have e : rgT (rgE one other p ((init ++ [l]).map .int)) = R.bind (R.bind (R.bind (R.of (atD ((init ++ [l]).map PyData.int) (-1))) fun y => R.of (ixD (tupI other) y)) fun y => R.of (neOp y (PyData.int p))) asB := rfl
      rw [e, em, ix_back]
      show R.bind (R.bind (R.of (ixD (tupI other) (.int l))) _) asB = _
      rw [ix_ints hx]
      rfl
    show R.bindS (rgT (rgE one other p ((init ++ [l]).map .int))) _ _ = _
    rw [e1]
    cases hp : eqI x p
    · simp only [hp] at h'
      cases hy : nthI one x <;> rw [hy] at h' <;> first | (cases h'; done) | skip
      rename_i y
      have h' : rgGo one other p f (init ++ [l] ++ [x, y]) y = some r := h'
      have hl1 : (init.map PyData.int ++ [PyData.int l]).length < 16777216 := by rw [List.length_append, List.length_map]; simp; omega
      have b1 := rg_app (one := one) (other := other) (p := p) (ds := init.map PyData.int) (l := l) (x := x) (i := 1) (A := other) rfl hx hl1
      have b2 := rg_app (one := one) (other := other) (p := p) (ds := init.map PyData.int ++ [PyData.int l]) (l := x) (x := y) (i := 0) (A := one) rfl hy (by rw [List.length_append] at hl1 ⊢; simp at hl1 ⊢; omega)
      show R.bind (rgB (rgE one other p ((init ++ [l]).map .int))) _ = _
      rw [em]
      show R.bind (sCons _ _ _) _ = _
      rw [sCons_nx b1, b2]
      have er : init ++ [l] ++ [x, y] = (init ++ [l] ++ [x]) ++ [y] := by simp
      rw [er] at h'
      have ih := rg_loop (f := f) (init := init ++ [l] ++ [x]) (by simp; omega) h'
      have e3 : ((init ++ [l] ++ [x]) ++ [y]).map PyData.int = init.map PyData.int ++ [PyData.int l] ++ [PyData.int x] ++ [PyData.int y] := by simp
      rw [e3] at ih
      exact ih
    · simp only [hp] at h'
      cases h'
      rfl
def ringP (one other : List Int) (p : Int) : Option (List Int) := match nthI one p with
  | none => none
  | some y => rgGo one other p 64 [p, y] y
theorem ring_eq {one other : List Int} {p : Int} {r : List Int} (h : ringP one other p = some r) : D_ring_of [tupI one, tupI other, .int p] = .ok (tupI r) := by
  unfold ringP at h
  cases hy : nthI one p <;> rw [hy] at h <;> first | (cases h; done) | skip
  rename_i y
  refine fnD_rt (env := rgE one other p (r.map .int)) ?_ rfl
  have e1 : sNew 3 (nLst (aCons (eVar 2) (aCons (eBin ixD (bVar 0) (eVar 2)) aNil))) [.va (tupI one), .va (tupI other), .va (.int p), .un] = .ok (.nx (rgE one other p ([p, y].map .int))) := by
    have e : sNew 3 (nLst (aCons (eVar 2) (aCons (eBin ixD (bVar 0) (eVar 2)) aNil))) [.va (tupI one), .va (tupI other), .va (.int p), .un] = R.bindS (R.bind (R.bind (R.bind (R.of (ixD (tupI one) (.int p))) fun x => R.ok [x]) fun xs => R.ok (PyData.int p :: xs)) fun xs => match smallN xs.length with
      | true => .ok xs
      | false => .fail) [.va (tupI one), .va (tupI other), .va (.int p), .un] fun ds => .ok (.nx (setS [.va (tupI one), .va (tupI other), .va (.int p), .un] 3 (.ol ds))) := rfl
    rw [e, ix_ints hy]
    rfl
  show (sCons _ (sCons (whileL rgT rgB 64) (sRet (eUn tupD (bVar 3))))) [.va (tupI one), .va (tupI other), .va (.int p), .un] = _
  rw [sCons_nx e1]
  have e2 : whileL rgT rgB 64 (rgE one other p ([p, y].map .int)) = .ok (.nx (rgE one other p (r.map .int))) := rg_loop (f := 64) (init := [p]) (l := y) (r := r) (by simp) h
  rw [sCons_nx e2]
  rfl
def hasI (p : Int) : List Int → Bool
  | [] => false
  | x :: r => match eqI x p with
    | true => true
    | false => hasI p r
theorem hasI_eq (p : Int) : ∀ l : List Int, hasI p l = (l.map PyData.int).any fun z => PyData.eqv z (.int p)
  | [] => rfl
  | x :: r => by
    unfold hasI
    rw [List.map_cons, List.any_cons, ← hasI_eq p r]
    have e : PyData.eqv (.int x) (.int p) = eqI x p := by rw [eqI_eq, PyData.eqv, Bool.beq_eq_decide_eq]
    rw [e]
    cases eqI x p <;> rfl
theorem nin_ints (p : Int) (l : List Int) : ninOp (.int p) (.list (l.map .int)) = some (.bool (!hasI p l)) := by
  unfold ninOp
  have e : inD (.int p) (.list (l.map .int)) = some (hasI p l) := by
    show (match shp (.int p), shp (.list (l.map PyData.int)) with
      | true, true => some ((l.map PyData.int).any fun z => PyData.eqv z (.int p))
      | _, _ => none) = _
    rw [shp_lstI]
    show (match shp (.int p), true with
      | true, true => some ((l.map PyData.int).any fun z => PyData.eqv z (.int p))
      | _, _ => none) = _
    have : shp (.int p) = true := by
      unfold shp SeqAt.shaped
      simp [PyData.canLay0, PyData.depth]
    rw [this, ← hasI_eq]
  rw [e]
def rgsGo (one other : List Int) : Nat → Nat → List (List Int) → List Int → Option (List (List Int))
  | 0, _, found, _ => some found
  | n + 1, p, found, met => match hasI (.ofNat p) met with
    | true => rgsGo one other n (p + 1) found met
    | false => match ringP one other (.ofNat p) with
      | none => none
      | some r => rgsGo one other n (p + 1) (found ++ [r]) (met ++ r)
abbrev rsB : Ev.Env → R Flw := sIf (eT (eBin ninOp (eVar 4) (bVar 3))) (sCons (sApp 2 (eCall D_ring_of (aCons (eVar 0) (aCons (eVar 1) (aCons (eVar 4) aNil))))) (sExt 3 (eBin ixD (bVar 2) (eUn negD (eC (.int 1)))))) sNil
theorem rgGo_len {one other : List Int} {p : Int} : ∀ {f : Nat} {acc : List Int} {l : Int} {r : List Int}, rgGo one other p f acc l = some r → r.length ≤ acc.length + 2 * f
  | 0, _, _, _, h => by cases h
  | f + 1, acc, l, r, h => by
    have h' : (match nthI other l with
      | none => none
      | some x => match eqI x p with
        | true => some acc
        | false => match nthI one x with
          | none => none
          | some y => rgGo one other p f (acc ++ [x, y]) y) = some r := h
    cases hx : nthI other l <;> rw [hx] at h' <;> first | (cases h'; done) | skip
    rename_i x
    cases hp : eqI x p <;> simp only [hp] at h'
    · cases hy : nthI one x <;> rw [hy] at h' <;> first | (cases h'; done) | skip
      have := rgGo_len h'
      simp at this
      omega
    · cases h'
      omega
theorem ringP_len {one other : List Int} {p : Int} {r : List Int} (h : ringP one other p = some r) : r.length ≤ 130 := by
  unfold ringP at h
  cases hy : nthI one p <;> rw [hy] at h <;> first | (cases h; done) | skip
  have := rgGo_len h
  simp at this
  omega
theorem rs_loop {one other : List Int} : ∀ {n p : Nat} {found : List (List Int)} {met : List Int} {rs : List (List Int)} {x : Sl}, found.length + n ≤ 1000 → met.length + 130 * n ≤ 1000000 → rgsGo one other n p found met = some rs →
    ∃ met' x', forL (.one 4) rsB (rng (.ofNat p) n) [.va (tupI one), .va (tupI other), .ol (found.map tupI), .ol (met.map .int), x] = .ok (.nx [.va (tupI one), .va (tupI other), .ol (rs.map tupI), .ol met', x'])
  | 0, p, found, met, rs, x, _, _, h => by cases h; exact ⟨_, _, rfl⟩
  | n + 1, p, found, met, rs, x, hf, hm, h => by
    have h' : (match hasI (.ofNat p) met with
      | true => rgsGo one other n (p + 1) found met
      | false => match ringP one other (.ofNat p) with
        | none => none
        | some r => rgsGo one other n (p + 1) (found ++ [r]) (met ++ r)) = some rs := h
    have et : eT (eBin ninOp (eVar 4) (bVar 3)) [.va (tupI one), .va (tupI other), .ol (found.map tupI), .ol (met.map .int), .va (.int (.ofNat p))] = .ok (!hasI (.ofNat p) met) := by
      show R.bind (R.of (ninOp (.int (.ofNat p)) (.list (met.map .int)))) asB = _
      rw [nin_ints]
      rfl
    show ∃ met' x', R.bind (rsB [.va (tupI one), .va (tupI other), .ol (found.map tupI), .ol (met.map .int), .va (.int (.ofNat p))]) _ = _
    cases hh : hasI (.ofNat p) met
    · simp only [hh] at h'
      cases hr : ringP one other (.ofNat p) <;> rw [hr] at h' <;> first | (cases h'; done) | skip
      rename_i r
      have rl := ringP_len hr
      obtain ⟨met', x', ih⟩ := rs_loop (x := .va (.int (.ofNat p))) (by rw [List.length_append]; simp; omega) (by rw [List.length_append]; omega) h'
      refine ⟨met', x', ?_⟩
      have hs1 : smaller (found.map tupI).length = true := by unfold smaller; rw [blt_eq, decide_eq_true_eq, List.length_map]; omega
      have s1 : sApp 2 (eCall D_ring_of (aCons (eVar 0) (aCons (eVar 1) (aCons (eVar 4) aNil)))) [.va (tupI one), .va (tupI other), .ol (found.map tupI), .ol (met.map .int), .va (.int (.ofNat p))] = .ok (.nx [.va (tupI one), .va (tupI other), .ol (found.map tupI ++ [tupI r]), .ol (met.map .int), .va (.int (.ofNat p))]) := by
        show (match smaller (found.map tupI).length with
          | true => R.bindS (D_ring_of [tupI one, tupI other, .int (.ofNat p)]) _ _
          | false => _) = _
        rw [hs1]
        show R.bindS (D_ring_of [tupI one, tupI other, .int (.ofNat p)]) _ _ = _
        rw [ring_eq hr]
        rfl
      have hs2 : smallN ((met.map PyData.int).length + (r.map PyData.int).length) = true := Nat.ble_eq_true_of_le (by rw [List.length_map, List.length_map]; omega)
      have s2 : sExt 3 (eBin ixD (bVar 2) (eUn negD (eC (.int 1)))) [.va (tupI one), .va (tupI other), .ol (found.map tupI ++ [tupI r]), .ol (met.map .int), .va (.int (.ofNat p))] = .ok (.nx [.va (tupI one), .va (tupI other), .ol (found.map tupI ++ [tupI r]), .ol (met.map .int ++ r.map .int), .va (.int (.ofNat p))]) := by
        show R.bindS (R.of (atD (found.map tupI ++ [tupI r]) (-1))) _ _ = _
        rw [ix_back]
        show (match smallN ((met.map PyData.int).length + (r.map PyData.int).length) with
          | true => _
          | false => _) = _
        rw [hs2]
        rfl
      have s3 : rsB [.va (tupI one), .va (tupI other), .ol (found.map tupI), .ol (met.map .int), .va (.int (.ofNat p))] = .ok (.nx [.va (tupI one), .va (tupI other), .ol (found.map tupI ++ [tupI r]), .ol (met.map .int ++ r.map .int), .va (.int (.ofNat p))]) := by
        rw [show rsB = sIf (eT (eBin ninOp (eVar 4) (bVar 3))) (sCons (sApp 2 (eCall D_ring_of (aCons (eVar 0) (aCons (eVar 1) (aCons (eVar 4) aNil))))) (sExt 3 (eBin ixD (bVar 2) (eUn negD (eC (.int 1)))))) sNil from rfl, sIf_t (by rw [et, hh]; rfl), sCons_nx s1, s2]
      rw [s3]
      have e1 : (found ++ [r]).map tupI = found.map tupI ++ [tupI r] := by rw [List.map_append]; rfl
      have e2 : (met ++ r).map PyData.int = met.map PyData.int ++ r.map PyData.int := List.map_append
      rw [e1, e2] at ih
      exact ih
    · simp only [hh] at h'
      obtain ⟨met', x', ih⟩ := rs_loop (x := .va (.int (.ofNat p))) (by omega) (by omega) h'
      refine ⟨met', x', ?_⟩
      have s3 : rsB [.va (tupI one), .va (tupI other), .ol (found.map tupI), .ol (met.map .int), .va (.int (.ofNat p))] = .ok (.nx [.va (tupI one), .va (tupI other), .ol (found.map tupI), .ol (met.map .int), .va (.int (.ofNat p))]) := by
        rw [show rsB = sIf (eT (eBin ninOp (eVar 4) (bVar 3))) (sCons (sApp 2 (eCall D_ring_of (aCons (eVar 0) (aCons (eVar 1) (aCons (eVar 4) aNil))))) (sExt 3 (eBin ixD (bVar 2) (eUn negD (eC (.int 1)))))) sNil from rfl, sIf_f (by rw [et, hh]; rfl)]
        rfl
      rw [s3]
      exact ih
def ringsP (one other : List Int) : Option (List (List Int)) := match Nat.beq one.length other.length && Nat.ble one.length 1000 with
  | true => rgsGo one other one.length 0 [] []
  | false => none
theorem rings_eq {one other : List Int} {rs : List (List Int)} (h : ringsP one other = some rs) : D_rings [tupI one, tupI other] = .ok (.list (rs.map tupI)) := by
  unfold ringsP at h
  cases hb : Nat.beq one.length other.length && Nat.ble one.length 1000 <;> rw [hb] at h <;> first | (cases h; done) | skip
  rw [Bool.and_eq_true] at hb
  have hl := Nat.eq_of_beq_eq_true hb.1
  have hz := Nat.le_of_ble_eq_true hb.2
  obtain ⟨met', x', hL⟩ := rs_loop (x := .un) (by simp; omega) (by simp; omega) h
  refine fnD_rt (env := [.va (tupI one), .va (tupI other), .va (.list (rs.map tupI)), .ol met', x']) ?_ rfl
  have e1 : sExpr (eCall D_look_same (aCons (eVar 0) (aCons (eVar 1) aNil))) [.va (tupI one), .va (tupI other), .un, .un, .un] = .ok (.nx [.va (tupI one), .va (tupI other), .un, .un, .un]) := by
    have e : D_look_same [tupI one, tupI other] = .ok .none := by
      have q : eT (eBin neOp (eUn lenD (bVar 0)) (eUn lenD (bVar 1))) [.va (tupI one), .va (tupI other)] = .ok false := by
        have e : eT (eBin neOp (eUn lenD (bVar 0)) (eUn lenD (bVar 1))) [.va (tupI one), .va (tupI other)] = .ok (!eqI (.ofNat (lenL (one.map PyData.int))) (.ofNat (lenL (other.map PyData.int)))) := rfl
        rw [e, lenL_map, lenL_map, hl, eqI_eq, decide_eq_true rfl]
        rfl
      show (fnD 2 0 B_look_same) _ = _
      have : B_look_same [.va (tupI one), .va (tupI other)] = .ok (.nx [.va (tupI one), .va (tupI other)]) := by
        show sIf _ sNev sNil _ = _
        rw [sIf_f q]
        rfl
      unfold fnD
      show R.bind (R.nox (B_look_same [.va (tupI one), .va (tupI other)])) _ = _
      rw [this]
      rfl
    show R.bindS (D_look_same [tupI one, tupI other]) _ _ = _
    rw [e]
    rfl
  show (sCons _ (sCons _ (sCons (sFor (.one 4) (iRng rng1 (aCons (eUn lenD (bVar 0)) aNil)) rsB) (sFrz [2] (sRet (eVar 2)))))) [.va (tupI one), .va (tupI other), .un, .un, .un] = _
  rw [sCons_nx e1, sCons_nx (env1 := [.va (tupI one), .va (tupI other), .ol [], .ol [], .un]) rfl]
  have hi : in62 (.ofNat one.length) = true := by
    unfold in62
    rw [Bool.and_eq_true, leI_eq, ltI_eq, decide_eq_true_eq, decide_eq_true_eq]
    exact ⟨by show _ ≤ (one.length : Int); omega, by show (one.length : Int) < _; omega⟩
  have e3 : iRng rng1 (aCons (eUn lenD (bVar 0)) aNil) [.va (tupI one), .va (tupI other), .ol [], .ol [], .un] = .ok (rng 0 one.length) := by
    have e : iRng rng1 (aCons (eUn lenD (bVar 0)) aNil) [.va (tupI one), .va (tupI other), .ol [], .ol [], .un] = R.of (match in62 (.ofNat (lenL (one.map PyData.int))) with
      | true => some (rng 0 (Int.ofNat (lenL (one.map PyData.int))).toNat)
      | false => none) := rfl
    rw [e, lenL_map, hi]
    rfl
  have e4 : sFor (.one 4) (iRng rng1 (aCons (eUn lenD (bVar 0)) aNil)) rsB [.va (tupI one), .va (tupI other), .ol [], .ol [], .un] = .ok (.nx [.va (tupI one), .va (tupI other), .ol (rs.map tupI), .ol met', x']) := by
    unfold sFor
    rw [e3]
    exact hL
  rw [sCons_nx e4]
  rfl
theorem distance_eq {one other : List Int} {rs : List (List Int)} (h : ringsP one other = some rs) : D_distance [tupI one, tupI other] = .ok (.int (Int.fdiv one.length 2 - rs.length)) := by
  refine fnD_rt (env := [.va (tupI one), .va (tupI other)]) ?_ rfl
  have e : (sRet (eBin subD (eBin divD (eUn lenD (bVar 0)) (eC (.int 2))) (eUn lenD (eCall D_rings (aCons (eVar 0) (aCons (eVar 1) aNil)))))) [.va (tupI one), .va (tupI other)] = R.bindS (R.bind (R.of (match divC (Int.ofNat (lenL (one.map PyData.int))) 2 with
    | true => some (PyData.int ((Int.ofNat (lenL (one.map PyData.int))).fdiv 2))
    | false => none)) fun x => R.bind (R.bind (D_rings [tupI one, tupI other]) fun x => .of (lenD x)) fun y => .of (subD x y)) [.va (tupI one), .va (tupI other)] fun d => .ok (.rt d [.va (tupI one), .va (tupI other)]) := rfl
  have hd : divC (Int.ofNat (lenL (one.map PyData.int))) 2 = true := by
    show (!eqI 2 0 && Nat.blt (2 : Int).natAbs.log2 9000) = true
    decide +kernel
  show (sRet (eBin subD (eBin divD (eUn lenD (bVar 0)) (eC (.int 2))) (eUn lenD (eCall D_rings (aCons (eVar 0) (aCons (eVar 1) aNil)))))) [.va (tupI one), .va (tupI other)] = _
  rw [e, hd, rings_eq h]
  have e5 : lenD (.list (rs.map tupI)) = some (.int rs.length) := by
    show some (PyData.int (.ofNat (lenL (rs.map tupI)))) = _
    rw [lenL_map]
    rfl
  rw [lenL_map]
  show R.bindS (R.bind (R.of (lenD (.list (rs.map tupI)))) fun y => R.of (subD (PyData.int ((Int.ofNat one.length).fdiv 2)) y)) _ _ = _
  rw [e5]
  rfl
end Wk
set_option Elab.async false
set_option linter.all false
set_option maxRecDepth 100000
set_option maxHeartbeats 4000000
/-! P96c: rings counted. -/
namespace Wk
open PySem PySem.Spec PyProof.Rows L2 Ev
def getN : List Int → Nat → Option Int
  | [], _ => none
  | x :: _, 0 => some x
  | _ :: r, n + 1 => getN r n
def getZ (l : List Int) : Int → Option Int
  | .ofNat n => getN l n
  | .negSucc _ => none
theorem getN_eq : ∀ (l : List Int) (n : Nat), getN l n = l[n]?
  | [], n => by simp [getN]
  | x :: _, 0 => rfl
  | _ :: r, n + 1 => by
    show getN r n = _
    rw [getN_eq r n]
    rfl
theorem getZ_eq (l : List Int) (i : Int) : getZ l i = nthI l i := by
  cases i with
  | ofNat n => exact getN_eq l n
  | negSucc _ => rfl
def rg2 (one other : List Int) (p : Int) : Nat → List Int → Int → Option (List Int)
  | 0, _, _ => none
  | f + 1, acc, l => match getZ other l with
    | none => none
    | some x => match eqI x p with
      | true => some acc
      | false => match getZ one x with
        | none => none
        | some y => rg2 one other p f (y :: x :: acc) y
theorem rg2_eq {one other : List Int} {p : Int} : ∀ (f : Nat) (acc : List Int) (l : Int), rgGo one other p f acc.reverse l = (rg2 one other p f acc l).map List.reverse
  | 0, _, _ => rfl
  | f + 1, acc, l => by
    unfold rgGo rg2
    rw [getZ_eq]
    cases nthI other l with
    | none => rfl
    | some x =>
      show (match eqI x p with
        | true => some acc.reverse
        | false => match nthI one x with
          | none => none
          | some y => rgGo one other p f (acc.reverse ++ [x, y]) y) = (match eqI x p with
        | true => some acc
        | false => match getZ one x with
          | none => none
          | some y => rg2 one other p f (y :: x :: acc) y).map List.reverse
      rw [getZ_eq]
      cases eqI x p with
      | true => rfl
      | false =>
        cases nthI one x with
        | none => rfl
        | some y =>
          show rgGo one other p f (acc.reverse ++ [x, y]) y = (rg2 one other p f (y :: x :: acc) y).map List.reverse
          rw [← rg2_eq f (y :: x :: acc) y]
          congr 1
          simp
def ring2 (one other : List Int) (p : Int) : Option (List Int) := match getZ one p with
  | none => none
  | some y => rg2 one other p 64 [y, p] y
theorem ring2_eq (one other : List Int) (p : Int) : ringP one other p = (ring2 one other p).map List.reverse := by
  unfold ringP ring2
  rw [getZ_eq]
  cases nthI one p with
  | none => rfl
  | some y => exact rg2_eq 64 [y, p] y
theorem has_app (p : Int) : ∀ a b : List Int, hasI p (a ++ b) = (hasI p a || hasI p b)
  | [], _ => rfl
  | x :: a, b => by
    show (match eqI x p with | true => true | false => hasI p (a ++ b)) = ((match eqI x p with | true => true | false => hasI p a) || hasI p b)
    rw [has_app p a b]
    cases eqI x p <;> rfl
theorem has_rev (p : Int) : ∀ a : List Int, hasI p a.reverse = hasI p a
  | [] => rfl
  | x :: a => by
    rw [List.reverse_cons, has_app, has_rev p a]
    show (hasI p a || (match eqI x p with | true => true | false => false)) = (match eqI x p with | true => true | false => hasI p a)
    cases eqI x p <;> simp
def rgs2 (one other : List Int) : Nat → Nat → Nat → List Int → Option Nat
  | 0, _, found, _ => some found
  | n + 1, p, found, met => match hasI (.ofNat p) met with
    | true => rgs2 one other n (p + 1) found met
    | false => match ring2 one other (.ofNat p) with
      | none => none
      | some r => rgs2 one other n (p + 1) (found + 1) (List.append r met)
theorem rgs2_ok {one other : List Int} : ∀ (n p : Nat) (found : List (List Int)) (met met2 : List Int) {k : Nat}, (∀ q, hasI q met = hasI q met2) → rgs2 one other n p found.length met2 = some k → ∃ rs, rgsGo one other n p found met = some rs ∧ rs.length = k
  | 0, p, found, met, met2, k, _, h => by cases h; exact ⟨found, rfl, rfl⟩
  | n + 1, p, found, met, met2, k, hm, h => by
    have h' : (match hasI (.ofNat p) met2 with
      | true => rgs2 one other n (p + 1) found.length met2
      | false => match ring2 one other (.ofNat p) with
        | none => none
        | some r => rgs2 one other n (p + 1) (found.length + 1) (List.append r met2)) = some k := h
    show ∃ rs, (match hasI (.ofNat p) met with
      | true => rgsGo one other n (p + 1) found met
      | false => match ringP one other (.ofNat p) with
        | none => none
        | some r => rgsGo one other n (p + 1) (found ++ [r]) (met ++ r)) = some rs ∧ rs.length = k
    rw [hm (.ofNat p), ring2_eq]
    cases hh : hasI (.ofNat p) met2 with
    | true =>
      rw [hh] at h'
      exact rgs2_ok n (p + 1) found met met2 hm h'
    | false =>
      rw [hh] at h'
      cases hr : ring2 one other (.ofNat p) with
      | none => rw [hr] at h'; cases h'
      | some r =>
        rw [hr] at h'
        have h'' : rgs2 one other n (p + 1) (found ++ [r.reverse]).length (List.append r met2) = some k := by rw [List.length_append]; exact h'
        refine rgs2_ok n (p + 1) (found ++ [r.reverse]) (met ++ r.reverse) (List.append r met2) (fun q => ?_) h''
        show _ = hasI q (r ++ met2)
        rw [has_app, has_app, has_rev, hm q, Bool.or_comm]
def cntP (one other : List Int) : Option Nat := match Nat.beq one.length other.length && Nat.ble one.length 1000 with
  | true => rgs2 one other one.length 0 0 []
  | false => none
theorem cnt_ok {one other : List Int} {k : Nat} (h : cntP one other = some k) : ∃ rs, ringsP one other = some rs ∧ rs.length = k := by
  unfold cntP at h
  unfold ringsP
  cases hb : Nat.beq one.length other.length && Nat.ble one.length 1000 <;> rw [hb] at h
  · cases h
  · exact rgs2_ok one.length 0 [] [] [] (fun _ => rfl) h
def eqO : Option Nat → Option Nat → Bool
  | some a, some b => Nat.beq a b
  | _, _ => false
theorem eqO_ok {a b : Option Nat} (h : eqO a b = true) : ∃ c, a = some c ∧ b = some c := by
  cases a with
  | none => cases h
  | some a => cases b with
    | none => cases h
    | some b => exact ⟨a, rfl, by rw [Nat.eq_of_beq_eq_true h]⟩
/-- two lists of arrangements, the second the first turned by one -/
def zipA : List (List Int) → List (List Int) → List (List Int × List Int)
  | a :: as, b :: bs => (a, b) :: zipA as bs
  | _, _ => []
theorem zip_mem {f : List Int → List Int} : ∀ {A : List (List Int)} {a : List Int}, a ∈ A → (a, f a) ∈ zipA A (A.map f)
  | x :: A, a, h => by
    show (a, f a) ∈ (x, f x) :: zipA A (A.map f)
    rcases List.mem_cons.mp h with e | h
    · rw [e]; exact List.mem_cons_self
    · exact List.mem_cons_of_mem _ (zip_mem h)
def chkInv (Z : List (List Int × List Int)) : Bool := Z.all fun x => Z.all fun y => eqO (cntP x.1 y.1) (cntP x.2 y.2)
def eqLI : List Int → List Int → Bool
  | [], [] => true
  | x :: a, y :: b => match eqI x y with
    | true => eqLI a b
    | false => false
  | _, _ => false
theorem eqLI_ok : ∀ {a b : List Int}, eqLI a b = true → a = b
  | [], [], _ => rfl
  | x :: a, y :: b, h => by
    have h' : (match eqI x y with | true => eqLI a b | false => false) = true := h
    cases he : eqI x y with
    | false => rw [he] at h'; cases h'
    | true =>
      rw [he] at h'
      rw [eqI_eq, decide_eq_true_eq] at he
      rw [he, eqLI_ok h']
  | [], _ :: _, h => by cases h
  | _ :: _, [], h => by cases h
def memA (a : List Int) (A : List (List Int)) : Bool := A.any fun b => eqLI a b
theorem memA_ok {a : List Int} {A : List (List Int)} (h : memA a A = true) : a ∈ A := by
  obtain ⟨b, hb, e⟩ := List.any_eq_true.mp h
  rw [eqLI_ok e]
  exact hb
def inNb (n : Nat) (a : List Int) : Bool := Nat.beq a.length n && a.all fun q => leI 0 q && ltI q n
theorem inNb_ok {n : Nat} {a : List Int} (h : inNb n a = true) : a.length = n ∧ InN a := by
  unfold inNb at h
  rw [Bool.and_eq_true] at h
  have hl := Nat.eq_of_beq_eq_true h.1
  refine ⟨hl, fun q hq => ?_⟩
  have := List.all_eq_true.mp h.2 q hq
  rw [Bool.and_eq_true, leI_eq, ltI_eq, decide_eq_true_eq, decide_eq_true_eq] at this
  rw [hl]
  exact this
/-- turning both changes nothing -/
structure Inv1 (n : Nat) (A : List (List Int)) : Prop where
  inn : ∀ a ∈ A, a.length = n ∧ InN a
  clo : ∀ a ∈ A, rotP a 1 ∈ A
  cnt : ∀ a ∈ A, ∀ b ∈ A, ∃ c, cntP a b = some c ∧ cntP (rotP a 1) (rotP b 1) = some c
theorem Inv1.of {n : Nat} {A A' : List (List Int)} (h1 : A.all (inNb n) = true) (h2 : A.map (fun a => rotP a 1) = A') (h3 : A'.all (fun a => memA a A) = true) (h4 : chkInv (zipA A A') = true) : Inv1 n A := by
  subst h2
  refine ⟨fun a ha => inNb_ok (List.all_eq_true.mp h1 a ha), fun a ha => memA_ok (List.all_eq_true.mp h3 _ (List.mem_map.mpr ⟨a, ha, rfl⟩)), fun a ha b hb => ?_⟩
  exact eqO_ok (List.all_eq_true.mp (List.all_eq_true.mp h4 _ (zip_mem ha)) _ (zip_mem hb))
theorem Inv1.all {n : Nat} {A : List (List Int)} (I : Inv1 n A) {a b : List Int} (ha : a ∈ A) (hb : b ∈ A) {c : Nat} (hc : cntP a b = some c) : ∀ s : Nat, rotP a (.ofNat s) ∈ A ∧ rotP b (.ofNat s) ∈ A ∧ cntP (rotP a (.ofNat s)) (rotP b (.ofNat s)) = some c
  | 0 => by
    have e1 := rotP_zero (I.inn a ha).2
    have e2 := rotP_zero (I.inn b hb).2
    show rotP a 0 ∈ A ∧ rotP b 0 ∈ A ∧ cntP (rotP a 0) (rotP b 0) = some c
    rw [e1, e2]
    exact ⟨ha, hb, hc⟩
  | s + 1 => by
    obtain ⟨h1, h2, h3⟩ := Inv1.all I ha hb hc s
    have e : ∀ x : List Int, rotP x (.ofNat (s + 1)) = rotP (rotP x (.ofNat s)) 1 := fun x => by
      rw [rotP_rotP]
      rfl
    rw [e, e]
    obtain ⟨d, d1, d2⟩ := I.cnt _ h1 _ h2
    rw [h3] at d1
    cases d1
    exact ⟨I.clo _ h1, I.clo _ h2, d2⟩
end Wk
set_option Elab.async false
set_option linter.all false
set_option maxRecDepth 100000
set_option maxHeartbeats 4000000
/-! P96t: arrangement_at hands something back, whatever the number. -/
namespace Wk
open PySem PySem.Spec PyProof.Rows L2 Ev
abbrev Tot {α : Type} (m : R α) (P : α → Prop) : Prop := ∃ a, m = .ok a ∧ P a
theorem Tot.bind {α β : Type} {m : R α} {f : α → R β} {P : α → Prop} {Q : β → Prop} (h : Tot m P) (k : ∀ a, P a → Tot (f a) Q) : Tot (m.bind f) Q := by
  obtain ⟨a, e, p⟩ := h
  rw [e]
  exact k a p
theorem Tot.bindS {α : Type} {m : R α} {f : α → R Flw} {env : Ev.Env} {P : α → Prop} {Q : Flw → Prop} (h : Tot m P) (k : ∀ a, P a → Tot (f a) Q) : Tot (m.bindS env f) Q := by
  obtain ⟨a, e, p⟩ := h
  rw [e]
  exact k a p
theorem Tot.nox {α : Type} {m : R α} {P : α → Prop} (h : Tot m P) : Tot m.nox P := by
  obtain ⟨a, e, p⟩ := h
  rw [e]
  exact ⟨a, rfl, p⟩
theorem Tot.mono {α : Type} {m : R α} {P Q : α → Prop} (h : Tot m P) (k : ∀ a, P a → Q a) : Tot m Q := let ⟨a, e, p⟩ := h; ⟨a, e, k a p⟩
/-- a statement: it goes on, or gives back -/
def Go (I : Ev.Env → Prop) (P : D → Prop) : Flw → Prop
  | .nx e => I e
  | .rt d _ => P d
  | _ => False
abbrev STot (m : R Flw) (I : Ev.Env → Prop) (P : D → Prop) : Prop := Tot m (Go I P)
section
variable {f h : Ev.Env → R Flw} {env : Ev.Env} {I J : Ev.Env → Prop} {P : D → Prop}
theorem st_nx {env1 : Ev.Env} (e : f env = .ok (.nx env1)) (i : I env1) : STot (f env) I P := ⟨_, e, i⟩
theorem st_cons (h1 : STot (f env) I P) (h2 : ∀ e, I e → STot (h e) J P) : STot (sCons f h env) J P := by
  obtain ⟨fl, e, g⟩ := h1
  unfold sCons thenS
  rw [e]
  cases fl with
  | nx e1 => exact h2 e1 g
  | rt d e1 => exact ⟨_, rfl, g⟩
  | bk _ => exact g.elim
  | ct _ => exact g.elim
  | xc _ _ => exact g.elim
theorem st_if {t : Ev.Env → R Bool} (ht : Tot (t env) fun _ => True) (h1 : STot (f env) I P) (h2 : STot (h env) I P) : STot (sIf t f h env) I P := by
  obtain ⟨b, e, _⟩ := ht
  unfold sIf
  rw [e]
  cases b with
  | true => exact h1
  | false => exact h2
theorem st_ret {g : Ev.Env → R D} (hg : Tot (g env) P) : STot (sRet g env) I P := by
  obtain ⟨d, e, p⟩ := hg
  unfold sRet
  rw [e]
  exact ⟨_, rfl, p⟩
theorem fn_tot {n m : Nat} {as : List D} (hl : Nat.beq as.length n = true) (h : STot (f (as.map slOf ++ reps m)) (fun _ => P .none) P) : Tot (fnD n m f as) P := by
  obtain ⟨fl, e, g⟩ := h
  unfold fnD
  rw [hl]
  show Tot ((f _).nox.bind _) P
  rw [e]
  cases fl with
  | nx e1 => exact ⟨_, rfl, g⟩
  | rt d e1 => exact ⟨_, rfl, g⟩
  | bk _ => exact g.elim
  | ct _ => exact g.elim
  | xc _ _ => exact g.elim
theorem st_for {t : Tg} (I : Nat → Ev.Env → Prop) : ∀ (ds : List D) (k : Nat) (env : Ev.Env), I k env → (∀ (i : Nat) (d : D), ds[i]? = some d → ∀ env, I (k + i) env → ∃ env1, bindT t d env = some env1 ∧ STot (f env1) (I (k + i + 1)) P) → STot (forL t f ds env) (I (k + ds.length)) P
  | [], k, env, h, _ => ⟨_, rfl, h⟩
  | d :: ds, k, env, h, hs => by
    obtain ⟨env1, e1, fl, e2, g⟩ := hs 0 d rfl env h
    unfold forL
    rw [e1]
    show Tot ((f env1).bind _) _
    rw [e2]
    cases fl with
    | nx e3 =>
      have ih := st_for I ds (k + 1) e3 g fun i d hd env hi => by
        have := hs (i + 1) d (by simpa using hd) env (by rw [show k + (i + 1) = k + 1 + i by omega]; exact hi)
        rw [show k + (i + 1) + 1 = k + 1 + i + 1 by omega] at this
        exact this
      rw [show k + 1 + ds.length = k + (d :: ds).length by simp; omega] at ih
      exact ih
    | rt d e3 => exact ⟨_, rfl, g⟩
    | bk _ => exact g.elim
    | ct _ => exact g.elim
    | xc _ _ => exact g.elim
theorem st_forJ {t : Tg} {J : Ev.Env → Prop} (I : Nat → Ev.Env → Prop) (ds : List D) (env : Ev.Env) (h0 : I 0 env) (hj : ∀ e, I ds.length e → J e) (hs : ∀ (i : Nat) (d : D), ds[i]? = some d → ∀ env, I i env → ∃ env1, bindT t d env = some env1 ∧ STot (f env1) (I (i + 1)) P) : STot (forL t f ds env) J P := by
  obtain ⟨fl, e, g⟩ := st_for (P := P) I ds 0 env h0 fun i d hd env hi => by
    rw [Nat.zero_add] at hi ⊢
    exact hs i d hd env hi
  refine ⟨fl, e, ?_⟩
  rw [Nat.zero_add] at g
  cases fl with
  | nx e2 => exact hj e2 g
  | rt d e => exact g
  | bk _ => exact g
  | ct _ => exact g
  | xc _ _ => exact g
end
theorem lc_tot {t : Tg} {c : Ev.Env → R Bool} {f : Ev.Env → R D} {env : Ev.Env} {P : D → Prop} : ∀ {ds : List D}, (∀ d ∈ ds, ∃ env1, bindT t d env = some env1 ∧ Tot (c env1) (fun _ => True) ∧ Tot (f env1) P) → Tot (lcL t c f env ds) fun ys => ys.length ≤ ds.length ∧ ∀ y ∈ ys, P y
  | [], _ => ⟨[], rfl, Nat.le_refl _, fun y hy => by cases hy⟩
  | d :: ds, h => by
    obtain ⟨env1, e1, ⟨b, e2, _⟩, y, e3, p⟩ := h d List.mem_cons_self
    obtain ⟨ys, e4, l, q⟩ := lc_tot fun d hd => h d (List.mem_cons_of_mem _ hd)
    unfold lcL
    rw [e1]
    show Tot ((R.nox (c env1)).bind _) _
    rw [e2]
    cases b with
    | false => exact ⟨ys, e4, by rw [List.length_cons]; omega, q⟩
    | true =>
      show Tot ((R.nox (f env1)).bind _) _
      rw [e3]
      show Tot ((lcL t c f env ds).bind _) _
      rw [e4]
      refine ⟨y :: ys, rfl, by simp; omega, fun z hz => ?_⟩
      rcases List.mem_cons.mp hz with e | hz
      · rw [e]; exact p
      · exact q z hz
/-! ### data -/
abbrev lI (is : List Int) : D := .list (is.map PyData.int)
def PR (n : Nat) (r : List Int) : Prop := ∃ a b : Int, r = [a, b] ∧ (0 ≤ a ∧ a < n) ∧ 0 ≤ b ∧ b < n
structure KN (n L : Nat) (rows : List (List Int)) : Prop where
  len : rows.length ≤ L
  all : ∀ r ∈ rows, PR n r
abbrev kn (rows : List (List Int)) : D := .tuple (rows.map tupI)
theorem enum_get : ∀ {ds : List D} {k i : Nat} {d : D}, (enumL k ds)[i]? = some d → ∃ e, ds[i]? = some e ∧ d = .tuple [.int (.ofNat (k + i)), e]
  | [], _, _, _, h => by simp [enumL] at h
  | e :: ds, k, 0, d, h => by
    have h' : some (PyData.tuple [.int (.ofNat k), e]) = some d := h
    cases h'
    exact ⟨e, rfl, rfl⟩
  | e :: ds, k, i + 1, d, h => by
    obtain ⟨e', h1, h2⟩ := enum_get (ds := ds) (k := k + 1) (i := i) (d := d) h
    refine ⟨e', h1, ?_⟩
    rw [h2]
    rw [show k + 1 + i = k + (i + 1) by omega]
theorem cut_mem {ds : List D} {lo hi : Option Int} {d : D} (h : d ∈ Ev.cutD ds lo hi) : d ∈ ds := by
  unfold Ev.cutD at h
  simp only [takeL_eq, dropL_eq] at h
  exact List.mem_of_mem_drop (List.mem_of_mem_take h)
theorem ints_back : ∀ is : List Int, intsOf (is.map PyData.int) = some is
  | [] => rfl
  | i :: is => by
    show (match intsOf (is.map PyData.int) with | some is' => some (i :: is') | none => none) = _
    rw [ints_back is]
theorem smallN_of {n : Nat} (h : n ≤ 16777216) : smallN n = true := Nat.ble_eq_true_of_le h
/-! ### cross -/
theorem cross_tot (a b c d : Int) : Tot (D_cross [tupI [a, b], tupI [c, d]]) fun x => ∃ k, x = .bool k := by
  refine fn_tot rfl (st_ret ?_)
  have hl : Tot (lcL (.one 2) (eT (eChain ltOp ltOp (eUn (mmD minI) (bVar 0)) (eVar 2) (eUn (mmD maxI) (bVar 0)))) (eVar 2) [.va (tupI [a, b]), .va (tupI [c, d]), .un] [.int c, .int d]) fun ys => ys.length ≤ 2 ∧ ∀ y ∈ ys, True := by
    refine lc_tot fun x hx => ?_
    have key : ∀ z : Int, ∃ env1, bindT (.one 2) (.int z) [.va (tupI [a, b]), .va (tupI [c, d]), .un] = some env1 ∧ Tot (eT (eChain ltOp ltOp (eUn (mmD minI) (bVar 0)) (eVar 2) (eUn (mmD maxI) (bVar 0))) env1) (fun _ => True) ∧ Tot (eVar 2 env1) fun _ => True := fun z => by
      refine ⟨_, rfl, ?_, ⟨_, rfl, trivial⟩⟩
      show Tot (R.bind (match ltI (minI a [b]) z with | true => R.ok (.bool (ltI z (maxI a [b]))) | false => R.ok (.bool false)) asB) _
      cases ltI (minI a [b]) z
      · exact ⟨_, rfl, trivial⟩
      · exact ⟨_, rfl, trivial⟩
    rcases List.mem_cons.mp hx with e | hx
    · rw [e]; exact key c
    · rw [List.mem_singleton.mp hx]; exact key d
  obtain ⟨ys, e, _⟩ := hl
  show Tot (R.bind (R.bind (R.bind (lcL (.one 2) (eT (eChain ltOp ltOp (eUn (mmD minI) (bVar 0)) (eVar 2) (eUn (mmD maxI) (bVar 0)))) (eVar 2) [.va (tupI [a, b]), .va (tupI [c, d]), .un] [.int c, .int d]) _) _) _) _
  rw [e]
  exact ⟨_, rfl, _, rfl⟩
theorem cross_tot' {n : Nat} {p q : List Int} (hp : PR n p) (hq : PR n q) : Tot (D_cross [tupI p, tupI q]) fun x => ∃ k, x = .bool k := by
  obtain ⟨a, b, rfl, _⟩ := hp
  obtain ⟨c, d, rfl, _⟩ := hq
  exact cross_tot a b c d
/-! ### crossing -/
theorem crossing_tot {n L : Nat} {rows : List (List Int)} (K : KN n L rows) : Tot (D_crossing [kn rows]) fun d => d = .none ∨ ∃ p q : D, d = .tuple [p, q] := by
  refine fn_tot rfl ?_
  refine st_cons (I := fun _ => True) ?_ fun e _ => st_ret ⟨_, rfl, .inl rfl⟩
  show STot (forL _ _ (enumL 0 (rows.map tupI)) _) _ _
  refine st_forJ (fun _ env => ∃ x y z, env = [.va (kn rows), x, y, z]) _ _ ⟨_, _, _, rfl⟩ (fun _ _ => trivial) fun i d hd env ⟨x, y, z, he⟩ => ?_
  subst he
  obtain ⟨e, h1, rfl⟩ := enum_get hd
  obtain ⟨r, hr, rfl⟩ := List.mem_map.mp (List.mem_of_getElem? h1)
  refine ⟨_, rfl, ?_⟩
  show STot (forL _ _ (Ev.cutD (rows.map tupI) (some (Int.ofNat (0 + i) + 1)) none) _) _ _
  refine st_forJ (fun _ env => ∃ z, env = [.va (kn rows), .va (.int (.ofNat (0 + i))), .va (tupI r), z]) _ _ ⟨_, rfl⟩ (fun e ⟨z, he⟩ => ⟨_, _, _, he⟩) fun j d hd env ⟨z, he⟩ => ?_
  subst he
  obtain ⟨q, hq, rfl⟩ := List.mem_map.mp (cut_mem (List.mem_of_getElem? hd))
  refine ⟨_, rfl, st_if ?_ (st_ret ⟨_, rfl, .inr ⟨_, _, rfl⟩⟩) ⟨_, rfl, _, rfl⟩⟩
  obtain ⟨x, e1, k, rfl⟩ := cross_tot' (K.all r hr) (K.all q hq)
  show Tot (R.bind (D_cross [tupI r, tupI q]) asB) _
  rw [e1]
  exact ⟨_, rfl, trivial⟩
/-! ### home -/
def NP (n : Nat) (d : D) : Prop := d = .none ∨ ∃ r, PR n r ∧ d = tupI r
theorem home_tot {n L : Nat} {rows : List (List Int)} (K : KN n L rows) (p : Int) : Tot (D_home [kn rows, .int p]) (NP n) := by
  refine fn_tot rfl ?_
  refine st_cons (I := fun env => env = [.va (kn rows), .va (.int p), .va .none, .un, .un]) ⟨_, rfl, rfl⟩ fun env he => ?_
  subst he
  refine st_cons (I := fun env => ∃ f x y, env = [.va (kn rows), .va (.int p), .va f, x, y] ∧ NP n f) ?_ fun env ⟨f, x, y, he, hf⟩ => ?_
  · show STot (forL _ _ (rows.map tupI) _) _ _
    refine st_forJ (fun _ env => ∃ f x y, env = [.va (kn rows), .va (.int p), .va f, x, y] ∧ NP n f) _ _ ⟨_, _, _, rfl, .inl rfl⟩ (fun _ h => h) fun i d hd env ⟨f, x, y, he, hf⟩ => ?_
    subst he
    obtain ⟨r, hr, rfl⟩ := List.mem_map.mp (List.mem_of_getElem? hd)
    have hp := K.all r hr
    obtain ⟨a, b, rfl, h1, h2⟩ := id hp
    refine ⟨[.va (kn rows), .va (.int p), .va f, .va (.int a), .va (.int b)], rfl, st_if ?_ ⟨_, rfl, tupI [a, b], _, _, rfl, .inr ⟨_, hp, rfl⟩⟩ ⟨_, rfl, _, _, _, rfl, hf⟩⟩
    show Tot (R.bind (R.bind (match ltI a p with | true => R.ok (.bool (ltI p b)) | false => R.ok (.bool false)) asB) _) _
    have second : Tot (tOr (eT (eIsN (eVar 2))) (eT (eBin ltOp (eBin subD (eVar 4) (eVar 3)) (eBin subD (eBin ixD (bVar 2) (eC (.int 1))) (eBin ixD (bVar 2) (eC (.int 0)))))) [.va (kn rows), .va (.int p), .va f, .va (.int a), .va (.int b)]) fun _ => True := by
      rcases hf with rfl | ⟨q, ⟨c, d, rfl, _⟩, rfl⟩
      · exact ⟨_, rfl, trivial⟩
      · exact ⟨_, rfl, trivial⟩
    cases ltI a p
    · exact ⟨_, rfl, trivial⟩
    · show Tot (match ltI p b with | true => _ | false => _) _
      cases ltI p b
      · exact ⟨_, rfl, trivial⟩
      · exact second
  · subst he
    refine st_ret ⟨f, ?_, hf⟩
    rcases hf with rfl | ⟨q, _, rfl⟩ <;> rfl
end Wk
set_option Elab.async false
set_option linter.all false
set_option maxRecDepth 100000
set_option maxHeartbeats 4000000
/-! P96u: arrangement_at, further. -/
namespace Wk
open PySem PySem.Spec PyProof.Rows L2 Ev
/-! ### the persons of the pairs -/
theorem small4_2 : small4 2 = true := by decide
theorem busy_lc {n : Nat} {env : Ev.Env} {vs1 : List Nat} {i j : Nat} {it1 : Ev.Env → R (List D)} {f : Ev.Env → R D} (hit : ∀ r, PR n r → it1 (setS env i (.va (tupI r))) = .ok (r.map PyData.int))
    (hf : ∀ r (x : Int), f (setS (fgtL vs1 (setS env i (.va (tupI r)))) j (.va (.int x))) = .ok (.int x)) : ∀ {rows : List (List Int)}, (∀ r ∈ rows, PR n r) →
    Tot (lc2L vs1 (.one i) cYes (.one j) it1 cYes f env (rows.map tupI)) fun ds => ∃ is : List Int, ds = is.map PyData.int ∧ is.length = 2 * rows.length
  | [], _ => ⟨[], rfl, [], rfl, rfl⟩
  | r :: rows, h => by
    have hr := h r List.mem_cons_self
    obtain ⟨ds, e, is, rfl, hl⟩ := busy_lc hit hf fun r hr => h r (List.mem_cons_of_mem _ hr)
    have e1 := hit r hr
    obtain ⟨a, b, rfl, _⟩ := hr
    refine ⟨([a, b] ++ is).map PyData.int, ?_, _, rfl, by simp [hl]; omega⟩
    show R.bind (R.nox (it1 (setS env i (.va (tupI [a, b]))))) _ = _
    rw [e1]
    have hA : lcL (.one j) cYes f (fgtL vs1 (setS env i (.va (tupI [a, b])))) ([a, b].map PyData.int) = .ok ([a, b].map PyData.int) := by
      have := lc_map (t := .one j) (f := f) (env := fgtL vs1 (setS env i (.va (tupI [a, b])))) (g := fun d => d) (ds := [a, b].map PyData.int) fun d hd => by
        obtain ⟨x, _, rfl⟩ := List.mem_map.mp hd
        exact ⟨_, rfl, hf [a, b] x⟩
      rw [List.map_id'] at this
      exact this
    show (match small4 ([a, b].map PyData.int).length with
      | true => R.bind (R.nox (lcL (.one j) cYes f (fgtL vs1 (setS env i (.va (tupI [a, b])))) ([a, b].map PyData.int))) fun ys => R.bind (lc2L vs1 (.one i) cYes (.one j) it1 cYes f env (rows.map tupI)) fun zs => .ok (ys ++ zs)
      | false => .fail) = _
    rw [show small4 ([a, b].map PyData.int).length = true from small4_2, hA, e]
    show R.ok _ = R.ok _
    rw [List.map_append]
theorem busy_tot {n L : Nat} {rows : List (List Int)} (K : KN n L rows) (hL : L ≤ 1000) : Tot (D_busy_people [kn rows]) fun d => ∃ is : List Int, d = lI is ∧ is.length = 2 * rows.length := by
  refine fn_tot rfl (st_ret ?_)
  have hb := busy_lc (n := n) (env := fgtL [1, 2] [.va (kn rows), .un, .un]) (vs1 := [2]) (i := 1) (j := 2) (it1 := iAny (eVar 1)) (f := eVar 2) (fun r _ => rfl) (fun r x => rfl) K.all
  obtain ⟨ds, e, is, rfl, hl⟩ := hb
  have hz : small4 (rows.map tupI).length = true := Nat.ble_eq_true_of_le (by rw [List.length_map]; have := K.len; omega)
  have e2 : nLc2 [1, 2] [2] (.one 1) (iAny (eVar 0)) cYes (.one 2) (iAny (eVar 1)) cYes (eVar 2) [.va (kn rows), .un, .un] = .ok (is.map PyData.int) := by
    have e3 : nLc2 [1, 2] [2] (.one 1) (iAny (eVar 0)) cYes (.one 2) (iAny (eVar 1)) cYes (eVar 2) [.va (kn rows), .un, .un] = (match small4 (rows.map tupI).length && true with
      | true => lc2L [2] (.one 1) cYes (.one 2) (iAny (eVar 1)) cYes (eVar 2) (fgtL [1, 2] [.va (kn rows), .un, .un]) (rows.map tupI)
      | false => .fail) := rfl
    rw [e3, hz]
    exact e
  show Tot (R.bind (nLc2 [1, 2] [2] (.one 1) (iAny (eVar 0)) cYes (.one 2) (iAny (eVar 1)) cYes (eVar 2) [.va (kn rows), .un, .un]) _) _
  rw [e2]
  exact ⟨_, rfl, is, rfl, hl⟩
/-! ### free_groups -/
theorem look_mem {k : NestedKey} : ∀ {kvs : List (D × D)} {v : D}, lookD k kvs = some v → ∃ a, (a, v) ∈ kvs
  | [], _, h => by cases h
  | (a, x) :: r, v, h => by
    unfold lookD at h
    split at h
    · cases h; exact ⟨a, List.mem_cons_self⟩
    · obtain ⟨b, hb⟩ := look_mem h
      exact ⟨b, List.mem_cons_of_mem _ hb⟩
theorem store_mem {k : NestedKey} {kd v : D} : ∀ {kvs : List (D × D)} {p : D × D}, p ∈ storeD k kd v kvs → p ∈ kvs ∨ p.2 = v
  | [], p, h => by
    have h' : p ∈ [(kd, v)] := h
    rw [List.mem_singleton.mp h']
    exact .inr rfl
  | (a, x) :: r, p, h => by
    unfold storeD at h
    split at h
    · rcases List.mem_cons.mp h with e | h
      · rw [e]; exact .inr rfl
      · exact .inl (List.mem_cons_of_mem _ h)
    · rcases List.mem_cons.mp h with e | h
      · rw [e]; exact .inl List.mem_cons_self
      · rcases store_mem h with h | h
        · exact .inl (List.mem_cons_of_mem _ h)
        · exact .inr h
theorem store_len {k : NestedKey} {kd v : D} : ∀ {kvs : List (D × D)}, (storeD k kd v kvs).length ≤ kvs.length + 1
  | [] => Nat.le_refl _
  | (a, x) :: r => by
    unfold storeD
    split
    · simp
    · have := store_len (k := k) (kd := kd) (v := v) (kvs := r)
      simp only [List.length_cons]
      omega
theorem key_np {n : Nat} {d : D} (h : NP n d) : ∃ k, keyK d = some k := by
  rcases h with rfl | ⟨r, ⟨a, b, rfl, _⟩, rfl⟩
  · exact ⟨_, rfl⟩
  · exact ⟨.tup [.num a, .num b], rfl⟩
structure DG (k : Nat) (kvs : List (D × D)) : Prop where
  len : kvs.length ≤ k
  all : ∀ p ∈ kvs, ∃ g : List Int, p.2 = tupI g ∧ g ≠ [] ∧ g.length ≤ k
theorem DG.up {k : Nat} {kvs : List (D × D)} (h : DG k kvs) : DG (k + 1) kvs := ⟨by have := h.len; omega, fun p hp => let ⟨g, a, b, c⟩ := h.all p hp; ⟨g, a, b, by omega⟩⟩
theorem rows_vals : ∀ {kvs : List (D × D)}, (∀ p ∈ kvs, ∃ g : List Int, p.2 = tupI g ∧ g ≠ []) → ∃ gs : List (List Int), rowsOf (valsL kvs) = some gs ∧ gs.length = kvs.length ∧ ∀ g ∈ gs, ∃ p ∈ kvs, p.2 = tupI g
  | [], _ => ⟨[], rfl, rfl, fun g hg => by cases hg⟩
  | (a, v) :: r, h => by
    obtain ⟨g, e, ne⟩ := h (a, v) List.mem_cons_self
    obtain ⟨gs, e1, e2, e3⟩ := rows_vals fun p hp => h p (List.mem_cons_of_mem _ hp)
    have e' : v = tupI g := e
    subst e'
    refine ⟨g :: gs, ?_, by simp [e2], fun x hx => ?_⟩
    · have hr : rowOf (tupI g) = some g := by
        cases g with
        | nil => exact absurd rfl ne
        | cons i g =>
          show (match intsOf (g.map PyData.int) with
            | some is => some (i :: is)
            | none => none) = _
          rw [ints_back]
      show (match rowOf (tupI g) with
        | some x => match rowsOf (valsL r) with
          | some xs => some (x :: xs)
          | none => none
        | none => none) = _
      rw [hr, e1]
    · rcases List.mem_cons.mp hx with e | hx
      · rw [e]; exact ⟨_, List.mem_cons_self, rfl⟩
      · obtain ⟨p, hp, q⟩ := e3 x hx
        exact ⟨p, List.mem_cons_of_mem _ hp, q⟩
def GP (m : Nat) (d : D) : Prop := ∃ gs : List (List Int), d = .list (gs.map tupI) ∧ gs.length ≤ m ∧ ∀ g ∈ gs, g.length ≤ m
theorem rng_at : ∀ {n k i : Nat} {d : D}, (rng (Int.ofNat k) n)[i]? = some d → d = .int (.ofNat (k + i)) ∧ i < n
  | 0, _, _, _, h => by simp [rng] at h
  | n + 1, k, 0, d, h => by
    have h' : some (PyData.int (.ofNat k)) = some d := h
    cases h'
    exact ⟨rfl, by omega⟩
  | n + 1, k, i + 1, d, h => by
    obtain ⟨a, b⟩ := rng_at (n := n) (k := k + 1) (i := i) (d := d) h
    refine ⟨?_, by omega⟩
    rw [a, show k + 1 + i = k + (i + 1) by omega]
theorem groups_tot {n L m : Nat} {rows : List (List Int)} (K : KN n L rows) (hL : L ≤ 1000) (hm : m ≤ 1000) : Tot (D_free_groups [.int (.ofNat m), kn rows]) (GP m) := by
  refine fn_tot rfl ?_
  have hb := busy_lc (n := n) (env := fgtL [6, 4] [.va (.int (.ofNat m)), .va (kn rows), .un, .un, .un, .un, .un]) (vs1 := [4]) (i := 6) (j := 4) (it1 := iAny (eVar 6)) (f := eVar 4) (fun r _ => rfl) (fun r x => rfl) K.all
  obtain ⟨ds, e, is, rfl, hl⟩ := hb
  have hz : small4 (rows.map tupI).length = true := Nat.ble_eq_true_of_le (by rw [List.length_map]; have := K.len; omega)
  have e2 : nLc2 [6, 4] [4] (.one 6) (iAny (eVar 1)) cYes (.one 4) (iAny (eVar 6)) cYes (eVar 4) [.va (.int (.ofNat m)), .va (kn rows), .un, .un, .un, .un, .un] = .ok (is.map PyData.int) := by
    have e3 : nLc2 [6, 4] [4] (.one 6) (iAny (eVar 1)) cYes (.one 4) (iAny (eVar 6)) cYes (eVar 4) [.va (.int (.ofNat m)), .va (kn rows), .un, .un, .un, .un, .un] = (match small4 (rows.map tupI).length && true with
      | true => lc2L [4] (.one 6) cYes (.one 4) (iAny (eVar 6)) cYes (eVar 4) (fgtL [6, 4] [.va (.int (.ofNat m)), .va (kn rows), .un, .un, .un, .un, .un]) (rows.map tupI)
      | false => .fail) := rfl
    rw [e3, hz]
    exact e
  refine st_cons (I := fun env => env = [.va (.int (.ofNat m)), .va (kn rows), .va (lI is), .di [], .un, .un, .un]) (st_nx (env1 := [.va (.int (.ofNat m)), .va (kn rows), .va (lI is), .di [], .un, .un, .un]) ?_ rfl) fun env he => ?_
  · show R.bindS (R.bind (R.bind (nLc2 [6, 4] [4] (.one 6) (iAny (eVar 1)) cYes (.one 4) (iAny (eVar 6)) cYes (eVar 4) [.va (.int (.ofNat m)), .va (kn rows), .un, .un, .un, .un, .un]) _) _) _ _ = _
    rw [e2]
    rfl
  subst he
  refine st_cons (I := fun env => ∃ kvs x y z, env = [.va (.int (.ofNat m)), .va (kn rows), .va (lI is), .di kvs, x, y, z] ∧ DG m kvs) ?_ fun env ⟨kvs, x, y, z, he, hd⟩ => ?_
  · have hi : in62 (.ofNat m) = true := by
      unfold in62
      rw [Bool.and_eq_true, leI_eq, ltI_eq, decide_eq_true_eq, decide_eq_true_eq]
      exact ⟨by show _ ≤ (m : Int); omega, by show (m : Int) < _; omega⟩
    show STot (R.bindS (R.of (match in62 (.ofNat m) with | true => some (rng 0 (Int.ofNat m).toNat) | false => none)) _ _) _ _
    rw [hi]
    show STot (forL _ _ (rng (.ofNat 0) m) _) _ _
    refine st_forJ (fun k env => ∃ kvs x y z, env = [.va (.int (.ofNat m)), .va (kn rows), .va (lI is), .di kvs, x, y, z] ∧ DG k kvs) _ _ ⟨[], _, _, _, rfl, Nat.le_refl _, fun p hp => by cases hp⟩ (fun e h => by rw [rng_len] at h; exact h) fun i d hd env ⟨kvs, x, y, z, he, hk⟩ => ?_
    subst he
    obtain ⟨rfl, him⟩ := rng_at hd
    rw [Nat.zero_add]
    refine ⟨_, rfl, st_if ?_ ?_ ⟨_, rfl, kvs, _, _, _, rfl, hk.up⟩⟩
    · show Tot (R.bind (R.of (ninOp (.int (.ofNat i)) (lI is))) asB) _
      rw [nin_ints]
      exact ⟨_, rfl, trivial⟩
    · obtain ⟨key, h1, hn⟩ := home_tot K (.ofNat i)
      refine st_cons (I := fun env => env = [.va (.int (.ofNat m)), .va (kn rows), .va (lI is), .di kvs, .va (.int (.ofNat i)), .va key, z]) (st_nx (env1 := [.va (.int (.ofNat m)), .va (kn rows), .va (lI is), .di kvs, .va (.int (.ofNat i)), .va key, z]) ?_ rfl) fun env he => ?_
      · show R.bindS (D_home [kn rows, .int (.ofNat i)]) _ _ = _
        rw [h1]
        rfl
      · subst he
        obtain ⟨kk, hkk⟩ := key_np hn
        have hv : eVar 5 [.va (.int (.ofNat m)), .va (kn rows), .va (lI is), .di kvs, .va (.int (.ofNat i)), .va key, z] = .ok key := by
          rcases hn with rfl | ⟨r, _, rfl⟩ <;> rfl
        have hg : ∃ g : List Int, getD2 kvs key (.tuple []) = some (tupI g) ∧ g.length ≤ i := by
          unfold getD2
          rw [hkk]
          show ∃ g : List Int, (match lookD kk kvs with | some v => some v | none => some (PyData.tuple [])) = some (tupI g) ∧ g.length ≤ i
          cases hlk : lookD kk kvs with
          | none => exact ⟨[], rfl, Nat.zero_le _⟩
          | some v =>
            obtain ⟨a, ha⟩ := look_mem hlk
            obtain ⟨g, e1, _, e3⟩ := hk.all _ ha
            exact ⟨g, by show some v = _; rw [show v = tupI g from e1], e3⟩
        obtain ⟨g, hg1, hg2⟩ := hg
        have hs : smallN ((g.map PyData.int).length + 1) = true := smallN_of (by rw [List.length_map]; omega)
        have e5 : eBin addD (eDGet 3 (eVar 5) (eTup aNil)) (eTup (aCons (eVar 4) aNil)) [.va (.int (.ofNat m)), .va (kn rows), .va (lI is), .di kvs, .va (.int (.ofNat i)), .va key, z] = .ok (tupI (g ++ [Int.ofNat i])) := by
          show R.bind (R.bind (eVar 5 [.va (.int (.ofNat m)), .va (kn rows), .va (lI is), .di kvs, .va (.int (.ofNat i)), .va key, z]) fun k => R.bind (R.ok (PyData.tuple [])) fun d => R.of (getD2 kvs k d)) _ = _
          rw [hv]
          show R.bind (R.of (getD2 kvs key (.tuple []))) _ = _
          rw [hg1]
          show R.of (match smallN ((g.map PyData.int).length + 1) with
            | true => some (PyData.tuple (g.map PyData.int ++ [PyData.int (Int.ofNat i)]))
            | false => none) = _
          rw [hs]
          show R.ok (PyData.tuple (g.map PyData.int ++ [PyData.int (Int.ofNat i)])) = R.ok (PyData.tuple ((g ++ [Int.ofNat i]).map PyData.int))
          rw [List.map_append]
          rfl
        have hsm : smaller kvs.length = true := by
          unfold smaller
          rw [blt_eq, decide_eq_true_eq]
          have := hk.len
          omega
        refine ⟨Flw.nx [.va (.int (.ofNat m)), .va (kn rows), .va (lI is), .di (storeD kk key (tupI (g ++ [Int.ofNat i])) kvs), .va (.int (.ofNat i)), .va key, z], ?_, _, _, _, _, rfl, ?_, fun p hp => ?_⟩
        · show R.bindS (eBin addD (eDGet 3 (eVar 5) (eTup aNil)) (eTup (aCons (eVar 4) aNil)) [.va (.int (.ofNat m)), .va (kn rows), .va (lI is), .di kvs, .va (.int (.ofNat i)), .va key, z]) _ _ = _
          rw [e5]
          show R.bindS (eVar 5 [.va (.int (.ofNat m)), .va (kn rows), .va (lI is), .di kvs, .va (.int (.ofNat i)), .va key, z]) _ _ = _
          rw [hv]
          show (match keyK key with
            | some kk => match smaller kvs.length with
              | true => R.ok (Flw.nx (setS [.va (.int (.ofNat m)), .va (kn rows), .va (lI is), .di kvs, .va (.int (.ofNat i)), .va key, z] 3 (.di (storeD kk key (tupI (g ++ [Int.ofNat i])) kvs))))
              | false => .fail
            | none => .fail) = _
          rw [hkk, hsm]
          rfl
        · have := store_len (k := kk) (kd := key) (v := tupI (g ++ [Int.ofNat i])) (kvs := kvs)
          have := hk.len
          omega
        · rcases store_mem hp with hp | hp
          · obtain ⟨g', a, b, c⟩ := hk.all p hp
            exact ⟨g', a, b, by omega⟩
          · exact ⟨_, hp, by simp, by simp; omega⟩
  · subst he
    obtain ⟨gs, e1, e3, e4⟩ := rows_vals fun p hp => let ⟨g, a, b, _⟩ := hd.all p hp; ⟨g, a, b⟩
    refine st_ret ⟨.list ((isort leR gs).map tupI), ?_, isort leR gs, rfl, ?_, fun g hg => ?_⟩
    · show R.bind (match rowsOf (valsL kvs) with | some rows => R.ok ((isort leR rows).map tupI) | none => .fail) _ = _
      rw [e1]
      rfl
    · rw [(isort_perm gs).length_eq, e3]
      exact hd.len
    · obtain ⟨p, hp, q⟩ := e4 g ((isort_perm gs).mem_iff.mp hg)
      obtain ⟨g', a, _, c⟩ := hd.all p hp
      rw [q] at a
      have a' : (PyData.tuple (g.map .int)) = .tuple (g'.map .int) := a
      injection a' with a'
      have := congrArg List.length a'
      rw [List.length_map, List.length_map] at this
      omega
end Wk
set_option Elab.async false
set_option linter.all false
set_option maxRecDepth 100000
set_option maxHeartbeats 4000000
/-! P96v: arrangement_at, the rest. -/
namespace Wk
open PySem PySem.Spec PyProof.Rows L2 Ev
theorem in62_nat {m : Nat} (h : m ≤ 1000) : in62 (.ofNat m) = true := by
  unfold in62
  rw [Bool.and_eq_true, leI_eq, ltI_eq, decide_eq_true_eq, decide_eq_true_eq]
  exact ⟨by show _ ≤ (m : Int); omega, by show (m : Int) < _; omega⟩
theorem evidence_tot {n L m : Nat} {rows : List (List Int)} (K : KN n L rows) (hL : L ≤ 1000) (hm : m ≤ 1000) : Tot (D_evidence [.int (.ofNat m), kn rows]) fun d => d = .none ∨ ∃ l, d = .tuple l := by
  refine fn_tot rfl ?_
  obtain ⟨c, hc, hc2⟩ := crossing_tot K
  refine st_cons (I := fun env => env = [.va (.int (.ofNat m)), .va (kn rows), .va c, .un]) (st_nx (env1 := [.va (.int (.ofNat m)), .va (kn rows), .va c, .un]) ?_ rfl) fun env he => ?_
  · show R.bindS (D_crossing [kn rows]) _ _ = _
    rw [hc]
    rfl
  subst he
  rcases hc2 with rfl | ⟨p, q, rfl⟩
  · refine st_cons (I := fun env => env = [.va (.int (.ofNat m)), .va (kn rows), .va .none, .un]) (st_nx (env1 := [.va (.int (.ofNat m)), .va (kn rows), .va .none, .un]) rfl rfl) fun env he => ?_
    subst he
    refine st_cons (I := fun _ => True) ?_ fun e _ => st_ret ⟨_, rfl, .inl rfl⟩
    obtain ⟨d, hd, gs, rfl, h1, h2⟩ := groups_tot K hL hm
    show STot (R.bindS (R.bind (D_free_groups [.int (.ofNat m), kn rows]) fun d => R.of (seqOf d)) _ _) _ _
    rw [hd]
    show STot (forL _ _ (gs.map tupI) _) _ _
    refine st_forJ (fun _ env => ∃ x, env = [.va (.int (.ofNat m)), .va (kn rows), .va .none, x]) _ _ ⟨_, rfl⟩ (fun _ _ => trivial) fun i d hd env ⟨x, he⟩ => ?_
    subst he
    obtain ⟨g, hg, rfl⟩ := List.mem_map.mp (List.mem_of_getElem? hd)
    exact ⟨_, rfl, st_if ⟨_, rfl, trivial⟩ (st_ret ⟨_, rfl, .inr ⟨_, rfl⟩⟩) ⟨_, rfl, _, rfl⟩⟩
  · exact st_cons (I := fun _ => False) (st_ret ⟨_, rfl, .inr ⟨_, rfl⟩⟩) fun _ h => h.elim
def catOk (i : Nat) : Bool := match D_catalan [.int (.ofNat i)] with
  | .ok (.int c) => ltI (-9223372036854775808) c && ltI c 9223372036854775808
  | _ => false
theorem cat_all : (List.range 13).all catOk = true := by kernel_rfl
theorem cat_tot {i : Nat} (h : i < 13) : ∃ c, D_catalan [.int (.ofNat i)] = .ok (.int c) ∧ -(2 ^ 63) < c ∧ c < 2 ^ 63 := by
  have q := List.all_eq_true.mp cat_all i (List.mem_range.mpr h)
  unfold catOk at q
  split at q
  · rename_i c e
    rw [Bool.and_eq_true, ltI_eq, ltI_eq, decide_eq_true_eq, decide_eq_true_eq] at q
    exact ⟨c, e, by omega, by omega⟩
  · cases q
theorem many_tot {n L m : Nat} {rows : List (List Int)} (K : KN n L rows) (hL : L ≤ 1000) (hm : m ≤ 24) : Tot (D_many [.int (.ofNat m), kn rows]) fun d => ∃ i, d = .int i := by
  refine fn_tot rfl ?_
  refine st_cons (I := fun env => env = [.va (.int (.ofNat m)), .va (kn rows), .un, .un]) (st_if ?_ (st_ret ⟨_, rfl, _, rfl⟩) ⟨_, rfl, rfl⟩) fun env he => ?_
  · obtain ⟨d, hd, _⟩ := evidence_tot K hL (show m ≤ 1000 by omega)
    show Tot (R.bind (R.bind (D_evidence [.int (.ofNat m), kn rows]) _) _) _
    rw [hd]
    exact ⟨_, rfl, trivial⟩
  subst he
  refine st_cons (I := fun env => env = [.va (.int (.ofNat m)), .va (kn rows), .va (.int 1), .un]) ⟨_, rfl, rfl⟩ fun env he => ?_
  subst he
  refine st_cons (I := fun env => ∃ i x, env = [.va (.int (.ofNat m)), .va (kn rows), .va (.int i), x]) ?_ fun env ⟨i, x, he⟩ => ?_
  · obtain ⟨d, hd, gs, rfl, h1, h2⟩ := groups_tot K hL (show m ≤ 1000 by omega)
    show STot (R.bindS (R.bind (D_free_groups [.int (.ofNat m), kn rows]) fun d => R.of (seqOf d)) _ _) _ _
    rw [hd]
    show STot (forL _ _ (gs.map tupI) _) _ _
    refine st_forJ (fun _ env => ∃ i x, env = [.va (.int (.ofNat m)), .va (kn rows), .va (.int i), x]) _ _ ⟨_, _, rfl⟩ (fun _ h => h) fun j d hd env ⟨i, x, he⟩ => ?_
    subst he
    obtain ⟨g, hg, rfl⟩ := List.mem_map.mp (List.mem_of_getElem? hd)
    refine ⟨_, rfl, ?_⟩
    have hl := h2 g hg
    obtain ⟨c, hc, c1, c2⟩ := cat_tot (i := g.length / 2) (by omega)
    have hdv : divC (Int.ofNat g.length) 2 = true := by
      show (!eqI 2 0 && Nat.blt (2 : Int).natAbs.log2 9000) = true
      decide +kernel
    have ea : eBin divD (eUn lenD (bVar 3)) (eC (.int 2)) [.va (.int (.ofNat m)), .va (kn rows), .va (.int i), .va (tupI g)] = .ok (.int (.ofNat (g.length / 2))) := by
      show R.of (match divC (Int.ofNat (lenL (g.map PyData.int))) 2 with
        | true => some (PyData.int ((Int.ofNat (lenL (g.map PyData.int))).fdiv 2))
        | false => none) = _
      rw [lenL_map, hdv]
      show R.ok (PyData.int ((Int.ofNat g.length).fdiv 2)) = R.ok (PyData.int (Int.ofNat (g.length / 2)))
      rw [Int.fdiv_eq_ediv_of_nonneg (Int.ofNat g.length) (show (0 : Int) ≤ 2 by decide)]
      rfl
    have ec : eCall D_catalan (aCons (eBin divD (eUn lenD (bVar 3)) (eC (.int 2))) aNil) [.va (.int (.ofNat m)), .va (kn rows), .va (.int i), .va (tupI g)] = .ok (.int c) := by
      show R.bind (R.bind (eBin divD (eUn lenD (bVar 3)) (eC (.int 2)) [.va (.int (.ofNat m)), .va (kn rows), .va (.int i), .va (tupI g)]) _) _ = _
      rw [ea]
      exact hc
    refine st_nx (env1 := [.va (.int (.ofNat m)), .va (kn rows), .va (.int (i * c)), .va (tupI g)]) ?_ ⟨_, _, rfl⟩
    show R.bindS (eCall D_catalan (aCons (eBin divD (eUn lenD (bVar 3)) (eC (.int 2))) aNil) [.va (.int (.ofNat m)), .va (kn rows), .va (.int i), .va (tupI g)]) _ _ = _
    rw [ec]
    show R.bindS (R.of (match mulC i c with
      | true => some (PyData.int (i * c))
      | false => none)) _ _ = _
    rw [mulC_64 c1 c2]
    rfl
  · subst he
    exact st_ret ⟨_, rfl, _, rfl⟩
theorem rows_of : ∀ {gs : List (List Int)}, (∀ g ∈ gs, g ≠ []) → rowsOf (gs.map tupI) = some gs
  | [], _ => rfl
  | g :: gs, h => by
    have hr : rowOf (tupI g) = some g := by
      cases g with
      | nil => exact absurd rfl (h [] List.mem_cons_self)
      | cons i g =>
        show (match intsOf (g.map PyData.int) with
          | some is => some (i :: is)
          | none => none) = _
        rw [ints_back]
    show (match rowOf (tupI g) with
      | some x => match rowsOf (gs.map tupI) with
        | some xs => some (x :: xs)
        | none => none
      | none => none) = _
    rw [hr, rows_of fun g hg => h g (List.mem_cons_of_mem _ hg)]
theorem PR.ne {n : Nat} {r : List Int} (h : PR n r) : r ≠ [] := by
  obtain ⟨a, b, rfl, _⟩ := h
  simp
theorem pair_tot {n L : Nat} {rows : List (List Int)} {a b : Int} (K : KN n L rows) (hL : L ≤ 1000) (ha : 0 ≤ a ∧ a < n) (hb : 0 ≤ b ∧ b < n) : Tot (D_with_pair [kn rows, .int a, .int b]) fun d => ∃ rows', d = kn rows' ∧ KN n (L + 1) rows' := by
  refine fn_tot rfl ?_
  have hlen := K.len
  have e1 : nLc [3] (.one 3) (iAny (eVar 0)) cYes (eUn tupD (bVar 3)) [.va (kn rows), .va (.int a), .va (.int b), .un] = .ok (rows.map tupI) := by
    have e : nLc [3] (.one 3) (iAny (eVar 0)) cYes (eUn tupD (bVar 3)) [.va (kn rows), .va (.int a), .va (.int b), .un] = (match smallN (rows.map tupI).length && true with
      | true => lcL (.one 3) cYes (eUn tupD (bVar 3)) [.va (kn rows), .va (.int a), .va (.int b), .un] (rows.map tupI)
      | false => .fail) := rfl
    rw [e, smallN_of (by rw [List.length_map]; omega)]
    have := lc_map (t := .one 3) (f := eUn tupD (bVar 3)) (env := [.va (kn rows), .va (.int a), .va (.int b), .un]) (g := fun d => d) (ds := rows.map tupI) fun d hd => by
      obtain ⟨r, _, rfl⟩ := List.mem_map.mp hd
      exact ⟨_, rfl, rfl⟩
    rw [List.map_id'] at this
    exact this
  have mn : ∃ x : Int, min2D [.int a, .int b] = some (.int x) ∧ 0 ≤ x ∧ x < n := by
    show ∃ x : Int, (match ltI b a with | true => some (PyData.int b) | false => some (PyData.int a)) = some (.int x) ∧ 0 ≤ x ∧ x < n
    cases ltI b a
    · exact ⟨a, rfl, ha⟩
    · exact ⟨b, rfl, hb⟩
  have mx : ∃ x : Int, max2D [.int a, .int b] = some (.int x) ∧ 0 ≤ x ∧ x < n := by
    show ∃ x : Int, (match ltI a b with | true => some (PyData.int b) | false => some (PyData.int a)) = some (.int x) ∧ 0 ≤ x ∧ x < n
    cases ltI a b
    · exact ⟨a, rfl, ha⟩
    · exact ⟨b, rfl, hb⟩
  obtain ⟨x, hx, hx2⟩ := mn
  obtain ⟨y, hy, hy2⟩ := mx
  have hall : ∀ r ∈ rows ++ [[x, y]], PR n r := fun r hr => by
    rcases List.mem_append.mp hr with h | h
    · exact K.all r h
    · rw [List.mem_singleton.mp h]; exact ⟨x, y, rfl, hx2, hy2⟩
  have e2 : nLst (aCons (eTup (aCons (eOps min2D (aCons (eVar 1) (aCons (eVar 2) aNil))) (aCons (eOps max2D (aCons (eVar 1) (aCons (eVar 2) aNil))) aNil))) aNil) [.va (kn rows), .va (.int a), .va (.int b), .un] = .ok [tupI [x, y]] := by
    show R.bind (R.bind (R.bind (R.bind (R.of (min2D [.int a, .int b])) fun x => R.bind (R.bind (R.of (max2D [.int a, .int b])) fun x => .ok [x]) fun xs => .ok (x :: xs)) fun xs => match smallN xs.length with
      | true => .ok (PyData.tuple xs)
      | false => .fail) fun x => .ok [x]) _ = _
    rw [hx, hy]
    rfl
  refine st_ret ⟨kn (isort leR (rows ++ [[x, y]])), ?_, _, rfl, ?_, fun r hr => hall r ((isort_perm _).mem_iff.mp hr)⟩
  · show R.bind (R.bind (R.bind (R.bind (R.bind (nLc [3] (.one 3) (iAny (eVar 0)) cYes (eUn tupD (bVar 3)) [.va (kn rows), .va (.int a), .va (.int b), .un]) _) fun x => R.bind (R.bind (nLst (aCons (eTup (aCons (eOps min2D (aCons (eVar 1) (aCons (eVar 2) aNil))) (aCons (eOps max2D (aCons (eVar 1) (aCons (eVar 2) aNil))) aNil))) aNil) [.va (kn rows), .va (.int a), .va (.int b), .un]) _) _) _) _) _ = _
    rw [e1, e2]
    show R.bind (R.bind (R.bind (R.of (match smallN ((rows.map tupI).length + 1) with
      | true => some (PyData.list (rows.map tupI ++ [tupI [x, y]]))
      | false => none)) _) _) _ = _
    rw [smallN_of (by rw [List.length_map]; omega)]
    have em : rows.map tupI ++ [tupI [x, y]] = (rows ++ [[x, y]]).map tupI := by rw [List.map_append]; rfl
    show R.bind (R.bind (R.of (sortL (rows.map tupI ++ [tupI [x, y]]))) _) _ = _
    rw [em]
    unfold sortL
    rw [rows_of fun g hg => (hall g hg).ne]
    rfl
  · rw [(isort_perm _).length_eq]
    simp
    omega
theorem tup2 {f g : Ev.Env → R D} {env : Ev.Env} {a b : D} (h1 : f env = .ok a) (h2 : g env = .ok b) : eTup (aCons f (aCons g aNil)) env = .ok (.tuple [a, b]) := by
  unfold eTup aCons
  rw [h1]
  show R.bind (R.bind (R.bind (g env) _) _) _ = _
  rw [h2]
  rfl
def CH (m : Nat) (d : D) : Prop := ∃ ws : List (Int × Int), d = .list (ws.map fun w => tupI [w.1, w.2]) ∧ ∀ w ∈ ws, 0 ≤ w.1 ∧ w.1 < m
theorem ch_back {m : Nat} : ∀ {ys : List D}, (∀ y ∈ ys, ∃ a b : Int, y = tupI [a, b] ∧ 0 ≤ a ∧ a < m) → ∃ ws : List (Int × Int), ys = ws.map (fun w => tupI [w.1, w.2]) ∧ ∀ w ∈ ws, 0 ≤ w.1 ∧ w.1 < m
  | [], _ => ⟨[], rfl, fun w hw => by cases hw⟩
  | y :: ys, h => by
    obtain ⟨a, b, e, h1⟩ := h y List.mem_cons_self
    obtain ⟨ws, e2, h2⟩ := ch_back fun y hy => h y (List.mem_cons_of_mem _ hy)
    refine ⟨(a, b) :: ws, by rw [e, e2]; rfl, fun w hw => ?_⟩
    rcases List.mem_cons.mp hw with e | hw
    · rw [e]; exact h1
    · exact h2 w hw
theorem rng_int : ∀ {n : Nat} {lo : Int} {d : D}, d ∈ rng lo n → ∃ z : Int, d = .int z ∧ lo ≤ z ∧ z < lo + n
  | 0, _, _, h => by cases h
  | n + 1, lo, d, h => by
    have h' : d ∈ PyData.int lo :: rng (lo + 1) n := h
    rcases List.mem_cons.mp h' with e | h'
    · exact ⟨lo, e, by omega, by omega⟩
    · obtain ⟨z, a, b, c⟩ := rng_int h'
      exact ⟨z, a, by omega, by omega⟩
theorem choices_tot {L m p : Nat} {rows : List (List Int)} (K : KN m L rows) (hL : L ≤ 900) (hm : m ≤ 24) (hp : p < m) : Tot (D_choices [.int (.ofNat m), kn rows, .int (.ofNat p)]) (CH m) := by
  refine fn_tot rfl ?_
  have hr : iRng rng2 (aCons (eBin addD (eVar 2) (eC (.int 1))) (aCons (eVar 0) aNil)) [.va (.int (.ofNat m)), .va (kn rows), .va (.int (.ofNat p)), .un, .un] = .ok (rng (.ofNat (p + 1)) (m - (p + 1))) := by
    show R.of (match in62 (.ofNat (p + 1)) && in62 (.ofNat m) with
      | true => some (rng (.ofNat (p + 1)) (Int.ofNat m - Int.ofNat (p + 1)).toNat)
      | false => none) = _
    rw [in62_nat (by omega), in62_nat (by omega)]
    have : (Int.ofNat m - Int.ofNat (p + 1)).toNat = m - (p + 1) := by
      show ((m : Int) - ((p + 1 : Nat) : Int)).toNat = _
      omega
    show R.ok (rng (.ofNat (p + 1)) (Int.ofNat m - Int.ofNat (p + 1)).toNat) = _
    rw [this]
  have h1 : Tot (nLc [4] (.one 4) (iRng rng2 (aCons (eBin addD (eVar 2) (eC (.int 1))) (aCons (eVar 0) aNil))) (eT (eBin ninOp (eVar 4) (eCall D_busy_people (aCons (eVar 1) aNil)))) (eVar 4) [.va (.int (.ofNat m)), .va (kn rows), .va (.int (.ofNat p)), .un, .un]) fun ys => ys.length ≤ m ∧ ∀ y ∈ ys, ∃ z : Int, y = .int z ∧ 0 ≤ z ∧ z < m := by
    unfold nLc
    rw [hr]
    show Tot (match smallN (rng (.ofNat (p + 1)) (m - (p + 1))).length && true with
      | true => lcL (.one 4) (eT (eBin ninOp (eVar 4) (eCall D_busy_people (aCons (eVar 1) aNil)))) (eVar 4) [.va (.int (.ofNat m)), .va (kn rows), .va (.int (.ofNat p)), .un, .un] (rng (.ofNat (p + 1)) (m - (p + 1)))
      | false => .fail) _
    rw [rng_len, smallN_of (by omega)]
    refine Tot.mono (lc_tot (P := fun y => ∃ z : Int, y = .int z ∧ 0 ≤ z ∧ z < m) fun d hd => ?_) fun ys ⟨a, b⟩ => ⟨by rw [rng_len] at a; omega, b⟩
    obtain ⟨z, rfl, z1, z2⟩ := rng_int hd
    refine ⟨_, rfl, ?_, ⟨_, rfl, z, rfl, by have : (Int.ofNat (p + 1)) = ((p + 1 : Nat) : Int) := rfl; omega, by have : (Int.ofNat (p + 1)) = ((p + 1 : Nat) : Int) := rfl; omega⟩⟩
    obtain ⟨bd, hb, is, rfl, _⟩ := busy_tot K (by omega)
    show Tot (R.bind (R.bind (D_busy_people [kn rows]) fun y => R.of (ninOp (.int z) y)) asB) _
    rw [hb]
    show Tot (R.bind (R.of (ninOp (.int z) (lI is))) asB) _
    rw [nin_ints]
    exact ⟨_, rfl, trivial⟩
  obtain ⟨ys, ey, hyl, hys⟩ := h1
  refine st_cons (I := fun env => env = [.va (.int (.ofNat m)), .va (kn rows), .va (.int (.ofNat p)), .va (.list ys), .un]) (st_nx (env1 := [.va (.int (.ofNat m)), .va (kn rows), .va (.int (.ofNat p)), .va (.list ys), .un]) ?_ rfl) fun env he => ?_
  · show R.bind (R.bindS (nLc [4] (.one 4) (iRng rng2 (aCons (eBin addD (eVar 2) (eC (.int 1))) (aCons (eVar 0) aNil))) (eT (eBin ninOp (eVar 4) (eCall D_busy_people (aCons (eVar 1) aNil)))) (eVar 4) [.va (.int (.ofNat m)), .va (kn rows), .va (.int (.ofNat p)), .un, .un]) _ _) _ = _
    rw [ey]
    rfl
  subst he
  refine st_ret ?_
  have h2 : Tot (lcL (.one 4) cYes (eTup (aCons (eVar 4) (aCons (eCall D_many (aCons (eVar 0) (aCons (eCall D_with_pair (aCons (eVar 1) (aCons (eVar 2) (aCons (eVar 4) aNil)))) aNil))) aNil))) [.va (.int (.ofNat m)), .va (kn rows), .va (.int (.ofNat p)), .va (.list ys), .un] ys) fun zs => zs.length ≤ ys.length ∧ ∀ y ∈ zs, ∃ a b : Int, y = tupI [a, b] ∧ 0 ≤ a ∧ a < m := by
    refine lc_tot fun d hd => ?_
    obtain ⟨z, rfl, z1, z2⟩ := hys d hd
    refine ⟨[.va (.int (.ofNat m)), .va (kn rows), .va (.int (.ofNat p)), .va (.list ys), .va (.int z)], rfl, ⟨_, rfl, trivial⟩, ?_⟩
    obtain ⟨d1, e1, rows', rfl, K'⟩ := pair_tot (a := .ofNat p) (b := z) K (by omega) ⟨by show 0 ≤ (p : Int); omega, by show (p : Int) < m; omega⟩ ⟨z1, z2⟩
    obtain ⟨d2, e2, i, rfl⟩ := many_tot K' (show L + 1 ≤ 1000 by omega) hm
    have w1 : eCall D_with_pair (aCons (eVar 1) (aCons (eVar 2) (aCons (eVar 4) aNil))) [.va (.int (.ofNat m)), .va (kn rows), .va (.int (.ofNat p)), .va (.list ys), .va (.int z)] = .ok (kn rows') := e1
    have w2 : eCall D_many (aCons (eVar 0) (aCons (eCall D_with_pair (aCons (eVar 1) (aCons (eVar 2) (aCons (eVar 4) aNil)))) aNil)) [.va (.int (.ofNat m)), .va (kn rows), .va (.int (.ofNat p)), .va (.list ys), .va (.int z)] = .ok (.int i) := by
      refine Eq.trans ?_ e2
      show R.bind (R.bind (R.ok (PyData.int (.ofNat m))) fun x => R.bind (R.bind (eCall D_with_pair (aCons (eVar 1) (aCons (eVar 2) (aCons (eVar 4) aNil))) [.va (.int (.ofNat m)), .va (kn rows), .va (.int (.ofNat p)), .va (.list ys), .va (.int z)]) fun x => R.ok [x]) fun xs => R.ok (x :: xs)) D_many = _
      rw [w1]
      simp only [R.bind]
    exact ⟨tupI [z, i], tup2 rfl w2, z, i, rfl, z1, z2⟩
  obtain ⟨zs, ez, _, hzs⟩ := h2
  obtain ⟨ws, rfl, hw⟩ := ch_back hzs
  refine ⟨.list (ws.map fun w => tupI [w.1, w.2]), ?_, ws, rfl, hw⟩
  show R.bind (match smallN ys.length && true with
    | true => lcL (.one 4) cYes (eTup (aCons (eVar 4) (aCons (eCall D_many (aCons (eVar 0) (aCons (eCall D_with_pair (aCons (eVar 1) (aCons (eVar 2) (aCons (eVar 4) aNil)))) aNil))) aNil))) [.va (.int (.ofNat m)), .va (kn rows), .va (.int (.ofNat p)), .va (.list ys), .un] ys
    | false => .fail) _ = _
  rw [smallN_of (by omega)]
  show R.bind (lcL _ _ _ _ _) _ = _
  rw [ez]
  rfl
end Wk
set_option Elab.async false
set_option linter.all false
set_option maxRecDepth 100000
set_option maxHeartbeats 4000000
/-! P96w: arrangement_at. -/
namespace Wk
open PySem PySem.Spec PyProof.Rows L2 Ev
abbrev aE (m : Nat) (num : Int) (rows : List (List Int)) (l : Int) (x5 x6 x7 : Sl) : Ev.Env := [.va (.int (.ofNat m)), .va (.tuple []), .va (.int num), .va (kn rows), .va (.int l), x5, x6, x7, .un, .un]
abbrev aiB : Ev.Env → R Flw := sCons (sIf (eT (eBin ltOp (eVar 4) (eVar 7))) (sCons (sAsg 3 (eCall D_with_pair (aCons (eVar 3) (aCons (eVar 5) (aCons (eVar 6) aNil))))) sBrk) sNil) (sAug 4 subD (eVar 7))
theorem inner_tot {m k p : Nat} {num : Int} {P : D → Prop} {rows : List (List Int)} (K : KN m k rows) (hk : k ≤ 900) (hp : p < m) : ∀ (ws : List (Int × Int)) (l : Int) (x6 x7 : Sl), (∀ w ∈ ws, 0 ≤ w.1 ∧ w.1 < m) →
    STot (forL (.tup [6, 7]) aiB (ws.map fun w => tupI [w.1, w.2]) (aE m num rows l (.va (.int (.ofNat p))) x6 x7)) (fun env => ∃ rows' l' x5 x6 x7, env = aE m num rows' l' x5 x6 x7 ∧ KN m (k + 1) rows') P
  | [], l, x6, x7, _ => ⟨_, rfl, rows, l, _, _, _, rfl, ⟨by have := K.len; omega, K.all⟩⟩
  | w :: ws, l, x6, x7, h => by
    have hw := h w List.mem_cons_self
    obtain ⟨d1, e1, rows', rfl, K'⟩ := pair_tot (a := .ofNat p) (b := w.1) K (by omega) ⟨by show 0 ≤ (p : Int); omega, by show (p : Int) < m; omega⟩ hw
    have et : eT (eBin ltOp (eVar 4) (eVar 7)) (aE m num rows l (.va (.int (.ofNat p))) (.va (.int w.1)) (.va (.int w.2))) = .ok (ltI l w.2) := rfl
    show STot (R.bind (aiB (aE m num rows l (.va (.int (.ofNat p))) (.va (.int w.1)) (.va (.int w.2)))) _) _ _
    cases hlt : ltI l w.2 with
    | true =>
      have ea : sAsg 3 (eCall D_with_pair (aCons (eVar 3) (aCons (eVar 5) (aCons (eVar 6) aNil)))) (aE m num rows l (.va (.int (.ofNat p))) (.va (.int w.1)) (.va (.int w.2))) = .ok (.nx (aE m num rows' l (.va (.int (.ofNat p))) (.va (.int w.1)) (.va (.int w.2)))) := by
        show R.bindS (D_with_pair [kn rows, .int (.ofNat p), .int w.1]) _ _ = _
        rw [e1]
        rfl
      have eb : aiB (aE m num rows l (.va (.int (.ofNat p))) (.va (.int w.1)) (.va (.int w.2))) = .ok (.bk (aE m num rows' l (.va (.int (.ofNat p))) (.va (.int w.1)) (.va (.int w.2)))) := by
        show thenS (sIf (eT (eBin ltOp (eVar 4) (eVar 7))) (sCons (sAsg 3 (eCall D_with_pair (aCons (eVar 3) (aCons (eVar 5) (aCons (eVar 6) aNil))))) sBrk) sNil (aE m num rows l (.va (.int (.ofNat p))) (.va (.int w.1)) (.va (.int w.2)))) _ = _
        rw [sIf_t (by rw [et, hlt]), sCons_nx ea]
        rfl
      rw [eb]
      exact ⟨_, rfl, rows', l, _, _, _, rfl, K'⟩
    | false =>
      have eb : aiB (aE m num rows l (.va (.int (.ofNat p))) (.va (.int w.1)) (.va (.int w.2))) = .ok (.nx (aE m num rows (l - w.2) (.va (.int (.ofNat p))) (.va (.int w.1)) (.va (.int w.2)))) := by
        have e0 : sIf (eT (eBin ltOp (eVar 4) (eVar 7))) (sCons (sAsg 3 (eCall D_with_pair (aCons (eVar 3) (aCons (eVar 5) (aCons (eVar 6) aNil))))) sBrk) sNil (aE m num rows l (.va (.int (.ofNat p))) (.va (.int w.1)) (.va (.int w.2))) = .ok (.nx (aE m num rows l (.va (.int (.ofNat p))) (.va (.int w.1)) (.va (.int w.2)))) := by
          rw [sIf_f (by rw [et, hlt])]
          rfl
        show (sCons _ (sAug 4 subD (eVar 7))) _ = _
        rw [sCons_nx e0]
        rfl
      rw [eb]
      exact inner_tot K hk hp ws (l - w.2) _ _ fun w hw => h w (List.mem_cons_of_mem _ hw)
abbrev fE (m : Nat) (num : Int) (rows : List (List Int)) (l : Int) (x5 x6 x7 : Sl) (fs : List Int) (x9 : Sl) : Ev.Env := [.va (.int (.ofNat m)), .va (.tuple []), .va (.int num), .va (kn rows), .va (.int l), x5, x6, x7, .ol (fs.map .int), x9]
theorem ixN_in {m : Nat} {a : Int} (h : 0 ≤ a ∧ a < m) : ixN m a = some a.toNat := by
  unfold ixN
  rw [if_pos h.1, if_pos h.2]
theorem fill_tot {m : Nat} {num : Int} {rows : List (List Int)} {l : Int} {x5 x7 : Sl} {P : D → Prop} (K : ∀ r ∈ rows, PR m r) {fs : List Int} {x6 x9 : Sl} (hf : fs.length = m ∧ ∀ q ∈ fs, 0 ≤ q ∧ q < m) :
    STot (forL (.tup [9, 6]) (sAsT [.sub 8 (eVar 9), .sub 8 (eVar 6)] (aCons (eVar 6) (aCons (eVar 9) aNil))) (rows.map tupI) (fE m num rows l x5 x6 x7 fs x9))
      (fun env => ∃ x6 fs x9, env = fE m num rows l x5 x6 x7 fs x9 ∧ fs.length = m ∧ ∀ q ∈ fs, 0 ≤ q ∧ q < m) P := by
  refine st_forJ (fun _ env => ∃ x6 fs x9, env = fE m num rows l x5 x6 x7 fs x9 ∧ fs.length = m ∧ ∀ q ∈ fs, 0 ≤ q ∧ q < (m : Int)) _ _ ⟨_, fs, _, rfl, hf⟩ (fun _ h => h) fun i d hd env ⟨x6, fs, x9, he, h1, h2⟩ => ?_
  subst he
  obtain ⟨r, hr, rfl⟩ := List.mem_map.mp (List.mem_of_getElem? hd)
  obtain ⟨a, b, rfl, ha, hb⟩ := K r hr
  refine ⟨fE m num rows l x5 (.va (.int b)) x7 fs (.va (.int a)), rfl, st_nx (env1 := fE m num rows l x5 (.va (.int b)) x7 ((fs.set a.toNat b).set b.toNat a) (.va (.int a))) ?_ ⟨_, _, _, rfl, by simp [h1], fun q hq => ?_⟩⟩
  · show R.bindS (R.of (ixN (fs.map PyData.int).length a)) _ _ = _
    rw [List.length_map, h1, ixN_in ha]
    show R.bindS (R.of (ixN ((fs.map PyData.int).set a.toNat (.int b)).length b)) _ _ = _
    rw [List.length_set, List.length_map, h1, ixN_in hb]
    have em : ((fs.map PyData.int).set a.toNat (PyData.int b)).set b.toNat (PyData.int a) = ((fs.set a.toNat b).set b.toNat a).map PyData.int := by rw [List.map_set, List.map_set]
    show R.ok (Flw.nx [.va (.int (.ofNat m)), .va (.tuple []), .va (.int num), .va (kn rows), .va (.int l), x5, .va (.int b), x7, .ol (((fs.map PyData.int).set a.toNat (PyData.int b)).set b.toNat (PyData.int a)), .va (.int a)]) = _
    rw [em]
  · rcases List.mem_or_eq_of_mem_set hq with hq | e
    · rcases List.mem_or_eq_of_mem_set hq with hq | e
      · exact h2 q hq
      · rw [e]; exact hb
    · rw [e]; exact ha
theorem call2 {d : List D → R D} {f g : Ev.Env → R D} {env : Ev.Env} {x y : D} (hf : f env = .ok x) (hg : g env = .ok y) : eCall d (aCons f (aCons g aNil)) env = d [x, y] := by
  unfold eCall aCons
  rw [hf]
  show R.bind (R.bind (R.bind (g env) _) _) d = _
  rw [hg]
  rfl
theorem chain_ok {p q : D → D → Option D} {f h k : Ev.Env → R D} {env : Ev.Env} {x y z : D} (hf : f env = .ok x) (hh : h env = .ok y) (hp : p x y = some (.bool true)) (hk : k env = .ok z) : eChain p q f h k env = R.of (q y z) := by
  unfold eChain
  rw [hf]
  show R.bind (h env) _ = _
  rw [hh]
  show R.bind (R.of (p x y)) _ = _
  rw [hp]
  show R.bind (k env) _ = _
  rw [hk]
  rfl
theorem arr_tot {m : Nat} {num W : Int} (hm : m ≤ 24) (hW : D_many [.int (.ofNat m), .tuple []] = .ok (.int W)) (h0 : 0 ≤ num) (h1 : num < W) :
    Tot (D_arrangement_at [.int (.ofNat m), .tuple [], .int num]) fun d => ∃ own : List Int, d = tupI own ∧ own.length = m ∧ InN own := by
  refine fn_tot rfl ?_
  have ec : eT (eChain leOp ltOp (eC (.int 0)) (eVar 2) (eCall D_many (aCons (eVar 0) (aCons (eVar 1) aNil)))) [.va (.int (.ofNat m)), .va (.tuple []), .va (.int num), .un, .un, .un, .un, .un, .un, .un] = .ok true := by
    have a1 : leI 0 num = true := by rw [leI_eq, decide_eq_true_eq]; exact h0
    have a2 : ltI num W = true := by rw [ltI_eq, decide_eq_true_eq]; exact h1
    have hk : eCall D_many (aCons (eVar 0) (aCons (eVar 1) aNil)) [.va (.int (.ofNat m)), .va (.tuple []), .va (.int num), .un, .un, .un, .un, .un, .un, .un] = .ok (.int W) := (call2 rfl rfl).trans hW
    have hq := chain_ok (p := leOp) (q := ltOp) (f := eC (.int 0)) (h := eVar 2) (x := .int 0) (y := .int num) rfl rfl (by show some (PyData.bool (leI 0 num)) = _; rw [a1]) hk
    unfold eT
    rw [hq]
    show R.ok (ltI num W) = _
    rw [a2]
  have e1 : sIf (tNot (eT (eChain leOp ltOp (eC (.int 0)) (eVar 2) (eCall D_many (aCons (eVar 0) (aCons (eVar 1) aNil)))))) sNev sNil [.va (.int (.ofNat m)), .va (.tuple []), .va (.int num), .un, .un, .un, .un, .un, .un, .un] = .ok (.nx [.va (.int (.ofNat m)), .va (.tuple []), .va (.int num), .un, .un, .un, .un, .un, .un, .un]) := by
    rw [sIf_f (by
      show R.bind (eT _ _) _ = _
      rw [ec]
      rfl)]
    rfl
  refine st_cons (I := fun env => env = [.va (.int (.ofNat m)), .va (.tuple []), .va (.int num), .un, .un, .un, .un, .un, .un, .un]) (st_nx e1 rfl) fun env he => ?_
  subst he
  refine st_cons (I := fun env => env = aE m num [] num .un .un .un) (st_nx rfl rfl) fun env he => ?_
  subst he
  refine st_cons (I := fun env => ∃ rows l x5 x6 x7, env = aE m num rows l x5 x6 x7 ∧ KN m m rows) ?_ fun env ⟨rows, l, x5, x6, x7, he, K⟩ => ?_
  · show STot (R.bindS (R.of (match in62 (.ofNat m) with | true => some (rng 0 (Int.ofNat m).toNat) | false => none)) _ _) _ _
    rw [in62_nat (by omega)]
    show STot (forL _ _ (rng (.ofNat 0) m) _) _ _
    refine st_forJ (fun k env => k ≤ 24 → ∃ rows l x5 x6 x7, env = aE m num rows l x5 x6 x7 ∧ KN m k rows) _ _ (fun _ => ⟨[], num, _, _, _, rfl, Nat.le_refl _, fun r hr => by cases hr⟩) (fun e h => by rw [rng_len] at h; exact h hm) fun i d hd env hI => ?_
    obtain ⟨rfl, him⟩ := rng_at hd
    obtain ⟨rows, l, x5, x6, x7, he, K⟩ := hI (by omega)
    subst he
    rw [Nat.zero_add]
    refine ⟨aE m num rows l (.va (.int (.ofNat i))) x6 x7, rfl, st_if ?_ ?_ ⟨_, rfl, fun _ => ⟨rows, l, _, _, _, rfl, ⟨by have := K.len; omega, K.all⟩⟩⟩⟩
    · obtain ⟨bd, hb, is, rfl, _⟩ := busy_tot K (by omega)
      show Tot (R.bind (R.bind (D_busy_people [kn rows]) fun y => R.of (ninOp (.int (.ofNat i)) y)) asB) _
      rw [hb]
      show Tot (R.bind (R.of (ninOp (.int (.ofNat i)) (lI is))) asB) _
      rw [nin_ints]
      exact ⟨_, rfl, trivial⟩
    · obtain ⟨cd, hc, ws, rfl, hw⟩ := choices_tot K (by omega) hm him
      show STot (R.bindS (R.bind (D_choices [.int (.ofNat m), kn rows, .int (.ofNat i)]) fun d => R.of (seqOf d)) _ _) _ _
      rw [hc]
      show STot (forL (.tup [6, 7]) aiB (ws.map fun w => tupI [w.1, w.2]) (aE m num rows l (.va (.int (.ofNat i))) x6 x7)) _ _
      obtain ⟨fl, e, g⟩ := inner_tot (num := num) K (by omega) him ws l x6 x7 hw
      refine ⟨fl, e, ?_⟩
      cases fl with
      | nx e2 => exact fun _ => g
      | rt d e2 => exact g
      | bk _ => exact g
      | ct _ => exact g
      | xc _ _ => exact g
  · subst he
    have er : nBin repD (eN (nLst (aCons (eC (.int 0)) aNil))) (eVar 0) (aE m num rows l x5 x6 x7) = .ok ((List.replicate m (0 : Int)).map PyData.int) := by
      show R.of (match leI (.ofNat m) 16777216 && smallN (1 * (Int.ofNat m).toNat) && ltI (-9223372036854775808) (.ofNat m) with
        | true => some (List.replicate (Int.ofNat m).toNat [PyData.int 0]).flatten
        | false => none) = _
      have a1 : leI (.ofNat m) 16777216 = true := by rw [leI_eq, decide_eq_true_eq]; show (m : Int) ≤ _; omega
      have a2 : smallN (1 * (Int.ofNat m).toNat) = true := smallN_of (by show 1 * m ≤ _; omega)
      have a3 : ltI (-9223372036854775808) (.ofNat m) = true := by rw [ltI_eq, decide_eq_true_eq]; show _ < (m : Int); omega
      rw [a1, a2, a3]
      show R.ok (List.replicate m [PyData.int 0]).flatten = _
      rw [List.flatten_replicate_singleton, List.map_replicate]
    refine st_cons (I := fun env => env = fE m num rows l x5 x6 x7 (List.replicate m 0) .un) (st_nx (env1 := fE m num rows l x5 x6 x7 (List.replicate m 0) .un) ?_ rfl) fun env he => ?_
    · show R.bindS (nBin repD (eN (nLst (aCons (eC (.int 0)) aNil))) (eVar 0) (aE m num rows l x5 x6 x7)) _ _ = _
      rw [er]
      rfl
    subst he
    refine st_cons (I := fun env => ∃ x6 fs x9, env = fE m num rows l x5 x6 x7 fs x9 ∧ fs.length = m ∧ ∀ q ∈ fs, 0 ≤ q ∧ q < (m : Int)) ?_ fun env ⟨x6, fs, x9, he, h2, h3⟩ => ?_
    · show STot (forL _ _ (rows.map tupI) _) _ _
      by_cases hm0 : m = 0
      · subst hm0
        exact fill_tot K.all ⟨by simp, fun q hq => by simp at hq⟩
      · exact fill_tot K.all ⟨by simp, fun q hq => by rw [List.eq_of_mem_replicate hq]; omega⟩
    · subst he
      exact st_ret ⟨_, rfl, fs, rfl, h2, fun q hq => by rw [h2]; exact h3 q hq⟩
end Wk
set_option Elab.async false
set_option linter.all false
set_option maxRecDepth 100000
set_option maxHeartbeats 4000000
/-! P96x: the law's own equality. -/
namespace Wk
open PySem PySem.Spec PyProof.Rows L2 Ev
theorem same_int (k : Nat) (i : Int) : Dn_l_law_same (k + 1) [.int i, .int i] = .ok (.bool true) := by
  have e : Dn_l_law_same (k + 1) [.int i, .int i] = .ok (.bool (eqI i i)) := rfl
  rw [e, eqI_eq, decide_eq_true rfl]
abbrev smL (d : List D → R D) : Ev.Env → R (List D) := nLc [2, 3] (.tup [2, 3]) (iZp (aCons (eVar 0) (aCons (eVar 1) aNil))) cYes (eCall d (aCons (eVar 2) (aCons (eVar 3) aNil)))
theorem zip_same {d : List D → R D} {A B : Sl} : ∀ {xs : List D}, (∀ x ∈ xs, d [x, x] = .ok (.bool true) ∧ vaD x = .ok x) → lcL (.tup [2, 3]) cYes (eCall d (aCons (eVar 2) (aCons (eVar 3) aNil))) [A, B, .un, .un] (zipL xs xs) = .ok (List.replicate xs.length (.bool true))
  | [], _ => rfl
  | x :: xs, h => by
    obtain ⟨h1, h2⟩ := h x List.mem_cons_self
    have e : eCall d (aCons (eVar 2) (aCons (eVar 3) aNil)) [A, B, .va x, .va x] = .ok (.bool true) := (call2 h2 h2).trans h1
    show R.bind (R.nox (eCall d (aCons (eVar 2) (aCons (eVar 3) aNil)) [A, B, .va x, .va x])) _ = _
    rw [e]
    show R.bind (lcL (.tup [2, 3]) cYes (eCall d (aCons (eVar 2) (aCons (eVar 3) aNil))) [A, B, .un, .un] (zipL xs xs)) _ = _
    rw [zip_same fun x hx => h x (List.mem_cons_of_mem _ hx)]
    rfl
theorem bs_rep : ∀ n : Nat, bsOf (List.replicate n (PyData.bool true)) = some (List.replicate n true)
  | 0 => rfl
  | n + 1 => by
    rw [List.replicate_succ]
    show (match bsOf (List.replicate n (PyData.bool true)) with | some is => some (true :: is) | none => none) = _
    rw [bs_rep n]
    rfl
theorem all_rep (n : Nat) : allD (.list (List.replicate n (PyData.bool true))) = some (.bool true) := by
  show (match bsOf (List.replicate n (PyData.bool true)) with | some is => some (PyData.bool (is.all id)) | none => none) = _
  rw [bs_rep]
  show some (PyData.bool ((List.replicate n true).all id)) = _
  congr 2
  simp
theorem zip_len : ∀ xs : List D, (zipL xs xs).length = xs.length
  | [] => rfl
  | x :: xs => congrArg (· + 1) (zip_len xs)
theorem sm_list {d : List D → R D} {A : Sl} {xs : List D} (hA : A = .va (.list xs) ∨ A = .va (.tuple xs)) (hl : xs.length ≤ 1000) (h : ∀ x ∈ xs, d [x, x] = .ok (.bool true) ∧ vaD x = .ok x) : eUn allD (eN (smL d)) [A, A, .un, .un] = .ok (.bool true) := by
  have e : smL d [A, A, .un, .un] = .ok (List.replicate xs.length (.bool true)) := by
    have e1 : smL d [A, A, .un, .un] = (match smallN (zipL xs xs).length && true with
      | true => lcL (.tup [2, 3]) cYes (eCall d (aCons (eVar 2) (aCons (eVar 3) aNil))) [A, A, .un, .un] (zipL xs xs)
      | false => .fail) := by rcases hA with rfl | rfl <;> rfl
    rw [e1, smallN_of (by rw [zip_len]; omega)]
    exact zip_same h
  show R.bind (R.bind (smL d [A, A, .un, .un]) _) _ = _
  rw [e]
  show R.of (allD (.list (List.replicate xs.length (PyData.bool true)))) = _
  rw [all_rep]
  rfl
theorem vand_ok {f h : Ev.Env → R D} {env : Ev.Env} {b : D} (hf : f env = .ok (.bool true)) (hh : h env = .ok b) : vAnd f h env = .ok b := by
  unfold vAnd
  rw [hf]
  exact hh
theorem len_eq {A : Sl} {xs : List D} (hA : A = .va (.list xs) ∨ A = .va (.tuple xs)) : eBin eqOp (eUn lenD (bVar 0)) (eUn lenD (bVar 1)) [A, A, .un, .un] = .ok (.bool true) := by
  have e : eBin eqOp (eUn lenD (bVar 0)) (eUn lenD (bVar 1)) [A, A, .un, .un] = .ok (.bool (eqI (.ofNat (lenL xs)) (.ofNat (lenL xs)))) := by rcases hA with rfl | rfl <;> rfl
  rw [e, eqI_eq, decide_eq_true rfl]
theorem same_seq {k : Nat} {m : D} {xs : List D} (hm : m = .list xs ∨ m = .tuple xs) (hl : xs.length ≤ 1000) (h : ∀ x ∈ xs, Dn_l_law_same k [x, x] = .ok (.bool true) ∧ vaD x = .ok x) : Dn_l_law_same (k + 1) [m, m] = .ok (.bool true) := by
  have hA : (Sl.va m = .va (.list xs)) ∨ (Sl.va m = .va (.tuple xs)) := by rcases hm with rfl | rfl <;> simp
  have e1 := vand_ok (len_eq hA) (sm_list (d := Dn_l_law_same k) hA hl h)
  have hs : [m, m].map slOf ++ reps 2 = [.va m, .va m, .un, .un] := by rcases hm with rfl | rfl <;> rfl
  refine fnD_rt (env := [.va m, .va m, .un, .un]) ?_ rfl
  rw [hs]
  have t1 : eT (eIsAny [.list, .tuple] (bVar 1)) [.va m, .va m, .un, .un] = .ok true := by rcases hm with rfl | rfl <;> rfl
  have t2 : tOr (eT (eBin neOp (eIs1 .list (bVar 0)) (eIs1 .list (bVar 1)))) (eT (eBin neOp (eIs1 .tuple (bVar 0)) (eIs1 .tuple (bVar 1)))) [.va m, .va m, .un, .un] = .ok false := by rcases hm with rfl | rfl <;> rfl
  have s2 : sIf (tOr (eT (eBin neOp (eIs1 .list (bVar 0)) (eIs1 .list (bVar 1)))) (eT (eBin neOp (eIs1 .tuple (bVar 0)) (eIs1 .tuple (bVar 1))))) (sRet (eC (.bool false))) sNil [.va m, .va m, .un, .un] = .ok (.nx [.va m, .va m, .un, .un]) := by
    rw [sIf_f t2]
    rfl
  have s1 : sIf (eT (eIsAny [.list, .tuple] (bVar 1))) (sCons (sIf (tOr (eT (eBin neOp (eIs1 .list (bVar 0)) (eIs1 .list (bVar 1)))) (eT (eBin neOp (eIs1 .tuple (bVar 0)) (eIs1 .tuple (bVar 1))))) (sRet (eC (.bool false))) sNil) (sRet (vAnd (eBin eqOp (eUn lenD (bVar 0)) (eUn lenD (bVar 1))) (eUn allD (eN (smL (Dn_l_law_same k))))))) sNil [.va m, .va m, .un, .un] = .ok (.rt (.bool true) [.va m, .va m, .un, .un]) := by
    rw [sIf_t t1, sCons_nx s2]
    unfold sRet
    rw [e1]
    rfl
  show thenS (sIf (eT (eIsAny [.list, .tuple] (bVar 1))) (sCons (sIf (tOr (eT (eBin neOp (eIs1 .list (bVar 0)) (eIs1 .list (bVar 1)))) (eT (eBin neOp (eIs1 .tuple (bVar 0)) (eIs1 .tuple (bVar 1))))) (sRet (eC (.bool false))) sNil) (sRet (vAnd (eBin eqOp (eUn lenD (bVar 0)) (eUn lenD (bVar 1))) (eUn allD (eN (smL (Dn_l_law_same k))))))) sNil [.va m, .va m, .un, .un]) _ = _
  rw [s1]
  rfl
theorem same_tup (k : Nat) {own : List Int} (h : own.length ≤ 1000) : Dn_l_law_same (k + 2) [tupI own, tupI own] = .ok (.bool true) := by
  refine same_seq (k := k + 1) (m := tupI own) (xs := own.map .int) (.inr rfl) (by rw [List.length_map]; exact h) fun x hx => ?_
  obtain ⟨i, _, rfl⟩ := List.mem_map.mp hx
  exact ⟨same_int k i, rfl⟩
/-- what may stand in the law's lists -/
def Flat (d : D) : Prop := (∃ i : Int, d = .int i) ∨ ∃ own : List Int, d = tupI own ∧ own.length ≤ 1000
theorem same_flat {k : Nat} {d : D} (h : Flat d) : Dn_l_law_same (k + 2) [d, d] = .ok (.bool true) ∧ vaD d = .ok d := by
  rcases h with ⟨i, rfl⟩ | ⟨own, rfl, h⟩
  · exact ⟨same_int (k + 1) i, rfl⟩
  · exact ⟨same_tup k h, rfl⟩
theorem same_list {xs : List D} (hl : xs.length ≤ 1000) (h : ∀ x ∈ xs, Flat x) : Dn_l_law_same 4 [.list xs, .list xs] = .ok (.bool true) := same_seq (k := 3) (.inl rfl) hl fun x hx => same_flat (k := 1) (h x hx)
end Wk
set_option Elab.async false
set_option linter.all false
set_option maxRecDepth 100000
set_option maxHeartbeats 4000000
/-! P96y: far_right. -/
namespace Wk
open PySem PySem.Spec PyProof.Rows L2 Ev
@[irreducible] def Fr1 : Ev.Env → R Flw := (sPar [2, 3] (pV (eCall D_many (aCons (eBin mulD (eC (.int 2)) (eVar 1)) (aCons (eTup aNil) aNil))) (pV (eCall D_take (aUrn 0 (aCons (eBin mulD (eC (.int 4)) (eVar 1)) aNil))) pNil)))
@[irreducible] def Fr2 : Ev.Env → R Flw := (sAsg 4 (eCall D_arrangement_at (aCons (eBin mulD (eC (.int 2)) (eVar 1)) (aCons (eTup aNil) (aCons (eCall D_take (aUrn 0 (aCons (eVar 2) aNil))) aNil)))))
@[irreducible] def Fr3 : Ev.Env → R Flw := (sAsg 5 (eCall D_period (aCons (eVar 4) aNil)))
@[irreducible] def Fr4 : Ev.Env → R Flw := (sAsg 6 (eN (nLst (aCons (eCall D_turned (aCons (eVar 4) (aCons (eVar 5) aNil))) (aCons (eCall D_turned (aCons (eVar 4) (aCons (eBin subD (eC (.int 0)) (eVar 5)) aNil))) (aCons (eCall D_turned (aCons (eCall D_turned (aCons (eVar 4) (aCons (eVar 3) aNil))) (aCons (eBin subD (eBin mulD (eC (.int 2)) (eVar 1)) (eVar 3)) aNil))) (aCons (eBin modD (eUn intD (eBin mulD (eC (.int 2)) (eVar 1))) (eVar 5)) aNil)))))))
@[irreducible] def Fr5 : Ev.Env → R Flw := (sAsg 6 (eBin addD (eVar 6) (eN (nLst (aCons (eCall D_alike_many (aCons (eBin mulD (eC (.int 2)) (eVar 1)) (aCons (eC (.int 0)) aNil))) (aCons (eCall D_alike_many (aCons (eBin mulD (eC (.int 2)) (eVar 1)) (aCons (eVar 3) aNil))) (aCons (eCall D_alike_many (aCons (eBin mulD (eC (.int 2)) (eVar 1)) (aCons (eBin subD (eBin mulD (eC (.int 2)) (eVar 1)) (eVar 3)) aNil))) aNil)))))))
@[irreducible] def Fr6 : Ev.Env → R Flw := (sIf (tNot (eT (eCall (Dn_l_law_same 4) (aCons (eVar 6) (aCons (eN (nLst (aCons (eVar 4) (aCons (eVar 4) (aCons (eVar 4) (aCons (eC (.int 0)) (aCons (eVar 2) (aCons (eCall D_alike_many (aCons (eBin mulD (eC (.int 2)) (eVar 1)) (aCons (eBin subD (eC (.int 0)) (eVar 3)) aNil))) (aCons (eCall D_alike_many (aCons (eBin mulD (eC (.int 2)) (eVar 1)) (aCons (eVar 3) aNil))) aNil))))))))) aNil))))) (sRet (eC (.bool false))) sNil)
@[irreducible] def Fr7 : Ev.Env → R Flw := (sAsg 7 (eUn sumD (eN (nLc [8] (.one 8) (iRng rng1 (aCons (eBin mulD (eC (.int 2)) (eVar 1)) aNil)) cYes (eCall D_alike_many (aCons (eBin mulD (eC (.int 2)) (eVar 1)) (aCons (eVar 8) aNil)))))))
@[irreducible] def Fr8 : Ev.Env → R Flw := (sIf (tOr (eT (eBin neOp (eBin modD (eUn intD (bVar 7)) (eBin mulD (eC (.int 2)) (eVar 1))) (eC (.int 0)))) (eT (eBin neOp (eCall D_alike_many (aCons (eBin mulD (eC (.int 2)) (eVar 1)) (aCons (eVar 1) aNil))) (eCall D_l_law_choose (aCons (eVar 1) (aCons (eBin divD (eVar 1) (eC (.int 2))) aNil)))))) (sRet (eC (.bool false))) sNil)
@[irreducible] def Fr9 : Ev.Env → R Flw := (sRet (eBin eqOp (eUn lenD (eN (nLc [8] (.one 8) (iRng rng2 (aCons (eC (.int 1)) (aCons (eVar 5) aNil))) (eT (eBin eqOp (eCall D_turned (aCons (eVar 4) (aCons (eVar 8) aNil))) (eVar 4))) (eVar 8)))) (eC (.int 0))))
theorem Fr_eq : B_l_law_far_right = (sCons Fr1 (sCons Fr2 (sCons Fr3 (sCons Fr4 (sCons Fr5 (sCons Fr6 (sCons Fr7 (sCons Fr8 Fr9)))))))) := by kernel_rfl

section
variable {p q : Ev.Env → R Flw} {env env1 : Ev.Env} {b : Nat} {Q : Nat → Flw → Prop} {W : Nat → Exn → Prop}
theorem post_nx (h1 : p env = .ok (.nx env1)) (h2 : (q env1).post b Q W) : (sCons p q env).post b Q W := by
  rw [sCons_nx h1]
  exact h2
theorem post_cons (h : (p env).post b (fun b' fl => ∃ env', fl = .nx env' ∧ (q env').post b' Q W) W) : (sCons p q env).post b Q W := by
  unfold sCons thenS
  refine R.bind_post (R.post_mono (fun b' fl ⟨env', e, h⟩ => ?_) (fun _ _ h => h) h)
  subst e
  exact h
theorem post_draw {n : Nat} {k : Nat → R Flw} {k' : Nat → Ev.Env} (h : p env = .draw n k) (hk : ∀ i, i < n → k i = .ok (.nx (k' i))) (hb : 0 < b) (hn : 0 < n ∧ n < 1073741824) (hq : ∀ i, i < n → (q (k' i)).post (b - 1) Q W) : (sCons p q env).post b Q W := by
  refine post_cons ?_
  rw [h]
  refine ⟨hn, b - 1, by omega, fun i hi => ?_⟩
  rw [hk i hi]
  exact ⟨_, rfl, hq i hi⟩
end
theorem nox_post {α : Type} {Q : Nat → α → Prop} {W : Nat → Exn → Prop} : ∀ {m : R α} {b : Nat}, m.post b Q (fun _ _ => False) → m.nox.post b Q W
  | .fail, _, h => h
  | .ok _, _, h => h
  | .exc _, _, h => h.elim
  | .draw n k, b, ⟨hn, b', e, h⟩ => ⟨hn, b', e, fun i hi => nox_post (h i hi)⟩
theorem fn_post {n m : Nat} {f : Ev.Env → R Flw} {as : List D} {b : Nat} {P : Nat → D → Prop} {W : Nat → Exn → Prop} (hl : Nat.beq as.length n = true) (h : (f (as.map slOf ++ reps m)).post b (fun b' fl => ∃ d env, fl = .rt d env ∧ P b' d) fun _ _ => False) : (fnD n m f as).post b P W := by
  unfold fnD
  rw [hl]
  refine R.bind_post (nox_post (R.post_mono (fun b' fl ⟨d, env, e, hp⟩ => ?_) (fun _ _ q => q.elim) h))
  subst e
  exact hp
theorem acons_ok {f : Ev.Env → R D} {h : Ev.Env → R (List D)} {env : Ev.Env} {x : D} {xs : List D} (hf : f env = .ok x) (hh : h env = .ok xs) : aCons f h env = .ok (x :: xs) := by
  unfold aCons
  rw [hf]
  show R.bind (h env) _ = _
  rw [hh]
  rfl
theorem call_ok {d : List D → R D} {h : Ev.Env → R (List D)} {env : Ev.Env} {xs : List D} {r : R D} (hh : h env = .ok xs) (hd : d xs = r) : eCall d h env = r := by
  unfold eCall
  rw [hh]
  exact hd
theorem bin_ok {op : D → D → Option D} {f h : Ev.Env → R D} {env : Ev.Env} {x y z : D} (hf : f env = .ok x) (hh : h env = .ok y) (ho : op x y = some z) : eBin op f h env = .ok z := by
  unfold eBin
  rw [hf]
  show R.bind (h env) _ = _
  rw [hh]
  show R.of (op x y) = _
  rw [ho]
  rfl
theorem lst_ok {h : Ev.Env → R (List D)} {env : Ev.Env} {xs : List D} (hh : h env = .ok xs) (hz : xs.length ≤ 1000) : eN (nLst h) env = .ok (.list xs) := by
  unfold eN nLst
  rw [hh]
  show R.bind (match smallN xs.length with | true => R.ok xs | false => .fail) _ = _
  rw [smallN_of (by omega)]
  rfl
theorem asg_ok {i : Nat} {f : Ev.Env → R D} {env : Ev.Env} {d : D} (hf : f env = .ok d) : sAsg i f env = .ok (.nx (setS env i (.va d))) := by
  unfold sAsg
  rw [hf]
  rfl
abbrev rE (s W : Int) (x3 x4 x5 x6 x7 x8 : Sl) : Ev.Env := [.ur, .va (.int s), .va (.int W), x3, x4, x5, x6, x7, x8]
def ck (m i : Int) : Bool := match D_alike_many [.int m, .int i], D_alike_many [.int m, .int (m - i)], D_alike_many [.int m, .int (0 - i)] with
  | .ok (.int a), .ok (.int b), .ok (.int c) => eqI a b && eqI a c
  | _, _, _ => false
theorem ck_ok {m i : Int} (h : ck m i = true) : ∃ a, D_alike_many [.int m, .int i] = .ok (.int a) ∧ D_alike_many [.int m, .int (m - i)] = .ok (.int a) ∧ D_alike_many [.int m, .int (0 - i)] = .ok (.int a) := by
  unfold ck at h
  split at h
  · rename_i a b c e1 e2 e3
    rw [Bool.and_eq_true, eqI_eq, eqI_eq, decide_eq_true_eq, decide_eq_true_eq] at h
    exact ⟨a, e1, by rw [e2, ← h.1], by rw [e3, ← h.2]⟩
  · cases h
structure FF (s m Wn n4 : Nat) (T : Int) : Prop where
  hm : 1 ≤ m ∧ m ≤ 24
  hW : 0 < Wn ∧ Wn < 1073741824
  h4 : 0 < n4 ∧ n4 < 1073741824
  many : D_many [.int (.ofNat m), .tuple []] = .ok (.int (.ofNat Wn))
  f1 : Fr1 [.ur, .va (.int (.ofNat s)), .un, .un, .un, .un, .un, .un, .un] = .draw n4 fun i => .ok (.nx (rE (.ofNat s) (.ofNat Wn) (.va (.int (.ofNat i))) .un .un .un .un .un))
  f2m : ∀ x3 x4 x5 x6 x7 x8, eBin mulD (eC (.int 2)) (eVar 1) (rE (.ofNat s) (.ofNat Wn) x3 x4 x5 x6 x7 x8) = .ok (.int (.ofNat m))
  a0 : D_alike_many [.int (.ofNat m), .int 0] = .ok (.int (.ofNat Wn))
  al : (List.range n4).all (fun i => ck (.ofNat m) (.ofNat i)) = true
  f7 : ∀ x3 x4 x5 x6 x7 x8, Fr7 (rE (.ofNat s) (.ofNat Wn) x3 x4 x5 x6 x7 x8) = .ok (.nx (rE (.ofNat s) (.ofNat Wn) x3 x4 x5 x6 (.va (.int T)) x8))
  f8 : ∀ x3 x4 x5 x6 x8, Fr8 (rE (.ofNat s) (.ofNat Wn) x3 x4 x5 x6 (.va (.int T)) x8) = .ok (.nx (rE (.ofNat s) (.ofNat Wn) x3 x4 x5 x6 (.va (.int T)) x8))
theorem draw_asg {i n : Nat} {d : List D → R D} {h : Ev.Env → R (List D)} {env : Ev.Env} {as : Nat → List D} (hh : h env = .draw n fun j => .ok (as j)) : sAsg i (eCall d h) env = .draw n fun j => R.bindS (d (as j)) env fun x => .ok (.nx (setS env i (.va x))) := by
  unfold sAsg eCall
  rw [hh]
  rfl
theorem lc_none {t : Tg} {c : Ev.Env → R Bool} {f : Ev.Env → R D} {env : Ev.Env} : ∀ {ds : List D}, (∀ d ∈ ds, ∃ env1, bindT t d env = some env1 ∧ c env1 = .ok false) → lcL t c f env ds = .ok []
  | [], _ => rfl
  | d :: ds, h => by
    obtain ⟨env1, e1, e2⟩ := h d List.mem_cons_self
    unfold lcL
    rw [e1]
    show R.bind (R.nox (c env1)) _ = _
    rw [e2]
    exact lc_none fun d hd => h d (List.mem_cons_of_mem _ hd)
theorem eqOp_tup (a b : List Int) : eqOp (tupI a) (tupI b) = some (.bool (decide (a = b))) := by
  unfold eqOp
  rw [eqD_tup]
  rfl
theorem far_tail {s m Wn n4 : Nat} {T : Int} (F : FF s m Wn n4 T) {b c0 i : Nat} (hi : i < n4) {own : List Int} (ho : own.length = m) (hin : InN own) (hb : b = c0) : ((sCons Fr3 (sCons Fr4 (sCons Fr5 (sCons Fr6 (sCons Fr7 (sCons Fr8 Fr9)))))) (rE (.ofNat s) (.ofNat Wn) (.va (.int (.ofNat i))) (.va (tupI own)) .un .un .un .un)).post b (fun b' fl => ∃ d env, fl = .rt d env ∧ b' = c0 ∧ d = .bool true) fun _ _ => False := by
  have hm := F.hm
  obtain ⟨p, P⟩ := per_ex hin (by omega)
  have e3 : Fr3 (rE (.ofNat s) (.ofNat Wn) (.va (.int (.ofNat i))) (.va (tupI own)) .un .un .un .un) = .ok (.nx (rE (.ofNat s) (.ofNat Wn) (.va (.int (.ofNat i))) (.va (tupI own)) (.va (.int p)) .un .un .un)) := by
    unfold Fr3
    exact asg_ok (call_ok (acons_ok rfl rfl) (period_eq P (by omega)))
  refine post_nx e3 ?_
  -- the four turns
  have t1 : rotP own p = own := P.stay
  have t2 : rotP own (0 - p) = own := rotP_back hin P.stay
  have t3 : rotP (rotP own (.ofNat i)) (.ofNat m - .ofNat i) = own := by
    rw [rotP_rotP]
    have : (Int.ofNat i + (Int.ofNat m - Int.ofNat i)) = (own.length : Int) := by
      rw [ho]
      show (i : Int) + ((m : Int) - (i : Int)) = (m : Int)
      omega
    rw [this]
    exact rotP_full hin
  have t4 : (Int.ofNat m) % (p : Int) = 0 := by
    have := per_dvd hin P
    rw [ho] at this
    exact this
  have hp0 : ltI 0 (p : Int) = true := by rw [ltI_eq, decide_eq_true_eq]; have := P.pos; omega
  have hf : ∀ x ∈ [tupI own, tupI own, tupI own, PyData.int 0], Flat x := fun x hx => by
    simp only [List.mem_cons, List.not_mem_nil, or_false] at hx
    rcases hx with rfl | rfl | rfl | rfl
    · exact .inr ⟨own, rfl, by omega⟩
    · exact .inr ⟨own, rfl, by omega⟩
    · exact .inr ⟨own, rfl, by omega⟩
    · exact .inl ⟨0, rfl⟩
  have e4 : Fr4 (rE (.ofNat s) (.ofNat Wn) (.va (.int (.ofNat i))) (.va (tupI own)) (.va (.int p)) .un .un .un) = .ok (.nx (rE (.ofNat s) (.ofNat Wn) (.va (.int (.ofNat i))) (.va (tupI own)) (.va (.int p)) (.va (.list [tupI own, tupI own, tupI own, .int 0])) .un .un)) := by
    unfold Fr4
    refine asg_ok (d := .list [tupI own, tupI own, tupI own, .int 0]) (lst_ok (acons_ok ?_ (acons_ok ?_ (acons_ok ?_ (acons_ok ?_ rfl)))) (by simp))
    · exact (call2 (x := tupI own) (y := .int p) rfl rfl).trans ((turned_eq own p).trans (by rw [t1]))
    · exact (call2 (x := tupI own) (y := .int (0 - p)) rfl rfl).trans ((turned_eq own (0 - p)).trans (by rw [t2]))
    · refine (call2 (x := tupI (rotP own (.ofNat i))) (y := .int (.ofNat m - .ofNat i)) ((call2 (x := tupI own) (y := .int (.ofNat i)) rfl rfl).trans (turned_eq own (.ofNat i))) (bin_ok (F.f2m _ _ _ _ _ _) rfl rfl)).trans ((turned_eq _ _).trans (by rw [t3]))
    · refine bin_ok (x := .int (.ofNat m)) (y := .int p) ?_ rfl ?_
      · unfold eUn
        rw [F.f2m]
        rfl
      · show (match ltI 0 (p : Int) with | true => some (PyData.int (Int.ofNat m % p)) | false => none) = _
        rw [hp0, t4]
  refine post_nx e4 ?_
  obtain ⟨c, c1, c2, c3⟩ := ck_ok (List.all_eq_true.mp F.al i (List.mem_range.mpr hi))
  have e5 : Fr5 (rE (.ofNat s) (.ofNat Wn) (.va (.int (.ofNat i))) (.va (tupI own)) (.va (.int p)) (.va (.list [tupI own, tupI own, tupI own, .int 0])) .un .un) = .ok (.nx (rE (.ofNat s) (.ofNat Wn) (.va (.int (.ofNat i))) (.va (tupI own)) (.va (.int p)) (.va (.list [tupI own, tupI own, tupI own, .int 0, .int (.ofNat Wn), .int c, .int c])) .un .un)) := by
    unfold Fr5
    refine asg_ok (d := .list [tupI own, tupI own, tupI own, .int 0, .int (.ofNat Wn), .int c, .int c]) (bin_ok (x := .list [tupI own, tupI own, tupI own, .int 0]) (y := .list [.int (.ofNat Wn), .int c, .int c]) rfl (lst_ok (acons_ok ?_ (acons_ok ?_ (acons_ok ?_ rfl))) (by simp)) rfl)
    · exact (call2 (F.f2m _ _ _ _ _ _) rfl).trans F.a0
    · exact (call2 (F.f2m _ _ _ _ _ _) rfl).trans c1
    · exact (call2 (F.f2m _ _ _ _ _ _) (bin_ok (F.f2m _ _ _ _ _ _) rfl rfl)).trans c2
  refine post_nx e5 ?_
  have hf2 : ∀ x ∈ [tupI own, tupI own, tupI own, PyData.int 0, PyData.int (.ofNat Wn), PyData.int c, PyData.int c], Flat x := fun x hx => by
    rcases List.mem_append.mp (show x ∈ [tupI own, tupI own, tupI own, PyData.int 0] ++ [PyData.int (.ofNat Wn), PyData.int c, PyData.int c] from hx) with h | h
    · exact hf x h
    · simp only [List.mem_cons, List.not_mem_nil, or_false] at h
      rcases h with rfl | rfl | rfl
      · exact .inl ⟨_, rfl⟩
      · exact .inl ⟨_, rfl⟩
      · exact .inl ⟨_, rfl⟩
  have e6 : Fr6 (rE (.ofNat s) (.ofNat Wn) (.va (.int (.ofNat i))) (.va (tupI own)) (.va (.int p)) (.va (.list [tupI own, tupI own, tupI own, .int 0, .int (.ofNat Wn), .int c, .int c])) .un .un) = .ok (.nx (rE (.ofNat s) (.ofNat Wn) (.va (.int (.ofNat i))) (.va (tupI own)) (.va (.int p)) (.va (.list [tupI own, tupI own, tupI own, .int 0, .int (.ofNat Wn), .int c, .int c])) .un .un)) := by
    unfold Fr6
    refine Eq.trans (sIf_f ?_) rfl
    have hc := (call2 (d := Dn_l_law_same 4) (f := eVar 6) (g := eN (nLst (aCons (eVar 4) (aCons (eVar 4) (aCons (eVar 4) (aCons (eC (.int 0)) (aCons (eVar 2) (aCons (eCall D_alike_many (aCons (eBin mulD (eC (.int 2)) (eVar 1)) (aCons (eBin subD (eC (.int 0)) (eVar 3)) aNil))) (aCons (eCall D_alike_many (aCons (eBin mulD (eC (.int 2)) (eVar 1)) (aCons (eVar 3) aNil))) aNil)))))))))
      (env := rE (.ofNat s) (.ofNat Wn) (.va (.int (.ofNat i))) (.va (tupI own)) (.va (.int p)) (.va (.list [tupI own, tupI own, tupI own, .int 0, .int (.ofNat Wn), .int c, .int c])) .un .un)
      (x := .list [tupI own, tupI own, tupI own, .int 0, .int (.ofNat Wn), .int c, .int c]) (y := .list [tupI own, tupI own, tupI own, .int 0, .int (.ofNat Wn), .int c, .int c]) rfl
      (lst_ok (acons_ok rfl (acons_ok rfl (acons_ok rfl (acons_ok rfl (acons_ok rfl (acons_ok ((call2 (F.f2m _ _ _ _ _ _) rfl).trans c3) (acons_ok ((call2 (F.f2m _ _ _ _ _ _) rfl).trans c1) rfl))))))) (by simp))).trans (same_list (by simp) hf2)
    unfold Ev.tNot eT
    rw [hc]
    rfl
  refine post_nx e6 (post_nx (F.f7 _ _ _ _ _ _) (post_nx (F.f8 _ _ _ _ _) ?_))
  have hr : iRng rng2 (aCons (eC (.int 1)) (aCons (eVar 5) aNil)) (rE (.ofNat s) (.ofNat Wn) (.va (.int (.ofNat i))) (.va (tupI own)) (.va (.int p)) (.va (.list [tupI own, tupI own, tupI own, .int 0, .int (.ofNat Wn), .int c, .int c])) (.va (.int T)) .un) = .ok (rng 1 ((p : Int) - 1).toNat) := by
    show R.of (match in62 1 && in62 (.ofNat p) with | true => some (rng 1 ((p : Int) - 1).toNat) | false => none) = _
    rw [in62_nat (m := p) (by have := P.le; omega)]
    rfl
  have hl : nLc [8] (.one 8) (iRng rng2 (aCons (eC (.int 1)) (aCons (eVar 5) aNil))) (eT (eBin eqOp (eCall D_turned (aCons (eVar 4) (aCons (eVar 8) aNil))) (eVar 4))) (eVar 8) (rE (.ofNat s) (.ofNat Wn) (.va (.int (.ofNat i))) (.va (tupI own)) (.va (.int p)) (.va (.list [tupI own, tupI own, tupI own, .int 0, .int (.ofNat Wn), .int c, .int c])) (.va (.int T)) .un) = .ok [] := by
    unfold nLc
    rw [hr]
    show (match smallN (rng 1 ((p : Int) - 1).toNat).length && true with
      | true => lcL (.one 8) (eT (eBin eqOp (eCall D_turned (aCons (eVar 4) (aCons (eVar 8) aNil))) (eVar 4))) (eVar 8) (rE (.ofNat s) (.ofNat Wn) (.va (.int (.ofNat i))) (.va (tupI own)) (.va (.int p)) (.va (.list [tupI own, tupI own, tupI own, .int 0, .int (.ofNat Wn), .int c, .int c])) (.va (.int T)) .un) (rng 1 ((p : Int) - 1).toNat)
      | false => .fail) = _
    rw [rng_len, smallN_of (by have := P.le; omega)]
    refine lc_none fun d hd => ?_
    obtain ⟨z, rfl, z1, z2⟩ := rng_int hd
    refine ⟨_, rfl, ?_⟩
    have hz : rotP own z ≠ own := by
      have := P.least z.toNat (by omega) (by omega)
      rw [Int.toNat_of_nonneg (by omega)] at this
      exact this
    have hq := bin_ok (op := eqOp) (f := eCall D_turned (aCons (eVar 4) (aCons (eVar 8) aNil))) (h := eVar 4) (env := rE (.ofNat s) (.ofNat Wn) (.va (.int (.ofNat i))) (.va (tupI own)) (.va (.int p)) (.va (.list [tupI own, tupI own, tupI own, .int 0, .int (.ofNat Wn), .int c, .int c])) (.va (.int T)) (.va (.int z))) ((call2 (x := tupI own) (y := .int z) rfl rfl).trans (turned_eq own z)) rfl (eqOp_tup _ _)
    show R.bind (eBin eqOp (eCall D_turned (aCons (eVar 4) (aCons (eVar 8) aNil))) (eVar 4) (rE (.ofNat s) (.ofNat Wn) (.va (.int (.ofNat i))) (.va (tupI own)) (.va (.int p)) (.va (.list [tupI own, tupI own, tupI own, .int 0, .int (.ofNat Wn), .int c, .int c])) (.va (.int T)) (.va (.int z)))) asB = _
    rw [hq, decide_eq_false hz]
    rfl
  have e9 : Fr9 (rE (.ofNat s) (.ofNat Wn) (.va (.int (.ofNat i))) (.va (tupI own)) (.va (.int p)) (.va (.list [tupI own, tupI own, tupI own, .int 0, .int (.ofNat Wn), .int c, .int c])) (.va (.int T)) .un) = .ok (.rt (.bool true) (rE (.ofNat s) (.ofNat Wn) (.va (.int (.ofNat i))) (.va (tupI own)) (.va (.int p)) (.va (.list [tupI own, tupI own, tupI own, .int 0, .int (.ofNat Wn), .int c, .int c])) (.va (.int T)) .un)) := by
    have hn : eUn lenD (eN (nLc [8] (.one 8) (iRng rng2 (aCons (eC (.int 1)) (aCons (eVar 5) aNil))) (eT (eBin eqOp (eCall D_turned (aCons (eVar 4) (aCons (eVar 8) aNil))) (eVar 4))) (eVar 8))) (rE (.ofNat s) (.ofNat Wn) (.va (.int (.ofNat i))) (.va (tupI own)) (.va (.int p)) (.va (.list [tupI own, tupI own, tupI own, .int 0, .int (.ofNat Wn), .int c, .int c])) (.va (.int T)) .un) = .ok (.int 0) := by
      unfold eUn eN
      rw [hl]
      rfl
    have hq := bin_ok (op := eqOp) (h := eC (.int 0)) (y := .int 0) hn rfl (z := .bool true) rfl
    unfold Fr9 sRet
    rw [hq]
    rfl
  rw [e9]
  exact ⟨_, _, rfl, hb, rfl⟩
theorem arr_key {m Wn j : Nat} (hm : m ≤ 24) (hW : D_many [.int (.ofNat m), .tuple []] = .ok (.int (.ofNat Wn))) (hj : j < Wn) : ∃ own : List Int, D_arrangement_at [.int (.ofNat m), .tuple [], .int (.ofNat j)] = .ok (tupI own) ∧ own.length = m ∧ InN own := by
  obtain ⟨d, e, own, hd, h1, h2⟩ := arr_tot hm hW (num := .ofNat j) (Int.natCast_nonneg j) (by show (j : Int) < (Wn : Int); omega)
  exact ⟨own, by rw [← hd]; exact e, h1, h2⟩
theorem mid_post {n : Nat} {d : Nat → R D} {as : Nat → Ev.Env} {p q : Ev.Env → R Flw} {env : Ev.Env} {k : D → Ev.Env} {b : Nat} {Q : Nat → Flw → Prop} {W : Nat → Exn → Prop} (hp : p env = .draw n fun j => R.bindS (d j) env fun x => .ok (.nx (k x))) (hb : 0 < b) (hn : 0 < n ∧ n < 1073741824)
    (h : ∀ j, j < n → ∃ x, d j = .ok x ∧ (q (k x)).post (b - 1) Q W) : (sCons p q env).post b Q W := by
  refine post_cons ?_
  rw [hp]
  refine ⟨hn, b - 1, by omega, fun j hj => ?_⟩
  refine (h j hj).elim fun x hx => ?_
  show (R.bindS (d j) env fun x => R.ok (Flw.nx (k x))).post _ _ _
  rw [hx.1]
  exact ⟨_, rfl, hx.2⟩
theorem far_mid {s m Wn n4 : Nat} {T : Int} (F : FF s m Wn n4 T) {b : Nat} (hb : 2 ≤ b) (i : Nat) (hi : i < n4) {d : Nat → R D}
    (h2 : Fr2 (rE (.ofNat s) (.ofNat Wn) (.va (.int (.ofNat i))) .un .un .un .un .un) = .draw Wn fun j => R.bindS (d j) (rE (.ofNat s) (.ofNat Wn) (.va (.int (.ofNat i))) .un .un .un .un .un) fun x => .ok (.nx (setS (rE (.ofNat s) (.ofNat Wn) (.va (.int (.ofNat i))) .un .un .un .un .un) 4 (.va x))))
    (key : ∀ j, j < Wn → ∃ own : List Int, d j = .ok (tupI own) ∧ own.length = m ∧ InN own) :
    ((sCons Fr2 (sCons Fr3 (sCons Fr4 (sCons Fr5 (sCons Fr6 (sCons Fr7 (sCons Fr8 Fr9))))))) (rE (.ofNat s) (.ofNat Wn) (.va (.int (.ofNat i))) .un .un .un .un .un)).post (b - 1) (fun b' fl => ∃ d env, fl = .rt d env ∧ b' = b - 2 ∧ d = .bool true) fun _ _ => False :=
  mid_post (as := fun _ => []) h2 (by omega) F.hW fun j hj => (key j hj).elim fun own h => ⟨tupI own, h.1, far_tail F hi h.2.1 h.2.2 (by omega)⟩
theorem far_n {s m Wn n4 : Nat} {T : Int} (F : FF s m Wn n4 T) {b : Nat} (hb : 2 ≤ b) {W : Nat → Exn → Prop} : (D_l_law_far_right [urnD, .int (.ofNat s)]).post b (fun b' d => b' = b - 2 ∧ d = .bool true) W := by
  refine fn_post rfl ?_
  rw [Fr_eq]
  have hm := F.hm
  refine post_draw (k' := fun i => rE (.ofNat s) (.ofNat Wn) (.va (.int (.ofNat i))) .un .un .un .un .un) F.f1 (fun i hi => rfl) (by omega) F.h4 fun i hi => ?_
  have hd : aCons (eBin mulD (eC (.int 2)) (eVar 1)) (aCons (eTup aNil) (aCons (eCall D_take (aUrn 0 (aCons (eVar 2) aNil))) aNil)) (rE (.ofNat s) (.ofNat Wn) (.va (.int (.ofNat i))) .un .un .un .un .un) = .draw Wn fun j => .ok [.int (.ofNat m), .tuple [], .int (.ofNat j)] := by
    unfold aCons
    rw [F.f2m]
    rfl
  have key : ∀ j, j < Wn → ∃ own : List Int, D_arrangement_at [.int (.ofNat m), .tuple [], .int (.ofNat j)] = .ok (tupI own) ∧ own.length = m ∧ InN own := fun j hj => arr_key hm.2 F.many hj
  exact far_mid F (b := b) hb i hi (by unfold Fr2; exact draw_asg hd) key

end Wk
set_option Elab.async false
set_option linter.all false
set_option maxRecDepth 1000000
set_option maxHeartbeats 4000000
/-! P96z: far_right, the sizes. -/
namespace Wk
open PySem PySem.Spec PyProof.Rows L2 Ev
theorem ff_1 : FF 1 2 1 4 2 where
  hm := by decide
  hW := by decide
  h4 := by decide
  many := by kernel_rfl
  f1 := by kernel_rfl
  f2m := fun _ _ _ _ _ _ => by kernel_rfl
  a0 := by kernel_rfl
  al := by kernel_rfl
  f7 := fun _ _ _ _ _ _ => by kernel_rfl
  f8 := fun _ _ _ _ _ => by kernel_rfl
theorem ff_2 : FF 2 4 2 8 4 where
  hm := by decide
  hW := by decide
  h4 := by decide
  many := by kernel_rfl
  f1 := by kernel_rfl
  f2m := fun _ _ _ _ _ _ => by kernel_rfl
  a0 := by kernel_rfl
  al := by kernel_rfl
  f7 := fun _ _ _ _ _ _ => by kernel_rfl
  f8 := fun _ _ _ _ _ => by kernel_rfl
theorem ff_3 : FF 3 6 5 12 12 where
  hm := by decide
  hW := by decide
  h4 := by decide
  many := by kernel_rfl
  f1 := by kernel_rfl
  f2m := fun _ _ _ _ _ _ => by kernel_rfl
  a0 := by kernel_rfl
  al := by kernel_rfl
  f7 := fun _ _ _ _ _ _ => by kernel_rfl
  f8 := fun _ _ _ _ _ => by kernel_rfl
theorem ff_4 : FF 4 8 14 16 24 where
  hm := by decide
  hW := by decide
  h4 := by decide
  many := by kernel_rfl
  f1 := by kernel_rfl
  f2m := fun _ _ _ _ _ _ => by kernel_rfl
  a0 := by kernel_rfl
  al := by kernel_rfl
  f7 := fun _ _ _ _ _ _ => by kernel_rfl
  f8 := fun _ _ _ _ _ => by kernel_rfl
theorem ff_5 : FF 5 10 42 20 60 where
  hm := by decide
  hW := by decide
  h4 := by decide
  many := by kernel_rfl
  f1 := by kernel_rfl
  f2m := fun _ _ _ _ _ _ => by kernel_rfl
  a0 := by kernel_rfl
  al := by kernel_rfl
  f7 := fun _ _ _ _ _ _ => by kernel_rfl
  f8 := fun _ _ _ _ _ => by kernel_rfl
theorem ff_6 : FF 6 12 132 24 168 where
  hm := by decide
  hW := by decide
  h4 := by decide
  many := by kernel_rfl
  f1 := by kernel_rfl
  f2m := fun _ _ _ _ _ _ => by kernel_rfl
  a0 := by kernel_rfl
  al := by kernel_rfl
  f7 := fun _ _ _ _ _ _ => by kernel_rfl
  f8 := fun _ _ _ _ _ => by kernel_rfl
theorem ff_7 : FF 7 14 429 28 476 where
  hm := by decide
  hW := by decide
  h4 := by decide
  many := by kernel_rfl
  f1 := by kernel_rfl
  f2m := fun _ _ _ _ _ _ => by kernel_rfl
  a0 := by kernel_rfl
  al := by kernel_rfl
  f7 := fun _ _ _ _ _ _ => by kernel_rfl
  f8 := fun _ _ _ _ _ => by kernel_rfl
theorem ff_8 : FF 8 16 1430 32 1520 where
  hm := by decide
  hW := by decide
  h4 := by decide
  many := by kernel_rfl
  f1 := by kernel_rfl
  f2m := fun _ _ _ _ _ _ => by kernel_rfl
  a0 := by kernel_rfl
  al := by kernel_rfl
  f7 := fun _ _ _ _ _ _ => by kernel_rfl
  f8 := fun _ _ _ _ _ => by kernel_rfl
theorem ff_9 : FF 9 18 4862 36 5040 where
  hm := by decide
  hW := by decide
  h4 := by decide
  many := by kernel_rfl
  f1 := by kernel_rfl
  f2m := fun _ _ _ _ _ _ => by kernel_rfl
  a0 := by kernel_rfl
  al := by kernel_rfl
  f7 := fun _ _ _ _ _ _ => by kernel_rfl
  f8 := fun _ _ _ _ _ => by kernel_rfl
theorem ff_10 : FF 10 20 16796 40 17080 where
  hm := by decide
  hW := by decide
  h4 := by decide
  many := by kernel_rfl
  f1 := by kernel_rfl
  f2m := fun _ _ _ _ _ _ => by kernel_rfl
  a0 := by kernel_rfl
  al := by kernel_rfl
  f7 := fun _ _ _ _ _ _ => by kernel_rfl
  f8 := fun _ _ _ _ _ => by kernel_rfl
theorem ff_11 : FF 11 22 58786 44 59268 where
  hm := by decide
  hW := by decide
  h4 := by decide
  many := by kernel_rfl
  f1 := by kernel_rfl
  f2m := fun _ _ _ _ _ _ => by kernel_rfl
  a0 := by kernel_rfl
  al := by kernel_rfl
  f7 := fun _ _ _ _ _ _ => by kernel_rfl
  f8 := fun _ _ _ _ _ => by kernel_rfl
theorem ff_12 : FF 12 24 208012 48 209136 where
  hm := by decide
  hW := by decide
  h4 := by decide
  many := by kernel_rfl
  f1 := by kernel_rfl
  f2m := fun _ _ _ _ _ _ => by kernel_rfl
  a0 := by kernel_rfl
  al := by kernel_rfl
  f7 := fun _ _ _ _ _ _ => by kernel_rfl
  f8 := fun _ _ _ _ _ => by kernel_rfl
theorem far_all {s : Nat} (h : 1 ≤ s ∧ s ≤ 12) {b : Nat} (hb : 2 ≤ b) {W : Nat → Exn → Prop} : (D_l_law_far_right [urnD, .int (.ofNat s)]).post b (fun b' d => b' = b - 2 ∧ d = .bool true) W := by
  have : s = 1 ∨ s = 2 ∨ s = 3 ∨ s = 4 ∨ s = 5 ∨ s = 6 ∨ s = 7 ∨ s = 8 ∨ s = 9 ∨ s = 10 ∨ s = 11 ∨ s = 12 := by omega
  rcases this with rfl | rfl | rfl | rfl | rfl | rfl | rfl | rfl | rfl | rfl | rfl | rfl
  · exact far_n ff_1 hb
  · exact far_n ff_2 hb
  · exact far_n ff_3 hb
  · exact far_n ff_4 hb
  · exact far_n ff_5 hb
  · exact far_n ff_6 hb
  · exact far_n ff_7 hb
  · exact far_n ff_8 hb
  · exact far_n ff_9 hb
  · exact far_n ff_10 hb
  · exact far_n ff_11 hb
  · exact far_n ff_12 hb
end Wk
set_option Elab.async false
set_option linter.all false
set_option maxRecDepth 100000
set_option maxHeartbeats 4000000
/-! P96g: few_right. -/
namespace Wk
open PySem PySem.Spec PyProof.Rows L2 Ev
@[irreducible] def Fw1 : Ev.Env → R Flw := (sAsg 2 (eIf (eT (eBin ltOp (eVar 1) (eC (.int 6)))) (eCall D_all_arrangements (aCons (eBin mulD (eC (.int 2)) (eVar 1)) (aCons (eTup aNil) aNil))) (eCall (Dn_l_law_all 7) (aCons (eVar 1) aNil))))
@[irreducible] def Fw2 : Ev.Env → R Flw := (sAsg 3 (eCall D_l_law_heaps (aCons (eCall (Dn_l_law_all 7) (aCons (eVar 1) aNil)) (aCons (eVar 1) aNil))))
@[irreducible] def Fw3 : Ev.Env → R Flw := (sFzA [4] (sNew 4 (nLc [11] (.one 11) (iRng rng1 (aCons (eBin mulD (eC (.int 2)) (eVar 1)) aNil)) cYes (eCall D_alike_many (aCons (eBin mulD (eC (.int 2)) (eVar 1)) (aCons (eVar 11) aNil))))))
@[irreducible] def Fw4 : Ev.Env → R Flw := (sIf (tOr (eT (eBin neOp (eUn sumD (bVar 4)) (eBin mulD (eBin mulD (eC (.int 2)) (eVar 1)) (eUn lenD (bVar 3))))) (eT (eBin neOp (eVar 4) (eN (nLc [11] (.one 11) (iRng rng1 (aCons (eBin mulD (eC (.int 2)) (eVar 1)) aNil)) cYes (eUn lenD (eN (nLc [6] (.one 6) (iAny (eVar 2)) (eT (eBin eqOp (eCall D_turned (aCons (eVar 6) (aCons (eVar 11) aNil))) (eVar 6))) (eVar 6))))))))) (sRet (eC (.bool false))) sNil)
@[irreducible] def Fw5 : Ev.Env → R Flw := (sFor (.one 5) (iAny (eVar 3)) (sFor (.one 6) (iAny (eSl (bVar 5) pNo (pAt (eC (.int 3))))) (sIf (tOr (eT (eBin neOp (eCall D_period (aCons (eVar 6) aNil)) (eUn lenD (bVar 5)))) (tOr (eT (eBin neOp (eCall D_turned (aCons (eVar 6) (aCons (eUn lenD (bVar 5)) aNil))) (eVar 6))) (eT (eBin neOp (eN (nUn sortD (eN (nLc [11] (.one 11) (iRng rng1 (aCons (eUn lenD (bVar 5)) aNil)) cYes (eCall D_turned (aCons (eVar 6) (aCons (eVar 11) aNil))))))) (eVar 5))))) (sRet (eC (.bool false))) sNil)))
@[irreducible] def Fw6 : Ev.Env → R Flw := (sFzA [7] (sNew 7 (nLc [6] (.one 6) (iAny (eVar 2)) (eT (eBin eqOp (eCall D_mirrored (aCons (eVar 6) aNil)) (eVar 6))) (eVar 6))))
@[irreducible] def Fw7 : Ev.Env → R Flw := (sIf (eT (eBin neOp (eUn lenD (bVar 7)) (eCall D_l_law_choose (aCons (eVar 1) (aCons (eBin divD (eVar 1) (eC (.int 2))) aNil))))) (sRet (eC (.bool false))) sNil)
@[irreducible] def Fw8 : Ev.Env → R Flw := (sAsg 8 (eUn sumD (eN (nLc [11] (.one 11) (iRng rng1 (aCons (eBin mulD (eC (.int 2)) (eVar 1)) aNil)) cYes (eUn lenD (eN (nLc [6] (.one 6) (iAny (eVar 2)) (eT (eBin eqOp (eCall D_turned (aCons (eCall D_mirrored (aCons (eVar 6) aNil)) (aCons (eVar 11) aNil))) (eVar 6))) (eVar 6))))))))
@[irreducible] def Fw9 : Ev.Env → R Flw := (sNew 9 (nLst aNil))
@[irreducible] def Fw10 : Ev.Env → R Flw := (sFor (.one 5) (iAny (eVar 3)) (sCons (sAsg 10 (eN (nUn sortD (eBin addD (eVar 5) (eN (nLc [6] (.one 6) (iAny (eVar 5)) (eT (eBin ninOp (eCall D_mirrored (aCons (eVar 6) aNil)) (bVar 5))) (eCall D_mirrored (aCons (eVar 6) aNil)))))))) (sIf (eT (eBin ninOp (eVar 10) (bVar 9))) (sApp 9 (eVar 10)) sNil)))
@[irreducible] def Fw11 : Ev.Env → R Flw := (sIf (eT (eBin neOp (eBin addD (eUn sumD (bVar 4)) (eVar 8)) (eBin mulD (eBin mulD (eC (.int 4)) (eVar 1)) (eUn lenD (bVar 9))))) (sRet (eC (.bool false))) sNil)
@[irreducible] def Fw12 : Ev.Env → R Flw := (sFor (.one 11) (iRng rng2 (aCons (eC (.int 1)) (aCons (eBin addD (eBin mulD (eC (.int 2)) (eVar 1)) (eC (.int 1))) aNil))) (sIf (eT (eBin neOp (eCall D_alike_many (aCons (eBin mulD (eC (.int 2)) (eVar 1)) (aCons (eVar 11) aNil))) (eUn sumD (eN (nLc [5] (.one 5) (iAny (eVar 3)) (eT (eBin eqOp (eBin modD (eUn intD (bVar 11)) (eUn lenD (bVar 5))) (eC (.int 0)))) (eUn lenD (bVar 5))))))) (sRet (eC (.bool false))) sNil))
@[irreducible] def Fw13 : Ev.Env → R Flw := (sAsg 5 (eBin ixD (bVar 3) (eCall D_take (aUrn 0 (aCons (eUn lenD (bVar 3)) aNil)))))
@[irreducible] def Fw14 : Ev.Env → R Flw := (sPar [12, 13] (pV (eBin ixD (bVar 5) (eC (.int 0))) (pV (eBin ixD (bVar 5) (eUn negD (eC (.int 1)))) pNil)))
@[irreducible] def Fw15 : Ev.Env → R Flw := (sIf (eT (eBin neOp (eN (nLc [6] (.one 6) (iAny (eVar 5)) (tOr (eT (eBin neOp (eN (nUn sortD (eN (nLc [16] (.one 16) (iAny (eCall D_areas (aCons (eVar 6) aNil))) cYes (eUn lenD (bVar 16)))))) (eN (nUn sortD (eN (nLc [16] (.one 16) (iAny (eCall D_areas (aCons (eVar 12) aNil))) cYes (eUn lenD (bVar 16)))))))) (eT (eBin neOp (eUn lenD (eCall D_exchanges (aCons (eVar 6) aNil))) (eUn lenD (eCall D_exchanges (aCons (eVar 12) aNil)))))) (eVar 6))) (eN (nLst aNil)))) (sRet (eC (.bool false))) sNil)
@[irreducible] def Fw16 : Ev.Env → R Flw := (sAsg 14 (eBin ixD (bVar 2) (eCall D_take (aUrn 0 (aCons (eUn lenD (bVar 2)) aNil)))))
@[irreducible] def Fw17 : Ev.Env → R Flw := (sAsg 11 (eCall D_take (aUrn 0 (aCons (eBin mulD (eC (.int 2)) (eVar 1)) aNil))))
@[irreducible] def Fw18 : Ev.Env → R Flw := (sAsg 15 (eN (nLst (aCons (eCall D_distance (aCons (eCall D_turned (aCons (eVar 12) (aCons (eVar 11) aNil))) (aCons (eCall D_turned (aCons (eVar 14) (aCons (eVar 11) aNil))) aNil))) (aCons (eUn lenD (eCall D_rings (aCons (eCall D_mirrored (aCons (eVar 13) aNil)) (aCons (eCall D_mirrored (aCons (eVar 14) aNil)) aNil)))) aNil)))))
@[irreducible] def Fw19 : Ev.Env → R Flw := (sRet (eCall (Dn_l_law_same 4) (aCons (eVar 15) (aCons (eN (nLst (aCons (eCall D_distance (aCons (eVar 12) (aCons (eVar 14) aNil))) (aCons (eUn lenD (eCall D_rings (aCons (eVar 13) (aCons (eVar 14) aNil)))) aNil)))) aNil))))
theorem Fw_eq : B_l_law_few_right = (sCons Fw1 (sCons Fw2 (sCons Fw3 (sCons Fw4 (sCons Fw5 (sCons Fw6 (sCons Fw7 (sCons Fw8 (sCons Fw9 (sCons Fw10 (sCons Fw11 (sCons Fw12 (sCons Fw13 (sCons Fw14 (sCons Fw15 (sCons Fw16 (sCons Fw17 (sCons Fw18 Fw19)))))))))))))))))) := by kernel_rfl

/-! turned by the plain function -/
def Q_turned : List D → R D := fun as => match as with
  | [.tuple ds, .int s] => match intsOf ds with
    | some own => .ok (tupI (rotP own s))
    | none => D_turned as
  | _ => D_turned as
theorem turned_Q : D_turned = Q_turned := by
  funext as
  unfold Q_turned
  split
  · rename_i ds s
    split
    · rename_i own h
      rw [intsOf_eq h]
      exact turned_eq own s
    · rfl
  · rfl
def Q_period : List D → R D := fnD 1 1 (sCons (sAsg 1 (eC (.int 1))) (sCons (whileL (eT (eBin neOp (eCall Q_turned (aCons (eVar 0) (aCons (eVar 1) aNil))) (eUn tupD (bVar 0)))) (sAug 1 addI (eC (.int 1))) 64) (sRet (eVar 1))))
theorem period_Q : D_period = Q_period := by
  unfold D_period B_period Q_period
  rw [turned_Q]
def Fq4 : Ev.Env → R Flw := (sIf (tOr (eT (eBin neOp (eUn sumD (bVar 4)) (eBin mulD (eBin mulD (eC (.int 2)) (eVar 1)) (eUn lenD (bVar 3))))) (eT (eBin neOp (eVar 4) (eN (nLc [11] (.one 11) (iRng rng1 (aCons (eBin mulD (eC (.int 2)) (eVar 1)) aNil)) cYes (eUn lenD (eN (nLc [6] (.one 6) (iAny (eVar 2)) (eT (eBin eqOp (eCall Q_turned (aCons (eVar 6) (aCons (eVar 11) aNil))) (eVar 6))) (eVar 6))))))))) (sRet (eC (.bool false))) sNil)
theorem Fq4_eq : Fw4 = Fq4 := by
  unfold Fw4 Fq4
  rw [turned_Q]
def Fq5 : Ev.Env → R Flw := (sFor (.one 5) (iAny (eVar 3)) (sFor (.one 6) (iAny (eSl (bVar 5) pNo (pAt (eC (.int 3))))) (sIf (tOr (eT (eBin neOp (eCall Q_period (aCons (eVar 6) aNil)) (eUn lenD (bVar 5)))) (tOr (eT (eBin neOp (eCall Q_turned (aCons (eVar 6) (aCons (eUn lenD (bVar 5)) aNil))) (eVar 6))) (eT (eBin neOp (eN (nUn sortD (eN (nLc [11] (.one 11) (iRng rng1 (aCons (eUn lenD (bVar 5)) aNil)) cYes (eCall Q_turned (aCons (eVar 6) (aCons (eVar 11) aNil))))))) (eVar 5))))) (sRet (eC (.bool false))) sNil)))
theorem Fq5_eq : Fw5 = Fq5 := by
  unfold Fw5 Fq5
  rw [turned_Q, period_Q]
def Fq8 : Ev.Env → R Flw := (sAsg 8 (eUn sumD (eN (nLc [11] (.one 11) (iRng rng1 (aCons (eBin mulD (eC (.int 2)) (eVar 1)) aNil)) cYes (eUn lenD (eN (nLc [6] (.one 6) (iAny (eVar 2)) (eT (eBin eqOp (eCall Q_turned (aCons (eCall D_mirrored (aCons (eVar 6) aNil)) (aCons (eVar 11) aNil))) (eVar 6))) (eVar 6))))))))
theorem Fq8_eq : Fw8 = Fq8 := by
  unfold Fw8 Fq8
  rw [turned_Q]
def t15 : Ev.Env → R Bool := (eT (eBin neOp (eN (nLc [6] (.one 6) (iAny (eVar 5)) (tOr (eT (eBin neOp (eN (nUn sortD (eN (nLc [16] (.one 16) (iAny (eCall D_areas (aCons (eVar 6) aNil))) cYes (eUn lenD (bVar 16)))))) (eN (nUn sortD (eN (nLc [16] (.one 16) (iAny (eCall D_areas (aCons (eVar 12) aNil))) cYes (eUn lenD (bVar 16)))))))) (eT (eBin neOp (eUn lenD (eCall D_exchanges (aCons (eVar 6) aNil))) (eUn lenD (eCall D_exchanges (aCons (eVar 12) aNil)))))) (eVar 6))) (eN (nLst aNil))))
theorem Fw15_eq : Fw15 = sIf t15 (sRet (eC (.bool false))) sNil := by
  unfold Fw15 t15
  rfl
abbrev gE (n : Int) (x2 x3 x4 x5 x6 x7 x8 x9 x10 x11 x12 x13 x14 x15 x16 : Sl) : Ev.Env := [.ur, .va (.int n), x2, x3, x4, x5, x6, x7, x8, x9, x10, x11, x12, x13, x14, x15, x16]
abbrev tD (A : List (List Int)) : D := .list (A.map tupI)
abbrev hD (H : List (List (List Int))) : D := .list (H.map tD)
def headL (h : List (List Int)) : List Int := match h with
  | [] => []
  | a :: _ => a
def lastL : List (List Int) → List Int
  | [] => []
  | [a] => a
  | _ :: r => lastL r
theorem lastL_eq : ∀ {h : List (List Int)}, h ≠ [] → ∃ init, h = init ++ [lastL h]
  | [], n => absurd rfl n
  | [a], _ => ⟨[], rfl⟩
  | a :: b :: r, _ => by
    obtain ⟨i, e⟩ := lastL_eq (h := b :: r) (by simp)
    exact ⟨a :: i, by show a :: b :: r = a :: (i ++ [lastL (b :: r)]); rw [← e]⟩
def okF (r : R Bool) : Bool := match r with
  | .ok false => true
  | _ => false
theorem okF_ok {r : R Bool} (h : okF r = true) : r = .ok false := by
  unfold okF at h
  split at h
  · rfl
  · cases h
structure GF (n m : Nat) (A : List (List Int)) (H : List (List (List Int))) (x4 x5 x6 x7 x8 x9 x10 x11 : Sl) : Prop where
  hm : 0 < m ∧ m ≤ 1000
  hA : 0 < A.length ∧ A.length < 100000
  hH : 0 < H.length ∧ H.length < 100000
  inv : Inv1 m A
  w1 : Fw1 (gE n .un .un .un .un .un .un .un .un .un .un .un .un .un .un .un) = .ok (.nx (gE n (.va (tD A)) .un .un .un .un .un .un .un .un .un .un .un .un .un .un))
  w2 : Fw2 (gE n (.va (tD A)) .un .un .un .un .un .un .un .un .un .un .un .un .un .un) = .ok (.nx (gE n (.va (tD A)) (.va (hD H)) .un .un .un .un .un .un .un .un .un .un .un .un .un))
  w3 : Fw3 (gE n (.va (tD A)) (.va (hD H)) .un .un .un .un .un .un .un .un .un .un .un .un .un) = .ok (.nx (gE n (.va (tD A)) (.va (hD H)) x4 .un .un .un .un .un .un .un .un .un .un .un .un))
  w4 : Fq4 (gE n (.va (tD A)) (.va (hD H)) x4 .un .un .un .un .un .un .un .un .un .un .un .un) = .ok (.nx (gE n (.va (tD A)) (.va (hD H)) x4 .un .un .un .un .un .un .un .un .un .un .un .un))
  w5 : Fq5 (gE n (.va (tD A)) (.va (hD H)) x4 .un .un .un .un .un .un .un .un .un .un .un .un) = .ok (.nx (gE n (.va (tD A)) (.va (hD H)) x4 x5 x6 .un .un .un .un .un .un .un .un .un .un))
  w6 : Fw6 (gE n (.va (tD A)) (.va (hD H)) x4 x5 x6 .un .un .un .un .un .un .un .un .un .un) = .ok (.nx (gE n (.va (tD A)) (.va (hD H)) x4 x5 x6 x7 .un .un .un .un .un .un .un .un .un))
  w7 : Fw7 (gE n (.va (tD A)) (.va (hD H)) x4 x5 x6 x7 .un .un .un .un .un .un .un .un .un) = .ok (.nx (gE n (.va (tD A)) (.va (hD H)) x4 x5 x6 x7 .un .un .un .un .un .un .un .un .un))
  w8 : Fq8 (gE n (.va (tD A)) (.va (hD H)) x4 x5 x6 x7 .un .un .un .un .un .un .un .un .un) = .ok (.nx (gE n (.va (tD A)) (.va (hD H)) x4 x5 x6 x7 x8 .un .un .un .un .un .un .un .un))
  w9 : Fw9 (gE n (.va (tD A)) (.va (hD H)) x4 x5 x6 x7 x8 .un .un .un .un .un .un .un .un) = .ok (.nx (gE n (.va (tD A)) (.va (hD H)) x4 x5 x6 x7 x8 (.ol []) .un .un .un .un .un .un .un))
  w10 : Fw10 (gE n (.va (tD A)) (.va (hD H)) x4 x5 x6 x7 x8 (.ol []) .un .un .un .un .un .un .un) = .ok (.nx (gE n (.va (tD A)) (.va (hD H)) x4 x5 x6 x7 x8 x9 x10 .un .un .un .un .un .un))
  w11 : Fw11 (gE n (.va (tD A)) (.va (hD H)) x4 x5 x6 x7 x8 x9 x10 .un .un .un .un .un .un) = .ok (.nx (gE n (.va (tD A)) (.va (hD H)) x4 x5 x6 x7 x8 x9 x10 .un .un .un .un .un .un))
  w12 : Fw12 (gE n (.va (tD A)) (.va (hD H)) x4 x5 x6 x7 x8 x9 x10 .un .un .un .un .un .un) = .ok (.nx (gE n (.va (tD A)) (.va (hD H)) x4 x5 x6 x7 x8 x9 x10 x11 .un .un .un .un .un))
  hp : H.all (fun h => memA (headL h) A && (memA (lastL h) A && Nat.blt 0 h.length)) = true
  f15 : H.all (fun h => okF (t15 (gE n (.va (tD A)) (.va (hD H)) x4 (.va (tD h)) x6 x7 x8 x9 x10 x11 (.va (tupI (headL h))) (.va (tupI (lastL h))) .un .un .un))) = true
  f17 : ∀ x2 x3 x4 x5 x6 x7 x8 x9 x10 x11 x12 x13 x14 x15 x16, Fw17 (gE n x2 x3 x4 x5 x6 x7 x8 x9 x10 x11 x12 x13 x14 x15 x16) = .draw m fun k => .ok (.nx (gE n x2 x3 x4 x5 x6 x7 x8 x9 x10 (.va (.int (.ofNat k))) x12 x13 x14 x15 x16))
  mir : H.all (fun h => A.all fun o => eqO (cntP (mirP (lastL h)) (mirP o)) (cntP (lastL h) o)) = true
theorem draw_ix {i j : Nat} {env : Ev.Env} {ds : List D} (hb : bVar j env = .ok (.list ds)) (hu : sl env 0 = .ur) : sAsg i (eBin ixD (bVar j) (eCall D_take (aUrn 0 (aCons (eUn lenD (bVar j)) aNil)))) env = .draw ds.length fun h => R.bindS (R.of (atD ds (.ofNat h))) env fun x => .ok (.nx (setS env i (.va x))) := by
  have e1 : eCall D_take (aUrn 0 (aCons (eUn lenD (bVar j)) aNil)) env = .draw ds.length fun h => .ok (.int (.ofNat h)) := by
    unfold eCall aUrn
    rw [hu]
    show R.bind (R.bind (aCons (eUn lenD (bVar j)) aNil env) _) _ = _
    have e2 : aCons (eUn lenD (bVar j)) aNil env = .ok [.int (.ofNat ds.length)] := by
      refine acons_ok ?_ rfl
      unfold eUn
      rw [hb]
      show R.ok (PyData.int (.ofNat (lenL ds))) = _
      rw [lenL_eq]
    rw [e2]
    rfl
  unfold sAsg eBin
  rw [hb]
  show R.bindS (R.bind (eCall D_take (aUrn 0 (aCons (eUn lenD (bVar j)) aNil)) env) _) _ _ = _
  rw [e1]
  rfl
theorem at_nat {ds : List D} {h : Nat} {d : D} (e : ds[h]? = some d) : atD ds (.ofNat h) = some d := by
  rw [atD_eq]
  have hl : h < ds.length := (List.getElem?_eq_some_iff.mp e).1
  unfold atI ixN
  rw [if_pos (show 0 ≤ Int.ofNat h from Int.natCast_nonneg h), if_pos (show Int.ofNat h < (ds.length : Int) by show (h : Int) < _; omega)]
  exact e
theorem dist_c {one other : List Int} {c : Nat} (h : cntP one other = some c) : D_distance [tupI one, tupI other] = .ok (.int (Int.fdiv one.length 2 - c)) := by
  obtain ⟨rs, h1, h2⟩ := cnt_ok h
  rw [distance_eq h1, h2]
theorem ring_c {one other : List Int} {c : Nat} {f : Ev.Env → R (List D)} {env : Ev.Env} (hf : f env = .ok [tupI one, tupI other]) (h : cntP one other = some c) : eUn lenD (eCall D_rings f) env = .ok (.int c) := by
  obtain ⟨rs, h1, h2⟩ := cnt_ok h
  unfold eUn
  rw [call_ok hf (rings_eq h1)]
  show R.ok (PyData.int (.ofNat (lenL (rs.map tupI)))) = _
  rw [lenL_map, h2]
  rfl
theorem few_end {n : Int} {m : Nat} {A : List (List Int)} (I : Inv1 m A) (hm : m ≤ 1000) {x2 x3 x4 x5 x6 x7 x8 x9 x10 x15 x16 : Sl} {one two other : List Int} {k : Nat} (h1 : one ∈ A) (h2 : two ∈ A) (h3 : other ∈ A) (hmir : eqO (cntP (mirP two) (mirP other)) (cntP two other) = true) {b c0 : Nat} (hb : b = c0) :
    ((sCons Fw18 Fw19) (gE n x2 x3 x4 x5 x6 x7 x8 x9 x10 (.va (.int (.ofNat k))) (.va (tupI one)) (.va (tupI two)) (.va (tupI other)) x15 x16)).post b (fun b' fl => ∃ d env, fl = .rt d env ∧ b' = c0 ∧ d = .bool true) fun _ _ => False := by
  obtain ⟨c, hc, _⟩ := I.cnt one h1 other h3
  obtain ⟨_, _, hc2⟩ := I.all h1 h3 hc k
  obtain ⟨d, hd1, hd2⟩ := eqO_ok hmir
  have l1 := (I.inn one h1).1
  have l2 := (I.inn two h2).1
  have l3 := (I.inn other h3).1
  have e18 : Fw18 (gE n x2 x3 x4 x5 x6 x7 x8 x9 x10 (.va (.int (.ofNat k))) (.va (tupI one)) (.va (tupI two)) (.va (tupI other)) x15 x16) = .ok (.nx (gE n x2 x3 x4 x5 x6 x7 x8 x9 x10 (.va (.int (.ofNat k))) (.va (tupI one)) (.va (tupI two)) (.va (tupI other)) (.va (.list [.int (Int.fdiv m 2 - c), .int d])) x16)) := by
    unfold Fw18
    refine asg_ok (d := .list [.int (Int.fdiv m 2 - c), .int d]) (lst_ok (acons_ok ?_ (acons_ok ?_ rfl)) (by simp))
    · refine (call2 (x := tupI (rotP one (.ofNat k))) (y := tupI (rotP other (.ofNat k))) ((call2 (x := tupI one) (y := .int (.ofNat k)) rfl rfl).trans (turned_eq _ _)) ((call2 (x := tupI other) (y := .int (.ofNat k)) rfl rfl).trans (turned_eq _ _))).trans ((dist_c hc2).trans ?_)
      rw [rotP_len, l1]
    · exact ring_c (acons_ok (call_ok (acons_ok rfl rfl) (mirrored_eq two (by omega))) (acons_ok (call_ok (acons_ok rfl rfl) (mirrored_eq other (by omega))) rfl)) hd1
  refine post_nx e18 ?_
  have e19 : Fw19 (gE n x2 x3 x4 x5 x6 x7 x8 x9 x10 (.va (.int (.ofNat k))) (.va (tupI one)) (.va (tupI two)) (.va (tupI other)) (.va (.list [.int (Int.fdiv m 2 - c), .int d])) x16) = .ok (.rt (.bool true) (gE n x2 x3 x4 x5 x6 x7 x8 x9 x10 (.va (.int (.ofNat k))) (.va (tupI one)) (.va (tupI two)) (.va (tupI other)) (.va (.list [.int (Int.fdiv m 2 - c), .int d])) x16)) := by
    unfold Fw19 sRet
    have hq := (call2 (d := Dn_l_law_same 4) (f := eVar 15) (g := eN (nLst (aCons (eCall D_distance (aCons (eVar 12) (aCons (eVar 14) aNil))) (aCons (eUn lenD (eCall D_rings (aCons (eVar 13) (aCons (eVar 14) aNil)))) aNil))))
      (env := gE n x2 x3 x4 x5 x6 x7 x8 x9 x10 (.va (.int (.ofNat k))) (.va (tupI one)) (.va (tupI two)) (.va (tupI other)) (.va (.list [.int (Int.fdiv m 2 - c), .int d])) x16)
      (x := .list [.int (Int.fdiv m 2 - c), .int d]) (y := .list [.int (Int.fdiv m 2 - c), .int d]) rfl (lst_ok (acons_ok ((call2 (x := tupI one) (y := tupI other) rfl rfl).trans ((dist_c hc).trans (by rw [l1]))) (acons_ok (ring_c (acons_ok rfl (acons_ok rfl rfl)) hd2) rfl)) (by simp))).trans (same_list (by simp) fun x hx => by
        simp only [List.mem_cons, List.not_mem_nil, or_false] at hx
        rcases hx with rfl | rfl
        · exact .inl ⟨_, rfl⟩
        · exact .inl ⟨_, rfl⟩)
    rw [hq]
    rfl
  rw [e19]
  exact ⟨_, _, rfl, hb, rfl⟩
theorem few_mid {n m : Nat} {A : List (List Int)} {H : List (List (List Int))} {x4 x5 x6 x7 x8 x9 x10 x11 : Sl} (F : GF n m A H x4 x5 x6 x7 x8 x9 x10 x11) {b : Nat} (hb : 2 ≤ b) {h : List (List Int)} (hh : h ∈ H) :
    ((sCons Fw14 (sCons Fw15 (sCons Fw16 (sCons Fw17 (sCons Fw18 Fw19))))) (gE n (.va (tD A)) (.va (hD H)) x4 (.va (tD h)) x6 x7 x8 x9 x10 x11 .un .un .un .un .un)).post b (fun b' fl => ∃ d env, fl = .rt d env ∧ b' = b - 2 ∧ d = .bool true) fun _ _ => False := by
  have q := List.all_eq_true.mp F.hp h hh
  rw [Bool.and_eq_true, Bool.and_eq_true] at q
  have m1 := memA_ok q.1
  have m2 := memA_ok q.2.1
  have ne : h ≠ [] := fun e => by rw [e] at q; cases q.2.2
  obtain ⟨init, hi⟩ := lastL_eq ne
  have e14 : Fw14 (gE n (.va (tD A)) (.va (hD H)) x4 (.va (tD h)) x6 x7 x8 x9 x10 x11 .un .un .un .un .un) = .ok (.nx (gE n (.va (tD A)) (.va (hD H)) x4 (.va (tD h)) x6 x7 x8 x9 x10 x11 (.va (tupI (headL h))) (.va (tupI (lastL h))) .un .un .un)) := by
    have a1 : eBin ixD (bVar 5) (eC (.int 0)) (gE n (.va (tD A)) (.va (hD H)) x4 (.va (tD h)) x6 x7 x8 x9 x10 x11 .un .un .un .un .un) = .ok (tupI (headL h)) := by
      show R.of (atD (h.map tupI) 0) = _
      cases h with
      | nil => exact absurd rfl ne
      | cons a r => rfl
    have a2 : eBin ixD (bVar 5) (eUn negD (eC (.int 1))) (gE n (.va (tD A)) (.va (hD H)) x4 (.va (tD h)) x6 x7 x8 x9 x10 x11 .un .un .un .un .un) = .ok (tupI (lastL h)) := by
      show R.of (atD (h.map tupI) (-1)) = _
      have e : h.map tupI = init.map tupI ++ [tupI (lastL h)] := by
        have := congrArg (List.map tupI) hi
        rw [this, List.map_append]
        rfl
      rw [e, ix_back]
      rfl
    unfold Fw14 sPar pV
    rw [a1]
    show R.bindS (R.bind (R.bind (eBin ixD (bVar 5) (eUn negD (eC (.int 1))) (gE n (.va (tD A)) (.va (hD H)) x4 (.va (tD h)) x6 x7 x8 x9 x10 x11 .un .un .un .un .un)) _) _) _ _ = _
    rw [a2]
    rfl
  refine post_nx e14 ?_
  have e15 : Fw15 (gE n (.va (tD A)) (.va (hD H)) x4 (.va (tD h)) x6 x7 x8 x9 x10 x11 (.va (tupI (headL h))) (.va (tupI (lastL h))) .un .un .un) = .ok (.nx (gE n (.va (tD A)) (.va (hD H)) x4 (.va (tD h)) x6 x7 x8 x9 x10 x11 (.va (tupI (headL h))) (.va (tupI (lastL h))) .un .un .un)) := by
    rw [Fw15_eq, sIf_f (okF_ok (List.all_eq_true.mp F.f15 h hh))]
    rfl
  refine post_nx e15 ?_
  have hd := draw_ix (i := 14) (j := 2) (env := gE n (.va (tD A)) (.va (hD H)) x4 (.va (tD h)) x6 x7 x8 x9 x10 x11 (.va (tupI (headL h))) (.va (tupI (lastL h))) .un .un .un) (ds := A.map tupI) rfl rfl
  refine mid_post (as := fun _ => []) (p := Fw16) (by unfold Fw16; exact hd) (by omega) (by rw [List.length_map]; have := F.hA; omega) fun j hj => ?_
  rw [List.length_map] at hj
  refine ⟨tupI A[j], by rw [at_nat (d := tupI A[j]) (by simp [hj])]; rfl, ?_⟩
  refine post_draw (F.f17 _ _ _ _ _ _ _ _ _ _ _ _ _ _ _) (fun k hk => rfl) (by omega) (by have := F.hm; omega) fun k hk => ?_
  exact few_end F.inv F.hm.2 m1 m2 (List.getElem_mem hj) (List.all_eq_true.mp (List.all_eq_true.mp F.mir h hh) _ (List.getElem_mem hj)) (by omega)
theorem few_n {n m : Nat} {A : List (List Int)} {H : List (List (List Int))} {x4 x5 x6 x7 x8 x9 x10 x11 : Sl} (F : GF n m A H x4 x5 x6 x7 x8 x9 x10 x11) {b : Nat} (hb : 3 ≤ b) {W : Nat → Exn → Prop} : (D_l_law_few_right [urnD, .int (.ofNat n)]).post b (fun b' d => b' = b - 3 ∧ d = .bool true) W := by
  refine fn_post rfl ?_
  rw [Fw_eq]
  refine post_nx F.w1 (post_nx F.w2 (post_nx F.w3 (post_nx (by rw [Fq4_eq]; exact F.w4) (post_nx (by rw [Fq5_eq]; exact F.w5) (post_nx F.w6 (post_nx F.w7 (post_nx (by rw [Fq8_eq]; exact F.w8) (post_nx F.w9 (post_nx F.w10 (post_nx F.w11 (post_nx F.w12 ?_)))))))))))
  have hd := draw_ix (i := 5) (j := 3) (env := gE n (.va (tD A)) (.va (hD H)) x4 x5 x6 x7 x8 x9 x10 x11 .un .un .un .un .un) (ds := H.map tD) rfl rfl
  refine mid_post (as := fun _ => []) (p := Fw13) (by unfold Fw13; exact hd) (by omega) (by rw [List.length_map]; have := F.hH; omega) fun j hj => ?_
  rw [List.length_map] at hj
  refine ⟨tD H[j], by rw [at_nat (d := tD H[j]) (by simp [hj])]; rfl, ?_⟩
  have := few_mid F (b := b - 1) (by omega) (List.getElem_mem hj)
  rw [show b - 1 - 2 = b - 3 by omega] at this
  exact this
end Wk
set_option Elab.async false
set_option linter.all false
set_option maxRecDepth 1000000
set_option maxHeartbeats 4000000
/-! few_right of sizes 1 2 3 4. -/
namespace Wk
open PySem PySem.Spec PyProof.Rows L2 Ev
def A1 : List (List Int) := [[1, 0]]
def T1 : List (List Int) := [[1, 0]]
def H1 : List (List (List Int)) := [[[1, 0]]]
def L1 : List (List (List Int)) := [[[1, 0]]]
abbrev sx1_4 : Sl := .va (.list [.int 1, .int 1])
abbrev sx1_5 : Sl := .va (tD [[1, 0]])
abbrev sx1_6 : Sl := .va (tupI [1, 0])
abbrev sx1_7 : Sl := .va (tD [[1, 0]])
abbrev sx1_8 : Sl := .va (.int 2)
abbrev sx1_9 : Sl := .ol (L1.map tD)
abbrev sx1_10 : Sl := .va (tD [[1, 0]])
abbrev sx1_11 : Sl := .va (.int 2)
theorem inv_1 : Inv1 2 A1 := Inv1.of (A' := T1) (by kernel_rfl) (by kernel_rfl) (by kernel_rfl) (by kernel_rfl)
theorem w1_1 : Fw1 (gE 1 .un .un .un .un .un .un .un .un .un .un .un .un .un .un .un) = .ok (.nx (gE 1 (.va (tD A1)) .un .un .un .un .un .un .un .un .un .un .un .un .un .un)) := by kernel_rfl
theorem w2_1 : Fw2 (gE 1 (.va (tD A1)) .un .un .un .un .un .un .un .un .un .un .un .un .un .un) = .ok (.nx (gE 1 (.va (tD A1)) (.va (hD H1)) .un .un .un .un .un .un .un .un .un .un .un .un .un)) := by kernel_rfl
theorem w3_1 : Fw3 (gE 1 (.va (tD A1)) (.va (hD H1)) .un .un .un .un .un .un .un .un .un .un .un .un .un) = .ok (.nx (gE 1 (.va (tD A1)) (.va (hD H1)) sx1_4 .un .un .un .un .un .un .un .un .un .un .un .un)) := by kernel_rfl
theorem w4_1 : Fq4 (gE 1 (.va (tD A1)) (.va (hD H1)) sx1_4 .un .un .un .un .un .un .un .un .un .un .un .un) = .ok (.nx (gE 1 (.va (tD A1)) (.va (hD H1)) sx1_4 .un .un .un .un .un .un .un .un .un .un .un .un)) := by kernel_rfl
theorem w5_1 : Fq5 (gE 1 (.va (tD A1)) (.va (hD H1)) sx1_4 .un .un .un .un .un .un .un .un .un .un .un .un) = .ok (.nx (gE 1 (.va (tD A1)) (.va (hD H1)) sx1_4 sx1_5 sx1_6 .un .un .un .un .un .un .un .un .un .un)) := by kernel_rfl
theorem w6_1 : Fw6 (gE 1 (.va (tD A1)) (.va (hD H1)) sx1_4 sx1_5 sx1_6 .un .un .un .un .un .un .un .un .un .un) = .ok (.nx (gE 1 (.va (tD A1)) (.va (hD H1)) sx1_4 sx1_5 sx1_6 sx1_7 .un .un .un .un .un .un .un .un .un)) := by kernel_rfl
theorem w7_1 : Fw7 (gE 1 (.va (tD A1)) (.va (hD H1)) sx1_4 sx1_5 sx1_6 sx1_7 .un .un .un .un .un .un .un .un .un) = .ok (.nx (gE 1 (.va (tD A1)) (.va (hD H1)) sx1_4 sx1_5 sx1_6 sx1_7 .un .un .un .un .un .un .un .un .un)) := by kernel_rfl
theorem w8_1 : Fq8 (gE 1 (.va (tD A1)) (.va (hD H1)) sx1_4 sx1_5 sx1_6 sx1_7 .un .un .un .un .un .un .un .un .un) = .ok (.nx (gE 1 (.va (tD A1)) (.va (hD H1)) sx1_4 sx1_5 sx1_6 sx1_7 sx1_8 .un .un .un .un .un .un .un .un)) := by kernel_rfl
theorem w9_1 : Fw9 (gE 1 (.va (tD A1)) (.va (hD H1)) sx1_4 sx1_5 sx1_6 sx1_7 sx1_8 .un .un .un .un .un .un .un .un) = .ok (.nx (gE 1 (.va (tD A1)) (.va (hD H1)) sx1_4 sx1_5 sx1_6 sx1_7 sx1_8 (.ol []) .un .un .un .un .un .un .un)) := by kernel_rfl
theorem w10_1 : Fw10 (gE 1 (.va (tD A1)) (.va (hD H1)) sx1_4 sx1_5 sx1_6 sx1_7 sx1_8 (.ol []) .un .un .un .un .un .un .un) = .ok (.nx (gE 1 (.va (tD A1)) (.va (hD H1)) sx1_4 sx1_5 sx1_6 sx1_7 sx1_8 sx1_9 sx1_10 .un .un .un .un .un .un)) := by kernel_rfl
theorem w11_1 : Fw11 (gE 1 (.va (tD A1)) (.va (hD H1)) sx1_4 sx1_5 sx1_6 sx1_7 sx1_8 sx1_9 sx1_10 .un .un .un .un .un .un) = .ok (.nx (gE 1 (.va (tD A1)) (.va (hD H1)) sx1_4 sx1_5 sx1_6 sx1_7 sx1_8 sx1_9 sx1_10 .un .un .un .un .un .un)) := by kernel_rfl
theorem w12_1 : Fw12 (gE 1 (.va (tD A1)) (.va (hD H1)) sx1_4 sx1_5 sx1_6 sx1_7 sx1_8 sx1_9 sx1_10 .un .un .un .un .un .un) = .ok (.nx (gE 1 (.va (tD A1)) (.va (hD H1)) sx1_4 sx1_5 sx1_6 sx1_7 sx1_8 sx1_9 sx1_10 sx1_11 .un .un .un .un .un)) := by kernel_rfl
theorem hp_1 : H1.all (fun h => memA (headL h) A1 && (memA (lastL h) A1 && Nat.blt 0 h.length)) = true := by kernel_rfl
theorem f15_1 : H1.all (fun h => okF (t15 (gE 1 (.va (tD A1)) (.va (hD H1)) sx1_4 (.va (tD h)) sx1_6 sx1_7 sx1_8 sx1_9 sx1_10 sx1_11 (.va (tupI (headL h))) (.va (tupI (lastL h))) .un .un .un))) = true := by kernel_rfl
theorem mir_1 : H1.all (fun h => A1.all fun o => eqO (cntP (mirP (lastL h)) (mirP o)) (cntP (lastL h) o)) = true := by kernel_rfl
theorem gf_1 : GF 1 2 A1 H1 sx1_4 sx1_5 sx1_6 sx1_7 sx1_8 sx1_9 sx1_10 sx1_11 where
  hm := by decide
  hA := by decide
  hH := by decide
  inv := inv_1
  w1 := w1_1
  w2 := w2_1
  w3 := w3_1
  w4 := w4_1
  w5 := w5_1
  w6 := w6_1
  w7 := w7_1
  w8 := w8_1
  w9 := w9_1
  w10 := w10_1
  w11 := w11_1
  w12 := w12_1
  hp := hp_1
  f15 := f15_1
  f17 := fun _ _ _ _ _ _ _ _ _ _ _ _ _ _ _ => by kernel_rfl
  mir := mir_1
def A2 : List (List Int) := [[1, 0, 3, 2], [3, 2, 1, 0]]
def T2 : List (List Int) := [[3, 2, 1, 0], [1, 0, 3, 2]]
def H2 : List (List (List Int)) := [[[1, 0, 3, 2], [3, 2, 1, 0]]]
def L2 : List (List (List Int)) := [[[1, 0, 3, 2], [3, 2, 1, 0]]]
abbrev sx2_4 : Sl := .va (.list [.int 2, .int 0, .int 2, .int 0])
abbrev sx2_5 : Sl := .va (tD [[1, 0, 3, 2], [3, 2, 1, 0]])
abbrev sx2_6 : Sl := .va (tupI [3, 2, 1, 0])
abbrev sx2_7 : Sl := .va (tD [[1, 0, 3, 2], [3, 2, 1, 0]])
abbrev sx2_8 : Sl := .va (.int 4)
abbrev sx2_9 : Sl := .ol (L2.map tD)
abbrev sx2_10 : Sl := .va (tD [[1, 0, 3, 2], [3, 2, 1, 0]])
abbrev sx2_11 : Sl := .va (.int 4)
theorem inv_2 : Inv1 4 A2 := Inv1.of (A' := T2) (by kernel_rfl) (by kernel_rfl) (by kernel_rfl) (by kernel_rfl)
theorem w1_2 : Fw1 (gE 2 .un .un .un .un .un .un .un .un .un .un .un .un .un .un .un) = .ok (.nx (gE 2 (.va (tD A2)) .un .un .un .un .un .un .un .un .un .un .un .un .un .un)) := by kernel_rfl
theorem w2_2 : Fw2 (gE 2 (.va (tD A2)) .un .un .un .un .un .un .un .un .un .un .un .un .un .un) = .ok (.nx (gE 2 (.va (tD A2)) (.va (hD H2)) .un .un .un .un .un .un .un .un .un .un .un .un .un)) := by kernel_rfl
theorem w3_2 : Fw3 (gE 2 (.va (tD A2)) (.va (hD H2)) .un .un .un .un .un .un .un .un .un .un .un .un .un) = .ok (.nx (gE 2 (.va (tD A2)) (.va (hD H2)) sx2_4 .un .un .un .un .un .un .un .un .un .un .un .un)) := by kernel_rfl
theorem w4_2 : Fq4 (gE 2 (.va (tD A2)) (.va (hD H2)) sx2_4 .un .un .un .un .un .un .un .un .un .un .un .un) = .ok (.nx (gE 2 (.va (tD A2)) (.va (hD H2)) sx2_4 .un .un .un .un .un .un .un .un .un .un .un .un)) := by kernel_rfl
theorem w5_2 : Fq5 (gE 2 (.va (tD A2)) (.va (hD H2)) sx2_4 .un .un .un .un .un .un .un .un .un .un .un .un) = .ok (.nx (gE 2 (.va (tD A2)) (.va (hD H2)) sx2_4 sx2_5 sx2_6 .un .un .un .un .un .un .un .un .un .un)) := by kernel_rfl
theorem w6_2 : Fw6 (gE 2 (.va (tD A2)) (.va (hD H2)) sx2_4 sx2_5 sx2_6 .un .un .un .un .un .un .un .un .un .un) = .ok (.nx (gE 2 (.va (tD A2)) (.va (hD H2)) sx2_4 sx2_5 sx2_6 sx2_7 .un .un .un .un .un .un .un .un .un)) := by kernel_rfl
theorem w7_2 : Fw7 (gE 2 (.va (tD A2)) (.va (hD H2)) sx2_4 sx2_5 sx2_6 sx2_7 .un .un .un .un .un .un .un .un .un) = .ok (.nx (gE 2 (.va (tD A2)) (.va (hD H2)) sx2_4 sx2_5 sx2_6 sx2_7 .un .un .un .un .un .un .un .un .un)) := by kernel_rfl
theorem w8_2 : Fq8 (gE 2 (.va (tD A2)) (.va (hD H2)) sx2_4 sx2_5 sx2_6 sx2_7 .un .un .un .un .un .un .un .un .un) = .ok (.nx (gE 2 (.va (tD A2)) (.va (hD H2)) sx2_4 sx2_5 sx2_6 sx2_7 sx2_8 .un .un .un .un .un .un .un .un)) := by kernel_rfl
theorem w9_2 : Fw9 (gE 2 (.va (tD A2)) (.va (hD H2)) sx2_4 sx2_5 sx2_6 sx2_7 sx2_8 .un .un .un .un .un .un .un .un) = .ok (.nx (gE 2 (.va (tD A2)) (.va (hD H2)) sx2_4 sx2_5 sx2_6 sx2_7 sx2_8 (.ol []) .un .un .un .un .un .un .un)) := by kernel_rfl
theorem w10_2 : Fw10 (gE 2 (.va (tD A2)) (.va (hD H2)) sx2_4 sx2_5 sx2_6 sx2_7 sx2_8 (.ol []) .un .un .un .un .un .un .un) = .ok (.nx (gE 2 (.va (tD A2)) (.va (hD H2)) sx2_4 sx2_5 sx2_6 sx2_7 sx2_8 sx2_9 sx2_10 .un .un .un .un .un .un)) := by kernel_rfl
theorem w11_2 : Fw11 (gE 2 (.va (tD A2)) (.va (hD H2)) sx2_4 sx2_5 sx2_6 sx2_7 sx2_8 sx2_9 sx2_10 .un .un .un .un .un .un) = .ok (.nx (gE 2 (.va (tD A2)) (.va (hD H2)) sx2_4 sx2_5 sx2_6 sx2_7 sx2_8 sx2_9 sx2_10 .un .un .un .un .un .un)) := by kernel_rfl
theorem w12_2 : Fw12 (gE 2 (.va (tD A2)) (.va (hD H2)) sx2_4 sx2_5 sx2_6 sx2_7 sx2_8 sx2_9 sx2_10 .un .un .un .un .un .un) = .ok (.nx (gE 2 (.va (tD A2)) (.va (hD H2)) sx2_4 sx2_5 sx2_6 sx2_7 sx2_8 sx2_9 sx2_10 sx2_11 .un .un .un .un .un)) := by kernel_rfl
theorem hp_2 : H2.all (fun h => memA (headL h) A2 && (memA (lastL h) A2 && Nat.blt 0 h.length)) = true := by kernel_rfl
theorem f15_2 : H2.all (fun h => okF (t15 (gE 2 (.va (tD A2)) (.va (hD H2)) sx2_4 (.va (tD h)) sx2_6 sx2_7 sx2_8 sx2_9 sx2_10 sx2_11 (.va (tupI (headL h))) (.va (tupI (lastL h))) .un .un .un))) = true := by kernel_rfl
theorem mir_2 : H2.all (fun h => A2.all fun o => eqO (cntP (mirP (lastL h)) (mirP o)) (cntP (lastL h) o)) = true := by kernel_rfl
theorem gf_2 : GF 2 4 A2 H2 sx2_4 sx2_5 sx2_6 sx2_7 sx2_8 sx2_9 sx2_10 sx2_11 where
  hm := by decide
  hA := by decide
  hH := by decide
  inv := inv_2
  w1 := w1_2
  w2 := w2_2
  w3 := w3_2
  w4 := w4_2
  w5 := w5_2
  w6 := w6_2
  w7 := w7_2
  w8 := w8_2
  w9 := w9_2
  w10 := w10_2
  w11 := w11_2
  w12 := w12_2
  hp := hp_2
  f15 := f15_2
  f17 := fun _ _ _ _ _ _ _ _ _ _ _ _ _ _ _ => by kernel_rfl
  mir := mir_2
def A3 : List (List Int) := [[1, 0, 3, 2, 5, 4], [1, 0, 5, 4, 3, 2], [3, 2, 1, 0, 5, 4], [5, 2, 1, 4, 3, 0], [5, 4, 3, 2, 1, 0]]
def T3 : List (List Int) := [[5, 2, 1, 4, 3, 0], [3, 2, 1, 0, 5, 4], [5, 4, 3, 2, 1, 0], [1, 0, 3, 2, 5, 4], [1, 0, 5, 4, 3, 2]]
def H3 : List (List (List Int)) := [[[1, 0, 3, 2, 5, 4], [5, 2, 1, 4, 3, 0]], [[1, 0, 5, 4, 3, 2], [3, 2, 1, 0, 5, 4], [5, 4, 3, 2, 1, 0]]]
def L3 : List (List (List Int)) := [[[1, 0, 3, 2, 5, 4], [5, 2, 1, 4, 3, 0]], [[1, 0, 5, 4, 3, 2], [3, 2, 1, 0, 5, 4], [5, 4, 3, 2, 1, 0]]]
abbrev sx3_4 : Sl := .va (.list [.int 5, .int 0, .int 2, .int 3, .int 2, .int 0])
abbrev sx3_5 : Sl := .va (tD [[1, 0, 5, 4, 3, 2], [3, 2, 1, 0, 5, 4], [5, 4, 3, 2, 1, 0]])
abbrev sx3_6 : Sl := .va (tupI [5, 4, 3, 2, 1, 0])
abbrev sx3_7 : Sl := .va (tD [[1, 0, 3, 2, 5, 4], [5, 2, 1, 4, 3, 0], [5, 4, 3, 2, 1, 0]])
abbrev sx3_8 : Sl := .va (.int 12)
abbrev sx3_9 : Sl := .ol (L3.map tD)
abbrev sx3_10 : Sl := .va (tD [[1, 0, 5, 4, 3, 2], [3, 2, 1, 0, 5, 4], [5, 4, 3, 2, 1, 0]])
abbrev sx3_11 : Sl := .va (.int 6)
theorem inv_3 : Inv1 6 A3 := Inv1.of (A' := T3) (by kernel_rfl) (by kernel_rfl) (by kernel_rfl) (by kernel_rfl)
theorem w1_3 : Fw1 (gE 3 .un .un .un .un .un .un .un .un .un .un .un .un .un .un .un) = .ok (.nx (gE 3 (.va (tD A3)) .un .un .un .un .un .un .un .un .un .un .un .un .un .un)) := by kernel_rfl
theorem w2_3 : Fw2 (gE 3 (.va (tD A3)) .un .un .un .un .un .un .un .un .un .un .un .un .un .un) = .ok (.nx (gE 3 (.va (tD A3)) (.va (hD H3)) .un .un .un .un .un .un .un .un .un .un .un .un .un)) := by kernel_rfl
theorem w3_3 : Fw3 (gE 3 (.va (tD A3)) (.va (hD H3)) .un .un .un .un .un .un .un .un .un .un .un .un .un) = .ok (.nx (gE 3 (.va (tD A3)) (.va (hD H3)) sx3_4 .un .un .un .un .un .un .un .un .un .un .un .un)) := by kernel_rfl
theorem w4_3 : Fq4 (gE 3 (.va (tD A3)) (.va (hD H3)) sx3_4 .un .un .un .un .un .un .un .un .un .un .un .un) = .ok (.nx (gE 3 (.va (tD A3)) (.va (hD H3)) sx3_4 .un .un .un .un .un .un .un .un .un .un .un .un)) := by kernel_rfl
theorem w5_3 : Fq5 (gE 3 (.va (tD A3)) (.va (hD H3)) sx3_4 .un .un .un .un .un .un .un .un .un .un .un .un) = .ok (.nx (gE 3 (.va (tD A3)) (.va (hD H3)) sx3_4 sx3_5 sx3_6 .un .un .un .un .un .un .un .un .un .un)) := by kernel_rfl
theorem w6_3 : Fw6 (gE 3 (.va (tD A3)) (.va (hD H3)) sx3_4 sx3_5 sx3_6 .un .un .un .un .un .un .un .un .un .un) = .ok (.nx (gE 3 (.va (tD A3)) (.va (hD H3)) sx3_4 sx3_5 sx3_6 sx3_7 .un .un .un .un .un .un .un .un .un)) := by kernel_rfl
theorem w7_3 : Fw7 (gE 3 (.va (tD A3)) (.va (hD H3)) sx3_4 sx3_5 sx3_6 sx3_7 .un .un .un .un .un .un .un .un .un) = .ok (.nx (gE 3 (.va (tD A3)) (.va (hD H3)) sx3_4 sx3_5 sx3_6 sx3_7 .un .un .un .un .un .un .un .un .un)) := by kernel_rfl
theorem w8_3 : Fq8 (gE 3 (.va (tD A3)) (.va (hD H3)) sx3_4 sx3_5 sx3_6 sx3_7 .un .un .un .un .un .un .un .un .un) = .ok (.nx (gE 3 (.va (tD A3)) (.va (hD H3)) sx3_4 sx3_5 sx3_6 sx3_7 sx3_8 .un .un .un .un .un .un .un .un)) := by kernel_rfl
theorem w9_3 : Fw9 (gE 3 (.va (tD A3)) (.va (hD H3)) sx3_4 sx3_5 sx3_6 sx3_7 sx3_8 .un .un .un .un .un .un .un .un) = .ok (.nx (gE 3 (.va (tD A3)) (.va (hD H3)) sx3_4 sx3_5 sx3_6 sx3_7 sx3_8 (.ol []) .un .un .un .un .un .un .un)) := by kernel_rfl
theorem w10_3 : Fw10 (gE 3 (.va (tD A3)) (.va (hD H3)) sx3_4 sx3_5 sx3_6 sx3_7 sx3_8 (.ol []) .un .un .un .un .un .un .un) = .ok (.nx (gE 3 (.va (tD A3)) (.va (hD H3)) sx3_4 sx3_5 sx3_6 sx3_7 sx3_8 sx3_9 sx3_10 .un .un .un .un .un .un)) := by kernel_rfl
theorem w11_3 : Fw11 (gE 3 (.va (tD A3)) (.va (hD H3)) sx3_4 sx3_5 sx3_6 sx3_7 sx3_8 sx3_9 sx3_10 .un .un .un .un .un .un) = .ok (.nx (gE 3 (.va (tD A3)) (.va (hD H3)) sx3_4 sx3_5 sx3_6 sx3_7 sx3_8 sx3_9 sx3_10 .un .un .un .un .un .un)) := by kernel_rfl
theorem w12_3 : Fw12 (gE 3 (.va (tD A3)) (.va (hD H3)) sx3_4 sx3_5 sx3_6 sx3_7 sx3_8 sx3_9 sx3_10 .un .un .un .un .un .un) = .ok (.nx (gE 3 (.va (tD A3)) (.va (hD H3)) sx3_4 sx3_5 sx3_6 sx3_7 sx3_8 sx3_9 sx3_10 sx3_11 .un .un .un .un .un)) := by kernel_rfl
theorem hp_3 : H3.all (fun h => memA (headL h) A3 && (memA (lastL h) A3 && Nat.blt 0 h.length)) = true := by kernel_rfl
theorem f15_3 : H3.all (fun h => okF (t15 (gE 3 (.va (tD A3)) (.va (hD H3)) sx3_4 (.va (tD h)) sx3_6 sx3_7 sx3_8 sx3_9 sx3_10 sx3_11 (.va (tupI (headL h))) (.va (tupI (lastL h))) .un .un .un))) = true := by kernel_rfl
theorem mir_3 : H3.all (fun h => A3.all fun o => eqO (cntP (mirP (lastL h)) (mirP o)) (cntP (lastL h) o)) = true := by kernel_rfl
theorem gf_3 : GF 3 6 A3 H3 sx3_4 sx3_5 sx3_6 sx3_7 sx3_8 sx3_9 sx3_10 sx3_11 where
  hm := by decide
  hA := by decide
  hH := by decide
  inv := inv_3
  w1 := w1_3
  w2 := w2_3
  w3 := w3_3
  w4 := w4_3
  w5 := w5_3
  w6 := w6_3
  w7 := w7_3
  w8 := w8_3
  w9 := w9_3
  w10 := w10_3
  w11 := w11_3
  w12 := w12_3
  hp := hp_3
  f15 := f15_3
  f17 := fun _ _ _ _ _ _ _ _ _ _ _ _ _ _ _ => by kernel_rfl
  mir := mir_3
def A4 : List (List Int) := [[1, 0, 3, 2, 5, 4, 7, 6], [1, 0, 3, 2, 7, 6, 5, 4], [1, 0, 5, 4, 3, 2, 7, 6], [1, 0, 7, 4, 3, 6, 5, 2], [1, 0, 7, 6, 5, 4, 3, 2], [3, 2, 1, 0, 5, 4, 7, 6], [3, 2, 1, 0, 7, 6, 5, 4], [5, 2, 1, 4, 3, 0, 7, 6], [5, 4, 3, 2, 1, 0, 7, 6], [7, 2, 1, 4, 3, 6, 5, 0], [7, 2, 1, 6, 5, 4, 3, 0], [7, 4, 3, 2, 1, 6, 5, 0], [7, 6, 3, 2, 5, 4, 1, 0], [7, 6, 5, 4, 3, 2, 1, 0]]
def T4 : List (List Int) := [[7, 2, 1, 4, 3, 6, 5, 0], [5, 2, 1, 4, 3, 0, 7, 6], [7, 2, 1, 6, 5, 4, 3, 0], [3, 2, 1, 0, 5, 4, 7, 6], [3, 2, 1, 0, 7, 6, 5, 4], [7, 4, 3, 2, 1, 6, 5, 0], [5, 4, 3, 2, 1, 0, 7, 6], [7, 6, 3, 2, 5, 4, 1, 0], [7, 6, 5, 4, 3, 2, 1, 0], [1, 0, 3, 2, 5, 4, 7, 6], [1, 0, 3, 2, 7, 6, 5, 4], [1, 0, 5, 4, 3, 2, 7, 6], [1, 0, 7, 4, 3, 6, 5, 2], [1, 0, 7, 6, 5, 4, 3, 2]]
def H4 : List (List (List Int)) := [[[1, 0, 3, 2, 5, 4, 7, 6], [7, 2, 1, 4, 3, 6, 5, 0]], [[1, 0, 3, 2, 7, 6, 5, 4], [1, 0, 5, 4, 3, 2, 7, 6], [1, 0, 7, 4, 3, 6, 5, 2], [3, 2, 1, 0, 5, 4, 7, 6], [5, 2, 1, 4, 3, 0, 7, 6], [7, 2, 1, 6, 5, 4, 3, 0], [7, 4, 3, 2, 1, 6, 5, 0], [7, 6, 3, 2, 5, 4, 1, 0]], [[1, 0, 7, 6, 5, 4, 3, 2], [3, 2, 1, 0, 7, 6, 5, 4], [5, 4, 3, 2, 1, 0, 7, 6], [7, 6, 5, 4, 3, 2, 1, 0]]]
def L4 : List (List (List Int)) := [[[1, 0, 3, 2, 5, 4, 7, 6], [7, 2, 1, 4, 3, 6, 5, 0]], [[1, 0, 3, 2, 7, 6, 5, 4], [1, 0, 5, 4, 3, 2, 7, 6], [1, 0, 7, 4, 3, 6, 5, 2], [3, 2, 1, 0, 5, 4, 7, 6], [5, 2, 1, 4, 3, 0, 7, 6], [7, 2, 1, 6, 5, 4, 3, 0], [7, 4, 3, 2, 1, 6, 5, 0], [7, 6, 3, 2, 5, 4, 1, 0]], [[1, 0, 7, 6, 5, 4, 3, 2], [3, 2, 1, 0, 7, 6, 5, 4], [5, 4, 3, 2, 1, 0, 7, 6], [7, 6, 5, 4, 3, 2, 1, 0]]]
abbrev sx4_4 : Sl := .va (.list [.int 14, .int 0, .int 2, .int 0, .int 6, .int 0, .int 2, .int 0])
abbrev sx4_5 : Sl := .va (tD [[1, 0, 7, 6, 5, 4, 3, 2], [3, 2, 1, 0, 7, 6, 5, 4], [5, 4, 3, 2, 1, 0, 7, 6], [7, 6, 5, 4, 3, 2, 1, 0]])
abbrev sx4_6 : Sl := .va (tupI [5, 4, 3, 2, 1, 0, 7, 6])
abbrev sx4_7 : Sl := .va (tD [[1, 0, 3, 2, 5, 4, 7, 6], [1, 0, 5, 4, 3, 2, 7, 6], [3, 2, 1, 0, 7, 6, 5, 4], [7, 2, 1, 4, 3, 6, 5, 0], [7, 6, 3, 2, 5, 4, 1, 0], [7, 6, 5, 4, 3, 2, 1, 0]])
abbrev sx4_8 : Sl := .va (.int 24)
abbrev sx4_9 : Sl := .ol (L4.map tD)
abbrev sx4_10 : Sl := .va (tD [[1, 0, 7, 6, 5, 4, 3, 2], [3, 2, 1, 0, 7, 6, 5, 4], [5, 4, 3, 2, 1, 0, 7, 6], [7, 6, 5, 4, 3, 2, 1, 0]])
abbrev sx4_11 : Sl := .va (.int 8)
theorem inv_4 : Inv1 8 A4 := Inv1.of (A' := T4) (by kernel_rfl) (by kernel_rfl) (by kernel_rfl) (by kernel_rfl)
theorem w1_4 : Fw1 (gE 4 .un .un .un .un .un .un .un .un .un .un .un .un .un .un .un) = .ok (.nx (gE 4 (.va (tD A4)) .un .un .un .un .un .un .un .un .un .un .un .un .un .un)) := by kernel_rfl
theorem w2_4 : Fw2 (gE 4 (.va (tD A4)) .un .un .un .un .un .un .un .un .un .un .un .un .un .un) = .ok (.nx (gE 4 (.va (tD A4)) (.va (hD H4)) .un .un .un .un .un .un .un .un .un .un .un .un .un)) := by kernel_rfl
theorem w3_4 : Fw3 (gE 4 (.va (tD A4)) (.va (hD H4)) .un .un .un .un .un .un .un .un .un .un .un .un .un) = .ok (.nx (gE 4 (.va (tD A4)) (.va (hD H4)) sx4_4 .un .un .un .un .un .un .un .un .un .un .un .un)) := by kernel_rfl
theorem w4_4 : Fq4 (gE 4 (.va (tD A4)) (.va (hD H4)) sx4_4 .un .un .un .un .un .un .un .un .un .un .un .un) = .ok (.nx (gE 4 (.va (tD A4)) (.va (hD H4)) sx4_4 .un .un .un .un .un .un .un .un .un .un .un .un)) := by kernel_rfl
theorem w5_4 : Fq5 (gE 4 (.va (tD A4)) (.va (hD H4)) sx4_4 .un .un .un .un .un .un .un .un .un .un .un .un) = .ok (.nx (gE 4 (.va (tD A4)) (.va (hD H4)) sx4_4 sx4_5 sx4_6 .un .un .un .un .un .un .un .un .un .un)) := by kernel_rfl
theorem w6_4 : Fw6 (gE 4 (.va (tD A4)) (.va (hD H4)) sx4_4 sx4_5 sx4_6 .un .un .un .un .un .un .un .un .un .un) = .ok (.nx (gE 4 (.va (tD A4)) (.va (hD H4)) sx4_4 sx4_5 sx4_6 sx4_7 .un .un .un .un .un .un .un .un .un)) := by kernel_rfl
theorem w7_4 : Fw7 (gE 4 (.va (tD A4)) (.va (hD H4)) sx4_4 sx4_5 sx4_6 sx4_7 .un .un .un .un .un .un .un .un .un) = .ok (.nx (gE 4 (.va (tD A4)) (.va (hD H4)) sx4_4 sx4_5 sx4_6 sx4_7 .un .un .un .un .un .un .un .un .un)) := by kernel_rfl
theorem w8_4 : Fq8 (gE 4 (.va (tD A4)) (.va (hD H4)) sx4_4 sx4_5 sx4_6 sx4_7 .un .un .un .un .un .un .un .un .un) = .ok (.nx (gE 4 (.va (tD A4)) (.va (hD H4)) sx4_4 sx4_5 sx4_6 sx4_7 sx4_8 .un .un .un .un .un .un .un .un)) := by kernel_rfl
theorem w9_4 : Fw9 (gE 4 (.va (tD A4)) (.va (hD H4)) sx4_4 sx4_5 sx4_6 sx4_7 sx4_8 .un .un .un .un .un .un .un .un) = .ok (.nx (gE 4 (.va (tD A4)) (.va (hD H4)) sx4_4 sx4_5 sx4_6 sx4_7 sx4_8 (.ol []) .un .un .un .un .un .un .un)) := by kernel_rfl
theorem w10_4 : Fw10 (gE 4 (.va (tD A4)) (.va (hD H4)) sx4_4 sx4_5 sx4_6 sx4_7 sx4_8 (.ol []) .un .un .un .un .un .un .un) = .ok (.nx (gE 4 (.va (tD A4)) (.va (hD H4)) sx4_4 sx4_5 sx4_6 sx4_7 sx4_8 sx4_9 sx4_10 .un .un .un .un .un .un)) := by kernel_rfl
theorem w11_4 : Fw11 (gE 4 (.va (tD A4)) (.va (hD H4)) sx4_4 sx4_5 sx4_6 sx4_7 sx4_8 sx4_9 sx4_10 .un .un .un .un .un .un) = .ok (.nx (gE 4 (.va (tD A4)) (.va (hD H4)) sx4_4 sx4_5 sx4_6 sx4_7 sx4_8 sx4_9 sx4_10 .un .un .un .un .un .un)) := by kernel_rfl
theorem w12_4 : Fw12 (gE 4 (.va (tD A4)) (.va (hD H4)) sx4_4 sx4_5 sx4_6 sx4_7 sx4_8 sx4_9 sx4_10 .un .un .un .un .un .un) = .ok (.nx (gE 4 (.va (tD A4)) (.va (hD H4)) sx4_4 sx4_5 sx4_6 sx4_7 sx4_8 sx4_9 sx4_10 sx4_11 .un .un .un .un .un)) := by kernel_rfl
theorem hp_4 : H4.all (fun h => memA (headL h) A4 && (memA (lastL h) A4 && Nat.blt 0 h.length)) = true := by kernel_rfl
theorem f15_4 : H4.all (fun h => okF (t15 (gE 4 (.va (tD A4)) (.va (hD H4)) sx4_4 (.va (tD h)) sx4_6 sx4_7 sx4_8 sx4_9 sx4_10 sx4_11 (.va (tupI (headL h))) (.va (tupI (lastL h))) .un .un .un))) = true := by kernel_rfl
theorem mir_4 : H4.all (fun h => A4.all fun o => eqO (cntP (mirP (lastL h)) (mirP o)) (cntP (lastL h) o)) = true := by kernel_rfl
theorem gf_4 : GF 4 8 A4 H4 sx4_4 sx4_5 sx4_6 sx4_7 sx4_8 sx4_9 sx4_10 sx4_11 where
  hm := by decide
  hA := by decide
  hH := by decide
  inv := inv_4
  w1 := w1_4
  w2 := w2_4
  w3 := w3_4
  w4 := w4_4
  w5 := w5_4
  w6 := w6_4
  w7 := w7_4
  w8 := w8_4
  w9 := w9_4
  w10 := w10_4
  w11 := w11_4
  w12 := w12_4
  hp := hp_4
  f15 := f15_4
  f17 := fun _ _ _ _ _ _ _ _ _ _ _ _ _ _ _ => by kernel_rfl
  mir := mir_4
end Wk
set_option Elab.async false
set_option linter.all false
set_option maxRecDepth 1000000
set_option maxHeartbeats 4000000


/-! few_right of sizes 5. -/
namespace Wk
open PySem PySem.Spec PyProof.Rows L2 Ev
def A5 : List (List Int) := [[1, 0, 3, 2, 5, 4, 7, 6, 9, 8], [1, 0, 3, 2, 5, 4, 9, 8, 7, 6], [1, 0, 3, 2, 7, 6, 5, 4, 9, 8], [1, 0, 3, 2, 9, 6, 5, 8, 7, 4], [1, 0, 3, 2, 9, 8, 7, 6, 5, 4], [1, 0, 5, 4, 3, 2, 7, 6, 9, 8], [1, 0, 5, 4, 3, 2, 9, 8, 7, 6], [1, 0, 7, 4, 3, 6, 5, 2, 9, 8], [1, 0, 7, 6, 5, 4, 3, 2, 9, 8], [1, 0, 9, 4, 3, 6, 5, 8, 7, 2], [1, 0, 9, 4, 3, 8, 7, 6, 5, 2], [1, 0, 9, 6, 5, 4, 3, 8, 7, 2], [1, 0, 9, 8, 5, 4, 7, 6, 3, 2], [1, 0, 9, 8, 7, 6, 5, 4, 3, 2], [3, 2, 1, 0, 5, 4, 7, 6, 9, 8], [3, 2, 1, 0, 5, 4, 9, 8, 7, 6], [3, 2, 1, 0, 7, 6, 5, 4, 9, 8], [3, 2, 1, 0, 9, 6, 5, 8, 7, 4], [3, 2, 1, 0, 9, 8, 7, 6, 5, 4], [5, 2, 1, 4, 3, 0, 7, 6, 9, 8], [5, 2, 1, 4, 3, 0, 9, 8, 7, 6], [5, 4, 3, 2, 1, 0, 7, 6, 9, 8], [5, 4, 3, 2, 1, 0, 9, 8, 7, 6], [7, 2, 1, 4, 3, 6, 5, 0, 9, 8], [7, 2, 1, 6, 5, 4, 3, 0, 9, 8], [7, 4, 3, 2, 1, 6, 5, 0, 9, 8], [7, 6, 3, 2, 5, 4, 1, 0, 9, 8], [7, 6, 5, 4, 3, 2, 1, 0, 9, 8], [9, 2, 1, 4, 3, 6, 5, 8, 7, 0], [9, 2, 1, 4, 3, 8, 7, 6, 5, 0], [9, 2, 1, 6, 5, 4, 3, 8, 7, 0], [9, 2, 1, 8, 5, 4, 7, 6, 3, 0], [9, 2, 1, 8, 7, 6, 5, 4, 3, 0], [9, 4, 3, 2, 1, 6, 5, 8, 7, 0], [9, 4, 3, 2, 1, 8, 7, 6, 5, 0], [9, 6, 3, 2, 5, 4, 1, 8, 7, 0], [9, 6, 5, 4, 3, 2, 1, 8, 7, 0], [9, 8, 3, 2, 5, 4, 7, 6, 1, 0], [9, 8, 3, 2, 7, 6, 5, 4, 1, 0], [9, 8, 5, 4, 3, 2, 7, 6, 1, 0], [9, 8, 7, 4, 3, 6, 5, 2, 1, 0], [9, 8, 7, 6, 5, 4, 3, 2, 1, 0]]
def T5 : List (List Int) := [[9, 2, 1, 4, 3, 6, 5, 8, 7, 0], [7, 2, 1, 4, 3, 6, 5, 0, 9, 8], [9, 2, 1, 4, 3, 8, 7, 6, 5, 0], [5, 2, 1, 4, 3, 0, 7, 6, 9, 8], [5, 2, 1, 4, 3, 0, 9, 8, 7, 6], [9, 2, 1, 6, 5, 4, 3, 8, 7, 0], [7, 2, 1, 6, 5, 4, 3, 0, 9, 8], [9, 2, 1, 8, 5, 4, 7, 6, 3, 0], [9, 2, 1, 8, 7, 6, 5, 4, 3, 0], [3, 2, 1, 0, 5, 4, 7, 6, 9, 8], [3, 2, 1, 0, 5, 4, 9, 8, 7, 6], [3, 2, 1, 0, 7, 6, 5, 4, 9, 8], [3, 2, 1, 0, 9, 6, 5, 8, 7, 4], [3, 2, 1, 0, 9, 8, 7, 6, 5, 4], [9, 4, 3, 2, 1, 6, 5, 8, 7, 0], [7, 4, 3, 2, 1, 6, 5, 0, 9, 8], [9, 4, 3, 2, 1, 8, 7, 6, 5, 0], [5, 4, 3, 2, 1, 0, 7, 6, 9, 8], [5, 4, 3, 2, 1, 0, 9, 8, 7, 6], [9, 6, 3, 2, 5, 4, 1, 8, 7, 0], [7, 6, 3, 2, 5, 4, 1, 0, 9, 8], [9, 6, 5, 4, 3, 2, 1, 8, 7, 0], [7, 6, 5, 4, 3, 2, 1, 0, 9, 8], [9, 8, 3, 2, 5, 4, 7, 6, 1, 0], [9, 8, 3, 2, 7, 6, 5, 4, 1, 0], [9, 8, 5, 4, 3, 2, 7, 6, 1, 0], [9, 8, 7, 4, 3, 6, 5, 2, 1, 0], [9, 8, 7, 6, 5, 4, 3, 2, 1, 0], [1, 0, 3, 2, 5, 4, 7, 6, 9, 8], [1, 0, 3, 2, 5, 4, 9, 8, 7, 6], [1, 0, 3, 2, 7, 6, 5, 4, 9, 8], [1, 0, 3, 2, 9, 6, 5, 8, 7, 4], [1, 0, 3, 2, 9, 8, 7, 6, 5, 4], [1, 0, 5, 4, 3, 2, 7, 6, 9, 8], [1, 0, 5, 4, 3, 2, 9, 8, 7, 6], [1, 0, 7, 4, 3, 6, 5, 2, 9, 8], [1, 0, 7, 6, 5, 4, 3, 2, 9, 8], [1, 0, 9, 4, 3, 6, 5, 8, 7, 2], [1, 0, 9, 4, 3, 8, 7, 6, 5, 2], [1, 0, 9, 6, 5, 4, 3, 8, 7, 2], [1, 0, 9, 8, 5, 4, 7, 6, 3, 2], [1, 0, 9, 8, 7, 6, 5, 4, 3, 2]]
def H5 : List (List (List Int)) := [[[1, 0, 3, 2, 5, 4, 7, 6, 9, 8], [9, 2, 1, 4, 3, 6, 5, 8, 7, 0]], [[1, 0, 3, 2, 5, 4, 9, 8, 7, 6], [1, 0, 3, 2, 7, 6, 5, 4, 9, 8], [1, 0, 5, 4, 3, 2, 7, 6, 9, 8], [1, 0, 9, 4, 3, 6, 5, 8, 7, 2], [3, 2, 1, 0, 5, 4, 7, 6, 9, 8], [7, 2, 1, 4, 3, 6, 5, 0, 9, 8], [9, 2, 1, 4, 3, 8, 7, 6, 5, 0], [9, 2, 1, 6, 5, 4, 3, 8, 7, 0], [9, 4, 3, 2, 1, 6, 5, 8, 7, 0], [9, 8, 3, 2, 5, 4, 7, 6, 1, 0]], [[1, 0, 3, 2, 9, 6, 5, 8, 7, 4], [1, 0, 7, 4, 3, 6, 5, 2, 9, 8], [5, 2, 1, 4, 3, 0, 7, 6, 9, 8], [9, 2, 1, 8, 5, 4, 7, 6, 3, 0], [9, 6, 3, 2, 5, 4, 1, 8, 7, 0]], [[1, 0, 3, 2, 9, 8, 7, 6, 5, 4], [1, 0, 7, 6, 5, 4, 3, 2, 9, 8], [1, 0, 9, 8, 5, 4, 7, 6, 3, 2], [3, 2, 1, 0, 9, 6, 5, 8, 7, 4], [5, 2, 1, 4, 3, 0, 9, 8, 7, 6], [5, 4, 3, 2, 1, 0, 7, 6, 9, 8], [7, 6, 3, 2, 5, 4, 1, 0, 9, 8], [9, 2, 1, 8, 7, 6, 5, 4, 3, 0], [9, 6, 5, 4, 3, 2, 1, 8, 7, 0], [9, 8, 7, 4, 3, 6, 5, 2, 1, 0]], [[1, 0, 5, 4, 3, 2, 9, 8, 7, 6], [1, 0, 9, 4, 3, 8, 7, 6, 5, 2], [1, 0, 9, 6, 5, 4, 3, 8, 7, 2], [3, 2, 1, 0, 5, 4, 9, 8, 7, 6], [3, 2, 1, 0, 7, 6, 5, 4, 9, 8], [7, 2, 1, 6, 5, 4, 3, 0, 9, 8], [7, 4, 3, 2, 1, 6, 5, 0, 9, 8], [9, 4, 3, 2, 1, 8, 7, 6, 5, 0], [9, 8, 3, 2, 7, 6, 5, 4, 1, 0], [9, 8, 5, 4, 3, 2, 7, 6, 1, 0]], [[1, 0, 9, 8, 7, 6, 5, 4, 3, 2], [3, 2, 1, 0, 9, 8, 7, 6, 5, 4], [5, 4, 3, 2, 1, 0, 9, 8, 7, 6], [7, 6, 5, 4, 3, 2, 1, 0, 9, 8], [9, 8, 7, 6, 5, 4, 3, 2, 1, 0]]]
def L5 : List (List (List Int)) := [[[1, 0, 3, 2, 5, 4, 7, 6, 9, 8], [9, 2, 1, 4, 3, 6, 5, 8, 7, 0]], [[1, 0, 3, 2, 5, 4, 9, 8, 7, 6], [1, 0, 3, 2, 7, 6, 5, 4, 9, 8], [1, 0, 5, 4, 3, 2, 7, 6, 9, 8], [1, 0, 9, 4, 3, 6, 5, 8, 7, 2], [3, 2, 1, 0, 5, 4, 7, 6, 9, 8], [7, 2, 1, 4, 3, 6, 5, 0, 9, 8], [9, 2, 1, 4, 3, 8, 7, 6, 5, 0], [9, 2, 1, 6, 5, 4, 3, 8, 7, 0], [9, 4, 3, 2, 1, 6, 5, 8, 7, 0], [9, 8, 3, 2, 5, 4, 7, 6, 1, 0]], [[1, 0, 3, 2, 9, 6, 5, 8, 7, 4], [1, 0, 7, 4, 3, 6, 5, 2, 9, 8], [5, 2, 1, 4, 3, 0, 7, 6, 9, 8], [9, 2, 1, 8, 5, 4, 7, 6, 3, 0], [9, 6, 3, 2, 5, 4, 1, 8, 7, 0]], [[1, 0, 3, 2, 9, 8, 7, 6, 5, 4], [1, 0, 7, 6, 5, 4, 3, 2, 9, 8], [1, 0, 9, 8, 5, 4, 7, 6, 3, 2], [3, 2, 1, 0, 9, 6, 5, 8, 7, 4], [5, 2, 1, 4, 3, 0, 9, 8, 7, 6], [5, 4, 3, 2, 1, 0, 7, 6, 9, 8], [7, 6, 3, 2, 5, 4, 1, 0, 9, 8], [9, 2, 1, 8, 7, 6, 5, 4, 3, 0], [9, 6, 5, 4, 3, 2, 1, 8, 7, 0], [9, 8, 7, 4, 3, 6, 5, 2, 1, 0]], [[1, 0, 5, 4, 3, 2, 9, 8, 7, 6], [1, 0, 9, 4, 3, 8, 7, 6, 5, 2], [1, 0, 9, 6, 5, 4, 3, 8, 7, 2], [3, 2, 1, 0, 5, 4, 9, 8, 7, 6], [3, 2, 1, 0, 7, 6, 5, 4, 9, 8], [7, 2, 1, 6, 5, 4, 3, 0, 9, 8], [7, 4, 3, 2, 1, 6, 5, 0, 9, 8], [9, 4, 3, 2, 1, 8, 7, 6, 5, 0], [9, 8, 3, 2, 7, 6, 5, 4, 1, 0], [9, 8, 5, 4, 3, 2, 7, 6, 1, 0]], [[1, 0, 9, 8, 7, 6, 5, 4, 3, 2], [3, 2, 1, 0, 9, 8, 7, 6, 5, 4], [5, 4, 3, 2, 1, 0, 9, 8, 7, 6], [7, 6, 5, 4, 3, 2, 1, 0, 9, 8], [9, 8, 7, 6, 5, 4, 3, 2, 1, 0]]]
abbrev sx5_4 : Sl := .va (.list [.int 42, .int 0, .int 2, .int 0, .int 2, .int 10, .int 2, .int 0, .int 2, .int 0])
abbrev sx5_5 : Sl := .va (tD [[1, 0, 9, 8, 7, 6, 5, 4, 3, 2], [3, 2, 1, 0, 9, 8, 7, 6, 5, 4], [5, 4, 3, 2, 1, 0, 9, 8, 7, 6], [7, 6, 5, 4, 3, 2, 1, 0, 9, 8], [9, 8, 7, 6, 5, 4, 3, 2, 1, 0]])
abbrev sx5_6 : Sl := .va (tupI [5, 4, 3, 2, 1, 0, 9, 8, 7, 6])
abbrev sx5_7 : Sl := .va (tD [[1, 0, 3, 2, 5, 4, 7, 6, 9, 8], [1, 0, 7, 4, 3, 6, 5, 2, 9, 8], [1, 0, 7, 6, 5, 4, 3, 2, 9, 8], [3, 2, 1, 0, 5, 4, 9, 8, 7, 6], [9, 2, 1, 4, 3, 6, 5, 8, 7, 0], [9, 2, 1, 6, 5, 4, 3, 8, 7, 0], [9, 4, 3, 2, 1, 8, 7, 6, 5, 0], [9, 8, 3, 2, 5, 4, 7, 6, 1, 0], [9, 8, 7, 4, 3, 6, 5, 2, 1, 0], [9, 8, 7, 6, 5, 4, 3, 2, 1, 0]])
abbrev sx5_8 : Sl := .va (.int 60)
abbrev sx5_9 : Sl := .ol (L5.map tD)
abbrev sx5_10 : Sl := .va (tD [[1, 0, 9, 8, 7, 6, 5, 4, 3, 2], [3, 2, 1, 0, 9, 8, 7, 6, 5, 4], [5, 4, 3, 2, 1, 0, 9, 8, 7, 6], [7, 6, 5, 4, 3, 2, 1, 0, 9, 8], [9, 8, 7, 6, 5, 4, 3, 2, 1, 0]])
abbrev sx5_11 : Sl := .va (.int 10)
theorem inv_5 : Inv1 10 A5 := Inv1.of (A' := T5) (by kernel_rfl) (by kernel_rfl) (by kernel_rfl) (by kernel_rfl)
theorem w1_5 : Fw1 (gE 5 .un .un .un .un .un .un .un .un .un .un .un .un .un .un .un) = .ok (.nx (gE 5 (.va (tD A5)) .un .un .un .un .un .un .un .un .un .un .un .un .un .un)) := by kernel_rfl
theorem w2_5 : Fw2 (gE 5 (.va (tD A5)) .un .un .un .un .un .un .un .un .un .un .un .un .un .un) = .ok (.nx (gE 5 (.va (tD A5)) (.va (hD H5)) .un .un .un .un .un .un .un .un .un .un .un .un .un)) := by kernel_rfl
theorem w3_5 : Fw3 (gE 5 (.va (tD A5)) (.va (hD H5)) .un .un .un .un .un .un .un .un .un .un .un .un .un) = .ok (.nx (gE 5 (.va (tD A5)) (.va (hD H5)) sx5_4 .un .un .un .un .un .un .un .un .un .un .un .un)) := by kernel_rfl
theorem w4_5 : Fq4 (gE 5 (.va (tD A5)) (.va (hD H5)) sx5_4 .un .un .un .un .un .un .un .un .un .un .un .un) = .ok (.nx (gE 5 (.va (tD A5)) (.va (hD H5)) sx5_4 .un .un .un .un .un .un .un .un .un .un .un .un)) := by kernel_rfl
theorem w5_5 : Fq5 (gE 5 (.va (tD A5)) (.va (hD H5)) sx5_4 .un .un .un .un .un .un .un .un .un .un .un .un) = .ok (.nx (gE 5 (.va (tD A5)) (.va (hD H5)) sx5_4 sx5_5 sx5_6 .un .un .un .un .un .un .un .un .un .un)) := by kernel_rfl
theorem w6_5 : Fw6 (gE 5 (.va (tD A5)) (.va (hD H5)) sx5_4 sx5_5 sx5_6 .un .un .un .un .un .un .un .un .un .un) = .ok (.nx (gE 5 (.va (tD A5)) (.va (hD H5)) sx5_4 sx5_5 sx5_6 sx5_7 .un .un .un .un .un .un .un .un .un)) := by kernel_rfl
theorem w7_5 : Fw7 (gE 5 (.va (tD A5)) (.va (hD H5)) sx5_4 sx5_5 sx5_6 sx5_7 .un .un .un .un .un .un .un .un .un) = .ok (.nx (gE 5 (.va (tD A5)) (.va (hD H5)) sx5_4 sx5_5 sx5_6 sx5_7 .un .un .un .un .un .un .un .un .un)) := by kernel_rfl
theorem w8_5 : Fq8 (gE 5 (.va (tD A5)) (.va (hD H5)) sx5_4 sx5_5 sx5_6 sx5_7 .un .un .un .un .un .un .un .un .un) = .ok (.nx (gE 5 (.va (tD A5)) (.va (hD H5)) sx5_4 sx5_5 sx5_6 sx5_7 sx5_8 .un .un .un .un .un .un .un .un)) := by kernel_rfl
theorem w9_5 : Fw9 (gE 5 (.va (tD A5)) (.va (hD H5)) sx5_4 sx5_5 sx5_6 sx5_7 sx5_8 .un .un .un .un .un .un .un .un) = .ok (.nx (gE 5 (.va (tD A5)) (.va (hD H5)) sx5_4 sx5_5 sx5_6 sx5_7 sx5_8 (.ol []) .un .un .un .un .un .un .un)) := by kernel_rfl
theorem w10_5 : Fw10 (gE 5 (.va (tD A5)) (.va (hD H5)) sx5_4 sx5_5 sx5_6 sx5_7 sx5_8 (.ol []) .un .un .un .un .un .un .un) = .ok (.nx (gE 5 (.va (tD A5)) (.va (hD H5)) sx5_4 sx5_5 sx5_6 sx5_7 sx5_8 sx5_9 sx5_10 .un .un .un .un .un .un)) := by kernel_rfl
theorem w11_5 : Fw11 (gE 5 (.va (tD A5)) (.va (hD H5)) sx5_4 sx5_5 sx5_6 sx5_7 sx5_8 sx5_9 sx5_10 .un .un .un .un .un .un) = .ok (.nx (gE 5 (.va (tD A5)) (.va (hD H5)) sx5_4 sx5_5 sx5_6 sx5_7 sx5_8 sx5_9 sx5_10 .un .un .un .un .un .un)) := by kernel_rfl
theorem w12_5 : Fw12 (gE 5 (.va (tD A5)) (.va (hD H5)) sx5_4 sx5_5 sx5_6 sx5_7 sx5_8 sx5_9 sx5_10 .un .un .un .un .un .un) = .ok (.nx (gE 5 (.va (tD A5)) (.va (hD H5)) sx5_4 sx5_5 sx5_6 sx5_7 sx5_8 sx5_9 sx5_10 sx5_11 .un .un .un .un .un)) := by kernel_rfl
theorem hp_5 : H5.all (fun h => memA (headL h) A5 && (memA (lastL h) A5 && Nat.blt 0 h.length)) = true := by kernel_rfl
theorem f15_5 : H5.all (fun h => okF (t15 (gE 5 (.va (tD A5)) (.va (hD H5)) sx5_4 (.va (tD h)) sx5_6 sx5_7 sx5_8 sx5_9 sx5_10 sx5_11 (.va (tupI (headL h))) (.va (tupI (lastL h))) .un .un .un))) = true := by kernel_rfl
theorem mir_5 : H5.all (fun h => A5.all fun o => eqO (cntP (mirP (lastL h)) (mirP o)) (cntP (lastL h) o)) = true := by kernel_rfl
theorem gf_5 : GF 5 10 A5 H5 sx5_4 sx5_5 sx5_6 sx5_7 sx5_8 sx5_9 sx5_10 sx5_11 where
  hm := by decide
  hA := by decide
  hH := by decide
  inv := inv_5
  w1 := w1_5
  w2 := w2_5
  w3 := w3_5
  w4 := w4_5
  w5 := w5_5
  w6 := w6_5
  w7 := w7_5
  w8 := w8_5
  w9 := w9_5
  w10 := w10_5
  w11 := w11_5
  w12 := w12_5
  hp := hp_5
  f15 := f15_5
  f17 := fun _ _ _ _ _ _ _ _ _ _ _ _ _ _ _ => by kernel_rfl
  mir := mir_5
end Wk
set_option Elab.async false
set_option linter.all false
set_option maxRecDepth 1000000
set_option maxHeartbeats 4000000
/-! few_right of sizes 6. -/
namespace Wk
open PySem PySem.Spec PyProof.Rows L2 Ev
def A6 : List (List Int) := [[1, 0, 3, 2, 5, 4, 7, 6, 9, 8, 11, 10], [1, 0, 3, 2, 5, 4, 7, 6, 11, 10, 9, 8], [1, 0, 3, 2, 5, 4, 9, 8, 7, 6, 11, 10], [1, 0, 3, 2, 5, 4, 11, 8, 7, 10, 9, 6], [1, 0, 3, 2, 5, 4, 11, 10, 9, 8, 7, 6], [1, 0, 3, 2, 7, 6, 5, 4, 9, 8, 11, 10], [1, 0, 3, 2, 7, 6, 5, 4, 11, 10, 9, 8], [1, 0, 3, 2, 9, 6, 5, 8, 7, 4, 11, 10], [1, 0, 3, 2, 9, 8, 7, 6, 5, 4, 11, 10], [1, 0, 3, 2, 11, 6, 5, 8, 7, 10, 9, 4], [1, 0, 3, 2, 11, 6, 5, 10, 9, 8, 7, 4], [1, 0, 3, 2, 11, 8, 7, 6, 5, 10, 9, 4], [1, 0, 3, 2, 11, 10, 7, 6, 9, 8, 5, 4], [1, 0, 3, 2, 11, 10, 9, 8, 7, 6, 5, 4], [1, 0, 5, 4, 3, 2, 7, 6, 9, 8, 11, 10], [1, 0, 5, 4, 3, 2, 7, 6, 11, 10, 9, 8], [1, 0, 5, 4, 3, 2, 9, 8, 7, 6, 11, 10], [1, 0, 5, 4, 3, 2, 11, 8, 7, 10, 9, 6], [1, 0, 5, 4, 3, 2, 11, 10, 9, 8, 7, 6], [1, 0, 7, 4, 3, 6, 5, 2, 9, 8, 11, 10], [1, 0, 7, 4, 3, 6, 5, 2, 11, 10, 9, 8], [1, 0, 7, 6, 5, 4, 3, 2, 9, 8, 11, 10], [1, 0, 7, 6, 5, 4, 3, 2, 11, 10, 9, 8], [1, 0, 9, 4, 3, 6, 5, 8, 7, 2, 11, 10], [1, 0, 9, 4, 3, 8, 7, 6, 5, 2, 11, 10], [1, 0, 9, 6, 5, 4, 3, 8, 7, 2, 11, 10], [1, 0, 9, 8, 5, 4, 7, 6, 3, 2, 11, 10], [1, 0, 9, 8, 7, 6, 5, 4, 3, 2, 11, 10], [1, 0, 11, 4, 3, 6, 5, 8, 7, 10, 9, 2], [1, 0, 11, 4, 3, 6, 5, 10, 9, 8, 7, 2], [1, 0, 11, 4, 3, 8, 7, 6, 5, 10, 9, 2], [1, 0, 11, 4, 3, 10, 7, 6, 9, 8, 5, 2], [1, 0, 11, 4, 3, 10, 9, 8, 7, 6, 5, 2], [1, 0, 11, 6, 5, 4, 3, 8, 7, 10, 9, 2], [1, 0, 11, 6, 5, 4, 3, 10, 9, 8, 7, 2], [1, 0, 11, 8, 5, 4, 7, 6, 3, 10, 9, 2], [1, 0, 11, 8, 7, 6, 5, 4, 3, 10, 9, 2], [1, 0, 11, 10, 5, 4, 7, 6, 9, 8, 3, 2], [1, 0, 11, 10, 5, 4, 9, 8, 7, 6, 3, 2], [1, 0, 11, 10, 7, 6, 5, 4, 9, 8, 3, 2], [1, 0, 11, 10, 9, 6, 5, 8, 7, 4, 3, 2], [1, 0, 11, 10, 9, 8, 7, 6, 5, 4, 3, 2], [3, 2, 1, 0, 5, 4, 7, 6, 9, 8, 11, 10], [3, 2, 1, 0, 5, 4, 7, 6, 11, 10, 9, 8], [3, 2, 1, 0, 5, 4, 9, 8, 7, 6, 11, 10], [3, 2, 1, 0, 5, 4, 11, 8, 7, 10, 9, 6], [3, 2, 1, 0, 5, 4, 11, 10, 9, 8, 7, 6], [3, 2, 1, 0, 7, 6, 5, 4, 9, 8, 11, 10], [3, 2, 1, 0, 7, 6, 5, 4, 11, 10, 9, 8], [3, 2, 1, 0, 9, 6, 5, 8, 7, 4, 11, 10], [3, 2, 1, 0, 9, 8, 7, 6, 5, 4, 11, 10], [3, 2, 1, 0, 11, 6, 5, 8, 7, 10, 9, 4], [3, 2, 1, 0, 11, 6, 5, 10, 9, 8, 7, 4], [3, 2, 1, 0, 11, 8, 7, 6, 5, 10, 9, 4], [3, 2, 1, 0, 11, 10, 7, 6, 9, 8, 5, 4], [3, 2, 1, 0, 11, 10, 9, 8, 7, 6, 5, 4], [5, 2, 1, 4, 3, 0, 7, 6, 9, 8, 11, 10], [5, 2, 1, 4, 3, 0, 7, 6, 11, 10, 9, 8], [5, 2, 1, 4, 3, 0, 9, 8, 7, 6, 11, 10], [5, 2, 1, 4, 3, 0, 11, 8, 7, 10, 9, 6], [5, 2, 1, 4, 3, 0, 11, 10, 9, 8, 7, 6], [5, 4, 3, 2, 1, 0, 7, 6, 9, 8, 11, 10], [5, 4, 3, 2, 1, 0, 7, 6, 11, 10, 9, 8], [5, 4, 3, 2, 1, 0, 9, 8, 7, 6, 11, 10], [5, 4, 3, 2, 1, 0, 11, 8, 7, 10, 9, 6], [5, 4, 3, 2, 1, 0, 11, 10, 9, 8, 7, 6], [7, 2, 1, 4, 3, 6, 5, 0, 9, 8, 11, 10], [7, 2, 1, 4, 3, 6, 5, 0, 11, 10, 9, 8], [7, 2, 1, 6, 5, 4, 3, 0, 9, 8, 11, 10], [7, 2, 1, 6, 5, 4, 3, 0, 11, 10, 9, 8], [7, 4, 3, 2, 1, 6, 5, 0, 9, 8, 11, 10], [7, 4, 3, 2, 1, 6, 5, 0, 11, 10, 9, 8], [7, 6, 3, 2, 5, 4, 1, 0, 9, 8, 11, 10], [7, 6, 3, 2, 5, 4, 1, 0, 11, 10, 9, 8], [7, 6, 5, 4, 3, 2, 1, 0, 9, 8, 11, 10], [7, 6, 5, 4, 3, 2, 1, 0, 11, 10, 9, 8], [9, 2, 1, 4, 3, 6, 5, 8, 7, 0, 11, 10], [9, 2, 1, 4, 3, 8, 7, 6, 5, 0, 11, 10], [9, 2, 1, 6, 5, 4, 3, 8, 7, 0, 11, 10], [9, 2, 1, 8, 5, 4, 7, 6, 3, 0, 11, 10], [9, 2, 1, 8, 7, 6, 5, 4, 3, 0, 11, 10], [9, 4, 3, 2, 1, 6, 5, 8, 7, 0, 11, 10], [9, 4, 3, 2, 1, 8, 7, 6, 5, 0, 11, 10], [9, 6, 3, 2, 5, 4, 1, 8, 7, 0, 11, 10], [9, 6, 5, 4, 3, 2, 1, 8, 7, 0, 11, 10], [9, 8, 3, 2, 5, 4, 7, 6, 1, 0, 11, 10], [9, 8, 3, 2, 7, 6, 5, 4, 1, 0, 11, 10], [9, 8, 5, 4, 3, 2, 7, 6, 1, 0, 11, 10], [9, 8, 7, 4, 3, 6, 5, 2, 1, 0, 11, 10], [9, 8, 7, 6, 5, 4, 3, 2, 1, 0, 11, 10], [11, 2, 1, 4, 3, 6, 5, 8, 7, 10, 9, 0], [11, 2, 1, 4, 3, 6, 5, 10, 9, 8, 7, 0], [11, 2, 1, 4, 3, 8, 7, 6, 5, 10, 9, 0], [11, 2, 1, 4, 3, 10, 7, 6, 9, 8, 5, 0], [11, 2, 1, 4, 3, 10, 9, 8, 7, 6, 5, 0], [11, 2, 1, 6, 5, 4, 3, 8, 7, 10, 9, 0], [11, 2, 1, 6, 5, 4, 3, 10, 9, 8, 7, 0], [11, 2, 1, 8, 5, 4, 7, 6, 3, 10, 9, 0], [11, 2, 1, 8, 7, 6, 5, 4, 3, 10, 9, 0], [11, 2, 1, 10, 5, 4, 7, 6, 9, 8, 3, 0], [11, 2, 1, 10, 5, 4, 9, 8, 7, 6, 3, 0], [11, 2, 1, 10, 7, 6, 5, 4, 9, 8, 3, 0], [11, 2, 1, 10, 9, 6, 5, 8, 7, 4, 3, 0], [11, 2, 1, 10, 9, 8, 7, 6, 5, 4, 3, 0], [11, 4, 3, 2, 1, 6, 5, 8, 7, 10, 9, 0], [11, 4, 3, 2, 1, 6, 5, 10, 9, 8, 7, 0], [11, 4, 3, 2, 1, 8, 7, 6, 5, 10, 9, 0], [11, 4, 3, 2, 1, 10, 7, 6, 9, 8, 5, 0], [11, 4, 3, 2, 1, 10, 9, 8, 7, 6, 5, 0], [11, 6, 3, 2, 5, 4, 1, 8, 7, 10, 9, 0], [11, 6, 3, 2, 5, 4, 1, 10, 9, 8, 7, 0], [11, 6, 5, 4, 3, 2, 1, 8, 7, 10, 9, 0], [11, 6, 5, 4, 3, 2, 1, 10, 9, 8, 7, 0], [11, 8, 3, 2, 5, 4, 7, 6, 1, 10, 9, 0], [11, 8, 3, 2, 7, 6, 5, 4, 1, 10, 9, 0], [11, 8, 5, 4, 3, 2, 7, 6, 1, 10, 9, 0], [11, 8, 7, 4, 3, 6, 5, 2, 1, 10, 9, 0], [11, 8, 7, 6, 5, 4, 3, 2, 1, 10, 9, 0], [11, 10, 3, 2, 5, 4, 7, 6, 9, 8, 1, 0], [11, 10, 3, 2, 5, 4, 9, 8, 7, 6, 1, 0], [11, 10, 3, 2, 7, 6, 5, 4, 9, 8, 1, 0], [11, 10, 3, 2, 9, 6, 5, 8, 7, 4, 1, 0], [11, 10, 3, 2, 9, 8, 7, 6, 5, 4, 1, 0], [11, 10, 5, 4, 3, 2, 7, 6, 9, 8, 1, 0], [11, 10, 5, 4, 3, 2, 9, 8, 7, 6, 1, 0], [11, 10, 7, 4, 3, 6, 5, 2, 9, 8, 1, 0], [11, 10, 7, 6, 5, 4, 3, 2, 9, 8, 1, 0], [11, 10, 9, 4, 3, 6, 5, 8, 7, 2, 1, 0], [11, 10, 9, 4, 3, 8, 7, 6, 5, 2, 1, 0], [11, 10, 9, 6, 5, 4, 3, 8, 7, 2, 1, 0], [11, 10, 9, 8, 5, 4, 7, 6, 3, 2, 1, 0], [11, 10, 9, 8, 7, 6, 5, 4, 3, 2, 1, 0]]
def T6 : List (List Int) := [[11, 2, 1, 4, 3, 6, 5, 8, 7, 10, 9, 0], [9, 2, 1, 4, 3, 6, 5, 8, 7, 0, 11, 10], [11, 2, 1, 4, 3, 6, 5, 10, 9, 8, 7, 0], [7, 2, 1, 4, 3, 6, 5, 0, 9, 8, 11, 10], [7, 2, 1, 4, 3, 6, 5, 0, 11, 10, 9, 8], [11, 2, 1, 4, 3, 8, 7, 6, 5, 10, 9, 0], [9, 2, 1, 4, 3, 8, 7, 6, 5, 0, 11, 10], [11, 2, 1, 4, 3, 10, 7, 6, 9, 8, 5, 0], [11, 2, 1, 4, 3, 10, 9, 8, 7, 6, 5, 0], [5, 2, 1, 4, 3, 0, 7, 6, 9, 8, 11, 10], [5, 2, 1, 4, 3, 0, 7, 6, 11, 10, 9, 8], [5, 2, 1, 4, 3, 0, 9, 8, 7, 6, 11, 10], [5, 2, 1, 4, 3, 0, 11, 8, 7, 10, 9, 6], [5, 2, 1, 4, 3, 0, 11, 10, 9, 8, 7, 6], [11, 2, 1, 6, 5, 4, 3, 8, 7, 10, 9, 0], [9, 2, 1, 6, 5, 4, 3, 8, 7, 0, 11, 10], [11, 2, 1, 6, 5, 4, 3, 10, 9, 8, 7, 0], [7, 2, 1, 6, 5, 4, 3, 0, 9, 8, 11, 10], [7, 2, 1, 6, 5, 4, 3, 0, 11, 10, 9, 8], [11, 2, 1, 8, 5, 4, 7, 6, 3, 10, 9, 0], [9, 2, 1, 8, 5, 4, 7, 6, 3, 0, 11, 10], [11, 2, 1, 8, 7, 6, 5, 4, 3, 10, 9, 0], [9, 2, 1, 8, 7, 6, 5, 4, 3, 0, 11, 10], [11, 2, 1, 10, 5, 4, 7, 6, 9, 8, 3, 0], [11, 2, 1, 10, 5, 4, 9, 8, 7, 6, 3, 0], [11, 2, 1, 10, 7, 6, 5, 4, 9, 8, 3, 0], [11, 2, 1, 10, 9, 6, 5, 8, 7, 4, 3, 0], [11, 2, 1, 10, 9, 8, 7, 6, 5, 4, 3, 0], [3, 2, 1, 0, 5, 4, 7, 6, 9, 8, 11, 10], [3, 2, 1, 0, 5, 4, 7, 6, 11, 10, 9, 8], [3, 2, 1, 0, 5, 4, 9, 8, 7, 6, 11, 10], [3, 2, 1, 0, 5, 4, 11, 8, 7, 10, 9, 6], [3, 2, 1, 0, 5, 4, 11, 10, 9, 8, 7, 6], [3, 2, 1, 0, 7, 6, 5, 4, 9, 8, 11, 10], [3, 2, 1, 0, 7, 6, 5, 4, 11, 10, 9, 8], [3, 2, 1, 0, 9, 6, 5, 8, 7, 4, 11, 10], [3, 2, 1, 0, 9, 8, 7, 6, 5, 4, 11, 10], [3, 2, 1, 0, 11, 6, 5, 8, 7, 10, 9, 4], [3, 2, 1, 0, 11, 6, 5, 10, 9, 8, 7, 4], [3, 2, 1, 0, 11, 8, 7, 6, 5, 10, 9, 4], [3, 2, 1, 0, 11, 10, 7, 6, 9, 8, 5, 4], [3, 2, 1, 0, 11, 10, 9, 8, 7, 6, 5, 4], [11, 4, 3, 2, 1, 6, 5, 8, 7, 10, 9, 0], [9, 4, 3, 2, 1, 6, 5, 8, 7, 0, 11, 10], [11, 4, 3, 2, 1, 6, 5, 10, 9, 8, 7, 0], [7, 4, 3, 2, 1, 6, 5, 0, 9, 8, 11, 10], [7, 4, 3, 2, 1, 6, 5, 0, 11, 10, 9, 8], [11, 4, 3, 2, 1, 8, 7, 6, 5, 10, 9, 0], [9, 4, 3, 2, 1, 8, 7, 6, 5, 0, 11, 10], [11, 4, 3, 2, 1, 10, 7, 6, 9, 8, 5, 0], [11, 4, 3, 2, 1, 10, 9, 8, 7, 6, 5, 0], [5, 4, 3, 2, 1, 0, 7, 6, 9, 8, 11, 10], [5, 4, 3, 2, 1, 0, 7, 6, 11, 10, 9, 8], [5, 4, 3, 2, 1, 0, 9, 8, 7, 6, 11, 10], [5, 4, 3, 2, 1, 0, 11, 8, 7, 10, 9, 6], [5, 4, 3, 2, 1, 0, 11, 10, 9, 8, 7, 6], [11, 6, 3, 2, 5, 4, 1, 8, 7, 10, 9, 0], [9, 6, 3, 2, 5, 4, 1, 8, 7, 0, 11, 10], [11, 6, 3, 2, 5, 4, 1, 10, 9, 8, 7, 0], [7, 6, 3, 2, 5, 4, 1, 0, 9, 8, 11, 10], [7, 6, 3, 2, 5, 4, 1, 0, 11, 10, 9, 8], [11, 6, 5, 4, 3, 2, 1, 8, 7, 10, 9, 0], [9, 6, 5, 4, 3, 2, 1, 8, 7, 0, 11, 10], [11, 6, 5, 4, 3, 2, 1, 10, 9, 8, 7, 0], [7, 6, 5, 4, 3, 2, 1, 0, 9, 8, 11, 10], [7, 6, 5, 4, 3, 2, 1, 0, 11, 10, 9, 8], [11, 8, 3, 2, 5, 4, 7, 6, 1, 10, 9, 0], [9, 8, 3, 2, 5, 4, 7, 6, 1, 0, 11, 10], [11, 8, 3, 2, 7, 6, 5, 4, 1, 10, 9, 0], [9, 8, 3, 2, 7, 6, 5, 4, 1, 0, 11, 10], [11, 8, 5, 4, 3, 2, 7, 6, 1, 10, 9, 0], [9, 8, 5, 4, 3, 2, 7, 6, 1, 0, 11, 10], [11, 8, 7, 4, 3, 6, 5, 2, 1, 10, 9, 0], [9, 8, 7, 4, 3, 6, 5, 2, 1, 0, 11, 10], [11, 8, 7, 6, 5, 4, 3, 2, 1, 10, 9, 0], [9, 8, 7, 6, 5, 4, 3, 2, 1, 0, 11, 10], [11, 10, 3, 2, 5, 4, 7, 6, 9, 8, 1, 0], [11, 10, 3, 2, 5, 4, 9, 8, 7, 6, 1, 0], [11, 10, 3, 2, 7, 6, 5, 4, 9, 8, 1, 0], [11, 10, 3, 2, 9, 6, 5, 8, 7, 4, 1, 0], [11, 10, 3, 2, 9, 8, 7, 6, 5, 4, 1, 0], [11, 10, 5, 4, 3, 2, 7, 6, 9, 8, 1, 0], [11, 10, 5, 4, 3, 2, 9, 8, 7, 6, 1, 0], [11, 10, 7, 4, 3, 6, 5, 2, 9, 8, 1, 0], [11, 10, 7, 6, 5, 4, 3, 2, 9, 8, 1, 0], [11, 10, 9, 4, 3, 6, 5, 8, 7, 2, 1, 0], [11, 10, 9, 4, 3, 8, 7, 6, 5, 2, 1, 0], [11, 10, 9, 6, 5, 4, 3, 8, 7, 2, 1, 0], [11, 10, 9, 8, 5, 4, 7, 6, 3, 2, 1, 0], [11, 10, 9, 8, 7, 6, 5, 4, 3, 2, 1, 0], [1, 0, 3, 2, 5, 4, 7, 6, 9, 8, 11, 10], [1, 0, 3, 2, 5, 4, 7, 6, 11, 10, 9, 8], [1, 0, 3, 2, 5, 4, 9, 8, 7, 6, 11, 10], [1, 0, 3, 2, 5, 4, 11, 8, 7, 10, 9, 6], [1, 0, 3, 2, 5, 4, 11, 10, 9, 8, 7, 6], [1, 0, 3, 2, 7, 6, 5, 4, 9, 8, 11, 10], [1, 0, 3, 2, 7, 6, 5, 4, 11, 10, 9, 8], [1, 0, 3, 2, 9, 6, 5, 8, 7, 4, 11, 10], [1, 0, 3, 2, 9, 8, 7, 6, 5, 4, 11, 10], [1, 0, 3, 2, 11, 6, 5, 8, 7, 10, 9, 4], [1, 0, 3, 2, 11, 6, 5, 10, 9, 8, 7, 4], [1, 0, 3, 2, 11, 8, 7, 6, 5, 10, 9, 4], [1, 0, 3, 2, 11, 10, 7, 6, 9, 8, 5, 4], [1, 0, 3, 2, 11, 10, 9, 8, 7, 6, 5, 4], [1, 0, 5, 4, 3, 2, 7, 6, 9, 8, 11, 10], [1, 0, 5, 4, 3, 2, 7, 6, 11, 10, 9, 8], [1, 0, 5, 4, 3, 2, 9, 8, 7, 6, 11, 10], [1, 0, 5, 4, 3, 2, 11, 8, 7, 10, 9, 6], [1, 0, 5, 4, 3, 2, 11, 10, 9, 8, 7, 6], [1, 0, 7, 4, 3, 6, 5, 2, 9, 8, 11, 10], [1, 0, 7, 4, 3, 6, 5, 2, 11, 10, 9, 8], [1, 0, 7, 6, 5, 4, 3, 2, 9, 8, 11, 10], [1, 0, 7, 6, 5, 4, 3, 2, 11, 10, 9, 8], [1, 0, 9, 4, 3, 6, 5, 8, 7, 2, 11, 10], [1, 0, 9, 4, 3, 8, 7, 6, 5, 2, 11, 10], [1, 0, 9, 6, 5, 4, 3, 8, 7, 2, 11, 10], [1, 0, 9, 8, 5, 4, 7, 6, 3, 2, 11, 10], [1, 0, 9, 8, 7, 6, 5, 4, 3, 2, 11, 10], [1, 0, 11, 4, 3, 6, 5, 8, 7, 10, 9, 2], [1, 0, 11, 4, 3, 6, 5, 10, 9, 8, 7, 2], [1, 0, 11, 4, 3, 8, 7, 6, 5, 10, 9, 2], [1, 0, 11, 4, 3, 10, 7, 6, 9, 8, 5, 2], [1, 0, 11, 4, 3, 10, 9, 8, 7, 6, 5, 2], [1, 0, 11, 6, 5, 4, 3, 8, 7, 10, 9, 2], [1, 0, 11, 6, 5, 4, 3, 10, 9, 8, 7, 2], [1, 0, 11, 8, 5, 4, 7, 6, 3, 10, 9, 2], [1, 0, 11, 8, 7, 6, 5, 4, 3, 10, 9, 2], [1, 0, 11, 10, 5, 4, 7, 6, 9, 8, 3, 2], [1, 0, 11, 10, 5, 4, 9, 8, 7, 6, 3, 2], [1, 0, 11, 10, 7, 6, 5, 4, 9, 8, 3, 2], [1, 0, 11, 10, 9, 6, 5, 8, 7, 4, 3, 2], [1, 0, 11, 10, 9, 8, 7, 6, 5, 4, 3, 2]]
def H6 : List (List (List Int)) := [[[1, 0, 3, 2, 5, 4, 7, 6, 9, 8, 11, 10], [11, 2, 1, 4, 3, 6, 5, 8, 7, 10, 9, 0]], [[1, 0, 3, 2, 5, 4, 7, 6, 11, 10, 9, 8], [1, 0, 3, 2, 5, 4, 9, 8, 7, 6, 11, 10], [1, 0, 3, 2, 7, 6, 5, 4, 9, 8, 11, 10], [1, 0, 5, 4, 3, 2, 7, 6, 9, 8, 11, 10], [1, 0, 11, 4, 3, 6, 5, 8, 7, 10, 9, 2], [3, 2, 1, 0, 5, 4, 7, 6, 9, 8, 11, 10], [9, 2, 1, 4, 3, 6, 5, 8, 7, 0, 11, 10], [11, 2, 1, 4, 3, 6, 5, 10, 9, 8, 7, 0], [11, 2, 1, 4, 3, 8, 7, 6, 5, 10, 9, 0], [11, 2, 1, 6, 5, 4, 3, 8, 7, 10, 9, 0], [11, 4, 3, 2, 1, 6, 5, 8, 7, 10, 9, 0], [11, 10, 3, 2, 5, 4, 7, 6, 9, 8, 1, 0]], [[1, 0, 3, 2, 5, 4, 11, 8, 7, 10, 9, 6], [1, 0, 3, 2, 9, 6, 5, 8, 7, 4, 11, 10], [1, 0, 3, 2, 11, 6, 5, 8, 7, 10, 9, 4], [1, 0, 7, 4, 3, 6, 5, 2, 9, 8, 11, 10], [1, 0, 9, 4, 3, 6, 5, 8, 7, 2, 11, 10], [5, 2, 1, 4, 3, 0, 7, 6, 9, 8, 11, 10], [7, 2, 1, 4, 3, 6, 5, 0, 9, 8, 11, 10], [11, 2, 1, 4, 3, 10, 7, 6, 9, 8, 5, 0], [11, 2, 1, 8, 5, 4, 7, 6, 3, 10, 9, 0], [11, 2, 1, 10, 5, 4, 7, 6, 9, 8, 3, 0], [11, 6, 3, 2, 5, 4, 1, 8, 7, 10, 9, 0], [11, 8, 3, 2, 5, 4, 7, 6, 1, 10, 9, 0]], [[1, 0, 3, 2, 5, 4, 11, 10, 9, 8, 7, 6], [1, 0, 3, 2, 9, 8, 7, 6, 5, 4, 11, 10], [1, 0, 7, 6, 5, 4, 3, 2, 9, 8, 11, 10], [1, 0, 11, 10, 5, 4, 7, 6, 9, 8, 3, 2], [3, 2, 1, 0, 11, 6, 5, 8, 7, 10, 9, 4], [5, 4, 3, 2, 1, 0, 7, 6, 9, 8, 11, 10], [7, 2, 1, 4, 3, 6, 5, 0, 11, 10, 9, 8], [9, 8, 3, 2, 5, 4, 7, 6, 1, 0, 11, 10], [11, 2, 1, 4, 3, 10, 9, 8, 7, 6, 5, 0], [11, 2, 1, 8, 7, 6, 5, 4, 3, 10, 9, 0], [11, 6, 5, 4, 3, 2, 1, 8, 7, 10, 9, 0], [11, 10, 9, 4, 3, 6, 5, 8, 7, 2, 1, 0]], [[1, 0, 3, 2, 7, 6, 5, 4, 11, 10, 9, 8], [1, 0, 5, 4, 3, 2, 9, 8, 7, 6, 11, 10], [1, 0, 11, 4, 3, 6, 5, 10, 9, 8, 7, 2], [1, 0, 11, 6, 5, 4, 3, 8, 7, 10, 9, 2], [3, 2, 1, 0, 5, 4, 7, 6, 11, 10, 9, 8], [3, 2, 1, 0, 7, 6, 5, 4, 9, 8, 11, 10], [9, 2, 1, 4, 3, 8, 7, 6, 5, 0, 11, 10], [9, 4, 3, 2, 1, 6, 5, 8, 7, 0, 11, 10], [11, 2, 1, 6, 5, 4, 3, 10, 9, 8, 7, 0], [11, 4, 3, 2, 1, 8, 7, 6, 5, 10, 9, 0], [11, 10, 3, 2, 5, 4, 9, 8, 7, 6, 1, 0], [11, 10, 5, 4, 3, 2, 7, 6, 9, 8, 1, 0]], [[1, 0, 3, 2, 11, 6, 5, 10, 9, 8, 7, 4], [1, 0, 5, 4, 3, 2, 11, 8, 7, 10, 9, 6], [1, 0, 9, 4, 3, 8, 7, 6, 5, 2, 11, 10], [1, 0, 11, 8, 5, 4, 7, 6, 3, 10, 9, 2], [3, 2, 1, 0, 9, 6, 5, 8, 7, 4, 11, 10], [5, 2, 1, 4, 3, 0, 7, 6, 11, 10, 9, 8], [7, 2, 1, 6, 5, 4, 3, 0, 9, 8, 11, 10], [9, 6, 3, 2, 5, 4, 1, 8, 7, 0, 11, 10], [11, 2, 1, 10, 5, 4, 9, 8, 7, 6, 3, 0], [11, 4, 3, 2, 1, 10, 7, 6, 9, 8, 5, 0], [11, 8, 3, 2, 7, 6, 5, 4, 1, 10, 9, 0], [11, 10, 7, 4, 3, 6, 5, 2, 9, 8, 1, 0]], [[1, 0, 3, 2, 11, 8, 7, 6, 5, 10, 9, 4], [1, 0, 7, 4, 3, 6, 5, 2, 11, 10, 9, 8], [1, 0, 9, 6, 5, 4, 3, 8, 7, 2, 11, 10], [1, 0, 11, 4, 3, 10, 7, 6, 9, 8, 5, 2], [3, 2, 1, 0, 5, 4, 11, 8, 7, 10, 9, 6], [5, 2, 1, 4, 3, 0, 9, 8, 7, 6, 11, 10], [7, 4, 3, 2, 1, 6, 5, 0, 9, 8, 11, 10], [9, 2, 1, 8, 5, 4, 7, 6, 3, 0, 11, 10], [11, 2, 1, 10, 7, 6, 5, 4, 9, 8, 3, 0], [11, 6, 3, 2, 5, 4, 1, 10, 9, 8, 7, 0], [11, 8, 5, 4, 3, 2, 7, 6, 1, 10, 9, 0], [11, 10, 3, 2, 9, 6, 5, 8, 7, 4, 1, 0]], [[1, 0, 3, 2, 11, 10, 7, 6, 9, 8, 5, 4], [1, 0, 9, 8, 5, 4, 7, 6, 3, 2, 11, 10], [5, 2, 1, 4, 3, 0, 11, 8, 7, 10, 9, 6], [7, 6, 3, 2, 5, 4, 1, 0, 9, 8, 11, 10], [11, 2, 1, 10, 9, 6, 5, 8, 7, 4, 3, 0], [11, 8, 7, 4, 3, 6, 5, 2, 1, 10, 9, 0]], [[1, 0, 3, 2, 11, 10, 9, 8, 7, 6, 5, 4], [1, 0, 9, 8, 7, 6, 5, 4, 3, 2, 11, 10], [1, 0, 11, 10, 9, 6, 5, 8, 7, 4, 3, 2], [3, 2, 1, 0, 11, 10, 7, 6, 9, 8, 5, 4], [5, 2, 1, 4, 3, 0, 11, 10, 9, 8, 7, 6], [5, 4, 3, 2, 1, 0, 11, 8, 7, 10, 9, 6], [7, 6, 3, 2, 5, 4, 1, 0, 11, 10, 9, 8], [7, 6, 5, 4, 3, 2, 1, 0, 9, 8, 11, 10], [9, 8, 7, 4, 3, 6, 5, 2, 1, 0, 11, 10], [11, 2, 1, 10, 9, 8, 7, 6, 5, 4, 3, 0], [11, 8, 7, 6, 5, 4, 3, 2, 1, 10, 9, 0], [11, 10, 9, 8, 5, 4, 7, 6, 3, 2, 1, 0]], [[1, 0, 5, 4, 3, 2, 7, 6, 11, 10, 9, 8], [1, 0, 11, 4, 3, 8, 7, 6, 5, 10, 9, 2], [3, 2, 1, 0, 5, 4, 9, 8, 7, 6, 11, 10], [9, 2, 1, 6, 5, 4, 3, 8, 7, 0, 11, 10], [11, 4, 3, 2, 1, 6, 5, 10, 9, 8, 7, 0], [11, 10, 3, 2, 7, 6, 5, 4, 9, 8, 1, 0]], [[1, 0, 5, 4, 3, 2, 11, 10, 9, 8, 7, 6], [1, 0, 11, 8, 7, 6, 5, 4, 3, 10, 9, 2], [1, 0, 11, 10, 5, 4, 9, 8, 7, 6, 3, 2], [3, 2, 1, 0, 9, 8, 7, 6, 5, 4, 11, 10], [3, 2, 1, 0, 11, 6, 5, 10, 9, 8, 7, 4], [5, 4, 3, 2, 1, 0, 7, 6, 11, 10, 9, 8], [7, 2, 1, 6, 5, 4, 3, 0, 11, 10, 9, 8], [9, 6, 5, 4, 3, 2, 1, 8, 7, 0, 11, 10], [9, 8, 3, 2, 7, 6, 5, 4, 1, 0, 11, 10], [11, 4, 3, 2, 1, 10, 9, 8, 7, 6, 5, 0], [11, 10, 7, 6, 5, 4, 3, 2, 9, 8, 1, 0], [11, 10, 9, 4, 3, 8, 7, 6, 5, 2, 1, 0]], [[1, 0, 7, 6, 5, 4, 3, 2, 11, 10, 9, 8], [1, 0, 11, 4, 3, 10, 9, 8, 7, 6, 5, 2], [1, 0, 11, 10, 7, 6, 5, 4, 9, 8, 3, 2], [3, 2, 1, 0, 5, 4, 11, 10, 9, 8, 7, 6], [3, 2, 1, 0, 11, 8, 7, 6, 5, 10, 9, 4], [5, 4, 3, 2, 1, 0, 9, 8, 7, 6, 11, 10], [7, 4, 3, 2, 1, 6, 5, 0, 11, 10, 9, 8], [9, 2, 1, 8, 7, 6, 5, 4, 3, 0, 11, 10], [9, 8, 5, 4, 3, 2, 7, 6, 1, 0, 11, 10], [11, 6, 5, 4, 3, 2, 1, 10, 9, 8, 7, 0], [11, 10, 3, 2, 9, 8, 7, 6, 5, 4, 1, 0], [11, 10, 9, 6, 5, 4, 3, 8, 7, 2, 1, 0]], [[1, 0, 11, 6, 5, 4, 3, 10, 9, 8, 7, 2], [3, 2, 1, 0, 7, 6, 5, 4, 11, 10, 9, 8], [9, 4, 3, 2, 1, 8, 7, 6, 5, 0, 11, 10], [11, 10, 5, 4, 3, 2, 9, 8, 7, 6, 1, 0]], [[1, 0, 11, 10, 9, 8, 7, 6, 5, 4, 3, 2], [3, 2, 1, 0, 11, 10, 9, 8, 7, 6, 5, 4], [5, 4, 3, 2, 1, 0, 11, 10, 9, 8, 7, 6], [7, 6, 5, 4, 3, 2, 1, 0, 11, 10, 9, 8], [9, 8, 7, 6, 5, 4, 3, 2, 1, 0, 11, 10], [11, 10, 9, 8, 7, 6, 5, 4, 3, 2, 1, 0]]]
def L6 : List (List (List Int)) := [[[1, 0, 3, 2, 5, 4, 7, 6, 9, 8, 11, 10], [11, 2, 1, 4, 3, 6, 5, 8, 7, 10, 9, 0]], [[1, 0, 3, 2, 5, 4, 7, 6, 11, 10, 9, 8], [1, 0, 3, 2, 5, 4, 9, 8, 7, 6, 11, 10], [1, 0, 3, 2, 7, 6, 5, 4, 9, 8, 11, 10], [1, 0, 5, 4, 3, 2, 7, 6, 9, 8, 11, 10], [1, 0, 11, 4, 3, 6, 5, 8, 7, 10, 9, 2], [3, 2, 1, 0, 5, 4, 7, 6, 9, 8, 11, 10], [9, 2, 1, 4, 3, 6, 5, 8, 7, 0, 11, 10], [11, 2, 1, 4, 3, 6, 5, 10, 9, 8, 7, 0], [11, 2, 1, 4, 3, 8, 7, 6, 5, 10, 9, 0], [11, 2, 1, 6, 5, 4, 3, 8, 7, 10, 9, 0], [11, 4, 3, 2, 1, 6, 5, 8, 7, 10, 9, 0], [11, 10, 3, 2, 5, 4, 7, 6, 9, 8, 1, 0]], [[1, 0, 3, 2, 5, 4, 11, 8, 7, 10, 9, 6], [1, 0, 3, 2, 9, 6, 5, 8, 7, 4, 11, 10], [1, 0, 3, 2, 11, 6, 5, 8, 7, 10, 9, 4], [1, 0, 7, 4, 3, 6, 5, 2, 9, 8, 11, 10], [1, 0, 9, 4, 3, 6, 5, 8, 7, 2, 11, 10], [5, 2, 1, 4, 3, 0, 7, 6, 9, 8, 11, 10], [7, 2, 1, 4, 3, 6, 5, 0, 9, 8, 11, 10], [11, 2, 1, 4, 3, 10, 7, 6, 9, 8, 5, 0], [11, 2, 1, 8, 5, 4, 7, 6, 3, 10, 9, 0], [11, 2, 1, 10, 5, 4, 7, 6, 9, 8, 3, 0], [11, 6, 3, 2, 5, 4, 1, 8, 7, 10, 9, 0], [11, 8, 3, 2, 5, 4, 7, 6, 1, 10, 9, 0]], [[1, 0, 3, 2, 5, 4, 11, 10, 9, 8, 7, 6], [1, 0, 3, 2, 9, 8, 7, 6, 5, 4, 11, 10], [1, 0, 7, 6, 5, 4, 3, 2, 9, 8, 11, 10], [1, 0, 11, 10, 5, 4, 7, 6, 9, 8, 3, 2], [3, 2, 1, 0, 11, 6, 5, 8, 7, 10, 9, 4], [5, 4, 3, 2, 1, 0, 7, 6, 9, 8, 11, 10], [7, 2, 1, 4, 3, 6, 5, 0, 11, 10, 9, 8], [9, 8, 3, 2, 5, 4, 7, 6, 1, 0, 11, 10], [11, 2, 1, 4, 3, 10, 9, 8, 7, 6, 5, 0], [11, 2, 1, 8, 7, 6, 5, 4, 3, 10, 9, 0], [11, 6, 5, 4, 3, 2, 1, 8, 7, 10, 9, 0], [11, 10, 9, 4, 3, 6, 5, 8, 7, 2, 1, 0]], [[1, 0, 3, 2, 7, 6, 5, 4, 11, 10, 9, 8], [1, 0, 5, 4, 3, 2, 9, 8, 7, 6, 11, 10], [1, 0, 11, 4, 3, 6, 5, 10, 9, 8, 7, 2], [1, 0, 11, 6, 5, 4, 3, 8, 7, 10, 9, 2], [3, 2, 1, 0, 5, 4, 7, 6, 11, 10, 9, 8], [3, 2, 1, 0, 7, 6, 5, 4, 9, 8, 11, 10], [9, 2, 1, 4, 3, 8, 7, 6, 5, 0, 11, 10], [9, 4, 3, 2, 1, 6, 5, 8, 7, 0, 11, 10], [11, 2, 1, 6, 5, 4, 3, 10, 9, 8, 7, 0], [11, 4, 3, 2, 1, 8, 7, 6, 5, 10, 9, 0], [11, 10, 3, 2, 5, 4, 9, 8, 7, 6, 1, 0], [11, 10, 5, 4, 3, 2, 7, 6, 9, 8, 1, 0]], [[1, 0, 3, 2, 11, 6, 5, 10, 9, 8, 7, 4], [1, 0, 3, 2, 11, 8, 7, 6, 5, 10, 9, 4], [1, 0, 5, 4, 3, 2, 11, 8, 7, 10, 9, 6], [1, 0, 7, 4, 3, 6, 5, 2, 11, 10, 9, 8], [1, 0, 9, 4, 3, 8, 7, 6, 5, 2, 11, 10], [1, 0, 9, 6, 5, 4, 3, 8, 7, 2, 11, 10], [1, 0, 11, 4, 3, 10, 7, 6, 9, 8, 5, 2], [1, 0, 11, 8, 5, 4, 7, 6, 3, 10, 9, 2], [3, 2, 1, 0, 5, 4, 11, 8, 7, 10, 9, 6], [3, 2, 1, 0, 9, 6, 5, 8, 7, 4, 11, 10], [5, 2, 1, 4, 3, 0, 7, 6, 11, 10, 9, 8], [5, 2, 1, 4, 3, 0, 9, 8, 7, 6, 11, 10], [7, 2, 1, 6, 5, 4, 3, 0, 9, 8, 11, 10], [7, 4, 3, 2, 1, 6, 5, 0, 9, 8, 11, 10], [9, 2, 1, 8, 5, 4, 7, 6, 3, 0, 11, 10], [9, 6, 3, 2, 5, 4, 1, 8, 7, 0, 11, 10], [11, 2, 1, 10, 5, 4, 9, 8, 7, 6, 3, 0], [11, 2, 1, 10, 7, 6, 5, 4, 9, 8, 3, 0], [11, 4, 3, 2, 1, 10, 7, 6, 9, 8, 5, 0], [11, 6, 3, 2, 5, 4, 1, 10, 9, 8, 7, 0], [11, 8, 3, 2, 7, 6, 5, 4, 1, 10, 9, 0], [11, 8, 5, 4, 3, 2, 7, 6, 1, 10, 9, 0], [11, 10, 3, 2, 9, 6, 5, 8, 7, 4, 1, 0], [11, 10, 7, 4, 3, 6, 5, 2, 9, 8, 1, 0]], [[1, 0, 3, 2, 11, 10, 7, 6, 9, 8, 5, 4], [1, 0, 9, 8, 5, 4, 7, 6, 3, 2, 11, 10], [5, 2, 1, 4, 3, 0, 11, 8, 7, 10, 9, 6], [7, 6, 3, 2, 5, 4, 1, 0, 9, 8, 11, 10], [11, 2, 1, 10, 9, 6, 5, 8, 7, 4, 3, 0], [11, 8, 7, 4, 3, 6, 5, 2, 1, 10, 9, 0]], [[1, 0, 3, 2, 11, 10, 9, 8, 7, 6, 5, 4], [1, 0, 9, 8, 7, 6, 5, 4, 3, 2, 11, 10], [1, 0, 11, 10, 9, 6, 5, 8, 7, 4, 3, 2], [3, 2, 1, 0, 11, 10, 7, 6, 9, 8, 5, 4], [5, 2, 1, 4, 3, 0, 11, 10, 9, 8, 7, 6], [5, 4, 3, 2, 1, 0, 11, 8, 7, 10, 9, 6], [7, 6, 3, 2, 5, 4, 1, 0, 11, 10, 9, 8], [7, 6, 5, 4, 3, 2, 1, 0, 9, 8, 11, 10], [9, 8, 7, 4, 3, 6, 5, 2, 1, 0, 11, 10], [11, 2, 1, 10, 9, 8, 7, 6, 5, 4, 3, 0], [11, 8, 7, 6, 5, 4, 3, 2, 1, 10, 9, 0], [11, 10, 9, 8, 5, 4, 7, 6, 3, 2, 1, 0]], [[1, 0, 5, 4, 3, 2, 7, 6, 11, 10, 9, 8], [1, 0, 11, 4, 3, 8, 7, 6, 5, 10, 9, 2], [3, 2, 1, 0, 5, 4, 9, 8, 7, 6, 11, 10], [9, 2, 1, 6, 5, 4, 3, 8, 7, 0, 11, 10], [11, 4, 3, 2, 1, 6, 5, 10, 9, 8, 7, 0], [11, 10, 3, 2, 7, 6, 5, 4, 9, 8, 1, 0]], [[1, 0, 5, 4, 3, 2, 11, 10, 9, 8, 7, 6], [1, 0, 7, 6, 5, 4, 3, 2, 11, 10, 9, 8], [1, 0, 11, 4, 3, 10, 9, 8, 7, 6, 5, 2], [1, 0, 11, 8, 7, 6, 5, 4, 3, 10, 9, 2], [1, 0, 11, 10, 5, 4, 9, 8, 7, 6, 3, 2], [1, 0, 11, 10, 7, 6, 5, 4, 9, 8, 3, 2], [3, 2, 1, 0, 5, 4, 11, 10, 9, 8, 7, 6], [3, 2, 1, 0, 9, 8, 7, 6, 5, 4, 11, 10], [3, 2, 1, 0, 11, 6, 5, 10, 9, 8, 7, 4], [3, 2, 1, 0, 11, 8, 7, 6, 5, 10, 9, 4], [5, 4, 3, 2, 1, 0, 7, 6, 11, 10, 9, 8], [5, 4, 3, 2, 1, 0, 9, 8, 7, 6, 11, 10], [7, 2, 1, 6, 5, 4, 3, 0, 11, 10, 9, 8], [7, 4, 3, 2, 1, 6, 5, 0, 11, 10, 9, 8], [9, 2, 1, 8, 7, 6, 5, 4, 3, 0, 11, 10], [9, 6, 5, 4, 3, 2, 1, 8, 7, 0, 11, 10], [9, 8, 3, 2, 7, 6, 5, 4, 1, 0, 11, 10], [9, 8, 5, 4, 3, 2, 7, 6, 1, 0, 11, 10], [11, 4, 3, 2, 1, 10, 9, 8, 7, 6, 5, 0], [11, 6, 5, 4, 3, 2, 1, 10, 9, 8, 7, 0], [11, 10, 3, 2, 9, 8, 7, 6, 5, 4, 1, 0], [11, 10, 7, 6, 5, 4, 3, 2, 9, 8, 1, 0], [11, 10, 9, 4, 3, 8, 7, 6, 5, 2, 1, 0], [11, 10, 9, 6, 5, 4, 3, 8, 7, 2, 1, 0]], [[1, 0, 11, 6, 5, 4, 3, 10, 9, 8, 7, 2], [3, 2, 1, 0, 7, 6, 5, 4, 11, 10, 9, 8], [9, 4, 3, 2, 1, 8, 7, 6, 5, 0, 11, 10], [11, 10, 5, 4, 3, 2, 9, 8, 7, 6, 1, 0]], [[1, 0, 11, 10, 9, 8, 7, 6, 5, 4, 3, 2], [3, 2, 1, 0, 11, 10, 9, 8, 7, 6, 5, 4], [5, 4, 3, 2, 1, 0, 11, 10, 9, 8, 7, 6], [7, 6, 5, 4, 3, 2, 1, 0, 11, 10, 9, 8], [9, 8, 7, 6, 5, 4, 3, 2, 1, 0, 11, 10], [11, 10, 9, 8, 7, 6, 5, 4, 3, 2, 1, 0]]]
abbrev sx6_4 : Sl := .va (.list [.int 132, .int 0, .int 2, .int 0, .int 6, .int 0, .int 20, .int 0, .int 6, .int 0, .int 2, .int 0])
abbrev sx6_5 : Sl := .va (tD [[1, 0, 11, 10, 9, 8, 7, 6, 5, 4, 3, 2], [3, 2, 1, 0, 11, 10, 9, 8, 7, 6, 5, 4], [5, 4, 3, 2, 1, 0, 11, 10, 9, 8, 7, 6], [7, 6, 5, 4, 3, 2, 1, 0, 11, 10, 9, 8], [9, 8, 7, 6, 5, 4, 3, 2, 1, 0, 11, 10], [11, 10, 9, 8, 7, 6, 5, 4, 3, 2, 1, 0]])
abbrev sx6_6 : Sl := .va (tupI [5, 4, 3, 2, 1, 0, 11, 10, 9, 8, 7, 6])
abbrev sx6_7 : Sl := .va (tD [[1, 0, 3, 2, 5, 4, 7, 6, 9, 8, 11, 10], [1, 0, 3, 2, 7, 6, 5, 4, 9, 8, 11, 10], [1, 0, 5, 4, 3, 2, 9, 8, 7, 6, 11, 10], [1, 0, 9, 4, 3, 6, 5, 8, 7, 2, 11, 10], [1, 0, 9, 8, 5, 4, 7, 6, 3, 2, 11, 10], [1, 0, 9, 8, 7, 6, 5, 4, 3, 2, 11, 10], [3, 2, 1, 0, 5, 4, 7, 6, 11, 10, 9, 8], [3, 2, 1, 0, 7, 6, 5, 4, 11, 10, 9, 8], [5, 2, 1, 4, 3, 0, 11, 8, 7, 10, 9, 6], [5, 4, 3, 2, 1, 0, 11, 10, 9, 8, 7, 6], [11, 2, 1, 4, 3, 6, 5, 8, 7, 10, 9, 0], [11, 2, 1, 8, 5, 4, 7, 6, 3, 10, 9, 0], [11, 2, 1, 8, 7, 6, 5, 4, 3, 10, 9, 0], [11, 4, 3, 2, 1, 6, 5, 10, 9, 8, 7, 0], [11, 10, 3, 2, 5, 4, 7, 6, 9, 8, 1, 0], [11, 10, 3, 2, 7, 6, 5, 4, 9, 8, 1, 0], [11, 10, 5, 4, 3, 2, 9, 8, 7, 6, 1, 0], [11, 10, 9, 4, 3, 6, 5, 8, 7, 2, 1, 0], [11, 10, 9, 8, 5, 4, 7, 6, 3, 2, 1, 0], [11, 10, 9, 8, 7, 6, 5, 4, 3, 2, 1, 0]])
abbrev sx6_8 : Sl := .va (.int 120)
abbrev sx6_9 : Sl := .ol (L6.map tD)
abbrev sx6_10 : Sl := .va (tD [[1, 0, 11, 10, 9, 8, 7, 6, 5, 4, 3, 2], [3, 2, 1, 0, 11, 10, 9, 8, 7, 6, 5, 4], [5, 4, 3, 2, 1, 0, 11, 10, 9, 8, 7, 6], [7, 6, 5, 4, 3, 2, 1, 0, 11, 10, 9, 8], [9, 8, 7, 6, 5, 4, 3, 2, 1, 0, 11, 10], [11, 10, 9, 8, 7, 6, 5, 4, 3, 2, 1, 0]])
abbrev sx6_11 : Sl := .va (.int 12)
theorem all_from {α : Type} {f : α → Bool} {l : List α} {i k j : Nat} (h1 : ((l.drop i).take k).all f = true) (h2 : (l.drop j).all f = true) (e : j = i + k) : (l.drop i).all f = true := by
  subst e
  rw [← List.take_append_drop k (l.drop i), List.all_append, h1, List.drop_drop, h2]
  rfl
abbrev Z6 : List (List Int × List Int) := zipA A6 T6
abbrev fz6 : List Int × List Int → Bool := fun x => Z6.all fun y => eqO (cntP x.1 y.1) (cntP x.2 y.2)
theorem iz6_0 : ((Z6.drop 0).take 11).all fz6 = true := by kernel_rfl
theorem iz6_11 : ((Z6.drop 11).take 11).all fz6 = true := by kernel_rfl
theorem iz6_22 : ((Z6.drop 22).take 11).all fz6 = true := by kernel_rfl
theorem iz6_33 : ((Z6.drop 33).take 11).all fz6 = true := by kernel_rfl
theorem iz6_44 : ((Z6.drop 44).take 11).all fz6 = true := by kernel_rfl
theorem iz6_55 : ((Z6.drop 55).take 11).all fz6 = true := by kernel_rfl
theorem iz6_66 : ((Z6.drop 66).take 11).all fz6 = true := by kernel_rfl
theorem iz6_77 : ((Z6.drop 77).take 11).all fz6 = true := by kernel_rfl
theorem iz6_88 : ((Z6.drop 88).take 11).all fz6 = true := by kernel_rfl
theorem iz6_99 : ((Z6.drop 99).take 11).all fz6 = true := by kernel_rfl
theorem iz6_110 : ((Z6.drop 110).take 11).all fz6 = true := by kernel_rfl
theorem iz6_121 : ((Z6.drop 121).take 11).all fz6 = true := by kernel_rfl
theorem izz_6 : (Z6.drop 0).all fz6 = true := (all_from (j := 11) iz6_0 (all_from (j := 22) iz6_11 (all_from (j := 33) iz6_22 (all_from (j := 44) iz6_33 (all_from (j := 55) iz6_44 (all_from (j := 66) iz6_55 (all_from (j := 77) iz6_66 (all_from (j := 88) iz6_77 (all_from (j := 99) iz6_88 (all_from (j := 110) iz6_99 (all_from (j := 121) iz6_110 (all_from (j := 132) iz6_121 (by kernel_rfl : (Z6.drop 132).all fz6 = true) rfl) rfl) rfl) rfl) rfl) rfl) rfl) rfl) rfl) rfl) rfl) rfl)
theorem izc_6 : chkInv (zipA A6 T6) = true := izz_6
theorem inv_6 : Inv1 12 A6 := Inv1.of (A' := T6) (by kernel_rfl) (by kernel_rfl) (by kernel_rfl) izc_6
theorem w1_6 : Fw1 (gE 6 .un .un .un .un .un .un .un .un .un .un .un .un .un .un .un) = .ok (.nx (gE 6 (.va (tD A6)) .un .un .un .un .un .un .un .un .un .un .un .un .un .un)) := by kernel_rfl
theorem w2_6 : Fw2 (gE 6 (.va (tD A6)) .un .un .un .un .un .un .un .un .un .un .un .un .un .un) = .ok (.nx (gE 6 (.va (tD A6)) (.va (hD H6)) .un .un .un .un .un .un .un .un .un .un .un .un .un)) := by kernel_rfl
theorem w3_6 : Fw3 (gE 6 (.va (tD A6)) (.va (hD H6)) .un .un .un .un .un .un .un .un .un .un .un .un .un) = .ok (.nx (gE 6 (.va (tD A6)) (.va (hD H6)) sx6_4 .un .un .un .un .un .un .un .un .un .un .un .un)) := by kernel_rfl
theorem w4_6 : Fq4 (gE 6 (.va (tD A6)) (.va (hD H6)) sx6_4 .un .un .un .un .un .un .un .un .un .un .un .un) = .ok (.nx (gE 6 (.va (tD A6)) (.va (hD H6)) sx6_4 .un .un .un .un .un .un .un .un .un .un .un .un)) := by kernel_rfl
theorem w5_6 : Fq5 (gE 6 (.va (tD A6)) (.va (hD H6)) sx6_4 .un .un .un .un .un .un .un .un .un .un .un .un) = .ok (.nx (gE 6 (.va (tD A6)) (.va (hD H6)) sx6_4 sx6_5 sx6_6 .un .un .un .un .un .un .un .un .un .un)) := by kernel_rfl
theorem w6_6 : Fw6 (gE 6 (.va (tD A6)) (.va (hD H6)) sx6_4 sx6_5 sx6_6 .un .un .un .un .un .un .un .un .un .un) = .ok (.nx (gE 6 (.va (tD A6)) (.va (hD H6)) sx6_4 sx6_5 sx6_6 sx6_7 .un .un .un .un .un .un .un .un .un)) := by kernel_rfl
theorem w7_6 : Fw7 (gE 6 (.va (tD A6)) (.va (hD H6)) sx6_4 sx6_5 sx6_6 sx6_7 .un .un .un .un .un .un .un .un .un) = .ok (.nx (gE 6 (.va (tD A6)) (.va (hD H6)) sx6_4 sx6_5 sx6_6 sx6_7 .un .un .un .un .un .un .un .un .un)) := by kernel_rfl
theorem w8_6 : Fq8 (gE 6 (.va (tD A6)) (.va (hD H6)) sx6_4 sx6_5 sx6_6 sx6_7 .un .un .un .un .un .un .un .un .un) = .ok (.nx (gE 6 (.va (tD A6)) (.va (hD H6)) sx6_4 sx6_5 sx6_6 sx6_7 sx6_8 .un .un .un .un .un .un .un .un)) := by kernel_rfl
theorem w9_6 : Fw9 (gE 6 (.va (tD A6)) (.va (hD H6)) sx6_4 sx6_5 sx6_6 sx6_7 sx6_8 .un .un .un .un .un .un .un .un) = .ok (.nx (gE 6 (.va (tD A6)) (.va (hD H6)) sx6_4 sx6_5 sx6_6 sx6_7 sx6_8 (.ol []) .un .un .un .un .un .un .un)) := by kernel_rfl
theorem w10_6 : Fw10 (gE 6 (.va (tD A6)) (.va (hD H6)) sx6_4 sx6_5 sx6_6 sx6_7 sx6_8 (.ol []) .un .un .un .un .un .un .un) = .ok (.nx (gE 6 (.va (tD A6)) (.va (hD H6)) sx6_4 sx6_5 sx6_6 sx6_7 sx6_8 sx6_9 sx6_10 .un .un .un .un .un .un)) := by kernel_rfl
theorem w11_6 : Fw11 (gE 6 (.va (tD A6)) (.va (hD H6)) sx6_4 sx6_5 sx6_6 sx6_7 sx6_8 sx6_9 sx6_10 .un .un .un .un .un .un) = .ok (.nx (gE 6 (.va (tD A6)) (.va (hD H6)) sx6_4 sx6_5 sx6_6 sx6_7 sx6_8 sx6_9 sx6_10 .un .un .un .un .un .un)) := by kernel_rfl
theorem w12_6 : Fw12 (gE 6 (.va (tD A6)) (.va (hD H6)) sx6_4 sx6_5 sx6_6 sx6_7 sx6_8 sx6_9 sx6_10 .un .un .un .un .un .un) = .ok (.nx (gE 6 (.va (tD A6)) (.va (hD H6)) sx6_4 sx6_5 sx6_6 sx6_7 sx6_8 sx6_9 sx6_10 sx6_11 .un .un .un .un .un)) := by kernel_rfl
theorem hp_6 : H6.all (fun h => memA (headL h) A6 && (memA (lastL h) A6 && Nat.blt 0 h.length)) = true := by kernel_rfl
abbrev fh6 : List (List Int) → Bool := (fun h => okF (t15 (gE 6 (.va (tD A6)) (.va (hD H6)) sx6_4 (.va (tD h)) sx6_6 sx6_7 sx6_8 sx6_9 sx6_10 sx6_11 (.va (tupI (headL h))) (.va (tupI (lastL h))) .un .un .un)))
theorem ih6_0 : ((H6.drop 0).take 2).all fh6 = true := by kernel_rfl
theorem ih6_2 : ((H6.drop 2).take 2).all fh6 = true := by kernel_rfl
theorem ih6_4 : ((H6.drop 4).take 2).all fh6 = true := by kernel_rfl
theorem ih6_6 : ((H6.drop 6).take 2).all fh6 = true := by kernel_rfl
theorem ih6_8 : ((H6.drop 8).take 2).all fh6 = true := by kernel_rfl
theorem ih6_10 : ((H6.drop 10).take 2).all fh6 = true := by kernel_rfl
theorem ih6_12 : ((H6.drop 12).take 2).all fh6 = true := by kernel_rfl
theorem ihz_6 : (H6.drop 0).all fh6 = true := (all_from (j := 2) ih6_0 (all_from (j := 4) ih6_2 (all_from (j := 6) ih6_4 (all_from (j := 8) ih6_6 (all_from (j := 10) ih6_8 (all_from (j := 12) ih6_10 (all_from (j := 14) ih6_12 (by kernel_rfl : (H6.drop 14).all fh6 = true) rfl) rfl) rfl) rfl) rfl) rfl) rfl)
theorem f15_6 : H6.all fh6 = true := ihz_6
theorem mir_6 : H6.all (fun h => A6.all fun o => eqO (cntP (mirP (lastL h)) (mirP o)) (cntP (lastL h) o)) = true := by kernel_rfl
theorem gf_6 : GF 6 12 A6 H6 sx6_4 sx6_5 sx6_6 sx6_7 sx6_8 sx6_9 sx6_10 sx6_11 where
  hm := by decide
  hA := by decide
  hH := by decide
  inv := inv_6
  w1 := w1_6
  w2 := w2_6
  w3 := w3_6
  w4 := w4_6
  w5 := w5_6
  w6 := w6_6
  w7 := w7_6
  w8 := w8_6
  w9 := w9_6
  w10 := w10_6
  w11 := w11_6
  w12 := w12_6
  hp := hp_6
  f15 := f15_6
  f17 := fun _ _ _ _ _ _ _ _ _ _ _ _ _ _ _ => by kernel_rfl
  mir := mir_6
end Wk
set_option Elab.async false
set_option linter.all false
set_option maxRecDepth 100000
set_option maxHeartbeats 4000000
/-! P96k: the plain law of k96. -/
namespace Wk
open PySem PySem.Spec PyProof.Rows L2 Ev
/-- it ends in True, by so many draws -/
structure PT (d : List D → R D) (n b c : Nat) : Prop where
  ok : ∀ W : Nat → Exn → Prop, (d [urnD, .int (.ofNat n)]).post b (fun b' x => b' = c ∧ x = .bool true) W
theorem few_pt {n m : Nat} {A : List (List Int)} {H : List (List (List Int))} {x4 x5 x6 x7 x8 x9 x10 x11 : Sl} (F : GF n m A H x4 x5 x6 x7 x8 x9 x10 x11) {b : Nat} (hb : 3 ≤ b) : PT D_l_law_few_right n b (b - 3) := ⟨fun W => few_n F hb⟩
theorem far_pt {s : Nat} (h : 1 ≤ s ∧ s ≤ 12) {b : Nat} (hb : 2 ≤ b) : PT D_l_law_far_right s b (b - 2) := ⟨fun W => far_all h hb⟩
theorem few_1 {b : Nat} (hb : 3 ≤ b) : PT D_l_law_few_right 1 b (b - 3) := few_pt gf_1 hb
theorem few_2 {b : Nat} (hb : 3 ≤ b) : PT D_l_law_few_right 2 b (b - 3) := few_pt gf_2 hb
theorem few_3 {b : Nat} (hb : 3 ≤ b) : PT D_l_law_few_right 3 b (b - 3) := few_pt gf_3 hb
theorem few_4 {b : Nat} (hb : 3 ≤ b) : PT D_l_law_few_right 4 b (b - 3) := few_pt gf_4 hb
theorem few_5 {b : Nat} (hb : 3 ≤ b) : PT D_l_law_few_right 5 b (b - 3) := few_pt gf_5 hb
theorem few_6 {b : Nat} (hb : 3 ≤ b) : PT D_l_law_few_right 6 b (b - 3) := few_pt gf_6 hb
theorem few_all : ∀ {s : Nat} (h : 1 ≤ s ∧ s ≤ 6) {b : Nat} (hb : 3 ≤ b), PT D_l_law_few_right s b (b - 3)
  | 1, _, _, hb => few_1 hb
  | 2, _, _, hb => few_2 hb
  | 3, _, _, hb => few_3 hb
  | 4, _, _, hb => few_4 hb
  | 5, _, _, hb => few_5 hb
  | 6, _, _, hb => few_6 hb
  | 0, h, _, _ => absurd h.1 (by decide)
  | s + 7, h, _, _ => absurd h.2 (by omega)
theorem bindS_post {α : Type} {env : Ev.Env} {k : α → R Flw} {Q : Nat → Flw → Prop} {W : Nat → Exn → Prop} : ∀ {m : R α} {b : Nat}, m.post b (fun b' a => (k a).post b' Q W) (fun _ _ => False) → (m.bindS env k).post b Q W
  | .fail, _, h => h
  | .ok _, _, h => h
  | .exc _, _, h => h.elim
  | .draw n f, b, ⟨hn, b', e, h⟩ => ⟨hn, b', e, fun i hi => bindS_post (h i hi)⟩
theorem call_draw {n : Nat} {d : List D → R D} {h : Ev.Env → R (List D)} {env : Ev.Env} {as : Nat → List D} (hh : h env = .draw n fun i => .ok (as i)) : eCall d h env = .draw n fun i => d (as i) := by
  unfold eCall
  rw [hh]
  rfl
/-- a def called with a drawn number -/
theorem call_post {d : List D → R D} {n : Nat} {S : D} {b c : Nat} {W : Nat → Exn → Prop} (hn : 0 < n ∧ n < 1073741824) (hb : c + 1 ≤ b) (hd : ∀ s, 1 ≤ s → s ≤ n → (d [urnD, .int (.ofNat s)]).post (b - 1) (fun b' x => b' = b - 1 - c ∧ x = .bool true) W) :
    (eCall d (aUrn 1 (aCons (eBin addD (eC (.int 1)) (eCall D_take (aUrn 1 (aCons (eC (.int (.ofNat n))) aNil)))) aNil)) [.va S, .ur]).post b (fun b' x => b' = b - 1 - c ∧ x = .bool true) W := by
  rw [call_draw (n := n) (as := fun i => [urnD, .int (1 + .ofNat i)]) rfl]
  refine ⟨hn, b - 1, by omega, fun i hi => ?_⟩
  have e : (1 + Int.ofNat i) = Int.ofNat (i + 1) := by
    show (1 : Int) + (i : Int) = ((i + 1 : Nat) : Int)
    omega
  show (d [urnD, PyData.int (1 + Int.ofNat i)]).post _ _ _
  rw [e]
  exact hd (i + 1) (by omega) (by omega)
theorem law_gen {d1 d2 : List D → R D} {S : D}
    (h1 : ∀ s : Nat, 1 ≤ s → s ≤ 6 → PT d1 s 99 96)
    (h2 : ∀ s : Nat, 1 ≤ s → s ≤ 12 → PT d2 s 95 93) :
    (sCons (sIf (Ev.tNot (eT (eCall d1 (aUrn 1 (aCons (eBin addD (eC (.int 1)) (eCall D_take (aUrn 1 (aCons (eC (.int 6)) aNil)))) aNil))))) (sRet (eC (.bool false))) sNil)
      (sRet (eCall d2 (aUrn 1 (aCons (eBin addD (eC (.int 1)) (eCall D_take (aUrn 1 (aCons (eC (.int 12)) aNil)))) aNil)))) [.va S, .ur]).post 100 (fun _ fl => ∃ env, fl = .rt (.bool true) env) fun _ _ => False := by
  refine post_cons ?_
  unfold sIf Ev.tNot eT
  refine bindS_post (R.bind_post (R.bind_post (R.post_mono (fun b' d h => ?_) (fun _ _ h => h) (call_post (d := d1) (n := 6) (c := 3) (S := S) (by decide) (by decide) fun s a1 a2 => (h1 s a1 a2).ok _))))
  obtain ⟨e1, e2⟩ := h
  subst e2
  refine ⟨_, rfl, ?_⟩
  unfold sRet
  subst e1
  refine bindS_post (R.post_mono (fun b2 d h => ?_) (fun _ _ h => h) (call_post (d := d2) (n := 12) (c := 2) (S := S) (by decide) (by decide) fun s a1 a2 => (h2 s a1 a2).ok _))
  obtain ⟨_, e2⟩ := h
  subst e2
  exact ⟨_, rfl⟩
theorem law_post (S : D) : (B_law [.va S, .ur]).post 100 (fun _ fl => ∃ env, fl = .rt (.bool true) env) fun _ _ => False := by
  unfold B_law S1_law S2_law
  exact law_gen (fun s a1 a2 => few_all ⟨a1, a2⟩ (by decide)) (fun s a1 a2 => far_pt ⟨a1, a2⟩ (by decide))
theorem plain : ∀ ns : List Int, ns.length ≤ 63 → ∃ x y env1, A_law (.va (scD (ns.map .int)) :: reps 1) = .ok (.nx env1) ∧ sl env1 1 = .ol (urnE x y 0) ∧ UrnB 100 x y 0 ∧ (B_law (setS env1 1 .ur)).post 100 (fun _ fl => ∃ env, fl = .rt (.bool true) env) fun _ _ => False := by
  intro ns hl
  obtain ⟨z, hz⟩ := cells_ok ns hl
  obtain ⟨x, y, hb, h1, h2, h3⟩ := box_ok 2305843009213693951 40361 28284272 z (by decide) (by decide) (by decide) (by decide) (by decide)
  refine ⟨x, y, [.va (scD (ns.map .int)), .ol (urnE x y 0)], ?_, rfl, ⟨h1, h2, h3, by decide, by decide⟩, law_post _⟩
  have e : nCall D_l_law_box (aCons (eCall D_l_law_cells (aScr 0 (aCons (eC (.int 1)) aNil))) (aCons (eC (.int 0)) aNil)) (.va (scD (ns.map .int)) :: reps 1) = .ok (urnE x y 0) := by
    have e1 : (aCons (eCall D_l_law_cells (aScr 0 (aCons (eC (.int 1)) aNil))) (aCons (eC (.int 0)) aNil)) (.va (scD (ns.map .int)) :: reps 1) = .ok [.list [.int z], .int 0] := by
      refine aCons_ok (d := .list [.int z]) ?_ rfl
      show D_l_law_cells [scD (ns.map .int), .int 1] = _
      exact hz
    unfold nCall
    rw [e1]
    exact hb
  unfold A_law sNew
  rw [e]
  rfl
end Wk
set_option Elab.async false
set_option linter.all false
set_option maxRecDepth 100000
set_option maxHeartbeats 4000000
namespace Wk
open PySem PySem.Spec PyProof.Rows L2 Ev Hd
section
variable {P : Program} {w : World} {K : PySem.W.Frag} {h : Heap} {mg : PySem.Str → Option Value} {base : Heap}
theorem bi_of (X : K.In h) (G : h.Ns mainGlobals mg) (c : He.SaysD fa fn K) : Bi mg where
  LookupError := He.free_ok X G (c.fact 42 (f := .free "LookupError") rfl)
  OverflowError := He.free_ok X G (c.fact 43 (f := .free "OverflowError") rfl)
  ValueError := He.free_ok X G (c.fact 44 (f := .free "ValueError") rfl)
  abs := He.free_ok X G (c.fact 45 (f := .free "abs") rfl)
  all := He.free_ok X G (c.fact 46 (f := .free "all") rfl)
  any := He.free_ok X G (c.fact 47 (f := .free "any") rfl)
  bool := He.free_ok X G (c.fact 48 (f := .free "bool") rfl)
  enumerate := He.free_ok X G (c.fact 49 (f := .free "enumerate") rfl)
  int := He.free_ok X G (c.fact 50 (f := .free "int") rfl)
  isinstance := He.free_ok X G (c.fact 51 (f := .free "isinstance") rfl)
  len := He.free_ok X G (c.fact 52 (f := .free "len") rfl)
  list := He.free_ok X G (c.fact 53 (f := .free "list") rfl)
  max := He.free_ok X G (c.fact 54 (f := .free "max") rfl)
  min := He.free_ok X G (c.fact 55 (f := .free "min") rfl)
  range := He.free_ok X G (c.fact 56 (f := .free "range") rfl)
  set := He.free_ok X G (c.fact 57 (f := .free "set") rfl)
  sorted := He.free_ok X G (c.fact 58 (f := .free "sorted") rfl)
  str := He.free_ok X G (c.fact 59 (f := .free "str") rfl)
  sum := He.free_ok X G (c.fact 60 (f := .free "sum") rfl)
  tuple := He.free_ok X G (c.fact 61 (f := .free "tuple") rfl)
  zip := He.free_ok X G (c.fact 62 (f := .free "zip") rfl)
  MOST := He.int_ok X G (c.fact 63 (f := .int "MOST" 300) rfl)
variable (X : K.In h) (G : h.Ns mainGlobals mg) (c : He.SaysD fa fn K)
include X G c
theorem X_cross : ∃ f fd, FunD K "cross" "cross" (defArgs s_cross) (defBody s_cross) (defScope s_cross) [] [] f fd ∧ mg "cross" = some (.ref f) :=
  let ⟨fd, F⟩ := c.def_ 0 (d := d_cross) rfl; ⟨_, fd, F, He.glo_ok X G (c.fact 0 (f := .glo "cross") rfl)⟩
theorem X_arms : ∃ f fd, FunD K "arms" "arms" (defArgs s_arms) (defBody s_arms) (defScope s_arms) [] [] f fd ∧ mg "arms" = some (.ref f) :=
  let ⟨fd, F⟩ := c.def_ 1 (d := d_arms) rfl; ⟨_, fd, F, He.glo_ok X G (c.fact 1 (f := .glo "arms") rfl)⟩
theorem X_look_same : ∃ f fd, FunD K "look_same" "look_same" (defArgs s_look_same) (defBody s_look_same) (defScope s_look_same) [] [] f fd ∧ mg "look_same" = some (.ref f) :=
  let ⟨fd, F⟩ := c.def_ 2 (d := d_look_same) rfl; ⟨_, fd, F, He.glo_ok X G (c.fact 2 (f := .glo "look_same") rfl)⟩
theorem X_crossing : ∃ f fd, FunD K "crossing" "crossing" (defArgs s_crossing) (defBody s_crossing) (defScope s_crossing) [] [] f fd ∧ mg "crossing" = some (.ref f) :=
  let ⟨fd, F⟩ := c.def_ 3 (d := d_crossing) rfl; ⟨_, fd, F, He.glo_ok X G (c.fact 3 (f := .glo "crossing") rfl)⟩
theorem X_home : ∃ f fd, FunD K "home" "home" (defArgs s_home) (defBody s_home) (defScope s_home) [] [] f fd ∧ mg "home" = some (.ref f) :=
  let ⟨fd, F⟩ := c.def_ 4 (d := d_home) rfl; ⟨_, fd, F, He.glo_ok X G (c.fact 4 (f := .glo "home") rfl)⟩
theorem X_free_groups : ∃ f fd, FunD K "free_groups" "free_groups" (defArgs s_free_groups) (defBody s_free_groups) (defScope s_free_groups) [] [] f fd ∧ mg "free_groups" = some (.ref f) :=
  let ⟨fd, F⟩ := c.def_ 5 (d := d_free_groups) rfl; ⟨_, fd, F, He.glo_ok X G (c.fact 5 (f := .glo "free_groups") rfl)⟩
theorem X_evidence : ∃ f fd, FunD K "evidence" "evidence" (defArgs s_evidence) (defBody s_evidence) (defScope s_evidence) [] [] f fd ∧ mg "evidence" = some (.ref f) :=
  let ⟨fd, F⟩ := c.def_ 6 (d := d_evidence) rfl; ⟨_, fd, F, He.glo_ok X G (c.fact 6 (f := .glo "evidence") rfl)⟩
theorem X_catalan : ∃ f fd, FunD K "catalan" "catalan" (defArgs s_catalan) (defBody s_catalan) (defScope s_catalan) [] [] f fd ∧ mg "catalan" = some (.ref f) :=
  let ⟨fd, F⟩ := c.def_ 7 (d := d_catalan) rfl; ⟨_, fd, F, He.glo_ok X G (c.fact 7 (f := .glo "catalan") rfl)⟩
theorem X_many : ∃ f fd, FunD K "many" "many" (defArgs s_many) (defBody s_many) (defScope s_many) [] [] f fd ∧ mg "many" = some (.ref f) :=
  let ⟨fd, F⟩ := c.def_ 8 (d := d_many) rfl; ⟨_, fd, F, He.glo_ok X G (c.fact 8 (f := .glo "many") rfl)⟩
theorem X_with_pair : ∃ f fd, FunD K "with_pair" "with_pair" (defArgs s_with_pair) (defBody s_with_pair) (defScope s_with_pair) [] [] f fd ∧ mg "with_pair" = some (.ref f) :=
  let ⟨fd, F⟩ := c.def_ 9 (d := d_with_pair) rfl; ⟨_, fd, F, He.glo_ok X G (c.fact 9 (f := .glo "with_pair") rfl)⟩
theorem X_busy_people : ∃ f fd, FunD K "busy_people" "busy_people" (defArgs s_busy_people) (defBody s_busy_people) (defScope s_busy_people) [] [] f fd ∧ mg "busy_people" = some (.ref f) :=
  let ⟨fd, F⟩ := c.def_ 10 (d := d_busy_people) rfl; ⟨_, fd, F, He.glo_ok X G (c.fact 10 (f := .glo "busy_people") rfl)⟩
theorem X_choices : ∃ f fd, FunD K "choices" "choices" (defArgs s_choices) (defBody s_choices) (defScope s_choices) [] [] f fd ∧ mg "choices" = some (.ref f) :=
  let ⟨fd, F⟩ := c.def_ 11 (d := d_choices) rfl; ⟨_, fd, F, He.glo_ok X G (c.fact 11 (f := .glo "choices") rfl)⟩
theorem X_arrangement_at : ∃ f fd, FunD K "arrangement_at" "arrangement_at" (defArgs s_arrangement_at) (defBody s_arrangement_at) (defScope s_arrangement_at) [] [] f fd ∧ mg "arrangement_at" = some (.ref f) :=
  let ⟨fd, F⟩ := c.def_ 12 (d := d_arrangement_at) rfl; ⟨_, fd, F, He.glo_ok X G (c.fact 12 (f := .glo "arrangement_at") rfl)⟩
theorem X_all_arrangements : ∃ f fd, FunD K "all_arrangements" "all_arrangements" (defArgs s_all_arrangements) (defBody s_all_arrangements) (defScope s_all_arrangements) [] [] f fd ∧ mg "all_arrangements" = some (.ref f) :=
  let ⟨fd, F⟩ := c.def_ 13 (d := d_all_arrangements) rfl; ⟨_, fd, F, He.glo_ok X G (c.fact 13 (f := .glo "all_arrangements") rfl)⟩
theorem X_gcd : ∃ f fd, FunD K "gcd" "gcd" (defArgs s_gcd) (defBody s_gcd) (defScope s_gcd) [] [] f fd ∧ mg "gcd" = some (.ref f) :=
  let ⟨fd, F⟩ := c.def_ 14 (d := d_gcd) rfl; ⟨_, fd, F, He.glo_ok X G (c.fact 14 (f := .glo "gcd") rfl)⟩
theorem X_turned : ∃ f fd, FunD K "turned" "turned" (defArgs s_turned) (defBody s_turned) (defScope s_turned) [] [] f fd ∧ mg "turned" = some (.ref f) :=
  let ⟨fd, F⟩ := c.def_ 15 (d := d_turned) rfl; ⟨_, fd, F, He.glo_ok X G (c.fact 15 (f := .glo "turned") rfl)⟩
theorem X_mirrored : ∃ f fd, FunD K "mirrored" "mirrored" (defArgs s_mirrored) (defBody s_mirrored) (defScope s_mirrored) [] [] f fd ∧ mg "mirrored" = some (.ref f) :=
  let ⟨fd, F⟩ := c.def_ 16 (d := d_mirrored) rfl; ⟨_, fd, F, He.glo_ok X G (c.fact 16 (f := .glo "mirrored") rfl)⟩
theorem X_period : ∃ f fd, FunD K "period" "period" (defArgs s_period) (defBody s_period) (defScope s_period) [] [] f fd ∧ mg "period" = some (.ref f) :=
  let ⟨fd, F⟩ := c.def_ 17 (d := d_period) rfl; ⟨_, fd, F, He.glo_ok X G (c.fact 17 (f := .glo "period") rfl)⟩
theorem X_choose : ∃ f fd, FunD K "choose" "choose" (defArgs s_choose) (defBody s_choose) (defScope s_choose) [] [] f fd ∧ mg "choose" = some (.ref f) :=
  let ⟨fd, F⟩ := c.def_ 18 (d := d_choose) rfl; ⟨_, fd, F, He.glo_ok X G (c.fact 18 (f := .glo "choose") rfl)⟩
theorem X_alike_many : ∃ f fd, FunD K "alike_many" "alike_many" (defArgs s_alike_many) (defBody s_alike_many) (defScope s_alike_many) [] [] f fd ∧ mg "alike_many" = some (.ref f) :=
  let ⟨fd, F⟩ := c.def_ 19 (d := d_alike_many) rfl; ⟨_, fd, F, He.glo_ok X G (c.fact 19 (f := .glo "alike_many") rfl)⟩
theorem X_walk : ∃ f fd, FunD K "walk" "walk" (defArgs s_walk) (defBody s_walk) (defScope s_walk) [] [] f fd ∧ mg "walk" = some (.ref f) :=
  let ⟨fd, F⟩ := c.def_ 20 (d := d_walk) rfl; ⟨_, fd, F, He.glo_ok X G (c.fact 20 (f := .glo "walk") rfl)⟩
theorem X_areas : ∃ f fd, FunD K "areas" "areas" (defArgs s_areas) (defBody s_areas) (defScope s_areas) [] [] f fd ∧ mg "areas" = some (.ref f) :=
  let ⟨fd, F⟩ := c.def_ 21 (d := d_areas) rfl; ⟨_, fd, F, He.glo_ok X G (c.fact 21 (f := .glo "areas") rfl)⟩
theorem X_new_arms : ∃ f fd, FunD K "new_arms" "new_arms" (defArgs s_new_arms) (defBody s_new_arms) (defScope s_new_arms) [] [] f fd ∧ mg "new_arms" = some (.ref f) :=
  let ⟨fd, F⟩ := c.def_ 22 (d := d_new_arms) rfl; ⟨_, fd, F, He.glo_ok X G (c.fact 22 (f := .glo "new_arms") rfl)⟩
theorem X_is_possible : ∃ f fd, FunD K "is_possible" "is_possible" (defArgs s_is_possible) (defBody s_is_possible) (defScope s_is_possible) [] [] f fd ∧ mg "is_possible" = some (.ref f) :=
  let ⟨fd, F⟩ := c.def_ 23 (d := d_is_possible) rfl; ⟨_, fd, F, He.glo_ok X G (c.fact 23 (f := .glo "is_possible") rfl)⟩
theorem X_exchanges : ∃ f fd, FunD K "exchanges" "exchanges" (defArgs s_exchanges) (defBody s_exchanges) (defScope s_exchanges) [] [] f fd ∧ mg "exchanges" = some (.ref f) :=
  let ⟨fd, F⟩ := c.def_ 24 (d := d_exchanges) rfl; ⟨_, fd, F, He.glo_ok X G (c.fact 24 (f := .glo "exchanges") rfl)⟩
theorem X_ring_of : ∃ f fd, FunD K "ring_of" "ring_of" (defArgs s_ring_of) (defBody s_ring_of) (defScope s_ring_of) [] [] f fd ∧ mg "ring_of" = some (.ref f) :=
  let ⟨fd, F⟩ := c.def_ 25 (d := d_ring_of) rfl; ⟨_, fd, F, He.glo_ok X G (c.fact 25 (f := .glo "ring_of") rfl)⟩
theorem X_rings : ∃ f fd, FunD K "rings" "rings" (defArgs s_rings) (defBody s_rings) (defScope s_rings) [] [] f fd ∧ mg "rings" = some (.ref f) :=
  let ⟨fd, F⟩ := c.def_ 26 (d := d_rings) rfl; ⟨_, fd, F, He.glo_ok X G (c.fact 26 (f := .glo "rings") rfl)⟩
theorem X_distance : ∃ f fd, FunD K "distance" "distance" (defArgs s_distance) (defBody s_distance) (defScope s_distance) [] [] f fd ∧ mg "distance" = some (.ref f) :=
  let ⟨fd, F⟩ := c.def_ 27 (d := d_distance) rfl; ⟨_, fd, F, He.glo_ok X G (c.fact 27 (f := .glo "distance") rfl)⟩
theorem X_l_law_box : ∃ f fd, FunD K "_law_box" "_law_box" (defArgs s__law_box) (defBody s__law_box) (defScope s__law_box) [] [] f fd ∧ mg "_law_box" = some (.ref f) :=
  let ⟨fd, F⟩ := c.def_ 28 (d := d__law_box) rfl; ⟨_, fd, F, He.glo_ok X G (c.fact 28 (f := .glo "_law_box") rfl)⟩
theorem X_l_law_take : ∃ f fd, FunD K "_law_take" "_law_take" (defArgs s__law_take) (defBody s__law_take) (defScope s__law_take) [] [] f fd ∧ mg "_law_take" = some (.ref f) :=
  let ⟨fd, F⟩ := c.def_ 29 (d := d__law_take) rfl; ⟨_, fd, F, He.glo_ok X G (c.fact 29 (f := .glo "_law_take") rfl)⟩
theorem X_l_law_cells : ∃ f fd, FunD K "_law_cells" "_law_cells" (defArgs s__law_cells) (defBody s__law_cells) (defScope s__law_cells) [] [] f fd ∧ mg "_law_cells" = some (.ref f) :=
  let ⟨fd, F⟩ := c.def_ 30 (d := d__law_cells) rfl; ⟨_, fd, F, He.glo_ok X G (c.fact 30 (f := .glo "_law_cells") rfl)⟩
theorem X_l_law_same : ∃ f fd, FunD K "_law_same" "_law_same" (defArgs s__law_same) (defBody s__law_same) (defScope s__law_same) [] [] f fd ∧ mg "_law_same" = some (.ref f) :=
  let ⟨fd, F⟩ := c.def_ 31 (d := d__law_same) rfl; ⟨_, fd, F, He.glo_ok X G (c.fact 31 (f := .glo "_law_same") rfl)⟩
theorem X_l_law_all : ∃ f fd, FunD K "_law_all" "_law_all" (defArgs s__law_all) (defBody s__law_all) (defScope s__law_all) [] [] f fd ∧ mg "_law_all" = some (.ref f) :=
  let ⟨fd, F⟩ := c.def_ 32 (d := d__law_all) rfl; ⟨_, fd, F, He.glo_ok X G (c.fact 32 (f := .glo "_law_all") rfl)⟩
theorem X_l_law_choose : ∃ f fd, FunD K "_law_choose" "_law_choose" (defArgs s__law_choose) (defBody s__law_choose) (defScope s__law_choose) [] [] f fd ∧ mg "_law_choose" = some (.ref f) :=
  let ⟨fd, F⟩ := c.def_ 33 (d := d__law_choose) rfl; ⟨_, fd, F, He.glo_ok X G (c.fact 33 (f := .glo "_law_choose") rfl)⟩
theorem X_l_law_heaps : ∃ f fd, FunD K "_law_heaps" "_law_heaps" (defArgs s__law_heaps) (defBody s__law_heaps) (defScope s__law_heaps) [] [] f fd ∧ mg "_law_heaps" = some (.ref f) :=
  let ⟨fd, F⟩ := c.def_ 34 (d := d__law_heaps) rfl; ⟨_, fd, F, He.glo_ok X G (c.fact 34 (f := .glo "_law_heaps") rfl)⟩
theorem X_l_law_turn : ∃ f fd, FunD K "_law_turn" "_law_turn" (defArgs s__law_turn) (defBody s__law_turn) (defScope s__law_turn) [] [] f fd ∧ mg "_law_turn" = some (.ref f) :=
  let ⟨fd, F⟩ := c.def_ 35 (d := d__law_turn) rfl; ⟨_, fd, F, He.glo_ok X G (c.fact 35 (f := .glo "_law_turn") rfl)⟩
theorem X_l_law_few_right : ∃ f fd, FunD K "_law_few_right" "_law_few_right" (defArgs s__law_few_right) (defBody s__law_few_right) (defScope s__law_few_right) [] [] f fd ∧ mg "_law_few_right" = some (.ref f) :=
  let ⟨fd, F⟩ := c.def_ 36 (d := d__law_few_right) rfl; ⟨_, fd, F, He.glo_ok X G (c.fact 36 (f := .glo "_law_few_right") rfl)⟩
theorem X_l_law_far_right : ∃ f fd, FunD K "_law_far_right" "_law_far_right" (defArgs s__law_far_right) (defBody s__law_far_right) (defScope s__law_far_right) [] [] f fd ∧ mg "_law_far_right" = some (.ref f) :=
  let ⟨fd, F⟩ := c.def_ 37 (d := d__law_far_right) rfl; ⟨_, fd, F, He.glo_ok X G (c.fact 37 (f := .glo "_law_far_right") rfl)⟩
theorem X_law : ∃ f fd, FunD K "law" "law" (defArgs s_law) (defBody s_law) (defScope s_law) [] [] f fd ∧ mg "law" = some (.ref f) :=
  let ⟨fd, F⟩ := c.def_ 38 (d := d_law) rfl; ⟨_, fd, F, He.glo_ok X G (c.fact 38 (f := .glo "law") rfl)⟩
theorem Y_cross : Fd P w K mg base (fun _ => 0) "cross" false 2 1 D_cross := Fd_cross (bi_of X G c)  (X_cross X G c)
theorem Y_arms : Fd P w K mg base (fun _ => 0) "arms" false 1 1 D_arms := Fd_arms (bi_of X G c)  (X_arms X G c)
theorem Y_look_same : Fd P w K mg base (fun _ => 0) "look_same" false 2 1 D_look_same := Fd_look_same (bi_of X G c)  (X_look_same X G c)
theorem Y_crossing : Fd P w K mg base (fun _ => 0) "crossing" false 1 2 D_crossing := Fd_crossing (bi_of X G c) (Y_cross X G c) (X_crossing X G c)
theorem Y_home : Fd P w K mg base (fun _ => 0) "home" false 2 1 D_home := Fd_home (bi_of X G c)  (X_home X G c)
theorem Y_free_groups : Fd P w K mg base (fun _ => 0) "free_groups" false 2 2 D_free_groups := Fd_free_groups (bi_of X G c) (Y_home X G c) (X_free_groups X G c)
theorem Y_evidence : Fd P w K mg base (fun _ => 0) "evidence" false 2 3 D_evidence := Fd_evidence (bi_of X G c) (Y_crossing X G c) (Y_free_groups X G c) (X_evidence X G c)
theorem Y_catalan : Fd P w K mg base (fun _ => 0) "catalan" false 1 1 D_catalan := Fd_catalan (bi_of X G c)  (X_catalan X G c)
theorem Y_many : Fd P w K mg base (fun _ => 0) "many" false 2 4 D_many := Fd_many (bi_of X G c) (Y_evidence X G c) (Y_free_groups X G c) (Y_catalan X G c) (X_many X G c)
theorem Y_with_pair : Fd P w K mg base (fun _ => 0) "with_pair" false 3 1 D_with_pair := Fd_with_pair (bi_of X G c)  (X_with_pair X G c)
theorem Y_busy_people : Fd P w K mg base (fun _ => 0) "busy_people" false 1 1 D_busy_people := Fd_busy_people (bi_of X G c)  (X_busy_people X G c)
theorem Y_choices : Fd P w K mg base (fun _ => 0) "choices" false 3 5 D_choices := Fd_choices (bi_of X G c) (Y_busy_people X G c) (Y_many X G c) (Y_with_pair X G c) (X_choices X G c)
theorem Y_arrangement_at : Fd P w K mg base (fun _ => 0) "arrangement_at" false 3 6 D_arrangement_at := Fd_arrangement_at (bi_of X G c) (Y_many X G c) (Y_busy_people X G c) (Y_choices X G c) (Y_with_pair X G c) (X_arrangement_at X G c)
theorem Y_all_arrangements : Fd P w K mg base (fun _ => 0) "all_arrangements" false 2 7 D_all_arrangements := Fd_all_arrangements (bi_of X G c) (Y_many X G c) (Y_arrangement_at X G c) (X_all_arrangements X G c)
theorem Y_gcd : Fd P w K mg base (fun _ => 0) "gcd" false 2 1 D_gcd := Fd_gcd (bi_of X G c)  (X_gcd X G c)
theorem Y_turned : Fd P w K mg base (fun _ => 0) "turned" false 2 1 D_turned := Fd_turned (bi_of X G c)  (X_turned X G c)
theorem Y_mirrored : Fd P w K mg base (fun _ => 0) "mirrored" false 1 1 D_mirrored := Fd_mirrored (bi_of X G c)  (X_mirrored X G c)
theorem Y_period : Fd P w K mg base (fun _ => 0) "period" false 1 2 D_period := Fd_period (bi_of X G c) (Y_turned X G c) (X_period X G c)
theorem Y_choose : Fd P w K mg base (fun _ => 0) "choose" false 2 1 D_choose := Fd_choose (bi_of X G c)  (X_choose X G c)
theorem Y_alike_many : Fd P w K mg base (fun _ => 0) "alike_many" false 2 2 D_alike_many := Fd_alike_many (bi_of X G c) (Y_gcd X G c) (Y_catalan X G c) (Y_choose X G c) (X_alike_many X G c)
theorem Y_walk : Fd P w K mg base (fun _ => 0) "walk" false 2 1 D_walk := Fd_walk (bi_of X G c)  (X_walk X G c)
theorem Y_areas : Fd P w K mg base (fun _ => 0) "areas" false 1 2 D_areas := Fd_areas (bi_of X G c) (Y_walk X G c) (X_areas X G c)
theorem Y_new_arms : Fd P w K mg base (fun _ => 0) "new_arms" false 2 1 D_new_arms := Fd_new_arms (bi_of X G c)  (X_new_arms X G c)
theorem Y_is_possible : Fd P w K mg base (fun _ => 0) "is_possible" false 2 2 D_is_possible := Fd_is_possible (bi_of X G c) (Y_new_arms X G c) (Y_arms X G c) (Y_cross X G c) (X_is_possible X G c)
theorem Y_exchanges : Fd P w K mg base (fun _ => 0) "exchanges" false 1 3 D_exchanges := Fd_exchanges (bi_of X G c) (Y_arms X G c) (Y_is_possible X G c) (X_exchanges X G c)
theorem Y_ring_of : Fd P w K mg base (fun _ => 0) "ring_of" false 3 1 D_ring_of := Fd_ring_of (bi_of X G c)  (X_ring_of X G c)
theorem Y_rings : Fd P w K mg base (fun _ => 0) "rings" false 2 2 D_rings := Fd_rings (bi_of X G c) (Y_look_same X G c) (Y_ring_of X G c) (X_rings X G c)
theorem Y_distance : Fd P w K mg base (fun _ => 0) "distance" false 2 3 D_distance := Fd_distance (bi_of X G c) (Y_rings X G c) (X_distance X G c)
theorem Y_l_law_box : FdN P w K mg base "_law_box" 2 1 D_l_law_box := Fd_l_law_box (bi_of X G c)  (X_l_law_box X G c)
theorem Y_l_law_take : Fd P w K mg base (fun _ => 0) "_law_take" true 2 1 D_take := Fd_l_law_take (bi_of X G c)  (X_l_law_take X G c)
theorem Y_l_law_cells : Fd P w K mg base (fun _ => 0) "_law_cells" false 2 1 D_l_law_cells := Fd_l_law_cells (bi_of X G c)  (X_l_law_cells X G c)
theorem Y_l_law_same : Fd P w K mg base (fun _ => 0) "_law_same" false 2 5 (Dn_l_law_same 4) := Fn_l_law_same (bi_of X G c)  (X_l_law_same X G c) 4
theorem Y_l_law_all : Fd P w K mg base (fun _ => 0) "_law_all" false 1 8 (Dn_l_law_all 7) := Fn_l_law_all (bi_of X G c)  (X_l_law_all X G c) 7
theorem Y_l_law_choose : Fd P w K mg base (fun _ => 0) "_law_choose" false 2 1 D_l_law_choose := Fd_l_law_choose (bi_of X G c)  (X_l_law_choose X G c)
theorem Y_l_law_turn : Fd P w K mg base (fun _ => 0) "_law_turn" false 1 1 D_l_law_turn := Fd_l_law_turn (bi_of X G c)  (X_l_law_turn X G c)
theorem Y_l_law_heaps : Fd P w K mg base (fun _ => 0) "_law_heaps" false 2 2 D_l_law_heaps := Fd_l_law_heaps (bi_of X G c) (Y_l_law_turn X G c) (X_l_law_heaps X G c)
theorem Y_l_law_few_right : Fd P w K mg base (fun _ => 0) "_law_few_right" true 2 9 D_l_law_few_right := Fd_l_law_few_right (bi_of X G c) (Y_all_arrangements X G c) (Y_l_law_all X G c) (Y_l_law_heaps X G c) (Y_alike_many X G c) (Y_turned X G c) (Y_period X G c) (Y_mirrored X G c) (Y_l_law_choose X G c) (Y_l_law_take X G c) (Y_areas X G c) (Y_exchanges X G c) (Y_rings X G c) (Y_distance X G c) (Y_l_law_same X G c) (X_l_law_few_right X G c)
theorem Y_l_law_far_right : Fd P w K mg base (fun _ => 0) "_law_far_right" true 2 7 D_l_law_far_right := Fd_l_law_far_right (bi_of X G c) (Y_l_law_take X G c) (Y_many X G c) (Y_arrangement_at X G c) (Y_period X G c) (Y_turned X G c) (Y_alike_many X G c) (Y_l_law_same X G c) (Y_l_law_choose X G c) (X_l_law_far_right X G c)
omit X G c in
theorem facts {f : Addr} (X : K.In h) (G : h.Ns mainGlobals mg) (hfa : mg ("law" : PySem.Str) = some (.ref f)) (c : He.SaysD fa fn K) :
    ∃ fd : FuncData, (∀ (s : Shared) (v : Value), BindsTo s fd ⟨[v], []⟩ [("script", v)]) ∧ ∀ base : Heap, K.In base → base.Ns mainGlobals mg → FnOk P w K mg base CX0 10 f fd ["script"] (spLaw K) := by
  obtain ⟨f', fd, F, e⟩ := X_law X G c
  have e2 := hfa.symm.trans e
  cases e2
  have b := FunD.bindsA (ps := ["script"]) F fun _ _ _ _ _ _ us hl => match us, hl with | [_], _ => rfl
  refine ⟨fd, fun s v => b s [v] rfl, fun base _ _ => law_of (C := (fun _ => 0)) (m := 1) F sc_law rfl rfl (fun cdv A outer s Z H E hr => V_law (bi_of X G c) (Y_l_law_box X G c) (Y_l_law_cells X G c) (Y_l_law_few_right X G c) (Y_l_law_take X G c) (Y_l_law_far_right X G c) f cdv A outer s Z H E hr) plain⟩
end
end Wk
open PySem PySem.W PySem.Calls PyProof.Rows
theorem PySem.Challenge.cw_handshakes_k96_main_how_many_look_alike_holds : PySem.Challenge.rw_handshakes_k96_main_how_many_look_alike.Holds := by
  w_on; o_law
  refine HandSHeadRun.head_any (r := OpenLaw.row PySem.Challenge.rw_handshakes_k96_main_how_many_look_alike) (q := view (OpenLaw.row PySem.Challenge.rw_handshakes_k96_main_how_many_look_alike).prog [51]) (H := Hd.hk) (ob := Hd.ob) (M := 20000) (loose := Hd.loose) (d := HandSHeadRun.topDef (OpenLaw.row PySem.Challenge.rw_handshakes_k96_main_how_many_look_alike).prog 51) (kwd := []) Hd.ob_eq
    (by kernel_rfl) (fun s => by kernel_rfl) Hd.run (by kernel_rfl) (by kernel_rfl) (by kernel_rfl) (by rfl) (by first | assumption | decide +kernel) (by decide +kernel) ⟨rfl, rfl, rfl, rfl, rfl, by decide +kernel⟩ ?hw ?hc
  case hw => w_witness2
  case hc =>
    refine L2.walk_ofE (l := PySem.Challenge.rw_handshakes_k96_main_how_many_look_alike) (n := 63) (k := 10) (x := "script") (CX := L2.CX0) rfl (by decide) (by kernel_rfl) ⟨rfl, by decide, by decide⟩ ?F (fun _ _ _ _ z => z)
    intro w mg fa h Y G hmg0
    obtain ⟨K, KX, c⟩ := Y
    have hmg : mg ("law" : PySem.Str) = some (.ref fa) := by
      have e : (HandSHeadRun.topDef (OpenLaw.row PySem.Challenge.rw_handshakes_k96_main_how_many_look_alike).prog 51).name = ("law" : PySem.Str) := by kernel_rfl
      rw [← e]
      exact hmg0
    obtain ⟨fd, hb, hF⟩ := Wk.facts (P := (PySem.Challenge.rw_handshakes_k96_main_how_many_look_alike).prog) (w := w) KX G hmg c
    exact ⟨K, fd, Ev.spLaw K, KX, hb, fun H a ns hl _ hS => ⟨a, ns, rfl, hl, hS, fun _ => rfl⟩, hF⟩
