import PyProof.Rows.All
import Wide.All
import OpenK.AllK
import Wide.FinOn
import KE.KStateDown
import Lean
import HandS.Base
import HandS.Call
import HandS.Ends
import HandS.More
import HandS.Words
import HandS.WordsExc
import HandS.Defaults
import HandS.Head0
import HandS.Head1
import HandS.Head2
import HandS.HeadEnd
import HandS.HeadHook1
import HandS.HeadHook2
import HandS.ForMost
import HandS.ForExc
import HandS.CallSlots
import HandS.Lambda
import HandS.HeadHook4
import KE.KeyNested
import KE.KDictKeyed
import HandS.TupAny
import HandS.Wide
import HandS.Deep
import HandS.IsInst
import HandS.Style
import HandS.SortInts
import HandS.Iter
import HandS.HeadNt
import HandS.Property
import HandS.SlotsOwn
import HandS.ExcOwn
import HandS.Small
import HandS.SetFor
import HandS.Strs
import KE.GoesMore
import KE.GoesEnum
import KE.DataFind
import KE.KTupSum
import HandS.Conv
import HandS.TryMany
import HandS.ExcIs
import HandS.ExcField
import HandS.Dict
import HandS.TupMul
import HandS.Text
import HandS.FStr
import HandS.Zip
import PyProof.StrLawsTight
import PyProof.StrLawsChain
import PyProof.Rows.StrCut
import HandS.Nested
import HandS.SortKw
import KE.SortKeyHeap
import HandS.EndTab
import KE.DatumOrd
import KE.DataMinMax
import KE.SortData
import HandS.ExcInit
import KE.KExcIs
import PyProof.StrOps2
import KE.KDictDisplayH
import PyProof.Rows.SortWalk
import KE.DataMinKey
import HandS.DictComp
import PyProof.DictTruth
import HandS.Records
import PySem.Challenge.RW_pullouts_k13_known_rows
set_option Elab.async false
set_option linter.all false
set_option maxRecDepth 100000
set_option maxHeartbeats 0
namespace PD
open PySem PySem.Spec PyProof.Rows L2
abbrev St := L2.St
inductive D where
  | non | bl (b : Bool) | int (i : Int) | str (s : Str)
  | tup (xs : List D) | etp (xs : List D) | lst (xs : List D) | dct (t : Bool) (ks vs : List D) | ldc (t : Bool) (ks vs : List D)
  | row (g : D) | obj (n : Nat) | fn (n : Str) | scr (ns : List Int)
  deriving Inhabited
inductive Cont where
  | lst (ds : List D) | dct (t : Bool) (ks vs : List D) | ldc (t : Bool) (ks vs : List D)
def Cont.d : Cont → D
  | .lst ds => .lst ds
  | .dct t ks vs => .dct t ks vs
  | .ldc t ks vs => .ldc t ks vs
def keyD : Key → D
  | .inl i => .int i
  | .inr s => .str s
structure Exn where
  cls : Str
  args : List D
inductive Slot where
  | non | sh (d : D) | own (c : Cont) | exc (a : Addr) (d : Option Addr) (x : Exn)
inductive Ob where
  | gen (s : Int) (cs : List Int) (i : Int)
  | lst (ds : List D)
  | ins (c : Str) (fs : List (Str × D))
  | tab (x q : Str)
inductive Res (α : Type) where
  | ok (a : α) | err (x : Exn) (m : List Ob) | bad
namespace Res
def bind {α β : Type} : Res α → (α → Res β) → Res β
  | .ok a, f => f a
  | .err x m, _ => .err x m
  | .bad, _ => .bad
instance : Monad Res where
  pure := .ok
  bind := bind
end Res
structure Fz where
  F : Hp
  As : List (List Addr)
def Fz.le (z z' : Fz) : Prop := Same z.F z'.F ∧ ∃ r, z'.As = z.As ++ r
theorem Fz.le.refl (z : Fz) : z.le z := ⟨Same.refl _, [], (List.append_nil _).symm⟩
theorem Fz.le.trans {a b c : Fz} (h : a.le b) (k : b.le c) : a.le c := by
  obtain ⟨h1, r1, e1⟩ := h
  obtain ⟨h2, r2, e2⟩ := k
  exact ⟨h1.trans h2, r1 ++ r2, by rw [e2, e1, List.append_assoc]⟩
theorem same_tup {K : PySem.W.Frag} {H H' : Hp} {a : Addr} {xs : List V} (e : Same H H') (h : SqT K H a xs) : SqT K H' a xs := by
  rcases h with (h | ⟨o, h⟩) | h
  · exact .inl (.inl (e _ _ h))
  · exact .inl (.inr ⟨o, e _ _ h⟩)
  · exact .inr h
theorem same_upd {H : Hp} {p : Addr} {o : HO} (h : H p = none) : Same H (upd H p o) := fun b x e => by
  rw [upd_ne (ne_of_none e h)]
  exact e
theorem Fz.le.at {z z' : Fz} (h : z.le z') {n : Nat} {fp : List Addr} (e : z.As[n]? = some fp) : z'.As[n]? = some fp := by
  obtain ⟨_, r, er⟩ := h
  rw [er]
  obtain ⟨hl, _⟩ := List.getElem?_eq_some_iff.mp e
  rw [List.getElem?_append_left hl]
  exact e
mutual
/-- keys that are tuples (of ints, None, such tuples) -/
def nkD : NestedKey → D
  | .none => .non
  | .num i => .int i
  | .text x => .str x
  | .tup ks => .tup (nkDs ks)
def nkDs : List NestedKey → List D
  | [] => []
  | k :: ks => nkD k :: nkDs ks
end
mutual
def NKAt (K : PySem.W.Frag) (F : Hp) : NestedKey → V → Prop
  | .none, v => v = .non
  | .num i, v => v = .int i
  | .text x, v => v = .str x
  | .tup ks, v => ∃ a xs, v = .ref a ∧ SqT K F a xs ∧ NKAts K F ks xs
def NKAts (K : PySem.W.Frag) (F : Hp) : List NestedKey → List V → Prop
  | [], [] => True
  | k :: ks, v :: vs => NKAt K F k v ∧ NKAts K F ks vs
  | [], _ :: _ => False
  | _ :: _, [] => False
end
mutual
theorem NKAt.mono {K : PySem.W.Frag} {F F' : Hp} (h : ∀ a xs, SqT K F a xs → SqT K F' a xs) : ∀ {k : NestedKey} {v : V}, NKAt K F k v → NKAt K F' k v
  | .none, _, r => r
  | .num _, _, r => r
  | .text _, _, r => r
  | .tup ks, v, r => by
    simp only [NKAt] at r ⊢
    obtain ⟨a, xs, e, h1, h2⟩ := r
    exact ⟨a, xs, e, h a xs h1, NKAts.mono h h2⟩
theorem NKAts.mono {K : PySem.W.Frag} {F F' : Hp} (h : ∀ a xs, SqT K F a xs → SqT K F' a xs) : ∀ {k : List NestedKey} {v : List V}, NKAts K F k v → NKAts K F' k v
  | [], [], _ => True.intro
  | k :: ks, v :: vs, r => by
    simp only [NKAts] at r ⊢
    exact ⟨NKAt.mono h r.1, NKAts.mono h r.2⟩
  | [], _ :: _, r => r.elim
  | _ :: _, [], r => r.elim
end
mutual
/-- without texts -/
def noTxt : NestedKey → Bool
  | .none => true
  | .num _ => true
  | .text _ => false
  | .tup ks => noTxts ks
def noTxts : List NestedKey → Bool
  | [] => true
  | k :: ks => noTxt k && noTxts ks
end
def okKey : NestedKey → Bool
  | .tup ks => noTxts ks && decide ((NestedKey.tup ks).depth ≤ 8)
  | _ => false
def entN (w : World) (x : NestedKey × Addr × Value) : DictEntry := ⟨x.1.hash w, .ref x.2.1, x.2.2⟩
def DKeys (K : PySem.W.Frag) (F : Hp) (a : Addr) (t : Bool) (ks : List D) (vx : List V) (o : HO) : Prop := match t with
  | false => ∃ kx : List Key, kx.length = vx.length ∧ ks = kx.map keyD ∧ o = .dK (kx.zip vx)
  | true => ∃ (xs : List (NestedKey × Addr × Value)) (od : Obj) (es : Array DictEntry) (ep : Nat), ks = xs.map (fun x => nkD x.1) ∧ Vals vx (xs.map fun x => x.2.2) ∧ (xs.map fun x => x.1).Nodup ∧ (∀ x ∈ xs, okKey x.1 = true ∧ NKAt K F x.1 (.ref x.2.1)) ∧ od.ExactDict ∧ od.data = .dict es ep ∧
    (∀ w, es.toList = xs.map (entN w)) ∧ (a == sysModules) = false ∧ o = .ext fun h => h.get? a = some od
theorem DKeys.mono {K : PySem.W.Frag} {F F' : Hp} {a : Addr} {t : Bool} {ks : List D} {vx : List V} {o : HO} (h : ∀ a xs, SqT K F a xs → SqT K F' a xs) (q : DKeys K F a t ks vx o) : DKeys K F' a t ks vx o := by
  cases t with
  | false => exact q
  | true =>
    obtain ⟨xs, od, es, ep, h1, h2, h3, h4, r⟩ := q
    exact ⟨xs, od, es, ep, h1, h2, h3, fun x hx => ⟨(h4 x hx).1, (h4 x hx).2.mono h⟩, r⟩
section
variable (K : PySem.W.Frag) (mg : Str → Option Value) (z : Fz)
mutual
/-- a value stands for data -/
def Rep : D → V → Prop
  | .non, v => v = .non
  | .bl b, v => v = .bl b
  | .int i, v => v = .int i
  | .str s, v => v = .str s
  | .tup ds, v => ∃ a xs, v = .ref a ∧ SqT K z.F a xs ∧ Reps ds xs
  | .etp ds, v => ∃ a o xs, v = .ref a ∧ z.F a = some (.frz o (.tup xs)) ∧ o.dict = none ∧ Reps ds xs
  | .lst ds, v => ∃ a xs, v = .ref a ∧ z.F a = some (.lst xs) ∧ Reps ds xs
  | .dct t ks vs, v => ∃ (a : Addr) (o : HO) (vxs : List V), v = .ref a ∧ z.F a = some o ∧ Reps vs vxs ∧ DKeys K z.F a t ks vxs o
  | .ldc t ks vs, v => ∃ (a : Addr) (od : Obj) (o : HO) (vxs : List V), v = .ref a ∧ z.F a = some (.frz od o) ∧ Reps vs vxs ∧ DKeys K z.F a t ks vxs o
  | .row g, v => ∃ a dx C x, v = .ref a ∧ mg "Row" = some (.ref C) ∧ z.F a = some (.ins C dx [("held", x)]) ∧ Rep g x
  | .obj n, v => ∃ a r, v = .ref a ∧ z.As[n]? = some (a :: r)
  | .fn n, v => ∃ a, v = .ref a ∧ mg n = some (.ref a)
  | .scr ns, v => ∃ a, v = .ref a ∧ SqL K z.F a (ns.map V.int)
def Reps : List D → List V → Prop
  | [], [] => True
  | d :: ds, v :: vs => Rep d v ∧ Reps ds vs
  | [], _ :: _ => False
  | _ :: _, [] => False
end
end
section
variable {K : PySem.W.Frag} {mg : Str → Option Value} {z z' : Fz}
mutual
theorem Rep.le (h : z.le z') : ∀ {d : D} {v : V}, Rep K mg z d v → Rep K mg z' d v
  | .non, _, r => by simpa only [Rep] using r
  | .bl _, _, r => by simpa only [Rep] using r
  | .int _, _, r => by simpa only [Rep] using r
  | .str _, _, r => by simpa only [Rep] using r
  | .tup ds, v, r => by
    simp only [Rep] at r ⊢
    obtain ⟨a, xs, e, hs, hr⟩ := r
    exact ⟨a, xs, e, same_tup h.1 hs, Reps.le h hr⟩
  | .etp ds, v, r => by
    simp only [Rep] at r ⊢
    obtain ⟨a, o, xs, e, hs, hd, hr⟩ := r
    exact ⟨a, o, xs, e, h.1 _ _ hs, hd, Reps.le h hr⟩
  | .lst ds, v, r => by
    simp only [Rep] at r ⊢
    obtain ⟨a, xs, e, hs, hr⟩ := r
    exact ⟨a, xs, e, h.1 _ _ hs, Reps.le h hr⟩
  | .dct t ks vs, v, r => by
    simp only [Rep] at r ⊢
    obtain ⟨a, o, vx, e, hs, h1, h2⟩ := r
    exact ⟨a, o, vx, e, h.1 _ _ hs, Reps.le h h1, h2.mono fun _ _ => same_tup h.1⟩
  | .ldc t ks vs, v, r => by
    simp only [Rep] at r ⊢
    obtain ⟨a, od, o, vx, e, hs, h1, h2⟩ := r
    exact ⟨a, od, o, vx, e, h.1 _ _ hs, Reps.le h h1, h2.mono fun _ _ => same_tup h.1⟩
  | .row g, v, r => by
    simp only [Rep] at r ⊢
    obtain ⟨a, dx, C, x, e, hm, hs, hr⟩ := r
    exact ⟨a, dx, C, x, e, hm, h.1 _ _ hs, Rep.le h hr⟩
  | .obj n, v, r => by
    simp only [Rep] at r ⊢
    obtain ⟨a, r, e, hs⟩ := r
    exact ⟨a, r, e, h.at hs⟩
  | .fn n, _, r => by simpa only [Rep] using r
  | .scr ns, v, r => by
    simp only [Rep] at r ⊢
    obtain ⟨a, e, hs⟩ := r
    exact ⟨a, e, h.1.seq hs⟩
theorem Reps.le (h : z.le z') : ∀ {ds : List D} {vs : List V}, Reps K mg z ds vs → Reps K mg z' ds vs
  | [], [], _ => by simp only [Reps]
  | d :: ds, v :: vs, r => by
    simp only [Reps] at r ⊢
    exact ⟨Rep.le h r.1, Reps.le h r.2⟩
  | [], _ :: _, r => by simp only [Reps] at r
  | _ :: _, [], r => by simp only [Reps] at r
end
theorem Reps.nil : Reps K mg z [] [] := by simp only [Reps]
theorem Reps.cons {d : D} {v : V} {ds : List D} {vs : List V} (h : Rep K mg z d v) (r : Reps K mg z ds vs) : Reps K mg z (d :: ds) (v :: vs) := by
  simp only [Reps]
  exact ⟨h, r⟩
theorem Reps.uncons {d : D} {ds : List D} {vs : List V} (h : Reps K mg z (d :: ds) vs) : ∃ v vs', vs = v :: vs' ∧ Rep K mg z d v ∧ Reps K mg z ds vs' := by
  cases vs with
  | nil => simp only [Reps] at h
  | cons v vs =>
    simp only [Reps] at h
    exact ⟨v, vs, rfl, h.1, h.2⟩
theorem Reps.nil_of {vs : List V} (h : Reps K mg z [] vs) : vs = [] := by
  cases vs with
  | nil => rfl
  | cons v vs => simp only [Reps] at h
theorem Reps.len : ∀ {ds : List D} {vs : List V}, Reps K mg z ds vs → ds.length = vs.length
  | [], vs, h => by rw [h.nil_of]; rfl
  | d :: ds, vs, h => by
    obtain ⟨v, vs', rfl, _, r⟩ := h.uncons
    rw [List.length_cons, List.length_cons, Reps.len r]
theorem Reps.append : ∀ {ds es : List D} {vs ws : List V}, Reps K mg z ds vs → Reps K mg z es ws → Reps K mg z (ds ++ es) (vs ++ ws)
  | [], _, vs, _, h, k => by rw [h.nil_of]; exact k
  | d :: ds, es, vs, ws, h, k => by
    obtain ⟨v, vs', rfl, a, r⟩ := h.uncons
    exact .cons a (Reps.append r k)
theorem Reps.get : ∀ {ds : List D} {vs : List V} {i : Nat} {d : D}, Reps K mg z ds vs → ds[i]? = some d → ∃ v, vs[i]? = some v ∧ Rep K mg z d v
  | [], _, i, d, _, e => by simp at e
  | d' :: ds, vs, 0, d, h, e => by
    obtain ⟨v, vs', rfl, a, _⟩ := h.uncons
    have : d' = d := by simpa using e
    subst this
    exact ⟨v, rfl, a⟩
  | d' :: ds, vs, i + 1, d, h, e => by
    obtain ⟨v, vs', rfl, _, r⟩ := h.uncons
    exact Reps.get (i := i) r (by simpa using e)
theorem Reps.set : ∀ {ds : List D} {vs : List V} {d : D} {v : V} (i : Nat), Reps K mg z ds vs → Rep K mg z d v → Reps K mg z (ds.set i d) (vs.set i v)
  | [], vs, _, _, i, h, _ => by rw [h.nil_of]; exact .nil
  | _ :: ds, vs, d, v, 0, h, k => by
    obtain ⟨w, vs', rfl, _, r⟩ := h.uncons
    exact .cons k r
  | _ :: ds, vs, d, v, i + 1, h, k => by
    obtain ⟨w, vs', rfl, a, r⟩ := h.uncons
    exact .cons a (Reps.set i r k)
theorem Reps.take : ∀ {ds : List D} {vs : List V} (n : Nat), Reps K mg z ds vs → Reps K mg z (ds.take n) (vs.take n)
  | _, _, 0, _ => .nil
  | [], vs, n + 1, h => by rw [h.nil_of]; exact .nil
  | d :: ds, vs, n + 1, h => by
    obtain ⟨w, vs', rfl, a, r⟩ := h.uncons
    exact .cons a (Reps.take n r)
theorem Reps.drop : ∀ {ds : List D} {vs : List V} (n : Nat), Reps K mg z ds vs → Reps K mg z (ds.drop n) (vs.drop n)
  | _, _, 0, h => h
  | [], vs, n + 1, h => by rw [h.nil_of]; exact .nil
  | d :: ds, vs, n + 1, h => by
    obtain ⟨w, vs', rfl, a, r⟩ := h.uncons
    exact Reps.drop n r
theorem Reps.ints : ∀ {ns : List Int} {vs : List V}, Reps K mg z (ns.map D.int) vs → vs = ns.map V.int
  | [], vs, h => h.nil_of
  | n :: ns, vs, h => by
    obtain ⟨w, vs', rfl, a, r⟩ := h.uncons
    simp only [Rep] at a
    rw [a, Reps.ints r]
    rfl
theorem Reps.of_ints : ∀ {ns : List Int}, Reps K mg z (ns.map D.int) (ns.map V.int)
  | [] => .nil
  | n :: ns => .cons (by simp only [Rep]) Reps.of_ints
end
abbrev Own := Addr → Option (Sum Nat Nat)
def ExcSl (z : Fz) (v : Option V) (a : Addr) (d : Option Addr) (x : Exn) : Prop := v = some (.ref a) ∧ ∀ l w, x.args = [.int l, .int w] → ∃ dd fs, d = some dd ∧ z.F dd = some (.xd fs) ∧ fs.lookup ("line" : Str) = some (.int l) ∧ fs.lookup ("word" : Str) = some (.int w)
theorem ExcSl.le {z z' : Fz} {v : Option V} {a : Addr} {d : Option Addr} {x : Exn} (h : z.le z') (q : ExcSl z v a d x) : ExcSl z' v a d x :=
  ⟨q.1, fun l w e => let ⟨dd, fs, h1, h2, h3⟩ := q.2 l w e; ⟨dd, fs, h1, h.1 _ _ h2, h3⟩⟩
section
variable (K : PySem.W.Frag) (mg : Str → Option Value)
def COk (z : Fz) (a : Addr) : Cont → HO → Prop
  | .lst ds, o => ∃ xs, o = .lst xs ∧ Reps K mg z ds xs
  | .dct t ks vs, o => ∃ vx, Reps K mg z vs vx ∧ DKeys K z.F a t ks vx o
  | .ldc t ks vs, o => ∃ od u vx, o = .frz od u ∧ Reps K mg z vs vx ∧ DKeys K z.F a t ks vx u
def SlotOk (B : Hp) (z : Fz) (ow : Own) (H : Hp) (i : Nat) (v : Option V) : Slot → Prop
  | .non => True
  | .exc a d x => ExcSl z v a d x
  | .sh d => ∃ x, v = some x ∧ Rep K mg z d x
  | .own c => ∃ a o, v = some (.ref a) ∧ H a = some o ∧ COk K mg z a c o ∧ ow a = some (.inl i)
def ObOk (z : Fz) (ow : Own) (H : Hp) (n : Nat) (fp : List Addr) : Ob → Prop
  | .lst ds => ∃ a xs, fp = [a] ∧ H a = some (.lst xs) ∧ Reps K mg z ds xs ∧ ow a = some (.inr n)
  | .ins c fs => ∃ a dx C vs, fp = [a] ∧ mg c = some (.ref C) ∧ H a = some (.ins C dx ((fs.map (·.1)).zip vs)) ∧ Reps K mg z (fs.map (·.2)) vs ∧ ow a = some (.inr n)
  | .tab x q => ∃ P ps, fp = [P] ∧ P = (He.cT K (x, none)).2 ∧ H P = some (.tbl ps) ∧ TriplesOk ps.toList ∧ ow P = some (.inr n) ∧ ∀ (pos : Pos) (cv : Value), codeAmong pos ps.toList = some cv → ∃ c, cv = .ref c ∧ H c = some (LamX.CodeO c q) ∧ ow c = some (.inr n)
  | .gen s cs i => ∃ a c, fp = [a, c] ∧ a ≠ c ∧ H a = some (.lst [.int s, .ref c, .int i]) ∧ H c = some (.lst (cs.map V.int)) ∧ ow a = some (.inr n) ∧ ow c = some (.inr n)
structure StOk (B F0 : Hp) (z : Fz) (ow : Own) (ρ : List Slot) (m : List Ob) (σ : St) (H : Hp) : Prop where
  fh : Same z.F H
  bh : Same B H
  f0 : Same F0 z.F
  new : ∀ a, z.F a ≠ none → F0 a ≠ none ∨ B a = none
  len : σ.length = ρ.length
  slot : ∀ i s, ρ[i]? = some s → SlotOk K mg B z ow H i (σ[i]?.join) s
  ol : z.As.length = m.length
  ob : ∀ n o, m[n]? = some o → ∃ fp, z.As[n]? = some fp ∧ ObOk K mg z ow H n fp o
  ow : ∀ a o, ow a = some o → z.F a = none ∧ B a = none ∧ H a ≠ none
end
section
variable {K : PySem.W.Frag} {mg : Str → Option Value} {z z' : Fz} {B B' F0 : Hp} {ow ow' : Own} {ρ : List Slot} {m : List Ob} {σ : St} {H H' : Hp}
theorem COk.le (h : z.le z') {c : Cont} {a : Addr} {o : HO} (r : COk K mg z a c o) : COk K mg z' a c o := by
  cases c with
  | lst ds => obtain ⟨xs, e, r⟩ := r; exact ⟨xs, e, r.le h⟩
  | dct t ks vs => obtain ⟨vx, r1, r2⟩ := r; exact ⟨vx, r1.le h, r2.mono fun _ _ => same_tup h.1⟩
  | ldc t ks vs => obtain ⟨od, u, vx, e, r1, r2⟩ := r; exact ⟨od, u, vx, e, r1.le h, r2.mono fun _ _ => same_tup h.1⟩
theorem ObOk.mono {n : Nat} {fp : List Addr} {o : Ob} (hz : z.le z') (h : ∀ a, ow a = some (.inr n) → ow' a = some (.inr n)) (hH : ∀ a u, ow a = some (.inr n) → H a = some u → H' a = some u) (q : ObOk K mg z ow H n fp o) : ObOk K mg z' ow' H' n fp o := by
  cases o with
  | gen s cs i =>
    obtain ⟨a, c, e2, ne, h1, h2, w1, w2⟩ := q
    exact ⟨a, c, e2, ne, hH _ _ w1 h1, hH _ _ w2 h2, h _ w1, h _ w2⟩
  | lst ds =>
    obtain ⟨a, xs, e, h1, r, w⟩ := q
    exact ⟨a, xs, e, hH _ _ w h1, r.le hz, h _ w⟩
  | ins c fs =>
    obtain ⟨a, dx, C, vs, e, hC, h1, r, w⟩ := q
    exact ⟨a, dx, C, vs, e, hC, hH _ _ w h1, r.le hz, h _ w⟩
  | tab x q0 =>
    obtain ⟨P, ps, e, eP, h1, ht, w, hc⟩ := q
    refine ⟨P, ps, e, eP, hH _ _ w h1, ht, h _ w, fun pos cv hcv => ?_⟩
    obtain ⟨c, e1, e2, w2⟩ := hc pos cv hcv
    exact ⟨c, e1, hH _ _ w2 e2, h _ w2⟩
theorem StOk.heap (S : StOk K mg B F0 z ow ρ m σ H) (hf : Same z.F H') (hb : Same B H') (ho : ∀ a o, ow a ≠ none → H a = some o → H' a = some o) : StOk K mg B F0 z ow ρ m σ H' where
  fh := hf
  bh := hb
  f0 := S.f0
  new := S.new
  len := S.len
  slot := fun i s e => by
    have q := S.slot i s e
    cases s with
    | non => trivial
    | exc a d x => exact q
    | sh d => exact q
    | own c =>
      obtain ⟨a, o, e1, e2, c1, w⟩ := q
      exact ⟨a, o, e1, ho a o (by rw [w]; simp) e2, c1, w⟩
  ol := S.ol
  ob := fun n o e => by
    obtain ⟨fp, e1, q⟩ := S.ob n o e
    exact ⟨fp, e1, q.mono (Fz.le.refl _) (fun _ w => w) fun a u w h => ho a u (by rw [w]; simp) h⟩
  ow := fun a o e => by
    obtain ⟨h1, h2, h3⟩ := S.ow a o e
    refine ⟨h1, h2, fun q => ?_⟩
    cases r : H a with
    | none => exact h3 r
    | some u => rw [ho a u (by rw [e]; simp) r] at q; cases q
theorem StOk.same (S : StOk K mg B F0 z ow ρ m σ H) (h : Same H H') : StOk K mg B F0 z ow ρ m σ H' := S.heap (S.fh.trans h) (S.bh.trans h) fun a o _ e => h a o e
theorem StOk.new_none (S : StOk K mg B F0 z ow ρ m σ H) {p : Addr} (h : H p = none) : z.F p = none ∧ B p = none ∧ F0 p = none ∧ ow p = none :=
  ⟨S.fh.free h, S.bh.free h, S.f0.free (S.fh.free h), by
    cases q : ow p with
    | none => rfl
    | some o => exact absurd h (S.ow p o q).2.2⟩
theorem StOk.alloc (S : StOk K mg B F0 z ow ρ m σ H) {p : Addr} (h : H p = none) (o : HO) : StOk K mg B F0 z ow ρ m σ (upd H p o) := S.same (same_upd h)
theorem Fz.le_upd {p : Addr} {o : HO} (h : z.F p = none) : z.le ⟨upd z.F p o, z.As⟩ := ⟨same_upd h, [], (List.append_nil _).symm⟩
theorem SlotOk.le (h : z.le z') {i : Nat} {v : Option V} {s : Slot} (q : SlotOk K mg B z ow H i v s) : SlotOk K mg B' z' ow H i v s := by
  cases s with
  | non => trivial
  | exc a d x => exact ExcSl.le h q
  | sh d => obtain ⟨x, e, r⟩ := q; exact ⟨x, e, r.le h⟩
  | own c => obtain ⟨a, o, e1, e2, c1, w⟩ := q; exact ⟨a, o, e1, e2, c1.le h, w⟩
theorem StOk.freeze (S : StOk K mg B F0 z ow ρ m σ H) {p : Addr} {o : HO} (h : H p = some o) (hf : z.F p = none) (hB : B p = none) (hw : ow p = none) : StOk K mg B F0 ⟨upd z.F p o, z.As⟩ ow ρ m σ H where
  fh := fun b x e => by
    by_cases hb : b = p
    · subst hb
      rw [show (Fz.F ⟨upd z.F b o, z.As⟩) = upd z.F b o from rfl, upd_same] at e
      cases e
      exact h
    · rw [show (Fz.F ⟨upd z.F p o, z.As⟩) = upd z.F p o from rfl, upd_ne hb] at e
      exact S.fh b x e
  bh := S.bh
  f0 := S.f0.trans (same_upd hf)
  new := fun a e => by
    by_cases hb : a = p
    · subst hb; exact .inr hB
    · rw [show (Fz.F ⟨upd z.F p o, z.As⟩) = upd z.F p o from rfl, upd_ne hb] at e
      exact S.new a e
  len := S.len
  slot := fun i s e => (S.slot i s e).le (Fz.le_upd hf)
  ol := S.ol
  ob := fun n o e => by
    obtain ⟨fp, e1, q⟩ := S.ob n o e
    exact ⟨fp, e1, q.mono (Fz.le_upd hf) (fun _ w => w) fun _ _ _ h => h⟩
  ow := fun a u e => by
    have q := S.ow a u e
    refine ⟨?_, q.2⟩
    show upd z.F p o a = none
    rw [upd_ne (fun z => by subst z; rw [hw] at e; cases e)]
    exact q.1
theorem StOk.weak (S : StOk K mg B' F0 z ow ρ m σ H) (h : Same B B') : StOk K mg B F0 z ow ρ m σ H where
  fh := S.fh
  bh := h.trans S.bh
  f0 := S.f0
  new := fun a e => (S.new a e).imp id fun q => h.free q
  len := S.len
  slot := fun i s e => (S.slot i s e).le (Fz.le.refl z)
  ol := S.ol
  ob := S.ob
  ow := fun a o e => let q := S.ow a o e; ⟨q.1, h.free q.2.1, q.2.2⟩
theorem StOk.keep (S : StOk K mg B F0 z ow ρ m σ H) {p : Addr} (h : H p = none) (o : HO) : StOk K mg (upd B p o) F0 z ow ρ m σ (upd H p o) := by
  obtain ⟨hf, hb, h0, hw⟩ := S.new_none h
  have S' := S.alloc h o
  refine ⟨S'.fh, fun b x e => ?_, S.f0, fun a e => ?_, S.len, fun i s e => (S'.slot i s e).le (Fz.le.refl z), S.ol, S'.ob, fun a u e => ?_⟩
  · by_cases hbp : b = p
    · subst hbp; rw [upd_same] at e ⊢; exact e
    · rw [upd_ne hbp] at e ⊢; exact S.bh b x e
  · have : a ≠ p := fun q => e (by rw [q]; exact hf)
    rw [upd_ne this]
    exact S.new a e
  · have : a ≠ p := fun q => by rw [q, hw] at e; cases e
    obtain ⟨q1, q2, q3⟩ := S'.ow a u e
    exact ⟨q1, by rw [upd_ne this]; exact q2, q3⟩
def Own.drop (ow : Own) (i : Nat) : Own := fun a => if ow a = some (.inl i) then none else ow a
theorem Own.drop_some {i : Nat} {a : Addr} {o : Sum Nat Nat} (h : ow.drop i a = some o) : ow a = some o ∧ o ≠ .inl i := by
  unfold Own.drop at h
  split at h
  · cases h
  · rename_i h1
    exact ⟨h, fun e => h1 (by rw [h, e])⟩
theorem Own.drop_ne {i : Nat} {a : Addr} {o : Sum Nat Nat} (h : ow a = some o) (hn : o ≠ .inl i) : ow.drop i a = some o := by
  unfold Own.drop
  rw [if_neg (fun e => hn (by rw [h] at e; exact Option.some.inj e))]
  exact h
theorem join_set {σ : St} {i : Nat} {v : Option V} (h : i < σ.length) : ((σ.set i v)[i]?).join = v := by
  rw [List.getElem?_set_self h]; rfl
theorem join_set_ne {σ : St} {i j : Nat} {v : Option V} (h : i ≠ j) : ((σ.set i v)[j]?).join = (σ[j]?).join := by
  rw [List.getElem?_set_ne h]
theorem StOk.setSh (S : StOk K mg B F0 z ow ρ m σ H) {i : Nat} {d : D} {v : V} (r : Rep K mg z d v) : StOk K mg B F0 z (ow.drop i) (ρ.set i (.sh d)) m (σ.set i (some v)) H where
  fh := S.fh
  bh := S.bh
  f0 := S.f0
  new := S.new
  len := by simpa using S.len
  slot := fun j s e => by
    by_cases hj : i = j
    · subst hj
      obtain ⟨hl, _⟩ := List.getElem?_eq_some_iff.mp e
      have hl' : i < ρ.length := by simpa using hl
      rw [List.getElem?_set_self hl'] at e
      cases e
      exact ⟨v, join_set (by rw [S.len]; exact hl'), r⟩
    · rw [List.getElem?_set_ne hj] at e
      rw [join_set_ne hj]
      have q := S.slot j s e
      cases s with
      | non => trivial
      | exc a d x => exact q
      | sh d => exact q
      | own c =>
        obtain ⟨a, o, e1, e2, c1, w⟩ := q
        exact ⟨a, o, e1, e2, c1, Own.drop_ne w (fun z => hj (Sum.inl.inj z).symm)⟩
  ol := S.ol
  ob := fun n o e => by
    obtain ⟨fp, e1, q⟩ := S.ob n o e
    exact ⟨fp, e1, q.mono (Fz.le.refl _) (fun a h => Own.drop_ne h (fun z => by cases z)) fun _ _ _ h => h⟩
  ow := fun a o e => S.ow a o (Own.drop_some e).1
theorem StOk.setNon (S : StOk K mg B F0 z ow ρ m σ H) {i : Nat} (v : Option V) : StOk K mg B F0 z (ow.drop i) (ρ.set i .non) m (σ.set i v) H where
  fh := S.fh
  bh := S.bh
  f0 := S.f0
  new := S.new
  len := by simpa using S.len
  slot := fun j s e => by
    by_cases hj : i = j
    · subst hj
      obtain ⟨hl, _⟩ := List.getElem?_eq_some_iff.mp e
      have hl' : i < ρ.length := by simpa using hl
      rw [List.getElem?_set_self hl'] at e
      cases e
      trivial
    · rw [List.getElem?_set_ne hj] at e
      rw [join_set_ne hj]
      have q := S.slot j s e
      cases s with
      | non => trivial
      | exc a d x => exact q
      | sh d => exact q
      | own c =>
        obtain ⟨a, o, e1, e2, c1, w⟩ := q
        exact ⟨a, o, e1, e2, c1, Own.drop_ne w (fun z => hj (Sum.inl.inj z).symm)⟩
  ol := S.ol
  ob := fun n o e => by
    obtain ⟨fp, e1, q⟩ := S.ob n o e
    exact ⟨fp, e1, q.mono (Fz.le.refl _) (fun a h => Own.drop_ne h (fun z => by cases z)) fun _ _ _ h => h⟩
  ow := fun a o e => S.ow a o (Own.drop_some e).1
def Own.put (ow : Own) (i : Nat) (p : Addr) : Own := fun a => if a = p then some (.inl i) else ow.drop i a
theorem StOk.setOwn (S : StOk K mg B F0 z ow ρ m σ H) {i : Nat} {c : Cont} {p : Addr} {o : HO} (hp : H p = some o) (hf : z.F p = none) (hB : B p = none) (hw : ow p = none) (r : COk K mg z p c o) :
    StOk K mg B F0 z (ow.put i p) (ρ.set i (.own c)) m (σ.set i (some (.ref p))) H where
  fh := S.fh
  bh := S.bh
  f0 := S.f0
  new := S.new
  len := by simpa using S.len
  slot := fun j s e => by
    by_cases hj : i = j
    · subst hj
      obtain ⟨hl, _⟩ := List.getElem?_eq_some_iff.mp e
      have hl' : i < ρ.length := by simpa using hl
      rw [List.getElem?_set_self hl'] at e
      cases e
      exact ⟨p, o, join_set (by rw [S.len]; exact hl'), hp, r, if_pos rfl⟩
    · rw [List.getElem?_set_ne hj] at e
      rw [join_set_ne hj]
      have q := S.slot j s e
      cases s with
      | non => trivial
      | exc a d x => exact q
      | sh d => exact q
      | own c =>
        obtain ⟨a, o, e1, e2, c1, w⟩ := q
        refine ⟨a, o, e1, e2, c1, ?_⟩
        have : a ≠ p := fun z => by rw [z, hw] at w; cases w
        show (if a = p then some (.inl i) else ow.drop i a) = _
        rw [if_neg this]
        exact Own.drop_ne w (fun z => hj (Sum.inl.inj z).symm)
  ol := S.ol
  ob := fun n o e => by
    obtain ⟨fp, e1, q⟩ := S.ob n o e
    refine ⟨fp, e1, q.mono (Fz.le.refl _) (fun a h => ?_) fun _ _ _ h => h⟩
    have : a ≠ p := fun z => by rw [z, hw] at h; cases h
    show (if a = p then some (.inl i) else ow.drop i a) = _
    rw [if_neg this]
    exact Own.drop_ne h (fun z => by cases z)
  ow := fun a u e => by
    have e : (if a = p then some (.inl i) else ow.drop i a) = some u := e
    split at e
    · rename_i h1
      subst h1
      exact ⟨hf, hB, by rw [hp]; simp⟩
    · exact S.ow a u (Own.drop_some e).1
theorem StOk.change (S : StOk K mg B F0 z ow ρ m σ H) {i : Nat} {c c' : Cont} (hc : ρ[i]? = some (.own c)) {p : Addr} {o : HO} (hp : σ[i]? = some (some (V.ref p))) (r : COk K mg z p c' o) :
    StOk K mg B F0 z ow (ρ.set i (.own c')) m σ (upd H p o) := by
  obtain ⟨a, o0, e1, e2, c1, w⟩ := S.slot i _ hc
  rw [hp] at e1
  cases e1
  obtain ⟨hf, hB, _⟩ := S.ow _ _ w
  have other : ∀ b u, b ≠ p → H b = some u → upd H p o b = some u := fun b u hb e => by rw [upd_ne hb]; exact e
  refine ⟨fun b x e => other b x (fun z => by subst z; rw [hf] at e; cases e) (S.fh b x e), fun b x e => other b x (fun z => by subst z; rw [hB] at e; cases e) (S.bh b x e), S.f0, S.new, by simpa using S.len, fun j s e => ?_, S.ol, fun n u e => ?_, fun b u e => ?_⟩
  · by_cases hj : i = j
    · subst hj
      obtain ⟨hl, _⟩ := List.getElem?_eq_some_iff.mp hc
      rw [List.getElem?_set_self hl] at e
      cases e
      exact ⟨p, o, by rw [hp]; rfl, upd_same, r, w⟩
    · rw [List.getElem?_set_ne hj] at e
      have q := S.slot j s e
      cases s with
      | non => trivial
      | exc a d x => exact q
      | sh d => exact q
      | own c =>
        obtain ⟨b, u, e1, e2, c1, w'⟩ := q
        exact ⟨b, u, e1, other b u (fun z => by subst z; rw [w] at w'; exact hj (Sum.inl.inj (Option.some.inj w'))) e2, c1, w'⟩
  · obtain ⟨fp, e1, q⟩ := S.ob n u e
    exact ⟨fp, e1, q.mono (Fz.le.refl _) (fun _ w => w) fun b x w1 h1 => other b x (fun z => by subst z; rw [w] at w1; cases w1) h1⟩
  · obtain ⟨q1, q2, q3⟩ := S.ow b u e
    refine ⟨q1, q2, ?_⟩
    by_cases hb : b = p
    · subst hb; rw [upd_same]; simp
    · rw [upd_ne hb]; exact q3
theorem StOk.shut (S : StOk K mg B F0 z ow ρ m σ H) {i : Nat} {c : Cont} (hc : ρ[i]? = some (.own c)) : ∃ p o, σ[i]? = some (some (.ref p)) ∧ H p = some o ∧ COk K mg z p c o ∧ z.F p = none ∧
    StOk K mg B F0 ⟨upd z.F p o, z.As⟩ (ow.drop i) (ρ.set i .non) m σ H := by
  obtain ⟨a, o, e1, e2, c1, w⟩ := S.slot i _ hc
  obtain ⟨hf, hB, _⟩ := S.ow _ _ w
  obtain ⟨hl, _⟩ := List.getElem?_eq_some_iff.mp hc
  have hσ : i < σ.length := by rw [S.len]; exact hl
  have e3 : σ[i]? = some (some (.ref a)) := by
    rw [List.getElem?_eq_getElem hσ] at e1 ⊢
    exact congrArg some e1
  have S2 := S.setNon (i := i) (some (.ref a))
  have es : σ.set i (some (.ref a)) = σ := by
    apply List.ext_getElem?
    intro j
    by_cases hj : i = j
    · subst hj; rw [List.getElem?_set_self hσ, e3]
    · rw [List.getElem?_set_ne hj]
  rw [es] at S2
  refine ⟨a, o, e3, e2, c1, hf, S2.freeze e2 hf hB ?_⟩
  unfold Own.drop
  rw [if_pos w]
end
end PD
namespace PD
open PySem PySem.Spec PyProof.Rows L2
abbrev Den (α : Type) := List Slot → List Ob → Res (α × List Ob)
abbrev Post (α β : Type) := Hp → Hp → Fz → List Slot → St → α → β → Prop
def ExcAt (mg : Str → Option Value) (x : Exn) (cv : Value) (dd : Option Addr) (H : Hp) : Prop :=
  ∃ C, mg x.cls = some (.ref C) ∧ cv = .ref C ∧ (x.args = [] → dd = none) ∧
    ∀ l w, x.args = [.int l, .int w] → ∃ d fs, dd = some d ∧ H d = some (.xd fs) ∧ fs.lookup ("line" : Str) = some (.int l) ∧ fs.lookup ("word" : Str) = some (.int w)
section
variable (K : PySem.W.Frag) (mg : Str → Option Value) (RW : WX)
def Rem {α β : Type} (r : Res (α × List Ob)) (B F0 : Hp) (z : Fz) (ρ : List Slot) (σ : St) (P : Post α β) (Q : β → Hp → Prop) : Prop :=
  match r with
  | .ok (d, m') => ∀ B' z' ow' v H', Same B B' → z.le z' → StOk K mg B' F0 z' ow' ρ m' σ H' → P B B' z' ρ σ d v → Q v H'
  | .err x m' => ∀ z' ow' cv dd H', z.le z' → StOk K mg B F0 z' ow' ρ m' σ H' → ExcAt mg x cv dd z'.F → RW cv dd σ H'
  | .bad => False
def tX {α β : Type} (den : Den α) (P : Post α β) : St → Hp → (β → Hp → Prop) → Prop := fun σ H Q =>
  ∃ B F0 z ow ρ m, StOk K mg B F0 z ow ρ m σ H ∧ Rem K mg RW (den ρ m) B F0 z ρ σ P Q
end
def PMono {α β : Type} (P : Post α β) : Prop := ∀ B B1 B' z ρ σ d v, Same B B1 → P B1 B' z ρ σ d v → P B B' z ρ σ d v
section
variable {K : PySem.W.Frag} {mg : Str → Option Value} {RW : WX} {z z' z1 z2 : Fz} {B B' B1 B2 F0 : Hp} {ow ow' ow1 : Own} {ρ : List Slot} {m m1 : List Ob} {σ : St} {H H' H1 : Hp}
theorem Rem.mono {α β : Type} {r : Res (α × List Ob)} {P : Post α β} {Q : β → Hp → Prop} (hP : PMono P) (hB : Same B B1) (hz : z.le z1) (h : Rem K mg RW r B F0 z ρ σ P Q) : Rem K mg RW r B1 F0 z1 ρ σ P Q := by
  cases r with
  | ok a =>
    obtain ⟨d, m'⟩ := a
    intro B' z' ow' v H' b1 z1 S p
    exact h B' z' ow' v H' (hB.trans b1) (hz.trans z1) S (hP _ _ _ _ _ _ _ _ hB p)
  | err x m' =>
    intro z' ow' cv dd H' z1 S e
    exact h z' ow' cv dd H' (hz.trans z1) (S.weak hB) e
  | bad => exact h
theorem Rem.step {α β γ δ : Type} {r : Res (α × List Ob)} {f : α × List Ob → Res (γ × List Ob)} {P1 : Post α β} {P : Post γ δ} {Q1 : β → Hp → Prop} {Q : δ → Hp → Prop} (hP : PMono P) (h : Rem K mg RW (r.bind f) B F0 z ρ σ P Q)
    (k : ∀ a m1 B1 z1 ow1 v H1, Same B B1 → z.le z1 → StOk K mg B1 F0 z1 ow1 ρ m1 σ H1 → P1 B B1 z1 ρ σ a v → Rem K mg RW (f (a, m1)) B1 F0 z1 ρ σ P Q → Q1 v H1) : Rem K mg RW r B F0 z ρ σ P1 Q1 := by
  cases r with
  | ok a =>
    obtain ⟨d, m'⟩ := a
    intro B1 z1 ow1 v H1 hB hz S p
    exact k d m' B1 z1 ow1 v H1 hB hz S p (Rem.mono hP hB hz h)
  | err x m' => exact h
  | bad => exact h
theorem Rem.here {α β : Type} {d : α} {P : Post α β} {Q : β → Hp → Prop} {v : β} (h : Rem K mg RW (.ok (d, m)) B F0 z ρ σ P Q) (S : StOk K mg B F0 z ow1 ρ m σ H1) (p : P B B z ρ σ d v) : Q v H1 :=
  h B z ow1 v H1 (Same.refl _) (Fz.le.refl _) S p
theorem tX.imp {α β γ δ : Type} {den : Den α} {den' : Den γ} {P : Post α β} {P' : Post γ δ} {Q : β → Hp → Prop} {Q' : δ → Hp → Prop} (h : tX K mg RW den P σ H Q)
    (k : ∀ B F0 z ow ρ m, StOk K mg B F0 z ow ρ m σ H → Rem K mg RW (den ρ m) B F0 z ρ σ P Q → Rem K mg RW (den' ρ m) B F0 z ρ σ P' Q') : tX K mg RW den' P' σ H Q' := by
  obtain ⟨B, F0, z, ow, ρ, m, S, h⟩ := h
  exact ⟨B, F0, z, ow, ρ, m, S, k _ _ _ _ _ _ S h⟩
end
theorem PE.imp {X : Cx} {e : Expr} {t t' : TE} (h : PE X e t) (k : ∀ σ H Q, t' σ H Q → t σ H Q) : PE X e t' := ⟨fun pins s σ H Q I q => h.run pins s σ H Q I (k σ H Q q)⟩
theorem PT.imp {X : Cx} {e : Expr} {t t' : TT} (h : PT X e t) (k : ∀ σ H Q, t' σ H Q → t σ H Q) : PT X e t' := ⟨fun pins s σ H Q I q => h.run pins s σ H Q I (k σ H Q q)⟩
theorem PA.imp {X : Cx} {e : List Expr} {t t' : TA} (h : PA X e t) (k : ∀ σ H Q, t' σ H Q → t σ H Q) : PA X e t' := ⟨fun pos pins s σ H Q I q => h.run pos pins s σ H Q I (k σ H Q q)⟩
theorem PS.imp {X : Cx} {e : Stmt} {t t' : TS} (h : PS X e t) (k : ∀ D σ H, t' D σ H → t D σ H) : PS X e t' := ⟨fun pins s σ H D I q => h.run pins s σ H D I (k D σ H q)⟩
theorem PSs.imp {X : Cx} {e : List Stmt} {t t' : TS} (h : PSs X e t) (k : ∀ D σ H, t' D σ H → t D σ H) : PSs X e t' := ⟨fun pins s σ H D I q => h.run pins s σ H D I (k D σ H q)⟩
section
variable (K : PySem.W.Frag) (mg : Str → Option Value)
def pVal : Post D V := fun _ _ z _ _ d v => Rep K mg z d v
def Peek (B : Hp) (z : Fz) (ρ : List Slot) (σ : St) (c : Cont) (v : V) : Prop :=
  ∃ a, v = .ref a ∧ ((∃ o, B a = some o ∧ COk K mg z a c o) ∨ ∃ i : Nat, ρ[i]? = some (Slot.own c) ∧ σ[i]? = some (some (V.ref a)))
def pLook : Post D V := fun _ B' z ρ σ d v => Rep K mg z d v ∨ ∃ c, d = c.d ∧ Peek K mg B' z ρ σ c v
def pNew : Post Cont V := fun B B' z _ _ c v => ∃ p o, v = .ref p ∧ B p = none ∧ B' p = some o ∧ z.F p = none ∧ COk K mg z p c o
def pTest : Post Bool Bool := fun _ _ _ _ _ d v => v = d
def pVals : Post (List D) (List V) := fun _ _ z _ _ ds vs => Reps K mg z ds vs
def pLooks : Post (List D) (List V) := fun _ B' z ρ σ ds vs => ds.length = vs.length ∧ ∀ (i : Nat) d v, ds[i]? = some d → vs[i]? = some v → pLook K mg B' B' z ρ σ d v
end
section
variable {K : PySem.W.Frag} {mg : Str → Option Value} {RW : WX} {z z' z1 z2 : Fz} {B B' B1 B2 F0 : Hp} {ow ow' ow1 : Own} {ρ : List Slot} {m m1 : List Ob} {σ : St} {H H' H1 : Hp}
theorem pVal.pm : PMono (pVal K mg) := fun _ _ _ _ _ _ _ _ _ h => h
theorem pLook.pm : PMono (pLook K mg) := fun _ _ _ _ _ _ _ _ _ h => h
theorem pTest.pm : PMono pTest := fun _ _ _ _ _ _ _ _ _ h => h
theorem pVals.pm : PMono (pVals K mg) := fun _ _ _ _ _ _ _ _ _ h => h
theorem pLooks.pm : PMono (pLooks K mg) := fun _ _ _ _ _ _ _ _ _ h => h
theorem pNew.pm : PMono (pNew K mg) := fun _ _ _ _ _ _ _ _ h ⟨p, o, e, h1, h2⟩ => ⟨p, o, e, h.free h1, h2⟩
theorem Peek.mono {c : Cont} {v : V} (hB : Same B B1) (hz : z.le z1) (h : Peek K mg B z ρ σ c v) : Peek K mg B1 z1 ρ σ c v := by
  obtain ⟨a, e, h⟩ := h
  refine ⟨a, e, ?_⟩
  rcases h with ⟨o, h1, h2⟩ | h
  · exact .inl ⟨o, hB _ _ h1, h2.le hz⟩
  · exact .inr h
theorem look_mono {d : D} {v : V} (hB : Same B1 B2) (hz : z1.le z2) (h : pLook K mg B B1 z1 ρ σ d v) : pLook K mg B' B2 z2 ρ σ d v :=
  h.imp (fun r => r.le hz) fun ⟨c, e, p⟩ => ⟨c, e, p.mono hB hz⟩
theorem Peek.get {c : Cont} {v : V} (S : StOk K mg B F0 z ow ρ m σ H) (h : Peek K mg B z ρ σ c v) : ∃ a o, v = .ref a ∧ H a = some o ∧ COk K mg z a c o := by
  obtain ⟨a, e, h⟩ := h
  rcases h with ⟨o, h1, h2⟩ | ⟨i, h1, h2⟩
  · exact ⟨a, o, e, S.bh _ _ h1, h2⟩
  · obtain ⟨b, o, e1, e2, c1, _⟩ := S.slot i _ h1
    rw [h2] at e1
    cases e1
    exact ⟨a, o, e, e2, c1⟩
theorem rep_cont {c : Cont} {v : V} (S : StOk K mg B F0 z ow ρ m σ H) (h : Rep K mg z c.d v) : ∃ a o, v = .ref a ∧ H a = some o ∧ COk K mg z a c o := by
  cases c with
  | lst ds =>
    simp only [Cont.d, Rep] at h
    obtain ⟨a, xs, e, h1, h2⟩ := h
    exact ⟨a, _, e, S.fh _ _ h1, xs, rfl, h2⟩
  | dct t ks vs =>
    simp only [Cont.d, Rep] at h
    obtain ⟨a, o, vx, e, h1, h2, h3⟩ := h
    exact ⟨a, o, e, S.fh _ _ h1, vx, h2, h3⟩
  | ldc t ks vs =>
    simp only [Cont.d, Rep] at h
    obtain ⟨a, od, o, vx, e, h1, h2, h3⟩ := h
    exact ⟨a, _, e, S.fh _ _ h1, od, o, vx, rfl, h2, h3⟩
theorem Cont.d_inj {c c' : Cont} (h : c.d = c'.d) : c = c' := by
  cases c <;> cases c' <;> simp only [Cont.d, D.lst.injEq, D.dct.injEq, D.ldc.injEq, reduceCtorEq] at h
  · rw [h]
  · obtain ⟨rfl, rfl, rfl⟩ := h; rfl
  · obtain ⟨rfl, rfl, rfl⟩ := h; rfl
theorem look_cont {c : Cont} {v : V} (S : StOk K mg B F0 z ow ρ m σ H) (h : pLook K mg B' B z ρ σ c.d v) : ∃ a o, v = .ref a ∧ H a = some o ∧ COk K mg z a c o := by
  rcases h with h | ⟨c', e, h⟩
  · exact rep_cont S h
  · cases Cont.d_inj e
    exact h.get S
theorem look_list {ds : List D} {v : V} (S : StOk K mg B F0 z ow ρ m σ H) (h : pLook K mg B' B z ρ σ (.lst ds) v) : ∃ a xs, v = .ref a ∧ H a = some (.lst xs) ∧ Reps K mg z ds xs := by
  obtain ⟨a, o, e, h1, xs, rfl, h2⟩ := look_cont (c := .lst ds) S h
  exact ⟨a, xs, e, h1, h2⟩
theorem look_rep {d : D} {v : V} (h : pLook K mg B' B z ρ σ d v) (hn : ∀ c : Cont, d ≠ c.d) : Rep K mg z d v := by
  rcases h with h | ⟨c, e, _⟩
  · exact h
  · exact absurd e (hn c)
theorem look_int {i : Int} {v : V} (h : pLook K mg B' B z ρ σ (.int i) v) : v = .int i := by
  have := look_rep h (fun c => by cases c <;> simp [Cont.d])
  simpa only [Rep] using this
theorem look_bl {i : Bool} {v : V} (h : pLook K mg B' B z ρ σ (.bl i) v) : v = .bl i := by
  have := look_rep h (fun c => by cases c <;> simp [Cont.d])
  simpa only [Rep] using this
theorem look_non {v : V} (h : pLook K mg B' B z ρ σ .non v) : v = .non := by
  have := look_rep h (fun c => by cases c <;> simp [Cont.d])
  simpa only [Rep] using this
theorem look_str {i : Str} {v : V} (h : pLook K mg B' B z ρ σ (.str i) v) : v = .str i := by
  have := look_rep h (fun c => by cases c <;> simp [Cont.d])
  simpa only [Rep] using this
theorem look_tup {ds : List D} {v : V} (S : StOk K mg B F0 z ow ρ m σ H) (h : pLook K mg B' B z ρ σ (.tup ds) v) : ∃ a xs, v = .ref a ∧ SqT K H a xs ∧ Reps K mg z ds xs := by
  have := look_rep h (fun c => by cases c <;> simp [Cont.d])
  simp only [Rep] at this
  obtain ⟨a, xs, e, h1, h2⟩ := this
  exact ⟨a, xs, e, same_tup S.fh h1, h2⟩
theorem rep_int {i : Int} {v : V} : Rep K mg z (.int i) v ↔ v = .int i := by simp only [Rep]
theorem rep_bl {i : Bool} {v : V} : Rep K mg z (.bl i) v ↔ v = .bl i := by simp only [Rep]
theorem rep_non {v : V} : Rep K mg z .non v ↔ v = .non := by simp only [Rep]
theorem rep_str {i : Str} {v : V} : Rep K mg z (.str i) v ↔ v = .str i := by simp only [Rep]
theorem rep_of_cok {c : Cont} {p : Addr} {o : HO} (h : z.F p = some o) (r : COk K mg z p c o) : Rep K mg z c.d (.ref p) := by
  cases c with
  | lst ds =>
    obtain ⟨xs, rfl, r⟩ := r
    simp only [Cont.d, Rep]
    exact ⟨p, xs, rfl, h, r⟩
  | dct t ks vs =>
    obtain ⟨vx, r1, r2⟩ := r
    simp only [Cont.d, Rep]
    exact ⟨p, o, vx, rfl, h, r1, r2⟩
  | ldc t ks vs =>
    obtain ⟨od, u, vx, rfl, r1, r2⟩ := r
    simp only [Cont.d, Rep]
    exact ⟨p, od, u, vx, rfl, h, r1, r2⟩
theorem StOk.noown (S : StOk K mg B F0 z ow ρ m σ H) {p : Addr} {o : HO} (h : B p = some o) : ow p = none := by
  cases q : ow p with
  | none => rfl
  | some u => rw [(S.ow p u q).2.1] at h; cases h
end
def dN2V (den : Den Cont) : Den D := fun ρ m => (den ρ m).bind fun r => .ok (r.1.d, r.2)
section
variable {X : Cx} {RW : WX} {e : Expr}
theorem val_look {den : Den D} (h : PE X e (tX X.K X.mg RW den (pVal X.K X.mg))) : PE X e (tX X.K X.mg RW den (pLook X.K X.mg)) :=
  PE.imp h fun σ H Q q => tX.imp q fun B F0 z ow ρ m S r => by
    cases hd : den ρ m with
    | ok a =>
      obtain ⟨d, m'⟩ := a
      rw [hd] at r
      intro B' z' ow' v H' hB hz S' p
      exact r B' z' ow' v H' hB hz S' (.inl p)
    | err x m' => rw [hd] at r; exact r
    | bad => rw [hd] at r; exact r
theorem new_look {den : Den Cont} (h : PE X e (tX X.K X.mg RW den (pNew X.K X.mg))) : PE X e (tX X.K X.mg RW (dN2V den) (pLook X.K X.mg)) :=
  PE.imp h fun σ H Q q => tX.imp q fun B F0 z ow ρ m S r => by
    refine Rem.step pLook.pm r fun c m1 B1 z1 ow1 v H1 hB hz S1 p r1 => ?_
    obtain ⟨p, o, e, h1, h2, h3, h4⟩ := p
    exact r1.here S1 (.inr ⟨c, rfl, p, e, .inl ⟨o, h2, h4⟩⟩)
theorem new_val {den : Den Cont} (h : PE X e (tX X.K X.mg RW den (pNew X.K X.mg))) : PE X e (tX X.K X.mg RW (dN2V den) (pVal X.K X.mg)) :=
  PE.imp h fun σ H Q q => tX.imp q fun B F0 z ow ρ m S r => by
    cases hd : den ρ m with
    | ok a =>
      obtain ⟨c, m'⟩ := a
      unfold dN2V at r
      rw [hd] at r
      intro B' z' ow' v H' hB hz S' p
      obtain ⟨p, o, e, h1, h2, h3, h4⟩ := p
      have S2 := (S'.weak hB).freeze (S'.bh _ _ h2) h3 h1 (S'.noown h2)
      refine r B _ ow' v H' (Same.refl _) (hz.trans (Fz.le_upd h3)) S2 ?_
      subst e
      exact rep_of_cok (z := ⟨upd z'.F p o, z'.As⟩) (show upd z'.F p o p = some o from upd_same) (h4.le (Fz.le_upd h3))
    | err x m' => unfold dN2V at r; rw [hd] at r; exact r
    | bad => unfold dN2V at r; rw [hd] at r; exact r
end
def slotAt : List Slot → Nat → Slot
  | [], _ => .non
  | s :: _, 0 => s
  | _ :: r, n + 1 => slotAt r n
theorem slotAt_get : ∀ {ρ : List Slot} {i : Nat} {s : Slot}, slotAt ρ i = s → s ≠ .non → ρ[i]? = some s
  | [], _, _, h, n => absurd h.symm n
  | t :: _, 0, s, h, _ => by simpa [slotAt] using h
  | _ :: r, i + 1, s, h, n => by simpa using slotAt_get (ρ := r) (i := i) h n
def dV (i : Nat) : Den D := fun ρ m => match slotAt ρ i with
  | .sh d => .ok (d, m)
  | _ => .bad
def dL (i : Nat) : Den D := fun ρ m => match slotAt ρ i with
  | .sh d => .ok (d, m)
  | .own c => .ok (c.d, m)
  | _ => .bad
def dC (d : D) : Den D := fun _ m => .ok (d, m)
section
variable {X : Cx} {RW : WX} {e : Expr}
theorem pd_v {i : Nat} {x : Str} {pos : Pos} (h : PE X (.Name x pos) (tVar i)) : PE X (.Name x pos) (tX X.K X.mg RW (dV i) (pVal X.K X.mg)) :=
  PE.imp h fun σ H Q ⟨B, F0, z, ow, ρ, m, S, r⟩ => by
    unfold dV at r
    cases hs : slotAt ρ i with
    | sh d =>
      rw [hs] at r
      obtain ⟨v, e1, rp⟩ := S.slot i _ (slotAt_get hs (by simp))
      refine ⟨v, ?_, r.here S rp⟩
      cases q : σ[i]? with
      | none => rw [q] at e1; cases e1
      | some u => rw [q] at e1; exact congrArg some e1
    | non => rw [hs] at r; exact r.elim
    | exc a d x => rw [hs] at r; exact r.elim
    | own c => rw [hs] at r; exact r.elim
theorem pd_l {i : Nat} {x : Str} {pos : Pos} (h : PE X (.Name x pos) (tVar i)) : PE X (.Name x pos) (tX X.K X.mg RW (dL i) (pLook X.K X.mg)) :=
  PE.imp h fun σ H Q ⟨B, F0, z, ow, ρ, m, S, r⟩ => by
    unfold dL at r
    cases hs : slotAt ρ i with
    | sh d =>
      rw [hs] at r
      obtain ⟨v, e1, rp⟩ := S.slot i _ (slotAt_get hs (by simp))
      refine ⟨v, ?_, r.here S (.inl rp)⟩
      cases q : σ[i]? with
      | none => rw [q] at e1; cases e1
      | some u => rw [q] at e1; exact congrArg some e1
    | non => rw [hs] at r; exact r.elim
    | exc a d x => rw [hs] at r; exact r.elim
    | own c =>
      rw [hs] at r
      have hg := slotAt_get hs (by simp)
      obtain ⟨a, o, e1, e2, c1, w⟩ := S.slot i _ hg
      have e3 : σ[i]? = some (some (V.ref a)) := by
        cases q : σ[i]? with
        | none => rw [q] at e1; cases e1
        | some u => rw [q] at e1; exact congrArg some e1
      exact ⟨.ref a, e3, r.here S (.inr ⟨c, rfl, a, rfl, .inr ⟨i, hg, e3⟩⟩)⟩
theorem pd_c {d : D} {v : V} (h : PE X e (tC v)) (r : ∀ z, Rep X.K X.mg z d v) : PE X e (tX X.K X.mg RW (dC d) (pVal X.K X.mg)) :=
  PE.imp h fun σ H Q ⟨B, F0, z, ow, ρ, m, S, q⟩ => q.here S (r z)
theorem pd_int {i : Int} {j pos} : PE X (.Constant (.int i) j pos) (tX X.K X.mg RW (dC (.int i)) (pVal X.K X.mg)) := pd_c pe_int fun z => by simp only [Rep]
theorem pd_bl {b : Bool} {j pos} : PE X (.Constant (.bool b) j pos) (tX X.K X.mg RW (dC (.bl b)) (pVal X.K X.mg)) := pd_c pe_bl fun z => by simp only [Rep]
theorem pd_non {j pos} : PE X (.Constant .none j pos) (tX X.K X.mg RW (dC .non) (pVal X.K X.mg)) := pd_c pe_non fun z => by simp only [Rep]
theorem pd_str {x : Str} {j pos} : PE X (.Constant (.str x) j pos) (tX X.K X.mg RW (dC (.str x)) (pVal X.K X.mg)) := pd_c pe_str fun z => by simp only [Rep]
theorem pd_gint {x : Str} {i : Int} {pos : Pos} (hg : Gl X x) (hm : ∃ t, X.mg x = some (.int i t)) (hd : (x == ("__debug__" : Str)) = false := by decide) : PE X (.Name x pos) (tX X.K X.mg RW (dC (.int i)) (pVal X.K X.mg)) := by
  obtain ⟨t, hm⟩ := hm
  exact pd_c (pe_glob (v := .int i) hg hm ⟨t, rfl⟩ hd) fun z => by simp only [Rep]
end
def dBin (g : D → D → Res D) (da db : Den D) : Den D := fun ρ m => (da ρ m).bind fun x => (db ρ x.2).bind fun y => (g x.1 y.1).bind fun d => .ok (d, y.2)
def dBinN (g : D → D → Res Cont) (da db : Den D) : Den Cont := fun ρ m => (da ρ m).bind fun x => (db ρ x.2).bind fun y => (g x.1 y.1).bind fun d => .ok (d, y.2)
def asBool : D → Res Bool
  | .bl b => .ok b
  | _ => .bad
def dT (da : Den D) : Den Bool := fun ρ m => (da ρ m).bind fun x => (asBool x.1).bind fun b => .ok (b, x.2)
def BinR (X : Cx) (r : R2) (g : D → D → Res D) : Prop := ∀ {RW : WX} {B F0 : Hp} {z : Fz} {ow : Own} {ρ : List Slot} {m : List Ob} {σ : St} {H : Hp} {x y : V} {dx dy : D} {Q : VK},
  StOk X.K X.mg B F0 z ow ρ m σ H → pLook X.K X.mg B B z ρ σ dx x → pLook X.K X.mg B B z ρ σ dy y → Rem X.K X.mg RW ((g dx dy).bind fun d => .ok (d, m)) B F0 z ρ σ (pVal X.K X.mg) Q → r x y H Q
def BinN (X : Cx) (r : R2) (g : D → D → Res Cont) : Prop := ∀ {RW : WX} {B F0 : Hp} {z : Fz} {ow : Own} {ρ : List Slot} {m : List Ob} {σ : St} {H : Hp} {x y : V} {dx dy : D} {Q : VK},
  StOk X.K X.mg B F0 z ow ρ m σ H → pLook X.K X.mg B B z ρ σ dx x → pLook X.K X.mg B B z ρ σ dy y → Rem X.K X.mg RW ((g dx dy).bind fun d => .ok (d, m)) B F0 z ρ σ (pNew X.K X.mg) Q → r x y H Q
section
variable {X : Cx} {RW : WX} {e a b : Expr} {da db : Den D} {r : R2}
theorem two_step {g : D → D → Res D} (hg : BinR X r g) (σ : St) (H : Hp) (Q : VK) (q : tX X.K X.mg RW (dBin g da db) (pVal X.K X.mg) σ H Q) :
    tOp r (tX X.K X.mg RW da (pLook X.K X.mg)) (tX X.K X.mg RW db (pLook X.K X.mg)) σ H Q := by
  refine tX.imp q fun B F0 z ow ρ m S h => Rem.step pVal.pm h fun dx m1 B1 z1 ow1 x H1 hB hz S1 px h1 => ?_
  refine ⟨B1, F0, z1, ow1, ρ, m1, S1, Rem.step pVal.pm h1 fun dy m2 B2 z2 ow2 y H2 hB2 hz2 S2 py h2 => ?_⟩
  exact hg S2 (look_mono hB2 hz2 px) py h2
theorem two_stepN {g : D → D → Res Cont} (hg : BinN X r g) (σ : St) (H : Hp) (Q : VK) (q : tX X.K X.mg RW (dBinN g da db) (pNew X.K X.mg) σ H Q) :
    tOp r (tX X.K X.mg RW da (pLook X.K X.mg)) (tX X.K X.mg RW db (pLook X.K X.mg)) σ H Q := by
  refine tX.imp q fun B F0 z ow ρ m S h => Rem.step pNew.pm h fun dx m1 B1 z1 ow1 x H1 hB hz S1 px h1 => ?_
  refine ⟨B1, F0, z1, ow1, ρ, m1, S1, Rem.step pNew.pm h1 fun dy m2 B2 z2 ow2 y H2 hB2 hz2 S2 py h2 => ?_⟩
  exact hg S2 (look_mono hB2 hz2 px) py h2
theorem pd_op {op : Operator} {g : D → D → Res D} {pos : Pos} (ho : OpR X (binaryOp op) r) (hg : BinR X r g) (ha : PE X a (tX X.K X.mg RW da (pLook X.K X.mg))) (hb : PE X b (tX X.K X.mg RW db (pLook X.K X.mg))) :
    PE X (.BinOp a op b pos) (tX X.K X.mg RW (dBin g da db) (pVal X.K X.mg)) := PE.imp (pe_op ho ha hb) (two_step hg)
theorem pd_opN {op : Operator} {g : D → D → Res Cont} {pos : Pos} (ho : OpR X (binaryOp op) r) (hg : BinN X r g) (ha : PE X a (tX X.K X.mg RW da (pLook X.K X.mg))) (hb : PE X b (tX X.K X.mg RW db (pLook X.K X.mg))) :
    PE X (.BinOp a op b pos) (tX X.K X.mg RW (dBinN g da db) (pNew X.K X.mg)) := PE.imp (pe_op ho ha hb) (two_stepN hg)
theorem pd_cmp {op : CmpOp} {g : D → D → Res D} {pos : Pos} (ho : OpR X (compareOp op) r) (hg : BinR X r g) (ha : PE X a (tX X.K X.mg RW da (pLook X.K X.mg))) (hb : PE X b (tX X.K X.mg RW db (pLook X.K X.mg))) (hm : behindInMarks op b = false) :
    PE X (.Compare a [op] [b] pos) (tX X.K X.mg RW (dBin g da db) (pVal X.K X.mg)) := PE.imp (pe_cmpR ho ha hb hm) (two_step hg)
theorem test_of (σ : St) (H : Hp) (Q : Bool → Hp → Prop) {den : Den D} (q : tX X.K X.mg RW (dT den) pTest σ H Q) : tX X.K X.mg RW den (pVal X.K X.mg) σ H fun x H' => ∃ k, x = .bl k ∧ Q k H' :=
  tX.imp q fun B F0 z ow ρ m S h => Rem.step pTest.pm h fun d m1 B1 z1 ow1 v H1 hB hz S1 p h1 => by
    cases d with
    | bl b => exact ⟨b, rep_bl.mp p, h1.here S1 rfl⟩
    | _ => exact h1.elim
theorem pt_cmpD {op : CmpOp} {g : D → D → Res D} {pos : Pos} (ho : OpR X (compareOp op) r) (hg : BinR X r g) (ha : PE X a (tX X.K X.mg RW da (pLook X.K X.mg))) (hb : PE X b (tX X.K X.mg RW db (pLook X.K X.mg))) (hm : behindInMarks op b = false) :
    PT X (.Compare a [op] [b] pos) (tX X.K X.mg RW (dT (dBin g da db)) pTest) := PT.imp (pt_cmpR ho ha hb hm) fun σ H Q q => two_step hg σ H _ (test_of σ H Q q)
theorem pt_bl {den : Den D} (h : PE X e (tX X.K X.mg RW den (pVal X.K X.mg))) (he : ∀ whole, isTrue e X.env whole = (do let v ← whole; standAt e.pos; holding [v] (truthy v)) := by intro _; rfl) : PT X e (tX X.K X.mg RW (dT den) pTest) :=
  PT.imp (pt_val h he) fun σ H Q q => test_of σ H Q q
end
end PD
namespace PD
open PySem PySem.Spec PyProof.Rows L2
section
variable {K : PySem.W.Frag} {mg : Str → Option Value} {RW : WX} {z z' z1 z2 : Fz} {B B' B1 B2 F0 : Hp} {ow ow' ow1 : Own} {ρ : List Slot} {m m1 : List Ob} {σ : St} {H H' H1 : Hp}
theorem StOk.allocF (S : StOk K mg B F0 z ow ρ m σ H) {p : Addr} (h : H p = none) (o : HO) : StOk K mg B F0 ⟨upd z.F p o, z.As⟩ ow ρ m σ (upd H p o) :=
  let q := S.new_none h
  (S.alloc h o).freeze upd_same q.1 q.2.1 q.2.2.2
theorem StOk.leF (S : StOk K mg B F0 z ow ρ m σ H) {p : Addr} (h : H p = none) (o : HO) : z.le ⟨upd z.F p o, z.As⟩ := Fz.le_upd (S.new_none h).1
theorem rep_tup_new {p : Addr} {xs : List V} {ds : List D} (h : z.F p = none) (r : Reps K mg z ds xs) : Rep K mg ⟨upd z.F p (.tup xs), z.As⟩ (.tup ds) (.ref p) := by
  simp only [Rep]
  exact ⟨p, xs, rfl, SqT.of upd_same, r.le (Fz.le_upd h)⟩
theorem Rem.newTup {Q : VK} {ds : List D} {xs : List V} {p : Addr} (h : Rem K mg RW (.ok (.tup ds, m)) B F0 z ρ σ (pVal K mg) Q) (S : StOk K mg B F0 z ow ρ m σ H) (r : Reps K mg z ds xs) (hp : H p = none) : Q (.ref p) (upd H p (.tup xs)) :=
  h B _ ow _ _ (Same.refl _) (S.leF hp _) (S.allocF hp _) (rep_tup_new (S.new_none hp).1 r)
theorem Rem.newLst {Q : VK} {ds : List D} {xs : List V} {p : Addr} (h : Rem K mg RW (.ok (.lst ds, m)) B F0 z ρ σ (pNew K mg) Q) (S : StOk K mg B F0 z ow ρ m σ H) (r : Reps K mg z ds xs) (hp : H p = none) : Q (.ref p) (upd H p (.lst xs)) :=
  have q := S.new_none hp
  h _ z ow _ _ (same_upd q.2.1) (Fz.le.refl _) (S.keep hp _) ⟨p, _, rfl, q.2.1, upd_same, q.1, xs, rfl, r⟩
end
mutual
def D.py : D → PyData
  | .non => .none
  | .bl b => .bool b
  | .int i => .int i
  | .str s => .str s
  | .tup xs => .tuple (D.pys xs)
  | .etp xs => .tuple (D.pys xs)
  | .lst xs => .list (D.pys xs)
  | .dct _ _ _ => .dict []
  | .ldc _ _ _ => .dict []
  | .row _ => .dict []
  | .obj _ => .dict []
  | .fn _ => .dict []
  | .scr _ => .dict []
def D.pys : List D → List PyData
  | [] => []
  | d :: ds => d.py :: D.pys ds
end
mutual
theorem dp_of_rep {K : PySem.W.Frag} {mg : Str → Option Value} {z : Fz} {H : Hp} (hf : Same z.F H) : ∀ {d : D} {v : V}, Rep K mg z d v → d.py.canLay0 = true → Dp K H v d.py
  | .non, v, r, _ => by rw [rep_non.mp r]; simp only [D.py]; exact .non
  | .bl b, v, r, _ => by rw [rep_bl.mp r]; simp only [D.py]; exact .bl b
  | .int i, v, r, _ => by rw [rep_int.mp r]; simp only [D.py]; exact .int i
  | .str s, v, r, _ => by rw [rep_str.mp r]; simp only [D.py]; exact .str s
  | .tup ds, v, r, hc => by
    simp only [Rep] at r
    obtain ⟨a, xs, rfl, h1, h2⟩ := r
    simp only [D.py, PyData.canLay0] at hc ⊢
    exact .tup (same_tup hf h1) (dps_of_reps hf h2 hc)
  | .etp ds, v, r, hc => by
    simp only [Rep] at r
    obtain ⟨a, o, xs, rfl, h1, _, h2⟩ := r
    simp only [D.py, PyData.canLay0] at hc ⊢
    exact .tup (same_tup hf (.inl (.inr ⟨o, h1⟩))) (dps_of_reps hf h2 hc)
  | .lst ds, v, r, hc => by
    simp only [Rep] at r
    obtain ⟨a, xs, rfl, h1, h2⟩ := r
    simp only [D.py, PyData.canLay0] at hc ⊢
    exact .lst (SqL.of (hf _ _ h1)) (dps_of_reps hf h2 hc)
  | .dct _ _ _, v, r, hc => by simp [D.py, PyData.canLay0] at hc
  | .ldc _ _ _, v, r, hc => by simp [D.py, PyData.canLay0] at hc
  | .row _, v, r, hc => by simp [D.py, PyData.canLay0] at hc
  | .obj _, v, r, hc => by simp [D.py, PyData.canLay0] at hc
  | .fn _, v, r, hc => by simp [D.py, PyData.canLay0] at hc
  | .scr _, v, r, hc => by simp [D.py, PyData.canLay0] at hc
theorem dps_of_reps {K : PySem.W.Frag} {mg : Str → Option Value} {z : Fz} {H : Hp} (hf : Same z.F H) : ∀ {ds : List D} {vs : List V}, Reps K mg z ds vs → PyData.canLayAll0 (D.pys ds) = true → DpAll K H vs (D.pys ds)
  | [], vs, r, _ => by rw [r.nil_of]; simp only [D.pys]; exact .nil
  | d :: ds, vs, r, hc => by
    obtain ⟨v, vs', rfl, h1, h2⟩ := r.uncons
    simp only [D.pys, PyData.canLayAll0, Bool.and_eq_true] at hc ⊢
    exact .cons (dp_of_rep hf h1 hc.1) (dps_of_reps hf h2 hc.2)
end
def D.okp (d : D) : Bool := SeqAt.shaped d.py
theorem look_dp {K : PySem.W.Frag} {mg : Str → Option Value} {z : Fz} {B B' F0 : Hp} {ow : Own} {ρ : List Slot} {m : List Ob} {σ : St} {H : Hp} {d : D} {v : V} (S : StOk K mg B F0 z ow ρ m σ H) (h : pLook K mg B' B z ρ σ d v) (hc : d.okp = true) : Dp K H v d.py := by
  have hc := SeqAt.canLay_of_shaped hc
  rcases h with h | ⟨c, e, h⟩
  · exact dp_of_rep S.fh h hc
  · subst e
    cases c with
    | lst ds =>
      obtain ⟨a, o, rfl, h1, xs, rfl, r⟩ := h.get S
      simp only [Cont.d, D.py, PyData.canLay0] at hc ⊢
      exact .lst (SqL.of h1) (dps_of_reps S.fh r hc)
    | dct t ks vs => simp [Cont.d, D.py, PyData.canLay0] at hc
    | ldc t ks vs => simp [Cont.d, D.py, PyData.canLay0] at hc
def addD : D → D → Res D
  | .int i, .int j => .ok (.int (i + j))
  | .str s, .str t => if s.length + t.length ≤ sizeLine then .ok (.str (s ++ t)) else .bad
  | .tup a, .tup b => if a.length + b.length ≤ sizeLine then .ok (.tup (a ++ b)) else .bad
  | _, _ => .bad
def catN : D → D → Res Cont
  | .lst a, .lst b => if a.length + b.length ≤ sizeLine then .ok (.lst (a ++ b)) else .bad
  | _, _ => .bad
def repN : D → D → Res Cont
  | .lst a, .int k => if -(2 ^ 63) ≤ k ∧ k < 2 ^ 63 ∧ a.length * k.toNat ≤ sizeLine then .ok (.lst (List.replicate k.toNat a).flatten) else .bad
  | _, _ => .bad
def subD : D → D → Res D
  | .int i, .int j => .ok (.int (i - j))
  | _, _ => .bad
def mulD : D → D → Res D
  | .int i, .int j => if (-(2 ^ 64) < i ∧ i < 2 ^ 64) ∨ (-(2 ^ 64) < j ∧ j < 2 ^ 64) then .ok (.int (i * j)) else .bad
  | _, _ => .bad
def divD : D → D → Res D
  | .int i, .int j => if 0 < j ∧ j.natAbs.log2 < 9000 then .ok (.int (i / j)) else .bad
  | _, _ => .bad
def modD : D → D → Res D
  | .int i, .int j => if 0 < j then .ok (.int (i % j)) else .bad
  | _, _ => .bad
def powD : D → D → Res D
  | .int i, .int j => if 0 ≤ j ∧ j ≤ 1000000 ∧ i.natAbs < 2 ^ 64 then .ok (.int (i ^ j.toNat)) else .bad
  | _, _ => .bad
def shlD : D → D → Res D
  | .int i, .int j => if 0 ≤ j ∧ j ≤ 1000000 ∧ i.natAbs < 2 ^ 64 then .ok (.int (i * 2 ^ j.toNat)) else .bad
  | _, _ => .bad
def ltD : D → D → Res D
  | .int i, .int j => .ok (.bl (decide (i < j)))
  | _, _ => .bad
def leD : D → D → Res D
  | .int i, .int j => .ok (.bl (decide (i ≤ j)))
  | _, _ => .bad
def gtD : D → D → Res D
  | .int i, .int j => .ok (.bl (decide (j < i)))
  | _, _ => .bad
def geD : D → D → Res D
  | .int i, .int j => .ok (.bl (decide (j ≤ i)))
  | _, _ => .bad
def eqD (x y : D) : Res D := if (x.okp && y.okp) = true then .ok (.bl (PyData.eqv x.py y.py)) else .bad
def neD (x y : D) : Res D := if (x.okp && y.okp) = true then .ok (.bl (!PyData.eqv x.py y.py)) else .bad
def isNonD : D → D → Res D
  | .non, .non => .ok (.bl true)
  | .int _, .non | .bl _, .non | .str _, .non | .tup _, .non | .etp _, .non | .lst _, .non | .dct _ _ _, .non | .ldc _ _ _, .non | .row _, .non | .obj _, .non | .fn _, .non | .scr _, .non => .ok (.bl false)
  | _, _ => .bad
def notNonD : D → D → Res D
  | .non, .non => .ok (.bl false)
  | .int _, .non | .bl _, .non | .str _, .non | .tup _, .non | .etp _, .non | .lst _, .non | .dct _ _ _, .non | .ldc _ _ _, .non | .row _, .non | .obj _, .non | .fn _, .non | .scr _, .non => .ok (.bl true)
  | _, _ => .bad
def anyPy (xs : List D) (d : D) : Bool := (D.pys xs).any fun z => PyData.eqv z d.py
def inD : D → D → Res D
  | d, .lst xs => if (d.okp && (D.lst xs).okp) = true then .ok (.bl (anyPy xs d)) else .bad
  | d, .tup xs => if (d.okp && (D.tup xs).okp) = true then .ok (.bl (anyPy xs d)) else .bad
  | _, _ => .bad
def notInD : D → D → Res D
  | d, .lst xs => if (d.okp && (D.lst xs).okp) = true then .ok (.bl (!anyPy xs d)) else .bad
  | d, .tup xs => if (d.okp && (D.tup xs).okp) = true then .ok (.bl (!anyPy xs d)) else .bad
  | _, _ => .bad
section
variable {X : Cx}
def rAddX (K : PySem.W.Frag) : R2 := fun x y H Q => (∃ i j, x = .int i ∧ y = .int j ∧ Q (.int (i + j)) H) ∨ (∃ i j, x = .str i ∧ y = .str j ∧ i.length + j.length ≤ sizeLine ∧ Q (.str (i ++ j)) H) ∨ rCatA K x y H Q
theorem op_addX : OpR X (binaryOp .Add) (rAddX X.K) := op_add.or (op_add_str.or op_catA)
theorem add_r : BinR X (rAddX X.K) addD := by
  intro RW B F0 z ow ρ m σ H x y dx dy Q S px py h
  unfold addD at h
  split at h
  · exact .inl ⟨_, _, look_int px, look_int py, h.here S (rep_int.mpr rfl)⟩
  · split at h
    · rename_i hz
      exact .inr (.inl ⟨_, _, look_str px, look_str py, hz, h.here S (rep_str.mpr rfl)⟩)
    · exact h.elim
  · split at h
    · rename_i as bs hz
      obtain ⟨a, xs, rfl, h1, r1⟩ := look_tup S px
      obtain ⟨b, ys, rfl, h2, r2⟩ := look_tup S py
      have rx := look_rep px (fun c => by cases c <;> simp [Cont.d])
      have ry := look_rep py (fun c => by cases c <;> simp [Cont.d])
      refine .inr (.inr ⟨a, b, xs, ys, rfl, rfl, h1, h2, by rw [← r1.len, ← r2.len]; exact hz, fun e => ?_, fun e1 e2 => ?_, fun _ _ p hp => ?_⟩)
      · subst e
        have e0 : as = [] := List.length_eq_zero_iff.mp (by simpa using r1.len)
        subst e0
        exact h.here S ry
      · subst e2
        have e0 : bs = [] := List.length_eq_zero_iff.mp (by simpa using r2.len)
        subst e0
        rw [List.append_nil] at h
        exact h.here S rx
      · exact h.newTup S (r1.append r2) hp
    · exact h.elim
  · exact h.elim
theorem cat_r : BinN X rCat catN := by
  intro RW B F0 z ow ρ m σ H x y dx dy Q S px py h
  unfold catN at h
  split at h
  · split at h
    · rename_i as bs hz
      obtain ⟨a, xs, rfl, h1, r1⟩ := look_list S px
      obtain ⟨b, ys, rfl, h2, r2⟩ := look_list S py
      exact ⟨a, b, xs, ys, rfl, rfl, h1, h2, by rw [← r1.len, ← r2.len]; exact hz, fun p hp => h.newLst S (r1.append r2) hp⟩
    · exact h.elim
  · exact h.elim
theorem reps_rep {K : PySem.W.Frag} {mg : Str → Option Value} {z : Fz} {ds : List D} {vs : List V} (r : Reps K mg z ds vs) : ∀ n : Nat, Reps K mg z (List.replicate n ds).flatten (List.replicate n vs).flatten
  | 0 => .nil
  | n + 1 => by
    rw [List.replicate_succ, List.replicate_succ, List.flatten_cons, List.flatten_cons]
    exact r.append (reps_rep r n)
theorem rep_r : BinN X rRep repN := by
  intro RW B F0 z ow ρ m σ H x y dx dy Q S px py h
  unfold repN at h
  split at h
  · split at h
    · rename_i as k hz
      obtain ⟨a, xs, rfl, h1, r1⟩ := look_list S px
      exact ⟨a, k, xs, rfl, look_int py, h1, hz.1, hz.2.1, by rw [← r1.len]; exact hz.2.2, fun p hp => h.newLst S (reps_rep r1 _) hp⟩
    · exact h.elim
  · exact h.elim
theorem sub_r : BinR X (rI0 fun i j => .int (i - j)) subD := by
  intro RW B F0 z ow ρ m σ H x y dx dy Q S px py h
  unfold subD at h
  split at h
  · exact ⟨_, _, look_int px, look_int py, h.here S (rep_int.mpr rfl)⟩
  · exact h.elim
theorem mul_r : BinR X (rI CMul fun i j => .int (i * j)) mulD := by
  intro RW B F0 z ow ρ m σ H x y dx dy Q S px py h
  unfold mulD at h
  split at h
  · split at h
    · rename_i hz
      exact ⟨_, _, look_int px, look_int py, hz, h.here S (rep_int.mpr rfl)⟩
    · exact h.elim
  · exact h.elim
theorem div_r : BinR X (rI CDivW fun i j => .int (i / j)) divD := by
  intro RW B F0 z ow ρ m σ H x y dx dy Q S px py h
  unfold divD at h
  split at h
  · split at h
    · rename_i hz
      exact ⟨_, _, look_int px, look_int py, hz, h.here S (rep_int.mpr rfl)⟩
    · exact h.elim
  · exact h.elim
theorem mod_r : BinR X (rI (fun _ j => 0 < j) fun i j => .int (i % j)) modD := by
  intro RW B F0 z ow ρ m σ H x y dx dy Q S px py h
  unfold modD at h
  split at h
  · split at h
    · rename_i hz
      exact ⟨_, _, look_int px, look_int py, hz, h.here S (rep_int.mpr rfl)⟩
    · exact h.elim
  · exact h.elim
theorem pow_r : BinR X (rI CPow fun i j => .int (i ^ j.toNat)) powD := by
  intro RW B F0 z ow ρ m σ H x y dx dy Q S px py h
  unfold powD at h
  split at h
  · split at h
    · rename_i hz
      exact ⟨_, _, look_int px, look_int py, hz, h.here S (rep_int.mpr rfl)⟩
    · exact h.elim
  · exact h.elim
theorem shl_r : BinR X (rI CPow fun i j => .int (i * 2 ^ j.toNat)) shlD := by
  intro RW B F0 z ow ρ m σ H x y dx dy Q S px py h
  unfold shlD at h
  split at h
  · split at h
    · rename_i hz
      exact ⟨_, _, look_int px, look_int py, hz, h.here S (rep_int.mpr rfl)⟩
    · exact h.elim
  · exact h.elim
theorem lt_r : BinR X (rI0 fun i j => .bl (decide (i < j))) ltD := by
  intro RW B F0 z ow ρ m σ H x y dx dy Q S px py h
  unfold ltD at h
  split at h
  · exact ⟨_, _, look_int px, look_int py, h.here S (rep_bl.mpr rfl)⟩
  · exact h.elim
theorem le_r : BinR X (rI0 fun i j => .bl (decide (i ≤ j))) leD := by
  intro RW B F0 z ow ρ m σ H x y dx dy Q S px py h
  unfold leD at h
  split at h
  · exact ⟨_, _, look_int px, look_int py, h.here S (rep_bl.mpr rfl)⟩
  · exact h.elim
theorem gt_r : BinR X (rI0 fun i j => .bl (decide (j < i))) gtD := by
  intro RW B F0 z ow ρ m σ H x y dx dy Q S px py h
  unfold gtD at h
  split at h
  · exact ⟨_, _, look_int px, look_int py, h.here S (rep_bl.mpr rfl)⟩
  · exact h.elim
theorem ge_r : BinR X (rI0 fun i j => .bl (decide (j ≤ i))) geD := by
  intro RW B F0 z ow ρ m σ H x y dx dy Q S px py h
  unfold geD at h
  split at h
  · exact ⟨_, _, look_int px, look_int py, h.here S (rep_bl.mpr rfl)⟩
  · exact h.elim
theorem eq_r : BinR X (rEqD X.K) eqD := by
  intro RW B F0 z ow ρ m σ H x y dx dy Q S px py h
  unfold eqD at h
  split at h
  · rename_i hz
    rw [Bool.and_eq_true] at hz
    exact ⟨_, _, look_dp S px hz.1, look_dp S py hz.2, hz.1, hz.2, h.here S (rep_bl.mpr rfl)⟩
  · exact h.elim
theorem ne_r : BinR X (rNeD X.K) neD := by
  intro RW B F0 z ow ρ m σ H x y dx dy Q S px py h
  unfold neD at h
  split at h
  · rename_i hz
    rw [Bool.and_eq_true] at hz
    exact ⟨_, _, look_dp S px hz.1, look_dp S py hz.2, hz.1, hz.2, h.here S (rep_bl.mpr rfl)⟩
  · exact h.elim
theorem look_isnon {K : PySem.W.Frag} {mg : Str → Option Value} {z : Fz} {B B' F0 : Hp} {ow : Own} {ρ : List Slot} {m : List Ob} {σ : St} {H : Hp} {d : D} {v : V} (S : StOk K mg B F0 z ow ρ m σ H) (h : pLook K mg B' B z ρ σ d v) (hd : d ≠ .non) : decide (v = .non) = false := by
  apply decide_eq_false
  intro e
  subst e
  rcases h with h | ⟨c, e, h⟩
  · cases d with
    | non => exact hd rfl
    | bl b => simp [Rep] at h
    | int b => simp [Rep] at h
    | str b => simp [Rep] at h
    | tup b => simp [Rep] at h
    | etp b => simp [Rep] at h
    | lst b => simp [Rep] at h
    | dct t b c => simp [Rep] at h
    | ldc t b c => simp [Rep] at h
    | row b => simp [Rep] at h
    | obj b => simp [Rep] at h
    | fn b => simp [Rep] at h
    | scr b => simp [Rep] at h
  · obtain ⟨a, _, e, _⟩ := h.get S
    cases e
theorem isnon_r : BinR X (fun x y H Q => y = .non ∧ Q (.bl (decide (x = .non))) H) isNonD := by
  intro RW B F0 z ow ρ m σ H x y dx dy Q S px py h
  cases dy with
  | non =>
    refine ⟨look_non py, ?_⟩
    by_cases hd : dx = .non
    · subst hd
      have e := look_non px
      subst e
      exact h.here S (rep_bl.mpr rfl)
    · rw [look_isnon S px hd]
      have e : isNonD dx .non = .ok (.bl false) := by cases dx <;> first | rfl | exact absurd rfl hd
      rw [e] at h
      exact h.here S (rep_bl.mpr rfl)
  | _ => cases dx <;> exact h.elim
theorem notnon_r : BinR X (fun x y H Q => y = .non ∧ Q (.bl (!decide (x = .non))) H) notNonD := by
  intro RW B F0 z ow ρ m σ H x y dx dy Q S px py h
  cases dy with
  | non =>
    refine ⟨look_non py, ?_⟩
    by_cases hd : dx = .non
    · subst hd
      have e := look_non px
      subst e
      exact h.here S (rep_bl.mpr rfl)
    · rw [look_isnon S px hd]
      have e : notNonD dx .non = .ok (.bl true) := by cases dx <;> first | rfl | exact absurd rfl hd
      rw [e] at h
      exact h.here S (rep_bl.mpr rfl)
  | _ => cases dx <;> exact h.elim
def rInX (K : PySem.W.Frag) (neg : Bool) : R2 := fun x y H Q => ∃ (d : PyData) (ds : List PyData) (t : PyData), Dp K H x d ∧ Dp K H y t ∧ (t = .list ds ∨ t = .tuple ds) ∧ SeqAt.shaped d = true ∧ SeqAt.shaped t = true ∧ Q (.bl (if neg then !(ds.any fun z => PyData.eqv z d) else ds.any fun z => PyData.eqv z d)) H
theorem shaped_lt {ds : List PyData} : SeqAt.shaped (.tuple ds) = SeqAt.shaped (.list ds) := by
  unfold SeqAt.shaped
  simp only [PyData.canLay0, PyData.depth]
  rfl
theorem op_inX (hu : X.A.units + 65 < cLine) : OpR X (compareOp .In) (rInX X.K false) := by
  intro pins s σ H x y v u Q I rx ry h
  obtain ⟨d, ds, t, hd, he, ht, sd, se, q⟩ := h
  obtain ⟨as, r1⟩ := Dp.reads I d x v hd rx
  obtain ⟨bs, r2⟩ := Dp.reads I t y u he ry
  rcases ht with rfl | rfl
  · exact SeqAt.in_list_reads r2 r1 (SeqAt.canLay_of_shaped se) (SeqAt.canLay_of_shaped sd) (room_in_shaped sd hu) ⟨.bl _, H, I, rfl, q⟩
  · exact SeqAt.in_tuple_reads r2 r1 (SeqAt.canLay_of_shaped (shaped_lt.symm.trans se)) (SeqAt.canLay_of_shaped sd) (room_in_shaped sd hu) ⟨.bl _, H, I, rfl, q⟩
theorem op_notInX (hu : X.A.units + 65 < cLine) : OpR X (compareOp .NotIn) (rInX X.K true) := by
  intro pins s σ H x y v u Q I rx ry h
  obtain ⟨d, ds, t, hd, he, ht, sd, se, q⟩ := h
  obtain ⟨as, r1⟩ := Dp.reads I d x v hd rx
  obtain ⟨bs, r2⟩ := Dp.reads I t y u he ry
  rcases ht with rfl | rfl
  · exact SeqAt.notIn_list_reads r2 r1 (SeqAt.canLay_of_shaped se) (SeqAt.canLay_of_shaped sd) (room_in_shaped sd hu) ⟨.bl _, H, I, rfl, q⟩
  · exact SeqAt.notIn_tuple_reads r2 r1 (SeqAt.canLay_of_shaped (shaped_lt.symm.trans se)) (SeqAt.canLay_of_shaped sd) (room_in_shaped sd hu) ⟨.bl _, H, I, rfl, q⟩
theorem in_r : BinR X (rInX X.K false) inD := by
  intro RW B F0 z ow ρ m σ H x y dx dy Q S px py h
  unfold inD at h
  split at h
  · split at h
    · rename_i hz
      rw [Bool.and_eq_true] at hz
      exact ⟨_, _, _, look_dp S px hz.1, look_dp S py hz.2, .inl (by simp only [D.py]), hz.1, hz.2, h.here S (rep_bl.mpr rfl)⟩
    · exact h.elim
  · split at h
    · rename_i hz
      rw [Bool.and_eq_true] at hz
      exact ⟨_, _, _, look_dp S px hz.1, look_dp S py hz.2, .inr (by simp only [D.py]), hz.1, hz.2, h.here S (rep_bl.mpr rfl)⟩
    · exact h.elim
  · exact h.elim
theorem notin_r : BinR X (rInX X.K true) notInD := by
  intro RW B F0 z ow ρ m σ H x y dx dy Q S px py h
  unfold notInD at h
  split at h
  · split at h
    · rename_i hz
      rw [Bool.and_eq_true] at hz
      exact ⟨_, _, _, look_dp S px hz.1, look_dp S py hz.2, .inl (by simp only [D.py]), hz.1, hz.2, h.here S (rep_bl.mpr rfl)⟩
    · exact h.elim
  · split at h
    · rename_i hz
      rw [Bool.and_eq_true] at hz
      exact ⟨_, _, _, look_dp S px hz.1, look_dp S py hz.2, .inr (by simp only [D.py]), hz.1, hz.2, h.here S (rep_bl.mpr rfl)⟩
    · exact h.elim
  · exact h.elim
end
end PD
namespace PD
open PySem PySem.Spec PyProof.Rows L2
def dAndT (da db : Den Bool) : Den Bool := fun ρ m => (da ρ m).bind fun x => match x.1 with
  | true => db ρ x.2
  | false => .ok (false, x.2)
def dOrT (da db : Den Bool) : Den Bool := fun ρ m => (da ρ m).bind fun x => match x.1 with
  | true => .ok (true, x.2)
  | false => db ρ x.2
def dNotT (da : Den Bool) : Den Bool := fun ρ m => (da ρ m).bind fun x => .ok (!x.1, x.2)
def dAnd (da db : Den D) : Den D := fun ρ m => (da ρ m).bind fun x => match x.1 with
  | .bl true => db ρ x.2
  | .bl false => .ok (.bl false, x.2)
  | _ => .bad
def dOr (da db : Den D) : Den D := fun ρ m => (da ρ m).bind fun x => match x.1 with
  | .bl true => .ok (.bl true, x.2)
  | .bl false => db ρ x.2
  | _ => .bad
def dNot (da : Den D) : Den D := fun ρ m => (da ρ m).bind fun x => match x.1 with
  | .bl b => .ok (.bl !b, x.2)
  | _ => .bad
def dIf {α : Type} (dc : Den Bool) (da db : Den α) : Den α := fun ρ m => (dc ρ m).bind fun x => match x.1 with
  | true => da ρ x.2
  | false => db ρ x.2
def dChain (g g' : D → D → Res D) (da db dc : Den D) : Den D := fun ρ m => (da ρ m).bind fun x => (db ρ x.2).bind fun y => (g x.1 y.1).bind fun k => match k with
  | .bl true => (dc ρ y.2).bind fun w => (g' y.1 w.1).bind fun d => .ok (d, w.2)
  | .bl false => .ok (.bl false, y.2)
  | _ => .bad
section
variable {X : Cx} {RW : WX} {e a b c : Expr} {rest : List Expr} {pos : Pos}
theorem pwd_and {ta tb : Den Bool} (ha : PT X a (tX X.K X.mg RW ta pTest)) (hb : PW X (.BoolOp .And (b :: rest) pos) (tX X.K X.mg RW tb pTest)) : PW X (.BoolOp .And (a :: b :: rest) pos) (tX X.K X.mg RW (dAndT ta tb) pTest) :=
  ⟨fun whole pins s σ H Q I q => (pw_and ha hb).run whole pins s σ H Q I (tX.imp q fun B F0 z ow ρ m S h => Rem.step pTest.pm h fun x m1 B1 z1 ow1 v H1 hB hz S1 px h1 => by
    cases (show v = x from px)
    cases x with
    | true => exact iteT ⟨B1, F0, z1, ow1, ρ, m1, S1, h1⟩
    | false => exact iteF (Rem.here (d := false) h1 S1 rfl))⟩
theorem pwd_or {ta tb : Den Bool} (ha : PT X a (tX X.K X.mg RW ta pTest)) (hb : PW X (.BoolOp .Or (b :: rest) pos) (tX X.K X.mg RW tb pTest)) : PW X (.BoolOp .Or (a :: b :: rest) pos) (tX X.K X.mg RW (dOrT ta tb) pTest) :=
  ⟨fun whole pins s σ H Q I q => (pw_or ha hb).run whole pins s σ H Q I (tX.imp q fun B F0 z ow ρ m S h => Rem.step pTest.pm h fun x m1 B1 z1 ow1 v H1 hB hz S1 px h1 => by
    cases (show v = x from px)
    cases x with
    | true => exact iteT (Rem.here (d := true) h1 S1 rfl)
    | false => exact iteF ⟨B1, F0, z1, ow1, ρ, m1, S1, h1⟩)⟩
theorem ptd_not {ta : Den Bool} (ha : PT X a (tX X.K X.mg RW ta pTest)) : PT X (.UnaryOp .Not a pos) (tX X.K X.mg RW (dNotT ta) pTest) :=
  PT.imp (pt_not ha) fun σ H Q q => tX.imp q fun B F0 z ow ρ m S h => Rem.step pTest.pm h fun x m1 B1 z1 ow1 v H1 hB hz S1 px h1 => by
    cases (show v = x from px)
    exact h1.here S1 rfl
theorem pd_and {ta tb : Den D} (ha : PE X a (tX X.K X.mg RW ta (pVal X.K X.mg))) (hb : PE X (.BoolOp .And (b :: rest) pos) (tX X.K X.mg RW tb (pVal X.K X.mg))) : PE X (.BoolOp .And (a :: b :: rest) pos) (tX X.K X.mg RW (dAnd ta tb) (pVal X.K X.mg)) :=
  PE.imp (pe_and ha hb) fun σ H Q q => tX.imp q fun B F0 z ow ρ m S h => Rem.step pVal.pm h fun x m1 B1 z1 ow1 v H1 hB hz S1 px h1 => by
    cases x with
    | bl k =>
      refine ⟨k, rep_bl.mp px, ?_⟩
      cases k with
      | true => exact iteT ⟨B1, F0, z1, ow1, ρ, m1, S1, h1⟩
      | false => exact iteF (h1.here S1 (rep_bl.mpr rfl))
    | _ => exact h1.elim
theorem pd_or {ta tb : Den D} (ha : PE X a (tX X.K X.mg RW ta (pVal X.K X.mg))) (hb : PE X (.BoolOp .Or (b :: rest) pos) (tX X.K X.mg RW tb (pVal X.K X.mg))) : PE X (.BoolOp .Or (a :: b :: rest) pos) (tX X.K X.mg RW (dOr ta tb) (pVal X.K X.mg)) :=
  PE.imp (pe_or ha hb) fun σ H Q q => tX.imp q fun B F0 z ow ρ m S h => Rem.step pVal.pm h fun x m1 B1 z1 ow1 v H1 hB hz S1 px h1 => by
    cases x with
    | bl k =>
      refine ⟨k, rep_bl.mp px, ?_⟩
      cases k with
      | true => exact iteT (h1.here S1 (rep_bl.mpr rfl))
      | false => exact iteF ⟨B1, F0, z1, ow1, ρ, m1, S1, h1⟩
    | _ => exact h1.elim
theorem pd_one {op : BoolOp} {ta : Den D} (ha : PE X a (tX X.K X.mg RW ta (pVal X.K X.mg))) : PE X (.BoolOp op [a] pos) (tX X.K X.mg RW ta (pVal X.K X.mg)) := pe_one ha
theorem pd_not {ta : Den D} (ha : PE X a (tX X.K X.mg RW ta (pVal X.K X.mg))) : PE X (.UnaryOp .Not a pos) (tX X.K X.mg RW (dNot ta) (pVal X.K X.mg)) :=
  PE.imp (pe_not ha) fun σ H Q q => tX.imp q fun B F0 z ow ρ m S h => Rem.step pVal.pm h fun x m1 B1 z1 ow1 v H1 hB hz S1 px h1 => by
    cases x with
    | bl k => exact ⟨k, rep_bl.mp px, h1.here S1 (rep_bl.mpr rfl)⟩
    | _ => exact h1.elim
theorem chain_step {r r' : R2} {g g' : D → D → Res D} {da db dc : Den D} (hg : BinR X r g) (hg' : BinR X r' g') (σ : St) (H : Hp) (Q : VK) (q : tX X.K X.mg RW (dChain g g' da db dc) (pVal X.K X.mg) σ H Q) :
    tChain r r' (tX X.K X.mg RW da (pLook X.K X.mg)) (tX X.K X.mg RW db (pLook X.K X.mg)) (tX X.K X.mg RW dc (pLook X.K X.mg)) σ H Q := by
  refine tX.imp q fun B F0 z ow ρ m S h => Rem.step pVal.pm h fun dx m1 B1 z1 ow1 x H1 hB hz S1 px h1 => ?_
  refine ⟨B1, F0, z1, ow1, ρ, m1, S1, Rem.step pVal.pm h1 fun dy m2 B2 z2 ow2 y H2 hB2 hz2 S2 py h2 => ?_⟩
  refine hg (RW := RW) S2 (look_mono hB2 hz2 px) py ?_
  refine Rem.step (P1 := pVal X.K X.mg) (P := pVal X.K X.mg) (f := fun r : D × List Ob => match r.1 with
    | .bl true => (dc ρ r.2).bind fun w => (g' dy w.1).bind fun d => .ok (d, w.2)
    | .bl false => .ok (.bl false, r.2)
    | _ => .bad) pVal.pm (Q := Q) ?_ fun k m3 B3 z3 ow3 v H3 hB3 hz3 S3 pk h3 => ?_
  · cases hgk : g dx dy with
    | ok k =>
      rw [hgk] at h2
      exact h2
    | err x m' =>
      rw [hgk] at h2
      exact h2
    | bad =>
      rw [hgk] at h2
      exact h2
  · cases k with
    | bl k =>
      refine ⟨k, rep_bl.mp pk, ?_⟩
      cases k with
      | true =>
        refine iteT ⟨B3, F0, z3, ow3, ρ, m3, S3, Rem.step pVal.pm h3 fun dw m4 B4 z4 ow4 w H4 hB4 hz4 S4 pw h4 => ?_⟩
        exact hg' S4 (look_mono (hB3.trans hB4) (hz3.trans hz4) py) pw h4
      | false => exact iteF (h3.here S3 (rep_bl.mpr rfl))
    | _ => exact h3.elim
theorem pd_chain {op op' : CmpOp} {r r' : R2} {g g' : D → D → Res D} {da db dc : Den D} (ho : OpR X (compareOp op) r) (ho' : OpR X (compareOp op') r') (hg : BinR X r g) (hg' : BinR X r' g') (ha : PE X a (tX X.K X.mg RW da (pLook X.K X.mg)))
    (hb : PE X b (tX X.K X.mg RW db (pLook X.K X.mg))) (hc : PE X c (tX X.K X.mg RW dc (pLook X.K X.mg))) (hm : lastMarks [op, op'] [b, c] = false := by with_unfolding_all rfl) :
    PE X (.Compare a [op, op'] [b, c] pos) (tX X.K X.mg RW (dChain g g' da db dc) (pVal X.K X.mg)) := PE.imp (pe_chain ho ho' ha hb hc hm) (chain_step hg hg')
theorem pt_chainD {op op' : CmpOp} {r r' : R2} {g g' : D → D → Res D} {da db dc : Den D} (ho : OpR X (compareOp op) r) (ho' : OpR X (compareOp op') r') (hg : BinR X r g) (hg' : BinR X r' g') (ha : PE X a (tX X.K X.mg RW da (pLook X.K X.mg)))
    (hb : PE X b (tX X.K X.mg RW db (pLook X.K X.mg))) (hc : PE X c (tX X.K X.mg RW dc (pLook X.K X.mg))) (hm : lastMarks [op, op'] [b, c] = false := by with_unfolding_all rfl) :
    PT X (.Compare a [op, op'] [b, c] pos) (tX X.K X.mg RW (dT (dChain g g' da db dc)) pTest) := PT.imp (pt_chain ho ho' ha hb hc hm) fun σ H Q q => chain_step hg hg' σ H _ (test_of σ H Q q)
def negD : D → Res D
  | .int i => .ok (.int (-i))
  | _ => .bad
def dUn (g : D → Res D) (da : Den D) : Den D := fun ρ m => (da ρ m).bind fun x => (g x.1).bind fun d => .ok (d, x.2)
theorem pd_neg {da : Den D} (ha : PE X a (tX X.K X.mg RW da (pLook X.K X.mg))) : PE X (.UnaryOp .USub a pos) (tX X.K X.mg RW (dUn negD da) (pVal X.K X.mg)) :=
  PE.imp (pe_un un_neg ha) fun σ H Q q => tX.imp q fun B F0 z ow ρ m S h => Rem.step pVal.pm h fun x m1 B1 z1 ow1 v H1 hB hz S1 px h1 => by
    cases x with
    | int i => exact ⟨i, look_int px, h1.here S1 (rep_int.mpr rfl)⟩
    | _ => exact h1.elim
def ixD : D → D → Res D
  | .lst xs, .int i => match atI xs i with
    | some d => .ok d
    | none => .bad
  | .tup xs, .int i => match atI xs i with
    | some d => .ok d
    | none => .bad
  | _, _ => .bad
theorem reps_at {K : PySem.W.Frag} {mg : Str → Option Value} {z : Fz} {ds : List D} {vs : List V} {i : Int} {d : D} (r : Reps K mg z ds vs) (h : atI ds i = some d) : ∃ v, atI vs i = some v ∧ Rep K mg z d v := by
  unfold atI at h ⊢
  rw [← r.len]
  cases e : ixN ds.length i with
  | none => rw [e] at h; cases h
  | some j =>
    rw [e] at h
    exact r.get h
theorem ix_r : BinR X (fun x y H Q => rIxL X.K x y H Q ∨ rIxT X.K x y H Q) ixD := by
  intro RW B F0 z ow ρ m σ H x y dx dy Q S px py h
  unfold ixD at h
  split at h
  · split at h
    · rename_i ds i _ d hd
      obtain ⟨a, xs, rfl, h1, r1⟩ := look_list S px
      obtain ⟨v, e, r⟩ := reps_at r1 hd
      exact .inl ⟨a, xs, i, v, rfl, look_int py, SqL.of h1, e, h.here S r⟩
    · exact h.elim
  · split at h
    · rename_i ds i _ d hd
      obtain ⟨a, xs, rfl, h1, r1⟩ := look_tup S px
      obtain ⟨v, e, r⟩ := reps_at r1 hd
      exact .inr ⟨a, xs, i, v, rfl, look_int py, h1, e, h.here S r⟩
    · exact h.elim
  · exact h.elim
theorem pd_ix {da db : Den D} (ha : PE X a (tX X.K X.mg RW da (pLook X.K X.mg))) (hb : PE X b (tX X.K X.mg RW db (pLook X.K X.mg))) (hs : PlainIx b := by exact fun _ _ => rfl) :
    PE X (.Subscript a b pos) (tX X.K X.mg RW (dBin ixD da db) (pVal X.K X.mg)) := PE.imp (pe_ix (ix_list.or ix_tup) ha hb hs) (two_step ix_r)
def pOpt : Post (Option Int) (Option Int) := fun _ _ _ _ _ d v => v = d
theorem pOpt.pm : PMono pOpt := fun _ _ _ _ _ _ _ _ _ h => h
def dNoPart : Den (Option Int) := fun _ m => .ok (none, m)
def dPart (da : Den D) : Den (Option Int) := fun ρ m => (da ρ m).bind fun x => match x.1 with
  | .int i => .ok (some i, x.2)
  | _ => .bad
theorem pod_none : PO X none (tX X.K X.mg RW dNoPart pOpt) := ⟨fun pins s σ H Q I q => po_none.run pins s σ H Q I (by
  obtain ⟨B, F0, z, ow, ρ, m, S, h⟩ := q
  exact h.here S rfl)⟩
theorem pod_some {da : Den D} (ha : PE X a (tX X.K X.mg RW da (pLook X.K X.mg))) : PO X (some a) (tX X.K X.mg RW (dPart da) pOpt) :=
  ⟨fun pins s σ H Q I q => (po_some ha).run pins s σ H Q I (tX.imp q fun B F0 z ow ρ m S h => Rem.step pOpt.pm h fun x m1 B1 z1 ow1 v H1 hB hz S1 px h1 => by
    cases x with
    | int i => exact ⟨i, look_int px, h1.here S1 rfl⟩
    | _ => exact h1.elim)⟩
def cut {α : Type} (xs : List α) (lo hi : Option Int) : List α := (xs.drop (HT.sIx xs.length 0 lo)).take (HT.sIx xs.length xs.length hi - HT.sIx xs.length 0 lo)
theorem reps_cut {K : PySem.W.Frag} {mg : Str → Option Value} {z : Fz} {ds : List D} {vs : List V} {lo hi : Option Int} (r : Reps K mg z ds vs) : Reps K mg z (cut ds lo hi) (cutV vs lo hi) := by
  unfold cut cutV
  rw [← r.len]
  exact (r.drop _).take _
def slN : D → Option Int → Option Int → Res Cont
  | .lst xs, lo, hi => .ok (.lst (cut xs lo hi))
  | _, _, _ => .bad
def slT : D → Option Int → Option Int → Res D
  | .tup xs, lo, hi => .ok (.tup (cut xs lo hi))
  | _, _, _ => .bad
def dSl {α : Type} (g : D → Option Int → Option Int → Res α) (da : Den D) (dl dh : Den (Option Int)) : Den α := fun ρ m => (da ρ m).bind fun x => (dl ρ x.2).bind fun l => (dh ρ l.2).bind fun u => (g x.1 l.1 u.1).bind fun d => .ok (d, u.2)
theorem cut_whole {α : Type} {xs : List α} {lo hi : Option Int} (h : HT.sIx xs.length 0 lo = 0 ∧ HT.sIx xs.length xs.length hi = xs.length) : cut xs lo hi = xs := by
  unfold cut
  rw [h.1, h.2]
  simp
theorem pd_slN {da : Den D} {dl dh : Den (Option Int)} {lo hi : Option Expr} {p2 : Pos} (ha : PE X a (tX X.K X.mg RW da (pLook X.K X.mg))) (hl : PO X lo (tX X.K X.mg RW dl pOpt)) (hh : PO X hi (tX X.K X.mg RW dh pOpt)) :
    PE X (.Subscript a (.Slice lo hi none p2) pos) (tX X.K X.mg RW (dSl slN da dl dh) (pNew X.K X.mg)) := PE.imp (pe_slice sl_list ha hl hh) fun σ H Q q => by
  refine tX.imp q fun B F0 z ow ρ m S h => Rem.step pNew.pm h fun dx m1 B1 z1 ow1 x H1 hB hz S1 px h1 => ?_
  refine ⟨B1, F0, z1, ow1, ρ, m1, S1, Rem.step pNew.pm h1 fun l m2 B2 z2 ow2 y H2 hB2 hz2 S2 py h2 => ?_⟩
  refine ⟨B2, F0, z2, ow2, ρ, m2, S2, Rem.step pNew.pm h2 fun u m3 B3 z3 ow3 w H3 hB3 hz3 S3 pw h3 => ?_⟩
  cases (show y = l from py)
  cases (show w = u from pw)
  cases dx with
  | lst ds =>
    obtain ⟨p, xs, rfl, e, r⟩ := look_list S3 (look_mono (B' := B) (hB2.trans hB3) (hz2.trans hz3) px)
    exact ⟨p, xs, rfl, SqL.of e, fun p hp => Rem.newLst (ds := cut ds l u) h3 S3 (reps_cut r) hp⟩
  | _ => exact h3.elim
theorem pd_slT {da : Den D} {dl dh : Den (Option Int)} {lo hi : Option Expr} {p2 : Pos} (ha : PE X a (tX X.K X.mg RW da (pLook X.K X.mg))) (hl : PO X lo (tX X.K X.mg RW dl pOpt)) (hh : PO X hi (tX X.K X.mg RW dh pOpt)) :
    PE X (.Subscript a (.Slice lo hi none p2) pos) (tX X.K X.mg RW (dSl slT da dl dh) (pVal X.K X.mg)) := PE.imp (pe_slice sl_tupA ha hl hh) fun σ H Q q => by
  refine tX.imp q fun B F0 z ow ρ m S h => Rem.step pVal.pm h fun dx m1 B1 z1 ow1 x H1 hB hz S1 px h1 => ?_
  refine ⟨B1, F0, z1, ow1, ρ, m1, S1, Rem.step pVal.pm h1 fun l m2 B2 z2 ow2 y H2 hB2 hz2 S2 py h2 => ?_⟩
  refine ⟨B2, F0, z2, ow2, ρ, m2, S2, Rem.step pVal.pm h2 fun u m3 B3 z3 ow3 w H3 hB3 hz3 S3 pw h3 => ?_⟩
  cases (show y = l from py)
  cases (show w = u from pw)
  cases dx with
  | tup ds =>
    have px' := look_mono (B' := B) (hB2.trans hB3) (hz2.trans hz3) px
    obtain ⟨p, xs, rfl, e, r⟩ := look_tup S3 px'
    have rx := look_rep px' (fun c => by cases c <;> simp [Cont.d])
    refine ⟨p, xs, rfl, e, fun hw => ?_, fun _ p hp => Rem.newTup (ds := cut ds l u) h3 S3 (reps_cut r) hp⟩
    rw [← r.len] at hw
    have h4 : Rem X.K X.mg RW (.ok (.tup (cut ds l u), m3)) B3 F0 z3 ρ σ (pVal X.K X.mg) Q := h3
    rw [cut_whole hw] at h4
    exact h4.here S3 rx
  | _ => exact h3.elim
def dNil {α : Type} : Den (List α) := fun _ m => .ok ([], m)
def dCons {α : Type} (da : Den α) (dr : Den (List α)) : Den (List α) := fun ρ m => (da ρ m).bind fun x => (dr ρ x.2).bind fun xs => .ok (x.1 :: xs.1, xs.2)
theorem pad_nil : PA X [] (tX X.K X.mg RW dNil (pVals X.K X.mg)) := PA.imp pa_nil fun σ H Q ⟨B, F0, z, ow, ρ, m, S, h⟩ => h.here S .nil
theorem pad_cons {es : List Expr} {de : Den D} {dr : Den (List D)} (ha : PE X e (tX X.K X.mg RW de (pVal X.K X.mg))) (hr : PA X es (tX X.K X.mg RW dr (pVals X.K X.mg))) (hs : starEach (e :: es) X.env = (false, eval e X.env) :: starEach es X.env := by rfl) :
    PA X (e :: es) (tX X.K X.mg RW (dCons de dr) (pVals X.K X.mg)) := PA.imp (pa_cons ha hr hs) fun σ H Q q => by
  refine tX.imp q fun B F0 z ow ρ m S h => Rem.step pVals.pm h fun dx m1 B1 z1 ow1 x H1 hB hz S1 px h1 => ?_
  refine ⟨B1, F0, z1, ow1, ρ, m1, S1, Rem.step pVals.pm h1 fun ds m2 B2 z2 ow2 vs H2 hB2 hz2 S2 ps h2 => ?_⟩
  exact h2.here S2 (Reps.cons (Rep.le hz2 px) ps)
theorem pal_nil : PA X [] (tX X.K X.mg RW dNil (pLooks X.K X.mg)) := PA.imp pa_nil fun σ H Q ⟨B, F0, z, ow, ρ, m, S, h⟩ => h.here S ⟨rfl, fun i d v e => by simp at e⟩
theorem pal_cons {es : List Expr} {de : Den D} {dr : Den (List D)} (ha : PE X e (tX X.K X.mg RW de (pLook X.K X.mg))) (hr : PA X es (tX X.K X.mg RW dr (pLooks X.K X.mg))) (hs : starEach (e :: es) X.env = (false, eval e X.env) :: starEach es X.env := by rfl) :
    PA X (e :: es) (tX X.K X.mg RW (dCons de dr) (pLooks X.K X.mg)) := PA.imp (pa_cons ha hr hs) fun σ H Q q => by
  refine tX.imp q fun B F0 z ow ρ m S h => Rem.step pLooks.pm h fun dx m1 B1 z1 ow1 x H1 hB hz S1 px h1 => ?_
  refine ⟨B1, F0, z1, ow1, ρ, m1, S1, Rem.step pLooks.pm h1 fun ds m2 B2 z2 ow2 vs H2 hB2 hz2 S2 ps h2 => ?_⟩
  refine h2.here S2 ⟨by simp [ps.1], fun i d v e1 e2 => ?_⟩
  cases i with
  | zero =>
    simp at e1 e2
    subst e1 e2
    exact look_mono hB2 hz2 px
  | succ i => exact ps.2 i d v (by simpa using e1) (by simpa using e2)
def dTup (da : Den (List D)) : Den D := fun ρ m => (da ρ m).bind fun x => if x.1.length ≤ sizeLine then .ok (.tup x.1, x.2) else .bad
def dLst (da : Den (List D)) : Den Cont := fun ρ m => (da ρ m).bind fun x => if x.1.length ≤ sizeLine then .ok (.lst x.1, x.2) else .bad
theorem pd_tup {es : List Expr} {da : Den (List D)} {x1} (ha : PA X es (tX X.K X.mg RW da (pVals X.K X.mg))) : PE X (.Tuple es x1 pos) (tX X.K X.mg RW (dTup da) (pVal X.K X.mg)) :=
  PE.imp (pe_tup ha) fun σ H Q q => tX.imp q fun B F0 z ow ρ m S h => Rem.step pVal.pm h fun x m1 B1 z1 ow1 v H1 hB hz S1 px h1 => by
    dsimp only at h1
    split at h1
    · rename_i hl
      exact ⟨by rw [← Reps.len px]; exact hl, fun p hp => h1.newTup S1 px hp⟩
    · exact h1.elim
theorem pd_lst {es : List Expr} {da : Den (List D)} (ha : PA X es (tX X.K X.mg RW da (pVals X.K X.mg))) : PE X (.List es pos) (tX X.K X.mg RW (dLst da) (pNew X.K X.mg)) :=
  PE.imp (pe_lst ha) fun σ H Q q => tX.imp q fun B F0 z ow ρ m S h => Rem.step pNew.pm h fun x m1 B1 z1 ow1 v H1 hB hz S1 px h1 => by
    dsimp only at h1
    split at h1
    · rename_i hl
      exact ⟨by rw [← Reps.len px]; exact hl, fun p hp => h1.newLst S1 px hp⟩
    · exact h1.elim
def oneArg {α : Type} (g : D → Res α) : List D → Res α
  | [x] => g x
  | _ => .bad
def twoArg {α : Type} (g : D → D → Res α) : List D → Res α
  | [x, y] => g x y
  | _ => .bad
def dCB {α : Type} (g : List D → Res α) (da : Den (List D)) : Den α := fun ρ m => (da ρ m).bind fun x => (g x.1).bind fun d => .ok (d, x.2)
def CbR (X : Cx) (r : List V → Hp → VK → Prop) (g : List D → Res D) : Prop := ∀ {RW : WX} {B F0 : Hp} {z : Fz} {ow : Own} {ρ : List Slot} {m : List Ob} {σ : St} {H : Hp} {vs : List V} {ds : List D} {Q : VK},
  StOk X.K X.mg B F0 z ow ρ m σ H → pLooks X.K X.mg B B z ρ σ ds vs → Rem X.K X.mg RW ((g ds).bind fun d => .ok (d, m)) B F0 z ρ σ (pVal X.K X.mg) Q → r vs H Q
def CbN (X : Cx) (r : List V → Hp → VK → Prop) (g : List D → Res Cont) : Prop := ∀ {RW : WX} {B F0 : Hp} {z : Fz} {ow : Own} {ρ : List Slot} {m : List Ob} {σ : St} {H : Hp} {vs : List V} {ds : List D} {Q : VK},
  StOk X.K X.mg B F0 z ow ρ m σ H → pLooks X.K X.mg B B z ρ σ ds vs → Rem X.K X.mg RW ((g ds).bind fun d => .ok (d, m)) B F0 z ρ σ (pNew X.K X.mg) Q → r vs H Q
theorem looks_one {K : PySem.W.Frag} {mg : Str → Option Value} {z : Fz} {B B' : Hp} {ρ : List Slot} {σ : St} {d : D} {vs : List V} (h : pLooks K mg B' B z ρ σ [d] vs) : ∃ v, vs = [v] ∧ pLook K mg B B z ρ σ d v := by
  obtain ⟨hl, h⟩ := h
  match vs, hl with
  | [v], _ => exact ⟨v, rfl, h 0 d v rfl rfl⟩
theorem looks_two {K : PySem.W.Frag} {mg : Str → Option Value} {z : Fz} {B B' : Hp} {ρ : List Slot} {σ : St} {d e : D} {vs : List V} (h : pLooks K mg B' B z ρ σ [d, e] vs) : ∃ v w, vs = [v, w] ∧ pLook K mg B B z ρ σ d v ∧ pLook K mg B B z ρ σ e w := by
  obtain ⟨hl, h⟩ := h
  match vs, hl with
  | [v, w], _ => exact ⟨v, w, rfl, h 0 d v rfl rfl, h 1 e w rfl rfl⟩
theorem cb_step {r : List V → Hp → VK → Prop} {g : List D → Res D} (hg : CbR X r g) {da : Den (List D)} (σ : St) (H : Hp) (Q : VK) (q : tX X.K X.mg RW (dCB g da) (pVal X.K X.mg) σ H Q) : tCB r (tX X.K X.mg RW da (pLooks X.K X.mg)) σ H Q :=
  tX.imp q fun B F0 z ow ρ m S h => Rem.step pVal.pm h fun ds m1 B1 z1 ow1 vs H1 hB hz S1 px h1 => hg S1 px h1
theorem cb_stepN {r : List V → Hp → VK → Prop} {g : List D → Res Cont} (hg : CbN X r g) {da : Den (List D)} (σ : St) (H : Hp) (Q : VK) (q : tX X.K X.mg RW (dCB g da) (pNew X.K X.mg) σ H Q) : tCB r (tX X.K X.mg RW da (pLooks X.K X.mg)) σ H Q :=
  tX.imp q fun B F0 z ow ρ m S h => Rem.step pNew.pm h fun ds m1 B1 z1 ow1 vs H1 hB hz S1 px h1 => hg S1 px h1
theorem pd_callB {id : String} {x : Str} {p : Pos} {r : List V → Hp → VK → Prop} {g : List D → Res D} {es : List Expr} {da : Den (List D)} (hc : CallR X (.builtin id) r) (hg : CbR X r g) (hG : Gl X x) (hm : X.mg x = none) (hv : bootBuiltins x = some (.builtin id))
    (ha : PA X (e :: es) (tX X.K X.mg RW da (pLooks X.K X.mg))) (hn : x ≠ "__name__" := by decide) (hdb : (x == ("__debug__" : Str)) = false := by decide)
    (he : starEach (e :: es) X.env = (false, eval e X.env) :: starEach es X.env := by rfl) (hpl : (backTo pos (starEach es X.env)).any (·.1) = false := by rfl) :
    PE X (.Call (.Name x p) (e :: es) [] pos) (tX X.K X.mg RW (dCB g da) (pVal X.K X.mg)) := PE.imp (pe_callB hc hG hm hv ha hn hdb he hpl) (cb_step hg)
theorem pd_callTy {T : String} {x : Str} {p : Pos} {r : List V → Hp → VK → Prop} {g : List D → Res D} {es : List Expr} {da : Den (List D)} (hc : CallR X (.type T) r) (hg : CbR X r g) (hG : Gl X x) (hm : X.mg x = none) (hv : bootBuiltins x = some (.type T))
    (ha : PA X (e :: es) (tX X.K X.mg RW da (pLooks X.K X.mg))) (hn : x ≠ "__name__" := by decide) (hdb : (x == ("__debug__" : Str)) = false := by decide)
    (he : starEach (e :: es) X.env = (false, eval e X.env) :: starEach es X.env := by rfl) (hpl : (backTo pos (starEach es X.env)).any (·.1) = false := by rfl) :
    PE X (.Call (.Name x p) (e :: es) [] pos) (tX X.K X.mg RW (dCB g da) (pVal X.K X.mg)) := PE.imp (pe_callTy hc hG hm hv ha hn hdb he hpl) (cb_step hg)
theorem pd_callTyN {T : String} {x : Str} {p : Pos} {r : List V → Hp → VK → Prop} {g : List D → Res Cont} {es : List Expr} {da : Den (List D)} (hc : CallR X (.type T) r) (hg : CbN X r g) (hG : Gl X x) (hm : X.mg x = none) (hv : bootBuiltins x = some (.type T))
    (ha : PA X (e :: es) (tX X.K X.mg RW da (pLooks X.K X.mg))) (hn : x ≠ "__name__" := by decide) (hdb : (x == ("__debug__" : Str)) = false := by decide)
    (he : starEach (e :: es) X.env = (false, eval e X.env) :: starEach es X.env := by rfl) (hpl : (backTo pos (starEach es X.env)).any (·.1) = false := by rfl) :
    PE X (.Call (.Name x p) (e :: es) [] pos) (tX X.K X.mg RW (dCB g da) (pNew X.K X.mg)) := PE.imp (pe_callTy hc hG hm hv ha hn hdb he hpl) (cb_stepN hg)
def lenD : D → Res D
  | .lst xs => .ok (.int xs.length)
  | .tup xs => .ok (.int xs.length)
  | _ => .bad
theorem len_r : CbR X (fun xs H Q => ∃ p ys, xs = [.ref p] ∧ (SqL X.K H p ys ∨ SqT X.K H p ys) ∧ Q (.int ys.length) H) (oneArg lenD) := by
  intro RW B F0 z ow ρ m σ H vs ds Q S px h
  match ds, h with
  | [d], h =>
    obtain ⟨v, rfl, p⟩ := looks_one px
    cases d with
    | lst xs =>
      obtain ⟨a, ys, rfl, e, r⟩ := look_list S p
      exact ⟨a, ys, rfl, .inl (SqL.of e), by rw [← r.len]; exact h.here S (rep_int.mpr rfl)⟩
    | tup xs =>
      obtain ⟨a, ys, rfl, e, r⟩ := look_tup S p
      exact ⟨a, ys, rfl, .inr e, by rw [← r.len]; exact h.here S (rep_int.mpr rfl)⟩
    | _ => exact h.elim
  | [], h => exact h.elim
  | _ :: _ :: _, h => exact h.elim
def intD : D → Res D
  | .int i => .ok (.int i)
  | .bl b => .ok (.int (if b then 1 else 0))
  | _ => .bad
theorem int_r : CbR X (fun xs H Q => (∃ i, xs = [.int i] ∧ Q (.int i) H) ∨ ∃ k, xs = [.bl k] ∧ Q (.int (if k then 1 else 0)) H) (oneArg intD) := by
  intro RW B F0 z ow ρ m σ H vs ds Q S px h
  match ds, h with
  | [d], h =>
    obtain ⟨v, rfl, p⟩ := looks_one px
    cases d with
    | int i => exact .inl ⟨i, by rw [look_int p], h.here S (rep_int.mpr rfl)⟩
    | bl i => exact .inr ⟨i, by rw [look_bl p], h.here S (rep_int.mpr rfl)⟩
    | _ => exact h.elim
  | [], h => exact h.elim
  | _ :: _ :: _, h => exact h.elim
def max2D : D → D → Res D
  | .int i, .int j => .ok (.int (if j > i then j else i))
  | _, _ => .bad
def min2D : D → D → Res D
  | .int i, .int j => .ok (.int (if j < i then j else i))
  | _, _ => .bad
theorem max2_r : CbR X (fun xs H Q => ∃ i j, xs = [.int i, .int j] ∧ Q (.int (if j > i then j else i)) H) (twoArg max2D) := by
  intro RW B F0 z ow ρ m σ H vs ds Q S px h
  match ds, h with
  | [d, e], h =>
    obtain ⟨v, w, rfl, p, q⟩ := looks_two px
    cases d with
    | int i => cases e with
      | int j => exact ⟨i, j, by rw [look_int p, look_int q], h.here S (rep_int.mpr rfl)⟩
      | _ => exact h.elim
    | _ => exact h.elim
  | [], h => exact h.elim
  | [_], h => exact h.elim
  | _ :: _ :: _ :: _, h => exact h.elim
theorem min2_r : CbR X (fun xs H Q => ∃ i j, xs = [.int i, .int j] ∧ Q (.int (if j < i then j else i)) H) (twoArg min2D) := by
  intro RW B F0 z ow ρ m σ H vs ds Q S px h
  match ds, h with
  | [d, e], h =>
    obtain ⟨v, w, rfl, p, q⟩ := looks_two px
    cases d with
    | int i => cases e with
      | int j => exact ⟨i, j, by rw [look_int p, look_int q], h.here S (rep_int.mpr rfl)⟩
      | _ => exact h.elim
    | _ => exact h.elim
  | [], h => exact h.elim
  | [_], h => exact h.elim
  | _ :: _ :: _ :: _, h => exact h.elim
def ints? : List D → Option (List Int)
  | [] => some []
  | .int i :: r => (ints? r).map (i :: ·)
  | _ :: _ => none
theorem ints?_eq : ∀ {ds : List D} {ns : List Int}, ints? ds = some ns → ds = ns.map D.int
  | [], ns, h => by cases h; rfl
  | d :: r, ns, h => by
    cases d with
    | int i =>
      simp only [ints?, Option.map_eq_some_iff] at h
      obtain ⟨ms, e, rfl⟩ := h
      rw [ints?_eq e]
      rfl
    | _ => simp [ints?] at h
theorem ints?_map (ns : List Int) : ints? (ns.map D.int) = some ns := by
  induction ns with
  | nil => rfl
  | cons n ns ih => simp [ints?, ih]
def sumD : D → Res D
  | .lst xs => match ints? xs with
    | some ns => .ok (.int ns.sum)
    | none => .bad
  | _ => .bad
theorem sum_r : CbR X (rSum X.K) (oneArg sumD) := by
  intro RW B F0 z ow ρ m σ H vs ds Q S px h
  match ds, h with
  | [d], h =>
    obtain ⟨v, rfl, p⟩ := looks_one px
    cases d with
    | lst xs =>
      dsimp only [oneArg, sumD] at h
      cases hn : ints? xs with
      | none => rw [hn] at h; exact h.elim
      | some ns =>
        rw [hn] at h
        cases ints?_eq hn
        obtain ⟨a, ys, rfl, e, r⟩ := look_list S p
        cases r.ints
        exact ⟨a, ns, rfl, SqL.of e, h.here S (rep_int.mpr rfl)⟩
    | _ => exact h.elim
  | [], h => exact h.elim
  | _ :: _ :: _, h => exact h.elim
def maxI : Int → List Int → Int
  | a, [] => a
  | a, b :: r => maxI (if b > a then b else a) r
def minI : Int → List Int → Int
  | a, [] => a
  | a, b :: r => minI (if b < a then b else a) r
theorem maxI_spec : ∀ (r : List Int) (a : Int), (maxI a r = a ∨ maxI a r ∈ r) ∧ a ≤ maxI a r ∧ ∀ y ∈ r, y ≤ maxI a r
  | [], a => ⟨.inl rfl, Int.le_refl _, fun y h => by simp at h⟩
  | b :: r, a => by
    obtain ⟨h1, h2, h3⟩ := maxI_spec r (if b > a then b else a)
    simp only [maxI]
    refine ⟨?_, ?_, fun y hy => ?_⟩
    · rcases h1 with h1 | h1
      · rw [h1]; split <;> simp
      · exact .inr (List.mem_cons_of_mem _ h1)
    · refine Int.le_trans ?_ h2; split <;> omega
    · rcases List.mem_cons.mp hy with rfl | hy
      · refine Int.le_trans ?_ h2; split <;> omega
      · exact h3 y hy
theorem minI_spec : ∀ (r : List Int) (a : Int), (minI a r = a ∨ minI a r ∈ r) ∧ minI a r ≤ a ∧ ∀ y ∈ r, minI a r ≤ y
  | [], a => ⟨.inl rfl, Int.le_refl _, fun y h => by simp at h⟩
  | b :: r, a => by
    obtain ⟨h1, h2, h3⟩ := minI_spec r (if b < a then b else a)
    simp only [minI]
    refine ⟨?_, ?_, fun y hy => ?_⟩
    · rcases h1 with h1 | h1
      · rw [h1]; split <;> simp
      · exact .inr (List.mem_cons_of_mem _ h1)
    · refine Int.le_trans h2 ?_; split <;> omega
    · rcases List.mem_cons.mp hy with rfl | hy
      · refine Int.le_trans h2 ?_; split <;> omega
      · exact h3 y hy
def maxLD : D → Res D
  | .lst xs => match ints? xs with
    | some (n :: ns) => .ok (.int (maxI n ns))
    | _ => .bad
  | _ => .bad
def minLD : D → Res D
  | .lst xs => match ints? xs with
    | some (n :: ns) => .ok (.int (minI n ns))
    | _ => .bad
  | _ => .bad
theorem maxL_r : CbR X (rMax X.K) (oneArg maxLD) := by
  intro RW B F0 z ow ρ m σ H vs ds Q S px h
  match ds, h with
  | [d], h =>
    obtain ⟨v, rfl, p⟩ := looks_one px
    cases d with
    | lst xs =>
      dsimp only [oneArg, maxLD] at h
      cases hn : ints? xs with
      | none => rw [hn] at h; exact h.elim
      | some ns =>
        rw [hn] at h
        cases ints?_eq hn
        cases ns with
        | nil => exact h.elim
        | cons n ns =>
          obtain ⟨a, ys, rfl, e, r⟩ := look_list S p
          cases r.ints
          refine ⟨a, n :: ns, rfl, SqL.of e, by simp, fun w h1 h2 => ?_⟩
          obtain ⟨m1, m2, m3⟩ := maxI_spec ns n
          have e1 : w = maxI n ns := by
            have a1 : w ≤ maxI n ns := by
              rcases List.mem_cons.mp h1 with rfl | h1
              · exact m2
              · exact m3 _ h1
            have a2 : maxI n ns ≤ w := by
              rcases m1 with q | q
              · rw [q]; exact h2 _ (by simp)
              · exact h2 _ (List.mem_cons_of_mem _ q)
            omega
          rw [e1]
          exact h.here S (rep_int.mpr rfl)
    | _ => exact h.elim
  | [], h => exact h.elim
  | _ :: _ :: _, h => exact h.elim
theorem minL_r : CbR X (rMin X.K) (oneArg minLD) := by
  intro RW B F0 z ow ρ m σ H vs ds Q S px h
  match ds, h with
  | [d], h =>
    obtain ⟨v, rfl, p⟩ := looks_one px
    cases d with
    | lst xs =>
      dsimp only [oneArg, minLD] at h
      cases hn : ints? xs with
      | none => rw [hn] at h; exact h.elim
      | some ns =>
        rw [hn] at h
        cases ints?_eq hn
        cases ns with
        | nil => exact h.elim
        | cons n ns =>
          obtain ⟨a, ys, rfl, e, r⟩ := look_list S p
          cases r.ints
          refine ⟨a, n :: ns, rfl, SqL.of e, by simp, fun w h1 h2 => ?_⟩
          obtain ⟨m1, m2, m3⟩ := minI_spec ns n
          have e1 : w = minI n ns := by
            have a1 : minI n ns ≤ w := by
              rcases List.mem_cons.mp h1 with rfl | h1
              · exact m2
              · exact m3 _ h1
            have a2 : w ≤ minI n ns := by
              rcases m1 with q | q
              · rw [q]; exact h2 _ (by simp)
              · exact h2 _ (List.mem_cons_of_mem _ q)
            omega
          rw [e1]
          exact h.here S (rep_int.mpr rfl)
    | _ => exact h.elim
  | [], h => exact h.elim
  | _ :: _ :: _, h => exact h.elim
def listN : D → Res Cont
  | .lst xs => .ok (.lst xs)
  | .tup xs => .ok (.lst xs)
  | _ => .bad
theorem list_r : CbN X (fun xs H Q => ∃ p ys, xs = [.ref p] ∧ (SqL X.K H p ys ∨ SqT X.K H p ys) ∧ ∀ l, H l = none → Q (.ref l) (upd H l (.lst ys))) (oneArg listN) := by
  intro RW B F0 z ow ρ m σ H vs ds Q S px h
  match ds, h with
  | [d], h =>
    obtain ⟨v, rfl, p⟩ := looks_one px
    cases d with
    | lst xs =>
      obtain ⟨a, ys, rfl, e, r⟩ := look_list S p
      exact ⟨a, ys, rfl, .inl (SqL.of e), fun l hl => Rem.newLst (ds := xs) h S r hl⟩
    | tup xs =>
      obtain ⟨a, ys, rfl, e, r⟩ := look_tup S p
      exact ⟨a, ys, rfl, .inr e, fun l hl => Rem.newLst (ds := xs) h S r hl⟩
    | _ => exact h.elim
  | [], h => exact h.elim
  | _ :: _ :: _, h => exact h.elim
def tupleD : D → Res D
  | .lst xs => .ok (.tup xs)
  | .tup xs => .ok (.tup xs)
  | _ => .bad
theorem tuple_r : CbR X (fun xs H Q => ∃ p ys, xs = [.ref p] ∧ ((SqL X.K H p ys ∧ ∀ l, H l = none → Q (.ref l) (upd H l (.tup ys))) ∨ (SqT X.K H p ys ∧ Q (.ref p) H))) (oneArg tupleD) := by
  intro RW B F0 z ow ρ m σ H vs ds Q S px h
  match ds, h with
  | [d], h =>
    obtain ⟨v, rfl, p⟩ := looks_one px
    cases d with
    | lst xs =>
      obtain ⟨a, ys, rfl, e, r⟩ := look_list S p
      exact ⟨a, ys, rfl, .inl ⟨SqL.of e, fun l hl => Rem.newTup (ds := xs) h S r hl⟩⟩
    | tup xs =>
      obtain ⟨a, ys, rfl, e, r⟩ := look_tup S p
      refine ⟨a, ys, rfl, .inr ⟨e, h.here S ?_⟩⟩
      exact look_rep p (fun c => by cases c <;> simp [Cont.d])
    | _ => exact h.elim
  | [], h => exact h.elim
  | _ :: _ :: _, h => exact h.elim
end
end PD
namespace PD
open PySem PySem.Spec PyProof.Rows L2
abbrev FDen := List D → List Ob → Res (D × List Ob)
def spF (K : PySem.W.Frag) (mg : Str → Option Value) (n : Nat) (f : FDen) : Sp := fun vs H Q E => vs.length = n ∧ ∃ B F0 z ow m ds, StOk K mg B F0 z ow [] m [] H ∧ Reps K mg z ds vs ∧ match f ds m with
  | .ok (d, m') => ∀ z' ow' v H', z.le z' → StOk K mg B F0 z' ow' [] m' [] H' → Rep K mg z' d v → Q v H'
  | .err x m' => ∀ z' ow' cv dd H', z.le z' → StOk K mg B F0 z' ow' [] m' [] H' → ExcAt mg x cv dd z'.F → E cv dd H'
  | .bad => False
structure Fd (P : Program) (w : World) (K : PySem.W.Frag) (mg : Str → Option Value) (base : Heap) (x : Str) (k n : Nat) (f : FDen) : Prop where
  ex : ∃ a fd ps, FnOk P w K mg base (L2.CX P w) k a fd ps (spF K mg n f) ∧ mg x = some (.ref a) ∧ PySem.W.keepIn K (.ref a) = true ∧ Binds K fd ps []
section
variable {K : PySem.W.Frag} {mg : Str → Option Value} {RW : WX} {z z' z1 z2 : Fz} {B B' B1 B2 F0 F1 : Hp} {ow ow' ow1 : Own} {ρ : List Slot} {m m' m1 : List Ob} {σ : St} {H H' H1 : Hp}
def calleeB (ow : Own) (H : Hp) : Hp := fun a => match ow a with
  | some (.inr _) => none
  | _ => H a
def calleeO (ow : Own) : Own := fun a => match ow a with
  | some (.inr n) => some (.inr n)
  | _ => none
theorem StOk.enter (S : StOk K mg B F0 z ow ρ m σ H) : StOk K mg (calleeB ow H) z.F z (calleeO ow) [] m [] H where
  fh := S.fh
  bh := fun a o e => by
    unfold calleeB at e
    split at e
    · cases e
    · exact e
  f0 := Same.refl _
  new := fun a e => .inl e
  len := rfl
  slot := fun i s e => by simp at e
  ol := S.ol
  ob := fun n o e => by
    obtain ⟨fp, e1, q⟩ := S.ob n o e
    exact ⟨fp, e1, q.mono (Fz.le.refl _) (fun a h => by unfold calleeO; rw [h]) fun _ _ _ h => h⟩
  ow := fun a o e => by
    unfold calleeO at e
    split at e
    · rename_i n hn
      cases e
      obtain ⟨h1, h2, h3⟩ := S.ow a _ hn
      exact ⟨h1, by unfold calleeB; rw [hn], h3⟩
    · cases e
theorem StOk.leave (S : StOk K mg B F0 z ow ρ m σ H) (hz : z.le z') (S' : StOk K mg (calleeB ow H) z.F z' ow' [] m' [] H') : ∃ ow'', StOk K mg B F0 z' ow'' ρ m' σ H' := by
  have hcb : ∀ a, calleeB ow H a = none → B a = none := fun a e => by
    cases q : B a with
    | none => rfl
    | some o =>
      have hH := S.bh a o q
      cases r : ow a with
      | none => unfold calleeB at e; rw [r] at e; rw [hH] at e; cases e
      | some u => rw [(S.ow a u r).2.1] at q; cases q
  have hinl : ∀ a i, ow a = some (.inl i) → calleeB ow H a = H a ∧ H a ≠ none := fun a i e => ⟨by unfold calleeB; rw [e], (S.ow a _ e).2.2⟩
  have hno : ∀ a i, ow a = some (.inl i) → ow' a = none := fun a i e => by
    cases q : ow' a with
    | none => rfl
    | some u =>
      obtain ⟨h1, h2⟩ := hinl a i e
      rw [(S'.ow a u q).2.1] at h1
      exact absurd h1.symm h2
  have hB' : Same B H' := fun a o e => by
    have hH := S.bh a o e
    refine S'.bh a o ?_
    unfold calleeB
    cases r : ow a with
    | none => exact hH
    | some u => rw [(S.ow a u r).2.1] at e; cases e
  refine ⟨fun a => match ow a with
    | some (.inl i) => some (.inl i)
    | _ => (match ow' a with
      | some (.inr n) => some (.inr n)
      | _ => none), ⟨S'.fh, hB', S.f0.trans hz.1, fun a e => ?_, S.len, fun i s e => ?_, S'.ol, fun n o e => ?_, fun a o e => ?_⟩⟩
  · rcases S'.new a e with q | q
    · exact S.new a q
    · exact .inr (hcb a q)
  · have q := S.slot i s e
    cases s with
    | non => trivial
    | exc a d x => exact ExcSl.le hz q
    | sh d => obtain ⟨x, e1, r⟩ := q; exact ⟨x, e1, r.le hz⟩
    | own c =>
      obtain ⟨a, o, e1, e2, c1, w⟩ := q
      refine ⟨a, o, e1, S'.bh a o ?_, c1.le hz, ?_⟩
      · rw [(hinl a i w).1]; exact e2
      · simp only [w]
  · obtain ⟨fp, e1, q⟩ := S'.ob n o e
    refine ⟨fp, e1, q.mono (Fz.le.refl _) (fun a h => ?_) fun _ _ _ h => h⟩
    have hn : ∀ i, ow a ≠ some (.inl i) := fun i w => by rw [hno a i w] at h; cases h
    simp only [h]
  · split at e
    · rename_i i hi
      cases e
      obtain ⟨h1, h2⟩ := hinl a i hi
      obtain ⟨g1, g2, g3⟩ := S.ow a _ hi
      have hb : calleeB ow H a ≠ none := by rw [h1]; exact h2
      refine ⟨?_, g2, ?_⟩
      · cases q : z'.F a with
        | none => rfl
        | some o =>
          rcases S'.new a (by rw [q]; simp) with r | r
          · exact absurd g1 r
          · exact absurd r hb
      · cases q : H a with
        | none => exact absurd q h2
        | some o => rw [S'.bh a o (by rw [h1]; exact q)]; simp
    · split at e
      · rename_i n hn
        cases e
        obtain ⟨g1, g2, g3⟩ := S'.ow a _ hn
        exact ⟨g1, hcb a g2, g3⟩
      · cases e
theorem StOk.forget (S : StOk K mg B F0 z ow ρ m σ H) : StOk K mg B F0 z ow [] m [] H :=
  ⟨S.fh, S.bh, S.f0, S.new, rfl, fun i s e => by simp at e, S.ol, S.ob, S.ow⟩
end
def dCall (f : FDen) (da : Den (List D)) : Den D := fun ρ m => (da ρ m).bind fun x => f x.1 x.2
section
variable {X : Cx} {RW : WX} {e : Expr}
theorem pd_call {x : Str} {k n : Nat} {f : FDen} {es : List Expr} {da : Den (List D)} {p pos : Pos} (F : Fd X.prog X.w X.K X.mg X.base x k n f) (hr : Room k X.A) (tk : Takes X RW) (hg : Gl X x) (ha : PA X (e :: es) (tX X.K X.mg RW da (pVals X.K X.mg)))
    (hn : ∀ ρ m xs m', da ρ m = .ok (xs, m') → xs.length = n) (hdb : (x == ("__debug__" : Str)) = false := by decide) (he : starEach (e :: es) X.env = (false, eval e X.env) :: starEach es X.env := by rfl) (hpl : (backTo pos (starEach es X.env)).any (·.1) = false := by rfl) :
    PE X (.Call (.Name x p) (e :: es) [] pos) (tX X.K X.mg RW (dCall f da) (pVal X.K X.mg)) := by
  obtain ⟨a, fd, ps, F, hm, hk, hb⟩ := F.ex
  refine PE.imp (pe_callS (E := WE RW) F hr hg hm hk hb (fun σ => passAt tk σ) ha hdb he hpl) fun σ H Q q => ?_
  obtain ⟨B, F0, z, ow, ρ, m, S, h⟩ := q
  refine ⟨B, F0, z, ow, ρ, m, S, ?_⟩
  have hlen := hn ρ m
  unfold dCall at h
  cases hd : da ρ m with
  | bad => rw [hd] at h; exact h
  | err x m' => rw [hd] at h; exact h
  | ok r =>
    obtain ⟨ds, m1⟩ := r
    rw [hd] at h
    intro B1 z1 ow1 vs H1 hB hz S1 pv
    refine ⟨by rw [← Reps.len pv]; exact hlen ds m1 hd, calleeB ow1 H1, z1.F, z1, calleeO ow1, m1, ds, S1.enter, pv, ?_⟩
    have h : Rem X.K X.mg RW (f ds m1) B F0 z ρ σ (pVal X.K X.mg) Q := h
    cases hf : f ds m1 with
    | bad => rw [hf] at h; exact h
    | ok r =>
      obtain ⟨d, m2⟩ := r
      rw [hf] at h
      intro z2 ow2 v H2 hz2 S2 rv
      obtain ⟨ow3, S3⟩ := S1.leave hz2 S2
      exact h B1 z2 ow3 v H2 hB (hz.trans hz2) S3 rv
    | err x m2 =>
      rw [hf] at h
      intro z2 ow2 cv dd H2 hz2 S2 ex
      obtain ⟨ow3, S3⟩ := S1.leave hz2 S2
      exact h z2 ow3 cv dd H2 (hz.trans hz2) (S3.weak hB) ex
end
inductive Out where
  | nx (ρ : List Slot) (m : List Ob) | rt (d : D) (m : List Ob) | bk (ρ : List Slot) (m : List Ob) | ct (ρ : List Slot) (m : List Ob) | er (x : Exn) (ρ : List Slot) (m : List Ob) | bad
abbrev SDen := List Slot → List Ob → Out
section
variable (K : PySem.W.Frag) (mg : Str → Option Value) (RW : WX)
def RemS (o : Out) (B F0 : Hp) (z : Fz) (D : Ends) : Prop := match o with
  | .nx ρ' m' => ∀ z' ow' σ' H', z.le z' → StOk K mg B F0 z' ow' ρ' m' σ' H' → D.nx σ' H'
  | .rt d m' => ∀ z' ow' v H', z.le z' → StOk K mg B F0 z' ow' [] m' [] H' → Rep K mg z' d v → D.rt v H'
  | .bk ρ' m' => ∀ z' ow' σ' H', z.le z' → StOk K mg B F0 z' ow' ρ' m' σ' H' → D.bk σ' H'
  | .ct ρ' m' => ∀ z' ow' σ' H', z.le z' → StOk K mg B F0 z' ow' ρ' m' σ' H' → D.ct σ' H'
  | .er x ρ' m' => ∀ z' ow' σ' cv dd H', z.le z' → StOk K mg B F0 z' ow' ρ' m' σ' H' → ExcAt mg x cv dd z'.F → RW cv dd σ' H'
  | .bad => False
def tB (den : SDen) : TS := fun D σ H => ∃ B F0 z ow ρ m, StOk K mg B F0 z ow ρ m σ H ∧ RemS K mg RW (den ρ m) B F0 z D
end
def bindS {α : Type} (r : Res (α × List Ob)) (ρ : List Slot) (k : α → List Ob → Out) : Out := match r with
  | .ok (a, m') => k a m'
  | .err x m' => .er x ρ m'
  | .bad => .bad
section
variable {K : PySem.W.Frag} {mg : Str → Option Value} {RW : WX} {z z' z1 z2 : Fz} {B B' B1 B2 F0 : Hp} {ow ow' ow1 : Own} {ρ : List Slot} {m m1 : List Ob} {σ : St} {H H' H1 : Hp} {D : Ends}
theorem RemS.mono {o : Out} (hz : z.le z1) (h : RemS K mg RW o B F0 z D) : RemS K mg RW o B F0 z1 D := by
  cases o with
  | nx ρ' m' => exact fun z' ow' σ' H' q => h z' ow' σ' H' (hz.trans q)
  | rt d m' => exact fun z' ow' v H' q => h z' ow' v H' (hz.trans q)
  | bk ρ' m' => exact fun z' ow' σ' H' q => h z' ow' σ' H' (hz.trans q)
  | ct ρ' m' => exact fun z' ow' σ' H' q => h z' ow' σ' H' (hz.trans q)
  | er x ρ' m' => exact fun z' ow' σ' cv dd H' q => h z' ow' σ' cv dd H' (hz.trans q)
  | bad => exact h
theorem Rem.stepS {α β : Type} {r : Res (α × List Ob)} {k : α → List Ob → Out} {P1 : Post α β} {Q1 : β → Hp → Prop} (h : RemS K mg RW (bindS r ρ k) B F0 z D)
    (g : ∀ a m1 B1 z1 ow1 v H1, Same B B1 → z.le z1 → StOk K mg B1 F0 z1 ow1 ρ m1 σ H1 → P1 B B1 z1 ρ σ a v → RemS K mg RW (k a m1) B F0 z1 D → Q1 v H1) : Rem K mg RW r B F0 z ρ σ P1 Q1 := by
  cases r with
  | ok a =>
    obtain ⟨d, m'⟩ := a
    intro B1 z1 ow1 v H1 hB hz S p
    exact g d m' B1 z1 ow1 v H1 hB hz S p (RemS.mono hz h)
  | err x m' => exact fun z' ow' cv dd H' hz S e => h z' ow' σ cv dd H' hz S e
  | bad => exact h
end
def thenS (a b : SDen) : SDen := fun ρ m => match a ρ m with
  | .nx ρ' m' => b ρ' m'
  | o => o
def skipS : SDen := fun ρ m => .nx ρ m
section
variable {X : Cx} {RW : WX} {e c : Expr} {pos : Pos}
theorem sd_nil : PSs X [] (tB X.K X.mg RW skipS) := PSs.imp pss_nil fun D σ H ⟨B, F0, z, ow, ρ, m, S, h⟩ => h z ow σ H (Fz.le.refl _) S
theorem seq_step {a b : SDen} (D : Ends) (σ : St) (H : Hp) (q : tB X.K X.mg RW (thenS a b) D σ H) : tSeq (tB X.K X.mg RW a) (tB X.K X.mg RW b) D σ H := by
  obtain ⟨B, F0, z, ow, ρ, m, S, h⟩ := q
  refine ⟨B, F0, z, ow, ρ, m, S, ?_⟩
  unfold thenS at h
  cases ha : a ρ m with
  | nx ρ' m' =>
    rw [ha] at h
    exact fun z' ow' σ' H' hz S' => ⟨B, F0, z', ow', ρ', m', S', RemS.mono hz h⟩
  | rt d m' => rw [ha] at h; exact h
  | bk ρ' m' => rw [ha] at h; exact h
  | ct ρ' m' => rw [ha] at h; exact h
  | er x ρ' m' => rw [ha] at h; exact h
  | bad => rw [ha] at h; exact h
theorem sd_cons {st : Stmt} {rest : List Stmt} {a b : SDen} (ha : PS X st (tB X.K X.mg RW a)) (hb : PSs X rest (tB X.K X.mg RW b)) : PSs X (st :: rest) (tB X.K X.mg RW (thenS a b)) := PSs.imp (pss_cons ha hb) seq_step
theorem sd_one {st : Stmt} {a : SDen} (ha : PS X st (tB X.K X.mg RW a)) : PSs X [st] (tB X.K X.mg RW a) := pss_one ha
def retS (de : Den D) : SDen := fun ρ m => bindS (de ρ m) ρ fun d m' => .rt d m'
theorem sd_ret {de : Den D} (h : PE X e (tX X.K X.mg RW de (pVal X.K X.mg))) : PS X (.Return (some e) pos) (tB X.K X.mg RW (retS de)) :=
  PS.imp (ps_ret h) fun D σ H ⟨B, F0, z, ow, ρ, m, S, q⟩ => ⟨B, F0, z, ow, ρ, m, S, Rem.stepS q fun d m1 B1 z1 ow1 v H1 hB hz S1 p q1 => q1 z1 ow1 v H1 (Fz.le.refl _) (S1.weak hB).forget p⟩
def exprS {α : Type} (de : Den α) : SDen := fun ρ m => bindS (de ρ m) ρ fun _ m' => .nx ρ m'
theorem sd_expr {de : Den D} (h : PE X e (tX X.K X.mg RW de (pVal X.K X.mg))) (hs : swapsWith e none pos.line X.env = pure false := by rfl) : PS X (.Expr e pos) (tB X.K X.mg RW (exprS de)) :=
  PS.imp (ps_expr h hs) fun D σ H ⟨B, F0, z, ow, ρ, m, S, q⟩ => ⟨B, F0, z, ow, ρ, m, S, Rem.stepS q fun d m1 B1 z1 ow1 v H1 hB hz S1 p q1 => q1 z1 ow1 σ H1 (Fz.le.refl _) (S1.weak hB)⟩
def ifS (dc : Den Bool) (a b : SDen) : SDen := fun ρ m => bindS (dc ρ m) ρ fun c m' => match c with
  | true => a ρ m'
  | false => b ρ m'
theorem sd_if {dc : Den Bool} {a b : SDen} {sa sb : List Stmt} (hc : PT X c (tX X.K X.mg RW dc pTest)) (ha : PSs X sa (tB X.K X.mg RW a)) (hb : PSs X sb (tB X.K X.mg RW b)) : PS X (.If c sa sb pos) (tB X.K X.mg RW (ifS dc a b)) :=
  PS.imp (ps_if hc ha hb) fun D σ H ⟨B, F0, z, ow, ρ, m, S, q⟩ => ⟨B, F0, z, ow, ρ, m, S, Rem.stepS q fun d m1 B1 z1 ow1 v H1 hB hz S1 p q1 => by
    cases (show v = d from p)
    cases d with
    | true => exact iteT ⟨B, F0, z1, ow1, ρ, m1, S1.weak hB, q1⟩
    | false => exact iteF ⟨B, F0, z1, ow1, ρ, m1, S1.weak hB, q1⟩⟩
def setS (i : Nat) (de : Den D) : SDen := fun ρ m => bindS (de ρ m) ρ fun d m' => .nx (ρ.set i (.sh d)) m'
def setN (i : Nat) (de : Den Cont) : SDen := fun ρ m => bindS (de ρ m) ρ fun c m' => .nx (ρ.set i (.own c)) m'
theorem StOk.takeNew {K : PySem.W.Frag} {mg : Str → Option Value} {z : Fz} {B B1 F0 : Hp} {ow : Own} {ρ : List Slot} {m : List Ob} {σ : St} {H : Hp} {i : Nat} {c : Cont} {v : V} (S : StOk K mg B1 F0 z ow ρ m σ H) (hB : Same B B1) (p : pNew K mg B B1 z ρ σ c v) :
    ∃ ow', StOk K mg B F0 z ow' (ρ.set i (.own c)) m (σ.set i (some v)) H := by
  obtain ⟨p, o, rfl, h1, h2, h3, h4⟩ := p
  exact ⟨_, (S.weak hB).setOwn (S.bh _ _ h2) h3 h1 (S.noown h2) h4⟩
theorem set_step {i : Nat} {de : Den D} (D : Ends) (σ : St) (H : Hp) (q : tB X.K X.mg RW (setS i de) D σ H) : tAsg (tX X.K X.mg RW de (pVal X.K X.mg)) (gName i) D σ H := by
  obtain ⟨B, F0, z, ow, ρ, m, S, q⟩ := q
  exact ⟨B, F0, z, ow, ρ, m, S, Rem.stepS q fun d m1 B1 z1 ow1 v H1 hB hz S1 p q1 => q1 z1 _ _ H1 (Fz.le.refl _) ((S1.weak hB).setSh p)⟩
theorem setN_step {i : Nat} {de : Den Cont} (D : Ends) (σ : St) (H : Hp) (q : tB X.K X.mg RW (setN i de) D σ H) : tAsg (tX X.K X.mg RW de (pNew X.K X.mg)) (gName i) D σ H := by
  obtain ⟨B, F0, z, ow, ρ, m, S, q⟩ := q
  exact ⟨B, F0, z, ow, ρ, m, S, Rem.stepS q fun d m1 B1 z1 ow1 v H1 hB hz S1 p q1 => by
    obtain ⟨ow2, S2⟩ := S1.takeNew (i := i) hB p
    exact q1 z1 _ _ H1 (Fz.le.refl _) S2⟩
theorem sd_set {i : Nat} {x : Str} {de : Den D} {pos' : Pos} (hN : X.N.Nodup) (hi : X.N[i]? = some x) (hx : Loc X.env.scope x) (he : PE X e (tX X.K X.mg RW de (pVal X.K X.mg))) (hs : swapsWith e (some (.Name x pos')) pos.line X.env = pure false := by rfl)
    (hf : X.fn x = true ∨ X.env.scope.names.lookup x = some .local := by first | exact .inl rfl | exact .inr rfl | assumption) : PS X (.Assign [.Name x pos'] e pos) (tB X.K X.mg RW (setS i de)) := PS.imp (ps_set hN hi hx he hs hf) set_step
theorem sd_setN {i : Nat} {x : Str} {de : Den Cont} {pos' : Pos} (hN : X.N.Nodup) (hi : X.N[i]? = some x) (hx : Loc X.env.scope x) (he : PE X e (tX X.K X.mg RW de (pNew X.K X.mg))) (hs : swapsWith e (some (.Name x pos')) pos.line X.env = pure false := by rfl)
    (hf : X.fn x = true ∨ X.env.scope.names.lookup x = some .local := by first | exact .inl rfl | exact .inr rfl | assumption) : PS X (.Assign [.Name x pos'] e pos) (tB X.K X.mg RW (setN i de)) := PS.imp (ps_set hN hi hx he hs hf) setN_step
def augS (i : Nat) (g : D → D → Res D) (de : Den D) : SDen := fun ρ m => match slotAt ρ i with
  | .sh x => bindS (de ρ m) ρ fun y m' => (match g x y with
    | .ok d => .nx (ρ.set i (.sh d)) m'
    | _ => .bad)
  | _ => .bad
def IpR (X : Cx) (t : TIp) (g : D → D → Res D) : Prop := ∀ {B F0 : Hp} {z : Fz} {ow : Own} {ρ : List Slot} {m : List Ob} {σ : St} {H : Hp} {x y : V} {dx dy d : D} {Q : VK},
  StOk X.K X.mg B F0 z ow ρ m σ H → Rep X.K X.mg z dx x → pLook X.K X.mg B B z ρ σ dy y → g dx dy = .ok d → (∀ v, Rep X.K X.mg z d v → Q v H) → t x y H Q
theorem sd_aug {i : Nat} {x : Str} {op : Operator} {t : TIp} {g : D → D → Res D} {de : Den D} {pos' : Pos} (hN : X.N.Nodup) (hi : X.N[i]? = some x) (hx : Loc X.env.scope x) (he : PE X e (tX X.K X.mg RW de (pLook X.K X.mg))) (ho : PIp X op t) (hg : IpR X t g)
    (hf : X.fn x = true ∨ X.env.scope.names.lookup x = some .local := by first | exact .inl rfl | exact .inr rfl | assumption) : PS X (.AugAssign (.Name x pos') op e pos) (tB X.K X.mg RW (augS i g de)) :=
  PS.imp (ps_aug hN hi hx he ho hf) fun D σ H ⟨B, F0, z, ow, ρ, m, S, q⟩ => by
    unfold augS at q
    cases hs : slotAt ρ i with
    | non => rw [hs] at q; exact q.elim
    | exc a d x => rw [hs] at q; exact q.elim
    | own c => rw [hs] at q; exact q.elim
    | sh dx =>
      rw [hs] at q
      obtain ⟨v, e1, rp⟩ := S.slot i _ (slotAt_get hs (by simp))
      refine ⟨v, ?_, B, F0, z, ow, ρ, m, S, Rem.stepS q fun dy m1 B1 z1 ow1 y H1 hB hz S1 py q1 => ?_⟩
      · cases r : σ[i]? with
        | none => rw [r] at e1; cases e1
        | some u => rw [r] at e1; exact congrArg some e1
      · cases hgd : g dx dy with
        | ok d =>
          rw [hgd] at q1
          exact hg S1 (rp.le hz) py hgd fun v rv => q1 z1 _ _ H1 (Fz.le.refl _) ((S1.weak hB).setSh rv)
        | err x m' => rw [hgd] at q1; exact q1.elim
        | bad => rw [hgd] at q1; exact q1.elim
def ipAddD : D → D → Res D
  | .int i, .int j => .ok (.int (i + j))
  | _, _ => .bad
theorem ipadd_r : IpR X (ipI fun i j => i + j) ipAddD := by
  intro B F0 z ow ρ m σ H x y dx dy d Q S px py h q
  unfold ipAddD at h
  split at h
  · cases h
    exact ⟨_, _, rep_int.mp px, look_int py, q _ (rep_int.mpr rfl)⟩
  · cases h
theorem ipsub_r : IpR X (ipI fun i j => i - j) subD := by
  intro B F0 z ow ρ m σ H x y dx dy d Q S px py h q
  unfold subD at h
  split at h
  · cases h
    exact ⟨_, _, rep_int.mp px, look_int py, q _ (rep_int.mpr rfl)⟩
  · cases h
theorem ip_of {op : Operator} {r : R2} (ho : OpR X (inplaceOp op) r) : PIp X op r := by
  intro pins s σ H x y v u Q I rx ry h
  exact augR ho I rx ry h
def isetS (i : Nat) (di de : Den D) : SDen := fun ρ m => match slotAt ρ i with
  | .own (.lst ds) => bindS (de ρ m) ρ fun d m1 => bindS (di ρ m1) ρ fun k m2 => (match k with
    | .int j => (match ixN ds.length j with
      | some n => .nx (ρ.set i (.own (.lst (ds.set n d)))) m2
      | none => .bad)
    | _ => .bad)
  | _ => .bad
theorem slot_own {K : PySem.W.Frag} {mg : Str → Option Value} {z : Fz} {B F0 : Hp} {ow : Own} {ρ : List Slot} {m : List Ob} {σ : St} {H : Hp} {i : Nat} {c : Cont} (S : StOk K mg B F0 z ow ρ m σ H) (h : slotAt ρ i = .own c) :
    ρ[i]? = some (.own c) ∧ ∃ a o, σ[i]? = some (some (V.ref a)) ∧ H a = some o ∧ COk K mg z a c o := by
  have hg := slotAt_get h (by simp)
  obtain ⟨a, o, e1, e2, c1, _⟩ := S.slot i _ hg
  refine ⟨hg, a, o, ?_, e2, c1⟩
  cases r : σ[i]? with
  | none => rw [r] at e1; cases e1
  | some u => rw [r] at e1; exact congrArg some e1
theorem sd_iset {i : Nat} {x : Str} {ei : Expr} {di de : Den D} {px p2 : Pos} (hv : PE X (.Name x px) (tVar i)) (hi : PE X ei (tX X.K X.mg RW di (pLook X.K X.mg))) (he : PE X e (tX X.K X.mg RW de (pVal X.K X.mg)))
    (ha : ∀ v, assign (.Subscript (.Name x px) ei p2) X.env v = (do
      let ov ← holding [v] (eval (.Name x px) X.env)
      let iv ← holding [v, ov] (eval ei X.env)
      standAt p2
      holding [v, ov, iv] (setItem ov iv v)
      release [v, ov, iv] []) := by intro _; rfl) (hs : swapsWithSole [.Subscript (.Name x px) ei p2] e pos.line X.env = pure false := by rfl) (hw : swappedStores [.Subscript (.Name x px) ei p2] e X.env = pure none := by rfl)
    (h1 : (assignEach [.Subscript (.Name x px) ei p2] X.env).map (·.2) = [assign (.Subscript (.Name x px) ei p2) X.env] := by rfl) : PS X (.Assign [.Subscript (.Name x px) ei p2] e pos) (tB X.K X.mg RW (isetS i di de)) :=
  PS.imp (ps_asg he (pg_sub hv hi set_list ha) hs hw h1) fun D σ H ⟨B, F0, z, ow, ρ, m, S, q⟩ => by
    unfold isetS at q
    split at q
    · rename_i ds hs
      refine ⟨B, F0, z, ow, ρ, m, S, Rem.stepS q fun d m1 B1 z1 ow1 v H1 hB hz S1 pd q1 => ?_⟩
      have S1' := S1.weak hB
      obtain ⟨_, a, _, e3, _, _⟩ := slot_own S1' hs
      refine ⟨.ref a, e3, B, F0, z1, ow1, ρ, m1, S1', Rem.stepS q1 fun k m2 B2 z2 ow2 kv H2 hB2 hz2 S2 pk q2 => ?_⟩
      have S2' := S2.weak hB2
      obtain ⟨hg, a2, o, e4, hH, xs, rfl, r⟩ := slot_own S2' hs
      rw [e3] at e4
      cases e4
      cases k with
      | int j =>
        dsimp only at q2
        cases hx : ixN ds.length j with
        | none => rw [hx] at q2; exact q2.elim
        | some n =>
          rw [hx] at q2
          refine ⟨a, xs, j, n, rfl, look_int pk, hH, by rw [← r.len]; exact hx, ?_⟩
          exact q2 z2 _ σ _ (Fz.le.refl _) (S2'.change hg e3 ⟨_, rfl, r.set n (Rep.le hz2 pd)⟩)
      | _ => exact q2.elim
    · exact q.elim
end
end PD
namespace PD
open PySem PySem.Spec PyProof.Rows L2
section
variable (K : PySem.W.Frag) (mg : Str → Option Value)
def Yields (J : It) (z0 : Fz) (ds : List D) : Prop := ∀ (B F0 : Hp) (z : Fz) (ow : Own) (ρ : List Slot) (m : List Ob) (σ : St) (H : Hp) (i : Nat), z0.le z → StOk K mg B F0 z ow ρ m σ H →
  (i = ds.length → J.stop i H) ∧ ∀ d, ds[i]? = some d → J.go i H ∧ ∀ x H', J.yld i H x H' → ∃ z', z.le z' ∧ StOk K mg B F0 z' ow ρ m σ H' ∧ Rep K mg z' d x
def pIt : Post (List D) It := fun _ _ z _ _ ds J => Yields K mg J z ds
end
theorem pIt.pm {K : PySem.W.Frag} {mg : Str → Option Value} : PMono (pIt K mg) := fun _ _ _ _ _ _ _ _ _ h => h
theorem PI.imp {X : Cx} {tg e : Expr} {t t' : TI} (h : PI X tg e t) (k : ∀ σ H Q, t' σ H Q → t σ H Q) : PI X tg e t' := ⟨fun pins s σ H Q I q => h.run pins s σ H Q I (k σ H Q q)⟩
def asList : D → Res (List D)
  | .lst xs => .ok xs
  | _ => .bad
def asTup : D → Res (List D)
  | .tup xs => .ok xs
  | _ => .bad
def dIt (g : D → Res (List D)) (da : Den D) : Den (List D) := fun ρ m => (da ρ m).bind fun x => (g x.1).bind fun xs => .ok (xs, x.2)
def irange (lo : Int) : Nat → List D
  | 0 => []
  | n + 1 => .int lo :: irange (lo + 1) n
theorem irange_len : ∀ (n : Nat) (lo : Int), (irange lo n).length = n
  | 0, _ => rfl
  | n + 1, lo => by simp [irange, irange_len n]
theorem irange_get : ∀ (n : Nat) (lo : Int) (i : Nat) (d : D), (irange lo n)[i]? = some d → i < n ∧ d = .int (lo + i)
  | 0, _, i, d, h => by simp [irange] at h
  | n + 1, lo, 0, d, h => by simp [irange] at h; exact ⟨Nat.succ_pos _, by rw [← h]; simp⟩
  | n + 1, lo, i + 1, d, h => by
    simp only [irange, List.getElem?_cons_succ] at h
    obtain ⟨h1, h2⟩ := irange_get n (lo + 1) i d h
    refine ⟨by omega, ?_⟩
    rw [h2]
    congr 1
    push_cast
    omega
def rng1 : List D → Res (List D)
  | [.int j] => if -(2 ^ 62) ≤ j ∧ j < 2 ^ 62 then .ok (irange 0 j.toNat) else .bad
  | _ => .bad
def rng2 : List D → Res (List D)
  | [.int i, .int j] => if -(2 ^ 62) ≤ i ∧ i < 2 ^ 62 ∧ -(2 ^ 62) ≤ j ∧ j < 2 ^ 62 then .ok (irange i (j - i).toNat) else .bad
  | _ => .bad
theorem yields_list {K : PySem.W.Frag} {mg : Str → Option Value} {z : Fz} {a : Addr} {xs : List V} {ds : List D} (h : z.F a = some (.lst xs)) (r : Reps K mg z ds xs) : Yields K mg (Itl K a) z ds := by
  intro B F0 z' ow ρ m σ H i hz S
  have hH : SqL K H a xs := SqL.of (S.fh _ _ (hz.1 _ _ h))
  refine ⟨fun e => ⟨xs, hH, by rw [← r.len]; omega⟩, fun d hd => ?_⟩
  obtain ⟨v, hv, rv⟩ := r.get hd
  refine ⟨⟨xs, v, hH, hv⟩, fun x H' y => ?_⟩
  obtain ⟨e, y⟩ := y
  subst e
  have e := (y xs hH).symm.trans hv
  cases e
  exact ⟨z', Fz.le.refl _, S, rv.le hz⟩
theorem yields_tup {K : PySem.W.Frag} {mg : Str → Option Value} {z : Fz} {a : Addr} {xs : List V} {ds : List D} (h : SqT K z.F a xs) (r : Reps K mg z ds xs) : Yields K mg (Itt K a) z ds := by
  intro B F0 z' ow ρ m σ H i hz S
  have hH : SqT K H a xs := same_tup S.fh (same_tup hz.1 h)
  refine ⟨fun e => ⟨xs, hH, by rw [← r.len]; omega⟩, fun d hd => ?_⟩
  obtain ⟨v, hv, rv⟩ := r.get hd
  refine ⟨⟨xs, v, hH, hv⟩, fun x H' y => ?_⟩
  obtain ⟨e, y⟩ := y
  subst e
  have e := (y xs hH).symm.trans hv
  cases e
  exact ⟨z', Fz.le.refl _, S, rv.le hz⟩
theorem yields_rng {K : PySem.W.Frag} {mg : Str → Option Value} {z : Fz} (lo : Int) (n : Nat) : Yields K mg (Itr lo n) z (irange lo n) := by
  intro B F0 z' ow ρ m σ H i hz S
  refine ⟨fun e => by show n ≤ i; rw [e, irange_len]; exact Nat.le_refl _, fun d hd => ?_⟩
  obtain ⟨h1, rfl⟩ := irange_get n lo i d hd
  refine ⟨h1, fun x H' y => ?_⟩
  obtain ⟨rfl, rfl⟩ := y
  exact ⟨z', Fz.le.refl _, S, rep_int.mpr rfl⟩
section
variable {X : Cx} {RW : WX} {e tg : Expr} {pos : Pos}
theorem it_list {da : Den D} (h : PE X e (tX X.K X.mg RW da (pVal X.K X.mg))) : PI X tg e (tX X.K X.mg RW (dIt asList da) (pIt X.K X.mg)) :=
  PI.imp (pi_list h) fun σ H Q q => tX.imp q fun B F0 z ow ρ m S h => Rem.step pIt.pm h fun d m1 B1 z1 ow1 v H1 hB hz S1 p h1 => by
    cases d with
    | lst ds =>
      obtain ⟨a, xs, rfl, e1, r⟩ := (by simpa only [Rep] using (show Rep X.K X.mg z1 (.lst ds) v from p) : ∃ a xs, v = .ref a ∧ z1.F a = some (.lst xs) ∧ Reps X.K X.mg z1 ds xs)
      exact ⟨a, rfl, ⟨xs, SqL.of (S1.fh _ _ e1)⟩, Rem.here (d := ds) h1 S1 (yields_list e1 r)⟩
    | _ => exact h1.elim
theorem it_tup {da : Den D} (h : PE X e (tX X.K X.mg RW da (pVal X.K X.mg))) : PI X tg e (tX X.K X.mg RW (dIt asTup da) (pIt X.K X.mg)) :=
  PI.imp (pi_tup h) fun σ H Q q => tX.imp q fun B F0 z ow ρ m S h => Rem.step pIt.pm h fun d m1 B1 z1 ow1 v H1 hB hz S1 p h1 => by
    cases d with
    | tup ds =>
      obtain ⟨a, xs, rfl, e1, r⟩ := (by simpa only [Rep] using (show Rep X.K X.mg z1 (.tup ds) v from p) : ∃ a xs, v = .ref a ∧ SqT X.K z1.F a xs ∧ Reps X.K X.mg z1 ds xs)
      exact ⟨a, rfl, ⟨xs, same_tup S1.fh e1⟩, Rem.here (d := ds) h1 S1 (yields_tup e1 r)⟩
    | _ => exact h1.elim
def dRng (g : List D → Res (List D)) (da : Den (List D)) : Den (List D) := fun ρ m => (da ρ m).bind fun x => (g x.1).bind fun xs => .ok (xs, x.2)
theorem it_rng1 {a : Expr} {da : Den (List D)} {p : Pos} (hg : Gl X "range") (hm : X.mg "range" = none) (ha : PA X [a] (tX X.K X.mg RW da (pLooks X.K X.mg))) (hs : starEach [a] X.env = [(false, eval a X.env)] := by rfl) :
    PI X tg (.Call (.Name "range" p) [a] [] pos) (tX X.K X.mg RW (dRng rng1 da) (pIt X.K X.mg)) :=
  PI.imp (pi_range1 hg hm ha hs) fun σ H Q q => tX.imp q fun B F0 z ow ρ m S h => Rem.step pIt.pm h fun xs m1 B1 z1 ow1 vs H1 hB hz S1 p h1 => by
    match xs, h1 with
    | [.int j], h1 =>
      obtain ⟨v, rfl, px⟩ := looks_one p
      have h1 : Rem X.K X.mg RW ((rng1 [.int j]).bind fun xs => .ok (xs, m1)) B1 F0 z1 ρ σ (pIt X.K X.mg) Q := h1
      by_cases hj : -(2 ^ 62) ≤ j ∧ j < 2 ^ 62
      · rw [show rng1 [.int j] = .ok (irange 0 j.toNat) from if_pos hj] at h1
        exact ⟨j, by rw [look_int px], hj.1, hj.2, Rem.here (d := irange 0 j.toNat) h1 S1 (yields_rng 0 _)⟩
      · rw [show rng1 [.int j] = .bad from if_neg hj] at h1
        exact h1.elim
    | [], h1 => exact h1.elim
    | .non :: _, h1 => exact h1.elim
    | .bl _ :: _, h1 => exact h1.elim
    | .str _ :: _, h1 => exact h1.elim
    | .tup _ :: _, h1 => exact h1.elim
    | .etp _ :: _, h1 => exact h1.elim
    | .lst _ :: _, h1 => exact h1.elim
    | .dct _ _ _ :: _, h1 => exact h1.elim
    | .ldc _ _ _ :: _, h1 => exact h1.elim
    | .row _ :: _, h1 => exact h1.elim
    | .obj _ :: _, h1 => exact h1.elim
    | .fn _ :: _, h1 => exact h1.elim
    | .scr _ :: _, h1 => exact h1.elim
    | .int _ :: _ :: _, h1 => exact h1.elim
theorem it_rng2 {a b : Expr} {da : Den (List D)} {p : Pos} (hg : Gl X "range") (hm : X.mg "range" = none) (ha : PA X [a, b] (tX X.K X.mg RW da (pLooks X.K X.mg)))
    (hs : starEach [a, b] X.env = [(false, eval a X.env), (false, eval b X.env)] := by rfl) (hs2 : starEach [b] X.env = [(false, eval b X.env)] := by rfl) :
    PI X tg (.Call (.Name "range" p) [a, b] [] pos) (tX X.K X.mg RW (dRng rng2 da) (pIt X.K X.mg)) :=
  PI.imp (pi_range2 hg hm ha hs hs2) fun σ H Q q => tX.imp q fun B F0 z ow ρ m S h => Rem.step pIt.pm h fun xs m1 B1 z1 ow1 vs H1 hB hz S1 p h1 => by
    unfold rng2 at h1
    dsimp only at h1
    split at h1
    · rename_i i j
      obtain ⟨v, w, rfl, px, py⟩ := looks_two p
      by_cases hj : -(2 ^ 62) ≤ i ∧ i < 2 ^ 62 ∧ -(2 ^ 62) ≤ j ∧ j < 2 ^ 62
      · rw [if_pos hj] at h1
        exact ⟨i, j, by rw [look_int px, look_int py], hj, Rem.here (d := irange i (j - i).toNat) h1 S1 (yields_rng i _)⟩
      · rw [if_neg hj] at h1
        exact h1.elim
    · exact h1.elim
end
abbrev Tg := D → List Slot → Option (List Slot)
def tG (K : PySem.W.Frag) (mg : Str → Option Value) (vs : List Nat) (f : Tg) : TG := fun v σ H Q => ∃ B F0 z ow ρ m d, StOk K mg B F0 z ow ρ m σ H ∧ Rep K mg z d v ∧ ∃ ρ', f d ρ = some ρ' ∧
  ∀ ow' σ', StOk K mg B F0 z ow' ρ' m σ' H → wipe σ' vs = wipe σ vs → Q σ' H
theorem PG.imp {X : Cx} {e : Expr} {t t' : TG} (h : PG X e t) (k : ∀ v σ H Q, t' v σ H Q → t v σ H Q) : PG X e t' := ⟨fun pins s σ H v u Q I r q => h.run pins s σ H v u Q I r (k v σ H Q q)⟩
def tgN (i : Nat) : Tg := fun d ρ => some (ρ.set i (.sh d))
def wipeS (ρ : List Slot) : List Nat → List Slot
  | [] => ρ
  | v :: vs => (wipeS ρ vs).set v .non
def TgOk (vs : List Nat) (f : Tg) : Prop := ∀ d ρ ρ', f d ρ = some ρ' → wipeS ρ' vs = wipeS ρ vs
theorem wipe_one (σ : St) (i : Nat) (v : Option V) : wipe (σ.set i v) [i] = wipe σ [i] := by
  show (σ.set i v).set i none = σ.set i none
  rw [List.set_set]
section
variable {X : Cx} {RW : WX} {e : Expr} {pos : Pos}
theorem tg_name {i : Nat} {x : Str} (hN : X.N.Nodup) (hi : X.N[i]? = some x) (hx : Loc X.env.scope x) (hf : X.fn x = true ∨ X.env.scope.names.lookup x = some .local := by first | exact .inl rfl | exact .inr rfl | assumption) : PG X (.Name x pos) (tG X.K X.mg [i] (tgN i)) :=
  PG.imp (pg_name hN hi hx hf) fun v σ H Q ⟨B, F0, z, ow, ρ, m, d, S, r, ρ', e, k⟩ => by
    cases e
    exact k _ _ (S.setSh r) (wipe_one _ _ _)
def loopS (tg : Tg) (body : SDen) : List D → SDen
  | [], ρ, m => .nx ρ m
  | d :: ds, ρ, m => match tg d ρ with
    | none => .bad
    | some ρ1 => match body ρ1 m with
      | .nx ρ' m' => loopS tg body ds ρ' m'
      | .ct ρ' m' => loopS tg body ds ρ' m'
      | .bk ρ' m' => .nx ρ' m'
      | o => o
def forS (di : Den (List D)) (tg : Tg) (body : SDen) : SDen := fun ρ m => bindS (di ρ m) ρ fun ds m' => loopS tg body ds ρ m'
theorem sd_for {tg iter : Expr} {body : List Stmt} {vs : List Nat} {di : Den (List D)} {f : Tg} {b : SDen} (hp : PassesOwn (model X.prog X.w) X.A X.env X.xe) (hc : X.calm = true) (hi : PI X tg iter (tX X.K X.mg RW di (pIt X.K X.mg))) (hg : PG X tg (tG X.K X.mg vs f)) (hb : PSs X body (tB X.K X.mg RW b))
    (hs : ∀ x, foldedSetIterable iter X.env x = pure x := by intro _; rfl) : PS X (.For tg iter body [] pos) (tB X.K X.mg RW (forS di f b)) :=
  PS.imp (ps_for hp hc hi hg hb hs) fun D σ H ⟨B, F0, z, ow, ρ, m, S, q⟩ => by
    refine ⟨B, F0, z, ow, ρ, m, S, Rem.stepS q fun ds m1 B1 z1 ow1 J H1 hB hz S1 yl q1 => ?_⟩
    have S1 := S1.weak hB
    refine ⟨fun i k σ H => k = ds.length - i ∧ i ≤ ds.length ∧ ∃ z2 ow2 ρ2 m2, z1.le z2 ∧ StOk X.K X.mg B F0 z2 ow2 ρ2 m2 σ H ∧ RemS X.K X.mg RW (loopS f b (ds.drop i) ρ2 m2) B F0 z2 D,
      ⟨ds.length, by simp, Nat.zero_le _, z1, ow1, ρ, m1, Fz.le.refl _, S1, by simpa using q1⟩, ?_⟩
    rintro i k σ H ⟨rfl, hi, z2, ow2, ρ2, m2, hz2, S2, q2⟩
    obtain ⟨y1, y2⟩ := yl B F0 z2 ow2 ρ2 m2 σ H i hz2 S2
    by_cases hlt : i < ds.length
    · have hd : ds[i]? = some ds[i] := List.getElem?_eq_getElem hlt
      obtain ⟨go, y3⟩ := y2 _ hd
      rw [List.drop_eq_getElem_cons hlt] at q2
      refine .inr ⟨go, fun σ' H' => ∃ z3 ow3 ρ3 m3, z1.le z3 ∧ StOk X.K X.mg B F0 z3 ow3 ρ3 m3 σ' H' ∧ RemS X.K X.mg RW (loopS f b (ds.drop (i + 1)) ρ3 m3) B F0 z3 D, fun σ' H' ⟨z3, ow3, ρ3, m3, h3, S3, q3⟩ => ⟨ds.length - (i + 1), by omega, rfl, hlt, z3, ow3, ρ3, m3, h3, S3, q3⟩, fun x H' hy => ?_⟩
      obtain ⟨z3, hz3, S3, rx⟩ := y3 x H' hy
      simp only [loopS] at q2
      cases ht : f ds[i] ρ2 with
      | none => rw [ht] at q2; exact q2.elim
      | some ρ3 =>
        rw [ht] at q2
        refine ⟨B, F0, z3, ow2, ρ2, m2, ds[i], S3, rx, ρ3, ht, fun ow4 σ4 S4 _ => ?_⟩
        refine ⟨B, F0, z3, ow4, ρ3, m2, S4, ?_⟩
        dsimp only at q2
        cases hbd : b ρ3 m2 with
        | nx ρ' m' =>
          rw [hbd] at q2
          exact fun z' ow' σ' H' h' S' => ⟨z', ow', ρ', m', hz2.trans (hz3.trans h'), S', RemS.mono (hz3.trans h') q2⟩
        | ct ρ' m' =>
          rw [hbd] at q2
          exact fun z' ow' σ' H' h' S' => ⟨z', ow', ρ', m', hz2.trans (hz3.trans h'), S', RemS.mono (hz3.trans h') q2⟩
        | bk ρ' m' =>
          rw [hbd] at q2
          exact fun z' ow' σ' H' h' S' => q2 z' ow' σ' H' (hz3.trans h') S'
        | rt d m' => rw [hbd] at q2; exact RemS.mono hz3 q2
        | er x ρ' m' => rw [hbd] at q2; exact RemS.mono hz3 q2
        | bad => rw [hbd] at q2; exact q2
    · have e : i = ds.length := by omega
      subst e
      rw [List.drop_length] at q2
      exact .inl ⟨y1 rfl, q2 z2 ow2 σ H (Fz.le.refl _) S2⟩
def whileS (dc : Den Bool) (b : SDen) : Nat → SDen
  | 0, _, _ => .bad
  | n + 1, ρ, m => bindS (dc ρ m) ρ fun c m1 => match c with
    | false => .nx ρ m1
    | true => match b ρ m1 with
      | .nx ρ' m' => whileS dc b n ρ' m'
      | .ct ρ' m' => whileS dc b n ρ' m'
      | .bk ρ' m' => .nx ρ' m'
      | o => o
theorem sd_while {c : Expr} {body : List Stmt} {dc : Den Bool} {b : SDen} (n : Nat) (hp : PassesOwn (model X.prog X.w) X.A X.env X.xe) (hc : PT X c (tX X.K X.mg RW dc pTest)) (hb : PSs X body (tB X.K X.mg RW b)) :
    PS X (.While c body [] pos) (tB X.K X.mg RW (whileS dc b n)) :=
  PS.imp (ps_while hp hc hb) fun D σ H ⟨B, F0, z, ow, ρ, m, S, q⟩ => by
    refine ⟨fun k σ H => ∃ z2 ow2 ρ2 m2, StOk X.K X.mg B F0 z2 ow2 ρ2 m2 σ H ∧ RemS X.K X.mg RW (whileS dc b k ρ2 m2) B F0 z2 D, ⟨n, z, ow, ρ, m, S, q⟩, ?_⟩
    rintro k σ H ⟨z2, ow2, ρ2, m2, S2, q2⟩
    cases k with
    | zero => exact q2.elim
    | succ k =>
      refine ⟨B, F0, z2, ow2, ρ2, m2, S2, Rem.stepS (show RemS X.K X.mg RW (bindS (dc ρ2 m2) ρ2 _) B F0 z2 D from q2) fun c m3 B3 z3 ow3 v H3 hB hz S3 p q3 => ?_⟩
      cases (show v = c from p)
      cases c with
      | false => exact iteF (q3 z3 ow3 σ H3 (Fz.le.refl _) (S3.weak hB))
      | true =>
        refine iteT ⟨fun σ' H' => ∃ z4 ow4 ρ4 m4, StOk X.K X.mg B F0 z4 ow4 ρ4 m4 σ' H' ∧ RemS X.K X.mg RW (whileS dc b k ρ4 m4) B F0 z4 D, fun σ' H' h => ⟨k, Nat.lt_succ_self _, h⟩, B, F0, z3, ow3, ρ2, m3, S3.weak hB, ?_⟩
        dsimp only at q3
        cases hbd : b ρ2 m3 with
        | nx ρ' m' =>
          rw [hbd] at q3
          exact fun z' ow' σ' H' h' S' => ⟨z', ow', ρ', m', S', RemS.mono h' q3⟩
        | ct ρ' m' =>
          rw [hbd] at q3
          exact fun z' ow' σ' H' h' S' => ⟨z', ow', ρ', m', S', RemS.mono h' q3⟩
        | bk ρ' m' => rw [hbd] at q3; exact q3
        | rt d m' => rw [hbd] at q3; exact q3
        | er x ρ' m' => rw [hbd] at q3; exact q3
        | bad => rw [hbd] at q3; exact q3
end
def noOwn (ρ : List Slot) : List Nat → Bool
  | [] => true
  | v :: vs => (match slotAt ρ v with
    | .own _ => false
    | _ => true) && noOwn ρ vs
section
variable {K : PySem.W.Frag} {mg : Str → Option Value} {RW : WX} {z z' z1 z2 : Fz} {B B' B1 B2 F0 F1 : Hp} {ow ow' ow1 : Own} {ρ : List Slot} {m m' m1 : List Ob} {σ : St} {H H' H1 : Hp}
theorem StOk.hide (S : StOk K mg B F0 z ow ρ m σ H) {i : Nat} (v : Option V) : StOk K mg B F0 z ow (ρ.set i .non) m (σ.set i v) H where
  fh := S.fh
  bh := S.bh
  f0 := S.f0
  new := S.new
  len := by simpa using S.len
  slot := fun j s e => by
    by_cases hj : i = j
    · subst hj
      obtain ⟨hl, _⟩ := List.getElem?_eq_some_iff.mp e
      have hl' : i < ρ.length := by simpa using hl
      rw [List.getElem?_set_self hl'] at e
      cases e
      trivial
    · rw [List.getElem?_set_ne hj] at e
      rw [join_set_ne hj]
      exact S.slot j s e
  ol := S.ol
  ob := S.ob
  ow := S.ow
theorem StOk.wiped (S : StOk K mg B F0 z ow ρ m σ H) : ∀ vs : List Nat, StOk K mg B F0 z ow (wipeS ρ vs) m (wipe σ vs) H
  | [] => S
  | v :: vs => (StOk.wiped S vs).hide none
theorem wipeS_get : ∀ {vs : List Nat} {ρ : List Slot} {i : Nat}, i ∉ vs → (wipeS ρ vs)[i]? = ρ[i]?
  | [], _, _, _ => rfl
  | v :: vs, ρ, i, h => by
    simp only [List.mem_cons, not_or] at h
    show ((wipeS ρ vs).set v .non)[i]? = _
    rw [List.getElem?_set_ne (Ne.symm h.1)]
    exact wipeS_get h.2
theorem wipe_get : ∀ {vs : List Nat} {σ : St} {i : Nat}, i ∉ vs → (wipe σ vs)[i]? = σ[i]?
  | [], _, _, _ => rfl
  | v :: vs, σ, i, h => by
    simp only [List.mem_cons, not_or] at h
    show ((wipe σ vs).set v none)[i]? = _
    rw [List.getElem?_set_ne (Ne.symm h.1)]
    exact wipe_get h.2
theorem slotAt_of : ∀ {ρ : List Slot} {i : Nat} {s : Slot}, ρ[i]? = some s → slotAt ρ i = s
  | [], _, _, h => by simp at h
  | t :: _, 0, s, h => by simpa [slotAt] using h
  | _ :: r, i + 1, s, h => slotAt_of (ρ := r) (i := i) (by simpa using h)
theorem noOwn_at : ∀ {vs : List Nat} {ρ : List Slot} {i : Nat} {c : Cont}, noOwn ρ vs = true → i ∈ vs → ρ[i]? ≠ some (.own c)
  | [], _, _, _, _, h => by simp at h
  | v :: vs, ρ, i, c, h, hi => by
    simp only [noOwn, Bool.and_eq_true] at h
    rcases List.mem_cons.mp hi with rfl | hi
    · intro e
      have e2 : slotAt ρ i = .own c := slotAt_of e
      rw [e2] at h
      exact Bool.noConfusion h.1
    · exact noOwn_at h.2 hi
theorem wipe_in : ∀ {vs : List Nat} {σ : St} {i : Nat}, i ∈ vs → i < σ.length → (wipe σ vs)[i]? = some none
  | v :: vs, σ, i, h, hl => by
    show ((wipe σ vs).set v none)[i]? = _
    by_cases e : v = i
    · subst e
      rw [List.getElem?_set_self (by rw [wipe_length]; exact hl)]
    · rw [List.getElem?_set_ne e]
      rcases List.mem_cons.mp h with rfl | h
      · exact absurd rfl e
      · exact wipe_in h hl
theorem wipe_wipe (σ : St) (vs : List Nat) : wipe (wipe σ vs) vs = wipe σ vs := by
  apply List.ext_getElem?
  intro i
  by_cases hi : i ∈ vs
  · by_cases hl : i < σ.length
    · rw [wipe_in hi hl, wipe_in hi (by rw [wipe_length]; exact hl)]
    · rw [List.getElem?_eq_none (by rw [wipe_length, wipe_length]; omega), List.getElem?_eq_none (by rw [wipe_length]; omega)]
  · rw [wipe_get hi]
theorem wipeS_len (ρ : List Slot) : ∀ vs : List Nat, (wipeS ρ vs).length = ρ.length
  | [] => rfl
  | v :: vs => by unfold wipeS; rw [List.length_set, wipeS_len ρ vs]
theorem wipeS_in : ∀ {vs : List Nat} {ρ : List Slot} {i : Nat}, i ∈ vs → i < ρ.length → (wipeS ρ vs)[i]? = some .non
  | v :: vs, ρ, i, h, hl => by
    show ((wipeS ρ vs).set v .non)[i]? = _
    by_cases e : v = i
    · subst e
      rw [List.getElem?_set_self (by rw [wipeS_len]; exact hl)]
    · rw [List.getElem?_set_ne e]
      rcases List.mem_cons.mp h with rfl | h
      · exact absurd rfl e
      · exact wipeS_in h hl
theorem wipeS_wipeS (ρ : List Slot) (vs : List Nat) : wipeS (wipeS ρ vs) vs = wipeS ρ vs := by
  apply List.ext_getElem?
  intro i
  by_cases hi : i ∈ vs
  · by_cases hl : i < ρ.length
    · rw [wipeS_in hi hl, wipeS_in hi (by rw [wipeS_len]; exact hl)]
    · rw [List.getElem?_eq_none (by rw [wipeS_len, wipeS_len]; omega), List.getElem?_eq_none (by rw [wipeS_len]; omega)]
  · rw [wipeS_get hi]
theorem StOk.unwipe {vs : List Nat} (S : StOk K mg B1 F1 z ow1 ρ m1 σ H1) (S' : StOk K mg B F0 z' ow' (wipeS ρ vs) m' (wipe σ vs) H') (hz : z.le z') (hn : noOwn ρ vs = true) : StOk K mg B F0 z' ow' ρ m' σ H' where
  fh := S'.fh
  bh := S'.bh
  f0 := S'.f0
  new := S'.new
  len := S.len
  slot := fun i s e => by
    by_cases hi : i ∈ vs
    · have q := S.slot i s e
      cases s with
      | non => trivial
      | exc a d x => exact ExcSl.le hz q
      | sh d => obtain ⟨x, e1, r⟩ := q; exact ⟨x, e1, r.le hz⟩
      | own c => exact absurd e (noOwn_at hn hi)
    · have q := S'.slot i s (by rw [wipeS_get hi]; exact e)
      rw [wipe_get hi] at q
      exact q
  ol := S'.ol
  ob := S'.ob
  ow := S'.ow
theorem StOk.rekeep {p : Addr} {o o' : HO} (S : StOk K mg (upd B p o) F0 z ow ρ m σ H) (hF : F0 p = none) : StOk K mg (upd B p o') F0 z ow ρ m σ (upd H p o') := by
  have hz : z.F p = none := by
    cases q : z.F p with
    | none => rfl
    | some u =>
      rcases S.new p (by rw [q]; simp) with r | r
      · exact absurd hF r
      · rw [upd_same] at r; cases r
  have hw := S.noown (p := p) (o := o) upd_same
  have other : ∀ b u, b ≠ p → H b = some u → upd H p o' b = some u := fun b u hb e => by rw [upd_ne hb]; exact e
  refine ⟨fun b x e => other b x (fun q => by subst q; rw [hz] at e; cases e) (S.fh b x e), fun b x e => ?_, S.f0, fun a e => ?_, S.len, fun i s e => ?_, S.ol, fun n u e => ?_, fun a u e => ?_⟩
  · by_cases hb : b = p
    · subst hb; rw [upd_same] at e ⊢; exact e
    · rw [upd_ne hb] at e
      exact other b x hb (S.bh b x (by rw [upd_ne hb]; exact e))
  · have ha : a ≠ p := fun q => e (by rw [q]; exact hz)
    have q := S.new a e
    rw [upd_ne ha] at q ⊢
    exact q
  · have q := S.slot i s e
    cases s with
    | non => trivial
    | exc a d x => exact q
    | sh d => exact q
    | own c =>
      obtain ⟨a, u, e1, e2, c1, w⟩ := q
      exact ⟨a, u, e1, other a u (fun q => by rw [q, hw] at w; cases w) e2, c1, w⟩
  · obtain ⟨fp, e1, q⟩ := S.ob n u e
    exact ⟨fp, e1, q.mono (Fz.le.refl _) (fun _ w => w) fun b x w1 h1 => other b x (fun q => by rw [q, hw] at w1; cases w1) h1⟩
  · have ha : a ≠ p := fun q => by rw [q, hw] at e; cases e
    obtain ⟨g1, g2, g3⟩ := S.ow a u e
    rw [upd_ne ha] at g2 ⊢
    exact ⟨g1, g2, by rw [upd_ne ha]; exact g3⟩
end
abbrev noRW : WX := fun _ _ _ _ => False
def compL (tg : Tg) (test : Den Bool) (elt : Den D) (ρ : List Slot) : List D → List Ob → Option (List D × List Ob)
  | [], m => some ([], m)
  | d :: ds, m => match tg d ρ with
    | none => none
    | some ρ1 => match test ρ1 m with
      | .ok (false, m1) => compL tg test elt ρ ds m1
      | .ok (true, m1) => (match elt ρ1 m1 with
        | .ok (x, m2) => (match compL tg test elt ρ ds m2 with
          | some (xs, m3) => some (x :: xs, m3)
          | none => none)
        | _ => none)
      | _ => none
def dComp (di : Den (List D)) (vs : List Nat) (tg : Tg) (test : Den Bool) (elt : Den D) : Den Cont := fun ρ m => (di ρ m).bind fun x => match noOwn ρ vs, compL tg test elt (wipeS ρ vs) x.1 x.2 with
  | true, some (xs, m') => if xs.length ≤ sizeLine then .ok (.lst xs, m') else .bad
  | _, _ => .bad
def dYes : Den Bool := fun _ m => .ok (true, m)
section
variable {K : PySem.W.Frag} {mg : Str → Option Value} {RW : WX}
theorem comp_step {vs : List Nat} {di : Den (List D)} {f : Tg} {test : Den Bool} {elt : Den D} (hf : TgOk vs f) (σ : St) (H : Hp) (Q : VK) (q : tX K mg RW (dComp di vs f test elt) (pNew K mg) σ H Q) :
    tLc (tX K mg RW di (pIt K mg)) (tG K mg vs f) (tX K mg noRW test pTest) (tX K mg noRW elt (pVal K mg)) vs σ H Q := by
  obtain ⟨B, F0, z, ow, ρ, m, S, h⟩ := q
  refine ⟨B, F0, z, ow, ρ, m, S, Rem.step pNew.pm h fun ds m1 B1 z1 ow1 J H1 hB hz S1 yl h1 => ?_⟩
  intro D hD
  dsimp only at h1
  cases hn : noOwn ρ vs with
  | false => rw [hn] at h1; exact h1.elim
  | true =>
    rw [hn] at h1
    cases hc : compL f test elt (wipeS ρ vs) ds m1 with
    | none => rw [hc] at h1; exact h1.elim
    | some r =>
      obtain ⟨xs, m'⟩ := r
      rw [hc] at h1
      dsimp only at h1
      by_cases hsz : xs.length ≤ sizeLine
      · rw [if_pos hsz] at h1
        obtain ⟨nz, nB, n0, nw⟩ := S1.new_none hD
        have S2 := (S1.keep hD (.lst []))
        refine ⟨fun i k H => k = ds.length - i ∧ i ≤ ds.length ∧ ∃ z2 ow2 m2 acc ys rest, z1.le z2 ∧ StOk K mg (upd B1 D (.lst acc)) F0 z2 ow2 ρ m2 σ H ∧ Reps K mg z2 ys acc ∧ compL f test elt (wipeS ρ vs) (ds.drop i) m2 = some (rest, m') ∧ ys ++ rest = xs,
          ⟨ds.length, by simp, Nat.zero_le _, z1, ow1, m1, [], [], xs, Fz.le.refl _, S2, .nil, by simpa using hc, rfl⟩, ?_⟩
        rintro i k H ⟨rfl, hi, z2, ow2, m2, acc, ys, rest, hz2, S2, ry, hr, hx⟩
        obtain ⟨y1, y2⟩ := yl _ F0 z2 ow2 ρ m2 σ H i hz2 S2
        by_cases hlt : i < ds.length
        · have hd : ds[i]? = some ds[i] := List.getElem?_eq_getElem hlt
          obtain ⟨go, y3⟩ := y2 _ hd
          rw [List.drop_eq_getElem_cons hlt] at hr
          refine .inr ⟨go, fun H' => i + 1 ≤ ds.length ∧ ∃ z2 ow2 m2 acc ys rest, z1.le z2 ∧ StOk K mg (upd B1 D (.lst acc)) F0 z2 ow2 ρ m2 σ H' ∧ Reps K mg z2 ys acc ∧ compL f test elt (wipeS ρ vs) (ds.drop (i + 1)) m2 = some (rest, m') ∧ ys ++ rest = xs,
            fun H' h' => ⟨ds.length - (i + 1), by omega, rfl, h'⟩, fun x H' hy => ?_⟩
          obtain ⟨z3, hz3, S3, rx⟩ := y3 x H' hy
          simp only [compL] at hr
          cases ht : f ds[i] (wipeS ρ vs) with
          | none => rw [ht] at hr; cases hr
          | some ρ3 =>
            rw [ht] at hr
            dsimp only at hr
            refine ⟨_, F0, z3, ow2, wipeS ρ vs, m2, ds[i], S3.wiped vs, rx, ρ3, ht, fun ow4 σ4 S4 hw => ⟨?_, ?_⟩⟩
            · rw [hw, wipe_wipe]
            have hwf : wipeS ρ3 vs = wipeS ρ vs := by rw [hf _ _ _ ht, wipeS_wipeS]
            have hws : wipe σ4 vs = wipe σ vs := by rw [hw, wipe_wipe]
            have back : ∀ {acc' : List V} {z5 : Fz} {ow5 : Own} {m5 : List Ob} {H5 : Hp}, z3.le z5 → StOk K mg (upd B1 D (.lst acc')) F0 z5 ow5 ρ3 m5 σ4 H5 → StOk K mg (upd B1 D (.lst acc')) F0 z5 ow5 ρ m5 σ H5 := fun {acc' z5 ow5 m5 H5} h5 S5 => by
              have q := S5.wiped vs
              rw [hwf, hws] at q
              exact S3.unwipe q h5 hn
            refine ⟨_, F0, z3, ow4, ρ3, m2, S4, ?_⟩
            cases htt : test ρ3 m2 with
            | err x m' => rw [htt] at hr; cases hr
            | bad => rw [htt] at hr; cases hr
            | ok r =>
              obtain ⟨bv, m3⟩ := r
              rw [htt] at hr
              intro B5 z5 ow5 v H5 hB5 hz5 S5 p5
              cases (show v = bv from p5)
              cases bv with
              | false =>
                dsimp only at hr
                exact iteF ⟨hlt, z5, ow5, m3, acc, ys, rest, hz2.trans (hz3.trans hz5), back hz5 (S5.weak hB5), ry.le (hz3.trans hz5), hr, hx⟩
              | true =>
                dsimp only at hr
                refine iteT ⟨B5, F0, z5, ow5, ρ3, m3, S5, ?_⟩
                cases hel : elt ρ3 m3 with
                | err x m' => rw [hel] at hr; cases hr
                | bad => rw [hel] at hr; cases hr
                | ok r =>
                  obtain ⟨y, m4⟩ := r
                  rw [hel] at hr
                  dsimp only at hr
                  cases hcr : compL f test elt (wipeS ρ vs) (ds.drop (i + 1)) m4 with
                  | none => rw [hcr] at hr; cases hr
                  | some r =>
                    obtain ⟨rest', m5⟩ := r
                    rw [hcr] at hr
                    cases hr
                    intro B6 z6 ow6 w H6 hB6 hz6 S6 pw
                    have hD6 : H6 D = some (.lst acc) := S6.bh _ _ (hB6 _ _ (hB5 _ _ upd_same))
                    refine ⟨acc, hD6, ?_, hlt, z6, ow6, m4, acc ++ [w], ys ++ [y], rest', hz2.trans (hz3.trans (hz5.trans hz6)), ?_, ?_, hcr, by rw [← hx, List.append_assoc]; rfl⟩
                    · rw [← ry.len]
                      have : (ys ++ y :: rest').length ≤ sizeLine := by rw [hx]; exact hsz
                      rw [List.length_append, List.length_cons] at this
                      omega
                    · exact back (hz5.trans hz6) ((S6.weak (hB5.trans hB6)).rekeep n0)
                    · exact (ry.le (hz3.trans (hz5.trans hz6))).append (.cons pw .nil)
        · have e : i = ds.length := by omega
          subst e
          rw [List.drop_length] at hr
          cases hr
          rw [List.append_nil] at hx
          subst hx
          refine .inl ⟨y1 rfl, ?_⟩
          refine h1 _ z2 ow2 _ H (same_upd nB) hz2 S2 ⟨D, _, rfl, nB, upd_same, ?_, acc, rfl, ry⟩
          cases q : z2.F D with
          | none => rfl
          | some u =>
            rcases S2.new D (by rw [q]; simp) with r | r
            · exact absurd n0 r
            · rw [upd_same] at r; cases r
      · rw [if_neg hsz] at h1; exact h1.elim
end
end PD
namespace PD
open PySem PySem.Spec PyProof.Rows L2
section
variable {X : Cx} {RW : WX}
theorem ptsd_nil : PTs X [] (tX X.K X.mg RW dYes pTest) := ⟨fun pins s σ H Q I q => pts_nil.run pins s σ H Q I (by
  obtain ⟨B, F0, z, ow, ρ, m, S, h⟩ := q
  exact h.here S rfl)⟩
theorem ptsd_one {c : Expr} {t : Den Bool} (h : PT X c (tX X.K X.mg RW t pTest)) : PTs X [c] (tX X.K X.mg RW t pTest) := pts_one h
variable {elt tg iter : Expr} {ifs : List Expr} {scope : Scope} {own : List (Str × Nat)} {pos : Pos} {di : Den (List D)} {f : Tg} {test : Den Bool} {de : Den D}
theorem pd_comp {vs : List Nat} (hc : X.calm = true) (hN : X.N.Nodup) (hi : PI X tg iter (tX X.K X.mg RW di (pIt X.K X.mg))) (hv : own.map (·.2) = vs) (ok : BlkOk X.N X.env.scope scope own) (hf : TgOk vs f)
    (hg : ∀ (s : Shared) (H : Hp) (C : Addr) (cl : List (Str × Addr)) (fp : List Addr), PG (X.blk s H scope (compEnvC scope cl C X.env) fp) tg (tG X.K X.mg vs f))
    (ht : ∀ (s : Shared) (H : Hp) (C : Addr) (cl : List (Str × Addr)) (fp : List Addr), PTs (X.blk s H scope (compEnvC scope cl C X.env) fp) ifs (tX X.K X.mg noRW test pTest))
    (he : ∀ (s : Shared) (H : Hp) (C : Addr) (cl : List (Str × Addr)) (fp : List Addr), PE (X.blk s H scope (compEnvC scope cl C X.env) fp) elt (tX X.K X.mg noRW de (pVal X.K X.mg))) (hs : ∀ x, foldedSetIterable iter X.env x = pure x := by intro _; rfl) :
    PE X (.ListComp elt [⟨tg, iter, ifs, 0⟩] scope pos) (tX X.K X.mg RW (dComp di vs f test de) (pNew X.K X.mg)) := by
  subst hv
  exact PE.imp (pe_lc hc hN hi ok hg ht he hs) (comp_step hf)
theorem sd_setC {vs : List Nat} {i : Nat} {y : Str} {py spos : Pos} (hc : X.calm = true) (hN : X.N.Nodup) (hy : X.N[i]? = some y) (hyl : X.env.scope.names.lookup y = some .local)
    (hsw : swapsWith (.ListComp elt [⟨tg, iter, ifs, 0⟩] scope pos) (some (.Name y py)) spos.line X.env = pure true) (hi : PI X tg iter (tX X.K X.mg RW di (pIt X.K X.mg))) (hv : own.map (·.2) = vs) (ok : BlkOk X.N X.env.scope scope own) (hf : TgOk vs f)
    (hg : ∀ (s : Shared) (H : Hp) (C : Addr) (cl : List (Str × Addr)) (fp : List Addr), PG (X.blk s H scope (compEnvC scope cl C X.env) fp) tg (tG X.K X.mg vs f))
    (ht : ∀ (s : Shared) (H : Hp) (C : Addr) (cl : List (Str × Addr)) (fp : List Addr), PTs (X.blk s H scope (compEnvC scope cl C X.env) fp) ifs (tX X.K X.mg noRW test pTest))
    (he : ∀ (s : Shared) (H : Hp) (C : Addr) (cl : List (Str × Addr)) (fp : List Addr), PE (X.blk s H scope (compEnvC scope cl C X.env) fp) elt (tX X.K X.mg noRW de (pVal X.K X.mg))) (hs : ∀ x, foldedSetIterable iter X.env x = pure x := by intro _; rfl) :
    PS X (.Assign [.Name y py] (.ListComp elt [⟨tg, iter, ifs, 0⟩] scope pos) spos) (tB X.K X.mg RW (setN i (dComp di vs f test de))) := by
  subst hv
  exact PS.imp (ps_setLc hc hN hy hyl hsw hi ok hg ht he hs) fun D σ H q => comp_step hf σ H _ (setN_step D σ H q)
end
def freezeS (i : Nat) (a : SDen) : SDen := fun ρ m => match slotAt ρ i with
  | .own c => a (ρ.set i (.sh c.d)) m
  | .sh _ => a ρ m
  | _ => .bad
theorem set_same {σ : St} {i : Nat} {v : Option V} (h : σ[i]? = some v) : σ.set i v = σ := by
  obtain ⟨hl, _⟩ := List.getElem?_eq_some_iff.mp h
  apply List.ext_getElem?
  intro j
  by_cases hj : i = j
  · subst hj; rw [List.getElem?_set_self hl, h]
  · rw [List.getElem?_set_ne hj]
section
variable {X : Cx} {RW : WX}
theorem freeze_step {i : Nat} {a : SDen} (D : Ends) (σ : St) (H : Hp) (q : tB X.K X.mg RW (freezeS i a) D σ H) : tB X.K X.mg RW a D σ H := by
  obtain ⟨B, F0, z, ow, ρ, m, S, h⟩ := q
  unfold freezeS at h
  cases hs : slotAt ρ i with
  | non => rw [hs] at h; exact h.elim
  | exc a d x => rw [hs] at h; exact h.elim
  | sh d => rw [hs] at h; exact ⟨B, F0, z, ow, ρ, m, S, h⟩
  | own c =>
    rw [hs] at h
    obtain ⟨p, o, e1, hH, r, hz, S2⟩ := S.shut (slotAt_get hs (by simp))
    have rp : Rep X.K X.mg ⟨upd z.F p o, z.As⟩ c.d (.ref p) := rep_of_cok (z := ⟨upd z.F p o, z.As⟩) (show upd z.F p o p = some o from upd_same) (r.le (Fz.le_upd hz))
    have S3 := S2.setSh (i := i) rp
    rw [set_same e1, List.set_set] at S3
    exact ⟨B, F0, _, _, _, m, S3, RemS.mono (Fz.le_upd hz) h⟩
theorem sd_freeze {i : Nat} {st : List Stmt} {a : SDen} (h : PSs X st (tB X.K X.mg RW a)) : PSs X st (tB X.K X.mg RW (freezeS i a)) := PSs.imp h freeze_step
def appS (i : Nat) (de : Den (List D)) : SDen := fun ρ m => match slotAt ρ i with
  | .own (.lst ds) => bindS (de ρ m) ρ fun ys m' => (match ys with
    | [y] => if ds.length < sizeLine then .nx (ρ.set i (.own (.lst (ds ++ [y])))) m' else .bad
    | _ => .bad)
  | _ => .bad
theorem sd_append {i : Nat} {x : Str} {e : Expr} {es : List Expr} {de : Den (List D)} {px apos cpos pos : Pos} (hv : PE X (.Name x px) (tVar i)) (ha : PA X (e :: es) (tX X.K X.mg RW de (pVals X.K X.mg)))
    (h : ∀ to t, PE X (.Name x px) to → PA X (e :: es) t → PS X (.Expr (.Call (.Attribute (.Name x px) "append" apos) (e :: es) [] cpos) pos) (tDrop (tBM X.K "list" rAppend to t))) :
    PS X (.Expr (.Call (.Attribute (.Name x px) "append" apos) (e :: es) [] cpos) pos) (tB X.K X.mg RW (appS i de)) :=
  PS.imp (h _ _ hv ha) fun D σ H ⟨B, F0, z, ow, ρ, m, S, q⟩ => by
    unfold appS at q
    split at q
    · rename_i ds hs
      obtain ⟨hg, a, o, e3, hH, xs, rfl, r⟩ := slot_own S hs
      refine ⟨.ref a, e3, .inl ⟨rfl, _, SqL.of hH⟩, B, F0, z, ow, ρ, m, S, Rem.stepS q fun ys m1 B1 z1 ow1 vs H1 hB hz S1 pv q1 => ?_⟩
      have S1' := S1.weak hB
      obtain ⟨_, a2, o2, e4, hH2, xs2, rfl, r2⟩ := slot_own S1' hs
      rw [e3] at e4
      cases e4
      match ys, q1 with
      | [y], q1 =>
        obtain ⟨v, vs', rfl, rv, rn⟩ := Reps.uncons pv
        cases rn.nil_of
        dsimp only at q1
        split at q1
        · rename_i hl
          refine ⟨a, xs2, v, rfl, rfl, hH2, by rw [← r2.len]; exact hl, ?_⟩
          exact q1 z1 _ σ _ (Fz.le.refl _) (S1'.change hg e3 ⟨_, rfl, r2.append (.cons rv .nil)⟩)
        · exact q1.elim
      | [], q1 => exact q1.elim
      | _ :: _ :: _, q1 => exact q1.elim
    · exact q.elim
inductive Itm where
  | v (d : D) | n (c : Cont)
def Itm.slot : Itm → Slot
  | .v d => .sh d
  | .n c => .own c
section
variable (K : PySem.W.Frag) (mg : Str → Option Value)
def ItmOk (B : Hp) (z : Fz) : Itm → V → Prop
  | .v d, v => Rep K mg z d v
  | .n c, v => ∃ p o, v = .ref p ∧ B p = some o ∧ z.F p = none ∧ COk K mg z p c o
def isNew (B : Hp) : Itm → V → Prop
  | .v _, _ => True
  | .n _, v => ∃ p, v = .ref p ∧ B p = none
def pItms : Post (List Itm) (List V) := fun B B' z _ _ its vs => its.length = vs.length ∧ (∀ (i : Nat) it v, its[i]? = some it → vs[i]? = some v → ItmOk K mg B' z it v ∧ isNew B it v) ∧
  ∀ (i j : Nat) c c' v w, i < j → its[i]? = some (.n c) → its[j]? = some (.n c') → vs[i]? = some v → vs[j]? = some w → v ≠ w
end
end
def dItV (da : Den D) : Den Itm := fun ρ m => (da ρ m).bind fun x => .ok (.v x.1, x.2)
def dItN (da : Den Cont) : Den Itm := fun ρ m => (da ρ m).bind fun x => .ok (.n x.1, x.2)
section
variable {X : Cx} {RW : WX} {e : Expr}
theorem ItmOk.mono {K : PySem.W.Frag} {mg : Str → Option Value} {B B1 F0 : Hp} {z z1 : Fz} {ow : Own} {ρ : List Slot} {m : List Ob} {σ : St} {H : Hp} {it : Itm} {v : V} (S : StOk K mg B1 F0 z1 ow ρ m σ H) (h0 : Same F0 z.F) (hB : Same B B1) (hz : z.le z1) (h : ItmOk K mg B z it v) : ItmOk K mg B1 z1 it v := by
  cases it with
  | v d => exact Rep.le hz h
  | n c =>
    obtain ⟨p, o, e, h1, h2, h3⟩ := h
    refine ⟨p, o, e, hB _ _ h1, ?_, h3.le hz⟩
    cases q : z1.F p with
    | none => rfl
    | some u =>
      rcases S.new p (by rw [q]; simp) with r | r
      · exact absurd (h0.free h2) r
      · rw [hB _ _ h1] at r; cases r
theorem pai_nil : PA X [] (tX X.K X.mg RW dNil (pItms X.K X.mg)) := PA.imp pa_nil fun σ H Q ⟨B, F0, z, ow, ρ, m, S, h⟩ => h.here S ⟨rfl, fun i it v e => by simp at e, fun i j c c' v w _ e => by simp at e⟩
theorem Rem.step2 {K : PySem.W.Frag} {mg : Str → Option Value} {RW : WX} {z z1 : Fz} {B B1 F0 : Hp} {ρ : List Slot} {σ : St} {α β γ δ : Type} {r : Res (α × List Ob)} {f : α × List Ob → Res (γ × List Ob)} {P1 : Post α β} {P : Post γ δ} {Q1 : β → Hp → Prop} {Q : δ → Hp → Prop} (hB : Same B B1) (hz : z.le z1)
    (h : Rem K mg RW (r.bind f) B F0 z ρ σ P Q)
    (k : ∀ a m2 B2 z2 ow2 v H2, Same B1 B2 → z1.le z2 → StOk K mg B2 F0 z2 ow2 ρ m2 σ H2 → P1 B1 B2 z2 ρ σ a v → Rem K mg RW (f (a, m2)) B F0 z ρ σ P Q → Q1 v H2) : Rem K mg RW r B1 F0 z1 ρ σ P1 Q1 := by
  cases r with
  | ok a =>
    obtain ⟨d, m'⟩ := a
    intro B2 z2 ow2 v H2 hB2 hz2 S p
    exact k d m' B2 z2 ow2 v H2 hB2 hz2 S p h
  | err x m' => exact fun z' ow' cv dd H' q S e => h z' ow' cv dd H' (hz.trans q) (S.weak hB) e
  | bad => exact h
theorem pai_consV {es : List Expr} {de : Den D} {dr : Den (List Itm)} (ha : PE X e (tX X.K X.mg RW de (pVal X.K X.mg))) (hr : PA X es (tX X.K X.mg RW dr (pItms X.K X.mg))) (hs : starEach (e :: es) X.env = (false, eval e X.env) :: starEach es X.env := by rfl) :
    PA X (e :: es) (tX X.K X.mg RW (dCons (dItV de) dr) (pItms X.K X.mg)) := PA.imp (pa_cons ha hr hs) fun σ H Q q => by
  refine tX.imp q fun B F0 z ow ρ m S h => ?_
  unfold dCons dItV at h
  have h : Rem X.K X.mg RW ((de ρ m).bind fun x => (dr ρ x.2).bind fun xs => .ok (Itm.v x.1 :: xs.1, xs.2)) B F0 z ρ σ (pItms X.K X.mg) Q := by
    cases hd : de ρ m with
    | ok a => rw [hd] at h; exact h
    | err x m' => rw [hd] at h; exact h
    | bad => rw [hd] at h; exact h
  refine Rem.step2 (Same.refl _) (Fz.le.refl _) h fun dx m1 B1 z1 ow1 x H1 hB hz S1 px h1 => ?_
  refine ⟨B1, F0, z1, ow1, ρ, m1, S1, Rem.step2 hB hz h1 fun ds m2 B2 z2 ow2 vs H2 hB2 hz2 S2 ps h2 => ?_⟩
  refine h2 B2 z2 ow2 _ H2 (hB.trans hB2) (hz.trans hz2) S2 ⟨by simp [ps.1], fun i it v e1 e2 => ?_, fun i j c c' v w hij e1 e2 e3 e4 => ?_⟩
  · cases i with
    | zero =>
      simp at e1 e2
      subst e1 e2
      exact ⟨Rep.le hz2 px, trivial⟩
    | succ i =>
      obtain ⟨q1, q2⟩ := ps.2.1 i it v (by simpa using e1) (by simpa using e2)
      refine ⟨q1, ?_⟩
      cases it with
      | v d => trivial
      | n c => obtain ⟨p, e, q⟩ := q2; exact ⟨p, e, hB.free q⟩
  · cases j with
    | zero => omega
    | succ j =>
      cases i with
      | zero => simp at e1
      | succ i => exact ps.2.2 i j c c' v w (by omega) (by simpa using e1) (by simpa using e2) (by simpa using e3) (by simpa using e4)
theorem pai_consN {es : List Expr} {de : Den Cont} {dr : Den (List Itm)} (ha : PE X e (tX X.K X.mg RW de (pNew X.K X.mg))) (hr : PA X es (tX X.K X.mg RW dr (pItms X.K X.mg))) (hs : starEach (e :: es) X.env = (false, eval e X.env) :: starEach es X.env := by rfl) :
    PA X (e :: es) (tX X.K X.mg RW (dCons (dItN de) dr) (pItms X.K X.mg)) := PA.imp (pa_cons ha hr hs) fun σ H Q q => by
  refine tX.imp q fun B F0 z ow ρ m S h => ?_
  unfold dCons dItN at h
  have h : Rem X.K X.mg RW ((de ρ m).bind fun x => (dr ρ x.2).bind fun xs => .ok (Itm.n x.1 :: xs.1, xs.2)) B F0 z ρ σ (pItms X.K X.mg) Q := by
    cases hd : de ρ m with
    | ok a => rw [hd] at h; exact h
    | err x m' => rw [hd] at h; exact h
    | bad => rw [hd] at h; exact h
  refine Rem.step2 (Same.refl _) (Fz.le.refl _) h fun dx m1 B1 z1 ow1 x H1 hB hz S1 px h1 => ?_
  obtain ⟨p, o, rfl, hp1, hp2, hp3, hp4⟩ := px
  have it1 : ItmOk X.K X.mg B1 z1 (.n dx) (.ref p) := ⟨p, o, rfl, hp2, hp3, hp4⟩
  refine ⟨B1, F0, z1, ow1, ρ, m1, S1, Rem.step2 hB hz h1 fun ds m2 B2 z2 ow2 vs H2 hB2 hz2 S2 ps h2 => ?_⟩
  have it2 := it1.mono S2 S1.f0 hB2 hz2
  refine h2 B2 z2 ow2 _ H2 (hB.trans hB2) (hz.trans hz2) S2 ⟨by simp [ps.1], fun i it v e1 e2 => ?_, fun i j c c' v w hij e1 e2 e3 e4 => ?_⟩
  · cases i with
    | zero =>
      simp at e1 e2
      subst e1 e2
      exact ⟨it2, p, rfl, hp1⟩
    | succ i =>
      obtain ⟨q1, q2⟩ := ps.2.1 i it v (by simpa using e1) (by simpa using e2)
      refine ⟨q1, ?_⟩
      cases it with
      | v d => trivial
      | n c => obtain ⟨p, e, q⟩ := q2; exact ⟨p, e, hB.free q⟩
  · cases j with
    | zero => omega
    | succ j =>
      cases i with
      | zero =>
        simp at e3
        subst e3
        obtain ⟨_, p', e, q⟩ := ps.2.1 j (.n c') w (by simpa using e2) (by simpa using e4)
        subst e
        intro z
        cases z
        rw [hp2] at q
        cases q
      | succ i => exact ps.2.2 i j c c' v w (by omega) (by simpa using e1) (by simpa using e2) (by simpa using e3) (by simpa using e4)
def setAll : List Nat → List Itm → List Slot → Option (List Slot)
  | [], [], ρ => some ρ
  | i :: is, it :: its, ρ => setAll is its (ρ.set i it.slot)
  | _, _, _ => none
def setAllV : List Nat → List V → St → St
  | i :: is, v :: vs, σ => setAllV is vs (σ.set i (some v))
  | _, _, σ => σ
theorem StOk.takeAll {K : PySem.W.Frag} {mg : Str → Option Value} {B F0 : Hp} {z : Fz} {m : List Ob} {H : Hp} : ∀ {is : List Nat} {its : List Itm} {vs : List V} {ow : Own} {ρ ρ' : List Slot} {σ : St}, StOk K mg B F0 z ow ρ m σ H → setAll is its ρ = some ρ' → its.length = vs.length →
    (∀ (i : Nat) it v, its[i]? = some it → vs[i]? = some v → (match it with
      | .v d => Rep K mg z d v
      | .n c => ∃ p o, v = .ref p ∧ H p = some o ∧ z.F p = none ∧ B p = none ∧ ow p = none ∧ COk K mg z p c o)) →
    (∀ (i j : Nat) c c' v w, i < j → its[i]? = some (.n c) → its[j]? = some (.n c') → vs[i]? = some v → vs[j]? = some w → v ≠ w) → ∃ ow', StOk K mg B F0 z ow' ρ' m (setAllV is vs σ) H
  | [], [], vs, ow, ρ, ρ', σ, S, h, hl, _, _ => by
    cases h
    exact ⟨ow, S⟩
  | i :: is, it :: its, [], ow, ρ, ρ', σ, S, h, hl, _, _ => by simp at hl
  | i :: is, it :: its, v :: vs, ow, ρ, ρ', σ, S, h, hl, h1, h2 => by
    have q := h1 0 it v rfl rfl
    have hl' : its.length = vs.length := by simpa using hl
    have h2' : ∀ (i j : Nat) c c' v w, i < j → its[i]? = some (.n c) → its[j]? = some (.n c') → vs[i]? = some v → vs[j]? = some w → v ≠ w := fun i j c c' v w hij e1 e2 e3 e4 => h2 (i + 1) (j + 1) c c' v w (by omega) (by simpa using e1) (by simpa using e2) (by simpa using e3) (by simpa using e4)
    cases it with
    | v d =>
      refine StOk.takeAll (is := is) (its := its) (vs := vs) (S.setSh (i := i) (show Rep K mg z d v from q)) (show setAll is its (ρ.set i (.sh d)) = some ρ' from h) hl' (fun j it w e1 e2 => ?_) h2'
      have r := h1 (j + 1) it w (by simpa using e1) (by simpa using e2)
      cases it with
      | v d => exact r
      | n c =>
        obtain ⟨p, o, a1, a2, a3, a4, a5, a6⟩ := r
        refine ⟨p, o, a1, a2, a3, a4, ?_, a6⟩
        unfold Own.drop
        rw [a5]
        rfl
    | n c =>
      obtain ⟨p, o, rfl, a2, a3, a4, a5, a6⟩ := q
      refine StOk.takeAll (is := is) (its := its) (vs := vs) (S.setOwn (i := i) a2 a3 a4 a5 a6) (show setAll is its (ρ.set i (.own c)) = some ρ' from h) hl' (fun j it w e1 e2 => ?_) h2'
      have r := h1 (j + 1) it w (by simpa using e1) (by simpa using e2)
      cases it with
      | v d => exact r
      | n c' =>
        obtain ⟨p', o', rfl, b2, b3, b4, b5, b6⟩ := r
        refine ⟨p', o', rfl, b2, b3, b4, ?_, b6⟩
        have ne : p' ≠ p := fun e => h2 0 (j + 1) c c' (.ref p) (.ref p') (by omega) rfl (by simpa using e1) rfl (by simpa using e2) (by rw [e])
        show (if p' = p then some (Sum.inl i) else ow.drop i p') = none
        rw [if_neg ne]
        unfold Own.drop
        rw [b5]
        rfl
  | [], _ :: _, _, _, _, _, _, _, h, _, _, _ => by cases h
  | _ :: _, [], _, _, _, _, _, _, h, _, _, _ => by cases h
theorem itms_set {K : PySem.W.Frag} {mg : Str → Option Value} {B B1 F0 : Hp} {z : Fz} {ow : Own} {ρ ρ' : List Slot} {m : List Ob} {σ : St} {H : Hp} {is : List Nat} {its : List Itm} {vs : List V} (S : StOk K mg B1 F0 z ow ρ m σ H) (hB : Same B B1) (p : pItms K mg B B1 z ρ σ its vs) (h : setAll is its ρ = some ρ') :
    ∃ ow', StOk K mg B F0 z ow' ρ' m (setAllV is vs σ) H := by
  refine (S.weak hB).takeAll h p.1 (fun i it v e1 e2 => ?_) p.2.2
  obtain ⟨q1, q2⟩ := p.2.1 i it v e1 e2
  cases it with
  | v d => exact q1
  | n c =>
    obtain ⟨p, o, rfl, b1, b2, b3⟩ := q1
    obtain ⟨p', e, b4⟩ := q2
    cases e
    exact ⟨p, o, rfl, S.bh _ _ b1, b2, b4, S.noown b1, b3⟩
def parS (is : List Nat) (de : Den (List Itm)) : SDen := fun ρ m => bindS (de ρ m) ρ fun its m' => match setAll is its ρ with
  | some ρ' => .nx ρ' m'
  | none => .bad
theorem setAll_len {is : List Nat} {its : List Itm} {ρ ρ' : List Slot} (h : setAll is its ρ = some ρ') : is.length = its.length := by
  induction is generalizing its ρ with
  | nil => cases its with
    | nil => rfl
    | cons => cases h
  | cons i is ih => cases its with
    | nil => cases h
    | cons it its => rw [List.length_cons, List.length_cons, ih h]
theorem sd_par2 {i j : Nat} {x y : Str} {a b : Expr} {de : Den (List Itm)} {px py pt pos : Pos} {kt k2 pt2} (hc : X.calm = true) (hN : X.N.Nodup) (hi : X.N[i]? = some x) (hj : X.N[j]? = some y) (hij : i ≠ j)
    (hx : X.env.scope.names.lookup x = some .local) (hy : X.env.scope.names.lookup y = some .local) (ha : PA X [a, b] (tX X.K X.mg RW de (pItms X.K X.mg)))
    (hw : swappedStores [.Tuple [.Name x px, .Name y py] kt pt] (.Tuple [a, b] k2 pt2) X.env = pure (some [x, y]))
    (hs : swapsWithSole [.Tuple [.Name x px, .Name y py] kt pt] (.Tuple [a, b] k2 pt2) pos.line X.env = pure false := by rfl) :
    PS X (.Assign [.Tuple [.Name x px, .Name y py] kt pt] (.Tuple [a, b] k2 pt2) pos) (tB X.K X.mg RW (parS [i, j] de)) :=
  PS.imp (ps_par hc hN hi hj hij hx hy ha hw hs) fun D σ H ⟨B, F0, z, ow, ρ, m, S, q⟩ => by
    refine ⟨B, F0, z, ow, ρ, m, S, Rem.stepS q fun its m1 B1 z1 ow1 vs H1 hB hz S1 p q1 => ?_⟩
    cases hs : setAll [i, j] its ρ with
    | none => rw [hs] at q1; exact q1.elim
    | some ρ' =>
      rw [hs] at q1
      obtain ⟨ow2, S2⟩ := itms_set S1 hB p hs
      have hl := p.1
      have hl2 := setAll_len hs
      match vs, (hl2.trans hl : 2 = vs.length) with
      | [v, w], _ => exact ⟨v, w, rfl, q1 z1 ow2 _ H1 (Fz.le.refl _) S2⟩
def gNames : List Nat → TGs
  | [] => gNil
  | i :: is => gCons (gName i) (gNames is)
theorem gNames_run : ∀ {is : List Nat} {vs : List V} {σ : St} {H : Hp} {Q : St → Hp → Prop}, is.length = vs.length → Q (setAllV is vs σ) H → gNames is vs σ H Q
  | [], [], _, _, _, _, q => ⟨rfl, q⟩
  | i :: is, v :: vs, σ, H, Q, hl, q => ⟨v, vs, rfl, gNames_run (by simpa using hl) q⟩
  | [], _ :: _, _, _, _, hl, _ => by simp at hl
  | _ :: _, [], _, _, _, hl, _ => by simp at hl
theorem sd_parT {is : List Nat} {ts es : List Expr} {k k2 : Nat} {de : Den (List Itm)} {pt pt2 pos : Pos} (ha : PA X es (tX X.K X.mg RW de (pItms X.K X.mg))) (hc : X.calm = true) (hg : PGs X ts (gNames is))
    (h : ∀ te g, PE X (.Tuple es k2 pt2) te → PG X (.Tuple ts k pt) g → PS X (.Assign [.Tuple ts k pt] (.Tuple es k2 pt2) pos) (tAsg te g)) (h100 : is.length ≤ 100 := by decide) (hn : (assignEach ts X.env).length = is.length := by rfl) (hst : (assignEach ts X.env).findIdx? (·.1) = none := by rfl) :
    PS X (.Assign [.Tuple ts k pt] (.Tuple es k2 pt2) pos) (tB X.K X.mg RW (parS is de)) :=
  PS.imp (h _ _ (pe_tup ha) (pg_tup (n := is.length) hc hg hn hst)) fun D σ H ⟨B, F0, z, ow, ρ, m, S, q⟩ => by
    refine ⟨B, F0, z, ow, ρ, m, S, Rem.stepS q fun its m1 B1 z1 ow1 vs H1 hB hz S1 p q1 => ?_⟩
    cases hs : setAll is its ρ with
    | none => rw [hs] at q1; exact q1.elim
    | some ρ' =>
      rw [hs] at q1
      have hl : is.length = vs.length := (setAll_len hs).trans p.1
      refine ⟨Nat.le_trans (by rw [← hl]; exact h100) (by decide), fun t ht => ?_⟩
      refine ⟨t, vs, rfl, SqT.of upd_same, hl.symm, gNames_run hl ?_⟩
      obtain ⟨ow2, S2⟩ := itms_set S1 hB p hs
      exact q1 z1 ow2 _ _ (Fz.le.refl _) (S2.alloc ht _)
def unS (is : List Nat) (de : Den D) : SDen := fun ρ m => bindS (de ρ m) ρ fun d m' => match d with
  | .tup ds => (match setAll is (ds.map .v) ρ with
    | some ρ' => .nx ρ' m'
    | none => .bad)
  | _ => .bad
theorem reps_itms {K : PySem.W.Frag} {mg : Str → Option Value} {B F0 : Hp} {z : Fz} {ow : Own} {ρ ρ' : List Slot} {m : List Ob} {σ : St} {H : Hp} {is : List Nat} {ds : List D} {vs : List V} (S : StOk K mg B F0 z ow ρ m σ H) (r : Reps K mg z ds vs) (h : setAll is (ds.map .v) ρ = some ρ') : ∃ ow', StOk K mg B F0 z ow' ρ' m (setAllV is vs σ) H := by
  refine S.takeAll h (by rw [List.length_map, r.len]) (fun i it v e1 e2 => ?_) (fun i j c c' v w _ e1 => ?_)
  · rw [List.getElem?_map] at e1
    cases q : ds[i]? with
    | none => rw [q] at e1; cases e1
    | some d =>
      rw [q] at e1
      cases e1
      obtain ⟨w, e3, rv⟩ := r.get q
      rw [e2] at e3
      cases e3
      exact rv
  · rw [List.getElem?_map] at e1
    cases q : ds[i]? with
    | none => rw [q] at e1; cases e1
    | some d => rw [q] at e1; cases e1
theorem sd_unT {is : List Nat} {ts : List Expr} {k : Nat} {de : Den D} {pt pos : Pos} (he : PE X e (tX X.K X.mg RW de (pVal X.K X.mg))) (hc : X.calm = true) (hg : PGs X ts (gNames is))
    (h : ∀ te g, PE X e te → PG X (.Tuple ts k pt) g → PS X (.Assign [.Tuple ts k pt] e pos) (tAsg te g)) (hn : (assignEach ts X.env).length = is.length := by rfl) (hst : (assignEach ts X.env).findIdx? (·.1) = none := by rfl) :
    PS X (.Assign [.Tuple ts k pt] e pos) (tB X.K X.mg RW (unS is de)) :=
  PS.imp (h _ _ he (pg_tup (n := is.length) hc hg hn hst)) fun D σ H ⟨B, F0, z, ow, ρ, m, S, q⟩ => by
    refine ⟨B, F0, z, ow, ρ, m, S, Rem.stepS q fun d m1 B1 z1 ow1 v H1 hB hz S1 p q1 => ?_⟩
    cases d with
    | tup ds =>
      obtain ⟨a, xs, rfl, e1, r⟩ := (by simpa only [Rep] using (show Rep X.K X.mg z1 (.tup ds) v from p) : ∃ a xs, v = .ref a ∧ SqT X.K z1.F a xs ∧ Reps X.K X.mg z1 ds xs)
      dsimp only at q1
      cases hs : setAll is (ds.map .v) ρ with
      | none => rw [hs] at q1; exact q1.elim
      | some ρ' =>
        rw [hs] at q1
        have hl : is.length = xs.length := by rw [setAll_len hs, List.length_map, r.len]
        obtain ⟨ow2, S2⟩ := reps_itms (S1.weak hB) r hs
        exact ⟨a, xs, rfl, same_tup S1.fh e1, hl.symm, gNames_run hl (q1 z1 ow2 _ _ (Fz.le.refl _) S2)⟩
    | _ => exact q1.elim
def tgT (is : List Nat) : Tg := fun d ρ => match d with
  | .tup ds => setAll is (ds.map .v) ρ
  | _ => none
theorem setAllV_wipe : ∀ {is : List Nat} {vs : List V} {σ : St}, wipe (setAllV is vs σ) is = wipe σ is := by
  intro is vs σ
  apply List.ext_getElem?
  intro i
  have hlen : ∀ (is : List Nat) (vs : List V) (σ : St), (setAllV is vs σ).length = σ.length := by
    intro is
    induction is with
    | nil => intro vs σ; cases vs <;> rfl
    | cons j is ih => intro vs σ; cases vs with
      | nil => rfl
      | cons v vs => simp only [setAllV]; rw [ih]; simp
  have hget : ∀ (is : List Nat) (vs : List V) (σ : St), i ∉ is → (setAllV is vs σ)[i]? = σ[i]? := by
    intro is
    induction is with
    | nil => intro vs σ _; cases vs <;> rfl
    | cons j is ih => intro vs σ h; cases vs with
      | nil => rfl
      | cons v vs =>
        simp only [List.mem_cons, not_or] at h
        simp only [setAllV]
        rw [ih _ _ h.2, List.getElem?_set_ne (Ne.symm h.1)]
  by_cases hi : i ∈ is
  · by_cases hl : i < σ.length
    · rw [wipe_in hi (by rw [hlen]; exact hl), wipe_in hi hl]
    · rw [List.getElem?_eq_none (by rw [wipe_length, hlen]; omega), List.getElem?_eq_none (by rw [wipe_length]; omega)]
  · rw [wipe_get hi, wipe_get hi, hget _ _ _ hi]
theorem setAll_wipe {is : List Nat} {its : List Itm} {ρ ρ' : List Slot} (h : setAll is its ρ = some ρ') : wipeS ρ' is = wipeS ρ is := by
  apply List.ext_getElem?
  intro i
  have hlen : ∀ (is : List Nat) (its : List Itm) (ρ ρ' : List Slot), setAll is its ρ = some ρ' → ρ'.length = ρ.length := by
    intro is
    induction is with
    | nil => intro its ρ ρ' h; cases its with
      | nil => cases h; rfl
      | cons => cases h
    | cons j is ih => intro its ρ ρ' h; cases its with
      | nil => cases h
      | cons v vs => rw [ih _ _ _ h]; simp
  have hget : ∀ (is : List Nat) (its : List Itm) (ρ ρ' : List Slot), setAll is its ρ = some ρ' → i ∉ is → ρ'[i]? = ρ[i]? := by
    intro is
    induction is with
    | nil => intro its ρ ρ' h _; cases its with
      | nil => cases h; rfl
      | cons => cases h
    | cons j is ih => intro its ρ ρ' h hi; cases its with
      | nil => cases h
      | cons v vs =>
        simp only [List.mem_cons, not_or] at hi
        rw [ih _ _ _ h hi.2, List.getElem?_set_ne (Ne.symm hi.1)]
  by_cases hi : i ∈ is
  · by_cases hl : i < ρ.length
    · rw [wipeS_in hi (by rw [hlen _ _ _ _ h]; exact hl), wipeS_in hi hl]
    · rw [List.getElem?_eq_none (by rw [wipeS_len, hlen _ _ _ _ h]; omega), List.getElem?_eq_none (by rw [wipeS_len]; omega)]
  · rw [wipeS_get hi, wipeS_get hi, hget _ _ _ _ h hi]
theorem tgok_n (i : Nat) : TgOk [i] (tgN i) := fun d ρ ρ' h => by
  cases h
  show (ρ.set i _).set i .non = ρ.set i .non
  rw [List.set_set]
theorem tgok_t (is : List Nat) : TgOk is (tgT is) := fun d ρ ρ' h => by
  cases d with
  | tup ds => exact setAll_wipe h
  | _ => cases h
theorem tg_tup {is : List Nat} {ts : List Expr} {k : Nat} {pt : Pos} (hc : X.calm = true) (hg : PGs X ts (gNames is)) (hn : (assignEach ts X.env).length = is.length := by rfl) (hst : (assignEach ts X.env).findIdx? (·.1) = none := by rfl) : PG X (.Tuple ts k pt) (tG X.K X.mg is (tgT is)) :=
  PG.imp (pg_tup (n := is.length) hc hg hn hst) fun v σ H Q ⟨B, F0, z, ow, ρ, m, d, S, r, ρ', e, k⟩ => by
    cases d with
    | tup ds =>
      obtain ⟨a, xs, rfl, e1, r⟩ := (by simpa only [Rep] using r : ∃ a xs, v = .ref a ∧ SqT X.K z.F a xs ∧ Reps X.K X.mg z ds xs)
      have hl : is.length = xs.length := by rw [setAll_len e, List.length_map, r.len]
      obtain ⟨ow2, S2⟩ := reps_itms S r e
      exact ⟨a, xs, rfl, same_tup S.fh e1, hl.symm, gNames_run hl (k _ _ S2 setAllV_wipe)⟩
    | _ => cases e
end
def pad : List D → Nat → List Slot
  | [], n => List.replicate n .non
  | d :: ds, n => .sh d :: pad ds n
theorem pad_len : ∀ (ds : List D) (n : Nat), (pad ds n).length = ds.length + n
  | [], n => by simp [pad]
  | d :: ds, n => by simp [pad, pad_len ds n]; omega
theorem pad_get : ∀ {ds : List D} {n i : Nat} {s : Slot}, (pad ds n)[i]? = some s → s = .non ∨ ∃ d, ds[i]? = some d ∧ s = .sh d
  | [], n, i, s, h => by
    simp only [pad, List.getElem?_replicate] at h
    split at h
    · cases h; exact .inl rfl
    · cases h
  | d :: ds, n, 0, s, h => by simp [pad] at h; exact .inr ⟨d, rfl, h.symm⟩
  | d :: ds, n, i + 1, s, h => by
    simp only [pad, List.getElem?_cons_succ] at h
    rcases pad_get h with h | ⟨e, h1, h2⟩
    · exact .inl h
    · exact .inr ⟨e, by simpa using h1, h2⟩
def fnD (n l : Nat) (body : SDen) : FDen := fun ds m => if ds.length = n then (match body (pad ds l) m with
  | .nx _ m' => .ok (.non, m')
  | .rt d m' => .ok (d, m')
  | .er x _ m' => .err x m'
  | _ => .bad) else .bad
theorem StOk.args {K : PySem.W.Frag} {mg : Str → Option Value} {B F0 : Hp} {z : Fz} {ow : Own} {m : List Ob} {H : Hp} {ds : List D} {vs : List V} {N : List Str} {l : Nat} (S : StOk K mg B F0 z ow [] m [] H) (r : Reps K mg z ds vs) (hl : N.length = ds.length + l) : StOk K mg B F0 z ow (pad ds l) m (L2.start N vs) H := by
  have e1 : N.length - vs.length = l := by rw [← r.len]; omega
  refine ⟨S.fh, S.bh, S.f0, S.new, ?_, fun i s e => ?_, S.ol, S.ob, S.ow⟩
  · unfold L2.start
    rw [List.length_append, List.length_map, List.length_replicate, pad_len, r.len, e1]
  · rcases pad_get e with rfl | ⟨d, h1, rfl⟩
    · trivial
    · obtain ⟨v, h2, h3⟩ := r.get h1
      refine ⟨v, ?_, h3⟩
      obtain ⟨hi, _⟩ := List.getElem?_eq_some_iff.mp h2
      unfold L2.start
      rw [List.getElem?_append_left (by simpa using hi), List.getElem?_map, h2]
      rfl
theorem Fd.mk' {P : Program} {w : World} {K : PySem.W.Frag} {mg : Str → Option Value} {base : Heap} {x : Str} {k n l : Nat} {b : SDen} {params : Arguments} {body : List Stmt} {scope : Scope} {a : Addr} {fd : FuncData} {N ps : List Str} (F : FunD K x x params body scope [] [] a fd) (S : FnScope N ps scope) (hm : mg x = some (.ref a)) (hb : Binds K fd ps []) (hn : ps.length = n) (hl : N.length = n + l)
    (h : ∀ (cdv : Value) (A : Around) (outer : List Env) (s : Shared) (H : Hp) (E : XK), Room k (A.deeper (envOfC x scope s.heap.objs.size a cdv)) → PSs (cxOf (L2.CX P w) P w K mg base N x scope a cdv A outer s H E) body (tB K mg (fun cls d _ H => E cls d H) b)) : Fd P w K mg base x (k + 1) n (fnD n l b) := by
  refine ⟨a, fd, ps, F.ok S (fun vs H Q E q => by rw [hn]; exact q.1) (fun cdv A outer s H vs Q E hr q => ?_), hm, F.kp, hb⟩
  refine ⟨_, h cdv A outer s H E hr, ?_⟩
  obtain ⟨hv, B, F0, z, ow, m, ds, S0, r, q⟩ := q
  have hds : ds.length = n := by rw [r.len]; exact hv
  refine ⟨B, F0, z, ow, pad ds l, m, S0.args r (by rw [hl, hds]), ?_⟩
  unfold fnD at q
  rw [if_pos hds] at q
  cases hbd : b (pad ds l) m with
  | nx ρ' m' =>
    rw [hbd] at q
    exact fun z' ow' σ' H' hz S' => q z' ow' .non H' hz S'.forget (rep_non.mpr rfl)
  | rt d m' =>
    rw [hbd] at q
    exact fun z' ow' v H' hz S' rv => q z' ow' v H' hz S' rv
  | er x ρ' m' =>
    rw [hbd] at q
    exact fun z' ow' σ' cv dd H' hz S' ex => q z' ow' cv dd H' hz S'.forget ex
  | bk ρ' m' => rw [hbd] at q; exact q.elim
  | ct ρ' m' => rw [hbd] at q; exact q.elim
  | bad => rw [hbd] at q; exact q.elim
end PD
namespace PD
open PySem PySem.Spec PyProof.Rows L2
def DLen {α : Type} (d : Den (List α)) (n : Nat) : Prop := ∀ ρ m xs m', d ρ m = .ok (xs, m') → xs.length = n
theorem dlen_nil {α : Type} : DLen (dNil : Den (List α)) 0 := fun ρ m xs m' h => by cases h; rfl
theorem dlen_cons {α : Type} {a : Den α} {r : Den (List α)} {n : Nat} (h : DLen r n) : DLen (dCons a r) (n + 1) := fun ρ m xs m' e => by
  unfold dCons at e
  cases ha : a ρ m with
  | ok x =>
    rw [ha] at e
    cases hr : r ρ x.2 with
    | ok y =>
      have e : (r ρ x.2).bind (fun xs => .ok (x.1 :: xs.1, xs.2)) = .ok (xs, m') := e
      rw [hr] at e
      obtain ⟨ys, m2⟩ := y
      have e : Res.ok (x.1 :: ys, m2) = Res.ok (xs, m') := e
      cases e
      exact congrArg Nat.succ (h _ _ _ _ hr)
    | err x' m'' =>
      have e : (r ρ x.2).bind (fun xs => .ok (x.1 :: xs.1, xs.2)) = .ok (xs, m') := e
      rw [hr] at e
      cases e
    | bad =>
      have e : (r ρ x.2).bind (fun xs => .ok (x.1 :: xs.1, xs.2)) = .ok (xs, m') := e
      rw [hr] at e
      cases e
  | err x m'' => rw [ha] at e; cases e
  | bad => rw [ha] at e; cases e
section
variable {X : Cx} {RW : WX} {e c : Expr} {pos : Pos}
def ipDivD : D → D → Res D
  | .int i, .int j => if 0 < j ∧ j < 1073741824 then .ok (.int (i / j)) else .bad
  | _, _ => .bad
theorem ipdiv_r : IpR X (rI CDiv fun i j => .int (i / j)) ipDivD := by
  intro B F0 z ow ρ m σ H x y dx dy d Q S px py h q
  unfold ipDivD at h
  split at h
  · split at h
    · rename_i hz
      cases h
      exact ⟨_, _, rep_int.mp px, look_int py, hz, q _ (rep_int.mpr rfl)⟩
    · cases h
  · cases h
theorem ipmul_r : IpR X (rI CMul fun i j => .int (i * j)) mulD := by
  intro B F0 z ow ρ m σ H x y dx dy d Q S px py h q
  unfold mulD at h
  split at h
  · split at h
    · rename_i hz
      cases h
      exact ⟨_, _, rep_int.mp px, look_int py, hz, q _ (rep_int.mpr rfl)⟩
    · cases h
  · cases h
end
inductive Ty where
  | int | bool | str | non | tup | lst | dct
def Ty.name : Ty → String
  | .int => "int"
  | .bool => "bool"
  | .str => "str"
  | .non => "NoneType"
  | .tup => "tuple"
  | .lst => "list"
  | .dct => "dict"
def Ty.isa : Ty → Ty → Bool
  | .int, .int | .bool, .int | .bool, .bool | .str, .str | .tup, .tup | .lst, .lst | .dct, .dct => true
  | _, _ => false
theorem kit_isa : ∀ a b : Ty, b.name ≠ "NoneType" → kitB a.name b.name = some (a.isa b) := by
  intro a b h
  cases b with
  | non => exact absurd rfl h
  | _ => cases a <;> decide +kernel
def D.ty : D → Option Ty
  | .non => some .non
  | .bl _ => some .bool
  | .int _ => some .int
  | .str _ => some .str
  | .tup _ => some .tup
  | .etp _ => some .tup
  | .lst _ => some .lst
  | .dct false _ _ => some .dct
  | _ => none
theorem look_ty {K : PySem.W.Frag} {mg : Str → Option Value} {z : Fz} {B B' F0 : Hp} {ow : Own} {ρ : List Slot} {m : List Ob} {σ : St} {H : Hp} {d : D} {v : V} {t : Ty} (S : StOk K mg B F0 z ow ρ m σ H) (h : pLook K mg B' B z ρ σ d v) (ht : d.ty = some t) : TyX K H v (.type t.name) := by
  cases d with
  | non => cases ht; rw [look_non h]; exact .base .non
  | bl b => cases ht; rw [look_bl h]; exact .base (.bl b)
  | int i => cases ht; rw [look_int h]; exact .base (.int i)
  | str s => cases ht; rw [look_str h]; exact .base (.str s)
  | tup ds =>
    cases ht
    obtain ⟨a, xs, rfl, e, _⟩ := look_tup S h
    rcases e with (e | ⟨o, e⟩) | e
    · exact .base (.tup e)
    · exact .fTuple e
    · obtain ⟨o, its, n, h1, h2, _⟩ := e
      exact .kTuple h1 h2
  | etp ds =>
    cases ht
    have h := look_rep h (fun c => by cases c <;> simp [Cont.d])
    simp only [Rep] at h
    obtain ⟨a, o, xs, rfl, e, _⟩ := h
    exact .fTuple (S.fh _ _ e)
  | lst ds =>
    cases ht
    obtain ⟨a, xs, rfl, e, _⟩ := look_list S h
    exact .base (.lst e)
  | dct t ks vs =>
    cases t with
    | false =>
      cases ht
      obtain ⟨a, o, rfl, e, vx, _, hk⟩ := look_cont (c := .dct false ks vs) S h
      obtain ⟨kx, _, _, rfl⟩ := hk; exact .base (.dK e)
    | true => cases ht
  | ldc t ks vs => cases ht
  | row g => cases ht
  | obj n => cases ht
  | fn n => cases ht
  | scr n => cases ht
def isiD (T : Ty) : D → Res D := fun d => match d.ty with
  | some t => .ok (.bl (t.isa T))
  | none => .bad
section
variable {X : Cx} {RW : WX} {e c : Expr} {pos : Pos}
theorem pd_isi (T : Ty) {x : Str} {de : Den D} {p p2 : Pos} (hN : T.name ≠ "NoneType") (hg : Gl X "isinstance") (hm : X.mg "isinstance" = none) (hg2 : Gl X x) (hm2 : X.mg x = none) (hv2 : bootBuiltins x = some (.type T.name)) (he : PE X e (tX X.K X.mg RW de (pLook X.K X.mg)))
    (hn : x ≠ "__name__" := by decide) (hd : (x == ("__debug__" : Str)) = false := by decide)
    (hs : starEach (e :: [.Name x p2]) X.env = (false, eval e X.env) :: starEach [.Name x p2] X.env := by rfl) (hs2 : starEach [.Name x p2] X.env = (false, eval (.Name x p2) X.env) :: starEach [] X.env := by rfl) (hpl : (backTo pos (starEach [.Name x p2] X.env)).any (·.1) = false := by rfl) :
    PE X (.Call (.Name "isinstance" p) [e, .Name x p2] [] pos) (tX X.K X.mg RW (dUn (isiD T) de) (pVal X.K X.mg)) :=
  PE.imp (pe_callB call_isi hg hm (by decide +kernel) (pa_cons he (pa_cons (pe_bltn (v := .ty T.name) hg2 hm2 hv2 rfl hn hd) pa_nil hs2) hs) (by decide) (by decide) hs hpl) fun σ H Q q => tX.imp q fun B F0 z ow ρ m S h => Rem.step pVal.pm h fun d m1 B1 z1 ow1 v H1 hB hz S1 p h1 => by
    unfold isiD at h1
    dsimp only at h1
    cases ht : d.ty with
    | none => rw [ht] at h1; exact h1.elim
    | some t =>
      rw [ht] at h1
      exact ⟨v, .ty T.name, _, _, t.isa T, rfl, .ty _, look_ty S1 p ht, kit_ty (kit_isa t T hN), h1.here S1 (rep_bl.mpr rfl)⟩
end
end PD
namespace PD
open PySem L2
theorem hu65 {A : Around} {k : Nat} (hr : Room k A) : A.units + 65 < cLine := by have := hr.un; omega
end PD
namespace PD
open PySem PySem.Spec PyProof.Rows L2
section
variable {K : PySem.W.Frag} {mg : Str → Option Value} {RW : WX} {z z' z1 z2 : Fz} {B B' B1 B2 F0 F1 : Hp} {ow ow' ow1 : Own} {ρ : List Slot} {m m' m1 : List Ob} {σ : St} {H H' H1 : Hp}
theorem StOk.genAt (S : StOk K mg B F0 z ow ρ m σ H) {n : Nat} {s : Int} {cs : List Int} {i : Int} (h : m[n]? = some (.gen s cs i)) :
    ∃ a c, z.As[n]? = some [a, c] ∧ a ≠ c ∧ H a = some (.lst [.int s, .ref c, .int i]) ∧ H c = some (.lst (cs.map V.int)) ∧ ow a = some (.inr n) ∧ ow c = some (.inr n) := by
  obtain ⟨fp, e, a, c, rfl, ne, h1, h2, w1, w2⟩ := S.ob n _ h
  exact ⟨a, c, e, ne, h1, h2, w1, w2⟩
theorem StOk.genChange (S : StOk K mg B F0 z ow ρ m σ H) {n : Nat} {s s' : Int} {cs cs' : List Int} {i i' : Int} {a c : Addr} (hm : m[n]? = some (.gen s cs i)) (hA : z.As[n]? = some [a, c])
    (ha : H' a = some (.lst [.int s', .ref c, .int i'])) (hc : H' c = some (.lst (cs'.map V.int))) (hx : ∀ b o, b ≠ a → b ≠ c → H b = some o → H' b = some o) : StOk K mg B F0 z ow ρ (m.set n (.gen s' cs' i')) σ H' := by
  obtain ⟨a0, c0, e, ne, h1, h2, w1, w2⟩ := S.genAt hm
  rw [hA] at e
  cases e
  have hn : ∀ b, (z.F b ≠ none ∨ B b ≠ none) → b ≠ a ∧ b ≠ c := fun b h => by
    refine ⟨fun q => ?_, fun q => ?_⟩ <;> subst q
    · obtain ⟨q1, q2, _⟩ := S.ow _ _ w1
      exact h.elim (fun r => r q1) fun r => r q2
    · obtain ⟨q1, q2, _⟩ := S.ow _ _ w2
      exact h.elim (fun r => r q1) fun r => r q2
  have hol : ∀ b u, ow b = some u → u ≠ .inr n → b ≠ a ∧ b ≠ c := fun b u h hu => by
    refine ⟨fun q => ?_, fun q => ?_⟩ <;> subst q
    · rw [w1] at h; cases h; exact hu rfl
    · rw [w2] at h; cases h; exact hu rfl
  refine ⟨fun b o q => ?_, fun b o q => ?_, S.f0, S.new, S.len, fun j t q => ?_, by rw [List.length_set]; exact S.ol, fun k o q => ?_, fun b u q => ?_⟩
  · obtain ⟨n1, n2⟩ := hn b (.inl (by rw [q]; simp))
    exact hx b o n1 n2 (S.fh b o q)
  · obtain ⟨n1, n2⟩ := hn b (.inr (by rw [q]; simp))
    exact hx b o n1 n2 (S.bh b o q)
  · have r := S.slot j t q
    cases t with
    | non => trivial
    | exc a d x => exact r
    | sh d => exact r
    | own ct =>
      obtain ⟨b, o, e1, e2, c1, w⟩ := r
      obtain ⟨n1, n2⟩ := hol b _ w (by simp)
      exact ⟨b, o, e1, hx b o n1 n2 e2, c1, w⟩
  · by_cases hk : n = k
    · subst hk
      obtain ⟨hl, _⟩ := List.getElem?_eq_some_iff.mp hm
      rw [List.getElem?_set_self hl] at q
      cases q
      exact ⟨[a, c], hA, a, c, rfl, ne, ha, hc, w1, w2⟩
    · rw [List.getElem?_set_ne hk] at q
      obtain ⟨fp, e1, r⟩ := S.ob k o q
      refine ⟨fp, e1, r.mono (Fz.le.refl _) (fun _ w => w) fun b x w1 h1 => ?_⟩
      obtain ⟨n1, n2⟩ := hol b _ w1 (fun z => hk (Sum.inr.inj z).symm)
      exact hx _ _ n1 n2 h1
  · obtain ⟨q1, q2, q3⟩ := S.ow b u q
    refine ⟨q1, q2, ?_⟩
    by_cases n1 : b = a
    · rw [n1, ha]; simp
    · by_cases n2 : b = c
      · rw [n2, hc]; simp
      · cases r : H b with
        | none => exact absurd r q3
        | some o => rw [hx b o n1 n2 r]; simp
theorem StOk.genNew (S : StOk K mg B F0 z ow ρ m σ H) {a c : Addr} {s i : Int} {cs : List Int} (ne : a ≠ c) (ha : H a = some (.lst [.int s, .ref c, .int i])) (hc : H c = some (.lst (cs.map V.int)))
    (na : ow a = none ∧ z.F a = none ∧ B a = none) (nc : ow c = none ∧ z.F c = none ∧ B c = none) :
    ∃ ow', StOk K mg B F0 ⟨z.F, z.As ++ [[a, c]]⟩ ow' ρ (m ++ [.gen s cs i]) σ H := by
  have hle : z.le ⟨z.F, z.As ++ [[a, c]]⟩ := ⟨Same.refl _, _, rfl⟩
  refine ⟨fun b => if b = a ∨ b = c then some (.inr m.length) else ow b, S.fh, S.bh, S.f0, S.new, S.len, fun j t q => ?_, by simp [S.ol], fun k o q => ?_, fun b u q => ?_⟩
  · have r := S.slot j t q
    cases t with
    | non => trivial
    | exc a d x => exact ExcSl.le hle r
    | sh d => obtain ⟨x, e, r⟩ := r; exact ⟨x, e, r.le hle⟩
    | own ct =>
      obtain ⟨b, o, e1, e2, c1, w⟩ := r
      refine ⟨b, o, e1, e2, c1.le hle, ?_⟩
      have n : ¬ (b = a ∨ b = c) := fun z => by
        rcases z with z | z <;> subst z
        · rw [na.1] at w; cases w
        · rw [nc.1] at w; cases w
      show (if b = a ∨ b = c then some (.inr m.length) else ow b) = _
      rw [if_neg n]; exact w
  · by_cases hk : k < m.length
    · rw [List.getElem?_append_left hk] at q
      obtain ⟨fp, e1, r⟩ := S.ob k o q
      refine ⟨fp, hle.at e1, r.mono hle (fun b h => ?_) fun _ _ _ h => h⟩
      have n : ¬ (b = a ∨ b = c) := fun z => by
        rcases z with z | z <;> subst z
        · rw [na.1] at h; cases h
        · rw [nc.1] at h; cases h
      rw [if_neg n]; exact h
    · have hk' : k = m.length := by
        obtain ⟨hl, _⟩ := List.getElem?_eq_some_iff.mp q
        rw [List.length_append, List.length_singleton] at hl
        omega
      subst hk'
      rw [List.getElem?_append_right (Nat.le_refl _), Nat.sub_self] at q
      cases q
      refine ⟨[a, c], ?_, a, c, rfl, ne, ha, hc, if_pos (.inl rfl), if_pos (.inr rfl)⟩
      show (z.As ++ [[a, c]])[m.length]? = _
      rw [← S.ol, List.getElem?_append_right (Nat.le_refl _), Nat.sub_self]
      rfl
  · have q : (if b = a ∨ b = c then some (.inr m.length) else ow b) = some u := q
    by_cases n : b = a ∨ b = c
    · rcases n with n | n <;> subst n
      · exact ⟨na.2.1, na.2.2, by rw [ha]; simp⟩
      · exact ⟨nc.2.1, nc.2.2, by rw [hc]; simp⟩
    · rw [if_neg n] at q
      exact S.ow b u q
end
def asScr : D → Res (List D)
  | .scr ns => .ok (ns.map .int)
  | _ => .bad
def listScr : D → Res Cont
  | .scr ns => .ok (.lst (ns.map .int))
  | _ => .bad
def dGen (da : Den (List Itm)) : Den D := fun ρ m => (da ρ m).bind fun x => match x.1 with
  | [.v (.int s), .n (.lst cs), .v (.int i)] => (match ints? cs with
    | some ns => .ok (.obj x.2.length, x.2 ++ [.gen s ns i])
    | none => .bad)
  | _ => .bad
section
variable {X : Cx} {RW : WX} {e tg : Expr} {pos : Pos}
theorem rep_scr {K : PySem.W.Frag} {mg : Str → Option Value} {z : Fz} {ns : List Int} {v : V} : Rep K mg z (.scr ns) v ↔ ∃ a, v = .ref a ∧ SqL K z.F a (ns.map V.int) := by simp only [Rep]
theorem yields_scr {K : PySem.W.Frag} {mg : Str → Option Value} {z : Fz} {a : Addr} {ns : List Int} (h : SqL K z.F a (ns.map V.int)) : Yields K mg (Itl K a) z (ns.map .int) := by
  intro B F0 z' ow ρ m σ H i hz S
  have hH : SqL K H a (ns.map V.int) := S.fh.seq (hz.1.seq h)
  refine ⟨fun e => ⟨_, hH, by rw [e, List.length_map, List.length_map]; exact Nat.le_refl _⟩, fun d hd => ?_⟩
  rw [List.getElem?_map] at hd
  cases q : ns[i]? with
  | none => rw [q] at hd; cases hd
  | some n =>
    rw [q] at hd
    cases hd
    have hv : (ns.map V.int)[i]? = some (.int n) := by rw [List.getElem?_map, q]; rfl
    refine ⟨⟨_, _, hH, hv⟩, fun x H' y => ?_⟩
    obtain ⟨e, y⟩ := y
    subst e
    have e := (y _ hH).symm.trans hv
    cases e
    exact ⟨z', Fz.le.refl _, S, rep_int.mpr rfl⟩
theorem it_scr {da : Den D} (h : PE X e (tX X.K X.mg RW da (pVal X.K X.mg))) : PI X tg e (tX X.K X.mg RW (dIt asScr da) (pIt X.K X.mg)) :=
  PI.imp (pi_list h) fun σ H Q q => tX.imp q fun B F0 z ow ρ m S h => Rem.step pIt.pm h fun d m1 B1 z1 ow1 v H1 hB hz S1 p h1 => by
    cases d with
    | scr ns =>
      obtain ⟨a, rfl, e1⟩ := rep_scr.mp p
      exact ⟨a, rfl, ⟨_, S1.fh.seq e1⟩, Rem.here (d := ns.map D.int) h1 S1 (yields_scr e1)⟩
    | _ => exact h1.elim
theorem listScr_r : CbN X (fun xs H Q => ∃ p ys, xs = [.ref p] ∧ (SqL X.K H p ys ∨ SqT X.K H p ys) ∧ ∀ l, H l = none → Q (.ref l) (upd H l (.lst ys))) (oneArg listScr) := by
  intro RW B F0 z ow ρ m σ H vs ds Q S px h
  match ds, h with
  | [d], h =>
    obtain ⟨v, rfl, p⟩ := looks_one px
    cases d with
    | scr ns =>
      obtain ⟨a, rfl, e⟩ := rep_scr.mp (look_rep p (fun c => by cases c <;> simp [Cont.d]))
      exact ⟨a, _, rfl, .inl (S.fh.seq e), fun l hl => Rem.newLst (ds := ns.map .int) h S Reps.of_ints hl⟩
    | _ => exact h.elim
  | [], h => exact h.elim
  | _ :: _ :: _, h => exact h.elim
theorem pd_gen {es : List Expr} {da : Den (List Itm)} (ha : PA X es (tX X.K X.mg RW da (pItms X.K X.mg))) : PE X (.List es pos) (tX X.K X.mg RW (dGen da) (pVal X.K X.mg)) :=
  PE.imp (pe_lst ha) fun σ H Q q => tX.imp q fun B F0 z ow ρ m S h => Rem.step2 (Same.refl _) (Fz.le.refl _) h fun its m1 B1 z1 ow1 vs H1 hB hz S1 p h1 => by
    dsimp only at h1
    split at h1
    · rename_i s cs i
      cases hn : ints? cs with
      | none => rw [hn] at h1; exact h1.elim
      | some ns =>
        rw [hn] at h1
        cases ints?_eq hn
        obtain ⟨hl, hit, _⟩ := p
        match vs, hl with
        | [v1, v2, v3], _ =>
          obtain ⟨q1, _⟩ := hit 0 _ v1 rfl rfl
          obtain ⟨q2, q2'⟩ := hit 1 _ v2 rfl rfl
          obtain ⟨q3, _⟩ := hit 2 _ v3 rfl rfl
          have q1 : Rep X.K X.mg z1 (.int s) v1 := q1
          have q3 : Rep X.K X.mg z1 (.int i) v3 := q3
          cases rep_int.mp q1
          cases rep_int.mp q3
          obtain ⟨c, o, rfl, b1, b2, xs, rfl, r⟩ := q2
          obtain ⟨c', e, b3⟩ := q2'
          cases e
          cases r.ints
          refine ⟨by show 3 ≤ sizeLine; decide, fun a ha => ?_⟩
          have hc1 : H1 c = some (.lst (ns.map V.int)) := S1.bh _ _ b1
          have ne : a ≠ c := fun z => by rw [z, hc1] at ha; cases ha
          obtain ⟨nz, nB, _, nw⟩ := S1.new_none ha
          have S2 := (S1.alloc ha (.lst [.int s, .ref c, .int i])).weak hB
          obtain ⟨ow2, S3⟩ := S2.genNew ne upd_same (by rw [upd_ne (Ne.symm ne)]; exact hc1) ⟨nw, nz, hB.free nB⟩ ⟨S1.noown b1, b2, b3⟩
          refine h1 B ⟨z1.F, z1.As ++ [[a, c]]⟩ ow2 _ _ (Same.refl _) (hz.trans ⟨Same.refl _, _, rfl⟩) S3 ?_
          show Rep _ _ _ (.obj m1.length) (.ref a)
          simp only [Rep]
          refine ⟨a, [c], rfl, ?_⟩
          rw [← S1.ol, List.getElem?_append_right (Nat.le_refl _), Nat.sub_self]
          rfl
    · exact h1.elim
end
def nextG (s : Int) (cs : List Int) (i b : Int) : Option (Int × Ob) :=
  match atI (cs ++ [0]) (i % (if (cs.length : Int) > 1 then (cs.length : Int) else 1)) with
  | none => none
  | some cell => if cell ≥ 10 ^ 18 then (match ixN cs.length (i % cs.length) with
    | none => none
    | some k => some (cell % b, .gen s (cs.set k (cell / b)) i))
    else some (((s * 48271 + cell * 69621 + 11) % 2147483647 / 7) % b, .gen ((s * 48271 + cell * 69621 + 11) % 2147483647) cs (i + 1))
def den_law_next : FDen := fun ds m => match ds with
  | [.obj n, .int b] => if 0 < b ∧ b.natAbs.log2 < 9000 then (match m[n]? with
    | some (.gen s cs i) => if cs.length ≤ 1000 then (match nextG s cs i b with
      | some (r, g) => .ok (.int r, m.set n g)
      | none => .bad) else .bad
    | _ => .bad) else .bad
  | _ => .bad
theorem next_inv {ds : List D} {m m' : List Ob} {d : D} (h : den_law_next ds m = .ok (d, m')) : ∃ n b s cs i r g, ds = [.obj n, .int b] ∧ 0 < b ∧ b.natAbs.log2 < 9000 ∧ m[n]? = some (.gen s cs i) ∧ cs.length ≤ 1000 ∧ nextG s cs i b = some (r, g) ∧ d = .int r ∧ m' = m.set n g := by
  unfold den_law_next at h
  split at h
  · rename_i n b
    by_cases hb : 0 < b ∧ b.natAbs.log2 < 9000
    · rw [if_pos hb] at h
      cases hg : m[n]? with
      | none => rw [hg] at h; cases h
      | some g =>
        cases g with
        | gen s cs i =>
          rw [hg] at h
          dsimp only at h
          by_cases hl : cs.length ≤ 1000
          · rw [if_pos hl] at h
            cases hn : nextG s cs i b with
            | none => rw [hn] at h; cases h
            | some x =>
              obtain ⟨r, g⟩ := x
              rw [hn] at h
              cases h
              exact ⟨n, b, s, cs, i, r, g, rfl, hb.1, hb.2, hg, hl, hn, rfl, rfl⟩
          · rw [if_neg hl] at h; cases h
        | lst ds => rw [hg] at h; cases h
        | ins c fs => rw [hg] at h; cases h
        | tab x q => rw [hg] at h; cases h
    · rw [if_neg hb] at h; cases h
  · cases h
theorem next_noerr {ds : List D} {m m' : List Ob} {x : Exn} (h : den_law_next ds m = .err x m') : False := by
  unfold den_law_next at h
  split at h
  · rename_i n b
    by_cases hb : 0 < b ∧ b.natAbs.log2 < 9000
    · rw [if_pos hb] at h
      cases hg : m[n]? with
      | none => rw [hg] at h; cases h
      | some g =>
        cases g with
        | gen s cs i =>
          rw [hg] at h
          dsimp only at h
          by_cases hl : cs.length ≤ 1000
          · rw [if_pos hl] at h
            cases hn : nextG s cs i b with
            | none => rw [hn] at h; cases h
            | some x => rw [hn] at h; cases h
          · rw [if_neg hl] at h; cases h
        | lst ds => rw [hg] at h; cases h
        | ins c fs => rw [hg] at h; cases h
        | tab x q => rw [hg] at h; cases h
    · rw [if_neg hb] at h; cases h
  · cases h
end PD
namespace PD
open PySem PySem.Spec PyProof.Rows L2
theorem Fd.mkF {P : Program} {w : World} {K : PySem.W.Frag} {mg : Str → Option Value} {base : Heap} {x : Str} {k n l : Nat} {b : SDen} {params : Arguments} {body : List Stmt} {scope : Scope} {a : Addr} {fd : FuncData} {N ps : List Str} (F : FunD K x x params body scope [] [] a fd) (S : FnScope N ps scope) (hn : ps.length = n) (hl : N.length = n + l)
    (h : ∀ (cdv : Value) (A : Around) (outer : List Env) (s : Shared) (H : Hp) (E : XK), Room k (A.deeper (envOfC x scope s.heap.objs.size a cdv)) → PSs (cxOf (L2.CX P w) P w K mg base N x scope a cdv A outer s H E) body (tB K mg (fun cls d _ H => E cls d H) b)) : FnOk P w K mg base (L2.CX P w) (k + 1) a fd ps (spF K mg n (fnD n l b)) := by
  refine F.ok S (fun vs H Q E q => by rw [hn]; exact q.1) (fun cdv A outer s H vs Q E hr q => ?_)
  refine ⟨_, h cdv A outer s H E hr, ?_⟩
  obtain ⟨hv, B, F0, z, ow, m, ds, S0, r, q⟩ := q
  have hds : ds.length = n := by rw [r.len]; exact hv
  refine ⟨B, F0, z, ow, pad ds l, m, S0.args r (by rw [hl, hds]), ?_⟩
  unfold fnD at q
  rw [if_pos hds] at q
  cases hbd : b (pad ds l) m with
  | nx ρ' m' =>
    rw [hbd] at q
    exact fun z' ow' σ' H' hz S' => q z' ow' .non H' hz S'.forget (rep_non.mpr rfl)
  | rt d m' =>
    rw [hbd] at q
    exact fun z' ow' v H' hz S' rv => q z' ow' v H' hz S' rv
  | er x ρ' m' =>
    rw [hbd] at q
    exact fun z' ow' σ' cv dd H' hz S' ex => q z' ow' cv dd H' hz S'.forget ex
  | bk ρ' m' => rw [hbd] at q; exact q.elim
  | ct ρ' m' => rw [hbd] at q; exact q.elim
  | bad => rw [hbd] at q; exact q.elim
end PD
namespace PD
open PySem PySem.Spec PyProof.Rows L2
theorem byEq {α : Sort u} {a b : α} (h : a = b) : a = b := h
theorem szl_eq : sizeLine = 16777216 := by decide +kernel
section
variable {α β : Type} {ρ ρ' : List Slot} {m m' : List Ob}
@[simp] theorem bind_ok (a : α) (k : α → Res β) : (Res.ok a).bind k = k a := byEq rfl
@[simp] theorem bindS_ok (a : α) (k : α → List Ob → Out) : bindS (.ok (a, m)) ρ k = k a m := byEq rfl
@[simp] theorem dV_ev (i : Nat) : dV i ρ m = match slotAt ρ i with
  | .sh d => .ok (d, m)
  | _ => .bad := byEq rfl
@[simp] theorem dL_ev (i : Nat) : dL i ρ m = match slotAt ρ i with
  | .sh d => .ok (d, m)
  | .own c => .ok (c.d, m)
  | _ => .bad := byEq rfl
@[simp] theorem slotAt_0 (s : Slot) (r : List Slot) : slotAt (s :: r) 0 = s := byEq rfl
@[simp] theorem slotAt_s (s : Slot) (r : List Slot) (n : Nat) : slotAt (s :: r) (n + 1) = slotAt r n := byEq rfl
@[simp] theorem dC_ev (d : D) : dC d ρ m = .ok (d, m) := byEq rfl
@[simp] theorem dN2V_ev (f : Den Cont) : dN2V f ρ m = (f ρ m).bind fun r => .ok (r.1.d, r.2) := byEq rfl
@[simp] theorem dBin_ev (g : D → D → Res D) (da db : Den D) : dBin g da db ρ m = (da ρ m).bind fun x => (db ρ x.2).bind fun y => (g x.1 y.1).bind fun d => .ok (d, y.2) := byEq rfl
@[simp] theorem dNil_ev : (dNil : Den (List α)) ρ m = .ok ([], m) := byEq rfl
@[simp] theorem dCons_ev (da : Den α) (dr : Den (List α)) : dCons da dr ρ m = (da ρ m).bind fun x => (dr ρ x.2).bind fun xs => .ok (x.1 :: xs.1, xs.2) := byEq rfl
@[simp] theorem dLst_ev (da : Den (List D)) : dLst da ρ m = (da ρ m).bind fun x => if x.1.length ≤ 16777216 then .ok (.lst x.1, x.2) else .bad := by rw [← szl_eq]; rfl
@[simp] theorem oneArg_ev (g : D → Res α) (x : D) : oneArg g [x] = g x := byEq rfl
@[simp] theorem dCB_ev (g : List D → Res α) (da : Den (List D)) : dCB g da ρ m = (da ρ m).bind fun x => (g x.1).bind fun d => .ok (d, x.2) := byEq rfl
@[simp] theorem dCall_ev (f : FDen) (da : Den (List D)) : dCall f da ρ m = (da ρ m).bind fun x => f x.1 x.2 := byEq rfl
@[simp] theorem dIt_ev (g : D → Res (List D)) (da : Den D) : dIt g da ρ m = (da ρ m).bind fun x => (g x.1).bind fun xs => .ok (xs, x.2) := byEq rfl
@[simp] theorem dItV_ev (da : Den D) : dItV da ρ m = (da ρ m).bind fun x => .ok (.v x.1, x.2) := byEq rfl
@[simp] theorem dItN_ev (da : Den Cont) : dItN da ρ m = (da ρ m).bind fun x => .ok (.n x.1, x.2) := byEq rfl
@[simp] theorem thenS_ev (a b : SDen) : thenS a b ρ m = match a ρ m with
  | .nx ρ' m' => b ρ' m'
  | o => o := byEq rfl
@[simp] theorem retS_ev (de : Den D) : retS de ρ m = bindS (de ρ m) ρ fun d m' => .rt d m' := byEq rfl
@[simp] theorem setS_ev (i : Nat) (de : Den D) : setS i de ρ m = bindS (de ρ m) ρ fun d m' => .nx (ρ.set i (.sh d)) m' := byEq rfl
@[simp] theorem forS_ev (di : Den (List D)) (tg : Tg) (body : SDen) : forS di tg body ρ m = bindS (di ρ m) ρ fun ds m' => loopS tg body ds ρ m' := byEq rfl
@[simp] theorem contd_lst (ds : List D) : (Cont.lst ds).d = .lst ds := byEq rfl
@[simp] theorem pad_cons_ev (d : D) (ds : List D) (n : Nat) : pad (d :: ds) n = .sh d :: pad ds n := byEq rfl
@[simp] theorem pad_nil_ev (n : Nat) : pad [] n = List.replicate n .non := byEq rfl
@[simp] theorem addD_int (i j : Int) : addD (.int i) (.int j) = .ok (.int (i + j)) := byEq rfl
@[simp] theorem intD_int (i : Int) : intD (.int i) = .ok (.int i) := byEq rfl
theorem modD_int {i j : Int} (h : 0 < j) : modD (.int i) (.int j) = .ok (.int (i % j)) := if_pos h
theorem mulD_int {i j : Int} (h : (-(2 ^ 64) < i ∧ i < 2 ^ 64) ∨ (-(2 ^ 64) < j ∧ j < 2 ^ 64)) : mulD (.int i) (.int j) = .ok (.int (i * j)) := if_pos h
theorem fnD_rt {n l : Nat} {b : SDen} {ds : List D} {d : D} (hl : ds.length = n) (h : b (pad ds l) m = .rt d m') : fnD n l b ds m = .ok (d, m') := by
  unfold fnD
  rw [if_pos hl, h]
theorem fnD_nx {n l : Nat} {b : SDen} {ds : List D} (hl : ds.length = n) (h : b (pad ds l) m = .nx ρ' m') : fnD n l b ds m = .ok (.non, m') := by
  unfold fnD
  rw [if_pos hl, h]
theorem fnD_er {n l : Nat} {b : SDen} {ds : List D} {x : Exn} (hl : ds.length = n) (h : b (pad ds l) m = .er x ρ' m') : fnD n l b ds m = .err x m' := by
  unfold fnD
  rw [if_pos hl, h]
end
section
variable {α β : Type} {ρ ρ' : List Slot} {m m' : List Ob}
theorem loop_nx {tg : Tg} {body : SDen} {d : D} {ds : List D} {ρ1 ρ'' : List Slot} {m'' : List Ob} (h1 : tg d ρ = some ρ1) (h2 : body ρ1 m = .nx ρ'' m'') : loopS tg body (d :: ds) ρ m = loopS tg body ds ρ'' m'' := by
  rw [loopS, h1]
  dsimp only
  rw [h2]
theorem nextG_ok (s : Int) (cs : List Int) (i b : Int) (hb : 0 < b) : ∃ r s' cs' i', nextG s cs i b = some (r, .gen s' cs' i') ∧ 0 ≤ r ∧ r < b ∧ cs'.length = cs.length := by
  have hk : ∃ cell, atI (cs ++ [0]) (i % (if (cs.length : Int) > 1 then (cs.length : Int) else 1)) = some cell ∧ (cs = [] → cell = 0) := by
    have h0 : 0 ≤ i % (if (cs.length : Int) > 1 then (cs.length : Int) else 1) := Int.emod_nonneg _ (by split <;> omega)
    have h1 : i % (if (cs.length : Int) > 1 then (cs.length : Int) else 1) < (cs ++ [0]).length := by
      have q : i % (if (cs.length : Int) > 1 then (cs.length : Int) else 1) < (if (cs.length : Int) > 1 then (cs.length : Int) else 1) := Int.emod_lt_of_pos _ (by split <;> omega)
      rw [List.length_append, List.length_singleton]
      show _ < ((cs.length + 1 : Nat) : Int)
      by_cases hq : (cs.length : Int) > 1
      · rw [if_pos hq] at q ⊢; omega
      · rw [if_neg hq] at q ⊢; omega
    generalize i % (if (cs.length : Int) > 1 then (cs.length : Int) else 1) = k at h0 h1 ⊢
    have e : ixN (cs ++ [0]).length k = some k.toNat := by
      unfold ixN
      rw [if_pos h0, if_pos h1]
    unfold atI
    rw [e]
    have hlt : k.toNat < (cs ++ [0]).length := by omega
    refine ⟨(cs ++ [0])[k.toNat], List.getElem?_eq_getElem hlt, fun e => ?_⟩
    subst e
    have : k.toNat = 0 := by simpa using hlt
    simp [this]
  obtain ⟨cell, e, hz⟩ := hk
  unfold nextG
  rw [e]
  dsimp only
  by_cases hc : cell ≥ 10 ^ 18
  · rw [if_pos hc]
    have hne : cs ≠ [] := fun q => by rw [hz q] at hc; exact absurd hc (by decide)
    have hl : 0 < cs.length := List.length_pos_iff.mpr hne
    have e2 : ixN cs.length (i % cs.length) = some (i % cs.length).toNat := by
      unfold ixN
      rw [if_pos (Int.emod_nonneg _ (by omega)), if_pos (Int.emod_lt_of_pos _ (by omega))]
    rw [e2]
    exact ⟨_, _, _, _, rfl, Int.emod_nonneg _ (by omega), Int.emod_lt_of_pos _ hb, List.length_set ..⟩
  · rw [if_neg hc]
    exact ⟨_, _, _, _, rfl, Int.emod_nonneg _ (by omega), Int.emod_lt_of_pos _ hb, rfl⟩
def denMix : FDen := fnD 2 2 (thenS (setS 2 (dV 1))
    (thenS (forS (dIt asScr (dV 0)) (tgN 3) (setS 2 (dBin modD (dCB (oneArg intD) (dCons (dBin addD (dBin addD (dBin mulD (dL 2) (dC (.int 48271))) (dBin modD (dCB (oneArg intD) (dCons (dL 3) dNil)) (dC (.int 2147483629)))) (dC (.int 1))) dNil)) (dC (.int 2147483647)))))
    (retS (dGen (dCons (dItV (dV 2)) (dCons (dItN (dCB (oneArg listScr) (dCons (dL 0) dNil))) (dCons (dItV (dC (.int 0))) dNil)))))))
theorem mix_body (x c : Int) (s0 s1 : Slot) (m : List Ob) : ∃ y : Int, (setS 2 (dBin modD (dCB (oneArg intD) (dCons (dBin addD (dBin addD (dBin mulD (dL 2) (dC (.int 48271))) (dBin modD (dCB (oneArg intD) (dCons (dL 3) dNil)) (dC (.int 2147483629)))) (dC (.int 1))) dNil)) (dC (.int 2147483647)))) [s0, s1, .sh (.int x), .sh (.int c)] m = .nx [s0, s1, .sh (.int y), .sh (.int c)] m := by
  have q1 : mulD (.int x) (.int 48271) = .ok (.int (x * 48271)) := mulD_int (.inr (by decide))
  have q2 : modD (.int c) (.int 2147483629) = .ok (.int (c % 2147483629)) := modD_int (by decide)
  have q3 : modD (.int (x * 48271 + c % 2147483629 + 1)) (.int 2147483647) = .ok (.int ((x * 48271 + c % 2147483629 + 1) % 2147483647)) := modD_int (by decide)
  refine ⟨(x * 48271 + c % 2147483629 + 1) % 2147483647, ?_⟩
  simp [q1, q2, q3]
theorem mix_loop (s0 s1 : Slot) (m : List Ob) : ∀ (ns : List Int) (x : Int) (x3 : Slot), ∃ (y : Int) (y3 : Slot), loopS (tgN 3) (setS 2 (dBin modD (dCB (oneArg intD) (dCons (dBin addD (dBin addD (dBin mulD (dL 2) (dC (.int 48271))) (dBin modD (dCB (oneArg intD) (dCons (dL 3) dNil)) (dC (.int 2147483629)))) (dC (.int 1))) dNil)) (dC (.int 2147483647)))) (ns.map D.int) [s0, s1, .sh (.int x), x3] m = .nx [s0, s1, .sh (.int y), y3] m
  | [], x, x3 => ⟨x, x3, rfl⟩
  | c :: ns, x, x3 => by
    obtain ⟨z, e⟩ := mix_body x c s0 s1 m
    obtain ⟨y, y3, e2⟩ := mix_loop s0 s1 m ns z (.sh (.int c))
    exact ⟨y, y3, by rw [List.map_cons, loop_nx (ρ1 := [s0, s1, .sh (.int x), .sh (.int c)]) rfl e, e2]⟩
end
end PD
namespace PD
open PySem PySem.Spec PyProof.Rows L2
def insI (a : Int) : List Int → List Int
  | [] => [a]
  | b :: r => if a ≤ b then a :: b :: r else b :: insI a r
def isort : List Int → List Int
  | [] => []
  | a :: r => insI a (isort r)
theorem insI_perm (a : Int) : ∀ l : List Int, (insI a l).Perm (a :: l)
  | [] => List.Perm.refl _
  | b :: r => by
    rw [insI]
    split
    · exact List.Perm.refl _
    · exact ((insI_perm a r).cons b).trans (List.Perm.swap a b r)
theorem isort_perm : ∀ l : List Int, (isort l).Perm l
  | [] => List.Perm.refl _
  | a :: r => (insI_perm a _).trans ((isort_perm r).cons a)
theorem insI_sorted (a : Int) : ∀ l : List Int, l.Pairwise (· ≤ ·) → (insI a l).Pairwise (· ≤ ·)
  | [], _ => List.pairwise_singleton _ _
  | b :: r, h => by
    obtain ⟨h1, h2⟩ := List.pairwise_cons.mp h
    rw [insI]
    split
    · rename_i hab
      refine List.pairwise_cons.mpr ⟨fun c hc => ?_, h⟩
      rcases List.mem_cons.mp hc with rfl | hc
      · exact hab
      · exact Int.le_trans hab (h1 c hc)
    · rename_i hab
      refine List.pairwise_cons.mpr ⟨fun c hc => ?_, insI_sorted a r h2⟩
      rcases List.mem_cons.mp ((insI_perm a r).mem_iff.mp hc) with rfl | hc
      · omega
      · exact h1 c hc
theorem isort_sorted : ∀ l : List Int, (isort l).Pairwise (· ≤ ·)
  | [] => List.Pairwise.nil
  | a :: r => insI_sorted a _ (isort_sorted r)
def sortedN : D → Res Cont
  | .lst xs => match ints? xs with
    | some ns => .ok (.lst ((isort ns).map .int))
    | none => .bad
  | _ => .bad
section
variable {X : Cx}
theorem pd_callBN {id : String} {x : Str} {p pos : Pos} {r : List V → Hp → VK → Prop} {g : List D → Res Cont} {e : Expr} {es : List Expr} {da : Den (List D)} {RW : WX} (hc : CallR X (.builtin id) r) (hg : CbN X r g) (hG : Gl X x) (hm : X.mg x = none) (hv : bootBuiltins x = some (.builtin id))
    (ha : PA X (e :: es) (tX X.K X.mg RW da (pLooks X.K X.mg))) (hn : x ≠ "__name__" := by decide) (hdb : (x == ("__debug__" : Str)) = false := by decide)
    (he : starEach (e :: es) X.env = (false, eval e X.env) :: starEach es X.env := by rfl) (hpl : (backTo pos (starEach es X.env)).any (·.1) = false := by rfl) :
    PE X (.Call (.Name x p) (e :: es) [] pos) (tX X.K X.mg RW (dCB g da) (pNew X.K X.mg)) := PE.imp (pe_callB hc hG hm hv ha hn hdb he hpl) (cb_stepN hg)
def tyD (T : String) : D → Bool
  | .lst _ => T == "list"
  | .str _ => T == "str"
  | _ => false
def dMeth (T : String) (g : D → List D → Res D) (de : Den D) (da : Den (List D)) : Den D := fun ρ m => (de ρ m).bind fun x => if tyD T x.1 = true then (da ρ x.2).bind fun xs => (g x.1 xs.1).bind fun d => .ok (d, xs.2) else .bad
def MbR (X : Cx) (r : V → List V → Hp → VK → Prop) (g : D → List D → Res D) : Prop := ∀ {RW : WX} {B F0 : Hp} {z : Fz} {ow : Own} {ρ : List Slot} {m : List Ob} {σ : St} {H : Hp} {x : V} {d : D} {vs : List V} {ds : List D} {Q : VK},
  StOk X.K X.mg B F0 z ow ρ m σ H → pLook X.K X.mg B B z ρ σ d x → pLooks X.K X.mg B B z ρ σ ds vs → Rem X.K X.mg RW ((g d ds).bind fun d => .ok (d, m)) B F0 z ρ σ (pVal X.K X.mg) Q → r x vs H Q
theorem ty_look {T : String} {B F0 : Hp} {z : Fz} {ow : Own} {ρ : List Slot} {m : List Ob} {σ : St} {H : Hp} {d : D} {v : V} (S : StOk X.K X.mg B F0 z ow ρ m σ H) (p : pLook X.K X.mg B B z ρ σ d v) (h : tyD T d = true) : tyV X.K T v H := by
  cases d with
  | lst xs =>
    obtain ⟨a, ys, rfl, e, r⟩ := look_list S p
    exact .inl ⟨eq_of_beq h, ys, SqL.of e⟩
  | str s =>
    have e := rep_str.mp (look_rep p (fun c => by cases c <;> simp [Cont.d]))
    subst e
    exact eq_of_beq h
  | _ => cases h
theorem pd_meth {T id : String} {name : Str} {r : V → List V → Hp → VK → Prop} {g : D → List D → Res D} {o e : Expr} {es : List Expr} {de : Den D} {da : Den (List D)} {RW : WX} {apos cpos : Pos} (pa : PlainAttrs T) (slot : PySem.Slot T name id) (hty : typeOf (.builtin id) = pure (.type "method_descriptor")) (hm : MtR X id r) (hg : MbR X r g)
    (ho : PE X o (tX X.K X.mg RW de (pLook X.K X.mg))) (ha : PA X (e :: es) (tX X.K X.mg RW da (pLooks X.K X.mg)))
    (hbase : attributeBase o name X.env (eval o X.env) = eval o X.env := by rfl)
    (hfew : ((backTo cpos (starEach (e :: es) X.env)).all (fun x => !x.1) && (backToKw cpos (keywordEach [] X.env)).all (fun x => x.1.isSome)
      && decide ((e :: es).length + ([] : List Keyword).length + (if ([] : List Keyword).isEmpty then 0 else 1) < 30)) = true := by rfl)
    (hline : (apos.endLine == cpos.line) = true := by rfl) (hs : starEach (e :: es) X.env = (false, eval e X.env) :: starEach es X.env := by rfl) (hplain : (backTo cpos (starEach es X.env)).any (·.1) = false := by rfl) :
    PE X (.Call (.Attribute o name apos) (e :: es) [] cpos) (tX X.K X.mg RW (dMeth T g de da) (pVal X.K X.mg)) :=
  PE.imp (pe_bm pa slot hty hm ho ha hbase hfew hline hs hplain) fun σ H Q q => tX.imp q fun B F0 z ow ρ m S h => Rem.step pVal.pm h fun d m1 B1 z1 ow1 v H1 hB hz S1 p h1 => by
    dsimp only at h1
    split at h1
    · rename_i ht
      refine ⟨ty_look S1 p ht, B1, F0, z1, ow1, ρ, m1, S1, Rem.step pVal.pm h1 fun ds m2 B2 z2 ow2 vs H2 hB2 hz2 S2 py h2 => ?_⟩
      exact hg S2 (look_mono hB2 hz2 p) py h2
    · exact h1.elim
def placeD (d : PyData) : List PyData → Nat → Option Nat
  | [], _ => none
  | x :: r, i => if PyData.eqv x d = true then some i else placeD d r (i + 1)
theorem placeD_spec (d : PyData) : ∀ (xs : List PyData) (i j : Nat), placeD d xs i = some j → ∃ k z, j = i + k ∧ xs[k]? = some z ∧ PyData.eqv z d = true ∧ ∀ m z', m < k → xs[m]? = some z' → PyData.eqv z' d = false
  | [], i, j, h => by cases h
  | x :: r, i, j, h => by
    rw [placeD] at h
    split at h
    · rename_i hx
      cases h
      exact ⟨0, x, rfl, rfl, hx, fun m z' hm => absurd hm (Nat.not_lt_zero _)⟩
    · rename_i hx
      obtain ⟨k, z, rfl, h2, h3, h4⟩ := placeD_spec d r (i + 1) j h
      refine ⟨k + 1, z, by omega, h2, h3, fun m z' hm e => ?_⟩
      cases m with
      | zero => cases e; simpa using hx
      | succ m => exact h4 m z' (by omega) e
def truD : D → Res Bool
  | .non => .ok false
  | .bl b => .ok b
  | .int i => .ok (i != 0)
  | .lst xs => .ok (!xs.isEmpty)
  | .tup xs => .ok (!xs.isEmpty)
  | _ => .bad
def dTru (da : Den D) : Den Bool := fun ρ m => (da ρ m).bind fun x => (truD x.1).bind fun b => .ok (b, x.2)
theorem reps_empty {K : PySem.W.Frag} {mg : Str → Option Value} {z : Fz} {ds : List D} {vs : List V} (r : Reps K mg z ds vs) : (!vs.isEmpty) = !ds.isEmpty := by
  have := r.len
  cases ds <;> cases vs <;> simp_all
theorem pt_tru {e : Expr} {da : Den D} {RW : WX} (h : PE X e (tX X.K X.mg RW da (pLook X.K X.mg))) (he : ∀ whole, isTrue e X.env whole = (do let v ← whole; standAt e.pos; holding [v] (truthy v)) := by intro _; rfl) : PT X e (tX X.K X.mg RW (dTru da) pTest) :=
  PT.imp (pt_truth h he) fun σ H Q q => tX.imp q fun B F0 z ow ρ m S h => Rem.step pTest.pm h fun d m1 B1 z1 ow1 v H1 hB hz S1 p h1 => by
    cases d with
    | non =>
      cases rep_non.mp (look_rep p (fun c => by cases c <;> simp [Cont.d]))
      exact ⟨false, rfl, h1.here S1 rfl⟩
    | bl b =>
      cases rep_bl.mp (look_rep p (fun c => by cases c <;> simp [Cont.d]))
      exact ⟨b, rfl, h1.here S1 rfl⟩
    | int i =>
      cases look_int p
      exact ⟨i != 0, rfl, h1.here S1 rfl⟩
    | lst xs =>
      obtain ⟨a, ys, rfl, e, r⟩ := look_list S1 p
      exact ⟨!xs.isEmpty, .inl ⟨ys, SqL.of e, (reps_empty r).symm⟩, h1.here S1 rfl⟩
    | tup xs =>
      obtain ⟨a, ys, rfl, e, r⟩ := look_tup S1 p
      exact ⟨!xs.isEmpty, .inr (.inl ⟨ys, e, (reps_empty r).symm⟩), h1.here S1 rfl⟩
    | _ => exact h1.elim
def enumL : Nat → List D → List D
  | _, [] => []
  | i, d :: r => .tup [.int (i : Int), d] :: enumL (i + 1) r
theorem enumL_get : ∀ (ds : List D) (k i : Nat), (enumL k ds)[i]? = (ds[i]?).map fun d => D.tup [.int ((k + i : Nat) : Int), d]
  | [], k, i => by simp [enumL]
  | d :: r, k, 0 => by simp [enumL]
  | d :: r, k, i + 1 => by
    rw [enumL, List.getElem?_cons_succ, enumL_get r, List.getElem?_cons_succ, show k + 1 + i = k + (i + 1) by omega]
theorem enumL_len : ∀ (ds : List D) (k : Nat), (enumL k ds).length = ds.length
  | [], _ => rfl
  | _ :: r, k => by rw [enumL, List.length_cons, enumL_len r, List.length_cons]
def dEnum (da : Den D) : Den (List D) := fun ρ m => (da ρ m).bind fun x => match x.1 with
  | .lst xs => .ok (enumL 0 xs, x.2)
  | _ => .bad
theorem yields_enum {K : PySem.W.Frag} {mg : Str → Option Value} {z : Fz} {a : Addr} {xs : List V} {ds : List D} (h : z.F a = some (.lst xs)) (r : Reps K mg z ds xs) : Yields K mg (Ite K a) z (enumL 0 ds) := by
  intro B F0 z' ow ρ m σ H i hz S
  have hH : SqL K H a xs := SqL.of (S.fh _ _ (hz.1 _ _ h))
  refine ⟨fun e => ⟨xs, hH, by rw [← r.len, e, enumL_len]; exact Nat.le_refl _⟩, fun d hd => ?_⟩
  rw [enumL_get] at hd
  cases hq : ds[i]? with
  | none => rw [hq] at hd; cases hd
  | some d0 =>
    rw [hq] at hd
    cases hd
    obtain ⟨v, hv, rv⟩ := r.get hq
    refine ⟨⟨xs, v, hH, hv⟩, fun x H' y => ?_⟩
    obtain ⟨T, x0, rfl, hT, rfl, y⟩ := y
    have e := (y xs hH).symm.trans hv
    cases e
    refine ⟨_, S.leF hT _, S.allocF hT _, rep_tup_new (S.new_none hT).1 (.cons (rep_int.mpr (by rw [Nat.zero_add])) (.cons (rv.le hz) .nil))⟩
theorem it_enumL {e : Expr} {da : Den D} {RW : WX} {p pos tpos : Pos} {elts : List Expr} {kk : Nat} (hg : Gl X "enumerate") (hm : X.mg "enumerate" = none) (ha : PE X e (tX X.K X.mg RW da (pVal X.K X.mg))) (hs : starEach [e] X.env = [(false, eval e X.env)] := by rfl) (hs2 : starEach [e] X.env = (false, eval e X.env) :: starEach [] X.env := by rfl) :
    PI X (.Tuple elts kk tpos) (.Call (.Name "enumerate" p) [e] [] pos) (tX X.K X.mg RW (dEnum da) (pIt X.K X.mg)) :=
  PI.imp (pi_enum hg hm (pa_cons ha pa_nil hs2) hs) fun σ H Q q => by
    refine tX.imp q fun B F0 z ow ρ m S h => Rem.step pIt.pm h fun d m1 B1 z1 ow1 v H1 hB hz S1 p h1 => ?_
    cases d with
    | lst ds =>
      obtain ⟨a, xs, rfl, e1, r⟩ := (by simpa only [Rep] using (show Rep X.K X.mg z1 (.lst ds) v from p) : ∃ a xs, v = .ref a ∧ z1.F a = some (.lst xs) ∧ Reps X.K X.mg z1 ds xs)
      exact ⟨a, xs, rfl, SqL.of (S1.fh _ _ e1), Rem.here (d := enumL 0 ds) h1 S1 (yields_enum e1 r)⟩
    | _ => exact h1.elim
end
end PD
namespace PD
open PySem PySem.Spec PyProof.Rows L2
abbrev Fb : Type := PySem.W.Frag → Bool
def obsP (fb : List Fb) (fn : List He5.DefA) (K : PySem.W.Frag) : He.AlD := ((fb.all fun f => f K) && fn.all fun d => d.ok K, fn.map fun d => He5.fnA K (d.at_ K))
def valP (fn : List He5.DefA) : He.AlD := (true, fn.map He5.DefA.val)
def SaysP (fb : List Fb) (fn : List He5.DefA) (K : PySem.W.Frag) : Prop := obsP fb fn K = valP fn
section
variable {fb : List Fb} {fn : List He5.DefA} {K : PySem.W.Frag}
theorem SaysP.fact (c : SaysP fb fn K) (i : Nat) {f : Fb} (h : fb[i]? = some f := by rfl) : f K = true := by
  have c1 := (He.ba (show ((fb.all fun f => f K) && fn.all fun d => d.ok K) = true from congrArg (fun z : He.AlD => z.1) c)).1
  exact List.all_eq_true.mp c1 f (List.mem_of_getElem? h)
theorem SaysP.def_ (c : SaysP fb fn K) (i : Nat) {d : He5.DefA} (h : fn[i]? = some d := by rfl) : ∃ fd, FunD K d.name d.qual d.params d.body d.scope (d.dvs K) (d.kws K) (d.at_ K) fd := by
  have c2 := (He.ba (show ((fb.all fun f => f K) && fn.all fun d => d.ok K) = true from congrArg (fun z : He.AlD => z.1) c)).2
  have e : fn.map (fun d => He5.fnA K (d.at_ K)) = fn.map He5.DefA.val := congrArg (fun z : He.AlD => z.2) c
  have e2 : (fn.map fun d => He5.fnA K (d.at_ K))[i]? = (fn.map He5.DefA.val)[i]? := by rw [e]
  rw [List.getElem?_map, List.getElem?_map, h] at e2
  exact He5.DefA.funD (Option.some.inj e2) (List.all_eq_true.mp c2 d (List.mem_of_getElem? h))
end
def pAd (K : PySem.W.Frag) (C f : Str) : Addr := He.ma K (He.ga K C) f
def gAd (K : PySem.W.Frag) (C f : Str) : Addr := match PySem.W.recIn K (pAd K C f) "property" with
  | some (.ref g :: _) => g
  | _ => 0
def propB (C f : Str) : Fb := fun K => He.eqO (PySem.W.findIn K (.ref (He.ga K C)) f) (some (some (.ref (pAd K C f)))) && (He.eqO (PySem.W.specialIn K (.ref (pAd K C f)) "__get__") (some (some (.builtin "property.__get__"))) &&
  (decide (PySem.W.takesIn K (.ref (pAd K C f)) = some true) && (match PySem.W.recIn K (pAd K C f) "property" with
    | some (.ref g :: _) => decide (g = gAd K C f)
    | _ => false)))
theorem propB_ok {K : PySem.W.Frag} {C f : Str} (h : propB C f K = true) : PropOf K (He.ga K C) f (pAd K C f) (gAd K C f) := by
  obtain ⟨h1, h2⟩ := He.ba h
  obtain ⟨h2, h3⟩ := He.ba h2
  obtain ⟨h3, h4⟩ := He.ba h3
  refine ⟨He.eqO_ok h1, He.eqO_ok h2, of_decide_eq_true h3, ?_⟩
  unfold gAd
  split
  · rename_i g r e
    exact ⟨_, e⟩
  · rename_i hno
    split at h4
    · rename_i g r e
      exact absurd e (hno g r)
    · cases h4
end PD
namespace PD
def faB (f : He.Fa) : Fb := fun K => f.ok K
end PD
namespace PD
open PySem PySem.Spec PyProof.Rows L2
abbrev cA (K : PySem.W.Frag) (x : Str) : Addr := He.ga K x
structure OwnK (K : PySem.W.Frag) (x : Str) : Prop where
  cls : Cls K (cA K x)
  ha : PySem.W.findIn K (.ref (cA K x)) "__class__" = some (some (.builtin "object.__class__"))
  hn : PySem.W.specialIn K (.builtin "object.__class__") "__get__" = some (some (.builtin "getset_descriptor.__get__"))
  ht : PySem.W.takesIn K (.builtin "object.__class__") = some true
  hm : PySem.W.mroIn K (cA K x) (.type "object") = some true
def ownB (x : Str) : Fb := fun K => (He.Fa.cls x).ok K && (He.eqO (PySem.W.findIn K (.ref (cA K x)) "__class__") (some (some (.builtin "object.__class__"))) &&
  (He.eqO (PySem.W.specialIn K (.builtin "object.__class__") "__get__") (some (some (.builtin "getset_descriptor.__get__"))) && (decide (PySem.W.takesIn K (.builtin "object.__class__") = some true) && decide (PySem.W.mroIn K (cA K x) (.type "object") = some true))))
theorem ownB_ok {x : Str} {K : PySem.W.Frag} (h : ownB x K = true) : OwnK K x := by
  obtain ⟨h1, h⟩ := He.ba h
  obtain ⟨h2, h⟩ := He.ba h
  obtain ⟨h3, h⟩ := He.ba h
  obtain ⟨h4, h5⟩ := He.ba h
  exact ⟨He.cls_ok h1, He.eqO_ok h2, He.eqO_ok h3, of_decide_eq_true h4, of_decide_eq_true h5⟩
theorem OwnK.ty {K : PySem.W.Frag} {x : Str} (o : OwnK K x) {H : Hp} {a dx : Addr} {fs : List (Str × V)} (e : H a = some (.ins (cA K x) dx fs)) : TyX K H (.ref a) (.ref (cA K x)) :=
  .base (.ins e o.cls o.ha o.hn o.ht o.hm)
def tysB (x : Str) : Fb := fun K => [Ty.int, .bool, .str, .non, .tup, .lst, .dct].all fun t => decide (PySem.W.kitOne K (.type t.name) (.ref (cA K x)) = some false)
theorem tysB_ok {x : Str} {K : PySem.W.Frag} (h : tysB x K = true) (t : Ty) : PySem.W.kitOne K (.type t.name) (.ref (cA K x)) = some false := by
  have q := List.all_eq_true.mp h
  cases t <;> exact of_decide_eq_true (q _ (by simp))
structure RowK (K : PySem.W.Frag) (mg : Str → Option Value) : Prop where
  mgC : mg "Row" = some (.ref (cA K "Row"))
  own : OwnK K "Row"
  held : NoAttr K (cA K "Row") "held"
  kit : PySem.W.kitOne K (.ref (cA K "Row")) (.ref (cA K "Row")) = some true
  tys : ∀ t : Ty, PySem.W.kitOne K (.type t.name) (.ref (cA K "Row")) = some false
def rowB : Fb := fun K => ownB "Row" K && ((He.Fa.noat "Row" "held").ok K && (decide (PySem.W.kitOne K (.ref (cA K "Row")) (.ref (cA K "Row")) = some true) && tysB "Row" K))
theorem rowB_ok {K : PySem.W.Frag} {mg : Str → Option Value} (hm : mg "Row" = some (.ref (cA K "Row"))) (h : rowB K = true) : RowK K mg := by
  obtain ⟨h1, h⟩ := He.ba h
  obtain ⟨h2, h⟩ := He.ba h
  obtain ⟨h3, h4⟩ := He.ba h
  exact ⟨hm, ownB_ok h1, He.noat_ok h2, of_decide_eq_true h3, tysB_ok h4⟩
section
variable {X : Cx} {RW : WX} {e c : Expr} {pos : Pos}
theorem rep_row {K : PySem.W.Frag} {mg : Str → Option Value} {z : Fz} {g : D} {v : V} (R : RowK K mg) (h : Rep K mg z (.row g) v) : ∃ a dx x, v = .ref a ∧ z.F a = some (.ins (cA K "Row") dx [("held", x)]) ∧ Rep K mg z g x := by
  simp only [Rep] at h
  obtain ⟨a, dx, C, x, e, hC, hF, r⟩ := h
  rw [R.mgC] at hC
  cases hC
  exact ⟨a, dx, x, e, hF, r⟩
theorem look_row {K : PySem.W.Frag} {mg : Str → Option Value} {z : Fz} {B B' F0 : Hp} {ow : Own} {ρ : List Slot} {m : List Ob} {σ : St} {H : Hp} {g : D} {v : V} (R : RowK K mg) (S : StOk K mg B F0 z ow ρ m σ H) (h : pLook K mg B' B z ρ σ (.row g) v) :
    ∃ a dx x, v = .ref a ∧ H a = some (.ins (cA K "Row") dx [("held", x)]) ∧ Rep K mg z g x := by
  obtain ⟨a, dx, x, e, hF, r⟩ := rep_row R (look_rep h (fun c => by cases c <;> simp [Cont.d]))
  exact ⟨a, dx, x, e, S.fh _ _ hF, r⟩
def heldD : D → Res D
  | .row g => .ok g
  | _ => .bad
theorem pd_held {de : Den D} (R : RowK X.K X.mg) (he : PE X e (tX X.K X.mg RW de (pLook X.K X.mg))) (hb : attributeBase e "held" X.env (eval e X.env) = eval e X.env := by rfl) :
    PE X (.Attribute e "held" pos) (tX X.K X.mg RW (dUn heldD de) (pVal X.K X.mg)) :=
  PE.imp (pe_fld he hb) fun σ H Q q => tX.imp q fun B F0 z ow ρ m S h => Rem.step pVal.pm h fun d m1 B1 z1 ow1 v H1 hB hz S1 p h1 => by
    cases d with
    | row g =>
      obtain ⟨a, dx, x, rfl, hH, r⟩ := look_row R S1 p
      exact ⟨a, _, dx, _, x, rfl, hH, R.own.cls, R.held, rfl, h1.here S1 r⟩
    | _ => exact h1.elim
def isRowD : D → Res D
  | .row _ => .ok (.bl true)
  | d => match d.ty with
    | some _ => .ok (.bl false)
    | none => .bad
theorem pd_isRow {de : Den D} {p p2 : Pos} (R : RowK X.K X.mg) (hg : Gl X "isinstance") (hm : X.mg "isinstance" = none) (hg2 : Gl X "Row") (he : PE X e (tX X.K X.mg RW de (pLook X.K X.mg)))
    (hs : starEach (e :: [.Name "Row" p2]) X.env = (false, eval e X.env) :: starEach [.Name "Row" p2] X.env := by rfl) (hs2 : starEach [.Name "Row" p2] X.env = (false, eval (.Name "Row" p2) X.env) :: starEach [] X.env := by rfl) (hpl : (backTo pos (starEach [.Name "Row" p2] X.env)).any (·.1) = false := by rfl) :
    PE X (.Call (.Name "isinstance" p) [e, .Name "Row" p2] [] pos) (tX X.K X.mg RW (dUn isRowD de) (pVal X.K X.mg)) :=
  PE.imp (pe_callB call_isi hg hm (by decide +kernel) (pa_cons he (pa_cons (pe_glob (v := .ref (cA X.K "Row")) hg2 R.mgC rfl) pa_nil hs2) hs) (by decide) (by decide) hs hpl) fun σ H Q q => tX.imp q fun B F0 z ow ρ m S h => Rem.step pVal.pm h fun d m1 B1 z1 ow1 v H1 hB hz S1 p h1 => by
    have other : ∀ t : Ty, d.ty = some t → Rem X.K X.mg RW (.ok (.bl false, m1)) B1 F0 z1 ρ σ (pVal X.K X.mg) Q → rIsi X.K [v, .ref (cA X.K "Row")] H1 Q := fun t ht h2 =>
      ⟨v, _, _, _, false, rfl, .own _, look_ty S1 p ht, R.tys t, h2.here S1 (rep_bl.mpr rfl)⟩
    cases d with
    | row g =>
      obtain ⟨a, dx, x, rfl, hH, r⟩ := look_row R S1 p
      exact ⟨_, _, _, _, true, rfl, .own _, R.own.ty hH, R.kit, h1.here S1 (rep_bl.mpr rfl)⟩
    | non => exact other .non rfl h1
    | bl b => exact other .bool rfl h1
    | int b => exact other .int rfl h1
    | str b => exact other .str rfl h1
    | tup b => exact other .tup rfl h1
    | etp b => exact other .tup rfl h1
    | lst b => exact other .lst rfl h1
    | dct t b c =>
      cases t with
      | false => exact other .dct rfl h1
      | true => exact h1.elim
    | ldc t b c => exact h1.elim
    | obj n => exact h1.elim
    | fn n => exact h1.elim
    | scr n => exact h1.elim
end
end PD
namespace PD
open PySem PySem.Spec PyProof.Rows L2
abbrev noX : XK := fun _ _ _ => False
theorem pass_no {X Y : Cx} : Passes (L2.CX X.prog X.w) Y noX := fun _ _ _ _ _ _ _ z => by
  obtain ⟨_, _, _, _, _, _, _, _, _, _, _, _, z⟩ := z
  exact z.elim
section
variable {K : PySem.W.Frag} {mg : Str → Option Value} {z : Fz} {B F0 : Hp} {ow : Own} {ρ : List Slot} {m : List Ob} {σ : St} {H : Hp}
theorem spF_of {n : Nat} {f : FDen} {ds : List D} {vs : List V} {Q : VK} {E : XK} (S : StOk K mg B F0 z ow ρ m σ H) (pv : Reps K mg z ds vs) (hl : ds.length = n)
    (h : match f ds m with
      | .ok (d, m2) => ∀ z2 ow2 v H2, z.le z2 → StOk K mg B F0 z2 ow2 ρ m2 σ H2 → Rep K mg z2 d v → Q v H2
      | .err x m2 => ∀ z2 ow2 cv dd H2, z.le z2 → StOk K mg B F0 z2 ow2 ρ m2 σ H2 → ExcAt mg x cv dd z2.F → E cv dd H2
      | .bad => False) : spF K mg n f vs H Q E := by
  refine ⟨by rw [← Reps.len pv]; exact hl, calleeB ow H, z.F, z, calleeO ow, m, ds, S.enter, pv, ?_⟩
  cases hf : f ds m with
  | bad => rw [hf] at h; exact h
  | ok r =>
    obtain ⟨d, m2⟩ := r
    rw [hf] at h
    intro z2 ow2 v H2 hz2 S2 rv
    obtain ⟨ow3, S3⟩ := S.leave hz2 S2
    exact h z2 ow3 v H2 hz2 S3 rv
  | err x m2 =>
    rw [hf] at h
    intro z2 ow2 cv dd H2 hz2 S2 ex
    obtain ⟨ow3, S3⟩ := S.leave hz2 S2
    exact h z2 ow3 cv dd H2 hz2 S3 ex
end
def noErr (r : Res (D × List Ob)) : Res (D × List Ob) := match r with
  | .err _ _ => .bad
  | r => r
structure Ff (P : Program) (w : World) (K : PySem.W.Frag) (mg : Str → Option Value) (base : Heap) (a : Addr) (k n : Nat) (f : FDen) : Prop where
  ex : ∃ fd ps, FnOk P w K mg base (L2.CX P w) k a fd ps (spF K mg n f) ∧ Binds K fd ps []
theorem Ff.mk' {P : Program} {w : World} {K : PySem.W.Frag} {mg : Str → Option Value} {base : Heap} {x q : Str} {k n l : Nat} {b : SDen} {params : Arguments} {body : List Stmt} {scope : Scope} {a : Addr} {fd : FuncData} {N ps : List Str} (F : FunD K x q params body scope [] [] a fd) (S : FnScope N ps scope) (hb : Binds K fd ps []) (hn : ps.length = n) (hl : N.length = n + l)
    (h : ∀ (cdv : Value) (A : Around) (outer : List Env) (s : Shared) (H : Hp) (E : XK), Room k (A.deeper (envOfC q scope s.heap.objs.size a cdv)) → PSs (cxOf (L2.CX P w) P w K mg base N q scope a cdv A outer s H E) body (tB K mg (fun cls d _ H => E cls d H) b)) : Ff P w K mg base a (k + 1) n (fnD n l b) := by
  refine ⟨fd, ps, F.ok S (fun vs H Q E q => by rw [hn]; exact q.1) (fun cdv A outer s H vs Q E hr q => ?_), hb⟩
  refine ⟨_, h cdv A outer s H E hr, ?_⟩
  obtain ⟨hv, B, F0, z, ow, m, ds, S0, r, q⟩ := q
  have hds : ds.length = n := by rw [r.len]; exact hv
  refine ⟨B, F0, z, ow, pad ds l, m, S0.args r (by rw [hl, hds]), ?_⟩
  unfold fnD at q
  rw [if_pos hds] at q
  cases hbd : b (pad ds l) m with
  | nx ρ' m' => rw [hbd] at q; exact fun z' ow' σ' H' hz S' => q z' ow' .non H' hz S'.forget (rep_non.mpr rfl)
  | rt d m' => rw [hbd] at q; exact fun z' ow' v H' hz S' rv => q z' ow' v H' hz S' rv
  | er x ρ' m' => rw [hbd] at q; exact fun z' ow' σ' cv dd H' hz S' ex => q z' ow' cv dd H' hz S'.forget ex
  | bk ρ' m' => rw [hbd] at q; exact q.elim
  | ct ρ' m' => rw [hbd] at q; exact q.elim
  | bad => rw [hbd] at q; exact q.elim
theorem spF_here {K : PySem.W.Frag} {mg : Str → Option Value} {RW : WX} {z : Fz} {B F0 : Hp} {ow : Own} {ρ : List Slot} {m : List Ob} {σ : St} {H : Hp} {n : Nat} {f : FDen} {ds : List D} {vs : List V} {Q : VK} (S : StOk K mg B F0 z ow ρ m σ H) (pv : Reps K mg z ds vs) (hl : ds.length = n)
    (h : Rem K mg RW (noErr (f ds m)) B F0 z ρ σ (pVal K mg) Q) : spF K mg n f vs H Q noX := by
  refine spF_of S pv hl ?_
  cases hf : f ds m with
  | bad => rw [hf] at h; exact h
  | err x m2 => rw [hf] at h; exact h.elim
  | ok r =>
    obtain ⟨d, m2⟩ := r
    rw [hf] at h
    exact fun z2 ow2 v H2 hz2 S2 rv => h B z2 ow2 v H2 (Same.refl _) hz2 S2 rv
section
variable {X : Cx} {RW : WX} {e c : Expr} {pos : Pos}
theorem call_lenOwn {C g : Addr} {n : Nat} {sp : Sp} {fd : FuncData} {ps : List Str} {E : XK} (hs : PySem.W.findIn X.K (.ref C) "__len__" = some (some (.ref g))) (hf : PySem.W.isFn X.K (.ref g) = true) (F : FnOk X.prog X.w X.K X.mg X.base (L2.CX X.prog X.w) n g fd ps sp) (hbn : Binds X.K fd ps []) (hr : Room (n + 1) X.A)
    (hx : Passes (L2.CX X.prog X.w) X E) : CallR X (.builtin "len") (fun xs H Q => ∃ a dx fs, xs = [.ref a] ∧ H a = some (.ins C dx fs) ∧ sp [.ref a] H (fun z H' => ∃ i : Int, z = .int i ∧ (0 ≤ i ∧ i < 2 ^ 63) ∧ Q (.int i) H') E) := by
  intro pins s σ H xs us Q I r h
  obtain ⟨a, dx, fs, rfl, ha, q⟩ := h
  obtain ⟨u, rfl, ru⟩ := r.one
  cases (show u = Value.ref a from ru)
  obtain ⟨mA, O, _⟩ := ins_get I.hok ha
  obtain ⟨od, J, _⟩ := O.look
  obtain ⟨mm, hF⟩ := I.fr
  have b := hbn s [Value.ref a] I.kIn (by rw [List.append_nil]; exact (F.len _ _ _ _ q))
  refine PySem.W.len_K hF I.ok.mod.kin J hs hf (wpAny_call (codeAny_mono (F.run X.A.in1 X.stack s H ⟨[Value.ref a], []⟩ _ [V.ref a] _ E hr.in1 I.env0.in1 b (.cons rfl .nil) q) fun r s' hq => ?_))
  cases r with
  | error er => exact (hx pins σ H s er s' I hq)
  | ok fl =>
    cases fl with
    | ret w =>
      obtain ⟨z', H', I2, rv, i, rfl, hi, qz⟩ := I.after hq
      obtain ⟨t, e⟩ := (show ∃ t, w = Value.int i t from rv)
      cases e
      exact ⟨hi, .int i, H', I2.tok _, ⟨_, rfl⟩, qz⟩
    | next => exact False.elim hq
    | brk => exact False.elim hq
    | cont => exact False.elim hq
def asLen (r : Res (D × List Ob)) : Res (D × List Ob) := match r with
  | .ok (.int i, m) => if 0 ≤ i ∧ i < 9223372036854775808 then .ok (.int i, m) else .bad
  | _ => .bad
def nfB : Fb := fun K => PySem.W.notFirst K (cA K "Row") (.ref (cA K "Row")) && PySem.W.notFirst K (cA K "Row") (.type "tuple")
end
end PD
namespace PD
open PySem PySem.Spec PyProof.Rows L2
structure ExcK (K : PySem.W.Frag) (mg : Str → Option Value) (x : Str) : Prop where
  at_ : mg x = some (.ref (cA K x))
  exc : PySem.W.excIn K (cA K x) He.veBase "ValueError.__new__" = true
  kp : PySem.W.keepIn K (.ref (cA K x)) = true
  sub : PySem.W.subIn K (.ref (cA K x)) (.type "BaseException") = some true
  typ : PySem.W.typeIn K (.ref (cA K x)) = some (.type "type")
theorem excK_ok {K : PySem.W.Frag} {mg : Str → Option Value} {x : Str} (hm : mg x = some (.ref (cA K x))) (h : (He.Fa.exc x).ok K = true) : ExcK K mg x := by
  obtain ⟨h1, h2, h3, h4⟩ := He.exc_ok h
  exact ⟨hm, h1, h2, h3, h4⟩
section
variable {X : Cx} {RW : WX} {e c : Expr} {pos : Pos}
theorem pmk_own0 {x : Str} {p : Pos} (T : ExcK X.K X.mg x) (hg : Gl X x) (hdb : (x == ("__debug__" : Str)) = false) : PMk X (.Call (.Name x p) [] [] pos) (fun _ H Q => Q (.ref (cA X.K x)) none H) := by
  intro pins s σ H Q I h
  refine wpAny_Call_Name_kw (ld_glob I hg T.at_ ?_ hdb)
  refine PySem.W.callWith_K0 (first := []) I.kIn T.kp ?_
  show wpAny _ _ (call (.ref _) []) _ _ _
  obtain ⟨bm, N, nm, qn, bs, hdct, sn, sub, ab, col, dd, k0, k1, k2, k3, k5, mN, hC, hN, hni, TT⟩ := exc_obj I.kIn T.exc
  exact wpAny_call_exc_subT PySem.F.excBase_ValueError TT hC hN hni (fun h' e hm => mk_of I hm (raises_own T.sub T.typ) h (I.hok.gone hm.new)) (Nat.zero_le _)
def raiseS (x : Str) : SDen := fun ρ m => .er ⟨x, []⟩ ρ m
theorem sd_raise0 {x : Str} {p pos' : Pos} (T : ExcK X.K X.mg x) (hc : X.calm = true) (tk : Takes X RW) (hg : Gl X x) (hdb : (x == ("__debug__" : Str)) = false := by decide) : PS X (.Raise (some (.Call (.Name x p) [] [] pos)) none pos') (tB X.K X.mg RW (raiseS x)) :=
  PS.imp (ps_raise hc tk (pmk_own0 T hg hdb)) fun D σ H ⟨B, F0, z, ow, ρ, m, S, q⟩ => q z ow σ _ none H (Fz.le.refl _) S ⟨_, T.at_, rfl, fun _ => rfl, fun l w e => by cases e⟩
def rSetTI (K : PySem.W.Frag) (w : World) : List V → Hp → VK → Prop := fun xs H Q => ∃ (p : Addr) (ns : List Int), xs = [.ref p] ∧ SqT K H p (ns.map V.int) ∧ ns.length ≤ 1000 ∧ ∀ a c, H a = none → c ≤ ns.length → Q (.ref a) (upd H a (SetO w a (fun j => decide (j ∈ ns)) c))
theorem cr_setTI (hc : X.calm = true) : CallR X (.type "set") (rSetTI X.K X.w) := by
  intro pins s σ H xs us Q I r h
  obtain ⟨p0, ns, rfl, hq, hl, q⟩ := h
  obtain ⟨u, rfl, ru⟩ := r.one
  cases (show u = Value.ref p0 from ru)
  obtain ⟨its, rv, pt, hz⟩ := I.tuple hq
  have hi : IntsAre its.toArray.toList ns := ints_of_vals rv
  refine call_set_tupI ns (I.ok.hd hc) (show s.heap.IsTuple p0 its.toArray from pt) hi (by unfold scanBound; omega) fun h' tk c R1 hcn k => ?_
  have hn := I.hok.fresh (Nat.le_refl s.heap.objs.size)
  exact ⟨.ref _, _, I.laid (t' := tk) k (Nat.le_refl _) (setO_new R1), rfl, q _ c hn hcn⟩
def sset : List Int → List Int
  | [] => []
  | a :: r => (match sset r with
    | [] => [a]
    | b :: t => if a = b then b :: t else a :: b :: t)
theorem sset_mem : ∀ (l : List Int) (k : Int), k ∈ sset l ↔ k ∈ l
  | [], k => Iff.rfl
  | a :: r, k => by
    have ih := sset_mem r
    rw [sset]
    cases h : sset r with
    | nil =>
      have hr : r = [] := by
        cases r with
        | nil => rfl
        | cons b t => have := (ih b).mpr (List.mem_cons_self ..); rw [h] at this; cases this
      subst hr
      exact Iff.rfl
    | cons b t =>
      dsimp only
      rw [h] at ih
      split
      · rename_i e
        subst e
        rw [ih, List.mem_cons]
        constructor
        · exact .inr
        · rintro (e | e)
          · subst e; exact (ih k).mp (List.mem_cons_self ..)
          · exact e
      · rw [List.mem_cons, ih, List.mem_cons]
theorem sset_sorted : ∀ l : List Int, l.Pairwise (· ≤ ·) → (sset l).Pairwise (· < ·)
  | [], _ => List.Pairwise.nil
  | a :: r, h => by
    obtain ⟨h1, h2⟩ := List.pairwise_cons.mp h
    have ih := sset_sorted r h2
    have hm := sset_mem r
    rw [sset]
    cases hs : sset r with
    | nil => exact List.pairwise_singleton _ _
    | cons b t =>
      rw [hs] at ih hm
      dsimp only
      split
      · exact ih
      · rename_i ne
        refine List.pairwise_cons.mpr ⟨fun c hc => ?_, ih⟩
        have hab : a ≤ b := h1 b ((hm b).mp (List.mem_cons_self ..))
        rcases List.mem_cons.mp hc with rfl | hc
        · omega
        · have := (List.pairwise_cons.mp ih).1 c hc
          omega
theorem strict_one : ∀ a b : List Int, a.Pairwise (· < ·) → b.Pairwise (· < ·) → (∀ k, k ∈ a ↔ k ∈ b) → a = b
  | [], [], _, _, _ => rfl
  | [], y :: b, _, _, h => by cases (h y).mpr (List.mem_cons_self ..)
  | x :: a, [], _, _, h => by cases (h x).mp (List.mem_cons_self ..)
  | x :: a, y :: b, ha, hb, h => by
    obtain ⟨a1, a2⟩ := List.pairwise_cons.mp ha
    obtain ⟨b1, b2⟩ := List.pairwise_cons.mp hb
    have hx : x = y := by
      rcases List.mem_cons.mp ((h x).mp (List.mem_cons_self ..)) with e | e
      · exact e
      · rcases List.mem_cons.mp ((h y).mpr (List.mem_cons_self ..)) with e2 | e2
        · exact e2.symm
        · have := a1 y e2; have := b1 x e; omega
    subst hx
    congr 1
    refine strict_one a b a2 b2 fun k => ⟨fun hk => ?_, fun hk => ?_⟩
    · rcases List.mem_cons.mp ((h k).mp (List.mem_cons_of_mem _ hk)) with e | e
      · subst e; have := a1 _ hk; omega
      · exact e
    · rcases List.mem_cons.mp ((h k).mpr (List.mem_cons_of_mem _ hk)) with e | e
      · subst e; have := b1 _ hk; omega
      · exact e
def sortedSetN : D → Res Cont
  | .tup xs => match ints? xs with
    | some ns => if ns.length < 64 then .ok (.lst ((sset (isort ns)).map .int)) else .bad
    | none => .bad
  | _ => .bad
def dUnN (g : D → Res Cont) (da : Den D) : Den Cont := fun ρ m => (da ρ m).bind fun x => (g x.1).bind fun d => .ok (d, x.2)
theorem pd_sortedSet {da : Den D} {p p2 q : Pos} (hc : X.calm = true) (hg : Gl X "sorted") (hm : X.mg "sorted" = none) (hg2 : Gl X "set") (hm2 : X.mg "set" = none) (ha : PE X e (tX X.K X.mg RW da (pLook X.K X.mg)))
    (hs1 : starEach [e] X.env = (false, eval e X.env) :: starEach [] X.env := by rfl) (hpl : (backTo q (starEach [] X.env)).any (·.1) = false := by rfl)
    (hs2 : starEach [.Call (.Name "set" p2) [e] [] q] X.env = (false, eval (.Call (.Name "set" p2) [e] [] q) X.env) :: starEach [] X.env := by rfl) (hpl2 : (backTo pos (starEach [] X.env)).any (·.1) = false := by rfl) :
    PE X (.Call (.Name "sorted" p) [.Call (.Name "set" p2) [e] [] q] [] pos) (tX X.K X.mg RW (dUnN sortedSetN da) (pNew X.K X.mg)) := by
  have h1 := pe_callTy (p := p2) (cr_setTI hc) hg2 hm2 PyProof.Rows.boot_set (pa_cons ha pa_nil hs1) (by decide) (by decide) hs1 hpl
  refine PE.imp (pe_callB (cr_sortedSet hc) hg hm (by decide +kernel) (pa_cons h1 pa_nil hs2) (by decide) (by decide) hs2 hpl2) fun σ H Q q => tX.imp q fun B F0 z ow ρ m S h => Rem.step pNew.pm h fun d m1 B1 z1 ow1 v H1 hB hz S1 px h1 => ?_
  cases d with
  | tup xs =>
    dsimp only [sortedSetN] at h1
    cases hn : ints? xs with
    | none => rw [hn] at h1; exact h1.elim
    | some ns =>
      rw [hn] at h1
      cases ints?_eq hn
      dsimp only at h1
      split at h1
      · rename_i h64
        obtain ⟨a, ys, rfl, e, r⟩ := look_tup S1 px
        cases r.ints
        refine ⟨a, ns, rfl, e, by omega, fun b c hb hcn => ?_⟩
        refine ⟨b, _, c, rfl, upd_same, by omega, fun ms p h2 h3 _ hp => ?_⟩
        have em : ms = sset (isort ns) := strict_one _ _ h2 (sset_sorted _ (isort_sorted ns)) fun k => by
          rw [h3 k, sset_mem, (isort_perm ns).mem_iff, decide_eq_true_eq]
        subst em
        have S2 := S1.alloc hb (SetO X.w b (fun j => decide (j ∈ ns)) c)
        exact Rem.newLst (ds := (sset (isort ns)).map .int) h1 S2 Reps.of_ints hp
      · exact h1.elim
  | _ => exact h1.elim
end
end PD
namespace PD
open PySem PySem.Spec PyProof.Rows L2
section
variable {K : PySem.W.Frag} {mg : Str → Option Value} {z z' z1 z2 z3 : Fz} {B B' B1 B2 F0 F1 : Hp} {ow ow' ow1 ow2 : Own} {ρ ρ1 : List Slot} {m m' m1 : List Ob} {σ σ1 : St} {H H' H1 H2 : Hp}
theorem StOk.obSet (S : StOk K mg B F0 z ow ρ m σ H) {n : Nat} {o o' : Ob} {a : Addr} {u : HO} (hm : m[n]? = some o) (hA : z.As[n]? = some [a]) (w : ow a = some (.inr n)) (hu : H a ≠ none) (ok : ObOk K mg z ow (upd H a u) n [a] o') : StOk K mg B F0 z ow ρ (m.set n o') σ (upd H a u) := by
  obtain ⟨wf, wb, _⟩ := S.ow a _ w
  have other : ∀ b x, b ≠ a → H b = some x → upd H a u b = some x := fun b x hb e => by rw [upd_ne hb]; exact e
  refine ⟨fun b x e => other b x (fun q => by subst q; rw [wf] at e; cases e) (S.fh b x e), fun b x e => other b x (fun q => by subst q; rw [wb] at e; cases e) (S.bh b x e), S.f0, S.new, S.len, fun j s e => ?_, by rw [List.length_set]; exact S.ol, fun k x e => ?_, fun b x e => ?_⟩
  · have q := S.slot j s e
    cases s with
    | non => trivial
    | exc a d x => exact q
    | sh d => exact q
    | own c =>
      obtain ⟨b, x, e1, e2, c1, w'⟩ := q
      exact ⟨b, x, e1, other b x (fun q => by subst q; rw [w] at w'; cases w') e2, c1, w'⟩
  · by_cases hk : n = k
    · subst hk
      obtain ⟨hl, _⟩ := List.getElem?_eq_some_iff.mp hm
      rw [List.getElem?_set_self hl] at e
      cases e
      exact ⟨_, hA, ok⟩
    · rw [List.getElem?_set_ne hk] at e
      obtain ⟨fp, e1, q⟩ := S.ob k x e
      exact ⟨fp, e1, q.mono (Fz.le.refl _) (fun _ w => w) fun b y w1 h1 => other b y (fun q => by subst q; rw [w] at w1; exact hk (Sum.inr.inj (Option.some.inj w1))) h1⟩
  · obtain ⟨q1, q2, q3⟩ := S.ow b x e
    refine ⟨q1, q2, ?_⟩
    by_cases hb : b = a
    · subst hb; rw [upd_same]; simp
    · rw [upd_ne hb]; exact q3
theorem StOk.obNew (S : StOk K mg B F0 z ow ρ m σ H) {p : Addr} {u : HO} {o : Ob} (hp : H p = none) (ok : ∀ ow' : Own, ow' p = some (.inr m.length) → ObOk K mg ⟨z.F, z.As ++ [[p]]⟩ ow' (upd H p u) m.length [p] o) : ∃ ow', StOk K mg B F0 ⟨z.F, z.As ++ [[p]]⟩ ow' ρ (m ++ [o]) σ (upd H p u) := by
  obtain ⟨nz, nB, _, nw⟩ := S.new_none hp
  have S := S.alloc hp u
  have hle : z.le ⟨z.F, z.As ++ [[p]]⟩ := ⟨Same.refl _, _, rfl⟩
  have hno : ∀ b x, ow b = some x → b ≠ p := fun b x h q => by subst q; rw [nw] at h; cases h
  refine ⟨fun b => if b = p then some (.inr m.length) else ow b, S.fh, S.bh, S.f0, S.new, S.len, fun j t q => ?_, by simp [S.ol], fun k x q => ?_, fun b x q => ?_⟩
  · have r := S.slot j t q
    cases t with
    | non => trivial
    | exc a d x => exact ExcSl.le hle r
    | sh d => obtain ⟨x, e, r⟩ := r; exact ⟨x, e, r.le hle⟩
    | own ct =>
      obtain ⟨b, x, e1, e2, c1, w⟩ := r
      exact ⟨b, x, e1, e2, c1.le hle, by show (if b = p then _ else _) = _; rw [if_neg (hno b _ w)]; exact w⟩
  · by_cases hk : k < m.length
    · rw [List.getElem?_append_left hk] at q
      obtain ⟨fp, e1, r⟩ := S.ob k x q
      exact ⟨fp, hle.at e1, r.mono hle (fun b h => by show (if b = p then _ else _) = _; rw [if_neg (hno b _ h)]; exact h) fun _ _ _ h => h⟩
    · have hk' : k = m.length := by
        obtain ⟨hl, _⟩ := List.getElem?_eq_some_iff.mp q
        rw [List.length_append, List.length_singleton] at hl
        omega
      subst hk'
      rw [List.getElem?_append_right (Nat.le_refl _), Nat.sub_self] at q
      cases q
      refine ⟨[p], ?_, ok _ (if_pos rfl)⟩
      show (z.As ++ [[p]])[m.length]? = _
      rw [← S.ol, List.getElem?_append_right (Nat.le_refl _), Nat.sub_self]
      rfl
  · have q : (if b = p then some (Sum.inr m.length) else ow b) = some x := q
    by_cases n : b = p
    · subst n; exact ⟨nz, nB, by rw [upd_same]; simp⟩
    · rw [if_neg n] at q; exact S.ow b x q
mutual
theorem Rep.back (hF : Same z2.F z3.F) (hA : z3.As = z1.As) (h12 : ∃ r, z2.As = z1.As ++ r) : ∀ {d : D} {v w : V}, Rep K mg z1 d v → Rep K mg z2 d w → Rep K mg z3 d w
  | .non, _, _, _, r => by simpa only [Rep] using r
  | .bl _, _, _, _, r => by simpa only [Rep] using r
  | .int _, _, _, _, r => by simpa only [Rep] using r
  | .str _, _, _, _, r => by simpa only [Rep] using r
  | .fn _, _, _, _, r => by simpa only [Rep] using r
  | .tup ds, v, w, q, r => by
    simp only [Rep] at q r ⊢
    obtain ⟨a, xs, e, hs, hr⟩ := r
    obtain ⟨b, ys, e2, hs2, hr2⟩ := q
    exact ⟨a, xs, e, same_tup hF hs, Reps.back hF hA h12 hr2 hr⟩
  | .etp ds, v, w, q, r => by
    simp only [Rep] at q r ⊢
    obtain ⟨a, o, xs, e, hs, hd, hr⟩ := r
    obtain ⟨b, o2, ys, e2, hs2, hd2, hr2⟩ := q
    exact ⟨a, o, xs, e, hF _ _ hs, hd, Reps.back hF hA h12 hr2 hr⟩
  | .lst ds, v, w, q, r => by
    simp only [Rep] at q r ⊢
    obtain ⟨a, xs, e, hs, hr⟩ := r
    obtain ⟨b, ys, e2, hs2, hr2⟩ := q
    exact ⟨a, xs, e, hF _ _ hs, Reps.back hF hA h12 hr2 hr⟩
  | .dct t ks vs, v, w, q, r => by
    simp only [Rep] at q r ⊢
    obtain ⟨a, o, vx, e, hs, h1, h2⟩ := r
    obtain ⟨b, o2, vx2, e2, hs2, h3, h4⟩ := q
    exact ⟨a, o, vx, e, hF _ _ hs, Reps.back hF hA h12 h3 h1, h2.mono fun _ _ => same_tup hF⟩
  | .ldc t ks vs, v, w, q, r => by
    simp only [Rep] at q r ⊢
    obtain ⟨a, od, o, vx, e, hs, h1, h2⟩ := r
    obtain ⟨b, od2, o2, vx2, e2, hs2, h3, h4⟩ := q
    exact ⟨a, od, o, vx, e, hF _ _ hs, Reps.back hF hA h12 h3 h1, h2.mono fun _ _ => same_tup hF⟩
  | .row g, v, w, q, r => by
    simp only [Rep] at q r ⊢
    obtain ⟨a, dx, C, x, e, hm, hs, hr⟩ := r
    obtain ⟨b, dx2, C2, x2, e2, hm2, hs2, hr2⟩ := q
    exact ⟨a, dx, C, x, e, hm, hF _ _ hs, Rep.back hF hA h12 hr2 hr⟩
  | .obj n, v, w, q, r => by
    simp only [Rep] at q r ⊢
    obtain ⟨a, l, e, hs⟩ := r
    obtain ⟨b, l2, e2, hs2⟩ := q
    obtain ⟨t, ht⟩ := h12
    obtain ⟨hl, _⟩ := List.getElem?_eq_some_iff.mp hs2
    rw [ht, List.getElem?_append_left hl] at hs
    exact ⟨a, l, e, by rw [hA]; exact hs⟩
  | .scr ns, v, w, q, r => by
    simp only [Rep] at r ⊢
    obtain ⟨a, e, hs⟩ := r
    exact ⟨a, e, hF.seq hs⟩
theorem Reps.back (hF : Same z2.F z3.F) (hA : z3.As = z1.As) (h12 : ∃ r, z2.As = z1.As ++ r) : ∀ {ds : List D} {vs ws : List V}, Reps K mg z1 ds vs → Reps K mg z2 ds ws → Reps K mg z3 ds ws
  | [], vs, ws, q, r => by rw [r.nil_of]; exact .nil
  | d :: ds, vs, ws, q, r => by
    obtain ⟨v, vs', rfl, q1, q2⟩ := q.uncons
    obtain ⟨w, ws', rfl, r1, r2⟩ := r.uncons
    exact .cons (Rep.back hF hA h12 q1 r1) (Reps.back hF hA h12 q2 r2)
end
theorem COk.back (hF : Same z2.F z3.F) (hA : z3.As = z1.As) (h12 : ∃ r, z2.As = z1.As ++ r) {c : Cont} {a a' : Addr} {o o' : HO} (q : COk K mg z1 a' c o) (r : COk K mg z2 a c o') : COk K mg z3 a c o' := by
  cases c with
  | lst ds =>
    obtain ⟨xs, e, r⟩ := r
    obtain ⟨ys, e2, q⟩ := q
    exact ⟨xs, e, q.back hF hA h12 r⟩
  | dct t ks vs =>
    obtain ⟨vx, r1, r2⟩ := r
    obtain ⟨vy, q1, q2⟩ := q
    exact ⟨vx, q1.back hF hA h12 r1, r2.mono fun _ _ => same_tup hF⟩
  | ldc t ks vs =>
    obtain ⟨od, u, vx, e, r1, r2⟩ := r
    obtain ⟨od2, u2, vy, e2, q1, q2⟩ := q
    exact ⟨od, u, vx, e, q1.back hF hA h12 r1, r2.mono fun _ _ => same_tup hF⟩
theorem ObOk.back (hF : Same z2.F z3.F) (hA : z3.As = z1.As) (h12 : ∃ r, z2.As = z1.As ++ r) {n : Nat} {fp fp' : List Addr} {o : Ob} (q : ObOk K mg z1 ow1 H1 n fp' o) (r : ObOk K mg z2 ow2 H2 n fp o) : ObOk K mg z3 ow2 H2 n fp o := by
  cases o with
  | gen s cs i => exact r
  | lst ds =>
    obtain ⟨a, xs, e, h, r, w⟩ := r
    obtain ⟨b, ys, _, _, q, _⟩ := q
    exact ⟨a, xs, e, h, q.back hF hA h12 r, w⟩
  | ins c fs =>
    obtain ⟨a, dx, C, vs, e, hC, h, r, w⟩ := r
    obtain ⟨b, dy, C2, vs2, _, _, _, q, _⟩ := q
    exact ⟨a, dx, C, vs, e, hC, h, q.back hF hA h12 r, w⟩
  | tab x q0 => exact r
theorem StOk.takeLast (S1 : StOk K mg B1 F1 z1 ow1 ρ m σ H1) {fp : List Addr} (hA : z2.As = z1.As ++ [fp]) {o : Ob} (S : StOk K mg B F0 z2 ow ρ (m ++ [o]) σ H) :
    StOk K mg B F0 ⟨z2.F, z1.As⟩ (fun a => if ow a = some (.inr m.length) then none else ow a) ρ m σ H := by
  have e1 : Same z2.F (Fz.F ⟨z2.F, z1.As⟩) := Same.refl _
  have e2 : Fz.As ⟨z2.F, z1.As⟩ = z1.As := rfl
  have e3 : ∃ r, z2.As = z1.As ++ r := ⟨_, hA⟩
  refine ⟨S.fh, S.bh, S.f0, S.new, S.len, fun i s e => ?_, S1.ol, fun n x e => ?_, fun a x e => ?_⟩
  · have q := S.slot i s e
    have q1 := S1.slot i s e
    cases s with
    | non => trivial
    | exc a d x => exact q
    | sh d =>
      obtain ⟨x, e4, r⟩ := q
      obtain ⟨y, e5, r1⟩ := q1
      exact ⟨x, e4, r1.back e1 e2 e3 r⟩
    | own c =>
      obtain ⟨a, x, h1, h2, c1, w⟩ := q
      obtain ⟨b, y, g1, g2, c2, _⟩ := q1
      exact ⟨a, x, h1, h2, c2.back e1 e2 e3 c1, by show (if _ then _ else _) = _; rw [w, if_neg (by simp)]⟩
  · obtain ⟨hl, _⟩ := List.getElem?_eq_some_iff.mp e
    obtain ⟨fp1, h1, q1⟩ := S1.ob n x e
    obtain ⟨fp2, h2, q2⟩ := S.ob n x (by rw [List.getElem?_append_left hl]; exact e)
    have hl2 : n < z1.As.length := by rw [S1.ol]; exact hl
    rw [hA, List.getElem?_append_left hl2, h1] at h2
    cases h2
    exact ⟨fp1, h1, (q1.back e1 e2 e3 q2).mono (Fz.le.refl _) (fun a w => by show (if _ then _ else _) = _; rw [w, if_neg (by intro z; have := Sum.inr.inj (Option.some.inj z); omega)]) fun _ _ _ h => h⟩
  · have e : (if ow a = some (.inr m.length) then none else ow a) = some x := e
    split at e
    · cases e
    · exact S.ow a x e
end
def putD (f : Str) (d : D) : List (Str × D) → List (Str × D)
  | [] => [(f, d)]
  | p :: r => if p.1 = f then (p.1, d) :: r else p :: putD f d r
theorem putF_zip {K : PySem.W.Frag} {mg : Str → Option Value} {z : Fz} {f : Str} {d : D} {v : V} (hd : Rep K mg z d v) : ∀ {fs : List (Str × D)} {vs : List V}, Reps K mg z (fs.map (·.2)) vs →
    ∃ ws, putF f v ((fs.map (·.1)).zip vs) = ((putD f d fs).map (·.1)).zip ws ∧ Reps K mg z ((putD f d fs).map (·.2)) ws
  | [], vs, r => ⟨[v], rfl, .cons hd .nil⟩
  | p :: fs, vs, r => by
    obtain ⟨w, ws, rfl, r1, r2⟩ := Reps.uncons r
    obtain ⟨xs, e, r3⟩ := putF_zip hd r2
    by_cases h : p.1 = f
    · refine ⟨v :: ws, ?_, ?_⟩
      · show (if p.1 = f then (p.1, v) :: (fs.map (·.1)).zip ws else (p.1, w) :: putF f v ((fs.map (·.1)).zip ws)) = _
        rw [if_pos h, show putD f d (p :: fs) = (p.1, d) :: fs from if_pos h]
        rfl
      · rw [show putD f d (p :: fs) = (p.1, d) :: fs from if_pos h]
        exact .cons hd r2
    · refine ⟨w :: xs, ?_, ?_⟩
      · show (if p.1 = f then (p.1, v) :: (fs.map (·.1)).zip ws else (p.1, w) :: putF f v ((fs.map (·.1)).zip ws)) = _
        rw [if_neg h, show putD f d (p :: fs) = p :: putD f d fs from if_neg h, e]
        rfl
      · rw [show putD f d (p :: fs) = p :: putD f d fs from if_neg h]
        exact .cons r1 r3
structure AtrK (K : PySem.W.Frag) (mg : Str → Option Value) (c f : Str) : Prop where
  at_ : mg c = some (.ref (cA K c))
  cls : Cls K (cA K c)
  no : NoAttr K (cA K c) f
def fldS (c : Str) (i : Nat) (f : Str) (de : Den D) : SDen := fun ρ m => bindS (de ρ m) ρ fun d m1 => match slotAt ρ i with
  | .sh (.obj n) => (match m1[n]? with
    | some (.ins c' fs) => if c' = c ∧ fs.length < 1000 then .nx ρ (m1.set n (.ins c (putD f d fs))) else .bad
    | _ => .bad)
  | _ => .bad
theorem rep_obj {K : PySem.W.Frag} {mg : Str → Option Value} {z : Fz} {n : Nat} {v : V} : Rep K mg z (.obj n) v ↔ ∃ a r, v = .ref a ∧ z.As[n]? = some (a :: r) := by simp only [Rep]
theorem StOk.insAt {K : PySem.W.Frag} {mg : Str → Option Value} {z : Fz} {B F0 : Hp} {ow : Own} {ρ : List Slot} {m : List Ob} {σ : St} {H : Hp} (S : StOk K mg B F0 z ow ρ m σ H) {n : Nat} {c : Str} {fs : List (Str × D)} (hm : m[n]? = some (.ins c fs)) :
    ∃ a dx C vs, z.As[n]? = some [a] ∧ mg c = some (.ref C) ∧ H a = some (.ins C dx ((fs.map (·.1)).zip vs)) ∧ Reps K mg z (fs.map (·.2)) vs ∧ ow a = some (.inr n) := by
  obtain ⟨fp, e, a, dx, C, vs, rfl, h⟩ := S.ob n _ hm
  exact ⟨a, dx, C, vs, e, h⟩
section
variable {X : Cx} {RW : WX} {e : Expr}
theorem sd_fld {c f : Str} {i : Nat} {x : Str} {px pos' pos : Pos} {de : Den D} (T : AtrK X.K X.mg c f) (hv : PE X (.Name x px) (tVar i)) (he : PE X e (tX X.K X.mg RW de (pVal X.K X.mg))) (hs : swapsWith e (some (.Attribute (.Name x px) f pos')) pos.line X.env = pure false := by rfl) :
    PS X (.Assign [.Attribute (.Name x px) f pos'] e pos) (tB X.K X.mg RW (fldS c i f de)) :=
  PS.imp (ps_fld hv he hs) fun D σ H ⟨B, F0, z, ow, ρ, m, S, q⟩ => by
    refine ⟨B, F0, z, ow, ρ, m, S, Rem.stepS q fun d m1 B1 z1 ow1 v H1 hB hz S1 pd q1 => ?_⟩
    have S1 := S1.weak hB
    cases hsl : slotAt ρ i with
    | sh ds =>
      rw [hsl] at q1
      cases ds with
      | obj n =>
        dsimp only at q1
        obtain ⟨w, e1, rw'⟩ := S1.slot i _ (slotAt_get hsl (by simp))
        obtain ⟨a0, r, rfl, hA0⟩ := rep_obj.mp rw'
        refine ⟨.ref a0, ?_, ?_⟩
        · cases q : σ[i]? with
          | none => rw [q] at e1; cases e1
          | some u => rw [q] at e1; exact congrArg some e1
        cases hm : m1[n]? with
        | none => rw [hm] at q1; exact q1.elim
        | some ob =>
          rw [hm] at q1
          cases ob with
          | ins c' fs =>
            dsimp only at q1
            split at q1
            · rename_i hc
              obtain ⟨rfl, hlen⟩ := hc
              obtain ⟨a, dx, C, vs, hA, hC, hH, rv, w⟩ := S1.insAt hm
              rw [hA] at hA0
              cases hA0
              rw [T.at_] at hC
              cases hC
              refine ⟨_, _, dx, _, rfl, hH, T.cls, T.no, ?_, ?_⟩
              · rw [List.length_zip, List.length_map]
                omega
              · obtain ⟨ws, e2, r2⟩ := putF_zip (f := f) pd rv
                rw [e2]
                exact q1 z1 ow1 σ _ (Fz.le.refl _) (S1.obSet hm hA w (by rw [hH]; simp) ⟨_, dx, _, ws, rfl, T.at_, upd_same, r2, w⟩)
            · exact q1.elim
          | gen _ _ _ => exact q1.elim
          | lst _ => exact q1.elim
          | tab _ _ => exact q1.elim
      | _ => exact q1.elim
    | non => rw [hsl] at q1; exact q1.elim
    | own c => rw [hsl] at q1; exact q1.elim
    | exc a d x => rw [hsl] at q1; exact q1.elim
end
end PD
namespace PD
open PySem PySem.Spec PyProof.Rows L2
section
variable {X : Cx} {RW : WX} {e : Expr} {pos : Pos}
theorem mk_call {C f : Addr} {k : Nat} {fd : FuncData} {ps : List Str} {sp : Sp} {E : St → XK} {pins : List (Addr × Obj)} {σ : St} {H : Hp} {s : Shared} {Q : VK} {us : List Value} {vs : List V} (M : Mk X.K C f) (F : FnOk X.prog X.w X.K X.mg X.base (L2.CX X.prog X.w) k f fd ps sp) (hr : Room (k + 1) X.A) (hb : Binds X.K fd ps [])
    (hx : PassesAt (L2.CX X.prog X.w) X σ (E σ)) (I : Inv X pins σ H s) (r : Vals vs us)
    (h : ∀ x dx, H x = none → H dx = none → dx ≠ x → sp (.ref x :: vs) (upd (upd H dx (.own x)) x (.ins C dx [])) (fun v H2 => v = .non ∧ Q (.ref x) H2) (E σ)) : wpAny (model X.prog X.w) X.A (call (.ref C) us) (EP X pins σ Q) X.xe s := by
  have q0 := h _ _ (I.hok.fresh (Nat.le_succ s.heap.objs.size)) (I.hok.fresh (Nat.le_refl s.heap.objs.size)) (Nat.ne_of_lt (Nat.lt_succ_self _))
  have J := Inv.made (C := C) I
  have rr : Vals (V.ref (s.heap.objs.size + 1) :: vs) (Value.ref (s.heap.objs.size + 1) :: us) := .cons rfl r
  have hlen := F.len _ _ _ _ q0
  rw [rr.length] at hlen
  have bb := hb _ (Value.ref (s.heap.objs.size + 1) :: us) J.kIn (by rw [List.append_nil]; exact hlen)
  rw [List.append_nil] at bb
  refine wpAny_call (make_map (f := f) I.kIn M.makes M.init (beq_iff_eq.mp M.fn) (codeAny_mono (F.run _ X.stack _ _ ⟨Value.ref (s.heap.objs.size + 1) :: us, []⟩ _ _ _ (E σ) (hr.make C us []) (J.env0.make C us []) bb rr q0) fun out s2 hq => ?_))
  cases out with
  | error er => exact hx pins _ _ er s2 J hq
  | ok fl =>
    cases fl with
    | ret u =>
      obtain ⟨v, H3, I3, rv, rfl, q3⟩ := J.after hq
      exact ⟨rv, ⟨V.ref (s.heap.objs.size + 1), H3, I3, rfl, q3⟩⟩
    | next => exact False.elim hq
    | brk => exact False.elim hq
    | cont => exact False.elim hq
def tMkS (C : Addr) (sp : Sp) (E : St → XK) (t : TA) : TE := fun σ H Q => t σ H fun vs H1 => ∀ x dx, H1 x = none → H1 dx = none → dx ≠ x → sp (.ref x :: vs) (upd (upd H1 dx (.own x)) x (.ins C dx [])) (fun v H2 => v = .non ∧ Q (.ref x) H2) (E σ)
theorem pe_mkS {C f : Addr} {k : Nat} {fd : FuncData} {ps : List Str} {sp : Sp} {E : St → XK} {x : Str} {p : Pos} {es : List Expr} {t : TA} (M : Mk X.K C f) (F : FnOk X.prog X.w X.K X.mg X.base (L2.CX X.prog X.w) k f fd ps sp) (hr : Room (k + 1) X.A) (hg : Gl X x) (hm : X.mg x = some (.ref C)) (hb : Binds X.K fd ps [])
    (hx : ∀ σ, PassesAt (L2.CX X.prog X.w) X σ (E σ)) (ha : PA X (e :: es) t) (hdb : (x == ("__debug__" : Str)) = false) (he : starEach (e :: es) X.env = (false, eval e X.env) :: starEach es X.env) (hpl : (backTo pos (starEach es X.env)).any (·.1) = false) :
    PE X (.Call (.Name x p) (e :: es) [] pos) (tMkS C sp E t) := ⟨fun pins s σ H Q I h =>
  wpAny_Call_Name_kw (ld_glob I hg hm (PySem.W.callWith_K (h₀ := X.base) I.ok.mod.kin M.kp (thn (ha.run pos pins s σ H _ I h) fun us s1 ⟨vs, H1, I1, r, q⟩ => ⟨I1.kIn, mk_call M F hr hb (hx σ) I1 r q⟩) he hpl) hdb)⟩
def okGroup : D → Bool
  | .int i => decide (0 ≤ i) && decide (i ≤ 11)
  | _ => false
def rowOk : D → Bool
  | .tup xs => decide (1 ≤ xs.length) && (decide (xs.length ≤ 12) && xs.all okGroup)
  | _ => false
def plainD : D → Bool
  | .tup xs => xs.all fun d => d.ty.isSome
  | .etp _ => false
  | d => d.ty.isSome
def rowN (g : D) (m : List Ob) : Res (D × List Ob) := if rowOk g = true then .ok (.row g, m) else if plainD g = true then .err ⟨"BadGroups", []⟩ m else .bad
def RowInit (init : FDen) : Prop := ∀ (g : D) (m : List Ob), (rowOk g = true → init [.obj m.length, g] (m ++ [.ins "Row" []]) = .ok (.non, m ++ [.ins "Row" [("held", g)]])) ∧
  (rowOk g = false → plainD g = true → init [.obj m.length, g] (m ++ [.ins "Row" []]) = .err ⟨"BadGroups", []⟩ (m ++ [.ins "Row" []]))
def dMkRow (da : Den D) : Den D := fun ρ m => (da ρ m).bind fun x => rowN x.1 x.2
theorem pd_mkRow {f : Addr} {k : Nat} {init : FDen} {da : Den D} {p : Pos} (R : RowK X.K X.mg) (M : Mk X.K (cA X.K "Row") f) (F : Ff X.prog X.w X.K X.mg X.base f k 2 init) (hi : RowInit init) (hr : Room (k + 1) X.A) (tk : Takes X RW) (hg : Gl X "Row") (ha : PE X e (tX X.K X.mg RW da (pVal X.K X.mg)))
    (he : starEach [e] X.env = (false, eval e X.env) :: starEach [] X.env := by rfl) (hpl : (backTo pos (starEach [] X.env)).any (·.1) = false := by rfl) :
    PE X (.Call (.Name "Row" p) [e] [] pos) (tX X.K X.mg RW (dMkRow da) (pVal X.K X.mg)) := by
  obtain ⟨fd, ps, F, hbn⟩ := F.ex
  refine PE.imp (pe_mkS (E := WE RW) M F hr hg R.mgC hbn (fun σ => passAt tk σ) (pa_cons ha pa_nil he) (by decide) he hpl) fun σ H Q q => tX.imp q fun B F0 z ow ρ m S h => Rem.step pVal.pm h fun d m1 B1 z1 ow1 v H1 hB hz S1 pd h1 => ?_
  intro x dx hx hdx hne
  have hx2 : upd H1 dx (.own x) x = none := by rw [upd_ne (Ne.symm hne)]; exact hx
  obtain ⟨ow2, S2⟩ := (S1.alloc hdx (.own x)).obNew hx2 (u := .ins (cA X.K "Row") dx []) (o := .ins "Row" []) fun ow' w => ⟨x, dx, _, [], rfl, R.mgC, upd_same, .nil, w⟩
  have hle1 : z1.le ⟨z1.F, z1.As ++ [[x]]⟩ := ⟨Same.refl _, _, rfl⟩
  have pd : Rep X.K X.mg z1 d v := pd
  have ro : Rep X.K X.mg ⟨z1.F, z1.As ++ [[x]]⟩ (.obj m1.length) (.ref x) := rep_obj.mpr ⟨x, [], rfl, by
    show (z1.As ++ [[x]])[m1.length]? = _
    rw [← S1.ol, List.getElem?_append_right (Nat.le_refl _), Nat.sub_self]
    rfl⟩
  have asEq : ∀ {z2 : Fz} {o : Ob} {ow3 : Own} {H3 : Hp}, Fz.le ⟨z1.F, z1.As ++ [[x]]⟩ z2 → StOk X.K X.mg B1 F0 z2 ow3 ρ (m1 ++ [o]) σ H3 → z2.As = z1.As ++ [[x]] := fun {z2 o ow3 H3} hz2 S3 => by
    obtain ⟨_, r, er⟩ := hz2
    have := S3.ol
    rw [er, List.length_append, List.length_append, List.length_append, S1.ol] at this
    have : r = [] := List.length_eq_zero_iff.mp (by simpa using this)
    rw [er, this, List.append_nil]
  refine spF_of (ds := [.obj m1.length, d]) S2 (.cons ro (.cons (pd.le hle1) .nil)) rfl ?_
  have h1 : Rem X.K X.mg RW (rowN d m1) B1 F0 z1 ρ σ (pVal X.K X.mg) Q := h1
  obtain ⟨hi1, hi2⟩ := hi d m1
  cases hok : rowOk d with
  | true =>
    rw [hi1 hok]
    rw [show rowN d m1 = .ok (.row d, m1) from if_pos hok] at h1
    intro z2 ow3 w H3 hz2 S3 rv
    refine ⟨rep_non.mp rv, ?_⟩
    have hA := asEq hz2 S3
    have S4 := S1.takeLast hA (S3 : StOk X.K X.mg B1 F0 z2 ow3 ρ (m1 ++ [Ob.ins "Row" [("held", d)]]) σ H3)
    obtain ⟨a, dx', C, vs, hA2, hC, hH, rvs, wa⟩ := S3.insAt (n := m1.length) (c := "Row") (fs := [("held", d)]) (by rw [List.getElem?_append_right (Nat.le_refl _), Nat.sub_self]; rfl)
    rw [hA, ← S1.ol, List.getElem?_append_right (Nat.le_refl _), Nat.sub_self] at hA2
    cases hA2
    rw [R.mgC] at hC
    cases hC
    obtain ⟨wv, ws, rfl, r1, r2⟩ := Reps.uncons rvs
    cases r2.nil_of
    obtain ⟨wF, wB, _⟩ := S3.ow x _ wa
    have S5 := S4.freeze hH wF wB (by show (if _ then _ else _) = _; rw [wa, if_pos rfl])
    have hle : z1.le ⟨upd z2.F x (.ins (cA X.K "Row") dx' (([("held", d)].map (·.1)).zip [wv])), z1.As⟩ := ⟨(hz2.1 : Same z1.F z2.F).trans (same_upd wF), [], (List.append_nil _).symm⟩
    refine h1 B1 _ _ (.ref x) H3 (Same.refl _) hle S5 ?_
    show Rep _ _ _ (.row d) (.ref x)
    simp only [Rep]
    refine ⟨x, dx', _, wv, rfl, R.mgC, upd_same, ?_⟩
    exact Rep.back (z1 := z1) (z2 := z2) (z3 := ⟨upd z2.F x (.ins (cA X.K "Row") dx' (([("held", d)].map (·.1)).zip [wv])), z1.As⟩) (same_upd wF) rfl ⟨_, hA⟩ pd r1
  | false =>
    rw [show rowN d m1 = if plainD d = true then .err ⟨"BadGroups", []⟩ m1 else .bad from if_neg (by rw [hok]; simp)] at h1
    cases hp : plainD d with
    | false => rw [hp] at h1; exact h1.elim
    | true =>
      rw [hi2 hok hp]
      rw [hp, if_pos rfl] at h1
      intro z2 ow3 cv dd H3 hz2 S3 ex
      have hA := asEq hz2 S3
      have S4 := S1.takeLast hA (S3 : StOk X.K X.mg B1 F0 z2 ow3 ρ (m1 ++ [Ob.ins "Row" []]) σ H3)
      exact h1 ⟨z2.F, z1.As⟩ _ cv dd H3 ⟨hz2.1, [], (List.append_nil _).symm⟩ S4 ex
end
end PD
namespace PySem
open PySem PySem.W
theorem meets_enum1 {v : Value} {o : Obj} {Hs : Heap → Prop} (B : Begins v o Hs) : Meets (Builtin.«enumerate.__new__» ⟨[.type "enumerate", v], []⟩) (fun _ R s => Hs s.heap ∧
    R (.ok (.ret (.ref (s.heap.push o).objs.size))) { s with heap := (s.heap.push o).push { cls := .type "enumerate", data := .fields #[.none, .bool false, .ref s.heap.objs.size, rawInt 0, .none, .none] } }) :=
  .of_wp fun prog w A R s h => by
    obtain ⟨hp, g, d, tk, os⟩ := s; obtain ⟨h1, h⟩ := h
    have hsub := sub_enumerate
    have q1 : ∀ {A' : Around} {E : Value → Shared → Prop} {Q : Value → Shared → Prop}, Q (.ref hp.objs.size) ⟨hp.push o, g, d, tk, os⟩ → wpAny (model prog w) A' (pyIter v) Q E ⟨hp, g, d, tk, os⟩ := fun q => B.iter _ _ _ _ _ _ h1 q
    wp_walk using q1
    refine wpAny_stack_any fun st => wpAny_pure ?_
    split <;> first
      | (rename_i c _ _ _ _ _; cases (c == Value.type "enumerate") <;> (wp_walk using q1; exact ⟨_, rfl, h⟩))
      | (wp_walk using q1; exact ⟨_, rfl, h⟩)
theorem enum1_begins {prog : Program} {w : World} {A : Around} {E : Value → Shared → Prop} {s : Shared} {v : Value} {o : Obj} {Hs : Heap → Prop} {Q : Value → Shared → Prop} (B : Begins v o Hs) (h1 : Hs s.heap)
    (h : ∀ h', IsEnum h' (s.heap.objs.size + 1) s.heap.objs.size 0 .none → h'.get? s.heap.objs.size = some o → (∀ b o, s.heap.get? b = some o → h'.get? b = some o) → Q (.ref (s.heap.objs.size + 1)) { s with heap := h' }) :
    wpAny (model prog w) A (call (.type "enumerate") [v]) Q E s := by
  refine callType_new F.called_enumerate (by decide) (F.typeCall_enumerate_1 _) (F.newCall_enumerate_1 _) (fun obj => F.args_object_init_2 obj _) F.entry_enumerate_new (meets_enum1 B) ⟨h1, ?_⟩
  have hz : (s.heap.push o).objs.size = s.heap.objs.size + 1 := Heap.size_push ..
  show _ ∧ _; rw [hz]
  have q := Heap.get?_push_size (s.heap.push o) (o := { cls := .type "enumerate", data := .fields #[.none, .bool false, .ref s.heap.objs.size, rawInt 0, .none, .none] }) rfl
  rw [hz] at q
  exact ⟨⟨_, q, rfl⟩, h _ q (Heap.get?_push_of_some _ (Heap.get?_push_size _ B.free)) fun b o x => Heap.get?_push_of_some _ (Heap.get?_push_of_some _ x)⟩
end PySem
namespace PD
open PySem PySem.Spec PyProof.Rows L2
def Itet (K : PySem.W.Frag) (a : Addr) : It :=
  ⟨fun i H => ∃ (xs : List V) (x : V), SqT K H a xs ∧ xs[i]? = some x, fun i H v H' => ∃ T x, v = .ref T ∧ H T = none ∧ H' = upd H T (.tup [.int (i : Nat), x]) ∧ ∀ xs, SqT K H a xs → xs[i]? = some x, fun i H => ∃ xs : List V, SqT K H a xs ∧ xs.length ≤ i⟩
theorem turn_enumT {P : Program} {w : World} {K : PySem.W.Frag} {elts : List Expr} {kk : Nat} {tpos : Pos} (a e it : Addr) :
    Turn P w K (.Tuple elts kk tpos) (Itet K a) [e, it] e (fun i h => (∃ old, PySem.IsEnum h e it (((i : Nat) : Int)) old) ∧ (h.IsTupleIter it a i ∧ e ≠ it)) where
  mem := by simp
  obj := fun i h st b hb => by
    obtain ⟨⟨old, he⟩, ⟨o, ho, hc, hd⟩, _⟩ := st
    have q : b = e ∨ b = it := by simpa using hb
    rcases q with rfl | rfl
    · exact ⟨_, he, fun v q => nomatch q⟩
    · exact ⟨o, ho, fun v q => by rw [hd] at q; cases q⟩
  keep := fun i h h' st k => by
    obtain ⟨⟨old, he⟩, hi, hne⟩ := st
    exact ⟨⟨old, k e (by simp) _ he⟩, hi.at fun o q => k it (by simp) o q, hne⟩
  item := by
    intro X hP hw hK hc i pins s σ H E I hf st hg
    subst hP hw hK
    obtain ⟨⟨old, he⟩, hit, hne⟩ := st
    obtain ⟨xs, x, hq, hx⟩ := hg
    obtain ⟨its, rv, p, hz⟩ := I.tuple hq
    obtain ⟨u, hu, ru⟩ := rv.get hx
    have hel : e < s.heap.objs.size := Heap.lt_size he
    have hil : it < s.heap.objs.size := by obtain ⟨_, q, _⟩ := hit; exact Heap.lt_size q
    have hea : e ≠ a := fun q => by
      obtain ⟨o, ho, hcl, _⟩ := p
      rw [← q, he] at ho
      cases ho
      simp at hcl
    have hia : a ≠ it := fun q => by
      obtain ⟨o, ho, hcl, _⟩ := p
      obtain ⟨o', ho', hcl', _⟩ := hit
      rw [q, ho'] at ho
      cases ho
      rw [hcl] at hcl'
      simp at hcl'
    have hsz : i < its.toArray.size := by
      obtain ⟨hl, _⟩ := List.getElem?_eq_some_iff.mp hu
      simpa using hl
    refine PySem.wpAny_pyNext_enum_itemC (PySem.Draws.tuple (show X.A.in1.handled = none from I.ok.hd hc) it a hia its.toArray) he ⟨hit, p⟩ hsz hne (by simp [hne, hea]) fun y h' tk hPy ho hst' hT hs1 hk => ?_
    have ey : y = u := by
      have q1 : its.toArray[i]? = some y := hPy
      rw [List.getElem?_toArray, hu] at q1
      exact (Option.some.inj q1).symm
    subst ey
    refine ⟨_, rfl, wpAny_letOwnedTupleGo_enum (s := { s with heap := h', toks := tk + 1 }) ho fun h'' he' sb => ?_⟩
    have hT2 : h''.get? s.heap.objs.size = some { cls := .type "tuple", data := .seq #[.int i tk, y] } := (sb.2 _ (Nat.ne_of_gt hel)).trans hT
    have new : ObjOk X.prog X.w (upd H s.heap.objs.size (.tup [.int (i : Nat), x])) h'' s.heap.objs.size (.tup [.int (i : Nat), x]) := ⟨by show 2 ≤ sizeLine; decide, [.int i tk, y], .cons ⟨_, rfl⟩ (.cons ru .nil), ⟨_, hT2, rfl, _, rfl⟩⟩
    have I1 : Inv X pins σ (upd H s.heap.objs.size (.tup [.int (i : Nat), x])) { s with heap := h'', toks := tk + 1 } :=
      I.turnedNew (ch := [e, it]) (fun b ob hb q => by
        have b1 : b ≠ e := fun z => hb (by simp [z])
        have b2 : b ≠ it := fun z => hb (by simp [z])
        exact (sb.2 b b1).trans (hk b ob b1 b2 q)) hf (Nat.le_refl _) new
    refine ⟨.ref s.heap.objs.size, _, I1, rfl, ⟨_, x, rfl, I.hok.fresh (Nat.le_refl _), rfl, fun ys hy => by rw [I.tuple_inj hy hq]; exact hx⟩, ⟨⟨y, ?_⟩, hst'.1.at fun o q => (sb.2 it (Ne.symm hne)).trans q, hne⟩, fun b hb => ?_⟩
    · rw [show ((i + 1 : Nat) : Int) = (i : Int) + 1 by omega]; exact he'
    · have q : b = e ∨ b = it := by simpa using hb
      have hb' : b < s.heap.objs.size := by rcases q with rfl | rfl <;> assumption
      rw [upd_ne (Nat.ne_of_lt hb')]
      exact (hf b hb).1
  done := by
    intro X hP hw hK hc i pins s σ H E I hf st hg
    subst hP hw hK
    obtain ⟨⟨old, he⟩, hit, hne⟩ := st
    obtain ⟨xs, hq, hx⟩ := hg
    obtain ⟨its, rv, p, hz⟩ := I.tuple hq
    obtain ⟨f0, f1, f2, f3, f4, f5⟩ := hf it (by simp)
    have hl := rv.length
    have hia : a ≠ it := fun q => by
      obtain ⟨o, ho, hcl, _⟩ := p
      obtain ⟨o', ho', hcl', _⟩ := hit
      rw [q, ho'] at ho
      cases ho
      rw [hcl] at hcl'
      simp at hcl'
    have hend : ∀ (s' : Shared) (Q' : Value → Shared → Prop) (E' : Value → Shared → Prop), (s'.heap.IsTupleIter it a i ∧ s'.heap.IsTuple a its.toArray) →
        (∀ h' e, Heap.ExtBut it s'.heap h' → (∃ o, h'.get? e = some o ∧ o.cls = .type "StopIteration") → E' (.ref e) { s' with heap := h' }) → wpAny (model X.prog X.w) X.A.in1 (Builtin.SmallTypes.nextOf (.ref it)) Q' E' s' :=
      fun s' Q' E' st hE => PySem.wpAny_nextOf_tuple_end (show X.A.in1.handled = none from I.ok.hd hc) st.1 st.2 (by simp; omega) hE
    have D : PySem.Draws X.prog X.w X.A.in1 it [it, a] i (fun _ _ => True) (fun j h => j = i ∧ (h.IsTupleIter it a i ∧ h.IsTuple a its.toArray)) := {
      live := fun _ _ st => let ⟨o, ho, _⟩ := st.2.1; ⟨o, ho⟩
      frame := fun _ _ _ st hk => ⟨st.1, st.2.1.at fun o e => hk it (by simp) o e, st.2.2.at fun o e => hk a (by simp) o e⟩
      item := fun j s' Q' E' hj st hQ => absurd st.1 (Nat.ne_of_lt hj)
      done := fun s' Q' E' st hE => hend s' Q' E' st.2 hE }
    exact PySem.wpAny_pyNext_enum_endD D he ⟨rfl, hit, p⟩ fun h' eb => ⟨rfl, I.turned (t' := s.toks) (fun b o hb e => eb b o hb e) f0 f1 f3 f4 f5⟩
  self := fun A i s Q E st h => wpAny_pyIter_enum st.1.choose_spec h
def iEnumT (K : PySem.W.Frag) (ta : TA) : TI := fun σ H R => ta σ H fun vs H1 => ∃ a xs, vs = [.ref a] ∧ SqT K H1 a xs ∧ R (Itet K a) H1
theorem pi_enumT {X : Cx} {e : Expr} {ta : TA} {p pos tpos : Pos} {elts : List Expr} {kk : Nat} (hg : Gl X "enumerate") (hm : X.mg "enumerate" = none) (ha : PA X [e] ta) (hs : starEach [e] X.env = [(false, eval e X.env)] := by rfl) :
    PI X (.Tuple elts kk tpos) (.Call (.Name "enumerate" p) [e] [] pos) (iEnumT X.K ta) := by
  refine ⟨fun pins s σ H R I h => Call_ (ld_blt I hg hm boot_enumerate (PyProof.Rows.callWith_type1 (thn (ha.run pos pins s σ H _ I h) fun us s1 ⟨vs, H1, I1, r1, q1⟩ => ?_) hs rfl))⟩
  obtain ⟨a, xs, rfl, hq, q⟩ := q1
  obtain ⟨u, rfl, ru⟩ := r1.one
  cases (show u = Value.ref a from ru)
  obtain ⟨its, rv, p', hz⟩ := I1.tuple hq
  refine PySem.enum1_begins (PySem.begins_tuple a its.toArray) p' fun h' he ho hk => wpAny_pyIter_enum he ?_
  have I2 : Inv X pins σ H1 { s1 with heap := h' } := I1.kept (t' := s1.toks) hk
  have hit : h'.IsTupleIter s1.heap.objs.size a 0 := ⟨_, ho, rfl, rfl⟩
  refine ⟨s1.heap.objs.size + 1, [s1.heap.objs.size + 1, s1.heap.objs.size], _, _, H1, rfl, I2, turn_enumT a _ _, ⟨⟨.none, he⟩, hit, Nat.succ_ne_self _⟩, fun b hb => ?_, q⟩
  have hle : s1.heap.objs.size ≤ b := by
    have e' : b = s1.heap.objs.size + 1 ∨ b = s1.heap.objs.size := by simpa using hb
    rcases e' with q | q <;> rw [q]
    · exact Nat.le_succ _
    · exact Nat.le_refl _
  exact I1.fpOk hle (I1.hok.fresh hle)
def dEnumT (da : Den D) : Den (List D) := fun ρ m => (da ρ m).bind fun x => match x.1 with
  | .tup xs => .ok (enumL 0 xs, x.2)
  | _ => .bad
theorem yields_enumT {K : PySem.W.Frag} {mg : Str → Option Value} {z : Fz} {a : Addr} {xs : List V} {ds : List D} (h : SqT K z.F a xs) (r : Reps K mg z ds xs) : Yields K mg (Itet K a) z (enumL 0 ds) := by
  intro B F0 z' ow ρ m σ H i hz S
  have hH : SqT K H a xs := same_tup S.fh (same_tup hz.1 h)
  refine ⟨fun e => ⟨xs, hH, by rw [← r.len, e, enumL_len]; exact Nat.le_refl _⟩, fun d hd => ?_⟩
  rw [enumL_get] at hd
  cases hq : ds[i]? with
  | none => rw [hq] at hd; cases hd
  | some d0 =>
    rw [hq] at hd
    cases hd
    obtain ⟨v, hv, rv⟩ := r.get hq
    refine ⟨⟨xs, v, hH, hv⟩, fun x H' y => ?_⟩
    obtain ⟨T, x0, rfl, hT, rfl, y⟩ := y
    have e := (y xs hH).symm.trans hv
    cases e
    exact ⟨_, S.leF hT _, S.allocF hT _, rep_tup_new (S.new_none hT).1 (.cons (rep_int.mpr (by rw [Nat.zero_add])) (.cons (rv.le hz) .nil))⟩
theorem it_enumT {X : Cx} {e : Expr} {da : Den D} {RW : WX} {p pos tpos : Pos} {elts : List Expr} {kk : Nat} (hg : Gl X "enumerate") (hm : X.mg "enumerate" = none) (ha : PE X e (tX X.K X.mg RW da (pVal X.K X.mg))) (hs : starEach [e] X.env = [(false, eval e X.env)] := by rfl) (hs2 : starEach [e] X.env = (false, eval e X.env) :: starEach [] X.env := by rfl) :
    PI X (.Tuple elts kk tpos) (.Call (.Name "enumerate" p) [e] [] pos) (tX X.K X.mg RW (dEnumT da) (pIt X.K X.mg)) :=
  PI.imp (pi_enumT hg hm (pa_cons ha pa_nil hs2) hs) fun σ H Q q => by
    refine tX.imp q fun B F0 z ow ρ m S h => Rem.step pIt.pm h fun d m1 B1 z1 ow1 v H1 hB hz S1 p h1 => ?_
    cases d with
    | tup ds =>
      obtain ⟨a, xs, rfl, e1, r⟩ := (by simpa only [Rep] using (show Rep X.K X.mg z1 (.tup ds) v from p) : ∃ a xs, v = .ref a ∧ SqT X.K z1.F a xs ∧ Reps X.K X.mg z1 ds xs)
      exact ⟨a, xs, rfl, same_tup S1.fh e1, Rem.here (d := enumL 0 ds) h1 S1 (yields_enumT e1 r)⟩
    | _ => exact h1.elim
end PD
namespace PD
open PySem PySem.Spec PyProof.Rows L2
section
variable {K : PySem.W.Frag} {mg : Str → Option Value} {z : Fz}
theorem rep_etp {ds : List D} {v : V} : Rep K mg z (.etp ds) v ↔ ∃ a o xs, v = .ref a ∧ z.F a = some (.frz o (.tup xs)) ∧ o.dict = none ∧ Reps K mg z ds xs := by simp only [Rep]
theorem rep_etp_tup {ds : List D} {v : V} (h : Rep K mg z (.etp ds) v) : Rep K mg z (.tup ds) v := by
  obtain ⟨a, o, xs, rfl, h1, _, h2⟩ := rep_etp.mp h
  simp only [Rep]
  exact ⟨a, xs, rfl, .inl (.inr ⟨o, h1⟩), h2⟩
theorem Rem.newEtp {RW : WX} {B F0 : Hp} {ow : Own} {ρ : List Slot} {m : List Ob} {σ : St} {H : Hp} {Q : VK} {ds : List D} {xs : List V} {p : Addr} {ob : Obj} (h : Rem K mg RW (.ok (.etp ds, m)) B F0 z ρ σ (pVal K mg) Q) (S : StOk K mg B F0 z ow ρ m σ H) (r : Reps K mg z ds xs) (hd : ob.dict = none) (hp : H p = none) : Q (.ref p) (upd H p (.frz ob (.tup xs))) :=
  h B _ ow _ _ (Same.refl _) (S.leF hp _) (S.allocF hp _) (rep_etp.mpr ⟨p, ob, xs, rfl, upd_same, hd, r.le (Fz.le_upd (S.new_none hp).1)⟩)
end
section
variable {X : Cx} {RW : WX} {e : Expr} {pos : Pos}
def NewE (xs : List V) (H : Hp) (Q : VK) : Prop := ∀ (p : Addr) (ob : Obj), H p = none → ob.dict = none → Q (.ref p) (upd H p (.frz ob (.tup xs)))
theorem laidE {pins : List (Addr × Obj)} {s : Shared} {σ : St} {H : Hp} {xs : List V} {us : List Value} {Q : VK} {tk : Nat} (I : Inv X pins σ H s) (hz : xs.length ≤ sizeLine) (r : Vals xs us) (q : NewE xs H Q) :
    EP X pins σ Q (.ref s.heap.objs.size) { s with heap := s.heap.push { cls := .type "tuple", data := .seq us.toArray }, toks := tk } :=
  ⟨.ref s.heap.objs.size, _, I.laid (t' := tk) (fun b u e => Heap.get?_push_of_some _ e) (Nat.le_refl _) (show ObjOk X.prog X.w _ _ _ (.frz { cls := .type "tuple", data := .seq us.toArray } (.tup xs)) from ⟨Heap.get?_push_size _ rfl, hz, us, r, ⟨_, Heap.get?_push_size _ rfl, rfl, _, rfl⟩⟩), rfl, q _ _ (I.hok.fresh (Nat.le_refl _)) rfl⟩
def tTupE (t : TA) : TE := fun σ H Q => t σ H fun xs H1 => xs.length ≤ sizeLine ∧ NewE xs H1 Q
theorem pe_tupE {es : List Expr} {t : TA} {x1} (h : PA X es t) : PE X (.Tuple es x1 pos) (tTupE t) := ⟨fun pins s σ H Q I hq =>
  wpAny_Tuple_spliced (thn (h.run pos pins s σ H _ I hq) fun us s1 ⟨xs, H1, I1, r, z, q⟩ => ⟨by rw [← r.length]; exact z, laidE (tk := s1.toks) I1 z r q⟩)⟩
def dTupE (da : Den (List D)) : Den D := fun ρ m => (da ρ m).bind fun x => if x.1.length ≤ sizeLine then .ok (.etp x.1, x.2) else .bad
theorem pd_tupE {es : List Expr} {da : Den (List D)} {x1} (ha : PA X es (tX X.K X.mg RW da (pVals X.K X.mg))) : PE X (.Tuple es x1 pos) (tX X.K X.mg RW (dTupE da) (pVal X.K X.mg)) :=
  PE.imp (pe_tupE ha) fun σ H Q q => tX.imp q fun B F0 z ow ρ m S h => Rem.step pVal.pm h fun x m1 B1 z1 ow1 v H1 hB hz S1 px h1 => by
    dsimp only at h1
    split at h1
    · rename_i hl
      exact ⟨by rw [← Reps.len px]; exact hl, fun p ob hp hd => h1.newEtp S1 px hd hp⟩
    · exact h1.elim
def catE : D → D → Res D
  | .etp a, .etp b => if a.length + b.length ≤ sizeLine then .ok (.etp (a ++ b)) else .bad
  | _, _ => .bad
theorem look_etp {K : PySem.W.Frag} {mg : Str → Option Value} {z : Fz} {B B' F0 : Hp} {ow : Own} {ρ : List Slot} {m : List Ob} {σ : St} {H : Hp} {ds : List D} {v : V} (S : StOk K mg B F0 z ow ρ m σ H) (h : pLook K mg B' B z ρ σ (.etp ds) v) :
    ∃ a o xs, v = .ref a ∧ H a = some (.frz o (.tup xs)) ∧ o.dict = none ∧ Reps K mg z ds xs ∧ Rep K mg z (.etp ds) v := by
  have h := look_rep h (fun c => by cases c <;> simp [Cont.d])
  obtain ⟨a, o, xs, e, h1, h2, h3⟩ := rep_etp.mp h
  exact ⟨a, o, xs, e, S.fh _ _ h1, h2, h3, h⟩
def tyE (x : V) (H : Hp) : Prop := ∃ p o xs, x = .ref p ∧ H p = some (.frz o (.tup xs)) ∧ o.dict = none
def tBME (r : V → List V → Hp → VK → Prop) (to : TE) (t : TA) : TE := fun σ H Q => to σ H fun x H1 => tyE x H1 ∧ t σ H1 fun xs H2 => r x xs H2 Q
theorem pe_bmE {id : String} {name : Str} {r : V → List V → Hp → VK → Prop} {o : Expr} {es : List Expr} {to : TE} {t : TA} {apos cpos : Pos} (slot : PySem.Slot "tuple" name id) (hty : typeOf (.builtin id) = pure (.type "method_descriptor")) (hm : MtR X id r) (ho : PE X o to) (ha : PA X (e :: es) t)
    (hbase : attributeBase o name X.env (eval o X.env) = eval o X.env)
    (hfew : ((backTo cpos (starEach (e :: es) X.env)).all (fun x => !x.1) && (backToKw cpos (keywordEach [] X.env)).all (fun x => x.1.isSome) && decide ((e :: es).length + ([] : List Keyword).length + (if ([] : List Keyword).isEmpty then 0 else 1) < 30)) = true)
    (hline : (apos.endLine == cpos.line) = true) (hs : starEach (e :: es) X.env = (false, eval e X.env) :: starEach es X.env) (hplain : (backTo cpos (starEach es X.env)).any (·.1) = false) : PE X (.Call (.Attribute o name apos) (e :: es) [] cpos) (tBME r to t) := by
  refine ⟨fun pins s σ H Q I h => wpAny_Call_method_late hbase hfew hline rfl (thn (ho.run pins s σ H _ I h) fun v s1 ⟨x, H1, I1, r1, ty, q1⟩ => ?_)⟩
  obtain ⟨p, ob, xs, rfl, hp, hd⟩ := ty
  cases (show v = Value.ref p from r1)
  obtain ⟨hob, _, its, rv, o2, ho2, hc, _⟩ := (show ObjOk X.prog X.w H1 s1.heap p (.frz ob (.tup xs)) from I1.hok p _ hp)
  refine ⟨"tuple", id, PySem.F.plainAttrs_tuple, slot, hty, ⟨o2, ho2, hc⟩, fun a e => ?_, ?_⟩
  · cases e
    exact ⟨ob, hob, hd⟩
  · have hA := ha.run cpos pins s1 σ H1 _ I1 q1
    rw [hs] at hA ⊢
    refine Calls.callWith_builtin (by show (false || (backTo cpos (starEach es X.env)).any (·.1)) = false; rw [hplain]; rfl) (Calls.evalArgs_plain (thn hA fun us s2 ⟨vs, H2, I2, r2, q2⟩ => ?_))
    exact hm pins s2 σ H2 (.ref p) vs _ us Q I2 r1 r2 q2
def dMethE (g : D → List D → Res D) (de : Den D) (da : Den (List D)) : Den D := fun ρ m => (de ρ m).bind fun x => match x.1 with
  | .etp ds => (da ρ x.2).bind fun xs => (g (.etp ds) xs.1).bind fun d => .ok (d, xs.2)
  | _ => .bad
theorem pd_methE {id : String} {name : Str} {r : V → List V → Hp → VK → Prop} {g : D → List D → Res D} {o : Expr} {es : List Expr} {de : Den D} {da : Den (List D)} {apos cpos : Pos} (slot : PySem.Slot "tuple" name id) (hty : typeOf (.builtin id) = pure (.type "method_descriptor")) (hm : MtR X id r) (hg : MbR X r g)
    (ho : PE X o (tX X.K X.mg RW de (pLook X.K X.mg))) (ha : PA X (e :: es) (tX X.K X.mg RW da (pLooks X.K X.mg)))
    (hbase : attributeBase o name X.env (eval o X.env) = eval o X.env := by rfl)
    (hfew : ((backTo cpos (starEach (e :: es) X.env)).all (fun x => !x.1) && (backToKw cpos (keywordEach [] X.env)).all (fun x => x.1.isSome) && decide ((e :: es).length + ([] : List Keyword).length + (if ([] : List Keyword).isEmpty then 0 else 1) < 30)) = true := by rfl)
    (hline : (apos.endLine == cpos.line) = true := by rfl) (hs : starEach (e :: es) X.env = (false, eval e X.env) :: starEach es X.env := by rfl) (hplain : (backTo cpos (starEach es X.env)).any (·.1) = false := by rfl) :
    PE X (.Call (.Attribute o name apos) (e :: es) [] cpos) (tX X.K X.mg RW (dMethE g de da) (pVal X.K X.mg)) :=
  PE.imp (pe_bmE slot hty hm ho ha hbase hfew hline hs hplain) fun σ H Q q => tX.imp q fun B F0 z ow ρ m S h => Rem.step pVal.pm h fun d m1 B1 z1 ow1 v H1 hB hz S1 p h1 => by
    cases d with
    | etp ds =>
      obtain ⟨a, ob, xs, rfl, e1, hd, _⟩ := look_etp S1 p
      refine ⟨⟨a, ob, xs, rfl, e1, hd⟩, B1, F0, z1, ow1, ρ, m1, S1, Rem.step pVal.pm h1 fun ds2 m2 B2 z2 ow2 vs H2 hB2 hz2 S2 py h2 => ?_⟩
      exact hg S2 (look_mono hB2 hz2 p) py h2
    | _ => exact h1.elim
def rSrcE (K : PySem.W.Frag) (x : V) (xs : List V) (H : Hp) (k : PyData → List PyData → Prop) : Prop := ∃ (a : Addr) (y : V) (d : PyData) (ds : List PyData), x = V.ref a ∧ xs = [y] ∧ Dp K H (V.ref a) (.tuple ds) ∧ Dp K H y d ∧ SeqAt.shaped (.tuple ds) = true ∧ SeqAt.shaped d = true ∧ k d ds
theorem src_reads {pins : List (Addr × Obj)} {s : Shared} {σ : St} {H : Hp} {a : Addr} {y : V} {d : PyData} {ds : List PyData} {uy : Value} (hu : X.A.units + 65 < cLine) (I : Inv X pins σ H s) (ry : RelV y uy) (hl : Dp X.K H (V.ref a) (.tuple ds)) (hy : Dp X.K H y d) (sl : SeqAt.shaped (.tuple ds) = true) (sd : SeqAt.shaped d = true) :
    ∃ (its : List Value) (dd : Option Addr) (n : Nat) (sls : Array (Option Value)), s.heap.get? a = some { cls := .type "tuple", dict := dd, data := .seq its.toArray n, slots := sls } ∧ its.map (SeqAt.readOf s.heap) = ds ∧ (∀ u, u ∈ its.toArray → SeqAt.EqAt X.A.in1 s u uy (PyData.eqv (SeqAt.readOf s.heap u) d)) := by
  obtain ⟨bs, r1⟩ := Dp.reads I d y uy hy ry
  have hxs : PyData.canLayAll0 ds = true := SeqAt.canLay_of_shaped (shaped_lt.symm.trans sl)
  cases hl with
  | tup hs ha =>
    obtain ⟨its, rv, ⟨⟨cls, dd, data, sls⟩, ho, hc, n, hdt⟩, hlen⟩ := I.tuple hs
    simp only at hc hdt
    subst hc; subst hdt
    obtain ⟨as, h4⟩ := Dp.readsAll I ds _ its ha rv
    exact ⟨its, dd, n, sls, ho, SeqAt.readsAll_map ds its as hxs h4, SeqAt.items_eqAt (vs := its.toArray) (show ReadsAll s.heap its.toArray.toList ds as from h4) r1 hxs (SeqAt.canLay_of_shaped sd) (room_in_shaped sd hu)⟩
theorem mt_tcount (hu : X.A.units + 65 < cLine) : MtR X "tuple.count" (fun x xs H Q => rSrcE X.K x xs H fun d ds => Q (.int ((ds.countP fun z => PyData.eqv z d : Nat) : Int)) H) := by
  intro pins s σ H x xs v us Q I rx rxs h
  obtain ⟨a, y, d, ds, rfl, rfl, hl, hy, sl, sd, q⟩ := h
  cases (show v = Value.ref a from rx)
  obtain ⟨uy, rfl, ry⟩ := rxs.one
  obtain ⟨its, dd, n, sls, ho, hmap, heq⟩ := src_reads hu I ry hl hy sl sd
  refine call_meets PySem.F.slot_tuple_count ⟨_, ho, rfl⟩ PySem.F.entry_tuple_count (PySem.F.args_tuple_count_2 _ _) (SeqAt.tuple_countAt a its.toArray n dd sls uy fun u => PyData.eqv (SeqAt.readOf s.heap u) d) ⟨ho, heq, ⟨.int _, H, I.tok _, ⟨s.toks, ?_⟩, q⟩⟩
  rw [← hmap, List.countP_map]
  rfl
def countD : D → List D → Res D
  | .etp xs, [d] => if (d.okp && (D.etp xs).okp) = true then .ok (.int (((D.pys xs).countP fun z => PyData.eqv z d.py : Nat) : Int)) else .bad
  | _, _ => .bad
theorem etp_py (xs : List D) : (D.etp xs).py = .tuple (D.pys xs) := by simp only [D.py]
theorem count_r : MbR X (fun x xs H Q => rSrcE X.K x xs H fun d ds => Q (.int ((ds.countP fun z => PyData.eqv z d : Nat) : Int)) H) countD := by
  intro RW B F0 z ow ρ m σ H x d vs ds Q S px ps h
  unfold countD at h
  split at h
  · rename_i xs d
    obtain ⟨v, rfl, py⟩ := looks_one ps
    split at h
    · rename_i hz
      rw [Bool.and_eq_true] at hz
      obtain ⟨a, ob, ys, rfl, e, _⟩ := look_etp S px
      have l1 := look_dp S px hz.2
      have l2 := hz.2
      unfold D.okp at l2
      rw [etp_py] at l1 l2
      exact ⟨a, v, d.py, D.pys xs, rfl, rfl, l1, look_dp S py hz.1, l2, hz.1, h.here S (rep_int.mpr rfl)⟩
    · exact h.elim
  · exact h.elim
end
end PD
namespace PD
open PySem PySem.Spec PyProof.Rows L2
def compL2 (tg : Tg) (test : Den Bool) (di1 : Den (List D)) (vs1 : List Nat) (tg1 : Tg) (test1 : Den Bool) (elt : Den D) (ρ : List Slot) : List D → List Ob → Option (List D × List Ob)
  | [], m => some ([], m)
  | d :: ds, m => match tg d ρ with
    | none => none
    | some ρ1 => match test ρ1 m with
      | .ok (false, m1) => compL2 tg test di1 vs1 tg1 test1 elt ρ ds m1
      | .ok (true, m1) => (match di1 ρ1 m1 with
        | .ok (es, m2) => (match noOwn ρ1 vs1, compL tg1 test1 elt (wipeS ρ1 vs1) es m2 with
          | true, some (xs, m3) => (match compL2 tg test di1 vs1 tg1 test1 elt ρ ds m3 with
            | some (ys, m4) => some (xs ++ ys, m4)
            | none => none)
          | _, _ => none)
        | _ => none)
      | _ => none
def dComp2 (di : Den (List D)) (vs : List Nat) (tg : Tg) (test : Den Bool) (di1 : Den (List D)) (vs1 : List Nat) (tg1 : Tg) (test1 : Den Bool) (elt : Den D) : Den Cont := fun ρ m => (di ρ m).bind fun x => match noOwn ρ vs, compL2 tg test di1 vs1 tg1 test1 elt (wipeS ρ vs) x.1 x.2 with
  | true, some (xs, m') => if xs.length ≤ sizeLine then .ok (.lst xs, m') else .bad
  | _, _ => .bad
section
variable {K : PySem.W.Frag} {mg : Str → Option Value} {RW : WX}
theorem comp2_step {vs vs1 : List Nat} {di di1 : Den (List D)} {f f1 : Tg} {test test1 : Den Bool} {elt : Den D} (hf : TgOk vs f) (hf1 : TgOk vs1 f1) (σ : St) (H : Hp) (Q : VK) (q : tX K mg RW (dComp2 di vs f test di1 vs1 f1 test1 elt) (pNew K mg) σ H Q) :
    tLc2 (tX K mg RW di (pIt K mg)) (tG K mg vs f) (tX K mg noRW test pTest) (tX K mg noRW di1 (pIt K mg)) (tG K mg vs1 f1) (tX K mg noRW test1 pTest) (tX K mg noRW elt (pVal K mg)) vs vs1 σ H Q := by
  obtain ⟨B, F0, z, ow, ρ, m, S, h⟩ := q
  refine ⟨B, F0, z, ow, ρ, m, S, Rem.step pNew.pm h fun ds m1 B1 z1 ow1 J H1 hB hz S1 yl h1 => ?_⟩
  intro Da hD
  dsimp only at h1
  cases hn : noOwn ρ vs with
  | false => rw [hn] at h1; exact h1.elim
  | true =>
    rw [hn] at h1
    cases hc : compL2 f test di1 vs1 f1 test1 elt (wipeS ρ vs) ds m1 with
    | none => rw [hc] at h1; exact h1.elim
    | some r =>
      obtain ⟨xs, m'⟩ := r
      rw [hc] at h1
      dsimp only at h1
      by_cases hsz : xs.length ≤ sizeLine
      · rw [if_pos hsz] at h1
        obtain ⟨nz, nB, n0, nw⟩ := S1.new_none hD
        have S2 := (S1.keep hD (.lst []))
        refine ⟨fun i k H => k = ds.length - i ∧ i ≤ ds.length ∧ ∃ z2 ow2 m2 acc ys rest, z1.le z2 ∧ StOk K mg (upd B1 Da (.lst acc)) F0 z2 ow2 ρ m2 σ H ∧ Reps K mg z2 ys acc ∧ compL2 f test di1 vs1 f1 test1 elt (wipeS ρ vs) (ds.drop i) m2 = some (rest, m') ∧ ys ++ rest = xs,
          ⟨ds.length, by simp, Nat.zero_le _, z1, ow1, m1, [], [], xs, Fz.le.refl _, S2, .nil, by simpa using hc, rfl⟩, ?_⟩
        rintro i k H ⟨rfl, hi, z2, ow2, m2, acc, ys, rest, hz2, S2, ry, hr, hx⟩
        obtain ⟨y1, y2⟩ := yl _ F0 z2 ow2 ρ m2 σ H i hz2 S2
        by_cases hlt : i < ds.length
        · have hd : ds[i]? = some ds[i] := List.getElem?_eq_getElem hlt
          obtain ⟨go, y3⟩ := y2 _ hd
          rw [List.drop_eq_getElem_cons hlt] at hr
          refine .inr ⟨go, fun H' => i + 1 ≤ ds.length ∧ ∃ z2 ow2 m2 acc ys rest, z1.le z2 ∧ StOk K mg (upd B1 Da (.lst acc)) F0 z2 ow2 ρ m2 σ H' ∧ Reps K mg z2 ys acc ∧ compL2 f test di1 vs1 f1 test1 elt (wipeS ρ vs) (ds.drop (i + 1)) m2 = some (rest, m') ∧ ys ++ rest = xs,
            fun H' h' => ⟨ds.length - (i + 1), by omega, rfl, h'⟩, fun x H' hy => ?_⟩
          obtain ⟨z3, hz3, S3, rx⟩ := y3 x H' hy
          simp only [compL2] at hr
          cases ht : f ds[i] (wipeS ρ vs) with
          | none => rw [ht] at hr; cases hr
          | some ρ3 =>
            rw [ht] at hr
            dsimp only at hr
            refine ⟨_, F0, z3, ow2, wipeS ρ vs, m2, ds[i], S3.wiped vs, rx, ρ3, ht, fun ow4 σ4 S4 hw => ⟨by rw [hw, wipe_wipe], ?_⟩⟩
            have hwf : wipeS ρ3 vs = wipeS ρ vs := by rw [hf _ _ _ ht, wipeS_wipeS]
            have hws : wipe σ4 vs = wipe σ vs := by rw [hw, wipe_wipe]
            have back : ∀ {acc' : List V} {z5 : Fz} {ow5 : Own} {m5 : List Ob} {H5 : Hp}, z3.le z5 → StOk K mg (upd B1 Da (.lst acc')) F0 z5 ow5 ρ3 m5 σ4 H5 → StOk K mg (upd B1 Da (.lst acc')) F0 z5 ow5 ρ m5 σ H5 := fun {acc' z5 ow5 m5 H5} h5 S5 => by
              have q := S5.wiped vs
              rw [hwf, hws] at q
              exact S3.unwipe q h5 hn
            refine ⟨_, F0, z3, ow4, ρ3, m2, S4, ?_⟩
            cases htt : test ρ3 m2 with
            | err x m' => rw [htt] at hr; cases hr
            | bad => rw [htt] at hr; cases hr
            | ok r =>
              obtain ⟨bv, m3⟩ := r
              rw [htt] at hr
              intro B5 z5 ow5 v H5 hB5 hz5 S5 p5
              cases (show v = bv from p5)
              cases bv with
              | false =>
                dsimp only at hr
                exact iteF ⟨hlt, z5, ow5, m3, acc, ys, rest, hz2.trans (hz3.trans hz5), back hz5 (S5.weak hB5), ry.le (hz3.trans hz5), hr, hx⟩
              | true =>
                dsimp only at hr
                refine iteT ⟨B5, F0, z5, ow5, ρ3, m3, S5, ?_⟩
                cases hel : di1 ρ3 m3 with
                | err x m' => rw [hel] at hr; cases hr
                | bad => rw [hel] at hr; cases hr
                | ok r =>
                  obtain ⟨es, m4⟩ := r
                  rw [hel] at hr
                  dsimp only at hr
                  cases hn1 : noOwn ρ3 vs1 with
                  | false => rw [hn1] at hr; cases hr
                  | true =>
                    rw [hn1] at hr
                    cases hci : compL f1 test1 elt (wipeS ρ3 vs1) es m4 with
                    | none => rw [hci] at hr; cases hr
                    | some r =>
                      obtain ⟨xs1, m5⟩ := r
                      rw [hci] at hr
                      dsimp only at hr
                      cases hcr : compL2 f test di1 vs1 f1 test1 elt (wipeS ρ vs) (ds.drop (i + 1)) m5 with
                      | none => rw [hcr] at hr; cases hr
                      | some r =>
                        obtain ⟨rest', m6⟩ := r
                        rw [hcr] at hr
                        cases hr
                        intro B6 z6 ow6 J1 H6 hB6 hz6 S6 yl1
                        have hle36 : z3.le z6 := hz5.trans hz6
                        refine ⟨fun j k H => k = es.length - j ∧ j ≤ es.length ∧ ∃ z7 ow7 m7 acc ys irest, z6.le z7 ∧ StOk K mg (upd B1 Da (.lst acc)) F0 z7 ow7 ρ3 m7 σ4 H ∧ Reps K mg z7 ys acc ∧ compL f1 test1 elt (wipeS ρ3 vs1) (es.drop j) m7 = some (irest, m5) ∧ ys ++ (irest ++ rest') = xs,
                          ⟨es.length, by simp, Nat.zero_le _, z6, ow6, m4, acc, ys, xs1, Fz.le.refl _, S6.weak (hB5.trans hB6), ry.le (hz3.trans hle36), by simpa using hci, hx⟩, ?_⟩
                        rintro j k H ⟨rfl, hj, z7, ow7, m7, acc, ys, irest, hz7, S7, ry7, hr7, hx7⟩
                        obtain ⟨w1, w2⟩ := yl1 _ F0 z7 ow7 ρ3 m7 σ4 H j hz7 S7
                        by_cases hlt1 : j < es.length
                        · have hd1 : es[j]? = some es[j] := List.getElem?_eq_getElem hlt1
                          obtain ⟨go1, w3⟩ := w2 _ hd1
                          rw [List.drop_eq_getElem_cons hlt1] at hr7
                          refine .inr ⟨go1, fun H' => j + 1 ≤ es.length ∧ ∃ z7 ow7 m7 acc ys irest, z6.le z7 ∧ StOk K mg (upd B1 Da (.lst acc)) F0 z7 ow7 ρ3 m7 σ4 H' ∧ Reps K mg z7 ys acc ∧ compL f1 test1 elt (wipeS ρ3 vs1) (es.drop (j + 1)) m7 = some (irest, m5) ∧ ys ++ (irest ++ rest') = xs,
                            fun H' h' => ⟨es.length - (j + 1), by omega, rfl, h'⟩, fun x1 H' hy1 => ?_⟩
                          obtain ⟨z8, hz8, S8, rx1⟩ := w3 x1 H' hy1
                          simp only [compL] at hr7
                          cases ht1 : f1 es[j] (wipeS ρ3 vs1) with
                          | none => rw [ht1] at hr7; cases hr7
                          | some ρ9 =>
                            rw [ht1] at hr7
                            dsimp only at hr7
                            refine ⟨_, F0, z8, ow7, wipeS ρ3 vs1, m7, es[j], S8.wiped vs1, rx1, ρ9, ht1, fun ow9 σ9 S9 hw9 => ⟨by rw [hw9, wipe_wipe], ?_⟩⟩
                            have hwf1 : wipeS ρ9 vs1 = wipeS ρ3 vs1 := by rw [hf1 _ _ _ ht1, wipeS_wipeS]
                            have hws1 : wipe σ9 vs1 = wipe σ4 vs1 := by rw [hw9, wipe_wipe]
                            have back1 : ∀ {acc' : List V} {z5 : Fz} {ow5 : Own} {m5 : List Ob} {H5 : Hp}, z8.le z5 → StOk K mg (upd B1 Da (.lst acc')) F0 z5 ow5 ρ9 m5 σ9 H5 → StOk K mg (upd B1 Da (.lst acc')) F0 z5 ow5 ρ3 m5 σ4 H5 := fun {acc' z5 ow5 m5 H5} h5 S5 => by
                              have q := S5.wiped vs1
                              rw [hwf1, hws1] at q
                              exact S8.unwipe q h5 hn1
                            refine ⟨_, F0, z8, ow9, ρ9, m7, S9, ?_⟩
                            cases htt1 : test1 ρ9 m7 with
                            | err x m' => rw [htt1] at hr7; cases hr7
                            | bad => rw [htt1] at hr7; cases hr7
                            | ok r =>
                              obtain ⟨bv, m8⟩ := r
                              rw [htt1] at hr7
                              intro B9 z9 ow10 v9 H9 hB9 hz9 S10 p9
                              cases (show v9 = bv from p9)
                              cases bv with
                              | false =>
                                dsimp only at hr7
                                exact iteF ⟨hlt1, z9, ow10, m8, acc, ys, irest, hz7.trans (hz8.trans hz9), back1 hz9 (S10.weak hB9), ry7.le (hz8.trans hz9), hr7, hx7⟩
                              | true =>
                                dsimp only at hr7
                                refine iteT ⟨B9, F0, z9, ow10, ρ9, m8, S10, ?_⟩
                                cases hel1 : elt ρ9 m8 with
                                | err x m' => rw [hel1] at hr7; cases hr7
                                | bad => rw [hel1] at hr7; cases hr7
                                | ok r =>
                                  obtain ⟨y, m9⟩ := r
                                  rw [hel1] at hr7
                                  dsimp only at hr7
                                  cases hcr1 : compL f1 test1 elt (wipeS ρ3 vs1) (es.drop (j + 1)) m9 with
                                  | none => rw [hcr1] at hr7; cases hr7
                                  | some r =>
                                    obtain ⟨ir2, m10⟩ := r
                                    rw [hcr1] at hr7
                                    cases hr7
                                    intro B11 z11 ow11 w H11 hB11 hz11 S11 pw
                                    have hD6 : H11 Da = some (.lst acc) := S11.bh _ _ (hB11 _ _ (hB9 _ _ upd_same))
                                    refine ⟨acc, hD6, ?_, hlt1, z11, ow11, m9, acc ++ [w], ys ++ [y], ir2, hz7.trans (hz8.trans (hz9.trans hz11)), ?_, ?_, hcr1, by rw [← hx7, List.append_assoc]; rfl⟩
                                    · rw [← ry7.len]
                                      have : (ys ++ (y :: ir2 ++ rest')).length ≤ sizeLine := by rw [hx7]; exact hsz
                                      rw [List.length_append, List.length_append, List.length_cons] at this
                                      omega
                                    · exact back1 (hz9.trans hz11) ((S11.weak (hB9.trans hB11)).rekeep n0)
                                    · exact (ry7.le (hz8.trans (hz9.trans hz11))).append (.cons pw .nil)
                        · have e : j = es.length := by omega
                          subst e
                          rw [List.drop_length] at hr7
                          cases hr7
                          exact .inl ⟨w1 rfl, hlt, z7, ow7, m5, acc, ys, rest', hz2.trans (hz3.trans (hle36.trans hz7)), back (hle36.trans hz7) S7, ry7, hcr, hx7⟩
        · have e : i = ds.length := by omega
          subst e
          rw [List.drop_length] at hr
          cases hr
          rw [List.append_nil] at hx
          subst hx
          refine .inl ⟨y1 rfl, ?_⟩
          refine h1 _ z2 ow2 _ H (same_upd nB) hz2 S2 ⟨Da, _, rfl, nB, upd_same, ?_, acc, rfl, ry⟩
          cases q : z2.F Da with
          | none => rfl
          | some u =>
            rcases S2.new Da (by rw [q]; simp) with r | r
            · exact absurd n0 r
            · rw [upd_same] at r; cases r
      · rw [if_neg hsz] at h1; exact h1.elim
end
section
variable {X : Cx} {RW : WX} {e c : Expr} {pos : Pos}
theorem pd_fn {x : Str} {k n : Nat} {f : FDen} (F : Fd X.prog X.w X.K X.mg X.base x k n f) (hg : Gl X x) (hdb : (x == ("__debug__" : Str)) = false := by decide) : PE X (.Name x pos) (tX X.K X.mg RW (dC (.fn x)) (pVal X.K X.mg)) := by
  obtain ⟨a, _, _, _, hm, _⟩ := F.ex
  exact pd_c (pe_glob (v := .ref a) hg hm rfl hdb) fun z => by simp only [Rep]; exact ⟨a, rfl, hm⟩
def tCallX (X : Cx) (E : St → XK) (tc : TE) (t : TA) : TE := fun σ H Q => tc σ H fun x H1 => ∃ (f : Addr) (k : Nat) (fd : FuncData) (ps : List Str) (sp : Sp), x = .ref f ∧ FnOk X.prog X.w X.K X.mg X.base (L2.CX X.prog X.w) k f fd ps sp ∧ Room k X.A ∧ PySem.W.keepIn X.K (.ref f) = true ∧ Binds X.K fd ps [] ∧ t σ H1 fun vs H2 => sp vs H2 Q (E σ)
theorem pe_callX0 {E : St → XK} {tc : TE} (hx : ∀ σ, PassesAt (L2.CX X.prog X.w) X σ (E σ)) (hc : PE X c tc)
    (hev : eval (.Call c [] [] pos) X.env = (do callWith pos (← eval c X.env) [] (backTo pos (starEach [] X.env)) (backToKw pos (keywordEach [] X.env)))) : PE X (.Call c [] [] pos) (tCallX X E tc tNil) := ⟨fun pins s σ H Q I h => by
  rw [hev]
  refine wpAny_bind (thn (hc.run pins s σ H _ I h) fun u s1 ⟨x, H1, I1, r1, f, k, fd, ps, sp, ex, F, hr, hk, hb, q⟩ => ?_)
  subst ex
  cases (show u = Value.ref f from r1)
  exact PySem.W.callWith_K0 (first := []) I1.kIn hk (run_fnS (us := []) F hr hb (hx σ) I1 .nil q)⟩
inductive Fds (P : Program) (w : World) (K : PySem.W.Frag) (mg : Str → Option Value) (base : Heap) (k n : Nat) : List (Str × FDen) → Prop
  | nil : Fds P w K mg base k n []
  | cons {x : Str} {f : FDen} {r : List (Str × FDen)} {j : Nat} (h : Fd P w K mg base x j n f) (hj : j ≤ k) (t : Fds P w K mg base k n r) : Fds P w K mg base k n ((x, f) :: r)
theorem Fds.get {P : Program} {w : World} {K : PySem.W.Frag} {mg : Str → Option Value} {base : Heap} {k n : Nat} {x : Str} {f : FDen} : ∀ {l : List (Str × FDen)}, Fds P w K mg base k n l → l.lookup x = some f → ∃ j, j ≤ k ∧ Fd P w K mg base x j n f
  | _, .nil, h => by cases h
  | _, .cons (x := y) (f := g) h hj t, e => by
    rw [List.lookup_cons] at e
    split at e
    · rename_i hb
      cases e
      cases eq_of_beq hb
      exact ⟨_, hj, h⟩
    · exact t.get e
def dCallFn (n : Nat) (l : List (Str × FDen)) (dc : Den D) (da : Den (List D)) : Den D := fun ρ m => (dc ρ m).bind fun x => match x.1 with
  | .fn y => (match l.lookup y with
    | some f => (da ρ x.2).bind fun xs => if xs.1.length = n then f xs.1 xs.2 else .bad
    | none => .bad)
  | _ => .bad
theorem callFn_step {k n : Nat} {l : List (Str × FDen)} {dc : Den D} {da : Den (List D)} (L : Fds X.prog X.w X.K X.mg X.base k n l) (hr : Room k X.A) (σ : St) (H : Hp) (Q : VK) (q : tX X.K X.mg RW (dCallFn n l dc da) (pVal X.K X.mg) σ H Q) :
    tCallX X (WE RW) (tX X.K X.mg RW dc (pVal X.K X.mg)) (tX X.K X.mg RW da (pVals X.K X.mg)) σ H Q := by
  refine tX.imp q fun B F0 z ow ρ m S h => Rem.step pVal.pm h fun d m1 B1 z1 ow1 v H1 hB hz S1 pd h1 => ?_
  cases d with
  | fn y =>
    dsimp only at h1
    cases hl : l.lookup y with
    | none => rw [hl] at h1; exact h1.elim
    | some f =>
      rw [hl] at h1
      obtain ⟨j, hj, F⟩ := L.get hl
      obtain ⟨a, fd, ps, F, hm, hk, hb⟩ := F.ex
      have pd : Rep X.K X.mg z1 (.fn y) v := pd
      simp only [Rep] at pd
      obtain ⟨a', rfl, hm'⟩ := pd
      rw [hm] at hm'
      cases hm'
      refine ⟨a, j, fd, ps, _, rfl, F, hr.mono hj, hk, hb, B1, F0, z1, ow1, ρ, m1, S1, Rem.step pVal.pm h1 fun xs m2 B2 z2 ow2 vs H2 hB2 hz2 S2 pv h2 => ?_⟩
      dsimp only at h2
      split at h2
      · rename_i hn
        refine spF_of S2 pv hn ?_
        cases hf : f xs m2 with
        | bad => rw [hf] at h2; exact h2
        | ok r =>
          obtain ⟨d, m3⟩ := r
          rw [hf] at h2
          exact fun z3 ow3 w H3 hz3 S3 rv => h2 B2 z3 ow3 w H3 (Same.refl _) hz3 S3 rv
        | err x m3 =>
          rw [hf] at h2
          exact fun z3 ow3 cv dd H3 hz3 S3 ex => h2 z3 ow3 cv dd H3 hz3 S3 ex
      · exact h2.elim
  | _ => exact h1.elim
theorem pd_callFn0 {k : Nat} {l : List (Str × FDen)} {dc : Den D} (L : Fds X.prog X.w X.K X.mg X.base k 0 l) (hr : Room k X.A) (tk : Takes X RW) (hc : PE X c (tX X.K X.mg RW dc (pVal X.K X.mg)))
    (hev : eval (.Call c [] [] pos) X.env = (do callWith pos (← eval c X.env) [] (backTo pos (starEach [] X.env)) (backToKw pos (keywordEach [] X.env))) := by rfl) :
    PE X (.Call c [] [] pos) (tX X.K X.mg RW (dCallFn 0 l dc dNil) (pVal X.K X.mg)) := PE.imp (pe_callX0 (fun σ => passAt tk σ) hc hev) fun σ H Q q => by
  have h := callFn_step L hr σ H Q q
  obtain ⟨B, F0, z, ow, ρ, m, S, h⟩ := h
  refine ⟨B, F0, z, ow, ρ, m, S, ?_⟩
  cases hd : dc ρ m with
  | bad => rw [hd] at h; exact h
  | err x m' => rw [hd] at h; exact h
  | ok r =>
    obtain ⟨d, m'⟩ := r
    rw [hd] at h
    intro B1 z1 ow1 v H1 hB hz S1 pv
    obtain ⟨f, k, fd, ps, sp, ex, F, hr, hk, hb, B2, F2, z2, ow2, ρ2, m2, S2, q2⟩ := h B1 z1 ow1 v H1 hB hz S1 pv
    exact ⟨f, k, fd, ps, sp, ex, F, hr, hk, hb, q2 B2 z2 ow2 [] H1 (Same.refl _) (Fz.le.refl _) S2 .nil⟩
end
end PD
namespace PD
open PySem PySem.Spec PyProof.Rows L2
end PD
namespace PD
open PySem PySem.Spec PyProof.Rows L2
theorem wipe_sub {vs ws : List Nat} {σ σ' : St} (h : ∀ i ∈ vs, i ∈ ws) (e : wipe σ' vs = wipe σ vs) : wipe σ' ws = wipe σ ws := by
  have hl : σ'.length = σ.length := by rw [← wipe_length σ' vs, e, wipe_length]
  apply List.ext_getElem?
  intro i
  by_cases hi : i ∈ ws
  · by_cases hi2 : i < σ.length
    · rw [wipe_in hi (by rw [hl]; exact hi2), wipe_in hi hi2]
    · rw [List.getElem?_eq_none (by rw [wipe_length, hl]; omega), List.getElem?_eq_none (by rw [wipe_length]; omega)]
  · have hv : i ∉ vs := fun z => hi (h i z)
    rw [wipe_get hi, wipe_get hi, ← wipe_get (vs := vs) hv, e, wipe_get hv]
theorem wipeS_sub {vs ws : List Nat} {ρ ρ' : List Slot} (h : ∀ i ∈ vs, i ∈ ws) (e : wipeS ρ' vs = wipeS ρ vs) : wipeS ρ' ws = wipeS ρ ws := by
  have hl : ρ'.length = ρ.length := by rw [← wipeS_len ρ' vs, e, wipeS_len]
  apply List.ext_getElem?
  intro i
  by_cases hi : i ∈ ws
  · by_cases hi2 : i < ρ.length
    · rw [wipeS_in hi (by rw [hl]; exact hi2), wipeS_in hi hi2]
    · rw [List.getElem?_eq_none (by rw [wipeS_len, hl]; omega), List.getElem?_eq_none (by rw [wipeS_len]; omega)]
  · have hv : i ∉ vs := fun z => hi (h i z)
    rw [wipeS_get hi, wipeS_get hi, ← wipeS_get (vs := vs) hv, e, wipeS_get hv]
theorem tgok_sub {vs ws : List Nat} {f : Tg} (h : ∀ i ∈ vs, i ∈ ws) (t : TgOk vs f) : TgOk ws f := fun d ρ ρ' e => wipeS_sub h (t d ρ ρ' e)
section
variable {X : Cx} {RW : WX}
theorem tg_sub {e : Expr} {us vs : List Nat} {f : Tg} (h : ∀ i ∈ us, i ∈ vs) (g : PG X e (tG X.K X.mg us f)) : PG X e (tG X.K X.mg vs f) :=
  PG.imp g fun v σ H Q ⟨B, F0, z, ow, ρ, m, d, S, r, ρ', e, k⟩ => ⟨B, F0, z, ow, ρ, m, d, S, r, ρ', e, fun ow' σ' S' hw => k ow' σ' S' (wipe_sub h hw)⟩
variable {elt tg iter tg1 iter1 : Expr} {ifs ifs1 : List Expr} {scope : Scope} {own : List (Str × Nat)} {pos : Pos} {di di1 : Den (List D)} {f f1 : Tg} {test test1 : Den Bool} {de : Den D}
theorem sd_setC2 {vs vs1 : List Nat} {i : Nat} {y : Str} {py spos : Pos} (hc : X.calm = true) (hN : X.N.Nodup) (hy : X.N[i]? = some y) (hyl : X.env.scope.names.lookup y = some .local)
    (hsw : swapsWith (.ListComp elt [⟨tg, iter, ifs, 0⟩, ⟨tg1, iter1, ifs1, 0⟩] scope pos) (some (.Name y py)) spos.line X.env = pure true) (hi : PI X tg iter (tX X.K X.mg RW di (pIt X.K X.mg))) (hv : own.map (·.2) = vs) (ok : BlkOk X.N X.env.scope scope own) (hv1 : ∀ i ∈ vs1, i ∈ vs) (hf : TgOk vs f) (hf1 : TgOk vs1 f1)
    (hg : ∀ (s : Shared) (H : Hp) (C : Addr) (cl : List (Str × Addr)) (fp : List Addr), PG (X.blk s H scope (compEnvC scope cl C X.env) fp) tg (tG X.K X.mg vs f))
    (ht : ∀ (s : Shared) (H : Hp) (C : Addr) (cl : List (Str × Addr)) (fp : List Addr), PTs (X.blk s H scope (compEnvC scope cl C X.env) fp) ifs (tX X.K X.mg noRW test pTest))
    (hi1 : ∀ (s : Shared) (H : Hp) (C : Addr) (cl : List (Str × Addr)) (fp : List Addr), PI (X.blk s H scope (compEnvC scope cl C X.env) fp) tg1 iter1 (tX X.K X.mg noRW di1 (pIt X.K X.mg)))
    (hg1 : ∀ (s : Shared) (H : Hp) (C : Addr) (cl : List (Str × Addr)) (fp : List Addr), PG (X.blk s H scope (compEnvC scope cl C X.env) fp) tg1 (tG X.K X.mg vs1 f1))
    (ht1 : ∀ (s : Shared) (H : Hp) (C : Addr) (cl : List (Str × Addr)) (fp : List Addr), PTs (X.blk s H scope (compEnvC scope cl C X.env) fp) ifs1 (tX X.K X.mg noRW test1 pTest))
    (he : ∀ (s : Shared) (H : Hp) (C : Addr) (cl : List (Str × Addr)) (fp : List Addr), PE (X.blk s H scope (compEnvC scope cl C X.env) fp) elt (tX X.K X.mg noRW de (pVal X.K X.mg))) (hs : ∀ x, foldedSetIterable iter X.env x = pure x := by intro _; rfl) (hs1 : ∀ env x, foldedSetIterable iter1 env x = pure x := by intro _ _; rfl) :
    PS X (.Assign [.Name y py] (.ListComp elt [⟨tg, iter, ifs, 0⟩, ⟨tg1, iter1, ifs1, 0⟩] scope pos) spos) (tB X.K X.mg RW (setN i (dComp2 di vs f test di1 vs1 f1 test1 de))) := by
  subst hv
  exact PS.imp (ps_setLc2 hc hN hy hyl hsw hi ok hv1 hg ht hi1 hg1 ht1 he hs hs1) fun D σ H q => comp2_step hf hf1 σ H _ (setN_step D σ H q)
end
end PD
namespace PD
open PySem PySem.Spec PyProof.Rows L2
def den_is_integer0 : FDen := fnD 1 0 (retS (dAnd (dUn (isiD .int) (dL 0)) (dNot (dUn (isiD .bool) (dL 0)))))
def den_is_from0 : FDen := fnD 3 0 (retS (dAnd (dCall den_is_integer0 (dCons (dV 0) dNil)) (dChain leD leD (dL 1) (dL 0) (dL 2))))
def den_Row_init0 : FDen := fnD 2 1 (thenS (ifS (dOrT (dNotT (dT (dUn (isiD .tup) (dL 1)))) (dNotT (dT (dChain leD leD (dC (.int 1)) (dCB (oneArg lenD) (dCons (dL 1) dNil)) (dC (.int 12)))))) (raiseS "BadGroups") skipS)
    (thenS (forS (dIt asTup (dV 1)) (tgN 2) (ifS (dNotT (dT (dCall den_is_from0 (dCons (dV 2) (dCons (dC (.int 0)) (dCons (dC (.int 11)) dNil)))))) (raiseS "BadGroups") skipS))
    (fldS "Row" 0 "held" (dV 1))))
theorem loop_er {tg : Tg} {body : SDen} {d : D} {ds : List D} {ρ ρ1 ρ' : List Slot} {m m' : List Ob} {x : Exn} (h1 : tg d ρ = some ρ1) (h2 : body ρ1 m = .er x ρ' m') : loopS tg body (d :: ds) ρ m = .er x ρ' m' := by
  rw [loopS, h1]
  dsimp only
  rw [h2]
def isIntD : D → Bool
  | .int _ => true
  | _ => false
theorem integer_ok (d : D) (m : List Ob) (h : d.ty.isSome = true) : den_is_integer0 [d] m = .ok (.bl (isIntD d), m) := by
  cases d <;> first | rfl | cases h | (rename_i t ks vs; cases t <;> first | rfl | cases h)
def fromD (lo hi : Int) : D → Bool
  | .int i => decide (lo ≤ i) && decide (i ≤ hi)
  | _ => false
theorem from_ok (d : D) (lo hi : Int) (m : List Ob) (h : d.ty.isSome = true) : den_is_from0 [d, .int lo, .int hi] m = .ok (.bl (fromD lo hi d), m) := by
  have h1 := integer_ok d m h
  refine fnD_rt rfl ?_
  cases d with
  | int i =>
    show bindS ((den_is_integer0 [.int i] m).bind fun x => match x.1 with
      | .bl true => dChain leD leD (dL 1) (dL 0) (dL 2) (pad [.int i, .int lo, .int hi] 0) x.2
      | .bl false => .ok (.bl false, x.2)
      | _ => .bad) _ _ = _
    rw [h1]
    show bindS (match D.bl (decide (lo ≤ i)) with
      | .bl true => Res.ok (D.bl (decide (i ≤ hi)), m)
      | .bl false => .ok (.bl false, m)
      | _ => .bad) _ _ = _
    cases hl : decide (lo ≤ i) with
    | true => show Out.rt (.bl (decide (i ≤ hi))) m = .rt (.bl (decide (lo ≤ i) && decide (i ≤ hi))) m; rw [hl]; rfl
    | false => show Out.rt (.bl false) m = .rt (.bl (decide (lo ≤ i) && decide (i ≤ hi))) m; rw [hl]; rfl
  | obj n => cases h
  | fn n => cases h
  | scr n => cases h
  | row g => cases h
  | ldc t ks vs => cases h
  | dct t ks vs =>
    cases t with
    | false => rfl
    | true => cases h
  | _ => rfl
theorem row_turns (s0 : Slot) (g : D) (m : List Ob) : ∀ (xs : List D) (s2 : Slot), (xs.all fun d => d.ty.isSome) = true →
    (xs.all okGroup = true → ∃ s', loopS (tgN 2) (ifS (dNotT (dT (dCall den_is_from0 (dCons (dV 2) (dCons (dC (.int 0)) (dCons (dC (.int 11)) dNil)))))) (raiseS "BadGroups") skipS) xs [s0, .sh g, s2] m = .nx [s0, .sh g, s'] m) ∧
    (xs.all okGroup = false → ∃ ρ', loopS (tgN 2) (ifS (dNotT (dT (dCall den_is_from0 (dCons (dV 2) (dCons (dC (.int 0)) (dCons (dC (.int 11)) dNil)))))) (raiseS "BadGroups") skipS) xs [s0, .sh g, s2] m = .er ⟨"BadGroups", []⟩ ρ' m)
  | [], s2, _ => ⟨fun _ => ⟨s2, rfl⟩, fun h => by cases h⟩
  | d :: r, s2, h => by
    rw [List.all_cons, Bool.and_eq_true] at h
    obtain ⟨i1, i2⟩ := row_turns s0 g m r (.sh d) h.2
    have e1 := from_ok d 0 11 m h.1
    have eg : fromD 0 11 d = okGroup d := by cases d <;> rfl
    rw [eg] at e1
    have body : (ifS (dNotT (dT (dCall den_is_from0 (dCons (dV 2) (dCons (dC (.int 0)) (dCons (dC (.int 11)) dNil)))))) (raiseS "BadGroups") skipS) [s0, .sh g, .sh d] m = if okGroup d = true then .nx [s0, .sh g, .sh d] m else .er ⟨"BadGroups", []⟩ [s0, .sh g, .sh d] m := by
      have e2 : (dCall den_is_from0 (dCons (dV 2) (dCons (dC (.int 0)) (dCons (dC (.int 11)) dNil)))) [s0, .sh g, .sh d] m = .ok (.bl (okGroup d), m) := e1
      show bindS ((((dCall den_is_from0 _ [s0, .sh g, .sh d] m).bind _)).bind _) _ _ = _
      rw [e2]
      cases okGroup d <;> rfl
    cases ho : okGroup d with
    | true =>
      rw [ho, if_pos rfl] at body
      rw [List.all_cons, ho, Bool.true_and]
      refine ⟨fun q => ?_, fun q => ?_⟩
      · obtain ⟨s', e⟩ := i1 q
        exact ⟨s', by rw [loop_nx (ρ1 := [s0, .sh g, .sh d]) rfl body]; exact e⟩
      · obtain ⟨s', e⟩ := i2 q
        exact ⟨s', by rw [loop_nx (ρ1 := [s0, .sh g, .sh d]) rfl body]; exact e⟩
    | false =>
      rw [ho, if_neg (by simp)] at body
      rw [List.all_cons, ho, Bool.false_and]
      exact ⟨fun q => by (cases q), fun _ => ⟨[s0, .sh g, .sh d], loop_er (ρ1 := [s0, .sh g, .sh d]) rfl body⟩⟩
theorem rowInit0 : RowInit den_Row_init0 := by
  intro g m
  have hm : (m ++ [Ob.ins "Row" []])[m.length]? = some (.ins "Row" []) := by rw [List.getElem?_append_right (Nat.le_refl _), Nat.sub_self]; rfl
  have hset : (m ++ [Ob.ins "Row" []]).set m.length (.ins "Row" (putD "held" g [])) = m ++ [.ins "Row" [("held", g)]] := by
    rw [List.set_append_right _ _ (Nat.le_refl _), Nat.sub_self]
    rfl
  have fin : fldS "Row" 0 "held" (dV 1) = fldS "Row" 0 "held" (dV 1) := rfl
  have hend : ∀ s', (fldS "Row" 0 "held" (dV 1)) [.sh (.obj m.length), .sh g, s'] (m ++ [.ins "Row" []]) = .nx [.sh (.obj m.length), .sh g, s'] (m ++ [.ins "Row" [("held", g)]]) := fun s' => by
    show (match (m ++ [Ob.ins "Row" []])[m.length]? with
      | some (.ins c' fs) => if c' = "Row" ∧ fs.length < 1000 then Out.nx _ ((m ++ [Ob.ins "Row" []]).set m.length (.ins "Row" (putD "held" g fs))) else .bad
      | _ => .bad) = _
    rw [hm]
    show (if ("Row" : Str) = "Row" ∧ 0 < 1000 then _ else _) = _
    rw [if_pos ⟨rfl, by decide⟩, hset]
  have notTup : plainD g = true → (∀ xs, g ≠ .tup xs) → (∀ xs, g ≠ .etp xs) → den_Row_init0 [.obj m.length, g] (m ++ [.ins "Row" []]) = .err ⟨"BadGroups", []⟩ (m ++ [.ins "Row" []]) := fun hp h1 h2 => by
    cases g with
    | tup xs => exact absurd rfl (h1 xs)
    | etp xs => exact absurd rfl (h2 xs)
    | row g => cases hp
    | obj n => cases hp
    | fn n => cases hp
    | scr n => cases hp
    | ldc t ks vs => cases hp
    | dct t ks vs =>
      cases t with
      | false => exact fnD_er rfl rfl
      | true => cases hp
    | _ => exact fnD_er rfl rfl
  cases g with
  | tup xs =>
    have lenE : ∀ {s : SDen}, (ifS (dOrT (dNotT (dT (dUn (isiD .tup) (dL 1)))) (dNotT (dT (dChain leD leD (dC (.int 1)) (dCB (oneArg lenD) (dCons (dL 1) dNil)) (dC (.int 12)))))) (raiseS "BadGroups") skipS) [.sh (.obj m.length), .sh (.tup xs), .non] (m ++ [.ins "Row" []]) =
        if 1 ≤ xs.length ∧ xs.length ≤ 12 then .nx [.sh (.obj m.length), .sh (.tup xs), .non] (m ++ [.ins "Row" []]) else .er ⟨"BadGroups", []⟩ [.sh (.obj m.length), .sh (.tup xs), .non] (m ++ [.ins "Row" []]) := fun {s} => by
      show bindS ((((match D.bl (decide ((1 : Int) ≤ (xs.length : Int))) with
        | .bl true => Res.ok (D.bl (decide ((xs.length : Int) ≤ 12)), m ++ [Ob.ins "Row" []])
        | .bl false => .ok (.bl false, m ++ [Ob.ins "Row" []])
        | _ => .bad).bind fun x => (asBool x.1).bind fun b => .ok (b, x.2)).bind fun x => .ok (!x.1, x.2))) _ _ = _
      by_cases h1 : 1 ≤ xs.length
      · rw [decide_eq_true (by omega : (1 : Int) ≤ (xs.length : Int))]
        by_cases h2 : xs.length ≤ 12
        · rw [decide_eq_true (by omega : (xs.length : Int) ≤ 12), if_pos ⟨h1, h2⟩]; rfl
        · rw [decide_eq_false (by omega : ¬ (xs.length : Int) ≤ 12), if_neg (fun z => h2 z.2)]; rfl
      · rw [decide_eq_false (by omega : ¬ (1 : Int) ≤ (xs.length : Int)), if_neg (fun z => h1 z.1)]; rfl
    refine ⟨fun h => ?_, fun h hp => ?_⟩
    · simp only [rowOk, Bool.and_eq_true, decide_eq_true_eq] at h
      obtain ⟨h1, h2, h3⟩ := h
      have hp : (xs.all fun d => d.ty.isSome) = true := List.all_eq_true.mpr fun d hd => by
        have := List.all_eq_true.mp h3 d hd
        cases d <;> first | rfl | cases this
      obtain ⟨s', e⟩ := (row_turns (.sh (.obj m.length)) (.tup xs) (m ++ [.ins "Row" []]) xs .non hp).1 h3
      refine fnD_nx rfl (ρ' := [.sh (.obj m.length), .sh (.tup xs), s']) ?_
      show (match (ifS _ _ skipS) [.sh (.obj m.length), .sh (.tup xs), .non] (m ++ [Ob.ins "Row" []]) with
        | .nx ρ' m' => _
        | o => o) = _
      rw [lenE (s := skipS), if_pos ⟨h1, h2⟩]
      show (match loopS _ _ xs _ _ with
        | .nx ρ' m' => _
        | o => o) = _
      rw [e]
      exact hend s'
    · have hp : (xs.all fun d => d.ty.isSome) = true := hp
      by_cases hl : 1 ≤ xs.length ∧ xs.length ≤ 12
      · have h3 : xs.all okGroup = false := by
          cases q : xs.all okGroup with
          | false => rfl
          | true => simp [rowOk, hl.1, hl.2, q] at h
        obtain ⟨ρ', e⟩ := (row_turns (.sh (.obj m.length)) (.tup xs) (m ++ [.ins "Row" []]) xs .non hp).2 h3
        refine fnD_er rfl (ρ' := ρ') ?_
        show (match (ifS _ _ skipS) [.sh (.obj m.length), .sh (.tup xs), .non] (m ++ [Ob.ins "Row" []]) with
          | .nx ρ' m' => _
          | o => o) = _
        rw [lenE (s := skipS), if_pos hl]
        show (match loopS _ _ xs _ _ with
          | .nx ρ' m' => _
          | o => o) = _
        rw [e]
      · refine fnD_er rfl (ρ' := [.sh (.obj m.length), .sh (.tup xs), .non]) ?_
        show (match (ifS _ _ skipS) [.sh (.obj m.length), .sh (.tup xs), .non] (m ++ [Ob.ins "Row" []]) with
          | .nx ρ' m' => _
          | o => o) = _
        rw [lenE (s := skipS), if_neg hl]
  | etp xs =>
    exact ⟨fun h => by (cases h), fun _ hp => by (cases hp)⟩
  | _ => exact ⟨fun h => by (cases h), fun _ hp => notTup hp (by simp) (by simp)⟩
end PD
namespace PD
open PySem PySem.Spec PyProof.Rows L2
section
variable {X : Cx} {RW : WX} {e : Expr} {pos : Pos}
theorem get_listA : PGet X (fun o i H Q => ∃ p xs k v, o = .ref p ∧ i = .int k ∧ H p = some (.lst xs) ∧ atI xs k = some v ∧ Q v H) := by
  intro pins s σ H x y u v Q I rx ry h
  obtain ⟨p, xs, k, w, rfl, rfl, hp, hat, q⟩ := h
  cases (show u = Value.ref p from rx)
  obtain ⟨t, rfl⟩ := (show ∃ t, v = Value.int k t from ry)
  obtain ⟨its, r, pl, hz⟩ := I.list (SqL.of hp)
  obtain ⟨j, h1, h2, h3, h4, h5⟩ := atI_get hat
  obtain ⟨wv, ew, rw'⟩ := r.get h2
  have hl := r.length
  have hn := line63
  have fin : EP X pins σ Q wv s := ⟨w, H, I, rw', q⟩
  rcases Int.lt_or_le k 0 with h0 | h0
  · have hj : (k + (its.toArray.size : Int)).toNat = j := by
      rw [seqIndex_neg h0 h4] at h1
      rw [List.size_toArray, ← hl]
      exact Option.some.inj h1
    refine wpAny_getItem_list_neg pl.isList h0 ?_ ?_ (by rw [hj]; simpa using ew) fin
    · rw [List.size_toArray, ← hl]; omega
    · omega
  · have hj : k.toNat = j := by
      rw [seqIndex_of h0 h5] at h1
      exact Option.some.inj h1
    exact wpAny_getItem_list pl.isList h0 (by omega) (by rw [hj]; simpa using ew) fin
def iaugS (i : Nat) (di de : Den D) : SDen := fun ρ m => match slotAt ρ i with
  | .own (.lst ds) => bindS (di ρ m) ρ fun k m1 => (match k with
    | .int j => (match ixN ds.length j with
      | some n => (match ds[n]? with
        | some x => bindS (de ρ m1) ρ fun d m2 => (match ipAddD x d with
          | .ok y => .nx (ρ.set i (.own (.lst (ds.set n y)))) m2
          | _ => .bad)
        | none => .bad)
      | none => .bad)
    | _ => .bad)
  | _ => .bad
theorem sd_iaug {i : Nat} {x : Str} {ei : Expr} {di de : Den D} {px tpos : Pos} (hv : PE X (.Name x px) (tVar i)) (hi : PE X ei (tX X.K X.mg RW di (pLook X.K X.mg))) (he : PE X e (tX X.K X.mg RW de (pLook X.K X.mg)))
    (ha : ∀ ov iv new, augStore ei ov iv new = (do holding [new, ov, iv] (setItem ov iv new); release [new, ov, iv] []; pure .next) := by intros; rfl) : PS X (.AugAssign (.Subscript (.Name x px) ei tpos) .Add e pos) (tB X.K X.mg RW (iaugS i di de)) :=
  PS.imp (ps_augS hv hi get_listA he ip_add set_list ha) fun D σ H ⟨B, F0, z, ow, ρ, m, S, q⟩ => by
    unfold iaugS at q
    split at q
    · rename_i ds hs
      obtain ⟨hg, a, o, e3, hH, xs, rfl, r⟩ := slot_own S hs
      refine ⟨.ref a, e3, B, F0, z, ow, ρ, m, S, Rem.stepS q fun k m1 B1 z1 ow1 kv H1 hB hz S1 pk q1 => ?_⟩
      have S1' := S1.weak hB
      obtain ⟨_, a1, o1, e4, hH1, xs1, rfl, r1⟩ := slot_own S1' hs
      rw [e3] at e4
      cases e4
      cases k with
      | int j =>
        dsimp only at q1
        cases hn : ixN ds.length j with
        | none => rw [hn] at q1; exact q1.elim
        | some n =>
          rw [hn] at q1
          dsimp only at q1
          cases hx : ds[n]? with
          | none => rw [hx] at q1; exact q1.elim
          | some dx =>
            rw [hx] at q1
            obtain ⟨v, hv, rv⟩ := r1.get hx
            refine ⟨a, xs1, j, v, rfl, look_int pk, hH1, by unfold atI; rw [← r1.len, hn]; exact hv, ?_⟩
            refine ⟨B, F0, z1, ow1, ρ, m1, S1', Rem.stepS q1 fun d m2 B2 z2 ow2 w H2 hB2 hz2 S2 pd q2 => ?_⟩
            have S2' := S2.weak hB2
            obtain ⟨_, a2, o2, e5, hH2, xs2, rfl, r2⟩ := slot_own S2' hs
            rw [e3] at e5
            cases e5
            cases dx with
            | int i0 =>
              cases d with
              | int j0 =>
                refine ⟨i0, j0, rep_int.mp rv, look_int pd, a, xs2, j, n, rfl, look_int pk, hH2, by rw [← r2.len]; exact hn, ?_⟩
                exact q2 z2 _ σ _ (Fz.le.refl _) (S2'.change hg e3 ⟨_, rfl, r2.set n (rep_int.mpr rfl)⟩)
              | _ => exact q2.elim
            | _ => exact q2.elim
      | _ => exact q1.elim
    · exact q.elim
end
end PD
namespace PD
open PySem PySem.Spec PyProof.Rows L2
section
variable {α β : Type} {ρ ρ' : List Slot} {m m' : List Ob}
@[simp] theorem dCallFn_ev (n : Nat) (l : List (Str × FDen)) (dc : Den D) (da : Den (List D)) : dCallFn n l dc da ρ m = (dc ρ m).bind fun x => match x.1 with
  | .fn y => (match l.lookup y with
    | some f => (da ρ x.2).bind fun xs => if xs.1.length = n then f xs.1 xs.2 else .bad
    | none => .bad)
  | _ => .bad := byEq rfl
end
end PD
namespace PD
open PySem PySem.Spec PyProof.Rows L2
theorem reps_irange {K : PySem.W.Frag} {mg : Str → Option Value} {z : Fz} : ∀ (n : Nat) (lo : Int), Reps K mg z (irange lo n) ((List.range n).map fun i => V.int (lo + (i : Nat)))
  | 0, _ => .nil
  | n + 1, lo => by
    rw [irange, List.range_succ_eq_map, List.map_cons, List.map_map]
    refine .cons (rep_int.mpr (by simp)) ?_
    have h := reps_irange (K := K) (mg := mg) (z := z) n (lo + 1)
    have e : (List.range n).map (fun i => V.int (lo + 1 + (i : Nat))) = (List.range n).map ((fun i => V.int (lo + (i : Nat))) ∘ Nat.succ) := List.map_congr_left fun k _ => by
      show V.int (lo + 1 + (k : Int)) = V.int (lo + ((k + 1 : Nat) : Int))
      congr 1
      omega
    rw [← e]
    exact h
def rgN : D → Res Cont
  | .int n => if -(4611686018427387904) ≤ n ∧ n ≤ 16777216 then .ok (.lst (irange 0 n.toNat)) else .bad
  | _ => .bad
def rgT : D → Res D
  | .int n => if -(4611686018427387904) ≤ n ∧ n ≤ 16777216 then .ok (.tup (irange 0 n.toNat)) else .bad
  | _ => .bad
section
variable {X : Cx} {RW : WX} {e : Expr} {pos : Pos}
theorem rgV_eq {K : PySem.W.Frag} {mg : Str → Option Value} {z : Fz} (n : Int) : Reps K mg z (irange 0 n.toNat) (rgV 0 n) := by
  unfold rgV
  rw [show (n - 0).toNat = n.toNat by omega]
  exact reps_irange _ _
theorem pd_listRg {da : Den D} {p q : Pos} (hc : X.calm = true) (hg : Gl X "list") (hm : X.mg "list" = none) (hg2 : Gl X "range") (hm2 : X.mg "range" = none) (ha : PE X e (tX X.K X.mg RW da (pLook X.K X.mg)))
    (n1 : starEach [e] X.env = (false, eval e X.env) :: starEach [] X.env := by rfl) (n2 : starEach [.Call (.Name "range" q) [e] [] pos] X.env = (false, eval (.Call (.Name "range" q) [e] [] pos) X.env) :: starEach [] X.env := by rfl) {p0 : Pos} :
    PE X (.Call (.Name "list" p) [.Call (.Name "range" q) [e] [] pos] [] p0) (tX X.K X.mg RW (dUnN rgN da) (pNew X.K X.mg)) :=
  PE.imp (pe_listRg hc hg hm (prg_1 hg2 hm2 ha n1) n2) fun σ H Q q => tX.imp q fun B F0 z ow ρ m S h => Rem.step pNew.pm h fun d m1 B1 z1 ow1 v H1 hB hz S1 px h1 => by
    cases d with
    | int n =>
      by_cases hn : -(4611686018427387904) ≤ n ∧ n ≤ 16777216
      · have h1 : Rem X.K X.mg RW ((rgN (.int n)).bind fun d => .ok (d, m1)) B1 F0 z1 ρ σ (pNew X.K X.mg) Q := h1
        rw [show rgN (.int n) = .ok (.lst (irange 0 n.toNat)) from if_pos hn] at h1
        exact ⟨n, look_int px, ⟨by omega, by omega, by omega, by omega, by omega⟩, fun q hq => Rem.newLst (ds := irange 0 n.toNat) h1 S1 (rgV_eq n) hq⟩
      · have h1 : Rem X.K X.mg RW ((rgN (.int n)).bind fun d => .ok (d, m1)) B1 F0 z1 ρ σ (pNew X.K X.mg) Q := h1
        rw [show rgN (.int n) = .bad from if_neg hn] at h1
        exact h1.elim
    | _ => exact h1.elim
theorem pd_tupRg {da : Den D} {p q : Pos} (hc : X.calm = true) (hg : Gl X "tuple") (hm : X.mg "tuple" = none) (hg2 : Gl X "range") (hm2 : X.mg "range" = none) (ha : PE X e (tX X.K X.mg RW da (pLook X.K X.mg)))
    (n1 : starEach [e] X.env = (false, eval e X.env) :: starEach [] X.env := by rfl) (n2 : starEach [.Call (.Name "range" q) [e] [] pos] X.env = (false, eval (.Call (.Name "range" q) [e] [] pos) X.env) :: starEach [] X.env := by rfl) {p0 : Pos} :
    PE X (.Call (.Name "tuple" p) [.Call (.Name "range" q) [e] [] pos] [] p0) (tX X.K X.mg RW (dUn rgT da) (pVal X.K X.mg)) :=
  PE.imp (pe_tupRg hc hg hm (prg_1 hg2 hm2 ha n1) n2) fun σ H Q q => tX.imp q fun B F0 z ow ρ m S h => Rem.step pVal.pm h fun d m1 B1 z1 ow1 v H1 hB hz S1 px h1 => by
    cases d with
    | int n =>
      by_cases hn : -(4611686018427387904) ≤ n ∧ n ≤ 16777216
      · have h1 : Rem X.K X.mg RW ((rgT (.int n)).bind fun d => .ok (d, m1)) B1 F0 z1 ρ σ (pVal X.K X.mg) Q := h1
        rw [show rgT (.int n) = .ok (.tup (irange 0 n.toNat)) from if_pos hn] at h1
        exact ⟨n, look_int px, ⟨by omega, by omega, by omega, by omega, by omega⟩, fun q hq => Rem.newTup (ds := irange 0 n.toNat) h1 S1 (rgV_eq n) hq⟩
      · have h1 : Rem X.K X.mg RW ((rgT (.int n)).bind fun d => .ok (d, m1)) B1 F0 z1 ρ σ (pVal X.K X.mg) Q := h1
        rw [show rgT (.int n) = .bad from if_neg hn] at h1
        exact h1.elim
    | _ => exact h1.elim
end
end PD
namespace PD
open PySem PySem.Spec PyProof.Rows L2
def subE (a b : Str) : Bool := decide (a = b) || decide (b = ("PullError" : Str))
def errB (As Bs : List Str) : Fb := fun K => As.all fun a => Bs.all fun b => decide (PySem.W.exmOne K (.ref (cA K a)) (.ref (cA K b)) = some (subE a b))
structure ErrK (K : PySem.W.Frag) (mg : Str → Option Value) (As Bs : List Str) : Prop where
  as : ∀ a ∈ As, mg a = some (.ref (cA K a))
  bs : ∀ b ∈ Bs, mg b = some (.ref (cA K b))
  ex : ∀ a ∈ As, ∀ b ∈ Bs, PySem.W.exmOne K (.ref (cA K a)) (.ref (cA K b)) = some (subE a b)
theorem errK_ok {K : PySem.W.Frag} {mg : Str → Option Value} {As Bs : List Str} (h1 : ∀ a ∈ As, mg a = some (.ref (cA K a))) (h2 : ∀ b ∈ Bs, mg b = some (.ref (cA K b))) (h : errB As Bs K = true) : ErrK K mg As Bs :=
  ⟨h1, h2, fun a ha b hb => of_decide_eq_true (List.all_eq_true.mp (List.all_eq_true.mp h a ha) b hb)⟩
def hands (As : List Str) (x : Exn) : List (Str × SDen) → SDen
  | [] => fun ρ m => .er x ρ m
  | (c, s) :: r => fun ρ m => if As.contains x.cls = true then (if subE x.cls c = true then (match s ρ m with
    | .er _ _ _ => .bad
    | o => o) else hands As x r ρ m) else .bad
def tryS (As : List Str) (b : SDen) (l : List (Str × SDen)) : SDen := fun ρ m => match b ρ m with
  | .er x ρ' m' => hands As x l ρ' m'
  | o => o
section
variable {X : Cx} {RW : WX} {pos : Pos}
theorem ErrK.nm {As Bs : List Str} {c : Str} (E : ErrK X.K X.mg As Bs) (hc : c ∈ Bs) (hg : Gl X c) (hd : (c == ("__debug__" : Str)) = false) : Names X c (.ref (cA X.K c)) := ⟨hg, hd, .inl (E.bs c hc)⟩
abbrev hdT (X : Cx) (p : Str × SDen) : Value × (Addr → Value → Option Addr → TS) := (.ref (cA X.K p.1), fun _ _ _ => tB X.K X.mg noRW p.2)
theorem hd_nil : HdsOk X [] (([] : List (Str × SDen)).map (hdT X)) := .nil
theorem hd_cons {As Bs : List Str} {c : Str} {s : SDen} {b₀ : Stmt} {su : List Stmt} {np pos' : Pos} {hds : List ExceptHandler} {l : List (Str × SDen)} (E : ErrK X.K X.mg As Bs) (hc : c ∈ Bs) (hg : Gl X c)
    (hsu : ∀ (a : Addr) (oe : Obj) (pn : List (Addr × Obj)), PSs (X.suite a ((a, oe) :: pn)) (b₀ :: su) (tB X.K X.mg noRW s)) (r : HdsOk X hds (l.map (hdT X))) (hd : (c == ("__debug__" : Str)) = false := by decide) :
    HdsOk X (.ExceptHandler (some (.Name c np)) none (b₀ :: su) pos' :: hds) (((c, s) :: l).map (hdT X)) := .cons (E.nm hc hg hd) (fun a oe cls d pn _ _ => hsu a oe pn) r
theorem hands_rem {As Bs : List Str} (E : ErrK X.K X.mg As Bs) {x : Exn} {ρ : List Slot} {m : List Ob} {B F0 : Hp} {z : Fz} {D : Ends} : ∀ {l : List (Str × SDen)}, (∀ p ∈ l, p.1 ∈ Bs) → RemS X.K X.mg RW (hands As x l ρ m) B F0 z D →
    ∀ z' ow' σ' cv dd H', z.le z' → StOk X.K X.mg B F0 z' ow' ρ m σ' H' → ExcAt X.mg x cv dd z'.F → wMany X.K RW D (l.map (hdT X)) cv dd σ' H'
  | [], _, h, z', ow', σ', cv, dd, H', hz, S, ex => h z' ow' σ' cv dd H' hz S ex
  | (c, s) :: l, hl, h, z', ow', σ', cv, dd, H', hz, S, ex => by
    simp only [hands] at h
    by_cases hA : As.contains x.cls = true
    · rw [if_pos hA] at h
      have hA2 : x.cls ∈ As := by simpa using hA
      have hc : c ∈ Bs := hl (c, s) (List.mem_cons_self ..)
      obtain ⟨C, hC, e, _⟩ := id ex
      rw [E.as _ hA2] at hC
      cases hC
      refine ⟨subE x.cls c, by rw [e]; exact E.ex _ hA2 _ hc, fun hb a ha => ?_, fun hb => ?_⟩
      · rw [hb, if_pos rfl] at h
        have key : RemS X.K X.mg noRW (s ρ m) B F0 z D := by
          cases ho : s ρ m with
          | nx ρ' m' => rw [ho] at h; exact h
          | rt d m' => rw [ho] at h; exact h
          | bk ρ' m' => rw [ho] at h; exact h
          | ct ρ' m' => rw [ho] at h; exact h
          | er x ρ' m' => rw [ho] at h; exact h.elim
          | bad => rw [ho] at h; exact h.elim
        exact ⟨B, F0, z', ow', ρ, m, S, key.mono hz⟩
      · rw [hb, if_neg (by simp)] at h
        exact hands_rem E (fun p hp => hl p (List.mem_cons_of_mem _ hp)) h z' ow' σ' cv dd H' hz S ex
    · rw [if_neg hA] at h; exact h.elim
theorem sd_try {As Bs : List Str} {body : List Stmt} {h₀ : ExceptHandler} {hds : List ExceptHandler} {b : SDen} {l : List (Str × SDen)} (hs : X.stack = X.env :: X.outer) (hf : X.env.frame = some X.env.locals) (E : ErrK X.K X.mg As Bs) (tk : Takes X RW)
    (hb : ∀ (W : WX) (pn : List (Addr × Obj)) (xe : Value → Shared → Prop), Takes (X.tr pn xe) W → PassesOwn (model X.prog X.w) X.A X.env xe → PSs (X.tr pn xe) body (tB X.K X.mg W b)) (hh : HdsOk X (h₀ :: hds) (l.map (hdT X))) (hl : ∀ p ∈ l, p.1 ∈ Bs) :
    PS X (.Try body (h₀ :: hds) [] [] pos) (tB X.K X.mg RW (tryS As b l)) :=
  PS.imp (ps_try_many (tb := fun W => tB X.K X.mg W b) hs hf tk hb hh) fun D σ H ⟨B, F0, z, ow, ρ, m, S, q⟩ => by
    refine ⟨B, F0, z, ow, ρ, m, S, ?_⟩
    unfold tryS at q
    cases ho : b ρ m with
    | nx ρ' m' => rw [ho] at q; exact q
    | rt d m' => rw [ho] at q; exact q
    | bk ρ' m' => rw [ho] at q; exact q
    | ct ρ' m' => rw [ho] at q; exact q
    | er x ρ' m' =>
      rw [ho] at q
      exact hands_rem E hl q
    | bad => rw [ho] at q; exact q
end
theorem StOk.setExc {K : PySem.W.Frag} {mg : Str → Option Value} {B F0 : Hp} {z : Fz} {ow : Own} {ρ : List Slot} {m : List Ob} {σ : St} {H : Hp} (S : StOk K mg B F0 z ow ρ m σ H) {i : Nat} {a : Addr} {d : Option Addr} {x : Exn} (r : ExcSl z (some (.ref a)) a d x) : StOk K mg B F0 z (ow.drop i) (ρ.set i (.exc a d x)) m (σ.set i (some (.ref a))) H := by
  have q := S.setNon (i := i) (some (V.ref a))
  refine ⟨q.fh, q.bh, q.f0, q.new, by simpa using S.len, fun j s e => ?_, q.ol, q.ob, q.ow⟩
  by_cases hj : i = j
  · subst hj
    obtain ⟨hl, _⟩ := List.getElem?_eq_some_iff.mp e
    have hl' : i < ρ.length := by simpa using hl
    rw [List.getElem?_set_self hl'] at e
    cases e
    rw [join_set (by rw [S.len]; exact hl')]
    exact r
  · rw [List.getElem?_set_ne hj] at e
    exact q.slot j s (by rw [List.getElem?_set_ne hj]; exact e)
def clearO (i : Nat) : Out → Out
  | .nx ρ m => .nx (ρ.set i .non) m
  | .bk ρ m => .bk (ρ.set i .non) m
  | .ct ρ m => .ct (ρ.set i .non) m
  | .rt d m => .rt d m
  | .er _ _ _ => .bad
  | .bad => .bad
abbrev EDen := Addr → Option Addr → Exn → SDen
def Alike (i : Nat) (s : EDen) : Prop := ∀ (a : Addr) (d : Option Addr) (x : Exn) (ρ : List Slot) (m : List Ob), clearO i (s a d x (ρ.set i (.exc a d x)) m) = clearO i (s 0 none x (ρ.set i (.exc 0 none x)) m)
def tryAsS (As : List Str) (c : Str) (i : Nat) (b : SDen) (s : EDen) : SDen := fun ρ m => match b ρ m with
  | .er x ρ' m' => if As.contains x.cls = true then (if subE x.cls c = true then clearO i (s 0 none x (ρ'.set i (.exc 0 none x)) m') else .er x ρ' m') else .bad
  | o => o
theorem clear_rem {K : PySem.W.Frag} {mg : Str → Option Value} {RW : WX} {B F0 : Hp} {z : Fz} {D : Ends} {i : Nat} {o : Out} (h : RemS K mg RW (clearO i o) B F0 z D) :
    RemS K mg noRW o B F0 z { nx := fun σ' H' => D.nx (σ'.set i none) H', rt := D.rt, bk := fun σ' H' => D.bk (σ'.set i none) H', ct := fun σ' H' => D.ct (σ'.set i none) H' } := by
  cases o with
  | nx ρ m => exact fun z' ow' σ' H' hz S => h z' _ _ H' hz (S.setNon none)
  | bk ρ m => exact fun z' ow' σ' H' hz S => h z' _ _ H' hz (S.setNon none)
  | ct ρ m => exact fun z' ow' σ' H' hz S => h z' _ _ H' hz (S.setNon none)
  | rt d m => exact h
  | er x ρ m => exact h.elim
  | bad => exact h.elim
section
variable {X : Cx} {RW : WX} {pos : Pos}
theorem sd_tryAs {As Bs : List Str} {c n : Str} {i : Nat} {np pos' : Pos} {body su : List Stmt} {b₀ : Stmt} {b : SDen} {s : EDen} (hs : X.stack = X.env :: X.outer) (hf : X.env.frame = some X.env.locals) (hN : X.N.Nodup) (hi : X.N[i]? = some n) (hln : X.env.kindOf n = some .local) (E : ErrK X.K X.mg As Bs) (hcB : c ∈ Bs) (hg : Gl X c) (tk : Takes X RW)
    (hb : ∀ (W : WX) (pn : List (Addr × Obj)) (xe : Value → Shared → Prop), Takes (X.tr pn xe) W → PassesOwn (model X.prog X.w) X.A X.env xe → PSs (X.tr pn xe) body (tB X.K X.mg W b))
    (hsu : ∀ (a : Addr) (d : Option Addr) (x : Exn) (oe : Obj) (pn : List (Addr × Obj)), As.contains x.cls = true → (x.args = [] → d = none) → Zc (.ref (cA X.K x.cls)) d oe → (∃ vs, oe.data = .fields vs) → PSs (X.suite a ((a, oe) :: pn)) (b₀ :: su) (tB X.K X.mg noRW (s a d x)))
    (hu : Alike i s) (hd : (c == ("__debug__" : Str)) = false := by decide) :
    PS X (.Try body [.ExceptHandler (some (.Name c np)) (some n) (b₀ :: su) pos'] [] [] pos) (tB X.K X.mg RW (tryAsS As c i b s)) :=
  PS.imp (ps_try_as (tb := fun W => tB X.K X.mg W b) (ts := fun a cls d D σ H => ∃ x : Exn, As.contains x.cls = true ∧ (x.args = [] → d = none) ∧ cls = .ref (cA X.K x.cls) ∧ tB X.K X.mg noRW (s a d x) D σ H) hs hf hN hi hln (E.nm hcB hg hd) tk hb
    fun a oe cls d pn hz hf => ⟨fun pins st σ H D I ⟨x, h1, h0, h2, q⟩ => by subst h2; exact (hsu a d x oe pn h1 h0 hz hf).run pins st σ H D I q⟩) fun D σ H ⟨B, F0, z, ow, ρ, m, S, q⟩ => by
    refine ⟨B, F0, z, ow, ρ, m, S, ?_⟩
    unfold tryAsS at q
    cases ho : b ρ m with
    | nx ρ' m' => rw [ho] at q; exact q
    | rt d m' => rw [ho] at q; exact q
    | bk ρ' m' => rw [ho] at q; exact q
    | ct ρ' m' => rw [ho] at q; exact q
    | bad => rw [ho] at q; exact q
    | er x ρ' m' =>
      rw [ho] at q
      intro z' ow' σ' cv dd H' hz' S' ex
      dsimp only at q
      by_cases hA : As.contains x.cls = true
      · rw [if_pos hA] at q
        have hA2 : x.cls ∈ As := by simpa using hA
        obtain ⟨C, hC, e, hno, hlw⟩ := id ex
        rw [E.as _ hA2] at hC
        cases hC
        subst e
        refine ⟨subE x.cls c, E.ex _ hA2 _ hcB, fun hb a ha => ?_, fun hb => ?_⟩
        · rw [hb, if_pos rfl, ← hu a dd x] at q
          exact ⟨x, hA, hno, rfl, B, F0, z', _, _, m', S'.setExc (a := a) (d := dd) (x := x) ⟨rfl, hlw⟩, RemS.mono (RW := noRW) hz' (clear_rem q)⟩
        · rw [hb, if_neg (by simp)] at q
          exact q z' ow' σ' _ dd H' hz' S' ex
      · rw [if_neg hA] at q; exact q.elim
theorem pe_bad {α β : Type} {e : Expr} {den : Den D} (h : ∀ ρ m, den ρ m = .bad) : PE X e (tX X.K X.mg RW den (pVal X.K X.mg)) := ⟨fun pins s σ H Q I ⟨B, F0, z, ow, ρ, m, S, r⟩ => by rw [h] at r; exact r.elim⟩
end
end PD
namespace PD
open PySem PySem.Spec PyProof.Rows L2
def keyOf : D → Option Key
  | .int i => some (.inl i)
  | .str s => some (.inr s)
  | _ => none
theorem keyOf_k (k : Key) : keyOf (keyD k) = some k := by cases k <;> rfl
theorem keyOf_eq {d : D} {k : Key} (h : keyOf d = some k) : d = keyD k := by
  cases d <;> simp only [keyOf, Option.some.injEq, reduceCtorEq] at h <;> subst h <;> rfl
def atD (k : Key) : List D → List D → Option D
  | x :: ks, v :: vs => if keyOf x = some k then some v else atD k ks vs
  | _, _ => none
theorem atD_some {K : PySem.W.Frag} {mg : Str → Option Value} {z : Fz} {k : Key} : ∀ {kx : List Key} {vx : List V} {vs : List D}, kx.length = vx.length → Reps K mg z vs vx →
    (∀ d, atD k (kx.map keyD) vs = some d → ∃ v, valV (kx.zip vx) k = some v ∧ Rep K mg z d v) ∧ (atD k (kx.map keyD) vs = none → valV (kx.zip vx) k = none)
  | [], vx, vs, hl, r => ⟨fun d h => by simp [atD] at h, fun _ => rfl⟩
  | x :: kx, [], vs, hl, r => by simp at hl
  | x :: kx, v :: vx, vs, hl, r => by
    cases vs with
    | nil => simp only [Reps] at r
    | cons d0 vs =>
      simp only [Reps] at r
      simp only [List.map_cons, atD, keyOf_k, Option.some.injEq, List.zip_cons_cons]
      have ih := atD_some (k := k) (kx := kx) (vx := vx) (vs := vs) (by simpa using hl) r.2
      by_cases e : x = k
      · rw [if_pos e]
        refine ⟨fun d h => ?_, fun h => by simp at h⟩
        cases h
        exact ⟨v, valV_pos e, r.1⟩
      · rw [if_neg e, valV_neg e]
        exact ih
theorem look_dict {K : PySem.W.Frag} {mg : Str → Option Value} {z : Fz} {B B' F0 : Hp} {ow : Own} {ρ : List Slot} {m : List Ob} {σ : St} {H : Hp} {ks vs : List D} {v : V} (S : StOk K mg B F0 z ow ρ m σ H) (h : pLook K mg B' B z ρ σ (.dct false ks vs) v) :
    ∃ (a : Addr) (kx : List Key) (vx : List V), v = .ref a ∧ Rd H a (.dK (kx.zip vx)) ∧ kx.length = vx.length ∧ ks = kx.map keyD ∧ Reps K mg z vs vx := by
  obtain ⟨a, o, e, h1, vx, r, kx, hl, hk, ho⟩ := look_cont (c := .dct false ks vs) S h
  subst ho
  exact ⟨a, kx, vx, e, .inl h1, hl, hk, r⟩
theorem look_key {K : PySem.W.Frag} {mg : Str → Option Value} {z : Fz} {B B' : Hp} {ρ : List Slot} {σ : St} {k : Key} {d : D} {v : V} (hk : keyOf d = some k) (h : pLook K mg B' B z ρ σ d v) : v = kV k := by
  rw [keyOf_eq hk] at h
  cases k with
  | inl i => exact look_int h
  | inr s => exact look_str h
end PD
namespace PD
open PySem PySem.Spec PyProof.Rows L2
abbrev atE (i : Nat) (a : Addr) (d : Option Addr) (x : Exn) (ρ : List Slot) : List Slot := ρ.set i (.exc a d x)
def AlD {α : Type} (i : Nat) (x : Exn) (f : Addr → Option Addr → Den α) : Prop := ∀ a d ρ m, f a d (atE i a d x ρ) m = f 0 none (atE i 0 none x ρ) m
def OutAl (i : Nat) (a : Addr) (d : Option Addr) (x : Exn) : Out → Out → Prop
  | .nx ρ1 m1, .nx ρ2 m2 => m1 = m2 ∧ ∃ ρ, ρ1 = atE i a d x ρ ∧ ρ2 = atE i 0 none x ρ
  | .rt d1 m1, .rt d2 m2 => d1 = d2 ∧ m1 = m2
  | .er _ _ _, .er _ _ _ => True
  | .bad, .bad => True
  | _, _ => False
def AlS (i : Nat) (x : Exn) (s : Addr → Option Addr → SDen) : Prop := ∀ a d ρ m, OutAl i a d x (s a d (atE i a d x ρ) m) (s 0 none (atE i 0 none x ρ) m)
theorem alike_of {i : Nat} {s : EDen} (h : ∀ x, AlS i x fun a d => s a d x) : Alike i s := fun a d x ρ m => by
  have q := h x a d ρ m
  dsimp only [atE] at q
  cases h1 : s a d x (ρ.set i (.exc a d x)) m <;> cases h2 : s 0 none x (ρ.set i (.exc 0 none x)) m <;> rw [h1, h2] at q <;> simp only [OutAl] at q <;> try exact q.elim
  · obtain ⟨e, ρ0, e1, e2⟩ := q
    subst e e1 e2
    simp only [clearO, atE, List.set_set]
  · rw [q.1, q.2]
  · rfl
theorem slot_al {i j : Nat} {a : Addr} {d : Option Addr} {x : Exn} {ρ : List Slot} (h : i ≠ j) : slotAt (atE i a d x ρ) j = slotAt ρ j := by
  have key : ∀ (ρ : List Slot) (i j : Nat) (s : Slot), i ≠ j → slotAt (ρ.set i s) j = slotAt ρ j := by
    intro ρ
    induction ρ with
    | nil => intro i j s _; rfl
    | cons t r ih =>
      intro i j s h
      cases i with
      | zero => cases j with
        | zero => exact absurd rfl h
        | succ j => rfl
      | succ i => cases j with
        | zero => rfl
        | succ j => exact ih i j s (fun e => h (by rw [e]))
  exact key ρ i j _ h
theorem slot_self {i : Nat} {s : Slot} : ∀ {ρ : List Slot}, i < ρ.length → slotAt (ρ.set i s) i = s := by
  induction i with
  | zero => intro ρ h; cases ρ with
    | nil => simp at h
    | cons t r => rfl
  | succ i ih => intro ρ h; cases ρ with
    | nil => simp at h
    | cons t r => exact ih (by simpa using h)
theorem slot_none {i : Nat} : ∀ {ρ : List Slot}, ρ.length ≤ i → slotAt ρ i = .non := by
  induction i with
  | zero => intro ρ h; cases ρ with
    | nil => rfl
    | cons t r => simp at h
  | succ i ih => intro ρ h; cases ρ with
    | nil => rfl
    | cons t r => exact ih (by simpa using h)
variable {i : Nat} {x : Exn}
theorem al_c {c : D} : AlD i x fun _ _ => dC c := fun _ _ _ _ => rfl
theorem al_nil {α : Type} : AlD i x fun _ _ => (dNil : Den (List α)) := fun _ _ _ _ => rfl
theorem al_v {j : Nat} (h : i ≠ j) : AlD i x fun _ _ => dV j := fun a d ρ m => by simp only [dV]; rw [slot_al h, slot_al h]
theorem al_l {j : Nat} (h : i ≠ j) : AlD i x fun _ _ => dL j := fun a d ρ m => by simp only [dL]; rw [slot_al h, slot_al h]
theorem al_if {α : Type} {c : Addr → Option Addr → Den Bool} {f g : Addr → Option Addr → Den α} (hc : AlD i x c) (hf : AlD i x f) (hg : AlD i x g) : AlD i x fun a d => dIf (c a d) (f a d) (g a d) := fun a d ρ m => by
  dsimp only [dIf]
  rw [hc]
  congr 1
  funext y
  rw [hf, hg]
theorem al_T {f : Addr → Option Addr → Den D} (hf : AlD i x f) : AlD i x fun a d => dT (f a d) := fun a d ρ m => by dsimp only [dT]; rw [hf]
theorem al_N {f : Addr → Option Addr → Den Cont} (hf : AlD i x f) : AlD i x fun a d => dN2V (f a d) := fun a d ρ m => by dsimp only [dN2V]; rw [hf]
theorem al_lst {f : Addr → Option Addr → Den (List D)} (hf : AlD i x f) : AlD i x fun a d => dLst (f a d) := fun a d ρ m => by dsimp only [dLst]; rw [hf]
theorem al_tup {f : Addr → Option Addr → Den (List D)} (hf : AlD i x f) : AlD i x fun a d => dTup (f a d) := fun a d ρ m => by dsimp only [dTup]; rw [hf]
theorem al_cons {α : Type} {f : Addr → Option Addr → Den α} {g : Addr → Option Addr → Den (List α)} (hf : AlD i x f) (hg : AlD i x g) : AlD i x fun a d => dCons (f a d) (g a d) := fun a d ρ m => by
  dsimp only [dCons]
  rw [hf]
  congr 1
  funext y
  rw [hg]
theorem al_bin {k : D → D → Res D} {f g : Addr → Option Addr → Den D} (hf : AlD i x f) (hg : AlD i x g) : AlD i x fun a d => dBin k (f a d) (g a d) := fun a d ρ m => by
  dsimp only [dBin]
  rw [hf]
  congr 1
  funext y
  rw [hg]
theorem al_binN {k : D → D → Res Cont} {f g : Addr → Option Addr → Den D} (hf : AlD i x f) (hg : AlD i x g) : AlD i x fun a d => dBinN k (f a d) (g a d) := fun a d ρ m => by
  dsimp only [dBinN]
  rw [hf]
  congr 1
  funext y
  rw [hg]
theorem al_set {j : Nat} {f : Addr → Option Addr → Den D} (h : i ≠ j) (hf : AlD i x f) : AlS i x fun a d => setS j (f a d) := fun a d ρ m => by
  dsimp only [setS]
  rw [hf]
  cases f 0 none (atE i 0 none x ρ) m with
  | ok r =>
    refine ⟨rfl, ρ.set j (.sh r.1), ?_, ?_⟩ <;> exact List.set_comm _ _ h
  | err y m' => exact True.intro
  | bad => exact True.intro
theorem al_ret {f : Addr → Option Addr → Den D} (hf : AlD i x f) : AlS i x fun a d => retS (f a d) := fun a d ρ m => by
  dsimp only [retS]
  rw [hf]
  cases f 0 none (atE i 0 none x ρ) m with
  | ok r => exact ⟨rfl, rfl⟩
  | err y m' => exact True.intro
  | bad => exact True.intro
theorem al_then {s t : Addr → Option Addr → SDen} (hs : AlS i x s) (ht : AlS i x t) : AlS i x fun a d => thenS (s a d) (t a d) := fun a d ρ m => by
  dsimp only [thenS]
  have q := hs a d ρ m
  cases h1 : s a d (atE i a d x ρ) m <;> cases h2 : s 0 none (atE i 0 none x ρ) m <;> rw [h1, h2] at q <;> simp only [OutAl] at q <;> try exact q.elim
  · obtain ⟨e, ρ0, e1, e2⟩ := q
    subst e e1 e2
    exact ht a d ρ0 _
  · exact q
  · exact True.intro
  · exact True.intro
theorem hu1 {A : Around} {k : Nat} (hr : Room k A) : A.units + 1 < cLine := by have := hr.un; omega
end PD
namespace PD
open PySem PySem.Spec PyProof.Rows L2
def repTD : D → D → Res D
  | .tup a, .int k => if 0 < a.length ∧ 2 ≤ k ∧ k ≤ 1000 ∧ a.length ≤ 1000 then .ok (.tup (List.replicate k.toNat a).flatten) else .bad
  | _, _ => .bad
theorem repT_r {X : Cx} : BinR X (rRepT X.K) repTD := by
  intro RW B F0 z ow ρ m σ H x y dx dy Q S px py h
  unfold repTD at h
  split at h
  · split at h
    · rename_i as k hz
      obtain ⟨a, xs, rfl, h1, r1⟩ := look_tup S px
      exact ⟨a, k, xs, rfl, look_int py, h1, fun e => by have := r1.len; have h0 := hz.1; rw [e, List.length_nil] at this; omega, hz.2.1, hz.2.2.1, by rw [← r1.len]; exact hz.2.2.2, fun p hp => h.newTup S (reps_rep r1 _) hp⟩
    · exact h.elim
  · exact h.elim
end PD
namespace PD
open PySem PySem.Spec PyProof.Rows L2
section
variable {ρ ρ' : List Slot} {m m' : List Ob} {α β : Type}
theorem thenS_nx {a b : SDen} (h : a ρ m = .nx ρ' m') : thenS a b ρ m = b ρ' m' := by unfold thenS; rw [h]
end
end PD
namespace PD
open PySem PySem.Spec PyProof.Rows L2
section
variable {ρ ρ' : List Slot} {m m' : List Ob} {α β : Type}
theorem getD_get {α : Type} (xs : List α) (k : Nat) (z : α) (h : k < xs.length) : xs.getD k z = xs[k] := by
  rw [List.getD_eq_getElem?_getD, List.getElem?_eq_getElem h]
  rfl
end
end PD
namespace PD
open PySem PySem.Spec PyProof.Rows L2
end PD
namespace PD
open PySem PySem.Spec PyProof.Rows L2
section
variable {X : Cx} {RW : WX}
theorem look_txt {B' B : Hp} {z : Fz} {ρ : List Slot} {σ : St} {K : PySem.W.Frag} {mg : Str → Option Value} {s : Str} {v : V} (p : pLook K mg B' B z ρ σ (.str s) v) : v = .str s := rep_str.mp (look_rep p (fun c => by cases c <;> simp [Cont.d]))
def strD : D → Res D
  | .int i => if i.natAbs.log2 < 1920 then .ok (.str (toString i)) else .bad
  | _ => .bad
theorem str_r : CbR X (fun xs H Q => ∃ i : Int, xs = [.int i] ∧ i.natAbs.log2 < 1920 ∧ Q (.str (toString i)) H) (oneArg strD) := by
  intro RW B F0 z ow ρ m σ H vs ds Q S px h
  match ds, h with
  | [d], h =>
    obtain ⟨v, rfl, p⟩ := looks_one px
    cases d with
    | int i =>
      dsimp only [oneArg, strD] at h
      split at h
      · rename_i hz
        cases look_int p
        exact ⟨i, rfl, hz, h.here S (rep_str.mpr rfl)⟩
      · exact h.elim
    | _ => exact h.elim
  | [], h => exact h.elim
  | _ :: _ :: _, h => exact h.elim
def fmtD : D → Res D
  | .int i => if i.natAbs.log2 < 1920 then .ok (.str (toString i)) else .bad
  | .str s => if s.length ≤ sizeLine then .ok (.str s) else .bad
  | _ => .bad
theorem pd_fmt {e : Expr} {da : Den D} {pos : Pos} (he : PE X e (tX X.K X.mg RW da (pLook X.K X.mg))) : PE X (.FormattedValue e (-1) none pos) (tX X.K X.mg RW (dUn fmtD da) (pVal X.K X.mg)) :=
  PE.imp (pe_fmt he) fun σ H Q q => tX.imp q fun B F0 z ow ρ m S h => Rem.step pVal.pm h fun d m1 B1 z1 ow1 v H1 hB hz S1 p h1 => by
    cases d with
    | int i =>
      dsimp only [fmtD] at h1
      split at h1
      · rename_i hz
        exact .inr ⟨i, look_int p, hz, h1.here S1 (rep_str.mpr rfl)⟩
      · exact h1.elim
    | str s =>
      dsimp only [fmtD] at h1
      split at h1
      · rename_i hz
        exact .inl ⟨s, look_txt p, hz, h1.here S1 (rep_str.mpr rfl)⟩
      · exact h1.elim
    | _ => exact h1.elim
def dFs : List (Den D) → Str → Den D
  | [], acc, ρ, m => .ok (.str acc, m)
  | da :: r, acc, ρ, m => (da ρ m).bind fun x => match x.1 with
    | .str s => if (acc ++ s).length ≤ sizeLine then dFs r (acc ++ s) ρ x.2 else .bad
    | _ => .bad
inductive PFs (X : Cx) (RW : WX) : List Expr → List TE → List (Den D) → Prop
  | nil : PFs X RW [] [] []
  | cons {e : Expr} {es : List Expr} {ts : List TE} {da : Den D} {ds : List (Den D)} (h : PE X e (tX X.K X.mg RW da (pVal X.K X.mg))) (r : PFs X RW es ts ds) : PFs X RW (e :: es) (tX X.K X.mg RW da (pVal X.K X.mg) :: ts) (da :: ds)
theorem PFs.pj {es : List Expr} {ts : List TE} {ds : List (Den D)} (h : PFs X RW es ts ds) : PJ X es ts := by
  induction h with
  | nil => exact .nil
  | cons h _ ih => exact .cons h ih
theorem PFs.run {es : List Expr} {ts : List TE} {ds : List (Den D)} (h : PFs X RW es ts ds) : ∀ (acc : Str) (B F0 : Hp) (z : Fz) (ow : Own) (ρ : List Slot) (m : List Ob) (σ : St) (H : Hp) (Q : VK), StOk X.K X.mg B F0 z ow ρ m σ H →
    Rem X.K X.mg RW (dFs ds acc ρ m) B F0 z ρ σ (pVal X.K X.mg) Q → tJs ts acc σ H fun out H1 => Q (.str out) H1 := by
  induction h with
  | nil => exact fun acc B F0 z ow ρ m σ H Q S h => h.here S (rep_str.mpr rfl)
  | @cons e es ts da ds he r ih =>
    intro acc B F0 z ow ρ m σ H Q S h
    refine ⟨B, F0, z, ow, ρ, m, S, Rem.step pVal.pm h fun d m1 B1 z1 ow1 v H1 hB hz S1 p h1 => ?_⟩
    cases d with
    | str s =>
      dsimp only at h1
      split at h1
      · rename_i hl
        exact ⟨s, rep_str.mp p, hl, ih (acc ++ s) B1 F0 z1 ow1 ρ m1 σ H1 Q S1 h1⟩
      · exact h1.elim
    | _ => exact h1.elim
theorem pd_fstr {v1 v2 : Expr} {rest : List Expr} {ts : List TE} {ds : List (Den D)} {pos : Pos} (h : PFs X RW (v1 :: v2 :: rest) ts ds) : PE X (.JoinedStr (v1 :: v2 :: rest) pos) (tX X.K X.mg RW (dFs ds Str.empty) (pVal X.K X.mg)) :=
  PE.imp (pe_joined h.pj) fun σ H Q ⟨B, F0, z, ow, ρ, m, S, q⟩ => h.run Str.empty B F0 z ow ρ m σ H Q S q
def strs? : List D → Option (List Str)
  | [] => some []
  | .str s :: r => (strs? r).map (s :: ·)
  | _ :: _ => none
theorem strs?_eq : ∀ {ds : List D} {ns : List Str}, strs? ds = some ns → ds = ns.map D.str
  | [], ns, h => by cases h; rfl
  | d :: r, ns, h => by
    cases d with
    | str s =>
      rw [strs?] at h
      cases hr : strs? r with
      | none => rw [hr] at h; cases h
      | some l =>
        rw [hr] at h
        cases h
        rw [strs?_eq hr]
        rfl
    | _ => cases h
theorem strs?_map : ∀ ns : List Str, strs? (ns.map D.str) = some ns
  | [] => rfl
  | s :: r => by rw [List.map_cons, strs?, strs?_map r]; rfl
theorem Reps.strs {K : PySem.W.Frag} {mg : Str → Option Value} {z : Fz} : ∀ {ns : List Str} {vs : List V}, Reps K mg z (ns.map D.str) vs → vs = ns.map V.str
  | [], vs, h => h.nil_of
  | n :: ns, vs, h => by
    obtain ⟨w, vs', rfl, a, r⟩ := h.uncons
    rw [rep_str.mp a, Reps.strs r]
    rfl
theorem Reps.of_strs {K : PySem.W.Frag} {mg : Str → Option Value} {z : Fz} : ∀ {ns : List Str}, Reps K mg z (ns.map D.str) (ns.map V.str)
  | [] => .nil
  | n :: ns => .cons (rep_str.mpr rfl) Reps.of_strs
def joinD : D → List D → Res D
  | .str a, [.lst ds] => match strs? ds with
    | some ys => if (ys.map (·.length)).sum + ys.length * a.length ≤ 16777216 then .ok (.str (Txt.join a ys)) else .bad
    | none => .bad
  | _, _ => .bad
theorem join_r : MbR X (fun x xs H Q => ∃ a p, ∃ ys : List Str, x = .str a ∧ xs = [.ref p] ∧ (SqL X.K H p (ys.map V.str) ∨ SqT X.K H p (ys.map V.str)) ∧ (ys.map (·.length)).sum + ys.length * a.length ≤ 16777216 ∧ Q (.str (Txt.join a ys)) H) joinD := by
  intro RW B F0 z ow ρ m σ H x d vs ds Q S px ps h
  unfold joinD at h
  split at h
  · rename_i a ds
    obtain ⟨v, rfl, py⟩ := looks_one ps
    cases hn : strs? ds with
    | none => rw [hn] at h; exact h.elim
    | some ys =>
      rw [hn] at h
      dsimp only at h
      split at h
      · rename_i hz
        cases strs?_eq hn
        obtain ⟨p, xs, rfl, e, r⟩ := look_list S py
        cases r.strs
        exact ⟨a, p, ys, look_txt px, rfl, .inl (SqL.of e), hz, h.here S (rep_str.mpr rfl)⟩
      · exact h.elim
  · exact h.elim
def dMethN (T : String) (g : D → List D → Res Cont) (de : Den D) (da : Den (List D)) : Den Cont := fun ρ m => (de ρ m).bind fun x => if tyD T x.1 = true then (da ρ x.2).bind fun xs => (g x.1 xs.1).bind fun d => .ok (d, xs.2) else .bad
def MbN (X : Cx) (r : V → List V → Hp → VK → Prop) (g : D → List D → Res Cont) : Prop := ∀ {RW : WX} {B F0 : Hp} {z : Fz} {ow : Own} {ρ : List Slot} {m : List Ob} {σ : St} {H : Hp} {x : V} {d : D} {vs : List V} {ds : List D} {Q : VK},
  StOk X.K X.mg B F0 z ow ρ m σ H → pLook X.K X.mg B B z ρ σ d x → pLooks X.K X.mg B B z ρ σ ds vs → Rem X.K X.mg RW ((g d ds).bind fun d => .ok (d, m)) B F0 z ρ σ (pNew X.K X.mg) Q → r x vs H Q
theorem pd_methN {T id : String} {name : Str} {r : V → List V → Hp → VK → Prop} {g : D → List D → Res Cont} {o e : Expr} {es : List Expr} {de : Den D} {da : Den (List D)} {apos cpos : Pos} (pa : PlainAttrs T) (slot : PySem.Slot T name id) (hty : typeOf (.builtin id) = pure (.type "method_descriptor")) (hm : MtR X id r) (hg : MbN X r g)
    (ho : PE X o (tX X.K X.mg RW de (pLook X.K X.mg))) (ha : PA X (e :: es) (tX X.K X.mg RW da (pLooks X.K X.mg)))
    (hbase : attributeBase o name X.env (eval o X.env) = eval o X.env := by rfl)
    (hfew : ((backTo cpos (starEach (e :: es) X.env)).all (fun x => !x.1) && (backToKw cpos (keywordEach [] X.env)).all (fun x => x.1.isSome)
      && decide ((e :: es).length + ([] : List Keyword).length + (if ([] : List Keyword).isEmpty then 0 else 1) < 30)) = true := by rfl)
    (hline : (apos.endLine == cpos.line) = true := by rfl) (hs : starEach (e :: es) X.env = (false, eval e X.env) :: starEach es X.env := by rfl) (hplain : (backTo cpos (starEach es X.env)).any (·.1) = false := by rfl) :
    PE X (.Call (.Attribute o name apos) (e :: es) [] cpos) (tX X.K X.mg RW (dMethN T g de da) (pNew X.K X.mg)) :=
  PE.imp (pe_bm pa slot hty hm ho ha hbase hfew hline hs hplain) fun σ H Q q => tX.imp q fun B F0 z ow ρ m S h => Rem.step pNew.pm h fun d m1 B1 z1 ow1 v H1 hB hz S1 p h1 => by
    dsimp only at h1
    split at h1
    · rename_i ht
      refine ⟨ty_look S1 p ht, B1, F0, z1, ow1, ρ, m1, S1, Rem.step pNew.pm h1 fun ds m2 B2 z2 ow2 vs H2 hB2 hz2 S2 py h2 => ?_⟩
      exact hg S2 (look_mono hB2 hz2 p) py h2
    · exact h1.elim
def splitN : D → List D → Res Cont
  | .str a, [.str b] => if (b.length == 0) = false ∧ a.length + 2 ≤ sizeLine then .ok (.lst ((Txt.split a b).map .str)) else .bad
  | _, _ => .bad
theorem split_r : MbN X (fun x xs H Q => ∃ a b, x = .str a ∧ xs = [.str b] ∧ (b.length == 0) = false ∧ a.length + 2 ≤ sizeLine ∧ rNewStrs (Txt.split a b) H Q) splitN := by
  intro RW B F0 z ow ρ m σ H x d vs ds Q S px ps h
  unfold splitN at h
  split at h
  · rename_i a b
    obtain ⟨v, rfl, py⟩ := looks_one ps
    split at h
    · rename_i hz
      exact ⟨a, b, look_txt px, by rw [look_txt py], hz.1, hz.2, fun p hp => h.newLst S Reps.of_strs hp⟩
    · exact h.elim
  · exact h.elim
def zipL : List D → List D → List D
  | x :: xs, y :: ys => .tup [x, y] :: zipL xs ys
  | _, _ => []
theorem zipL_get : ∀ (xs ys : List D) (i : Nat), (zipL xs ys)[i]? = match xs[i]?, ys[i]? with
    | some x, some y => some (.tup [x, y])
    | _, _ => none
  | [], ys, i => by simp [zipL]
  | x :: xs, [], i => by simp [zipL]
  | x :: xs, y :: ys, 0 => by simp [zipL]
  | x :: xs, y :: ys, i + 1 => by simp only [zipL, List.getElem?_cons_succ]; exact zipL_get xs ys i
theorem zipL_len : ∀ (xs ys : List D), (zipL xs ys).length = min xs.length ys.length
  | [], ys => by simp [zipL]
  | x :: xs, [] => by simp [zipL]
  | x :: xs, y :: ys => by simp only [zipL, List.length_cons, zipL_len xs ys]; omega
theorem yields_zipT {K : PySem.W.Frag} {mg : Str → Option Value} {z : Fz} {a b : Addr} {xs ys : List V} {ds es : List D} (h : SqT K z.F a xs) (r : Reps K mg z ds xs) (h2 : SqT K z.F b ys) (r2 : Reps K mg z es ys) : Yields K mg (RZ.ItzT K a b) z (zipL ds es) := by
  intro B F0 z' ow ρ m σ H i hz S
  have hH : SqT K H a xs := same_tup S.fh (same_tup hz.1 h)
  have hH2 : SqT K H b ys := same_tup S.fh (same_tup hz.1 h2)
  refine ⟨fun e => ⟨xs, ys, hH, hH2, by rw [← r.len, ← r2.len, e, zipL_len]; omega⟩, fun d hd => ?_⟩
  rw [zipL_get] at hd
  cases hq : ds[i]? with
  | none => rw [hq] at hd; cases hd
  | some d0 =>
    cases hq2 : es[i]? with
    | none => rw [hq, hq2] at hd; cases hd
    | some d1 =>
      rw [hq, hq2] at hd
      cases hd
      obtain ⟨v, hv, rv⟩ := r.get hq
      obtain ⟨w, hw, rw'⟩ := r2.get hq2
      refine ⟨⟨xs, ys, v, w, hH, hH2, hv, hw⟩, fun x H' y => ?_⟩
      obtain ⟨T, x0, y0, rfl, hT, rfl, y1, y2⟩ := y
      have e := (y1 xs hH).symm.trans hv
      cases e
      have e := (y2 ys hH2).symm.trans hw
      cases e
      exact ⟨_, S.leF hT _, S.allocF hT _, rep_tup_new (S.new_none hT).1 (.cons (rv.le hz) (.cons (rw'.le hz) .nil))⟩
end
end PD
namespace PD
open PySem PySem.Spec PyProof.Rows L2
section
def mkS (l : List Nat) : Str := ⟨l.toArray⟩
@[simp] theorem mkS_list (l : List Nat) : (mkS l).cps.toList = l := rfl
end
end PD
namespace PD
open PySem PySem.Spec PyProof.Rows L2
section
variable {prog : Program} {w : World} {A : Around} {s : Shared}
def SeqAtV (h : Heap) (ga : Addr) (n : Nat) (i : Int) : Prop := ∃ (its : List Value) (tk : Tok), (h.IsList ga its.toArray ∨ IsTup h ga its.toArray) ∧ its.length ≤ 1000000 ∧ its[n]? = some (.int i tk)
theorem SeqAtV.keeps {h h' : Heap} {ga : Addr} {n : Nat} {i : Int} (q : SeqAtV h ga n i) (k : ∀ b o, h.get? b = some o → h'.get? b = some o) : SeqAtV h' ga n i := by
  obtain ⟨its, tk, hl, hz, hi⟩ := q
  refine ⟨its, tk, ?_, hz, hi⟩
  rcases hl with hl | hl
  · exact .inl (hl.at fun o e => k _ _ e)
  · obtain ⟨o, e, r⟩ := hl
    exact .inr ⟨o, k _ _ e, r⟩
end
section
variable {X : Cx} {pins : List (Addr × Obj)} {σ : L2.St} {H : Hp} {s : Shared}
abbrev lamQ (X : Cx) : Str := X.env.qual ++ ("<lambda>" : Str)
def Grown (H : Hp) (P c' : Addr) (ps : Array Value) (q : Str) (H1 : Hp) : Prop :=
  H1 = H ∨ (H c' = none ∧ ∃ qs : Array Value, H1 = upd (upd H P (.tbl qs)) c' (LamX.CodeO c' q) ∧ TriplesOk qs.toList ∧ ∀ (pos : Pos) (cv : Value), codeAmong pos qs.toList = some cv → codeAmong pos ps.toList = some cv ∨ cv = .ref c')
theorem lam_make3 {cA0 P : Addr} {ps : Array Value} {params : Arguments} {body : Expr} {scope : Scope} {lp : Pos} {EX : Value → Shared → Prop} {QQ : Value → Shared → Prop}
    (I : Inv X pins σ H s) (tb : LamX.TabB X.base X.mg cA0 P) (ecode : X.env.code = .ref cA0) (eP : H P = some (.tbl ps)) (tri : TriplesOk ps.toList)
    (old : ∀ (pos : Pos) (cv : Value), codeAmong pos ps.toList = some cv → ∃ c, cv = .ref c ∧ H c = some (LamX.CodeO c (lamQ X)))
    (nodef : defaultsOf params X.env = ([], [])) (caps : ∀ y ∈ scope.names, y.2 = .free → ∃ c, X.env.cells.lookup y.1 = some c)
    (go : ∀ (f c' : Addr) (pm ctv : Value) (H1 : Hp) (s' : Shared), Inv X pins σ H1 s' → Grown H P c' ps (lamQ X) H1 → s'.heap.get? f = some (W.kla_obj "<lambda>" (lamQ X) params body scope (cloFrom X.env.cells scope.names []) pm c' ctv) →
      s'.heap.CodeRec (.ref c') (lamQ X) → QQ (.ref f) s') : wpAny (model X.prog X.w) X.A (eval (.Lambda params body scope lp) X.env) QQ EX s := by
  refine W.kla_eval nodef ?_
  have hbm := tb.bm.keeps I.bk
  have tabObj := I.hok P _ eP
  cases found : codeAmong lp ps.toList with
  | some cv =>
    obtain ⟨c', rfl, eco⟩ := old lp cv found
    refine W.kla_makeFunctionHit (closure_ok caps) I.ok.glob (I.mod.glob.keeps I.bk) ecode (tb.code.keeps I.bk) tabObj tri found hbm fun ctv h2 t2 kp _ => ?_
    have kp2 : ∀ b o, s.heap.get? b = some o → (h2.push (W.kla_obj "<lambda>" (lamQ X) params body scope (cloFrom X.env.cells scope.names []) ((X.mg "__name__").getD .none) c' ctv)).get? b = some o := fun b o z => Heap.get?_push_of_some _ (kp b o z)
    have J : Inv X pins σ H { s with heap := h2.push (W.kla_obj "<lambda>" (lamQ X) params body scope (cloFrom X.env.cells scope.names []) ((X.mg "__name__").getD .none) c' ctv), toks := t2 } := I.kept kp2
    obtain ⟨⟨oc, us, t, z1, z2, z3⟩, _, _⟩ := J.hok c' _ eco
    exact go _ c' _ ctv H _ J (.inl rfl) (Heap.get?_push_size _ rfl) ⟨c', oc, us, t, rfl, z1, z2, z3⟩
  | none =>
    refine W.kla_makeFunction (closure_ok caps) I.ok.glob (I.mod.glob.keeps I.bk) ecode (tb.code.keeps I.bk) tabObj tri found tb.gP hbm fun c' ctv h2 t2 ext big small rec tab => ?_
    obtain ⟨c2, oc, us, t, e2, z1, z2, z3⟩ := rec
    cases e2
    have fresh := I.hok.fresh big
    have J := LamX.inv_table (t' := t2) (more := #[rawInt lp.line, rawInt lp.col, .ref c']) (h' := h2.push (W.kla_obj "<lambda>" (lamQ X) params body scope (cloFrom X.env.cells scope.names []) ((X.mg "__name__").getD .none) c' ctv)) I eP
      (fun b o nb z => Heap.get?_push_of_some _ (ext b o nb z)) (Heap.get?_push_of_some _ tab) big ⟨oc, us, t, Heap.get?_push_of_some _ z1, z2, z3⟩
    have el : (ps ++ #[rawInt lp.line, rawInt lp.col, Value.ref c']).toList = ps.toList ++ [rawInt lp.line, rawInt lp.col, .ref c'] := by simp
    refine go _ c' _ ctv _ _ J (.inr ⟨fresh, _, rfl, by rw [el]; exact TriplesOk_snoc _ _ _ _ tri, fun p' cv z => ?_⟩) (Heap.get?_push_size _ rfl) ⟨c', oc, us, t, rfl, Heap.get?_push_of_some _ z1, z2, z3⟩
    rw [el] at z
    exact LamX.among_app _ tri z
def keyAt (gs : List Int) (n : Int) : Int := gs.getD n.toNat 0
def lamW (sc scope : Scope) (g k : Str) : Bool :=
  decide (scope.kind = .function) && (!scope.isCoroutine && (!scope.isGenerator && (decide (scope.names.lookup k = some .local) && (decide (scope.names.lookup g = some .free) && ((decide (sc.names.lookup g = some .cell) || decide (sc.names.lookup g = some .free)) &&
    scope.names.all fun y => decide (y.2 ≠ .cell) && (decide (y.2 ≠ .free) || (decide (sc.names.lookup y.1 = some .cell) || decide (sc.names.lookup y.1 = some .free))))))))
end
end PD
namespace PD
open PySem PySem.Spec PyProof.Rows L2
section
variable {X : Cx}
theorem seq_at {s : Shared} {pins : List (Addr × Obj)} {σ : L2.St} {H : Hp} {ga : Addr} {gs : List Int} (I : Inv X pins σ H s) (h : SqL X.K H ga (gs.map V.int) ∨ SqT X.K H ga (gs.map V.int)) (hl : gs.length ≤ 100000) {n : Nat} (hn : n < gs.length) : SeqAtV s.heap ga n (gs.getD n 0) := by
  have item : ∀ its : List Value, Vals (gs.map V.int) its → its.length ≤ 1000000 ∧ ∃ tk, its[n]? = some (.int (gs.getD n 0) tk) := fun its r => by
    have hlen := r.length
    rw [List.length_map] at hlen
    obtain ⟨u, hu, t, eu⟩ := r.get (i := n) (x := .int (gs.getD n 0)) (by rw [List.getElem?_map, List.getElem?_eq_getElem hn, getD_get _ _ _ hn]; rfl)
    exact ⟨by omega, t, by rw [hu, eu]⟩
  rcases h with h | h
  · obtain ⟨its, r, pl, _⟩ := I.list h
    obtain ⟨h1, tk, h2⟩ := item its r
    exact ⟨its, tk, .inl pl.isList, h1, h2⟩
  · obtain ⟨its, r, pl, _⟩ := I.tuple h
    obtain ⟨h1, tk, h2⟩ := item its r
    exact ⟨its, tk, .inr pl, h1, h2⟩
end
end PD
namespace PD
open PySem PySem.Spec PyProof.Rows L2
section
variable {K : PySem.W.Frag} {mg : Str → Option Value} {B F0 H H2 : Hp} {z : Fz} {ow : Own} {ρ : List Slot} {m : List Ob} {σ : L2.St}
theorem StOk.tabAt (S : StOk K mg B F0 z ow ρ m σ H) {t : Nat} {x q : Str} (hm : m[t]? = some (.tab x q)) : ∃ ps : Array Value, H (He.cT K (x, none)).2 = some (.tbl ps) ∧ TriplesOk ps.toList ∧ ow (He.cT K (x, none)).2 = some (.inr t) ∧
    ∀ (pos : Pos) (cv : Value), codeAmong pos ps.toList = some cv → ∃ c, cv = .ref c ∧ H c = some (LamX.CodeO c q) ∧ ow c = some (.inr t) := by
  obtain ⟨fp, _, P, ps, _, rfl, h1, h2, h3, h4⟩ := S.ob t _ hm
  exact ⟨ps, h1, h2, h3, h4⟩
theorem StOk.grow (S : StOk K mg B F0 z ow ρ m σ H) {t : Nat} {x q : Str} (hm : m[t]? = some (.tab x q)) {ps : Array Value} (eP : H (He.cT K (x, none)).2 = some (.tbl ps)) {c' : Addr} (gr : Grown H (He.cT K (x, none)).2 c' ps q H2) :
    ∃ ow2 : Own, StOk K mg B F0 z ow2 ρ m σ H2 := by
  rcases gr with rfl | ⟨fr, qs, rfl, tri, among⟩
  · exact ⟨ow, S⟩
  obtain ⟨fp, eA, P, ps', efp, rfl, h1, h2, h3, h4⟩ := S.ob t _ hm
  rw [eP] at h1
  cases h1
  generalize hPd : (He.cT K (x, none)).2 = P at *
  obtain ⟨nF, nB, _⟩ := S.ow _ _ h3
  obtain ⟨cF, cB, _, cO⟩ := S.new_none fr
  have nPc : P ≠ c' := ne_of_none eP fr
  have stay : ∀ a u, H a = some u → a ≠ P → upd (upd H P (.tbl qs)) c' (LamX.CodeO c' q) a = some u := fun a u e ne => by
    rw [upd_ne (ne_of_none e fr), upd_ne ne]
    exact e
  refine ⟨fun a => if a = c' then some (.inr t) else ow a, ?_⟩
  refine ⟨fun a o e => stay a o (S.fh a o e) (fun w => by rw [w, nF] at e; cases e), fun a o e => stay a o (S.bh a o e) (fun w => by rw [w, nB] at e; cases e), S.f0, S.new, S.len, fun i sl e => ?_, S.ol, fun n o e => ?_, fun a o e => ?_⟩
  · have q1 := S.slot i sl e
    cases sl with
    | non => trivial
    | exc a d x => exact q1
    | sh d => exact q1
    | own c =>
      obtain ⟨a, o, e1, e2, c1, w⟩ := q1
      refine ⟨a, o, e1, stay a o e2 (fun y => by rw [y, h3] at w; cases w), c1, ?_⟩
      show (if a = c' then some (.inr t) else ow a) = some (.inl i)
      rw [if_neg (fun y => by rw [y, fr] at e2; cases e2)]
      exact w
  · by_cases hn : n = t
    · subst hn
      rw [hm] at e
      cases e
      refine ⟨fp, eA, P, qs, efp, ?_, by rw [upd_ne nPc, upd_same], tri, by show (if P = c' then some (.inr n) else ow P) = _; rw [if_neg nPc]; exact h3, fun pos cv hc => ?_⟩
      · exact hPd.symm
      · rcases among pos cv hc with hc | rfl
        · obtain ⟨c, e1, e2, e3⟩ := h4 pos cv hc
          refine ⟨c, e1, stay c _ e2 (fun y => by rw [y, eP] at e2; exact LamX.codeO_ne ps (Option.some.inj e2).symm), ?_⟩
          show (if c = c' then some (.inr n) else ow c) = _
          rw [if_neg (fun y => by rw [y, fr] at e2; cases e2)]
          exact e3
        · exact ⟨c', rfl, upd_same, if_pos rfl⟩
    · obtain ⟨fp2, e1, q2⟩ := S.ob n o e
      refine ⟨fp2, e1, q2.mono (Fz.le.refl _) (fun a w => ?_) fun a u w hu => stay a u hu (fun y => by rw [y, h3] at w; cases w; exact hn rfl)⟩
      show (if a = c' then some (.inr t) else ow a) = _
      rw [if_neg (fun y => by rw [y, cO] at w; cases w)]
      exact w
  · by_cases ha : a = c'
    · subst ha
      exact ⟨cF, cB, by rw [upd_same]; simp⟩
    · have e : (if a = c' then some (.inr t) else ow a) = some o := e
      rw [if_neg ha] at e
      obtain ⟨h1, h2, h5⟩ := S.ow a o e
      refine ⟨h1, h2, ?_⟩
      rw [upd_ne ha]
      by_cases hp : a = P
      · rw [hp, upd_same]; simp
      · rw [upd_ne hp]; exact h5
end
def seqOf : Slot → Option (List D)
  | .sh (.lst ds) => some ds
  | .sh (.tup ds) => some ds
  | .sh (.etp ds) => some ds
  | .own (.lst ds) => some ds
  | _ => none
section
variable {X : Cx} {RW : WX}
theorem seq_slot {K : PySem.W.Frag} {mg : Str → Option Value} {B F0 H : Hp} {z : Fz} {ow : Own} {ρ : List Slot} {m : List Ob} {σ : L2.St} (S : StOk K mg B F0 z ow ρ m σ H) {j : Nat} {gs : List Int} (h : seqOf (PD.slotAt ρ j) = some (gs.map D.int)) :
    ∃ ga, σ[j]? = some (some (.ref ga)) ∧ (SqL K H ga (gs.map V.int) ∨ SqT K H ga (gs.map V.int)) := by
  have join : ∀ {v : V}, σ[j]?.join = some v → σ[j]? = some (some v) := fun {v} e => by
    cases q : σ[j]? with
    | none => rw [q] at e; cases e
    | some u => rw [q] at e; exact congrArg some e
  cases hs : PD.slotAt ρ j with
  | non => rw [hs] at h; cases h
  | exc a d x => rw [hs] at h; cases h
  | own c =>
    rw [hs] at h
    cases c with
    | lst ds =>
      have h : some ds = some (gs.map D.int) := h
      cases h
      obtain ⟨a, o, e1, e2, ⟨xs, rfl, r⟩, _⟩ := S.slot j _ (slotAt_get hs (by simp))
      cases r.ints
      exact ⟨a, join e1, .inl (SqL.of e2)⟩
    | dct t ks vs => cases h
    | ldc t ks vs => cases h
  | sh d =>
    rw [hs] at h
    cases d with
    | lst ds =>
      have h : some ds = some (gs.map D.int) := h
      cases h
      obtain ⟨v, e1, r⟩ := S.slot j _ (slotAt_get hs (by simp))
      simp only [Rep] at r
      obtain ⟨a, xs, rfl, e2, r⟩ := r
      cases r.ints
      exact ⟨a, join e1, .inl (SqL.of (S.fh _ _ e2))⟩
    | tup ds =>
      have h : some ds = some (gs.map D.int) := h
      cases h
      obtain ⟨v, e1, r⟩ := S.slot j _ (slotAt_get hs (by simp))
      simp only [Rep] at r
      obtain ⟨a, xs, rfl, e2, r⟩ := r
      cases r.ints
      exact ⟨a, join e1, .inr (same_tup S.fh e2)⟩
    | etp ds =>
      have h : some ds = some (gs.map D.int) := h
      cases h
      obtain ⟨v, e1, r⟩ := S.slot j _ (slotAt_get hs (by simp))
      simp only [Rep] at r
      obtain ⟨a, o, xs, rfl, e2, _, r⟩ := r
      cases r.ints
      exact ⟨a, join e1, .inr (.inl (.inr ⟨o, S.fh _ _ e2⟩))⟩
    | _ => cases h
def TabX (X : Cx) (x : Str) : Prop := ∃ c, X.env.code = .ref c ∧ LamX.TabB X.base X.mg c (He.cT X.K (x, none)).2
end
end PD
namespace PD
open PySem PySem.Spec PyProof.Rows L2
def TabK (K : PySem.W.Frag) (mg : Str → Option Value) (base : Heap) (x : Str) : Prop := mg x = some (.ref (He.ga K x)) ∧ LamX.TabB base mg (He.cT K (x, none)).1 (He.cT K (x, none)).2
theorem fn_tab {P : Program} {w : World} {K : PySem.W.Frag} {mg : Str → Option Value} {base : Heap} {x : Str} {k : Nat} {params : Arguments} {body : List Stmt} {scope : Scope} {a : Addr} {fd : FuncData} {N ps : List Str} {sp : Sp} (F : FunD K x x params body scope [] [] a fd) (S : FnScope N ps scope) (hm : mg x = some (.ref a)) (tb : TabK K mg base x)
    (len : ∀ vs H Q E, sp vs H Q E → vs.length = ps.length)
    (hbody : ∀ (cdv : Value) (A : Around) (outer : List Env) (s : Shared) (H : Hp) (vs : List V) (Q : VK) (E : XK), Room k (A.deeper (envOfC x scope s.heap.objs.size a cdv)) → TabX (cxOf (L2.CX P w) P w K mg base N x scope a cdv A outer s H E) x → sp vs H Q E →
      ∃ t, PSs (cxOf (L2.CX P w) P w K mg base N x scope a cdv A outer s H E) body t ∧ t { nx := fun _ H' => Q .non H', rt := Q } (start N vs) H) : FnOk P w K mg base (L2.CX P w) (k + 1) a fd ps sp := by
  obtain ⟨oc, od, dV, kV, doc, pm, an, cdv, ct, osl, rfl, lk, hcd, _, _⟩ := F.ex
  obtain ⟨hga, tb⟩ := tb
  have ea : a = He.ga K x := by
    rw [hm] at hga
    exact Value.ref.inj (Option.some.inj hga)
  obtain ⟨c, rfl⟩ := He.codeIn_ref hcd
  have ec : (He.cT K (x, none)).1 = c := He.codeOf_eq (p := (x, none)) (by show K.lookup (He.ga K x) = _; rw [← ea]; exact lk) rfl
  refine fn_of lk hcd S len fun A outer s H vs Q E hr hsp => hbody _ A outer s H vs Q E hr ⟨c, rfl, ?_⟩ hsp
  rw [ec] at tb
  exact tb
theorem Fd.mkT {P : Program} {w : World} {K : PySem.W.Frag} {mg : Str → Option Value} {base : Heap} {x : Str} {k n l : Nat} {b : SDen} {params : Arguments} {body : List Stmt} {scope : Scope} {a : Addr} {fd : FuncData} {N ps : List Str} (F : FunD K x x params body scope [] [] a fd) (S : FnScope N ps scope) (hm : mg x = some (.ref a)) (hb : Binds K fd ps []) (tb : TabK K mg base x) (hn : ps.length = n) (hl : N.length = n + l)
    (h : ∀ (cdv : Value) (A : Around) (outer : List Env) (s : Shared) (H : Hp) (E : XK), Room k (A.deeper (envOfC x scope s.heap.objs.size a cdv)) → TabX (cxOf (L2.CX P w) P w K mg base N x scope a cdv A outer s H E) x → PSs (cxOf (L2.CX P w) P w K mg base N x scope a cdv A outer s H E) body (tB K mg (fun cls d _ H => E cls d H) b)) : Fd P w K mg base x (k + 1) n (fnD n l b) := by
  refine ⟨a, fd, ps, fn_tab F S hm tb (fun vs H Q E q => by rw [hn]; exact q.1) (fun cdv A outer s H vs Q E hr tx q => ⟨_, h cdv A outer s H E hr tx, ?_⟩), hm, F.kp, hb⟩
  obtain ⟨hv, B, F0, z, ow, m, ds, S0, r, q⟩ := q
  have hds : ds.length = n := by rw [r.len]; exact hv
  refine ⟨B, F0, z, ow, pad ds l, m, S0.args r (by rw [hl, hds]), ?_⟩
  unfold fnD at q
  rw [if_pos hds] at q
  cases hbd : b (pad ds l) m with
  | nx ρ' m' => rw [hbd] at q; exact fun z' ow' σ' H' hz S' => q z' ow' .non H' hz S'.forget (rep_non.mpr rfl)
  | rt d m' => rw [hbd] at q; exact fun z' ow' v H' hz S' rv => q z' ow' v H' hz S' rv
  | er x ρ' m' => rw [hbd] at q; exact fun z' ow' σ' cv dd H' hz S' ex => q z' ow' cv dd H' hz S'.forget ex
  | bk ρ' m' => rw [hbd] at q; exact q.elim
  | ct ρ' m' => rw [hbd] at q; exact q.elim
  | bad => rw [hbd] at q; exact q.elim
def tabB (g : Addr → Option Obj) (x : Str) (K : PySem.W.Frag) : Bool := PySem.W.codeHdIn K (He.cT K (x, none)).1 (He.cT K (x, none)).2 && (match g (He.cT K (x, none)).2 with
  | some o => He.emptyTab o
  | none => false)
abbrev AlPT : Type := He.AlD × Bool
end PD
namespace PD
open PySem PySem.Spec PyProof.Rows L2
mutual
/-- no locked dict is within -/
def noL : D → Bool
  | .non => true
  | .bl _ => true
  | .int _ => true
  | .str _ => true
  | .tup xs => noLs xs
  | .etp xs => noLs xs
  | .lst xs => noLs xs
  | .dct _ _ vs => noLs vs
  | .ldc _ _ _ => false
  | .row g => noL g
  | .obj _ => true
  | .fn _ => true
  | .scr _ => true
def noLs : List D → Bool
  | [] => true
  | d :: ds => noL d && noLs ds
end
def noLC : Cont → Bool
  | .lst ds => noLs ds
  | .dct _ _ vs => noLs vs
  | .ldc _ _ _ => false
def noLO : Ob → Bool
  | .lst ds => noLs ds
  | .ins _ fs => noLs (fs.map (·.2))
  | .gen _ _ _ => true
  | .tab _ _ => true
def noLM : List Ob → Bool
  | [] => true
  | o :: m => noLO o && noLM m
theorem noLM_at : ∀ {m : List Ob} {n : Nat} {o : Ob}, noLM m = true → m[n]? = some o → noLO o = true
  | [], n, o, _, e => by simp at e
  | x :: m, 0, o, h, e => by
    simp only [noLM, Bool.and_eq_true] at h
    have : x = o := by simpa using e
    rw [← this]
    exact h.1
  | x :: m, n + 1, o, h, e => by
    simp only [noLM, Bool.and_eq_true] at h
    exact noLM_at h.2 (by simpa using e)
def DctO (u : HO) : Prop := (∃ k, u = .dK k) ∨ ∃ k, u = .ext k
section
variable {K : PySem.W.Frag} {mg : Str → Option Value} {z z' : Fz} {d : Addr} {od : Obj} {u : HO}
theorem rd_unl {xs : List V} {a : Addr} (hd : z.F d = some (.frz od u)) (hu : DctO u) (h : ∀ a o, a ≠ d → z.F a = some o → z'.F a = some o) {v : HO} (hv : (∃ xs, v = .tup xs) ∨ ∃ xs, v = .lst xs) (r : Rd z.F a v) : Rd z'.F a v := by
  rcases r with r | ⟨o, r⟩
  · refine .inl (h a _ (fun e => ?_) r)
    rw [e, hd] at r
    rcases hv with ⟨xs, rfl⟩ | ⟨xs, rfl⟩ <;> cases r
  · refine .inr ⟨o, h a _ (fun e => ?_) r⟩
    rw [e, hd] at r
    cases r
    rcases hv with ⟨xs, rfl⟩ | ⟨xs, rfl⟩ <;> rcases hu with ⟨k, e⟩ | ⟨k, e⟩ <;> cases e
theorem DKeys.dct {F : Hp} {a : Addr} {t : Bool} {ks : List D} {vx : List V} {o : HO} (h : DKeys K F a t ks vx o) : DctO o := by
  cases t with
  | false => obtain ⟨kx, _, _, rfl⟩ := h; exact .inl ⟨_, rfl⟩
  | true => obtain ⟨xs, od, es, ep, _, _, _, _, _, _, _, _, rfl⟩ := h; exact .inr ⟨_, rfl⟩
theorem sqt_unl (hd : z.F d = some (.frz od u)) (hu : DctO u) (h : ∀ a o, a ≠ d → z.F a = some o → z'.F a = some o) (a : Addr) (xs : List V) (hs : SqT K z.F a xs) : SqT K z'.F a xs := hs.imp (rd_unl (xs := xs) hd hu h (.inl ⟨_, rfl⟩)) id
mutual
theorem Rep.unl (hd : z.F d = some (.frz od u)) (hu : DctO u) (h : ∀ a o, a ≠ d → z.F a = some o → z'.F a = some o) (hA : z'.As = z.As) : ∀ {x : D} {v : V}, noL x = true → Rep K mg z x v → Rep K mg z' x v
  | .non, _, _, r => by simpa only [Rep] using r
  | .bl _, _, _, r => by simpa only [Rep] using r
  | .int _, _, _, r => by simpa only [Rep] using r
  | .str _, _, _, r => by simpa only [Rep] using r
  | .tup ds, v, n, r => by
    simp only [Rep] at r ⊢
    simp only [noL] at n
    obtain ⟨a, xs, e, hs, hr⟩ := r
    exact ⟨a, xs, e, hs.imp (rd_unl (xs := xs) hd hu h (.inl ⟨_, rfl⟩)) id, Reps.unl hd hu h hA n hr⟩
  | .etp ds, v, n, r => by
    simp only [Rep] at r ⊢
    simp only [noL] at n
    obtain ⟨a, o, xs, e, hs, hn, hr⟩ := r
    refine ⟨a, o, xs, e, h a _ (fun q => ?_) hs, hn, Reps.unl hd hu h hA n hr⟩
    rw [q, hd] at hs
    cases hs
    rcases hu with ⟨k, e⟩ | ⟨k, e⟩ <;> cases e
  | .lst ds, v, n, r => by
    simp only [Rep] at r ⊢
    simp only [noL] at n
    obtain ⟨a, xs, e, hs, hr⟩ := r
    exact ⟨a, xs, e, h a _ (fun q => by rw [q, hd] at hs; cases hs) hs, Reps.unl hd hu h hA n hr⟩
  | .dct t ks vs, v, n, r => by
    simp only [Rep] at r ⊢
    simp only [noL] at n
    obtain ⟨a, o, vx, e, hs, h1, h2⟩ := r
    refine ⟨a, o, vx, e, h a _ (fun q => ?_) hs, Reps.unl hd hu h hA n h1, h2.mono (sqt_unl hd hu h)⟩
    rw [q, hd] at hs
    cases hs
    rcases h2.dct with ⟨k, e⟩ | ⟨k, e⟩ <;> cases e
  | .ldc t ks vs, v, n, r => by simp only [noL] at n; cases n
  | .row g, v, n, r => by
    simp only [Rep] at r ⊢
    simp only [noL] at n
    obtain ⟨a, dx, C, x, e, hm, hs, hr⟩ := r
    exact ⟨a, dx, C, x, e, hm, h a _ (fun q => by rw [q, hd] at hs; cases hs) hs, Rep.unl hd hu h hA n hr⟩
  | .obj n, v, _, r => by
    simp only [Rep] at r ⊢
    rw [hA]
    exact r
  | .fn n, _, _, r => by simpa only [Rep] using r
  | .scr ns, v, _, r => by
    simp only [Rep] at r ⊢
    obtain ⟨a, e, hs⟩ := r
    exact ⟨a, e, hs.imp (rd_unl (xs := ns.map V.int) hd hu h (.inr ⟨_, rfl⟩)) id⟩
theorem Reps.unl (hd : z.F d = some (.frz od u)) (hu : DctO u) (h : ∀ a o, a ≠ d → z.F a = some o → z'.F a = some o) (hA : z'.As = z.As) : ∀ {xs : List D} {vs : List V}, noLs xs = true → Reps K mg z xs vs → Reps K mg z' xs vs
  | [], [], _, _ => by simp only [Reps]
  | d :: ds, v :: vs, n, r => by
    simp only [Reps] at r ⊢
    simp only [noLs, Bool.and_eq_true] at n
    exact ⟨Rep.unl hd hu h hA n.1 r.1, Reps.unl hd hu h hA n.2 r.2⟩
  | [], _ :: _, _, r => by simp only [Reps] at r
  | _ :: _, [], _, r => by simp only [Reps] at r
end
theorem COk.unl (hd : z.F d = some (.frz od u)) (hu : DctO u) (h : ∀ a o, a ≠ d → z.F a = some o → z'.F a = some o) (hA : z'.As = z.As) {c : Cont} {a : Addr} {o : HO} (n : noLC c = true) (r : COk K mg z a c o) : COk K mg z' a c o := by
  cases c with
  | lst ds => obtain ⟨xs, e, r⟩ := r; exact ⟨xs, e, r.unl hd hu h hA n⟩
  | dct t ks vs => obtain ⟨vx, r1, r2⟩ := r; exact ⟨vx, r1.unl hd hu h hA n, r2.mono (sqt_unl hd hu h)⟩
  | ldc t ks vs => cases n
end
def maskS (i : Nat) (L : D) : Nat → List Slot → List Slot
  | _, [] => []
  | k, s :: r => (if k = i then .sh L else match s with
    | .own _ => .non
    | s => s) :: maskS i L (k + 1) r
theorem maskS_len (i : Nat) (L : D) : ∀ (k : Nat) (ρ : List Slot), (maskS i L k ρ).length = ρ.length
  | _, [] => rfl
  | k, s :: r => by simp [maskS, maskS_len i L (k + 1) r]
theorem maskS_get (i : Nat) (L : D) : ∀ (k : Nat) (ρ : List Slot) (j : Nat), (maskS i L k ρ)[j]? = (ρ[j]?).map fun s => if k + j = i then .sh L else match s with
    | .own _ => .non
    | s => s
  | _, [], j => by simp [maskS]
  | k, s :: r, 0 => by simp [maskS]
  | k, s :: r, j + 1 => by
    simp only [maskS, List.getElem?_cons_succ, maskS_get i L (k + 1) r j]
    rw [show k + 1 + j = k + (j + 1) by omega]
def dLock (i : Nat) (de : Den Cont) : Den Cont := fun ρ m => match slotAt ρ i with
  | .own (.dct t ks vs) => match de (maskS i (.ldc t ks vs) 0 ρ) m with
    | .ok (c, m') => if noLC c = true ∧ noLM m' = true then .ok (c, m') else .bad
    | _ => .bad
  | _ => .bad
def lockB (ow : Own) (H : Hp) (d : Addr) : Hp := fun a => if a = d then none else calleeB ow H a
section
variable {K : PySem.W.Frag} {mg : Str → Option Value} {z z1 z2 : Fz} {B B2 F0 : Hp} {ow ow2 : Own} {ρ : List Slot} {m m' : List Ob} {σ : St} {H H2 : Hp} {d : Addr} {u : HO}
theorem StOk.lockIn (S : StOk K mg B F0 z ow ρ m σ H) {i : Nat} {t : Bool} {ks vs : List D} (hi : ρ[i]? = some (.own (.dct t ks vs))) (od : Obj) (e1 : σ[i]? = some (some (V.ref d))) (e2 : H d = some u) (c1 : COk K mg z d (.dct t ks vs) u) (w : ow d = some (.inl i)) :
    StOk K mg (lockB ow H d) (upd z.F d (.frz od u)) ⟨upd z.F d (.frz od u), z.As⟩ (calleeO ow) (maskS i (.ldc t ks vs) 0 ρ) m σ (upd H d (.frz od u)) := by
  obtain ⟨nz, nB, _⟩ := S.ow d _ w
  have hz : z.le ⟨upd z.F d (.frz od u), z.As⟩ := Fz.le_upd nz
  refine ⟨fun a o e => ?_, fun a o e => ?_, Same.refl _, fun a e => .inl e, by rw [maskS_len]; exact S.len, fun j s e => ?_, S.ol, fun n o e => ?_, fun a o e => ?_⟩
  · by_cases ha : a = d
    · subst ha
      rw [show (Fz.F ⟨upd z.F a (.frz od u), z.As⟩) = upd z.F a (.frz od u) from rfl, upd_same] at e
      rw [upd_same]
      exact e
    · rw [show (Fz.F ⟨upd z.F d (.frz od u), z.As⟩) = upd z.F d (.frz od u) from rfl, upd_ne ha] at e
      rw [upd_ne ha]
      exact S.fh a o e
  · unfold lockB at e
    split at e
    · cases e
    · rename_i ha
      rw [upd_ne ha]
      unfold calleeB at e
      split at e
      · cases e
      · exact e
  · rw [maskS_get] at e
    cases hs : ρ[j]? with
    | none => rw [hs] at e; simp at e
    | some s0 =>
      rw [hs] at e
      simp only [Option.map_some, Option.some.injEq, Nat.zero_add] at e
      by_cases hj : j = i
      · rw [if_pos hj] at e
        subst e hj
        refine ⟨.ref d, by rw [e1]; rfl, ?_⟩
        obtain ⟨vx, r1, r2⟩ := c1
        simp only [Rep]
        exact ⟨d, od, u, vx, rfl, upd_same, r1.le hz, r2.mono fun _ _ => same_tup hz.1⟩
      · rw [if_neg hj] at e
        have q := S.slot j s0 hs
        cases s0 with
        | non => subst e; trivial
        | exc a dd x => subst e; exact ExcSl.le hz q
        | sh x => subst e; obtain ⟨y, e3, r⟩ := q; exact ⟨y, e3, r.le hz⟩
        | own c => subst e; trivial
  · obtain ⟨fp, e3, q⟩ := S.ob n o e
    refine ⟨fp, e3, q.mono hz (fun a w1 => by unfold calleeO; rw [w1]) fun a v w1 e4 => ?_⟩
    rw [upd_ne (fun y => by rw [y, w] at w1; cases w1)]
    exact e4
  · unfold calleeO at e
    split at e
    · rename_i n hn
      cases e
      have ha : a ≠ d := fun y => by rw [y, w] at hn; cases hn
      obtain ⟨g1, g2, g3⟩ := S.ow a _ hn
      refine ⟨?_, ?_, ?_⟩
      · show upd z.F d _ a = none
        rw [upd_ne ha]
        exact g1
      · unfold lockB
        rw [if_neg ha]
        unfold calleeB
        rw [hn]
      · rw [upd_ne ha]
        exact g3
    · cases e
theorem StOk.lockOut (S : StOk K mg B F0 z ow ρ m σ H) {i : Nat} {od : Obj} (e2 : H d = some u) (du : DctO u) (w : ow d = some (.inl i)) (hB : Same (lockB ow H d) B2) (hz : Fz.le ⟨upd z.F d (.frz od u), z.As⟩ z2) {ρ2 : List Slot} (S2 : StOk K mg B2 (upd z.F d (.frz od u)) z2 ow2 ρ2 m' σ H2)
    (hm : noLM m' = true) {p : Addr} {o : HO} (hp : lockB ow H d p = none) (hp2 : B2 p = some o) (hp3 : z2.F p = none) :
    ∃ z3 ow3, z.le z3 ∧ (∀ a x, a ≠ d → z2.F a = some x → z3.F a = some x) ∧ z3.As = z2.As ∧ StOk K mg (upd B p o) F0 z3 ow3 ρ m' σ (upd H2 d u) ∧ B p = none ∧ z3.F p = none := by
  obtain ⟨nz, nB, _⟩ := S.ow d _ w
  have hzd : z2.F d = some (.frz od u) := hz.1 _ _ upd_same
  have hpd : p ≠ d := fun y => by rw [y, hzd] at hp3; cases hp3
  have hcb : ∀ a, lockB ow H d a = none → B a = none := fun a e => by
    by_cases ha : a = d
    · rw [ha]; exact nB
    · unfold lockB at e
      rw [if_neg ha] at e
      cases q : B a with
      | none => rfl
      | some o =>
        have hH := S.bh a o q
        cases r : ow a with
        | none => unfold calleeB at e; rw [r] at e; rw [hH] at e; cases e
        | some u => rw [(S.ow a u r).2.1] at q; cases q
  have hcb2 : ∀ a, B2 a = none → B a = none := fun a e => hcb a (hB.free e)
  have hinl : ∀ a j, ow a = some (.inl j) → a ≠ d → lockB ow H d a = H a ∧ H a ≠ none := fun a j e ha => ⟨by unfold lockB; rw [if_neg ha]; unfold calleeB; rw [e], (S.ow a _ e).2.2⟩
  have hno : ∀ a j, ow a = some (.inl j) → ow2 a = none := fun a j e => by
    cases q : ow2 a with
    | none => rfl
    | some v =>
      obtain ⟨g1, g2, g3⟩ := S2.ow a v q
      by_cases ha : a = d
      · rw [ha, hzd] at g1; cases g1
      · obtain ⟨h1, h2⟩ := hinl a j e ha
        have := hB.free g2
        rw [h1] at this
        exact absurd this h2
  have z3z : z.le ⟨fun a => if a = d then none else z2.F a, z2.As⟩ := by
    refine ⟨fun a x e => ?_, ?_⟩
    · have ha : a ≠ d := fun y => by rw [y, nz] at e; cases e
      show (if a = d then none else z2.F a) = some x
      rw [if_neg ha]
      refine hz.1 _ _ ?_
      show upd z.F d _ a = some x
      rw [upd_ne ha]
      exact e
    · obtain ⟨r, er⟩ := hz.2
      exact ⟨r, er⟩
  have stay : ∀ a x, a ≠ d → z2.F a = some x → (Fz.F ⟨fun a => if a = d then none else z2.F a, z2.As⟩) a = some x := fun a x ha e => by
    show (if a = d then none else z2.F a) = some x
    rw [if_neg ha]
    exact e
  refine ⟨⟨fun a => if a = d then none else z2.F a, z2.As⟩, fun a => match ow a with
    | some (.inl j) => some (.inl j)
    | _ => (match ow2 a with
      | some (.inr n) => some (.inr n)
      | _ => none), z3z, stay, rfl, ⟨fun a x e => ?_, fun a x e => ?_, fun a x e => ?_, fun a e => ?_, S.len, fun j s e => ?_, S2.ol, fun n x e => ?_, fun a x e => ?_⟩, hcb p hp, ?_⟩
  · have e : (if a = d then none else z2.F a) = some x := e
    split at e
    · cases e
    · rename_i ha
      rw [upd_ne ha]
      exact S2.fh a x e
  · by_cases hap : a = p
    · subst hap
      rw [upd_same] at e
      cases e
      rw [upd_ne hpd]
      exact S2.bh a _ hp2
    · rw [upd_ne hap] at e
      have ha : a ≠ d := fun y => by rw [y, nB] at e; cases e
      rw [upd_ne ha]
      refine S2.bh a x (hB a x ?_)
      unfold lockB
      rw [if_neg ha]
      unfold calleeB
      cases r : ow a with
      | none => exact S.bh a x e
      | some v => rw [(S.ow a v r).2.1] at e; cases e
  · exact z3z.1 a x (S.f0 a x e)
  · have e : (if a = d then none else z2.F a) ≠ none := e
    by_cases ha : a = d
    · rw [if_pos ha] at e; exact absurd rfl e
    · rw [if_neg ha] at e
      have hap : a ≠ p := fun y => by rw [y] at e; exact e hp3
      rw [upd_ne hap]
      rcases S2.new a e with q | q
      · rw [upd_ne ha] at q
        exact S.new a q
      · exact .inr (hcb2 a q)
  · have q := S.slot j s e
    cases s with
    | non => trivial
    | exc a dd x => exact ExcSl.le z3z q
    | sh x => obtain ⟨y, e1, r⟩ := q; exact ⟨y, e1, r.le z3z⟩
    | own c =>
      obtain ⟨a, x, e1, e3, c1, w1⟩ := q
      refine ⟨a, x, e1, ?_, c1.le z3z, by simp only [w1]⟩
      by_cases ha : a = d
      · subst ha
        rw [e2] at e3
        rw [upd_same]
        exact e3
      · rw [upd_ne ha]
        refine S2.bh a x (hB a x ?_)
        rw [(hinl a j w1 ha).1]
        exact e3
  · obtain ⟨fp, e1, q⟩ := S2.ob n x e
    refine ⟨fp, e1, ?_⟩
    have ho := noLM_at hm e
    have hw : ∀ a, ow2 a = some (.inr n) → (match ow a with
      | some (.inl j) => some (.inl j)
      | _ => (match ow2 a with
        | some (.inr n) => some (.inr n)
        | _ => none)) = some (Sum.inr (α := Nat) n) := fun a h1 => by
      have hn : ∀ j, ow a ≠ some (.inl j) := fun j w1 => by rw [hno a j w1] at h1; cases h1
      split
      · rename_i j hj; exact absurd hj (hn j)
      · rw [h1]
    have hH : ∀ a y, ow2 a = some (.inr n) → H2 a = some y → upd H2 d u a = some y := fun a y h1 h2 => by
      rw [upd_ne (fun q => by have := (S2.ow a _ h1).1; rw [q, hzd] at this; cases this)]
      exact h2
    cases x with
    | gen s cs k =>
      obtain ⟨a, c, e3, ne, h1, h2, w1, w2⟩ := q
      exact ⟨a, c, e3, ne, hH _ _ w1 h1, hH _ _ w2 h2, hw _ w1, hw _ w2⟩
    | lst ds =>
      obtain ⟨a, xs, e3, h1, r, w1⟩ := q
      exact ⟨a, xs, e3, hH _ _ w1 h1, r.unl (z' := ⟨fun a => if a = d then none else z2.F a, z2.As⟩) hzd du stay rfl ho, hw _ w1⟩
    | ins c fs =>
      obtain ⟨a, dx, C, vs, e3, hC, h1, r, w1⟩ := q
      exact ⟨a, dx, C, vs, e3, hC, hH _ _ w1 h1, r.unl (z' := ⟨fun a => if a = d then none else z2.F a, z2.As⟩) hzd du stay rfl ho, hw _ w1⟩
    | tab y q0 =>
      obtain ⟨P, ps, e3, eP, h1, ht, w1, hc⟩ := q
      refine ⟨P, ps, e3, eP, hH _ _ w1 h1, ht, hw _ w1, fun pos cv hcv => ?_⟩
      obtain ⟨c, e4, e5, w2⟩ := hc pos cv hcv
      exact ⟨c, e4, hH _ _ w2 e5, hw _ w2⟩
  · split at e
    · rename_i j hj
      cases e
      obtain ⟨g1, g2, g3⟩ := S.ow a _ hj
      by_cases ha : a = d
      · subst ha
        exact ⟨if_pos rfl, by rw [upd_ne (Ne.symm hpd)]; exact nB, by rw [upd_same]; simp⟩
      · obtain ⟨h1, h2⟩ := hinl a j hj ha
        have hb : lockB ow H d a ≠ none := by rw [h1]; exact h2
        have hap : a ≠ p := fun y => by rw [y] at hb; exact hb hp
        refine ⟨?_, by rw [upd_ne hap]; exact g2, ?_⟩
        · show (if a = d then none else z2.F a) = none
          rw [if_neg ha]
          cases q : z2.F a with
          | none => rfl
          | some x =>
            rcases S2.new a (by rw [q]; simp) with r | r
            · rw [upd_ne ha] at r; exact absurd g1 r
            · exact absurd (hB.free r) hb
        · rw [upd_ne ha]
          cases q : H a with
          | none => exact absurd q h2
          | some x => rw [S2.bh a x (hB a x (by rw [h1]; exact q))]; simp
    · split at e
      · rename_i n hn
        cases e
        obtain ⟨g1, g2, g3⟩ := S2.ow a _ hn
        have ha : a ≠ d := fun y => by rw [y, hzd] at g1; cases g1
        have hap : a ≠ p := fun y => by rw [y, hp2] at g2; cases g2
        exact ⟨by show (if a = d then none else z2.F a) = none; rw [if_neg ha]; exact g1, by rw [upd_ne hap]; exact hcb2 a g2, by rw [upd_ne ha]; exact g3⟩
      · cases e
  · show (if p = d then none else z2.F p) = none
    rw [if_neg hpd]
    exact hp3
end
section
variable {K : PySem.W.Frag} {mg : Str → Option Value} {RW : WX}
theorem lock_step {i : Nat} {de : Den Cont} (σ : St) (H : Hp) (Q : VK) (q : tX K mg RW (dLock i de) (pNew K mg) σ H Q) : ∃ d u, H d = some u ∧ Mut (some u) ∧ ∀ od, tX K mg noRW de (pNew K mg) σ (upd H d (.frz od u)) fun v H' => H' d = some (.frz od u) ∧ Q v (upd H' d u) := by
  obtain ⟨B, F0, z, ow, ρ, m, S, h⟩ := q
  unfold dLock at h
  split at h
  · rename_i t ks vs hs
    have hi := slotAt_get hs (by simp)
    obtain ⟨d, u, e0, e2, c1, w⟩ := S.slot i _ hi
    have e1 : σ[i]? = some (some (V.ref d)) := by
      cases q : σ[i]? with
      | none => rw [q] at e0; cases e0
      | some y => rw [q] at e0; exact congrArg some e0
    have du : DctO u := by obtain ⟨vx, _, r⟩ := c1; exact r.dct
    refine ⟨d, u, e2, by rcases du with ⟨k, rfl⟩ | ⟨k, rfl⟩ <;> exact True.intro, fun od => ?_⟩
    refine ⟨_, _, _, _, _, m, S.lockIn hi od e1 e2 c1 w, ?_⟩
    split at h
    · rename_i c m' hde
      rw [hde]
      split at h
      · rename_i hn
        intro B2 z2 ow2 v H2 hB hz S2 px
        obtain ⟨p, o, rfl, p1, p2, p3, p4⟩ := px
        obtain ⟨z3, ow3, l1, l2, l3, S3, q1, q2⟩ := S.lockOut e2 du w hB hz S2 hn.2 p1 p2 p3
        have hzd : z2.F d = some (.frz od u) := hz.1 _ _ upd_same
        exact ⟨S2.fh _ _ hzd, h (upd B p o) z3 ow3 _ _ (same_upd q1) l1 S3 ⟨p, o, rfl, q1, upd_same, q2, p4.unl hzd du l2 l3 hn.1⟩⟩
      · exact h.elim
    · exact h.elim
  · exact h.elim
end
section
variable {X : Cx} {RW : WX} {e : Expr}
theorem pd_lock {i : Nat} {de : Den Cont} (h : PE X e (tX X.K X.mg noRW de (pNew X.K X.mg))) : PE X e (tX X.K X.mg RW (dLock i de) (pNew X.K X.mg)) := PE.imp (pe_lock h) lock_step
end
end PD
namespace PD
open PySem PySem.Spec PyProof.Rows L2
def dNewDct (t : Bool) : Den Cont := fun _ m => .ok (.dct t [] [], m)
section
variable {X : Cx} {RW : WX} {pos : Pos}
theorem Rem.newDct {K : PySem.W.Frag} {mg : Str → Option Value} {z : Fz} {B F0 : Hp} {ow : Own} {ρ : List Slot} {m : List Ob} {σ : St} {H : Hp} {Q : VK} {c : Cont} {o : HO} (h : Rem K mg RW (.ok (c, m)) B F0 z ρ σ (pNew K mg) Q) (S : StOk K mg B F0 z ow ρ m σ H) {p : Addr} (r : COk K mg z p c o) (hp : H p = none) : Q (.ref p) (upd H p o) := by
  obtain ⟨nz, nB, _⟩ := S.new_none hp
  exact h (upd B p o) z ow (.ref p) (upd H p o) (same_upd nB) (Fz.le.refl _) (S.keep hp o) ⟨p, o, rfl, nB, upd_same, nz, r⟩
theorem pd_newD : PE X (.Dict [] [] pos) (tX X.K X.mg RW (dNewDct false) (pNew X.K X.mg)) :=
  PE.imp pe_dnewK fun σ H Q ⟨B, F0, z, ow, ρ, m, S, q⟩ p hp => Rem.newDct q S ⟨[], .nil, [], rfl, rfl, rfl⟩ hp
end
def dctOf : D → Option (List D × List D)
  | .dct false ks vs => some (ks, vs)
  | .ldc false ks vs => some (ks, vs)
  | _ => none
def dgetK : D → D → Res D := fun x y => match dctOf x, keyOf y with
  | some (ks, vs), some k => (match atD k ks vs with
    | some d => .ok d
    | none => .bad)
  | _, _ => .bad
theorem look_dctOf {K : PySem.W.Frag} {mg : Str → Option Value} {z : Fz} {B B' F0 : Hp} {ow : Own} {ρ : List Slot} {m : List Ob} {σ : St} {H : Hp} {d : D} {ks vs : List D} {v : V} (S : StOk K mg B F0 z ow ρ m σ H) (hd : dctOf d = some (ks, vs)) (h : pLook K mg B' B z ρ σ d v) :
    ∃ (a : Addr) (kx : List Key) (vx : List V), v = .ref a ∧ Rd H a (.dK (kx.zip vx)) ∧ kx.length = vx.length ∧ ks = kx.map keyD ∧ Reps K mg z vs vx := by
  unfold dctOf at hd
  split at hd
  · cases hd
    exact look_dict S h
  · cases hd
    obtain ⟨a, o, e, h1, od, u, vx, rfl, r, kx, hl, hk, rfl⟩ := look_cont (c := .ldc false ks vs) S h
    exact ⟨a, kx, vx, e, .inr ⟨od, h1⟩, hl, hk, r⟩
  · cases hd
section
variable {X : Cx} {RW : WX} {a b : Expr} {da db : Den D} {pos : Pos}
theorem dgetK_r : BinR X (fun x y H Q => ∃ a v, x = .ref a ∧ DGet H a y (some v) ∧ Q v H) dgetK := by
  intro RW B F0 z ow ρ m σ H x y dx dy Q S px py h
  unfold dgetK at h
  split at h
  · rename_i ks vs k hx hk
    split at h
    · rename_i d hd
      obtain ⟨a, kx, vx, rfl, hr, hl, rfl, r⟩ := look_dctOf S hx px
      obtain ⟨v, hv, rv⟩ := (atD_some hl r).1 d hd
      exact ⟨a, v, rfl, .inl ⟨_, k, hr, look_key hk py, hv.symm⟩, h.here S rv⟩
    · exact h.elim
  · exact h.elim
theorem pd_dgetK (hu : X.A.units + 1 < cLine) (ha : PE X a (tX X.K X.mg RW da (pLook X.K X.mg))) (hb : PE X b (tX X.K X.mg RW db (pLook X.K X.mg))) (hs : NoSl b := by exact fun _ _ => rfl) :
    PE X (.Subscript a b pos) (tX X.K X.mg RW (dBin dgetK da db) (pVal X.K X.mg)) := PE.imp (pe_dget hu ha hb hs) (two_step dgetK_r)
end
def putV (k : Key) (v : D) : List D → List D → List D
  | x :: ks, w :: vs => (if keyOf x = some k then v else w) :: putV k v ks vs
  | _, vs => vs
def putC (k : Key) (v : D) (ks vs : List D) : Cont := if (atD k ks vs).isSome = true then .dct false ks (putV k v ks vs) else .dct false (ks ++ [keyD k]) (vs ++ [v])
def dputS (i : Nat) (dk dv : Den D) : SDen := fun ρ m => match slotAt ρ i with
  | .own (.dct false ks vs) => bindS (dv ρ m) ρ fun d m1 => bindS (dk ρ m1) ρ fun k m2 => (match keyOf k with
    | some j => if vs.length < sizeLine then .nx (ρ.set i (.own (putC j d ks vs))) m2 else .bad
    | none => .bad)
  | _ => .bad
theorem put_map {K : PySem.W.Frag} {mg : Str → Option Value} {z : Fz} {k : Key} {v : D} {y : V} (ry : Rep K mg z v y) : ∀ {kx : List Key} {vx : List V} {vs : List D}, kx.length = vx.length → Reps K mg z vs vx →
    ∃ vy, vy.length = vx.length ∧ Reps K mg z (putV k v (kx.map keyD) vs) vy ∧ (kx.zip vx).map (fun kv => if kv.1 = k then (kv.1, y) else kv) = kx.zip vy
  | [], vx, vs, hl, r => by
    have : vx = [] := by cases vx with
      | nil => rfl
      | cons => simp at hl
    subst this
    refine ⟨[], rfl, ?_, rfl⟩
    simp only [List.map_nil, putV]
    exact r
  | x :: kx, [], vs, hl, r => by simp at hl
  | x :: kx, w :: vx, vs, hl, r => by
    cases vs with
    | nil => simp only [Reps] at r
    | cons d0 vs =>
      simp only [Reps] at r
      obtain ⟨vy, l1, r1, e1⟩ := put_map ry (kx := kx) (vx := vx) (vs := vs) (by simpa using hl) r.2
      by_cases e : x = k
      · refine ⟨y :: vy, by simp [l1], ?_, ?_⟩
        · simp only [List.map_cons, putV, keyOf_k]
          rw [if_pos (congrArg some e)]
          exact Reps.cons ry r1
        · simp only [List.zip_cons_cons, List.map_cons]
          rw [if_pos e, e1]
      · refine ⟨w :: vy, by simp [l1], ?_, ?_⟩
        · simp only [List.map_cons, putV, keyOf_k]
          rw [if_neg (fun q => e (Option.some.inj q))]
          exact Reps.cons r.1 r1
        · simp only [List.zip_cons_cons, List.map_cons]
          rw [if_neg e, e1]
theorem put_cok {K : PySem.W.Frag} {mg : Str → Option Value} {z : Fz} {a : Addr} {k : Key} {v : D} {y : V} (ry : Rep K mg z v y) {kx : List Key} {vx : List V} {vs : List D} (hl : kx.length = vx.length) (r : Reps K mg z vs vx) :
    COk K mg z a (putC k v (kx.map keyD) vs) (.dK (putK (kx.zip vx) k y)) := by
  have hs : (valV (kx.zip vx) k).isSome = (atD k (kx.map keyD) vs).isSome := by
    cases hd : atD k (kx.map keyD) vs with
    | none => rw [(atD_some hl r).2 hd]; rfl
    | some d => obtain ⟨v, hv, _⟩ := (atD_some hl r).1 d hd; rw [hv]; rfl
  unfold putC putK
  rw [valV_any, hs]
  split
  · obtain ⟨vy, l1, r1, e1⟩ := put_map (k := k) ry hl r
    exact ⟨vy, r1, kx, by rw [l1, hl], rfl, by rw [e1]⟩
  · refine ⟨vx ++ [y], r.append (.cons ry .nil), kx ++ [k], by simp [hl], by simp, ?_⟩
    rw [List.zip_append hl]
    rfl
section
variable {X : Cx} {RW : WX} {e ei : Expr} {px p2 pos : Pos}
theorem sd_dput {i : Nat} {x : Str} {di de : Den D} (hu : X.A.units + 1 < cLine) (hv : PE X (.Name x px) (tVar i)) (hi : PE X ei (tX X.K X.mg RW di (pLook X.K X.mg))) (he : PE X e (tX X.K X.mg RW de (pVal X.K X.mg)))
    (hs : swapsWith e (some (.Subscript (.Name x px) ei p2)) pos.line X.env = pure false := by rfl) : PS X (.Assign [.Subscript (.Name x px) ei p2] e pos) (tB X.K X.mg RW (dputS i di de)) :=
  PS.imp (ps_dput hu hv hi he hs) fun D σ H ⟨B, F0, z, ow, ρ, m, S, q⟩ => by
    unfold dputS at q
    split at q
    · rename_i ks vs hs
      refine ⟨B, F0, z, ow, ρ, m, S, Rem.stepS q fun d m1 B1 z1 ow1 v H1 hB hz S1 pd q1 => ?_⟩
      have S1' := S1.weak hB
      obtain ⟨_, a, _, e3, _, _⟩ := slot_own S1' hs
      refine ⟨.ref a, e3, B, F0, z1, ow1, ρ, m1, S1', Rem.stepS q1 fun k m2 B2 z2 ow2 kv H2 hB2 hz2 S2 pk q2 => ?_⟩
      have S2' := S2.weak hB2
      obtain ⟨hg, a2, o, e4, hH, vx, r, kx, hl, rfl, rfl⟩ := slot_own S2' hs
      rw [e3] at e4
      cases e4
      cases hk : keyOf k with
      | none => simp only [hk] at q2; exact q2.elim
      | some j =>
        simp only [hk] at q2
        split at q2
        · rename_i hlt
          have hz : (kx.zip vx).length < sizeLine := by
            rw [List.length_zip, hl, Nat.min_self, ← r.len]
            exact hlt
          refine ⟨a, _, rfl, .inl ⟨_, j, hH, look_key hk pk, hz, rfl⟩, ?_⟩
          exact q2 z2 ow2 σ _ (Fz.le.refl _) (S2'.change hg e3 (put_cok (Rep.le hz2 pd) hl r))
        · exact q2.elim
    · exact q.elim
end
def tSeal (t : TS) : TS := fun D σ H => ∃ d u, H d = some u ∧ Mut (some u) ∧ ∀ od, t D σ (upd H d (.frz od u))
theorem pss_seal {X : Cx} {st : List Stmt} {t : TS} (h : PSs X st t) : PSs X st (tSeal t) := by
  refine ⟨fun pins s σ H D I hw => ?_⟩
  obtain ⟨d, u, hd, mu, hw⟩ := hw
  obtain ⟨od, I1⟩ := I.lock hd mu
  exact h.run pins s σ _ _ I1 (hw od)
def sealS (i : Nat) (a : SDen) : SDen := fun ρ m => match slotAt ρ i with
  | .own (.dct t ks vs) => a (ρ.set i (.sh (.ldc t ks vs))) m
  | _ => .bad
section
variable {X : Cx} {RW : WX}
theorem seal_step {i : Nat} {a : SDen} (D : Ends) (σ : St) (H : Hp) (q : tB X.K X.mg RW (sealS i a) D σ H) : tSeal (tB X.K X.mg RW a) D σ H := by
  obtain ⟨B, F0, z, ow, ρ, m, S, h⟩ := q
  unfold sealS at h
  split at h
  · rename_i t ks vs hs
    obtain ⟨hg, d, u, e1, hH, vx, r, dk⟩ := slot_own S hs
    refine ⟨d, u, hH, by rcases dk.dct with ⟨k, rfl⟩ | ⟨k, rfl⟩ <;> exact True.intro, fun od => ?_⟩
    have S1 := S.change (c' := .ldc t ks vs) (o := .frz od u) hg e1 ⟨od, u, vx, rfl, r, dk⟩
    obtain ⟨hl, _⟩ := List.getElem?_eq_some_iff.mp hg
    refine freeze_step (i := i) D σ _ ⟨B, F0, z, ow, _, m, S1, ?_⟩
    unfold freezeS
    have e2 : slotAt (ρ.set i (.own (.ldc t ks vs))) i = .own (.ldc t ks vs) := slotAt_of (List.getElem?_set_self hl)
    rw [e2]
    dsimp only
    rw [List.set_set]
    exact h
  · exact h.elim
theorem sd_seal {i : Nat} {st : List Stmt} {a : SDen} (h : PSs X st (tB X.K X.mg RW a)) : PSs X st (tB X.K X.mg RW (sealS i a)) := PSs.imp (pss_seal h) seal_step
end
end PD
namespace PD
open PySem PySem.Spec PyProof.Rows L2
end PD
namespace PD
open PySem PySem.Spec PyProof.Rows L2
end PD
namespace PD
open PySem PySem.Spec PyProof.Rows L2
end PD
namespace PD
open PySem PySem.Spec PyProof.Rows L2
end PD
namespace PD
open PySem PySem.Spec PyProof.Rows L2
end PD
namespace PD
open PySem PySem.Spec PyProof.Rows L2
def dObL (da : Den (List D)) : Den D := fun ρ m => (da ρ m).bind fun x => if x.1.length ≤ sizeLine then .ok (.obj x.2.length, x.2 ++ [.lst x.1]) else .bad
def dListOb (de : Den D) : Den Cont := fun ρ m => (de ρ m).bind fun x => match x.1 with
  | .obj n => (match x.2[n]? with
    | some (.lst ds) => .ok (.lst ds, x.2)
    | _ => .bad)
  | _ => .bad
def dTupOb (de : Den D) : Den D := fun ρ m => (de ρ m).bind fun x => match x.1 with
  | .obj n => (match x.2[n]? with
    | some (.lst ds) => .ok (.tup ds, x.2)
    | _ => .bad)
  | _ => .bad
def appObS (dob : Den D) (de : Den (List D)) : SDen := fun ρ m => bindS (dob ρ m) ρ fun o m1 => match o with
  | .obj n => (match m1[n]? with
    | some (.lst _) => bindS (de ρ m1) ρ fun ys m2 => (match ys, m2[n]? with
      | [y], some (.lst ds) => if ds.length < sizeLine then .nx ρ (m2.set n (.lst (ds ++ [y]))) else .bad
      | _, _ => .bad)
    | _ => .bad)
  | _ => .bad
section
variable {K : PySem.W.Frag} {mg : Str → Option Value} {B F0 H : Hp} {z : Fz} {ow : Own} {ρ : List Slot} {m : List Ob} {σ : St}
theorem StOk.lstAt (S : StOk K mg B F0 z ow ρ m σ H) {n : Nat} {ds : List D} (hm : m[n]? = some (.lst ds)) : ∃ a xs, z.As[n]? = some [a] ∧ H a = some (.lst xs) ∧ Reps K mg z ds xs ∧ ow a = some (.inr n) := by
  obtain ⟨fp, e, a, xs, rfl, h⟩ := S.ob n _ hm
  exact ⟨a, xs, e, h⟩
theorem StOk.atOb (S : StOk K mg B F0 z ow ρ m σ H) {n : Nat} {ds : List D} {v : V} (hm : m[n]? = some (.lst ds)) (r : Rep K mg z (.obj n) v) : ∃ a xs, v = .ref a ∧ z.As[n]? = some [a] ∧ H a = some (.lst xs) ∧ Reps K mg z ds xs ∧ ow a = some (.inr n) := by
  obtain ⟨a, xs, e1, e2, e3, e4⟩ := S.lstAt hm
  obtain ⟨a0, rr, rfl, e5⟩ := rep_obj.mp r
  rw [e1] at e5
  cases e5
  exact ⟨a, xs, rfl, e1, e2, e3, e4⟩
end
section
variable {X : Cx} {RW : WX} {e : Expr} {es : List Expr} {pos : Pos}
theorem pd_obL {da : Den (List D)} (ha : PA X es (tX X.K X.mg RW da (pVals X.K X.mg))) : PE X (.List es pos) (tX X.K X.mg RW (dObL da) (pVal X.K X.mg)) :=
  PE.imp (pe_lst ha) fun σ H Q q => tX.imp q fun B F0 z ow ρ m S h => Rem.step pVal.pm h fun x m1 B1 z1 ow1 vs H1 hB hz S1 px h1 => by
    dsimp only at h1
    split at h1
    · rename_i hl
      refine ⟨by rw [← Reps.len px]; exact hl, fun p hp => ?_⟩
      obtain ⟨ow', S2⟩ := S1.obNew (u := .lst vs) (o := .lst x) hp fun ow' hw => ⟨p, vs, rfl, upd_same, Reps.le (z := z1) (z' := ⟨z1.F, z1.As ++ [[p]]⟩) ⟨Same.refl _, [[p]], rfl⟩ (show Reps X.K X.mg z1 x vs from px), hw⟩
      have hle : z1.le ⟨z1.F, z1.As ++ [[p]]⟩ := ⟨Same.refl _, _, rfl⟩
      exact h1 B1 ⟨z1.F, z1.As ++ [[p]]⟩ ow' (.ref p) _ (Same.refl _) hle S2 (rep_obj.mpr ⟨p, [], rfl, by
        show (z1.As ++ [[p]])[m1.length]? = _
        rw [List.getElem?_append_right (by rw [S1.ol]; exact Nat.le_refl _), S1.ol, Nat.sub_self]
        rfl⟩)
    · exact h1.elim
theorem pd_listOb {de : Den D} {p : Pos} (h : PE X e (tX X.K X.mg RW de (pVal X.K X.mg))) (hG : Gl X "list") (hm : X.mg "list" = none) (he : starEach [e] X.env = (false, eval e X.env) :: starEach [] X.env := by rfl) (hpl : (backTo pos (starEach [] X.env)).any (·.1) = false := by rfl) :
    PE X (.Call (.Name "list" p) [e] [] pos) (tX X.K X.mg RW (dListOb de) (pNew X.K X.mg)) :=
  PE.imp (pe_callTy call_list_of hG hm (by decide +kernel) (pa_cons h pa_nil he) (by decide) (by decide) he hpl) fun σ H Q q => tX.imp q fun B F0 z ow ρ m S h => Rem.step pNew.pm h fun x m1 B1 z1 ow1 v H1 hB hz S1 px h1 => by
    dsimp only at h1
    split at h1
    · rename_i n _
      split at h1
      · rename_i ds hm1
        obtain ⟨a, xs, rfl, e1, e2, e3, e4⟩ := S1.atOb hm1 px
        exact ⟨a, xs, rfl, .inl (SqL.of e2), fun l hl => Rem.newLst (ds := ds) h1 S1 e3 hl⟩
      · exact h1.elim
    · exact h1.elim
theorem pd_tupOb {de : Den D} {p : Pos} (h : PE X e (tX X.K X.mg RW de (pVal X.K X.mg))) (hG : Gl X "tuple") (hm : X.mg "tuple" = none) (he : starEach [e] X.env = (false, eval e X.env) :: starEach [] X.env := by rfl) (hpl : (backTo pos (starEach [] X.env)).any (·.1) = false := by rfl) :
    PE X (.Call (.Name "tuple" p) [e] [] pos) (tX X.K X.mg RW (dTupOb de) (pVal X.K X.mg)) :=
  PE.imp (pe_callTy call_tuple_of hG hm (by decide +kernel) (pa_cons h pa_nil he) (by decide) (by decide) he hpl) fun σ H Q q => tX.imp q fun B F0 z ow ρ m S h => Rem.step pVal.pm h fun x m1 B1 z1 ow1 v H1 hB hz S1 px h1 => by
    dsimp only at h1
    split at h1
    · rename_i n _
      split at h1
      · rename_i ds hm1
        obtain ⟨a, xs, rfl, e1, e2, e3, e4⟩ := S1.atOb hm1 px
        exact ⟨a, xs, rfl, .inl ⟨SqL.of e2, fun l hl => Rem.newTup (ds := ds) h1 S1 e3 hl⟩⟩
      · exact h1.elim
    · exact h1.elim
theorem sd_appOb {o : Expr} {de : Den (List D)} {dob : Den D} {st : Stmt} (hv : PE X o (tX X.K X.mg RW dob (pVal X.K X.mg))) (ha : PA X (e :: es) (tX X.K X.mg RW de (pVals X.K X.mg)))
    (h : ∀ to t, PE X o to → PA X (e :: es) t → PS X st (tDrop (tBM X.K "list" rAppend to t))) : PS X st (tB X.K X.mg RW (appObS dob de)) :=
  PS.imp (h _ _ hv ha) fun D σ H ⟨B, F0, z, ow, ρ, m, S, q⟩ => by
    refine ⟨B, F0, z, ow, ρ, m, S, Rem.stepS q fun d m1 B1 z1 ow1 v H1 hB hz S1 pv q1 => ?_⟩
    have S1' := S1.weak hB
    split at q1
    · rename_i n _
      split at q1
      · rename_i ds0 hm1
        obtain ⟨a, xs0, rfl, e1, e2, _, _⟩ := S1'.atOb hm1 pv
        refine ⟨.inl ⟨rfl, _, SqL.of e2⟩, B, F0, z1, ow1, ρ, m1, S1', Rem.stepS q1 fun ys m2 B2 z2 ow2 vs H2 hB2 hz2 S2 ps q2 => ?_⟩
        have S2' := S2.weak hB2
        split at q2
        · rename_i y ds hm2
          split at q2
          · rename_i hl
            obtain ⟨w, vs', rfl, rw_, rn⟩ := Reps.uncons ps
            cases rn.nil_of
            obtain ⟨a', xs, f1, f2, f3, f4⟩ := S2'.lstAt hm2
            have := hz2.at e1
            rw [f1] at this
            cases this
            refine ⟨a, xs, w, rfl, rfl, f2, by rw [← f3.len]; exact hl, ?_⟩
            refine q2 z2 ow2 σ _ (Fz.le.refl _) (S2'.obSet (o' := .lst (ds ++ [y])) (u := .lst (xs ++ [w])) hm2 f1 f4 (by rw [f2]; simp) ?_)
            exact ⟨a, xs ++ [w], rfl, upd_same, f3.append (.cons rw_ .nil), f4⟩
          · exact q2.elim
        · exact q2.elim
      · exact q1.elim
    · exact q1.elim
end
end PD
namespace PD
open PySem PySem.Spec PyProof.Rows L2
def rowsI? : List D → Option (List (List Int))
  | [] => some []
  | .tup xs :: r => (match ints? xs, rowsI? r with
    | some a, some b => some (a :: b)
    | _, _ => none)
  | _ => none
theorem rowsI_eq : ∀ {ds : List D} {rows : List (List Int)}, rowsI? ds = some rows → ds = rows.map fun r => D.tup (r.map .int)
  | [], rows, h => by cases h; rfl
  | .tup xs :: ds, rows, h => by
    simp only [rowsI?] at h
    cases h1 : ints? xs with
    | none => rw [h1] at h; cases h
    | some a =>
      cases h2 : rowsI? ds with
      | none => rw [h1, h2] at h; cases h
      | some b =>
        rw [h1, h2] at h
        cases h
        rw [List.map_cons, ints?_eq h1, rowsI_eq h2]
  | .non :: _, _, h => by simp [rowsI?] at h
  | .bl _ :: _, _, h => by simp [rowsI?] at h
  | .int _ :: _, _, h => by simp [rowsI?] at h
  | .str _ :: _, _, h => by simp [rowsI?] at h
  | .etp _ :: _, _, h => by simp [rowsI?] at h
  | .lst _ :: _, _, h => by simp [rowsI?] at h
  | .dct _ _ _ :: _, _, h => by simp [rowsI?] at h
  | .ldc _ _ _ :: _, _, h => by simp [rowsI?] at h
  | .row _ :: _, _, h => by simp [rowsI?] at h
  | .obj _ :: _, _, h => by simp [rowsI?] at h
  | .fn _ :: _, _, h => by simp [rowsI?] at h
  | .scr _ :: _, _, h => by simp [rowsI?] at h
abbrev rowLt : List Int → List Int → Bool := W.listLt
def minRow (r : List Int) (rs : List (List Int)) : List Int := rs.foldl (fun a y => if rowLt y a = true then y else a) r
theorem minRow_mem : ∀ (rs : List (List Int)) (r : List Int), minRow r rs ∈ r :: rs
  | [], r => List.mem_cons_self ..
  | y :: rs, r => by
    have h := minRow_mem rs (if rowLt y r = true then y else r)
    show minRow (if rowLt y r = true then y else r) rs ∈ r :: y :: rs
    rcases List.mem_cons.mp h with h | h
    · rw [h]
      split
      · exact List.mem_cons_of_mem _ (List.mem_cons_self ..)
      · exact List.mem_cons_self ..
    · exact List.mem_cons_of_mem _ (List.mem_cons_of_mem _ h)
theorem minOf_row : ∀ (rs : List (List Int)) (r : List Int), W.minOf (W.Tup.mk r) (rs.map W.Tup.mk) = W.Tup.mk (minRow r rs)
  | [], r => rfl
  | y :: rs, r => by
    show W.minOf (if W.DatumOrd.lt (W.Tup.mk y) (W.Tup.mk r) = true then W.Tup.mk y else W.Tup.mk r) (rs.map W.Tup.mk) = _
    have e : W.DatumOrd.lt (W.Tup.mk y) (W.Tup.mk r) = rowLt y r := rfl
    rw [e]
    show _ = W.Tup.mk (minRow (if rowLt y r = true then y else r) rs)
    rw [← minOf_row rs]
    split <;> rfl
def minTD : D → Res D
  | .lst xs => (match rowsI? xs with
    | some (r :: rs) => .ok (.tup ((minRow r rs).map .int))
    | _ => .bad)
  | _ => .bad
def minTdD : D → Res D
  | .lst xs => (match rowsI? xs with
    | some (r :: rs) => .ok (.tup ((minRow r rs).map .int))
    | some [] => .ok .non
    | _ => .bad)
  | _ => .bad
section
variable {X : Cx} {pins : List (Addr × Obj)} {σ : St} {H : Hp} {s : Shared}
theorem holds_rowI (I : Inv X pins σ H s) {v : V} {u : Value} {r : List Int} (h : ∃ a, v = .ref a ∧ SqT X.K H a (r.map V.int)) (rv : RelV v u) : W.Holds s.heap u (W.Tup.mk r) := by
  obtain ⟨a, rfl, h⟩ := h
  cases (show u = Value.ref a from rv)
  obtain ⟨its, ri, ⟨o, e1, e2, n, e3⟩, _⟩ := I.tuple h
  have hall : ∀ {ns : List Int} {us : List Value}, Vals (ns.map V.int) us → ReadsAll s.heap us (ns.map PyData.int) [] := by
    intro ns
    induction ns with
    | nil => intro us r; cases r; exact .nil
    | cons n ns ih =>
      intro us r
      cases r with
      | cons h t =>
        obtain ⟨tk, rfl⟩ := (show ∃ t, _ = Value.int n t from h)
        exact .cons (.int n tk) (ih t)
  exact ⟨[], .tuple e1 e2 e3 (hall ri)⟩
theorem holds_rows (I : Inv X pins σ H s) : ∀ {rows : List (List Int)} {vs : List V} {us : List Value}, vs.length = rows.length → (∀ (i : Nat) v r, vs[i]? = some v → rows[i]? = some r → ∃ a, v = .ref a ∧ SqT X.K H a (r.map V.int)) → Vals vs us → W.HoldAll s.heap us (rows.map W.Tup.mk)
  | [], [], us, _, _, r => by cases r; exact .nil
  | [], _ :: _, _, h, _, _ => by simp at h
  | _ :: _, [], _, h, _, _ => by simp at h
  | row :: rows, v :: vs, _, h, ha, .cons rv rr => .cons (holds_rowI I (ha 0 v row rfl rfl) rv) (holds_rows I (by simpa using h) (fun i v r e1 e2 => ha (i + 1) v r (by simpa using e1) (by simpa using e2)) rr)
def rMinR (K : PySem.W.Frag) (dflt : Bool) : List V → Hp → VK → Prop := fun xs H Q => ∃ (a : Addr) (vs : List V) (rows : List (List Int)), xs = [.ref a] ∧ SqL K H a vs ∧ vs.length = rows.length ∧ (∀ (i : Nat) v r, vs[i]? = some v → rows[i]? = some r → ∃ a, v = .ref a ∧ SqT K H a (r.map V.int)) ∧
  match rows with
  | [] => dflt = true ∧ Q .non H
  | r :: rs => ∀ (i : Nat) (v : V), vs[i]? = some v → rows[i]? = some (minRow r rs) → Q v H
theorem row_at (I : Inv X pins σ H s) {vs : List V} {its : List Value} {rows : List (List Int)} {mr : List Int} {h' : Heap} {i : Nat} {u : Value} (hl : vs.length = rows.length) (ha : ∀ (i : Nat) v r, vs[i]? = some v → rows[i]? = some r → ∃ a, v = .ref a ∧ SqT X.K H a (r.map V.int)) (rv : Vals vs its)
    (k : ∀ b o, s.heap.get? b = some o → h'.get? b = some o) (hi : its.toArray[i]? = some u) (hh : W.Holds h' u (W.Tup.mk mr)) : ∃ v, vs[i]? = some v ∧ RelV v u ∧ rows[i]? = some mr := by
  have hi : its[i]? = some u := by simpa using hi
  have hlen := rv.length
  obtain ⟨lt, _⟩ := List.getElem?_eq_some_iff.mp hi
  have hv : vs[i]? = some vs[i] := List.getElem?_eq_getElem (by omega)
  have hr : rows[i]? = some rows[i] := List.getElem?_eq_getElem (by omega)
  obtain ⟨u', e1, r1⟩ := rv.get hv
  rw [hi] at e1
  cases e1
  refine ⟨_, hv, r1, ?_⟩
  obtain ⟨as, ra⟩ := holds_rowI I (ha i _ _ hv hr) r1
  obtain ⟨bs, rb⟩ := hh
  have ra' := PyProof.Rows.Reads.keeps k ra
  have e := Reads.unique ra' _ _ rb
  have e2 := e.1
  have inj : ∀ {a b : List Int}, W.Datum.toD (W.Tup.mk a) = W.Datum.toD (W.Tup.mk b) → a = b := fun {a b} h => by
    have h : PyData.tuple (a.map PyData.int) = PyData.tuple (b.map PyData.int) := h
    injection h with h
    have g : ∀ {a b : List Int}, a.map PyData.int = b.map PyData.int → a = b := by
      intro a
      induction a with
      | nil => intro b h; cases b with
        | nil => rfl
        | cons => cases h
      | cons x a ih => intro b h; cases b with
        | nil => cases h
        | cons y b =>
          rw [List.map_cons, List.map_cons] at h
          injection h with h1 h2
          injection h1 with h1
          rw [h1, ih h2]
    exact g h
  rw [hr, inj e2]
theorem cr_minRd (hc : X.calm = true) (hu : X.A.units + 64 < cLine) : CallRK X (.builtin "min") [Str.ofString "default"] (fun xs zs H Q => zs = [.non] ∧ rMinR X.K true xs H Q) := by
  intro pins s σ H xs zs us ws Q I r rz h
  obtain ⟨rfl, a, vs, rows, rfl, hs, hl, ha, q⟩ := h
  obtain ⟨its, rv, pl, _⟩ := I.list hs
  rw [Vals.ref1 r]
  obtain ⟨d, rfl, rd⟩ := rz.one
  cases (show d = Value.none from rd)
  have hall := holds_rows I hl ha rv
  refine W.min_list_datum_default (α := W.Tup Int) (xs := rows.map W.Tup.mk) (I.ok.hd hc) pl.isList (by simpa using hall) (by show X.A.units + 1 + (0 + 1) < cLine; omega) (fun e h' tk k => ?_) fun y ys i v h' tk e hi hh k => ?_
  · cases rows with
    | nil => exact ⟨.non, H, I.kept (t' := tk) k, rfl, q.2⟩
    | cons row rows => cases e
  · cases rows with
    | nil => cases e
    | cons row rows =>
      rw [List.map_cons] at e
      injection e with e1 e2
      subst e1 e2
      rw [minOf_row] at hh
      obtain ⟨y, e1, e2, e3⟩ := row_at I hl ha rv k hi hh
      exact ⟨y, H, I.kept (t' := tk) k, e2, q i y e1 e3⟩
end
section
variable {X : Cx} {RW : WX}
theorem rows_look {z : Fz} {B F0 : Hp} {ow : Own} {ρ : List Slot} {m : List Ob} {σ : St} {H : Hp} {xs : List D} {v : V} {rows : List (List Int)} (S : StOk X.K X.mg B F0 z ow ρ m σ H) (p : pLook X.K X.mg B B z ρ σ (.lst xs) v) (hr : rowsI? xs = some rows) :
    ∃ (a : Addr) (vs : List V), v = .ref a ∧ SqL X.K H a vs ∧ vs.length = rows.length ∧ (∀ (i : Nat) v r, vs[i]? = some v → rows[i]? = some r → Rep X.K X.mg z (.tup (r.map .int)) v) ∧ (∀ (i : Nat) v r, vs[i]? = some v → rows[i]? = some r → ∃ a, v = .ref a ∧ SqT X.K H a (r.map V.int)) := by
  obtain ⟨a, ys, rfl, e, r⟩ := look_list S p
  rw [rowsI_eq hr] at r
  have hrep : ∀ (i : Nat) v r, ys[i]? = some v → rows[i]? = some r → Rep X.K X.mg z (.tup (r.map .int)) v := fun i v row e1 e2 => by
    obtain ⟨v', e3, r3⟩ := r.get (i := i) (d := .tup (row.map .int)) (by rw [List.getElem?_map, e2]; rfl)
    rw [e1] at e3
    cases e3
    exact r3
  refine ⟨a, ys, rfl, SqL.of e, by rw [← r.len, List.length_map], hrep, fun i v row e1 e2 => ?_⟩
  have q := hrep i v row e1 e2
  simp only [Rep] at q
  obtain ⟨b, zs, rfl, hz, rz⟩ := q
  cases rz.ints
  exact ⟨b, rfl, same_tup S.fh hz⟩
def dMinDfl (da : Den (List D)) : Den D := fun ρ m => (da ρ m).bind fun x => (oneArg minTdD x.1).bind fun d => .ok (d, x.2)
theorem pd_minDfl {e : Expr} {da : Den (List D)} {p pos kwp cp : Pos} {j : Nat} (hu : X.A.units + 64 < cLine) (hc : X.calm = true) (hg : Gl X "min") (hm : X.mg "min" = none) (ha : PA X [e] (tX X.K X.mg RW da (pLooks X.K X.mg)))
    (hk : PK X [⟨some "default", .Constant .none j cp, kwp⟩] (tCons (tC .non) tNil))
    (he : backTo pos (starEach [e] X.env) = (false, eval e X.env) :: backTo pos (starEach [] X.env) := by rfl) (hpl : (backTo pos (starEach [e] X.env)).any (·.1) = false := by rfl)
    (hall : (backToKw pos (keywordEach [⟨some "default", .Constant .none j cp, kwp⟩] X.env)).all (·.1.isSome) = true := by rfl) (hnone : (backToKw pos (keywordEach [⟨some "default", .Constant .none j cp, kwp⟩] X.env)).any (·.1.isNone) = false := by rfl) (hks : (backToKw pos (keywordEach [⟨some "default", .Constant .none j cp, kwp⟩] X.env)).filterMap (·.1) = [Str.ofString "default"] := by rfl) :
    PE X (.Call (.Name "min" p) [e] [⟨some "default", .Constant .none j cp, kwp⟩] pos) (tX X.K X.mg RW (dMinDfl da) (pVal X.K X.mg)) :=
  PE.imp (pe_callBK (cr_minRd hc hu) hg hm boot_min ha hk (by decide) (by decide) he hpl hall hnone hks) fun σ H Q q => tX.imp q fun B F0 z ow ρ m S h => Rem.step pVal.pm h fun x m1 B1 z1 ow1 vs H1 hB hz S1 px h1 => by
    refine ⟨rfl, ?_⟩
    match x, h1, px with
    | [.lst xs], h1, px =>
      obtain ⟨v, rfl, p⟩ := looks_one px
      change Rem _ _ _ ((match rowsI? xs with
        | some (r :: rs) => Res.ok (D.tup ((minRow r rs).map .int))
        | some [] => .ok .non
        | _ => .bad).bind fun d => .ok (d, m1)) _ _ _ _ _ _ _ at h1
      split at h1
      · rename_i r rs hr
        obtain ⟨a, ys, rfl, e1, e2, e3, e4⟩ := rows_look S1 p hr
        exact ⟨a, ys, r :: rs, rfl, e1, e2, e4, fun i v h2 h3 => Rem.here (d := D.tup ((minRow r rs).map .int)) h1 S1 (e3 i v _ h2 h3)⟩
      · rename_i hr
        obtain ⟨a, ys, rfl, e1, e2, e3, e4⟩ := rows_look S1 p hr
        exact ⟨a, ys, [], rfl, e1, e2, e4, rfl, Rem.here (d := D.non) h1 S1 (rep_non.mpr rfl)⟩
      · exact h1.elim
    | [.non], h1, _ => exact h1.elim
    | [.bl _], h1, _ => exact h1.elim
    | [.int _], h1, _ => exact h1.elim
    | [.str _], h1, _ => exact h1.elim
    | [.tup _], h1, _ => exact h1.elim
    | [.etp _], h1, _ => exact h1.elim
    | [.dct _ _ _], h1, _ => exact h1.elim
    | [.ldc _ _ _], h1, _ => exact h1.elim
    | [.row _], h1, _ => exact h1.elim
    | [.obj _], h1, _ => exact h1.elim
    | [.fn _], h1, _ => exact h1.elim
    | [.scr _], h1, _ => exact h1.elim
    | [], h1, _ => exact h1.elim
    | _ :: _ :: _, h1, _ => exact h1.elim
end
end PD
namespace PD
open PySem PySem.Spec PyProof.Rows L2
def tabAd (K : PySem.W.Frag) (x : Str) : Addr := (He.cT K (x, none)).2
structure SaysPTs (fb : List Fb) (fn : List He5.DefA) (xs : List Str) (h : Heap) (K : PySem.W.Frag) : Prop where
  p : SaysP fb fn K
  nd : (xs.map (tabAd K)).Nodup
  hd : ∀ x ∈ xs, PySem.W.codeHdIn K (He.cT K (x, none)).1 (He.cT K (x, none)).2 = true
  out : ∀ x ∈ xs, K.lookup (He.cT K (x, none)).2 = none
  empty : ∀ x ∈ xs, h.get? (He.cT K (x, none)).2 = some { cls := .none, data := .fields #[] }
def tabsB (g : Addr → Option Obj) (xs : List Str) (K : PySem.W.Frag) : Bool := decide ((xs.map (tabAd K)).Nodup) && xs.all fun x => tabB g x K
def tabsOb (ts : List (Str × Str)) : List Ob := ts.map fun t => .tab t.1 t.2
theorem spF_entryTs {K : PySem.W.Frag} {mg : Str → Option Value} {f : FDen} {H : Hp} {a : Addr} {ns : List Int} {m' : List Ob} {ts : List (Str × Str)} (nd : (ts.map fun t => tabAd K t.1).Nodup) (hP : ∀ t ∈ ts, H (tabAd K t.1) = some (.tbl #[])) (hS : SqL K H a (ns.map V.int)) (h : f [.scr ns] (tabsOb ts) = .ok (.bl true, m')) :
    spF K mg 1 f [.ref a] H (fun v _ => v = .bl true) fun _ _ _ => False := by
  have nP : ∀ b, b ∈ (ts.map fun t => tabAd K t.1) → (fun b => if b ∈ (ts.map fun t => tabAd K t.1) then none else H b) b = none := fun b hb => if_pos hb
  have eF : ∀ b o, (fun b => if b ∈ (ts.map fun t => tabAd K t.1) then none else H b) b = some o → H b = some o := fun b o e => by
    have e : (if b ∈ (ts.map fun t => tabAd K t.1) then none else H b) = some o := e
    split at e
    · cases e
    · exact e
  have hat : ∀ b, b ∈ (ts.map fun t => tabAd K t.1) → H b = some (.tbl #[]) := fun b hb => by
    obtain ⟨t, ht, rfl⟩ := List.mem_map.mp hb
    exact hP t ht
  refine ⟨rfl, fun b => if b ∈ (ts.map fun t => tabAd K t.1) then none else H b, fun b => if b ∈ (ts.map fun t => tabAd K t.1) then none else H b, ⟨fun b => if b ∈ (ts.map fun t => tabAd K t.1) then none else H b, ts.map fun t => [tabAd K t.1]⟩, fun b => if b ∈ (ts.map fun t => tabAd K t.1) then some (.inr ((ts.map fun t => tabAd K t.1).idxOf b)) else none, tabsOb ts, [.scr ns],
    ⟨fun b o e => eF b o e, fun b o e => eF b o e, Same.refl _, fun a e => .inl e, rfl, fun i s e => by simp at e, by unfold tabsOb; rw [List.length_map, List.length_map], fun n o e => ?_, fun b o e => ?_⟩, .cons (rep_scr.mpr ⟨a, rfl, ?_⟩) .nil, ?_⟩
  · unfold tabsOb at e
    rw [List.getElem?_map] at e
    obtain ⟨t, ht, rfl⟩ := Option.map_eq_some_iff.mp e
    obtain ⟨hn, e2⟩ := List.getElem?_eq_some_iff.mp ht
    have hmem : t ∈ ts := by rw [← e2]; exact List.getElem_mem hn
    have hmm : tabAd K t.1 ∈ (ts.map fun t => tabAd K t.1) := List.mem_map.mpr ⟨t, hmem, rfl⟩
    have hidx : (ts.map fun t => tabAd K t.1).idxOf (tabAd K t.1) = n := by
      have hn' : n < (ts.map fun t => tabAd K t.1).length := by rw [List.length_map]; exact hn
      have e3 : (ts.map fun t => tabAd K t.1)[n] = tabAd K t.1 := by rw [List.getElem_map, e2]
      have := nd.idxOf_getElem n hn'
      rw [e3] at this
      exact this
    refine ⟨[tabAd K t.1], by rw [List.getElem?_map, ht]; rfl, tabAd K t.1, #[], rfl, rfl, hP t hmem, True.intro, ?_, fun pos cv hc => ?_⟩
    · show (if tabAd K t.1 ∈ (ts.map fun t => tabAd K t.1) then some (Sum.inr ((ts.map fun t => tabAd K t.1).idxOf (tabAd K t.1))) else none) = _
      rw [if_pos hmm, hidx]
    · have hc : codeAmong pos [] = some cv := hc
      simp [codeAmong] at hc
  · have e : (if b ∈ (ts.map fun t => tabAd K t.1) then some (Sum.inr ((ts.map fun t => tabAd K t.1).idxOf b)) else none) = some o := e
    split at e
    · rename_i hb
      exact ⟨nP b hb, nP b hb, by rw [hat b hb]; simp⟩
    · cases e
  · have keep : ∀ u, H a = some u → (∀ z, u ≠ .tbl z) → (if a ∈ (ts.map fun t => tabAd K t.1) then none else H a) = some u := fun u e nt => by
      rw [if_neg (fun w => by rw [hat a w] at e; exact nt #[] (Option.some.inj e).symm)]
      exact e
    rcases hS with (y | ⟨o, y⟩) | y
    · exact .inl (.inl (keep _ y (fun _ z => by cases z)))
    · exact .inl (.inr ⟨o, keep _ y (fun _ z => by cases z)⟩)
    · exact .inr y
  · rw [h]
    exact fun z' ow' v H' _ _ r => rep_bl.mp r
theorem walk_pdTs {l : PySem.W.OpenLaw} {n k : Nat} {p : Program} {loose : List Str} {XP : (Str → Option Value) → Heap → Prop} {YP : World → Heap → Prop} {d : DefRec} {y : Str} {ts : List (Str × Str)} {f : FDen}
    (hn : l.most = some n) (hn2 : n ≤ sizeLine) (hdf : d.params.defaults = []) (hr : Room k callerA)
    (F : ∀ (w : World) (mg : Str → Option Value) (fa : Addr) (h : Heap), YP w h → h.Ns mainGlobals mg → mg d.name = some (.ref fa) →
      ∃ (K : PySem.W.Frag) (fd : FuncData), K.In h ∧ (ts.map fun t => tabAd K t.1).Nodup ∧ (∀ t ∈ ts, PySem.W.codeHdIn K (He.cT K (t.1, none)).1 (He.cT K (t.1, none)).2 = true) ∧ (∀ t ∈ ts, K.lookup (He.cT K (t.1, none)).2 = none) ∧ (∀ t ∈ ts, h.get? (He.cT K (t.1, none)).2 = some { cls := .none, data := .fields #[] }) ∧ (∀ (s : Shared) (u : Value), BindsTo s fd ⟨[u], []⟩ [(y, u)]) ∧
        ∀ base : Heap, K.In base → base.Ns mainGlobals mg → (∀ t ∈ ts, LamX.TabB base mg (He.cT K (t.1, none)).1 (He.cT K (t.1, none)).2) → FnOk l.prog w K mg base (L2.CX l.prog w) k fa fd [y] (spF K mg 1 f))
    (hf : ∀ ns : List Int, ns.length ≤ n → ∃ m', f [.scr ns] (tabsOb ts) = .ok (.bl true, m')) :
    PySem.W.WalkO p loose XP YP l.row.toRowW d [] (fun f vs => PySem.call f vs) := by
  refine Att.attach_callB hn hdf fun w s₀ s₁ mg mb fa o pm cd doc a vs ns G Y ho hd hcd hmg hobj hints hlen hbits hg => ?_
  obtain ⟨K, fd, KX, nd, c1, c2, c3, hb, hF⟩ := F w mg fa _ Y G.T.g hmg
  obtain ⟨m', hm⟩ := hf ns hlen
  have all : ∀ {φ : Addr × Addr → Prop}, (∀ t ∈ ts, φ (He.cT K (t.1, none))) → ∀ p ∈ ts.map (fun t => He.cT K (t.1, none)), φ p := fun h p hp => by
    obtain ⟨t, ht, rfl⟩ := List.mem_map.mp hp
    exact h t ht
  have mem : ∀ t ∈ ts, He.cT K (t.1, none) ∈ ts.map (fun t => He.cT K (t.1, none)) := fun t ht => List.mem_map.mpr ⟨t, ht, rfl⟩
  refine LamX.law_callTs (cs := ts.map fun t => He.cT K (t.1, none)) KX G.T.g G.T.b G.T.builtins G.T.nolimit hg (all c3) (all c2) (all fun t ht => PySem.W.codeHd_of_K KX (c1 t ht)) G.T.bmain hobj hints (Nat.le_trans hlen hn2) hr (fun base KB nb tb => hF base KB nb fun t ht => tb _ (mem t ht)) hb (fun H hH hS => spF_entryTs (ts := ts) nd (fun t ht => hH _ (mem t ht)) hS hm) fun H e s' z => ?_
  obtain ⟨_, _, _, _, _, _, _, _, _, _, _, _, z⟩ := z
  exact z.elim
def DrawnTs (ts : List (Str × Str)) (m : List Ob) : Prop := ∃ s cs i, m = tabsOb ts ++ [.gen s cs i] ∧ cs.length ≤ 63
theorem tabsOb_len (ts : List (Str × Str)) : (tabsOb ts).length = ts.length := List.length_map ..
theorem next_okTs {ts : List (Str × Str)} {m : List Ob} {b : Int} (h : DrawnTs ts m) (hb : 0 < b) (hl : b.natAbs.log2 < 9000) : ∃ (r : Int) (m' : List Ob), den_law_next [.obj ts.length, .int b] m = .ok (.int r, m') ∧ 0 ≤ r ∧ r < b ∧ DrawnTs ts m' := by
  obtain ⟨s, cs, i, rfl, hc⟩ := h
  obtain ⟨r, s', cs', i', e, h1, h2, h3⟩ := nextG_ok s cs i b hb
  refine ⟨r, tabsOb ts ++ [.gen s' cs' i'], ?_, h1, h2, s', cs', i', rfl, by omega⟩
  have hat : (tabsOb ts ++ [Ob.gen s cs i])[ts.length]? = some (.gen s cs i) := by
    rw [List.getElem?_append_right (by rw [tabsOb_len]; exact Nat.le_refl _), tabsOb_len, Nat.sub_self]
    rfl
  have hset : (tabsOb ts ++ [Ob.gen s cs i]).set ts.length (.gen s' cs' i') = tabsOb ts ++ [.gen s' cs' i'] := by
    rw [List.set_append, if_neg (by rw [tabsOb_len]; omega), tabsOb_len, Nat.sub_self]
    rfl
  unfold den_law_next
  dsimp only
  rw [if_pos ⟨hb, hl⟩, hat]
  show (if cs.length ≤ 1000 then (match nextG s cs i b with
      | some (r, g) => Res.ok (D.int r, (tabsOb ts ++ [Ob.gen s cs i]).set ts.length g)
      | none => .bad) else .bad) = _
  rw [if_pos (by omega), e]
  dsimp only
  rw [hset]
theorem next_natTs {ts : List (Str × Str)} {m : List Ob} {b : Nat} (h : DrawnTs ts m) (hb : 0 < b) (hl : b.log2 < 9000) : ∃ (r : Nat) (m' : List Ob), den_law_next [.obj ts.length, .int (b : Int)] m = .ok (.int (r : Int), m') ∧ r < b ∧ DrawnTs ts m' := by
  obtain ⟨r, m', e, h1, h2, h3⟩ := next_okTs (b := (b : Int)) h (by omega) hl
  obtain ⟨k, rfl⟩ := Int.eq_ofNat_of_zero_le h1
  exact ⟨k, m', e, by omega, h3⟩
theorem mix_drawnTs (ts : List (Str × Str)) (ns : List Int) (seed : Int) (h : ns.length ≤ 63) : ∃ m : List Ob, denMix [.scr ns, .int seed] (tabsOb ts) = .ok (.obj ts.length, m) ∧ DrawnTs ts m := by
  obtain ⟨y, y3, e⟩ := mix_loop (.sh (.scr ns)) (.sh (.int seed)) (tabsOb ts) ns seed .non
  refine ⟨tabsOb ts ++ [.gen y ns 0], fnD_rt rfl ?_, y, ns, 0, rfl, h⟩
  have q : asScr (.scr ns) = .ok (ns.map D.int) := rfl
  have q2 : listScr (.scr ns) = .ok (.lst (ns.map D.int)) := rfl
  simp [q, e, dGen, q2, ints?_map, tabsOb_len]
end PD
namespace PD
open PySem PySem.Spec PyProof.Rows L2
theorem blkOk_n {N : List Str} {sc' scope : Scope} {own : List (Str × Nat)} (h : blkC N scope scope own = true) (hf : (scope.names.all fun y => match y.2 with
    | .free => (match sc'.names.lookup y.1 with
      | some .cell => true
      | some .free => true
      | _ => false)
    | _ => true) = true) : BlkOk N sc' scope own := by
  have b := blkOk_by h
  refine ⟨b.kind, b.uniq, b.ix, fun y hy e => ?_, b.own⟩
  have q := List.all_eq_true.mp hf y hy
  rw [e] at q
  dsimp only at q
  split at q
  · rename_i h1; exact .inl h1
  · rename_i h1; exact .inr h1
  · cases q
end PD
namespace PD
open PySem PySem.Spec PyProof.Rows L2
mutual
theorem hash_noTxt (w w' : World) : ∀ k : NestedKey, noTxt k = true → k.hash w = k.hash w'
  | .none, _ => rfl
  | .num _, _ => rfl
  | .text _, h => by cases h
  | .tup ks, h => by
    simp only [noTxt] at h
    simp only [NestedKey.hash, hashes_noTxt w w' ks h]
theorem hashes_noTxt (w w' : World) : ∀ ks : List NestedKey, noTxts ks = true → NestedKey.hashes w ks = NestedKey.hashes w' ks
  | [], _ => rfl
  | k :: ks, h => by
    simp only [noTxts, Bool.and_eq_true] at h
    simp only [NestedKey.hashes, hash_noTxt w w' k h.1, hashes_noTxt w w' ks h.2]
end
theorem okKey_hash {k : NestedKey} (h : okKey k = true) (w w' : World) : k.hash w = k.hash w' := by
  cases k with
  | tup ks =>
    simp only [okKey, Bool.and_eq_true] at h
    exact hash_noTxt w w' _ h.1
  | _ => cases h
theorem okKey_depth {k : NestedKey} (h : okKey k = true) : k.depth ≤ 8 := by
  cases k with
  | tup ks =>
    simp only [okKey, Bool.and_eq_true, decide_eq_true_eq] at h
    exact h.2
  | _ => cases h
section
variable {X : Cx} {pins : List (Addr × Obj)} {σ : St} {H : Hp} {s : Shared}
mutual
theorem nk_is (I : Inv X pins σ H s) : ∀ {k : NestedKey} {v : V} {u : Value}, NKAt X.K H k v → RelV v u → NestedIs s.heap k u
  | .none, v, u, h, r => by
    simp only [NKAt] at h
    subst h
    cases (show u = Value.none from r)
    exact .none
  | .num i, v, u, h, r => by
    simp only [NKAt] at h
    subst h
    obtain ⟨t, rfl⟩ := (show ∃ t, u = Value.int i t from r)
    exact .int i t
  | .text x, v, u, h, r => by
    simp only [NKAt] at h
    subst h
    obtain ⟨t, rfl⟩ := (show ∃ t, u = Value.str x t from r)
    exact .text x t
  | .tup ks, v, u, h, r => by
    simp only [NKAt] at h
    obtain ⟨a, xs, rfl, h1, h2⟩ := h
    obtain rfl : u = Value.ref a := r
    obtain ⟨its, rv, ht, _⟩ := I.tuple h1
    obtain ⟨o, e1, e2, n, e3⟩ := ht
    exact .tup e1 e2 e3 (by simpa using nks_are I h2 rv)
theorem nks_are (I : Inv X pins σ H s) : ∀ {ks : List NestedKey} {vs : List V} {us : List Value}, NKAts X.K H ks vs → Vals vs us → NestedAll s.heap ks us
  | [], [], us, _, r => by cases r; exact .nil
  | k :: ks, v :: vs, us, h, r => by
    simp only [NKAts] at h
    cases r with
    | cons r1 r2 => exact .cons (nk_is I h.1 r1) (nks_are I h.2 r2)
  | [], _ :: _, _, h, _ => h.elim
  | _ :: _, [], _, h, _ => h.elim
end
def NObj (xs : List (NestedKey × Addr × Value)) (od : Obj) : Prop := od.ExactDict ∧ (∃ es ep, od.data = .dict es ep ∧ ∀ w, es.toList = xs.map (entN w)) ∧ (xs.map (·.1)).Nodup
abbrev rawO (a : Addr) (od : Obj) : HO := .ext fun h => h.get? a = some od
def NDat (K : PySem.W.Frag) (H : Hp) (a : Addr) (xs : List (NestedKey × Addr × Value)) (od : Obj) : Prop := NObj xs od ∧ (∀ x ∈ xs, okKey x.1 = true ∧ NKAt K H x.1 (.ref x.2.1)) ∧ (a == sysModules) = false ∧ Rd H a (rawO a od)
theorem NDat.get (I : Inv X pins σ H s) {a : Addr} {xs : List (NestedKey × Addr × Value)} {od : Obj} (h : NDat X.K H a xs od) : s.heap.get? a = some od := by
  have q := h.2.2.2.ok I.hok
  exact q.1
theorem NDat.dict (I : Inv X pins σ H s) {a : Addr} {xs : List (NestedKey × Addr × Value)} {od : Obj} (h : NDat X.K H a xs od) : s.heap.DictOfH (nestedKind X.prog X.w) a xs := by
  have q := NDat.get I h
  obtain ⟨⟨h1, ⟨es, ep, h2, h3⟩, h4⟩, h5, _, _⟩ := h
  exact ⟨od, es, ep, q, h1, h2, h3 X.w, fun x hx => ⟨nk_is I (h5 x hx).2 rfl, okKey_depth (h5 x hx).1⟩, h4⟩
theorem nk_key (I : Inv X pins σ H s) {k : NestedKey} {b : Addr} (h1 : NKAt X.K H k (.ref b)) (h2 : okKey k = true) : (nestedKind X.prog X.w).is s.heap k b := ⟨nk_is I h1 rfl, okKey_depth h2⟩
theorem room_nk {A : Around} (hu : A.units + 9 < cLine) : (nestedKind X.prog X.w).room A.in1 := by
  show A.in1.units + 8 < cLine
  rw [Around.in1_units]
  omega
def tNGet (K : PySem.W.Frag) (td ty : TE) : TE := fun σ H Q => td σ H fun x H1 => ty σ H1 fun y H2 => ∃ a b xs od k p v, x = .ref a ∧ y = .ref b ∧ NDat K H2 a xs od ∧ NKAt K H2 k y ∧ okKey k = true ∧ atKey xs k = some p ∧ RelV v p.2 ∧ Q v H2
def tNNotIn (K : PySem.W.Frag) (ty td : TE) : TE := fun σ H Q => ty σ H fun y H1 => td σ H1 fun x H2 => ∃ a b xs od k, x = .ref a ∧ y = .ref b ∧ NDat K H2 a xs od ∧ NKAt K H2 k y ∧ okKey k = true ∧ Q (.bl (!(atKey xs k).isSome)) H2
def sNPut (K : PySem.W.Frag) (td ty tv : TE) : TS := fun D σ H => tv σ H fun v H1 => td σ H1 fun x H2 => ty σ H2 fun y H3 => ∃ a b xs od k, x = .ref a ∧ y = .ref b ∧ NDat K H3 a xs od ∧ H3 a = some (rawO a od) ∧ NKAt K H3 k y ∧ okKey k = true ∧ xs.length < sizeLine ∧
  ∀ u od', RelV v u → NObj (storedH xs k b u) od' → D.nx σ (upd H3 a (rawO a od'))
theorem storedH_keys {xs : List (NestedKey × Addr × Value)} {k : NestedKey} {b : Addr} {u : Value} {R : NestedKey → Addr → Prop} (h : ∀ x ∈ xs, R x.1 x.2.1) (hk : R k b) : ∀ x ∈ storedH xs k b u, R x.1 x.2.1 := by
  intro x hx
  unfold storedH at hx
  split at hx
  · obtain ⟨y, hy, rfl⟩ := List.mem_map.mp hx
    unfold putAt
    split
    · exact h y hy
    · exact h y hy
  · rcases List.mem_append.mp hx with hx | hx
    · exact h x hx
    · rw [List.mem_singleton] at hx
      subst hx
      exact hk
theorem entries_all {w : World} {xs : List (NestedKey × Addr × Value)} (h : ∀ x ∈ xs, okKey x.1 = true) (w' : World) : xs.map (entN w) = xs.map (entN w') := List.map_congr_left fun x hx => by
  unfold entN
  rw [okKey_hash (h x hx) w w']
theorem nobj_of {h' : Heap} {a : Addr} {xs : List (NestedKey × Addr × Value)} (q : h'.DictOfH (nestedKind X.prog X.w) a xs) (ok : ∀ x ∈ xs, okKey x.1 = true) : ∃ od, h'.get? a = some od ∧ NObj xs od := by
  obtain ⟨o, es, ep, e1, e2, e3, e4, _, e5⟩ := q
  exact ⟨o, e1, e2, ⟨es, ep, e3, fun w => by rw [e4]; exact entries_all (w := X.w) ok w⟩, e5⟩
theorem raw_ok {P : Program} {w : World} {H : Hp} {h : Heap} {a : Addr} {od : Obj} (e : h.get? a = some od) : ObjOk P w H h a (rawO a od) := ⟨e, ⟨od, e⟩, fun h1 h2 e1 e2 => e2 _ e1⟩
end
section
variable {X : Cx} {o i e f value : Expr} {pos pos' apos cpos : Pos} {td ty tv tx : TE}
theorem pe_nget (hu : X.A.units + 9 < cLine) (ho : PE X o td) (hi : PE X i ty) (hs : NoSl i) : PE X (.Subscript o i pos) (tNGet X.K td ty) := by
  refine ⟨fun pins s σ H Q I h => ?_⟩
  refine subD_of PySem.F.slot_dict_getitem.lookup hs (thn (ho.run pins s σ H _ I h) fun u s1 ⟨x, H1, I1, rx, q1⟩ => thn (hi.run pins s1 σ H1 _ I1 q1) fun iv s2 ⟨y, H2, I2, ry, a, b, xs, od, k, p, v, ex, ey, g, hk, ok, hp, rv, q2⟩ => ?_)
  subst ex ey
  obtain rfl : u = Value.ref a := rx
  obtain rfl : iv = Value.ref b := ry
  have dd := NDat.dict I2 g
  exact ⟨dd.typeIs, wpAny_getItem_heap (room_nk hu) (nk_key I2 hk ok) dd hp ⟨v, H2, I2.tok _, rv, q2⟩⟩
theorem pc_nnotin (hu : X.A.units + 9 < cLine) (hi : PE X i ty) (ho : PE X o td) : PC X .NotIn i o (tNNotIn X.K ty td) := by
  refine ⟨fun pins s σ H Q I h => ?_⟩
  refine thn (hi.run pins s σ H _ I h) fun iv s1 ⟨y, H1, I1, ry, q1⟩ => thn (ho.run pins s1 σ H1 _ I1 q1) fun u s2 ⟨x, H2, I2, rx, a, b, xs, od, k, ex, ey, g, hk, ok, q2⟩ => ?_
  subst ex ey
  obtain rfl : u = Value.ref a := rx
  obtain rfl : iv = Value.ref b := ry
  exact wpAny_notIn_heap (room_nk hu) (nk_key I2 hk ok) g.2.2.1 (NDat.dict I2 g) ⟨.bl _, H2, I2.tok _, rfl, q2⟩
theorem ps_nput (hu : X.A.units + 9 < cLine) (ho : PE X o td) (hi : PE X i ty) (hv : PE X value tv) (hs : swapsWith value (some (.Subscript o i pos')) pos.line X.env = pure false) :
    PS X (.Assign [.Subscript o i pos'] value pos) (sNPut X.K td ty tv) := by
  refine ⟨fun pins s σ H D I h => ?_⟩
  refine wpAny_Assign_Subscript (thn (hv.run pins s σ H _ I h) fun r s1 ⟨v, H1, I1, rv, q1⟩ => thn (ho.run pins s1 σ H1 _ I1 q1) fun u s2 ⟨x, H2, I2, rx, q2⟩ => thn (hi.run pins s2 σ H2 _ I2 q2) fun iv s3 ⟨y, H3, I3, ry, a, b, xs, od, k, ex, ey, g, hr, hk, ok, hl, q3⟩ => ?_) hs
  subst ex ey
  obtain rfl : u = Value.ref a := rx
  obtain rfl : iv = Value.ref b := ry
  refine wpAny_setItem_heap (room_nk hu) (nk_key I3 hk ok) (NDat.dict I3 g) (fun h' dd' hs' => ?_) (Nat.le_of_lt hl)
  obtain ⟨od', e1, e2⟩ := nobj_of dd' (storedH_keys (R := fun k _ => okKey k = true) (fun x hx => (g.2.1 x hx).1) ok)
  exact ⟨σ, _, d_write I3 (by rw [hr]; exact True.intro) hs' ⟨od', e1⟩ (raw_ok e1), q3 r od' rv e2⟩
def tNNew : TE := fun _ H Q => ∀ p od, H p = none → NObj [] od → (p == sysModules) = false → Q (.ref p) (upd H p (rawO p od))
theorem pe_nnew : PE X (.Dict [] [] pos) tNNew := ⟨fun pins s σ H Q I h => by
  refine wpAny_Dict_empty ?_
  refine ⟨.ref s.heap.objs.size, _, I.laid (a := s.heap.objs.size) (o := rawO s.heap.objs.size _) (t' := s.toks) (fun b q hq => Heap.get?_push_of_some _ hq) (Nat.le_refl _) (raw_ok (Heap.get?_push_size _ rfl)), rfl, h _ _ (I.hok.fresh (Nat.le_refl _)) ⟨⟨rfl, rfl, rfl⟩, ⟨#[], 0, rfl, fun _ => rfl⟩, List.nodup_nil⟩ (beq_eq_false_iff_ne.mpr (Ne.symm (Nat.ne_of_lt I.big)))⟩⟩
def tNGet2 (K : PySem.W.Frag) (td ty tx : TE) : TE := fun σ H Q => td σ H fun x H1 => ∃ a, x = .ref a ∧ (∃ xs od, NDat K H1 a xs od) ∧ ty σ H1 fun y H2 => tx σ H2 fun z H3 => ∃ b xs od k, y = .ref b ∧ NDat K H3 a xs od ∧ NKAt K H3 k y ∧ okKey k = true ∧
  (atKey xs k = none → Q z H3) ∧ ∀ p, atKey xs k = some p → ∃ v, RelV v p.2 ∧ Q v H3
theorem pe_nget2 (hu : X.A.units + 9 < cLine) (ho : PE X o td) (he : PE X e ty) (hf : PE X f tx) (m : M2 X o "get" apos e f cpos) : PE X (.Call (.Attribute o "get" apos) [e, f] [] cpos) (tNGet2 X.K td ty tx) := by
  refine ⟨fun pins s σ H Q I h => ?_⟩
  refine wpAny_Call_method m.base m.few m.line PySem.F.plainAttrs_dict PySem.F.slot_dict_get PySem.F.type_dict_get (thn (ho.run pins s σ H _ I h) fun u s1 ⟨x, H1, I1, rx, a, ex, ⟨xs0, od0, g0⟩, q1⟩ => ?_)
  subst ex
  obtain rfl : u = Value.ref a := rx
  have d0 := NDat.dict I1 g0
  refine ⟨d0.typeIs, fun b eb => ?_, ?_⟩
  · cases eb
    exact ⟨od0, NDat.get I1 g0, g0.1.1.2.1⟩
  rw [m.trees]
  refine Calls.callWith_builtin rfl (Calls.evalArgs_plain (Calls.spliced_cons (thn (he.run pins s1 σ H1 _ I1 q1) fun iv s2 ⟨y, H2, I2, ry, q2⟩ =>
    Calls.spliced_cons (thn (hf.run pins s2 σ H2 _ I2 q2) fun fv s3 ⟨z, H3, I3, rz, b, xs, od, k, ey, g, hk, ok, n1, n2⟩ => Calls.spliced_nil ?_))))
  subst ey
  obtain rfl : iv = Value.ref b := ry
  have dd := NDat.dict I3 g
  refine call_meetsIn PySem.F.slot_dict_get dd.typeIs PySem.F.entry_dict_get (PySem.F.args_dict_get_3 _ _ _) (meetsH_dict_get_default (nestedKind X.prog X.w) a b g.2.2.1 fv) ⟨room_nk hu, k, xs, nk_key I3 hk ok, dd, ?_⟩
  cases hp : atKey xs k with
  | none => exact ⟨z, H3, I3.tok _, rz, n1 hp⟩
  | some p =>
    obtain ⟨v, rv, q3⟩ := n2 p hp
    exact ⟨v, H3, I3.tok _, rv, q3⟩
def ItN (d : Addr) (o : Obj) (u : HO) (xs : List (NestedKey × Addr × Value)) : It :=
  ⟨fun i H => H d = some (.frz o u) ∧ i < xs.length, fun i H x H' => H' = H ∧ ∃ y, xs[i]? = some y ∧ x = .ref y.2.1, fun i H => H d = some (.frz o u) ∧ xs.length ≤ i⟩
theorem frzN {pins : List (Addr × Obj)} {σ : St} {H : Hp} {s : Shared} (I : Inv X pins σ H s) {d : Addr} {od : Obj} {u : HO} (h : H d = some (.frz od u)) : s.heap.get? d = some od := (I.hok d _ h).1
theorem turn_keysN {P : Program} {w : World} {K : PySem.W.Frag} {tg : Expr} {d : Addr} {o : Obj} {u : HO} {es : Array DictEntry} {ep : Nat} {xs : List (NestedKey × Addr × Value)} (it : Addr) (hx : o.ExactDict) (hod : o.data = .dict es ep) (hs : (d == sysModules) = false) (he : es.toList = xs.map (entN w)) :
    Turn P w K tg (ItN d o u xs) [it] it (fun i h => h.IsKeyIter it d i xs.length ep) where
  mem := by simp
  obj := fun i h st b hb => by
    have e : b = it := by simpa using hb
    subst e
    obtain ⟨oi, e, c, dd⟩ := st
    exact ⟨oi, e, fun v z => by rw [dd] at z; cases z⟩
  keep := fun i h h' st k => st.at fun oi e => k it (by simp) oi e
  item := by
    intro X hP hw hK hc i pins s σ H E I hf st hg
    subst hP hw hK
    obtain ⟨hd, hi⟩ := hg
    obtain ⟨f0, f1, f2, f3, f4, f5⟩ := hf it (by simp)
    have hgd := frzN I hd
    have hsz : es.size = xs.length := by rw [← Array.length_toList, he, List.length_map]
    obtain ⟨y, hy⟩ : ∃ p, xs[i]? = some p := ⟨xs[i], List.getElem?_eq_getElem hi⟩
    have hen : es[i]? = some (entN X.w y) := by rw [← Array.getElem?_toList, he, List.getElem?_map, hy]; rfl
    refine next_key_item st hgd hod hsz hen fun h' st' sb => ?_
    have I1 : Inv X pins σ H { s with heap := h' } := I.turned (t' := s.toks) (fun b ob hb e => (sb.2 b hb).trans e) f0 f1 f3 f4 f5
    obtain ⟨oi, e, c, dd⟩ := id st'
    exact ⟨.ref y.2.1, rfl, go_of (s := { s with heap := h' }) e c dd (by decide) ⟨.ref y.2.1, H, I1, rfl, ⟨rfl, y, hy, rfl⟩, st', fun b hb => (hf b hb).1⟩⟩
  done := by
    intro X hP hw hK hc i pins s σ H E I hf st hg
    subst hP hw hK
    obtain ⟨hd, hi⟩ := hg
    obtain ⟨f0, f1, f2, f3, f4, f5⟩ := hf it (by simp)
    have hgd := frzN I hd
    have hsz : es.size = xs.length := by rw [← Array.length_toList, he, List.length_map]
    exact next_key_end (I.ok.hd hc) st hgd hod hsz hi fun h' eb => ⟨rfl, I.turned (t' := s.toks) (fun b ob hb e => eb b ob hb e) f0 f1 f3 f4 f5⟩
  self := fun A i s Q E st h => by
    refine wpAny_pyIter_slot st.typeIs F.slot_dict_keyiterator_iter (wpAny_call_entry F.slot_dict_keyiterator_iter st.typeIs F.entry_dict_keyiterator_iter ?_ (F.args_dict_keyiterator_iter_1 _))
    show wpAny _ _ (ret (.ref it)) _ _ s
    exact wpAny_pure ⟨_, rfl, "dict_keyiterator", _, st.typeIs, F.slot_dict_keyiterator_next.lookup, h⟩
def iKeysN (td : TE) : TI := fun σ H R => td σ H fun x H1 => ∃ d o o' xs, x = .ref d ∧ H1 d = some (.frz o (rawO d o')) ∧ NObj xs o' ∧ (d == sysModules) = false ∧ R (ItN d o (rawO d o') xs) H1
theorem pi_keysN {tg e : Expr} {td : TE} (he : PE X e td) : PI X tg e (iKeysN td) := by
  refine ⟨fun pins s σ H R I h => ?_⟩
  refine thn (he.run pins s σ H _ I h) fun u s1 ⟨x, H1, I1, rx, d, o, o', xs, ex, hd, ⟨n1, ⟨es, ep, n2, n3⟩, n4⟩, hs, q⟩ => ?_
  subst ex
  obtain rfl : u = Value.ref d := rx
  have q1 := frzN I1 hd
  have q2 : s1.heap.get? d = some o' := (I1.hok d _ hd).2.1
  rw [q1] at q2
  cases q2
  have hsz : es.size = xs.length := by rw [← Array.length_toList, n3 X.w, List.length_map]
  refine iter_keys hs (frzN I1 hd) n1 n2 (pi_one (tk := s1.toks) I1 _ (turn_keysN _ n1 n2 hs (n3 X.w)) ⟨_, Heap.get?_push_size _ rfl, rfl, ?_⟩ q)
  rw [hsz] <;> rfl
end
end PD
namespace PD
open PySem PySem.Spec PyProof.Rows L2
mutual
def nkOf : D → Option NestedKey
  | .non => some .none
  | .int i => some (.num i)
  | .tup ds => (match nksOf ds with
    | some ks => some (.tup ks)
    | none => none)
  | _ => none
def nksOf : List D → Option (List NestedKey)
  | [] => some []
  | d :: ds => (match nkOf d, nksOf ds with
    | some k, some ks => some (k :: ks)
    | _, _ => none)
end
mutual
theorem nkD_of : ∀ {d : D} {k : NestedKey}, nkOf d = some k → nkD k = d
  | .non, k, h => by simp only [nkOf, Option.some.injEq] at h; subst h; simp only [nkD]
  | .int i, k, h => by simp only [nkOf, Option.some.injEq] at h; subst h; simp only [nkD]
  | .tup ds, k, h => by
    simp only [nkOf] at h
    split at h
    · rename_i ks e
      simp only [Option.some.injEq] at h
      subst h
      simp only [nkD, nkDs_of e]
    · cases h
  | .bl _, k, h => by simp only [nkOf] at h; cases h
  | .str _, k, h => by simp only [nkOf] at h; cases h
  | .etp _, k, h => by simp only [nkOf] at h; cases h
  | .lst _, k, h => by simp only [nkOf] at h; cases h
  | .dct _ _ _, k, h => by simp only [nkOf] at h; cases h
  | .ldc _ _ _, k, h => by simp only [nkOf] at h; cases h
  | .row _, k, h => by simp only [nkOf] at h; cases h
  | .obj _, k, h => by simp only [nkOf] at h; cases h
  | .fn _, k, h => by simp only [nkOf] at h; cases h
  | .scr _, k, h => by simp only [nkOf] at h; cases h
theorem nkDs_of : ∀ {ds : List D} {ks : List NestedKey}, nksOf ds = some ks → nkDs ks = ds
  | [], ks, h => by simp only [nksOf, Option.some.injEq] at h; subst h; simp only [nkDs]
  | d :: ds, ks, h => by
    simp only [nksOf] at h
    split at h
    · rename_i k ks' e1 e2
      simp only [Option.some.injEq] at h
      subst h
      simp only [nkDs, nkD_of e1, nkDs_of e2]
    · cases h
end
mutual
theorem nkOf_nkD : ∀ {k : NestedKey}, noTxt k = true → nkOf (nkD k) = some k
  | .none, _ => by simp only [nkD, nkOf]
  | .num i, _ => by simp only [nkD, nkOf]
  | .text x, h => by cases h
  | .tup ks, h => by
    simp only [noTxt] at h
    simp only [nkD, nkOf, nksOf_nkDs h]
theorem nksOf_nkDs : ∀ {ks : List NestedKey}, noTxts ks = true → nksOf (nkDs ks) = some ks
  | [], _ => by simp only [nkDs, nksOf]
  | k :: ks, h => by
    simp only [noTxts, Bool.and_eq_true] at h
    simp only [nkDs, nksOf, nkOf_nkD h.1, nksOf_nkDs h.2]
end
theorem okKey_noTxt {k : NestedKey} (h : okKey k = true) : noTxt k = true := by
  cases k with
  | tup ks =>
    simp only [okKey, Bool.and_eq_true] at h
    simp only [noTxt]
    exact h.1
  | _ => cases h
section
variable {K : PySem.W.Frag} {mg : Str → Option Value} {z : Fz}
mutual
theorem nkat_rep : ∀ {k : NestedKey} {v : V}, NKAt K z.F k v → Rep K mg z (nkD k) v
  | .none, v, h => by simp only [nkD, Rep]; exact h
  | .num i, v, h => by simp only [nkD, Rep]; exact h
  | .text x, v, h => by simp only [nkD, Rep]; exact h
  | .tup ks, v, h => by
    simp only [NKAt] at h
    simp only [nkD, Rep]
    obtain ⟨a, xs, e, h1, h2⟩ := h
    exact ⟨a, xs, e, h1, nkats_rep h2⟩
theorem nkats_rep : ∀ {ks : List NestedKey} {vs : List V}, NKAts K z.F ks vs → Reps K mg z (nkDs ks) vs
  | [], [], _ => by simp only [nkDs]; exact .nil
  | k :: ks, v :: vs, h => by
    simp only [NKAts] at h
    simp only [nkDs]
    exact .cons (nkat_rep h.1) (nkats_rep h.2)
  | [], _ :: _, h => h.elim
  | _ :: _, [], h => h.elim
end
mutual
theorem rep_nkat : ∀ {k : NestedKey} {v : V}, Rep K mg z (nkD k) v → NKAt K z.F k v
  | .none, v, h => by simp only [nkD, Rep] at h; exact h
  | .num i, v, h => by simp only [nkD, Rep] at h; exact h
  | .text x, v, h => by simp only [nkD, Rep] at h; exact h
  | .tup ks, v, h => by
    simp only [nkD, Rep] at h
    simp only [NKAt]
    obtain ⟨a, xs, e, h1, h2⟩ := h
    exact ⟨a, xs, e, h1, reps_nkats h2⟩
theorem reps_nkats : ∀ {ks : List NestedKey} {vs : List V}, Reps K mg z (nkDs ks) vs → NKAts K z.F ks vs
  | [], vs, h => by
    simp only [nkDs] at h
    rw [h.nil_of]
    simp only [NKAts]
  | k :: ks, vs, h => by
    simp only [nkDs] at h
    obtain ⟨v, vs', rfl, a, r⟩ := h.uncons
    simp only [NKAts]
    exact ⟨rep_nkat a, reps_nkats r⟩
end
end
def keyN (d : D) : Option NestedKey := match nkOf d with
  | some k => if okKey k = true then some k else none
  | none => none
theorem keyN_some {d : D} {k : NestedKey} (h : keyN d = some k) : nkOf d = some k ∧ okKey k = true ∧ nkD k = d := by
  unfold keyN at h
  split at h
  · rename_i k' e
    split at h
    · rename_i ok
      cases h
      exact ⟨e, ok, nkD_of e⟩
    · cases h
  · cases h
theorem keyN_nkD {k : NestedKey} (h : okKey k = true) : keyN (nkD k) = some k := by
  unfold keyN
  rw [nkOf_nkD (okKey_noTxt h)]
  exact if_pos h
theorem keyN_ref {d : D} {k : NestedKey} {K : PySem.W.Frag} {mg : Str → Option Value} {z : Fz} {v : V} (h : keyN d = some k) (r : Rep K mg z d v) : NKAt K z.F k v ∧ okKey k = true ∧ ∃ b, v = .ref b := by
  obtain ⟨h1, h2, h3⟩ := keyN_some h
  rw [← h3] at r
  have q := rep_nkat r
  refine ⟨q, h2, ?_⟩
  cases k with
  | tup ks =>
    simp only [NKAt] at q
    obtain ⟨a, _, e, _⟩ := q
    exact ⟨a, e⟩
  | _ => cases h2
def atN (k : NestedKey) : List D → List D → Option D
  | x :: ks, v :: vs => if keyN x = some k then some v else atN k ks vs
  | _, _ => none
def dctN : D → Option (List D × List D)
  | .dct true ks vs => some (ks, vs)
  | .ldc true ks vs => some (ks, vs)
  | _ => none
def dgetN : D → D → Res D := fun x y => match dctN x, keyN y with
  | some (ks, vs), some k => (match atN k ks vs with
    | some d => .ok d
    | none => .bad)
  | _, _ => .bad
def dnotinN : D → D → Res D := fun y x => match dctN x, keyN y with
  | some (ks, vs), some k => .ok (.bl (!(atN k ks vs).isSome))
  | _, _ => .bad
theorem nil_ofR {K : PySem.W.Frag} {mg : Str → Option Value} {z : Fz} {vs : List D} (h : Reps K mg z vs []) : vs = [] := by
  cases vs with
  | nil => rfl
  | cons d ds => simp only [Reps] at h
abbrev EntL := List (NestedKey × Addr × Value)
theorem atN_spec {K : PySem.W.Frag} {mg : Str → Option Value} {z : Fz} {k : NestedKey} : ∀ {xs : EntL} {vx : List V} {vs : List D}, (∀ x ∈ xs, okKey x.1 = true) → Vals vx (xs.map fun x => x.2.2) → Reps K mg z vs vx →
    (∀ d, atN k (xs.map fun x => nkD x.1) vs = some d → ∃ p v, atKey xs k = some p ∧ RelV v p.2 ∧ Rep K mg z d v) ∧ (atN k (xs.map fun x => nkD x.1) vs = none → atKey xs k = none)
  | [], vx, vs, _, hv, r => by
    cases hv
    rw [nil_ofR r] 
    exact ⟨fun d h => by simp [atN] at h, fun _ => rfl⟩
  | x :: xs, vx, vs, ok, hv, r => by
    rw [List.map_cons] at hv
    cases hv with
    | @cons v u vx' us rv hv =>
      obtain ⟨d0, vs', rfl, r1, r2⟩ : ∃ d0 vs', vs = d0 :: vs' ∧ Rep K mg z d0 v ∧ Reps K mg z vs' vx' := by
        cases vs with
        | nil => simp only [Reps] at r
        | cons d0 vs' => simp only [Reps] at r; exact ⟨d0, vs', rfl, r.1, r.2⟩
      obtain ⟨i1, i2⟩ := atN_spec (k := k) (fun y hy => ok y (List.mem_cons_of_mem _ hy)) hv r2
      rw [List.map_cons, atN, keyN_nkD (ok x (List.mem_cons_self ..))]
      by_cases e : x.1 = k
      · rw [if_pos (congrArg some e)]
        have ea : atKey (x :: xs) k = some x.2 := by simp [atKey, List.find?_cons, e]
        exact ⟨fun d h => by cases h; exact ⟨_, v, ea, rv, r1⟩, fun h => by cases h⟩
      · rw [if_neg (fun h => e (Option.some.inj h))]
        have ea : atKey (x :: xs) k = atKey xs k := by simp [atKey, List.find?_cons, e]
        rw [ea]
        exact ⟨i1, i2⟩
theorem atN_isSome {K : PySem.W.Frag} {mg : Str → Option Value} {z : Fz} {k : NestedKey} {xs : EntL} {vx : List V} {vs : List D} (ok : ∀ x ∈ xs, okKey x.1 = true) (hv : Vals vx (xs.map fun x => x.2.2)) (r : Reps K mg z vs vx) :
    (atKey xs k).isSome = (atN k (xs.map fun x => nkD x.1) vs).isSome := by
  obtain ⟨h1, h2⟩ := atN_spec (k := k) ok hv r
  cases h : atN k (xs.map fun x => nkD x.1) vs with
  | none => rw [h2 h]; rfl
  | some d => obtain ⟨p, v, e, _⟩ := h1 d h; rw [e]; rfl
theorem look_dctN {K : PySem.W.Frag} {mg : Str → Option Value} {z : Fz} {B B' F0 : Hp} {ow : Own} {ρ : List Slot} {m : List Ob} {σ : St} {H : Hp} {d : D} {ks vs : List D} {v : V} (S : StOk K mg B F0 z ow ρ m σ H) (hd : dctN d = some (ks, vs)) (h : pLook K mg B' B z ρ σ d v) :
    ∃ (a : Addr) (xs : EntL) (od : Obj) (vx : List V), v = .ref a ∧ NDat K H a xs od ∧ (∀ x ∈ xs, okKey x.1 = true ∧ NKAt K z.F x.1 (.ref x.2.1)) ∧ ks = xs.map (fun x => nkD x.1) ∧ Vals vx (xs.map fun x => x.2.2) ∧ Reps K mg z vs vx := by
  have fin : ∀ {a : Addr} {o : HO} {vx : List V}, DKeys K z.F a true ks vx o → Rd H a o → ∃ (xs : EntL) (od : Obj), NDat K H a xs od ∧ (∀ x ∈ xs, okKey x.1 = true ∧ NKAt K z.F x.1 (.ref x.2.1)) ∧ ks = xs.map (fun x => nkD x.1) ∧ Vals vx (xs.map fun x => x.2.2) := fun {a o vx} q rd => by
    obtain ⟨xs, od, es, ep, h1, h2, h3, h4, h5, h6, h7, h8, rfl⟩ := q
    exact ⟨xs, od, ⟨⟨h5, ⟨es, ep, h6, h7⟩, h3⟩, fun x hx => ⟨(h4 x hx).1, (h4 x hx).2.mono fun _ _ => same_tup S.fh⟩, h8, rd⟩, h4, h1, h2⟩
  unfold dctN at hd
  split at hd
  · cases hd
    obtain ⟨a, o, rfl, h1, vx, r, q⟩ := look_cont (c := .dct true ks vs) S h
    obtain ⟨xs, od, g1, g2, g3, g4⟩ := fin q (.inl h1)
    exact ⟨a, xs, od, vx, rfl, g1, g2, g3, g4, r⟩
  · cases hd
    obtain ⟨a, o, rfl, h1, od, u, vx, rfl, r, q⟩ := look_cont (c := .ldc true ks vs) S h
    obtain ⟨xs, od, g1, g2, g3, g4⟩ := fin q (.inr ⟨_, h1⟩)
    exact ⟨a, xs, od, vx, rfl, g1, g2, g3, g4, r⟩
  · cases hd
theorem look_keyN {K : PySem.W.Frag} {mg : Str → Option Value} {z : Fz} {B B' F0 : Hp} {ow : Own} {ρ : List Slot} {m : List Ob} {σ : St} {H : Hp} {d : D} {k : NestedKey} {v : V} (S : StOk K mg B F0 z ow ρ m σ H) (hd : keyN d = some k) (h : pLook K mg B' B z ρ σ d v) :
    NKAt K H k v ∧ NKAt K z.F k v ∧ okKey k = true ∧ ∃ b, v = .ref b := by
  have hc : ∀ c : Cont, d ≠ c.d := fun c e => by
    subst e
    cases c <;> simp [Cont.d, keyN, nkOf] at hd
  obtain ⟨h1, h2, h3⟩ := keyN_ref hd (look_rep h hc)
  exact ⟨h1.mono fun _ _ => same_tup S.fh, h1, h2, h3⟩
section
variable {X : Cx} {RW : WX} {a b c : Expr} {da db dc : Den D} {pos : Pos}
theorem two_nget (σ : St) (H : Hp) (Q : VK) (q : tX X.K X.mg RW (dBin dgetN da db) (pVal X.K X.mg) σ H Q) : tNGet X.K (tX X.K X.mg RW da (pLook X.K X.mg)) (tX X.K X.mg RW db (pLook X.K X.mg)) σ H Q := by
  refine two_step (g := dgetN) (r := fun x y H Q => ∃ a b xs od k p v, x = .ref a ∧ y = .ref b ∧ NDat X.K H a xs od ∧ NKAt X.K H k y ∧ okKey k = true ∧ atKey xs k = some p ∧ RelV v p.2 ∧ Q v H) ?_ σ H Q q
  intro RW B F0 z ow ρ m σ H x y dx dy Q S px py h
  unfold dgetN at h
  split at h
  · rename_i ks vs k hx hk
    split at h
    · rename_i d hd
      obtain ⟨a, xs, od, vx, rfl, g1, g2, rfl, g4, r⟩ := look_dctN S hx px
      obtain ⟨k1, k2, k3, b, rfl⟩ := look_keyN S hk py
      obtain ⟨p, v, e1, e2, e3⟩ := (atN_spec (fun x hx => (g2 x hx).1) g4 r).1 d hd
      exact ⟨a, b, xs, od, k, p, v, rfl, rfl, g1, k1, k3, e1, e2, h.here S e3⟩
    · exact h.elim
  · exact h.elim
theorem pd_dgetN (hu : X.A.units + 9 < cLine) (ha : PE X a (tX X.K X.mg RW da (pLook X.K X.mg))) (hb : PE X b (tX X.K X.mg RW db (pLook X.K X.mg))) (hs : NoSl b := by exact fun _ _ => rfl) :
    PE X (.Subscript a b pos) (tX X.K X.mg RW (dBin dgetN da db) (pVal X.K X.mg)) := PE.imp (pe_nget hu ha hb hs) two_nget
theorem two_nnotin (σ : St) (H : Hp) (Q : VK) (q : tX X.K X.mg RW (dBin dnotinN da db) (pVal X.K X.mg) σ H Q) : tNNotIn X.K (tX X.K X.mg RW da (pLook X.K X.mg)) (tX X.K X.mg RW db (pLook X.K X.mg)) σ H Q := by
  refine two_step (g := dnotinN) (r := fun y x H Q => ∃ a b xs od k, x = .ref a ∧ y = .ref b ∧ NDat X.K H a xs od ∧ NKAt X.K H k y ∧ okKey k = true ∧ Q (.bl (!(atKey xs k).isSome)) H) ?_ σ H Q q
  intro RW B F0 z ow ρ m σ H y x dy dx Q S py px h
  unfold dnotinN at h
  split at h
  · rename_i ks vs k hx hk
    obtain ⟨a, xs, od, vx, rfl, g1, g2, rfl, g4, r⟩ := look_dctN S hx px
    obtain ⟨k1, k2, k3, b, rfl⟩ := look_keyN S hk py
    refine ⟨a, b, xs, od, k, rfl, rfl, g1, k1, k3, h.here S ?_⟩
    rw [atN_isSome (fun x hx => (g2 x hx).1) g4 r]
    exact rep_bl.mpr rfl
  · exact h.elim
theorem ptd_dnotinN (hu : X.A.units + 9 < cLine) (ha : PE X a (tX X.K X.mg RW da (pLook X.K X.mg))) (hb : PE X b (tX X.K X.mg RW db (pLook X.K X.mg))) (hm : behindInMarks .NotIn b = false) :
    PT X (.Compare a [.NotIn] [b] pos) (tX X.K X.mg RW (dT (dBin dnotinN da db)) pTest) := PT.imp (pt_cmp (pc_nnotin hu ha hb) hm) fun σ H Q q => two_nnotin σ H _ (test_of σ H Q q)
theorem pd_newDN : PE X (.Dict [] [] pos) (tX X.K X.mg RW (dNewDct true) (pNew X.K X.mg)) :=
  PE.imp pe_nnew fun σ H Q ⟨B, F0, z, ow, ρ, m, S, q⟩ p od hp ⟨n1, ⟨es, ep, n2, n3⟩, n4⟩ hs => Rem.newDct q S ⟨[], .nil, [], od, es, ep, rfl, .nil, n4, (fun _ h => nomatch h), n1, n2, n3, hs, rfl⟩ hp
end
def putVN (k : NestedKey) (v : D) : List D → List D → List D
  | x :: ks, w :: vs => (if keyN x = some k then v else w) :: putVN k v ks vs
  | _, vs => vs
def putCN (k : NestedKey) (y v : D) (ks vs : List D) : Cont := if (atN k ks vs).isSome = true then .dct true ks (putVN k v ks vs) else .dct true (ks ++ [y]) (vs ++ [v])
def dputN (i : Nat) (dk dv : Den D) : SDen := fun ρ m => match slotAt ρ i with
  | .own (.dct true ks vs) => bindS (dv ρ m) ρ fun d m1 => bindS (dk ρ m1) ρ fun k m2 => (match keyN k with
    | some j => if vs.length < sizeLine then .nx (ρ.set i (.own (putCN j k d ks vs))) m2 else .bad
    | none => .bad)
  | _ => .bad
theorem putVN_map {K : PySem.W.Frag} {mg : Str → Option Value} {z : Fz} {k : NestedKey} {v : D} {y : V} {u : Value} (ry : Rep K mg z v y) (ru : RelV y u) : ∀ {xs : EntL} {vx : List V} {vs : List D}, (∀ x ∈ xs, okKey x.1 = true) → Vals vx (xs.map fun x => x.2.2) → Reps K mg z vs vx →
    ∃ vy, Vals vy ((xs.map (putAt k u)).map fun x => x.2.2) ∧ Reps K mg z (putVN k v (xs.map fun x => nkD x.1) vs) vy
  | [], vx, vs, _, hv, r => by
    cases hv
    refine ⟨[], .nil, ?_⟩
    rw [nil_ofR r]
    exact .nil
  | x :: xs, vx, vs, ok, hv, r => by
    rw [List.map_cons] at hv
    cases hv with
    | @cons v0 u0 vx' us rv hv =>
      obtain ⟨d0, vs', rfl, r1, r2⟩ : ∃ d0 vs', vs = d0 :: vs' ∧ Rep K mg z d0 v0 ∧ Reps K mg z vs' vx' := by
        cases vs with
        | nil => simp only [Reps] at r
        | cons d0 vs' => simp only [Reps] at r; exact ⟨d0, vs', rfl, r.1, r.2⟩
      obtain ⟨vy, i1, i2⟩ := putVN_map ry ru (k := k) (fun y hy => ok y (List.mem_cons_of_mem _ hy)) hv r2
      rw [List.map_cons, List.map_cons, List.map_cons, putVN, keyN_nkD (ok x (List.mem_cons_self ..))]
      by_cases e : x.1 = k
      · rw [if_pos (congrArg some e)]
        refine ⟨y :: vy, .cons ?_ i1, .cons ry i2⟩
        unfold putAt
        rw [if_pos e]
        exact ru
      · rw [if_neg (fun h => e (Option.some.inj h))]
        refine ⟨v0 :: vy, .cons ?_ i1, .cons r1 i2⟩
        unfold putAt
        rw [if_neg e]
        exact rv
theorem putCN_cok {K : PySem.W.Frag} {mg : Str → Option Value} {z : Fz} {a : Addr} {k : NestedKey} {v yk : D} {y : V} {u : Value} {b : Addr} {od' : Obj} (ry : Rep K mg z v y) (ru : RelV y u) (hk : NKAt K z.F k (.ref b)) (ok0 : keyN yk = some k) {xs : EntL} {vx : List V} {vs : List D}
    (ok : ∀ x ∈ xs, okKey x.1 = true ∧ NKAt K z.F x.1 (.ref x.2.1)) (hv : Vals vx (xs.map fun x => x.2.2)) (r : Reps K mg z vs vx) (hs : (a == sysModules) = false) (n : NObj (storedH xs k b u) od') : COk K mg z a (putCN k yk v (xs.map fun x => nkD x.1) vs) (rawO a od') := by
  obtain ⟨n1, ⟨es, ep, n2, n3⟩, n4⟩ := n
  have e := atN_isSome (k := k) (fun x hx => (ok x hx).1) hv r
  obtain ⟨q1, q2, q3⟩ := keyN_some ok0
  have ok' := storedH_keys (u := u) (R := fun k b => okKey k = true ∧ NKAt K z.F k (.ref b)) ok ⟨q2, hk⟩
  unfold putCN
  rw [← e]
  by_cases h : (atKey xs k).isSome = true
  · rw [if_pos h]
    obtain ⟨vy, i1, i2⟩ := putVN_map ry ru (k := k) (fun x hx => (ok x hx).1) hv r
    have es' : storedH xs k b u = xs.map (putAt k u) := if_pos h
    rw [es'] at n3 n4 ok'
    refine ⟨vy, i2, xs.map (putAt k u), od', es, ep, ?_, i1, n4, ok', n1, n2, n3, hs, rfl⟩
    have := keys_map_putAt xs k u
    have e2 : ∀ l : EntL, l.map (fun x => nkD x.1) = (l.map (·.1)).map nkD := fun l => by rw [List.map_map]; rfl
    rw [e2, e2, this]
  · rw [if_neg h]
    have es' : storedH xs k b u = xs ++ [(k, b, u)] := if_neg h
    rw [es'] at n3 n4 ok'
    refine ⟨vx ++ [y], r.append (.cons ry .nil), xs ++ [(k, b, u)], od', es, ep, ?_, ?_, n4, ok', n1, n2, n3, hs, rfl⟩
    · rw [List.map_append, List.map_cons, List.map_nil]
      show _ = _ ++ [nkD k]
      rw [q3]
    · rw [List.map_append]
      exact Vals.append hv (.cons ru .nil)
section
variable {X : Cx} {RW : WX} {e ei : Expr} {px p2 pos : Pos}
theorem sd_dputN {i : Nat} {x : Str} {di de : Den D} (hu : X.A.units + 9 < cLine) (hv : PE X (.Name x px) (tVar i)) (hi : PE X ei (tX X.K X.mg RW di (pLook X.K X.mg))) (he : PE X e (tX X.K X.mg RW de (pVal X.K X.mg)))
    (hs : swapsWith e (some (.Subscript (.Name x px) ei p2)) pos.line X.env = pure false := by rfl) : PS X (.Assign [.Subscript (.Name x px) ei p2] e pos) (tB X.K X.mg RW (dputN i di de)) :=
  PS.imp (ps_nput hu hv hi he hs) fun D σ H ⟨B, F0, z, ow, ρ, m, S, q⟩ => by
    unfold dputN at q
    split at q
    · rename_i ks vs hs
      refine ⟨B, F0, z, ow, ρ, m, S, Rem.stepS q fun d m1 B1 z1 ow1 v H1 hB hz S1 pd q1 => ?_⟩
      have S1' := S1.weak hB
      obtain ⟨_, a, _, e3, _, _⟩ := slot_own S1' hs
      refine ⟨.ref a, e3, B, F0, z1, ow1, ρ, m1, S1', Rem.stepS q1 fun k m2 B2 z2 ow2 kv H2 hB2 hz2 S2 pk q2 => ?_⟩
      have S2' := S2.weak hB2
      obtain ⟨hg, a2, o, e4, hH, vx, r, xs, od, es, ep, h1, h2, h3, h4, h5, h6, h7, h8, rfl⟩ := slot_own S2' hs
      subst h1
      rw [e3] at e4
      cases e4
      cases hk : keyN k with
      | none => simp only [hk] at q2; exact q2.elim
      | some j =>
        simp only [hk] at q2
        split at q2
        · rename_i hlt
          have hz3 : xs.length < sizeLine := by
            have e1 : vx.length = xs.length := by rw [Vals.length h2, List.length_map]
            rw [← e1, ← r.len]
            exact hlt
          obtain ⟨k1, k2, k3, b, rfl⟩ := look_keyN S2 hk pk
          refine ⟨a, b, xs, od, j, rfl, rfl, ⟨⟨h5, ⟨es, ep, h6, h7⟩, h3⟩, fun x hx => ⟨(h4 x hx).1, (h4 x hx).2.mono fun _ _ => same_tup S2'.fh⟩, h8, .inl hH⟩, hH, k1, k3, hz3, fun u od' ru n => ?_⟩
          exact q2 z2 ow2 σ _ (Fz.le.refl _) (S2'.change hg e3 (putCN_cok (Rep.le hz2 pd) ru k2 hk h4 h2 r h8 n))
        · exact q2.elim
    · exact q.elim
end
def asLdcN : D → Res (List D)
  | .ldc true ks _ => .ok ks
  | _ => .bad
theorem yields_keysN {K : PySem.W.Frag} {mg : Str → Option Value} {z : Fz} {a : Addr} {od : Obj} {u : HO} {xs : EntL} (ok : ∀ x ∈ xs, okKey x.1 = true ∧ NKAt K z.F x.1 (.ref x.2.1)) (h : z.F a = some (.frz od u)) : Yields K mg (ItN a od u xs) z (xs.map fun x => nkD x.1) := by
  intro B F0 z' ow ρ m σ H i hz S
  have hH : H a = some (.frz od u) := S.fh _ _ (hz.1 _ _ h)
  refine ⟨fun e => ⟨hH, by rw [e, List.length_map]; exact Nat.le_refl _⟩, fun d hd => ?_⟩
  rw [List.getElem?_map] at hd
  obtain ⟨y, hy, rfl⟩ := Option.map_eq_some_iff.mp hd
  obtain ⟨hi, _⟩ := List.getElem?_eq_some_iff.mp hy
  refine ⟨⟨hH, hi⟩, fun x H' q => ?_⟩
  obtain ⟨rfl, y', e1, rfl⟩ := q
  rw [hy] at e1
  cases e1
  exact ⟨z', Fz.le.refl _, S, Rep.le hz (nkat_rep (ok y (List.mem_of_getElem? hy)).2)⟩
section
variable {X : Cx} {RW : WX} {e tg : Expr} {pos : Pos}
theorem it_ldcN {da : Den D} (h : PE X e (tX X.K X.mg RW da (pVal X.K X.mg))) : PI X tg e (tX X.K X.mg RW (dIt asLdcN da) (pIt X.K X.mg)) :=
  PI.imp (pi_keysN h) fun σ H Q q => tX.imp q fun B F0 z ow ρ m S h => Rem.step pIt.pm h fun d m1 B1 z1 ow1 v H1 hB hz S1 p h1 => by
    have key : ∀ d', asLdcN d = d' → ∀ ks, d' = .ok ks → ∃ vs, d = .ldc true ks vs := fun d' e ks e2 => by
      subst e
      unfold asLdcN at e2
      split at e2
      · cases e2; exact ⟨_, rfl⟩
      · cases e2
    cases hd : asLdcN d with
    | ok ks =>
      obtain ⟨vs, rfl⟩ := key _ hd ks rfl
      obtain ⟨a, od, o, vx, rfl, e1, r, xs, o', es, ep, rfl, h2, h3, h4, h5, h6, h7, h8, rfl⟩ := (by simpa only [Rep] using (show Rep X.K X.mg z1 (.ldc true ks vs) v from p) : ∃ (a : Addr) (od : Obj) (o : HO) (vxs : List V), v = .ref a ∧ z1.F a = some (.frz od o) ∧ Reps X.K X.mg z1 vs vxs ∧ DKeys X.K z1.F a true ks vxs o)
      exact ⟨a, od, o', xs, rfl, S1.fh _ _ e1, ⟨h5, ⟨es, ep, h6, h7⟩, h3⟩, h8, Rem.here h1 S1 (yields_keysN h4 e1)⟩
    | err x m => exact absurd hd (by unfold asLdcN; split <;> exact fun h => nomatch h)
    | bad => dsimp only at h1; rw [hd] at h1; exact h1.elim
end
end PD
namespace PD
open PySem PySem.Spec PyProof.Rows L2
section
variable {prog : Program} {w : World} {A : Around} {s : Shared}
theorem lam_call3 {f c' gc ga bx : Addr} {qual : Str} {params : Arguments} {scope : Scope} {cl : List (Str × Addr)} {pm ctv : Value} {g k : Str} {gp kp sp cp sp0 up : Pos} {ck : Nat} {n : Nat} {i : Int} {tk : Tok} {us : List Value}
    (ho : s.heap.get? f = some (W.kla_obj "<lambda>" qual params (.UnaryOp .USub (.Subscript (.Name g gp) (.Subscript (.Name k kp) (.Constant (.int 0) ck cp) sp0) sp) up) scope cl pm c' ctv)) (hrec : s.heap.CodeRec (.ref c') qual) (hroom : A.depth < recursionLimit) (hnl : s.heap.NoLimit)
    (hk : scope.kind = .function) (hco : scope.isCoroutine = false) (hgen : scope.isGenerator = false) (hcell : ∀ x ∈ scope.names, x.2 ≠ .cell) (hkl : scope.names.lookup k = some .local) (hgf : scope.names.lookup g = some .free)
    (hbind : ∀ v : Value, bindArgs (W.kla_fn "<lambda>" qual params (.UnaryOp .USub (.Subscript (.Name g gp) (.Subscript (.Name k kp) (.Constant (.int 0) ck cp) sp0) sp) up) scope cl pm (.ref c') ctv) ⟨[v], []⟩ = pure [(k, v)])
    (hcl : cl.lookup g = some gc) (hc : s.heap.IsCell gc (some (.ref ga))) (hi : SeqAtV s.heap ga n i) (hb : IsTup s.heap bx (Value.int (n : Int) tk :: us).toArray)
    (hd1 : (g == ("__debug__" : Str)) = false) (hd2 : (k == ("__debug__" : Str)) = false) (hd3 : (g == ("__classdict__" : Str)) = false) :
    wpAny (model prog w) A (call (.ref f) [.ref bx]) (W.KeyPure (.int (-i)) s) (fun _ _ => False) s := by
  refine wpAny_call (W.kla_callFunE hroom ho rfl hco hgen rfl hrec ?_)
  rw [hbind]
  refine wpAny_pure (wpAny_newFunctionEnv hcell (fun x hx => by rw [List.mem_singleton] at hx; subst hx; exact hkl) (fun h₁ hns hsb => ⟨hnl.fresh _ hsb, ?_⟩) hk)
  have kp1 : ∀ b o, s.heap.get? b = some o → h₁.get? b = some o := fun b o e => hsb.extBut b o (Nat.ne_of_lt (Heap.lt_size e)) (Heap.get?_push_of_some _ e)
  have hc1 : h₁.IsCell gc (some (.ref ga)) := by
    obtain ⟨o, e1, e2⟩ := hc
    exact ⟨o, kp1 _ _ e1, e2⟩
  have hb1 : IsTup h₁ bx (Value.int (n : Int) tk :: us).toArray := hb.keeps kp1
  obtain ⟨its, tk2, hl, hz, hit⟩ := hi.keeps kp1
  obtain ⟨hlt, _⟩ := List.getElem?_eq_some_iff.mp hit
  have fin : ∀ (t : Nat), W.KeyPure (.int (-i)) s (.int (-i) t) { s with heap := h₁, toks := t + 1 } := fun t => ⟨h₁, t + 1, rfl, kp1, .int (-i) t⟩
  refine W.kla_codeExpr (PyProof.Rows.UnaryOp_ (Subscript_ (wpAny_Name (wpAny_loadName_free hk hgf hcl hc1 (Subscript_ (wpAny_Name (wpAny_loadName_local hk hkl hns (v := .ref bx) (by simp [List.lookup]) (wpAny_Constant_int ?_)) hd2)) hd3) hd1)))
  refine subscriptTail_builtinR (x := .int (n : Int) tk) (show Shared.TypeIs _ (.ref bx) "tuple" from hb1.typeIs) slot_tuple_getitem.lookup (getItem_tuple (j := 0) hb1 (by decide) (by decide) (by rw [List.size_toArray, List.length_cons]; exact seqIndex_of (by omega) (by omega)) (by simp) ⟨rfl, ?_⟩) rfl
  rcases hl with hl | hl
  · exact item_listR hl (by omega) (by omega) (by rw [Int.toNat_natCast]; simpa using hit) (neg_int (fin _)) rfl
  · exact subscriptTail_builtinR (x := .int i tk2) hl.typeIs slot_tuple_getitem.lookup (getItem_tuple (j := n) hl (by omega) (by omega) (by rw [List.size_toArray]; exact seqIndex_of (by omega) (by omega)) (by simpa using hit) ⟨rfl, neg_int (fin _)⟩) rfl
end
def sortA3 (gs : List Int) (ns : List (Addr × Int)) : List (Addr × Int) := ns.mergeSort fun a b => decide (-(keyAt gs a.2) ≤ -(keyAt gs b.2))
def tSortL3 (K : W.Frag) (P : Addr) (q : Str) (j : Nat) (ta : TA) : TE := fun σ H Q => ta σ H fun vs H1 => ∃ (a ga : Addr) (ns : List (Addr × Int)) (gs : List Int) (ps : Array Value), vs = [.ref a] ∧ SqL K H1 a (ns.map fun x => V.ref x.1) ∧ H1 P = some (.tbl ps) ∧ TriplesOk ps.toList ∧
  (∀ (pos : Pos) (cv : Value), codeAmong pos ps.toList = some cv → ∃ c, cv = .ref c ∧ H1 c = some (LamX.CodeO c q)) ∧ σ[j]? = some (some (.ref ga)) ∧ (SqL K H1 ga (gs.map V.int) ∨ SqT K H1 ga (gs.map V.int)) ∧ ns.length ≤ 100000 ∧ gs.length ≤ 100000 ∧ (∀ n ∈ ns, 0 ≤ n.2 ∧ n.2 < gs.length ∧ ∃ rest, SqT K H1 n.1 (.int n.2 :: rest)) ∧
  ∀ (c' : Addr) (H2 : Hp), Grown H1 P c' ps q H2 → ∀ p, H2 p = none → Q (.ref p) (upd H2 p (.lst ((sortA3 gs ns).map fun x => V.ref x.1)))
theorem refs_each : ∀ {ns : List (Addr × Int)} {vs : List Value}, Vals (ns.map fun x => V.ref x.1) vs → W.EachIs (fun (v : Value) (x : Addr × Int) => v = .ref x.1) vs ns
  | [], _, r => by cases r; exact .nil
  | n :: ns, _, r => by
    cases r with
    | cons h r => exact .cons h (refs_each r)
theorem each_refs : ∀ {ns : List (Addr × Int)} {vs : List Value}, W.EachIs (fun (v : Value) (x : Addr × Int) => v = .ref x.1) vs ns → Vals (ns.map fun x => V.ref x.1) vs
  | [], _, .nil => .nil
  | _ :: _, _, .cons h r => .cons h (each_refs r)
section
variable {X : Cx} {pins : List (Addr × Obj)} {σ : L2.St} {H : Hp} {s : Shared}
theorem pe_sortLam3 {e : Expr} {ta : TA} {p pos lp gp kp sp kwp cp sp0 up : Pos} {ck : Nat} {params : Arguments} {scope : Scope} {g k : Str} {cA0 P : Addr} {j n : Nat} (hr : Room n X.A) (hg : Gl X "sorted") (hm : X.mg "sorted" = none) (ha : PA X [e] ta)
    (tb : LamX.TabB X.base X.mg cA0 P) (ecode : X.env.code = .ref cA0) (nodef : defaultsOf params X.env = ([], [])) (hN : X.N[j]? = some g) (hW : lamW X.env.scope scope g k = true)
    (hbind : ∀ (cl : List (Str × Addr)) (pm cd ctv v : Value), bindArgs (W.kla_fn "<lambda>" (lamQ X) params (.UnaryOp .USub (.Subscript (.Name g gp) (.Subscript (.Name k kp) (.Constant (.int 0) ck cp) sp0) sp) up) scope cl pm cd ctv) ⟨[v], []⟩ = pure [(k, v)])
    (hd1 : (g == ("__debug__" : Str)) = false) (hd2 : (k == ("__debug__" : Str)) = false) (hd3 : (g == ("__classdict__" : Str)) = false)
    (hb : backTo pos (starEach [e] X.env) = (false, eval e X.env) :: backTo pos (starEach [] X.env) := by rfl) (hpl : (backTo pos (starEach [e] X.env)).any (·.1) = false := by rfl)
    (hall : (backToKw pos (keywordEach [⟨some "key", .Lambda params (.UnaryOp .USub (.Subscript (.Name g gp) (.Subscript (.Name k kp) (.Constant (.int 0) ck cp) sp0) sp) up) scope lp, kwp⟩] X.env)).all (·.1.isSome) = true := by rfl)
    (hnone : (backToKw pos (keywordEach [⟨some "key", .Lambda params (.UnaryOp .USub (.Subscript (.Name g gp) (.Subscript (.Name k kp) (.Constant (.int 0) ck cp) sp0) sp) up) scope lp, kwp⟩] X.env)).any (·.1.isNone) = false := by rfl)
    (hks : (backToKw pos (keywordEach [⟨some "key", .Lambda params (.UnaryOp .USub (.Subscript (.Name g gp) (.Subscript (.Name k kp) (.Constant (.int 0) ck cp) sp0) sp) up) scope lp, kwp⟩] X.env)).filterMap (·.1) = [Str.ofString "key"] := by rfl) :
    PE X (.Call (.Name "sorted" p) [e] [⟨some "key", .Lambda params (.UnaryOp .USub (.Subscript (.Name g gp) (.Subscript (.Name k kp) (.Constant (.int 0) ck cp) sp0) sp) up) scope lp, kwp⟩] pos) (tSortL3 X.K P (lamQ X) j ta) := by
  unfold lamW at hW
  simp only [Bool.and_eq_true, Bool.or_eq_true, Bool.not_eq_true', decide_eq_true_eq, List.all_eq_true] at hW
  obtain ⟨w1, w2, w3, w4, w5, w6, w7⟩ := hW
  refine ⟨fun pins s σ H Q I h => ?_⟩
  refine wpAny_Call_Name_kw (ld_blt I hg hm boot_sorted ?_)
  refine PyProof.Rows.callWith_kw (thn (ha.run pos pins s σ H _ I h) fun us s1 hh => ?_) hb hpl hall hnone
  obtain ⟨vs, H1, I1, r1, a, ga, ns, gs, ps, rfl, sqA, eP, tri, old, ej, sqG, lnA, lnG, inr, q⟩ := hh
  obtain ⟨u, rfl, ru⟩ := r1.one
  cases (show u = Value.ref a from ru)
  rw [hks]
  have caps : ∀ y ∈ scope.names, y.2 = .free → ∃ c, X.env.cells.lookup y.1 = some c := fun y hy ey => by
    rcases (w7 y hy).2 with z | z
    · exact absurd ey z
    · exact I1.ok.has _ z
  refine PyProof.Rows.kws_cons (lam_make3 I1 tb ecode eP tri old nodef caps fun f c' pm ctv H2 s2 I2 gr ef rec => PyProof.Rows.kws_nil ?_)
  show wpAny (model X.prog X.w) X.A (call (.builtin "sorted") [.ref a] [(Str.ofString "key", .ref f)]) _ _ s2
  -- the list and the groups are still there
  have stay : ∀ b u, H1 b = some u → (∀ z, u ≠ .tbl z) → H2 b = some u := fun b u eb nt => by
    rcases gr with rfl | ⟨fr, qs, rfl, _, _⟩
    · exact eb
    · rw [upd_ne (ne_of_none eb fr), upd_ne (fun z => by rw [z, eP] at eb; exact nt ps (Option.some.inj eb).symm)]
      exact eb
  have sqA2 : SqL X.K H2 a (ns.map fun x => V.ref x.1) := by
    rcases sqA with (z | ⟨o, z⟩) | z
    · exact .inl (.inl (stay _ _ z (fun _ z => by cases z)))
    · exact .inl (.inr ⟨o, stay _ _ z (fun _ z => by cases z)⟩)
    · exact .inr z
  have sqG2 : SqL X.K H2 ga (gs.map V.int) ∨ SqT X.K H2 ga (gs.map V.int) := by
    rcases sqG with ((z | ⟨o, z⟩) | z) | ((z | ⟨o, z⟩) | z)
    · exact .inl (.inl (.inl (stay _ _ z (fun _ z => by cases z))))
    · exact .inl (.inl (.inr ⟨o, stay _ _ z (fun _ z => by cases z)⟩))
    · exact .inl (.inr z)
    · exact .inr (.inl (.inl (stay _ _ z (fun _ z => by cases z))))
    · exact .inr (.inl (.inr ⟨o, stay _ _ z (fun _ z => by cases z)⟩))
    · exact .inr (.inr z)
  have tup2 : ∀ b xs, SqT X.K H1 b xs → SqT X.K H2 b xs := fun b xs z => by
    rcases z with (z | ⟨o, z⟩) | z
    · exact .inl (.inl (stay _ _ z (fun _ z => by cases z)))
    · exact .inl (.inr ⟨o, stay _ _ z (fun _ z => by cases z)⟩)
    · exact .inr z
  obtain ⟨its, rA, plA, _⟩ := I2.list sqA2
  have lenA := rA.length
  rw [List.length_map] at lenA
  -- the cell that the lambda captured
  obtain ⟨m, _, look⟩ := I2.loc
  have vis : Vis X.env.scope g := by
    rcases w6 with z | z
    · exact .inr (.inl z)
    · exact .inr (.inr z)
  obtain ⟨gv, rg, lk⟩ := look j g _ hN ej vis
  cases (show gv = Value.ref ga from rg)
  obtain ⟨gc, egc, cell⟩ : ∃ gc, X.env.cells.lookup g = some gc ∧ s2.heap.IsCell gc (some (.ref ga)) := by
    rcases lk with ⟨z, _⟩ | ⟨_, c, z1, z2⟩
    · have z : X.env.scope.names.lookup g = some .local := z
      rcases w6 with y | y <;> rw [z] at y <;> cases y
    · exact ⟨c, z1, z2⟩
  have ecl := NdefX.clo_has (cells := X.env.cells) (names := scope.names) caps (mem_of_lookup w5) egc
  have ro := hr
  refine W.sorted_key_data (b := false) (R := fun (u : Value) (x : Addr × Int) => u = .ref x.1) (fun x : Addr × Int => .int (-(keyAt gs x.2))) plA.isList (refs_each rA) (W.AllAlike.of fun _ _ => rfl) (W.Sortable.others fun _ => ⟨fun z => (by cases z), fun _ z => (by cases z)⟩) (by rw [szl_eq]; omega) (fun x _ => ?_) (ksk_s1 _ _) (fun _ => ksk_l1 _ _) (fun _ => ksk_t1 _ _) (fun v x hx hm h2 t2 kp => ?_) fun out cc h2 t2 kp n0 eD el eo => ?_
  · have := hr.un
    show X.A.units + 2 + 0 < _
    omega
  · subst hx
    obtain ⟨i0, i1, rest, ht⟩ := inr x hm
    obtain ⟨bx, ix⟩ := x
    obtain ⟨nn, rfl⟩ := Int.eq_ofNat_of_zero_le (show 0 ≤ ix from i0)
    have nlt : nn < gs.length := by have : ((nn : Int)) < gs.length := i1; omega
    have ekey : keyAt gs (nn : Int) = gs.getD nn 0 := by unfold keyAt; rw [Int.toNat_natCast]
    rw [ekey]
    obtain ⟨pits, pr, pt, _⟩ := I2.tuple (tup2 _ _ ht)
    obtain ⟨u0, us, rfl, ⟨tk0, rfl⟩, _⟩ : ∃ u0 us, pits = u0 :: us ∧ (∃ t, u0 = Value.int (nn : Int) t) ∧ Vals rest us := by
      cases pr with
      | cons r rr => exact ⟨_, _, rfl, r, rr⟩
    refine lam_call3 (s := { s2 with heap := h2, toks := t2 }) (kp _ _ ef) ?_ (by have := hr.dp; show X.A.depth < _; omega) (I2.nolimit.keeps kp) w1 w2 w3 (fun y hy => (w7 y hy).1) w4 w5 (fun v => hbind _ _ _ _ v) ecl ?_ ((seq_at I2 sqG2 lnG nlt).keeps kp) (pt.keeps kp) hd1 hd2 hd3
    · obtain ⟨c2, oc, us, tq, z0, z1, z2, z3⟩ := rec
      exact ⟨c2, oc, us, tq, z0, kp _ _ z1, z2, z3⟩
    · obtain ⟨o, z1, z2⟩ := cell
      exact ⟨o, kp _ _ z1, z2⟩
  · rw [W.dataLe_int] at eo
    have n1 : H2 (s2.heap.objs.size + 1) = none := I2.hok.fresh (Nat.le_succ _)
    refine ⟨.ref (s2.heap.objs.size + 1), _, I2.laid (t' := t2) (a := s2.heap.objs.size + 1) (o := .lst ((sortA3 gs ns).map fun x => V.ref x.1)) (h' := h2) kp (Nat.le_succ _) ?_, rfl, q c' H2 gr _ n1⟩
    refine ⟨?_, out, cc, each_refs eo, eD⟩
    rw [List.length_map]
    unfold sortA3
    rw [List.length_mergeSort, szl_eq]
    omega
end
def key3 (gs : List Int) : D → Int
  | .tup (.int i :: _) => -(keyAt gs i)
  | _ => 0
def sortBy3 (gs : List Int) (ds : List D) : List D := ds.mergeSort fun a b => decide (key3 gs a ≤ key3 gs b)
def okKey3 (n : Nat) : D → Bool
  | .tup (.int i :: _) => decide (0 ≤ i) && decide (i < n)
  | _ => false
def dSortK3 (t j : Nat) (x q : Str) (da : Den (List D)) : Den Cont := fun ρ m => (da ρ m).bind fun v => match v.1, v.2[t]?, seqOf (PD.slotAt ρ j) with
  | [.lst ds], some (.tab x' q'), some es => (match ints? es with
    | some gs => if x' = x ∧ q' = q ∧ ds.length ≤ 100000 ∧ gs.length ≤ 100000 ∧ (ds.all fun d => okKey3 gs.length d) = true then .ok (.lst (sortBy3 gs ds), v.2) else .bad
    | none => .bad)
  | _, _, _ => .bad
theorem pairs_reps {K : PySem.W.Frag} {mg : Str → Option Value} {B F0 H : Hp} {z : Fz} {ow : Own} {ρ : List Slot} {m : List Ob} {σ : L2.St} (S : StOk K mg B F0 z ow ρ m σ H) {gs : List Int} : ∀ {ds : List D} {xs : List V}, Reps K mg z ds xs → (ds.all fun d => okKey3 gs.length d) = true →
    ∃ trs : List (D × Addr × Int), ds = trs.map (fun x => x.1) ∧ xs = trs.map (fun x => V.ref x.2.1) ∧ ∀ y ∈ trs, key3 gs y.1 = -(keyAt gs y.2.2) ∧ 0 ≤ y.2.2 ∧ y.2.2 < gs.length ∧ ∃ rest, SqT K z.F y.2.1 (.int y.2.2 :: rest)
  | [], xs, r, _ => ⟨[], rfl, by rw [r.nil_of]; rfl, fun _ h => nomatch h⟩
  | d :: ds, xs, r, h => by
    rw [List.all_cons, Bool.and_eq_true] at h
    obtain ⟨v, vs', rfl, a, r⟩ := r.uncons
    obtain ⟨trs, e1, e2, e3⟩ := pairs_reps S r h.2
    have h1 := h.1
    unfold okKey3 at h1
    split at h1
    · rename_i i ds'
      rw [Bool.and_eq_true, decide_eq_true_eq, decide_eq_true_eq] at h1
      simp only [Rep] at a
      obtain ⟨b, ys, rfl, hs, hr⟩ := a
      obtain ⟨v0, vs0, rfl, r0, _⟩ := hr.uncons
      simp only [Rep] at r0
      subst r0
      refine ⟨(.tup (.int i :: ds'), b, i) :: trs, by rw [e1]; rfl, by rw [e2]; rfl, fun y hy => ?_⟩
      rcases List.mem_cons.mp hy with rfl | hy
      · exact ⟨rfl, h1.1, h1.2, vs0, hs⟩
      · exact e3 y hy
    · cases h1
theorem pairs_rep {K : PySem.W.Frag} {mg : Str → Option Value} {z : Fz} : ∀ {trs : List (D × Addr × Int)} {ds : List D} {xs : List V}, Reps K mg z ds xs → ds = trs.map (fun x => x.1) → xs = trs.map (fun x => V.ref x.2.1) → ∀ y ∈ trs, Rep K mg z y.1 (.ref y.2.1)
  | [], _, _, _, _, _, y, hy => nomatch hy
  | t :: trs, ds, xs, r, e1, e2, y, hy => by
    subst e1 e2
    rw [List.map_cons, List.map_cons] at r
    simp only [Reps] at r
    rcases List.mem_cons.mp hy with rfl | hy
    · exact r.1
    · exact pairs_rep r.2 rfl rfl y hy
section
variable {X : Cx} {RW : WX}
theorem pd_sortLam3 {e : Expr} {da : Den (List D)} {p pos lp gp kp sp kwp cp sp0 up : Pos} {ck : Nat} {params : Arguments} {scope : Scope} {g k x q : Str} {t j n : Nat} (hr : Room n X.A) (tx : TabX X x) (eq : lamQ X = q) (hg : Gl X "sorted") (hm : X.mg "sorted" = none) (ha : PA X [e] (tX X.K X.mg RW da (pLooks X.K X.mg)))
    (hN : X.N[j]? = some g) (hW : lamW X.env.scope scope g k = true) (nodef : defaultsOf params X.env = ([], []) := by rfl)
    (hbind : ∀ (cl : List (Str × Addr)) (pm cd ctv v : Value), bindArgs (W.kla_fn "<lambda>" (lamQ X) params (.UnaryOp .USub (.Subscript (.Name g gp) (.Subscript (.Name k kp) (.Constant (.int 0) ck cp) sp0) sp) up) scope cl pm cd ctv) ⟨[v], []⟩ = pure [(k, v)] := by intro _ _ _ _ _; rfl)
    (hd1 : (g == ("__debug__" : Str)) = false := by decide) (hd2 : (k == ("__debug__" : Str)) = false := by decide) (hd3 : (g == ("__classdict__" : Str)) = false := by decide)
    (hb : backTo pos (starEach [e] X.env) = (false, eval e X.env) :: backTo pos (starEach [] X.env) := by rfl) (hpl : (backTo pos (starEach [e] X.env)).any (·.1) = false := by rfl)
    (hall : (backToKw pos (keywordEach [⟨some "key", .Lambda params (.UnaryOp .USub (.Subscript (.Name g gp) (.Subscript (.Name k kp) (.Constant (.int 0) ck cp) sp0) sp) up) scope lp, kwp⟩] X.env)).all (·.1.isSome) = true := by rfl)
    (hnone : (backToKw pos (keywordEach [⟨some "key", .Lambda params (.UnaryOp .USub (.Subscript (.Name g gp) (.Subscript (.Name k kp) (.Constant (.int 0) ck cp) sp0) sp) up) scope lp, kwp⟩] X.env)).any (·.1.isNone) = false := by rfl)
    (hks : (backToKw pos (keywordEach [⟨some "key", .Lambda params (.UnaryOp .USub (.Subscript (.Name g gp) (.Subscript (.Name k kp) (.Constant (.int 0) ck cp) sp0) sp) up) scope lp, kwp⟩] X.env)).filterMap (·.1) = [Str.ofString "key"] := by rfl) :
    PE X (.Call (.Name "sorted" p) [e] [⟨some "key", .Lambda params (.UnaryOp .USub (.Subscript (.Name g gp) (.Subscript (.Name k kp) (.Constant (.int 0) ck cp) sp0) sp) up) scope lp, kwp⟩] pos) (tX X.K X.mg RW (dSortK3 t j x q da) (pNew X.K X.mg)) := by
  obtain ⟨c, ecode, tb⟩ := tx
  subst eq
  refine PE.imp (pe_sortLam3 hr hg hm ha tb ecode nodef hN hW hbind hd1 hd2 hd3 hb hpl hall hnone hks) fun σ H Q qq => tX.imp qq fun B F0 z ow ρ m S h => Rem.step pNew.pm h fun d m1 B1 z1 ow1 v H1 hB hz S1 pp h1 => ?_
  dsimp only at h1
  split at h1
  · rename_i ds x' q' es e1 e2 e3
    split at h1
    · rename_i gs f2
      split at h1
      · rename_i hc
        obtain ⟨rfl, rfl, c1, c2, c3⟩ := hc
        cases ints?_eq f2
        obtain ⟨v0, rfl, p0⟩ := looks_one pp
        obtain ⟨a, xs, rfl, ea, r⟩ := look_list S1 p0
        obtain ⟨ga, ej, sg⟩ := seq_slot S1 e3
        obtain ⟨ps, t1, t2, t3, t4⟩ := S1.tabAt e2
        obtain ⟨trs, r1, r2, r3⟩ := pairs_reps S1 (gs := gs) r c3
        refine ⟨a, ga, trs.map (fun x => x.2), gs, ps, rfl, ?_, t1, t2, fun pos cv hcv => ?_, ej, sg, ?_, c2, fun n hn => ?_, fun c' H2 gr p hp => ?_⟩
        · rw [List.map_map]
          have e : xs = trs.map ((fun x => V.ref x.1) ∘ fun x => x.2) := r2
          rw [← e]
          exact SqL.of ea
        · obtain ⟨c, y1, y2, _⟩ := t4 pos cv hcv
          exact ⟨c, y1, y2⟩
        · rw [List.length_map]
          rw [r1, List.length_map] at c1
          exact c1
        · obtain ⟨y, hy, rfl⟩ := List.mem_map.mp hn
          obtain ⟨y1, y2, y3, rest, y4⟩ := r3 y hy
          exact ⟨y2, y3, rest, same_tup S1.fh y4⟩
        · obtain ⟨ow2, S2⟩ := S1.grow e2 t1 gr
          have key : ∀ (l : List (D × Addr × Int)), (∀ y ∈ l, key3 gs y.1 = -(keyAt gs y.2.2)) → sortA3 gs (l.map fun x => x.2) = (l.mergeSort fun a b => decide (key3 gs a.1 ≤ key3 gs b.1)).map (fun x => x.2) ∧ sortBy3 gs (l.map fun x => x.1) = (l.mergeSort fun a b => decide (key3 gs a.1 ≤ key3 gs b.1)).map (fun x => x.1) := fun l hl =>
            by
            refine ⟨(List.map_mergeSort fun a ha b hb => by rw [hl a ha, hl b hb]).symm, ?_⟩
            unfold sortBy3
            refine ((List.map_mergeSort (f := fun (x : D × Addr × Int) => x.1) (s := fun a b => decide (key3 gs a ≤ key3 gs b)) (r := fun a b => decide (key3 gs a.1 ≤ key3 gs b.1)) (l := l) ?_)).symm
            intro a ha b hb
            rfl
          obtain ⟨k1, k2⟩ := key trs fun y hy => (r3 y hy).1
          rw [k1, List.map_map]
          rw [r1, k2] at h1
          refine Rem.newLst h1 S2 ?_ hp
          have hz1 : ∀ l : List (D × Addr × Int), (∀ y ∈ l, Rep X.K X.mg z1 y.1 (.ref y.2.1)) → Reps X.K X.mg z1 (l.map fun x => x.1) (l.map ((fun x => V.ref x.1) ∘ fun x => x.2)) := fun l => by
            induction l with
            | nil => exact fun _ => .nil
            | cons y l ih => exact fun h => .cons (h y (List.mem_cons_self ..)) (ih fun q hq => h q (List.mem_cons_of_mem _ hq))
          refine hz1 _ fun y hy => ?_
          have hy' : y ∈ trs := (List.mergeSort_perm trs _).mem_iff.mp hy
          exact pairs_rep r r1 r2 y hy'
      · exact h1.elim
    · exact h1.elim
  · exact h1.elim
end
end PD
namespace PD
open PySem PySem.Spec PyProof.Rows L2
theorem hu9 {A : Around} {k : Nat} (hr : Room k A) : A.units + 9 < cLine := by have := hr.un; omega
end PD
namespace PD
open PySem PySem.Spec PyProof.Rows L2
def extS (i : Nat) (de : Den (List D)) : SDen := fun ρ m => match slotAt ρ i with
  | .own (.lst ds) => bindS (de ρ m) ρ fun ys m' => (match ys with
    | [.lst es] => if ds.length + es.length ≤ sizeLine then .nx (ρ.set i (.own (.lst (ds ++ es)))) m' else .bad
    | _ => .bad)
  | _ => .bad
section
variable {X : Cx} {RW : WX}
theorem sd_extend {i : Nat} {x : Str} {e : Expr} {de : Den (List D)} {px apos cpos pos : Pos} (hv : PE X (.Name x px) (tVar i)) (ha : PA X [e] (tX X.K X.mg RW de (pLooks X.K X.mg)))
    (h : ∀ to t, PE X (.Name x px) to → PA X [e] t → PS X (.Expr (.Call (.Attribute (.Name x px) "extend" apos) [e] [] cpos) pos) (tDrop (tBM X.K "list" rExtend to t))) :
    PS X (.Expr (.Call (.Attribute (.Name x px) "extend" apos) [e] [] cpos) pos) (tB X.K X.mg RW (extS i de)) :=
  PS.imp (h _ _ hv ha) fun D σ H ⟨B, F0, z, ow, ρ, m, S, q⟩ => by
    unfold extS at q
    split at q
    · rename_i ds hs
      obtain ⟨hg, a, o, e3, hH, xs, rfl, r⟩ := slot_own S hs
      refine ⟨.ref a, e3, .inl ⟨rfl, _, SqL.of hH⟩, B, F0, z, ow, ρ, m, S, Rem.stepS q fun ys m1 B1 z1 ow1 vs H1 hB hz S1 pv q1 => ?_⟩
      have S1' := S1.weak hB
      obtain ⟨_, a2, o2, e4, hH2, xs2, rfl, r2⟩ := slot_own S1' hs
      rw [e3] at e4
      cases e4
      split at q1
      · rename_i es
        obtain ⟨v, rfl, rv⟩ := looks_one pv
        obtain ⟨b, zs, rfl, hb, rz⟩ := look_list S1 rv
        split at q1
        · rename_i hl
          refine ⟨a, b, xs2, zs, rfl, rfl, hH2, hb, by rw [← r2.len, ← rz.len]; exact hl, ?_⟩
          exact q1 z1 _ σ _ (Fz.le.refl _) (S1'.change hg e3 ⟨_, rfl, r2.append rz⟩)
        · exact q1.elim
      · exact q1.elim
    · exact q.elim
end
end PD
namespace PD
open PySem PySem.Spec PyProof.Rows L2
mutual
theorem nk_py : ∀ k : NestedKey, (nkD k).py = k.data
  | .none => by simp only [nkD, D.py, NestedKey.data]
  | .num i => by simp only [nkD, D.py, NestedKey.data]
  | .text x => by simp only [nkD, D.py, NestedKey.data]
  | .tup ks => by simp only [nkD, D.py, NestedKey.data, nks_pys ks]
theorem nks_pys : ∀ ks : List NestedKey, D.pys (nkDs ks) = NestedKey.datas ks
  | [] => by simp only [nkDs, D.pys, NestedKey.datas]
  | k :: ks => by simp only [nkDs, D.pys, NestedKey.datas, nk_py k, nks_pys ks]
end
mutual
theorem data_inj : ∀ a b : NestedKey, a.data = b.data → a = b
  | .none, b, h => by cases b <;> simp only [NestedKey.data] at h <;> first | rfl | cases h
  | .num i, b, h => by cases b <;> simp only [NestedKey.data] at h <;> first | (cases h; rfl) | cases h
  | .text x, b, h => by cases b <;> simp only [NestedKey.data] at h <;> first | (cases h; rfl) | cases h
  | .tup ks, b, h => by
    cases b with
    | tup ls =>
      simp only [NestedKey.data, PyData.tuple.injEq] at h
      rw [datas_inj ks ls h]
    | _ => simp only [NestedKey.data] at h; cases h
theorem datas_inj : ∀ a b : List NestedKey, NestedKey.datas a = NestedKey.datas b → a = b
  | [], [], _ => rfl
  | [], _ :: _, h => by simp only [NestedKey.datas] at h; cases h
  | _ :: _, [], h => by simp only [NestedKey.datas] at h; cases h
  | a :: as, b :: bs, h => by
    simp only [NestedKey.datas, List.cons.injEq] at h
    rw [data_inj a b h.1, datas_inj as bs h.2]
end
theorem nkDs_map : ∀ ks : List NestedKey, nkDs ks = ks.map nkD
  | [] => by simp only [nkDs, List.map_nil]
  | k :: ks => by simp only [nkDs, List.map_cons, nkDs_map ks]
theorem datas_map : ∀ ks : List NestedKey, NestedKey.datas ks = ks.map NestedKey.data
  | [] => by simp only [NestedKey.datas, List.map_nil]
  | k :: ks => by simp only [NestedKey.datas, List.map_cons, datas_map ks]
mutual
theorem nkD_lay : ∀ k : NestedKey, noTxt k = true → (nkD k).py.canLay0 = true
  | .none, _ => by simp only [nkD, D.py, PyData.canLay0]
  | .num i, _ => by simp only [nkD, D.py, PyData.canLay0]
  | .text x, h => by cases h
  | .tup ks, h => by
    simp only [noTxt] at h
    simp only [nkD, D.py, PyData.canLay0, nkDs_lay ks h]
theorem nkDs_lay : ∀ ks : List NestedKey, noTxts ks = true → PyData.canLayAll0 (D.pys (nkDs ks)) = true
  | [], _ => by simp only [nkDs, D.pys, PyData.canLayAll0]
  | k :: ks, h => by
    simp only [noTxts, Bool.and_eq_true] at h
    simp only [nkDs, D.pys, PyData.canLayAll0, nkD_lay k h.1, nkDs_lay ks h.2, Bool.and_self]
end
mutual
theorem nkOf_noTxt : ∀ {d : D} {k : NestedKey}, nkOf d = some k → noTxt k = true
  | .non, k, h => by simp only [nkOf, Option.some.injEq] at h; subst h; rfl
  | .int i, k, h => by simp only [nkOf, Option.some.injEq] at h; subst h; rfl
  | .tup ds, k, h => by
    simp only [nkOf] at h
    split at h
    · rename_i ks e
      simp only [Option.some.injEq] at h
      subst h
      simp only [noTxt]
      exact nksOf_noTxt e
    · cases h
  | .bl _, k, h => by simp only [nkOf] at h; cases h
  | .str _, k, h => by simp only [nkOf] at h; cases h
  | .etp _, k, h => by simp only [nkOf] at h; cases h
  | .lst _, k, h => by simp only [nkOf] at h; cases h
  | .dct _ _ _, k, h => by simp only [nkOf] at h; cases h
  | .ldc _ _ _, k, h => by simp only [nkOf] at h; cases h
  | .row _, k, h => by simp only [nkOf] at h; cases h
  | .obj _, k, h => by simp only [nkOf] at h; cases h
  | .fn _, k, h => by simp only [nkOf] at h; cases h
  | .scr _, k, h => by simp only [nkOf] at h; cases h
theorem nksOf_noTxt : ∀ {ds : List D} {ks : List NestedKey}, nksOf ds = some ks → noTxts ks = true
  | [], ks, h => by simp only [nksOf, Option.some.injEq] at h; subst h; rfl
  | d :: ds, ks, h => by
    simp only [nksOf] at h
    split at h
    · rename_i k ks' e1 e2
      simp only [Option.some.injEq] at h
      subst h
      simp only [noTxts, nkOf_noTxt e1, nksOf_noTxt e2, Bool.and_self]
    · cases h
end
def minNK (k : NestedKey) (ks : List NestedKey) : NestedKey := ks.foldl (fun a y => if W.dataLt y.data a.data = true then y else a) k
theorem minNK_data : ∀ (ks : List NestedKey) (k : NestedKey), (minNK k ks).data = W.minD k.data (ks.map NestedKey.data)
  | [], k => rfl
  | y :: ks, k => by
    show (minNK (if W.dataLt y.data k.data = true then y else k) ks).data = W.minD (if W.dataLt y.data k.data = true then y.data else k.data) (ks.map NestedKey.data)
    rw [minNK_data ks]
    by_cases h : W.dataLt y.data k.data = true
    · rw [if_pos h, if_pos h]
    · rw [if_neg h, if_neg h]
def alikeNK (ks : List NestedKey) : Bool := (ks.all fun x => ks.all fun y => W.alike x.data y.data) && ((ks.all fun x => match x with
  | .none => false
  | _ => true) && decide (PyData.depthAll (ks.map NestedKey.data) ≤ 60))
theorem alikeNK_all {ks : List NestedKey} (h : alikeNK ks = true) : W.AlikeAll (ks.map NestedKey.data) ∧ PyData.depthAll (ks.map NestedKey.data) ≤ 60 := by
  unfold alikeNK at h
  simp only [Bool.and_eq_true, List.all_eq_true, decide_eq_true_eq] at h
  obtain ⟨h1, h2, h3⟩ := h
  refine ⟨⟨fun x hx y hy => ?_, fun x hx e => ?_⟩, h3⟩
  · obtain ⟨a, ha, rfl⟩ := List.mem_map.mp hx
    obtain ⟨b, hb, rfl⟩ := List.mem_map.mp hy
    exact h1 a ha b hb
  · obtain ⟨a, ha, rfl⟩ := List.mem_map.mp hx
    have := h2 a ha
    cases a <;> simp only [NestedKey.data] at e <;> first | exact absurd this (by decide) | cases e
def minND : D → Res D
  | .lst ds => (match nksOf ds with
    | some (k :: ks) => if alikeNK (k :: ks) = true then .ok (nkD (minNK k ks)) else .bad
    | _ => .bad)
  | _ => .bad
section
variable {X : Cx} {pins : List (Addr × Obj)} {σ : L2.St} {H : Hp} {s : Shared}
def rMinN (K : PySem.W.Frag) : List V → Hp → VK → Prop := fun xs H Q => ∃ (a : Addr) (vs : List V) (k : NestedKey) (ks : List NestedKey), xs = [.ref a] ∧ SqL K H a vs ∧ DpAll K H vs ((k :: ks).map NestedKey.data) ∧ alikeNK (k :: ks) = true ∧
  ∀ (i : Nat) (v : V), vs[i]? = some v → (k :: ks)[i]? = some (minNK k ks) → Q v H
theorem cr_minN (hc : X.calm = true) (hu : X.A.units + 65 < cLine) : CallR X (.builtin "min") (rMinN X.K) := by
  intro pins s σ H xs us Q I r h
  obtain ⟨a, vs, k, ks, rfl, hs, hd, ha, q⟩ := h
  obtain ⟨its, rv, pl, _⟩ := I.list hs
  rw [Vals.ref1 r]
  obtain ⟨as, ra⟩ := Dp.readsAll I _ _ _ hd rv
  obtain ⟨h1, h2⟩ := alikeNK_all ha
  rw [List.map_cons] at h1 h2 ra
  refine W.min_list_data (x := k.data) (xs := ks.map NestedKey.data) (I.ok.hd hc) pl.isList (by simpa using ra) h1 (by omega) fun i v h' tk bs hi rd kp => ?_
  have hi' : its[i]? = some v := by simpa using hi
  obtain ⟨bs', r1, r2, _⟩ := W.readsAll_at ra i v hi'
  have e := (Reads.unique (PyProof.Rows.Reads.keeps kp r1) _ _ rd).1
  rw [← minNK_data] at e
  have hlt : i < (k :: ks).length := by simpa using r2
  have e2 : (k.data :: ks.map NestedKey.data).getD i .none = ((k :: ks)[i]).data := by
    rw [← List.map_cons, List.getD_eq_getElem?_getD, List.getElem?_map, List.getElem?_eq_getElem hlt]
    rfl
  rw [e2] at e
  have e3 := data_inj _ _ e
  have hl := rv.length
  obtain ⟨lt, _⟩ := List.getElem?_eq_some_iff.mp hi'
  obtain ⟨u, e4, r4⟩ := rv.get (List.getElem?_eq_getElem (show i < vs.length by omega))
  rw [hi'] at e4
  cases e4
  exact ⟨_, H, I.kept (t' := tk) kp, r4, q i _ (List.getElem?_eq_getElem (by omega)) (by rw [List.getElem?_eq_getElem hlt, e3])⟩
end
section
variable {X : Cx}
theorem minN_r : CbR X (rMinN X.K) (oneArg minND) := by
  intro RW B F0 z ow ρ m σ H vs ds Q S px h
  match ds, h with
  | [], h => exact h.elim
  | _ :: _ :: _, h => exact h.elim
  | [d], h =>
    obtain ⟨v, rfl, p⟩ := looks_one px
    cases d with
    | lst xs =>
      dsimp only [oneArg, minND] at h
      cases hn : nksOf xs with
      | none => rw [hn] at h; exact h.elim
      | some ks =>
        rw [hn] at h
        cases ks with
        | nil => exact h.elim
        | cons k ks =>
          dsimp only at h
          by_cases ha : alikeNK (k :: ks) = true
          · rw [if_pos ha] at h
            obtain ⟨a, ys, rfl, e, r⟩ := look_list S p
            have ex := nkDs_of hn
            rw [← ex] at r
            have r0 := r
            have hdat : PyData.canLayAll0 (D.pys (nkDs (k :: ks))) = true := nkDs_lay _ (nksOf_noTxt hn)
            have hdp := dps_of_reps S.fh r0 hdat
            rw [nks_pys, datas_map] at hdp
            refine ⟨a, ys, k, ks, rfl, SqL.of e, hdp, ha, fun i v e1 e2 => h.here S ?_⟩
            rw [nkDs_map] at r
            obtain ⟨v', e3, r3⟩ := r.get (i := i) (d := nkD (minNK k ks)) (by rw [List.getElem?_map, e2]; rfl)
            rw [e1] at e3
            cases e3
            exact r3
          · rw [if_neg ha] at h; exact h.elim
    | _ => exact h.elim
end
end PD
namespace PD
open PySem PySem.Spec PyProof.Rows L2
end PD
namespace PD
open PySem PySem.Spec PyProof.Rows L2
end PD
namespace PD
open PySem PySem.Spec PyProof.Rows L2
def oexcB (C : PySem.W.Frag → Addr) : Fb := fun K => (match K.lookup (C K) with
  | some ⟨.type "type", _, .cls cd, sl⟩ => (match cd.mro, sl.toList with
    | .ref C' :: bm, [_, _, _, _, some (.builtin n), _] => C' == C K && (n == "ValueError.__new__" && (!cd.hasDel && (cd.hasDict && PySem.HandSPX.refsVE bm)))
    | _, _ => false)
  | _ => false) && (decide (PySem.W.findIn K (.ref (C K)) "__setattr__" = some (some (.builtin "object.__setattr__"))) && (decide (PySem.W.subIn K (.ref (C K)) (.type "BaseException") = some true) && (decide (PySem.W.typeIn K (.ref (C K)) = some (.type "type")) && PySem.W.keepIn K (.ref (C K)))))
theorem oexcB_ok {C : PySem.W.Frag → Addr} {K : PySem.W.Frag} (h : oexcB C K = true) : OexC K (C K) := by
  unfold oexcB at h
  obtain ⟨h1, h⟩ := Bool.and_eq_true_iff.mp h
  obtain ⟨h2, h⟩ := Bool.and_eq_true_iff.mp h
  obtain ⟨h3, h⟩ := Bool.and_eq_true_iff.mp h
  obtain ⟨h4, h5⟩ := Bool.and_eq_true_iff.mp h
  refine ⟨?_, of_decide_eq_true h2, of_decide_eq_true h3, of_decide_eq_true h4, h5⟩
  generalize C K = CK at *
  split at h1
  · rename_i dd cd sl ho
    split at h1
    · rename_i C' bm k0 k1 k2 k3 n k5 hm hs
      simp only [Bool.and_eq_true, beq_iff_eq, Bool.not_eq_true'] at h1
      obtain ⟨rfl, rfl, hdel, hdic, hre⟩ := h1
      obtain ⟨nm, bs, mro, ns, qn, hd, sn, sub, ab, col, del⟩ := cd
      dsimp only at hm hdel hdic
      subst hm hdel hdic
      have hsl : sl = #[k0, k1, k2, k3, some (.builtin "ValueError.__new__"), k5] := by
        obtain ⟨l⟩ := sl
        simp only at hs
        rw [hs]
      subst hsl
      exact ⟨nm, qn, ns, bs, bm, sn, sub, ab, col, dd, k0, k1, k2, k3, k5, ho, hre⟩
    · cases h1
  · cases h1
def iAd (K : PySem.W.Frag) (x : Str) : Addr := match PySem.W.findIn K (.ref (cA K x)) "__init__" with
  | some (some (.ref a)) => a
  | _ => 0
def exLB (x : Str) : Fb := fun K => oexcB (fun K => cA K x) K && (decide (PySem.W.findIn K (.ref (cA K x)) "__init__" = some (some (.ref (iAd K x)))) && (decide (PySem.W.typeIn K (.ref (iAd K x)) = some (.type "function")) &&
  (decide (PySem.W.findIn K (.ref (cA K x)) "line" = some none) && (decide (PySem.W.findIn K (.ref (cA K x)) "word" = some none) && xfB K (cA K x)))))
structure ExL (K : PySem.W.Frag) (mg : Str → Option Value) (x : Str) : Prop where
  at_ : mg x = some (.ref (cA K x))
  oex : OexC K (cA K x)
  ini : PySem.W.findIn K (.ref (cA K x)) "__init__" = some (some (.ref (iAd K x)))
  typ : PySem.W.typeIn K (.ref (iAd K x)) = some (.type "function")
  line : PySem.W.findIn K (.ref (cA K x)) "line" = some none
  word : PySem.W.findIn K (.ref (cA K x)) "word" = some none
  xf : XfC K (cA K x)
theorem exL_ok {K : PySem.W.Frag} {mg : Str → Option Value} {x : Str} (hm : mg x = some (.ref (cA K x))) (h : exLB x K = true) : ExL K mg x := by
  obtain ⟨h1, h⟩ := Bool.and_eq_true_iff.mp h
  obtain ⟨h2, h⟩ := Bool.and_eq_true_iff.mp h
  obtain ⟨h3, h⟩ := Bool.and_eq_true_iff.mp h
  obtain ⟨h4, h⟩ := Bool.and_eq_true_iff.mp h
  obtain ⟨h5, h6⟩ := Bool.and_eq_true_iff.mp h
  exact ⟨hm, oexcB_ok h1, of_decide_eq_true h2, of_decide_eq_true h3, of_decide_eq_true h4, of_decide_eq_true h5, xfB_ok h6⟩
def spLW (K : PySem.W.Frag) (C : Addr) : Sp := fun vs H Q _ => ∃ (a : Addr) (l w : V), vs = [.ref a, l, w] ∧ H a = some (exo a C none) ∧
  ∀ dx, H dx = none → dx ≠ a → Q .non (upd (upd (upd H dx (exd dx [("line", l)])) a (exo a C (some dx))) dx (exd dx [("word", w), ("line", l)]))
theorem init_lw {P : Program} {w : World} {K : PySem.W.Frag} {mg : Str → Option Value} {base : Heap} {q : Str} {params : Arguments} {scope : Scope} {a : Addr} {fd : FuncData} {x : Str} {p1 p2 p3 p4 p5 p6 p7 p8 : Pos} (T : ExL K mg x)
    (F : FunD K "__init__" q params [.Assign [.Attribute (.Name "self" p1) "line" p2] (.Name "line" p3) p4, .Assign [.Attribute (.Name "self" p5) "word" p6] (.Name "word" p7) p8] scope [] [] a fd)
    (S : FnScope ["self", "line", "word"] ["self", "line", "word"] scope) : FnOk P w K mg base (L2.CX P w) 2 a fd ["self", "line", "word"] (spLW K (cA K x)) := by
  refine F.ok S (fun vs H Q E q => by obtain ⟨a, l, w, rfl, _⟩ := q; rfl) (fun cdv A outer s H vs Q E hr q => ?_)
  obtain ⟨e, l, w', rfl, h1, h2⟩ := q
  have pr := S.par
  have vis : ∀ n ∈ (["self", "line", "word"] : List Str), Vis scope n := fun n hn => (pr n hn).imp id .inl
  have v0 : ∀ p, PE (cxOf (L2.CX P w) P w K mg base ["self", "line", "word"] q scope a cdv A outer s H E) (.Name "self" p) (tVar 0) := fun p => pe_var rfl (vis _ (by simp)) (by decide) (by decide)
  have v1 : ∀ p, PE (cxOf (L2.CX P w) P w K mg base ["self", "line", "word"] q scope a cdv A outer s H E) (.Name "line" p) (tVar 1) := fun p => pe_var rfl (vis _ (by simp)) (by decide) (by decide)
  have v2 : ∀ p, PE (cxOf (L2.CX P w) P w K mg base ["self", "line", "word"] q scope a cdv A outer s H E) (.Name "word" p) (tVar 2) := fun p => pe_var rfl (vis _ (by simp)) (by decide) (by decide)
  refine ⟨_, pss_cons (ps_ost (v0 p1) (v1 p3)) (pss_one (ps_ost (v0 p5) (v2 p7))), ?_⟩
  refine ⟨l, rfl, .ref e, rfl, e, cA K x, rfl, T.oex, T.line, .inl ⟨h1, fun dx hd hne => ?_⟩⟩
  have e1 : upd (upd H dx (exd dx [("line", l)])) e (exo e (cA K x) (some dx)) e = some (exo e (cA K x) (some dx)) := upd_same
  have e2 : upd (upd H dx (exd dx [("line", l)])) e (exo e (cA K x) (some dx)) dx = some (exd dx [("line", l)]) := by rw [upd_ne hne, upd_same]
  exact ⟨w', rfl, .ref e, rfl, e, cA K x, rfl, T.oex, T.word, .inr ⟨dx, _, e1, e2, by show 1 ≤ 900; decide, h2 dx hd hne⟩⟩
def raiseLW (x : Str) (da : Den (List D)) : SDen := fun ρ m => bindS (da ρ m) ρ fun ds m' => match ds with
  | [.int l, .int w] => .er ⟨x, [.int l, .int w]⟩ ρ m'
  | _ => .bad
theorem upd_lw {H : Hp} {a dx : Addr} {e1 e2 e3 o : HO} (ha : H a = none) (hne : dx ≠ a) : upd (del (upd (upd (upd H dx e1) a e2) dx e3) a) dx o = upd H dx o := by
  funext b
  by_cases h1 : b = dx
  · subst h1; rw [upd_same, upd_same]
  · rw [upd_ne h1, upd_ne h1]
    by_cases h2 : b = a
    · subst h2; rw [del_same, ha]
    · rw [del_ne h2, upd_ne h1, upd_ne h2, upd_ne h1]
theorem sd_raiseLW {X : Cx} {RW : WX} {x : Str} {e : Expr} {es : List Expr} {da : Den (List D)} {p pos pos' : Pos} {fd : FuncData} (T : ExL X.K X.mg x) (F : FnOk X.prog X.w X.K X.mg X.base (L2.CX X.prog X.w) 2 (iAd X.K x) fd ["self", "line", "word"] (spLW X.K (cA X.K x))) (hb : Binds X.K fd ["self", "line", "word"] [])
    (hr : Room 3 X.A) (hc : X.calm = true) (tk : Takes X RW) (hg : Gl X x) (ha : PA X (e :: es) (tX X.K X.mg RW da (pVals X.K X.mg))) (hdb : (x == ("__debug__" : Str)) = false := by decide)
    (he : starEach (e :: es) X.env = (false, eval e X.env) :: starEach es X.env := by rfl) (hpl : (backTo pos (starEach es X.env)).any (·.1) = false := by rfl) :
    PS X (.Raise (some (.Call (.Name x p) (e :: es) [] pos)) none pos') (tB X.K X.mg RW (raiseLW x da)) :=
  PS.imp (ps_raise hc tk (pmk_oex T.oex T.ini T.typ F hr hb (.nil : Vals [] []) passL hg T.at_ ha hdb he hpl)) fun D σ H ⟨B, F0, z, ow, ρ, m, S, q⟩ => by
    refine ⟨B, F0, z, ow, ρ, m, S, Rem.stepS q fun ds m1 B1 z1 ow1 vs H1 hB hz S1 pv q1 => ?_⟩
    have S1' := S1.weak hB
    split at q1
    · rename_i l w
      obtain ⟨v1, vs1, rfl, r1, rr⟩ := Reps.uncons pv
      obtain ⟨v2, vs2, rfl, r2, rr⟩ := rr.uncons
      cases rr.nil_of
      cases rep_int.mp r1
      cases rep_int.mp r2
      refine ⟨by show 2 ≤ 1000; decide, fun a hn => ⟨a, .int l, .int w, rfl, upd_same, fun dx hd hne => ?_⟩⟩
      rw [upd_ne hne] at hd
      refine ⟨rfl, dx, [("word", .int w), ("line", .int l)], ?_, ?_, hd, ?_⟩
      · rw [upd_ne (Ne.symm hne), upd_same]
      · rw [upd_same]
      · have e1 : ∀ e2 e3 : HO, upd (upd (upd (upd H1 a (exo a (cA X.K x) none)) dx (exd dx [("line", .int l)])) a e2) dx e3 = upd (upd (upd H1 dx (exd dx [("line", .int l)])) a e2) dx e3 := fun e2 e3 => by
          funext b
          by_cases h1 : b = dx
          · subst h1; rw [upd_same, upd_same]
          · rw [upd_ne h1, upd_ne h1]
            by_cases h2 : b = a
            · subst h2; rw [upd_same, upd_same]
            · rw [upd_ne h2, upd_ne h2, upd_ne h1, upd_ne h1, upd_ne h2]
        rw [e1, upd_lw hn hne]
        refine q1 _ ow1 σ _ (some dx) _ (S1'.leF hd (.xd [("word", .int w), ("line", .int l)])) (S1'.allocF hd _) ⟨_, T.at_, rfl, (fun e => by cases e), fun l' w' e => ?_⟩
        cases e
        exact ⟨dx, _, rfl, upd_same, rfl, rfl⟩
    · exact q1.elim
end PD
namespace PD
open PySem PySem.Spec PyProof.Rows L2
section
variable {X : Cx} {RW : WX} {e c : Expr} {pos : Pos}
def args2 : List D → Bool
  | [.int _, .int _] => true
  | _ => false
def dIsF (a : Addr) (d : Option Addr) (i : Nat) (x : Exn) (y : Str) : Den D := fun ρ m => match PD.slotAt ρ i with
  | .exc a' d' x' => if a' = a ∧ d' = d ∧ (x.args.length = 0 ∨ args2 x'.args = true) then .ok (.bl (subE x.cls y), m) else .bad
  | _ => .bad
theorem slot_exc {K : PySem.W.Frag} {mg : Str → Option Value} {B F0 H : Hp} {z : Fz} {ow : Own} {ρ : List Slot} {m : List Ob} {σ : St} {i : Nat} {a : Addr} {d : Option Addr} {x : Exn} (S : StOk K mg B F0 z ow ρ m σ H) (h : PD.slotAt ρ i = .exc a d x) :
    σ[i]? = some (some (V.ref a)) ∧ ExcSl z (some (.ref a)) a d x := by
  have q := S.slot i _ (slotAt_get h (by simp))
  obtain ⟨e1, e2⟩ := (show ExcSl z (σ[i]?.join) a d x from q)
  refine ⟨?_, rfl, e2⟩
  cases r : σ[i]? with
  | none => rw [r] at e1; cases e1
  | some u => rw [r] at e1; exact congrArg some e1
def dExF (a : Addr) (d : Option Addr) (i : Nat) (x : Exn) (c f : Str) : Den D := fun ρ m => match PD.slotAt ρ i with
  | .exc a' d' x' => if a' = a ∧ d' = d ∧ x.cls = c then (match x'.args with
    | [.int l, .int w] => if f = ("line" : Str) then .ok (.int l, m) else if f = ("word" : Str) then .ok (.int w, m) else .bad
    | _ => .bad) else .bad
  | _ => .bad
theorem pd_exF {a : Addr} {d : Option Addr} {x : Exn} {oe : Obj} {pn : List (Addr × Obj)} {i : Nat} {n c f : Str} {px : Pos} (T : ExL X.K X.mg c) (hz : Zc (.ref (cA X.K x.cls)) d oe) (hf : ∃ vs, oe.data = .fields vs) (hv : PE (X.suite a ((a, oe) :: pn)) (.Name n px) (tVar i))
    (hb : attributeBase (.Name n px) f X.env (eval (.Name n px) X.env) = eval (.Name n px) X.env := by rfl) :
    PE (X.suite a ((a, oe) :: pn)) (.Attribute (.Name n px) f pos) (tX X.K X.mg RW (dExF a d i x c f) (pVal X.K X.mg)) := by
  by_cases hc : x.cls = c
  case neg =>
    refine pe_bad (α := Unit) (β := Unit) (X := X.suite a ((a, oe) :: pn)) fun ρ m => ?_
    unfold dExF
    split
    · rw [if_neg (fun z => hc z.2.2)]
    · rfl
  by_cases hfn : f = ("line" : Str) ∨ f = ("word" : Str)
  case neg =>
    refine pe_bad (α := Unit) (β := Unit) (X := X.suite a ((a, oe) :: pn)) fun ρ m => ?_
    unfold dExF
    split
    · split
      · split
        · rw [if_neg (fun z => hfn (.inl z)), if_neg (fun z => hfn (.inr z))]
        · rfl
      · rfl
    · rfl
  have hno : PySem.W.findIn X.K (.ref (cA X.K x.cls)) f = some none := by
    rw [hc]
    rcases hfn with rfl | rfl
    · exact T.line
    · exact T.word
  refine PE.imp (pe_xf (X := X) (by rw [hc]; exact T.xf) hno hz hf hv hb) fun σ H Q ⟨B, F0, z, ow, ρ, m, S, r⟩ => ?_
  unfold dExF at r
  split at r
  · rename_i a' d' x' hsl
    split at r
    · rename_i hcc
      obtain ⟨rfl, rfl, _⟩ := hcc
      obtain ⟨e1, _, e2⟩ := slot_exc S hsl
      split at r
      · rename_i l w hlw
        obtain ⟨dd, fs, f1, f2, f3, f4⟩ := e2 l w hlw
        rcases hfn with rfl | rfl
        · rw [if_pos rfl] at r
          exact ⟨.ref a', e1, rfl, rfl, dd, fs, .int l, f1, S.fh _ _ f2, f3, r.here S (rep_int.mpr rfl)⟩
        · rw [if_neg (by decide), if_pos rfl] at r
          exact ⟨.ref a', e1, rfl, rfl, dd, fs, .int w, f1, S.fh _ _ f2, f4, r.here S (rep_int.mpr rfl)⟩
      · exact r.elim
    · exact r.elim
  · exact r.elim
end
section
variable {i : Nat} {x : Exn}
theorem al_isF {y : Str} : AlD i x fun a d => dIsF a d i x y := fun a d ρ m => by
  dsimp only [dIsF, atE]
  by_cases h : i < ρ.length
  · rw [slot_self h, slot_self h]
    simp
  · have e : ∀ s : Slot, ρ.set i s = ρ := fun s => List.set_eq_of_length_le (by omega)
    rw [e, e, slot_none (by omega)]
theorem al_exF {c f : Str} : AlD i x fun a d => dExF a d i x c f := fun a d ρ m => by
  dsimp only [dExF, atE]
  by_cases h : i < ρ.length
  · rw [slot_self h, slot_self h]
    simp
  · have e : ∀ s : Slot, ρ.set i s = ρ := fun s => List.set_eq_of_length_le (by omega)
    rw [e, e, slot_none (by omega)]
end
end PD
namespace PD
open PySem PySem.Spec PyProof.Rows L2
def InitOk (P : Program) (w : World) (K : PySem.W.Frag) (mg : Str → Option Value) (base : Heap) (x : Str) : Prop := ∃ fd, FnOk P w K mg base (L2.CX P w) 2 (iAd K x) fd ["self", "line", "word"] (spLW K (cA K x)) ∧ Binds K fd ["self", "line", "word"] []
theorem sd_raiseE {X : Cx} {RW : WX} {x : Str} {e : Expr} {es : List Expr} {da : Den (List D)} {p pos pos' : Pos} (T : ExL X.K X.mg x) (F : InitOk X.prog X.w X.K X.mg X.base x)
    (hr : Room 3 X.A) (hc : X.calm = true) (tk : Takes X RW) (hg : Gl X x) (ha : PA X (e :: es) (tX X.K X.mg RW da (pVals X.K X.mg))) (hdb : (x == ("__debug__" : Str)) = false := by decide)
    (he : starEach (e :: es) X.env = (false, eval e X.env) :: starEach es X.env := by rfl) (hpl : (backTo pos (starEach es X.env)).any (·.1) = false := by rfl) :
    PS X (.Raise (some (.Call (.Name x p) (e :: es) [] pos)) none pos') (tB X.K X.mg RW (raiseLW x da)) := by
  obtain ⟨fd, F, hb⟩ := F
  exact sd_raiseLW T F hb hr hc tk hg ha hdb he hpl
end PD
namespace PD
open PySem PySem.Spec PyProof.Rows L2
open Sem (wp)
end PD
namespace PD
open PySem PySem.Spec PyProof.Rows L2
section
variable {X : Cx} {RW : WX} {e : Expr} {pos : Pos}
def plainW : D → Res D
  | .etp xs => .ok (.tup xs)
  | d => .ok d
theorem pd_plainW {de : Den D} (h : PE X e (tX X.K X.mg RW de (pVal X.K X.mg))) : PE X e (tX X.K X.mg RW (dUn plainW de) (pVal X.K X.mg)) :=
  PE.imp h fun σ H Q q => tX.imp q fun B F0 z ow ρ m S r => by
    unfold dUn at r
    cases hd : de ρ m with
    | ok a =>
      obtain ⟨d, m'⟩ := a
      rw [hd] at r
      intro B' z' ow' v H' hB hz S' p
      cases d with
      | etp xs => exact r B' z' ow' v H' hB hz S' (rep_etp_tup p)
      | _ => exact r B' z' ow' v H' hB hz S' p
    | err x m' => rw [hd] at r; exact r
    | bad => rw [hd] at r; exact r
end
end PD
namespace PD
open PySem PySem.Spec PyProof.Rows L2
theorem zip_lookup {K : PySem.W.Frag} {mg : Str → Option Value} {z : Fz} {f : Str} : ∀ {fs : List (Str × D)} {vs : List V} {d : D}, Reps K mg z (fs.map (·.2)) vs → fs.lookup f = some d → ∃ v, ((fs.map (·.1)).zip vs).lookup f = some v ∧ Rep K mg z d v
  | [], vs, d, _, h => by cases h
  | p :: fs, vs, d, r, h => by
    obtain ⟨w, ws, rfl, r1, r2⟩ := Reps.uncons r
    show ∃ v, List.lookup f ((p.1, w) :: (fs.map (·.1)).zip ws) = some v ∧ _
    obtain ⟨p1, p2⟩ := p
    rw [List.lookup_cons] at h ⊢
    cases hb : f == p1 with
    | true => rw [hb] at h; cases h; exact ⟨w, rfl, r1⟩
    | false => rw [hb] at h; exact zip_lookup r2 h
theorem zip_none {K : PySem.W.Frag} {mg : Str → Option Value} {z : Fz} {f : Str} : ∀ {fs : List (Str × D)} {vs : List V}, Reps K mg z (fs.map (·.2)) vs → fs.lookup f = none → ((fs.map (·.1)).zip vs).lookup f = none
  | [], vs, r, _ => by rw [r.nil_of]; rfl
  | p :: fs, vs, r, h => by
    obtain ⟨w, ws, rfl, r1, r2⟩ := Reps.uncons r
    show List.lookup f ((p.1, w) :: (fs.map (·.1)).zip ws) = none
    obtain ⟨p1, p2⟩ := p
    rw [List.lookup_cons] at h ⊢
    cases hb : f == p1 with
    | true => rw [hb] at h; cases h
    | false => rw [hb] at h; exact zip_none r2 h
def fldOf (c f : Str) (d : D) (m : List Ob) : Res D := match d with
  | .obj n => (match m[n]? with
    | some (.ins c' fs) => if c' = c then (match fs.lookup f with | some d => .ok d | none => .bad) else .bad
    | _ => .bad)
  | _ => .bad
def dFldO (c f : Str) (de : Den D) : Den D := fun ρ m => (de ρ m).bind fun x => (fldOf c f x.1 x.2).bind fun d => .ok (d, x.2)
theorem fldOf_at {K : PySem.W.Frag} {mg : Str → Option Value} {z : Fz} {B F0 : Hp} {ow : Own} {ρ : List Slot} {m : List Ob} {σ : St} {H : Hp} {c f : Str} {d x : D} {v : V} (T : AtrK K mg c f) (S : StOk K mg B F0 z ow ρ m σ H) (pd : Rep K mg z x v) (h : fldOf c f x m = .ok d) :
    ∃ a dx fs w, v = .ref a ∧ H a = some (.ins (cA K c) dx fs) ∧ fs.lookup f = some w ∧ Rep K mg z d w := by
  unfold fldOf at h
  split at h
  · rename_i n
    split at h
    · rename_i c' fs hm
      split at h
      · rename_i hc
        subst hc
        split at h
        · rename_i d' hl
          cases h
          obtain ⟨a, dx, C, vs, hA, hC, hH, rv, _⟩ := S.insAt hm
          obtain ⟨a0, r, rfl, hA0⟩ := rep_obj.mp pd
          rw [hA] at hA0
          cases hA0
          rw [T.at_] at hC
          cases hC
          obtain ⟨w, e1, e2⟩ := zip_lookup rv hl
          exact ⟨_, dx, _, w, rfl, hH, e1, e2⟩
        · cases h
      · cases h
    · cases h
  · cases h
section
variable {X : Cx} {RW : WX} {e o : Expr} {es : List Expr} {pos apos : Pos}
theorem pd_fldO {c f : Str} {de : Den D} (T : AtrK X.K X.mg c f) (he : PE X e (tX X.K X.mg RW de (pVal X.K X.mg))) (hb : attributeBase e f X.env (eval e X.env) = eval e X.env := by rfl) :
    PE X (.Attribute e f pos) (tX X.K X.mg RW (dFldO c f de) (pVal X.K X.mg)) :=
  PE.imp (pe_fld he hb) fun σ H Q q => tX.imp q fun B F0 z ow ρ m S h => Rem.step pVal.pm h fun d m1 B1 z1 ow1 v H1 hB hz S1 pd h1 => by
    dsimp only at h1
    cases hf : fldOf c f d m1 with
    | ok d' =>
      rw [hf] at h1
      obtain ⟨a, dx, fs, w, rfl, e1, e2, e3⟩ := fldOf_at T S1 (show Rep X.K X.mg z1 d v from pd) hf
      exact ⟨a, _, dx, fs, w, rfl, e1, T.cls, T.no, e2, h1.here S1 e3⟩
    | err x m2 => rw [hf] at h1; unfold fldOf at hf; repeat' (first | (split at hf) | cases hf)
    | bad => rw [hf] at h1; exact h1.elim
theorem run_fnE {k : Nat} {f : Addr} {fd : FuncData} {ps : List Str} {sp : Sp} {E : XK} {pins : List (Addr × Obj)} {σ : St} {H : Hp} {s : Shared} {Q : VK} {us : List Value} {vs : List V} (F : FnOk X.prog X.w X.K X.mg X.base (L2.CX X.prog X.w) k f fd ps sp) (hr : Room k X.A) (hb : Binds X.K fd ps []) (hx : PassesAt (L2.CX X.prog X.w) X σ E)
    (I : Inv X pins σ H s) (r : Vals vs us) (h : sp vs H Q E) : wpAny (model X.prog X.w) X.A (call (.ref f) us) (EP X pins σ Q) X.xe s := by
  have hl : (us ++ []).length = ps.length := by rw [List.append_nil, ← r.length]; exact F.len _ _ _ _ h
  refine wpAny_call (codeAny_mono (F.run X.A X.stack s H ⟨us, []⟩ (us ++ []) vs Q E hr I.env0 (hb s us I.kIn hl) (by rw [List.append_nil]; exact r) h) fun r s' hq => ?_)
  cases r with
  | error e => exact hx pins H s e s' I hq
  | ok fl =>
    cases fl with
    | ret u => exact I.after hq
    | next => exact False.elim hq
    | brk => exact False.elim hq
    | cont => exact False.elim hq
def tMethE (C : Addr) (m : Str) (sp : Sp) (E : St → XK) (ta : TE) (t : TA) : TE := fun σ H Q => ta σ H fun x H1 => ∃ a dx fs, x = .ref a ∧ H1 a = some (.ins C dx fs) ∧ fs.lookup m = none ∧
  t σ H1 fun vs H2 => sp (x :: vs) H2 Q (E σ)
theorem pe_methE {k : Nat} {C f : Addr} {m : Str} {fd : FuncData} {ps : List Str} {sp : Sp} {E : St → XK} {ta : TE} {t : TA} {pl : Sem Bool} (he : PE X o ta) (c : Cls X.K C) (hm : Meth X.K C m f) (F : FnOk X.prog X.w X.K X.mg X.base (L2.CX X.prog X.w) k f fd ps sp) (hr : Room k X.A) (hb : Binds X.K fd ps []) (hx : ∀ σ, PassesAt (L2.CX X.prog X.w) X σ (E σ)) (ha : PA X (e :: es) t)
    (hst : starEach (e :: es) X.env = (false, eval e X.env) :: starEach es X.env := by rfl) (hpl : (backTo pos (starEach es X.env)).any (·.1) = false := by rfl)
    (ht : eval (.Call (.Attribute o m apos) (e :: es) [] pos) X.env = (do
      let ov ← eval o X.env
      standAt apos.atName
      let (f, first) ← holding [ov] (getMethod ov m pl)
      callWith pos f first (backTo pos (starEach (e :: es) X.env)) (backToKw pos (keywordEach [] X.env))) := by rfl) :
    PE X (.Call (.Attribute o m apos) (e :: es) [] pos) (tMethE C m sp E ta t) := by
  refine ⟨fun pins s σ H Q I h => ?_⟩
  refine PySem.W.methodCall_KW (pl := pl) (thn (he.run pins s σ H _ I h) fun u s1 ⟨x, H1, I1, rx, a, dx, fs, ex, ea, l, q⟩ => ?_) ht
  subst ex
  obtain rfl : u = Value.ref a := rx
  refine getmeth_ok I1 ea c hm l ?_
  refine PySem.W.callWith_K (first := [.ref a]) (h₀ := X.base) I.ok.mod.kin hm.kp (thn (ha.run pos pins s1 σ H1 _ I1 q) fun us s2 ⟨vs, H2, I2, r, q2⟩ => ⟨I2.kIn, ?_⟩) hst hpl
  exact run_fnE (us := .ref a :: us) (vs := .ref a :: vs) F hr hb (hx σ) I2 (.cons rfl r) q2
def isIns (c f : Str) (d : D) (m : List Ob) : Bool := match d with
  | .obj n => (match m[n]? with
    | some (.ins c' fs) => decide (c' = c) && (fs.lookup f).isNone
    | _ => false)
  | _ => false
theorem isIns_at {K : PySem.W.Frag} {mg : Str → Option Value} {z : Fz} {B F0 : Hp} {ow : Own} {ρ : List Slot} {m : List Ob} {σ : St} {H : Hp} {c f : Str} {x : D} {v : V} (hc : mg c = some (.ref (cA K c))) (S : StOk K mg B F0 z ow ρ m σ H) (pd : Rep K mg z x v) (h : isIns c f x m = true) :
    ∃ a dx fs, v = .ref a ∧ H a = some (.ins (cA K c) dx fs) ∧ fs.lookup f = none := by
  unfold isIns at h
  split at h
  · rename_i n
    split at h
    · rename_i c' fs hm
      rw [Bool.and_eq_true, decide_eq_true_eq] at h
      obtain ⟨rfl, hl⟩ := h
      obtain ⟨a, dx, C, vs, hA, hC, hH, rv, _⟩ := S.insAt hm
      obtain ⟨a0, r, rfl, hA0⟩ := rep_obj.mp pd
      rw [hA] at hA0
      cases hA0
      rw [hc] at hC
      cases hC
      exact ⟨_, dx, _, rfl, hH, zip_none rv (Option.isNone_iff_eq_none.mp hl)⟩
    · cases h
  · cases h
structure ClsK (K : PySem.W.Frag) (mg : Str → Option Value) (c : Str) : Prop where
  at_ : mg c = some (.ref (cA K c))
  cls : Cls K (cA K c)
def dMethO (c f : Str) (den : FDen) (de : Den D) (da : Den (List D)) : Den D := fun ρ m => (de ρ m).bind fun x => if isIns c f x.1 x.2 = true then (da ρ x.2).bind fun xs => den (x.1 :: xs.1) xs.2 else .bad
theorem pd_methO {c m0 : Str} {g : Addr} {k n : Nat} {den : FDen} {de : Den D} {da : Den (List D)} (T : ClsK X.K X.mg c) (hm : Meth X.K (cA X.K c) m0 g) (F : Ff X.prog X.w X.K X.mg X.base g k (n + 1) den) (hr : Room k X.A) (tk : Takes X RW) (he : PE X o (tX X.K X.mg RW de (pVal X.K X.mg))) (ha : PA X (e :: es) (tX X.K X.mg RW da (pVals X.K X.mg)))
    (hn : ∀ ρ m xs m', da ρ m = .ok (xs, m') → xs.length = n) (hst : starEach (e :: es) X.env = (false, eval e X.env) :: starEach es X.env := by rfl) (hpl : (backTo pos (starEach es X.env)).any (·.1) = false := by rfl)
    (h : ∀ {fd : FuncData} {ps : List Str} {sp : Sp} {ta : TE} {t : TA}, PE X o ta → PA X (e :: es) t → FnOk X.prog X.w X.K X.mg X.base (L2.CX X.prog X.w) k g fd ps sp → Binds X.K fd ps [] → PE X (.Call (.Attribute o m0 apos) (e :: es) [] pos) (tMethE (cA X.K c) m0 sp (WE RW) ta t)) :
    PE X (.Call (.Attribute o m0 apos) (e :: es) [] pos) (tX X.K X.mg RW (dMethO c m0 den de da) (pVal X.K X.mg)) := by
  obtain ⟨fd, ps, F, hbn⟩ := F.ex
  refine PE.imp (h he ha F hbn) fun σ H Q q => tX.imp q fun B F0 z ow ρ m S h => Rem.step pVal.pm h fun d m1 B1 z1 ow1 v H1 hB hz S1 pd h1 => ?_
  dsimp only at h1
  cases hi : isIns c m0 d m1 with
  | false => rw [hi] at h1; exact h1.elim
  | true =>
    rw [hi, if_pos rfl] at h1
    have pd : Rep X.K X.mg z1 d v := pd
    obtain ⟨a, dx, fs, rfl, e1, e2⟩ := isIns_at T.at_ S1 pd hi
    refine ⟨a, dx, fs, rfl, e1, e2, B1, F0, z1, ow1, ρ, m1, S1, ?_⟩
    have hlen := hn ρ m1
    cases hd : da ρ m1 with
    | bad => rw [hd] at h1; exact h1.elim
    | err x m' => rw [hd] at h1; exact h1
    | ok r =>
      obtain ⟨ds, m2⟩ := r
      rw [hd] at h1
      intro B2 z2 ow2 vs H2 hB2 hz2 S2 pv
      have h1 : Rem X.K X.mg RW (den (d :: ds) m2) B1 F0 z1 ρ σ (pVal X.K X.mg) Q := h1
      refine spF_of (ds := d :: ds) S2 (.cons (pd.le hz2) pv) (by rw [List.length_cons, hlen ds m2 hd]) ?_
      cases hf : den (d :: ds) m2 with
      | bad => rw [hf] at h1; exact h1.elim
      | ok r =>
        obtain ⟨d3, m3⟩ := r
        rw [hf] at h1
        exact fun z3 ow3 w H3 hz3 S3 rv => h1 B2 z3 ow3 w H3 hB2 (hz2.trans hz3) S3 rv
      | err x m3 =>
        rw [hf] at h1
        exact fun z3 ow3 cv dd H3 hz3 S3 ex => h1 z3 ow3 cv dd H3 (hz2.trans hz3) (S3.weak hB2) ex
end
end PD
namespace PD
open PySem PySem.Spec PyProof.Rows L2
section
variable {X : Cx} {RW : WX} {e o : Expr} {es : List Expr} {pos apos : Pos}
def dPropO (c f : Str) (den : FDen) (de : Den D) : Den D := fun ρ m => (de ρ m).bind fun x => if isIns c f x.1 x.2 = true then noErr (den [x.1] x.2) else .bad
theorem pd_propO {c f : Str} {p g : Addr} {k : Nat} {den : FDen} {de : Den D} (T : ClsK X.K X.mg c) (hp : PropOf X.K (cA X.K c) f p g) (F : Ff X.prog X.w X.K X.mg X.base g k 1 den) (hr : Room (k + 1) X.A) (he : PE X e (tX X.K X.mg RW de (pVal X.K X.mg)))
    (hb : attributeBase e f X.env (eval e X.env) = eval e X.env := by rfl) : PE X (.Attribute e f pos) (tX X.K X.mg RW (dPropO c f den de) (pVal X.K X.mg)) := by
  obtain ⟨fd, ps, F, hbn⟩ := F.ex
  refine PE.imp (pe_prop (E := noX) he T.cls hp F hr hbn .nil pass_no hb) fun σ H Q q => tX.imp q fun B F0 z ow ρ m S h => Rem.step pVal.pm h fun d m1 B1 z1 ow1 v H1 hB hz S1 pd h1 => ?_
  dsimp only at h1
  cases hi : isIns c f d m1 with
  | false => rw [hi] at h1; exact h1.elim
  | true =>
    rw [hi, if_pos rfl] at h1
    have pd : Rep X.K X.mg z1 d v := pd
    obtain ⟨a, dx, fs, rfl, e1, e2⟩ := isIns_at T.at_ S1 pd hi
    exact ⟨a, dx, _, rfl, e1, spF_here (ds := [d]) S1 (.cons pd .nil) rfl h1⟩
def dLenO (c : Str) (den : FDen) (de : Den D) : Den D := fun ρ m => (de ρ m).bind fun x => if isIns c "__len__" x.1 x.2 = true then asLen (den [x.1] x.2) else .bad
theorem pd_lenO {c : Str} {g : Addr} {k : Nat} {den : FDen} {de : Den D} {p : Pos} (T : ClsK X.K X.mg c) (hs : PySem.W.findIn X.K (.ref (cA X.K c)) "__len__" = some (some (.ref g))) (hf : PySem.W.isFn X.K (.ref g) = true) (F : Ff X.prog X.w X.K X.mg X.base g k 1 den) (hr : Room (k + 1) X.A) (hg : Gl X "len") (hm : X.mg "len" = none)
    (he : PE X e (tX X.K X.mg RW de (pVal X.K X.mg))) (hs1 : starEach [e] X.env = (false, eval e X.env) :: starEach [] X.env := by rfl) (hpl : (backTo pos (starEach [] X.env)).any (·.1) = false := by rfl) :
    PE X (.Call (.Name "len" p) [e] [] pos) (tX X.K X.mg RW (dLenO c den de) (pVal X.K X.mg)) := by
  obtain ⟨fd, ps, F, hbn⟩ := F.ex
  refine PE.imp (pe_callB (call_lenOwn (E := noX) hs hf F hbn hr pass_no) hg hm (by decide +kernel) (pa_cons he pa_nil hs1) (by decide) (by decide) hs1 hpl) fun σ H Q q => tX.imp q fun B F0 z ow ρ m S h => Rem.step pVal.pm h fun d m1 B1 z1 ow1 v H1 hB hz S1 pd h1 => ?_
  dsimp only at h1
  cases hi : isIns c "__len__" d m1 with
  | false => rw [hi] at h1; exact h1.elim
  | true =>
    rw [hi, if_pos rfl] at h1
    have pd : Rep X.K X.mg z1 d v := pd
    obtain ⟨a, dx, fs, rfl, e1, e2⟩ := isIns_at T.at_ S1 pd hi
    refine ⟨a, dx, _, rfl, e1, spF_of (ds := [d]) S1 (.cons pd .nil) rfl ?_⟩
    have h1 : Rem X.K X.mg RW (asLen (den [d] m1)) B1 F0 z1 ρ σ (pVal X.K X.mg) Q := h1
    cases hf : den [d] m1 with
    | bad => rw [hf] at h1; exact h1.elim
    | err x m2 => rw [hf] at h1; exact h1.elim
    | ok r =>
      obtain ⟨d, m2⟩ := r
      rw [hf] at h1
      cases d with
      | int i =>
        by_cases hi : 0 ≤ i ∧ i < 9223372036854775808
        · rw [show asLen (.ok (.int i, m2)) = .ok (.int i, m2) from if_pos hi] at h1
          intro z2 ow2 v H2 hz2 S2 rv
          cases rep_int.mp rv
          exact ⟨i, rfl, ⟨hi.1, by have := hi.2; omega⟩, h1 B1 z2 ow2 _ H2 (Same.refl _) hz2 S2 rv⟩
        · rw [show asLen (.ok (.int i, m2)) = .bad from if_neg hi] at h1
          exact h1.elim
      | _ => exact h1.elim
def mkO (c : Str) (init : FDen) (ds : List D) (m : List Ob) : Res (D × List Ob) := match init (.obj m.length :: ds) (m ++ [.ins c []]) with
  | .ok (.non, m2) => .ok (.obj m.length, m2)
  | .err x m2 => .err x m2
  | _ => .bad
def dMkO (c : Str) (init : FDen) (da : Den (List D)) : Den D := fun ρ m => (da ρ m).bind fun x => mkO c init x.1 x.2
theorem pd_mkO {c : Str} {f : Addr} {k n : Nat} {init : FDen} {da : Den (List D)} {p : Pos} (T : ClsK X.K X.mg c) (M : Mk X.K (cA X.K c) f) (F : Ff X.prog X.w X.K X.mg X.base f k (n + 1) init) (hr : Room (k + 1) X.A) (tk : Takes X RW) (hg : Gl X c) (ha : PA X (e :: es) (tX X.K X.mg RW da (pVals X.K X.mg)))
    (hn : ∀ ρ m xs m', da ρ m = .ok (xs, m') → xs.length = n) (hdb : (c == ("__debug__" : Str)) = false := by decide) (he : starEach (e :: es) X.env = (false, eval e X.env) :: starEach es X.env := by rfl) (hpl : (backTo pos (starEach es X.env)).any (·.1) = false := by rfl) :
    PE X (.Call (.Name c p) (e :: es) [] pos) (tX X.K X.mg RW (dMkO c init da) (pVal X.K X.mg)) := by
  obtain ⟨fd, ps, F, hbn⟩ := F.ex
  refine PE.imp (pe_mkS (E := WE RW) M F hr hg T.at_ hbn (fun σ => passAt tk σ) ha hdb he hpl) fun σ H Q q => tX.imp q fun B F0 z ow ρ m S h => ?_
  have hlen := hn ρ m
  unfold dMkO at h
  cases hd : da ρ m with
  | bad => rw [hd] at h; exact h
  | err x m' => rw [hd] at h; exact h
  | ok r =>
    obtain ⟨ds, m1⟩ := r
    rw [hd] at h
    intro B1 z1 ow1 vs H1 hB hz S1 pv x dx hx hdx hne
    have hx2 : upd H1 dx (.own x) x = none := by rw [upd_ne (Ne.symm hne)]; exact hx
    obtain ⟨ow2, S2⟩ := (S1.alloc hdx (.own x)).obNew hx2 (u := .ins (cA X.K c) dx []) (o := .ins c []) fun ow' w => ⟨x, dx, _, [], rfl, T.at_, upd_same, .nil, w⟩
    have hle1 : z1.le ⟨z1.F, z1.As ++ [[x]]⟩ := ⟨Same.refl _, _, rfl⟩
    have ro : Rep X.K X.mg ⟨z1.F, z1.As ++ [[x]]⟩ (.obj m1.length) (.ref x) := rep_obj.mpr ⟨x, [], rfl, by
      show (z1.As ++ [[x]])[m1.length]? = _
      rw [← S1.ol, List.getElem?_append_right (Nat.le_refl _), Nat.sub_self]
      rfl⟩
    refine spF_of (ds := .obj m1.length :: ds) S2 (.cons ro (pv.le hle1)) (by rw [List.length_cons, hlen ds m1 hd]) ?_
    have h : Rem X.K X.mg RW (mkO c init ds m1) B F0 z ρ σ (pVal X.K X.mg) Q := h
    unfold mkO at h
    cases hi : init (.obj m1.length :: ds) (m1 ++ [.ins c []]) with
    | bad => rw [hi] at h; exact h.elim
    | err y m2 =>
      rw [hi] at h
      exact fun z2 ow3 cv dd H3 hz2 S3 ex => h z2 ow3 cv dd H3 ((hz.trans hle1).trans hz2) (S3.weak hB) ex
    | ok r =>
      obtain ⟨d, m2⟩ := r
      rw [hi] at h
      cases d with
      | non => exact fun z2 ow3 w H3 hz2 S3 rv => ⟨rep_non.mp rv, h B1 z2 ow3 (.ref x) H3 hB ((hz.trans hle1).trans hz2) S3 (ro.le hz2)⟩
      | _ => exact h.elim
end
end PD
namespace PD
open PySem PySem.Spec PyProof.Rows L2
end PD
namespace PD
open PySem PySem.Spec PyProof.Rows L2
end PD
namespace PD
open PySem PySem.Spec PyProof.Rows L2
theorem tuple_mul1 (l : Addr) (items : Array Value) (n : Nat) (dd : Option Addr) (sl : Array (Option Value)) (u : Tok) (c1 : (items.isEmpty || (1 : Int) == 1) = true) :
    Meets (Builtin.«tuple.__mul__» ⟨[.ref l, .int 1 u], []⟩) (fun _ R s => s.heap.get? l = some { cls := .type "tuple", dict := dd, data := .seq items n, slots := sl } ∧
      R (.ok (.ret (Value.ref l))) s) :=
  .of_wp fun prog w A R s h => by
    obtain ⟨hp, g, d, tk, os⟩ := s
    obtain ⟨hl, h⟩ := h
    have f1 := AutoSeq1.idx_int
    wp_walk using wpAny_loadPart' hl
    repeat (first
      | (refine wpAny_ite_false (decide_eq_false (by decide)) ?_; wp_walk using wpAny_loadPart' hl)
      | (refine wpAny_ite_true (decide_eq_true c1) ?_; wp_walk using wpAny_loadPart' hl))
    exact ⟨_, rfl, h⟩
def rRepT1 (K : PySem.W.Frag) : R2 := fun x y H Q => ∃ l xs, x = .ref l ∧ y = .int 1 ∧ SqT K H l xs ∧ xs ≠ [] ∧ Q (.ref l) H
theorem op_repT1 {X : Cx} : OpR X (binaryOp .Mult) (rRepT1 X.K) := by
  intro pins s σ H x y v u Q I rx ry h
  obtain ⟨l, xs, rfl, rfl, hT, hne, q⟩ := h
  cases rx
  obtain ⟨t, rfl⟩ := ry
  obtain ⟨its, r, ⟨⟨cls, dd, data, sl⟩, ho, hc, n, hd⟩, hs⟩ := I.tuple hT
  simp only at hc hd
  subst hc hd
  have c1 : (its.toArray.isEmpty || (1 : Int) == 1) = true := by rw [show ((1 : Int) == 1) = true from rfl, Bool.or_true]
  exact wpAny_binaryOp_repeat_ref (T := "tuple") (U := "int") (by decide) ⟨_, ho, rfl⟩ (fun s' => typeIs_int s' 1 t) noFill_tuple_mul PySem.F.fills_int_mul PySem.F.slot_int_rmul repeat_tuple PySem.F.slot_int_index.lookup
    (call_meets PySem.F.slot_int_rmul (typeIs_int s 1 t) PySem.F.entry_int_rmul (PySem.F.args_int_rmul_2 _ _) (int_rmul_tuple 1 t l its.toArray n dd sl)
      ⟨ho, rfl, ⟨_, ho, rfl⟩, call_meets PySem.F.slot_tuple_mul ⟨_, ho, rfl⟩ PySem.F.entry_tuple_mul (PySem.F.args_tuple_mul_2 _ _) (tuple_mul1 l its.toArray n dd sl t c1) ⟨ho, .ref l, H, I, rfl, q⟩⟩)
def rRepTX (K : PySem.W.Frag) : R2 := fun x y H Q => rRepT1 K x y H Q ∨ rRepT K x y H Q
theorem op_repTX {X : Cx} : OpR X (binaryOp .Mult) (rRepTX X.K) := op_repT1.or op_repT
def repTXD : D → D → Res D
  | .tup a, .int k => if 0 < a.length ∧ k = 1 then .ok (.tup a) else repTD (.tup a) (.int k)
  | _, _ => .bad
theorem repTX_r {X : Cx} : BinR X (rRepTX X.K) repTXD := by
  intro RW B F0 z ow ρ m σ H x y dx dy Q S px py h
  unfold repTXD at h
  split at h
  · split at h
    · rename_i as k hz
      obtain ⟨a, xs, rfl, h1, r1⟩ := look_tup S px
      have hk := look_int py
      refine .inl ⟨a, xs, rfl, by rw [hk, hz.2], h1, fun e => by have := r1.len; have h0 := hz.1; rw [e, List.length_nil] at this; omega, h.here S ?_⟩
      exact look_rep px (fun c => by cases c <;> simp [Cont.d])
    · exact .inr (repT_r S px py h)
  · exact h.elim
end PD
namespace PD
open PySem PySem.Spec PyProof.Rows L2
def isIntV (v : Value) (i : Int) : Bool := match v with
  | .int j _ => decide (j = i)
  | _ => false
def intsB : List Value → List Int → Bool
  | [], [] => true
  | v :: vs, i :: is => isIntV v i && intsB vs is
  | _, _ => false
theorem intsB_vals : ∀ {vs : List Value} {is : List Int}, intsB vs is = true → Vals (is.map V.int) vs
  | [], [], _ => .nil
  | v :: vs, i :: is, h => by
    unfold intsB at h
    obtain ⟨h1, h2⟩ := Bool.and_eq_true_iff.mp h
    refine .cons ?_ (intsB_vals h2)
    unfold isIntV at h1
    cases v with
    | int j t =>
      have : j = i := of_decide_eq_true h1
      subst this
      exact ⟨t, rfl⟩
    | _ => cases h1
  | [], _ :: _, h => by cases h
  | _ :: _, [], h => by cases h
def tupB (x : Str) (is : List Int) : Fb := fun K => He.eqO (PySem.W.nsIn K mainGlobals x) (some (some (.ref (He.ga K x)))) && (match K.lookup (He.ga K x) with
  | some o => decide (o.cls = .type "tuple") && (match o.data with
    | .seq its _ => intsB its.toList is && decide (its.size ≤ 1000)
    | _ => false)
  | none => false)
def GTup (K : PySem.W.Frag) (mg : Str → Option Value) (x : Str) (is : List Int) : Prop := ∃ a, mg x = some (.ref a) ∧ ∃ (o : Obj) (its : Array Value) (n : Nat), K.lookup a = some o ∧ o.cls = .type "tuple" ∧ o.data = .seq its n ∧ its.size ≤ sizeLine ∧ Vals (is.map V.int) its.toList
theorem tupB_ok {K : PySem.W.Frag} {h : Heap} {mg : Str → Option Value} (X : K.In h) (G : h.Ns mainGlobals mg) {x : Str} {is : List Int} (c : tupB x is K = true) : GTup K mg x is := by
  obtain ⟨c1, c2⟩ := Bool.and_eq_true_iff.mp c
  refine ⟨He.ga K x, PySem.W.mg_of X G (He.eqO_ok c1), ?_⟩
  cases e : K.lookup (He.ga K x) with
  | none => rw [e] at c2; cases c2
  | some o =>
    rw [e] at c2
    dsimp only at c2
    obtain ⟨c3, c4⟩ := Bool.and_eq_true_iff.mp c2
    split at c4
    · rename_i its n hd
      obtain ⟨c5, c6⟩ := Bool.and_eq_true_iff.mp c4
      exact ⟨o, its, n, rfl, of_decide_eq_true c3, hd, by rw [szl_eq]; have := of_decide_eq_true c6; omega, intsB_vals c5⟩
    · cases c4
section
variable {X : Cx} {RW : WX}
theorem reps_ints {K : PySem.W.Frag} {mg : Str → Option Value} {z : Fz} : ∀ is : List Int, Reps K mg z (is.map D.int) (is.map V.int)
  | [] => .nil
  | i :: is => .cons (rep_int.mpr rfl) (reps_ints is)
theorem pd_gtup {x : Str} {is : List Int} {pos : Pos} (hg : Gl X x) (hm : GTup X.K X.mg x is) (hd : (x == ("__debug__" : Str)) = false := by decide) : PE X (.Name x pos) (tX X.K X.mg RW (dC (.tup (is.map .int))) (pVal X.K X.mg)) := by
  obtain ⟨a, hm, o, its, n, k1, k2, k3, k4, k5⟩ := hm
  exact pd_c (pe_glob (v := .ref a) hg hm rfl hd) fun z => by
    simp only [Rep]
    exact ⟨a, _, rfl, .inr ⟨o, its, n, k1, k2, k3, k4, k5⟩, reps_ints is⟩
end
theorem dict_pairsA {prog : Program} {w : World} {K : Type} [DecidableEq K] {kn : HeapKind prog w K} {A : Around} {E : Value → Shared → Prop} {s : Shared} {env : Env} {keys : List (Option Expr)} {values : List Expr} {pos : Pos} {prs : List (Sem Value × Sem Value)} {Q : Value → Shared → Prop} (hu : kn.room A)
    (hsh : (evalEachOpt keys env).zip ((evalEach values env).map fun v => do let x ← v; standAt pos; pure x) = prs.map fun p => (some p.1, p.2)) (h0 : prs ≠ []) (hlen : prs.length ≤ 15)
    (h : wpAny (model prog w) A (evalPairs prs) (fun vs s₁ => ∃ qs, CarriesH kn s₁.heap vs qs ∧ s₁.heap.DictOfH kn s.heap.objs.size [] ∧
      ∀ h' tk, h'.DictOfH kn s.heap.objs.size (storedAllH [] qs) → Heap.SameBut s.heap.objs.size s₁.heap h' → Q (.ref s.heap.objs.size) { s₁ with heap := h', toks := tk }) E
      { s with heap := s.heap.push { cls := .type "dict", data := .dict #[] } }) : wpAny (model prog w) A (eval (.Dict keys values pos) env) Q E s := by
  rw [arm_eval_Dict, hsh, dictDisplay_pairs prs h0 (by omega)]
  exact wpAny_bind (wpAny_standAt (wpAny_bind (wpAny_subDictH (knd := kn) (Q := fun d s' => wpAny (model prog w) A (pure (Value.ref d)) Q E s') hu hlen
    (wpAny_mono h (fun vs s₁ h₁ => by obtain ⟨qs, hc, hm, hq⟩ := h₁; exact ⟨qs, hc, hm, fun h' tk a b => wpAny_pure (hq h' tk a b)⟩) fun _ _ e => e))))
def tNDisp (K : PySem.W.Frag) (tk tv : TE) : TE := fun σ H Q => ∀ p od, H p = none → NObj [] od → (p == sysModules) = false → tk σ (upd H p (rawO p od)) fun y H1 => tv σ H1 fun v H2 => ∃ b k, y = .ref b ∧ H2 p = some (rawO p od) ∧ NKAt K H2 k y ∧ okKey k = true ∧
  ∀ u od', RelV v u → NObj [(k, b, u)] od' → Q (.ref p) (upd H2 p (rawO p od'))
section
variable {X : Cx} {k v : Expr} {pos : Pos} {tk tv : TE}
theorem pe_ndisp (hu : X.A.units + 9 < cLine) (hk : PE X k tk) (hv : PE X v tv) : PE X (.Dict [some k] [v] pos) (tNDisp X.K tk tv) := by
  refine ⟨fun pins s σ H Q I h => ?_⟩
  have hn := I.hok.fresh (Nat.le_refl s.heap.objs.size)
  have hs : (s.heap.objs.size == sysModules) = false := beq_eq_false_iff_ne.mpr (Ne.symm (Nat.ne_of_lt I.big))
  have n0 : NObj [] ({ cls := .type "dict", data := .dict #[] } : Obj) := ⟨⟨rfl, rfl, rfl⟩, ⟨#[], 0, rfl, fun _ => rfl⟩, List.nodup_nil⟩
  have I1 := I.laid (a := s.heap.objs.size) (o := rawO s.heap.objs.size ({ cls := .type "dict", data := .dict #[] } : Obj)) (h' := s.heap.push { cls := .type "dict", data := .dict #[] }) (t' := s.toks) (fun _ _ q => Heap.get?_push_of_some _ q) (Nat.le_refl _) (raw_ok (Heap.get?_push_size _ rfl))
  have hpp := pps_cons (pos := pos) hk hv pps_nil
  refine dict_pairsA (kn := nestedKind X.prog X.w) (prs := pairTrees [some k] [v] X.env pos) (by show X.A.units + 8 < cLine; omega) (by rfl) (by intro e; cases e) (by show 1 ≤ 15; decide)
    (thn (hpp.run pins _ σ _ (fun ps H2 => match ps with
      | [(y, v0)] => ∃ b k0, y = V.ref b ∧ H2 s.heap.objs.size = some (rawO s.heap.objs.size ({ cls := .type "dict", data := .dict #[] } : Obj)) ∧ NKAt X.K H2 k0 y ∧ okKey k0 = true ∧
        ∀ u od', RelV v0 u → NObj [(k0, b, u)] od' → Q (.ref s.heap.objs.size) (upd H2 s.heap.objs.size (rawO s.heap.objs.size od'))
      | _ => False) I1 (h s.heap.objs.size _ hn n0 hs)) fun ws s2 ⟨ps, H2, I2, rel, q⟩ => ?_)
  split at q
  · rename_i y v0
    obtain ⟨b, k0, rfl, hp, hk0, ok, q⟩ := q
    cases rel with
    | @cons p1 w1 ps' ws' r1 r2 =>
      cases r2
      obtain ⟨kv, vv⟩ := w1
      obtain ⟨rk, rv⟩ := r1
      obtain rfl : kv = Value.ref b := rk
      have nd : NDat X.K H2 s.heap.objs.size [] ({ cls := .type "dict", data := .dict #[] } : Obj) := ⟨n0, (fun _ h => nomatch h), hs, .inl hp⟩
      refine ⟨[(k0, b, vv)], ⟨rfl, rfl, nk_key I2 hk0 ok, trivial⟩, NDat.dict I2 nd, fun h' tk' dk' hs' => ?_⟩
      have d1 : h'.DictOfH (nestedKind X.prog X.w) s.heap.objs.size [(k0, b, vv)] := dk'
      obtain ⟨od', e1, e2⟩ := nobj_of d1 fun x hx => by rw [List.mem_singleton] at hx; subst hx; exact ok
      exact ⟨.ref s.heap.objs.size, _, d_write I2 (by rw [hp]; exact True.intro) hs' ⟨od', e1⟩ (raw_ok e1), rfl, q vv od' rv e2⟩
  · exact q.elim
end
end PD
namespace PD
open PySem PySem.Spec PyProof.Rows L2
def oneN (k v : D) : Res Cont := match keyN k with
  | some _ => .ok (.dct true [k] [v])
  | none => .bad
def dNDisp (dk dv : Den D) : Den Cont := fun ρ m => (dk ρ m).bind fun x => (dv ρ x.2).bind fun y => (oneN x.1 y.1).bind fun c => .ok (c, y.2)
section
variable {X : Cx} {RW : WX} {k v : Expr} {pos : Pos}
theorem pd_ndisp {dk dv : Den D} (hu : X.A.units + 9 < cLine) (hk : PE X k (tX X.K X.mg RW dk (pVal X.K X.mg))) (hv : PE X v (tX X.K X.mg RW dv (pVal X.K X.mg))) : PE X (.Dict [some k] [v] pos) (tX X.K X.mg RW (dNDisp dk dv) (pNew X.K X.mg)) :=
  PE.imp (pe_ndisp hu hk hv) fun σ H Q ⟨B, F0, z, ow, ρ, m, S, q⟩ p od hp n0 hs => by
    have hn := S.new_none hp
    have S0 := S.keep hp (rawO p od)
    have hF : F0 p = none := by
      cases e : F0 p with
      | none => rfl
      | some u => rw [S.f0 _ _ e] at hn; exact nomatch hn.1
    unfold dNDisp at q
    refine ⟨_, F0, z, ow, ρ, m, S0, ?_⟩
    cases hd : dk ρ m with
    | bad => rw [hd] at q; exact q
    | err x m1 =>
      rw [hd] at q
      exact fun z' ow' cv dd H' hz S1 ex => q z' ow' cv dd H' hz (S1.weak (same_upd hn.2.1)) ex
    | ok r =>
      obtain ⟨dx, m1⟩ := r
      rw [hd] at q
      intro B1 z1 ow1 y H1 hB1 hz1 S1 px
      have px : Rep X.K X.mg z1 dx y := px
      change Rem _ _ _ ((dv ρ m1).bind _) _ _ _ _ _ _ _ at q
      refine ⟨B1, F0, z1, ow1, ρ, m1, S1, ?_⟩
      cases he : dv ρ m1 with
      | bad => rw [he] at q; exact q
      | err x m2 =>
        rw [he] at q
        exact fun z' ow' cv dd H' hz S2 ex => q z' ow' cv dd H' (hz1.trans hz) (S2.weak ((same_upd hn.2.1).trans hB1)) ex
      | ok r =>
        obtain ⟨dy, m2⟩ := r
        rw [he] at q
        intro B2 z2 ow2 w H2 hB2 hz2 S2 py
        have py : Rep X.K X.mg z2 dy w := py
        change Rem _ _ _ ((oneN dx dy).bind _) _ _ _ _ _ _ _ at q
        unfold oneN at q
        split at q
        · rename_i j hj
          obtain ⟨k1, k2, b, rfl⟩ := keyN_ref hj (px.le hz2)
          obtain ⟨_, _, k3⟩ := keyN_some hj
          have hB : Same (upd B p (rawO p od)) B2 := hB1.trans hB2
          have hH2 : H2 p = some (rawO p od) := S2.bh _ _ (hB _ _ upd_same)
          refine ⟨b, j, rfl, hH2, k1.mono fun _ _ => same_tup S2.fh, k2, fun u od' ru n1 => ?_⟩
          have S3 := (S2.weak hB).rekeep (o' := rawO p od') hF
          have hz3 : z2.F p = none := by
            cases e : z2.F p with
            | none => rfl
            | some u => rcases S2.new p (by rw [e]; simp) with w | w
                        · exact absurd hF w
                        · rw [hB _ _ upd_same] at w; cases w
          obtain ⟨e1, ⟨es, ep, e2, e3⟩, e4⟩ := n1
          refine q _ z2 ow2 _ _ (same_upd hn.2.1) (hz1.trans hz2) S3 ⟨p, _, rfl, hn.2.1, upd_same, hz3, [w], .cons py .nil, [(j, b, u)], od', es, ep, ?_, .cons ru .nil, e4, fun x hx => ?_, e1, e2, e3, hs, rfl⟩
          · show [dx] = [nkD j]
            rw [k3]
          · rw [List.mem_singleton] at hx
            subst hx
            exact ⟨k2, k1⟩
        · exact q.elim
def dctCopy : List D → Res Cont
  | [d] => (match dctOf d with
    | some (ks, vs) => .ok (.dct false ks vs)
    | none => .bad)
  | _ => .bad
theorem dctCopy_r : CbN X (fun xs H Q => ∃ (a : Addr) (kvs : List (Key × V)), xs = [.ref a] ∧ Rd H a (.dK kvs) ∧ ∀ p, H p = none → Q (.ref p) (upd H p (.dK kvs))) dctCopy := by
  intro RW B F0 z ow ρ m σ H vs ds Q S px h
  unfold dctCopy at h
  split at h
  · rename_i d
    obtain ⟨v, rfl, p⟩ := looks_one px
    split at h
    · rename_i ks vs hd
      obtain ⟨a, kx, vx, rfl, hr, hl, rfl, r⟩ := look_dctOf S hd p
      exact ⟨a, _, rfl, hr, fun p hp => Rem.newDct h S ⟨vx, r, kx, hl, rfl, rfl⟩ hp⟩
    · exact h.elim
  · exact h.elim
def dGetN (i : Nat) (dk dx : Den D) : Den D := fun ρ m => match slotAt ρ i with
  | .own (.dct true ks vs) => (dk ρ m).bind fun k => (dx ρ k.2).bind fun x => (match keyN k.1 with
    | some j => .ok ((atN j ks vs).getD x.1, x.2)
    | none => .bad)
  | _ => .bad
theorem pd_getN {i : Nat} {x : Str} {e f : Expr} {px apos cpos : Pos} {dk dx : Den D} (hu : X.A.units + 9 < cLine) (hv : PE X (.Name x px) (tVar i)) (he : PE X e (tX X.K X.mg RW dk (pLook X.K X.mg))) (hf : PE X f (tX X.K X.mg RW dx (pVal X.K X.mg)))
    (m : M2 X (.Name x px) "get" apos e f cpos := by exact ⟨by rfl, by rfl, by rfl, by rfl⟩) : PE X (.Call (.Attribute (.Name x px) "get" apos) [e, f] [] cpos) (tX X.K X.mg RW (dGetN i dk dx) (pVal X.K X.mg)) :=
  PE.imp (pe_nget2 hu hv he hf m) fun σ H Q ⟨B, F0, z, ow, ρ, m, S, q⟩ => by
    unfold dGetN at q
    split at q
    · rename_i ks vs hs
      obtain ⟨_, a, o0, e3, hH0, vx0, r0, xs0, od0, es0, ep0, h01, h02, h03, h04, h05, h06, h07, h08, rfl⟩ := slot_own S hs
      refine ⟨.ref a, e3, a, rfl, ⟨xs0, od0, ⟨h05, ⟨es0, ep0, h06, h07⟩, h03⟩, fun x hx => ⟨(h04 x hx).1, (h04 x hx).2.mono fun _ _ => same_tup S.fh⟩, h08, .inl hH0⟩, ?_⟩
      refine ⟨B, F0, z, ow, ρ, m, S, Rem.step pVal.pm q fun k m1 B1 z1 ow1 kv H1 hB1 hz1 S1 pk q1 => ?_⟩
      refine ⟨B1, F0, z1, ow1, ρ, m1, S1, Rem.step pVal.pm q1 fun dxv m2 B2 z2 ow2 w H2 hB2 hz2 S2 pw q2 => ?_⟩
      have pw : Rep X.K X.mg z2 dxv w := pw
      dsimp only at q2
      cases hj : keyN k with
      | none => rw [hj] at q2; exact q2.elim
      | some j =>
        rw [hj] at q2
        have q2 : Rem X.K X.mg RW (.ok ((atN j ks vs).getD dxv, m2)) B2 F0 z2 ρ σ (pVal X.K X.mg) Q := q2
        obtain ⟨k1, k2, k3, b, rfl⟩ := look_keyN S1 hj pk
        obtain ⟨_, a2, o, e4, hH, vx, r, xs, od, es, ep, h1, h2, h3, h4, h5, h6, h7, h8, rfl⟩ := slot_own S2 hs
        rw [e3] at e4
        cases e4
        have k4 : NKAt X.K H2 j (.ref b) := k2.mono fun _ _ h => same_tup S2.fh (same_tup hz2.1 h)
        have sp := atN_spec (k := j) (fun x hx => (h4 x hx).1) h2 r
        refine ⟨b, xs, od, j, rfl, ⟨⟨h5, ⟨es, ep, h6, h7⟩, h3⟩, fun x hx => ⟨(h4 x hx).1, (h4 x hx).2.mono fun _ _ => same_tup S2.fh⟩, h8, .inl hH⟩, k4, k3, fun hnone => ?_, fun p hp => ?_⟩
        · have e : atN j ks vs = none := by
            cases hq : atN j ks vs with
            | none => rfl
            | some d => subst h1; obtain ⟨p, v, e1, _⟩ := sp.1 d hq; rw [hnone] at e1; cases e1
          rw [e] at q2
          exact q2.here S2 pw
        · subst h1
          cases hq : atN j (xs.map fun x => nkD x.1) vs with
          | none => rw [sp.2 hq] at hp; cases hp
          | some d =>
            obtain ⟨p', v, e1, e2, e3⟩ := sp.1 d hq
            rw [hp] at e1
            cases e1
            rw [hq] at q2
            exact ⟨v, e2, q2.here S2 e3⟩
    · exact q.elim
def sealT (i : Nat) (a : SDen) : SDen := fun ρ m => match slotAt ρ i with
  | .own (.dct t ks vs) => a (ρ.set i (.sh (.ldc t ks vs))) m
  | .sh _ => a ρ m
  | _ => .bad
theorem sd_sealT {i : Nat} {st : List Stmt} {a : SDen} (h : PSs X st (tB X.K X.mg RW a)) : PSs X st (tB X.K X.mg RW (sealT i a)) := by
  refine ⟨fun pins s σ H D I hw => ?_⟩
  obtain ⟨B, F0, z, ow, ρ, m, S, q⟩ := hw
  unfold sealT at q
  split at q
  · rename_i t ks vs hs
    refine (sd_seal (i := i) h).run pins s σ H D I ⟨B, F0, z, ow, ρ, m, S, ?_⟩
    unfold sealS
    rw [hs]
    exact q
  · exact h.run pins s σ H D I ⟨B, F0, z, ow, ρ, m, S, q⟩
  · exact q.elim
end
end PD
namespace PD
open PySem PySem.Spec PyProof.Rows L2
abbrev rwD (r : List Int) : D := .tup (r.map .int)
def sortR (rows : List (List Int)) : List (List Int) := rows.mergeSort fun a b => decide (a ≤ b)
def sortedTN : D → Res Cont
  | .lst ds => (match rowsI? ds with
    | some rows => if (rows.all fun r => !r.isEmpty) = true ∧ rows.length ≤ sizeLine then .ok (.lst ((sortR rows).map rwD)) else .bad
    | none => .bad)
  | _ => .bad
theorem dataLe_tups : PySem.W.dataLe false (fun b : List Int => PyData.tuple (b.map .int)) = fun p q => decide (p ≤ q) := by
  funext p q
  show (!PySem.W.dataLt (.tuple (q.map .int)) (.tuple (p.map .int))) = _
  rw [PySem.W.dataLt_tuple]
  show (!PySem.W.rowLt (q.map .int) (p.map .int)) = _
  rw [PySem.W.dataLt_ints]
  by_cases h : q < p
  · have h' : ¬ p ≤ q := fun r => List.not_lt.mpr r h
    simp [h, h']
  · have h' : p ≤ q := List.not_lt.mp h
    simp [h, h']
theorem ints_dp {K : PySem.W.Frag} {H : Hp} : ∀ is : List Int, DpAll K H (is.map V.int) (is.map PyData.int)
  | [] => .nil
  | i :: is => .cons (.int i) (ints_dp is)
def RowAt (K : PySem.W.Frag) (H : Hp) (x : V) (r : List Int) : Prop := ∃ t, x = .ref t ∧ SqT K H t (r.map V.int)
def rSortedTup (K : PySem.W.Frag) : List V → Hp → VK → Prop := fun xs H Q => ∃ (a : Addr) (vs : List V) (rows : List (List Int)) (W0 : V → List Int → Prop), xs = [.ref a] ∧ SqL K H a vs ∧ (∀ x r, W0 x r → RowAt K H x r) ∧ W.EachIs W0 vs rows ∧ (rows.all fun r => !r.isEmpty) = true ∧ rows.length ≤ sizeLine ∧
  ∀ (ws : List V) (p : Addr), W.EachIs W0 ws (sortR rows) → H p = none → Q (.ref p) (upd H p (.lst ws))
section
variable {X : Cx}
theorem cr_sortedTup (hu : X.A.units + 3 < cLine) : CallR X (.builtin "sorted") (rSortedTup X.K) := by
  intro pins s σ H xs us Q I r h
  obtain ⟨a, vs, rows, W0, rfl, hs, hW, he, hne, hl, q⟩ := h
  obtain ⟨its, rv, pl, _⟩ := I.list hs
  rw [Vals.ref1 r]
  have e1 : ∀ {vs : List V} {its : List Value} {rows : List (List Int)}, Vals vs its → W.EachIs W0 vs rows → W.EachIs (fun v b => ∃ x, RelV x v ∧ W0 x b) its rows := by
    intro vs its rows rv he
    induction he generalizing its with
    | nil => cases rv; exact .nil
    | cons h r ih =>
      cases rv with
      | cons a b => exact .cons ⟨_, a, h⟩ (ih b)
  have e2 : ∀ {out : List Value} {rows : List (List Int)}, W.EachIs (fun v b => ∃ x, RelV x v ∧ W0 x b) out rows → ∃ ws, Vals ws out ∧ W.EachIs W0 ws rows := by
    intro out rows h
    induction h with
    | nil => exact ⟨[], .nil, .nil⟩
    | cons h r ih =>
      obtain ⟨ws, a, b⟩ := ih
      obtain ⟨x, h1, h2⟩ := h
      exact ⟨x :: ws, .cons h1 a, .cons h2 b⟩
  have rd : ∀ (v : Value) (b : List Int), (∃ x, RelV x v ∧ W0 x b) → ∃ as, Reads s.heap v (PyData.tuple (b.map .int)) as := fun v b h => by
    obtain ⟨x, h1, h⟩ := h
    obtain ⟨t, rfl, h2⟩ := hW _ _ h
    exact Dp.reads I _ _ _ (.tup h2 (ints_dp b)) h1
  refine W.sorted_data (R := fun v b => ∃ x, RelV x v ∧ W0 x b) (enc := fun b : List Int => PyData.tuple (b.map .int)) pl.isList (e1 rv he) ((e1 rv he).mono rd) (W.AllAlike.of fun b b' => by
      simp only [PySem.W.alike]
      exact W.alike_ints b b') (.inl fun d hd => ?_) hl (fun b hb => ?_) fun out ol hout => ?_
  · obtain ⟨b, hb, rfl⟩ := List.mem_map.mp hd
    have := List.all_eq_true.mp hne b hb
    cases b with
    | nil => cases this
    | cons x r => exact ⟨_, _, rfl⟩
  · show X.A.units + 2 + (PyData.tuple (b.map .int)).depth < cLine
    rw [PyData.depth, W.depth_ints]
    omega
  · rw [dataLe_tups] at hout
    obtain ⟨ws, w1, w2⟩ := e2 hout
    obtain ⟨e, he⟩ := sortedAll_at s.heap its (List.toArray out)
    have n1 : H (s.heap.objs.size + 1) = none := I.hok.fresh (Nat.le_succ _)
    refine ⟨.ref (s.heap.objs.size + 1), _, I.laid (t' := s.toks) (a := s.heap.objs.size + 1) (o := .lst ws) (fun b o hb => sortedAll_old hb) (Nat.le_succ _) ?_, rfl, q ws _ w2 n1⟩
    refine ⟨?_, out, e, w1, he⟩
    have := w1.length
    rw [this, ol]
    exact hl
theorem each_rows {K : PySem.W.Frag} {mg : Str → Option Value} {z : Fz} {H : Hp} (hf : Same z.F H) : ∀ {ds : List D} {vs : List V} {rows : List (List Int)}, rowsI? ds = some rows → Reps K mg z ds vs → W.EachIs (RowAt K z.F) vs rows
  | [], vs, rows, h, r => by
    cases h
    rw [r.nil_of]
    exact .nil
  | d :: ds, vs, rows, h, r => by
    obtain ⟨v, vs', rfl, r1, r2⟩ := r.uncons
    cases d with
    | tup es =>
      unfold rowsI? at h
      split at h
      · rename_i x xs hx hxs
        cases h
        refine .cons ?_ (each_rows hf hxs r2)
        have := ints?_eq hx
        subst this
        simp only [Rep] at r1
        obtain ⟨a, ys, e, h1, h2⟩ := r1
        rw [h2.ints] at h1
        exact ⟨a, e, h1⟩
      · cases h
    | _ => simp [rowsI?] at h
theorem rows_reps {K : PySem.W.Frag} {mg : Str → Option Value} {z : Fz} : ∀ {rows : List (List Int)} {ws : List V}, W.EachIs (RowAt K z.F) ws rows → Reps K mg z (rows.map rwD) ws
  | _, _, .nil => .nil
  | _, _, .cons h r => by
    obtain ⟨t, rfl, h1⟩ := h
    refine .cons ?_ (rows_reps r)
    simp only [Rep]
    exact ⟨t, _, rfl, h1, reps_ints _⟩
theorem sortedTup_r : CbN X (rSortedTup X.K) (oneArg sortedTN) := by
  intro RW B F0 z ow ρ m σ H vs ds Q S px h
  match ds, h with
  | [], h => exact h.elim
  | _ :: _ :: _, h => exact h.elim
  | [d], h =>
    obtain ⟨v, rfl, p⟩ := looks_one px
    cases d with
    | lst xs =>
      dsimp only [oneArg, sortedTN] at h
      cases hn : rowsI? xs with
      | none => rw [hn] at h; exact h.elim
      | some rows =>
        rw [hn] at h
        dsimp only at h
        split at h
        · rename_i hc
          obtain ⟨a, ys, rfl, e, r⟩ := look_list S p
          have er := each_rows S.fh hn r
          exact ⟨a, ys, rows, RowAt X.K z.F, rfl, SqL.of e, fun _ _ ⟨t, e1, e2⟩ => ⟨t, e1, same_tup S.fh e2⟩, er, hc.1, hc.2, fun ws p hw hp => Rem.newLst (ds := (sortR rows).map rwD) h S (rows_reps hw) hp⟩
        · exact h.elim
    | _ => exact h.elim
end
end PD
namespace PD
open PySem PySem.Spec PyProof.Rows L2
end PD
namespace PD
open PySem PySem.Spec PyProof.Rows L2
abbrev nfL (q : Str) (params : Arguments) (scope : Scope) (c' : Addr) : NdefX.NF := ⟨"<lambda>", q, params, [], scope, [], c'⟩
abbrev noCX : CXT := fun _ _ _ _ _ _ => False
abbrev noXK : XK := fun _ _ _ => False
abbrev lcx (P : Program) (w : World) (K : PySem.W.Frag) (mg : Str → Option Value) (base : Heap) (x q : Str) (params : Arguments) (scope : Scope) (f c' : Addr) (A : Around) (outer : List Env) (s : Shared) (H : Hp) : Cx := NdefX.ncx noCX P w K mg base [x] (nfL q params scope c') f A outer s H noXK
theorem clo_nil {cells : List (Str × Addr)} : ∀ {names : List (Str × NameKind)} {acc : List (Str × Addr)}, (∀ y ∈ names, y.2 ≠ .free) → cloFrom cells names acc = acc
  | [], acc, _ => rfl
  | (n, k) :: r, acc, h => by
    have hk : k ≠ .free := h (n, k) (List.mem_cons_self ..)
    have e : (k == NameKind.free) = false := by cases k <;> first | rfl | exact absurd rfl hk
    rw [cloFrom, e]
    exact clo_nil fun y hy => h y (List.mem_cons_of_mem _ hy)
theorem lam_run {P : Program} {w : World} {K : PySem.W.Frag} {mg : Str → Option Value} {base : Heap} {A : Around} {outer : List Env} {s : Shared} {H : Hp} {f c' : Addr} {q x : Str} {params : Arguments} {body : Expr} {scope : Scope} {pm ctv u : Value} {v : V} {t : TE} {Q : VK} {k : Nat}
    (hr : Room (k + 1) A) (e0 : Env0 P w K mg base A outer s H) (S : NdefX.NScope [x] [x] [] scope) (ho : s.heap.get? f = some (W.kla_obj "<lambda>" q params body scope [] pm c' ctv)) (rec : s.heap.CodeRec (.ref c') q)
    (hbind : ∀ v : Value, bindArgs (W.kla_fn "<lambda>" q params body scope [] pm (.ref c') ctv) ⟨[v], []⟩ = pure [(x, v)]) (hb : PE (lcx P w K mg base x q params scope f c' A outer s H) body t) (r : RelV v u) (ht : t [some v] H Q) :
    codeAny (model P w) A (.call (.ref f) ⟨[u], []⟩) (CR noCX outer P w H s Q noXK) s := by
  have lim : s.heap.NoLimit := e0.mod.nolimit.keeps fun b o e => (e0.bs b o e).1
  refine W.kla_callFunE hr.depth ho rfl S.co S.gen rfl rec ?_
  rw [hbind]
  refine wpAny_pure (wpAny_newFunctionEnv S.nocell (fun y hy => by
    rw [List.mem_singleton] at hy
    subst hy
    exact S.par _ (List.mem_singleton.mpr rfl)) (fun h₁ hns hsb => ⟨lim.fresh _ hsb, ?_⟩) S.kind)
  have kp : ∀ b o, s.heap.get? b = some o → h₁.get? b = some o := fun b o e => hsb.extBut b o (Nat.ne_of_lt (Heap.lt_size e)) (Heap.get?_push_of_some _ e)
  have C : NdefX.CellsAt ([] : List (Str × Addr)) [] [] s.heap H := ⟨rfl, (fun y c e => nomatch e), (fun _ _ c e => nomatch e), (fun i y e => by simp at e)⟩
  have I : Inv (lcx P w K mg base x q params scope f c' A outer s H) [] (NdefX.startF [x] [v] []) H { s with heap := h₁, toks := s.toks + 1 } := NdefX.inv_startN (F := nfL q params scope c') (us := [u]) S hr.hd e0 rfl (.cons r .nil) C hns kp
  refine W.kla_codeExpr (wpAny_mono (hb.run [] _ (NdefX.startF [x] [v] []) H Q I ht) (fun u' s' hs => ?_) fun e s' hs => hs)
  obtain ⟨y, H', J, rv, q⟩ := hs
  exact ⟨y, H', J.os, J.bare, J.base, J.hok, rv, q⟩
theorem wlistI {P : Program} {w : World} {A : Around} (hh : A.handled = none) (I l : Addr) (hne : l ≠ I) (ns : List Int) :
    WalksS P w A I [I, l] [I] (fun a b => b = a) ns.length (fun i v => ∃ t, v = .int (ns.getD i 0) t) (fun i s' => s'.heap.IsListIter I l i ∧ ∃ its : List Value, Vals (ns.map V.int) its ∧ s'.heap.IsList l its.toArray) := by
  have Wl := fun its : List Value => (Walks.list (prog := P) (w := w) (A := A) hh I l hne its.toArray).toS
  have len : ∀ its : List Value, Vals (ns.map V.int) its → its.toArray.size = ns.length := fun its hv => by
    have := hv.length
    rw [List.length_map] at this
    rw [List.size_toArray]
    exact this.symm
  refine ⟨(Wl []).sub, (Wl []).grefl, (Wl []).gtrans, fun i s h' tk ⟨h1, its, hv, h2⟩ htk hf => ?_, fun i s Q E hi ⟨h1, its, hv, h2⟩ h => ?_, fun s Q E ⟨h1, its, hv, h2⟩ h => ?_, fun i s Q E ⟨h1, its, hv, h2⟩ h => ?_⟩
  · have := (Wl its).frame i s h' tk ⟨h1, h2⟩ htk hf
    exact ⟨this.1, its, hv, this.2⟩
  · refine (Wl its).item i s Q E (by rw [len its hv]; exact hi) ⟨h1, h2⟩ fun v s' hp hst hm => h v s' ?_ ⟨hst.1, its, hv, hst.2⟩ hm
    have hp : its[i]? = some v := by simpa using hp
    obtain ⟨u, e1, t, e2⟩ := hv.get (i := i) (x := .int (ns.getD i 0)) (by rw [List.getElem?_map, List.getElem?_eq_getElem hi, getD_get _ _ _ hi]; rfl)
    rw [hp] at e1
    cases e1
    exact ⟨t, e2⟩
  · exact (Wl its).done s Q E (by rw [len its hv]; exact ⟨h1, h2⟩) h
  · exact (Wl its).self i s Q E ⟨h1, h2⟩ h
def minBy1 (kf : Int → Int) (n : Int) (ns : List Int) : Int := ns.foldl (fun a y => if decide (kf y < kf a) = true then y else a) n
def tMinL (K : PySem.W.Frag) (P : Addr) (q : Str) (tl : TE) (ta : TA) : TE := fun σ H Q => ta σ H fun vs H1 => ∃ (a : Addr) (n : Int) (ns : List Int) (ps : Array Value) (kf : Int → Int), vs = [.ref a] ∧ H1 a = some (.lst ((n :: ns).map V.int)) ∧ H1 P = some (.tbl ps) ∧ TriplesOk ps.toList ∧
  (∀ (pos : Pos) (cv : Value), codeAmong pos ps.toList = some cv → ∃ c, cv = .ref c ∧ H1 c = some (LamX.CodeO c q)) ∧
  (∀ m ∈ n :: ns, ∀ H', tl [some (.int m)] H' fun y H'' => y = .int (kf m) ∧ Same H' H'') ∧
  ∀ (c' : Addr) (H2 H3 : Hp), Grown H1 P c' ps q H2 → Same H2 H3 → Q (.int (minBy1 kf n ns)) H3
section
variable {X : Cx} {pins : List (Addr × Obj)} {σ : L2.St} {H : Hp} {s : Shared}
theorem lam_make4 {cA0 P : Addr} {ps : Array Value} {params : Arguments} {body : Expr} {scope : Scope} {lp : Pos} {EX : Value → Shared → Prop} {QQ : Value → Shared → Prop}
    (I : Inv X pins σ H s) (tb : LamX.TabB X.base X.mg cA0 P) (ecode : X.env.code = .ref cA0) (eP : H P = some (.tbl ps)) (tri : TriplesOk ps.toList)
    (old : ∀ (pos : Pos) (cv : Value), codeAmong pos ps.toList = some cv → ∃ c, cv = .ref c ∧ H c = some (LamX.CodeO c (lamQ X)))
    (nodef : defaultsOf params X.env = ([], [])) (caps : ∀ y ∈ scope.names, y.2 = .free → ∃ c, X.env.cells.lookup y.1 = some c)
    (go : ∀ (f c' : Addr) (pm ctv : Value) (H1 : Hp) (s' : Shared), Inv X pins σ H1 s' → Grown H P c' ps (lamQ X) H1 → s'.heap.get? f = some (W.kla_obj "<lambda>" (lamQ X) params body scope (cloFrom X.env.cells scope.names []) pm c' ctv) →
      H1 c' = some (LamX.CodeO c' (lamQ X)) → s.heap.objs.size ≤ f → H1 f = none → QQ (.ref f) s') : wpAny (model X.prog X.w) X.A (eval (.Lambda params body scope lp) X.env) QQ EX s := by
  refine W.kla_eval nodef ?_
  have hbm := tb.bm.keeps I.bk
  have tabObj := I.hok P _ eP
  cases found : codeAmong lp ps.toList with
  | some cv =>
    obtain ⟨c', rfl, eco⟩ := old lp cv found
    refine W.kla_makeFunctionHit (closure_ok caps) I.ok.glob (I.mod.glob.keeps I.bk) ecode (tb.code.keeps I.bk) tabObj tri found hbm fun ctv h2 t2 kp sz => ?_
    have kp2 : ∀ b o, s.heap.get? b = some o → (h2.push (W.kla_obj "<lambda>" (lamQ X) params body scope (cloFrom X.env.cells scope.names []) ((X.mg "__name__").getD .none) c' ctv)).get? b = some o := fun b o z => Heap.get?_push_of_some _ (kp b o z)
    have J : Inv X pins σ H { s with heap := h2.push (W.kla_obj "<lambda>" (lamQ X) params body scope (cloFrom X.env.cells scope.names []) ((X.mg "__name__").getD .none) c' ctv), toks := t2 } := I.kept kp2
    exact go _ c' _ ctv H _ J (.inl rfl) (Heap.get?_push_size _ rfl) eco sz (I.hok.fresh sz)
  | none =>
    refine W.kla_makeFunction (closure_ok caps) I.ok.glob (I.mod.glob.keeps I.bk) ecode (tb.code.keeps I.bk) tabObj tri found tb.gP hbm fun c' ctv h2 t2 ext big small rec tab => ?_
    obtain ⟨c2, oc, us, t, e2, z1, z2, z3⟩ := rec
    cases e2
    have fresh := I.hok.fresh big
    have lt : c' < h2.objs.size := Heap.lt_size z1
    have J := LamX.inv_table (t' := t2) (more := #[rawInt lp.line, rawInt lp.col, .ref c']) (h' := h2.push (W.kla_obj "<lambda>" (lamQ X) params body scope (cloFrom X.env.cells scope.names []) ((X.mg "__name__").getD .none) c' ctv)) I eP
      (fun b o nb z => Heap.get?_push_of_some _ (ext b o nb z)) (Heap.get?_push_of_some _ tab) big ⟨oc, us, t, Heap.get?_push_of_some _ z1, z2, z3⟩
    have el : (ps ++ #[rawInt lp.line, rawInt lp.col, Value.ref c']).toList = ps.toList ++ [rawInt lp.line, rawInt lp.col, .ref c'] := by simp
    have hf : s.heap.objs.size ≤ h2.objs.size := Nat.le_of_lt (Nat.lt_of_le_of_lt big lt)
    have nf := I.hok.fresh hf
    refine go _ c' _ ctv _ _ J (.inr ⟨fresh, _, rfl, by rw [el]; exact TriplesOk_snoc _ _ _ _ tri, fun p' cv z => ?_⟩) (Heap.get?_push_size _ rfl) upd_same hf ?_
    · rw [el] at z
      exact LamX.among_app _ tri z
    · rw [upd_ne (Ne.symm (Nat.ne_of_lt lt)), upd_ne (fun e => by rw [e, eP] at nf; cases nf)]
      exact nf
end
section
variable {X : Cx}
theorem pe_minLam {e body : Expr} {ta : TA} {tl : TE} {p pos lp kwp : Pos} {params : Arguments} {scope : Scope} {x : Str} {cA0 P : Addr} {k : Nat} (hr : Room (k + 2) X.A) (hg : Gl X "min") (hm : X.mg "min" = none) (ha : PA X [e] ta)
    (tb : LamX.TabB X.base X.mg cA0 P) (ecode : X.env.code = .ref cA0) (nodef : defaultsOf params X.env = ([], [])) (S : NdefX.NScope [x] [x] [] scope)
    (hbind : ∀ (pm cd ctv v : Value), bindArgs (W.kla_fn "<lambda>" (lamQ X) params body scope [] pm cd ctv) ⟨[v], []⟩ = pure [(x, v)])
    (hbody : ∀ (f c' : Addr) (s : Shared) (H : Hp), PE (lcx X.prog X.w X.K X.mg X.base x (lamQ X) params scope f c' X.A.in1 X.stack s H) body tl)
    (hb : backTo pos (starEach [e] X.env) = (false, eval e X.env) :: backTo pos (starEach [] X.env) := by rfl) (hpl : (backTo pos (starEach [e] X.env)).any (·.1) = false := by rfl)
    (hall : (backToKw pos (keywordEach [⟨some "key", .Lambda params body scope lp, kwp⟩] X.env)).all (·.1.isSome) = true := by rfl)
    (hnone : (backToKw pos (keywordEach [⟨some "key", .Lambda params body scope lp, kwp⟩] X.env)).any (·.1.isNone) = false := by rfl)
    (hks : (backToKw pos (keywordEach [⟨some "key", .Lambda params body scope lp, kwp⟩] X.env)).filterMap (·.1) = [Str.ofString "key"] := by rfl) :
    PE X (.Call (.Name "min" p) [e] [⟨some "key", .Lambda params body scope lp, kwp⟩] pos) (tMinL X.K P (lamQ X) tl ta) := by
  refine ⟨fun pins s σ H Q I h => ?_⟩
  refine wpAny_Call_Name_kw (ld_blt I hg hm boot_min ?_)
  refine PyProof.Rows.callWith_kw (thn (ha.run pos pins s σ H _ I h) fun us s1 hh => ?_) hb hpl hall hnone
  obtain ⟨vs, H1, I1, r1, a, n, ns, ps, kf, rfl, eA, eP, tri, old, hl, q⟩ := hh
  obtain ⟨u, rfl, ru⟩ := r1.one
  cases (show u = Value.ref a from ru)
  rw [hks]
  have nofree : ∀ y ∈ scope.names, y.2 ≠ .free := fun y hy ey => by
    have := S.free y hy ey
    cases this
  refine PyProof.Rows.kws_cons (lam_make4 I1 tb ecode eP tri old nodef (fun y hy ey => absurd ey (nofree y hy)) fun f c' pm ctv H2 s2 I2 gr ef eC hf nf => PyProof.Rows.kws_nil ?_)
  rw [clo_nil nofree] at ef
  show wpAny (model X.prog X.w) X.A (call (.builtin "min") [.ref a] [(Str.ofString "key", .ref f)]) _ _ s2
  -- the list is still there
  have eA2 : H2 a = some (.lst ((n :: ns).map V.int)) := by
    rcases gr with rfl | ⟨fr, qs, rfl, _, _⟩
    · exact eA
    · rw [upd_ne (ne_of_none eA fr), upd_ne (fun z => by rw [z, eP] at eA; cases eA)]
      exact eA
  obtain ⟨its, rA, plA, _⟩ := I2.list (SqL.of eA2)
  have fF : FpOk X pins H2 f := I1.fpOk hf nf
  have hi1 : X.A.in1.handled = none := hr.hd
  refine call_min_walkK (W.iter_listW (A := X.A.in1) hi1 plA.isList fun s3 e3 _ st hfp _ hk => ?_)
  generalize hIt : s2.heap.objs.size = It at *
  generalize hS : s3.heap.objs.size = S0
  have nIt : H2 It = none := I2.hok.fresh (Nat.le_of_eq hIt)
  have lt3 : It < s3.heap.objs.size := by
    obtain ⟨o, e, _⟩ := st.1
    exact Heap.lt_size e
  have aI : a ≠ It := fun z => by rw [z, nIt] at eA2; cases eA2
  have I3 : Inv X pins σ H2 s3 := by
    rw [e3]
    exact I2.kept (t' := s2.toks) fun b o e => Heap.get?_push_of_some _ e
  have nS : H2 S0 = none := I3.hok.fresh (Nat.le_of_eq hS)
  have fI := fun {H' : Hp} (h : H' It = none) => I2.fpOk (H' := H') (Nat.le_of_eq hIt) h
  have fS := fun {H' : Hp} (h : H' S0 = none) => I3.fpOk (H' := H') (Nat.le_of_eq hS) h
  have nfIt : f ≠ It := fun z => by
    have h := Heap.lt_size ef
    rw [hIt, z] at h
    exact Nat.lt_irrefl _ h
  have nfS : f ≠ S0 := fun z => by
    have h := Heap.lt_size (hk _ _ ef)
    rw [hS, z] at h
    exact Nat.lt_irrefl _ h
  refine ⟨It, [It, a], [It], (fun a b => b = a), (n :: ns).length, _, _, fun s' => ∃ H', Same H2 H' ∧ Inv X pins σ H' s' ∧ H' It = none ∧ H' S0 = none ∧ H' f = none ∧ s'.heap.get? f = some (W.kla_obj "<lambda>" (lamQ X) params body scope [] pm c' ctv), fun i kv _ => ∃ t, kv = .int (kf ((n :: ns).getD i 0)) t, fun i j => decide (kf ((n :: ns).getD i 0) < kf ((n :: ns).getD j 0)), rfl, wlistI hi1 It a aI (n :: ns), ⟨st.1, its, rA, st.2⟩, (fun b hb => by rw [← hS]; exact hfp b hb), Nat.succ_pos _, ?_, ⟨H2, Same.refl _, I3, nIt, nS, nf, hk _ _ ef⟩, fun v s' hP ⟨H', sm, IJ, _⟩ => ?_⟩
  · refine ⟨fun s' s'' ⟨H', sm, IJ, n1, n2, n3, n4⟩ mv => ?_, fun _ _ _ _ h _ => h, fun i v s' o Q' E hi ⟨t, hv⟩ ⟨H', sm, IJ, n1, n2, n3, n4⟩ hSt hSo h => ?_, fun i j ki kj s' Q' E _ ⟨t1, h1⟩ ⟨t2, h2⟩ h => ?_⟩
    · obtain ⟨h4, g4, d4, t4, o4⟩ := s''
      obtain ⟨mh, mg, md, mo, mt⟩ := mv
      have mg : g4 = s'.gens := mg
      have md : d4 = s'.drawn := md
      have mo : o4 = s'.os := mo
      subst mg md mo
      refine ⟨H', sm, IJ.turnedL (ch := [S0, It]) (fun b o hb e => mh b o hb e) (fun b hb => ?_), n1, n2, n3, mh f _ (by simp [nfS, nfIt]) n4⟩
      rcases List.mem_cons.mp hb with rfl | hb
      · exact fS n2
      · rw [List.mem_singleton] at hb
        subst hb
        exact fI n1
    · have mem : (n :: ns).getD i 0 ∈ n :: ns := by
        rw [getD_get _ _ _ hi]
        exact List.getElem_mem _
      have e0 : Env0 X.prog X.w X.K X.mg X.base X.A.in1 X.stack s' H' := ⟨IJ.ok.frames, IJ.ok.mod, IJ.bs, Nat.le_trans IJ.ok.bsz IJ.sz, IJ.stack, IJ.stkFree, IJ.hok, IJ.bare⟩
      subst hv
      have nst : ∀ b, FpOk X pins H' b → b ∉ frs X.stack := fun b hb hq => by
        have := IJ.stkSub b hq
        rcases List.mem_cons.mp this with e | e
        · exact hb.2.1 e
        · exact hb.2.2.1 e
      have hrec : s'.heap.CodeRec (.ref c') (lamQ X) := NdefX.codeO_at IJ.hok (sm _ _ eC)
      refine wpAny_call (codeAny_mono (lam_run (k := k) (v := .int ((n :: ns).getD i 0)) (t := tl) (Q := fun y H'' => y = .int (kf ((n :: ns).getD i 0)) ∧ Same H' H'') hr.in1 e0 S n4 hrec (fun v => hbind _ _ _ v) (hbody f c' s' H') ⟨t, rfl⟩ (hl _ mem H')) fun r s4 hq => ?_)
      cases r with
      | error e => exact hq.elim
      | ok fl =>
        cases fl with
        | ret u =>
          obtain ⟨y, H4, os, bare, un, hok, ry, ey, sm4⟩ := id hq
          subst ey
          obtain ⟨o1, l1, l2, l3⟩ := hSt.1
          have nx : ∀ b : Addr, b ∉ ([] : List Addr) := fun b z => nomatch z
          have k1 := un.keep It o1 l1 n1 (nst _ (fI n1)) (nx _)
          have k2 := un.keep S0 o hSo n2 (nst _ (fS n2)) (nx _)
          have fF' : FpOk X pins H' f := ⟨n3, fF.2⟩
          have k3 := un.keep f _ n4 n3 (nst _ fF') (nx _)
          have g1 := un.free It o1 l1 n1 (nx _)
          have g2 := un.free S0 o hSo n2 (nx _)
          have g3 := un.free f _ n4 n3 (nx _)
          obtain ⟨y2, H5, I5, r5, rfl, e5⟩ := IJ.after (Q := fun y H'' => y = .int (kf ((n :: ns).getD i 0)) ∧ H'' = H4) ⟨_, H4, os, bare, un, hok, ry, rfl, rfl⟩
          subst e5
          obtain ⟨t5, rfl⟩ := r5
          obtain ⟨its5, rA5, plA5, _⟩ := I5.list (SqL.of (sm4 _ _ (sm _ _ eA2)))
          exact h _ s4 ⟨H5, sm.trans sm4, I5, g1, g2, g3, k3⟩ ⟨⟨o1, k1, l2, l3⟩, its5, rA5, plA5.isList⟩ k2 ⟨t5, rfl⟩ fun _ _ q => q
        | next => exact hq.elim
        | brk => exact hq.elim
        | cont => exact hq.elim
    · exact CmpOf.ints_lt (P := fun i v => ∃ t, v = .int (kf ((n :: ns).getD i 0)) t) (fun i => kf ((n :: ns).getD i 0)) (fun i v h => h) i j ki kj s' Q' E ⟨t1, h1⟩ ⟨t2, h2⟩ h
  · obtain ⟨t, rfl⟩ := hP
    have e := (W.argBest_fold (fun y a => decide (kf y < kf a)) 0 n ns ns.length (Nat.le_refl _)).2
    rw [List.take_length] at e
    refine ⟨.int (minBy1 kf n ns), H', IJ, ⟨t, ?_⟩, q c' H2 H' gr sm⟩
    unfold minBy1
    rw [← e]
    rfl
end
end PD
namespace PD
open PySem PySem.Spec PyProof.Rows L2
def keyD1 (dl : Den D) (n : Int) : Option Int := match dl [.sh (.int n)] [] with
  | .ok (.int k, []) => some k
  | _ => none
def minKD (dl : Den D) (ds : List D) : Res D := match ints? ds with
  | some (n :: ns) => if ((n :: ns).all fun i => (keyD1 dl i).isSome) = true then .ok (.int (minBy1 (fun i => (keyD1 dl i).getD 0) n ns)) else .bad
  | _ => .bad
def dMinK (t : Nat) (x q : Str) (dl : Den D) (da : Den (List D)) : Den D := fun ρ m => (da ρ m).bind fun v => match v.1, v.2[t]? with
  | [.lst ds], some (.tab x' q') => if x' = x ∧ q' = q then (minKD dl ds).bind fun d => .ok (d, v.2) else .bad
  | _, _ => .bad
theorem keyD1_some {dl : Den D} {n k : Int} (h : keyD1 dl n = some k) : dl [.sh (.int n)] [] = .ok (.int k, []) := by
  unfold keyD1 at h
  split at h
  · rename_i j e
    cases h
    exact e
  · cases h
section
variable {X : Cx} {RW : WX}
theorem lam_key {K : PySem.W.Frag} {mg : Str → Option Value} {dl : Den D} {n k : Int} (h : keyD1 dl n = some k) (H : Hp) : tX K mg noRW dl (pVal K mg) [some (.int n)] H fun y H2 => y = .int k ∧ Same H H2 := by
  have S0 : StOk K mg H (fun _ => none) ⟨fun _ => none, []⟩ (fun _ => none) [.sh (.int n)] [] [some (.int n)] H := by
    refine ⟨(fun a o e => nomatch e), Same.refl _, (fun a o e => nomatch e), (fun a e => absurd rfl e), rfl, fun i s e => ?_, rfl, (fun n o e => by simp at e), (fun a o e => nomatch e)⟩
    cases i with
    | zero =>
      have : Slot.sh (.int n) = s := by simpa using e
      subst this
      exact ⟨.int n, rfl, rep_int.mpr rfl⟩
    | succ i => simp at e
  refine ⟨H, _, _, _, _, _, S0, ?_⟩
  rw [keyD1_some h]
  exact fun B' z' ow' v H2 hB hz S2 p => ⟨rep_int.mp p, hB.trans S2.bh⟩
theorem pd_minLam {e body : Expr} {da : Den (List D)} {dl : Den D} {p pos lp kwp : Pos} {params : Arguments} {scope : Scope} {y x q : Str} {t k : Nat} (hr : Room (k + 2) X.A) (tx : TabX X x) (eq : lamQ X = q) (hg : Gl X "min") (hm : X.mg "min" = none) (ha : PA X [e] (tX X.K X.mg RW da (pLooks X.K X.mg)))
    (hbody : ∀ (f c' : Addr) (s : Shared) (H : Hp), PE (lcx X.prog X.w X.K X.mg X.base y (lamQ X) params scope f c' X.A.in1 X.stack s H) body (tX X.K X.mg noRW dl (pVal X.K X.mg)))
    (S : NdefX.NScope [y] [y] [] scope) (nodef : defaultsOf params X.env = ([], []) := by rfl)
    (hbind : ∀ (pm cd ctv v : Value), bindArgs (W.kla_fn "<lambda>" (lamQ X) params body scope [] pm cd ctv) ⟨[v], []⟩ = pure [(y, v)] := by intro _ _ _ _; rfl)
    (hb : backTo pos (starEach [e] X.env) = (false, eval e X.env) :: backTo pos (starEach [] X.env) := by rfl) (hpl : (backTo pos (starEach [e] X.env)).any (·.1) = false := by rfl)
    (hall : (backToKw pos (keywordEach [⟨some "key", .Lambda params body scope lp, kwp⟩] X.env)).all (·.1.isSome) = true := by rfl)
    (hnone : (backToKw pos (keywordEach [⟨some "key", .Lambda params body scope lp, kwp⟩] X.env)).any (·.1.isNone) = false := by rfl)
    (hks : (backToKw pos (keywordEach [⟨some "key", .Lambda params body scope lp, kwp⟩] X.env)).filterMap (·.1) = [Str.ofString "key"] := by rfl) :
    PE X (.Call (.Name "min" p) [e] [⟨some "key", .Lambda params body scope lp, kwp⟩] pos) (tX X.K X.mg RW (dMinK t x q dl da) (pVal X.K X.mg)) := by
  obtain ⟨c, ecode, tb⟩ := tx
  subst eq
  refine PE.imp (pe_minLam hr hg hm ha tb ecode nodef S hbind hbody hb hpl hall hnone hks) fun σ H Q qq => tX.imp qq fun B F0 z ow ρ m S h => Rem.step pVal.pm h fun d m1 B1 z1 ow1 v H1 hB hz S1 pp h1 => ?_
  dsimp only at h1
  split at h1
  · rename_i ds x' q' e1 e2
    split at h1
    · rename_i hc
      obtain ⟨rfl, rfl⟩ := hc
      unfold minKD at h1
      split at h1
      · rename_i n ns f1
        split at h1
        · rename_i hk
          cases ints?_eq f1
          obtain ⟨v0, rfl, p0⟩ := looks_one pp
          obtain ⟨a, xs, rfl, ea, r⟩ := look_list S1 p0
          rw [r.ints] at ea
          obtain ⟨ps, t1, t2, t3, t4⟩ := S1.tabAt e2
          refine ⟨a, n, ns, ps, fun i => (keyD1 dl i).getD 0, rfl, ea, t1, t2, fun pos cv hcv => ?_, fun i hi H' => ?_, fun c' H2 H3 gr sm => ?_⟩
          · obtain ⟨c, y1, y2, _⟩ := t4 pos cv hcv
            exact ⟨c, y1, y2⟩
          · have := List.all_eq_true.mp hk i hi
            cases hkk : keyD1 dl i with
            | none => rw [hkk] at this; cases this
            | some k =>
              have e : (fun i => (keyD1 dl i).getD 0) i = k := by show (keyD1 dl i).getD 0 = k; rw [hkk]; rfl
              rw [e]
              exact lam_key hkk H'
          · obtain ⟨ow2, S2⟩ := S1.grow e2 t1 gr
            exact h1.here (S2.same sm) (rep_int.mpr rfl)
        · exact h1.elim
      · exact h1.elim
    · exact h1.elim
  · exact h1.elim
end
end PD
namespace PD
open PySem PySem.Spec PyProof.Rows L2
abbrev dO0 : Obj := { cls := .type "dict", data := .dict #[] }
def nPut (K : PySem.W.Frag) (D : Addr) (y z : V) (G : Hp) (Nx : Hp → Prop) : Prop := ∃ b k xs od, y = .ref b ∧ NDat K G D xs od ∧ G D = some (rawO D od) ∧ NKAt K G k y ∧ okKey k = true ∧ xs.length < sizeLine ∧ ∀ u od', RelV z u → NObj (storedH xs k b u) od' → Nx (upd G D (rawO D od'))
def tDcN (K : PySem.W.Frag) (wi : TI) (g : TG) (tt : TT) (tk tv : TE) (vs : List Nat) : TE := fun σ H Q => wi σ H fun J G => ∀ D, G D = none → (D == sysModules) = false → ∃ W : Nat → Nat → Hp → Prop, (∃ m, W 0 m (upd G D (rawO D dO0))) ∧ ∀ i m H, W i m H →
  (J.stop i H ∧ Q (.ref D) H) ∨ (J.go i H ∧ ∃ Nx : Hp → Prop, (∀ H', Nx H' → ∃ m', m' < m ∧ W (i + 1) m' H') ∧
  ∀ x H', J.yld i H x H' → g x (wipe σ vs) H' fun σ2 H2 => wipe σ2 vs = wipe σ vs ∧ tt σ2 H2 fun b H3 =>
    if b = true then tk σ2 H3 fun y H4 => tv σ2 H4 fun z H5 => nPut K D y z H5 Nx else Nx H3)
section
variable {X : Cx}
theorem nput_run {pins : List (Addr × Obj)} {σ : L2.St} {G : Hp} {s : Shared} {D : Addr} {y z : V} {u r : Value} {Nx : Hp → Prop} {E : Value → Shared → Prop} {Q : Unit → Shared → Prop} (hu : X.A.units + 9 < cLine) (I : Inv X pins σ G s) (ry : RelV y u) (rz : RelV z r) (h : nPut X.K D y z G Nx)
    (q : ∀ s' G', Inv X pins σ G' s' → Nx G' → Q () s') : wpAny (model X.prog X.w) X.A (dictSet D u r) Q E s := by
  obtain ⟨b, k, xs, od, rfl, dat, hD, hk, ok, hl, nx⟩ := h
  cases (show u = Value.ref b from ry)
  refine wpAny_dictSet_heap (knd := nestedKind X.prog X.w) (by show X.A.units + 8 < cLine; omega) (nk_key I hk ok) (NDat.dict I dat) (fun h' dd' hs' => ?_) (Nat.le_of_lt hl)
  obtain ⟨od', e1, e2⟩ := nobj_of dd' (storedH_keys (R := fun k _ => okKey k = true) (fun x hx => (dat.2.1 x hx).1) ok)
  exact q _ _ (d_write I (by rw [hD]; exact True.intro) hs' ⟨od', e1⟩ (raw_ok e1)) (nx r od' rz e2)
theorem dcn_core {pins : List (Addr × Obj)} {s : Shared} {σ : L2.St} {H : Hp} {Q : VK} {kx vx tg iter : Expr} {ifs : List Expr} {scope : Scope} {own : List (Str × Nat)} {pos pos' : Pos} {wi : TI} {g : TG} {tt : TT} {tk tv : TE} {use : Option (Value → Sem Unit)} {Qz : Value → Shared → Prop} (hu : X.A.units + 9 < cLine)
    (hc : X.calm = true) (hNd : X.N.Nodup) (I : Inv X pins σ H s) (hi : PI X tg iter wi) (ok : BlkOk X.N X.env.scope scope own)
    (hg : ∀ (s0 : Shared) (G : Hp) (C : Addr) (l : List (Str × Addr)) (fp : List Addr), PG (X.blk s0 G scope (compEnvC scope l C X.env) fp) tg g) (ht : ∀ (s0 : Shared) (G : Hp) (C : Addr) (l : List (Str × Addr)) (fp : List Addr), PTs (X.blk s0 G scope (compEnvC scope l C X.env) fp) ifs tt)
    (hk : ∀ (s0 : Shared) (G : Hp) (C : Addr) (l : List (Str × Addr)) (fp : List Addr), PE (X.blk s0 G scope (compEnvC scope l C X.env) fp) kx tk)
    (hv : ∀ (s0 : Shared) (G : Hp) (C : Addr) (l : List (Str × Addr)) (fp : List Addr), PE (X.blk s0 G scope (compEnvC scope l C X.env) fp) vx tv) (hs : ∀ x, foldedSetIterable iter X.env x = pure x)
    (h : tDcN X.K wi g tt tk tv (own.map (·.2)) σ H Q)
    (fin : ∀ D C s' m G, Inv X pins σ G s' → Q (.ref D) G → s'.heap.Ns C m → FpOk X pins G C → compPost (model X.prog X.w) X.A X.xe use Qz (.ref D) C (.ok .next) s') :
    wpAny (model X.prog X.w) X.A (comprehension (.DictComp kx vx [⟨tg, iter, ifs, 0⟩] scope pos) scope X.env pos' newDict false (eval iter X.env) use) Qz X.xe s := by
  have cap : ∀ y ∈ scope.names, y.2 = .free → ∃ c, X.env.cells.lookup y.1 = some c := fun y hy e => (ok.free y hy e).elim (fun k => I.ok.has _ (.inl k)) fun k => I.ok.has _ (.inr k)
  refine wpAny_comprehension_free (use := use) rfl hs (closure_ok cap) ok.kind (fun y hy e => by rw [ok.uniq y hy, e]) (thn (hi.run pins s σ H _ I h) fun _ s1 hx => thn hx fun _ s2 ⟨it, fp, tn, J, G2, e, E2, T, t2, p2, q⟩ => ?_)
  subst e; refine wpAny_newObj_type (newEnv_comp ?_)
  obtain ⟨D, hD⟩ : ∃ D, D = s2.heap.objs.size := ⟨_, rfl⟩
  have dn : G2 D = none := E2.hok.fresh (Nat.le_of_eq hD.symm)
  have dsys : (D == sysModules) = false := by rw [hD]; exact beq_eq_false_iff_ne.mpr (Ne.symm (Nat.ne_of_lt E2.big))
  obtain ⟨W, ⟨m0, w0⟩, turn⟩ := q D dn dsys
  rw [← hD]
  obtain ⟨s3, hs3⟩ : ∃ s3 : Shared, s3 = { s2 with heap := s2.heap.push dO0 } := ⟨_, rfl⟩
  have hp3 : s3.heap = s2.heap.push dO0 := by rw [hs3]
  have E3 : Inv X pins σ (upd G2 D (rawO D dO0)) s3 := by
    rw [hs3]
    refine E2.laid (t' := s2.toks) (fun b o e => Heap.get?_push_of_some _ e) (Nat.le_of_eq hD.symm) (raw_ok ?_)
    rw [hD]
    exact Heap.get?_push_size _ rfl
  have p3 : ∀ b ∈ fp, FpOk X pins (upd G2 D (rawO D dO0)) b ∧ b < s3.heap.objs.size := fun b hb => by
    obtain ⟨o, e, _⟩ := T.obj _ _ t2 b hb
    have lt := Heap.lt_size e
    have ne : b ≠ D := by rw [hD]; exact Nat.ne_of_lt lt
    exact ⟨⟨by rw [upd_ne ne]; exact (p2 b hb).1, (p2 b hb).2⟩, by rw [hp3, Heap.size_push]; exact Nat.lt_succ_of_lt lt⟩
  have t3 : tn 0 s3.heap := T.keep _ _ _ t2 fun b _ o e => by rw [hp3]; exact Heap.get?_push_of_some _ e
  have E4 := block_start E3 ok hNd p3
  obtain ⟨C, hC⟩ : ∃ C, C = s3.heap.objs.size := ⟨_, rfl⟩
  obtain ⟨ce, hce⟩ : ∃ ce, ce = compEnvC scope (cellsFrom (C + 1) scope.names (cloFrom X.env.cells scope.names [])) C X.env := ⟨_, rfl⟩
  have ceL : ce.locals = C := by rw [hce]; rfl
  have pg := hg s3 (upd G2 D (rawO D dO0)) C (cellsFrom (C + 1) scope.names (cloFrom X.env.cells scope.names [])) fp
  have pt := ht s3 (upd G2 D (rawO D dO0)) C (cellsFrom (C + 1) scope.names (cloFrom X.env.cells scope.names [])) fp
  have pk := hk s3 (upd G2 D (rawO D dO0)) C (cellsFrom (C + 1) scope.names (cloFrom X.env.cells scope.names [])) fp
  have pv := hv s3 (upd G2 D (rawO D dO0)) C (cellsFrom (C + 1) scope.names (cloFrom X.env.cells scope.names [])) fp
  rw [← hce] at pg pt pk pv
  obtain ⟨G3, hG3⟩ : ∃ G3, G3 = upd G2 D (rawO D dO0) := ⟨_, rfl⟩
  obtain ⟨s4, hs4⟩ : ∃ s4 : Shared, s4 = { s3 with heap := pushCells (s3.heap.push dO0) scope.names } := ⟨_, rfl⟩
  have pre : (X.blk s3 G3 scope ce fp).K = X.K := rfl
  rw [← hG3] at E3 E4 pg pt pk pv w0 p3
  rw [← hC, ← hce] at E4
  rw [← hs3, ← hC]
  have E4 : Inv (X.blk s3 G3 scope ce fp) [] (wipe σ (own.map (·.2))) G3 s4 := by rw [hs4]; exact E4
  have t4 : tn 0 s4.heap := T.keep _ _ _ t3 fun b _ o e => by rw [hs4]; exact pushCells_keeps _ _ _ _ (Heap.get?_push_of_some _ e)
  have fps : ∀ {σ' : L2.St} {G : Hp} {s' : Shared}, Inv (X.blk s3 G3 scope ce fp) [] σ' G s' → (∀ b ∈ fp, G b = none) → ∀ b ∈ fp, FpOk (X.blk s3 G3 scope ce fp) [] G b := fun I' hn b hb =>
    ⟨hn b hb, (I'.ok.exf b hb).1, I'.ok.exfs b hb, .inl hb, fun x c e => (I'.ok.exf b hb).2 x c e, fun p hp => by cases (show p ∈ ([] : List (Addr × Obj)) from hp)⟩
  have loop : codeAny (model X.prog X.w) X.A (.compLoop (.DictComp kx vx [⟨tg, iter, ifs, 0⟩] scope pos) 0 (.ref it) (.ref D) ce) (compPost (model X.prog X.w) X.A X.xe use Qz (.ref D) C) s4 := by
    refine compLoop_anyD (fun n s' => ∃ i G, Inv (X.blk s3 G3 scope ce fp) [] (wipe σ (own.map (·.2))) G s' ∧ tn i s'.heap ∧ (∀ b ∈ fp, G b = none) ∧ W i n G) ?_ m0 ⟨0, G3, E4, t4, fun b hb => (p3 b hb).1.1, w0⟩
    rintro n s5 ⟨i, G5, E5, t5, n5, w5⟩
    rcases turn i n G5 w5 with ⟨stop, qq⟩ | ⟨go, Nx, hNx, step⟩
    · refine thnF (T.done (X.blk s3 G3 scope ce fp) rfl rfl rfl hc i [] s5 _ G5 (fun _ _ => False) E5 (fps E5 n5) t5 stop) fun r s6 ⟨hr, E6⟩ => ?_
      subst hr
      have E7 : Inv X pins σ G5 s6 := E3.call' (ch := fp) E6.os E6.base E6.hok E6.bare fun b hb => let z := (p3 b hb).1; ⟨z.2.2.2.1, z.2.1, z.2.2.2.2.1, z.2.2.2.2.2⟩
      obtain ⟨m, hn, _⟩ := E6.loc
      have hn : s6.heap.Ns ce.locals m := hn; have z : G5 ce.locals = none := E6.free
      rw [ceL] at hn z
      exact fin D C s6 m G5 E7 qq hn (E3.fpOk (Nat.le_of_eq hC.symm) z)
    · refine thnF (T.item (X.blk s3 G3 scope ce fp) rfl rfl rfl hc i [] s5 _ G5 (fun _ _ => False) E5 (fps E5 n5) t5 go) fun r s6 ⟨u, hr, h6⟩ => ?_
      subst hr
      refine thnF h6 fun _ s7 ⟨x, G7, E7, r7, y7, t7, n7⟩ => thnF (pg.run _ s7 _ G7 x u _ (E7.pinned (fps E7 n7) (T.obj _ _ t7)) r7 (step x G7 y7)) fun _ s8 ⟨σ8, G8, E8, hw, q8⟩ => thnF (pt.run _ s8 σ8 G8 _ E8 q8) fun b s9 ⟨G9, E9, q9⟩ => ?_
      have back : ∀ {s' : Shared} {G : Hp}, Inv (X.blk s3 G3 scope ce fp) ([] ++ pinsAt fp s7.heap) σ8 G s' → Nx G → ∃ m, m < n ∧ ∃ i G, Inv (X.blk s3 G3 scope ce fp) [] (wipe σ (own.map (·.2))) G s' ∧ tn i s'.heap ∧ (∀ b ∈ fp, G b = none) ∧ W i m G := fun {s' G} I' nx => by
        obtain ⟨m', lt, w'⟩ := hNx G nx
        have pin : ∀ b ∈ fp, ∀ o, s7.heap.get? b = some o → s'.heap.get? b = some o ∧ G b = none := fun b hb o e => by
          have z := I'.pin (b, o) (List.mem_append_right _ (List.mem_append_right _ (mem_pinsAt hb e)))
          exact ⟨z.1, z.2.1⟩
        refine ⟨m', lt, i + 1, G, (I'.unpinned (pins := [])).weak (by rw [← hw, wipe_length]) (fun j v e => by rw [← hw] at e; exact (wipe_some e).1), T.keep _ _ _ t7 fun b hb o e => (pin b hb o e).1, fun b hb => ?_, w'⟩
        obtain ⟨o, e, _⟩ := T.obj _ _ t7 b hb
        exact (pin b hb o e).2
      cases b with
      | false => simp only [Bool.false_eq_true, if_false] at q9 ⊢; exact back E9 q9
      | true =>
        simp only [if_true] at q9 ⊢
        exact thnF (pk.run _ s9 σ8 G9 _ E9 q9) fun _ s10 ⟨yk, G10, E10, r10, q10⟩ => thnF (pv.run _ s10 σ8 G10 _ E10 q10) fun _ s11 ⟨yv, G11, E11, r11, np⟩ => nput_run (X := X.blk s3 G3 scope ce fp) hu E11 r10 r11 np fun s12 G12 E12 nx => back E12 nx
  rw [hs4, hce] at loop
  exact codeAny_compStart_dict loop (T.self X.A 0 _ _ _ (by have := t4; rw [hs4] at this; exact this) loop)
end
end PD
namespace PD
open PySem PySem.Spec PyProof.Rows L2
def putPN (j : NestedKey) (y v : D) (ks vs : List D) : List D × List D := if (atN j ks vs).isSome = true then (ks, putVN j v ks vs) else (ks ++ [y], vs ++ [v])
def compN (tg : Tg) (dk dv : Den D) (ρ : List Slot) : List D → List D → List D → List Ob → Option ((List D × List D) × List Ob)
  | [], ks, vs, m => some ((ks, vs), m)
  | d :: ds, ks, vs, m => match tg d ρ with
    | none => none
    | some ρ1 => match dk ρ1 m with
      | .ok (k, m1) => (match dv ρ1 m1 with
        | .ok (v, m2) => (match keyN k with
          | some j => if vs.length < sizeLine then compN tg dk dv ρ ds (putPN j k v ks vs).1 (putPN j k v ks vs).2 m2 else none
          | none => none)
        | _ => none)
      | _ => none
def dDcN (di : Den (List D)) (vs : List Nat) (tg : Tg) (dk dv : Den D) : Den Cont := fun ρ m => (di ρ m).bind fun x => match noOwn ρ vs, compN tg dk dv (wipeS ρ vs) x.1 [] [] x.2 with
  | true, some (r, m') => .ok (.dct true r.1 r.2, m')
  | _, _ => .bad
def DNObj (K : PySem.W.Frag) (F : Hp) (a : Addr) (ks : List D) (vx : List V) (od : Obj) : Prop := ∃ (xs : EntL) (es : Array DictEntry) (ep : Nat), ks = xs.map (fun x => nkD x.1) ∧ Vals vx (xs.map fun x => x.2.2) ∧ (xs.map fun x => x.1).Nodup ∧ (∀ x ∈ xs, okKey x.1 = true ∧ NKAt K F x.1 (.ref x.2.1)) ∧
  od.ExactDict ∧ od.data = .dict es ep ∧ (∀ w, es.toList = xs.map (entN w)) ∧ (a == sysModules) = false
theorem DNObj.keys {K : PySem.W.Frag} {F : Hp} {a : Addr} {ks : List D} {vx : List V} {od : Obj} (h : DNObj K F a ks vx od) : DKeys K F a true ks vx (rawO a od) := by
  obtain ⟨xs, es, ep, h1, h2, h3, h4, h5, h6, h7, h8⟩ := h
  exact ⟨xs, od, es, ep, h1, h2, h3, h4, h5, h6, h7, h8, rfl⟩
theorem DNObj.mono {K : PySem.W.Frag} {F F' : Hp} {a : Addr} {ks : List D} {vx : List V} {od : Obj} (h : DNObj K F a ks vx od) (s : Same F F') : DNObj K F' a ks vx od := by
  obtain ⟨xs, es, ep, h1, h2, h3, h4, r⟩ := h
  exact ⟨xs, es, ep, h1, h2, h3, fun x hx => ⟨(h4 x hx).1, (h4 x hx).2.mono fun _ _ => same_tup s⟩, r⟩
theorem putPN_obj {K : PySem.W.Frag} {mg : Str → Option Value} {z : Fz} {a : Addr} {k : NestedKey} {v yk : D} {y : V} {u : Value} {b : Addr} {od' : Obj} (ry : Rep K mg z v y) (ru : RelV y u) (hk : NKAt K z.F k (.ref b)) (ok0 : keyN yk = some k) {xs : EntL} {vx : List V} {vs : List D}
    (ok : ∀ x ∈ xs, okKey x.1 = true ∧ NKAt K z.F x.1 (.ref x.2.1)) (hv : Vals vx (xs.map fun x => x.2.2)) (r : Reps K mg z vs vx) (hs : (a == sysModules) = false) (n : NObj (storedH xs k b u) od') :
    ∃ vy, Reps K mg z (putPN k yk v (xs.map fun x => nkD x.1) vs).2 vy ∧ DNObj K z.F a (putPN k yk v (xs.map fun x => nkD x.1) vs).1 vy od' := by
  obtain ⟨n1, ⟨es, ep, n2, n3⟩, n4⟩ := n
  have e := atN_isSome (k := k) (fun x hx => (ok x hx).1) hv r
  obtain ⟨q1, q2, q3⟩ := keyN_some ok0
  have ok' := storedH_keys (u := u) (R := fun k b => okKey k = true ∧ NKAt K z.F k (.ref b)) ok ⟨q2, hk⟩
  unfold putPN
  rw [← e]
  by_cases h : (atKey xs k).isSome = true
  · rw [if_pos h]
    obtain ⟨vy, i1, i2⟩ := putVN_map ry ru (k := k) (fun x hx => (ok x hx).1) hv r
    have es' : storedH xs k b u = xs.map (putAt k u) := if_pos h
    rw [es'] at n3 n4 ok'
    refine ⟨vy, i2, xs.map (putAt k u), es, ep, ?_, i1, n4, ok', n1, n2, n3, hs⟩
    have := keys_map_putAt xs k u
    have e2 : ∀ l : EntL, l.map (fun x => nkD x.1) = (l.map (·.1)).map nkD := fun l => by rw [List.map_map]; rfl
    rw [e2, e2, this]
  · rw [if_neg h]
    have es' : storedH xs k b u = xs ++ [(k, b, u)] := if_neg h
    rw [es'] at n3 n4 ok'
    refine ⟨vx ++ [y], r.append (.cons ry .nil), xs ++ [(k, b, u)], es, ep, ?_, ?_, n4, ok', n1, n2, n3, hs⟩
    · rw [List.map_append, List.map_cons, List.map_nil]
      show _ = _ ++ [nkD k]
      rw [q3]
    · rw [List.map_append]
      exact Vals.append hv (.cons ru .nil)
section
variable {K : PySem.W.Frag} {mg : Str → Option Value} {RW : WX}
theorem dcn_step {vs : List Nat} {di : Den (List D)} {f : Tg} {dk dv : Den D} (hf : TgOk vs f) (σ : L2.St) (H : Hp) (Q : VK) (q : tX K mg RW (dDcN di vs f dk dv) (pNew K mg) σ H Q) :
    tDcN K (tX K mg RW di (pIt K mg)) (tG K mg vs f) (tX K mg noRW dYes pTest) (tX K mg noRW dk (pVal K mg)) (tX K mg noRW dv (pVal K mg)) vs σ H Q := by
  obtain ⟨B, F0, z, ow, ρ, m, S, h⟩ := q
  refine ⟨B, F0, z, ow, ρ, m, S, Rem.step pNew.pm h fun ds m1 B1 z1 ow1 J H1 hB hz S1 yl h1 => ?_⟩
  intro D hD hsys
  dsimp only at h1
  cases hn : noOwn ρ vs with
  | false => rw [hn] at h1; exact h1.elim
  | true =>
    rw [hn] at h1
    cases hc : compN f dk dv (wipeS ρ vs) ds [] [] m1 with
    | none => rw [hc] at h1; exact h1.elim
    | some r =>
      obtain ⟨res, m'⟩ := r
      rw [hc] at h1
      dsimp only at h1
      obtain ⟨nz, nB, n0, nw⟩ := S1.new_none hD
      have S2 := (S1.keep hD (rawO D dO0))
      refine ⟨fun i k H => k = ds.length - i ∧ i ≤ ds.length ∧ ∃ z2 ow2 m2 ks ws vx od, z1.le z2 ∧ StOk K mg (upd B1 D (rawO D od)) F0 z2 ow2 ρ m2 σ H ∧ Reps K mg z2 ws vx ∧ DNObj K z2.F D ks vx od ∧ compN f dk dv (wipeS ρ vs) (ds.drop i) ks ws m2 = some (res, m'),
        ⟨ds.length, by simp, Nat.zero_le _, z1, ow1, m1, [], [], [], dO0, Fz.le.refl _, S2, .nil, ⟨[], #[], 0, rfl, .nil, List.nodup_nil, (fun _ h => nomatch h), ⟨rfl, rfl, rfl⟩, rfl, (fun _ => rfl), hsys⟩, by simpa using hc⟩, ?_⟩
      rintro i k H ⟨rfl, hi, z2, ow2, m2, ks, ws, vx, od, hz2, S2, ry, dn, hr⟩
      obtain ⟨y1, y2⟩ := yl _ F0 z2 ow2 ρ m2 σ H i hz2 S2
      by_cases hlt : i < ds.length
      · have hd : ds[i]? = some ds[i] := List.getElem?_eq_getElem hlt
        obtain ⟨go, y3⟩ := y2 _ hd
        rw [List.drop_eq_getElem_cons hlt] at hr
        refine .inr ⟨go, fun H' => i + 1 ≤ ds.length ∧ ∃ z2 ow2 m2 ks ws vx od, z1.le z2 ∧ StOk K mg (upd B1 D (rawO D od)) F0 z2 ow2 ρ m2 σ H' ∧ Reps K mg z2 ws vx ∧ DNObj K z2.F D ks vx od ∧ compN f dk dv (wipeS ρ vs) (ds.drop (i + 1)) ks ws m2 = some (res, m'),
          fun H' h' => ⟨ds.length - (i + 1), by omega, rfl, h'⟩, fun x H' hy => ?_⟩
        obtain ⟨z3, hz3, S3, rx⟩ := y3 x H' hy
        simp only [compN] at hr
        cases ht : f ds[i] (wipeS ρ vs) with
        | none => rw [ht] at hr; cases hr
        | some ρ3 =>
          rw [ht] at hr
          dsimp only at hr
          refine ⟨_, F0, z3, ow2, wipeS ρ vs, m2, ds[i], S3.wiped vs, rx, ρ3, ht, fun ow4 σ4 S4 hw => ⟨?_, ?_⟩⟩
          · rw [hw, wipe_wipe]
          have hwf : wipeS ρ3 vs = wipeS ρ vs := by rw [hf _ _ _ ht, wipeS_wipeS]
          have hws : wipe σ4 vs = wipe σ vs := by rw [hw, wipe_wipe]
          have back : ∀ {od' : Obj} {z5 : Fz} {ow5 : Own} {m5 : List Ob} {H5 : Hp}, z3.le z5 → StOk K mg (upd B1 D (rawO D od')) F0 z5 ow5 ρ3 m5 σ4 H5 → StOk K mg (upd B1 D (rawO D od')) F0 z5 ow5 ρ m5 σ H5 := fun {od' z5 ow5 m5 H5} h5 S5 => by
            have q := S5.wiped vs
            rw [hwf, hws] at q
            exact S3.unwipe q h5 hn
          refine ⟨_, F0, z3, ow4, ρ3, m2, S4, ?_⟩
          show Rem K mg noRW (.ok (true, m2)) _ _ _ _ _ _ _
          intro B5 z5 ow5 v H5 hB5 hz5 S5 p5
          cases (show v = true from p5)
          refine iteT ⟨B5, F0, z5, ow5, ρ3, m2, S5, ?_⟩
          cases hdk : dk ρ3 m2 with
          | err x m' => rw [hdk] at hr; cases hr
          | bad => rw [hdk] at hr; cases hr
          | ok r =>
            obtain ⟨kd, m3⟩ := r
            rw [hdk] at hr
            dsimp only at hr
            intro B6 z6 ow6 y H6 hB6 hz6 S6 pk
            have pk : Rep K mg z6 kd y := pk
            refine ⟨B6, F0, z6, ow6, ρ3, m3, S6, ?_⟩
            cases hdv : dv ρ3 m3 with
            | err x m' => rw [hdv] at hr; cases hr
            | bad => rw [hdv] at hr; cases hr
            | ok r =>
              obtain ⟨vd, m4⟩ := r
              rw [hdv] at hr
              dsimp only at hr
              intro B7 z7 ow7 w H7 hB7 hz7 S7 pv
              have pv : Rep K mg z7 vd w := pv
              cases hj : keyN kd with
              | none => rw [hj] at hr; cases hr
              | some j =>
                rw [hj] at hr
                dsimp only at hr
                split at hr
                · rename_i hsz
                  have hBB : Same (upd B1 D (rawO D od)) B7 := hB5.trans (hB6.trans hB7)
                  have hD7 : H7 D = some (rawO D od) := S7.bh _ _ (hBB _ _ upd_same)
                  obtain ⟨k1, k2, b, rfl⟩ := keyN_ref hj (pk.le hz7)
                  have dn7 := dn.mono (hz3.1.trans (hz5.1.trans (hz6.1.trans hz7.1)))
                  have ry7 := ry.le (hz3.trans (hz5.trans (hz6.trans hz7)))
                  obtain ⟨xs, es, ep, g1, g2, g3, g4, g5, g6, g7, g8⟩ := dn7
                  subst g1
                  have hl : xs.length < sizeLine := by
                    have e1 : vx.length = xs.length := by rw [Vals.length g2, List.length_map]
                    rw [← e1, ← ry7.len]
                    exact hsz
                  refine ⟨b, j, xs, od, rfl, ⟨⟨g5, ⟨es, ep, g6, g7⟩, g3⟩, fun x hx => ⟨(g4 x hx).1, (g4 x hx).2.mono fun _ _ => same_tup S7.fh⟩, g8, .inl hD7⟩, hD7, k1.mono fun _ _ => same_tup S7.fh, k2, hl, fun u od' ru n1 => ?_⟩
                  obtain ⟨vy, p1, p2⟩ := putPN_obj pv ru k1 hj g4 g2 ry7 g8 n1
                  exact ⟨hlt, z7, ow7, m4, _, _, vy, od', hz2.trans (hz3.trans (hz5.trans (hz6.trans hz7))), back (hz5.trans (hz6.trans hz7)) ((S7.weak hBB).rekeep n0), p1, p2, hr⟩
                · cases hr
      · have e : i = ds.length := by omega
        subst e
        rw [List.drop_length] at hr
        cases hr
        refine .inl ⟨y1 rfl, ?_⟩
        refine h1 _ z2 ow2 _ H (same_upd nB) hz2 S2 ⟨D, _, rfl, nB, upd_same, ?_, vx, ry, dn.keys⟩
        cases q : z2.F D with
        | none => rfl
        | some u =>
          rcases S2.new D (by rw [q]; simp) with r | r
          · exact absurd n0 r
          · rw [upd_same] at r; cases r
end
end PD
namespace PD
namespace ZM
open PySem RZ PySem.Spec PyProof.Rows L2
open PySem.Sem (wp)
section
variable {prog : Program} {w : World} {A : Around} {s : Shared} {E : Value → Shared → Prop}
theorem zipM_next_item {zp ti tu ia ib la lb : Addr} {ka kb : Nat} {xs ys : Array Value} {x y a b : Value} {Q : Value → Shared → Prop} (AP : ZipApart zp ti tu ia ib la lb)
    (zi : IsZip s.heap zp ti tu .none) (pi : IsPair s.heap ti (.ref ia) (.ref ib)) (pu : IsPair s.heap tu a b)
    (na : s.heap.IsListIter ia la ka) (nb : s.heap.IsTupleIter ib lb kb) (lsa : s.heap.IsList la xs) (tpb : s.heap.IsTuple lb ys) (ea : xs[ka]? = some x) (eb : ys[kb]? = some y)
    (fin : ∀ h', IsZip h' zp ti tu (rawInt s.heap.objs.size) → IsPair h' tu x y → h'.IsListIter ia la (ka + 1) → h'.IsTupleIter ib lb (kb + 1) → IsPair h' s.heap.objs.size x y → h'.objs.size = s.heap.objs.size + 1 →
      (∀ cc o, cc ≠ zp → cc ≠ tu → cc ≠ ia → cc ≠ ib → s.heap.get? cc = some o → h'.get? cc = some o) → Q (.ref s.heap.objs.size) { s with heap := h' }) :
    wpAny (model prog w) A (Builtin.«zip.__next__» ⟨[.ref zp], []⟩) (fun fin s' => ∃ v, fin = .done (.ret v) ∧ Q v s') E s := by
  show wpAny _ _ (field (.ref zp) 2 >>= _) _ _ _; refine wpAny_bind (wpAny_field zi rfl (x := .bool false) rfl ?_)
  show wpAny _ _ (field (.ref zp) 3 >>= _) _ _ _; refine wpAny_bind (wpAny_field zi rfl (x := .ref ti) rfl ?_)
  refine wpAny_bind (wpAny_seqItems pi rfl ?_); show wpAny _ _ (Builtin.SmallTypes.ownedTupleIsFree (.ref zp) >>= _) _ _ _
  refine wpAny_bind ?_; unfold Builtin.SmallTypes.ownedTupleIsFree
  refine wpAny_bind (wpAny_field zi rfl (x := .none) rfl (wpAny_pure ?_)); simp only [if_true]
  refine wpAny_bind (wpAny_rule ?_); refine wpAny_bind (wpAny_field zi rfl (x := .ref tu) rfl ?_)
  refine wpAny_bind (wpAny_setField_rec zi (by simp) fun h₁ zi₁ sm₁ => ?_); replace zi₁ : IsZip h₁ zp ti tu .ellipsis := zi₁
  refine wpAny_bind ?_; simp only [List.zipIdx_cons, List.zipIdx_nil, List.forIn_cons, List.forIn_nil]
  refine wpAny_bind (wpAny_bind (wpAny_onRaise ?_)); show wpAny _ _ (Builtin.SmallTypes.nextOf (.ref ia) >>= _) _ _ _
  refine wpAny_bind (wpAny_nextOf_list_item (na.extBut sm₁.extBut AP.i1z) (lsa.extBut sm₁.extBut AP.l1z) ea fun h₂ na₂ sm₂ => wpAny_pure ?_); have pu₂ : IsPair h₂ tu a b := sm₂.extBut _ _ AP.TOi1 (sm₁.extBut _ _ AP.TOz pu)
  refine wpAny_bind (wpAny_seqItems pu₂ rfl ?_); refine wpAny_bind (wpAny_updateSeq_pair pu₂ fun h₃ pu₃ sm₃ => ?_)
  replace pu₃ : IsPair h₃ tu x b := pu₃; refine wpAny_bind (wpAny_letGo (wpAny_pure ?_))
  refine wpAny_bind (wpAny_bind (wpAny_onRaise ?_)); show wpAny _ _ (Builtin.SmallTypes.nextOf (.ref ib) >>= _) _ _ _
  refine wpAny_bind (nextOf_tuple_item (((nb.extBut sm₁.extBut AP.i2z).extBut sm₂.extBut AP.i12.symm).extBut sm₃.extBut AP.TOi2.symm)
    (((tpb.extBut sm₁.extBut AP.l2z).extBut sm₂.extBut AP.l2i1).extBut sm₃.extBut AP.l2TO) eb fun h₄ nb₄ sm₄ => wpAny_pure ?_)
  have pu₄ : IsPair h₄ tu x b := sm₄.extBut _ _ AP.TOi2 pu₃; refine wpAny_bind (wpAny_seqItems pu₄ rfl ?_)
  refine wpAny_bind (wpAny_updateSeq_pair pu₄ fun h₅ pu₅ sm₅ => ?_); replace pu₅ : IsPair h₅ tu x y := pu₅
  refine wpAny_bind (wpAny_letGo (wpAny_pure (wpAny_pure ?_)))
  refine wpAny_bind (wpAny_seqItems pu₅ rfl ?_); refine wpAny_bind (wpAny_newTuple ?_)
  have sz5 : h₅.objs.size = s.heap.objs.size := by rw [sm₅.1, sm₄.1, sm₃.1, sm₂.1, sm₁.1]
  have zi₅ : IsZip h₅ zp ti tu .ellipsis := sm₅.extBut _ _ AP.TOz.symm (sm₄.extBut _ _ AP.i2z.symm (sm₃.extBut _ _ AP.TOz.symm (sm₂.extBut _ _ AP.i1z.symm zi₁)))
  have kp₅ : ∀ cc o, cc ≠ zp → cc ≠ tu → cc ≠ ia → cc ≠ ib → s.heap.get? cc = some o → h₅.get? cc = some o := fun cc o c1 c2 c3 c4 ee =>
    sm₅.extBut _ _ c2 (sm₄.extBut _ _ c4 (sm₃.extBut _ _ c2 (sm₂.extBut _ _ c3 (sm₁.extBut _ _ c1 ee))))
  have na₅ : h₅.IsListIter ia la (ka + 1) := ((na₂.extBut sm₃.extBut AP.TOi1.symm).extBut sm₄.extBut AP.i12).extBut sm₅.extBut AP.TOi1.symm; have nb₅ : h₅.IsTupleIter ib lb (kb + 1) := nb₄.extBut sm₅.extBut AP.TOi2.symm
  have hzlt : zp < h₅.objs.size := Heap.lt_size zi₅; have hTOlt : tu < h₅.objs.size := Heap.lt_size pu₅
  have hi1lt : ia < h₅.objs.size := by obtain ⟨_, ee, _⟩ := na₅; exact Heap.lt_size ee
  have hi2lt : ib < h₅.objs.size := by obtain ⟨_, ee, _⟩ := nb₅; exact Heap.lt_size ee
  show wpAny _ _ (Builtin.SmallTypes.ownedTupleHandOut (.ref zp) (.ref h₅.objs.size) >>= _) _ _ _; refine wpAny_bind ?_
  unfold Builtin.SmallTypes.ownedTupleHandOut; have zi₆ : IsZip (h₅.push { cls := .type "tuple", data := .seq #[x, y] }) zp ti tu .ellipsis := Heap.get?_push_of_some _ zi₅
  refine wpAny_bind (wpAny_setField_rec zi₆ (by simp) fun h₇ zi₇ sm₇ => ?_); replace zi₇ : IsZip h₇ zp ti tu (rawInt h₅.objs.size) := zi₇
  refine wpAny_setField_rec zi₇ (by simp) fun h₈ zi₈ sm₈ => ?_; replace zi₈ : IsZip h₈ zp ti tu (rawInt h₅.objs.size) := zi₈
  have upk : ∀ cc o, cc ≠ zp → h₅.get? cc = some o → h₈.get? cc = some o := fun cc o c1 ee => sm₈.extBut _ _ c1 (sm₇.extBut _ _ c1 (Heap.get?_push_of_some _ ee)); have tT₈ : IsPair h₈ h₅.objs.size x y := sm₈.extBut _ _ (Nat.ne_of_gt hzlt) (sm₇.extBut _ _ (Nat.ne_of_gt hzlt) (Heap.get?_push_size _ rfl))
  have hz8 : h₈.objs.size = h₅.objs.size + 1 := by rw [sm₈.1, sm₇.1, Heap.size_push]
  rw [sz5] at zi₈ tT₈ hz8; refine wpAny_pure ⟨_, rfl, ?_⟩
  show Q (.ref h₅.objs.size) _; rw [sz5]
  exact fin h₈ zi₈ (upk _ _ AP.TOz pu₅) (na₅.at fun o ee => upk _ o AP.i1z ee) (nb₅.at fun o ee => upk _ o AP.i2z ee) tT₈ hz8 fun cc o c1 c2 c3 c4 ee => upk cc o c1 (kp₅ cc o c1 c2 c3 c4 ee)
theorem zipM_next_end {zp ti tu ia ib la lb : Addr} {ka kb : Nat} {xs ys : Array Value} {a b : Value} {Q : Fin → Shared → Prop} (nh : A.handled = none) (AP : ZipApart zp ti tu ia ib la lb)
    (zi : IsZip s.heap zp ti tu .none) (pi : IsPair s.heap ti (.ref ia) (.ref ib)) (pu : IsPair s.heap tu a b)
    (na : s.heap.IsListIter ia la ka) (nb : s.heap.IsTupleIter ib lb kb) (lsa : s.heap.IsList la xs) (tpb : s.heap.IsTuple lb ys) (stop : xs[ka]? = none ∨ ys[kb]? = none)
    (fex : ∀ h' ee, (∀ cc o, cc ≠ zp → cc ≠ tu → cc ≠ ia → cc ≠ ib → s.heap.get? cc = some o → h'.get? cc = some o) → (∃ o, h'.get? ee = some o ∧ o.cls = .type "StopIteration") → E (.ref ee) { s with heap := h' }) :
    wpAny (model prog w) A (Builtin.«zip.__next__» ⟨[.ref zp], []⟩) Q E s := by
  show wpAny _ _ (field (.ref zp) 2 >>= _) _ _ _; refine wpAny_bind (wpAny_field zi rfl (x := .bool false) rfl ?_)
  show wpAny _ _ (field (.ref zp) 3 >>= _) _ _ _; refine wpAny_bind (wpAny_field zi rfl (x := .ref ti) rfl ?_)
  refine wpAny_bind (wpAny_seqItems pi rfl ?_); show wpAny _ _ (Builtin.SmallTypes.ownedTupleIsFree (.ref zp) >>= _) _ _ _
  refine wpAny_bind ?_; unfold Builtin.SmallTypes.ownedTupleIsFree
  refine wpAny_bind (wpAny_field zi rfl (x := .none) rfl (wpAny_pure ?_)); simp only [if_true]
  refine wpAny_bind (wpAny_rule ?_); refine wpAny_bind (wpAny_field zi rfl (x := .ref tu) rfl ?_)
  refine wpAny_bind (wpAny_setField_rec zi (by simp) fun h₁ zi₁ sm₁ => ?_); replace zi₁ : IsZip h₁ zp ti tu .ellipsis := zi₁
  refine wpAny_bind ?_; simp only [List.zipIdx_cons, List.zipIdx_nil, List.forIn_cons, List.forIn_nil]
  refine wpAny_bind (wpAny_bind (wpAny_onRaise ?_)); show wpAny _ _ (Builtin.SmallTypes.nextOf (.ref ia) >>= _) _ _ _
  cases ea : xs[ka]? with
  | none =>
    refine wpAny_bind (wpAny_nextOf_list_end nh (na.extBut sm₁.extBut AP.i1z) (lsa.extBut sm₁.extBut AP.l1z) ea fun h₂ ee sm₂ gex => ?_); obtain ⟨oe, goe, gce⟩ := gex
    have zi₂ : IsZip h₂ zp ti tu .ellipsis := sm₂ _ _ AP.i1z.symm zi₁
    have nez : ee ≠ zp := fun x => by subst x; rw [zi₂] at goe; cases goe; simp at gce
    refine wpAny_setField_rec zi₂ (by simp) fun h₃ _ sm₃ => fex h₃ ee (fun cc o c1 _ c3 _ x => sm₃.extBut _ _ c1 (sm₂ _ _ c3 (sm₁.extBut _ _ c1 x))) ⟨oe, sm₃.extBut _ _ nez goe, gce⟩
  | some x =>
    have eb : ys[kb]? = none := by rcases stop with h | h; rw [ea] at h; cases h; exact h
    refine wpAny_bind (wpAny_nextOf_list_item (na.extBut sm₁.extBut AP.i1z) (lsa.extBut sm₁.extBut AP.l1z) ea fun h₂ na₂ sm₂ => wpAny_pure ?_); have pu₂ : IsPair h₂ tu a b := sm₂.extBut _ _ AP.TOi1 (sm₁.extBut _ _ AP.TOz pu)
    refine wpAny_bind (wpAny_seqItems pu₂ rfl ?_); refine wpAny_bind (wpAny_updateSeq_pair pu₂ fun h₃ pu₃ sm₃ => ?_)
    refine wpAny_bind (wpAny_letGo (wpAny_pure ?_)); refine wpAny_bind (wpAny_bind (wpAny_onRaise ?_))
    show wpAny _ _ (Builtin.SmallTypes.nextOf (.ref ib) >>= _) _ _ _
    refine wpAny_bind (nextOf_tuple_end nh (((nb.extBut sm₁.extBut AP.i2z).extBut sm₂.extBut AP.i12.symm).extBut sm₃.extBut AP.TOi2.symm)
      (((tpb.extBut sm₁.extBut AP.l2z).extBut sm₂.extBut AP.l2i1).extBut sm₃.extBut AP.l2TO) eb fun h₄ ee sm₄ gex => ?_)
    obtain ⟨oe, goe, gce⟩ := gex; have zi₄ : IsZip h₄ zp ti tu .ellipsis := sm₄ _ _ AP.i2z.symm (sm₃.extBut _ _ AP.TOz.symm (sm₂.extBut _ _ AP.i1z.symm zi₁))
    have nez : ee ≠ zp := fun x => by subst x; rw [zi₄] at goe; cases goe; simp at gce
    refine wpAny_setField_rec zi₄ (by simp) fun h₅ _ sm₅ => fex h₅ ee (fun cc o c1 c2 c3 c4 x => sm₅.extBut _ _ c1 (sm₄ _ _ c4 (sm₃.extBut _ _ c2 (sm₂.extBut _ _ c3 (sm₁.extBut _ _ c1 x))))) ⟨oe, sm₅.extBut _ _ nez goe, gce⟩
theorem pyNext_zipM_item {zp ti tu ia ib la lb : Addr} {ka kb : Nat} {xs ys : Array Value} {x y a b : Value} {Q : Option Value → Shared → Prop} (AP : ZipApart zp ti tu ia ib la lb)
    (zi : IsZip s.heap zp ti tu .none) (pi : IsPair s.heap ti (.ref ia) (.ref ib)) (pu : IsPair s.heap tu a b)
    (na : s.heap.IsListIter ia la ka) (nb : s.heap.IsTupleIter ib lb kb) (lsa : s.heap.IsList la xs) (tpb : s.heap.IsTuple lb ys) (ea : xs[ka]? = some x) (eb : ys[kb]? = some y)
    (fin : ∀ h', IsZip h' zp ti tu (rawInt s.heap.objs.size) → IsPair h' tu x y → h'.IsListIter ia la (ka + 1) → h'.IsTupleIter ib lb (kb + 1) → IsPair h' s.heap.objs.size x y → h'.objs.size = s.heap.objs.size + 1 →
      (∀ cc o, cc ≠ zp → cc ≠ tu → cc ≠ ia → cc ≠ ib → s.heap.get? cc = some o → h'.get? cc = some o) → Q (some (.ref s.heap.objs.size)) { s with heap := h' }) :
    wpAny (model prog w) A (pyNext (.ref zp)) Q E s := by
  have tT : s.TypeIs (.ref zp) "zip" := ⟨_, zi, rfl⟩; unfold pyNext
  exact wpAny_bind (wpAny_attempt (wpAny_callSpecial?_slot (name := Str.ofString "__next__") tT F.slot_zip_next
    (wpAny_call_entry F.slot_zip_next tT F.entry_zip_next
      (zipM_next_item AP zi pi pu na nb lsa tpb ea eb fun h' a1 a2 a3 a4 a5 a6 a7 => wpAny_pure (fin h' a1 a2 a3 a4 a5 a6 a7)) (F.args_zip_next_1 _))))
theorem pyNext_zipM_end {zp ti tu ia ib la lb : Addr} {ka kb : Nat} {xs ys : Array Value} {a b : Value} {Q : Option Value → Shared → Prop} (nh : A.handled = none) (AP : ZipApart zp ti tu ia ib la lb)
    (zi : IsZip s.heap zp ti tu .none) (pi : IsPair s.heap ti (.ref ia) (.ref ib)) (pu : IsPair s.heap tu a b)
    (na : s.heap.IsListIter ia la ka) (nb : s.heap.IsTupleIter ib lb kb) (lsa : s.heap.IsList la xs) (tpb : s.heap.IsTuple lb ys) (stop : xs[ka]? = none ∨ ys[kb]? = none)
    (fin : ∀ h', (∀ cc o, cc ≠ zp → cc ≠ tu → cc ≠ ia → cc ≠ ib → s.heap.get? cc = some o → h'.get? cc = some o) → Q none { s with heap := h' }) : wpAny (model prog w) A (pyNext (.ref zp)) Q E s := by
  have tT : s.TypeIs (.ref zp) "zip" := ⟨_, zi, rfl⟩; unfold pyNext
  refine wpAny_bind (wpAny_attempt (wpAny_callSpecial?_slot (name := Str.ofString "__next__") tT F.slot_zip_next
    (wpAny_call_entry F.slot_zip_next tT F.entry_zip_next (zipM_next_end nh AP zi pi pu na nb lsa tpb stop fun h' ee kp gex => ?_) (F.args_zip_next_1 _))))
  obtain ⟨o, ho, clm⟩ := gex; refine wpAny_bind (wpAny_isInstance (T := "StopIteration") (b := true) ⟨o, ho, clm⟩ isSubtype_stop ?_)
  exact wpAny_pure (fin _ kp)
end
abbrev zipMH1 (h : Heap) (la : Addr) : Heap := h.push { cls := .type "list_iterator", data := .fields #[.ref la, .int 0 0] }
abbrev zipMH2 (h : Heap) (la lb : Addr) : Heap := (zipMH1 h la).push { cls := .type "tuple_iterator", data := .fields #[.ref lb, .int 0 0] }
abbrev zipMH3 (h : Heap) (la lb : Addr) : Heap := (zipMH2 h la lb).push { cls := .type "tuple", data := .seq #[.ref h.objs.size, .ref (zipMH1 h la).objs.size] }
abbrev zipMH4 (h : Heap) (la lb : Addr) : Heap := (zipMH3 h la lb).push { cls := .type "tuple", data := .seq #[.none, .none] }
abbrev zipMH5 (h : Heap) (la lb : Addr) : Heap := (zipMH4 h la lb).push { cls := .type "zip", data := .fields #[.none, .bool false, .bool false, .ref (zipMH2 h la lb).objs.size, .ref (zipMH3 h la lb).objs.size] }
theorem meets_zipM_new (la lb : Addr) (xs ys : Array Value) :
    Meets (Builtin.«zip.__new__» ⟨[.type "zip", .ref la, .ref lb], []⟩) (fun _ R s => s.heap.IsList la xs ∧ s.heap.IsTuple lb ys ∧
      R (.ok (.ret (.ref (zipMH4 s.heap la lb).objs.size))) { s with heap := zipMH5 s.heap la lb }) :=
  .of_wp fun prog w A R s h => by
    obtain ⟨hp, g, d, tk, os⟩ := s; obtain ⟨lsa, tpb, h⟩ := h; have hsub := sub_zip
    have hL1 : Heap.IsList (Shared.heap ⟨hp, g, d, tk, os⟩) la xs := lsa; have hL2 : Heap.IsTuple (Shared.heap ⟨hp.push { cls := .type "list_iterator", data := .fields #[.ref la, .int 0 0] }, g, d, tk, os⟩) lb ys := Heap.IsTuple.push tpb _
    wp_walk using wpAny_pyIter_list hL1, wpAny_pyIter_tuple hL2
    exact ⟨_, rfl, h⟩
section
variable {prog : Program} {w : World} {A : Around} {s : Shared} {E : Value → Shared → Prop}
theorem call_zipM {la lb : Addr} {xs ys : Array Value} {Q : Value → Shared → Prop} (lsa : s.heap.IsList la xs) (tpb : s.heap.IsTuple lb ys)
    (yes : ∀ h', IsZip h' (s.heap.objs.size + 4) (s.heap.objs.size + 2) (s.heap.objs.size + 3) .none → IsPair h' (s.heap.objs.size + 2) (.ref s.heap.objs.size) (.ref (s.heap.objs.size + 1)) →
      IsPair h' (s.heap.objs.size + 3) .none .none → h'.IsListIter s.heap.objs.size la 0 → h'.IsTupleIter (s.heap.objs.size + 1) lb 0 → h'.objs.size = s.heap.objs.size + 5 →
      (∀ cc o, s.heap.get? cc = some o → h'.get? cc = some o) → Q (.ref (s.heap.objs.size + 4)) { s with heap := h' }) :
    wpAny (model prog w) A (call (.type "zip") [.ref la, .ref lb]) Q E s := by
  refine callType_new F.called_zip (by decide) (F.typeCall_zip_2 _ _)
    (F.newCall_zip_2 _ _) (fun obj => F.args_object_init_3 obj _ _) F.entry_zip_new
    (meets_zipM_new la lb xs ys) ⟨lsa, tpb, ?_⟩
  have z1 : (zipMH1 s.heap la).objs.size = s.heap.objs.size + 1 := Heap.size_push ..
  have z2 : (zipMH2 s.heap la lb).objs.size = s.heap.objs.size + 2 := by rw [Heap.size_push, z1]
  have z3 : (zipMH3 s.heap la lb).objs.size = s.heap.objs.size + 3 := by rw [Heap.size_push, z2]
  have z4 : (zipMH4 s.heap la lb).objs.size = s.heap.objs.size + 4 := by rw [Heap.size_push, z3]
  have z5 : (zipMH5 s.heap la lb).objs.size = s.heap.objs.size + 5 := by rw [Heap.size_push, z4]
  have g5 : (zipMH5 s.heap la lb).get? (zipMH4 s.heap la lb).objs.size = some _ := Heap.get?_push_size _ rfl; have g4 : (zipMH5 s.heap la lb).get? (zipMH3 s.heap la lb).objs.size = some _ := Heap.get?_push_of_some _ (Heap.get?_push_size _ rfl)
  have g3 : (zipMH5 s.heap la lb).get? (zipMH2 s.heap la lb).objs.size = some _ := Heap.get?_push_of_some _ (Heap.get?_push_of_some _ (Heap.get?_push_size _ rfl)); have g2 : (zipMH5 s.heap la lb).get? (zipMH1 s.heap la).objs.size = some _ := Heap.get?_push_of_some _ (Heap.get?_push_of_some _ (Heap.get?_push_of_some _ (Heap.get?_push_size _ rfl)))
  have g1 : (zipMH5 s.heap la lb).get? s.heap.objs.size = some _ := Heap.get?_push_of_some _ (Heap.get?_push_of_some _ (Heap.get?_push_of_some _ (Heap.get?_push_of_some _ (Heap.get?_push_size _ rfl)))); show _ ∧ _
  rw [z2, z3, z4] at g5; rw [z1, z2] at g3
  rw [z3] at g4; rw [z1] at g2
  rw [z4]
  exact ⟨⟨_, g5, rfl⟩, yes _ g5 g3 g4 ⟨_, g1, rfl, rfl⟩ ⟨_, g2, rfl, rfl⟩ z5 fun cc o x => Heap.get?_push_of_some _ (Heap.get?_push_of_some _ (Heap.get?_push_of_some _ (Heap.get?_push_of_some _ (Heap.get?_push_of_some _ x))))⟩
end
def ItzM (K : PySem.W.Frag) (a b : Addr) : It :=
  ⟨fun i H => ∃ (xs ys : List V) (x y : V), SqL K H a xs ∧ SqT K H b ys ∧ xs[i]? = some x ∧ ys[i]? = some y,
    fun i H v H' => ∃ T x y, v = .ref T ∧ H T = none ∧ H' = upd H T (.tup [x, y]) ∧ (∀ xs, SqL K H a xs → xs[i]? = some x) ∧ ∀ ys, SqT K H b ys → ys[i]? = some y,
    fun i H => ∃ xs ys : List V, SqL K H a xs ∧ SqT K H b ys ∧ (xs.length ≤ i ∨ ys.length ≤ i)⟩
theorem turn_zipM {P : Program} {w : World} {K : PySem.W.Frag} {elts : List Expr} {kk : Nat} {tpos : Pos} {a b zp ti tu ia ib : Addr} (AP : ZipApart zp ti tu ia ib a b) :
    Turn P w K (.Tuple elts kk tpos) (ItzM K a b) [zp, ti, tu, ia, ib] zp (fun i h => IsZip h zp ti tu .none ∧ IsPair h ti (.ref ia) (.ref ib) ∧ (∃ x y, IsPair h tu x y) ∧ h.IsListIter ia a i ∧ h.IsTupleIter ib b i) where
  mem := by simp
  obj := fun i h sta cc clm => by
    obtain ⟨zi, pi, ⟨x, y, pu⟩, ⟨o1, e1, _, d1⟩, ⟨o2, e2, _, d2⟩⟩ := sta
    have ee' : cc = zp ∨ cc = ti ∨ cc = tu ∨ cc = ia ∨ cc = ib := by simpa using clm
    rcases ee' with qq | qq | qq | qq | qq
    · rw [qq]; exact ⟨_, zi, fun v qq => nomatch qq⟩
    · rw [qq]; exact ⟨_, pi, fun v qq => nomatch qq⟩
    · rw [qq]; exact ⟨_, pu, fun v qq => nomatch qq⟩
    · rw [qq]; exact ⟨o1, e1, fun v qq => by rw [d1] at qq; cases qq⟩
    · rw [qq]; exact ⟨o2, e2, fun v qq => by rw [d2] at qq; cases qq⟩
  keep := fun i h h' sta k => by
    obtain ⟨zi, pi, ⟨x, y, pu⟩, na, nb⟩ := sta
    exact ⟨k zp (by simp) _ zi, k ti (by simp) _ pi, ⟨x, y, k tu (by simp) _ pu⟩, na.at fun o qq => k ia (by simp) o qq, nb.at fun o qq => k ib (by simp) o qq⟩
  item := by
    intro X hP hw hK clm i pins s σ H E IV frs sta gos
    subst hP hw hK
    obtain ⟨zi, pi, ⟨x0, y0, pu⟩, na, nb⟩ := sta; obtain ⟨xs, ys, x, y, sqa, sqb, ea, eb⟩ := gos
    obtain ⟨ita, rv, p, _⟩ := IV.list sqa; obtain ⟨itb, rv2, p2, _⟩ := IV.tuple sqb
    obtain ⟨u, hu, ru⟩ := rv.get ea; obtain ⟨u2, hu2, ru2⟩ := rv2.get eb
    have zlt : zp < s.heap.objs.size := Heap.lt_size zi; refine pyNext_zipM_item AP zi pi pu na nb p.isList p2 (x := u) (y := u2) (by simpa using hu) (by simpa using hu2) fun h' z' TO' na' nb' tT sz5 kp => ?_
    refine ⟨_, rfl, wpAny_letOwnedTupleGo_zip (s := { s with heap := h' }) z' fun h'' z'' sb => ?_⟩; have hT2 : h''.get? s.heap.objs.size = some { cls := .type "tuple", data := .seq #[u, u2] } := (sb.2 _ (Nat.ne_of_gt zlt)).trans tT
    have nw : ObjOk X.prog X.w (upd H s.heap.objs.size (.tup [x, y])) h'' s.heap.objs.size (.tup [x, y]) := ⟨by show 2 ≤ sizeLine; decide, [u, u2], .cons ru (.cons ru2 .nil), ⟨_, hT2, rfl, _, rfl⟩⟩
    have IW : Inv X pins σ (upd H s.heap.objs.size (.tup [x, y])) { s with heap := h'' } :=       IV.turnedNew (t' := s.toks) (ch := [zp, ti, tu, ia, ib]) (fun cc o hb qq => (sb.2 cc (fun qq' => hb (by simp [qq']))).trans (kp cc o (fun qq' => hb (by simp [qq'])) (fun qq' => hb (by simp [qq'])) (fun qq' => hb (by simp [qq'])) (fun qq' => hb (by simp [qq'])) qq)) frs (Nat.le_refl _) nw
    refine ⟨.ref s.heap.objs.size, _, IW, rfl, ⟨_, x, y, rfl, IV.hok.fresh (Nat.le_refl _), rfl, fun l hl => by rw [IV.list_inj hl sqa]; exact ea, fun l hl => by rw [IV.tuple_inj hl sqb]; exact eb⟩, ⟨z'', ?_, ⟨u, u2, ?_⟩, ?_, ?_⟩, fun cc mcm => ?_⟩
    · exact (sb.2 _ AP.TIz).trans (kp _ _ AP.TIz AP.TITO AP.TIi1 AP.TIi2 pi)
    · exact (sb.2 _ AP.TOz).trans TO'
    · exact na'.at fun o qq => (sb.2 _ AP.i1z).trans qq
    · exact nb'.at fun o qq => (sb.2 _ AP.i2z).trans qq
    · have clt : cc < s.heap.objs.size := by
        have ee' : cc = zp ∨ cc = ti ∨ cc = tu ∨ cc = ia ∨ cc = ib := by simpa using mcm
        rcases ee' with qq | qq | qq | qq | qq
        · rw [qq]; exact zlt
        · rw [qq]; exact Heap.lt_size pi
        · rw [qq]; exact Heap.lt_size pu
        · rw [qq]; obtain ⟨_, e1, _⟩ := na; exact Heap.lt_size e1
        · rw [qq]; obtain ⟨_, e2, _⟩ := nb; exact Heap.lt_size e2
      rw [upd_ne (Nat.ne_of_lt clt)]
      exact (frs cc mcm).1
  done := by
    intro X hP hw hK clm i pins s σ H E IV frs sta gos
    subst hP hw hK
    obtain ⟨zi, pi, ⟨x0, y0, pu⟩, na, nb⟩ := sta; obtain ⟨xs, ys, sqa, sqb, stop⟩ := gos
    obtain ⟨ita, rv, p, _⟩ := IV.list sqa; obtain ⟨itb, rv2, p2, _⟩ := IV.tuple sqb
    have la := rv.length; have lb := rv2.length
    have gex : ita.toArray[i]? = none ∨ itb.toArray[i]? = none := by
      rcases stop with qq | qq
      · exact .inl (by simp; omega)
      · exact .inr (by simp; omega)
    exact pyNext_zipM_end (IV.ok.hd clm) AP zi pi pu na nb p.isList p2 gex fun h' kp => ⟨rfl, IV.turnedL (t' := s.toks) (ch := [zp, ti, tu, ia, ib]) (fun cc o hb qq =>
      kp cc o (fun qq' => hb (by simp [qq'])) (fun qq' => hb (by simp [qq'])) (fun qq' => hb (by simp [qq'])) (fun qq' => hb (by simp [qq'])) qq) frs⟩
  self := fun A i s Q E sta h => wpAny_pyIter_zip sta.1 h
end ZM
end PD
namespace PD
open PySem PySem.Spec PyProof.Rows L2
def iZipX (K : PySem.W.Frag) (ta : TA) : TI := fun σ H R => ta σ H fun vs H1 => ∃ a b xs ys, vs = [.ref a, .ref b] ∧ ((SqL K H1 a xs ∧ SqL K H1 b ys ∧ R (Itz K a b) H1) ∨ (SqT K H1 a xs ∧ SqT K H1 b ys ∧ R (RZ.ItzT K a b) H1) ∨ (SqL K H1 a xs ∧ SqT K H1 b ys ∧ R (ZM.ItzM K a b) H1))
theorem pi_zipX {X : Cx} {e e2 : Expr} {ta : TA} {p pos tpos : Pos} {elts : List Expr} {kk : Nat} (gl : Gl X "zip") (mg : X.mg "zip" = none) (args : PA X [e, e2] ta)
    (st : starEach [e, e2] X.env = (false, eval e X.env) :: starEach [e2] X.env := by rfl) (pl : (backTo pos (starEach [e2] X.env)).any (·.1) = false := by rfl) :
    PI X (.Tuple elts kk tpos) (.Call (.Name "zip" p) [e, e2] [] pos) (iZipX X.K ta) := by
  refine ⟨fun pins s σ H R IV q0 => ?_⟩
  refine Call_ (ld_blt IV gl mg PyProof.Rows.boot_zip (PyProof.Rows.callWith_type1 (thn (args.run pos pins s σ H _ IV q0) fun us s1 ⟨vs, H1, IW, rv, q1⟩ => ?_) st pl))
  obtain ⟨a, b, xs, ys, ex, q1⟩ := q1
  subst ex
  obtain ⟨u1, us1, rfl, r1, rv⟩ : ∃ u1 us1, us = u1 :: us1 ∧ RelV (.ref a) u1 ∧ Vals [.ref b] us1 := by cases rv with | cons r rr => exact ⟨_, _, rfl, r, rr⟩
  obtain ⟨u2, rfl, r2⟩ : ∃ u2, us1 = [u2] ∧ RelV (.ref b) u2 := by cases rv with | cons r rr => cases rr; exact ⟨_, rfl, r⟩
  cases r1
  cases r2
  have new5 : ∀ c, c ∈ [s1.heap.objs.size + 4, s1.heap.objs.size + 2, s1.heap.objs.size + 3, s1.heap.objs.size, s1.heap.objs.size + 1] → FpOk X pins H1 c := fun c mc => by
    have big : s1.heap.objs.size ≤ c := by
      rcases (by simpa using mc : c = s1.heap.objs.size + 4 ∨ c = s1.heap.objs.size + 2 ∨ c = s1.heap.objs.size + 3 ∨ c = s1.heap.objs.size ∨ c = s1.heap.objs.size + 1) with z | z | z | z | z
      all_goals first | (rw [z]; exact Nat.le_add_right _ _) | (rw [z]; exact Nat.le_refl _)
    exact IW.fpOk big (IW.hok.fresh big)
  rcases q1 with ⟨sa, sb, q⟩ | ⟨sa, sb, q⟩ | ⟨sa, sb, q⟩
  · obtain ⟨ita, _, pa, _⟩ := IW.list sa
    obtain ⟨itb, _, pb, _⟩ := IW.list sb
    refine call_zip_2 pa.isList pb.isList fun h' z1 z2 z3 z4 z5 sz kp => wpAny_pyIter_zip z1 ?_
    have I2 : Inv X pins σ H1 { s1 with heap := h' } := IW.kept (t' := s1.toks) kp
    exact ⟨_, [s1.heap.objs.size + 4, s1.heap.objs.size + 2, s1.heap.objs.size + 3, s1.heap.objs.size, s1.heap.objs.size + 1], _, _, H1, rfl, I2, turn_zip (PySem.W.ktu_apart s1.heap.objs.size a b pa.lt pb.lt), ⟨z1, z2, ⟨_, _, z3⟩, z4, z5⟩, new5, q⟩
  · obtain ⟨ita, _, pa, _⟩ := IW.tuple sa
    obtain ⟨itb, _, pb, _⟩ := IW.tuple sb
    obtain ⟨oa, ga, _⟩ := id pa
    obtain ⟨ob, gb, _⟩ := id pb
    refine RZ.call_zipT (show s1.heap.IsTuple a ita.toArray from pa) (show s1.heap.IsTuple b itb.toArray from pb) fun h' z1 z2 z3 z4 z5 sz kp => wpAny_pyIter_zip z1 ?_
    have I2 : Inv X pins σ H1 { s1 with heap := h' } := IW.kept (t' := s1.toks) kp
    exact ⟨_, [s1.heap.objs.size + 4, s1.heap.objs.size + 2, s1.heap.objs.size + 3, s1.heap.objs.size, s1.heap.objs.size + 1], _, _, H1, rfl, I2, RZ.turn_zipT (PySem.W.ktu_apart s1.heap.objs.size a b (Heap.lt_size ga) (Heap.lt_size gb)), ⟨z1, z2, ⟨_, _, z3⟩, z4, z5⟩, new5, q⟩
  · obtain ⟨ita, _, pa, _⟩ := IW.list sa
    obtain ⟨itb, _, pb, _⟩ := IW.tuple sb
    obtain ⟨ob, gb, _⟩ := id pb
    refine ZM.call_zipM pa.isList (show s1.heap.IsTuple b itb.toArray from pb) fun h' z1 z2 z3 z4 z5 sz kp => wpAny_pyIter_zip z1 ?_
    have I2 : Inv X pins σ H1 { s1 with heap := h' } := IW.kept (t' := s1.toks) kp
    exact ⟨_, [s1.heap.objs.size + 4, s1.heap.objs.size + 2, s1.heap.objs.size + 3, s1.heap.objs.size, s1.heap.objs.size + 1], _, _, H1, rfl, I2, ZM.turn_zipM (PySem.W.ktu_apart s1.heap.objs.size a b pa.lt (Heap.lt_size gb)), ⟨z1, z2, ⟨_, _, z3⟩, z4, z5⟩, new5, q⟩
section
variable {K : PySem.W.Frag} {mg : Str → Option Value} {z : Fz} {a b : Addr} {xs ys : List V} {ds es : List D}
theorem yields_zipL (h : z.F a = some (.lst xs)) (r : Reps K mg z ds xs) (h2 : z.F b = some (.lst ys)) (r2 : Reps K mg z es ys) : Yields K mg (Itz K a b) z (zipL ds es) := by
  intro B F0 z' ow ρ m σ H i hz S
  have hH : SqL K H a xs := SqL.of (S.fh _ _ (hz.1 _ _ h))
  have hH2 : SqL K H b ys := SqL.of (S.fh _ _ (hz.1 _ _ h2))
  refine ⟨fun e => ⟨xs, ys, hH, hH2, by rw [← r.len, ← r2.len, e, zipL_len]; omega⟩, fun d hd => ?_⟩
  rw [zipL_get] at hd
  cases hq : ds[i]? with
  | none => rw [hq] at hd; cases hd
  | some d0 =>
    cases hq2 : es[i]? with
    | none => rw [hq, hq2] at hd; cases hd
    | some d1 =>
      rw [hq, hq2] at hd
      cases hd
      obtain ⟨v, hv, rv⟩ := r.get hq
      obtain ⟨w, hw, rw'⟩ := r2.get hq2
      refine ⟨⟨xs, ys, v, w, hH, hH2, hv, hw⟩, fun x H' y => ?_⟩
      obtain ⟨T, x0, y0, rfl, hT, rfl, y1, y2⟩ := y
      have e := (y1 xs hH).symm.trans hv
      cases e
      have e := (y2 ys hH2).symm.trans hw
      cases e
      exact ⟨_, S.leF hT _, S.allocF hT _, rep_tup_new (S.new_none hT).1 (.cons (rv.le hz) (.cons (rw'.le hz) .nil))⟩
theorem yields_zipM (h : z.F a = some (.lst xs)) (r : Reps K mg z ds xs) (h2 : SqT K z.F b ys) (r2 : Reps K mg z es ys) : Yields K mg (ZM.ItzM K a b) z (zipL ds es) := by
  intro B F0 z' ow ρ m σ H i hz S
  have hH : SqL K H a xs := SqL.of (S.fh _ _ (hz.1 _ _ h))
  have hH2 : SqT K H b ys := same_tup S.fh (same_tup hz.1 h2)
  refine ⟨fun e => ⟨xs, ys, hH, hH2, by rw [← r.len, ← r2.len, e, zipL_len]; omega⟩, fun d hd => ?_⟩
  rw [zipL_get] at hd
  cases hq : ds[i]? with
  | none => rw [hq] at hd; cases hd
  | some d0 =>
    cases hq2 : es[i]? with
    | none => rw [hq, hq2] at hd; cases hd
    | some d1 =>
      rw [hq, hq2] at hd
      cases hd
      obtain ⟨v, hv, rv⟩ := r.get hq
      obtain ⟨w, hw, rw'⟩ := r2.get hq2
      refine ⟨⟨xs, ys, v, w, hH, hH2, hv, hw⟩, fun x H' y => ?_⟩
      obtain ⟨T, x0, y0, rfl, hT, rfl, y1, y2⟩ := y
      have e := (y1 xs hH).symm.trans hv
      cases e
      have e := (y2 ys hH2).symm.trans hw
      cases e
      exact ⟨_, S.leF hT _, S.allocF hT _, rep_tup_new (S.new_none hT).1 (.cons (rv.le hz) (.cons (rw'.le hz) .nil))⟩
end
variable {X : Cx} {RW : WX}
def zipX : List D → Res (List D)
  | [.tup xs, .tup ys] => .ok (zipL xs ys)
  | [.lst xs, .lst ys] => .ok (zipL xs ys)
  | [.lst xs, .tup ys] => .ok (zipL xs ys)
  | _ => .bad
def dZipX (da : Den (List D)) : Den (List D) := fun ρ m => (da ρ m).bind fun x => (zipX x.1).bind fun ds => .ok (ds, x.2)
theorem it_zipX {e e2 : Expr} {da : Den (List D)} {p pos tpos : Pos} {elts : List Expr} {kk : Nat} (hg : Gl X "zip") (hm : X.mg "zip" = none) (ha : PA X [e, e2] (tX X.K X.mg RW da (pVals X.K X.mg)))
    (hs : starEach [e, e2] X.env = (false, eval e X.env) :: starEach [e2] X.env := by rfl) (hpl : (backTo pos (starEach [e2] X.env)).any (·.1) = false := by rfl) :
    PI X (.Tuple elts kk tpos) (.Call (.Name "zip" p) [e, e2] [] pos) (tX X.K X.mg RW (dZipX da) (pIt X.K X.mg)) :=
  PI.imp (pi_zipX hg hm ha hs hpl) fun σ H Q q => by
    refine tX.imp q fun B F0 z ow ρ m S h => Rem.step pIt.pm h fun d m1 B1 z1 ow1 v H1 hB hz S1 p h1 => ?_
    unfold zipX at h1
    split at h1
    · rename_i ds es hd
      cases (show d = _ from hd)
      obtain ⟨v1, vs1, rfl, p1, r1⟩ := (show Reps X.K X.mg z1 [.tup ds, .tup es] v from p).uncons
      obtain ⟨v2, vs2, rfl, p2, r2⟩ := r1.uncons
      cases r2.nil_of
      simp only [Rep] at p1 p2
      obtain ⟨a, xs, rfl, e1, q1⟩ := p1
      obtain ⟨b, ys, rfl, e2, q2⟩ := p2
      exact ⟨a, b, xs, ys, rfl, .inr (.inl ⟨same_tup S1.fh e1, same_tup S1.fh e2, Rem.here (d := zipL ds es) h1 S1 (yields_zipT e1 q1 e2 q2)⟩)⟩
    · rename_i ds es hd
      cases (show d = _ from hd)
      obtain ⟨v1, vs1, rfl, p1, r1⟩ := (show Reps X.K X.mg z1 [.lst ds, .lst es] v from p).uncons
      obtain ⟨v2, vs2, rfl, p2, r2⟩ := r1.uncons
      cases r2.nil_of
      simp only [Rep] at p1 p2
      obtain ⟨a, xs, rfl, e1, q1⟩ := p1
      obtain ⟨b, ys, rfl, e2, q2⟩ := p2
      exact ⟨a, b, xs, ys, rfl, .inl ⟨SqL.of (S1.fh _ _ e1), SqL.of (S1.fh _ _ e2), Rem.here (d := zipL ds es) h1 S1 (yields_zipL e1 q1 e2 q2)⟩⟩
    · rename_i ds es hd
      cases (show d = _ from hd)
      obtain ⟨v1, vs1, rfl, p1, r1⟩ := (show Reps X.K X.mg z1 [.lst ds, .tup es] v from p).uncons
      obtain ⟨v2, vs2, rfl, p2, r2⟩ := r1.uncons
      cases r2.nil_of
      simp only [Rep] at p1 p2
      obtain ⟨a, xs, rfl, e1, q1⟩ := p1
      obtain ⟨b, ys, rfl, e2, q2⟩ := p2
      exact ⟨a, b, xs, ys, rfl, .inr (.inr ⟨SqL.of (S1.fh _ _ e1), same_tup S1.fh e2, Rem.here (d := zipL ds es) h1 S1 (yields_zipM e1 q1 e2 q2)⟩)⟩
    · exact h1.elim
end PD
namespace PD
open PySem PySem.Spec PyProof.Rows L2
open PySem.Sem (wp)
section
variable {prog : Program} {w : World} {A : Around} {E : Value → Shared → Prop} {s : Shared}
theorem len_raw {d : Addr} {es : Array DictEntry} {ep : Nat} {Q : Value → Shared → Prop} (ns : (d == sysModules) = false) (rw_ : s.heap.DictRaw d es ep) (fit : es.size < sizeLine)
    (q : Q (.int es.size (s.toks + 1)) { s with toks := s.toks + 1 + 1 }) : wpAny (model prog w) A (Builtin.«len» ⟨[.ref d], []⟩) (fun fin s' => ∃ r, fin = .done (.ret r) ∧ Q r s') E s := by
  have big : sizeLine < 2 ^ 62 := by decide
  unfold Builtin.«len»
  refine wpAny_bind (m := PySem.oneArg "len" _) (wpAny_pure ?_)
  refine wpAny_bind (m := callSpecial? (.ref d) (Str.ofString "__len__")) (wpAny_callSpecial?_slot (name := Str.ofString "__len__") rw_.typeIs F.slot_dict_len (call_len_raw ns rw_ ?_))
  show wpAny _ _ _ _ _ { s with toks := s.toks + 1 }
  refine wpAny_bind (wpAny_holding (wpAny_pure ?_)); refine wpAny_bind (wpAny_letGo ?_)
  show wpAny _ _ (if ((es.size : Nat) : Int) < 0 then _ else _) _ _ _
  rw [if_neg (Int.not_lt.mpr (Int.natCast_nonneg _))]
  show wpAny _ _ (if ((es.size : Nat) : Int) ≥ 2 ^ 63 then _ else _) _ _ _
  rw [if_neg (by omega)]
  exact wpAny_bind (wpAny_mkInt (wpAny_pure ⟨_, rfl, q⟩))
theorem truth_raw {d : Addr} {es : Array DictEntry} {ep : Nat} {Q : Bool → Shared → Prop} (ns : (d == sysModules) = false) (rw_ : s.heap.DictRaw d es ep) (fit : es.size < sizeLine)
    (q : Q (es.size != 0) { s with toks := s.toks + 1 + 1 }) : wpAny (model prog w) A (truthy (.ref d)) Q E s := by
  have ne : ((es.size : Int) != 0) = (es.size != 0) := by
    cases h : es.size with
    | zero => rfl
    | succ n =>
      have a : ((n + 1 : Nat) : Int) ≠ 0 := by omega
      rw [bne_iff_ne.mpr a, bne_iff_ne.mpr (Nat.succ_ne_zero n)]
  have key : wpAny (model prog w) A (runValue (.builtin "len" ⟨[.ref d], []⟩)) (fun r s' => r = .int es.size (s.toks + 1) ∧ Q (es.size != 0) s') E s := by
    refine wpAny_runValue (codeAny_builtin entry_len ?_)
    rw [Around.under_plainId plain_len _]
    exact wpAny_mono (len_raw (Q := fun r s' => r = .int es.size (s.toks + 1) ∧ Q (es.size != 0) s') ns rw_ fit ⟨rfl, q⟩) (fun _ _ z => by obtain ⟨r, rfl, y⟩ := z; exact y) fun _ _ e => e
  unfold truthy
  first
    | refine wpAny_bind (wpAny_callSpecial?_none (name := Str.ofString "__bool__") rw_.typeIs noBool_dict ?_)
    | refine wpAny_bind (wpAny_pure (wpAny_bind (wpAny_callSpecial?_none (name := Str.ofString "__bool__") rw_.typeIs noBool_dict ?_)))
  first
    | refine wpAny_bind (wpAny_specialOf (name := Str.ofString "__len__") rw_.typeIs F.slot_dict_len.lookup ?_)
    | refine wpAny_bind (wpAny_pure (wpAny_bind (wpAny_specialOf (name := Str.ofString "__len__") rw_.typeIs F.slot_dict_len.lookup ?_)))
  first
    | exact wpAny_bind (wpAny_mono key (fun r s' z => by obtain ⟨rfl, y⟩ := z; exact wpAny_pure (ne ▸ y)) fun _ _ e => e)
    | exact wpAny_bind (wpAny_pure (wpAny_bind (wpAny_mono key (fun r s' z => by obtain ⟨rfl, y⟩ := z; exact wpAny_pure (ne ▸ y)) fun _ _ e => e)))
end
section
variable {X : Cx} {RW : WX}
theorem tru_nd : TruR X (fun x H Q => ∃ (a : Addr) (xs : List (NestedKey × Addr × Value)) (od : Obj), x = .ref a ∧ NDat X.K H a xs od ∧ xs.length < sizeLine ∧ Q (!xs.isEmpty) H) := by
  intro pins s σ H x v Q I rx h
  obtain ⟨a, xs, od, rfl, dat, hl, q⟩ := h
  cases rx
  have g := NDat.get I dat
  obtain ⟨⟨h1, ⟨es, ep, h2, h3⟩, _⟩, _, hns, _⟩ := dat
  have hsz : es.size = xs.length := by
    have := congrArg List.length (h3 X.w)
    rw [List.length_map] at this
    rw [← this]; simp
  refine truth_raw hns ⟨od, g, h1, h2⟩ (by omega) ⟨H, I.tok _, ?_⟩
  have : (es.size != 0) = !xs.isEmpty := by rw [hsz]; cases xs <;> rfl
  rw [this]
  exact q
end
end PD
namespace PD
open PySem PySem.Spec PyProof.Rows L2
theorem ints_alike (ns : List Int) : W.AlikeAll (ns.map PyData.int) := by
  refine ⟨fun x hx y hy => ?_, fun x hx => ?_⟩
  · obtain ⟨i, _, rfl⟩ := List.mem_map.mp hx
    obtain ⟨j, _, rfl⟩ := List.mem_map.mp hy
    simp [W.alike]
  · obtain ⟨i, _, rfl⟩ := List.mem_map.mp hx
    intro e
    cases e
theorem ints_deep : ∀ ns : List Int, PyData.depthAll (ns.map PyData.int) = 0
  | [] => rfl
  | n :: ns => by
    rw [List.map_cons, PyData.depthAll, ints_deep ns]
    rfl
section
variable {X : Cx}
def rMaxT (K : PySem.W.Frag) : List V → Hp → VK → Prop := fun xs H Q => ∃ (a : Addr) (n : Int) (ns : List Int), xs = [.ref a] ∧ SqT K H a ((n :: ns).map V.int) ∧ Q (.int (ns.foldl max n)) H
theorem cr_maxT (hc : X.calm = true) (hu : X.A.units + 65 < cLine) : CallR X (.builtin "max") (rMaxT X.K) := by
  intro pins s σ H xs us Q I r h
  obtain ⟨a, n, ns, rfl, hs, q⟩ := h
  obtain ⟨its, rv, pl, _⟩ := I.tuple hs
  rw [Vals.ref1 r]
  obtain ⟨as, ra⟩ := Dp.readsAll I _ _ _ (ints_dp (n :: ns)) rv
  rw [List.map_cons] at ra
  have al := ints_alike (n :: ns)
  have dp := ints_deep (n :: ns)
  rw [List.map_cons] at al dp
  refine W.max_tuple_data (x := .int n) (xs := ns.map PyData.int) (I.ok.hd hc) pl (by simpa using ra) al (by rw [dp]; omega) fun i v h' tk bs hi rd kp => ?_
  rw [W.maxD_ints] at rd
  cases rd
  exact ⟨.int (ns.foldl max n), H, I.kept (t' := tk) kp, ⟨_, rfl⟩, q⟩
end
end PD
namespace PD
open PySem PySem.Spec PyProof.Rows L2
theorem tuple_mul0 (l : Addr) (items : Array Value) (n : Nat) (dd : Option Addr) (sl : Array (Option Value)) (u : Tok) (ne : (items.isEmpty || (0 : Int) == 1) = false) :
    Meets (Builtin.«tuple.__mul__» ⟨[.ref l, .int 0 u], []⟩) (fun _ R s => s.heap.get? l = some { cls := .type "tuple", dict := dd, data := .seq items n, slots := sl } ∧
      R (.ok (.ret (Value.ref s.heap.objs.size))) { s with heap := s.heap.push { cls := Value.type "tuple", data := Data.seq #[] }, toks := s.toks }) :=
  .of_wp fun prog w A R s h => by
    obtain ⟨hp, g, d, tk, os⟩ := s
    obtain ⟨hl, h⟩ := h
    have f1 := AutoSeq1.idx_int
    wp_walk using wpAny_loadPart' hl
    repeat (first
      | (refine wpAny_ite_false (decide_eq_false (by decide)) ?_; wp_walk using wpAny_loadPart' hl)
      | (refine wpAny_ite_false (decide_eq_false (by rw [ne]; exact Bool.false_ne_true)) ?_; wp_walk using wpAny_loadPart' hl)
      | (refine wpAny_ite_true (decide_eq_true (by rfl)) ?_; wp_walk using wpAny_loadPart' hl))
    exact ⟨_, rfl, h⟩
def rRepT0 (K : PySem.W.Frag) : R2 := fun x y H Q => ∃ l xs, x = .ref l ∧ y = .int 0 ∧ SqT K H l xs ∧ xs ≠ [] ∧ ∀ p, H p = none → Q (.ref p) (upd H p (.tup []))
theorem op_repT0 {X : Cx} : OpR X (binaryOp .Mult) (rRepT0 X.K) := by
  intro pins s σ H x y v u Q I rx ry h
  obtain ⟨l, xs, rfl, rfl, hT, hne, q⟩ := h
  cases rx
  obtain ⟨t, rfl⟩ := ry
  obtain ⟨its, r, ⟨⟨cls, dd, data, sl⟩, ho, hc, n, hd⟩, hs⟩ := I.tuple hT
  simp only at hc hd
  subst hc hd
  have hn : its ≠ [] := fun e => hne (List.eq_nil_of_length_eq_zero (by rw [r.length, e]; rfl))
  have c1 : (its.toArray.isEmpty || (0 : Int) == 1) = false := by
    cases its with
    | nil => exact absurd rfl hn
    | cons a b => rfl
  refine wpAny_binaryOp_repeat_ref (T := "tuple") (U := "int") (by decide) ⟨_, ho, rfl⟩ (fun s' => typeIs_int s' 0 t) noFill_tuple_mul PySem.F.fills_int_mul PySem.F.slot_int_rmul repeat_tuple PySem.F.slot_int_index.lookup
    (call_meets PySem.F.slot_int_rmul (typeIs_int s 0 t) PySem.F.entry_int_rmul (PySem.F.args_int_rmul_2 _ _) (int_rmul_tuple 0 t l its.toArray n dd sl)
      ⟨ho, rfl, ⟨_, ho, rfl⟩, call_meets PySem.F.slot_tuple_mul ⟨_, ho, rfl⟩ PySem.F.entry_tuple_mul (PySem.F.args_tuple_mul_2 _ _) (tuple_mul0 l its.toArray n dd sl t c1) ⟨ho, ?_⟩⟩)
  refine ⟨.ref s.heap.objs.size, _, I.laid (t' := s.toks) (o := .tup []) (fun b ob q => Heap.get?_push_of_some _ q) (Nat.le_refl _) ?_, rfl, q _ (I.hok.fresh (Nat.le_refl _))⟩
  exact ⟨Nat.zero_le _, _, .nil, IsTup.new _ _⟩
def rRepTY (K : PySem.W.Frag) : R2 := fun x y H Q => rRepT0 K x y H Q ∨ rRepTX K x y H Q
theorem op_repTY {X : Cx} : OpR X (binaryOp .Mult) (rRepTY X.K) := op_repT0.or op_repTX
def repTYD : D → D → Res D
  | .tup a, .int k => if 0 < a.length ∧ k = 0 then .ok (.tup []) else repTXD (.tup a) (.int k)
  | _, _ => .bad
theorem repTY_r {X : Cx} : BinR X (rRepTY X.K) repTYD := by
  intro RW B F0 z ow ρ m σ H x y dx dy Q S px py h
  unfold repTYD at h
  split at h
  · split at h
    · rename_i as k hz
      obtain ⟨a, xs, rfl, h1, r1⟩ := look_tup S px
      have hk := look_int py
      refine .inl ⟨a, xs, rfl, by rw [hk, hz.2], h1, fun e => by have := r1.len; have h0 := hz.1; rw [e, List.length_nil] at this; omega, fun p hp => Rem.newTup (ds := []) h S .nil hp⟩
    · exact .inr (repTX_r S px py h)
  · exact h.elim
section
variable {X : Cx} {RW : WX}
def maxTD : D → Res D
  | .tup xs => match ints? xs with
    | some (n :: ns) => .ok (.int (ns.foldl max n))
    | _ => .bad
  | _ => .bad
theorem maxT_r : CbR X (rMaxT X.K) (oneArg maxTD) := by
  intro RW B F0 z ow ρ m σ H vs ds Q S px h
  match ds, h with
  | [], h => exact h.elim
  | _ :: _ :: _, h => exact h.elim
  | [d], h =>
    obtain ⟨v, rfl, p⟩ := looks_one px
    cases d with
    | tup xs =>
      dsimp only [oneArg, maxTD] at h
      cases hn : ints? xs with
      | none => rw [hn] at h; exact h.elim
      | some ns =>
        rw [hn] at h
        cases ints?_eq hn
        cases ns with
        | nil => exact h.elim
        | cons n ns =>
          obtain ⟨a, ys, rfl, e, r⟩ := look_tup S p
          cases r.ints
          exact ⟨a, n, ns, rfl, e, h.here S (rep_int.mpr rfl)⟩
    | _ => exact h.elim
def truN (d : D) : Res Bool := match dctN d with
  | some (ks, _) => if ks.length < sizeLine then .ok (!ks.isEmpty) else .bad
  | none => .bad
def dTruN (da : Den D) : Den Bool := fun ρ m => (da ρ m).bind fun x => (truN x.1).bind fun b => .ok (b, x.2)
theorem pt_truN {e : Expr} {da : Den D} (h : PE X e (tX X.K X.mg RW da (pLook X.K X.mg))) (he : ∀ whole, isTrue e X.env whole = (do let v ← whole; standAt e.pos; holding [v] (truthy v)) := by intro _; rfl) : PT X e (tX X.K X.mg RW (dTruN da) pTest) :=
  PT.imp (pt_truthR h tru_nd he) fun σ H Q q => tX.imp q fun B F0 z ow ρ m S h => Rem.step pTest.pm h fun d m1 B1 z1 ow1 v H1 hB hz S1 p h1 => by
    unfold truN at h1
    dsimp only at h1
    cases hd : dctN d with
    | none => rw [hd] at h1; exact h1.elim
    | some kv =>
      obtain ⟨ks, vs⟩ := kv
      rw [hd] at h1
      dsimp only at h1
      by_cases hl : ks.length < sizeLine
      · rw [if_pos hl] at h1
        obtain ⟨a, xs, od, vx, rfl, g1, g2, rfl, g4, r⟩ := look_dctN S1 hd p
        refine ⟨a, xs, od, rfl, g1, by rw [List.length_map] at hl; exact hl, ?_⟩
        have e : (!(xs.map fun x => nkD x.1).isEmpty) = !xs.isEmpty := by cases xs <;> rfl
        rw [e] at h1
        exact h1.here S1 rfl
      · rw [if_neg hl] at h1
        exact h1.elim
end
end PD
namespace PD
open PySem PySem.Spec PyProof.Rows L2
section
variable {X : Cx}
theorem ps_setDcn {i : Nat} {y : Str} {py : Pos} {kx vx tg iter : Expr} {ifs : List Expr} {scope : Scope} {own : List (Str × Nat)} {pos spos : Pos} {wi : TI} {g : TG} {tt : TT} {tk tv : TE} (hu : X.A.units + 9 < cLine) (hc : X.calm = true) (hNd : X.N.Nodup) (hy : X.N[i]? = some y) (hyl : X.env.scope.names.lookup y = some .local)
    (sw : swapsWith (.DictComp kx vx [⟨tg, iter, ifs, 0⟩] scope pos) (some (.Name y py)) spos.line X.env = pure true) (hi : PI X tg iter wi) (ok : BlkOk X.N X.env.scope scope own)
    (hg : ∀ (s0 : Shared) (G : Hp) (C : Addr) (l : List (Str × Addr)) (fp : List Addr), PG (X.blk s0 G scope (compEnvC scope l C X.env) fp) tg g) (ht : ∀ (s0 : Shared) (G : Hp) (C : Addr) (l : List (Str × Addr)) (fp : List Addr), PTs (X.blk s0 G scope (compEnvC scope l C X.env) fp) ifs tt)
    (hk : ∀ (s0 : Shared) (G : Hp) (C : Addr) (l : List (Str × Addr)) (fp : List Addr), PE (X.blk s0 G scope (compEnvC scope l C X.env) fp) kx tk)
    (hv : ∀ (s0 : Shared) (G : Hp) (C : Addr) (l : List (Str × Addr)) (fp : List Addr), PE (X.blk s0 G scope (compEnvC scope l C X.env) fp) vx tv) (hs : ∀ x, foldedSetIterable iter X.env x = pure x := by intro _; rfl) :
    PS X (.Assign [.Name y py] (.DictComp kx vx [⟨tg, iter, ifs, 0⟩] scope pos) spos) (tAsg (tDcN X.K wi g tt tk tv (own.map (·.2))) (gName i)) := by
  refine ⟨fun pins s σ H D I h => ?_⟩
  rw [exec_Assign_Name_used _ _ _ _ sw]
  refine wpAny_bind (wpAny_standAt (wpAny_bind ?_))
  show wpAny _ X.A (do let _ ← comprehension (.DictComp kx vx [⟨tg, iter, ifs, 0⟩] scope pos) scope X.env (firstIterPos [⟨tg, iter, ifs, 0⟩] pos) newDict false (eval iter X.env) (some (assign (.Name y py) X.env))) _ _ s
  have h : tDcN X.K wi g tt tk tv (own.map (·.2)) σ H (fun x H1 => gName i x σ H1 D.nx) := h
  refine wpAny_bind (thn (dcn_core (Qz := fun _ s' => SP X pins D .next s') hu hc hNd I hi ok hg ht hk hv hs h fun L C s' m G IW q hn f => ?_) fun _ s' qq => wpAny_pure (wpAny_pure qq))
  show wpAny _ _ (assign (.Name y py) X.env (.ref L)) _ _ _
  refine wpAny_assign_Name (store_ok2 (v := V.ref L) IW hNd hy (.inl hyl) rfl (fun s2 I2 ⟨a, sb, ha⟩ => ?_) (.inr hyl))
  obtain ⟨f0, f1, f2, f3, f4, f5⟩ := f
  have ne : C ≠ a := by
    rcases ha with z | z
    · rw [z]; exact f1
    · exact fun e => f4 y a z e.symm
  refine ⟨m, hn.sameBut sb ne, fun h3 sb3 => ?_⟩
  exact ⟨_, G, I2.turned (t' := s2.toks) (fun b o hb e => (sb3.2 b hb).trans e) f0 f1 f3 f4 f5, q⟩
theorem sw_trueD {kx vx : Expr} {gs : List Comprehension} {scope : Scope} {pos py : Pos} {y : Str} {l : Nat} {env : Env} (fk : env.scope.kind = .function) (loc : env.scope.names.lookup y = some .local) (ln : (py.line == pos.line) = true)
    (no : (scope.names.any fun (n, k) => n == y && (k == .local || k == .cell)) = false) : swapsWith (.DictComp kx vx gs scope pos) (some (.Name y py)) l env = pure true := by
  have k1 : env.kindOf y = some .local := loc
  have k2 : env.blockKind = .function := by unfold Env.blockKind; rw [fk]; rfl
  unfold swapsWith
  simp only [k2, k1, no, Expr.pos, ln]
  rfl
end
section
variable {X : Cx} {RW : WX} {kx vx tg iter : Expr} {scope : Scope} {own : List (Str × Nat)} {pos : Pos} {di : Den (List D)} {f : Tg} {dk dv : Den D}
theorem sd_setDcn {vs : List Nat} {i : Nat} {y : Str} {py spos : Pos} (hu : X.A.units + 9 < cLine) (hc : X.calm = true) (hN : X.N.Nodup) (hy : X.N[i]? = some y) (hyl : X.env.scope.names.lookup y = some .local)
    (hsw : swapsWith (.DictComp kx vx [⟨tg, iter, [], 0⟩] scope pos) (some (.Name y py)) spos.line X.env = pure true) (hi : PI X tg iter (tX X.K X.mg RW di (pIt X.K X.mg))) (hv : own.map (·.2) = vs) (ok : BlkOk X.N X.env.scope scope own) (hf : TgOk vs f)
    (hg : ∀ (s : Shared) (H : Hp) (C : Addr) (cl : List (Str × Addr)) (fp : List Addr), PG (X.blk s H scope (compEnvC scope cl C X.env) fp) tg (tG X.K X.mg vs f))
    (hk : ∀ (s : Shared) (H : Hp) (C : Addr) (cl : List (Str × Addr)) (fp : List Addr), PE (X.blk s H scope (compEnvC scope cl C X.env) fp) kx (tX X.K X.mg noRW dk (pVal X.K X.mg)))
    (he : ∀ (s : Shared) (H : Hp) (C : Addr) (cl : List (Str × Addr)) (fp : List Addr), PE (X.blk s H scope (compEnvC scope cl C X.env) fp) vx (tX X.K X.mg noRW dv (pVal X.K X.mg))) (hs : ∀ x, foldedSetIterable iter X.env x = pure x := by intro _; rfl) :
    PS X (.Assign [.Name y py] (.DictComp kx vx [⟨tg, iter, [], 0⟩] scope pos) spos) (tB X.K X.mg RW (setN i (dDcN di vs f dk dv))) := by
  subst hv
  exact PS.imp (ps_setDcn hu hc hN hy hyl hsw hi ok hg (fun _ _ _ _ _ => ptsd_nil) hk he hs) fun D σ H q => dcn_step hf σ H _ (setN_step D σ H q)
end
end PD
namespace PD
open PySem PySem.Spec PyProof.Rows L2
def downV (i : Int) (n : Nat) : List V := (List.range n).map fun k => V.int (i - (k : Nat))
theorem vals_down {i : Int} {n : Nat} {acc : Array Value} (h : ItemsOf (fun k v => ∃ t, v = .int (i + k * (-1)) t) acc n) : Vals (downV i n) acc.toList := by
  have e : acc.toList.length = n := by rw [Array.length_toList]; exact h.1
  unfold downV
  rw [← e]
  refine vals_of_get acc.toList _ fun j u hj => ?_
  obtain ⟨t, rfl⟩ := h.2 j u (by rw [← hj, Array.getElem?_toList])
  exact ⟨t, by rw [show i + (j : Int) * (-1) = i - (j : Int) by omega]⟩
section
variable {X : Cx} {RW : WX}
def tTupDn (ta : TA) : TE := fun σ H Q => ta σ H fun vs H1 => ∃ i j : Int, vs = [.int i, .int j, .int (-1)] ∧ RgOk i j ∧ (i - j).toNat ≤ 2 ^ 24 ∧ ∀ q, H1 q = none → Q (.ref q) (upd H1 q (.tup (downV i (i - j).toNat)))
theorem pe_tupDn {a b c : Expr} {ta : TA} {p p2 pos pos2 : Pos} (calm : X.calm = true) (g1 : Gl X "tuple") (m1 : X.mg "tuple" = none) (g2 : Gl X "range") (m2 : X.mg "range" = none) (ha : PA X [a, b, c] ta)
    (st : starEach [a, b, c] X.env = (false, eval a X.env) :: starEach [b, c] X.env := by rfl) (pl : (backTo pos2 (starEach [b, c] X.env)).any (·.1) = false := by rfl)
    (n1 : starEach [.Call (.Name "range" p2) [a, b, c] [] pos2] X.env = (false, eval (.Call (.Name "range" p2) [a, b, c] [] pos2) X.env) :: starEach [] X.env := by rfl) :
    PE X (.Call (.Name "tuple" p) [.Call (.Name "range" p2) [a, b, c] [] pos2] [] pos) (tTupDn ta) := by
  refine ⟨fun pins s σ H Q I h => ?_⟩
  refine Call_ (ld_blt I g1 m1 boot_tuple (PyProof.Rows.callWith_type1 (args_cons (thn (Q := fun x s' => ∃ (r : Addr) (i j : Int) (t u v : Tok) (H' : Hp), x = .ref r ∧ IsRange s'.heap r i j (-1) t u v ∧ Inv X pins σ H' s' ∧ RgOk i j ∧ (i - j).toNat ≤ 2 ^ 24 ∧ ∀ q, H' q = none → Q (.ref q) (upd H' q (.tup (downV i (i - j).toNat)))) ?_ fun x s1 ⟨r, i, j, t, u, v, H1, ex, hr, I1, ok, le, q⟩ => args_nil ?_) n1) n1))
  · refine Call_ (ld_blt I g2 m2 boot_range (PyProof.Rows.callWith_type1 (thn (ha.run pos2 pins s σ H _ I h) fun us s1 ⟨vs, H1, I1, r1, q1⟩ => ?_) st pl))
    obtain ⟨i, j, e, ok, le, q⟩ := q1
    subst e
    cases r1 with
    | cons r rr =>
      cases rr with
      | cons r' rr =>
        cases rr with
        | cons r'' rr =>
          cases rr
          obtain ⟨t, rfl⟩ := r
          obtain ⟨t', rfl⟩ := r'
          obtain ⟨t'', rfl⟩ := r''
          obtain ⟨b1, b2, b3, b4, _⟩ := ok
          refine call_range_3 (by decide) ?_ (.inl (PyProof.noPylong_small (RgC.neg b1 b2 b3 b4).2.1))
          exact ⟨_, i, j, t, t', t'', H1, rfl, IsRange.new _ _ _ _ _ _ _, I1.kept (t' := s1.toks) fun b o e => Heap.get?_push_of_some _ e, ⟨b1, b2, b3, b4, by assumption⟩, le, q⟩
  · subst ex
    obtain ⟨b1, b2, b3, b4, b5⟩ := ok
    refine call_tuple_range (n := (i - j).toNat) (I1.ok.hd calm) hr (PySem.W.small_down b1 b2 b3 b4) (PySem.W.rangeSize_downNat i j) le fun h' tk acc hk hi => ?_
    have I2 : Inv X pins σ H1 { s1 with heap := h', toks := tk } := I1.kept hk
    refine ⟨.ref h'.objs.size, upd H1 h'.objs.size (.tup (downV i (i - j).toNat)), I2.laid (t' := tk) (fun c o e => Heap.get?_push_of_some _ e) (Nat.le_refl _) (show ObjOk X.prog X.w _ _ _ (.tup (downV i (i - j).toNat)) from ⟨?_, acc.toList, vals_down hi, ?_⟩), rfl, q _ (I2.hok.fresh (Nat.le_refl _))⟩
    · unfold downV; rw [List.length_map, List.length_range, sizeLine_eq]; omega
    · rw [Array.toArray_toList]; exact IsTup.new _ _
def downD (i : Int) (n : Nat) : List D := (List.range n).map fun k => D.int (i - (k : Nat))
def rgDn : List D → Res D
  | [.int i, .int j, .int c] => if c = -1 ∧ -1000 ≤ i ∧ i ≤ 1000 ∧ -1000 ≤ j ∧ j ≤ 1000 then .ok (.tup (downD i (i - j).toNat)) else .bad
  | _ => .bad
theorem reps_down {K : PySem.W.Frag} {mg : Str → Option Value} {z : Fz} (i : Int) : ∀ (ks : List Nat), Reps K mg z (ks.map fun k => D.int (i - (k : Nat))) (ks.map fun k => V.int (i - (k : Nat)))
  | [] => .nil
  | k :: ks => .cons (rep_int.mpr rfl) (reps_down i ks)
theorem pd_tupDn {a b c : Expr} {da : Den (List D)} {p p2 pos pos2 : Pos} (calm : X.calm = true) (g1 : Gl X "tuple") (m1 : X.mg "tuple" = none) (g2 : Gl X "range") (m2 : X.mg "range" = none) (ha : PA X [a, b, c] (tX X.K X.mg RW da (pLooks X.K X.mg)))
    (st : starEach [a, b, c] X.env = (false, eval a X.env) :: starEach [b, c] X.env := by rfl) (pl : (backTo pos2 (starEach [b, c] X.env)).any (·.1) = false := by rfl)
    (n1 : starEach [.Call (.Name "range" p2) [a, b, c] [] pos2] X.env = (false, eval (.Call (.Name "range" p2) [a, b, c] [] pos2) X.env) :: starEach [] X.env := by rfl) :
    PE X (.Call (.Name "tuple" p) [.Call (.Name "range" p2) [a, b, c] [] pos2] [] pos) (tX X.K X.mg RW (dCB rgDn da) (pVal X.K X.mg)) :=
  PE.imp (pe_tupDn calm g1 m1 g2 m2 ha st pl n1) fun σ H Q q => tX.imp q fun B F0 z ow ρ m S h => Rem.step pVal.pm h fun xs m1 B1 z1 ow1 vs H1 hB hz S1 px h1 => by
    unfold rgDn at h1
    dsimp only at h1
    split at h1
    · rename_i i j c
      by_cases hc : c = -1 ∧ -1000 ≤ i ∧ i ≤ 1000 ∧ -1000 ≤ j ∧ j ≤ 1000
      · rw [if_pos hc] at h1
        obtain ⟨rfl, c1, c2, c3, c4⟩ := hc
        obtain ⟨hl, px⟩ := (show pLooks X.K X.mg B B1 z1 ρ σ [.int i, .int j, .int (-1)] vs from px)
        match vs, hl with
        | [v1, v2, v3], _ =>
          have e1 := look_int (px 0 _ v1 rfl rfl)
          have e2 := look_int (px 1 _ v2 rfl rfl)
          have e3 := look_int (px 2 _ v3 rfl rfl)
          exact ⟨i, j, by rw [e1, e2, e3], ⟨by omega, by omega, by omega, by omega, by omega⟩, by omega, fun q hq => Rem.newTup (ds := downD i (i - j).toNat) h1 S1 (reps_down i (List.range (i - j).toNat)) hq⟩
      · rw [if_neg hc] at h1
        exact h1.elim
    · exact h1.elim
end
end PD
namespace PD
open PySem PySem.Spec PyProof.Rows L2
section
variable {α β γ : Type} {o : Option α}
theorem both_map {f : α → β} {g : α → γ} {a : β} {b : γ} (h1 : o.map f = some a) (h2 : o.map g = some b) : o.map (fun s => (f s, g s)) = some (a, b) := by
  cases o with
  | none => cases h1
  | some s =>
    have e1 : f s = a := Option.some.inj h1
    have e2 : g s = b := Option.some.inj h2
    show some (f s, g s) = _
    rw [e1, e2]
theorem defs_app {k : α → PySem.W.Frag} {l1 l2 : List He5.DefA} (h1 : o.map (fun s => (l1.all fun d => d.ok (k s), l1.map fun d => He5.fnA (k s) (d.at_ (k s)))) = some (true, l1.map He5.DefA.val)) (h2 : o.map (fun s => (l2.all fun d => d.ok (k s), l2.map fun d => He5.fnA (k s) (d.at_ (k s)))) = some (true, l2.map He5.DefA.val)) :
    o.map (fun s => ((l1 ++ l2).all fun d => d.ok (k s), (l1 ++ l2).map fun d => He5.fnA (k s) (d.at_ (k s)))) = some (true, (l1 ++ l2).map He5.DefA.val) := by
  cases o with
  | none => cases h1
  | some s =>
    have e1 := Option.some.inj h1
    have e2 := Option.some.inj h2
    injection e1 with a1 a2
    injection e2 with b1 b2
    show some ((l1 ++ l2).all fun d => d.ok (k s), (l1 ++ l2).map fun d => He5.fnA (k s) (d.at_ (k s))) = _
    rw [List.all_append, List.map_append, List.map_append, a1, a2, b1, b2]
    rfl
end
end PD
namespace PD
open PySem PySem.Spec PyProof.Rows L2
theorem hu3 {A : Around} {k : Nat} (hr : Room k A) : A.units + 3 < cLine := by have := hr.un; omega
end PD
namespace PD
end PD
namespace PD
open PySem PySem.Spec PyProof.Rows L2
def obsPTl (as : List Addr) (fb : List Fb) (fn : List He5.DefA) (xs : List Str) (g : Addr → Option Obj) : AlPT := (obsP fb fn (He.frT g as), tabsB g xs (He.frT g as))
theorem saysPTl_of {as : List Addr} {fb : List Fb} {fn : List He5.DefA} {xs : List Str} {h : Heap} (e : obsPTl as fb fn xs h.get? = (valP fn, true)) : SaysPTs fb fn xs h (He.frT h.get? as) := by
  have e1 : obsP fb fn (He.frT h.get? as) = valP fn := congrArg (fun y : AlPT => y.1) e
  have e2 : tabsB h.get? xs (He.frT h.get? as) = true := congrArg (fun y : AlPT => y.2) e
  obtain ⟨h2, h3⟩ := He.ba e2
  have each : ∀ x ∈ xs, PySem.W.codeHdIn (He.frT h.get? as) (He.cT (He.frT h.get? as) (x, none)).1 (He.cT (He.frT h.get? as) (x, none)).2 = true ∧ (He.frT h.get? as).lookup (He.cT (He.frT h.get? as) (x, none)).2 = none ∧ h.get? (He.cT (He.frT h.get? as) (x, none)).2 = some { cls := .none, data := .fields #[] } := fun x hx => by
    obtain ⟨h4, h5⟩ := He.ba (List.all_eq_true.mp h3 x hx)
    cases q : h.get? (He.cT (He.frT h.get? as) (x, none)).2 with
    | none => rw [q] at h5; cases h5
    | some o =>
      rw [q] at h5
      exact ⟨h4, He.frT_none q h5, by rw [He.emptyTab_eq h5]⟩
  exact ⟨e1, of_decide_eq_true h2, fun x hx => (each x hx).1, fun x hx => (each x hx).2.1, fun x hx => (each x hx).2.2⟩
def hookPTl (as : List Addr) (fb : List Fb) (fn : List He5.DefA) (xs : List Str) : PySem.W.Hook where
  α := AlPT
  obs := fun s => obsPTl as fb fn xs s.heap.get?
  val := fun _ => (valP fn, true)
  says := fun _ h => ∃ K : PySem.W.Frag, K.In h ∧ SaysPTs fb fn xs h K
  of := fun _ _ e => ⟨_, He.frT_in, saysPTl_of e⟩
  keeps := fun _ _ _ ⟨K, hK, c⟩ k => ⟨K, PySem.W.Frag.In.keeps hK k, ⟨c.p, c.nd, c.hd, c.out, fun x hx => k _ _ (c.empty x hx)⟩⟩
theorem obsPTl_eq {as : List Addr} {fb : List Fb} {fn : List He5.DefA} {xs : List Str} {g : Addr → Option Obj} {s : Shared} (h : ∀ a, g a = s.heap.get? a) : obsPTl as fb fn xs g = (hookPTl as fb fn xs).obs s := by
  have e : g = s.heap.get? := funext h
  rw [e] <;> rfl
section
variable {α β γ : Type} {o : Option α}
theorem obs_ofl {g : α → Addr → Option Obj} {as : List Addr} {fa : List Fb} {fn : List He5.DefA} {xs : List Str} (h1 : o.map (fun s => fa.all fun f => f (He.frT (g s) as)) = some true)
    (h2 : o.map (fun s => (fn.all fun d => d.ok (He.frT (g s) as), fn.map fun d => He5.fnA (He.frT (g s) as) (d.at_ (He.frT (g s) as)))) = some (true, fn.map He5.DefA.val))
    (h3 : o.map (fun s => tabsB (g s) xs (He.frT (g s) as)) = some true) : o.map (fun s => obsPTl as fa fn xs (g s)) = some (valP fn, true) := by
  cases o with
  | none => cases h1
  | some s =>
    have e1 : (fa.all fun f => f (He.frT (g s) as)) = true := Option.some.inj h1
    have e2 := Option.some.inj h2
    have e3 : tabsB (g s) xs (He.frT (g s) as) = true := Option.some.inj h3
    injection e2 with a1 a2
    show some (obsPTl as fa fn xs (g s)) = _
    unfold obsPTl obsP valP
    rw [e1, a1, a2, e3]
    rfl
end
end PD
namespace PD
theorem split4 {α β γ δ ε : Type} {o : Option α} {f : α → β} {g : α → γ} {k : α → δ} {l : α → ε} {a : β} {b : γ} {c : δ} {d : ε} (h : o.map (fun s => (f s, g s, k s, l s)) = some (a, b, c, d)) : o.map f = some a ∧ o.map g = some b ∧ o.map k = some c ∧ o.map l = some d := by
  cases o with
  | none => cases h
  | some s =>
    have e := Option.some.inj h
    injection e with e1 e2
    injection e2 with e2 e3
    injection e3 with e3 e4
    exact ⟨congrArg some e1, congrArg some e2, congrArg some e3, congrArg some e4⟩
end PD
namespace L_k13
open PySem PySem.Spec PyProof.Rows L2 PD
def top (i : Nat) : Stmt := PySem.Challenge.pw_pullouts_k13_known_rows.main.body.getD i (.Pass ⟨0, 0, 0, 0⟩)
abbrev As : List Str := ["BadGroups", "BadRow", "BadPulls", "BadTracks", "BadNumber", "BadPlan", "TooMany", "TooLarge", "NoPlan", "BadPulled", "BadTrain", "BadPlaces", "BadTrack", "Busy", "Empty", "InvalidText"]
abbrev Bs : List Str := ["InvalidText", "Empty"]
structure Txt (K : PySem.W.Frag) (mg : Str → Option Value) (base : Heap) : Prop where
  tab_lengths_of : TabK K mg base "lengths_of"
  tab_cheapest : TabK K mg base "cheapest"
  b_max : mg "max" = none
  b_int : mg "int" = none
  b_len : mg "len" = none
  b_isinstance : mg "isinstance" = none
  b_bool : mg "bool" = none
  b_tuple : mg "tuple" = none
  b_sorted : mg "sorted" = none
  b_set : mg "set" = none
  b_enumerate : mg "enumerate" = none
  b_min : mg "min" = none
  b_range : mg "range" = none
  b_sum : mg "sum" = none
  b_list : mg "list" = none
  b_zip : mg "zip" = none
  b_dict : mg "dict" = none
  b_str : mg "str" = none
  g_MOST_WAGONS : ∃ t, mg "MOST_WAGONS" = some (.int 12 t)
  g_MOST_GROUP : ∃ t, mg "MOST_GROUP" = some (.int 11 t)
  g_MOST_PULLS : ∃ t, mg "MOST_PULLS" = some (.int 11 t)
  g_MOST_TRACKS : ∃ t, mg "MOST_TRACKS" = some (.int 4 t)
  g_MOST_REACH : ∃ t, mg "MOST_REACH" = some (.int 200 t)
  g_MOST_NUMBER : ∃ t, mg "MOST_NUMBER" = some (.int 1000000000000000000000000000000 t)
  g_MOST_PLANS : ∃ t, mg "MOST_PLANS" = some (.int 60 t)
  g_MOST_SHORT_PULLS : ∃ t, mg "MOST_SHORT_PULLS" = some (.int 3 t)
  g_MOST_SHORT_WAGONS : ∃ t, mg "MOST_SHORT_WAGONS" = some (.int 8 t)
  gt_FIRST : GTup K mg "FIRST" [0, -1]
  e_BadGroups : ExcK K mg "BadGroups"
  e_BadRow : ExcK K mg "BadRow"
  e_BadPulls : ExcK K mg "BadPulls"
  e_BadTracks : ExcK K mg "BadTracks"
  e_BadNumber : ExcK K mg "BadNumber"
  e_BadPlan : ExcK K mg "BadPlan"
  e_BadPulled : ExcK K mg "BadPulled"
  e_BadTrain : ExcK K mg "BadTrain"
  e_TooMany : ExcK K mg "TooMany"
  e_NoPlan : ExcK K mg "NoPlan"
  e_TooLarge : ExcK K mg "TooLarge"
  e_BadPlaces : ExcK K mg "BadPlaces"
  e_BadTrack : ExcK K mg "BadTrack"
  e_Busy : ExcK K mg "Busy"
  e_Empty : ExcK K mg "Empty"
  x_InvalidText : ExL K mg "InvalidText"
  fi_InvalidText : ∃ fd, FunD K "__init__" "InvalidText.__init__" (defArgs (inClass (top 18) 0)) (defBody (inClass (top 18) 0)) (defScope (inClass (top 18) 0)) [] [] (iAd K "InvalidText") fd ∧ Binds K fd ["self", "line", "word"] []
  err : ErrK K mg As Bs
  f_wall : ∃ a fd, FunD K "_wall" "_wall" (defArgs (top 0)) (defBody (top 0)) (defScope (top 0)) [] [] a fd ∧ mg "_wall" = some (.ref a) ∧ Binds K fd ["k"] []
  f_is_integer : ∃ a fd, FunD K "is_integer" "is_integer" (defArgs (top 22)) (defBody (top 22)) (defScope (top 22)) [] [] a fd ∧ mg "is_integer" = some (.ref a) ∧ Binds K fd ["value"] []
  f_is_from : ∃ a fd, FunD K "is_from" "is_from" (defArgs (top 23)) (defBody (top 23)) (defScope (top 23)) [] [] a fd ∧ mg "is_from" = some (.ref a) ∧ Binds K fd ["value", "low", "high"] []
  f_check_row : ∃ a fd, FunD K "check_row" "check_row" (defArgs (top 25)) (defBody (top 25)) (defScope (top 25)) [] [] a fd ∧ mg "check_row" = some (.ref a) ∧ Binds K fd ["value"] []
  f_classes : ∃ a fd, FunD K "classes" "classes" (defArgs (top 26)) (defBody (top 26)) (defScope (top 26)) [] [] a fd ∧ mg "classes" = some (.ref a) ∧ Binds K fd ["groups"] []
  f_fault_of : ∃ a fd, FunD K "fault_of" "fault_of" (defArgs (top 27)) (defBody (top 27)) (defScope (top 27)) [] [] a fd ∧ mg "fault_of" = some (.ref a) ∧ Binds K fd ["groups", "wagons"] []
  f_check_pulls : ∃ a fd, FunD K "check_pulls" "check_pulls" (defArgs (top 33)) (defBody (top 33)) (defScope (top 33)) [] [] a fd ∧ mg "check_pulls" = some (.ref a) ∧ Binds K fd ["value"] []
  f_check_tracks : ∃ a fd, FunD K "check_tracks" "check_tracks" (defArgs (top 34)) (defBody (top 34)) (defScope (top 34)) [] [] a fd ∧ mg "check_tracks" = some (.ref a) ∧ Binds K fd ["value"] []
  f_stops_of : ∃ a fd, FunD K "stops_of" "stops_of" (defArgs (top 35)) (defBody (top 35)) (defScope (top 35)) [] [] a fd ∧ mg "stops_of" = some (.ref a) ∧ Binds K fd ["code"] []
  f_is_allowed : ∃ a fd, FunD K "is_allowed" "is_allowed" (defArgs (top 36)) (defBody (top 36)) (defScope (top 36)) [] [] a fd ∧ mg "is_allowed" = some (.ref a) ∧ Binds K fd ["code", "tracks"] []
  f_allowed_codes : ∃ a fd, FunD K "allowed_codes" "allowed_codes" (defArgs (top 37)) (defBody (top 37)) (defScope (top 37)) [] [] a fd ∧ mg "allowed_codes" = some (.ref a) ∧ Binds K fd ["h", "tracks"] []
  f_allowed : ∃ a fd, FunD K "allowed" "allowed" (defArgs (top 38)) (defBody (top 38)) (defScope (top 38)) [] [] a fd ∧ mg "allowed" = some (.ref a) ∧ Binds K fd ["h", "tracks"] []
  f_longer_ends : ∃ a fd, FunD K "longer_ends" "longer_ends" (defArgs (top 39)) (defBody (top 39)) (defScope (top 39)) [] [] a fd ∧ mg "longer_ends" = some (.ref a) ∧ Binds K fd ["ends", "tracks"] []
  f_reach : ∃ a fd, FunD K "reach" "reach" (defArgs (top 40)) (defBody (top 40)) (defScope (top 40)) [] [] a fd ∧ mg "reach" = some (.ref a) ∧ Binds K fd ["h", "tracks"] []
  f_for_any : ∃ a fd, FunD K "for_any" "for_any" (defArgs (top 41)) (defBody (top 41)) (defScope (top 41)) [] [] a fd ∧ mg "for_any" = some (.ref a) ∧ Binds K fd ["n", "tracks"] []
  f_levels : ∃ a fd, FunD K "levels" "levels" (defArgs (top 43)) (defBody (top 43)) (defScope (top 43)) [] [] a fd ∧ mg "levels" = some (.ref a) ∧ Binds K fd ["groups"] []
  f_pairs_of : ∃ a fd, FunD K "pairs_of" "pairs_of" (defArgs (top 44)) (defBody (top 44)) (defScope (top 44)) [] [] a fd ∧ mg "pairs_of" = some (.ref a) ∧ Binds K fd ["groups"] []
  f_follows : ∃ a fd, FunD K "follows" "follows" (defArgs (top 45)) (defBody (top 45)) (defScope (top 45)) [] [] a fd ∧ mg "follows" = some (.ref a) ∧ Binds K fd ["groups", "one", "other"] []
  f_lengths_of : ∃ a fd, FunD K "lengths_of" "lengths_of" (defArgs (top 46)) (defBody (top 46)) (defScope (top 46)) [] [] a fd ∧ mg "lengths_of" = some (.ref a) ∧ Binds K fd ["groups"] []
  f_chain : ∃ a fd, FunD K "chain" "chain" (defArgs (top 47)) (defBody (top 47)) (defScope (top 47)) [] [] a fd ∧ mg "chain" = some (.ref a) ∧ Binds K fd ["row"] []
  f_needed : ∃ a fd, FunD K "needed" "needed" (defArgs (top 48)) (defBody (top 48)) (defScope (top 48)) [] [] a fd ∧ mg "needed" = some (.ref a) ∧ Binds K fd ["row"] []
  f_least_pulls : ∃ a fd, FunD K "least_pulls" "least_pulls" (defArgs (top 49)) (defBody (top 49)) (defScope (top 49)) [] [] a fd ∧ mg "least_pulls" = some (.ref a) ∧ Binds K fd ["groups", "tracks"] []
  f_least : ∃ a fd, FunD K "least" "least" (defArgs (top 50)) (defBody (top 50)) (defScope (top 50)) [] [] a fd ∧ mg "least" = some (.ref a) ∧ Binds K fd ["row", "tracks"] []
  f_plan : ∃ a fd, FunD K "plan" "plan" (defArgs (top 51)) (defBody (top 51)) (defScope (top 51)) [] [] a fd ∧ mg "plan" = some (.ref a) ∧ Binds K fd ["row", "tracks"] []
  f_check_all : ∃ a fd, FunD K "check_all" "check_all" (defArgs (top 53)) (defBody (top 53)) (defScope (top 53)) [] [] a fd ∧ mg "check_all" = some (.ref a) ∧ Binds K fd ["row", "h", "tracks"] []
  f_check_plan : ∃ a fd, FunD K "check_plan" "check_plan" (defArgs (top 54)) (defBody (top 54)) (defScope (top 54)) [] [] a fd ∧ mg "check_plan" = some (.ref a) ∧ Binds K fd ["row", "h", "tracks", "plan"] []
  f_roll : ∃ a fd, FunD K "roll" "roll" (defArgs (top 55)) (defBody (top 55)) (defScope (top 55)) [] [] a fd ∧ mg "roll" = some (.ref a) ∧ Binds K fd ["wagons", "plan", "stop", "standing", "train"] []
  f_run_by : ∃ a fd, FunD K "run_by" "run_by" (defArgs (top 56)) (defBody (top 56)) (defScope (top 56)) [] [] a fd ∧ mg "run_by" = some (.ref a) ∧ Binds K fd ["wagons", "h", "plan"] []
  f_run : ∃ a fd, FunD K "run" "run" (defArgs (top 57)) (defBody (top 57)) (defScope (top 57)) [] [] a fd ∧ mg "run" = some (.ref a) ∧ Binds K fd ["row", "h", "tracks", "plan"] []
  f_judge : ∃ a fd, FunD K "judge" "judge" (defArgs (top 58)) (defBody (top 58)) (defScope (top 58)) [] [] a fd ∧ mg "judge" = some (.ref a) ∧ Binds K fd ["row", "h", "tracks", "plan"] []
  f_are_names : ∃ a fd, FunD K "are_names" "are_names" (defArgs (top 60)) (defBody (top 60)) (defScope (top 60)) [] [] a fd ∧ mg "are_names" = some (.ref a) ∧ Binds K fd ["value"] []
  f_check_told : ∃ a fd, FunD K "check_told" "check_told" (defArgs (top 61)) (defBody (top 61)) (defScope (top 61)) [] [] a fd ∧ mg "check_told" = some (.ref a) ∧ Binds K fd ["tracks", "pulled", "train"] []
  f_plan_of : ∃ a fd, FunD K "plan_of" "plan_of" (defArgs (top 62)) (defBody (top 62)) (defScope (top 62)) [] [] a fd ∧ mg "plan_of" = some (.ref a) ∧ Binds K fd ["pulled", "train"] []
  f_rows_at : ∃ a fd, FunD K "rows_at" "rows_at" (defArgs (top 63)) (defBody (top 63)) (defScope (top 63)) [] [] a fd ∧ mg "rows_at" = some (.ref a) ∧ Binds K fd ["plan", "pulled", "train"] []
  f_merged : ∃ a fd, FunD K "merged" "merged" (defArgs (top 64)) (defBody (top 64)) (defScope (top 64)) [] [] a fd ∧ mg "merged" = some (.ref a) ∧ Binds K fd ["rows"] []
  f_is_possible : ∃ a fd, FunD K "is_possible" "is_possible" (defArgs (top 65)) (defBody (top 65)) (defScope (top 65)) [] [] a fd ∧ mg "is_possible" = some (.ref a) ∧ Binds K fd ["tracks", "pulled", "train"] []
  f_orders_of : ∃ a fd, FunD K "orders_of" "orders_of" (defArgs (top 66)) (defBody (top 66)) (defScope (top 66)) [] [] a fd ∧ mg "orders_of" = some (.ref a) ∧ Binds K fd ["rows"] []
  f_orders_back : ∃ a fd, FunD K "orders_back" "orders_back" (defArgs (top 67)) (defBody (top 67)) (defScope (top 67)) [] [] a fd ∧ mg "orders_back" = some (.ref a) ∧ Binds K fd ["tracks", "pulled", "train"] []
  f_order_back : ∃ a fd, FunD K "order_back" "order_back" (defArgs (top 68)) (defBody (top 68)) (defScope (top 68)) [] [] a fd ∧ mg "order_back" = some (.ref a) ∧ Binds K fd ["tracks", "pulled", "train"] []
  f_least_places : ∃ a fd, FunD K "least_places" "least_places" (defArgs (top 74)) (defBody (top 74)) (defScope (top 74)) [] [] a fd ∧ mg "least_places" = some (.ref a) ∧ Binds K fd ["wagons", "standing"] []
  f_ranges_for : ∃ a fd, FunD K "ranges_for" "ranges_for" (defArgs (top 75)) (defBody (top 75)) (defScope (top 75)) [] [] a fd ∧ mg "ranges_for" = some (.ref a) ∧ Binds K fd ["wagons", "lows", "top", "keeper"] []
  f_ways_on : ∃ a fd, FunD K "ways_on" "ways_on" (defArgs (top 76)) (defBody (top 76)) (defScope (top 76)) [] [] a fd ∧ mg "ways_on" = some (.ref a) ∧ Binds K fd ["wagons", "standing", "many"] []
  f_counts_of : ∃ a fd, FunD K "counts_of" "counts_of" (defArgs (top 77)) (defBody (top 77)) (defScope (top 77)) [] [] a fd ∧ mg "counts_of" = some (.ref a) ∧ Binds K fd ["groups", "many"] []
  f_count_plans : ∃ a fd, FunD K "count_plans" "count_plans" (defArgs (top 78)) (defBody (top 78)) (defScope (top 78)) [] [] a fd ∧ mg "count_plans" = some (.ref a) ∧ Binds K fd ["groups", "many"] []
  f_many : ∃ a fd, FunD K "many" "many" (defArgs (top 79)) (defBody (top 79)) (defScope (top 79)) [] [] a fd ∧ mg "many" = some (.ref a) ∧ Binds K fd ["row", "h", "tracks"] []
  f_spread : ∃ a fd, FunD K "spread" "spread" (defArgs (top 80)) (defBody (top 80)) (defScope (top 80)) [] [] a fd ∧ mg "spread" = some (.ref a) ∧ Binds K fd ["spans"] []
  f_part_plans : ∃ a fd, FunD K "part_plans" "part_plans" (defArgs (top 81)) (defBody (top 81)) (defScope (top 81)) [] [] a fd ∧ mg "part_plans" = some (.ref a) ∧ Binds K fd ["groups", "codes"] []
  f_can_go_on : ∃ a fd, FunD K "can_go_on" "can_go_on" (defArgs (top 82)) (defBody (top 82)) (defScope (top 82)) [] [] a fd ∧ mg "can_go_on" = some (.ref a) ∧ Binds K fd ["left", "standing", "many"] []
  f_plans : ∃ a fd, FunD K "plans" "plans" (defArgs (top 83)) (defBody (top 83)) (defScope (top 83)) [] [] a fd ∧ mg "plans" = some (.ref a) ∧ Binds K fd ["row", "h", "tracks"] []
  f_cheapest : ∃ a fd, FunD K "cheapest" "cheapest" (defArgs (top 84)) (defBody (top 84)) (defScope (top 84)) [] [] a fd ∧ mg "cheapest" = some (.ref a) ∧ Binds K fd ["codes", "span"] []
  f_light_plans : ∃ a fd, FunD K "light_plans" "light_plans" (defArgs (top 85)) (defBody (top 85)) (defScope (top 85)) [] [] a fd ∧ mg "light_plans" = some (.ref a) ∧ Binds K fd ["groups", "codes"] []
  f_lightest_of : ∃ a fd, FunD K "lightest_of" "lightest_of" (defArgs (top 86)) (defBody (top 86)) (defScope (top 86)) [] [] a fd ∧ mg "lightest_of" = some (.ref a) ∧ Binds K fd ["row", "h", "tracks"] []
  f_least_pushes : ∃ a fd, FunD K "least_pushes" "least_pushes" (defArgs (top 87)) (defBody (top 87)) (defScope (top 87)) [] [] a fd ∧ mg "least_pushes" = some (.ref a) ∧ Binds K fd ["row", "h", "tracks"] []
  f_lightest : ∃ a fd, FunD K "lightest" "lightest" (defArgs (top 88)) (defBody (top 88)) (defScope (top 88)) [] [] a fd ∧ mg "lightest" = some (.ref a) ∧ Binds K fd ["row", "h", "tracks"] []
  f_with_wagon : ∃ a fd, FunD K "with_wagon" "with_wagon" (defArgs (top 89)) (defBody (top 89)) (defScope (top 89)) [] [] a fd ∧ mg "with_wagon" = some (.ref a) ∧ Binds K fd ["state", "wagon", "place", "code"] []
  f_loads_of : ∃ a fd, FunD K "loads_of" "loads_of" (defArgs (top 90)) (defBody (top 90)) (defScope (top 90)) [] [] a fd ∧ mg "loads_of" = some (.ref a) ∧ Binds K fd ["groups", "codes", "h"] []
  f_shortest : ∃ a fd, FunD K "shortest" "shortest" (defArgs (top 91)) (defBody (top 91)) (defScope (top 91)) [] [] a fd ∧ mg "shortest" = some (.ref a) ∧ Binds K fd ["row", "h", "tracks"] []
  f_write_plan : ∃ a fd, FunD K "write_plan" "write_plan" (defArgs (top 93)) (defBody (top 93)) (defScope (top 93)) [] [] a fd ∧ mg "write_plan" = some (.ref a) ∧ Binds K fd ["row", "h", "tracks", "plan"] []
  f_number_at : ∃ a fd, FunD K "number_at" "number_at" (defArgs (top 94)) (defBody (top 94)) (defScope (top 94)) [] [] a fd ∧ mg "number_at" = some (.ref a) ∧ Binds K fd ["words", "line", "place", "low", "high"] []
  f_check_name : ∃ a fd, FunD K "check_name" "check_name" (defArgs (top 95)) (defBody (top 95)) (defScope (top 95)) [] [] a fd ∧ mg "check_name" = some (.ref a) ∧ Binds K fd ["words", "place", "name"] []
  f_read_wagon : ∃ a fd, FunD K "read_wagon" "read_wagon" (defArgs (top 96)) (defBody (top 96)) (defScope (top 96)) [] [] a fd ∧ mg "read_wagon" = some (.ref a) ∧ Binds K fd ["words", "line", "h", "tracks"] []
  f_read_plan : ∃ a fd, FunD K "read_plan" "read_plan" (defArgs (top 97)) (defBody (top 97)) (defScope (top 97)) [] [] a fd ∧ mg "read_plan" = some (.ref a) ∧ Binds K fd ["text"] []
  f_law_mix : ∃ a fd, FunD K "_law_mix" "_law_mix" (defArgs (top 101)) (defBody (top 101)) (defScope (top 101)) [] [] a fd ∧ mg "_law_mix" = some (.ref a) ∧ Binds K fd ["_law_script", "_law_seed"] []
  f_law_next : ∃ a fd, FunD K "_law_next" "_law_next" (defArgs (top 102)) (defBody (top 102)) (defScope (top 102)) [] [] a fd ∧ mg "_law_next" = some (.ref a) ∧ Binds K fd ["_law_h", "_law_bound"] []
  f_law_codes : ∃ a fd, FunD K "_law_codes" "_law_codes" (defArgs (top 103)) (defBody (top 103)) (defScope (top 103)) [] [] a fd ∧ mg "_law_codes" = some (.ref a) ∧ Binds K fd [] []
  f_law_runs : ∃ a fd, FunD K "_law_runs" "_law_runs" (defArgs (top 104)) (defBody (top 104)) (defScope (top 104)) [] [] a fd ∧ mg "_law_runs" = some (.ref a) ∧ Binds K fd [] []
  f_law_leasts : ∃ a fd, FunD K "_law_leasts" "_law_leasts" (defArgs (top 105)) (defBody (top 105)) (defScope (top 105)) [] [] a fd ∧ mg "_law_leasts" = some (.ref a) ∧ Binds K fd [] []
  f_law_plans : ∃ a fd, FunD K "_law_plans" "_law_plans" (defArgs (top 106)) (defBody (top 106)) (defScope (top 106)) [] [] a fd ∧ mg "_law_plans" = some (.ref a) ∧ Binds K fd [] []
  f_law_back : ∃ a fd, FunD K "_law_back" "_law_back" (defArgs (top 107)) (defBody (top 107)) (defScope (top 107)) [] [] a fd ∧ mg "_law_back" = some (.ref a) ∧ Binds K fd [] []
  f_law_yard : ∃ a fd, FunD K "_law_yard" "_law_yard" (defArgs (top 108)) (defBody (top 108)) (defScope (top 108)) [] [] a fd ∧ mg "_law_yard" = some (.ref a) ∧ Binds K fd [] []
  f_law : ∃ a fd, FunD K "law" "law" (defArgs (top 109)) (defBody (top 109)) (defScope (top 109)) [] [] a fd ∧ mg "law" = some (.ref a) ∧ Binds K fd ["_law_script"] []
  f_Row___init__ : ∃ fd, FunD K "__init__" "Row.__init__" (defArgs (inClass (top 24) 0)) (defBody (inClass (top 24) 0)) (defScope (inClass (top 24) 0)) [] [] (He.ma K (cA K "Row") "__init__") fd ∧ Binds K fd ["self", "groups"] []
  f_Row_groups : ∃ fd, FunD K "groups" "Row.groups" (defArgs (inClass (top 24) 1)) (defBody (inClass (top 24) 1)) (defScope (inClass (top 24) 1)) [] [] (gAd K "Row" "groups") fd ∧ Binds K fd ["self"] []
  f_Row___len__ : ∃ fd, FunD K "__len__" "Row.__len__" (defArgs (inClass (top 24) 2)) (defBody (inClass (top 24) 2)) (defScope (inClass (top 24) 2)) [] [] (He.ma K (cA K "Row") "__len__") fd ∧ Binds K fd ["self"] []
  f_Row___eq__ : ∃ fd, FunD K "__eq__" "Row.__eq__" (defArgs (inClass (top 24) 3)) (defBody (inClass (top 24) 3)) (defScope (inClass (top 24) 3)) [] [] (He.ma K (cA K "Row") "__eq__") fd ∧ Binds K fd ["self", "other"] []
  f_Yard___init__ : ∃ fd, FunD K "__init__" "Yard.__init__" (defArgs (inClass (top 99) 0)) (defBody (inClass (top 99) 0)) (defScope (inClass (top 99) 0)) [] [] (He.ma K (cA K "Yard") "__init__") fd ∧ Binds K fd ["self", "row", "tracks"] []
  f_Yard_hump : ∃ fd, FunD K "hump" "Yard.hump" (defArgs (inClass (top 99) 1)) (defBody (inClass (top 99) 1)) (defScope (inClass (top 99) 1)) [] [] (gAd K "Yard" "hump") fd ∧ Binds K fd ["self"] []
  f_Yard_standing : ∃ fd, FunD K "standing" "Yard.standing" (defArgs (inClass (top 99) 2)) (defBody (inClass (top 99) 2)) (defScope (inClass (top 99) 2)) [] [] (gAd K "Yard" "standing") fd ∧ Binds K fd ["self"] []
  f_Yard_train : ∃ fd, FunD K "train" "Yard.train" (defArgs (inClass (top 99) 3)) (defBody (inClass (top 99) 3)) (defScope (inClass (top 99) 3)) [] [] (gAd K "Yard" "train") fd ∧ Binds K fd ["self"] []
  f_Yard_done : ∃ fd, FunD K "done" "Yard.done" (defArgs (inClass (top 99) 4)) (defBody (inClass (top 99) 4)) (defScope (inClass (top 99) 4)) [] [] (gAd K "Yard" "done") fd ∧ Binds K fd ["self"] []
  f_Yard_go : ∃ fd, FunD K "go" "Yard.go" (defArgs (inClass (top 99) 5)) (defBody (inClass (top 99) 5)) (defScope (inClass (top 99) 5)) [] [] (He.ma K (cA K "Yard") "go") fd ∧ Binds K fd ["self", "state"] []
  f_Yard_send : ∃ fd, FunD K "send" "Yard.send" (defArgs (inClass (top 99) 6)) (defBody (inClass (top 99) 6)) (defScope (inClass (top 99) 6)) [] [] (He.ma K (cA K "Yard") "send") fd ∧ Binds K fd ["self", "places"] []
  f_Yard_pull : ∃ fd, FunD K "pull" "Yard.pull" (defArgs (inClass (top 99) 7)) (defBody (inClass (top 99) 7)) (defScope (inClass (top 99) 7)) [] [] (He.ma K (cA K "Yard") "pull") fd ∧ Binds K fd ["self", "track"] []
  f_Yard_undo : ∃ fd, FunD K "undo" "Yard.undo" (defArgs (inClass (top 99) 8)) (defBody (inClass (top 99) 8)) (defScope (inClass (top 99) 8)) [] [] (He.ma K (cA K "Yard") "undo") fd ∧ Binds K fd ["self"] []
  f_Yard_copy : ∃ fd, FunD K "copy" "Yard.copy" (defArgs (inClass (top 99) 9)) (defBody (inClass (top 99) 9)) (defScope (inClass (top 99) 9)) [] [] (He.ma K (cA K "Yard") "copy") fd ∧ Binds K fd ["self"] []
  f_Yard___len__ : ∃ fd, FunD K "__len__" "Yard.__len__" (defArgs (inClass (top 99) 10)) (defBody (inClass (top 99) 10)) (defScope (inClass (top 99) 10)) [] [] (He.ma K (cA K "Yard") "__len__") fd ∧ Binds K fd ["self"] []
  row : RowK K mg
  at_Row_held : AtrK K mg "Row" "held"
  mk_Row : Mk K (cA K "Row") (He.ma K (cA K "Row") "__init__")
  nf : nfB K = true
  m_Row___len__ : Meth K (cA K "Row") "__len__" (He.ma K (cA K "Row") "__len__")
  m_Row___eq__ : Meth K (cA K "Row") "__eq__" (He.ma K (cA K "Row") "__eq__")
  p_Row_groups : PropOf K (cA K "Row") "groups" (pAd K "Row" "groups") (gAd K "Row" "groups")
  cls_Yard : ClsK K mg "Yard"
  at_Yard_row : AtrK K mg "Yard" "row"
  at_Yard_state : AtrK K mg "Yard" "state"
  at_Yard_earlier : AtrK K mg "Yard" "earlier"
  mk_Yard : Mk K (cA K "Yard") (He.ma K (cA K "Yard") "__init__")
  p_Yard_hump : PropOf K (cA K "Yard") "hump" (pAd K "Yard" "hump") (gAd K "Yard" "hump")
  p_Yard_standing : PropOf K (cA K "Yard") "standing" (pAd K "Yard" "standing") (gAd K "Yard" "standing")
  p_Yard_train : PropOf K (cA K "Yard") "train" (pAd K "Yard" "train") (gAd K "Yard" "train")
  p_Yard_done : PropOf K (cA K "Yard") "done" (pAd K "Yard" "done") (gAd K "Yard" "done")
  m_Yard_go : Meth K (cA K "Yard") "go" (He.ma K (cA K "Yard") "go")
  m_Yard_send : Meth K (cA K "Yard") "send" (He.ma K (cA K "Yard") "send")
  m_Yard_pull : Meth K (cA K "Yard") "pull" (He.ma K (cA K "Yard") "pull")
  m_Yard_undo : Meth K (cA K "Yard") "undo" (He.ma K (cA K "Yard") "undo")
  m_Yard_copy : Meth K (cA K "Yard") "copy" (He.ma K (cA K "Yard") "copy")
  m_Yard___len__ : Meth K (cA K "Yard") "__len__" (He.ma K (cA K "Yard") "__len__")
section
variable {P : Program} {w : World} {K : PySem.W.Frag} {mg : Str → Option Value} {base : Heap}
theorem iok_InvalidText (T : Txt K mg base) : InitOk P w K mg base "InvalidText" := by
  obtain ⟨fd, F, hb⟩ := T.fi_InvalidText
  exact ⟨fd, init_lw T.x_InvalidText F ⟨rfl, rfl, rfl, by decide +kernel, rfl, by decide +kernel, by decide +kernel⟩, hb⟩
abbrev N_is_integer : List Str := ["value"]
theorem sc_is_integer : FnScope N_is_integer ["value"] (defScope (top 22)) := ⟨rfl, rfl, rfl, by decide +kernel, rfl, by decide +kernel, by decide +kernel⟩
def den_is_integer : FDen := fnD 1 0 (retS (dAnd (dUn (isiD .int) (dL 0)) (dNot (dUn (isiD .bool) (dL 0)))))
theorem ok_is_integer (T : Txt K mg base) : Fd P w K mg base "is_integer" 1 1 den_is_integer := by
  obtain ⟨a, fd, F, hm, hb⟩ := T.f_is_integer
  refine Fd.mk' F sc_is_integer hm hb rfl rfl fun cdv A outer s H E hr => ?_
  have tk := takes_of (X := cxOf (L2.CX P w) P w K mg base N_is_integer "is_integer" (defScope (top 22)) a cdv A outer s H E) rfl rfl rfl rfl
  exact (sd_one (sd_ret (pd_and (pd_isi (x := "int") .int (by decide) (by rfl) T.b_isinstance (by rfl) T.b_int (by decide +kernel) (pd_l (pv 0))) (pd_one (pd_not (pd_isi (x := "bool") .bool (by decide) (by rfl) T.b_isinstance (by rfl) T.b_bool (by decide +kernel) (pd_l (pv 0))))))))
abbrev N_is_from : List Str := ["value", "low", "high"]
theorem sc_is_from : FnScope N_is_from ["value", "low", "high"] (defScope (top 23)) := ⟨rfl, rfl, rfl, by decide +kernel, rfl, by decide +kernel, by decide +kernel⟩
def den_is_from : FDen := fnD 3 0 (retS (dAnd (dCall den_is_integer (dCons (dV 0) dNil)) (dChain leD leD (dL 1) (dL 0) (dL 2))))
theorem ok_is_from (T : Txt K mg base) : Fd P w K mg base "is_from" 2 3 den_is_from := by
  obtain ⟨a, fd, F, hm, hb⟩ := T.f_is_from
  refine Fd.mk' F sc_is_from hm hb rfl rfl fun cdv A outer s H E hr => ?_
  have tk := takes_of (X := cxOf (L2.CX P w) P w K mg base N_is_from "is_from" (defScope (top 23)) a cdv A outer s H E) rfl rfl rfl rfl
  exact (sd_one (sd_ret (pd_and (pd_call (ok_is_integer T) (hr.mono (by decide)) tk (by rfl) (pad_cons (pd_v (pv 0)) pad_nil) (dlen_cons dlen_nil)) (pd_one (pd_chain op_le op_le le_r le_r (pd_l (pv 1)) (pd_l (pv 0)) (pd_l (pv 2)))))))
abbrev N_Row___init__ : List Str := ["self", "groups", "group"]
theorem sc_Row___init__ : FnScope N_Row___init__ ["self", "groups"] (defScope (inClass (top 24) 0)) := ⟨rfl, rfl, rfl, by decide +kernel, rfl, by decide +kernel, by decide +kernel⟩
def den_Row___init__ : FDen := fnD 2 1 (thenS (ifS (dOrT (dNotT (dT (dUn (isiD .tup) (dL 1)))) (dNotT (dT (dChain leD leD (dC (.int 1)) (dCB (oneArg lenD) (dCons (dL 1) dNil)) (dC (.int 12)))))) (raiseS "BadGroups") skipS)
    (thenS (forS (dIt asTup (dV 1)) (tgN 2) (ifS (dNotT (dT (dCall den_is_from (dCons (dV 2) (dCons (dC (.int 0)) (dCons (dC (.int 11)) dNil)))))) (raiseS "BadGroups") skipS))
    (fldS "Row" 0 "held" (dV 1))))
theorem ok_Row___init__ (T : Txt K mg base) : Ff P w K mg base (He.ma K (cA K "Row") "__init__") 3 2 den_Row___init__ := by
  obtain ⟨fd, F, hb⟩ := T.f_Row___init__
  refine Ff.mk' F sc_Row___init__ hb rfl rfl fun cdv A outer s H E hr => ?_
  have tk := takes_of (X := cxOf (L2.CX P w) P w K mg base N_Row___init__ "Row.__init__" (defScope (inClass (top 24) 0)) (He.ma K (cA K "Row") "__init__") cdv A outer s H E) rfl rfl rfl rfl
  exact (sd_cons (sd_if (PW.pt (pwd_or (ptd_not (pt_bl (pd_isi (x := "tuple") .tup (by decide) (by rfl) T.b_isinstance (by rfl) T.b_tuple (by decide +kernel) (pd_l (pv 1))))) (pw_or1 (ptd_not (pt_chainD op_le op_le le_r le_r (val_look pd_int) (val_look (pd_callB call_len_seq len_r (by rfl) T.b_len (by decide +kernel) (pal_cons (pd_l (pv 1)) pal_nil))) (val_look (pd_gint rfl T.g_MOST_WAGONS))))))) (sd_one (sd_raise0 T.e_BadGroups rfl tk (by rfl))) sd_nil)
    (sd_cons (sd_for (passes_of rfl) rfl (it_tup (pd_v (pv 1))) (tg_name (i := 2) sc_Row___init__.nd rfl (.inl rfl)) (sd_one (sd_if (ptd_not (pt_bl (pd_call (ok_is_from T) (hr.mono (by decide)) tk (by rfl) (pad_cons (pd_v (pv 2)) (pad_cons pd_int (pad_cons (pd_gint rfl T.g_MOST_GROUP) pad_nil))) (dlen_cons (dlen_cons (dlen_cons dlen_nil)))))) (sd_one (sd_raise0 T.e_BadGroups rfl tk (by rfl))) sd_nil)))
    (sd_one (sd_fld T.at_Row_held (pv 0) (pd_v (pv 1))))))
theorem rowInit : RowInit den_Row___init__ := rowInit0
abbrev N_check_row : List Str := ["value"]
theorem sc_check_row : FnScope N_check_row ["value"] (defScope (top 25)) := ⟨rfl, rfl, rfl, by decide +kernel, rfl, by decide +kernel, by decide +kernel⟩
def den_check_row : FDen := fnD 1 0 (ifS (dNotT (dT (dUn isRowD (dL 0)))) (raiseS "BadRow") skipS)
theorem ok_check_row (T : Txt K mg base) : Fd P w K mg base "check_row" 1 1 den_check_row := by
  obtain ⟨a, fd, F, hm, hb⟩ := T.f_check_row
  refine Fd.mk' F sc_check_row hm hb rfl rfl fun cdv A outer s H E hr => ?_
  have tk := takes_of (X := cxOf (L2.CX P w) P w K mg base N_check_row "check_row" (defScope (top 25)) a cdv A outer s H E) rfl rfl rfl rfl
  exact (sd_one (sd_if (ptd_not (pt_bl (pd_isRow T.row (by rfl) T.b_isinstance (by rfl) (pd_l (pv 0))))) (sd_one (sd_raise0 T.e_BadRow rfl tk (by rfl))) sd_nil))
abbrev N_classes : List Str := ["groups", "found", "group", "wagon", "own"]
theorem sc_classes : FnScope N_classes ["groups"] (defScope (top 26)) := ⟨rfl, rfl, rfl, by decide +kernel, rfl, by decide +kernel, by decide +kernel⟩
def den_classes : FDen := fnD 1 4 (thenS (setN 1 (dLst dNil))
    (thenS (forS (dIt asList (dN2V (dUnN sortedSetN (dL 0)))) (tgN 2) (appS 1 (dCons (dN2V (dComp (dEnumT (dV 0)) [3, 4] (tgT [3, 4]) (dT (dBin eqD (dL 4) (dL 2))) (dV 3))) dNil)))
    (freezeS 1 (retS (dV 1)))))
theorem ok_classes (T : Txt K mg base) : Fd P w K mg base "classes" 1 1 den_classes := by
  obtain ⟨a, fd, F, hm, hb⟩ := T.f_classes
  refine Fd.mk' F sc_classes hm hb rfl rfl fun cdv A outer s H E hr => ?_
  have tk := takes_of (X := cxOf (L2.CX P w) P w K mg base N_classes "classes" (defScope (top 26)) a cdv A outer s H E) rfl rfl rfl rfl
  exact (sd_cons (sd_setN (i := 1) sc_classes.nd rfl (.inl rfl) (pd_lst pad_nil))
    (sd_cons (sd_for (passes_of rfl) rfl (it_list (new_val (pd_sortedSet rfl (by rfl) T.b_sorted (by rfl) T.b_set (pd_l (pv 0))))) (tg_name (i := 2) sc_classes.nd rfl (.inr rfl)) (sd_one (sd_append (pv 1) (pad_cons (new_val (pd_comp (own := [("wagon", 3), ("own", 4)]) (vs := [3, 4]) rfl sc_classes.nd (it_enumT (by rfl) T.b_enumerate (pd_v (pv 0))) rfl (blkOk_by (own := [("wagon", 3), ("own", 4)]) (N := N_classes) (sc := defScope (top 26)) (by decide +kernel)) (tgok_t [3, 4]) (fun _ _ _ _ _ => (tg_tup (is := [3, 4]) rfl (pgs_cons (pg_name (i := 3) sc_classes.nd rfl (.inl rfl)) (pgs_cons (pg_name (i := 4) sc_classes.nd rfl (.inl rfl)) pgs_nil)))) (fun _ _ _ _ _ => (ptsd_one (pt_cmpD (op_eqD hr.units) eq_r (pd_l (pv 4)) (pd_l (pv 2)) (nomark _)))) (fun _ _ _ _ _ => (pd_v (pv 3))))) pad_nil) (fun _ _ a b => ps_expr (pe_bm PySem.F.plainAttrs_list PySem.F.slot_list_append PySem.F.type_list_append mt_append a b)))))
    (sd_freeze (i := 1) (sd_one (sd_ret (pd_v (pv 1)))))))
abbrev N_fault_of : List Str := ["groups", "wagons", "found", "place", "x", "y"]
theorem sc_fault_of : FnScope N_fault_of ["groups", "wagons"] (defScope (top 27)) := ⟨rfl, rfl, rfl, by decide +kernel, rfl, by decide +kernel, by decide +kernel⟩
def den_fault_of : FDen := fnD 2 4 (thenS (setN 2 (dLst dNil))
    (thenS (forS (dEnumT (dV 1)) (tgT [3, 4]) (forS (dIt asTup (dSl slT (dL 1) (dPart (dBin addD (dL 3) (dC (.int 1)))) dNoPart)) (tgN 5) (ifS (dT (dBin gtD (dBin ixD (dL 0) (dL 4)) (dBin ixD (dL 0) (dL 5)))) (appS 2 (dCons (dTup (dCons (dV 4) (dCons (dV 5) dNil))) dNil)) skipS)))
    (retS (dMinDfl (dCons (dL 2) dNil)))))
theorem ok_fault_of (T : Txt K mg base) : Fd P w K mg base "fault_of" 1 2 den_fault_of := by
  obtain ⟨a, fd, F, hm, hb⟩ := T.f_fault_of
  refine Fd.mk' F sc_fault_of hm hb rfl rfl fun cdv A outer s H E hr => ?_
  have tk := takes_of (X := cxOf (L2.CX P w) P w K mg base N_fault_of "fault_of" (defScope (top 27)) a cdv A outer s H E) rfl rfl rfl rfl
  exact (sd_cons (sd_setN (i := 2) sc_fault_of.nd rfl (.inl rfl) (pd_lst pad_nil))
    (sd_cons (sd_for (passes_of rfl) rfl (it_enumT (by rfl) T.b_enumerate (pd_v (pv 1))) (tg_tup (is := [3, 4]) rfl (pgs_cons (pg_name (i := 3) sc_fault_of.nd rfl (.inl rfl)) (pgs_cons (pg_name (i := 4) sc_fault_of.nd rfl (.inl rfl)) pgs_nil))) (sd_one (sd_for (passes_of rfl) rfl (it_tup (pd_slT (pd_l (pv 1)) (pod_some (val_look (pd_op op_addX add_r (pd_l (pv 3)) (val_look pd_int)))) pod_none)) (tg_name (i := 5) sc_fault_of.nd rfl (.inl rfl)) (sd_one (sd_if (pt_cmpD op_gt gt_r (val_look (pd_ix (pd_l (pv 0)) (pd_l (pv 4)))) (val_look (pd_ix (pd_l (pv 0)) (pd_l (pv 5)))) (nomark _)) (sd_one (sd_append (pv 2) (pad_cons (pd_tup (pad_cons (pd_v (pv 4)) (pad_cons (pd_v (pv 5)) pad_nil))) pad_nil) (fun _ _ a b => ps_expr (pe_bm PySem.F.plainAttrs_list PySem.F.slot_list_append PySem.F.type_list_append mt_append a b)))) sd_nil)))))
    (sd_one (sd_ret (pd_minDfl hr.units rfl (by rfl) T.b_min (pal_cons (pd_l (pv 2)) pal_nil) (pk_cons pe_non pk_nil))))))
abbrev N_check_pulls : List Str := ["value"]
theorem sc_check_pulls : FnScope N_check_pulls ["value"] (defScope (top 33)) := ⟨rfl, rfl, rfl, by decide +kernel, rfl, by decide +kernel, by decide +kernel⟩
def den_check_pulls : FDen := fnD 1 0 (ifS (dNotT (dT (dCall den_is_from (dCons (dV 0) (dCons (dC (.int 0)) (dCons (dC (.int 11)) dNil)))))) (raiseS "BadPulls") skipS)
theorem ok_check_pulls (T : Txt K mg base) : Fd P w K mg base "check_pulls" 3 1 den_check_pulls := by
  obtain ⟨a, fd, F, hm, hb⟩ := T.f_check_pulls
  refine Fd.mk' F sc_check_pulls hm hb rfl rfl fun cdv A outer s H E hr => ?_
  have tk := takes_of (X := cxOf (L2.CX P w) P w K mg base N_check_pulls "check_pulls" (defScope (top 33)) a cdv A outer s H E) rfl rfl rfl rfl
  exact (sd_one (sd_if (ptd_not (pt_bl (pd_call (ok_is_from T) (hr.mono (by decide)) tk (by rfl) (pad_cons (pd_v (pv 0)) (pad_cons pd_int (pad_cons (pd_gint rfl T.g_MOST_PULLS) pad_nil))) (dlen_cons (dlen_cons (dlen_cons dlen_nil)))))) (sd_one (sd_raise0 T.e_BadPulls rfl tk (by rfl))) sd_nil))
abbrev N_check_tracks : List Str := ["value"]
theorem sc_check_tracks : FnScope N_check_tracks ["value"] (defScope (top 34)) := ⟨rfl, rfl, rfl, by decide +kernel, rfl, by decide +kernel, by decide +kernel⟩
def den_check_tracks : FDen := fnD 1 0 (ifS (dNotT (dT (dCall den_is_from (dCons (dV 0) (dCons (dC (.int 1)) (dCons (dC (.int 4)) dNil)))))) (raiseS "BadTracks") skipS)
theorem ok_check_tracks (T : Txt K mg base) : Fd P w K mg base "check_tracks" 3 1 den_check_tracks := by
  obtain ⟨a, fd, F, hm, hb⟩ := T.f_check_tracks
  refine Fd.mk' F sc_check_tracks hm hb rfl rfl fun cdv A outer s H E hr => ?_
  have tk := takes_of (X := cxOf (L2.CX P w) P w K mg base N_check_tracks "check_tracks" (defScope (top 34)) a cdv A outer s H E) rfl rfl rfl rfl
  exact (sd_one (sd_if (ptd_not (pt_bl (pd_call (ok_is_from T) (hr.mono (by decide)) tk (by rfl) (pad_cons (pd_v (pv 0)) (pad_cons pd_int (pad_cons (pd_gint rfl T.g_MOST_TRACKS) pad_nil))) (dlen_cons (dlen_cons (dlen_cons dlen_nil)))))) (sd_one (sd_raise0 T.e_BadTracks rfl tk (by rfl))) sd_nil))
abbrev N_stops_of : List Str := ["code", "found", "stop"]
theorem sc_stops_of : FnScope N_stops_of ["code"] (defScope (top 35)) := ⟨rfl, rfl, rfl, by decide +kernel, rfl, by decide +kernel, by decide +kernel⟩
def den_stops_of : FDen := fnD 1 2 (thenS (setN 1 (dLst dNil))
    (thenS (setS 2 (dC (.int 1)))
    (thenS (whileS (dT (dBin gtD (dL 0) (dC (.int 0)))) (thenS (ifS (dT (dBin eqD (dBin modD (dL 0) (dC (.int 2))) (dC (.int 1)))) (appS 1 (dCons (dV 2) dNil)) skipS)
    (thenS (augS 0 ipDivD (dC (.int 2)))
    (augS 2 ipAddD (dC (.int 1))))) 100000)
    (freezeS 1 (retS (dV 1))))))
theorem ok_stops_of (T : Txt K mg base) : Fd P w K mg base "stops_of" 1 1 den_stops_of := by
  obtain ⟨a, fd, F, hm, hb⟩ := T.f_stops_of
  refine Fd.mk' F sc_stops_of hm hb rfl rfl fun cdv A outer s H E hr => ?_
  have tk := takes_of (X := cxOf (L2.CX P w) P w K mg base N_stops_of "stops_of" (defScope (top 35)) a cdv A outer s H E) rfl rfl rfl rfl
  exact (sd_cons (sd_setN (i := 1) sc_stops_of.nd rfl (.inl rfl) (pd_lst pad_nil))
    (sd_cons (sd_set (i := 2) sc_stops_of.nd rfl (.inl rfl) pd_int)
    (sd_cons (sd_while 100000 (passes_of rfl) (pt_cmpD op_gt gt_r (pd_l (pv 0)) (val_look pd_int) (nomark _)) (sd_cons (sd_if (pt_cmpD (op_eqD hr.units) eq_r (val_look (pd_op op_mod mod_r (pd_l (pv 0)) (val_look pd_int))) (val_look pd_int) (nomark _)) (sd_one (sd_append (pv 1) (pad_cons (pd_v (pv 2)) pad_nil) (fun _ _ a b => ps_expr (pe_bm PySem.F.plainAttrs_list PySem.F.slot_list_append PySem.F.type_list_append mt_append a b)))) sd_nil)
    (sd_cons (sd_aug (i := 0) sc_stops_of.nd rfl (.inl rfl) (val_look pd_int) (ip_of iop_fdiv) ipdiv_r)
    (sd_one (sd_aug (i := 2) sc_stops_of.nd rfl (.inl rfl) (val_look pd_int) ip_add ipadd_r)))))
    (sd_freeze (i := 1) (sd_one (sd_ret (pd_v (pv 1))))))))
abbrev N_is_allowed : List Str := ["code", "tracks", "before", "stop"]
theorem sc_is_allowed : FnScope N_is_allowed ["code", "tracks"] (defScope (top 36)) := ⟨rfl, rfl, rfl, by decide +kernel, rfl, by decide +kernel, by decide +kernel⟩
def den_is_allowed : FDen := fnD 2 2 (thenS (setS 2 (dC (.int 0)))
    (thenS (forS (dIt asList (dCall den_stops_of (dCons (dV 0) dNil))) (tgN 3) (thenS (ifS (dT (dBin gtD (dBin subD (dL 3) (dL 2)) (dL 1))) (retS (dC (.bl false))) skipS)
    (setS 2 (dV 3))))
    (retS (dC (.bl true)))))
theorem ok_is_allowed (T : Txt K mg base) : Fd P w K mg base "is_allowed" 2 2 den_is_allowed := by
  obtain ⟨a, fd, F, hm, hb⟩ := T.f_is_allowed
  refine Fd.mk' F sc_is_allowed hm hb rfl rfl fun cdv A outer s H E hr => ?_
  have tk := takes_of (X := cxOf (L2.CX P w) P w K mg base N_is_allowed "is_allowed" (defScope (top 36)) a cdv A outer s H E) rfl rfl rfl rfl
  exact (sd_cons (sd_set (i := 2) sc_is_allowed.nd rfl (.inl rfl) pd_int)
    (sd_cons (sd_for (passes_of rfl) rfl (it_list (pd_call (ok_stops_of T) (hr.mono (by decide)) tk (by rfl) (pad_cons (pd_v (pv 0)) pad_nil) (dlen_cons dlen_nil))) (tg_name (i := 3) sc_is_allowed.nd rfl (.inl rfl)) (sd_cons (sd_if (pt_cmpD op_gt gt_r (val_look (pd_op op_sub sub_r (pd_l (pv 3)) (pd_l (pv 2)))) (pd_l (pv 1)) (nomark _)) (sd_one (sd_ret pd_bl)) sd_nil)
    (sd_one (sd_set (i := 2) sc_is_allowed.nd rfl (.inl rfl) (pd_v (pv 3))))))
    (sd_one (sd_ret pd_bl))))
abbrev N_allowed_codes : List Str := ["h", "tracks", "code"]
theorem sc_allowed_codes : FnScope N_allowed_codes ["h", "tracks"] (defScope (top 37)) := ⟨rfl, rfl, rfl, by decide +kernel, rfl, by decide +kernel, by decide +kernel⟩
def den_allowed_codes : FDen := fnD 2 1 (retS (dN2V (dComp (dRng rng1 (dCons (dBin shlD (dC (.int 1)) (dL 0)) dNil)) [2] (tgN 2) (dT (dCall den_is_allowed (dCons (dV 2) (dCons (dV 1) dNil)))) (dV 2))))
theorem ok_allowed_codes (T : Txt K mg base) : Fd P w K mg base "allowed_codes" 3 2 den_allowed_codes := by
  obtain ⟨a, fd, F, hm, hb⟩ := T.f_allowed_codes
  refine Fd.mk' F sc_allowed_codes hm hb rfl rfl fun cdv A outer s H E hr => ?_
  have tk := takes_of (X := cxOf (L2.CX P w) P w K mg base N_allowed_codes "allowed_codes" (defScope (top 37)) a cdv A outer s H E) rfl rfl rfl rfl
  exact (sd_one (sd_ret (new_val (pd_comp (own := [("code", 2)]) (vs := [2]) rfl sc_allowed_codes.nd (it_rng1 (by rfl) T.b_range (pal_cons (val_look (pd_op op_shl shl_r (val_look pd_int) (pd_l (pv 0)))) pal_nil)) rfl (blkOk_by (own := [("code", 2)]) (N := N_allowed_codes) (sc := defScope (top 37)) (by decide +kernel)) (tgok_n 2) (fun _ _ _ _ _ => (tg_name (i := 2) sc_allowed_codes.nd rfl (.inl rfl))) (fun _ _ _ _ _ => (ptsd_one (pt_bl (pd_call (ok_is_allowed T) (hr.mono (by decide)) takes0 (by rfl) (pad_cons (pd_v (pv 2)) (pad_cons (pd_v (pv 1)) pad_nil)) (dlen_cons (dlen_cons dlen_nil)))))) (fun _ _ _ _ _ => (pd_v (pv 2)))))))
abbrev N_allowed : List Str := ["h", "tracks"]
theorem sc_allowed : FnScope N_allowed ["h", "tracks"] (defScope (top 38)) := ⟨rfl, rfl, rfl, by decide +kernel, rfl, by decide +kernel, by decide +kernel⟩
def den_allowed : FDen := fnD 2 0 (thenS (exprS (dCall den_check_pulls (dCons (dV 0) dNil)))
    (thenS (exprS (dCall den_check_tracks (dCons (dV 1) dNil)))
    (retS (dCall den_allowed_codes (dCons (dV 0) (dCons (dV 1) dNil))))))
theorem ok_allowed (T : Txt K mg base) : Fd P w K mg base "allowed" 4 2 den_allowed := by
  obtain ⟨a, fd, F, hm, hb⟩ := T.f_allowed
  refine Fd.mk' F sc_allowed hm hb rfl rfl fun cdv A outer s H E hr => ?_
  have tk := takes_of (X := cxOf (L2.CX P w) P w K mg base N_allowed "allowed" (defScope (top 38)) a cdv A outer s H E) rfl rfl rfl rfl
  exact (sd_cons (sd_expr (pd_call (ok_check_pulls T) (hr.mono (by decide)) tk (by rfl) (pad_cons (pd_v (pv 0)) pad_nil) (dlen_cons dlen_nil)))
    (sd_cons (sd_expr (pd_call (ok_check_tracks T) (hr.mono (by decide)) tk (by rfl) (pad_cons (pd_v (pv 1)) pad_nil) (dlen_cons dlen_nil)))
    (sd_one (sd_ret (pd_call (ok_allowed_codes T) (hr.mono (by decide)) tk (by rfl) (pad_cons (pd_v (pv 0)) (pad_cons (pd_v (pv 1)) pad_nil)) (dlen_cons (dlen_cons dlen_nil)))))))
abbrev N_longer_ends : List Str := ["ends", "tracks"]
theorem sc_longer_ends : FnScope N_longer_ends ["ends", "tracks"] (defScope (top 39)) := ⟨rfl, rfl, rfl, by decide +kernel, rfl, by decide +kernel, by decide +kernel⟩
def den_longer_ends : FDen := fnD 2 0 (retS (dN2V (dBinN catN (dL 0) (dN2V (dLst (dCons (dCB (oneArg sumD) (dCons (dN2V (dSl slN (dL 0) (dPart (dUn negD (dL 1))) dNoPart)) dNil)) dNil))))))
theorem ok_longer_ends (T : Txt K mg base) : Fd P w K mg base "longer_ends" 1 2 den_longer_ends := by
  obtain ⟨a, fd, F, hm, hb⟩ := T.f_longer_ends
  refine Fd.mk' F sc_longer_ends hm hb rfl rfl fun cdv A outer s H E hr => ?_
  have tk := takes_of (X := cxOf (L2.CX P w) P w K mg base N_longer_ends "longer_ends" (defScope (top 39)) a cdv A outer s H E) rfl rfl rfl rfl
  exact (sd_one (sd_ret (new_val (pd_opN op_cat cat_r (pd_l (pv 0)) (new_look (pd_lst (pad_cons (pd_callB (cr_sum rfl) sum_r (by rfl) T.b_sum (by decide +kernel) (pal_cons (new_look (pd_slN (pd_l (pv 0)) (pod_some (val_look (pd_neg (pd_l (pv 1))))) pod_none)) pal_nil)) pad_nil)))))))
abbrev N_reach : List Str := ["h", "tracks", "ends", "turn"]
theorem sc_reach : FnScope N_reach ["h", "tracks"] (defScope (top 40)) := ⟨rfl, rfl, rfl, by decide +kernel, rfl, by decide +kernel, by decide +kernel⟩
def den_reach : FDen := fnD 2 2 (thenS (ifS (dNotT (dT (dCall den_is_from (dCons (dV 0) (dCons (dC (.int 0)) (dCons (dC (.int 200)) dNil)))))) (raiseS "BadPulls") skipS)
    (thenS (exprS (dCall den_check_tracks (dCons (dV 1) dNil)))
    (thenS (setS 2 (dN2V (dLst (dCons (dC (.int 1)) dNil))))
    (thenS (forS (dRng rng1 (dCons (dL 0) dNil)) (tgN 3) (setS 2 (dCall den_longer_ends (dCons (dV 2) (dCons (dV 1) dNil)))))
    (retS (dCB (oneArg sumD) (dCons (dL 2) dNil)))))))
theorem ok_reach (T : Txt K mg base) : Fd P w K mg base "reach" 4 2 den_reach := by
  obtain ⟨a, fd, F, hm, hb⟩ := T.f_reach
  refine Fd.mk' F sc_reach hm hb rfl rfl fun cdv A outer s H E hr => ?_
  have tk := takes_of (X := cxOf (L2.CX P w) P w K mg base N_reach "reach" (defScope (top 40)) a cdv A outer s H E) rfl rfl rfl rfl
  exact (sd_cons (sd_if (ptd_not (pt_bl (pd_call (ok_is_from T) (hr.mono (by decide)) tk (by rfl) (pad_cons (pd_v (pv 0)) (pad_cons pd_int (pad_cons (pd_gint rfl T.g_MOST_REACH) pad_nil))) (dlen_cons (dlen_cons (dlen_cons dlen_nil)))))) (sd_one (sd_raise0 T.e_BadPulls rfl tk (by rfl))) sd_nil)
    (sd_cons (sd_expr (pd_call (ok_check_tracks T) (hr.mono (by decide)) tk (by rfl) (pad_cons (pd_v (pv 1)) pad_nil) (dlen_cons dlen_nil)))
    (sd_cons (sd_set (i := 2) sc_reach.nd rfl (.inl rfl) (new_val (pd_lst (pad_cons pd_int pad_nil))))
    (sd_cons (sd_for (passes_of rfl) rfl (it_rng1 (by rfl) T.b_range (pal_cons (pd_l (pv 0)) pal_nil)) (tg_name (i := 3) sc_reach.nd rfl (.inl rfl)) (sd_one (sd_set (i := 2) sc_reach.nd rfl (.inl rfl) (pd_call (ok_longer_ends T) (hr.mono (by decide)) tk (by rfl) (pad_cons (pd_v (pv 2)) (pad_cons (pd_v (pv 1)) pad_nil)) (dlen_cons (dlen_cons dlen_nil))))))
    (sd_one (sd_ret (pd_callB (cr_sum rfl) sum_r (by rfl) T.b_sum (by decide +kernel) (pal_cons (pd_l (pv 2)) pal_nil))))))))
abbrev N_for_any : List Str := ["n", "tracks", "ends", "total"]
theorem sc_for_any : FnScope N_for_any ["n", "tracks"] (defScope (top 41)) := ⟨rfl, rfl, rfl, by decide +kernel, rfl, by decide +kernel, by decide +kernel⟩
def den_for_any : FDen := fnD 2 2 (thenS (ifS (dNotT (dT (dCall den_is_from (dCons (dV 0) (dCons (dC (.int 1)) (dCons (dC (.int 1000000000000000000000000000000)) dNil)))))) (raiseS "BadNumber") skipS)
    (thenS (exprS (dCall den_check_tracks (dCons (dV 1) dNil)))
    (thenS (ifS (dT (dBin eqD (dL 1) (dC (.int 1)))) (retS (dBin subD (dL 0) (dC (.int 1)))) skipS)
    (thenS (setS 2 (dN2V (dLst (dCons (dC (.int 1)) dNil))))
    (thenS (setS 3 (dC (.int 1)))
    (thenS (whileS (dT (dBin ltD (dL 3) (dL 0))) (thenS (setS 2 (dCall den_longer_ends (dCons (dV 2) (dCons (dV 1) dNil))))
    (augS 3 ipAddD (dBin ixD (dL 2) (dUn negD (dC (.int 1)))))) 100000)
    (retS (dBin subD (dCB (oneArg lenD) (dCons (dL 2) dNil)) (dC (.int 1))))))))))
theorem ok_for_any (T : Txt K mg base) : Fd P w K mg base "for_any" 4 2 den_for_any := by
  obtain ⟨a, fd, F, hm, hb⟩ := T.f_for_any
  refine Fd.mk' F sc_for_any hm hb rfl rfl fun cdv A outer s H E hr => ?_
  have tk := takes_of (X := cxOf (L2.CX P w) P w K mg base N_for_any "for_any" (defScope (top 41)) a cdv A outer s H E) rfl rfl rfl rfl
  exact (sd_cons (sd_if (ptd_not (pt_bl (pd_call (ok_is_from T) (hr.mono (by decide)) tk (by rfl) (pad_cons (pd_v (pv 0)) (pad_cons pd_int (pad_cons (pd_gint rfl T.g_MOST_NUMBER) pad_nil))) (dlen_cons (dlen_cons (dlen_cons dlen_nil)))))) (sd_one (sd_raise0 T.e_BadNumber rfl tk (by rfl))) sd_nil)
    (sd_cons (sd_expr (pd_call (ok_check_tracks T) (hr.mono (by decide)) tk (by rfl) (pad_cons (pd_v (pv 1)) pad_nil) (dlen_cons dlen_nil)))
    (sd_cons (sd_if (pt_cmpD (op_eqD hr.units) eq_r (pd_l (pv 1)) (val_look pd_int) (nomark _)) (sd_one (sd_ret (pd_op op_sub sub_r (pd_l (pv 0)) (val_look pd_int)))) sd_nil)
    (sd_cons (sd_set (i := 2) sc_for_any.nd rfl (.inl rfl) (new_val (pd_lst (pad_cons pd_int pad_nil))))
    (sd_cons (sd_set (i := 3) sc_for_any.nd rfl (.inl rfl) pd_int)
    (sd_cons (sd_while 100000 (passes_of rfl) (pt_cmpD op_lt lt_r (pd_l (pv 3)) (pd_l (pv 0)) (nomark _)) (sd_cons (sd_set (i := 2) sc_for_any.nd rfl (.inl rfl) (pd_call (ok_longer_ends T) (hr.mono (by decide)) tk (by rfl) (pad_cons (pd_v (pv 2)) (pad_cons (pd_v (pv 1)) pad_nil)) (dlen_cons (dlen_cons dlen_nil))))
    (sd_one (sd_aug (i := 3) sc_for_any.nd rfl (.inl rfl) (val_look (pd_ix (pd_l (pv 2)) (val_look (pd_neg (val_look pd_int))))) ip_add ipadd_r))))
    (sd_one (sd_ret (pd_op op_sub sub_r (val_look (pd_callB call_len_seq len_r (by rfl) T.b_len (by decide +kernel) (pal_cons (pd_l (pv 2)) pal_nil))) (val_look pd_int))))))))))
abbrev N_levels : List Str := ["groups", "found", "level", "last", "wagons", "wagon", "most", "ends"]
theorem sc_levels : FnScope N_levels ["groups"] (defScope (top 43)) := ⟨rfl, rfl, rfl, by decide +kernel, rfl, by decide +kernel, by decide +kernel⟩
def den_levels : FDen := fnD 1 7 (thenS (setN 1 (dBinN repN (dN2V (dLst (dCons (dC (.int 0)) dNil))) (dCB (oneArg lenD) (dCons (dL 0) dNil))))
    (thenS (parS [2, 3] (dCons (dItV (dC (.int 0))) (dCons (dItV (dUn negD (dC (.int 1)))) dNil)))
    (thenS (forS (dIt asList (dCall den_classes (dCons (dV 0) dNil))) (tgN 4) (thenS (forS (dIt asList (dV 4)) (tgN 5) (isetS 1 (dL 5) (dBin addD (dL 2) (dCB (oneArg intD) (dCons (dBin ltD (dL 5) (dL 3)) dNil)))))
    (thenS (setS 6 (dCB (oneArg maxLD) (dCons (dN2V (dComp (dIt asList (dV 4)) [5] (tgN 5) dYes (dBin ixD (dL 1) (dL 5)))) dNil)))
    (thenS (setN 7 (dComp (dIt asList (dV 4)) [5] (tgN 5) (dT (dBin eqD (dBin ixD (dL 1) (dL 5)) (dL 6))) (dV 5)))
    (ifS (dT (dBin gtD (dL 6) (dL 2))) (parS [2, 3] (dCons (dItV (dV 6)) (dCons (dItV (dBin ixD (dL 7) (dUn negD (dC (.int 1))))) dNil))) (setS 3 (dCB (twoArg max2D) (dCons (dL 3) (dCons (dBin ixD (dL 7) (dUn negD (dC (.int 1)))) dNil)))))))))
    (freezeS 1 (retS (dV 1))))))
theorem ok_levels (T : Txt K mg base) : Fd P w K mg base "levels" 2 1 den_levels := by
  obtain ⟨a, fd, F, hm, hb⟩ := T.f_levels
  refine Fd.mk' F sc_levels hm hb rfl rfl fun cdv A outer s H E hr => ?_
  have tk := takes_of (X := cxOf (L2.CX P w) P w K mg base N_levels "levels" (defScope (top 43)) a cdv A outer s H E) rfl rfl rfl rfl
  exact (sd_cons (sd_setN (i := 1) sc_levels.nd rfl (.inr rfl) (pd_opN op_rep rep_r (new_look (pd_lst (pad_cons pd_int pad_nil))) (val_look (pd_callB call_len_seq len_r (by rfl) T.b_len (by decide +kernel) (pal_cons (pd_l (pv 0)) pal_nil)))))
    (sd_cons (sd_parT (is := [2, 3]) (pai_consV pd_int (pai_consV (pd_neg (val_look pd_int)) pai_nil)) rfl (pgs_cons (pg_name (i := 2) sc_levels.nd rfl (.inl rfl)) (pgs_cons (pg_name (i := 3) sc_levels.nd rfl (.inl rfl)) pgs_nil)) (fun _ _ a b => ps_asg a b))
    (sd_cons (sd_for (passes_of rfl) rfl (it_list (pd_call (ok_classes T) (hr.mono (by decide)) tk (by rfl) (pad_cons (pd_v (pv 0)) pad_nil) (dlen_cons dlen_nil))) (tg_name (i := 4) sc_levels.nd rfl (.inl rfl)) (sd_cons (sd_for (passes_of rfl) rfl (it_list (pd_v (pv 4))) (tg_name (i := 5) sc_levels.nd rfl (.inl rfl)) (sd_one (sd_iset (pv 1) (pd_l (pv 5)) (pd_op op_addX add_r (pd_l (pv 2)) (val_look (pd_callTy call_int1 int_r (by rfl) T.b_int (by decide +kernel) (pal_cons (val_look (pd_cmp op_lt lt_r (pd_l (pv 5)) (pd_l (pv 3)) (nomark _))) pal_nil)))))))
    (sd_cons (sd_set (i := 6) sc_levels.nd rfl (.inr rfl) (pd_callB (cr_max rfl) maxL_r (by rfl) T.b_max (by decide +kernel) (pal_cons (new_look (pd_comp (own := [("wagon", 5)]) (vs := [5]) rfl sc_levels.nd (it_list (pd_v (pv 4))) rfl (blkOk_by (own := [("wagon", 5)]) (N := N_levels) (sc := defScope (top 43)) (by decide +kernel)) (tgok_n 5) (fun _ _ _ _ _ => (tg_name (i := 5) sc_levels.nd rfl (.inl rfl))) (fun _ _ _ _ _ => ptsd_nil) (fun _ _ _ _ _ => (pd_ix (pd_l (pv 1)) (pd_l (pv 5)))))) pal_nil)))
    (sd_cons (sd_setC (i := 7) (own := [("wagon", 5)]) (vs := [5]) rfl sc_levels.nd rfl rfl (sw_true rfl rfl rfl (by decide +kernel)) (it_list (pd_v (pv 4))) rfl (blkOk_by (own := [("wagon", 5)]) (N := N_levels) (sc := defScope (top 43)) (by decide +kernel)) (tgok_n 5) (fun _ _ _ _ _ => (tg_name (i := 5) sc_levels.nd rfl (.inl rfl))) (fun _ _ _ _ _ => (ptsd_one (pt_cmpD (op_eqD hr.units) eq_r (val_look (pd_ix (pd_l (pv 1)) (pd_l (pv 5)))) (pd_l (pv 6)) (nomark _)))) (fun _ _ _ _ _ => (pd_v (pv 5))))
    (sd_one (sd_if (pt_cmpD op_gt gt_r (pd_l (pv 6)) (pd_l (pv 2)) (nomark _)) (sd_one (sd_par2 (i := 2) (j := 3) rfl sc_levels.nd rfl rfl (by decide) rfl rfl (pai_consV (pd_v (pv 6)) (pai_consV (pd_ix (pd_l (pv 7)) (val_look (pd_neg (val_look pd_int)))) pai_nil)) (by rfl))) (sd_one (sd_set (i := 3) sc_levels.nd rfl (.inl rfl) (pd_callB (call_max2 rfl) max2_r (by rfl) T.b_max (by decide +kernel) (pal_cons (pd_l (pv 3)) (pal_cons (val_look (pd_ix (pd_l (pv 7)) (val_look (pd_neg (val_look pd_int))))) pal_nil)))))))))))
    (sd_freeze (i := 1) (sd_one (sd_ret (pd_v (pv 1))))))))
abbrev N_pairs_of : List Str := ["groups", "found", "x", "group", "y"]
theorem sc_pairs_of : FnScope N_pairs_of ["groups"] (defScope (top 44)) := ⟨rfl, rfl, rfl, by decide +kernel, rfl, by decide +kernel, by decide +kernel⟩
def den_pairs_of : FDen := fnD 1 4 (thenS (setN 1 (dLst dNil))
    (thenS (forS (dEnumT (dV 0)) (tgT [2, 3]) (extS 1 (dCons (dN2V (dComp (dRng rng1 (dCons (dL 2) dNil)) [4] (tgN 4) (dT (dBin gtD (dBin ixD (dL 0) (dL 4)) (dL 3))) (dTup (dCons (dV 2) (dCons (dV 4) dNil))))) dNil)))
    (freezeS 1 (retS (dV 1)))))
theorem ok_pairs_of (T : Txt K mg base) : Fd P w K mg base "pairs_of" 1 1 den_pairs_of := by
  obtain ⟨a, fd, F, hm, hb⟩ := T.f_pairs_of
  refine Fd.mk' F sc_pairs_of hm hb rfl rfl fun cdv A outer s H E hr => ?_
  have tk := takes_of (X := cxOf (L2.CX P w) P w K mg base N_pairs_of "pairs_of" (defScope (top 44)) a cdv A outer s H E) rfl rfl rfl rfl
  exact (sd_cons (sd_setN (i := 1) sc_pairs_of.nd rfl (.inl rfl) (pd_lst pad_nil))
    (sd_cons (sd_for (passes_of rfl) rfl (it_enumT (by rfl) T.b_enumerate (pd_v (pv 0))) (tg_tup (is := [2, 3]) rfl (pgs_cons (pg_name (i := 2) sc_pairs_of.nd rfl (.inr rfl)) (pgs_cons (pg_name (i := 3) sc_pairs_of.nd rfl (.inr rfl)) pgs_nil))) (sd_one (sd_extend (pv 1) (pal_cons (new_look (pd_comp (own := [("y", 4)]) (vs := [4]) rfl sc_pairs_of.nd (it_rng1 (by rfl) T.b_range (pal_cons (pd_l (pv 2)) pal_nil)) rfl (blkOk_by (own := [("y", 4)]) (N := N_pairs_of) (sc := defScope (top 44)) (by decide +kernel)) (tgok_n 4) (fun _ _ _ _ _ => (tg_name (i := 4) sc_pairs_of.nd rfl (.inl rfl))) (fun _ _ _ _ _ => (ptsd_one (pt_cmpD op_gt gt_r (val_look (pd_ix (pd_l (pv 0)) (pd_l (pv 4)))) (pd_l (pv 3)) (nomark _)))) (fun _ _ _ _ _ => (pd_tup (pad_cons (pd_v (pv 2)) (pad_cons (pd_v (pv 4)) pad_nil)))))) pal_nil) (fun _ _ a b => ps_expr (pe_bm PySem.F.plainAttrs_list PySem.F.slot_list_extend PySem.F.type_list_extend mt_extend a b)))))
    (sd_freeze (i := 1) (sd_one (sd_ret (pd_v (pv 1)))))))
abbrev N_follows : List Str := ["groups", "one", "other"]
theorem sc_follows : FnScope N_follows ["groups", "one", "other"] (defScope (top 45)) := ⟨rfl, rfl, rfl, by decide +kernel, rfl, by decide +kernel, by decide +kernel⟩
def den_follows : FDen := fnD 3 0 (retS (dOr (dBin eqD (dBin ixD (dL 2) (dC (.int 0))) (dBin ixD (dL 1) (dC (.int 1)))) (dBin gtD (dBin ixD (dL 0) (dBin ixD (dL 2) (dC (.int 0)))) (dBin ixD (dL 0) (dBin ixD (dL 1) (dC (.int 1)))))))
theorem ok_follows (T : Txt K mg base) : Fd P w K mg base "follows" 1 3 den_follows := by
  obtain ⟨a, fd, F, hm, hb⟩ := T.f_follows
  refine Fd.mk' F sc_follows hm hb rfl rfl fun cdv A outer s H E hr => ?_
  have tk := takes_of (X := cxOf (L2.CX P w) P w K mg base N_follows "follows" (defScope (top 45)) a cdv A outer s H E) rfl rfl rfl rfl
  exact (sd_one (sd_ret (pd_or (pd_cmp (op_eqD hr.units) eq_r (val_look (pd_ix (pd_l (pv 2)) (val_look pd_int))) (val_look (pd_ix (pd_l (pv 1)) (val_look pd_int))) (nomark _)) (pd_one (pd_cmp op_gt gt_r (val_look (pd_ix (pd_l (pv 0)) (val_look (pd_ix (pd_l (pv 2)) (val_look pd_int))))) (val_look (pd_ix (pd_l (pv 0)) (val_look (pd_ix (pd_l (pv 1)) (val_look pd_int))))) (nomark _))))))
abbrev N_lengths_of : List Str := ["groups", "found", "pair", "other"]
theorem sc_lengths_of : FnScope N_lengths_of ["groups"] (defScope (top 46)) := ⟨rfl, rfl, rfl, by decide +kernel, rfl, by decide +kernel, by decide +kernel⟩
def den_lengths_of : FDen := fnD 1 3 (thenS (setN 1 (dNewDct true))
    (thenS (forS (dIt asList (dN2V (dSortK3 0 0 "lengths_of" "lengths_of.<locals>.<lambda>" (dCons (dCall den_pairs_of (dCons (dV 0) dNil)) dNil)))) (tgN 2) (dputN 1 (dL 2) (dBin addD (dC (.int 1)) (dCB (oneArg maxLD) (dCons (dN2V (dBinN catN (dN2V (dLst (dCons (dC (.int 0)) dNil))) (dN2V (dLock 1 (dComp (dIt asLdcN (dV 1)) [3] (tgN 3) (dT (dCall den_follows (dCons (dV 0) (dCons (dV 2) (dCons (dV 3) dNil))))) (dBin dgetN (dL 1) (dL 3))))))) dNil)))))
    (sealT 1 (retS (dV 1)))))
theorem ok_lengths_of (T : Txt K mg base) : Fd P w K mg base "lengths_of" 2 1 den_lengths_of := by
  obtain ⟨a, fd, F, hm, hb⟩ := T.f_lengths_of
  refine Fd.mkT F sc_lengths_of hm hb T.tab_lengths_of rfl rfl fun cdv A outer s H E hr tx => ?_
  have tk := takes_of (X := cxOf (L2.CX P w) P w K mg base N_lengths_of "lengths_of" (defScope (top 46)) a cdv A outer s H E) rfl rfl rfl rfl
  exact (sd_cons (sd_setN (i := 1) sc_lengths_of.nd rfl (.inr rfl) pd_newDN)
    (sd_cons (sd_for (passes_of rfl) rfl (it_list (new_val (pd_sortLam3 (t := 0) (j := 0) (q := "lengths_of.<locals>.<lambda>") hr tx (by rfl) (by rfl) T.b_sorted (pal_cons (val_look (pd_call (ok_pairs_of T) (hr.mono (by decide)) tk (by rfl) (pad_cons (pd_v (pv 0)) pad_nil) (dlen_cons dlen_nil))) pal_nil) rfl (by change lamW (defScope (top 46)) _ _ _ = true; decide +kernel)))) (tg_name (i := 2) sc_lengths_of.nd rfl (.inr rfl)) (sd_one (sd_dputN (hu9 hr) (pv 1) (pd_l (pv 2)) (pd_op op_addX add_r (val_look pd_int) (val_look (pd_callB (cr_max rfl) maxL_r (by rfl) T.b_max (by decide +kernel) (pal_cons (new_look (pd_opN op_cat cat_r (new_look (pd_lst (pad_cons pd_int pad_nil))) (new_look (pd_lock (i := 1) (pd_comp (own := [("other", 3)]) (vs := [3]) rfl sc_lengths_of.nd (it_ldcN (pd_v (pv 1))) rfl (blkOk_by (own := [("other", 3)]) (N := N_lengths_of) (sc := defScope (top 46)) (by decide +kernel)) (tgok_n 3) (fun _ _ _ _ _ => (tg_name (i := 3) sc_lengths_of.nd rfl (.inl rfl))) (fun _ _ _ _ _ => (ptsd_one (pt_bl (pd_call (ok_follows T) (hr.mono (by decide)) takes0 (by rfl) (pad_cons (pd_v (pv 0)) (pad_cons (pd_v (pv 2)) (pad_cons (pd_v (pv 3)) pad_nil))) (dlen_cons (dlen_cons (dlen_cons dlen_nil))))))) (fun _ _ _ _ _ => (pd_dgetN (hu9 hr) (pd_l (pv 1)) (pd_l (pv 3))))))))) pal_nil)))))))
    (sd_sealT (i := 1) (sd_one (sd_ret (pd_v (pv 1)))))))
abbrev N_chain : List Str := ["row", "known", "left", "found", "ways", "pair"]
theorem sc_chain : FnScope N_chain ["row"] (defScope (top 47)) := ⟨rfl, rfl, rfl, by decide +kernel, rfl, by decide +kernel, by decide +kernel⟩
def den_chain : FDen := fnD 1 5 (thenS (exprS (dCall den_check_row (dCons (dV 0) dNil)))
    (thenS (setS 1 (dCall den_lengths_of (dCons (dUn heldD (dL 0)) dNil)))
    (thenS (setS 2 (dCB (oneArg maxLD) (dCons (dN2V (dBinN catN (dN2V (dLst (dCons (dC (.int 0)) dNil))) (dN2V (dComp (dIt asLdcN (dV 1)) [5] (tgN 5) dYes (dBin dgetN (dL 1) (dL 5)))))) dNil)))
    (thenS (setS 3 (dTup dNil))
    (thenS (whileS (dT (dBin gtD (dL 2) (dC (.int 0)))) (thenS (setN 4 (dComp (dIt asLdcN (dV 1)) [5] (tgN 5) (dT (dBin eqD (dBin dgetN (dL 1) (dL 5)) (dL 2))) (dV 5)))
    (thenS (ifS (dTru (dL 3)) (freezeS 4 (setN 4 (dComp (dIt asList (dV 4)) [5] (tgN 5) (dT (dCall den_follows (dCons (dUn heldD (dL 0)) (dCons (dBin ixD (dL 3) (dUn negD (dC (.int 1)))) (dCons (dV 5) dNil))))) (dV 5)))) skipS)
    (thenS (setS 3 (dBin addD (dL 3) (dTup (dCons (dCB (oneArg minND) (dCons (dL 4) dNil)) dNil))))
    (augS 2 subD (dC (.int 1)))))) 100000)
    (retS (dV 3)))))))
theorem ok_chain (T : Txt K mg base) : Fd P w K mg base "chain" 3 1 den_chain := by
  obtain ⟨a, fd, F, hm, hb⟩ := T.f_chain
  refine Fd.mk' F sc_chain hm hb rfl rfl fun cdv A outer s H E hr => ?_
  have tk := takes_of (X := cxOf (L2.CX P w) P w K mg base N_chain "chain" (defScope (top 47)) a cdv A outer s H E) rfl rfl rfl rfl
  exact (sd_cons (sd_expr (pd_call (ok_check_row T) (hr.mono (by decide)) tk (by rfl) (pad_cons (pd_v (pv 0)) pad_nil) (dlen_cons dlen_nil)))
    (sd_cons (sd_set (i := 1) sc_chain.nd rfl (.inr rfl) (pd_call (ok_lengths_of T) (hr.mono (by decide)) tk (by rfl) (pad_cons (pd_held T.row (pd_l (pv 0))) pad_nil) (dlen_cons dlen_nil)))
    (sd_cons (sd_set (i := 2) sc_chain.nd rfl (.inr rfl) (pd_callB (cr_max rfl) maxL_r (by rfl) T.b_max (by decide +kernel) (pal_cons (new_look (pd_opN op_cat cat_r (new_look (pd_lst (pad_cons pd_int pad_nil))) (new_look (pd_comp (own := [("pair", 5)]) (vs := [5]) rfl sc_chain.nd (it_ldcN (pd_v (pv 1))) rfl (blkOk_by (own := [("pair", 5)]) (N := N_chain) (sc := defScope (top 47)) (by decide +kernel)) (tgok_n 5) (fun _ _ _ _ _ => (tg_name (i := 5) sc_chain.nd rfl (.inl rfl))) (fun _ _ _ _ _ => ptsd_nil) (fun _ _ _ _ _ => (pd_dgetN (hu9 hr) (pd_l (pv 1)) (pd_l (pv 5)))))))) pal_nil)))
    (sd_cons (sd_set (i := 3) sc_chain.nd rfl (.inr rfl) (pd_tup pad_nil))
    (sd_cons (sd_while 100000 (passes_of rfl) (pt_cmpD op_gt gt_r (pd_l (pv 2)) (val_look pd_int) (nomark _)) (sd_cons (sd_setC (i := 4) (own := [("pair", 5)]) (vs := [5]) rfl sc_chain.nd rfl rfl (sw_true rfl rfl rfl (by decide +kernel)) (it_ldcN (pd_v (pv 1))) rfl (blkOk_by (own := [("pair", 5)]) (N := N_chain) (sc := defScope (top 47)) (by decide +kernel)) (tgok_n 5) (fun _ _ _ _ _ => (tg_name (i := 5) sc_chain.nd rfl (.inl rfl))) (fun _ _ _ _ _ => (ptsd_one (pt_cmpD (op_eqD hr.units) eq_r (val_look (pd_dgetN (hu9 hr) (pd_l (pv 1)) (pd_l (pv 5)))) (pd_l (pv 2)) (nomark _)))) (fun _ _ _ _ _ => (pd_v (pv 5))))
    (sd_cons (sd_if (pt_tru (pd_l (pv 3))) (sd_freeze (i := 4) (sd_one (sd_setC (i := 4) (own := [("pair", 5)]) (vs := [5]) rfl sc_chain.nd rfl rfl (sw_true rfl rfl rfl (by decide +kernel)) (it_list (pd_v (pv 4))) rfl (blkOk_by (own := [("pair", 5)]) (N := N_chain) (sc := defScope (top 47)) (by decide +kernel)) (tgok_n 5) (fun _ _ _ _ _ => (tg_name (i := 5) sc_chain.nd rfl (.inl rfl))) (fun _ _ _ _ _ => (ptsd_one (pt_bl (pd_call (ok_follows T) (hr.mono (by decide)) takes0 (by rfl) (pad_cons (pd_held T.row (pd_l (pv 0))) (pad_cons (pd_ix (pd_l (pv 3)) (val_look (pd_neg (val_look pd_int)))) (pad_cons (pd_v (pv 5)) pad_nil))) (dlen_cons (dlen_cons (dlen_cons dlen_nil))))))) (fun _ _ _ _ _ => (pd_v (pv 5)))))) sd_nil)
    (sd_cons (sd_set (i := 3) sc_chain.nd rfl (.inr rfl) (pd_op op_addX add_r (pd_l (pv 3)) (val_look (pd_tup (pad_cons (pd_callB (cr_minN rfl (hu65 hr)) minN_r (by rfl) T.b_min (by decide +kernel) (pal_cons (pd_l (pv 4)) pal_nil)) pad_nil)))))
    (sd_one (sd_aug (i := 2) sc_chain.nd rfl (.inr rfl) (val_look pd_int) ip_sub ipsub_r))))))
    (sd_one (sd_ret (pd_v (pv 3)))))))))
abbrev N_needed : List Str := ["row"]
theorem sc_needed : FnScope N_needed ["row"] (defScope (top 48)) := ⟨rfl, rfl, rfl, by decide +kernel, rfl, by decide +kernel, by decide +kernel⟩
def den_needed : FDen := fnD 1 0 (thenS (exprS (dCall den_check_row (dCons (dV 0) dNil)))
    (retS (dBin addD (dCB (oneArg maxLD) (dCons (dCall den_levels (dCons (dUn heldD (dL 0)) dNil)) dNil)) (dC (.int 1)))))
theorem ok_needed (T : Txt K mg base) : Fd P w K mg base "needed" 3 1 den_needed := by
  obtain ⟨a, fd, F, hm, hb⟩ := T.f_needed
  refine Fd.mk' F sc_needed hm hb rfl rfl fun cdv A outer s H E hr => ?_
  have tk := takes_of (X := cxOf (L2.CX P w) P w K mg base N_needed "needed" (defScope (top 48)) a cdv A outer s H E) rfl rfl rfl rfl
  exact (sd_cons (sd_expr (pd_call (ok_check_row T) (hr.mono (by decide)) tk (by rfl) (pad_cons (pd_v (pv 0)) pad_nil) (dlen_cons dlen_nil)))
    (sd_one (sd_ret (pd_op op_addX add_r (val_look (pd_callB (cr_max rfl) maxL_r (by rfl) T.b_max (by decide +kernel) (pal_cons (val_look (pd_call (ok_levels T) (hr.mono (by decide)) tk (by rfl) (pad_cons (pd_held T.row (pd_l (pv 0))) pad_nil) (dlen_cons dlen_nil))) pal_nil))) (val_look pd_int)))))
abbrev N_least_pulls : List Str := ["groups", "tracks", "most", "h"]
theorem sc_least_pulls : FnScope N_least_pulls ["groups", "tracks"] (defScope (top 49)) := ⟨rfl, rfl, rfl, by decide +kernel, rfl, by decide +kernel, by decide +kernel⟩
def den_least_pulls : FDen := fnD 2 2 (thenS (setS 2 (dBin addD (dCB (oneArg maxLD) (dCons (dCall den_levels (dCons (dV 0) dNil)) dNil)) (dC (.int 1))))
    (thenS (setS 3 (dC (.int 0)))
    (thenS (whileS (dT (dBin ltD (dCall den_reach (dCons (dV 3) (dCons (dV 1) dNil))) (dL 2))) (augS 3 ipAddD (dC (.int 1))) 100000)
    (retS (dV 3)))))
theorem ok_least_pulls (T : Txt K mg base) : Fd P w K mg base "least_pulls" 5 2 den_least_pulls := by
  obtain ⟨a, fd, F, hm, hb⟩ := T.f_least_pulls
  refine Fd.mk' F sc_least_pulls hm hb rfl rfl fun cdv A outer s H E hr => ?_
  have tk := takes_of (X := cxOf (L2.CX P w) P w K mg base N_least_pulls "least_pulls" (defScope (top 49)) a cdv A outer s H E) rfl rfl rfl rfl
  exact (sd_cons (sd_set (i := 2) sc_least_pulls.nd rfl (.inl rfl) (pd_op op_addX add_r (val_look (pd_callB (cr_max rfl) maxL_r (by rfl) T.b_max (by decide +kernel) (pal_cons (val_look (pd_call (ok_levels T) (hr.mono (by decide)) tk (by rfl) (pad_cons (pd_v (pv 0)) pad_nil) (dlen_cons dlen_nil))) pal_nil))) (val_look pd_int)))
    (sd_cons (sd_set (i := 3) sc_least_pulls.nd rfl (.inl rfl) pd_int)
    (sd_cons (sd_while 100000 (passes_of rfl) (pt_cmpD op_lt lt_r (val_look (pd_call (ok_reach T) (hr.mono (by decide)) tk (by rfl) (pad_cons (pd_v (pv 3)) (pad_cons (pd_v (pv 1)) pad_nil)) (dlen_cons (dlen_cons dlen_nil)))) (pd_l (pv 2)) (nomark _)) (sd_one (sd_aug (i := 3) sc_least_pulls.nd rfl (.inl rfl) (val_look pd_int) ip_add ipadd_r)))
    (sd_one (sd_ret (pd_v (pv 3)))))))
abbrev N_least : List Str := ["row", "tracks"]
theorem sc_least : FnScope N_least ["row", "tracks"] (defScope (top 50)) := ⟨rfl, rfl, rfl, by decide +kernel, rfl, by decide +kernel, by decide +kernel⟩
def den_least : FDen := fnD 2 0 (thenS (exprS (dCall den_check_row (dCons (dV 0) dNil)))
    (thenS (exprS (dCall den_check_tracks (dCons (dV 1) dNil)))
    (retS (dCall den_least_pulls (dCons (dUn heldD (dL 0)) (dCons (dV 1) dNil))))))
theorem ok_least (T : Txt K mg base) : Fd P w K mg base "least" 6 2 den_least := by
  obtain ⟨a, fd, F, hm, hb⟩ := T.f_least
  refine Fd.mk' F sc_least hm hb rfl rfl fun cdv A outer s H E hr => ?_
  have tk := takes_of (X := cxOf (L2.CX P w) P w K mg base N_least "least" (defScope (top 50)) a cdv A outer s H E) rfl rfl rfl rfl
  exact (sd_cons (sd_expr (pd_call (ok_check_row T) (hr.mono (by decide)) tk (by rfl) (pad_cons (pd_v (pv 0)) pad_nil) (dlen_cons dlen_nil)))
    (sd_cons (sd_expr (pd_call (ok_check_tracks T) (hr.mono (by decide)) tk (by rfl) (pad_cons (pd_v (pv 1)) pad_nil) (dlen_cons dlen_nil)))
    (sd_one (sd_ret (pd_call (ok_least_pulls T) (hr.mono (by decide)) tk (by rfl) (pad_cons (pd_held T.row (pd_l (pv 0))) (pad_cons (pd_v (pv 1)) pad_nil)) (dlen_cons (dlen_cons dlen_nil)))))))
abbrev N_plan : List Str := ["row", "tracks", "codes", "level"]
theorem sc_plan : FnScope N_plan ["row", "tracks"] (defScope (top 51)) := ⟨rfl, rfl, rfl, by decide +kernel, rfl, by decide +kernel, by decide +kernel⟩
def den_plan : FDen := fnD 2 2 (thenS (exprS (dCall den_check_row (dCons (dV 0) dNil)))
    (thenS (exprS (dCall den_check_tracks (dCons (dV 1) dNil)))
    (thenS (setS 2 (dCall den_allowed_codes (dCons (dCall den_least_pulls (dCons (dUn heldD (dL 0)) (dCons (dV 1) dNil))) (dCons (dV 1) dNil))))
    (retS (dCB (oneArg tupleD) (dCons (dN2V (dComp (dIt asList (dCall den_levels (dCons (dUn heldD (dL 0)) dNil))) [3] (tgN 3) dYes (dBin ixD (dL 2) (dL 3)))) dNil))))))
theorem ok_plan (T : Txt K mg base) : Fd P w K mg base "plan" 6 2 den_plan := by
  obtain ⟨a, fd, F, hm, hb⟩ := T.f_plan
  refine Fd.mk' F sc_plan hm hb rfl rfl fun cdv A outer s H E hr => ?_
  have tk := takes_of (X := cxOf (L2.CX P w) P w K mg base N_plan "plan" (defScope (top 51)) a cdv A outer s H E) rfl rfl rfl rfl
  exact (sd_cons (sd_expr (pd_call (ok_check_row T) (hr.mono (by decide)) tk (by rfl) (pad_cons (pd_v (pv 0)) pad_nil) (dlen_cons dlen_nil)))
    (sd_cons (sd_expr (pd_call (ok_check_tracks T) (hr.mono (by decide)) tk (by rfl) (pad_cons (pd_v (pv 1)) pad_nil) (dlen_cons dlen_nil)))
    (sd_cons (sd_set (i := 2) sc_plan.nd rfl (.inr rfl) (pd_call (ok_allowed_codes T) (hr.mono (by decide)) tk (by rfl) (pad_cons (pd_call (ok_least_pulls T) (hr.mono (by decide)) tk (by rfl) (pad_cons (pd_held T.row (pd_l (pv 0))) (pad_cons (pd_v (pv 1)) pad_nil)) (dlen_cons (dlen_cons dlen_nil))) (pad_cons (pd_v (pv 1)) pad_nil)) (dlen_cons (dlen_cons dlen_nil))))
    (sd_one (sd_ret (pd_callTy call_tuple_of tuple_r (by rfl) T.b_tuple (by decide +kernel) (pal_cons (new_look (pd_comp (own := [("level", 3)]) (vs := [3]) rfl sc_plan.nd (it_list (pd_call (ok_levels T) (hr.mono (by decide)) tk (by rfl) (pad_cons (pd_held T.row (pd_l (pv 0))) pad_nil) (dlen_cons dlen_nil))) rfl (blkOk_by (own := [("level", 3)]) (N := N_plan) (sc := defScope (top 51)) (by decide +kernel)) (tgok_n 3) (fun _ _ _ _ _ => (tg_name (i := 3) sc_plan.nd rfl (.inl rfl))) (fun _ _ _ _ _ => ptsd_nil) (fun _ _ _ _ _ => (pd_ix (pd_l (pv 2)) (pd_l (pv 3)))))) pal_nil)))))))
abbrev N_check_all : List Str := ["row", "h", "tracks"]
theorem sc_check_all : FnScope N_check_all ["row", "h", "tracks"] (defScope (top 53)) := ⟨rfl, rfl, rfl, by decide +kernel, rfl, by decide +kernel, by decide +kernel⟩
def den_check_all : FDen := fnD 3 0 (thenS (exprS (dCall den_check_row (dCons (dV 0) dNil)))
    (thenS (exprS (dCall den_check_pulls (dCons (dV 1) dNil)))
    (exprS (dCall den_check_tracks (dCons (dV 2) dNil)))))
theorem ok_check_all (T : Txt K mg base) : Fd P w K mg base "check_all" 4 3 den_check_all := by
  obtain ⟨a, fd, F, hm, hb⟩ := T.f_check_all
  refine Fd.mk' F sc_check_all hm hb rfl rfl fun cdv A outer s H E hr => ?_
  have tk := takes_of (X := cxOf (L2.CX P w) P w K mg base N_check_all "check_all" (defScope (top 53)) a cdv A outer s H E) rfl rfl rfl rfl
  exact (sd_cons (sd_expr (pd_call (ok_check_row T) (hr.mono (by decide)) tk (by rfl) (pad_cons (pd_v (pv 0)) pad_nil) (dlen_cons dlen_nil)))
    (sd_cons (sd_expr (pd_call (ok_check_pulls T) (hr.mono (by decide)) tk (by rfl) (pad_cons (pd_v (pv 1)) pad_nil) (dlen_cons dlen_nil)))
    (sd_one (sd_expr (pd_call (ok_check_tracks T) (hr.mono (by decide)) tk (by rfl) (pad_cons (pd_v (pv 2)) pad_nil) (dlen_cons dlen_nil))))))
abbrev N_check_plan : List Str := ["row", "h", "tracks", "plan", "code"]
theorem sc_check_plan : FnScope N_check_plan ["row", "h", "tracks", "plan"] (defScope (top 54)) := ⟨rfl, rfl, rfl, by decide +kernel, rfl, by decide +kernel, by decide +kernel⟩
def den_check_plan : FDen := fnD 4 1 (thenS (exprS (dCall den_check_all (dCons (dV 0) (dCons (dV 1) (dCons (dV 2) dNil)))))
    (thenS (ifS (dOrT (dNotT (dT (dUn (isiD .tup) (dL 3)))) (dT (dBin neD (dCB (oneArg lenD) (dCons (dL 3) dNil)) (dCB (oneArg lenD) (dCons (dUn heldD (dL 0)) dNil))))) (raiseS "BadPlan") skipS)
    (forS (dIt asTup (dV 3)) (tgN 4) (ifS (dOrT (dNotT (dT (dCall den_is_from (dCons (dV 4) (dCons (dC (.int 0)) (dCons (dBin subD (dBin shlD (dC (.int 1)) (dL 1)) (dC (.int 1))) dNil)))))) (dNotT (dT (dCall den_is_allowed (dCons (dV 4) (dCons (dV 2) dNil)))))) (raiseS "BadPlan") skipS))))
theorem ok_check_plan (T : Txt K mg base) : Fd P w K mg base "check_plan" 5 4 den_check_plan := by
  obtain ⟨a, fd, F, hm, hb⟩ := T.f_check_plan
  refine Fd.mk' F sc_check_plan hm hb rfl rfl fun cdv A outer s H E hr => ?_
  have tk := takes_of (X := cxOf (L2.CX P w) P w K mg base N_check_plan "check_plan" (defScope (top 54)) a cdv A outer s H E) rfl rfl rfl rfl
  exact (sd_cons (sd_expr (pd_call (ok_check_all T) (hr.mono (by decide)) tk (by rfl) (pad_cons (pd_v (pv 0)) (pad_cons (pd_v (pv 1)) (pad_cons (pd_v (pv 2)) pad_nil))) (dlen_cons (dlen_cons (dlen_cons dlen_nil)))))
    (sd_cons (sd_if (PW.pt (pwd_or (ptd_not (pt_bl (pd_isi (x := "tuple") .tup (by decide) (by rfl) T.b_isinstance (by rfl) T.b_tuple (by decide +kernel) (pd_l (pv 3))))) (pw_or1 (pt_cmpD (op_neD hr.units) ne_r (val_look (pd_callB call_len_seq len_r (by rfl) T.b_len (by decide +kernel) (pal_cons (pd_l (pv 3)) pal_nil))) (val_look (pd_callB call_len_seq len_r (by rfl) T.b_len (by decide +kernel) (pal_cons (val_look (pd_held T.row (pd_l (pv 0)))) pal_nil))) (nomark _))))) (sd_one (sd_raise0 T.e_BadPlan rfl tk (by rfl))) sd_nil)
    (sd_one (sd_for (passes_of rfl) rfl (it_tup (pd_v (pv 3))) (tg_name (i := 4) sc_check_plan.nd rfl (.inl rfl)) (sd_one (sd_if (PW.pt (pwd_or (ptd_not (pt_bl (pd_call (ok_is_from T) (hr.mono (by decide)) tk (by rfl) (pad_cons (pd_v (pv 4)) (pad_cons pd_int (pad_cons (pd_op op_sub sub_r (val_look (pd_op op_shl shl_r (val_look pd_int) (pd_l (pv 1)))) (val_look pd_int)) pad_nil))) (dlen_cons (dlen_cons (dlen_cons dlen_nil)))))) (pw_or1 (ptd_not (pt_bl (pd_call (ok_is_allowed T) (hr.mono (by decide)) tk (by rfl) (pad_cons (pd_v (pv 4)) (pad_cons (pd_v (pv 2)) pad_nil)) (dlen_cons (dlen_cons dlen_nil)))))))) (sd_one (sd_raise0 T.e_BadPlan rfl tk (by rfl))) sd_nil))))))
abbrev N_roll : List Str := ["wagons", "plan", "stop", "standing", "train", "wagon", "later", "other"]
theorem sc_roll : FnScope N_roll ["wagons", "plan", "stop", "standing", "train"] (defScope (top 55)) := ⟨rfl, rfl, rfl, by decide +kernel, rfl, by decide +kernel, by decide +kernel⟩
def den_roll : FDen := fnD 5 3 (forS (dIt asList (dV 0)) (tgN 5) (thenS (setN 6 (dComp (dIt asList (dCall den_stops_of (dCons (dBin ixD (dL 1) (dL 5)) dNil))) [7] (tgN 7) (dT (dBin gtD (dL 7) (dL 2))) (dV 7)))
    (ifS (dTru (dL 6)) (appObS (dBin ixD (dL 3) (dBin ixD (dL 6) (dC (.int 0)))) (dCons (dV 5) dNil)) (appObS (dV 4) (dCons (dV 5) dNil)))))
theorem ok_roll (T : Txt K mg base) : Fd P w K mg base "roll" 2 5 den_roll := by
  obtain ⟨a, fd, F, hm, hb⟩ := T.f_roll
  refine Fd.mk' F sc_roll hm hb rfl rfl fun cdv A outer s H E hr => ?_
  have tk := takes_of (X := cxOf (L2.CX P w) P w K mg base N_roll "roll" (defScope (top 55)) a cdv A outer s H E) rfl rfl rfl rfl
  exact (sd_one (sd_for (passes_of rfl) rfl (it_list (pd_v (pv 0))) (tg_name (i := 5) sc_roll.nd rfl (.inl rfl)) (sd_cons (sd_setC (i := 6) (own := [("other", 7)]) (vs := [7]) rfl sc_roll.nd rfl rfl (sw_true rfl rfl rfl (by decide +kernel)) (it_list (pd_call (ok_stops_of T) (hr.mono (by decide)) tk (by rfl) (pad_cons (pd_ix (pd_l (pv 1)) (pd_l (pv 5))) pad_nil) (dlen_cons dlen_nil))) rfl (blkOk_by (own := [("other", 7)]) (N := N_roll) (sc := defScope (top 55)) (by decide +kernel)) (tgok_n 7) (fun _ _ _ _ _ => (tg_name (i := 7) sc_roll.nd rfl (.inl rfl))) (fun _ _ _ _ _ => (ptsd_one (pt_cmpD op_gt gt_r (pd_l (pv 7)) (pd_l (pv 2)) (nomark _)))) (fun _ _ _ _ _ => (pd_v (pv 7))))
    (sd_one (sd_if (pt_tru (pd_l (pv 6))) (sd_one (sd_appOb (pd_ix (pd_l (pv 3)) (val_look (pd_ix (pd_l (pv 6)) (val_look pd_int)))) (pad_cons (pd_v (pv 5)) pad_nil) (fun _ _ a b => ps_expr (pe_bm PySem.F.plainAttrs_list PySem.F.slot_list_append PySem.F.type_list_append mt_append a b)))) (sd_one (sd_appOb (pd_v (pv 4)) (pad_cons (pd_v (pv 5)) pad_nil) (fun _ _ a b => ps_expr (pe_bm PySem.F.plainAttrs_list PySem.F.slot_list_append PySem.F.type_list_append mt_append a b)))))))))
abbrev N_run_by : List Str := ["wagons", "h", "plan", "standing", "train", "pulled", "stop", "here"]
theorem sc_run_by : FnScope N_run_by ["wagons", "h", "plan"] (defScope (top 56)) := ⟨rfl, rfl, rfl, by decide +kernel, rfl, by decide +kernel, by decide +kernel⟩
def den_run_by : FDen := fnD 3 5 (thenS (setN 3 (dComp (dRng rng1 (dCons (dBin addD (dL 1) (dC (.int 1))) dNil)) [6] (tgN 6) dYes (dObL dNil)))
    (thenS (setS 4 (dObL dNil))
    (freezeS 3 (thenS (exprS (dCall den_roll (dCons (dV 0) (dCons (dV 2) (dCons (dC (.int 0)) (dCons (dV 3) (dCons (dV 4) dNil)))))))
    (thenS (setN 5 (dLst dNil))
    (thenS (forS (dRng rng2 (dCons (dC (.int 1)) (dCons (dBin addD (dL 1) (dC (.int 1))) dNil))) (tgN 6) (thenS (setS 7 (dN2V (dListOb (dBin ixD (dL 3) (dL 6)))))
    (thenS (appS 5 (dCons (dCB (oneArg tupleD) (dCons (dL 7) dNil)) dNil))
    (exprS (dCall den_roll (dCons (dV 7) (dCons (dV 2) (dCons (dV 6) (dCons (dV 3) (dCons (dV 4) dNil))))))))))
    (retS (dTup (dCons (dCB (oneArg tupleD) (dCons (dL 5) dNil)) (dCons (dTupOb (dV 4)) dNil))))))))))
theorem ok_run_by (T : Txt K mg base) : Fd P w K mg base "run_by" 3 3 den_run_by := by
  obtain ⟨a, fd, F, hm, hb⟩ := T.f_run_by
  refine Fd.mk' F sc_run_by hm hb rfl rfl fun cdv A outer s H E hr => ?_
  have tk := takes_of (X := cxOf (L2.CX P w) P w K mg base N_run_by "run_by" (defScope (top 56)) a cdv A outer s H E) rfl rfl rfl rfl
  exact (sd_cons (sd_setC (i := 3) (own := [("stop", 6)]) (vs := [6]) rfl sc_run_by.nd rfl rfl (sw_true rfl rfl rfl (by decide +kernel)) (it_rng1 (by rfl) T.b_range (pal_cons (val_look (pd_op op_addX add_r (pd_l (pv 1)) (val_look pd_int))) pal_nil)) rfl (blkOk_by (own := [("stop", 6)]) (N := N_run_by) (sc := defScope (top 56)) (by decide +kernel)) (tgok_n 6) (fun _ _ _ _ _ => (tg_name (i := 6) sc_run_by.nd rfl (.inl rfl))) (fun _ _ _ _ _ => ptsd_nil) (fun _ _ _ _ _ => (pd_obL pad_nil)))
    (sd_cons (sd_set (i := 4) sc_run_by.nd rfl (.inl rfl) (pd_obL pad_nil))
    (sd_freeze (i := 3) (sd_cons (sd_expr (pd_call (ok_roll T) (hr.mono (by decide)) tk (by rfl) (pad_cons (pd_v (pv 0)) (pad_cons (pd_v (pv 2)) (pad_cons pd_int (pad_cons (pd_v (pv 3)) (pad_cons (pd_v (pv 4)) pad_nil))))) (dlen_cons (dlen_cons (dlen_cons (dlen_cons (dlen_cons dlen_nil)))))))
    (sd_cons (sd_setN (i := 5) sc_run_by.nd rfl (.inl rfl) (pd_lst pad_nil))
    (sd_cons (sd_for (passes_of rfl) rfl (it_rng2 (by rfl) T.b_range (pal_cons (val_look pd_int) (pal_cons (val_look (pd_op op_addX add_r (pd_l (pv 1)) (val_look pd_int))) pal_nil))) (tg_name (i := 6) sc_run_by.nd rfl (.inl rfl)) (sd_cons (sd_set (i := 7) sc_run_by.nd rfl (.inl rfl) (new_val (pd_listOb (pd_ix (pd_l (pv 3)) (pd_l (pv 6))) (by rfl) T.b_list)))
    (sd_cons (sd_append (pv 5) (pad_cons (pd_callTy call_tuple_of tuple_r (by rfl) T.b_tuple (by decide +kernel) (pal_cons (pd_l (pv 7)) pal_nil)) pad_nil) (fun _ _ a b => ps_expr (pe_bm PySem.F.plainAttrs_list PySem.F.slot_list_append PySem.F.type_list_append mt_append a b)))
    (sd_one (sd_expr (pd_call (ok_roll T) (hr.mono (by decide)) tk (by rfl) (pad_cons (pd_v (pv 7)) (pad_cons (pd_v (pv 2)) (pad_cons (pd_v (pv 6)) (pad_cons (pd_v (pv 3)) (pad_cons (pd_v (pv 4)) pad_nil))))) (dlen_cons (dlen_cons (dlen_cons (dlen_cons (dlen_cons dlen_nil)))))))))))
    (sd_one (sd_ret (pd_tup (pad_cons (pd_callTy call_tuple_of tuple_r (by rfl) T.b_tuple (by decide +kernel) (pal_cons (pd_l (pv 5)) pal_nil)) (pad_cons (pd_tupOb (pd_v (pv 4)) (by rfl) T.b_tuple) pad_nil)))))))))))
abbrev N_run : List Str := ["row", "h", "tracks", "plan"]
theorem sc_run : FnScope N_run ["row", "h", "tracks", "plan"] (defScope (top 57)) := ⟨rfl, rfl, rfl, by decide +kernel, rfl, by decide +kernel, by decide +kernel⟩
def den_run : FDen := fnD 4 0 (thenS (exprS (dCall den_check_plan (dCons (dV 0) (dCons (dV 1) (dCons (dV 2) (dCons (dV 3) dNil))))))
    (retS (dCall den_run_by (dCons (dN2V (dUnN rgN (dCB (oneArg lenD) (dCons (dUn heldD (dL 0)) dNil)))) (dCons (dV 1) (dCons (dV 3) dNil))))))
theorem ok_run (T : Txt K mg base) : Fd P w K mg base "run" 6 4 den_run := by
  obtain ⟨a, fd, F, hm, hb⟩ := T.f_run
  refine Fd.mk' F sc_run hm hb rfl rfl fun cdv A outer s H E hr => ?_
  have tk := takes_of (X := cxOf (L2.CX P w) P w K mg base N_run "run" (defScope (top 57)) a cdv A outer s H E) rfl rfl rfl rfl
  exact (sd_cons (sd_expr (pd_call (ok_check_plan T) (hr.mono (by decide)) tk (by rfl) (pad_cons (pd_v (pv 0)) (pad_cons (pd_v (pv 1)) (pad_cons (pd_v (pv 2)) (pad_cons (pd_v (pv 3)) pad_nil)))) (dlen_cons (dlen_cons (dlen_cons (dlen_cons dlen_nil))))))
    (sd_one (sd_ret (pd_call (ok_run_by T) (hr.mono (by decide)) tk (by rfl) (pad_cons (new_val (pd_listRg rfl (by rfl) T.b_list (by rfl) T.b_range (val_look (pd_callB call_len_seq len_r (by rfl) T.b_len (by decide +kernel) (pal_cons (val_look (pd_held T.row (pd_l (pv 0)))) pal_nil))))) (pad_cons (pd_v (pv 1)) (pad_cons (pd_v (pv 3)) pad_nil))) (dlen_cons (dlen_cons (dlen_cons dlen_nil)))))))
abbrev N_judge : List Str := ["row", "h", "tracks", "plan"]
theorem sc_judge : FnScope N_judge ["row", "h", "tracks", "plan"] (defScope (top 58)) := ⟨rfl, rfl, rfl, by decide +kernel, rfl, by decide +kernel, by decide +kernel⟩
def den_judge : FDen := fnD 4 0 (thenS (exprS (dCall den_check_plan (dCons (dV 0) (dCons (dV 1) (dCons (dV 2) (dCons (dV 3) dNil))))))
    (retS (dCall den_fault_of (dCons (dUn heldD (dL 0)) (dCons (dBin ixD (dCall den_run_by (dCons (dN2V (dUnN rgN (dCB (oneArg lenD) (dCons (dUn heldD (dL 0)) dNil)))) (dCons (dV 1) (dCons (dV 3) dNil)))) (dC (.int 1))) dNil)))))
theorem ok_judge (T : Txt K mg base) : Fd P w K mg base "judge" 6 4 den_judge := by
  obtain ⟨a, fd, F, hm, hb⟩ := T.f_judge
  refine Fd.mk' F sc_judge hm hb rfl rfl fun cdv A outer s H E hr => ?_
  have tk := takes_of (X := cxOf (L2.CX P w) P w K mg base N_judge "judge" (defScope (top 58)) a cdv A outer s H E) rfl rfl rfl rfl
  exact (sd_cons (sd_expr (pd_call (ok_check_plan T) (hr.mono (by decide)) tk (by rfl) (pad_cons (pd_v (pv 0)) (pad_cons (pd_v (pv 1)) (pad_cons (pd_v (pv 2)) (pad_cons (pd_v (pv 3)) pad_nil)))) (dlen_cons (dlen_cons (dlen_cons (dlen_cons dlen_nil))))))
    (sd_one (sd_ret (pd_call (ok_fault_of T) (hr.mono (by decide)) tk (by rfl) (pad_cons (pd_held T.row (pd_l (pv 0))) (pad_cons (pd_ix (val_look (pd_call (ok_run_by T) (hr.mono (by decide)) tk (by rfl) (pad_cons (new_val (pd_listRg rfl (by rfl) T.b_list (by rfl) T.b_range (val_look (pd_callB call_len_seq len_r (by rfl) T.b_len (by decide +kernel) (pal_cons (val_look (pd_held T.row (pd_l (pv 0)))) pal_nil))))) (pad_cons (pd_v (pv 1)) (pad_cons (pd_v (pv 3)) pad_nil))) (dlen_cons (dlen_cons (dlen_cons dlen_nil))))) (val_look pd_int)) pad_nil)) (dlen_cons (dlen_cons dlen_nil))))))
abbrev N_are_names : List Str := ["value", "index", "name"]
theorem sc_are_names : FnScope N_are_names ["value"] (defScope (top 60)) := ⟨rfl, rfl, rfl, by decide +kernel, rfl, by decide +kernel, by decide +kernel⟩
def den_are_names : FDen := fnD 1 2 (thenS (ifS (dNotT (dT (dUn (isiD .tup) (dL 0)))) (retS (dC (.bl false))) skipS)
    (thenS (forS (dEnumT (dV 0)) (tgT [1, 2]) (ifS (dOrT (dNotT (dT (dCall den_is_from (dCons (dV 2) (dCons (dC (.int 0)) (dCons (dBin subD (dC (.int 12)) (dC (.int 1))) dNil)))))) (dT (dBin inD (dL 2) (dSl slT (dL 0) dNoPart (dPart (dL 1)))))) (retS (dC (.bl false))) skipS))
    (retS (dC (.bl true)))))
theorem ok_are_names (T : Txt K mg base) : Fd P w K mg base "are_names" 3 1 den_are_names := by
  obtain ⟨a, fd, F, hm, hb⟩ := T.f_are_names
  refine Fd.mk' F sc_are_names hm hb rfl rfl fun cdv A outer s H E hr => ?_
  have tk := takes_of (X := cxOf (L2.CX P w) P w K mg base N_are_names "are_names" (defScope (top 60)) a cdv A outer s H E) rfl rfl rfl rfl
  exact (sd_cons (sd_if (ptd_not (pt_bl (pd_isi (x := "tuple") .tup (by decide) (by rfl) T.b_isinstance (by rfl) T.b_tuple (by decide +kernel) (pd_l (pv 0))))) (sd_one (sd_ret pd_bl)) sd_nil)
    (sd_cons (sd_for (passes_of rfl) rfl (it_enumT (by rfl) T.b_enumerate (pd_v (pv 0))) (tg_tup (is := [1, 2]) rfl (pgs_cons (pg_name (i := 1) sc_are_names.nd rfl (.inl rfl)) (pgs_cons (pg_name (i := 2) sc_are_names.nd rfl (.inl rfl)) pgs_nil))) (sd_one (sd_if (PW.pt (pwd_or (ptd_not (pt_bl (pd_call (ok_is_from T) (hr.mono (by decide)) tk (by rfl) (pad_cons (pd_v (pv 2)) (pad_cons pd_int (pad_cons (pd_op op_sub sub_r (val_look (pd_gint rfl T.g_MOST_WAGONS)) (val_look pd_int)) pad_nil))) (dlen_cons (dlen_cons (dlen_cons dlen_nil)))))) (pw_or1 (pt_cmpD (op_inX (hu65 hr)) in_r (pd_l (pv 2)) (val_look (pd_slT (pd_l (pv 0)) pod_none (pod_some (pd_l (pv 1))))) (by rfl))))) (sd_one (sd_ret pd_bl)) sd_nil)))
    (sd_one (sd_ret pd_bl))))
abbrev N_check_told : List Str := ["tracks", "pulled", "train", "names", "name"]
theorem sc_check_told : FnScope N_check_told ["tracks", "pulled", "train"] (defScope (top 61)) := ⟨rfl, rfl, rfl, by decide +kernel, rfl, by decide +kernel, by decide +kernel⟩
def den_check_told : FDen := fnD 3 2 (thenS (exprS (dCall den_check_tracks (dCons (dV 0) dNil)))
    (thenS (ifS (dOrT (dNotT (dT (dUn (isiD .tup) (dL 1)))) (dT (dBin gtD (dCB (oneArg lenD) (dCons (dL 1) dNil)) (dC (.int 11))))) (raiseS "BadPulled") skipS)
    (thenS (forS (dIt asTup (dV 1)) (tgN 3) (ifS (dNotT (dT (dCall den_are_names (dCons (dV 3) dNil)))) (raiseS "BadPulled") skipS))
    (thenS (ifS (dOrT (dNotT (dT (dUn (isiD .tup) (dUn plainW (dV 2))))) (dNotT (dT (dChain leD leD (dC (.int 1)) (dCB (oneArg lenD) (dCons (dUn plainW (dV 2)) dNil)) (dC (.int 12)))))) (raiseS "BadTrain") skipS)
    (thenS (forS (dIt asTup (dUn plainW (dV 2))) (tgN 4) (ifS (dOrT (dNotT (dT (dCall den_is_from (dCons (dV 4) (dCons (dC (.int 0)) (dCons (dBin subD (dCB (oneArg lenD) (dCons (dUn plainW (dV 2)) dNil)) (dC (.int 1))) dNil)))))) (dT (dBin gtD (dMethE countD (dL 2) (dCons (dL 4) dNil)) (dC (.int 1))))) (raiseS "BadTrain") skipS))
    (forS (dIt asTup (dV 1)) (tgN 3) (ifS (dTru (dN2V (dComp (dIt asTup (dV 3)) [4] (tgN 4) (dT (dBin notInD (dL 4) (dUn plainW (dV 2)))) (dV 4)))) (raiseS "BadTrain") skipS)))))))
theorem ok_check_told (T : Txt K mg base) : Fd P w K mg base "check_told" 4 3 den_check_told := by
  obtain ⟨a, fd, F, hm, hb⟩ := T.f_check_told
  refine Fd.mk' F sc_check_told hm hb rfl rfl fun cdv A outer s H E hr => ?_
  have tk := takes_of (X := cxOf (L2.CX P w) P w K mg base N_check_told "check_told" (defScope (top 61)) a cdv A outer s H E) rfl rfl rfl rfl
  exact (sd_cons (sd_expr (pd_call (ok_check_tracks T) (hr.mono (by decide)) tk (by rfl) (pad_cons (pd_v (pv 0)) pad_nil) (dlen_cons dlen_nil)))
    (sd_cons (sd_if (PW.pt (pwd_or (ptd_not (pt_bl (pd_isi (x := "tuple") .tup (by decide) (by rfl) T.b_isinstance (by rfl) T.b_tuple (by decide +kernel) (pd_l (pv 1))))) (pw_or1 (pt_cmpD op_gt gt_r (val_look (pd_callB call_len_seq len_r (by rfl) T.b_len (by decide +kernel) (pal_cons (pd_l (pv 1)) pal_nil))) (val_look (pd_gint rfl T.g_MOST_PULLS)) (nomark _))))) (sd_one (sd_raise0 T.e_BadPulled rfl tk (by rfl))) sd_nil)
    (sd_cons (sd_for (passes_of rfl) rfl (it_tup (pd_v (pv 1))) (tg_name (i := 3) sc_check_told.nd rfl (.inl rfl)) (sd_one (sd_if (ptd_not (pt_bl (pd_call (ok_are_names T) (hr.mono (by decide)) tk (by rfl) (pad_cons (pd_v (pv 3)) pad_nil) (dlen_cons dlen_nil)))) (sd_one (sd_raise0 T.e_BadPulled rfl tk (by rfl))) sd_nil)))
    (sd_cons (sd_if (PW.pt (pwd_or (ptd_not (pt_bl (pd_isi (x := "tuple") .tup (by decide) (by rfl) T.b_isinstance (by rfl) T.b_tuple (by decide +kernel) (val_look (pd_plainW (pd_v (pv 2))))))) (pw_or1 (ptd_not (pt_chainD op_le op_le le_r le_r (val_look pd_int) (val_look (pd_callB call_len_seq len_r (by rfl) T.b_len (by decide +kernel) (pal_cons (val_look (pd_plainW (pd_v (pv 2)))) pal_nil))) (val_look (pd_gint rfl T.g_MOST_WAGONS))))))) (sd_one (sd_raise0 T.e_BadTrain rfl tk (by rfl))) sd_nil)
    (sd_cons (sd_for (passes_of rfl) rfl (it_tup (pd_plainW (pd_v (pv 2)))) (tg_name (i := 4) sc_check_told.nd rfl (.inl rfl)) (sd_one (sd_if (PW.pt (pwd_or (ptd_not (pt_bl (pd_call (ok_is_from T) (hr.mono (by decide)) tk (by rfl) (pad_cons (pd_v (pv 4)) (pad_cons pd_int (pad_cons (pd_op op_sub sub_r (val_look (pd_callB call_len_seq len_r (by rfl) T.b_len (by decide +kernel) (pal_cons (val_look (pd_plainW (pd_v (pv 2)))) pal_nil))) (val_look pd_int)) pad_nil))) (dlen_cons (dlen_cons (dlen_cons dlen_nil)))))) (pw_or1 (pt_cmpD op_gt gt_r (val_look (pd_methE PySem.F.slot_tuple_count PySem.F.type_tuple_count (mt_tcount (hu65 hr)) count_r (pd_l (pv 2)) (pal_cons (pd_l (pv 4)) pal_nil))) (val_look pd_int) (nomark _))))) (sd_one (sd_raise0 T.e_BadTrain rfl tk (by rfl))) sd_nil)))
    (sd_one (sd_for (passes_of rfl) rfl (it_tup (pd_v (pv 1))) (tg_name (i := 3) sc_check_told.nd rfl (.inl rfl)) (sd_one (sd_if (pt_tru (new_look (pd_comp (own := [("name", 4)]) (vs := [4]) rfl sc_check_told.nd (it_tup (pd_v (pv 3))) rfl (blkOk_by (own := [("name", 4)]) (N := N_check_told) (sc := defScope (top 61)) (by decide +kernel)) (tgok_n 4) (fun _ _ _ _ _ => (tg_name (i := 4) sc_check_told.nd rfl (.inl rfl))) (fun _ _ _ _ _ => (ptsd_one (pt_cmpD (op_notInX (hu65 hr)) notin_r (pd_l (pv 4)) (val_look (pd_plainW (pd_v (pv 2)))) (by rfl)))) (fun _ _ _ _ _ => (pd_v (pv 4)))))) (sd_one (sd_raise0 T.e_BadTrain rfl tk (by rfl))) sd_nil)))))))))
abbrev N_plan_of : List Str := ["pulled", "train", "found", "place", "names", "name"]
theorem sc_plan_of : FnScope N_plan_of ["pulled", "train"] (defScope (top 62)) := ⟨rfl, rfl, rfl, by decide +kernel, rfl, by decide +kernel, by decide +kernel⟩
def den_plan_of : FDen := fnD 2 4 (thenS (setN 2 (dBinN repN (dN2V (dLst (dCons (dC (.int 0)) dNil))) (dCB (oneArg lenD) (dCons (dUn plainW (dV 1)) dNil))))
    (thenS (forS (dEnumT (dV 0)) (tgT [3, 4]) (forS (dIt asTup (dV 4)) (tgN 5) (iaugS 2 (dL 5) (dBin shlD (dC (.int 1)) (dL 3)))))
    (freezeS 2 (retS (dV 2)))))
theorem ok_plan_of (T : Txt K mg base) : Fd P w K mg base "plan_of" 1 2 den_plan_of := by
  obtain ⟨a, fd, F, hm, hb⟩ := T.f_plan_of
  refine Fd.mk' F sc_plan_of hm hb rfl rfl fun cdv A outer s H E hr => ?_
  have tk := takes_of (X := cxOf (L2.CX P w) P w K mg base N_plan_of "plan_of" (defScope (top 62)) a cdv A outer s H E) rfl rfl rfl rfl
  exact (sd_cons (sd_setN (i := 2) sc_plan_of.nd rfl (.inl rfl) (pd_opN op_rep rep_r (new_look (pd_lst (pad_cons pd_int pad_nil))) (val_look (pd_callB call_len_seq len_r (by rfl) T.b_len (by decide +kernel) (pal_cons (val_look (pd_plainW (pd_v (pv 1)))) pal_nil)))))
    (sd_cons (sd_for (passes_of rfl) rfl (it_enumT (by rfl) T.b_enumerate (pd_v (pv 0))) (tg_tup (is := [3, 4]) rfl (pgs_cons (pg_name (i := 3) sc_plan_of.nd rfl (.inl rfl)) (pgs_cons (pg_name (i := 4) sc_plan_of.nd rfl (.inl rfl)) pgs_nil))) (sd_one (sd_for (passes_of rfl) rfl (it_tup (pd_v (pv 4))) (tg_name (i := 5) sc_plan_of.nd rfl (.inl rfl)) (sd_one (sd_iaug (pv 2) (pd_l (pv 5)) (val_look (pd_op op_shl shl_r (val_look pd_int) (pd_l (pv 3)))))))))
    (sd_freeze (i := 2) (sd_one (sd_ret (pd_v (pv 2)))))))
abbrev N_rows_at : List Str := ["plan", "pulled", "train", "found", "place", "names", "name"]
theorem sc_rows_at : FnScope N_rows_at ["plan", "pulled", "train"] (defScope (top 63)) := ⟨rfl, rfl, rfl, by decide +kernel, rfl, by decide +kernel, by decide +kernel⟩
def den_rows_at : FDen := fnD 3 4 (thenS (setN 3 (dLst dNil))
    (thenS (forS (dEnumT (dV 1)) (tgT [4, 5]) (appS 3 (dCons (dN2V (dComp (dIt asTup (dV 5)) [6] (tgN 6) (dT (dBin eqD (dBin ixD (dCall den_stops_of (dCons (dBin ixD (dL 0) (dL 6)) dNil)) (dC (.int 0))) (dBin addD (dL 4) (dC (.int 1))))) (dV 6))) dNil)))
    (thenS (appS 3 (dCons (dN2V (dComp (dIt asTup (dUn plainW (dV 2))) [6] (tgN 6) (dT (dBin eqD (dBin ixD (dL 0) (dL 6)) (dC (.int 0)))) (dV 6))) dNil))
    (freezeS 3 (retS (dV 3))))))
theorem ok_rows_at (T : Txt K mg base) : Fd P w K mg base "rows_at" 2 3 den_rows_at := by
  obtain ⟨a, fd, F, hm, hb⟩ := T.f_rows_at
  refine Fd.mk' F sc_rows_at hm hb rfl rfl fun cdv A outer s H E hr => ?_
  have tk := takes_of (X := cxOf (L2.CX P w) P w K mg base N_rows_at "rows_at" (defScope (top 63)) a cdv A outer s H E) rfl rfl rfl rfl
  exact (sd_cons (sd_setN (i := 3) sc_rows_at.nd rfl (.inl rfl) (pd_lst pad_nil))
    (sd_cons (sd_for (passes_of rfl) rfl (it_enumT (by rfl) T.b_enumerate (pd_v (pv 1))) (tg_tup (is := [4, 5]) rfl (pgs_cons (pg_name (i := 4) sc_rows_at.nd rfl (.inr rfl)) (pgs_cons (pg_name (i := 5) sc_rows_at.nd rfl (.inl rfl)) pgs_nil))) (sd_one (sd_append (pv 3) (pad_cons (new_val (pd_comp (own := [("name", 6)]) (vs := [6]) rfl sc_rows_at.nd (it_tup (pd_v (pv 5))) rfl (blkOk_by (own := [("name", 6)]) (N := N_rows_at) (sc := defScope (top 63)) (by decide +kernel)) (tgok_n 6) (fun _ _ _ _ _ => (tg_name (i := 6) sc_rows_at.nd rfl (.inl rfl))) (fun _ _ _ _ _ => (ptsd_one (pt_cmpD (op_eqD hr.units) eq_r (val_look (pd_ix (val_look (pd_call (ok_stops_of T) (hr.mono (by decide)) takes0 (by rfl) (pad_cons (pd_ix (pd_l (pv 0)) (pd_l (pv 6))) pad_nil) (dlen_cons dlen_nil))) (val_look pd_int))) (val_look (pd_op op_addX add_r (pd_l (pv 4)) (val_look pd_int))) (nomark _)))) (fun _ _ _ _ _ => (pd_v (pv 6))))) pad_nil) (fun _ _ a b => ps_expr (pe_bm PySem.F.plainAttrs_list PySem.F.slot_list_append PySem.F.type_list_append mt_append a b)))))
    (sd_cons (sd_append (pv 3) (pad_cons (new_val (pd_comp (own := [("name", 6)]) (vs := [6]) rfl sc_rows_at.nd (it_tup (pd_plainW (pd_v (pv 2)))) rfl (blkOk_by (own := [("name", 6)]) (N := N_rows_at) (sc := defScope (top 63)) (by decide +kernel)) (tgok_n 6) (fun _ _ _ _ _ => (tg_name (i := 6) sc_rows_at.nd rfl (.inl rfl))) (fun _ _ _ _ _ => (ptsd_one (pt_cmpD (op_eqD hr.units) eq_r (val_look (pd_ix (pd_l (pv 0)) (pd_l (pv 6)))) (val_look pd_int) (nomark _)))) (fun _ _ _ _ _ => (pd_v (pv 6))))) pad_nil) (fun _ _ a b => ps_expr (pe_bm PySem.F.plainAttrs_list PySem.F.slot_list_append PySem.F.type_list_append mt_append a b)))
    (sd_freeze (i := 3) (sd_one (sd_ret (pd_v (pv 3))))))))
abbrev N_merged : List Str := ["rows", "left", "found", "first", "row", "name"]
theorem sc_merged : FnScope N_merged ["rows"] (defScope (top 64)) := ⟨rfl, rfl, rfl, by decide +kernel, rfl, by decide +kernel, by decide +kernel⟩
def den_merged : FDen := fnD 1 5 (thenS (setN 1 (dComp (dIt asList (dV 0)) [4] (tgN 4) (dTru (dL 4)) (dN2V (dCB (oneArg listN) (dCons (dL 4) dNil)))))
    (thenS (setN 2 (dLst dNil))
    (thenS (whileS (dTru (dL 1)) (freezeS 1 (thenS (setS 3 (dCB (oneArg minLD) (dCons (dN2V (dComp (dIt asList (dV 1)) [4] (tgN 4) dYes (dBin ixD (dL 4) (dC (.int 0))))) dNil)))
    (thenS (appS 2 (dCons (dV 3) dNil))
    (thenS (setN 1 (dComp (dIt asList (dV 1)) [4] (tgN 4) dYes (dN2V (dComp (dIt asList (dV 4)) [5] (tgN 5) (dT (dBin neD (dL 5) (dL 3))) (dV 5)))))
    (freezeS 1 (setN 1 (dComp (dIt asList (dV 1)) [4] (tgN 4) (dTru (dL 4)) (dV 4)))))))) 100000)
    (freezeS 2 (retS (dV 2))))))
theorem ok_merged (T : Txt K mg base) : Fd P w K mg base "merged" 1 1 den_merged := by
  obtain ⟨a, fd, F, hm, hb⟩ := T.f_merged
  refine Fd.mk' F sc_merged hm hb rfl rfl fun cdv A outer s H E hr => ?_
  have tk := takes_of (X := cxOf (L2.CX P w) P w K mg base N_merged "merged" (defScope (top 64)) a cdv A outer s H E) rfl rfl rfl rfl
  exact (sd_cons (sd_setC (i := 1) (own := [("row", 4)]) (vs := [4]) rfl sc_merged.nd rfl rfl (sw_true rfl rfl rfl (by decide +kernel)) (it_list (pd_v (pv 0))) rfl (blkOk_by (own := [("row", 4)]) (N := N_merged) (sc := defScope (top 64)) (by decide +kernel)) (tgok_n 4) (fun _ _ _ _ _ => (tg_name (i := 4) sc_merged.nd rfl (.inl rfl))) (fun _ _ _ _ _ => (ptsd_one (pt_tru (pd_l (pv 4))))) (fun _ _ _ _ _ => (new_val (pd_callTyN call_list_of list_r (by rfl) T.b_list (by decide +kernel) (pal_cons (pd_l (pv 4)) pal_nil)))))
    (sd_cons (sd_setN (i := 2) sc_merged.nd rfl (.inl rfl) (pd_lst pad_nil))
    (sd_cons (sd_while 100000 (passes_of rfl) (pt_tru (pd_l (pv 1))) (sd_freeze (i := 1) (sd_cons (sd_set (i := 3) sc_merged.nd rfl (.inr rfl) (pd_callB (cr_min rfl) minL_r (by rfl) T.b_min (by decide +kernel) (pal_cons (new_look (pd_comp (own := [("row", 4)]) (vs := [4]) rfl sc_merged.nd (it_list (pd_v (pv 1))) rfl (blkOk_by (own := [("row", 4)]) (N := N_merged) (sc := defScope (top 64)) (by decide +kernel)) (tgok_n 4) (fun _ _ _ _ _ => (tg_name (i := 4) sc_merged.nd rfl (.inl rfl))) (fun _ _ _ _ _ => ptsd_nil) (fun _ _ _ _ _ => (pd_ix (pd_l (pv 4)) (val_look pd_int))))) pal_nil)))
    (sd_cons (sd_append (pv 2) (pad_cons (pd_v (pv 3)) pad_nil) (fun _ _ a b => ps_expr (pe_bm PySem.F.plainAttrs_list PySem.F.slot_list_append PySem.F.type_list_append mt_append a b)))
    (sd_cons (sd_setC (i := 1) (own := [("row", 4)]) (vs := [4]) rfl sc_merged.nd rfl rfl (sw_true rfl rfl rfl (by decide +kernel)) (it_list (pd_v (pv 1))) rfl (blkOk_by (own := [("row", 4)]) (N := N_merged) (sc := defScope (top 64)) (by decide +kernel)) (tgok_n 4) (fun _ _ _ _ _ => (tg_name (i := 4) sc_merged.nd rfl (.inl rfl))) (fun _ _ _ _ _ => ptsd_nil) (fun _ _ _ _ _ => (new_val (pd_comp (own := [("name", 5)]) (vs := [5]) rfl sc_merged.nd (it_list (pd_v (pv 4))) rfl (blkOk_n (own := [("name", 5)]) (N := N_merged) (by decide +kernel) (by rfl)) (tgok_n 5) (fun _ _ _ _ _ => (tg_name (i := 5) sc_merged.nd rfl (.inl rfl))) (fun _ _ _ _ _ => (ptsd_one (pt_cmpD (op_neD hr.units) ne_r (pd_l (pv 5)) (pd_l (pv 3)) (nomark _)))) (fun _ _ _ _ _ => (pd_v (pv 5)))))))
    (sd_freeze (i := 1) (sd_one (sd_setC (i := 1) (own := [("row", 4)]) (vs := [4]) rfl sc_merged.nd rfl rfl (sw_true rfl rfl rfl (by decide +kernel)) (it_list (pd_v (pv 1))) rfl (blkOk_by (own := [("row", 4)]) (N := N_merged) (sc := defScope (top 64)) (by decide +kernel)) (tgok_n 4) (fun _ _ _ _ _ => (tg_name (i := 4) sc_merged.nd rfl (.inl rfl))) (fun _ _ _ _ _ => (ptsd_one (pt_tru (pd_l (pv 4))))) (fun _ _ _ _ _ => (pd_v (pv 4)))))))))))
    (sd_freeze (i := 2) (sd_one (sd_ret (pd_v (pv 2))))))))
abbrev N_is_possible : List Str := ["tracks", "pulled", "train", "plan", "code"]
theorem sc_is_possible : FnScope N_is_possible ["tracks", "pulled", "train"] (defScope (top 65)) := ⟨rfl, rfl, rfl, by decide +kernel, rfl, by decide +kernel, by decide +kernel⟩
def den_is_possible : FDen := fnD 3 2 (thenS (setS 3 (dCall den_plan_of (dCons (dV 1) (dCons (dV 2) dNil))))
    (thenS (ifS (dTru (dN2V (dComp (dIt asList (dV 3)) [4] (tgN 4) (dNotT (dT (dCall den_is_allowed (dCons (dV 4) (dCons (dV 0) dNil))))) (dV 4)))) (retS (dC (.bl false))) skipS)
    (retS (dBin eqD (dCall den_run_by (dCons (dCall den_merged (dCons (dCall den_rows_at (dCons (dV 3) (dCons (dV 1) (dCons (dV 2) dNil)))) dNil)) (dCons (dCB (oneArg lenD) (dCons (dL 1) dNil)) (dCons (dV 3) dNil)))) (dTup (dCons (dV 1) (dCons (dV 2) dNil)))))))
theorem ok_is_possible (T : Txt K mg base) : Fd P w K mg base "is_possible" 4 3 den_is_possible := by
  obtain ⟨a, fd, F, hm, hb⟩ := T.f_is_possible
  refine Fd.mk' F sc_is_possible hm hb rfl rfl fun cdv A outer s H E hr => ?_
  have tk := takes_of (X := cxOf (L2.CX P w) P w K mg base N_is_possible "is_possible" (defScope (top 65)) a cdv A outer s H E) rfl rfl rfl rfl
  exact (sd_cons (sd_set (i := 3) sc_is_possible.nd rfl (.inl rfl) (pd_call (ok_plan_of T) (hr.mono (by decide)) tk (by rfl) (pad_cons (pd_v (pv 1)) (pad_cons (pd_v (pv 2)) pad_nil)) (dlen_cons (dlen_cons dlen_nil))))
    (sd_cons (sd_if (pt_tru (new_look (pd_comp (own := [("code", 4)]) (vs := [4]) rfl sc_is_possible.nd (it_list (pd_v (pv 3))) rfl (blkOk_by (own := [("code", 4)]) (N := N_is_possible) (sc := defScope (top 65)) (by decide +kernel)) (tgok_n 4) (fun _ _ _ _ _ => (tg_name (i := 4) sc_is_possible.nd rfl (.inl rfl))) (fun _ _ _ _ _ => (ptsd_one (ptd_not (pt_bl (pd_call (ok_is_allowed T) (hr.mono (by decide)) takes0 (by rfl) (pad_cons (pd_v (pv 4)) (pad_cons (pd_v (pv 0)) pad_nil)) (dlen_cons (dlen_cons dlen_nil))))))) (fun _ _ _ _ _ => (pd_v (pv 4)))))) (sd_one (sd_ret pd_bl)) sd_nil)
    (sd_one (sd_ret (pd_cmp (op_eqD hr.units) eq_r (val_look (pd_call (ok_run_by T) (hr.mono (by decide)) tk (by rfl) (pad_cons (pd_call (ok_merged T) (hr.mono (by decide)) tk (by rfl) (pad_cons (pd_call (ok_rows_at T) (hr.mono (by decide)) tk (by rfl) (pad_cons (pd_v (pv 3)) (pad_cons (pd_v (pv 1)) (pad_cons (pd_v (pv 2)) pad_nil))) (dlen_cons (dlen_cons (dlen_cons dlen_nil)))) pad_nil) (dlen_cons dlen_nil)) (pad_cons (pd_callB call_len_seq len_r (by rfl) T.b_len (by decide +kernel) (pal_cons (pd_l (pv 1)) pal_nil)) (pad_cons (pd_v (pv 3)) pad_nil))) (dlen_cons (dlen_cons (dlen_cons dlen_nil))))) (val_look (pd_tup (pad_cons (pd_v (pv 1)) (pad_cons (pd_v (pv 2)) pad_nil)))) (nomark _))))))
abbrev N_orders_of : List Str := ["rows", "found", "done", "row", "place"]
theorem sc_orders_of : FnScope N_orders_of ["rows"] (defScope (top 66)) := ⟨rfl, rfl, rfl, by decide +kernel, rfl, by decide +kernel, by decide +kernel⟩
def den_orders_of : FDen := fnD 1 4 (thenS (setS 1 (dC (.int 1)))
    (thenS (setS 2 (dC (.int 0)))
    (thenS (forS (dIt asList (dV 0)) (tgN 3) (forS (dRng rng1 (dCons (dCB (oneArg lenD) (dCons (dL 3) dNil)) dNil)) (tgN 4) (thenS (augS 2 ipAddD (dC (.int 1)))
    (setS 1 (dBin divD (dBin mulD (dL 1) (dL 2)) (dBin addD (dL 4) (dC (.int 1))))))))
    (retS (dV 1)))))
theorem ok_orders_of (T : Txt K mg base) : Fd P w K mg base "orders_of" 1 1 den_orders_of := by
  obtain ⟨a, fd, F, hm, hb⟩ := T.f_orders_of
  refine Fd.mk' F sc_orders_of hm hb rfl rfl fun cdv A outer s H E hr => ?_
  have tk := takes_of (X := cxOf (L2.CX P w) P w K mg base N_orders_of "orders_of" (defScope (top 66)) a cdv A outer s H E) rfl rfl rfl rfl
  exact (sd_cons (sd_set (i := 1) sc_orders_of.nd rfl (.inl rfl) pd_int)
    (sd_cons (sd_set (i := 2) sc_orders_of.nd rfl (.inl rfl) pd_int)
    (sd_cons (sd_for (passes_of rfl) rfl (it_list (pd_v (pv 0))) (tg_name (i := 3) sc_orders_of.nd rfl (.inl rfl)) (sd_one (sd_for (passes_of rfl) rfl (it_rng1 (by rfl) T.b_range (pal_cons (val_look (pd_callB call_len_seq len_r (by rfl) T.b_len (by decide +kernel) (pal_cons (pd_l (pv 3)) pal_nil))) pal_nil)) (tg_name (i := 4) sc_orders_of.nd rfl (.inl rfl)) (sd_cons (sd_aug (i := 2) sc_orders_of.nd rfl (.inl rfl) (val_look pd_int) ip_add ipadd_r)
    (sd_one (sd_set (i := 1) sc_orders_of.nd rfl (.inl rfl) (pd_op op_fdivW div_r (val_look (pd_op op_mul mul_r (pd_l (pv 1)) (pd_l (pv 2)))) (val_look (pd_op op_addX add_r (pd_l (pv 4)) (val_look pd_int))))))))))
    (sd_one (sd_ret (pd_v (pv 1)))))))
abbrev N_orders_back : List Str := ["tracks", "pulled", "train"]
theorem sc_orders_back : FnScope N_orders_back ["tracks", "pulled", "train"] (defScope (top 67)) := ⟨rfl, rfl, rfl, by decide +kernel, rfl, by decide +kernel, by decide +kernel⟩
def den_orders_back : FDen := fnD 3 0 (thenS (exprS (dCall den_check_told (dCons (dV 0) (dCons (dV 1) (dCons (dV 2) dNil)))))
    (thenS (ifS (dNotT (dT (dCall den_is_possible (dCons (dV 0) (dCons (dV 1) (dCons (dV 2) dNil)))))) (retS (dC (.int 0))) skipS)
    (retS (dCall den_orders_of (dCons (dCall den_rows_at (dCons (dCall den_plan_of (dCons (dV 1) (dCons (dV 2) dNil))) (dCons (dV 1) (dCons (dV 2) dNil)))) dNil)))))
theorem ok_orders_back (T : Txt K mg base) : Fd P w K mg base "orders_back" 5 3 den_orders_back := by
  obtain ⟨a, fd, F, hm, hb⟩ := T.f_orders_back
  refine Fd.mk' F sc_orders_back hm hb rfl rfl fun cdv A outer s H E hr => ?_
  have tk := takes_of (X := cxOf (L2.CX P w) P w K mg base N_orders_back "orders_back" (defScope (top 67)) a cdv A outer s H E) rfl rfl rfl rfl
  exact (sd_cons (sd_expr (pd_call (ok_check_told T) (hr.mono (by decide)) tk (by rfl) (pad_cons (pd_v (pv 0)) (pad_cons (pd_v (pv 1)) (pad_cons (pd_v (pv 2)) pad_nil))) (dlen_cons (dlen_cons (dlen_cons dlen_nil)))))
    (sd_cons (sd_if (ptd_not (pt_bl (pd_call (ok_is_possible T) (hr.mono (by decide)) tk (by rfl) (pad_cons (pd_v (pv 0)) (pad_cons (pd_v (pv 1)) (pad_cons (pd_v (pv 2)) pad_nil))) (dlen_cons (dlen_cons (dlen_cons dlen_nil)))))) (sd_one (sd_ret pd_int)) sd_nil)
    (sd_one (sd_ret (pd_call (ok_orders_of T) (hr.mono (by decide)) tk (by rfl) (pad_cons (pd_call (ok_rows_at T) (hr.mono (by decide)) tk (by rfl) (pad_cons (pd_call (ok_plan_of T) (hr.mono (by decide)) tk (by rfl) (pad_cons (pd_v (pv 1)) (pad_cons (pd_v (pv 2)) pad_nil)) (dlen_cons (dlen_cons dlen_nil))) (pad_cons (pd_v (pv 1)) (pad_cons (pd_v (pv 2)) pad_nil))) (dlen_cons (dlen_cons (dlen_cons dlen_nil)))) pad_nil) (dlen_cons dlen_nil))))))
abbrev N_order_back : List Str := ["tracks", "pulled", "train"]
theorem sc_order_back : FnScope N_order_back ["tracks", "pulled", "train"] (defScope (top 68)) := ⟨rfl, rfl, rfl, by decide +kernel, rfl, by decide +kernel, by decide +kernel⟩
def den_order_back : FDen := fnD 3 0 (thenS (exprS (dCall den_check_told (dCons (dV 0) (dCons (dV 1) (dCons (dV 2) dNil)))))
    (thenS (ifS (dNotT (dT (dCall den_is_possible (dCons (dV 0) (dCons (dV 1) (dCons (dV 2) dNil)))))) (retS (dC .non)) skipS)
    (retS (dCB (oneArg tupleD) (dCons (dCall den_merged (dCons (dCall den_rows_at (dCons (dCall den_plan_of (dCons (dV 1) (dCons (dV 2) dNil))) (dCons (dV 1) (dCons (dV 2) dNil)))) dNil)) dNil)))))
theorem ok_order_back (T : Txt K mg base) : Fd P w K mg base "order_back" 5 3 den_order_back := by
  obtain ⟨a, fd, F, hm, hb⟩ := T.f_order_back
  refine Fd.mk' F sc_order_back hm hb rfl rfl fun cdv A outer s H E hr => ?_
  have tk := takes_of (X := cxOf (L2.CX P w) P w K mg base N_order_back "order_back" (defScope (top 68)) a cdv A outer s H E) rfl rfl rfl rfl
  exact (sd_cons (sd_expr (pd_call (ok_check_told T) (hr.mono (by decide)) tk (by rfl) (pad_cons (pd_v (pv 0)) (pad_cons (pd_v (pv 1)) (pad_cons (pd_v (pv 2)) pad_nil))) (dlen_cons (dlen_cons (dlen_cons dlen_nil)))))
    (sd_cons (sd_if (ptd_not (pt_bl (pd_call (ok_is_possible T) (hr.mono (by decide)) tk (by rfl) (pad_cons (pd_v (pv 0)) (pad_cons (pd_v (pv 1)) (pad_cons (pd_v (pv 2)) pad_nil))) (dlen_cons (dlen_cons (dlen_cons dlen_nil)))))) (sd_one (sd_ret pd_non)) sd_nil)
    (sd_one (sd_ret (pd_callTy call_tuple_of tuple_r (by rfl) T.b_tuple (by decide +kernel) (pal_cons (val_look (pd_call (ok_merged T) (hr.mono (by decide)) tk (by rfl) (pad_cons (pd_call (ok_rows_at T) (hr.mono (by decide)) tk (by rfl) (pad_cons (pd_call (ok_plan_of T) (hr.mono (by decide)) tk (by rfl) (pad_cons (pd_v (pv 1)) (pad_cons (pd_v (pv 2)) pad_nil)) (dlen_cons (dlen_cons dlen_nil))) (pad_cons (pd_v (pv 1)) (pad_cons (pd_v (pv 2)) pad_nil))) (dlen_cons (dlen_cons (dlen_cons dlen_nil)))) pad_nil) (dlen_cons dlen_nil))) pal_nil))))))
abbrev N_least_places : List Str := ["wagons", "standing", "place", "last", "wagon"]
theorem sc_least_places : FnScope N_least_places ["wagons", "standing"] (defScope (top 74)) := ⟨rfl, rfl, rfl, by decide +kernel, rfl, by decide +kernel, by decide +kernel⟩
def den_least_places : FDen := fnD 2 3 (thenS (unS [2, 3] (dV 1))
    (retS (dN2V (dComp (dIt asList (dV 0)) [4] (tgN 4) dYes (dBin addD (dL 2) (dCB (oneArg intD) (dCons (dBin ltD (dL 4) (dL 3)) dNil)))))))
theorem ok_least_places (T : Txt K mg base) : Fd P w K mg base "least_places" 1 2 den_least_places := by
  obtain ⟨a, fd, F, hm, hb⟩ := T.f_least_places
  refine Fd.mk' F sc_least_places hm hb rfl rfl fun cdv A outer s H E hr => ?_
  have tk := takes_of (X := cxOf (L2.CX P w) P w K mg base N_least_places "least_places" (defScope (top 74)) a cdv A outer s H E) rfl rfl rfl rfl
  exact (sd_cons (sd_unT (is := [2, 3]) (pd_v (pv 1)) rfl (pgs_cons (pg_name (i := 2) sc_least_places.nd rfl (.inr rfl)) (pgs_cons (pg_name (i := 3) sc_least_places.nd rfl (.inr rfl)) pgs_nil)) (fun _ _ a b => ps_asg a b))
    (sd_one (sd_ret (new_val (pd_comp (own := [("wagon", 4)]) (vs := [4]) rfl sc_least_places.nd (it_list (pd_v (pv 0))) rfl (blkOk_by (own := [("wagon", 4)]) (N := N_least_places) (sc := defScope (top 74)) (by decide +kernel)) (tgok_n 4) (fun _ _ _ _ _ => (tg_name (i := 4) sc_least_places.nd rfl (.inl rfl))) (fun _ _ _ _ _ => ptsd_nil) (fun _ _ _ _ _ => (pd_op op_addX add_r (pd_l (pv 2)) (val_look (pd_callTy call_int1 int_r (by rfl) T.b_int (by decide +kernel) (pal_cons (val_look (pd_cmp op_lt lt_r (pd_l (pv 4)) (pd_l (pv 3)) (nomark _))) pal_nil))))))))))
abbrev N_ranges_for : List Str := ["wagons", "lows", "top", "keeper", "found", "wagon", "low"]
theorem sc_ranges_for : FnScope N_ranges_for ["wagons", "lows", "top", "keeper"] (defScope (top 75)) := ⟨rfl, rfl, rfl, by decide +kernel, rfl, by decide +kernel, by decide +kernel⟩
def den_ranges_for : FDen := fnD 4 3 (thenS (setN 4 (dLst dNil))
    (thenS (forS (dZipX (dCons (dV 0) (dCons (dV 1) dNil))) (tgT [5, 6]) (ifS (dT (dBin eqD (dL 5) (dL 3))) (appS 4 (dCons (dTup (dCons (dV 2) (dCons (dV 2) dNil))) dNil)) (ifS (dT (dBin ltD (dL 5) (dL 3))) (appS 4 (dCons (dTup (dCons (dV 6) (dCons (dV 2) dNil))) dNil)) (appS 4 (dCons (dTup (dCons (dV 6) (dCons (dBin subD (dL 2) (dC (.int 1))) dNil))) dNil)))))
    (freezeS 4 (retS (dV 4)))))
theorem ok_ranges_for (T : Txt K mg base) : Fd P w K mg base "ranges_for" 1 4 den_ranges_for := by
  obtain ⟨a, fd, F, hm, hb⟩ := T.f_ranges_for
  refine Fd.mk' F sc_ranges_for hm hb rfl rfl fun cdv A outer s H E hr => ?_
  have tk := takes_of (X := cxOf (L2.CX P w) P w K mg base N_ranges_for "ranges_for" (defScope (top 75)) a cdv A outer s H E) rfl rfl rfl rfl
  exact (sd_cons (sd_setN (i := 4) sc_ranges_for.nd rfl (.inl rfl) (pd_lst pad_nil))
    (sd_cons (sd_for (passes_of rfl) rfl (it_zipX (by rfl) T.b_zip (pad_cons (pd_v (pv 0)) (pad_cons (pd_v (pv 1)) pad_nil))) (tg_tup (is := [5, 6]) rfl (pgs_cons (pg_name (i := 5) sc_ranges_for.nd rfl (.inl rfl)) (pgs_cons (pg_name (i := 6) sc_ranges_for.nd rfl (.inl rfl)) pgs_nil))) (sd_one (sd_if (pt_cmpD (op_eqD hr.units) eq_r (pd_l (pv 5)) (pd_l (pv 3)) (nomark _)) (sd_one (sd_append (pv 4) (pad_cons (pd_tup (pad_cons (pd_v (pv 2)) (pad_cons (pd_v (pv 2)) pad_nil))) pad_nil) (fun _ _ a b => ps_expr (pe_bm PySem.F.plainAttrs_list PySem.F.slot_list_append PySem.F.type_list_append mt_append a b)))) (sd_one (sd_if (pt_cmpD op_lt lt_r (pd_l (pv 5)) (pd_l (pv 3)) (nomark _)) (sd_one (sd_append (pv 4) (pad_cons (pd_tup (pad_cons (pd_v (pv 6)) (pad_cons (pd_v (pv 2)) pad_nil))) pad_nil) (fun _ _ a b => ps_expr (pe_bm PySem.F.plainAttrs_list PySem.F.slot_list_append PySem.F.type_list_append mt_append a b)))) (sd_one (sd_append (pv 4) (pad_cons (pd_tup (pad_cons (pd_v (pv 6)) (pad_cons (pd_op op_sub sub_r (pd_l (pv 2)) (val_look pd_int)) pad_nil))) pad_nil) (fun _ _ a b => ps_expr (pe_bm PySem.F.plainAttrs_list PySem.F.slot_list_append PySem.F.type_list_append mt_append a b)))))))))
    (sd_freeze (i := 4) (sd_one (sd_ret (pd_v (pv 4)))))))
abbrev N_ways_on : List Str := ["wagons", "standing", "many", "lows", "found", "top", "keeper", "low", "spans", "span"]
theorem sc_ways_on : FnScope N_ways_on ["wagons", "standing", "many"] (defScope (top 76)) := ⟨rfl, rfl, rfl, by decide +kernel, rfl, by decide +kernel, by decide +kernel⟩
def den_ways_on : FDen := fnD 3 7 (thenS (setS 3 (dCall den_least_places (dCons (dV 0) (dCons (dV 1) dNil))))
    (thenS (setN 4 (dLst dNil))
    (thenS (ifS (dT (dBin eqD (dCB (oneArg maxLD) (dCons (dL 3) dNil)) (dBin ixD (dL 1) (dC (.int 0))))) (appS 4 (dCons (dTup (dCons (dTup (dCons (dBin ixD (dL 1) (dC (.int 0))) (dCons (dBin ixD (dL 0) (dUn negD (dC (.int 1)))) dNil))) (dCons (dN2V (dComp (dIt asList (dV 3)) [7] (tgN 7) dYes (dTup (dCons (dV 7) (dCons (dV 7) dNil))))) dNil))) dNil)) skipS)
    (thenS (forS (dRng rng2 (dCons (dBin addD (dBin ixD (dL 1) (dC (.int 0))) (dC (.int 1))) (dCons (dL 2) dNil))) (tgN 5) (forS (dZipX (dCons (dV 0) (dCons (dV 3) dNil))) (tgT [6, 7]) (thenS (setS 8 (dCall den_ranges_for (dCons (dV 0) (dCons (dV 3) (dCons (dV 5) (dCons (dV 6) dNil))))))
    (ifS (dAndT (dT (dBin leD (dL 7) (dL 5))) (dNotT (dTru (dN2V (dComp (dIt asList (dV 8)) [9] (tgN 9) (dT (dBin gtD (dBin ixD (dL 9) (dC (.int 0))) (dBin ixD (dL 9) (dC (.int 1))))) (dV 9)))))) (appS 4 (dCons (dTup (dCons (dTup (dCons (dV 5) (dCons (dV 6) dNil))) (dCons (dV 8) dNil))) dNil)) skipS))))
    (freezeS 4 (retS (dV 4)))))))
theorem ok_ways_on (T : Txt K mg base) : Fd P w K mg base "ways_on" 2 3 den_ways_on := by
  obtain ⟨a, fd, F, hm, hb⟩ := T.f_ways_on
  refine Fd.mk' F sc_ways_on hm hb rfl rfl fun cdv A outer s H E hr => ?_
  have tk := takes_of (X := cxOf (L2.CX P w) P w K mg base N_ways_on "ways_on" (defScope (top 76)) a cdv A outer s H E) rfl rfl rfl rfl
  exact (sd_cons (sd_set (i := 3) sc_ways_on.nd rfl (.inl rfl) (pd_call (ok_least_places T) (hr.mono (by decide)) tk (by rfl) (pad_cons (pd_v (pv 0)) (pad_cons (pd_v (pv 1)) pad_nil)) (dlen_cons (dlen_cons dlen_nil))))
    (sd_cons (sd_setN (i := 4) sc_ways_on.nd rfl (.inl rfl) (pd_lst pad_nil))
    (sd_cons (sd_if (pt_cmpD (op_eqD hr.units) eq_r (val_look (pd_callB (cr_max rfl) maxL_r (by rfl) T.b_max (by decide +kernel) (pal_cons (pd_l (pv 3)) pal_nil))) (val_look (pd_ix (pd_l (pv 1)) (val_look pd_int))) (nomark _)) (sd_one (sd_append (pv 4) (pad_cons (pd_tup (pad_cons (pd_tup (pad_cons (pd_ix (pd_l (pv 1)) (val_look pd_int)) (pad_cons (pd_ix (pd_l (pv 0)) (val_look (pd_neg (val_look pd_int)))) pad_nil))) (pad_cons (new_val (pd_comp (own := [("low", 7)]) (vs := [7]) rfl sc_ways_on.nd (it_list (pd_v (pv 3))) rfl (blkOk_by (own := [("low", 7)]) (N := N_ways_on) (sc := defScope (top 76)) (by decide +kernel)) (tgok_n 7) (fun _ _ _ _ _ => (tg_name (i := 7) sc_ways_on.nd rfl (.inl rfl))) (fun _ _ _ _ _ => ptsd_nil) (fun _ _ _ _ _ => (pd_tup (pad_cons (pd_v (pv 7)) (pad_cons (pd_v (pv 7)) pad_nil)))))) pad_nil))) pad_nil) (fun _ _ a b => ps_expr (pe_bm PySem.F.plainAttrs_list PySem.F.slot_list_append PySem.F.type_list_append mt_append a b)))) sd_nil)
    (sd_cons (sd_for (passes_of rfl) rfl (it_rng2 (by rfl) T.b_range (pal_cons (val_look (pd_op op_addX add_r (val_look (pd_ix (pd_l (pv 1)) (val_look pd_int))) (val_look pd_int))) (pal_cons (pd_l (pv 2)) pal_nil))) (tg_name (i := 5) sc_ways_on.nd rfl (.inl rfl)) (sd_one (sd_for (passes_of rfl) rfl (it_zipX (by rfl) T.b_zip (pad_cons (pd_v (pv 0)) (pad_cons (pd_v (pv 3)) pad_nil))) (tg_tup (is := [6, 7]) rfl (pgs_cons (pg_name (i := 6) sc_ways_on.nd rfl (.inl rfl)) (pgs_cons (pg_name (i := 7) sc_ways_on.nd rfl (.inl rfl)) pgs_nil))) (sd_cons (sd_set (i := 8) sc_ways_on.nd rfl (.inl rfl) (pd_call (ok_ranges_for T) (hr.mono (by decide)) tk (by rfl) (pad_cons (pd_v (pv 0)) (pad_cons (pd_v (pv 3)) (pad_cons (pd_v (pv 5)) (pad_cons (pd_v (pv 6)) pad_nil)))) (dlen_cons (dlen_cons (dlen_cons (dlen_cons dlen_nil))))))
    (sd_one (sd_if (PW.pt (pwd_and (pt_cmpD op_le le_r (pd_l (pv 7)) (pd_l (pv 5)) (nomark _)) (pw_and1 (ptd_not (pt_tru (new_look (pd_comp (own := [("span", 9)]) (vs := [9]) rfl sc_ways_on.nd (it_list (pd_v (pv 8))) rfl (blkOk_by (own := [("span", 9)]) (N := N_ways_on) (sc := defScope (top 76)) (by decide +kernel)) (tgok_n 9) (fun _ _ _ _ _ => (tg_name (i := 9) sc_ways_on.nd rfl (.inl rfl))) (fun _ _ _ _ _ => (ptsd_one (pt_cmpD op_gt gt_r (val_look (pd_ix (pd_l (pv 9)) (val_look pd_int))) (val_look (pd_ix (pd_l (pv 9)) (val_look pd_int))) (nomark _)))) (fun _ _ _ _ _ => (pd_v (pv 9)))))))))) (sd_one (sd_append (pv 4) (pad_cons (pd_tup (pad_cons (pd_tup (pad_cons (pd_v (pv 5)) (pad_cons (pd_v (pv 6)) pad_nil))) (pad_cons (pd_v (pv 8)) pad_nil))) pad_nil) (fun _ _ a b => ps_expr (pe_bm PySem.F.plainAttrs_list PySem.F.slot_list_append PySem.F.type_list_append mt_append a b)))) sd_nil))))))
    (sd_freeze (i := 4) (sd_one (sd_ret (pd_v (pv 4)))))))))
abbrev N_counts_of : List Str := ["groups", "many", "found", "wagons", "later", "standing", "behind", "spans", "ways", "low", "high"]
theorem sc_counts_of : FnScope N_counts_of ["groups", "many"] (defScope (top 77)) := ⟨rfl, rfl, rfl, by decide +kernel, rfl, by decide +kernel, by decide +kernel⟩
def den_counts_of : FDen := fnD 2 9 (thenS (setN 2 (dNDisp (dC (.tup (([0, -1] : List Int).map .int))) (dC (.int 1))))
    (thenS (forS (dIt asList (dCall den_classes (dCons (dV 0) dNil))) (tgN 3) (thenS (setN 4 (dNewDct true))
    (sealT 2 (thenS (forS (dIt asLdcN (dV 2)) (tgN 5) (forS (dIt asList (dCall den_ways_on (dCons (dV 3) (dCons (dV 5) (dCons (dV 1) dNil))))) (tgT [6, 7]) (thenS (setS 8 (dBin dgetN (dL 2) (dL 5)))
    (thenS (forS (dIt asList (dV 7)) (tgT [9, 10]) (augS 8 mulD (dBin addD (dBin subD (dL 10) (dL 9)) (dC (.int 1)))))
    (dputN 4 (dL 6) (dBin addD (dGetN 4 (dL 6) (dC (.int 0))) (dL 8)))))))
    (sealT 4 (setS 2 (dV 4)))))))
    (sealT 2 (retS (dV 2)))))
theorem ok_counts_of (T : Txt K mg base) : Fd P w K mg base "counts_of" 3 2 den_counts_of := by
  obtain ⟨a, fd, F, hm, hb⟩ := T.f_counts_of
  refine Fd.mk' F sc_counts_of hm hb rfl rfl fun cdv A outer s H E hr => ?_
  have tk := takes_of (X := cxOf (L2.CX P w) P w K mg base N_counts_of "counts_of" (defScope (top 77)) a cdv A outer s H E) rfl rfl rfl rfl
  exact (sd_cons (sd_setN (i := 2) sc_counts_of.nd rfl (.inl rfl) (pd_ndisp (hu9 hr) (pd_gtup rfl T.gt_FIRST) pd_int))
    (sd_cons (sd_for (passes_of rfl) rfl (it_list (pd_call (ok_classes T) (hr.mono (by decide)) tk (by rfl) (pad_cons (pd_v (pv 0)) pad_nil) (dlen_cons dlen_nil))) (tg_name (i := 3) sc_counts_of.nd rfl (.inl rfl)) (sd_cons (sd_setN (i := 4) sc_counts_of.nd rfl (.inl rfl) pd_newDN)
    (sd_sealT (i := 2) (sd_cons (sd_for (passes_of rfl) rfl (it_ldcN (pd_v (pv 2))) (tg_name (i := 5) sc_counts_of.nd rfl (.inl rfl)) (sd_one (sd_for (passes_of rfl) rfl (it_list (pd_call (ok_ways_on T) (hr.mono (by decide)) tk (by rfl) (pad_cons (pd_v (pv 3)) (pad_cons (pd_v (pv 5)) (pad_cons (pd_v (pv 1)) pad_nil))) (dlen_cons (dlen_cons (dlen_cons dlen_nil))))) (tg_tup (is := [6, 7]) rfl (pgs_cons (pg_name (i := 6) sc_counts_of.nd rfl (.inl rfl)) (pgs_cons (pg_name (i := 7) sc_counts_of.nd rfl (.inl rfl)) pgs_nil))) (sd_cons (sd_set (i := 8) sc_counts_of.nd rfl (.inl rfl) (pd_dgetN (hu9 hr) (pd_l (pv 2)) (pd_l (pv 5))))
    (sd_cons (sd_for (passes_of rfl) rfl (it_list (pd_v (pv 7))) (tg_tup (is := [9, 10]) rfl (pgs_cons (pg_name (i := 9) sc_counts_of.nd rfl (.inl rfl)) (pgs_cons (pg_name (i := 10) sc_counts_of.nd rfl (.inl rfl)) pgs_nil))) (sd_one (sd_aug (i := 8) sc_counts_of.nd rfl (.inl rfl) (val_look (pd_op op_addX add_r (val_look (pd_op op_sub sub_r (pd_l (pv 10)) (pd_l (pv 9)))) (val_look pd_int))) (ip_of iop_mul) ipmul_r)))
    (sd_one (sd_dputN (hu9 hr) (pv 4) (pd_l (pv 6)) (pd_op op_addX add_r (val_look (pd_getN (i := 4) (hu9 hr) (pv 4) (pd_l (pv 6)) pd_int)) (pd_l (pv 8))))))))))
    (sd_sealT (i := 4) (sd_one (sd_set (i := 2) sc_counts_of.nd rfl (.inl rfl) (pd_v (pv 4)))))))))
    (sd_sealT (i := 2) (sd_one (sd_ret (pd_v (pv 2)))))))
abbrev N_count_plans : List Str := ["groups", "many", "found", "standing"]
theorem sc_count_plans : FnScope N_count_plans ["groups", "many"] (defScope (top 78)) := ⟨rfl, rfl, rfl, by decide +kernel, rfl, by decide +kernel, by decide +kernel⟩
def den_count_plans : FDen := fnD 2 2 (thenS (setS 2 (dCall den_counts_of (dCons (dV 0) (dCons (dV 1) dNil))))
    (retS (dCB (oneArg sumD) (dCons (dN2V (dComp (dIt asLdcN (dV 2)) [3] (tgN 3) dYes (dBin dgetN (dL 2) (dL 3)))) dNil))))
theorem ok_count_plans (T : Txt K mg base) : Fd P w K mg base "count_plans" 4 2 den_count_plans := by
  obtain ⟨a, fd, F, hm, hb⟩ := T.f_count_plans
  refine Fd.mk' F sc_count_plans hm hb rfl rfl fun cdv A outer s H E hr => ?_
  have tk := takes_of (X := cxOf (L2.CX P w) P w K mg base N_count_plans "count_plans" (defScope (top 78)) a cdv A outer s H E) rfl rfl rfl rfl
  exact (sd_cons (sd_set (i := 2) sc_count_plans.nd rfl (.inr rfl) (pd_call (ok_counts_of T) (hr.mono (by decide)) tk (by rfl) (pad_cons (pd_v (pv 0)) (pad_cons (pd_v (pv 1)) pad_nil)) (dlen_cons (dlen_cons dlen_nil))))
    (sd_one (sd_ret (pd_callB (cr_sum rfl) sum_r (by rfl) T.b_sum (by decide +kernel) (pal_cons (new_look (pd_comp (own := [("standing", 3)]) (vs := [3]) rfl sc_count_plans.nd (it_ldcN (pd_v (pv 2))) rfl (blkOk_by (own := [("standing", 3)]) (N := N_count_plans) (sc := defScope (top 78)) (by decide +kernel)) (tgok_n 3) (fun _ _ _ _ _ => (tg_name (i := 3) sc_count_plans.nd rfl (.inl rfl))) (fun _ _ _ _ _ => ptsd_nil) (fun _ _ _ _ _ => (pd_dgetN (hu9 hr) (pd_l (pv 2)) (pd_l (pv 3)))))) pal_nil)))))
abbrev N_many : List Str := ["row", "h", "tracks"]
theorem sc_many : FnScope N_many ["row", "h", "tracks"] (defScope (top 79)) := ⟨rfl, rfl, rfl, by decide +kernel, rfl, by decide +kernel, by decide +kernel⟩
def den_many : FDen := fnD 3 0 (thenS (exprS (dCall den_check_all (dCons (dV 0) (dCons (dV 1) (dCons (dV 2) dNil)))))
    (retS (dCall den_count_plans (dCons (dUn heldD (dL 0)) (dCons (dCB (oneArg lenD) (dCons (dCall den_allowed_codes (dCons (dV 1) (dCons (dV 2) dNil))) dNil)) dNil)))))
theorem ok_many (T : Txt K mg base) : Fd P w K mg base "many" 5 3 den_many := by
  obtain ⟨a, fd, F, hm, hb⟩ := T.f_many
  refine Fd.mk' F sc_many hm hb rfl rfl fun cdv A outer s H E hr => ?_
  have tk := takes_of (X := cxOf (L2.CX P w) P w K mg base N_many "many" (defScope (top 79)) a cdv A outer s H E) rfl rfl rfl rfl
  exact (sd_cons (sd_expr (pd_call (ok_check_all T) (hr.mono (by decide)) tk (by rfl) (pad_cons (pd_v (pv 0)) (pad_cons (pd_v (pv 1)) (pad_cons (pd_v (pv 2)) pad_nil))) (dlen_cons (dlen_cons (dlen_cons dlen_nil)))))
    (sd_one (sd_ret (pd_call (ok_count_plans T) (hr.mono (by decide)) tk (by rfl) (pad_cons (pd_held T.row (pd_l (pv 0))) (pad_cons (pd_callB call_len_seq len_r (by rfl) T.b_len (by decide +kernel) (pal_cons (val_look (pd_call (ok_allowed_codes T) (hr.mono (by decide)) tk (by rfl) (pad_cons (pd_v (pv 1)) (pad_cons (pd_v (pv 2)) pad_nil)) (dlen_cons (dlen_cons dlen_nil)))) pal_nil)) pad_nil)) (dlen_cons (dlen_cons dlen_nil))))))
abbrev N_spread : List Str := ["spans", "found", "low", "high", "row", "place"]
theorem sc_spread : FnScope N_spread ["spans"] (defScope (top 80)) := ⟨rfl, rfl, rfl, by decide +kernel, rfl, by decide +kernel, by decide +kernel⟩
def den_spread : FDen := fnD 1 5 (thenS (setN 1 (dLst (dCons (dTup dNil) dNil)))
    (thenS (forS (dIt asList (dV 0)) (tgT [2, 3]) (freezeS 1 (setN 1 (dComp2 (dIt asList (dV 1)) [4, 5] (tgN 4) dYes (dRng rng2 (dCons (dL 2) (dCons (dBin addD (dL 3) (dC (.int 1))) dNil))) [5] (tgN 5) dYes (dBin addD (dL 4) (dTup (dCons (dV 5) dNil)))))))
    (freezeS 1 (retS (dV 1)))))
theorem ok_spread (T : Txt K mg base) : Fd P w K mg base "spread" 1 1 den_spread := by
  obtain ⟨a, fd, F, hm, hb⟩ := T.f_spread
  refine Fd.mk' F sc_spread hm hb rfl rfl fun cdv A outer s H E hr => ?_
  have tk := takes_of (X := cxOf (L2.CX P w) P w K mg base N_spread "spread" (defScope (top 80)) a cdv A outer s H E) rfl rfl rfl rfl
  exact (sd_cons (sd_setN (i := 1) sc_spread.nd rfl (.inl rfl) (pd_lst (pad_cons (pd_tup pad_nil) pad_nil)))
    (sd_cons (sd_for (passes_of rfl) rfl (it_list (pd_v (pv 0))) (tg_tup (is := [2, 3]) rfl (pgs_cons (pg_name (i := 2) sc_spread.nd rfl (.inr rfl)) (pgs_cons (pg_name (i := 3) sc_spread.nd rfl (.inr rfl)) pgs_nil))) (sd_freeze (i := 1) (sd_one (sd_setC2 (i := 1) (own := [("row", 4), ("place", 5)]) (vs := [4, 5]) (vs1 := [5]) rfl sc_spread.nd rfl rfl (sw_true rfl rfl rfl (by decide +kernel)) (it_list (pd_v (pv 1))) rfl (blkOk_by (own := [("row", 4), ("place", 5)]) (N := N_spread) (sc := defScope (top 80)) (by decide +kernel)) (by decide) (tgok_sub (by decide) (tgok_n 4)) (tgok_n 5) (fun _ _ _ _ _ => (tg_sub (vs := [4, 5]) (by decide) (tg_name (i := 4) sc_spread.nd rfl (.inl rfl)))) (fun _ _ _ _ _ => ptsd_nil) (fun _ _ _ _ _ => (it_rng2 (by rfl) T.b_range (pal_cons (pd_l (pv 2)) (pal_cons (val_look (pd_op op_addX add_r (pd_l (pv 3)) (val_look pd_int))) pal_nil)))) (fun _ _ _ _ _ => (tg_name (i := 5) sc_spread.nd rfl (.inl rfl))) (fun _ _ _ _ _ => ptsd_nil) (fun _ _ _ _ _ => (pd_op op_addX add_r (pd_l (pv 4)) (val_look (pd_tup (pad_cons (pd_v (pv 5)) pad_nil)))))))))
    (sd_freeze (i := 1) (sd_one (sd_ret (pd_v (pv 1)))))))
abbrev N_can_go_on : List Str := ["left", "standing", "many", "wagons", "lows", "top", "last", "wagon", "low"]
theorem sc_can_go_on : FnScope N_can_go_on ["left", "standing", "many"] (defScope (top 82)) := ⟨rfl, rfl, rfl, by decide +kernel, rfl, by decide +kernel, by decide +kernel⟩
def den_can_go_on : FDen := fnD 3 6 (thenS (forS (dIt asList (dV 0)) (tgN 3) (thenS (setS 4 (dCall den_least_places (dCons (dV 3) (dCons (dV 1) dNil))))
    (thenS (setS 5 (dCB (oneArg maxLD) (dCons (dL 4) dNil)))
    (thenS (ifS (dT (dBin geD (dL 5) (dL 2))) (retS (dC (.bl false))) skipS)
    (thenS (setS 6 (dBin ixD (dN2V (dComp (dZipX (dCons (dV 3) (dCons (dV 4) dNil))) [7, 8] (tgT [7, 8]) (dT (dBin eqD (dL 8) (dL 5))) (dV 7))) (dUn negD (dC (.int 1)))))
    (setS 1 (dTup (dCons (dV 5) (dCons (dV 6) dNil)))))))))
    (retS (dC (.bl true))))
theorem ok_can_go_on (T : Txt K mg base) : Fd P w K mg base "can_go_on" 2 3 den_can_go_on := by
  obtain ⟨a, fd, F, hm, hb⟩ := T.f_can_go_on
  refine Fd.mk' F sc_can_go_on hm hb rfl rfl fun cdv A outer s H E hr => ?_
  have tk := takes_of (X := cxOf (L2.CX P w) P w K mg base N_can_go_on "can_go_on" (defScope (top 82)) a cdv A outer s H E) rfl rfl rfl rfl
  exact (sd_cons (sd_for (passes_of rfl) rfl (it_list (pd_v (pv 0))) (tg_name (i := 3) sc_can_go_on.nd rfl (.inl rfl)) (sd_cons (sd_set (i := 4) sc_can_go_on.nd rfl (.inl rfl) (pd_call (ok_least_places T) (hr.mono (by decide)) tk (by rfl) (pad_cons (pd_v (pv 3)) (pad_cons (pd_v (pv 1)) pad_nil)) (dlen_cons (dlen_cons dlen_nil))))
    (sd_cons (sd_set (i := 5) sc_can_go_on.nd rfl (.inr rfl) (pd_callB (cr_max rfl) maxL_r (by rfl) T.b_max (by decide +kernel) (pal_cons (pd_l (pv 4)) pal_nil)))
    (sd_cons (sd_if (pt_cmpD op_ge ge_r (pd_l (pv 5)) (pd_l (pv 2)) (nomark _)) (sd_one (sd_ret pd_bl)) sd_nil)
    (sd_cons (sd_set (i := 6) sc_can_go_on.nd rfl (.inl rfl) (pd_ix (new_look (pd_comp (own := [("wagon", 7), ("low", 8)]) (vs := [7, 8]) rfl sc_can_go_on.nd (it_zipX (by rfl) T.b_zip (pad_cons (pd_v (pv 3)) (pad_cons (pd_v (pv 4)) pad_nil))) rfl (blkOk_by (own := [("wagon", 7), ("low", 8)]) (N := N_can_go_on) (sc := defScope (top 82)) (by decide +kernel)) (tgok_t [7, 8]) (fun _ _ _ _ _ => (tg_tup (is := [7, 8]) rfl (pgs_cons (pg_name (i := 7) sc_can_go_on.nd rfl (.inl rfl)) (pgs_cons (pg_name (i := 8) sc_can_go_on.nd rfl (.inl rfl)) pgs_nil)))) (fun _ _ _ _ _ => (ptsd_one (pt_cmpD (op_eqD hr.units) eq_r (pd_l (pv 8)) (pd_l (pv 5)) (nomark _)))) (fun _ _ _ _ _ => (pd_v (pv 7))))) (val_look (pd_neg (val_look pd_int)))))
    (sd_one (sd_set (i := 1) sc_can_go_on.nd rfl (.inl rfl) (pd_tup (pad_cons (pd_v (pv 5)) (pad_cons (pd_v (pv 6)) pad_nil))))))))))
    (sd_one (sd_ret pd_bl)))
abbrev N_part_plans : List Str := ["groups", "codes", "left", "found", "done", "wagons", "later", "standing", "chosen", "behind", "spans", "row", "new", "wagon", "place"]
theorem sc_part_plans : FnScope N_part_plans ["groups", "codes"] (defScope (top 81)) := ⟨rfl, rfl, rfl, by decide +kernel, rfl, by decide +kernel, by decide +kernel⟩
def den_part_plans : FDen := fnD 2 13 (thenS (setS 2 (dCall den_classes (dCons (dV 0) dNil)))
    (thenS (setS 3 (dN2V (dLst (dCons (dTup (dCons (dC (.tup (([0, -1] : List Int).map .int))) (dCons (dN2V (dNewDct false)) dNil))) dNil))))
    (thenS (forS (dEnum (dV 2)) (tgT [4, 5]) (thenS (setN 6 (dLst dNil))
    (thenS (forS (dIt asList (dV 3)) (tgT [7, 8]) (forS (dIt asList (dCall den_ways_on (dCons (dV 5) (dCons (dV 7) (dCons (dCB (oneArg lenD) (dCons (dL 1) dNil)) dNil))))) (tgT [9, 10]) (ifS (dT (dCall den_can_go_on (dCons (dN2V (dSl slN (dL 2) (dPart (dBin addD (dL 4) (dC (.int 1)))) dNoPart)) (dCons (dV 9) (dCons (dCB (oneArg lenD) (dCons (dL 1) dNil)) dNil))))) (forS (dIt asList (dCall den_spread (dCons (dV 10) dNil))) (tgN 11) (thenS (setN 12 (dCB dctCopy (dCons (dL 8) dNil)))
    (thenS (forS (dZipX (dCons (dV 5) (dCons (dV 11) dNil))) (tgT [13, 14]) (dputS 12 (dL 13) (dBin ixD (dL 1) (dL 14))))
    (sealT 12 (appS 6 (dCons (dTup (dCons (dV 9) (dCons (dV 12) dNil))) dNil)))))) skipS)))
    (freezeS 6 (setS 3 (dV 6))))))
    (retS (dN2V (dComp (dIt asList (dV 3)) [7, 8] (tgT [7, 8]) dYes (dV 8)))))))
theorem ok_part_plans (T : Txt K mg base) : Fd P w K mg base "part_plans" 3 2 den_part_plans := by
  obtain ⟨a, fd, F, hm, hb⟩ := T.f_part_plans
  refine Fd.mk' F sc_part_plans hm hb rfl rfl fun cdv A outer s H E hr => ?_
  have tk := takes_of (X := cxOf (L2.CX P w) P w K mg base N_part_plans "part_plans" (defScope (top 81)) a cdv A outer s H E) rfl rfl rfl rfl
  exact (sd_cons (sd_set (i := 2) sc_part_plans.nd rfl (.inl rfl) (pd_call (ok_classes T) (hr.mono (by decide)) tk (by rfl) (pad_cons (pd_v (pv 0)) pad_nil) (dlen_cons dlen_nil)))
    (sd_cons (sd_set (i := 3) sc_part_plans.nd rfl (.inl rfl) (new_val (pd_lst (pad_cons (pd_tup (pad_cons (pd_gtup rfl T.gt_FIRST) (pad_cons (new_val pd_newD) pad_nil))) pad_nil))))
    (sd_cons (sd_for (passes_of rfl) rfl (it_enumL (by rfl) T.b_enumerate (pd_v (pv 2))) (tg_tup (is := [4, 5]) rfl (pgs_cons (pg_name (i := 4) sc_part_plans.nd rfl (.inl rfl)) (pgs_cons (pg_name (i := 5) sc_part_plans.nd rfl (.inl rfl)) pgs_nil))) (sd_cons (sd_setN (i := 6) sc_part_plans.nd rfl (.inl rfl) (pd_lst pad_nil))
    (sd_cons (sd_for (passes_of rfl) rfl (it_list (pd_v (pv 3))) (tg_tup (is := [7, 8]) rfl (pgs_cons (pg_name (i := 7) sc_part_plans.nd rfl (.inl rfl)) (pgs_cons (pg_name (i := 8) sc_part_plans.nd rfl (.inl rfl)) pgs_nil))) (sd_one (sd_for (passes_of rfl) rfl (it_list (pd_call (ok_ways_on T) (hr.mono (by decide)) tk (by rfl) (pad_cons (pd_v (pv 5)) (pad_cons (pd_v (pv 7)) (pad_cons (pd_callB call_len_seq len_r (by rfl) T.b_len (by decide +kernel) (pal_cons (pd_l (pv 1)) pal_nil)) pad_nil))) (dlen_cons (dlen_cons (dlen_cons dlen_nil))))) (tg_tup (is := [9, 10]) rfl (pgs_cons (pg_name (i := 9) sc_part_plans.nd rfl (.inl rfl)) (pgs_cons (pg_name (i := 10) sc_part_plans.nd rfl (.inl rfl)) pgs_nil))) (sd_one (sd_if (pt_bl (pd_call (ok_can_go_on T) (hr.mono (by decide)) tk (by rfl) (pad_cons (new_val (pd_slN (pd_l (pv 2)) (pod_some (val_look (pd_op op_addX add_r (pd_l (pv 4)) (val_look pd_int)))) pod_none)) (pad_cons (pd_v (pv 9)) (pad_cons (pd_callB call_len_seq len_r (by rfl) T.b_len (by decide +kernel) (pal_cons (pd_l (pv 1)) pal_nil)) pad_nil))) (dlen_cons (dlen_cons (dlen_cons dlen_nil))))) (sd_one (sd_for (passes_of rfl) rfl (it_list (pd_call (ok_spread T) (hr.mono (by decide)) tk (by rfl) (pad_cons (pd_v (pv 10)) pad_nil) (dlen_cons dlen_nil))) (tg_name (i := 11) sc_part_plans.nd rfl (.inl rfl)) (sd_cons (sd_setN (i := 12) sc_part_plans.nd rfl (.inl rfl) (pd_callTyN call_dictD dctCopy_r (by rfl) T.b_dict (by decide +kernel) (pal_cons (pd_l (pv 8)) pal_nil)))
    (sd_cons (sd_for (passes_of rfl) rfl (it_zipX (by rfl) T.b_zip (pad_cons (pd_v (pv 5)) (pad_cons (pd_v (pv 11)) pad_nil))) (tg_tup (is := [13, 14]) rfl (pgs_cons (pg_name (i := 13) sc_part_plans.nd rfl (.inl rfl)) (pgs_cons (pg_name (i := 14) sc_part_plans.nd rfl (.inl rfl)) pgs_nil))) (sd_one (sd_dput (hu1 hr) (pv 12) (pd_l (pv 13)) (pd_ix (pd_l (pv 1)) (pd_l (pv 14))))))
    (sd_sealT (i := 12) (sd_one (sd_append (pv 6) (pad_cons (pd_tup (pad_cons (pd_v (pv 9)) (pad_cons (pd_v (pv 12)) pad_nil))) pad_nil) (fun _ _ a b => ps_expr (pe_bm PySem.F.plainAttrs_list PySem.F.slot_list_append PySem.F.type_list_append mt_append a b))))))))) sd_nil)))))
    (sd_freeze (i := 6) (sd_one (sd_set (i := 3) sc_part_plans.nd rfl (.inl rfl) (pd_v (pv 6))))))))
    (sd_one (sd_ret (new_val (pd_comp (own := [("standing", 7), ("chosen", 8)]) (vs := [7, 8]) rfl sc_part_plans.nd (it_list (pd_v (pv 3))) rfl (blkOk_by (own := [("standing", 7), ("chosen", 8)]) (N := N_part_plans) (sc := defScope (top 81)) (by decide +kernel)) (tgok_t [7, 8]) (fun _ _ _ _ _ => (tg_tup (is := [7, 8]) rfl (pgs_cons (pg_name (i := 7) sc_part_plans.nd rfl (.inl rfl)) (pgs_cons (pg_name (i := 8) sc_part_plans.nd rfl (.inl rfl)) pgs_nil)))) (fun _ _ _ _ _ => ptsd_nil) (fun _ _ _ _ _ => (pd_v (pv 8))))))))))
abbrev N_plans : List Str := ["row", "h", "tracks", "codes", "found", "chosen", "wagon"]
theorem sc_plans : FnScope N_plans ["row", "h", "tracks"] (defScope (top 83)) := ⟨rfl, rfl, rfl, by decide +kernel, rfl, by decide +kernel, by decide +kernel⟩
def den_plans : FDen := fnD 3 4 (thenS (exprS (dCall den_check_all (dCons (dV 0) (dCons (dV 1) (dCons (dV 2) dNil)))))
    (thenS (setS 3 (dCall den_allowed_codes (dCons (dV 1) (dCons (dV 2) dNil))))
    (thenS (ifS (dT (dBin gtD (dCall den_count_plans (dCons (dUn heldD (dL 0)) (dCons (dCB (oneArg lenD) (dCons (dL 3) dNil)) dNil))) (dC (.int 60)))) (raiseS "TooMany") skipS)
    (thenS (setS 4 (dCall den_part_plans (dCons (dUn heldD (dL 0)) (dCons (dV 3) dNil))))
    (retS (dN2V (dCB (oneArg sortedTN) (dCons (dN2V (dComp (dIt asList (dV 4)) [5] (tgN 5) dYes (dCB (oneArg tupleD) (dCons (dN2V (dComp (dRng rng1 (dCons (dCB (oneArg lenD) (dCons (dUn heldD (dL 0)) dNil)) dNil)) [6] (tgN 6) dYes (dBin dgetK (dL 5) (dL 6)))) dNil)))) dNil))))))))
theorem ok_plans (T : Txt K mg base) : Fd P w K mg base "plans" 5 3 den_plans := by
  obtain ⟨a, fd, F, hm, hb⟩ := T.f_plans
  refine Fd.mk' F sc_plans hm hb rfl rfl fun cdv A outer s H E hr => ?_
  have tk := takes_of (X := cxOf (L2.CX P w) P w K mg base N_plans "plans" (defScope (top 83)) a cdv A outer s H E) rfl rfl rfl rfl
  exact (sd_cons (sd_expr (pd_call (ok_check_all T) (hr.mono (by decide)) tk (by rfl) (pad_cons (pd_v (pv 0)) (pad_cons (pd_v (pv 1)) (pad_cons (pd_v (pv 2)) pad_nil))) (dlen_cons (dlen_cons (dlen_cons dlen_nil)))))
    (sd_cons (sd_set (i := 3) sc_plans.nd rfl (.inl rfl) (pd_call (ok_allowed_codes T) (hr.mono (by decide)) tk (by rfl) (pad_cons (pd_v (pv 1)) (pad_cons (pd_v (pv 2)) pad_nil)) (dlen_cons (dlen_cons dlen_nil))))
    (sd_cons (sd_if (pt_cmpD op_gt gt_r (val_look (pd_call (ok_count_plans T) (hr.mono (by decide)) tk (by rfl) (pad_cons (pd_held T.row (pd_l (pv 0))) (pad_cons (pd_callB call_len_seq len_r (by rfl) T.b_len (by decide +kernel) (pal_cons (pd_l (pv 3)) pal_nil)) pad_nil)) (dlen_cons (dlen_cons dlen_nil)))) (val_look (pd_gint rfl T.g_MOST_PLANS)) (nomark _)) (sd_one (sd_raise0 T.e_TooMany rfl tk (by rfl))) sd_nil)
    (sd_cons (sd_set (i := 4) sc_plans.nd rfl (.inl rfl) (pd_call (ok_part_plans T) (hr.mono (by decide)) tk (by rfl) (pad_cons (pd_held T.row (pd_l (pv 0))) (pad_cons (pd_v (pv 3)) pad_nil)) (dlen_cons (dlen_cons dlen_nil))))
    (sd_one (sd_ret (new_val (pd_callBN (cr_sortedTup (hu3 hr)) sortedTup_r (by rfl) T.b_sorted (by decide +kernel) (pal_cons (new_look (pd_comp (own := [("chosen", 5)]) (vs := [5]) rfl sc_plans.nd (it_list (pd_v (pv 4))) rfl (blkOk_by (own := [("chosen", 5)]) (N := N_plans) (sc := defScope (top 83)) (by decide +kernel)) (tgok_n 5) (fun _ _ _ _ _ => (tg_name (i := 5) sc_plans.nd rfl (.inr rfl))) (fun _ _ _ _ _ => ptsd_nil) (fun _ _ _ _ _ => (pd_callTy call_tuple_of tuple_r (by rfl) T.b_tuple (by decide +kernel) (pal_cons (new_look (pd_comp (own := [("wagon", 6)]) (vs := [6]) rfl sc_plans.nd (it_rng1 (by rfl) T.b_range (pal_cons (val_look (pd_callB call_len_seq len_r (by rfl) T.b_len (by decide +kernel) (pal_cons (val_look (pd_held T.row (pd_l (pv 0)))) pal_nil))) pal_nil)) rfl (blkOk_n (own := [("wagon", 6)]) (N := N_plans) (by decide +kernel) (by rfl)) (tgok_n 6) (fun _ _ _ _ _ => (tg_name (i := 6) sc_plans.nd rfl (.inl rfl))) (fun _ _ _ _ _ => ptsd_nil) (fun _ _ _ _ _ => (pd_dgetK (hu1 hr) (pd_l (pv 5)) (pd_l (pv 6)))))) pal_nil))))) pal_nil)))))))))
abbrev N_cheapest : List Str := ["codes", "span", "place"]
theorem sc_cheapest : FnScope N_cheapest ["codes", "span"] (defScope (top 84)) := ⟨rfl, rfl, rfl, by decide +kernel, rfl, by decide +kernel, by decide +kernel⟩
def den_cheapest : FDen := fnD 2 1 (retS (dMinK 1 "cheapest" "cheapest.<locals>.<lambda>" (dCB (oneArg lenD) (dCons (dCall den_stops_of (dCons (dV 0) dNil)) dNil)) (dCons (dN2V (dComp (dRng rng2 (dCons (dBin ixD (dL 1) (dC (.int 0))) (dCons (dBin addD (dBin ixD (dL 1) (dC (.int 1))) (dC (.int 1))) dNil))) [2] (tgN 2) dYes (dBin ixD (dL 0) (dL 2)))) dNil)))
theorem ok_cheapest (T : Txt K mg base) : Fd P w K mg base "cheapest" 4 2 den_cheapest := by
  obtain ⟨a, fd, F, hm, hb⟩ := T.f_cheapest
  refine Fd.mkT F sc_cheapest hm hb T.tab_cheapest rfl rfl fun cdv A outer s H E hr tx => ?_
  have tk := takes_of (X := cxOf (L2.CX P w) P w K mg base N_cheapest "cheapest" (defScope (top 84)) a cdv A outer s H E) rfl rfl rfl rfl
  exact (sd_one (sd_ret (pd_minLam (t := 1) (k := 1) (q := "cheapest.<locals>.<lambda>") (hr.mono (by decide)) tx (by rfl) (by rfl) T.b_min (pal_cons (new_look (pd_comp (own := [("place", 2)]) (vs := [2]) rfl sc_cheapest.nd (it_rng2 (by rfl) T.b_range (pal_cons (val_look (pd_ix (pd_l (pv 1)) (val_look pd_int))) (pal_cons (val_look (pd_op op_addX add_r (val_look (pd_ix (pd_l (pv 1)) (val_look pd_int))) (val_look pd_int))) pal_nil))) rfl (blkOk_by (own := [("place", 2)]) (N := N_cheapest) (sc := defScope (top 84)) (by decide +kernel)) (tgok_n 2) (fun _ _ _ _ _ => (tg_name (i := 2) sc_cheapest.nd rfl (.inl rfl))) (fun _ _ _ _ _ => ptsd_nil) (fun _ _ _ _ _ => (pd_ix (pd_l (pv 0)) (pd_l (pv 2)))))) pal_nil) (fun f c' s H => (pd_callB call_len_seq len_r (by rfl) T.b_len (by decide +kernel) (pal_cons (val_look (pd_call (ok_stops_of T) (((hr.mono (j := 3) (by decide)).in1.deeper _).mono (by decide)) takes0 (by rfl) (pad_cons (pd_v (pv 0)) pad_nil) (dlen_cons dlen_nil))) pal_nil))) (NdefX.nscope_by (by decide +kernel)))))
abbrev N_light_plans : List Str := ["groups", "codes", "found", "wagons", "later", "standing", "behind", "spans", "cost", "chosen", "new", "wagon", "span"]
theorem sc_light_plans : FnScope N_light_plans ["groups", "codes"] (defScope (top 85)) := ⟨rfl, rfl, rfl, by decide +kernel, rfl, by decide +kernel, by decide +kernel⟩
def den_light_plans : FDen := fnD 2 11 (thenS (setN 2 (dNDisp (dC (.tup (([0, -1] : List Int).map .int))) (dTup (dCons (dC (.int 0)) (dCons (dN2V (dNewDct false)) dNil)))))
    (thenS (forS (dIt asList (dCall den_classes (dCons (dV 0) dNil))) (tgN 3) (thenS (setN 4 (dNewDct true))
    (sealT 2 (thenS (forS (dIt asLdcN (dV 2)) (tgN 5) (forS (dIt asList (dCall den_ways_on (dCons (dV 3) (dCons (dV 5) (dCons (dCB (oneArg lenD) (dCons (dL 1) dNil)) dNil))))) (tgT [6, 7]) (thenS (unS [8, 9] (dBin dgetN (dL 2) (dL 5)))
    (thenS (setN 10 (dCB dctCopy (dCons (dL 9) dNil)))
    (thenS (forS (dZipX (dCons (dV 3) (dCons (dV 7) dNil))) (tgT [11, 12]) (thenS (dputS 10 (dL 11) (dCall den_cheapest (dCons (dV 1) (dCons (dV 12) dNil))))
    (augS 8 ipAddD (dCB (oneArg lenD) (dCons (dCall den_stops_of (dCons (dBin dgetK (dL 10) (dL 11)) dNil)) dNil)))))
    (ifS (dOrT (dT (dBin dnotinN (dL 6) (dL 4))) (dT (dBin ltD (dL 8) (dBin ixD (dBin dgetN (dL 4) (dL 6)) (dC (.int 0)))))) (sealT 10 (dputN 4 (dL 6) (dTup (dCons (dV 8) (dCons (dV 10) dNil))))) skipS))))))
    (sealT 4 (setS 2 (dV 4)))))))
    (sealT 2 (retS (dV 2)))))
theorem ok_light_plans (T : Txt K mg base) : Fd P w K mg base "light_plans" 5 2 den_light_plans := by
  obtain ⟨a, fd, F, hm, hb⟩ := T.f_light_plans
  refine Fd.mk' F sc_light_plans hm hb rfl rfl fun cdv A outer s H E hr => ?_
  have tk := takes_of (X := cxOf (L2.CX P w) P w K mg base N_light_plans "light_plans" (defScope (top 85)) a cdv A outer s H E) rfl rfl rfl rfl
  exact (sd_cons (sd_setN (i := 2) sc_light_plans.nd rfl (.inl rfl) (pd_ndisp (hu9 hr) (pd_gtup rfl T.gt_FIRST) (pd_tup (pad_cons pd_int (pad_cons (new_val pd_newD) pad_nil)))))
    (sd_cons (sd_for (passes_of rfl) rfl (it_list (pd_call (ok_classes T) (hr.mono (by decide)) tk (by rfl) (pad_cons (pd_v (pv 0)) pad_nil) (dlen_cons dlen_nil))) (tg_name (i := 3) sc_light_plans.nd rfl (.inl rfl)) (sd_cons (sd_setN (i := 4) sc_light_plans.nd rfl (.inl rfl) pd_newDN)
    (sd_sealT (i := 2) (sd_cons (sd_for (passes_of rfl) rfl (it_ldcN (pd_v (pv 2))) (tg_name (i := 5) sc_light_plans.nd rfl (.inl rfl)) (sd_one (sd_for (passes_of rfl) rfl (it_list (pd_call (ok_ways_on T) (hr.mono (by decide)) tk (by rfl) (pad_cons (pd_v (pv 3)) (pad_cons (pd_v (pv 5)) (pad_cons (pd_callB call_len_seq len_r (by rfl) T.b_len (by decide +kernel) (pal_cons (pd_l (pv 1)) pal_nil)) pad_nil))) (dlen_cons (dlen_cons (dlen_cons dlen_nil))))) (tg_tup (is := [6, 7]) rfl (pgs_cons (pg_name (i := 6) sc_light_plans.nd rfl (.inl rfl)) (pgs_cons (pg_name (i := 7) sc_light_plans.nd rfl (.inl rfl)) pgs_nil))) (sd_cons (sd_unT (is := [8, 9]) (pd_dgetN (hu9 hr) (pd_l (pv 2)) (pd_l (pv 5))) rfl (pgs_cons (pg_name (i := 8) sc_light_plans.nd rfl (.inl rfl)) (pgs_cons (pg_name (i := 9) sc_light_plans.nd rfl (.inl rfl)) pgs_nil)) (fun _ _ a b => ps_asg a b))
    (sd_cons (sd_setN (i := 10) sc_light_plans.nd rfl (.inl rfl) (pd_callTyN call_dictD dctCopy_r (by rfl) T.b_dict (by decide +kernel) (pal_cons (pd_l (pv 9)) pal_nil)))
    (sd_cons (sd_for (passes_of rfl) rfl (it_zipX (by rfl) T.b_zip (pad_cons (pd_v (pv 3)) (pad_cons (pd_v (pv 7)) pad_nil))) (tg_tup (is := [11, 12]) rfl (pgs_cons (pg_name (i := 11) sc_light_plans.nd rfl (.inl rfl)) (pgs_cons (pg_name (i := 12) sc_light_plans.nd rfl (.inl rfl)) pgs_nil))) (sd_cons (sd_dput (hu1 hr) (pv 10) (pd_l (pv 11)) (pd_call (ok_cheapest T) (hr.mono (by decide)) tk (by rfl) (pad_cons (pd_v (pv 1)) (pad_cons (pd_v (pv 12)) pad_nil)) (dlen_cons (dlen_cons dlen_nil))))
    (sd_one (sd_aug (i := 8) sc_light_plans.nd rfl (.inl rfl) (val_look (pd_callB call_len_seq len_r (by rfl) T.b_len (by decide +kernel) (pal_cons (val_look (pd_call (ok_stops_of T) (hr.mono (by decide)) tk (by rfl) (pad_cons (pd_dgetK (hu1 hr) (pd_l (pv 10)) (pd_l (pv 11))) pad_nil) (dlen_cons dlen_nil))) pal_nil))) ip_add ipadd_r))))
    (sd_one (sd_if (PW.pt (pwd_or (ptd_dnotinN (hu9 hr) (pd_l (pv 6)) (pd_l (pv 4)) (by rfl)) (pw_or1 (pt_cmpD op_lt lt_r (pd_l (pv 8)) (val_look (pd_ix (val_look (pd_dgetN (hu9 hr) (pd_l (pv 4)) (pd_l (pv 6)))) (val_look pd_int))) (nomark _))))) (sd_sealT (i := 10) (sd_one (sd_dputN (hu9 hr) (pv 4) (pd_l (pv 6)) (pd_tup (pad_cons (pd_v (pv 8)) (pad_cons (pd_v (pv 10)) pad_nil)))))) sd_nil))))))))
    (sd_sealT (i := 4) (sd_one (sd_set (i := 2) sc_light_plans.nd rfl (.inl rfl) (pd_v (pv 4)))))))))
    (sd_sealT (i := 2) (sd_one (sd_ret (pd_v (pv 2)))))))
abbrev N_lightest_of : List Str := ["row", "h", "tracks", "found", "best", "chosen", "standing", "wagon"]
theorem sc_lightest_of : FnScope N_lightest_of ["row", "h", "tracks"] (defScope (top 86)) := ⟨rfl, rfl, rfl, by decide +kernel, rfl, by decide +kernel, by decide +kernel⟩
def den_lightest_of : FDen := fnD 3 5 (thenS (exprS (dCall den_check_all (dCons (dV 0) (dCons (dV 1) (dCons (dV 2) dNil)))))
    (thenS (setS 3 (dCall den_light_plans (dCons (dUn heldD (dL 0)) (dCons (dCall den_allowed_codes (dCons (dV 1) (dCons (dV 2) dNil))) dNil))))
    (thenS (ifS (dNotT (dTruN (dL 3))) (raiseS "NoPlan") skipS)
    (thenS (setS 4 (dCB (oneArg minLD) (dCons (dN2V (dComp (dIt asLdcN (dV 3)) [6] (tgN 6) dYes (dBin ixD (dBin dgetN (dL 3) (dL 6)) (dC (.int 0))))) dNil)))
    (thenS (setS 5 (dBin ixD (dN2V (dComp (dIt asLdcN (dV 3)) [6] (tgN 6) (dT (dBin eqD (dBin ixD (dBin dgetN (dL 3) (dL 6)) (dC (.int 0))) (dL 4))) (dBin ixD (dBin dgetN (dL 3) (dL 6)) (dC (.int 1))))) (dC (.int 0))))
    (retS (dTup (dCons (dV 4) (dCons (dCB (oneArg tupleD) (dCons (dN2V (dComp (dRng rng1 (dCons (dCB (oneArg lenD) (dCons (dUn heldD (dL 0)) dNil)) dNil)) [7] (tgN 7) dYes (dBin dgetK (dL 5) (dL 7)))) dNil)) dNil)))))))))
theorem ok_lightest_of (T : Txt K mg base) : Fd P w K mg base "lightest_of" 6 3 den_lightest_of := by
  obtain ⟨a, fd, F, hm, hb⟩ := T.f_lightest_of
  refine Fd.mk' F sc_lightest_of hm hb rfl rfl fun cdv A outer s H E hr => ?_
  have tk := takes_of (X := cxOf (L2.CX P w) P w K mg base N_lightest_of "lightest_of" (defScope (top 86)) a cdv A outer s H E) rfl rfl rfl rfl
  exact (sd_cons (sd_expr (pd_call (ok_check_all T) (hr.mono (by decide)) tk (by rfl) (pad_cons (pd_v (pv 0)) (pad_cons (pd_v (pv 1)) (pad_cons (pd_v (pv 2)) pad_nil))) (dlen_cons (dlen_cons (dlen_cons dlen_nil)))))
    (sd_cons (sd_set (i := 3) sc_lightest_of.nd rfl (.inr rfl) (pd_call (ok_light_plans T) (hr.mono (by decide)) tk (by rfl) (pad_cons (pd_held T.row (pd_l (pv 0))) (pad_cons (pd_call (ok_allowed_codes T) (hr.mono (by decide)) tk (by rfl) (pad_cons (pd_v (pv 1)) (pad_cons (pd_v (pv 2)) pad_nil)) (dlen_cons (dlen_cons dlen_nil))) pad_nil)) (dlen_cons (dlen_cons dlen_nil))))
    (sd_cons (sd_if (ptd_not (pt_truN (pd_l (pv 3)))) (sd_one (sd_raise0 T.e_NoPlan rfl tk (by rfl))) sd_nil)
    (sd_cons (sd_set (i := 4) sc_lightest_of.nd rfl (.inr rfl) (pd_callB (cr_min rfl) minL_r (by rfl) T.b_min (by decide +kernel) (pal_cons (new_look (pd_comp (own := [("standing", 6)]) (vs := [6]) rfl sc_lightest_of.nd (it_ldcN (pd_v (pv 3))) rfl (blkOk_by (own := [("standing", 6)]) (N := N_lightest_of) (sc := defScope (top 86)) (by decide +kernel)) (tgok_n 6) (fun _ _ _ _ _ => (tg_name (i := 6) sc_lightest_of.nd rfl (.inl rfl))) (fun _ _ _ _ _ => ptsd_nil) (fun _ _ _ _ _ => (pd_ix (val_look (pd_dgetN (hu9 hr) (pd_l (pv 3)) (pd_l (pv 6)))) (val_look pd_int))))) pal_nil)))
    (sd_cons (sd_set (i := 5) sc_lightest_of.nd rfl (.inr rfl) (pd_ix (new_look (pd_comp (own := [("standing", 6)]) (vs := [6]) rfl sc_lightest_of.nd (it_ldcN (pd_v (pv 3))) rfl (blkOk_by (own := [("standing", 6)]) (N := N_lightest_of) (sc := defScope (top 86)) (by decide +kernel)) (tgok_n 6) (fun _ _ _ _ _ => (tg_name (i := 6) sc_lightest_of.nd rfl (.inl rfl))) (fun _ _ _ _ _ => (ptsd_one (pt_cmpD (op_eqD hr.units) eq_r (val_look (pd_ix (val_look (pd_dgetN (hu9 hr) (pd_l (pv 3)) (pd_l (pv 6)))) (val_look pd_int))) (pd_l (pv 4)) (nomark _)))) (fun _ _ _ _ _ => (pd_ix (val_look (pd_dgetN (hu9 hr) (pd_l (pv 3)) (pd_l (pv 6)))) (val_look pd_int))))) (val_look pd_int)))
    (sd_one (sd_ret (pd_tup (pad_cons (pd_v (pv 4)) (pad_cons (pd_callTy call_tuple_of tuple_r (by rfl) T.b_tuple (by decide +kernel) (pal_cons (new_look (pd_comp (own := [("wagon", 7)]) (vs := [7]) rfl sc_lightest_of.nd (it_rng1 (by rfl) T.b_range (pal_cons (val_look (pd_callB call_len_seq len_r (by rfl) T.b_len (by decide +kernel) (pal_cons (val_look (pd_held T.row (pd_l (pv 0)))) pal_nil))) pal_nil)) rfl (blkOk_by (own := [("wagon", 7)]) (N := N_lightest_of) (sc := defScope (top 86)) (by decide +kernel)) (tgok_n 7) (fun _ _ _ _ _ => (tg_name (i := 7) sc_lightest_of.nd rfl (.inl rfl))) (fun _ _ _ _ _ => ptsd_nil) (fun _ _ _ _ _ => (pd_dgetK (hu1 hr) (pd_l (pv 5)) (pd_l (pv 7)))))) pal_nil)) pad_nil))))))))))
abbrev N_least_pushes : List Str := ["row", "h", "tracks"]
theorem sc_least_pushes : FnScope N_least_pushes ["row", "h", "tracks"] (defScope (top 87)) := ⟨rfl, rfl, rfl, by decide +kernel, rfl, by decide +kernel, by decide +kernel⟩
def den_least_pushes : FDen := fnD 3 0 (retS (dBin ixD (dCall den_lightest_of (dCons (dV 0) (dCons (dV 1) (dCons (dV 2) dNil)))) (dC (.int 0))))
theorem ok_least_pushes (T : Txt K mg base) : Fd P w K mg base "least_pushes" 7 3 den_least_pushes := by
  obtain ⟨a, fd, F, hm, hb⟩ := T.f_least_pushes
  refine Fd.mk' F sc_least_pushes hm hb rfl rfl fun cdv A outer s H E hr => ?_
  have tk := takes_of (X := cxOf (L2.CX P w) P w K mg base N_least_pushes "least_pushes" (defScope (top 87)) a cdv A outer s H E) rfl rfl rfl rfl
  exact (sd_one (sd_ret (pd_ix (val_look (pd_call (ok_lightest_of T) (hr.mono (by decide)) tk (by rfl) (pad_cons (pd_v (pv 0)) (pad_cons (pd_v (pv 1)) (pad_cons (pd_v (pv 2)) pad_nil))) (dlen_cons (dlen_cons (dlen_cons dlen_nil))))) (val_look pd_int))))
abbrev N_lightest : List Str := ["row", "h", "tracks"]
theorem sc_lightest : FnScope N_lightest ["row", "h", "tracks"] (defScope (top 88)) := ⟨rfl, rfl, rfl, by decide +kernel, rfl, by decide +kernel, by decide +kernel⟩
def den_lightest : FDen := fnD 3 0 (retS (dBin ixD (dCall den_lightest_of (dCons (dV 0) (dCons (dV 1) (dCons (dV 2) dNil)))) (dC (.int 1))))
theorem ok_lightest (T : Txt K mg base) : Fd P w K mg base "lightest" 7 3 den_lightest := by
  obtain ⟨a, fd, F, hm, hb⟩ := T.f_lightest
  refine Fd.mk' F sc_lightest hm hb rfl rfl fun cdv A outer s H E hr => ?_
  have tk := takes_of (X := cxOf (L2.CX P w) P w K mg base N_lightest "lightest" (defScope (top 88)) a cdv A outer s H E) rfl rfl rfl rfl
  exact (sd_one (sd_ret (pd_ix (val_look (pd_call (ok_lightest_of T) (hr.mono (by decide)) tk (by rfl) (pad_cons (pd_v (pv 0)) (pad_cons (pd_v (pv 1)) (pad_cons (pd_v (pv 2)) pad_nil))) (dlen_cons (dlen_cons (dlen_cons dlen_nil))))) (val_look pd_int))))
abbrev N_with_wagon : List Str := ["state", "wagon", "place", "code", "low", "last", "top", "end", "counts", "new", "stop"]
theorem sc_with_wagon : FnScope N_with_wagon ["state", "wagon", "place", "code"] (defScope (top 89)) := ⟨rfl, rfl, rfl, by decide +kernel, rfl, by decide +kernel, by decide +kernel⟩
def den_with_wagon : FDen := fnD 4 7 (thenS (unS [4, 5, 6, 7, 8] (dV 0))
    (thenS (setN 9 (dCB (oneArg listN) (dCons (dL 8) dNil)))
    (thenS (forS (dIt asList (dCall den_stops_of (dCons (dV 3) dNil))) (tgN 10) (iaugS 9 (dBin subD (dL 10) (dC (.int 1))) (dC (.int 1))))
    (thenS (ifS (dOrT (dT (dBin gtD (dL 2) (dL 6))) (dAndT (dT (dBin eqD (dL 2) (dL 6))) (dT (dBin gtD (dL 1) (dL 7))))) (parS [6, 7] (dCons (dItV (dV 2)) (dCons (dItV (dV 1)) dNil))) skipS)
    (retS (dTup (dCons (dV 4) (dCons (dV 5) (dCons (dV 6) (dCons (dV 7) (dCons (dCB (oneArg tupleD) (dCons (dL 9) dNil)) dNil)))))))))))
theorem ok_with_wagon (T : Txt K mg base) : Fd P w K mg base "with_wagon" 2 4 den_with_wagon := by
  obtain ⟨a, fd, F, hm, hb⟩ := T.f_with_wagon
  refine Fd.mk' F sc_with_wagon hm hb rfl rfl fun cdv A outer s H E hr => ?_
  have tk := takes_of (X := cxOf (L2.CX P w) P w K mg base N_with_wagon "with_wagon" (defScope (top 89)) a cdv A outer s H E) rfl rfl rfl rfl
  exact (sd_cons (sd_unT (is := [4, 5, 6, 7, 8]) (pd_v (pv 0)) rfl (pgs_cons (pg_name (i := 4) sc_with_wagon.nd rfl (.inl rfl)) (pgs_cons (pg_name (i := 5) sc_with_wagon.nd rfl (.inl rfl)) (pgs_cons (pg_name (i := 6) sc_with_wagon.nd rfl (.inl rfl)) (pgs_cons (pg_name (i := 7) sc_with_wagon.nd rfl (.inl rfl)) (pgs_cons (pg_name (i := 8) sc_with_wagon.nd rfl (.inl rfl)) pgs_nil))))) (fun _ _ a b => ps_asg a b))
    (sd_cons (sd_setN (i := 9) sc_with_wagon.nd rfl (.inl rfl) (pd_callTyN call_list_of list_r (by rfl) T.b_list (by decide +kernel) (pal_cons (pd_l (pv 8)) pal_nil)))
    (sd_cons (sd_for (passes_of rfl) rfl (it_list (pd_call (ok_stops_of T) (hr.mono (by decide)) tk (by rfl) (pad_cons (pd_v (pv 3)) pad_nil) (dlen_cons dlen_nil))) (tg_name (i := 10) sc_with_wagon.nd rfl (.inl rfl)) (sd_one (sd_iaug (pv 9) (val_look (pd_op op_sub sub_r (pd_l (pv 10)) (val_look pd_int))) (val_look pd_int))))
    (sd_cons (sd_if (PW.pt (pwd_or (pt_cmpD op_gt gt_r (pd_l (pv 2)) (pd_l (pv 6)) (nomark _)) (pw_or1 (PW.pt (pwd_and (pt_cmpD (op_eqD hr.units) eq_r (pd_l (pv 2)) (pd_l (pv 6)) (nomark _)) (pw_and1 (pt_cmpD op_gt gt_r (pd_l (pv 1)) (pd_l (pv 7)) (nomark _)))))))) (sd_one (sd_par2 (i := 6) (j := 7) rfl sc_with_wagon.nd rfl rfl (by decide) rfl rfl (pai_consV (pd_v (pv 2)) (pai_consV (pd_v (pv 1)) pai_nil)) (by rfl))) sd_nil)
    (sd_one (sd_ret (pd_tup (pad_cons (pd_v (pv 4)) (pad_cons (pd_v (pv 5)) (pad_cons (pd_v (pv 6)) (pad_cons (pd_v (pv 7)) (pad_cons (pd_callTy call_tuple_of tuple_r (by rfl) T.b_tuple (by decide +kernel) (pal_cons (pd_l (pv 9)) pal_nil)) pad_nil))))))))))))
abbrev N_loads_of : List Str := ["groups", "codes", "h", "states", "wagons", "wagon", "later", "state", "least", "place", "low", "last", "top", "end", "counts"]
theorem sc_loads_of : FnScope N_loads_of ["groups", "codes", "h"] (defScope (top 90)) := ⟨rfl, rfl, rfl, by decide +kernel, rfl, by decide +kernel, by decide +kernel⟩
def den_loads_of : FDen := fnD 3 12 (thenS (setN 3 (dNDisp (dTup (dCons (dC (.int 0)) (dCons (dUn negD (dC (.int 1))) (dCons (dC (.int 0)) (dCons (dUn negD (dC (.int 1))) (dCons (dBin repTYD (dTup (dCons (dC (.int 0)) dNil)) (dL 2)) dNil)))))) (dC (.bl true))))
    (thenS (forS (dIt asList (dCall den_classes (dCons (dV 0) dNil))) (tgN 4) (sealT 3 (thenS (setN 3 (dDcN (dIt asLdcN (dV 3)) [10, 11, 12, 13, 14] (tgT [10, 11, 12, 13, 14]) (dTup (dCons (dV 12) (dCons (dV 13) (dCons (dV 12) (dCons (dV 13) (dCons (dV 14) dNil)))))) (dC (.bl true))))
    (forS (dIt asList (dV 4)) (tgN 5) (thenS (setN 6 (dNewDct true))
    (sealT 3 (thenS (forS (dIt asLdcN (dV 3)) (tgN 7) (thenS (setS 8 (dBin addD (dBin ixD (dL 7) (dC (.int 0))) (dCB (oneArg intD) (dCons (dBin ltD (dL 5) (dBin ixD (dL 7) (dC (.int 1)))) dNil))))
    (forS (dRng rng2 (dCons (dL 8) (dCons (dCB (oneArg lenD) (dCons (dL 1) dNil)) dNil))) (tgN 9) (dputN 6 (dCall den_with_wagon (dCons (dV 7) (dCons (dV 5) (dCons (dV 9) (dCons (dBin ixD (dL 1) (dL 9)) dNil))))) (dC (.bl true))))))
    (sealT 6 (setS 3 (dV 6))))))))))
    (sealT 3 (retS (dN2V (dComp (dIt asLdcN (dV 3)) [7] (tgN 7) dYes (dBin ixD (dL 7) (dC (.int 4)))))))))
theorem ok_loads_of (T : Txt K mg base) : Fd P w K mg base "loads_of" 3 3 den_loads_of := by
  obtain ⟨a, fd, F, hm, hb⟩ := T.f_loads_of
  refine Fd.mk' F sc_loads_of hm hb rfl rfl fun cdv A outer s H E hr => ?_
  have tk := takes_of (X := cxOf (L2.CX P w) P w K mg base N_loads_of "loads_of" (defScope (top 90)) a cdv A outer s H E) rfl rfl rfl rfl
  exact (sd_cons (sd_setN (i := 3) sc_loads_of.nd rfl (.inl rfl) (pd_ndisp (hu9 hr) (pd_tup (pad_cons pd_int (pad_cons (pd_neg (val_look pd_int)) (pad_cons pd_int (pad_cons (pd_neg (val_look pd_int)) (pad_cons (pd_op op_repTY repTY_r (val_look (pd_tup (pad_cons pd_int pad_nil))) (pd_l (pv 2))) pad_nil)))))) pd_bl))
    (sd_cons (sd_for (passes_of rfl) rfl (it_list (pd_call (ok_classes T) (hr.mono (by decide)) tk (by rfl) (pad_cons (pd_v (pv 0)) pad_nil) (dlen_cons dlen_nil))) (tg_name (i := 4) sc_loads_of.nd rfl (.inl rfl)) (sd_sealT (i := 3) (sd_cons (sd_setDcn (i := 3) (own := [("low", 10), ("last", 11), ("top", 12), ("end", 13), ("counts", 14)]) (vs := [10, 11, 12, 13, 14]) (hu9 hr) rfl sc_loads_of.nd rfl rfl (sw_trueD rfl rfl rfl (by decide +kernel)) (it_ldcN (pd_v (pv 3))) rfl (blkOk_by (own := [("low", 10), ("last", 11), ("top", 12), ("end", 13), ("counts", 14)]) (N := N_loads_of) (sc := defScope (top 90)) (by decide +kernel)) (tgok_t [10, 11, 12, 13, 14]) (fun _ _ _ _ _ => (tg_tup (is := [10, 11, 12, 13, 14]) rfl (pgs_cons (pg_name (i := 10) sc_loads_of.nd rfl (.inl rfl)) (pgs_cons (pg_name (i := 11) sc_loads_of.nd rfl (.inl rfl)) (pgs_cons (pg_name (i := 12) sc_loads_of.nd rfl (.inl rfl)) (pgs_cons (pg_name (i := 13) sc_loads_of.nd rfl (.inl rfl)) (pgs_cons (pg_name (i := 14) sc_loads_of.nd rfl (.inl rfl)) pgs_nil))))))) (fun _ _ _ _ _ => (pd_tup (pad_cons (pd_v (pv 12)) (pad_cons (pd_v (pv 13)) (pad_cons (pd_v (pv 12)) (pad_cons (pd_v (pv 13)) (pad_cons (pd_v (pv 14)) pad_nil))))))) (fun _ _ _ _ _ => pd_bl))
    (sd_one (sd_for (passes_of rfl) rfl (it_list (pd_v (pv 4))) (tg_name (i := 5) sc_loads_of.nd rfl (.inl rfl)) (sd_cons (sd_setN (i := 6) sc_loads_of.nd rfl (.inl rfl) pd_newDN)
    (sd_sealT (i := 3) (sd_cons (sd_for (passes_of rfl) rfl (it_ldcN (pd_v (pv 3))) (tg_name (i := 7) sc_loads_of.nd rfl (.inl rfl)) (sd_cons (sd_set (i := 8) sc_loads_of.nd rfl (.inl rfl) (pd_op op_addX add_r (val_look (pd_ix (pd_l (pv 7)) (val_look pd_int))) (val_look (pd_callTy call_int1 int_r (by rfl) T.b_int (by decide +kernel) (pal_cons (val_look (pd_cmp op_lt lt_r (pd_l (pv 5)) (val_look (pd_ix (pd_l (pv 7)) (val_look pd_int))) (nomark _))) pal_nil)))))
    (sd_one (sd_for (passes_of rfl) rfl (it_rng2 (by rfl) T.b_range (pal_cons (pd_l (pv 8)) (pal_cons (val_look (pd_callB call_len_seq len_r (by rfl) T.b_len (by decide +kernel) (pal_cons (pd_l (pv 1)) pal_nil))) pal_nil))) (tg_name (i := 9) sc_loads_of.nd rfl (.inl rfl)) (sd_one (sd_dputN (hu9 hr) (pv 6) (val_look (pd_call (ok_with_wagon T) (hr.mono (by decide)) tk (by rfl) (pad_cons (pd_v (pv 7)) (pad_cons (pd_v (pv 5)) (pad_cons (pd_v (pv 9)) (pad_cons (pd_ix (pd_l (pv 1)) (pd_l (pv 9))) pad_nil)))) (dlen_cons (dlen_cons (dlen_cons (dlen_cons dlen_nil)))))) pd_bl))))))
    (sd_sealT (i := 6) (sd_one (sd_set (i := 3) sc_loads_of.nd rfl (.inl rfl) (pd_v (pv 6)))))))))))))
    (sd_sealT (i := 3) (sd_one (sd_ret (new_val (pd_comp (own := [("state", 7)]) (vs := [7]) rfl sc_loads_of.nd (it_ldcN (pd_v (pv 3))) rfl (blkOk_by (own := [("state", 7)]) (N := N_loads_of) (sc := defScope (top 90)) (by decide +kernel)) (tgok_n 7) (fun _ _ _ _ _ => (tg_name (i := 7) sc_loads_of.nd rfl (.inl rfl))) (fun _ _ _ _ _ => ptsd_nil) (fun _ _ _ _ _ => (pd_ix (pd_l (pv 7)) (val_look pd_int))))))))))
abbrev N_shortest : List Str := ["row", "h", "tracks", "found", "counts"]
theorem sc_shortest : FnScope N_shortest ["row", "h", "tracks"] (defScope (top 91)) := ⟨rfl, rfl, rfl, by decide +kernel, rfl, by decide +kernel, by decide +kernel⟩
def den_shortest : FDen := fnD 3 2 (thenS (exprS (dCall den_check_all (dCons (dV 0) (dCons (dV 1) (dCons (dV 2) dNil)))))
    (thenS (ifS (dOrT (dT (dBin gtD (dL 1) (dC (.int 3)))) (dT (dBin gtD (dCB (oneArg lenD) (dCons (dUn heldD (dL 0)) dNil)) (dC (.int 8))))) (raiseS "TooLarge") skipS)
    (thenS (setS 3 (dCall den_loads_of (dCons (dUn heldD (dL 0)) (dCons (dCall den_allowed_codes (dCons (dV 1) (dCons (dV 2) dNil))) (dCons (dV 1) dNil)))))
    (thenS (ifS (dNotT (dTru (dL 3))) (raiseS "NoPlan") skipS)
    (retS (dCB (oneArg minLD) (dCons (dN2V (dComp (dIt asList (dV 3)) [4] (tgN 4) dYes (dCB (oneArg maxTD) (dCons (dBin addD (dTup (dCons (dC (.int 0)) dNil)) (dL 4)) dNil)))) dNil)))))))
theorem ok_shortest (T : Txt K mg base) : Fd P w K mg base "shortest" 5 3 den_shortest := by
  obtain ⟨a, fd, F, hm, hb⟩ := T.f_shortest
  refine Fd.mk' F sc_shortest hm hb rfl rfl fun cdv A outer s H E hr => ?_
  have tk := takes_of (X := cxOf (L2.CX P w) P w K mg base N_shortest "shortest" (defScope (top 91)) a cdv A outer s H E) rfl rfl rfl rfl
  exact (sd_cons (sd_expr (pd_call (ok_check_all T) (hr.mono (by decide)) tk (by rfl) (pad_cons (pd_v (pv 0)) (pad_cons (pd_v (pv 1)) (pad_cons (pd_v (pv 2)) pad_nil))) (dlen_cons (dlen_cons (dlen_cons dlen_nil)))))
    (sd_cons (sd_if (PW.pt (pwd_or (pt_cmpD op_gt gt_r (pd_l (pv 1)) (val_look (pd_gint rfl T.g_MOST_SHORT_PULLS)) (nomark _)) (pw_or1 (pt_cmpD op_gt gt_r (val_look (pd_callB call_len_seq len_r (by rfl) T.b_len (by decide +kernel) (pal_cons (val_look (pd_held T.row (pd_l (pv 0)))) pal_nil))) (val_look (pd_gint rfl T.g_MOST_SHORT_WAGONS)) (nomark _))))) (sd_one (sd_raise0 T.e_TooLarge rfl tk (by rfl))) sd_nil)
    (sd_cons (sd_set (i := 3) sc_shortest.nd rfl (.inl rfl) (pd_call (ok_loads_of T) (hr.mono (by decide)) tk (by rfl) (pad_cons (pd_held T.row (pd_l (pv 0))) (pad_cons (pd_call (ok_allowed_codes T) (hr.mono (by decide)) tk (by rfl) (pad_cons (pd_v (pv 1)) (pad_cons (pd_v (pv 2)) pad_nil)) (dlen_cons (dlen_cons dlen_nil))) (pad_cons (pd_v (pv 1)) pad_nil))) (dlen_cons (dlen_cons (dlen_cons dlen_nil)))))
    (sd_cons (sd_if (ptd_not (pt_tru (pd_l (pv 3)))) (sd_one (sd_raise0 T.e_NoPlan rfl tk (by rfl))) sd_nil)
    (sd_one (sd_ret (pd_callB (cr_min rfl) minL_r (by rfl) T.b_min (by decide +kernel) (pal_cons (new_look (pd_comp (own := [("counts", 4)]) (vs := [4]) rfl sc_shortest.nd (it_list (pd_v (pv 3))) rfl (blkOk_by (own := [("counts", 4)]) (N := N_shortest) (sc := defScope (top 91)) (by decide +kernel)) (tgok_n 4) (fun _ _ _ _ _ => (tg_name (i := 4) sc_shortest.nd rfl (.inl rfl))) (fun _ _ _ _ _ => ptsd_nil) (fun _ _ _ _ _ => (pd_callB (cr_maxT rfl (hu65 hr)) maxT_r (by rfl) T.b_max (by decide +kernel) (pal_cons (val_look (pd_op op_addX add_r (val_look (pd_tup (pad_cons pd_int pad_nil))) (pd_l (pv 4)))) pal_nil))))) pal_nil))))))))
abbrev N_write_plan : List Str := ["row", "h", "tracks", "plan", "lines", "group", "code", "number"]
theorem sc_write_plan : FnScope N_write_plan ["row", "h", "tracks", "plan"] (defScope (top 93)) := ⟨rfl, rfl, rfl, by decide +kernel, rfl, by decide +kernel, by decide +kernel⟩
def den_write_plan : FDen := fnD 4 4 (thenS (exprS (dCall den_check_plan (dCons (dV 0) (dCons (dV 1) (dCons (dV 2) (dCons (dV 3) dNil))))))
    (thenS (setN 4 (dLst (dCons (dFs [(dC (.str "tracks ")), (dUn fmtD (dL 2)), (dC (.str " pulls ")), (dUn fmtD (dL 1))] Str.empty) dNil)))
    (thenS (forS (dZipX (dCons (dUn heldD (dL 0)) (dCons (dV 3) dNil))) (tgT [5, 6]) (appS 4 (dCons (dMeth "str" joinD (dC (.str " ")) (dCons (dN2V (dComp (dIt asList (dN2V (dBinN catN (dN2V (dLst (dCons (dV 5) dNil))) (dCall den_stops_of (dCons (dV 6) dNil))))) [7] (tgN 7) dYes (dCB (oneArg strD) (dCons (dL 7) dNil)))) dNil)) dNil)))
    (retS (dMeth "str" joinD (dC (.str "\n")) (dCons (dL 4) dNil))))))
theorem ok_write_plan (T : Txt K mg base) : Fd P w K mg base "write_plan" 6 4 den_write_plan := by
  obtain ⟨a, fd, F, hm, hb⟩ := T.f_write_plan
  refine Fd.mk' F sc_write_plan hm hb rfl rfl fun cdv A outer s H E hr => ?_
  have tk := takes_of (X := cxOf (L2.CX P w) P w K mg base N_write_plan "write_plan" (defScope (top 93)) a cdv A outer s H E) rfl rfl rfl rfl
  exact (sd_cons (sd_expr (pd_call (ok_check_plan T) (hr.mono (by decide)) tk (by rfl) (pad_cons (pd_v (pv 0)) (pad_cons (pd_v (pv 1)) (pad_cons (pd_v (pv 2)) (pad_cons (pd_v (pv 3)) pad_nil)))) (dlen_cons (dlen_cons (dlen_cons (dlen_cons dlen_nil))))))
    (sd_cons (sd_setN (i := 4) sc_write_plan.nd rfl (.inl rfl) (pd_lst (pad_cons (pd_fstr (.cons pd_str (.cons (pd_fmt (pd_l (pv 2))) (.cons pd_str (.cons (pd_fmt (pd_l (pv 1))) .nil))))) pad_nil)))
    (sd_cons (sd_for (passes_of rfl) rfl (it_zipX (by rfl) T.b_zip (pad_cons (pd_held T.row (pd_l (pv 0))) (pad_cons (pd_v (pv 3)) pad_nil))) (tg_tup (is := [5, 6]) rfl (pgs_cons (pg_name (i := 5) sc_write_plan.nd rfl (.inl rfl)) (pgs_cons (pg_name (i := 6) sc_write_plan.nd rfl (.inl rfl)) pgs_nil))) (sd_one (sd_append (pv 4) (pad_cons (pd_meth PySem.F.plainAttrs_str PySem.F.slot_str_join PySem.F.type_str_join mt_join join_r (val_look pd_str) (pal_cons (new_look (pd_comp (own := [("number", 7)]) (vs := [7]) rfl sc_write_plan.nd (it_list (new_val (pd_opN op_cat cat_r (new_look (pd_lst (pad_cons (pd_v (pv 5)) pad_nil))) (val_look (pd_call (ok_stops_of T) (hr.mono (by decide)) tk (by rfl) (pad_cons (pd_v (pv 6)) pad_nil) (dlen_cons dlen_nil)))))) rfl (blkOk_by (own := [("number", 7)]) (N := N_write_plan) (sc := defScope (top 93)) (by decide +kernel)) (tgok_n 7) (fun _ _ _ _ _ => (tg_name (i := 7) sc_write_plan.nd rfl (.inl rfl))) (fun _ _ _ _ _ => ptsd_nil) (fun _ _ _ _ _ => (pd_callTy call_str_int str_r (by rfl) T.b_str (by decide +kernel) (pal_cons (pd_l (pv 7)) pal_nil))))) pal_nil)) pad_nil) (fun _ _ a b => ps_expr (pe_bm PySem.F.plainAttrs_list PySem.F.slot_list_append PySem.F.type_list_append mt_append a b)))))
    (sd_one (sd_ret (pd_meth PySem.F.plainAttrs_str PySem.F.slot_str_join PySem.F.type_str_join mt_join join_r (val_look pd_str) (pal_cons (pd_l (pv 4)) pal_nil)))))))
abbrev N_number_at : List Str := ["words", "line", "place", "low", "high", "number"]
theorem sc_number_at : FnScope N_number_at ["words", "line", "place", "low", "high"] (defScope (top 94)) := ⟨rfl, rfl, rfl, by decide +kernel, rfl, by decide +kernel, by decide +kernel⟩
def den_number_at : FDen := fnD 5 1 (thenS (forS (dRng rng2 (dCons (dL 3) (dCons (dBin addD (dL 4) (dC (.int 1))) dNil))) (tgN 5) (ifS (dT (dBin eqD (dN2V (dSl slN (dL 0) (dPart (dL 2)) (dPart (dBin addD (dL 2) (dC (.int 1)))))) (dN2V (dLst (dCons (dCB (oneArg strD) (dCons (dL 5) dNil)) dNil))))) (retS (dV 5)) skipS))
    (raiseLW "InvalidText" (dCons (dV 1) (dCons (dBin addD (dL 2) (dC (.int 1))) dNil))))
theorem ok_number_at (T : Txt K mg base) : Fd P w K mg base "number_at" 4 5 den_number_at := by
  obtain ⟨a, fd, F, hm, hb⟩ := T.f_number_at
  refine Fd.mk' F sc_number_at hm hb rfl rfl fun cdv A outer s H E hr => ?_
  have tk := takes_of (X := cxOf (L2.CX P w) P w K mg base N_number_at "number_at" (defScope (top 94)) a cdv A outer s H E) rfl rfl rfl rfl
  exact (sd_cons (sd_for (passes_of rfl) rfl (it_rng2 (by rfl) T.b_range (pal_cons (pd_l (pv 3)) (pal_cons (val_look (pd_op op_addX add_r (pd_l (pv 4)) (val_look pd_int))) pal_nil))) (tg_name (i := 5) sc_number_at.nd rfl (.inl rfl)) (sd_one (sd_if (pt_cmpD (op_eqD hr.units) eq_r (new_look (pd_slN (pd_l (pv 0)) (pod_some (pd_l (pv 2))) (pod_some (val_look (pd_op op_addX add_r (pd_l (pv 2)) (val_look pd_int)))))) (new_look (pd_lst (pad_cons (pd_callTy call_str_int str_r (by rfl) T.b_str (by decide +kernel) (pal_cons (pd_l (pv 5)) pal_nil)) pad_nil))) (nomark _)) (sd_one (sd_ret (pd_v (pv 5)))) sd_nil)))
    (sd_one (sd_raiseE T.x_InvalidText (iok_InvalidText T) (hr.mono (by decide)) rfl tk (by rfl) (pad_cons (pd_v (pv 1)) (pad_cons (pd_op op_addX add_r (pd_l (pv 2)) (val_look pd_int)) pad_nil)))))
abbrev N_check_name : List Str := ["words", "place", "name"]
theorem sc_check_name : FnScope N_check_name ["words", "place", "name"] (defScope (top 95)) := ⟨rfl, rfl, rfl, by decide +kernel, rfl, by decide +kernel, by decide +kernel⟩
def den_check_name : FDen := fnD 3 0 (ifS (dT (dBin neD (dN2V (dSl slN (dL 0) (dPart (dL 1)) (dPart (dBin addD (dL 1) (dC (.int 1)))))) (dN2V (dLst (dCons (dV 2) dNil))))) (raiseLW "InvalidText" (dCons (dC (.int 1)) (dCons (dBin addD (dL 1) (dC (.int 1))) dNil))) skipS)
theorem ok_check_name (T : Txt K mg base) : Fd P w K mg base "check_name" 4 3 den_check_name := by
  obtain ⟨a, fd, F, hm, hb⟩ := T.f_check_name
  refine Fd.mk' F sc_check_name hm hb rfl rfl fun cdv A outer s H E hr => ?_
  have tk := takes_of (X := cxOf (L2.CX P w) P w K mg base N_check_name "check_name" (defScope (top 95)) a cdv A outer s H E) rfl rfl rfl rfl
  exact (sd_one (sd_if (pt_cmpD (op_neD hr.units) ne_r (new_look (pd_slN (pd_l (pv 0)) (pod_some (pd_l (pv 1))) (pod_some (val_look (pd_op op_addX add_r (pd_l (pv 1)) (val_look pd_int)))))) (new_look (pd_lst (pad_cons (pd_v (pv 2)) pad_nil))) (nomark _)) (sd_one (sd_raiseE T.x_InvalidText (iok_InvalidText T) (hr.mono (by decide)) rfl tk (by rfl) (pad_cons pd_int (pad_cons (pd_op op_addX add_r (pd_l (pv 1)) (val_look pd_int)) pad_nil)))) sd_nil))
abbrev N_read_wagon : List Str := ["words", "line", "h", "tracks", "group", "before", "code", "place"]
theorem sc_read_wagon : FnScope N_read_wagon ["words", "line", "h", "tracks"] (defScope (top 96)) := ⟨rfl, rfl, rfl, by decide +kernel, rfl, by decide +kernel, by decide +kernel⟩
def den_read_wagon : FDen := fnD 4 4 (thenS (setS 4 (dCall den_number_at (dCons (dV 0) (dCons (dV 1) (dCons (dC (.int 0)) (dCons (dC (.int 0)) (dCons (dC (.int 11)) dNil)))))))
    (thenS (setS 5 (dC (.int 0)))
    (thenS (setS 6 (dC (.int 0)))
    (thenS (forS (dRng rng2 (dCons (dC (.int 1)) (dCons (dCB (oneArg lenD) (dCons (dL 0) dNil)) dNil))) (tgN 7) (thenS (setS 5 (dCall den_number_at (dCons (dV 0) (dCons (dV 1) (dCons (dV 7) (dCons (dBin addD (dL 5) (dC (.int 1))) (dCons (dCB (twoArg min2D) (dCons (dL 2) (dCons (dBin addD (dL 5) (dL 3)) dNil))) dNil)))))))
    (augS 6 ipAddD (dBin shlD (dC (.int 1)) (dBin subD (dL 5) (dC (.int 1)))))))
    (retS (dTup (dCons (dV 4) (dCons (dV 6) dNil))))))))
theorem ok_read_wagon (T : Txt K mg base) : Fd P w K mg base "read_wagon" 5 4 den_read_wagon := by
  obtain ⟨a, fd, F, hm, hb⟩ := T.f_read_wagon
  refine Fd.mk' F sc_read_wagon hm hb rfl rfl fun cdv A outer s H E hr => ?_
  have tk := takes_of (X := cxOf (L2.CX P w) P w K mg base N_read_wagon "read_wagon" (defScope (top 96)) a cdv A outer s H E) rfl rfl rfl rfl
  exact (sd_cons (sd_set (i := 4) sc_read_wagon.nd rfl (.inl rfl) (pd_call (ok_number_at T) (hr.mono (by decide)) tk (by rfl) (pad_cons (pd_v (pv 0)) (pad_cons (pd_v (pv 1)) (pad_cons pd_int (pad_cons pd_int (pad_cons (pd_gint rfl T.g_MOST_GROUP) pad_nil))))) (dlen_cons (dlen_cons (dlen_cons (dlen_cons (dlen_cons dlen_nil)))))))
    (sd_cons (sd_set (i := 5) sc_read_wagon.nd rfl (.inl rfl) pd_int)
    (sd_cons (sd_set (i := 6) sc_read_wagon.nd rfl (.inl rfl) pd_int)
    (sd_cons (sd_for (passes_of rfl) rfl (it_rng2 (by rfl) T.b_range (pal_cons (val_look pd_int) (pal_cons (val_look (pd_callB call_len_seq len_r (by rfl) T.b_len (by decide +kernel) (pal_cons (pd_l (pv 0)) pal_nil))) pal_nil))) (tg_name (i := 7) sc_read_wagon.nd rfl (.inl rfl)) (sd_cons (sd_set (i := 5) sc_read_wagon.nd rfl (.inl rfl) (pd_call (ok_number_at T) (hr.mono (by decide)) tk (by rfl) (pad_cons (pd_v (pv 0)) (pad_cons (pd_v (pv 1)) (pad_cons (pd_v (pv 7)) (pad_cons (pd_op op_addX add_r (pd_l (pv 5)) (val_look pd_int)) (pad_cons (pd_callB (call_min2 rfl) min2_r (by rfl) T.b_min (by decide +kernel) (pal_cons (pd_l (pv 2)) (pal_cons (val_look (pd_op op_addX add_r (pd_l (pv 5)) (pd_l (pv 3)))) pal_nil))) pad_nil))))) (dlen_cons (dlen_cons (dlen_cons (dlen_cons (dlen_cons dlen_nil)))))))
    (sd_one (sd_aug (i := 6) sc_read_wagon.nd rfl (.inl rfl) (val_look (pd_op op_shl shl_r (val_look pd_int) (val_look (pd_op op_sub sub_r (pd_l (pv 5)) (val_look pd_int))))) ip_add ipadd_r))))
    (sd_one (sd_ret (pd_tup (pad_cons (pd_v (pv 4)) (pad_cons (pd_v (pv 6)) pad_nil)))))))))
abbrev N_read_plan : List Str := ["text", "lines", "head", "tracks", "h", "groups", "plan", "index", "words", "group", "code", "line", "word"]
theorem sc_read_plan : FnScope N_read_plan ["text"] (defScope (top 97)) := ⟨rfl, rfl, rfl, by decide +kernel, rfl, by decide +kernel, by decide +kernel⟩
def den_read_plan : FDen := fnD 1 12 (thenS (setN 1 (dComp (dIt asList (dN2V (dMethN "str" splitN (dL 0) (dCons (dC (.str "\n")) dNil)))) [11] (tgN 11) dYes (dN2V (dComp (dIt asList (dN2V (dMethN "str" splitN (dL 11) (dCons (dC (.str " ")) dNil)))) [12] (tgN 12) (dT (dBin neD (dL 12) (dC (.str "")))) (dV 12)))))
    (thenS (setS 2 (dBin ixD (dL 1) (dC (.int 0))))
    (thenS (exprS (dCall den_check_name (dCons (dV 2) (dCons (dC (.int 0)) (dCons (dC (.str "tracks")) dNil)))))
    (thenS (setS 3 (dCall den_number_at (dCons (dV 2) (dCons (dC (.int 1)) (dCons (dC (.int 1)) (dCons (dC (.int 1)) (dCons (dC (.int 4)) dNil)))))))
    (thenS (exprS (dCall den_check_name (dCons (dV 2) (dCons (dC (.int 2)) (dCons (dC (.str "pulls")) dNil)))))
    (thenS (setS 4 (dCall den_number_at (dCons (dV 2) (dCons (dC (.int 1)) (dCons (dC (.int 3)) (dCons (dC (.int 0)) (dCons (dC (.int 11)) dNil)))))))
    (thenS (ifS (dT (dBin gtD (dCB (oneArg lenD) (dCons (dL 2) dNil)) (dC (.int 4)))) (raiseLW "InvalidText" (dCons (dC (.int 1)) (dCons (dC (.int 5)) dNil))) skipS)
    (thenS (ifS (dT (dBin ltD (dCB (oneArg lenD) (dCons (dL 1) dNil)) (dC (.int 2)))) (raiseLW "InvalidText" (dCons (dC (.int 2)) (dCons (dC (.int 1)) dNil))) skipS)
    (thenS (setN 5 (dLst dNil))
    (thenS (setN 6 (dLst dNil))
    (thenS (forS (dEnum (dN2V (dSl slN (dL 1) (dPart (dC (.int 1))) dNoPart))) (tgT [7, 8]) (thenS (ifS (dT (dBin eqD (dCB (oneArg lenD) (dCons (dL 5) dNil)) (dC (.int 12)))) (raiseLW "InvalidText" (dCons (dBin addD (dL 7) (dC (.int 2))) (dCons (dC (.int 1)) dNil))) skipS)
    (thenS (unS [9, 10] (dCall den_read_wagon (dCons (dV 8) (dCons (dBin addD (dL 7) (dC (.int 2))) (dCons (dV 4) (dCons (dV 3) dNil))))))
    (thenS (appS 5 (dCons (dV 9) dNil))
    (appS 6 (dCons (dV 10) dNil))))))
    (retS (dTup (dCons (dMkRow (dCB (oneArg tupleD) (dCons (dL 5) dNil))) (dCons (dV 4) (dCons (dV 3) (dCons (dCB (oneArg tupleD) (dCons (dL 6) dNil)) dNil)))))))))))))))))
theorem ok_read_plan (T : Txt K mg base) : Fd P w K mg base "read_plan" 6 1 den_read_plan := by
  obtain ⟨a, fd, F, hm, hb⟩ := T.f_read_plan
  refine Fd.mk' F sc_read_plan hm hb rfl rfl fun cdv A outer s H E hr => ?_
  have tk := takes_of (X := cxOf (L2.CX P w) P w K mg base N_read_plan "read_plan" (defScope (top 97)) a cdv A outer s H E) rfl rfl rfl rfl
  exact (sd_cons (sd_setC (i := 1) (own := [("line", 11)]) (vs := [11]) rfl sc_read_plan.nd rfl rfl (sw_true rfl rfl rfl (by decide +kernel)) (it_list (new_val (pd_methN PySem.F.plainAttrs_str PySem.F.slot_str_split PySem.F.type_str_split mt_split split_r (pd_l (pv 0)) (pal_cons (val_look pd_str) pal_nil)))) rfl (blkOk_by (own := [("line", 11)]) (N := N_read_plan) (sc := defScope (top 97)) (by decide +kernel)) (tgok_n 11) (fun _ _ _ _ _ => (tg_name (i := 11) sc_read_plan.nd rfl (.inl rfl))) (fun _ _ _ _ _ => ptsd_nil) (fun _ _ _ _ _ => (new_val (pd_comp (own := [("word", 12)]) (vs := [12]) rfl sc_read_plan.nd (it_list (new_val (pd_methN PySem.F.plainAttrs_str PySem.F.slot_str_split PySem.F.type_str_split mt_split split_r (pd_l (pv 11)) (pal_cons (val_look pd_str) pal_nil)))) rfl (blkOk_n (own := [("word", 12)]) (N := N_read_plan) (by decide +kernel) (by rfl)) (tgok_n 12) (fun _ _ _ _ _ => (tg_name (i := 12) sc_read_plan.nd rfl (.inl rfl))) (fun _ _ _ _ _ => (ptsd_one (pt_cmpD (op_neD hr.units) ne_r (pd_l (pv 12)) (val_look pd_str) (nomark _)))) (fun _ _ _ _ _ => (pd_v (pv 12)))))))
    (sd_cons (sd_set (i := 2) sc_read_plan.nd rfl (.inl rfl) (pd_ix (pd_l (pv 1)) (val_look pd_int)))
    (sd_cons (sd_expr (pd_call (ok_check_name T) (hr.mono (by decide)) tk (by rfl) (pad_cons (pd_v (pv 2)) (pad_cons pd_int (pad_cons pd_str pad_nil))) (dlen_cons (dlen_cons (dlen_cons dlen_nil)))))
    (sd_cons (sd_set (i := 3) sc_read_plan.nd rfl (.inl rfl) (pd_call (ok_number_at T) (hr.mono (by decide)) tk (by rfl) (pad_cons (pd_v (pv 2)) (pad_cons pd_int (pad_cons pd_int (pad_cons pd_int (pad_cons (pd_gint rfl T.g_MOST_TRACKS) pad_nil))))) (dlen_cons (dlen_cons (dlen_cons (dlen_cons (dlen_cons dlen_nil)))))))
    (sd_cons (sd_expr (pd_call (ok_check_name T) (hr.mono (by decide)) tk (by rfl) (pad_cons (pd_v (pv 2)) (pad_cons pd_int (pad_cons pd_str pad_nil))) (dlen_cons (dlen_cons (dlen_cons dlen_nil)))))
    (sd_cons (sd_set (i := 4) sc_read_plan.nd rfl (.inl rfl) (pd_call (ok_number_at T) (hr.mono (by decide)) tk (by rfl) (pad_cons (pd_v (pv 2)) (pad_cons pd_int (pad_cons pd_int (pad_cons pd_int (pad_cons (pd_gint rfl T.g_MOST_PULLS) pad_nil))))) (dlen_cons (dlen_cons (dlen_cons (dlen_cons (dlen_cons dlen_nil)))))))
    (sd_cons (sd_if (pt_cmpD op_gt gt_r (val_look (pd_callB call_len_seq len_r (by rfl) T.b_len (by decide +kernel) (pal_cons (pd_l (pv 2)) pal_nil))) (val_look pd_int) (nomark _)) (sd_one (sd_raiseE T.x_InvalidText (iok_InvalidText T) (hr.mono (by decide)) rfl tk (by rfl) (pad_cons pd_int (pad_cons pd_int pad_nil)))) sd_nil)
    (sd_cons (sd_if (pt_cmpD op_lt lt_r (val_look (pd_callB call_len_seq len_r (by rfl) T.b_len (by decide +kernel) (pal_cons (pd_l (pv 1)) pal_nil))) (val_look pd_int) (nomark _)) (sd_one (sd_raiseE T.x_InvalidText (iok_InvalidText T) (hr.mono (by decide)) rfl tk (by rfl) (pad_cons pd_int (pad_cons pd_int pad_nil)))) sd_nil)
    (sd_cons (sd_setN (i := 5) sc_read_plan.nd rfl (.inl rfl) (pd_lst pad_nil))
    (sd_cons (sd_setN (i := 6) sc_read_plan.nd rfl (.inl rfl) (pd_lst pad_nil))
    (sd_cons (sd_for (passes_of rfl) rfl (it_enumL (by rfl) T.b_enumerate (new_val (pd_slN (pd_l (pv 1)) (pod_some (val_look pd_int)) pod_none))) (tg_tup (is := [7, 8]) rfl (pgs_cons (pg_name (i := 7) sc_read_plan.nd rfl (.inl rfl)) (pgs_cons (pg_name (i := 8) sc_read_plan.nd rfl (.inl rfl)) pgs_nil))) (sd_cons (sd_if (pt_cmpD (op_eqD hr.units) eq_r (val_look (pd_callB call_len_seq len_r (by rfl) T.b_len (by decide +kernel) (pal_cons (pd_l (pv 5)) pal_nil))) (val_look (pd_gint rfl T.g_MOST_WAGONS)) (nomark _)) (sd_one (sd_raiseE T.x_InvalidText (iok_InvalidText T) (hr.mono (by decide)) rfl tk (by rfl) (pad_cons (pd_op op_addX add_r (pd_l (pv 7)) (val_look pd_int)) (pad_cons pd_int pad_nil)))) sd_nil)
    (sd_cons (sd_unT (is := [9, 10]) (pd_call (ok_read_wagon T) (hr.mono (by decide)) tk (by rfl) (pad_cons (pd_v (pv 8)) (pad_cons (pd_op op_addX add_r (pd_l (pv 7)) (val_look pd_int)) (pad_cons (pd_v (pv 4)) (pad_cons (pd_v (pv 3)) pad_nil)))) (dlen_cons (dlen_cons (dlen_cons (dlen_cons dlen_nil))))) rfl (pgs_cons (pg_name (i := 9) sc_read_plan.nd rfl (.inl rfl)) (pgs_cons (pg_name (i := 10) sc_read_plan.nd rfl (.inl rfl)) pgs_nil)) (fun _ _ a b => ps_asg a b))
    (sd_cons (sd_append (pv 5) (pad_cons (pd_v (pv 9)) pad_nil) (fun _ _ a b => ps_expr (pe_bm PySem.F.plainAttrs_list PySem.F.slot_list_append PySem.F.type_list_append mt_append a b)))
    (sd_one (sd_append (pv 6) (pad_cons (pd_v (pv 10)) pad_nil) (fun _ _ a b => ps_expr (pe_bm PySem.F.plainAttrs_list PySem.F.slot_list_append PySem.F.type_list_append mt_append a b))))))))
    (sd_one (sd_ret (pd_tup (pad_cons (pd_mkRow T.row T.mk_Row (ok_Row___init__ T) rowInit (hr.mono (by decide)) tk (by rfl) (pd_callTy call_tuple_of tuple_r (by rfl) T.b_tuple (by decide +kernel) (pal_cons (pd_l (pv 5)) pal_nil))) (pad_cons (pd_v (pv 4)) (pad_cons (pd_v (pv 3)) (pad_cons (pd_callTy call_tuple_of tuple_r (by rfl) T.b_tuple (by decide +kernel) (pal_cons (pd_l (pv 6)) pal_nil)) pad_nil))))))))))))))))))
abbrev N_Yard___init__ : List Str := ["self", "row", "tracks"]
theorem sc_Yard___init__ : FnScope N_Yard___init__ ["self", "row", "tracks"] (defScope (inClass (top 99) 0)) := ⟨rfl, rfl, rfl, by decide +kernel, rfl, by decide +kernel, by decide +kernel⟩
def den_Yard___init__ : FDen := fnD 3 0 (thenS (exprS (dCall den_check_row (dCons (dV 1) dNil)))
    (thenS (exprS (dCall den_check_tracks (dCons (dV 2) dNil)))
    (thenS (fldS "Yard" 0 "row" (dV 1))
    (thenS (fldS "Yard" 0 "state" (dTup (dCons (dUn rgT (dCB (oneArg lenD) (dCons (dUn heldD (dL 1)) dNil))) (dCons (dBin repTYD (dTup (dCons (dTup dNil) dNil)) (dL 2)) (dCons (dTup dNil) (dCons (dC (.int 0)) dNil))))))
    (fldS "Yard" 0 "earlier" (dObL dNil))))))
theorem ok_Yard___init__ (T : Txt K mg base) : Ff P w K mg base (He.ma K (cA K "Yard") "__init__") 4 3 den_Yard___init__ := by
  obtain ⟨fd, F, hb⟩ := T.f_Yard___init__
  refine Ff.mk' F sc_Yard___init__ hb rfl rfl fun cdv A outer s H E hr => ?_
  have tk := takes_of (X := cxOf (L2.CX P w) P w K mg base N_Yard___init__ "Yard.__init__" (defScope (inClass (top 99) 0)) (He.ma K (cA K "Yard") "__init__") cdv A outer s H E) rfl rfl rfl rfl
  exact (sd_cons (sd_expr (pd_call (ok_check_row T) (hr.mono (by decide)) tk (by rfl) (pad_cons (pd_v (pv 1)) pad_nil) (dlen_cons dlen_nil)))
    (sd_cons (sd_expr (pd_call (ok_check_tracks T) (hr.mono (by decide)) tk (by rfl) (pad_cons (pd_v (pv 2)) pad_nil) (dlen_cons dlen_nil)))
    (sd_cons (sd_fld T.at_Yard_row (pv 0) (pd_v (pv 1)))
    (sd_cons (sd_fld T.at_Yard_state (pv 0) (pd_tup (pad_cons (pd_tupRg rfl (by rfl) T.b_tuple (by rfl) T.b_range (val_look (pd_callB call_len_seq len_r (by rfl) T.b_len (by decide +kernel) (pal_cons (val_look (pd_held T.row (pd_l (pv 1)))) pal_nil)))) (pad_cons (pd_op op_repTY repTY_r (val_look (pd_tup (pad_cons (pd_tup pad_nil) pad_nil))) (pd_l (pv 2))) (pad_cons (pd_tup pad_nil) (pad_cons pd_int pad_nil))))))
    (sd_one (sd_fld T.at_Yard_earlier (pv 0) (pd_obL pad_nil)))))))
abbrev N_Yard_hump : List Str := ["self"]
theorem sc_Yard_hump : FnScope N_Yard_hump ["self"] (defScope (inClass (top 99) 1)) := ⟨rfl, rfl, rfl, by decide +kernel, rfl, by decide +kernel, by decide +kernel⟩
def den_Yard_hump : FDen := fnD 1 0 (retS (dBin ixD (dFldO "Yard" "state" (dV 0)) (dC (.int 0))))
theorem ok_Yard_hump (T : Txt K mg base) : Ff P w K mg base (gAd K "Yard" "hump") 1 1 den_Yard_hump := by
  obtain ⟨fd, F, hb⟩ := T.f_Yard_hump
  refine Ff.mk' F sc_Yard_hump hb rfl rfl fun cdv A outer s H E hr => ?_
  have tk := takes_of (X := cxOf (L2.CX P w) P w K mg base N_Yard_hump "Yard.hump" (defScope (inClass (top 99) 1)) (gAd K "Yard" "hump") cdv A outer s H E) rfl rfl rfl rfl
  exact (sd_one (sd_ret (pd_ix (val_look (pd_fldO T.at_Yard_state (pd_v (pv 0)))) (val_look pd_int))))
abbrev N_Yard_standing : List Str := ["self"]
theorem sc_Yard_standing : FnScope N_Yard_standing ["self"] (defScope (inClass (top 99) 2)) := ⟨rfl, rfl, rfl, by decide +kernel, rfl, by decide +kernel, by decide +kernel⟩
def den_Yard_standing : FDen := fnD 1 0 (retS (dBin ixD (dFldO "Yard" "state" (dV 0)) (dC (.int 1))))
theorem ok_Yard_standing (T : Txt K mg base) : Ff P w K mg base (gAd K "Yard" "standing") 1 1 den_Yard_standing := by
  obtain ⟨fd, F, hb⟩ := T.f_Yard_standing
  refine Ff.mk' F sc_Yard_standing hb rfl rfl fun cdv A outer s H E hr => ?_
  have tk := takes_of (X := cxOf (L2.CX P w) P w K mg base N_Yard_standing "Yard.standing" (defScope (inClass (top 99) 2)) (gAd K "Yard" "standing") cdv A outer s H E) rfl rfl rfl rfl
  exact (sd_one (sd_ret (pd_ix (val_look (pd_fldO T.at_Yard_state (pd_v (pv 0)))) (val_look pd_int))))
abbrev N_Yard_train : List Str := ["self"]
theorem sc_Yard_train : FnScope N_Yard_train ["self"] (defScope (inClass (top 99) 3)) := ⟨rfl, rfl, rfl, by decide +kernel, rfl, by decide +kernel, by decide +kernel⟩
def den_Yard_train : FDen := fnD 1 0 (retS (dBin ixD (dFldO "Yard" "state" (dV 0)) (dC (.int 2))))
theorem ok_Yard_train (T : Txt K mg base) : Ff P w K mg base (gAd K "Yard" "train") 1 1 den_Yard_train := by
  obtain ⟨fd, F, hb⟩ := T.f_Yard_train
  refine Ff.mk' F sc_Yard_train hb rfl rfl fun cdv A outer s H E hr => ?_
  have tk := takes_of (X := cxOf (L2.CX P w) P w K mg base N_Yard_train "Yard.train" (defScope (inClass (top 99) 3)) (gAd K "Yard" "train") cdv A outer s H E) rfl rfl rfl rfl
  exact (sd_one (sd_ret (pd_ix (val_look (pd_fldO T.at_Yard_state (pd_v (pv 0)))) (val_look pd_int))))
abbrev N_Yard_done : List Str := ["self", "train"]
theorem sc_Yard_done : FnScope N_Yard_done ["self"] (defScope (inClass (top 99) 4)) := ⟨rfl, rfl, rfl, by decide +kernel, rfl, by decide +kernel, by decide +kernel⟩
def den_Yard_done : FDen := fnD 1 1 (thenS (setS 1 (dBin ixD (dFldO "Yard" "state" (dV 0)) (dC (.int 2))))
    (retS (dAnd (dBin eqD (dCB (oneArg lenD) (dCons (dL 1) dNil)) (dCB (oneArg lenD) (dCons (dUn heldD (dFldO "Yard" "row" (dV 0))) dNil))) (dBin isNonD (dCall den_fault_of (dCons (dUn heldD (dFldO "Yard" "row" (dV 0))) (dCons (dV 1) dNil))) (dC .non)))))
theorem ok_Yard_done (T : Txt K mg base) : Ff P w K mg base (gAd K "Yard" "done") 2 1 den_Yard_done := by
  obtain ⟨fd, F, hb⟩ := T.f_Yard_done
  refine Ff.mk' F sc_Yard_done hb rfl rfl fun cdv A outer s H E hr => ?_
  have tk := takes_of (X := cxOf (L2.CX P w) P w K mg base N_Yard_done "Yard.done" (defScope (inClass (top 99) 4)) (gAd K "Yard" "done") cdv A outer s H E) rfl rfl rfl rfl
  exact (sd_cons (sd_set (i := 1) sc_Yard_done.nd rfl (.inl rfl) (pd_ix (val_look (pd_fldO T.at_Yard_state (pd_v (pv 0)))) (val_look pd_int)))
    (sd_one (sd_ret (pd_and (pd_cmp (op_eqD hr.units) eq_r (val_look (pd_callB call_len_seq len_r (by rfl) T.b_len (by decide +kernel) (pal_cons (pd_l (pv 1)) pal_nil))) (val_look (pd_callB call_len_seq len_r (by rfl) T.b_len (by decide +kernel) (pal_cons (val_look (pd_held T.row (val_look (pd_fldO T.at_Yard_row (pd_v (pv 0)))))) pal_nil))) (nomark _)) (pd_one (pd_cmp op_isN isnon_r (val_look (pd_call (ok_fault_of T) (hr.mono (by decide)) tk (by rfl) (pad_cons (pd_held T.row (val_look (pd_fldO T.at_Yard_row (pd_v (pv 0))))) (pad_cons (pd_v (pv 1)) pad_nil)) (dlen_cons (dlen_cons dlen_nil)))) (val_look pd_non) (nomark _)))))))
abbrev N_Yard_go : List Str := ["self", "state"]
theorem sc_Yard_go : FnScope N_Yard_go ["self", "state"] (defScope (inClass (top 99) 5)) := ⟨rfl, rfl, rfl, by decide +kernel, rfl, by decide +kernel, by decide +kernel⟩
def den_Yard_go : FDen := fnD 2 0 (thenS (appObS (dFldO "Yard" "earlier" (dV 0)) (dCons (dFldO "Yard" "state" (dV 0)) dNil))
    (fldS "Yard" 0 "state" (dV 1)))
theorem ok_Yard_go (T : Txt K mg base) : Ff P w K mg base (He.ma K (cA K "Yard") "go") 1 2 den_Yard_go := by
  obtain ⟨fd, F, hb⟩ := T.f_Yard_go
  refine Ff.mk' F sc_Yard_go hb rfl rfl fun cdv A outer s H E hr => ?_
  have tk := takes_of (X := cxOf (L2.CX P w) P w K mg base N_Yard_go "Yard.go" (defScope (inClass (top 99) 5)) (He.ma K (cA K "Yard") "go") cdv A outer s H E) rfl rfl rfl rfl
  exact (sd_cons (sd_appOb (pd_fldO T.at_Yard_earlier (pd_v (pv 0))) (pad_cons (pd_fldO T.at_Yard_state (pd_v (pv 0))) pad_nil) (fun _ _ a b => ps_expr (pe_bm PySem.F.plainAttrs_list PySem.F.slot_list_append PySem.F.type_list_append mt_append a b)))
    (sd_one (sd_fld T.at_Yard_state (pv 0) (pd_v (pv 1)))))
abbrev N_Yard_send : List Str := ["self", "places", "wagons", "standing", "train", "pulls", "place", "rows", "wagon"]
theorem sc_Yard_send : FnScope N_Yard_send ["self", "places"] (defScope (inClass (top 99) 6)) := ⟨rfl, rfl, rfl, by decide +kernel, rfl, by decide +kernel, by decide +kernel⟩
def den_Yard_send : FDen := fnD 2 7 (thenS (unS [2, 3, 4, 5] (dFldO "Yard" "state" (dV 0)))
    (thenS (ifS (dOrT (dNotT (dT (dUn (isiD .tup) (dL 1)))) (dT (dBin neD (dCB (oneArg lenD) (dCons (dL 1) dNil)) (dCB (oneArg lenD) (dCons (dL 2) dNil))))) (raiseS "BadPlaces") skipS)
    (thenS (forS (dIt asTup (dV 1)) (tgN 6) (ifS (dNotT (dT (dCall den_is_from (dCons (dV 6) (dCons (dC (.int 0)) (dCons (dCB (oneArg lenD) (dCons (dL 3) dNil)) dNil)))))) (raiseS "BadPlaces") skipS))
    (thenS (setN 7 (dBinN catN (dN2V (dLst (dCons (dV 4) dNil))) (dN2V (dCB (oneArg listN) (dCons (dL 3) dNil)))))
    (thenS (forS (dZipX (dCons (dV 2) (dCons (dV 1) dNil))) (tgT [8, 6]) (isetS 7 (dL 6) (dBin addD (dBin ixD (dL 7) (dL 6)) (dTup (dCons (dV 8) dNil)))))
    (exprS (dMethO "Yard" "go" den_Yard_go (dV 0) (dCons (dTup (dCons (dTup dNil) (dCons (dCB (oneArg tupleD) (dCons (dN2V (dSl slN (dL 7) (dPart (dC (.int 1))) dNoPart)) dNil)) (dCons (dBin ixD (dL 7) (dC (.int 0))) (dCons (dV 5) dNil))))) dNil))))))))
theorem ok_Yard_send (T : Txt K mg base) : Ff P w K mg base (He.ma K (cA K "Yard") "send") 3 2 den_Yard_send := by
  obtain ⟨fd, F, hb⟩ := T.f_Yard_send
  refine Ff.mk' F sc_Yard_send hb rfl rfl fun cdv A outer s H E hr => ?_
  have tk := takes_of (X := cxOf (L2.CX P w) P w K mg base N_Yard_send "Yard.send" (defScope (inClass (top 99) 6)) (He.ma K (cA K "Yard") "send") cdv A outer s H E) rfl rfl rfl rfl
  exact (sd_cons (sd_unT (is := [2, 3, 4, 5]) (pd_fldO T.at_Yard_state (pd_v (pv 0))) rfl (pgs_cons (pg_name (i := 2) sc_Yard_send.nd rfl (.inl rfl)) (pgs_cons (pg_name (i := 3) sc_Yard_send.nd rfl (.inl rfl)) (pgs_cons (pg_name (i := 4) sc_Yard_send.nd rfl (.inl rfl)) (pgs_cons (pg_name (i := 5) sc_Yard_send.nd rfl (.inl rfl)) pgs_nil)))) (fun _ _ a b => ps_asg a b))
    (sd_cons (sd_if (PW.pt (pwd_or (ptd_not (pt_bl (pd_isi (x := "tuple") .tup (by decide) (by rfl) T.b_isinstance (by rfl) T.b_tuple (by decide +kernel) (pd_l (pv 1))))) (pw_or1 (pt_cmpD (op_neD hr.units) ne_r (val_look (pd_callB call_len_seq len_r (by rfl) T.b_len (by decide +kernel) (pal_cons (pd_l (pv 1)) pal_nil))) (val_look (pd_callB call_len_seq len_r (by rfl) T.b_len (by decide +kernel) (pal_cons (pd_l (pv 2)) pal_nil))) (nomark _))))) (sd_one (sd_raise0 T.e_BadPlaces rfl tk (by rfl))) sd_nil)
    (sd_cons (sd_for (passes_of rfl) rfl (it_tup (pd_v (pv 1))) (tg_name (i := 6) sc_Yard_send.nd rfl (.inl rfl)) (sd_one (sd_if (ptd_not (pt_bl (pd_call (ok_is_from T) (hr.mono (by decide)) tk (by rfl) (pad_cons (pd_v (pv 6)) (pad_cons pd_int (pad_cons (pd_callB call_len_seq len_r (by rfl) T.b_len (by decide +kernel) (pal_cons (pd_l (pv 3)) pal_nil)) pad_nil))) (dlen_cons (dlen_cons (dlen_cons dlen_nil)))))) (sd_one (sd_raise0 T.e_BadPlaces rfl tk (by rfl))) sd_nil)))
    (sd_cons (sd_setN (i := 7) sc_Yard_send.nd rfl (.inl rfl) (pd_opN op_cat cat_r (new_look (pd_lst (pad_cons (pd_v (pv 4)) pad_nil))) (new_look (pd_callTyN call_list_of list_r (by rfl) T.b_list (by decide +kernel) (pal_cons (pd_l (pv 3)) pal_nil)))))
    (sd_cons (sd_for (passes_of rfl) rfl (it_zipX (by rfl) T.b_zip (pad_cons (pd_v (pv 2)) (pad_cons (pd_v (pv 1)) pad_nil))) (tg_tup (is := [8, 6]) rfl (pgs_cons (pg_name (i := 8) sc_Yard_send.nd rfl (.inl rfl)) (pgs_cons (pg_name (i := 6) sc_Yard_send.nd rfl (.inl rfl)) pgs_nil))) (sd_one (sd_iset (pv 7) (pd_l (pv 6)) (pd_op op_addX add_r (val_look (pd_ix (pd_l (pv 7)) (pd_l (pv 6)))) (val_look (pd_tup (pad_cons (pd_v (pv 8)) pad_nil)))))))
    (sd_one (sd_expr (pd_methO T.cls_Yard T.m_Yard_go (ok_Yard_go T) (hr.mono (by decide)) tk (pd_v (pv 0)) (pad_cons (pd_tup (pad_cons (pd_tup pad_nil) (pad_cons (pd_callTy call_tuple_of tuple_r (by rfl) T.b_tuple (by decide +kernel) (pal_cons (new_look (pd_slN (pd_l (pv 7)) (pod_some (val_look pd_int)) pod_none)) pal_nil)) (pad_cons (pd_ix (pd_l (pv 7)) (val_look pd_int)) (pad_cons (pd_v (pv 5)) pad_nil))))) pad_nil) (dlen_cons dlen_nil) (h := fun he ha F hb => pe_methE he T.cls_Yard.cls T.m_Yard_go F (hr.mono (by decide)) hb (fun σ => passAt tk σ) ha)))))))))
abbrev N_Yard_pull : List Str := ["self", "track", "wagons", "standing", "train", "pulls", "here", "rows"]
theorem sc_Yard_pull : FnScope N_Yard_pull ["self", "track"] (defScope (inClass (top 99) 7)) := ⟨rfl, rfl, rfl, by decide +kernel, rfl, by decide +kernel, by decide +kernel⟩
def den_Yard_pull : FDen := fnD 2 6 (thenS (unS [2, 3, 4, 5] (dFldO "Yard" "state" (dV 0)))
    (thenS (ifS (dNotT (dT (dCall den_is_from (dCons (dV 1) (dCons (dC (.int 1)) (dCons (dCB (oneArg lenD) (dCons (dL 3) dNil)) dNil)))))) (raiseS "BadTrack") skipS)
    (thenS (ifS (dTru (dL 2)) (raiseS "Busy") skipS)
    (thenS (setS 6 (dBin ixD (dL 3) (dBin subD (dL 1) (dC (.int 1)))))
    (thenS (ifS (dNotT (dTru (dL 6))) (raiseS "Empty") skipS)
    (thenS (setS 7 (dBin addD (dBin addD (dSl slT (dL 3) dNoPart (dPart (dBin subD (dL 1) (dC (.int 1))))) (dTup (dCons (dTup dNil) dNil))) (dSl slT (dL 3) (dPart (dL 1)) dNoPart)))
    (thenS (exprS (dMethO "Yard" "go" den_Yard_go (dV 0) (dCons (dTup (dCons (dV 6) (dCons (dV 7) (dCons (dV 4) (dCons (dBin addD (dL 5) (dC (.int 1))) dNil))))) dNil)))
    (retS (dV 6)))))))))
theorem ok_Yard_pull (T : Txt K mg base) : Ff P w K mg base (He.ma K (cA K "Yard") "pull") 3 2 den_Yard_pull := by
  obtain ⟨fd, F, hb⟩ := T.f_Yard_pull
  refine Ff.mk' F sc_Yard_pull hb rfl rfl fun cdv A outer s H E hr => ?_
  have tk := takes_of (X := cxOf (L2.CX P w) P w K mg base N_Yard_pull "Yard.pull" (defScope (inClass (top 99) 7)) (He.ma K (cA K "Yard") "pull") cdv A outer s H E) rfl rfl rfl rfl
  exact (sd_cons (sd_unT (is := [2, 3, 4, 5]) (pd_fldO T.at_Yard_state (pd_v (pv 0))) rfl (pgs_cons (pg_name (i := 2) sc_Yard_pull.nd rfl (.inl rfl)) (pgs_cons (pg_name (i := 3) sc_Yard_pull.nd rfl (.inl rfl)) (pgs_cons (pg_name (i := 4) sc_Yard_pull.nd rfl (.inl rfl)) (pgs_cons (pg_name (i := 5) sc_Yard_pull.nd rfl (.inl rfl)) pgs_nil)))) (fun _ _ a b => ps_asg a b))
    (sd_cons (sd_if (ptd_not (pt_bl (pd_call (ok_is_from T) (hr.mono (by decide)) tk (by rfl) (pad_cons (pd_v (pv 1)) (pad_cons pd_int (pad_cons (pd_callB call_len_seq len_r (by rfl) T.b_len (by decide +kernel) (pal_cons (pd_l (pv 3)) pal_nil)) pad_nil))) (dlen_cons (dlen_cons (dlen_cons dlen_nil)))))) (sd_one (sd_raise0 T.e_BadTrack rfl tk (by rfl))) sd_nil)
    (sd_cons (sd_if (pt_tru (pd_l (pv 2))) (sd_one (sd_raise0 T.e_Busy rfl tk (by rfl))) sd_nil)
    (sd_cons (sd_set (i := 6) sc_Yard_pull.nd rfl (.inl rfl) (pd_ix (pd_l (pv 3)) (val_look (pd_op op_sub sub_r (pd_l (pv 1)) (val_look pd_int)))))
    (sd_cons (sd_if (ptd_not (pt_tru (pd_l (pv 6)))) (sd_one (sd_raise0 T.e_Empty rfl tk (by rfl))) sd_nil)
    (sd_cons (sd_set (i := 7) sc_Yard_pull.nd rfl (.inl rfl) (pd_op op_addX add_r (val_look (pd_op op_addX add_r (val_look (pd_slT (pd_l (pv 3)) pod_none (pod_some (val_look (pd_op op_sub sub_r (pd_l (pv 1)) (val_look pd_int)))))) (val_look (pd_tup (pad_cons (pd_tup pad_nil) pad_nil))))) (val_look (pd_slT (pd_l (pv 3)) (pod_some (pd_l (pv 1))) pod_none))))
    (sd_cons (sd_expr (pd_methO T.cls_Yard T.m_Yard_go (ok_Yard_go T) (hr.mono (by decide)) tk (pd_v (pv 0)) (pad_cons (pd_tup (pad_cons (pd_v (pv 6)) (pad_cons (pd_v (pv 7)) (pad_cons (pd_v (pv 4)) (pad_cons (pd_op op_addX add_r (pd_l (pv 5)) (val_look pd_int)) pad_nil))))) pad_nil) (dlen_cons dlen_nil) (h := fun he ha F hb => pe_methE he T.cls_Yard.cls T.m_Yard_go F (hr.mono (by decide)) hb (fun σ => passAt tk σ) ha)))
    (sd_one (sd_ret (pd_v (pv 6)))))))))))
abbrev N_Yard___len__ : List Str := ["self"]
theorem sc_Yard___len__ : FnScope N_Yard___len__ ["self"] (defScope (inClass (top 99) 10)) := ⟨rfl, rfl, rfl, by decide +kernel, rfl, by decide +kernel, by decide +kernel⟩
def den_Yard___len__ : FDen := fnD 1 0 (retS (dCB (oneArg lenD) (dCons (dN2V (dBinN repN (dN2V (dLst (dCons (dC (.int 1)) dNil))) (dBin ixD (dFldO "Yard" "state" (dV 0)) (dC (.int 3))))) dNil)))
theorem ok_Yard___len__ (T : Txt K mg base) : Ff P w K mg base (He.ma K (cA K "Yard") "__len__") 1 1 den_Yard___len__ := by
  obtain ⟨fd, F, hb⟩ := T.f_Yard___len__
  refine Ff.mk' F sc_Yard___len__ hb rfl rfl fun cdv A outer s H E hr => ?_
  have tk := takes_of (X := cxOf (L2.CX P w) P w K mg base N_Yard___len__ "Yard.__len__" (defScope (inClass (top 99) 10)) (He.ma K (cA K "Yard") "__len__") cdv A outer s H E) rfl rfl rfl rfl
  exact (sd_one (sd_ret (pd_callB call_len_seq len_r (by rfl) T.b_len (by decide +kernel) (pal_cons (new_look (pd_opN op_rep rep_r (new_look (pd_lst (pad_cons pd_int pad_nil))) (val_look (pd_ix (val_look (pd_fldO T.at_Yard_state (pd_v (pv 0)))) (val_look pd_int))))) pal_nil))))
abbrev N_law_mix : List Str := ["_law_script", "_law_seed", "_law_state", "_law_cell"]
theorem sc_law_mix : FnScope N_law_mix ["_law_script", "_law_seed"] (defScope (top 101)) := ⟨rfl, rfl, rfl, by decide +kernel, rfl, by decide +kernel, by decide +kernel⟩
def den_law_mix : FDen := fnD 2 2 (thenS (setS 2 (dV 1))
    (thenS (forS (dIt asScr (dV 0)) (tgN 3) (setS 2 (dBin modD (dCB (oneArg intD) (dCons (dBin addD (dBin addD (dBin mulD (dL 2) (dC (.int 48271))) (dBin modD (dCB (oneArg intD) (dCons (dL 3) dNil)) (dC (.int 2147483629)))) (dC (.int 1))) dNil)) (dC (.int 2147483647)))))
    (retS (dGen (dCons (dItV (dV 2)) (dCons (dItN (dCB (oneArg listScr) (dCons (dL 0) dNil))) (dCons (dItV (dC (.int 0))) dNil)))))))
theorem ok_law_mix (T : Txt K mg base) : Fd P w K mg base "_law_mix" 1 2 den_law_mix := by
  obtain ⟨a, fd, F, hm, hb⟩ := T.f_law_mix
  refine Fd.mk' F sc_law_mix hm hb rfl rfl fun cdv A outer s H E hr => ?_
  have tk := takes_of (X := cxOf (L2.CX P w) P w K mg base N_law_mix "_law_mix" (defScope (top 101)) a cdv A outer s H E) rfl rfl rfl rfl
  exact (sd_cons (sd_set (i := 2) sc_law_mix.nd rfl (.inl rfl) (pd_v (pv 1)))
    (sd_cons (sd_for (passes_of rfl) rfl (it_scr (pd_v (pv 0))) (tg_name (i := 3) sc_law_mix.nd rfl (.inl rfl)) (sd_one (sd_set (i := 2) sc_law_mix.nd rfl (.inl rfl) (pd_op op_mod mod_r (val_look (pd_callTy call_int1 int_r (by rfl) T.b_int (by decide +kernel) (pal_cons (val_look (pd_op op_addX add_r (val_look (pd_op op_addX add_r (val_look (pd_op op_mul mul_r (pd_l (pv 2)) (val_look pd_int))) (val_look (pd_op op_mod mod_r (val_look (pd_callTy call_int1 int_r (by rfl) T.b_int (by decide +kernel) (pal_cons (pd_l (pv 3)) pal_nil))) (val_look pd_int))))) (val_look pd_int))) pal_nil))) (val_look pd_int)))))
    (sd_one (sd_ret (pd_gen (pai_consV (pd_v (pv 2)) (pai_consN (pd_callTyN call_list_of listScr_r (by rfl) T.b_list (by decide +kernel) (pal_cons (pd_l (pv 0)) pal_nil)) (pai_consV pd_int pai_nil))))))))
abbrev N_law_next : List Str := ["_law_h", "_law_bound", "_law_cell", "_law_cells"]
theorem sc_law_next : FnScope N_law_next ["_law_h", "_law_bound"] (defScope (top 102)) := ⟨rfl, rfl, rfl, by decide +kernel, rfl, by decide +kernel, by decide +kernel⟩
theorem ok_law_next (T : Txt K mg base) : Fd P w K mg base "_law_next" 1 2 den_law_next := by
  obtain ⟨fa, fd, F, hm, hb⟩ := T.f_law_next
  refine ⟨fa, fd, _, F.ok sc_law_next (fun vs H Q E q => q.1) (fun cdv A outer s0 H vs Q E hr q => ?_), hm, F.kp, hb⟩
  obtain ⟨hv, B, F0, z, ow, m, ds, S, r, q⟩ := q
  cases hden : den_law_next ds m with
  | err x m' => exact (next_noerr hden).elim
  | bad => rw [hden] at q; exact q.elim
  | ok dm =>
    obtain ⟨d, m'⟩ := dm
    rw [hden] at q
    obtain ⟨n, b, s, cs, i, rr0, gg, rfl, hb0, hb1, hg, hlen, hnx, rfl, rfl⟩ := next_inv hden
    have hb := And.intro hb0 hb1
    clear hden
    dsimp only at q
    obtain ⟨v0, vs1, rfl, r0, r1⟩ := r.uncons
    obtain ⟨v1, vs2, rfl, rb, r2⟩ := r1.uncons
    cases r2.nil_of
    cases rep_int.mp rb
    obtain ⟨a, c, hAs, ne, hA, hC, wa, wc⟩ := S.genAt hg
    have r0 : ∃ a r, v0 = .ref a ∧ z.As[n]? = some (a :: r) := by simpa only [Rep] using r0
    obtain ⟨a', rr, rfl, e0⟩ := r0
    rw [hAs] at e0
    cases e0
    have small : cs.length + 1 ≤ sizeLine := Nat.le_trans (by omega : cs.length + 1 ≤ 2000) (by decide)
    refine ⟨_, pss_cons (ps_set (i := 2) sc_law_next.nd rfl (.inl rfl) (pe_ix ix_list (pe_op op_cat (pe_ix ix_list (pv 0) pe_int (fun _ _ => rfl)) (pe_lst (pa_cons pe_int pa_nil)))
        (pe_op op_mod (pe_callTy call_int1 (by rfl) T.b_int (by decide +kernel) (pa_cons (pe_ix ix_list (pv 0) pe_int (fun _ _ => rfl)) pa_nil))
          (pe_callB (call_max2 rfl) (by rfl) T.b_max (by decide +kernel) (pa_cons pe_int (pa_cons (pe_callB call_len_seq (by rfl) T.b_len (by decide +kernel) (pa_cons (pe_ix ix_list (pv 0) pe_int (fun _ _ => rfl)) pa_nil)) pa_nil)))) (fun _ _ => rfl)))
      (pss_cons (ps_if (pt_cmpR op_ge (pv 2) (pe_op op_pow pe_int pe_int) (nomark _))
        (pss_cons (ps_set (i := 3) sc_law_next.nd rfl (.inl rfl) (pe_ix ix_list (pv 0) pe_int (fun _ _ => rfl)))
        (pss_cons (ps_asg (pe_op op_fdivW (pv 2) (pv 1)) (pg_sub (pv 3) (pe_op op_mod (pe_callTy call_int1 (by rfl) T.b_int (by decide +kernel) (pa_cons (pe_ix ix_list (pv 0) pe_int (fun _ _ => rfl)) pa_nil)) (pe_callB call_len_seq (by rfl) T.b_len (by decide +kernel) (pa_cons (pv 3) pa_nil))) set_list))
        (pss_one (ps_ret (pe_op op_mod (pe_callTy call_int1 (by rfl) T.b_int (by decide +kernel) (pa_cons (pv 2) pa_nil)) (pv 1)))))) pss_nil)
      (pss_cons (ps_asg (pe_op op_mod (pe_callTy call_int1 (by rfl) T.b_int (by decide +kernel) (pa_cons (pe_op op_add (pe_op op_add (pe_op op_mul (pe_ix ix_list (pv 0) pe_int (fun _ _ => rfl)) pe_int) (pe_op op_mul (pv 2) pe_int)) pe_int) pa_nil)) pe_int) (pg_sub (pv 0) pe_int set_list))
      (pss_cons (ps_asg (pe_op op_add (pe_ix ix_list (pv 0) pe_int (fun _ _ => rfl)) pe_int) (pg_sub (pv 0) pe_int set_list))
      (pss_one (ps_ret (pe_op op_mod (pe_callTy call_int1 (by rfl) T.b_int (by decide +kernel) (pa_cons (pe_op op_fdivW (pe_ix ix_list (pv 0) pe_int (fun _ _ => rfl)) pe_int) pa_nil)) (pv 1))))))), ?_⟩
    -- _law_h[1] + [0]
    refine ⟨.ref a, rfl, a, _, 1, .ref c, rfl, rfl, SqL.of hA, rfl, by decide, fun p1 hp1 => ?_⟩
    have na1 : a ≠ p1 := ne_of_none hA hp1
    have nc1 : c ≠ p1 := ne_of_none hC hp1
    refine ⟨c, p1, cs.map V.int, [.int 0], rfl, rfl, by rw [upd_ne nc1]; exact hC, upd_same, by rw [List.length_map]; exact small, fun p2 hp2 => ?_⟩
    have hp2' : p2 ≠ p1 := fun e => by rw [e, upd_same] at hp2; cases hp2
    have hp2H : H p2 = none := by rw [upd_ne hp2'] at hp2; exact hp2
    have na2 : a ≠ p2 := ne_of_none hA hp2H
    have nc2 : c ≠ p2 := ne_of_none hC hp2H
    generalize hH2 : upd (upd H p1 (.lst [.int 0])) p2 (.lst (cs.map V.int ++ [.int 0])) = H2
    have hA2 : H2 a = some (.lst [.int s, .ref c, .int i]) := by rw [← hH2, upd_ne na2, upd_ne na1]; exact hA
    have hC2 : H2 c = some (.lst (cs.map V.int)) := by rw [← hH2, upd_ne nc2, upd_ne nc1]; exact hC
    have hP2 : H2 p2 = some (.lst (cs.map V.int ++ [.int 0])) := by rw [← hH2, upd_same]
    have sm : Same H H2 := by rw [← hH2]; exact (same_upd hp1).trans (same_upd hp2)
    -- the index
    refine ⟨.ref a, rfl, a, _, 2, .int i, rfl, rfl, SqL.of hA2, rfl, .inl ⟨i, rfl, ?_⟩⟩
    refine ⟨.ref a, rfl, a, _, 1, .ref c, rfl, rfl, SqL.of hA2, rfl, c, _, rfl, .inl (SqL.of hC2), 1, _, rfl, ?_⟩
    rw [List.length_map]
    refine ⟨i, _, rfl, rfl, by split <;> omega, ?_⟩
    unfold nextG at hnx
    cases hcell : atI (cs ++ [0]) (i % (if (cs.length : Int) > 1 then (cs.length : Int) else 1)) with
    | none => rw [hcell] at hnx; cases hnx
    | some cell =>
      rw [hcell] at hnx
      have hcell2 : atI (cs.map V.int ++ [V.int 0]) (i % (if (cs.length : Int) > 1 then (cs.length : Int) else 1)) = some (.int cell) := by
        have e : cs.map V.int ++ [V.int 0] = (cs ++ [0]).map V.int := by rw [List.map_append]; rfl
        rw [e]
        unfold atI at hcell ⊢
        rw [List.length_map]
        cases hx : ixN (cs ++ [0]).length (i % (if (cs.length : Int) > 1 then (cs.length : Int) else 1)) with
        | none => rw [hx] at hcell; cases hcell
        | some j =>
          rw [hx] at hcell
          show ((cs ++ [0]).map V.int)[j]? = _
          rw [List.getElem?_map]
          have hcell : (cs ++ [0])[j]? = some cell := hcell
          rw [hcell]
          rfl
      refine ⟨p2, _, _, .int cell, rfl, rfl, SqL.of hP2, hcell2, ?_⟩
      -- if _law_cell >= 10 ** 18
      refine ⟨.int cell, rfl, 10, 18, rfl, rfl, ⟨by decide, by decide, by decide⟩, cell, 10 ^ 18, rfl, rfl, _, rfl, ?_⟩
      dsimp only at hnx
      by_cases hbig : cell ≥ 10 ^ 18
      · rw [if_pos hbig] at hnx
        have hd : decide ((10 : Int) ^ 18 ≤ cell) = true := decide_eq_true hbig
        cases hk : ixN cs.length (i % cs.length) with
        | none => rw [hk] at hnx; cases hnx
        | some k =>
          rw [hk] at hnx
          cases hnx
          have hpos : 0 < (cs.length : Int) := by
            rcases Nat.eq_zero_or_pos cs.length with h0 | h0
            · exfalso
              rw [h0] at hk
              unfold ixN at hk
              split at hk
              · rename_i h1
                rw [if_neg (by intro h2; have : i % ((0 : Nat) : Int) = i := Int.emod_zero i; omega)] at hk
                cases hk
              · split at hk
                · rename_i h1 h2
                  omega
                · cases hk
            · omega
          rw [hd]
          refine iteT ?_
          refine ⟨.ref a, rfl, a, _, 1, .ref c, rfl, rfl, SqL.of hA2, rfl, ?_⟩
          refine ⟨.int cell, rfl, .int b, rfl, cell, b, rfl, rfl, hb, ?_⟩
          refine ⟨.ref c, rfl, .ref a, rfl, a, _, 2, .int i, rfl, rfl, SqL.of hA2, rfl, .inl ⟨i, rfl, ?_⟩⟩
          refine ⟨.ref c, rfl, c, _, rfl, .inl (SqL.of hC2), i, _, rfl, rfl, by rw [List.length_map]; exact hpos, ?_⟩
          refine ⟨c, _, _, k, rfl, rfl, hC2, by rw [List.length_map]; exact hk, ?_⟩
          refine ⟨.int cell, rfl, .inl ⟨cell, rfl, .int b, rfl, cell, b, rfl, rfl, hb.1, ?_⟩⟩
          refine q z ow _ _ (Fz.le.refl _) (((S.same sm).genChange (i' := i) (s' := s) (cs' := cs.set k (cell / b)) hg hAs ?_ ?_ ?_)) (rep_int.mpr rfl)
          · rw [upd_ne ne]; exact hA2
          · rw [upd_same, List.map_set]
          · intro x o _ h2 e
            rw [upd_ne h2]
            exact e
      · rw [if_neg hbig] at hnx
        cases hnx
        have hd : decide ((10 : Int) ^ 18 ≤ cell) = false := decide_eq_false hbig
        rw [hd]
        refine iteF ?_
        refine ⟨.ref a, rfl, a, _, 0, .int s, rfl, rfl, SqL.of hA2, rfl, s, 48271, rfl, rfl, .inr (by decide), ?_⟩
        refine ⟨.int cell, rfl, cell, 69621, rfl, rfl, .inr (by decide), s * 48271, cell * 69621, rfl, rfl, s * 48271 + cell * 69621, 11, rfl, rfl, .inl ⟨_, rfl, _, 2147483647, rfl, rfl, (show (0 : Int) < 2147483647 by decide), ?_⟩⟩
        refine ⟨.ref a, rfl, a, _, 0, 0, rfl, rfl, hA2, rfl, ?_⟩
        have hA3 : upd H2 a (.lst [.int ((s * 48271 + cell * 69621 + 11) % 2147483647), .ref c, .int i]) a = some (.lst [.int ((s * 48271 + cell * 69621 + 11) % 2147483647), .ref c, .int i]) := upd_same
        refine ⟨.ref a, rfl, a, _, 2, .int i, rfl, rfl, SqL.of hA3, rfl, i, 1, rfl, rfl, ?_⟩
        refine ⟨.ref a, rfl, a, _, 2, 2, rfl, rfl, hA3, rfl, ?_⟩
        have hA4 : upd (upd H2 a (.lst [.int ((s * 48271 + cell * 69621 + 11) % 2147483647), .ref c, .int i])) a (.lst [.int ((s * 48271 + cell * 69621 + 11) % 2147483647), .ref c, .int (i + 1)]) a = some (.lst [.int ((s * 48271 + cell * 69621 + 11) % 2147483647), .ref c, .int (i + 1)]) := upd_same
        refine ⟨.ref a, rfl, a, _, 0, .int ((s * 48271 + cell * 69621 + 11) % 2147483647), rfl, rfl, SqL.of hA4, rfl, ((s * 48271 + cell * 69621 + 11) % 2147483647), 7, rfl, rfl, ⟨by decide, by decide⟩, .inl ⟨_, rfl, .int b, rfl, _, b, rfl, rfl, hb.1, ?_⟩⟩
        refine q z ow _ _ (Fz.le.refl _) (((S.same sm).genChange (i' := i + 1) (s' := ((s * 48271 + cell * 69621 + 11) % 2147483647)) (cs' := cs) hg hAs ?_ ?_ ?_)) (rep_int.mpr rfl)
        · exact hA4
        · show upd (upd H2 a _) a _ c = _
          rw [upd_ne (Ne.symm ne), upd_ne (Ne.symm ne)]
          exact hC2
        · intro x o h1 _ e
          show upd (upd H2 a _) a _ x = _
          rw [upd_ne h1, upd_ne h1]
          exact e
abbrev N_law_codes : List Str := []
theorem sc_law_codes : FnScope N_law_codes [] (defScope (top 103)) := ⟨rfl, rfl, rfl, by decide +kernel, rfl, by decide +kernel, by decide +kernel⟩
def den_law_codes : FDen := fnD 0 0 (thenS (ifS (dOrT (dT (dBin neD (dCall den_allowed (dCons (dC (.int 2)) (dCons (dC (.int 1)) dNil))) (dN2V (dLst (dCons (dC (.int 0)) (dCons (dC (.int 1)) (dCons (dC (.int 3)) dNil))))))) (dOrT (dT (dBin neD (dCall den_allowed (dCons (dC (.int 3)) (dCons (dC (.int 2)) dNil))) (dN2V (dLst (dCons (dC (.int 0)) (dCons (dC (.int 1)) (dCons (dC (.int 2)) (dCons (dC (.int 3)) (dCons (dC (.int 5)) (dCons (dC (.int 6)) (dCons (dC (.int 7)) dNil))))))))))) (dT (dBin neD (dCall den_allowed (dCons (dC (.int 0)) (dCons (dC (.int 4)) dNil))) (dN2V (dLst (dCons (dC (.int 0)) dNil))))))) (retS (dC (.bl false))) skipS)
    (thenS (ifS (dOrT (dT (dBin neD (dCall den_reach (dCons (dC (.int 3)) (dCons (dC (.int 4)) dNil))) (dC (.int 8)))) (dOrT (dT (dBin neD (dCall den_reach (dCons (dC (.int 200)) (dCons (dC (.int 1)) dNil))) (dC (.int 201)))) (dOrT (dT (dBin neD (dCall den_for_any (dCons (dC (.int 1)) (dCons (dC (.int 3)) dNil))) (dC (.int 0)))) (dOrT (dT (dBin neD (dCall den_for_any (dCons (dC (.int 8)) (dCons (dC (.int 4)) dNil))) (dC (.int 3)))) (dT (dBin neD (dCall den_for_any (dCons (dC (.int 9)) (dCons (dC (.int 4)) dNil))) (dC (.int 4)))))))) (retS (dC (.bl false))) skipS)
    (retS (dBin eqD (dCall den_for_any (dCons (dBin powD (dC (.int 10)) (dC (.int 30))) (dCons (dC (.int 1)) dNil))) (dBin subD (dBin powD (dC (.int 10)) (dC (.int 30))) (dC (.int 1)))))))
theorem ok_law_codes (T : Txt K mg base) : Fd P w K mg base "_law_codes" 5 0 den_law_codes := by
  obtain ⟨a, fd, F, hm, hb⟩ := T.f_law_codes
  refine Fd.mk' F sc_law_codes hm hb rfl rfl fun cdv A outer s H E hr => ?_
  have tk := takes_of (X := cxOf (L2.CX P w) P w K mg base N_law_codes "_law_codes" (defScope (top 103)) a cdv A outer s H E) rfl rfl rfl rfl
  exact (sd_cons (sd_if (PW.pt (pwd_or (pt_cmpD (op_neD hr.units) ne_r (val_look (pd_call (ok_allowed T) (hr.mono (by decide)) tk (by rfl) (pad_cons pd_int (pad_cons pd_int pad_nil)) (dlen_cons (dlen_cons dlen_nil)))) (new_look (pd_lst (pad_cons pd_int (pad_cons pd_int (pad_cons pd_int pad_nil))))) (nomark _)) (pwd_or (pt_cmpD (op_neD hr.units) ne_r (val_look (pd_call (ok_allowed T) (hr.mono (by decide)) tk (by rfl) (pad_cons pd_int (pad_cons pd_int pad_nil)) (dlen_cons (dlen_cons dlen_nil)))) (new_look (pd_lst (pad_cons pd_int (pad_cons pd_int (pad_cons pd_int (pad_cons pd_int (pad_cons pd_int (pad_cons pd_int (pad_cons pd_int pad_nil))))))))) (nomark _)) (pw_or1 (pt_cmpD (op_neD hr.units) ne_r (val_look (pd_call (ok_allowed T) (hr.mono (by decide)) tk (by rfl) (pad_cons pd_int (pad_cons pd_int pad_nil)) (dlen_cons (dlen_cons dlen_nil)))) (new_look (pd_lst (pad_cons pd_int pad_nil))) (nomark _)))))) (sd_one (sd_ret pd_bl)) sd_nil)
    (sd_cons (sd_if (PW.pt (pwd_or (pt_cmpD (op_neD hr.units) ne_r (val_look (pd_call (ok_reach T) (hr.mono (by decide)) tk (by rfl) (pad_cons pd_int (pad_cons pd_int pad_nil)) (dlen_cons (dlen_cons dlen_nil)))) (val_look pd_int) (nomark _)) (pwd_or (pt_cmpD (op_neD hr.units) ne_r (val_look (pd_call (ok_reach T) (hr.mono (by decide)) tk (by rfl) (pad_cons pd_int (pad_cons pd_int pad_nil)) (dlen_cons (dlen_cons dlen_nil)))) (val_look pd_int) (nomark _)) (pwd_or (pt_cmpD (op_neD hr.units) ne_r (val_look (pd_call (ok_for_any T) (hr.mono (by decide)) tk (by rfl) (pad_cons pd_int (pad_cons pd_int pad_nil)) (dlen_cons (dlen_cons dlen_nil)))) (val_look pd_int) (nomark _)) (pwd_or (pt_cmpD (op_neD hr.units) ne_r (val_look (pd_call (ok_for_any T) (hr.mono (by decide)) tk (by rfl) (pad_cons pd_int (pad_cons pd_int pad_nil)) (dlen_cons (dlen_cons dlen_nil)))) (val_look pd_int) (nomark _)) (pw_or1 (pt_cmpD (op_neD hr.units) ne_r (val_look (pd_call (ok_for_any T) (hr.mono (by decide)) tk (by rfl) (pad_cons pd_int (pad_cons pd_int pad_nil)) (dlen_cons (dlen_cons dlen_nil)))) (val_look pd_int) (nomark _)))))))) (sd_one (sd_ret pd_bl)) sd_nil)
    (sd_one (sd_ret (pd_cmp (op_eqD hr.units) eq_r (val_look (pd_call (ok_for_any T) (hr.mono (by decide)) tk (by rfl) (pad_cons (pd_op op_pow pow_r (val_look pd_int) (val_look pd_int)) (pad_cons pd_int pad_nil)) (dlen_cons (dlen_cons dlen_nil)))) (val_look (pd_op op_sub sub_r (val_look (pd_op op_pow pow_r (val_look pd_int) (val_look pd_int))) (val_look pd_int))) (nomark _))))))
abbrev N_law_runs : List Str := ["_law_row"]
theorem sc_law_runs : FnScope N_law_runs [] (defScope (top 104)) := ⟨rfl, rfl, rfl, by decide +kernel, rfl, by decide +kernel, by decide +kernel⟩
def den_law_runs : FDen := fnD 0 1 (thenS (setS 0 (dMkRow (dTup (dCons (dC (.int 2)) (dCons (dC (.int 0)) (dCons (dC (.int 1)) dNil))))))
    (thenS (ifS (dOrT (dT (dBin neD (dCall den_run (dCons (dV 0) (dCons (dC (.int 1)) (dCons (dC (.int 1)) (dCons (dTup (dCons (dC (.int 1)) (dCons (dC (.int 0)) (dCons (dC (.int 0)) dNil)))) dNil))))) (dTup (dCons (dTup (dCons (dTup (dCons (dC (.int 0)) dNil)) dNil)) (dCons (dTup (dCons (dC (.int 1)) (dCons (dC (.int 2)) (dCons (dC (.int 0)) dNil)))) dNil))))) (dT (dBin notNonD (dCall den_judge (dCons (dV 0) (dCons (dC (.int 1)) (dCons (dC (.int 1)) (dCons (dTup (dCons (dC (.int 1)) (dCons (dC (.int 0)) (dCons (dC (.int 0)) dNil)))) dNil))))) (dC .non)))) (retS (dC (.bl false))) skipS)
    (retS (dAnd (dBin eqD (dCall den_judge (dCons (dV 0) (dCons (dC (.int 1)) (dCons (dC (.int 1)) (dCons (dTup (dCons (dC (.int 0)) (dCons (dC (.int 0)) (dCons (dC (.int 0)) dNil)))) dNil))))) (dTup (dCons (dC (.int 0)) (dCons (dC (.int 1)) dNil)))) (dBin eqD (dCall den_run (dCons (dV 0) (dCons (dC (.int 2)) (dCons (dC (.int 1)) (dCons (dTup (dCons (dC (.int 3)) (dCons (dC (.int 0)) (dCons (dC (.int 1)) dNil)))) dNil))))) (dTup (dCons (dTup (dCons (dTup (dCons (dC (.int 0)) (dCons (dC (.int 2)) dNil))) (dCons (dTup (dCons (dC (.int 0)) dNil)) dNil))) (dCons (dTup (dCons (dC (.int 1)) (dCons (dC (.int 2)) (dCons (dC (.int 0)) dNil)))) dNil))))))))
theorem ok_law_runs (T : Txt K mg base) : Fd P w K mg base "_law_runs" 7 0 den_law_runs := by
  obtain ⟨a, fd, F, hm, hb⟩ := T.f_law_runs
  refine Fd.mk' F sc_law_runs hm hb rfl rfl fun cdv A outer s H E hr => ?_
  have tk := takes_of (X := cxOf (L2.CX P w) P w K mg base N_law_runs "_law_runs" (defScope (top 104)) a cdv A outer s H E) rfl rfl rfl rfl
  exact (sd_cons (sd_set (i := 0) sc_law_runs.nd rfl (.inl rfl) (pd_mkRow T.row T.mk_Row (ok_Row___init__ T) rowInit (hr.mono (by decide)) tk (by rfl) (pd_tup (pad_cons pd_int (pad_cons pd_int (pad_cons pd_int pad_nil))))))
    (sd_cons (sd_if (PW.pt (pwd_or (pt_cmpD (op_neD hr.units) ne_r (val_look (pd_call (ok_run T) (hr.mono (by decide)) tk (by rfl) (pad_cons (pd_v (pv 0)) (pad_cons pd_int (pad_cons pd_int (pad_cons (pd_tup (pad_cons pd_int (pad_cons pd_int (pad_cons pd_int pad_nil)))) pad_nil)))) (dlen_cons (dlen_cons (dlen_cons (dlen_cons dlen_nil)))))) (val_look (pd_tup (pad_cons (pd_tup (pad_cons (pd_tup (pad_cons pd_int pad_nil)) pad_nil)) (pad_cons (pd_tup (pad_cons pd_int (pad_cons pd_int (pad_cons pd_int pad_nil)))) pad_nil)))) (nomark _)) (pw_or1 (pt_cmpD op_notN notnon_r (val_look (pd_call (ok_judge T) (hr.mono (by decide)) tk (by rfl) (pad_cons (pd_v (pv 0)) (pad_cons pd_int (pad_cons pd_int (pad_cons (pd_tup (pad_cons pd_int (pad_cons pd_int (pad_cons pd_int pad_nil)))) pad_nil)))) (dlen_cons (dlen_cons (dlen_cons (dlen_cons dlen_nil)))))) (val_look pd_non) (nomark _))))) (sd_one (sd_ret pd_bl)) sd_nil)
    (sd_one (sd_ret (pd_and (pd_cmp (op_eqD hr.units) eq_r (val_look (pd_call (ok_judge T) (hr.mono (by decide)) tk (by rfl) (pad_cons (pd_v (pv 0)) (pad_cons pd_int (pad_cons pd_int (pad_cons (pd_tup (pad_cons pd_int (pad_cons pd_int (pad_cons pd_int pad_nil)))) pad_nil)))) (dlen_cons (dlen_cons (dlen_cons (dlen_cons dlen_nil)))))) (val_look (pd_tup (pad_cons pd_int (pad_cons pd_int pad_nil)))) (nomark _)) (pd_one (pd_cmp (op_eqD hr.units) eq_r (val_look (pd_call (ok_run T) (hr.mono (by decide)) tk (by rfl) (pad_cons (pd_v (pv 0)) (pad_cons pd_int (pad_cons pd_int (pad_cons (pd_tup (pad_cons pd_int (pad_cons pd_int (pad_cons pd_int pad_nil)))) pad_nil)))) (dlen_cons (dlen_cons (dlen_cons (dlen_cons dlen_nil)))))) (val_look (pd_tup (pad_cons (pd_tup (pad_cons (pd_tup (pad_cons pd_int (pad_cons pd_int pad_nil))) (pad_cons (pd_tup (pad_cons pd_int pad_nil)) pad_nil))) (pad_cons (pd_tup (pad_cons pd_int (pad_cons pd_int (pad_cons pd_int pad_nil)))) pad_nil)))) (nomark _))))))))
abbrev N_law_leasts : List Str := ["_law_row", "_law_fall"]
theorem sc_law_leasts : FnScope N_law_leasts [] (defScope (top 105)) := ⟨rfl, rfl, rfl, by decide +kernel, rfl, by decide +kernel, by decide +kernel⟩
def den_law_leasts : FDen := fnD 0 2 (thenS (parS [0, 1] (dCons (dItV (dMkRow (dTup (dCons (dC (.int 2)) (dCons (dC (.int 0)) (dCons (dC (.int 1)) dNil)))))) (dCons (dItV (dMkRow (dTup (dCons (dC (.int 3)) (dCons (dC (.int 2)) (dCons (dC (.int 1)) (dCons (dC (.int 0)) dNil))))))) dNil)))
    (thenS (ifS (dOrT (dT (dBin neD (dCall den_chain (dCons (dV 0) dNil)) (dTup (dCons (dTup (dCons (dC (.int 1)) (dCons (dC (.int 0)) dNil))) dNil)))) (dOrT (dT (dBin neD (dCall den_needed (dCons (dV 0) dNil)) (dC (.int 2)))) (dOrT (dT (dBin neD (dCall den_least (dCons (dV 0) (dCons (dC (.int 1)) dNil))) (dC (.int 1)))) (dT (dBin neD (dCall den_plan (dCons (dV 0) (dCons (dC (.int 1)) dNil))) (dTup (dCons (dC (.int 1)) (dCons (dC (.int 0)) (dCons (dC (.int 0)) dNil))))))))) (retS (dC (.bl false))) skipS)
    (thenS (ifS (dOrT (dT (dBin neD (dCall den_chain (dCons (dV 1) dNil)) (dTup (dCons (dTup (dCons (dC (.int 3)) (dCons (dC (.int 2)) dNil))) (dCons (dTup (dCons (dC (.int 2)) (dCons (dC (.int 1)) dNil))) (dCons (dTup (dCons (dC (.int 1)) (dCons (dC (.int 0)) dNil))) dNil)))))) (dOrT (dT (dBin neD (dCall den_least (dCons (dV 1) (dCons (dC (.int 2)) dNil))) (dC (.int 2)))) (dT (dBin neD (dCall den_plan (dCons (dV 1) (dCons (dC (.int 2)) dNil))) (dTup (dCons (dC (.int 3)) (dCons (dC (.int 2)) (dCons (dC (.int 1)) (dCons (dC (.int 0)) dNil))))))))) (retS (dC (.bl false))) skipS)
    (retS (dAnd (dBin eqD (dCall den_least (dCons (dV 1) (dCons (dC (.int 1)) dNil))) (dC (.int 3))) (dAnd (dBin eqD (dCall den_least (dCons (dMkRow (dTup (dCons (dC (.int 0)) (dCons (dC (.int 0)) dNil)))) (dCons (dC (.int 4)) dNil))) (dC (.int 0))) (dBin eqD (dCall den_least (dCons (dMkRow (dCB rgDn (dCons (dC (.int 11)) (dCons (dUn negD (dC (.int 1))) (dCons (dUn negD (dC (.int 1))) dNil))))) (dCons (dC (.int 1)) dNil))) (dC (.int 11)))))))))
theorem ok_law_leasts (T : Txt K mg base) : Fd P w K mg base "_law_leasts" 7 0 den_law_leasts := by
  obtain ⟨a, fd, F, hm, hb⟩ := T.f_law_leasts
  refine Fd.mk' F sc_law_leasts hm hb rfl rfl fun cdv A outer s H E hr => ?_
  have tk := takes_of (X := cxOf (L2.CX P w) P w K mg base N_law_leasts "_law_leasts" (defScope (top 105)) a cdv A outer s H E) rfl rfl rfl rfl
  exact (sd_cons (sd_par2 (i := 0) (j := 1) rfl sc_law_leasts.nd rfl rfl (by decide) rfl rfl (pai_consV (pd_mkRow T.row T.mk_Row (ok_Row___init__ T) rowInit (hr.mono (by decide)) tk (by rfl) (pd_tup (pad_cons pd_int (pad_cons pd_int (pad_cons pd_int pad_nil))))) (pai_consV (pd_mkRow T.row T.mk_Row (ok_Row___init__ T) rowInit (hr.mono (by decide)) tk (by rfl) (pd_tup (pad_cons pd_int (pad_cons pd_int (pad_cons pd_int (pad_cons pd_int pad_nil)))))) pai_nil)) (by rfl))
    (sd_cons (sd_if (PW.pt (pwd_or (pt_cmpD (op_neD hr.units) ne_r (val_look (pd_call (ok_chain T) (hr.mono (by decide)) tk (by rfl) (pad_cons (pd_v (pv 0)) pad_nil) (dlen_cons dlen_nil))) (val_look (pd_tup (pad_cons (pd_tup (pad_cons pd_int (pad_cons pd_int pad_nil))) pad_nil))) (nomark _)) (pwd_or (pt_cmpD (op_neD hr.units) ne_r (val_look (pd_call (ok_needed T) (hr.mono (by decide)) tk (by rfl) (pad_cons (pd_v (pv 0)) pad_nil) (dlen_cons dlen_nil))) (val_look pd_int) (nomark _)) (pwd_or (pt_cmpD (op_neD hr.units) ne_r (val_look (pd_call (ok_least T) (hr.mono (by decide)) tk (by rfl) (pad_cons (pd_v (pv 0)) (pad_cons pd_int pad_nil)) (dlen_cons (dlen_cons dlen_nil)))) (val_look pd_int) (nomark _)) (pw_or1 (pt_cmpD (op_neD hr.units) ne_r (val_look (pd_call (ok_plan T) (hr.mono (by decide)) tk (by rfl) (pad_cons (pd_v (pv 0)) (pad_cons pd_int pad_nil)) (dlen_cons (dlen_cons dlen_nil)))) (val_look (pd_tup (pad_cons pd_int (pad_cons pd_int (pad_cons pd_int pad_nil))))) (nomark _))))))) (sd_one (sd_ret pd_bl)) sd_nil)
    (sd_cons (sd_if (PW.pt (pwd_or (pt_cmpD (op_neD hr.units) ne_r (val_look (pd_call (ok_chain T) (hr.mono (by decide)) tk (by rfl) (pad_cons (pd_v (pv 1)) pad_nil) (dlen_cons dlen_nil))) (val_look (pd_tup (pad_cons (pd_tup (pad_cons pd_int (pad_cons pd_int pad_nil))) (pad_cons (pd_tup (pad_cons pd_int (pad_cons pd_int pad_nil))) (pad_cons (pd_tup (pad_cons pd_int (pad_cons pd_int pad_nil))) pad_nil))))) (nomark _)) (pwd_or (pt_cmpD (op_neD hr.units) ne_r (val_look (pd_call (ok_least T) (hr.mono (by decide)) tk (by rfl) (pad_cons (pd_v (pv 1)) (pad_cons pd_int pad_nil)) (dlen_cons (dlen_cons dlen_nil)))) (val_look pd_int) (nomark _)) (pw_or1 (pt_cmpD (op_neD hr.units) ne_r (val_look (pd_call (ok_plan T) (hr.mono (by decide)) tk (by rfl) (pad_cons (pd_v (pv 1)) (pad_cons pd_int pad_nil)) (dlen_cons (dlen_cons dlen_nil)))) (val_look (pd_tup (pad_cons pd_int (pad_cons pd_int (pad_cons pd_int (pad_cons pd_int pad_nil)))))) (nomark _)))))) (sd_one (sd_ret pd_bl)) sd_nil)
    (sd_one (sd_ret (pd_and (pd_cmp (op_eqD hr.units) eq_r (val_look (pd_call (ok_least T) (hr.mono (by decide)) tk (by rfl) (pad_cons (pd_v (pv 1)) (pad_cons pd_int pad_nil)) (dlen_cons (dlen_cons dlen_nil)))) (val_look pd_int) (nomark _)) (pd_and (pd_cmp (op_eqD hr.units) eq_r (val_look (pd_call (ok_least T) (hr.mono (by decide)) tk (by rfl) (pad_cons (pd_mkRow T.row T.mk_Row (ok_Row___init__ T) rowInit (hr.mono (by decide)) tk (by rfl) (pd_tup (pad_cons pd_int (pad_cons pd_int pad_nil)))) (pad_cons pd_int pad_nil)) (dlen_cons (dlen_cons dlen_nil)))) (val_look pd_int) (nomark _)) (pd_one (pd_cmp (op_eqD hr.units) eq_r (val_look (pd_call (ok_least T) (hr.mono (by decide)) tk (by rfl) (pad_cons (pd_mkRow T.row T.mk_Row (ok_Row___init__ T) rowInit (hr.mono (by decide)) tk (by rfl) (pd_tupDn rfl (by rfl) T.b_tuple (by rfl) T.b_range (pal_cons (val_look pd_int) (pal_cons (val_look (pd_neg (val_look pd_int))) (pal_cons (val_look (pd_neg (val_look pd_int))) pal_nil))))) (pad_cons pd_int pad_nil)) (dlen_cons (dlen_cons dlen_nil)))) (val_look pd_int) (nomark _))))))))))
abbrev N_law_plans : List Str := []
theorem sc_law_plans : FnScope N_law_plans [] (defScope (top 106)) := ⟨rfl, rfl, rfl, by decide +kernel, rfl, by decide +kernel, by decide +kernel⟩
def den_law_plans : FDen := fnD 0 0 (thenS (ifS (dOrT (dT (dBin neD (dCall den_many (dCons (dMkRow (dTup (dCons (dC (.int 1)) (dCons (dC (.int 0)) dNil)))) (dCons (dC (.int 1)) (dCons (dC (.int 1)) dNil)))) (dC (.int 1)))) (dOrT (dT (dBin neD (dCall den_many (dCons (dMkRow (dTup (dCons (dC (.int 0)) (dCons (dC (.int 1)) dNil)))) (dCons (dC (.int 1)) (dCons (dC (.int 1)) dNil)))) (dC (.int 3)))) (dT (dBin neD (dCall den_many (dCons (dMkRow (dTup (dCons (dC (.int 2)) (dCons (dC (.int 1)) (dCons (dC (.int 0)) dNil))))) (dCons (dC (.int 1)) (dCons (dC (.int 4)) dNil)))) (dC (.int 0)))))) (retS (dC (.bl false))) skipS)
    (thenS (ifS (dT (dBin neD (dCall den_plans (dCons (dMkRow (dTup (dCons (dC (.int 1)) (dCons (dC (.int 0)) dNil)))) (dCons (dC (.int 2)) (dCons (dC (.int 2)) dNil)))) (dN2V (dLst (dCons (dTup (dCons (dC (.int 1)) (dCons (dC (.int 0)) dNil))) (dCons (dTup (dCons (dC (.int 2)) (dCons (dC (.int 0)) dNil))) (dCons (dTup (dCons (dC (.int 2)) (dCons (dC (.int 1)) dNil))) (dCons (dTup (dCons (dC (.int 3)) (dCons (dC (.int 0)) dNil))) (dCons (dTup (dCons (dC (.int 3)) (dCons (dC (.int 1)) dNil))) (dCons (dTup (dCons (dC (.int 3)) (dCons (dC (.int 2)) dNil))) dNil)))))))))) (retS (dC (.bl false))) skipS)
    (thenS (ifS (dOrT (dT (dBin neD (dCall den_plans (dCons (dMkRow (dTup (dCons (dC (.int 0)) (dCons (dC (.int 0)) dNil)))) (dCons (dC (.int 1)) (dCons (dC (.int 1)) dNil)))) (dN2V (dLst (dCons (dTup (dCons (dC (.int 0)) (dCons (dC (.int 0)) dNil))) (dCons (dTup (dCons (dC (.int 0)) (dCons (dC (.int 1)) dNil))) (dCons (dTup (dCons (dC (.int 1)) (dCons (dC (.int 0)) dNil))) (dCons (dTup (dCons (dC (.int 1)) (dCons (dC (.int 1)) dNil))) dNil)))))))) (dT (dBin neD (dCall den_least_pushes (dCons (dMkRow (dTup (dCons (dC (.int 2)) (dCons (dC (.int 1)) (dCons (dC (.int 0)) dNil))))) (dCons (dC (.int 2)) (dCons (dC (.int 2)) dNil)))) (dC (.int 2))))) (retS (dC (.bl false))) skipS)
    (thenS (ifS (dT (dBin neD (dCall den_least_pushes (dCons (dMkRow (dTup (dCons (dC (.int 3)) (dCons (dC (.int 3)) (dCons (dC (.int 2)) (dCons (dC (.int 1)) (dCons (dC (.int 0)) dNil))))))) (dCons (dC (.int 3)) (dCons (dC (.int 4)) dNil)))) (dC (.int 4)))) (retS (dC (.bl false))) skipS)
    (retS (dAnd (dBin eqD (dCall den_lightest (dCons (dMkRow (dTup (dCons (dC (.int 2)) (dCons (dC (.int 1)) (dCons (dC (.int 0)) dNil))))) (dCons (dC (.int 2)) (dCons (dC (.int 2)) dNil)))) (dTup (dCons (dC (.int 2)) (dCons (dC (.int 1)) (dCons (dC (.int 0)) dNil))))) (dBin eqD (dCall den_shortest (dCons (dMkRow (dTup (dCons (dC (.int 3)) (dCons (dC (.int 2)) (dCons (dC (.int 1)) (dCons (dC (.int 0)) dNil)))))) (dCons (dC (.int 2)) (dCons (dC (.int 2)) dNil)))) (dC (.int 2)))))))))
theorem ok_law_plans (T : Txt K mg base) : Fd P w K mg base "_law_plans" 8 0 den_law_plans := by
  obtain ⟨a, fd, F, hm, hb⟩ := T.f_law_plans
  refine Fd.mk' F sc_law_plans hm hb rfl rfl fun cdv A outer s H E hr => ?_
  have tk := takes_of (X := cxOf (L2.CX P w) P w K mg base N_law_plans "_law_plans" (defScope (top 106)) a cdv A outer s H E) rfl rfl rfl rfl
  exact (sd_cons (sd_if (PW.pt (pwd_or (pt_cmpD (op_neD hr.units) ne_r (val_look (pd_call (ok_many T) (hr.mono (by decide)) tk (by rfl) (pad_cons (pd_mkRow T.row T.mk_Row (ok_Row___init__ T) rowInit (hr.mono (by decide)) tk (by rfl) (pd_tup (pad_cons pd_int (pad_cons pd_int pad_nil)))) (pad_cons pd_int (pad_cons pd_int pad_nil))) (dlen_cons (dlen_cons (dlen_cons dlen_nil))))) (val_look pd_int) (nomark _)) (pwd_or (pt_cmpD (op_neD hr.units) ne_r (val_look (pd_call (ok_many T) (hr.mono (by decide)) tk (by rfl) (pad_cons (pd_mkRow T.row T.mk_Row (ok_Row___init__ T) rowInit (hr.mono (by decide)) tk (by rfl) (pd_tup (pad_cons pd_int (pad_cons pd_int pad_nil)))) (pad_cons pd_int (pad_cons pd_int pad_nil))) (dlen_cons (dlen_cons (dlen_cons dlen_nil))))) (val_look pd_int) (nomark _)) (pw_or1 (pt_cmpD (op_neD hr.units) ne_r (val_look (pd_call (ok_many T) (hr.mono (by decide)) tk (by rfl) (pad_cons (pd_mkRow T.row T.mk_Row (ok_Row___init__ T) rowInit (hr.mono (by decide)) tk (by rfl) (pd_tup (pad_cons pd_int (pad_cons pd_int (pad_cons pd_int pad_nil))))) (pad_cons pd_int (pad_cons pd_int pad_nil))) (dlen_cons (dlen_cons (dlen_cons dlen_nil))))) (val_look pd_int) (nomark _)))))) (sd_one (sd_ret pd_bl)) sd_nil)
    (sd_cons (sd_if (pt_cmpD (op_neD hr.units) ne_r (val_look (pd_call (ok_plans T) (hr.mono (by decide)) tk (by rfl) (pad_cons (pd_mkRow T.row T.mk_Row (ok_Row___init__ T) rowInit (hr.mono (by decide)) tk (by rfl) (pd_tup (pad_cons pd_int (pad_cons pd_int pad_nil)))) (pad_cons pd_int (pad_cons pd_int pad_nil))) (dlen_cons (dlen_cons (dlen_cons dlen_nil))))) (new_look (pd_lst (pad_cons (pd_tup (pad_cons pd_int (pad_cons pd_int pad_nil))) (pad_cons (pd_tup (pad_cons pd_int (pad_cons pd_int pad_nil))) (pad_cons (pd_tup (pad_cons pd_int (pad_cons pd_int pad_nil))) (pad_cons (pd_tup (pad_cons pd_int (pad_cons pd_int pad_nil))) (pad_cons (pd_tup (pad_cons pd_int (pad_cons pd_int pad_nil))) (pad_cons (pd_tup (pad_cons pd_int (pad_cons pd_int pad_nil))) pad_nil)))))))) (nomark _)) (sd_one (sd_ret pd_bl)) sd_nil)
    (sd_cons (sd_if (PW.pt (pwd_or (pt_cmpD (op_neD hr.units) ne_r (val_look (pd_call (ok_plans T) (hr.mono (by decide)) tk (by rfl) (pad_cons (pd_mkRow T.row T.mk_Row (ok_Row___init__ T) rowInit (hr.mono (by decide)) tk (by rfl) (pd_tup (pad_cons pd_int (pad_cons pd_int pad_nil)))) (pad_cons pd_int (pad_cons pd_int pad_nil))) (dlen_cons (dlen_cons (dlen_cons dlen_nil))))) (new_look (pd_lst (pad_cons (pd_tup (pad_cons pd_int (pad_cons pd_int pad_nil))) (pad_cons (pd_tup (pad_cons pd_int (pad_cons pd_int pad_nil))) (pad_cons (pd_tup (pad_cons pd_int (pad_cons pd_int pad_nil))) (pad_cons (pd_tup (pad_cons pd_int (pad_cons pd_int pad_nil))) pad_nil)))))) (nomark _)) (pw_or1 (pt_cmpD (op_neD hr.units) ne_r (val_look (pd_call (ok_least_pushes T) (hr.mono (by decide)) tk (by rfl) (pad_cons (pd_mkRow T.row T.mk_Row (ok_Row___init__ T) rowInit (hr.mono (by decide)) tk (by rfl) (pd_tup (pad_cons pd_int (pad_cons pd_int (pad_cons pd_int pad_nil))))) (pad_cons pd_int (pad_cons pd_int pad_nil))) (dlen_cons (dlen_cons (dlen_cons dlen_nil))))) (val_look pd_int) (nomark _))))) (sd_one (sd_ret pd_bl)) sd_nil)
    (sd_cons (sd_if (pt_cmpD (op_neD hr.units) ne_r (val_look (pd_call (ok_least_pushes T) (hr.mono (by decide)) tk (by rfl) (pad_cons (pd_mkRow T.row T.mk_Row (ok_Row___init__ T) rowInit (hr.mono (by decide)) tk (by rfl) (pd_tup (pad_cons pd_int (pad_cons pd_int (pad_cons pd_int (pad_cons pd_int (pad_cons pd_int pad_nil))))))) (pad_cons pd_int (pad_cons pd_int pad_nil))) (dlen_cons (dlen_cons (dlen_cons dlen_nil))))) (val_look pd_int) (nomark _)) (sd_one (sd_ret pd_bl)) sd_nil)
    (sd_one (sd_ret (pd_and (pd_cmp (op_eqD hr.units) eq_r (val_look (pd_call (ok_lightest T) (hr.mono (by decide)) tk (by rfl) (pad_cons (pd_mkRow T.row T.mk_Row (ok_Row___init__ T) rowInit (hr.mono (by decide)) tk (by rfl) (pd_tup (pad_cons pd_int (pad_cons pd_int (pad_cons pd_int pad_nil))))) (pad_cons pd_int (pad_cons pd_int pad_nil))) (dlen_cons (dlen_cons (dlen_cons dlen_nil))))) (val_look (pd_tup (pad_cons pd_int (pad_cons pd_int (pad_cons pd_int pad_nil))))) (nomark _)) (pd_one (pd_cmp (op_eqD hr.units) eq_r (val_look (pd_call (ok_shortest T) (hr.mono (by decide)) tk (by rfl) (pad_cons (pd_mkRow T.row T.mk_Row (ok_Row___init__ T) rowInit (hr.mono (by decide)) tk (by rfl) (pd_tup (pad_cons pd_int (pad_cons pd_int (pad_cons pd_int (pad_cons pd_int pad_nil)))))) (pad_cons pd_int (pad_cons pd_int pad_nil))) (dlen_cons (dlen_cons (dlen_cons dlen_nil))))) (val_look pd_int) (nomark _))))))))))
abbrev N_law_back : List Str := ["_law_text", "e"]
theorem sc_law_back : FnScope N_law_back [] (defScope (top 107)) := ⟨rfl, rfl, rfl, by decide +kernel, rfl, by decide +kernel, by decide +kernel⟩
def den_law_back : FDen := fnD 0 2 (thenS (ifS (dOrT (dT (dBin neD (dCall den_orders_back (dCons (dC (.int 1)) (dCons (dTup (dCons (dTup (dCons (dC (.int 0)) dNil)) dNil)) (dCons (dTupE (dCons (dC (.int 1)) (dCons (dC (.int 2)) (dCons (dC (.int 0)) dNil)))) dNil)))) (dC (.int 3)))) (dT (dBin neD (dCall den_order_back (dCons (dC (.int 1)) (dCons (dTup (dCons (dTup (dCons (dC (.int 0)) dNil)) dNil)) (dCons (dTupE (dCons (dC (.int 1)) (dCons (dC (.int 2)) (dCons (dC (.int 0)) dNil)))) dNil)))) (dTup (dCons (dC (.int 0)) (dCons (dC (.int 1)) (dCons (dC (.int 2)) dNil))))))) (retS (dC (.bl false))) skipS)
    (thenS (ifS (dOrT (dT (dBin neD (dCall den_orders_back (dCons (dC (.int 1)) (dCons (dTup (dCons (dTup (dCons (dC (.int 0)) (dCons (dC (.int 1)) dNil))) dNil)) (dCons (dTupE (dCons (dC (.int 1)) (dCons (dC (.int 0)) dNil))) dNil)))) (dC (.int 0)))) (dT (dBin neD (dCall den_order_back (dCons (dC (.int 2)) (dCons (dTup dNil) (dCons (dTupE (dCons (dC (.int 1)) (dCons (dC (.int 0)) dNil))) dNil)))) (dTupE (dCons (dC (.int 1)) (dCons (dC (.int 0)) dNil)))))) (retS (dC (.bl false))) skipS)
    (thenS (setS 0 (dCall den_write_plan (dCons (dMkRow (dTup (dCons (dC (.int 2)) (dCons (dC (.int 0)) (dCons (dC (.int 1)) dNil))))) (dCons (dC (.int 2)) (dCons (dC (.int 1)) (dCons (dTup (dCons (dC (.int 3)) (dCons (dC (.int 0)) (dCons (dC (.int 1)) dNil)))) dNil))))))
    (thenS (ifS (dT (dBin neD (dN2V (dMethN "str" splitN (dL 0) (dCons (dC (.str "\n")) dNil))) (dN2V (dLst (dCons (dC (.str "tracks 1 pulls 2")) (dCons (dC (.str "2 1 2")) (dCons (dC (.str "0")) (dCons (dC (.str "1 1")) dNil)))))))) (retS (dC (.bl false))) skipS)
    (thenS (tryAsS As "InvalidText" 1 (exprS (dCall den_read_plan (dCons (dC (.str "tracks 1 pulls 2\n0 2")) dNil))) (fun a d x => (retS (dBin eqD (dTup (dCons (dExF a d 1 x "InvalidText" "line") (dCons (dExF a d 1 x "InvalidText" "word") dNil))) (dTup (dCons (dC (.int 2)) (dCons (dC (.int 2)) dNil)))))))
    (retS (dC (.bl false))))))))
theorem ok_law_back (T : Txt K mg base) : Fd P w K mg base "_law_back" 7 0 den_law_back := by
  obtain ⟨a, fd, F, hm, hb⟩ := T.f_law_back
  refine Fd.mk' F sc_law_back hm hb rfl rfl fun cdv A outer s H E hr => ?_
  have tk := takes_of (X := cxOf (L2.CX P w) P w K mg base N_law_back "_law_back" (defScope (top 107)) a cdv A outer s H E) rfl rfl rfl rfl
  exact (sd_cons (sd_if (PW.pt (pwd_or (pt_cmpD (op_neD hr.units) ne_r (val_look (pd_call (ok_orders_back T) (hr.mono (by decide)) tk (by rfl) (pad_cons pd_int (pad_cons (pd_tup (pad_cons (pd_tup (pad_cons pd_int pad_nil)) pad_nil)) (pad_cons (pd_tupE (pad_cons pd_int (pad_cons pd_int (pad_cons pd_int pad_nil)))) pad_nil))) (dlen_cons (dlen_cons (dlen_cons dlen_nil))))) (val_look pd_int) (nomark _)) (pw_or1 (pt_cmpD (op_neD hr.units) ne_r (val_look (pd_call (ok_order_back T) (hr.mono (by decide)) tk (by rfl) (pad_cons pd_int (pad_cons (pd_tup (pad_cons (pd_tup (pad_cons pd_int pad_nil)) pad_nil)) (pad_cons (pd_tupE (pad_cons pd_int (pad_cons pd_int (pad_cons pd_int pad_nil)))) pad_nil))) (dlen_cons (dlen_cons (dlen_cons dlen_nil))))) (val_look (pd_tup (pad_cons pd_int (pad_cons pd_int (pad_cons pd_int pad_nil))))) (nomark _))))) (sd_one (sd_ret pd_bl)) sd_nil)
    (sd_cons (sd_if (PW.pt (pwd_or (pt_cmpD (op_neD hr.units) ne_r (val_look (pd_call (ok_orders_back T) (hr.mono (by decide)) tk (by rfl) (pad_cons pd_int (pad_cons (pd_tup (pad_cons (pd_tup (pad_cons pd_int (pad_cons pd_int pad_nil))) pad_nil)) (pad_cons (pd_tupE (pad_cons pd_int (pad_cons pd_int pad_nil))) pad_nil))) (dlen_cons (dlen_cons (dlen_cons dlen_nil))))) (val_look pd_int) (nomark _)) (pw_or1 (pt_cmpD (op_neD hr.units) ne_r (val_look (pd_call (ok_order_back T) (hr.mono (by decide)) tk (by rfl) (pad_cons pd_int (pad_cons (pd_tup pad_nil) (pad_cons (pd_tupE (pad_cons pd_int (pad_cons pd_int pad_nil))) pad_nil))) (dlen_cons (dlen_cons (dlen_cons dlen_nil))))) (val_look (pd_tupE (pad_cons pd_int (pad_cons pd_int pad_nil)))) (nomark _))))) (sd_one (sd_ret pd_bl)) sd_nil)
    (sd_cons (sd_set (i := 0) sc_law_back.nd rfl (.inl rfl) (pd_call (ok_write_plan T) (hr.mono (by decide)) tk (by rfl) (pad_cons (pd_mkRow T.row T.mk_Row (ok_Row___init__ T) rowInit (hr.mono (by decide)) tk (by rfl) (pd_tup (pad_cons pd_int (pad_cons pd_int (pad_cons pd_int pad_nil))))) (pad_cons pd_int (pad_cons pd_int (pad_cons (pd_tup (pad_cons pd_int (pad_cons pd_int (pad_cons pd_int pad_nil)))) pad_nil)))) (dlen_cons (dlen_cons (dlen_cons (dlen_cons dlen_nil))))))
    (sd_cons (sd_if (pt_cmpD (op_neD hr.units) ne_r (new_look (pd_methN PySem.F.plainAttrs_str PySem.F.slot_str_split PySem.F.type_str_split mt_split split_r (pd_l (pv 0)) (pal_cons (val_look pd_str) pal_nil))) (new_look (pd_lst (pad_cons pd_str (pad_cons pd_str (pad_cons pd_str (pad_cons pd_str pad_nil)))))) (nomark _)) (sd_one (sd_ret pd_bl)) sd_nil)
    (sd_cons (sd_tryAs (c := "InvalidText") (i := 1) rfl rfl sc_law_back.nd rfl rfl T.err (by decide) (by rfl) tk (fun W pn xe tk po => (sd_one (sd_expr (pd_call (ok_read_plan T) (hr.mono (by decide)) tk (by rfl) (pad_cons pd_str pad_nil) (dlen_cons dlen_nil))))) (fun a d x oe pn hA h0 hz hf => (sd_one (sd_ret (pd_cmp (op_eqD hr.units) eq_r (val_look (pd_tup (pad_cons (pd_exF T.x_InvalidText hz hf (pv 1)) (pad_cons (pd_exF T.x_InvalidText hz hf (pv 1)) pad_nil)))) (val_look (pd_tup (pad_cons pd_int (pad_cons pd_int pad_nil)))) (nomark _))))) (alike_of fun x => by repeat' first | exact al_c | exact al_nil | exact al_isF | exact al_exF | exact al_v (by decide) | exact al_l (by decide) | refine al_then ?_ ?_ | refine al_set (by decide) ?_ | refine al_ret ?_ | refine al_if ?_ ?_ ?_ | refine al_T ?_ | refine al_N ?_ | refine al_lst ?_ | refine al_tup ?_ | refine al_cons ?_ ?_ | refine al_binN ?_ ?_ | refine al_bin ?_ ?_))
    (sd_one (sd_ret pd_bl)))))))
abbrev N_law_yard : List Str := ["_law_yard_here"]
theorem sc_law_yard : FnScope N_law_yard [] (defScope (top 108)) := ⟨rfl, rfl, rfl, by decide +kernel, rfl, by decide +kernel, by decide +kernel⟩
def den_law_yard : FDen := fnD 0 1 (thenS (setS 0 (dMkO "Yard" den_Yard___init__ (dCons (dMkRow (dTup (dCons (dC (.int 1)) (dCons (dC (.int 0)) dNil)))) (dCons (dC (.int 2)) dNil))))
    (thenS (ifS (dOrT (dT (dBin neD (dPropO "Yard" "hump" den_Yard_hump (dV 0)) (dTup (dCons (dC (.int 0)) (dCons (dC (.int 1)) dNil))))) (dOrT (dT (dBin notNonD (dMethO "Yard" "send" den_Yard_send (dV 0) (dCons (dTup (dCons (dC (.int 2)) (dCons (dC (.int 0)) dNil))) dNil)) (dC .non))) (dOrT (dT (dBin neD (dPropO "Yard" "standing" den_Yard_standing (dV 0)) (dTup (dCons (dTup dNil) (dCons (dTup (dCons (dC (.int 0)) dNil)) dNil))))) (dT (dBin neD (dPropO "Yard" "train" den_Yard_train (dV 0)) (dTup (dCons (dC (.int 1)) dNil))))))) (retS (dC (.bl false))) skipS)
    (thenS (ifS (dOrT (dT (dPropO "Yard" "done" den_Yard_done (dV 0))) (dOrT (dT (dBin neD (dMethO "Yard" "pull" den_Yard_pull (dV 0) (dCons (dC (.int 2)) dNil)) (dTup (dCons (dC (.int 0)) dNil)))) (dT (dBin notNonD (dMethO "Yard" "send" den_Yard_send (dV 0) (dCons (dTup (dCons (dC (.int 0)) dNil)) dNil)) (dC .non))))) (retS (dC (.bl false))) skipS)
    (thenS (ifS (dOrT (dT (dBin neD (dPropO "Yard" "train" den_Yard_train (dV 0)) (dTup (dCons (dC (.int 1)) (dCons (dC (.int 0)) dNil))))) (dOrT (dNotT (dT (dPropO "Yard" "done" den_Yard_done (dV 0)))) (dT (dBin neD (dLenO "Yard" den_Yard___len__ (dV 0)) (dC (.int 1)))))) (retS (dC (.bl false))) skipS)
    (thenS (tryS As (exprS (dMethO "Yard" "pull" den_Yard_pull (dV 0) (dCons (dC (.int 1)) dNil))) [("Empty", (retS (dC (.bl true))))])
    (retS (dC (.bl false))))))))
theorem ok_law_yard (T : Txt K mg base) : Fd P w K mg base "_law_yard" 6 0 den_law_yard := by
  obtain ⟨a, fd, F, hm, hb⟩ := T.f_law_yard
  refine Fd.mk' F sc_law_yard hm hb rfl rfl fun cdv A outer s H E hr => ?_
  have tk := takes_of (X := cxOf (L2.CX P w) P w K mg base N_law_yard "_law_yard" (defScope (top 108)) a cdv A outer s H E) rfl rfl rfl rfl
  exact (sd_cons (sd_set (i := 0) sc_law_yard.nd rfl (.inl rfl) (pd_mkO T.cls_Yard T.mk_Yard (ok_Yard___init__ T) (hr.mono (by decide)) tk (by rfl) (pad_cons (pd_mkRow T.row T.mk_Row (ok_Row___init__ T) rowInit (hr.mono (by decide)) tk (by rfl) (pd_tup (pad_cons pd_int (pad_cons pd_int pad_nil)))) (pad_cons pd_int pad_nil)) (dlen_cons (dlen_cons dlen_nil))))
    (sd_cons (sd_if (PW.pt (pwd_or (pt_cmpD (op_neD hr.units) ne_r (val_look (pd_propO T.cls_Yard T.p_Yard_hump (ok_Yard_hump T) (hr.mono (by decide)) (pd_v (pv 0)))) (val_look (pd_tup (pad_cons pd_int (pad_cons pd_int pad_nil)))) (nomark _)) (pwd_or (pt_cmpD op_notN notnon_r (val_look (pd_methO T.cls_Yard T.m_Yard_send (ok_Yard_send T) (hr.mono (by decide)) tk (pd_v (pv 0)) (pad_cons (pd_tup (pad_cons pd_int (pad_cons pd_int pad_nil))) pad_nil) (dlen_cons dlen_nil) (h := fun he ha F hb => pe_methE he T.cls_Yard.cls T.m_Yard_send F (hr.mono (by decide)) hb (fun σ => passAt tk σ) ha))) (val_look pd_non) (nomark _)) (pwd_or (pt_cmpD (op_neD hr.units) ne_r (val_look (pd_propO T.cls_Yard T.p_Yard_standing (ok_Yard_standing T) (hr.mono (by decide)) (pd_v (pv 0)))) (val_look (pd_tup (pad_cons (pd_tup pad_nil) (pad_cons (pd_tup (pad_cons pd_int pad_nil)) pad_nil)))) (nomark _)) (pw_or1 (pt_cmpD (op_neD hr.units) ne_r (val_look (pd_propO T.cls_Yard T.p_Yard_train (ok_Yard_train T) (hr.mono (by decide)) (pd_v (pv 0)))) (val_look (pd_tup (pad_cons pd_int pad_nil))) (nomark _))))))) (sd_one (sd_ret pd_bl)) sd_nil)
    (sd_cons (sd_if (PW.pt (pwd_or (pt_bl (pd_propO T.cls_Yard T.p_Yard_done (ok_Yard_done T) (hr.mono (by decide)) (pd_v (pv 0)))) (pwd_or (pt_cmpD (op_neD hr.units) ne_r (val_look (pd_methO T.cls_Yard T.m_Yard_pull (ok_Yard_pull T) (hr.mono (by decide)) tk (pd_v (pv 0)) (pad_cons pd_int pad_nil) (dlen_cons dlen_nil) (h := fun he ha F hb => pe_methE he T.cls_Yard.cls T.m_Yard_pull F (hr.mono (by decide)) hb (fun σ => passAt tk σ) ha))) (val_look (pd_tup (pad_cons pd_int pad_nil))) (nomark _)) (pw_or1 (pt_cmpD op_notN notnon_r (val_look (pd_methO T.cls_Yard T.m_Yard_send (ok_Yard_send T) (hr.mono (by decide)) tk (pd_v (pv 0)) (pad_cons (pd_tup (pad_cons pd_int pad_nil)) pad_nil) (dlen_cons dlen_nil) (h := fun he ha F hb => pe_methE he T.cls_Yard.cls T.m_Yard_send F (hr.mono (by decide)) hb (fun σ => passAt tk σ) ha))) (val_look pd_non) (nomark _)))))) (sd_one (sd_ret pd_bl)) sd_nil)
    (sd_cons (sd_if (PW.pt (pwd_or (pt_cmpD (op_neD hr.units) ne_r (val_look (pd_propO T.cls_Yard T.p_Yard_train (ok_Yard_train T) (hr.mono (by decide)) (pd_v (pv 0)))) (val_look (pd_tup (pad_cons pd_int (pad_cons pd_int pad_nil)))) (nomark _)) (pwd_or (ptd_not (pt_bl (pd_propO T.cls_Yard T.p_Yard_done (ok_Yard_done T) (hr.mono (by decide)) (pd_v (pv 0))))) (pw_or1 (pt_cmpD (op_neD hr.units) ne_r (val_look (pd_lenO T.cls_Yard T.m_Yard___len__.at_ T.m_Yard___len__.fn (ok_Yard___len__ T) (hr.mono (by decide)) (by rfl) T.b_len (pd_v (pv 0)))) (val_look pd_int) (nomark _)))))) (sd_one (sd_ret pd_bl)) sd_nil)
    (sd_cons (sd_try rfl rfl T.err tk (fun W pn xe tk po => (sd_one (sd_expr (pd_methO T.cls_Yard T.m_Yard_pull (ok_Yard_pull T) (hr.mono (by decide)) tk (pd_v (pv 0)) (pad_cons pd_int pad_nil) (dlen_cons dlen_nil) (h := fun he ha F hb => pe_methE he T.cls_Yard.cls T.m_Yard_pull F (hr.mono (by decide)) hb (fun σ => passAt tk σ) ha))))) (hd_cons (c := "Empty") T.err (by decide) (by rfl) (fun a oe pn => (sd_one (sd_ret pd_bl))) hd_nil) (List.forall_mem_cons.mpr ⟨by decide, (fun _ h => nomatch h)⟩))
    (sd_one (sd_ret pd_bl)))))))
abbrev N_law : List Str := ["_law_script", "_law_h"]
theorem sc_law : FnScope N_law ["_law_script"] (defScope (top 109)) := ⟨rfl, rfl, rfl, by decide +kernel, rfl, by decide +kernel, by decide +kernel⟩
def den_law : FDen := fnD 1 1 (thenS (setS 1 (dCall den_law_mix (dCons (dV 0) (dCons (dC (.int 13)) dNil))))
    (retS (dCallFn 0 [("_law_codes", den_law_codes), ("_law_runs", den_law_runs), ("_law_leasts", den_law_leasts), ("_law_plans", den_law_plans), ("_law_back", den_law_back), ("_law_yard", den_law_yard)] (dBin ixD (dN2V (dLst (dCons (dC (.fn "_law_codes")) (dCons (dC (.fn "_law_runs")) (dCons (dC (.fn "_law_leasts")) (dCons (dC (.fn "_law_plans")) (dCons (dC (.fn "_law_back")) (dCons (dC (.fn "_law_yard")) dNil)))))))) (dCall den_law_next (dCons (dV 1) (dCons (dC (.int 6)) dNil)))) dNil)))
theorem ok_law {a : Addr} {fd : FuncData} (F : FunD K "law" "law" (defArgs (top 109)) (defBody (top 109)) (defScope (top 109)) [] [] a fd) (T : Txt K mg base) : FnOk P w K mg base (L2.CX P w) 9 a fd ["_law_script"] (spF K mg 1 den_law) := by
  refine Fd.mkF F sc_law rfl rfl fun cdv A outer s H E hr => ?_
  have tk := takes_of (X := cxOf (L2.CX P w) P w K mg base N_law "law" (defScope (top 109)) a cdv A outer s H E) rfl rfl rfl rfl
  exact (sd_cons (sd_set (i := 1) sc_law.nd rfl (.inl rfl) (pd_call (ok_law_mix T) (hr.mono (by decide)) tk (by rfl) (pad_cons (pd_v (pv 0)) (pad_cons pd_int pad_nil)) (dlen_cons (dlen_cons dlen_nil))))
    (sd_one (sd_ret (pd_callFn0 (k := 8) (.cons (ok_law_codes T) (by decide) (.cons (ok_law_runs T) (by decide) (.cons (ok_law_leasts T) (by decide) (.cons (ok_law_plans T) (by decide) (.cons (ok_law_back T) (by decide) (.cons (ok_law_yard T) (by decide) .nil)))))) (hr.mono (by decide)) tk (pd_ix (new_look (pd_lst (pad_cons (pd_fn (ok_law_codes T) (by rfl)) (pad_cons (pd_fn (ok_law_runs T) (by rfl)) (pad_cons (pd_fn (ok_law_leasts T) (by rfl)) (pad_cons (pd_fn (ok_law_plans T) (by rfl)) (pad_cons (pd_fn (ok_law_back T) (by rfl)) (pad_cons (pd_fn (ok_law_yard T) (by rfl)) pad_nil)))))))) (val_look (pd_call (ok_law_next T) (hr.mono (by decide)) tk (by rfl) (pad_cons (pd_v (pv 1)) (pad_cons pd_int pad_nil)) (dlen_cons (dlen_cons dlen_nil)))))))))
end
end L_k13
namespace L_k13
open PySem PySem.Spec PyProof.Rows L2 PD
abbrev tabsX : List (Str × Str) := [("lengths_of", "lengths_of.<locals>.<lambda>"), ("cheapest", "cheapest.<locals>.<lambda>")]
abbrev mK (s : Int) (cs : List Int) (i : Int) : List Ob := tabsOb tabsX ++ [.gen s cs i]
def insO {α : Type} (le : α → α → Bool) (a : α) : List α → List α
  | [] => [a]
  | b :: l => if le a b = true then a :: b :: l else b :: insO le a l
def insS {α : Type} (le : α → α → Bool) : List α → List α
  | [] => []
  | a :: l => insO le a (insS le l)
theorem insO_mid {α : Type} (le : α → α → Bool) (a : α) (l2 : List α) (h2 : ∀ b ∈ l2, le a b = true) : ∀ l1 : List α, (∀ b ∈ l1, (!le a b) = true) → insO le a (l1 ++ l2) = l1 ++ a :: l2
  | [], _ => by
    cases l2 with
    | nil => rfl
    | cons b l => exact if_pos (h2 b (List.mem_cons_self ..))
  | b :: l1, h => by
    have hb : le a b = false := by simpa using h b (List.mem_cons_self ..)
    show (if le a b = true then a :: b :: (l1 ++ l2) else b :: insO le a (l1 ++ l2)) = _
    rw [if_neg (by rw [hb]; decide), insO_mid le a l2 h2 l1 fun c hc => h c (List.mem_cons_of_mem _ hc)]
    rfl
theorem ms_eq {α : Type} (le : α → α → Bool) (trans : ∀ a b c, le a b = true → le b c = true → le a c = true) (total : ∀ a b, (le a b || le b a) = true) : ∀ xs : List α, xs.mergeSort le = insS le xs
  | [] => by simp [insS]
  | a :: l => by
    obtain ⟨l1, l2, e1, e2, h1⟩ := List.mergeSort_cons trans total a l
    have hp := List.pairwise_mergeSort trans total (a :: l)
    rw [e1] at hp ⊢
    have h2 : ∀ b ∈ l2, le a b = true := (List.pairwise_cons.mp (List.pairwise_append.mp hp).2.1).1
    show _ = insO le a (insS le l)
    rw [← ms_eq le trans total l, e2, insO_mid le a l2 h2 l1 h1]
def sort3' (gs : List Int) (ds : List D) : List D := insS (fun a b => decide (key3 gs a ≤ key3 gs b)) ds
theorem sort3_eq : sortBy3 = sort3' := by
  funext gs ds
  exact ms_eq (fun a b : D => decide (key3 gs a ≤ key3 gs b)) (fun a b c h1 h2 => decide_eq_true (Int.le_trans (of_decide_eq_true h1) (of_decide_eq_true h2))) (fun a b => by rw [Bool.or_eq_true, decide_eq_true_eq, decide_eq_true_eq]; omega) ds
def sortR' (rows : List (List Int)) : List (List Int) := insS (fun a b => decide (a ≤ b)) rows
theorem sortR_eq : sortR = sortR' := by
  funext rows
  refine ms_eq (fun a b : List Int => decide (a ≤ b)) (fun a b c h1 h2 => decide_eq_true (List.le_trans (of_decide_eq_true h1) (of_decide_eq_true h2))) (fun a b => ?_) rows
  rcases List.le_total a b with h | h
  · rw [decide_eq_true h]; rfl
  · rw [decide_eq_true h, Bool.or_true]
def dSortK3' (t j : Nat) (x q : Str) (da : Den (List D)) : Den Cont := fun ρ m => (da ρ m).bind fun v => match v.1, v.2[t]?, seqOf (PD.slotAt ρ j) with
  | [.lst ds], some (.tab x' q'), some es => (match ints? es with
    | some gs => if x' = x ∧ q' = q ∧ ds.length ≤ 100000 ∧ gs.length ≤ 100000 ∧ (ds.all fun d => okKey3 gs.length d) = true then .ok (.lst (sort3' gs ds), v.2) else .bad
    | none => .bad)
  | _, _, _ => .bad
theorem sortK3_eq : dSortK3 = dSortK3' := by
  funext t j x q da ρ m
  unfold dSortK3 dSortK3'
  rw [sort3_eq]
  all_goals rfl
def sortedTN' : D → Res Cont
  | .lst ds => (match rowsI? ds with
    | some rows => if (rows.all fun r => !r.isEmpty) = true ∧ rows.length ≤ sizeLine then .ok (.lst ((sortR' rows).map rwD)) else .bad
    | none => .bad)
  | _ => .bad
theorem sortedTN_eq : sortedTN = sortedTN' := by
  funext d
  unfold sortedTN sortedTN'
  rw [sortR_eq]
  all_goals rfl
def isT (r : Res (D × List Ob)) : Bool := match r with
  | .ok (.bl true, _) => true
  | _ => false
theorem of_isT {r : Res (D × List Ob)} (h : isT r = true) : ∃ m', r = .ok (.bl true, m') := by
  unfold isT at h
  split at h
  · exact ⟨_, rfl⟩
  · cases h
theorem codes_ok (s : Int) (cs : List Int) (i : Int) : isT (den_law_codes [] (mK s cs i)) = true := by kernel_rfl
theorem runs_ok (s : Int) (cs : List Int) (i : Int) : isT (den_law_runs [] (mK s cs i)) = true := by kernel_rfl
theorem leasts_ok (s : Int) (cs : List Int) (i : Int) : isT (den_law_leasts [] (mK s cs i)) = true := by
  unfold den_law_leasts den_chain den_lengths_of
  rw [sortK3_eq]
  kernel_rfl
theorem plans_ok (s : Int) (cs : List Int) (i : Int) : isT (den_law_plans [] (mK s cs i)) = true := by
  unfold den_law_plans den_plans
  rw [sortedTN_eq]
  kernel_rfl
theorem back_ok (s : Int) (cs : List Int) (i : Int) : isT (den_law_back [] (mK s cs i)) = true := by kernel_rfl
theorem yard_ok (s : Int) (cs : List Int) (i : Int) : isT (den_law_yard [] (mK s cs i)) = true := by kernel_rfl
abbrev tblX : List (Str × FDen) := [("_law_codes", den_law_codes), ("_law_runs", den_law_runs), ("_law_leasts", den_law_leasts), ("_law_plans", den_law_plans), ("_law_back", den_law_back), ("_law_yard", den_law_yard)]
abbrev fnsX : List D := [.fn "_law_codes", .fn "_law_runs", .fn "_law_leasts", .fn "_law_plans", .fn "_law_back", .fn "_law_yard"]
abbrev retX : SDen := (retS (dCallFn 0 [("_law_codes", den_law_codes), ("_law_runs", den_law_runs), ("_law_leasts", den_law_leasts), ("_law_plans", den_law_plans), ("_law_back", den_law_back), ("_law_yard", den_law_yard)] (dBin ixD (dN2V (dLst (dCons (dC (.fn "_law_codes")) (dCons (dC (.fn "_law_runs")) (dCons (dC (.fn "_law_leasts")) (dCons (dC (.fn "_law_plans")) (dCons (dC (.fn "_law_back")) (dCons (dC (.fn "_law_yard")) dNil)))))))) (dCall den_law_next (dCons (dV 1) (dCons (dC (.int 6)) dNil)))) dNil))
theorem case_ok {x0 : Slot} {m0 m1 m' : List Ob} (k : Nat) (nm : Str) (f : FDen) (ix : ixD (.lst fnsX) (.int (k : Int)) = .ok (.fn nm)) (lk : tblX.lookup nm = some f) (e1 : den_law_next [.obj 2, .int 6] m0 = .ok (.int (k : Int), m1)) (e : f [] m1 = .ok (.bl true, m')) : retX [x0, .sh (.obj 2)] m0 = .rt (.bl true) m' := by
  have e2 : (dBin ixD (dN2V (dLst (dCons (dC (.fn "_law_codes")) (dCons (dC (.fn "_law_runs")) (dCons (dC (.fn "_law_leasts")) (dCons (dC (.fn "_law_plans")) (dCons (dC (.fn "_law_back")) (dCons (dC (.fn "_law_yard")) dNil)))))))) (dCall den_law_next (dCons (dV 1) (dCons (dC (.int 6)) dNil)))) [x0, .sh (.obj 2)] m0 = .ok (.fn nm, m1) := by
    have ix : ixD (.lst [.fn "_law_codes", .fn "_law_runs", .fn "_law_leasts", .fn "_law_plans", .fn "_law_back", .fn "_law_yard"]) (.int (k : Int)) = .ok (.fn nm) := ix
    simp only [bind_ok, bindS_ok, dV_ev, dL_ev, slotAt_0, slotAt_s, dC_ev, dN2V_ev, dBin_ev, dNil_ev, dCons_ev, dLst_ev, oneArg_ev, dCB_ev, dCall_ev, dIt_ev, dItV_ev, dItN_ev, thenS_ev, retS_ev, setS_ev, forS_ev, contd_lst, pad_cons_ev, pad_nil_ev, addD_int, intD_int, dCallFn_ev, mkS_list, List.set, List.replicate, List.length_cons, List.length_nil, Nat.zero_add, Nat.reduceAdd, Nat.reduceLeDiff, if_true, Bool.not_true, Bool.not_false, List.map_nil, List.map_cons, e1, ix]
  simp only [retX, retS_ev, dCallFn_ev, e2, bind_ok]
  rw [show List.lookup nm tblX = some f from lk]
  simp only [dNil_ev, bind_ok, List.length_nil, if_true, e, bindS_ok]
theorem plain (ns : List Int) (h63 : ns.length ≤ 63) : ∃ m', den_law [.scr ns] (tabsOb tabsX) = .ok (.bl true, m') := by
  obtain ⟨m0, e0, h0⟩ := mix_drawnTs tabsX ns 13 h63
  have e0 : den_law_mix [.scr ns, .int 13] (tabsOb tabsX) = .ok (.obj 2, m0) := e0
  obtain ⟨r, m1, e1, hr, h1⟩ := next_natTs (ts := tabsX) (b := 6) h0 (by decide) (by decide +kernel)
  have e1 : den_law_next [.obj 2, .int 6] m0 = .ok (.int (r : Int), m1) := e1
  obtain ⟨s, cs, i, rfl, _⟩ := h1
  have s0 : ∀ q : SDen, thenS (setS 1 (dCall den_law_mix (dCons (dV 0) (dCons (dC (.int 13)) dNil)))) q [.sh (.scr ns), .non] (tabsOb tabsX) = q [.sh (.scr ns), .sh (.obj 2)] m0 := fun q => thenS_nx (by simp only [bind_ok, bindS_ok, dV_ev, dL_ev, slotAt_0, slotAt_s, dC_ev, dN2V_ev, dBin_ev, dNil_ev, dCons_ev, dLst_ev, oneArg_ev, dCB_ev, dCall_ev, dIt_ev, dItV_ev, dItN_ev, thenS_ev, retS_ev, setS_ev, forS_ev, contd_lst, pad_cons_ev, pad_nil_ev, addD_int, intD_int, dCallFn_ev, mkS_list, List.set, List.replicate, List.length_cons, List.length_nil, Nat.zero_add, Nat.reduceAdd, Nat.reduceLeDiff, if_true, Bool.not_true, Bool.not_false, List.map_nil, List.map_cons, e0])
  have c : r = 0 ∨ r = 1 ∨ r = 2 ∨ r = 3 ∨ r = 4 ∨ r = 5 := by omega
  have t0 := of_isT (codes_ok s cs i)
  have t1 := of_isT (runs_ok s cs i)
  have t2 := of_isT (leasts_ok s cs i)
  have t3 := of_isT (plans_ok s cs i)
  have t4 := of_isT (back_ok s cs i)
  have t5 := of_isT (yard_ok s cs i)
  rcases c with rfl | rfl | rfl | rfl | rfl | rfl
  · obtain ⟨m', e⟩ := t0
    exact ⟨m', fnD_rt rfl ((s0 _).trans (case_ok 0 "_law_codes" den_law_codes rfl rfl e1 e))⟩
  · obtain ⟨m', e⟩ := t1
    exact ⟨m', fnD_rt rfl ((s0 _).trans (case_ok 1 "_law_runs" den_law_runs rfl rfl e1 e))⟩
  · obtain ⟨m', e⟩ := t2
    exact ⟨m', fnD_rt rfl ((s0 _).trans (case_ok 2 "_law_leasts" den_law_leasts rfl rfl e1 e))⟩
  · obtain ⟨m', e⟩ := t3
    exact ⟨m', fnD_rt rfl ((s0 _).trans (case_ok 3 "_law_plans" den_law_plans rfl rfl e1 e))⟩
  · obtain ⟨m', e⟩ := t4
    exact ⟨m', fnD_rt rfl ((s0 _).trans (case_ok 4 "_law_back" den_law_back rfl rfl e1 e))⟩
  · obtain ⟨m', e⟩ := t5
    exact ⟨m', fnD_rt rfl ((s0 _).trans (case_ok 5 "_law_yard" den_law_yard rfl rfl e1 e))⟩
end L_k13
namespace L_k13
open PySem PySem.Spec PyProof.Rows L2 PD
def d0 : He5.DefA := ⟨fun K => He.ga K "_wall", "_wall", "_wall", defArgs (top 0), defBody (top 0), defScope (top 0), [], []⟩
def d22 : He5.DefA := ⟨fun K => He.ga K "is_integer", "is_integer", "is_integer", defArgs (top 22), defBody (top 22), defScope (top 22), [], []⟩
def d23 : He5.DefA := ⟨fun K => He.ga K "is_from", "is_from", "is_from", defArgs (top 23), defBody (top 23), defScope (top 23), [], []⟩
def d25 : He5.DefA := ⟨fun K => He.ga K "check_row", "check_row", "check_row", defArgs (top 25), defBody (top 25), defScope (top 25), [], []⟩
def d26 : He5.DefA := ⟨fun K => He.ga K "classes", "classes", "classes", defArgs (top 26), defBody (top 26), defScope (top 26), [], []⟩
def d27 : He5.DefA := ⟨fun K => He.ga K "fault_of", "fault_of", "fault_of", defArgs (top 27), defBody (top 27), defScope (top 27), [], []⟩
def d33 : He5.DefA := ⟨fun K => He.ga K "check_pulls", "check_pulls", "check_pulls", defArgs (top 33), defBody (top 33), defScope (top 33), [], []⟩
def d34 : He5.DefA := ⟨fun K => He.ga K "check_tracks", "check_tracks", "check_tracks", defArgs (top 34), defBody (top 34), defScope (top 34), [], []⟩
def d35 : He5.DefA := ⟨fun K => He.ga K "stops_of", "stops_of", "stops_of", defArgs (top 35), defBody (top 35), defScope (top 35), [], []⟩
def d36 : He5.DefA := ⟨fun K => He.ga K "is_allowed", "is_allowed", "is_allowed", defArgs (top 36), defBody (top 36), defScope (top 36), [], []⟩
def d37 : He5.DefA := ⟨fun K => He.ga K "allowed_codes", "allowed_codes", "allowed_codes", defArgs (top 37), defBody (top 37), defScope (top 37), [], []⟩
def d38 : He5.DefA := ⟨fun K => He.ga K "allowed", "allowed", "allowed", defArgs (top 38), defBody (top 38), defScope (top 38), [], []⟩
def d39 : He5.DefA := ⟨fun K => He.ga K "longer_ends", "longer_ends", "longer_ends", defArgs (top 39), defBody (top 39), defScope (top 39), [], []⟩
def d40 : He5.DefA := ⟨fun K => He.ga K "reach", "reach", "reach", defArgs (top 40), defBody (top 40), defScope (top 40), [], []⟩
def d41 : He5.DefA := ⟨fun K => He.ga K "for_any", "for_any", "for_any", defArgs (top 41), defBody (top 41), defScope (top 41), [], []⟩
def d43 : He5.DefA := ⟨fun K => He.ga K "levels", "levels", "levels", defArgs (top 43), defBody (top 43), defScope (top 43), [], []⟩
def d44 : He5.DefA := ⟨fun K => He.ga K "pairs_of", "pairs_of", "pairs_of", defArgs (top 44), defBody (top 44), defScope (top 44), [], []⟩
def d45 : He5.DefA := ⟨fun K => He.ga K "follows", "follows", "follows", defArgs (top 45), defBody (top 45), defScope (top 45), [], []⟩
def d46 : He5.DefA := ⟨fun K => He.ga K "lengths_of", "lengths_of", "lengths_of", defArgs (top 46), defBody (top 46), defScope (top 46), [], []⟩
def d47 : He5.DefA := ⟨fun K => He.ga K "chain", "chain", "chain", defArgs (top 47), defBody (top 47), defScope (top 47), [], []⟩
def d48 : He5.DefA := ⟨fun K => He.ga K "needed", "needed", "needed", defArgs (top 48), defBody (top 48), defScope (top 48), [], []⟩
def d49 : He5.DefA := ⟨fun K => He.ga K "least_pulls", "least_pulls", "least_pulls", defArgs (top 49), defBody (top 49), defScope (top 49), [], []⟩
def d50 : He5.DefA := ⟨fun K => He.ga K "least", "least", "least", defArgs (top 50), defBody (top 50), defScope (top 50), [], []⟩
def d51 : He5.DefA := ⟨fun K => He.ga K "plan", "plan", "plan", defArgs (top 51), defBody (top 51), defScope (top 51), [], []⟩
def d53 : He5.DefA := ⟨fun K => He.ga K "check_all", "check_all", "check_all", defArgs (top 53), defBody (top 53), defScope (top 53), [], []⟩
def d54 : He5.DefA := ⟨fun K => He.ga K "check_plan", "check_plan", "check_plan", defArgs (top 54), defBody (top 54), defScope (top 54), [], []⟩
def d55 : He5.DefA := ⟨fun K => He.ga K "roll", "roll", "roll", defArgs (top 55), defBody (top 55), defScope (top 55), [], []⟩
def d56 : He5.DefA := ⟨fun K => He.ga K "run_by", "run_by", "run_by", defArgs (top 56), defBody (top 56), defScope (top 56), [], []⟩
def d57 : He5.DefA := ⟨fun K => He.ga K "run", "run", "run", defArgs (top 57), defBody (top 57), defScope (top 57), [], []⟩
def d58 : He5.DefA := ⟨fun K => He.ga K "judge", "judge", "judge", defArgs (top 58), defBody (top 58), defScope (top 58), [], []⟩
def d60 : He5.DefA := ⟨fun K => He.ga K "are_names", "are_names", "are_names", defArgs (top 60), defBody (top 60), defScope (top 60), [], []⟩
def d61 : He5.DefA := ⟨fun K => He.ga K "check_told", "check_told", "check_told", defArgs (top 61), defBody (top 61), defScope (top 61), [], []⟩
def d62 : He5.DefA := ⟨fun K => He.ga K "plan_of", "plan_of", "plan_of", defArgs (top 62), defBody (top 62), defScope (top 62), [], []⟩
def d63 : He5.DefA := ⟨fun K => He.ga K "rows_at", "rows_at", "rows_at", defArgs (top 63), defBody (top 63), defScope (top 63), [], []⟩
def d64 : He5.DefA := ⟨fun K => He.ga K "merged", "merged", "merged", defArgs (top 64), defBody (top 64), defScope (top 64), [], []⟩
def d65 : He5.DefA := ⟨fun K => He.ga K "is_possible", "is_possible", "is_possible", defArgs (top 65), defBody (top 65), defScope (top 65), [], []⟩
def d66 : He5.DefA := ⟨fun K => He.ga K "orders_of", "orders_of", "orders_of", defArgs (top 66), defBody (top 66), defScope (top 66), [], []⟩
def d67 : He5.DefA := ⟨fun K => He.ga K "orders_back", "orders_back", "orders_back", defArgs (top 67), defBody (top 67), defScope (top 67), [], []⟩
def d68 : He5.DefA := ⟨fun K => He.ga K "order_back", "order_back", "order_back", defArgs (top 68), defBody (top 68), defScope (top 68), [], []⟩
def d74 : He5.DefA := ⟨fun K => He.ga K "least_places", "least_places", "least_places", defArgs (top 74), defBody (top 74), defScope (top 74), [], []⟩
def d75 : He5.DefA := ⟨fun K => He.ga K "ranges_for", "ranges_for", "ranges_for", defArgs (top 75), defBody (top 75), defScope (top 75), [], []⟩
def d76 : He5.DefA := ⟨fun K => He.ga K "ways_on", "ways_on", "ways_on", defArgs (top 76), defBody (top 76), defScope (top 76), [], []⟩
def d77 : He5.DefA := ⟨fun K => He.ga K "counts_of", "counts_of", "counts_of", defArgs (top 77), defBody (top 77), defScope (top 77), [], []⟩
def d78 : He5.DefA := ⟨fun K => He.ga K "count_plans", "count_plans", "count_plans", defArgs (top 78), defBody (top 78), defScope (top 78), [], []⟩
def d79 : He5.DefA := ⟨fun K => He.ga K "many", "many", "many", defArgs (top 79), defBody (top 79), defScope (top 79), [], []⟩
def d80 : He5.DefA := ⟨fun K => He.ga K "spread", "spread", "spread", defArgs (top 80), defBody (top 80), defScope (top 80), [], []⟩
def d81 : He5.DefA := ⟨fun K => He.ga K "part_plans", "part_plans", "part_plans", defArgs (top 81), defBody (top 81), defScope (top 81), [], []⟩
def d82 : He5.DefA := ⟨fun K => He.ga K "can_go_on", "can_go_on", "can_go_on", defArgs (top 82), defBody (top 82), defScope (top 82), [], []⟩
def d83 : He5.DefA := ⟨fun K => He.ga K "plans", "plans", "plans", defArgs (top 83), defBody (top 83), defScope (top 83), [], []⟩
def d84 : He5.DefA := ⟨fun K => He.ga K "cheapest", "cheapest", "cheapest", defArgs (top 84), defBody (top 84), defScope (top 84), [], []⟩
def d85 : He5.DefA := ⟨fun K => He.ga K "light_plans", "light_plans", "light_plans", defArgs (top 85), defBody (top 85), defScope (top 85), [], []⟩
def d86 : He5.DefA := ⟨fun K => He.ga K "lightest_of", "lightest_of", "lightest_of", defArgs (top 86), defBody (top 86), defScope (top 86), [], []⟩
def d87 : He5.DefA := ⟨fun K => He.ga K "least_pushes", "least_pushes", "least_pushes", defArgs (top 87), defBody (top 87), defScope (top 87), [], []⟩
def d88 : He5.DefA := ⟨fun K => He.ga K "lightest", "lightest", "lightest", defArgs (top 88), defBody (top 88), defScope (top 88), [], []⟩
def d89 : He5.DefA := ⟨fun K => He.ga K "with_wagon", "with_wagon", "with_wagon", defArgs (top 89), defBody (top 89), defScope (top 89), [], []⟩
def d90 : He5.DefA := ⟨fun K => He.ga K "loads_of", "loads_of", "loads_of", defArgs (top 90), defBody (top 90), defScope (top 90), [], []⟩
def d91 : He5.DefA := ⟨fun K => He.ga K "shortest", "shortest", "shortest", defArgs (top 91), defBody (top 91), defScope (top 91), [], []⟩
def d93 : He5.DefA := ⟨fun K => He.ga K "write_plan", "write_plan", "write_plan", defArgs (top 93), defBody (top 93), defScope (top 93), [], []⟩
def d94 : He5.DefA := ⟨fun K => He.ga K "number_at", "number_at", "number_at", defArgs (top 94), defBody (top 94), defScope (top 94), [], []⟩
def d95 : He5.DefA := ⟨fun K => He.ga K "check_name", "check_name", "check_name", defArgs (top 95), defBody (top 95), defScope (top 95), [], []⟩
def d96 : He5.DefA := ⟨fun K => He.ga K "read_wagon", "read_wagon", "read_wagon", defArgs (top 96), defBody (top 96), defScope (top 96), [], []⟩
def d97 : He5.DefA := ⟨fun K => He.ga K "read_plan", "read_plan", "read_plan", defArgs (top 97), defBody (top 97), defScope (top 97), [], []⟩
def d101 : He5.DefA := ⟨fun K => He.ga K "_law_mix", "_law_mix", "_law_mix", defArgs (top 101), defBody (top 101), defScope (top 101), [], []⟩
def d102 : He5.DefA := ⟨fun K => He.ga K "_law_next", "_law_next", "_law_next", defArgs (top 102), defBody (top 102), defScope (top 102), [], []⟩
def d103 : He5.DefA := ⟨fun K => He.ga K "_law_codes", "_law_codes", "_law_codes", defArgs (top 103), defBody (top 103), defScope (top 103), [], []⟩
def d104 : He5.DefA := ⟨fun K => He.ga K "_law_runs", "_law_runs", "_law_runs", defArgs (top 104), defBody (top 104), defScope (top 104), [], []⟩
def d105 : He5.DefA := ⟨fun K => He.ga K "_law_leasts", "_law_leasts", "_law_leasts", defArgs (top 105), defBody (top 105), defScope (top 105), [], []⟩
def d106 : He5.DefA := ⟨fun K => He.ga K "_law_plans", "_law_plans", "_law_plans", defArgs (top 106), defBody (top 106), defScope (top 106), [], []⟩
def d107 : He5.DefA := ⟨fun K => He.ga K "_law_back", "_law_back", "_law_back", defArgs (top 107), defBody (top 107), defScope (top 107), [], []⟩
def d108 : He5.DefA := ⟨fun K => He.ga K "_law_yard", "_law_yard", "_law_yard", defArgs (top 108), defBody (top 108), defScope (top 108), [], []⟩
def d109 : He5.DefA := ⟨fun K => He.ga K "law", "law", "law", defArgs (top 109), defBody (top 109), defScope (top 109), [], []⟩
def m18_0 : He5.DefA := ⟨fun K => iAd K "InvalidText", "__init__", "InvalidText.__init__", defArgs (inClass (top 18) 0), defBody (inClass (top 18) 0), defScope (inClass (top 18) 0), [], []⟩
def m24_0 : He5.DefA := ⟨fun K => (He.ma K (cA K "Row") "__init__"), "__init__", "Row.__init__", defArgs (inClass (top 24) 0), defBody (inClass (top 24) 0), defScope (inClass (top 24) 0), [], []⟩
def m24_1 : He5.DefA := ⟨fun K => (gAd K "Row" "groups"), "groups", "Row.groups", defArgs (inClass (top 24) 1), defBody (inClass (top 24) 1), defScope (inClass (top 24) 1), [], []⟩
def m24_2 : He5.DefA := ⟨fun K => (He.ma K (cA K "Row") "__len__"), "__len__", "Row.__len__", defArgs (inClass (top 24) 2), defBody (inClass (top 24) 2), defScope (inClass (top 24) 2), [], []⟩
def m24_3 : He5.DefA := ⟨fun K => (He.ma K (cA K "Row") "__eq__"), "__eq__", "Row.__eq__", defArgs (inClass (top 24) 3), defBody (inClass (top 24) 3), defScope (inClass (top 24) 3), [], []⟩
def m99_0 : He5.DefA := ⟨fun K => (He.ma K (cA K "Yard") "__init__"), "__init__", "Yard.__init__", defArgs (inClass (top 99) 0), defBody (inClass (top 99) 0), defScope (inClass (top 99) 0), [], []⟩
def m99_1 : He5.DefA := ⟨fun K => (gAd K "Yard" "hump"), "hump", "Yard.hump", defArgs (inClass (top 99) 1), defBody (inClass (top 99) 1), defScope (inClass (top 99) 1), [], []⟩
def m99_2 : He5.DefA := ⟨fun K => (gAd K "Yard" "standing"), "standing", "Yard.standing", defArgs (inClass (top 99) 2), defBody (inClass (top 99) 2), defScope (inClass (top 99) 2), [], []⟩
def m99_3 : He5.DefA := ⟨fun K => (gAd K "Yard" "train"), "train", "Yard.train", defArgs (inClass (top 99) 3), defBody (inClass (top 99) 3), defScope (inClass (top 99) 3), [], []⟩
def m99_4 : He5.DefA := ⟨fun K => (gAd K "Yard" "done"), "done", "Yard.done", defArgs (inClass (top 99) 4), defBody (inClass (top 99) 4), defScope (inClass (top 99) 4), [], []⟩
def m99_5 : He5.DefA := ⟨fun K => (He.ma K (cA K "Yard") "go"), "go", "Yard.go", defArgs (inClass (top 99) 5), defBody (inClass (top 99) 5), defScope (inClass (top 99) 5), [], []⟩
def m99_6 : He5.DefA := ⟨fun K => (He.ma K (cA K "Yard") "send"), "send", "Yard.send", defArgs (inClass (top 99) 6), defBody (inClass (top 99) 6), defScope (inClass (top 99) 6), [], []⟩
def m99_7 : He5.DefA := ⟨fun K => (He.ma K (cA K "Yard") "pull"), "pull", "Yard.pull", defArgs (inClass (top 99) 7), defBody (inClass (top 99) 7), defScope (inClass (top 99) 7), [], []⟩
def m99_8 : He5.DefA := ⟨fun K => (He.ma K (cA K "Yard") "undo"), "undo", "Yard.undo", defArgs (inClass (top 99) 8), defBody (inClass (top 99) 8), defScope (inClass (top 99) 8), [], []⟩
def m99_9 : He5.DefA := ⟨fun K => (He.ma K (cA K "Yard") "copy"), "copy", "Yard.copy", defArgs (inClass (top 99) 9), defBody (inClass (top 99) 9), defScope (inClass (top 99) 9), [], []⟩
def m99_10 : He5.DefA := ⟨fun K => (He.ma K (cA K "Yard") "__len__"), "__len__", "Yard.__len__", defArgs (inClass (top 99) 10), defBody (inClass (top 99) 10), defScope (inClass (top 99) 10), [], []⟩
def fnP1 : List He5.DefA := [d0, d22, d23, d25, d26, d27, d33, d34, d35, d36, d37, d38, d39, d40, d41, d43, d44, d45, d46, d47, d48, d49, d50, d51, d53, d54, d55, d56, d57, d58, d60]
def fnP2 : List He5.DefA := [d61, d62, d63, d64, d65, d66, d67, d68, d74, d75, d76, d77, d78, d79, d80, d81, d82, d83, d84, d85, d86, d87, d88, d89, d90, d91, d93, d94, d95, d96, d97]
def fnP3 : List He5.DefA := [d101, d102, d103, d104, d105, d106, d107, d108, d109, m18_0, m24_0, m24_1, m24_2, m24_3, m99_0, m99_1, m99_2, m99_3, m99_4, m99_5, m99_6, m99_7, m99_8, m99_9, m99_10]
def fn : List He5.DefA := fnP1 ++ (fnP2 ++ (fnP3))
def fa : List Fb := [faB (.free "max"), faB (.free "int"), faB (.free "len"), faB (.free "isinstance"), faB (.free "bool"), faB (.free "tuple"), faB (.free "sorted"), faB (.free "set"), faB (.free "enumerate"), faB (.free "min"), faB (.free "range"), faB (.free "sum"), faB (.free "list"), faB (.free "zip"), faB (.free "dict"), faB (.free "str"), faB (.int "MOST_WAGONS" 12), faB (.int "MOST_GROUP" 11), faB (.int "MOST_PULLS" 11), faB (.int "MOST_TRACKS" 4), faB (.int "MOST_REACH" 200), faB (.int "MOST_NUMBER" 1000000000000000000000000000000), faB (.int "MOST_PLANS" 60), faB (.int "MOST_SHORT_PULLS" 3), faB (.int "MOST_SHORT_WAGONS" 8), tupB "FIRST" [0, -1], faB (.glo "BadGroups"), faB (.exc "BadGroups"), faB (.glo "BadRow"), faB (.exc "BadRow"), faB (.glo "BadPulls"), faB (.exc "BadPulls"), faB (.glo "BadTracks"), faB (.exc "BadTracks"), faB (.glo "BadNumber"), faB (.exc "BadNumber"), faB (.glo "BadPlan"), faB (.exc "BadPlan"), faB (.glo "BadPulled"), faB (.exc "BadPulled"), faB (.glo "BadTrain"), faB (.exc "BadTrain"), faB (.glo "TooMany"), faB (.exc "TooMany"), faB (.glo "NoPlan"), faB (.exc "NoPlan"), faB (.glo "TooLarge"), faB (.exc "TooLarge"), faB (.glo "BadPlaces"), faB (.exc "BadPlaces"), faB (.glo "BadTrack"), faB (.exc "BadTrack"), faB (.glo "Busy"), faB (.exc "Busy"), faB (.glo "Empty"), faB (.exc "Empty"), faB (.glo "InvalidText"), exLB "InvalidText", errB As Bs, faB (.glo "_wall"), faB (.glo "is_integer"), faB (.glo "is_from"), faB (.glo "check_row"), faB (.glo "classes"), faB (.glo "fault_of"), faB (.glo "check_pulls"), faB (.glo "check_tracks"), faB (.glo "stops_of"), faB (.glo "is_allowed"), faB (.glo "allowed_codes"), faB (.glo "allowed"), faB (.glo "longer_ends"), faB (.glo "reach"), faB (.glo "for_any"), faB (.glo "levels"), faB (.glo "pairs_of"), faB (.glo "follows"), faB (.glo "lengths_of"), faB (.glo "chain"), faB (.glo "needed"), faB (.glo "least_pulls"), faB (.glo "least"), faB (.glo "plan"), faB (.glo "check_all"), faB (.glo "check_plan"), faB (.glo "roll"), faB (.glo "run_by"), faB (.glo "run"), faB (.glo "judge"), faB (.glo "are_names"), faB (.glo "check_told"), faB (.glo "plan_of"), faB (.glo "rows_at"), faB (.glo "merged"), faB (.glo "is_possible"), faB (.glo "orders_of"), faB (.glo "orders_back"), faB (.glo "order_back"), faB (.glo "least_places"), faB (.glo "ranges_for"), faB (.glo "ways_on"), faB (.glo "counts_of"), faB (.glo "count_plans"), faB (.glo "many"), faB (.glo "spread"), faB (.glo "part_plans"), faB (.glo "can_go_on"), faB (.glo "plans"), faB (.glo "cheapest"), faB (.glo "light_plans"), faB (.glo "lightest_of"), faB (.glo "least_pushes"), faB (.glo "lightest"), faB (.glo "with_wagon"), faB (.glo "loads_of"), faB (.glo "shortest"), faB (.glo "write_plan"), faB (.glo "number_at"), faB (.glo "check_name"), faB (.glo "read_wagon"), faB (.glo "read_plan"), faB (.glo "_law_mix"), faB (.glo "_law_next"), faB (.glo "_law_codes"), faB (.glo "_law_runs"), faB (.glo "_law_leasts"), faB (.glo "_law_plans"), faB (.glo "_law_back"), faB (.glo "_law_yard"), faB (.glo "law"), faB (.glo "Row"), rowB, faB (.cls "Row"), faB (.noat "Row" "held"), faB (.mkr "Row"), faB (.meth "Row" "__len__"), faB (.meth "Row" "__eq__"), propB "Row" "groups", nfB, faB (.glo "Yard"), faB (.cls "Yard"), faB (.noat "Yard" "row"), faB (.noat "Yard" "state"), faB (.noat "Yard" "earlier"), faB (.mkr "Yard"), propB "Yard" "hump", propB "Yard" "standing", propB "Yard" "train", propB "Yard" "done", faB (.meth "Yard" "go"), faB (.meth "Yard" "send"), faB (.meth "Yard" "pull"), faB (.meth "Yard" "undo"), faB (.meth "Yard" "copy"), faB (.meth "Yard" "__len__")]
theorem txt {K : PySem.W.Frag} {h base : Heap} {mg : Str → Option Value} (X : K.In h) (G : h.Ns mainGlobals mg) (c : SaysP fa fn K) (tb : TabK K mg base "lengths_of" ∧ TabK K mg base "cheapest") : Txt K mg base where
  tab_lengths_of := tb.1
  tab_cheapest := tb.2
  b_max := He.free_ok X G (c.fact 0 (f := faB (.free "max")) rfl)
  b_int := He.free_ok X G (c.fact 1 (f := faB (.free "int")) rfl)
  b_len := He.free_ok X G (c.fact 2 (f := faB (.free "len")) rfl)
  b_isinstance := He.free_ok X G (c.fact 3 (f := faB (.free "isinstance")) rfl)
  b_bool := He.free_ok X G (c.fact 4 (f := faB (.free "bool")) rfl)
  b_tuple := He.free_ok X G (c.fact 5 (f := faB (.free "tuple")) rfl)
  b_sorted := He.free_ok X G (c.fact 6 (f := faB (.free "sorted")) rfl)
  b_set := He.free_ok X G (c.fact 7 (f := faB (.free "set")) rfl)
  b_enumerate := He.free_ok X G (c.fact 8 (f := faB (.free "enumerate")) rfl)
  b_min := He.free_ok X G (c.fact 9 (f := faB (.free "min")) rfl)
  b_range := He.free_ok X G (c.fact 10 (f := faB (.free "range")) rfl)
  b_sum := He.free_ok X G (c.fact 11 (f := faB (.free "sum")) rfl)
  b_list := He.free_ok X G (c.fact 12 (f := faB (.free "list")) rfl)
  b_zip := He.free_ok X G (c.fact 13 (f := faB (.free "zip")) rfl)
  b_dict := He.free_ok X G (c.fact 14 (f := faB (.free "dict")) rfl)
  b_str := He.free_ok X G (c.fact 15 (f := faB (.free "str")) rfl)
  g_MOST_WAGONS := He.int_ok X G (c.fact 16 (f := faB (.int "MOST_WAGONS" 12)) rfl)
  g_MOST_GROUP := He.int_ok X G (c.fact 17 (f := faB (.int "MOST_GROUP" 11)) rfl)
  g_MOST_PULLS := He.int_ok X G (c.fact 18 (f := faB (.int "MOST_PULLS" 11)) rfl)
  g_MOST_TRACKS := He.int_ok X G (c.fact 19 (f := faB (.int "MOST_TRACKS" 4)) rfl)
  g_MOST_REACH := He.int_ok X G (c.fact 20 (f := faB (.int "MOST_REACH" 200)) rfl)
  g_MOST_NUMBER := He.int_ok X G (c.fact 21 (f := faB (.int "MOST_NUMBER" 1000000000000000000000000000000)) rfl)
  g_MOST_PLANS := He.int_ok X G (c.fact 22 (f := faB (.int "MOST_PLANS" 60)) rfl)
  g_MOST_SHORT_PULLS := He.int_ok X G (c.fact 23 (f := faB (.int "MOST_SHORT_PULLS" 3)) rfl)
  g_MOST_SHORT_WAGONS := He.int_ok X G (c.fact 24 (f := faB (.int "MOST_SHORT_WAGONS" 8)) rfl)
  gt_FIRST := tupB_ok X G (c.fact 25 (f := tupB "FIRST" [0, -1]) rfl)
  e_BadGroups := excK_ok (He.glo_ok X G (c.fact 26 (f := faB (.glo "BadGroups")) rfl)) (c.fact 27 (f := faB (.exc "BadGroups")) rfl)
  e_BadRow := excK_ok (He.glo_ok X G (c.fact 28 (f := faB (.glo "BadRow")) rfl)) (c.fact 29 (f := faB (.exc "BadRow")) rfl)
  e_BadPulls := excK_ok (He.glo_ok X G (c.fact 30 (f := faB (.glo "BadPulls")) rfl)) (c.fact 31 (f := faB (.exc "BadPulls")) rfl)
  e_BadTracks := excK_ok (He.glo_ok X G (c.fact 32 (f := faB (.glo "BadTracks")) rfl)) (c.fact 33 (f := faB (.exc "BadTracks")) rfl)
  e_BadNumber := excK_ok (He.glo_ok X G (c.fact 34 (f := faB (.glo "BadNumber")) rfl)) (c.fact 35 (f := faB (.exc "BadNumber")) rfl)
  e_BadPlan := excK_ok (He.glo_ok X G (c.fact 36 (f := faB (.glo "BadPlan")) rfl)) (c.fact 37 (f := faB (.exc "BadPlan")) rfl)
  e_BadPulled := excK_ok (He.glo_ok X G (c.fact 38 (f := faB (.glo "BadPulled")) rfl)) (c.fact 39 (f := faB (.exc "BadPulled")) rfl)
  e_BadTrain := excK_ok (He.glo_ok X G (c.fact 40 (f := faB (.glo "BadTrain")) rfl)) (c.fact 41 (f := faB (.exc "BadTrain")) rfl)
  e_TooMany := excK_ok (He.glo_ok X G (c.fact 42 (f := faB (.glo "TooMany")) rfl)) (c.fact 43 (f := faB (.exc "TooMany")) rfl)
  e_NoPlan := excK_ok (He.glo_ok X G (c.fact 44 (f := faB (.glo "NoPlan")) rfl)) (c.fact 45 (f := faB (.exc "NoPlan")) rfl)
  e_TooLarge := excK_ok (He.glo_ok X G (c.fact 46 (f := faB (.glo "TooLarge")) rfl)) (c.fact 47 (f := faB (.exc "TooLarge")) rfl)
  e_BadPlaces := excK_ok (He.glo_ok X G (c.fact 48 (f := faB (.glo "BadPlaces")) rfl)) (c.fact 49 (f := faB (.exc "BadPlaces")) rfl)
  e_BadTrack := excK_ok (He.glo_ok X G (c.fact 50 (f := faB (.glo "BadTrack")) rfl)) (c.fact 51 (f := faB (.exc "BadTrack")) rfl)
  e_Busy := excK_ok (He.glo_ok X G (c.fact 52 (f := faB (.glo "Busy")) rfl)) (c.fact 53 (f := faB (.exc "Busy")) rfl)
  e_Empty := excK_ok (He.glo_ok X G (c.fact 54 (f := faB (.glo "Empty")) rfl)) (c.fact 55 (f := faB (.exc "Empty")) rfl)
  x_InvalidText := exL_ok (He.glo_ok X G (c.fact 56 (f := faB (.glo "InvalidText")) rfl)) (c.fact 57 (f := exLB "InvalidText") rfl)
  err := errK_ok (List.forall_mem_cons.mpr ⟨He.glo_ok X G (c.fact 26 (f := faB (.glo "BadGroups")) rfl), (List.forall_mem_cons.mpr ⟨He.glo_ok X G (c.fact 28 (f := faB (.glo "BadRow")) rfl), (List.forall_mem_cons.mpr ⟨He.glo_ok X G (c.fact 30 (f := faB (.glo "BadPulls")) rfl), (List.forall_mem_cons.mpr ⟨He.glo_ok X G (c.fact 32 (f := faB (.glo "BadTracks")) rfl), (List.forall_mem_cons.mpr ⟨He.glo_ok X G (c.fact 34 (f := faB (.glo "BadNumber")) rfl), (List.forall_mem_cons.mpr ⟨He.glo_ok X G (c.fact 36 (f := faB (.glo "BadPlan")) rfl), (List.forall_mem_cons.mpr ⟨He.glo_ok X G (c.fact 42 (f := faB (.glo "TooMany")) rfl), (List.forall_mem_cons.mpr ⟨He.glo_ok X G (c.fact 46 (f := faB (.glo "TooLarge")) rfl), (List.forall_mem_cons.mpr ⟨He.glo_ok X G (c.fact 44 (f := faB (.glo "NoPlan")) rfl), (List.forall_mem_cons.mpr ⟨He.glo_ok X G (c.fact 38 (f := faB (.glo "BadPulled")) rfl), (List.forall_mem_cons.mpr ⟨He.glo_ok X G (c.fact 40 (f := faB (.glo "BadTrain")) rfl), (List.forall_mem_cons.mpr ⟨He.glo_ok X G (c.fact 48 (f := faB (.glo "BadPlaces")) rfl), (List.forall_mem_cons.mpr ⟨He.glo_ok X G (c.fact 50 (f := faB (.glo "BadTrack")) rfl), (List.forall_mem_cons.mpr ⟨He.glo_ok X G (c.fact 52 (f := faB (.glo "Busy")) rfl), (List.forall_mem_cons.mpr ⟨He.glo_ok X G (c.fact 54 (f := faB (.glo "Empty")) rfl), (List.forall_mem_cons.mpr ⟨He.glo_ok X G (c.fact 56 (f := faB (.glo "InvalidText")) rfl), (fun _ h => nomatch h)⟩)⟩)⟩)⟩)⟩)⟩)⟩)⟩)⟩)⟩)⟩)⟩)⟩)⟩)⟩)⟩) (List.forall_mem_cons.mpr ⟨He.glo_ok X G (c.fact 56 (f := faB (.glo "InvalidText")) rfl), (List.forall_mem_cons.mpr ⟨He.glo_ok X G (c.fact 54 (f := faB (.glo "Empty")) rfl), (fun _ h => nomatch h)⟩)⟩) (c.fact 58 (f := errB As Bs) rfl)
  f_wall := by
    obtain ⟨fd, F⟩ := c.def_ 0 (d := d0) rfl
    exact ⟨_, fd, F, He.glo_ok X G (c.fact 59 (f := faB (.glo "_wall")) rfl), FunD.bindsN F fun _ _ _ _ _ _ us hl => match us, hl with | [_], _ => rfl⟩
  f_is_integer := by
    obtain ⟨fd, F⟩ := c.def_ 1 (d := d22) rfl
    exact ⟨_, fd, F, He.glo_ok X G (c.fact 60 (f := faB (.glo "is_integer")) rfl), FunD.bindsN F fun _ _ _ _ _ _ us hl => match us, hl with | [_], _ => rfl⟩
  f_is_from := by
    obtain ⟨fd, F⟩ := c.def_ 2 (d := d23) rfl
    exact ⟨_, fd, F, He.glo_ok X G (c.fact 61 (f := faB (.glo "is_from")) rfl), FunD.bindsN F fun _ _ _ _ _ _ us hl => match us, hl with | [_, _, _], _ => rfl⟩
  f_check_row := by
    obtain ⟨fd, F⟩ := c.def_ 3 (d := d25) rfl
    exact ⟨_, fd, F, He.glo_ok X G (c.fact 62 (f := faB (.glo "check_row")) rfl), FunD.bindsN F fun _ _ _ _ _ _ us hl => match us, hl with | [_], _ => rfl⟩
  f_classes := by
    obtain ⟨fd, F⟩ := c.def_ 4 (d := d26) rfl
    exact ⟨_, fd, F, He.glo_ok X G (c.fact 63 (f := faB (.glo "classes")) rfl), FunD.bindsN F fun _ _ _ _ _ _ us hl => match us, hl with | [_], _ => rfl⟩
  f_fault_of := by
    obtain ⟨fd, F⟩ := c.def_ 5 (d := d27) rfl
    exact ⟨_, fd, F, He.glo_ok X G (c.fact 64 (f := faB (.glo "fault_of")) rfl), FunD.bindsN F fun _ _ _ _ _ _ us hl => match us, hl with | [_, _], _ => rfl⟩
  f_check_pulls := by
    obtain ⟨fd, F⟩ := c.def_ 6 (d := d33) rfl
    exact ⟨_, fd, F, He.glo_ok X G (c.fact 65 (f := faB (.glo "check_pulls")) rfl), FunD.bindsN F fun _ _ _ _ _ _ us hl => match us, hl with | [_], _ => rfl⟩
  f_check_tracks := by
    obtain ⟨fd, F⟩ := c.def_ 7 (d := d34) rfl
    exact ⟨_, fd, F, He.glo_ok X G (c.fact 66 (f := faB (.glo "check_tracks")) rfl), FunD.bindsN F fun _ _ _ _ _ _ us hl => match us, hl with | [_], _ => rfl⟩
  f_stops_of := by
    obtain ⟨fd, F⟩ := c.def_ 8 (d := d35) rfl
    exact ⟨_, fd, F, He.glo_ok X G (c.fact 67 (f := faB (.glo "stops_of")) rfl), FunD.bindsN F fun _ _ _ _ _ _ us hl => match us, hl with | [_], _ => rfl⟩
  f_is_allowed := by
    obtain ⟨fd, F⟩ := c.def_ 9 (d := d36) rfl
    exact ⟨_, fd, F, He.glo_ok X G (c.fact 68 (f := faB (.glo "is_allowed")) rfl), FunD.bindsN F fun _ _ _ _ _ _ us hl => match us, hl with | [_, _], _ => rfl⟩
  f_allowed_codes := by
    obtain ⟨fd, F⟩ := c.def_ 10 (d := d37) rfl
    exact ⟨_, fd, F, He.glo_ok X G (c.fact 69 (f := faB (.glo "allowed_codes")) rfl), FunD.bindsN F fun _ _ _ _ _ _ us hl => match us, hl with | [_, _], _ => rfl⟩
  f_allowed := by
    obtain ⟨fd, F⟩ := c.def_ 11 (d := d38) rfl
    exact ⟨_, fd, F, He.glo_ok X G (c.fact 70 (f := faB (.glo "allowed")) rfl), FunD.bindsN F fun _ _ _ _ _ _ us hl => match us, hl with | [_, _], _ => rfl⟩
  f_longer_ends := by
    obtain ⟨fd, F⟩ := c.def_ 12 (d := d39) rfl
    exact ⟨_, fd, F, He.glo_ok X G (c.fact 71 (f := faB (.glo "longer_ends")) rfl), FunD.bindsN F fun _ _ _ _ _ _ us hl => match us, hl with | [_, _], _ => rfl⟩
  f_reach := by
    obtain ⟨fd, F⟩ := c.def_ 13 (d := d40) rfl
    exact ⟨_, fd, F, He.glo_ok X G (c.fact 72 (f := faB (.glo "reach")) rfl), FunD.bindsN F fun _ _ _ _ _ _ us hl => match us, hl with | [_, _], _ => rfl⟩
  f_for_any := by
    obtain ⟨fd, F⟩ := c.def_ 14 (d := d41) rfl
    exact ⟨_, fd, F, He.glo_ok X G (c.fact 73 (f := faB (.glo "for_any")) rfl), FunD.bindsN F fun _ _ _ _ _ _ us hl => match us, hl with | [_, _], _ => rfl⟩
  f_levels := by
    obtain ⟨fd, F⟩ := c.def_ 15 (d := d43) rfl
    exact ⟨_, fd, F, He.glo_ok X G (c.fact 74 (f := faB (.glo "levels")) rfl), FunD.bindsN F fun _ _ _ _ _ _ us hl => match us, hl with | [_], _ => rfl⟩
  f_pairs_of := by
    obtain ⟨fd, F⟩ := c.def_ 16 (d := d44) rfl
    exact ⟨_, fd, F, He.glo_ok X G (c.fact 75 (f := faB (.glo "pairs_of")) rfl), FunD.bindsN F fun _ _ _ _ _ _ us hl => match us, hl with | [_], _ => rfl⟩
  f_follows := by
    obtain ⟨fd, F⟩ := c.def_ 17 (d := d45) rfl
    exact ⟨_, fd, F, He.glo_ok X G (c.fact 76 (f := faB (.glo "follows")) rfl), FunD.bindsN F fun _ _ _ _ _ _ us hl => match us, hl with | [_, _, _], _ => rfl⟩
  f_lengths_of := by
    obtain ⟨fd, F⟩ := c.def_ 18 (d := d46) rfl
    exact ⟨_, fd, F, He.glo_ok X G (c.fact 77 (f := faB (.glo "lengths_of")) rfl), FunD.bindsN F fun _ _ _ _ _ _ us hl => match us, hl with | [_], _ => rfl⟩
  f_chain := by
    obtain ⟨fd, F⟩ := c.def_ 19 (d := d47) rfl
    exact ⟨_, fd, F, He.glo_ok X G (c.fact 78 (f := faB (.glo "chain")) rfl), FunD.bindsN F fun _ _ _ _ _ _ us hl => match us, hl with | [_], _ => rfl⟩
  f_needed := by
    obtain ⟨fd, F⟩ := c.def_ 20 (d := d48) rfl
    exact ⟨_, fd, F, He.glo_ok X G (c.fact 79 (f := faB (.glo "needed")) rfl), FunD.bindsN F fun _ _ _ _ _ _ us hl => match us, hl with | [_], _ => rfl⟩
  f_least_pulls := by
    obtain ⟨fd, F⟩ := c.def_ 21 (d := d49) rfl
    exact ⟨_, fd, F, He.glo_ok X G (c.fact 80 (f := faB (.glo "least_pulls")) rfl), FunD.bindsN F fun _ _ _ _ _ _ us hl => match us, hl with | [_, _], _ => rfl⟩
  f_least := by
    obtain ⟨fd, F⟩ := c.def_ 22 (d := d50) rfl
    exact ⟨_, fd, F, He.glo_ok X G (c.fact 81 (f := faB (.glo "least")) rfl), FunD.bindsN F fun _ _ _ _ _ _ us hl => match us, hl with | [_, _], _ => rfl⟩
  f_plan := by
    obtain ⟨fd, F⟩ := c.def_ 23 (d := d51) rfl
    exact ⟨_, fd, F, He.glo_ok X G (c.fact 82 (f := faB (.glo "plan")) rfl), FunD.bindsN F fun _ _ _ _ _ _ us hl => match us, hl with | [_, _], _ => rfl⟩
  f_check_all := by
    obtain ⟨fd, F⟩ := c.def_ 24 (d := d53) rfl
    exact ⟨_, fd, F, He.glo_ok X G (c.fact 83 (f := faB (.glo "check_all")) rfl), FunD.bindsN F fun _ _ _ _ _ _ us hl => match us, hl with | [_, _, _], _ => rfl⟩
  f_check_plan := by
    obtain ⟨fd, F⟩ := c.def_ 25 (d := d54) rfl
    exact ⟨_, fd, F, He.glo_ok X G (c.fact 84 (f := faB (.glo "check_plan")) rfl), FunD.bindsN F fun _ _ _ _ _ _ us hl => match us, hl with | [_, _, _, _], _ => rfl⟩
  f_roll := by
    obtain ⟨fd, F⟩ := c.def_ 26 (d := d55) rfl
    exact ⟨_, fd, F, He.glo_ok X G (c.fact 85 (f := faB (.glo "roll")) rfl), FunD.bindsN F fun _ _ _ _ _ _ us hl => match us, hl with | [_, _, _, _, _], _ => rfl⟩
  f_run_by := by
    obtain ⟨fd, F⟩ := c.def_ 27 (d := d56) rfl
    exact ⟨_, fd, F, He.glo_ok X G (c.fact 86 (f := faB (.glo "run_by")) rfl), FunD.bindsN F fun _ _ _ _ _ _ us hl => match us, hl with | [_, _, _], _ => rfl⟩
  f_run := by
    obtain ⟨fd, F⟩ := c.def_ 28 (d := d57) rfl
    exact ⟨_, fd, F, He.glo_ok X G (c.fact 87 (f := faB (.glo "run")) rfl), FunD.bindsN F fun _ _ _ _ _ _ us hl => match us, hl with | [_, _, _, _], _ => rfl⟩
  f_judge := by
    obtain ⟨fd, F⟩ := c.def_ 29 (d := d58) rfl
    exact ⟨_, fd, F, He.glo_ok X G (c.fact 88 (f := faB (.glo "judge")) rfl), FunD.bindsN F fun _ _ _ _ _ _ us hl => match us, hl with | [_, _, _, _], _ => rfl⟩
  f_are_names := by
    obtain ⟨fd, F⟩ := c.def_ 30 (d := d60) rfl
    exact ⟨_, fd, F, He.glo_ok X G (c.fact 89 (f := faB (.glo "are_names")) rfl), FunD.bindsN F fun _ _ _ _ _ _ us hl => match us, hl with | [_], _ => rfl⟩
  f_check_told := by
    obtain ⟨fd, F⟩ := c.def_ 31 (d := d61) rfl
    exact ⟨_, fd, F, He.glo_ok X G (c.fact 90 (f := faB (.glo "check_told")) rfl), FunD.bindsN F fun _ _ _ _ _ _ us hl => match us, hl with | [_, _, _], _ => rfl⟩
  f_plan_of := by
    obtain ⟨fd, F⟩ := c.def_ 32 (d := d62) rfl
    exact ⟨_, fd, F, He.glo_ok X G (c.fact 91 (f := faB (.glo "plan_of")) rfl), FunD.bindsN F fun _ _ _ _ _ _ us hl => match us, hl with | [_, _], _ => rfl⟩
  f_rows_at := by
    obtain ⟨fd, F⟩ := c.def_ 33 (d := d63) rfl
    exact ⟨_, fd, F, He.glo_ok X G (c.fact 92 (f := faB (.glo "rows_at")) rfl), FunD.bindsN F fun _ _ _ _ _ _ us hl => match us, hl with | [_, _, _], _ => rfl⟩
  f_merged := by
    obtain ⟨fd, F⟩ := c.def_ 34 (d := d64) rfl
    exact ⟨_, fd, F, He.glo_ok X G (c.fact 93 (f := faB (.glo "merged")) rfl), FunD.bindsN F fun _ _ _ _ _ _ us hl => match us, hl with | [_], _ => rfl⟩
  f_is_possible := by
    obtain ⟨fd, F⟩ := c.def_ 35 (d := d65) rfl
    exact ⟨_, fd, F, He.glo_ok X G (c.fact 94 (f := faB (.glo "is_possible")) rfl), FunD.bindsN F fun _ _ _ _ _ _ us hl => match us, hl with | [_, _, _], _ => rfl⟩
  f_orders_of := by
    obtain ⟨fd, F⟩ := c.def_ 36 (d := d66) rfl
    exact ⟨_, fd, F, He.glo_ok X G (c.fact 95 (f := faB (.glo "orders_of")) rfl), FunD.bindsN F fun _ _ _ _ _ _ us hl => match us, hl with | [_], _ => rfl⟩
  f_orders_back := by
    obtain ⟨fd, F⟩ := c.def_ 37 (d := d67) rfl
    exact ⟨_, fd, F, He.glo_ok X G (c.fact 96 (f := faB (.glo "orders_back")) rfl), FunD.bindsN F fun _ _ _ _ _ _ us hl => match us, hl with | [_, _, _], _ => rfl⟩
  f_order_back := by
    obtain ⟨fd, F⟩ := c.def_ 38 (d := d68) rfl
    exact ⟨_, fd, F, He.glo_ok X G (c.fact 97 (f := faB (.glo "order_back")) rfl), FunD.bindsN F fun _ _ _ _ _ _ us hl => match us, hl with | [_, _, _], _ => rfl⟩
  f_least_places := by
    obtain ⟨fd, F⟩ := c.def_ 39 (d := d74) rfl
    exact ⟨_, fd, F, He.glo_ok X G (c.fact 98 (f := faB (.glo "least_places")) rfl), FunD.bindsN F fun _ _ _ _ _ _ us hl => match us, hl with | [_, _], _ => rfl⟩
  f_ranges_for := by
    obtain ⟨fd, F⟩ := c.def_ 40 (d := d75) rfl
    exact ⟨_, fd, F, He.glo_ok X G (c.fact 99 (f := faB (.glo "ranges_for")) rfl), FunD.bindsN F fun _ _ _ _ _ _ us hl => match us, hl with | [_, _, _, _], _ => rfl⟩
  f_ways_on := by
    obtain ⟨fd, F⟩ := c.def_ 41 (d := d76) rfl
    exact ⟨_, fd, F, He.glo_ok X G (c.fact 100 (f := faB (.glo "ways_on")) rfl), FunD.bindsN F fun _ _ _ _ _ _ us hl => match us, hl with | [_, _, _], _ => rfl⟩
  f_counts_of := by
    obtain ⟨fd, F⟩ := c.def_ 42 (d := d77) rfl
    exact ⟨_, fd, F, He.glo_ok X G (c.fact 101 (f := faB (.glo "counts_of")) rfl), FunD.bindsN F fun _ _ _ _ _ _ us hl => match us, hl with | [_, _], _ => rfl⟩
  f_count_plans := by
    obtain ⟨fd, F⟩ := c.def_ 43 (d := d78) rfl
    exact ⟨_, fd, F, He.glo_ok X G (c.fact 102 (f := faB (.glo "count_plans")) rfl), FunD.bindsN F fun _ _ _ _ _ _ us hl => match us, hl with | [_, _], _ => rfl⟩
  f_many := by
    obtain ⟨fd, F⟩ := c.def_ 44 (d := d79) rfl
    exact ⟨_, fd, F, He.glo_ok X G (c.fact 103 (f := faB (.glo "many")) rfl), FunD.bindsN F fun _ _ _ _ _ _ us hl => match us, hl with | [_, _, _], _ => rfl⟩
  f_spread := by
    obtain ⟨fd, F⟩ := c.def_ 45 (d := d80) rfl
    exact ⟨_, fd, F, He.glo_ok X G (c.fact 104 (f := faB (.glo "spread")) rfl), FunD.bindsN F fun _ _ _ _ _ _ us hl => match us, hl with | [_], _ => rfl⟩
  f_part_plans := by
    obtain ⟨fd, F⟩ := c.def_ 46 (d := d81) rfl
    exact ⟨_, fd, F, He.glo_ok X G (c.fact 105 (f := faB (.glo "part_plans")) rfl), FunD.bindsN F fun _ _ _ _ _ _ us hl => match us, hl with | [_, _], _ => rfl⟩
  f_can_go_on := by
    obtain ⟨fd, F⟩ := c.def_ 47 (d := d82) rfl
    exact ⟨_, fd, F, He.glo_ok X G (c.fact 106 (f := faB (.glo "can_go_on")) rfl), FunD.bindsN F fun _ _ _ _ _ _ us hl => match us, hl with | [_, _, _], _ => rfl⟩
  f_plans := by
    obtain ⟨fd, F⟩ := c.def_ 48 (d := d83) rfl
    exact ⟨_, fd, F, He.glo_ok X G (c.fact 107 (f := faB (.glo "plans")) rfl), FunD.bindsN F fun _ _ _ _ _ _ us hl => match us, hl with | [_, _, _], _ => rfl⟩
  f_cheapest := by
    obtain ⟨fd, F⟩ := c.def_ 49 (d := d84) rfl
    exact ⟨_, fd, F, He.glo_ok X G (c.fact 108 (f := faB (.glo "cheapest")) rfl), FunD.bindsN F fun _ _ _ _ _ _ us hl => match us, hl with | [_, _], _ => rfl⟩
  f_light_plans := by
    obtain ⟨fd, F⟩ := c.def_ 50 (d := d85) rfl
    exact ⟨_, fd, F, He.glo_ok X G (c.fact 109 (f := faB (.glo "light_plans")) rfl), FunD.bindsN F fun _ _ _ _ _ _ us hl => match us, hl with | [_, _], _ => rfl⟩
  f_lightest_of := by
    obtain ⟨fd, F⟩ := c.def_ 51 (d := d86) rfl
    exact ⟨_, fd, F, He.glo_ok X G (c.fact 110 (f := faB (.glo "lightest_of")) rfl), FunD.bindsN F fun _ _ _ _ _ _ us hl => match us, hl with | [_, _, _], _ => rfl⟩
  f_least_pushes := by
    obtain ⟨fd, F⟩ := c.def_ 52 (d := d87) rfl
    exact ⟨_, fd, F, He.glo_ok X G (c.fact 111 (f := faB (.glo "least_pushes")) rfl), FunD.bindsN F fun _ _ _ _ _ _ us hl => match us, hl with | [_, _, _], _ => rfl⟩
  f_lightest := by
    obtain ⟨fd, F⟩ := c.def_ 53 (d := d88) rfl
    exact ⟨_, fd, F, He.glo_ok X G (c.fact 112 (f := faB (.glo "lightest")) rfl), FunD.bindsN F fun _ _ _ _ _ _ us hl => match us, hl with | [_, _, _], _ => rfl⟩
  f_with_wagon := by
    obtain ⟨fd, F⟩ := c.def_ 54 (d := d89) rfl
    exact ⟨_, fd, F, He.glo_ok X G (c.fact 113 (f := faB (.glo "with_wagon")) rfl), FunD.bindsN F fun _ _ _ _ _ _ us hl => match us, hl with | [_, _, _, _], _ => rfl⟩
  f_loads_of := by
    obtain ⟨fd, F⟩ := c.def_ 55 (d := d90) rfl
    exact ⟨_, fd, F, He.glo_ok X G (c.fact 114 (f := faB (.glo "loads_of")) rfl), FunD.bindsN F fun _ _ _ _ _ _ us hl => match us, hl with | [_, _, _], _ => rfl⟩
  f_shortest := by
    obtain ⟨fd, F⟩ := c.def_ 56 (d := d91) rfl
    exact ⟨_, fd, F, He.glo_ok X G (c.fact 115 (f := faB (.glo "shortest")) rfl), FunD.bindsN F fun _ _ _ _ _ _ us hl => match us, hl with | [_, _, _], _ => rfl⟩
  f_write_plan := by
    obtain ⟨fd, F⟩ := c.def_ 57 (d := d93) rfl
    exact ⟨_, fd, F, He.glo_ok X G (c.fact 116 (f := faB (.glo "write_plan")) rfl), FunD.bindsN F fun _ _ _ _ _ _ us hl => match us, hl with | [_, _, _, _], _ => rfl⟩
  f_number_at := by
    obtain ⟨fd, F⟩ := c.def_ 58 (d := d94) rfl
    exact ⟨_, fd, F, He.glo_ok X G (c.fact 117 (f := faB (.glo "number_at")) rfl), FunD.bindsN F fun _ _ _ _ _ _ us hl => match us, hl with | [_, _, _, _, _], _ => rfl⟩
  f_check_name := by
    obtain ⟨fd, F⟩ := c.def_ 59 (d := d95) rfl
    exact ⟨_, fd, F, He.glo_ok X G (c.fact 118 (f := faB (.glo "check_name")) rfl), FunD.bindsN F fun _ _ _ _ _ _ us hl => match us, hl with | [_, _, _], _ => rfl⟩
  f_read_wagon := by
    obtain ⟨fd, F⟩ := c.def_ 60 (d := d96) rfl
    exact ⟨_, fd, F, He.glo_ok X G (c.fact 119 (f := faB (.glo "read_wagon")) rfl), FunD.bindsN F fun _ _ _ _ _ _ us hl => match us, hl with | [_, _, _, _], _ => rfl⟩
  f_read_plan := by
    obtain ⟨fd, F⟩ := c.def_ 61 (d := d97) rfl
    exact ⟨_, fd, F, He.glo_ok X G (c.fact 120 (f := faB (.glo "read_plan")) rfl), FunD.bindsN F fun _ _ _ _ _ _ us hl => match us, hl with | [_], _ => rfl⟩
  f_law_mix := by
    obtain ⟨fd, F⟩ := c.def_ 62 (d := d101) rfl
    exact ⟨_, fd, F, He.glo_ok X G (c.fact 121 (f := faB (.glo "_law_mix")) rfl), FunD.bindsN F fun _ _ _ _ _ _ us hl => match us, hl with | [_, _], _ => rfl⟩
  f_law_next := by
    obtain ⟨fd, F⟩ := c.def_ 63 (d := d102) rfl
    exact ⟨_, fd, F, He.glo_ok X G (c.fact 122 (f := faB (.glo "_law_next")) rfl), FunD.bindsN F fun _ _ _ _ _ _ us hl => match us, hl with | [_, _], _ => rfl⟩
  f_law_codes := by
    obtain ⟨fd, F⟩ := c.def_ 64 (d := d103) rfl
    exact ⟨_, fd, F, He.glo_ok X G (c.fact 123 (f := faB (.glo "_law_codes")) rfl), FunD.bindsN F fun _ _ _ _ _ _ us hl => match us, hl with | [], _ => rfl⟩
  f_law_runs := by
    obtain ⟨fd, F⟩ := c.def_ 65 (d := d104) rfl
    exact ⟨_, fd, F, He.glo_ok X G (c.fact 124 (f := faB (.glo "_law_runs")) rfl), FunD.bindsN F fun _ _ _ _ _ _ us hl => match us, hl with | [], _ => rfl⟩
  f_law_leasts := by
    obtain ⟨fd, F⟩ := c.def_ 66 (d := d105) rfl
    exact ⟨_, fd, F, He.glo_ok X G (c.fact 125 (f := faB (.glo "_law_leasts")) rfl), FunD.bindsN F fun _ _ _ _ _ _ us hl => match us, hl with | [], _ => rfl⟩
  f_law_plans := by
    obtain ⟨fd, F⟩ := c.def_ 67 (d := d106) rfl
    exact ⟨_, fd, F, He.glo_ok X G (c.fact 126 (f := faB (.glo "_law_plans")) rfl), FunD.bindsN F fun _ _ _ _ _ _ us hl => match us, hl with | [], _ => rfl⟩
  f_law_back := by
    obtain ⟨fd, F⟩ := c.def_ 68 (d := d107) rfl
    exact ⟨_, fd, F, He.glo_ok X G (c.fact 127 (f := faB (.glo "_law_back")) rfl), FunD.bindsN F fun _ _ _ _ _ _ us hl => match us, hl with | [], _ => rfl⟩
  f_law_yard := by
    obtain ⟨fd, F⟩ := c.def_ 69 (d := d108) rfl
    exact ⟨_, fd, F, He.glo_ok X G (c.fact 128 (f := faB (.glo "_law_yard")) rfl), FunD.bindsN F fun _ _ _ _ _ _ us hl => match us, hl with | [], _ => rfl⟩
  f_law := by
    obtain ⟨fd, F⟩ := c.def_ 70 (d := d109) rfl
    exact ⟨_, fd, F, He.glo_ok X G (c.fact 129 (f := faB (.glo "law")) rfl), FunD.bindsN F fun _ _ _ _ _ _ us hl => match us, hl with | [_], _ => rfl⟩
  fi_InvalidText := by
    obtain ⟨fd, F⟩ := c.def_ 71 (d := m18_0) rfl
    exact ⟨fd, F, FunD.bindsN F fun _ _ _ _ _ _ us hl => match us, hl with | [_, _, _], _ => rfl⟩
  f_Row___init__ := by
    obtain ⟨fd, F⟩ := c.def_ 72 (d := m24_0) rfl
    exact ⟨fd, F, FunD.bindsN F fun _ _ _ _ _ _ us hl => match us, hl with | [_, _], _ => rfl⟩
  f_Row_groups := by
    obtain ⟨fd, F⟩ := c.def_ 73 (d := m24_1) rfl
    exact ⟨fd, F, FunD.bindsN F fun _ _ _ _ _ _ us hl => match us, hl with | [_], _ => rfl⟩
  f_Row___len__ := by
    obtain ⟨fd, F⟩ := c.def_ 74 (d := m24_2) rfl
    exact ⟨fd, F, FunD.bindsN F fun _ _ _ _ _ _ us hl => match us, hl with | [_], _ => rfl⟩
  f_Row___eq__ := by
    obtain ⟨fd, F⟩ := c.def_ 75 (d := m24_3) rfl
    exact ⟨fd, F, FunD.bindsN F fun _ _ _ _ _ _ us hl => match us, hl with | [_, _], _ => rfl⟩
  f_Yard___init__ := by
    obtain ⟨fd, F⟩ := c.def_ 76 (d := m99_0) rfl
    exact ⟨fd, F, FunD.bindsN F fun _ _ _ _ _ _ us hl => match us, hl with | [_, _, _], _ => rfl⟩
  f_Yard_hump := by
    obtain ⟨fd, F⟩ := c.def_ 77 (d := m99_1) rfl
    exact ⟨fd, F, FunD.bindsN F fun _ _ _ _ _ _ us hl => match us, hl with | [_], _ => rfl⟩
  f_Yard_standing := by
    obtain ⟨fd, F⟩ := c.def_ 78 (d := m99_2) rfl
    exact ⟨fd, F, FunD.bindsN F fun _ _ _ _ _ _ us hl => match us, hl with | [_], _ => rfl⟩
  f_Yard_train := by
    obtain ⟨fd, F⟩ := c.def_ 79 (d := m99_3) rfl
    exact ⟨fd, F, FunD.bindsN F fun _ _ _ _ _ _ us hl => match us, hl with | [_], _ => rfl⟩
  f_Yard_done := by
    obtain ⟨fd, F⟩ := c.def_ 80 (d := m99_4) rfl
    exact ⟨fd, F, FunD.bindsN F fun _ _ _ _ _ _ us hl => match us, hl with | [_], _ => rfl⟩
  f_Yard_go := by
    obtain ⟨fd, F⟩ := c.def_ 81 (d := m99_5) rfl
    exact ⟨fd, F, FunD.bindsN F fun _ _ _ _ _ _ us hl => match us, hl with | [_, _], _ => rfl⟩
  f_Yard_send := by
    obtain ⟨fd, F⟩ := c.def_ 82 (d := m99_6) rfl
    exact ⟨fd, F, FunD.bindsN F fun _ _ _ _ _ _ us hl => match us, hl with | [_, _], _ => rfl⟩
  f_Yard_pull := by
    obtain ⟨fd, F⟩ := c.def_ 83 (d := m99_7) rfl
    exact ⟨fd, F, FunD.bindsN F fun _ _ _ _ _ _ us hl => match us, hl with | [_, _], _ => rfl⟩
  f_Yard_undo := by
    obtain ⟨fd, F⟩ := c.def_ 84 (d := m99_8) rfl
    exact ⟨fd, F, FunD.bindsN F fun _ _ _ _ _ _ us hl => match us, hl with | [_], _ => rfl⟩
  f_Yard_copy := by
    obtain ⟨fd, F⟩ := c.def_ 85 (d := m99_9) rfl
    exact ⟨fd, F, FunD.bindsN F fun _ _ _ _ _ _ us hl => match us, hl with | [_], _ => rfl⟩
  f_Yard___len__ := by
    obtain ⟨fd, F⟩ := c.def_ 86 (d := m99_10) rfl
    exact ⟨fd, F, FunD.bindsN F fun _ _ _ _ _ _ us hl => match us, hl with | [_], _ => rfl⟩
  row := rowB_ok (He.glo_ok X G (c.fact 130 (f := faB (.glo "Row")) rfl)) (c.fact 131 (f := rowB) rfl)
  at_Row_held := ⟨He.glo_ok X G (c.fact 130 (f := faB (.glo "Row")) rfl), He.cls_ok (c.fact 132 (f := faB (.cls "Row")) rfl), He.noat_ok (c.fact 133 (f := faB (.noat "Row" "held")) rfl)⟩
  mk_Row := He.mkr_ok (c.fact 134 (f := faB (.mkr "Row")) rfl)
  m_Row___len__ := He.meth_ok (c.fact 135 (f := faB (.meth "Row" "__len__")) rfl)
  m_Row___eq__ := He.meth_ok (c.fact 136 (f := faB (.meth "Row" "__eq__")) rfl)
  p_Row_groups := propB_ok (c.fact 137 (f := propB "Row" "groups") rfl)
  nf := c.fact 138 (f := nfB) rfl
  cls_Yard := ⟨He.glo_ok X G (c.fact 139 (f := faB (.glo "Yard")) rfl), He.cls_ok (c.fact 140 (f := faB (.cls "Yard")) rfl)⟩
  at_Yard_row := ⟨He.glo_ok X G (c.fact 139 (f := faB (.glo "Yard")) rfl), He.cls_ok (c.fact 140 (f := faB (.cls "Yard")) rfl), He.noat_ok (c.fact 141 (f := faB (.noat "Yard" "row")) rfl)⟩
  at_Yard_state := ⟨He.glo_ok X G (c.fact 139 (f := faB (.glo "Yard")) rfl), He.cls_ok (c.fact 140 (f := faB (.cls "Yard")) rfl), He.noat_ok (c.fact 142 (f := faB (.noat "Yard" "state")) rfl)⟩
  at_Yard_earlier := ⟨He.glo_ok X G (c.fact 139 (f := faB (.glo "Yard")) rfl), He.cls_ok (c.fact 140 (f := faB (.cls "Yard")) rfl), He.noat_ok (c.fact 143 (f := faB (.noat "Yard" "earlier")) rfl)⟩
  mk_Yard := He.mkr_ok (c.fact 144 (f := faB (.mkr "Yard")) rfl)
  p_Yard_hump := propB_ok (c.fact 145 (f := propB "Yard" "hump") rfl)
  p_Yard_standing := propB_ok (c.fact 146 (f := propB "Yard" "standing") rfl)
  p_Yard_train := propB_ok (c.fact 147 (f := propB "Yard" "train") rfl)
  p_Yard_done := propB_ok (c.fact 148 (f := propB "Yard" "done") rfl)
  m_Yard_go := He.meth_ok (c.fact 149 (f := faB (.meth "Yard" "go")) rfl)
  m_Yard_send := He.meth_ok (c.fact 150 (f := faB (.meth "Yard" "send")) rfl)
  m_Yard_pull := He.meth_ok (c.fact 151 (f := faB (.meth "Yard" "pull")) rfl)
  m_Yard_undo := He.meth_ok (c.fact 152 (f := faB (.meth "Yard" "undo")) rfl)
  m_Yard_copy := He.meth_ok (c.fact 153 (f := faB (.meth "Yard" "copy")) rfl)
  m_Yard___len__ := He.meth_ok (c.fact 154 (f := faB (.meth "Yard" "__len__")) rfl)
abbrev R : PySem.W.OpenRow := PySem.W.OpenLaw.row PySem.Challenge.rw_pullouts_k13_known_rows
abbrev tabXs : List PySem.Str := ["lengths_of", "cheapest"]
def asX : List Addr := ([3, 6, 4, 21, 31, 44, 56, 68, 80, 92, 104, 116, 128, 140, 152, 164, 176, 188, 200, 212, 231, 240, 247, 286, 297, 302, 309, 316, 323, 330, 337, 342, 349, 356, 363, 370, 375, 380, 387, 392, 397, 404, 411, 418, 423, 430, 437, 442, 447, 454, 461, 468, 473, 480, 485, 490, 495, 502, 509, 516] : List Addr) ++ ([517, 522, 529, 534, 541, 546, 553, 558, 563, 568, 573, 578, 585, 590, 597, 604, 611, 616, 621, 626, 633, 640, 647, 652, 743, 754, 761, 768, 775, 782, 789, 796, 803, 810, 0, 20, 30, 43, 55, 67, 79, 91, 103, 115, 127, 139, 151, 163, 175, 187, 199, 211, 230, 239, 246, 285, 296, 301, 308, 315] : List Addr) ++ ([322, 329, 336, 341, 348, 355, 362, 369, 374, 379, 386, 391, 396, 403, 410, 417, 422, 429, 436, 441, 446, 453, 460, 467, 472, 479, 484, 489, 494, 501, 508, 515, 521, 528, 533, 540, 545, 552, 557, 562, 567, 572, 577, 584, 589, 596, 603, 610, 615, 620, 625, 632, 639, 646, 651, 742, 753, 760, 767, 774] : List Addr) ++ ([781, 788, 795, 802, 809, 15, 16, 17, 18, 19, 29, 32, 42, 54, 66, 78, 90, 102, 114, 126, 138, 150, 162, 174, 186, 198, 210, 228, 229, 234, 235, 236, 237, 238, 241, 242, 243, 244, 245, 261, 269, 276, 283, 284, 287, 288, 291, 292, 293, 294, 295, 298, 299, 300, 303, 304, 305, 306, 307, 310] : List Addr) ++ ([311, 312, 313, 314, 317, 318, 319, 320, 321, 324, 325, 326, 327, 328, 331, 332, 333, 334, 335, 338, 339, 340, 343, 344, 345, 346, 347, 350, 351, 352, 353, 354, 357, 358, 359, 360, 361, 364, 365, 366, 367, 368, 371, 372, 373, 376, 377, 378, 381, 382, 383, 384, 385, 388, 389, 390, 393, 394, 395, 398] : List Addr) ++ ([399, 400, 401, 402, 405, 406, 407, 408, 409, 412, 413, 414, 415, 416, 419, 420, 421, 424, 425, 426, 427, 428, 431, 432, 433, 434, 435, 438, 439, 440, 443, 444, 445, 448, 449, 450, 451, 452, 455, 456, 457, 458, 459, 462, 463, 464, 465, 466, 469, 470, 471, 474, 475, 476, 477, 478, 481, 482, 483, 486] : List Addr) ++ ([487, 488, 491, 492, 493, 496, 497, 498, 499, 500, 503, 504, 505, 506, 507, 510, 511, 512, 513, 514, 518, 519, 520, 523, 524, 525, 526, 527, 530, 531, 532, 535, 536, 537, 538, 539, 542, 543, 544, 547, 548, 549, 550, 551, 554, 555, 556, 559, 560, 561, 564, 565, 566, 569, 570, 571, 574, 575, 576, 579] : List Addr) ++ ([580, 581, 582, 583, 586, 587, 588, 591, 592, 593, 594, 595, 598, 599, 600, 601, 602, 605, 606, 607, 608, 609, 612, 613, 614, 617, 618, 619, 622, 623, 624, 627, 628, 629, 630, 631, 634, 635, 636, 637, 638, 641, 642, 643, 644, 645, 648, 649, 650, 666, 674, 682, 690, 698, 705, 712, 719, 726, 733, 740] : List Addr) ++ ([741, 744, 745, 748, 749, 750, 751, 752, 755, 756, 757, 758, 759, 762, 763, 764, 765, 766, 769, 770, 771, 772, 773, 776, 777, 778, 779, 780, 783, 784, 785, 786, 787, 790, 791, 792, 793, 794, 797, 798, 799, 800, 801, 804, 805, 806, 807, 808, 227, 260, 268, 275, 282, 665, 673, 681, 689, 697, 704, 711] : List Addr) ++ ([718, 725, 732, 739, 222, 223, 224, 225, 226, 255, 256, 257, 258, 259, 267, 270, 271, 272, 273, 274, 277, 278, 279, 280, 281, 660, 661, 662, 663, 664, 672, 680, 688, 696, 699, 700, 701, 702, 703, 706, 707, 708, 709, 710, 713, 714, 715, 716, 717, 720, 721, 722, 723, 724, 727, 728, 729, 730, 731, 734] : List Addr) ++ ([735, 736, 737, 738] : List Addr)
abbrev hk : PySem.W.Hook := hookPTl asX fa fn tabXs
def ob (s : PySem.W.SharedT) : AlPT := obsPTl asX fa fn tabXs (HandSHeadRun.getT s)
theorem ob_eq (s : PySem.W.SharedT) : ob s = hk.obs s.abs := obsPTl_eq (HandSHeadRun.getT_eq s)
abbrev loose : List PySem.Str := (["_wall", "PullError", "BadGroups", "BadRow", "BadPulls", "BadTracks", "BadNumber", "BadPlan", "TooMany", "TooLarge", "NoPlan", "BadPulled", "BadTrain", "BadPlaces", "BadTrack", "Busy", "Empty", "InvalidText", "MOST_WAGONS", "MOST_GROUP", "is_integer", "is_from", "Row", "check_row", "classes", "fault_of", "MOST_PULLS", "MOST_TRACKS", "MOST_REACH", "MOST_NUMBER"] : List PySem.Str) ++ (["check_pulls", "check_tracks", "stops_of", "is_allowed", "allowed_codes", "allowed", "longer_ends", "reach", "for_any", "levels", "pairs_of", "follows", "lengths_of", "chain", "needed", "least_pulls", "least", "plan", "check_all", "check_plan", "roll", "run_by", "run", "judge", "are_names", "check_told", "plan_of", "rows_at", "merged", "is_possible"] : List PySem.Str) ++ (["orders_of", "orders_back", "order_back", "MOST_PLANS", "MOST_SHORT_WAGONS", "MOST_SHORT_PULLS", "FIRST", "least_places", "ranges_for", "ways_on", "counts_of", "count_plans", "many", "spread", "part_plans", "can_go_on", "plans", "cheapest", "light_plans", "lightest_of", "least_pushes", "lightest", "with_wagon", "loads_of", "shortest", "write_plan", "number_at", "check_name", "read_wagon", "read_plan"] : List PySem.Str) ++ (["Yard", "_law_mix", "_law_next", "_law_codes", "_law_runs", "_law_leasts", "_law_plans", "_law_back", "_law_yard"] : List PySem.Str)
open PySem.W PySem.Calls HandSHeadRun in
theorem run_abtf (w : World) (os : OsState) : (HandSHeadRun.endF (HandSHeadRun.stepQ (HandSHeadRun.denQ HandSHeadRun.tabQ) R.prog w) 9000 R.prog w os).map (fun s => (looksF R.prog (boot_heap w.params) s.abs, seenQ (PySem.W.view R.prog [109]) loose (importedModules R.prog.main.body) (fun s => xlAt (PySem.W.view R.prog [109]) [] s && recOk R.toRowW.records s) s.abs, tabsB (HandSHeadRun.getT s) tabXs (He.frT (HandSHeadRun.getT s) asX), fa.all fun f => f (He.frT (HandSHeadRun.getT s) asX))) = some (true, openGood (PySem.W.view R.prog [109]) loose, true, true) := by kernel_rfl
open PySem.W PySem.Calls HandSHeadRun in
theorem run_a (w : World) (os : OsState) : (HandSHeadRun.endF (HandSHeadRun.stepQ (HandSHeadRun.denQ HandSHeadRun.tabQ) R.prog w) 9000 R.prog w os).map (fun s => looksF R.prog (boot_heap w.params) s.abs) = some true := (split4 (run_abtf w os)).1
open PySem.W PySem.Calls HandSHeadRun in
theorem run_b (w : World) (os : OsState) : (HandSHeadRun.endF (HandSHeadRun.stepQ (HandSHeadRun.denQ HandSHeadRun.tabQ) R.prog w) 9000 R.prog w os).map (fun s => seenQ (PySem.W.view R.prog [109]) loose (importedModules R.prog.main.body) (fun s => xlAt (PySem.W.view R.prog [109]) [] s && recOk R.toRowW.records s) s.abs) = some (openGood (PySem.W.view R.prog [109]) loose) := (split4 (run_abtf w os)).2.1
open PySem.W PySem.Calls HandSHeadRun in
theorem run_f (w : World) (os : OsState) : (HandSHeadRun.endF (HandSHeadRun.stepQ (HandSHeadRun.denQ HandSHeadRun.tabQ) R.prog w) 9000 R.prog w os).map (fun s => fa.all fun f => f (He.frT (HandSHeadRun.getT s) asX)) = some true := (split4 (run_abtf w os)).2.2.2
open PySem.W PySem.Calls HandSHeadRun in
theorem run_d1 (w : World) (os : OsState) : (HandSHeadRun.endF (HandSHeadRun.stepQ (HandSHeadRun.denQ HandSHeadRun.tabQ) R.prog w) 9000 R.prog w os).map (fun s => (fnP1.all fun d => d.ok (He.frT (HandSHeadRun.getT s) asX), fnP1.map fun d => He5.fnA (He.frT (HandSHeadRun.getT s) asX) (d.at_ (He.frT (HandSHeadRun.getT s) asX)))) = some (true, fnP1.map He5.DefA.val) := by kernel_rfl
open PySem.W PySem.Calls HandSHeadRun in
theorem run_d2 (w : World) (os : OsState) : (HandSHeadRun.endF (HandSHeadRun.stepQ (HandSHeadRun.denQ HandSHeadRun.tabQ) R.prog w) 9000 R.prog w os).map (fun s => (fnP2.all fun d => d.ok (He.frT (HandSHeadRun.getT s) asX), fnP2.map fun d => He5.fnA (He.frT (HandSHeadRun.getT s) asX) (d.at_ (He.frT (HandSHeadRun.getT s) asX)))) = some (true, fnP2.map He5.DefA.val) := by kernel_rfl
open PySem.W PySem.Calls HandSHeadRun in
theorem run_d3 (w : World) (os : OsState) : (HandSHeadRun.endF (HandSHeadRun.stepQ (HandSHeadRun.denQ HandSHeadRun.tabQ) R.prog w) 9000 R.prog w os).map (fun s => (fnP3.all fun d => d.ok (He.frT (HandSHeadRun.getT s) asX), fnP3.map fun d => He5.fnA (He.frT (HandSHeadRun.getT s) asX) (d.at_ (He.frT (HandSHeadRun.getT s) asX)))) = some (true, fnP3.map He5.DefA.val) := by kernel_rfl
open PySem.W PySem.Calls HandSHeadRun in
theorem run_t (w : World) (os : OsState) : (HandSHeadRun.endF (HandSHeadRun.stepQ (HandSHeadRun.denQ HandSHeadRun.tabQ) R.prog w) 9000 R.prog w os).map (fun s => tabsB (HandSHeadRun.getT s) tabXs (He.frT (HandSHeadRun.getT s) asX)) = some true := (split4 (run_abtf w os)).2.2.1
theorem run (w : World) : HandSHeadRun.RunEq R (PySem.W.view R.prog [109]) hk ob 9000 loose w := by
  intro os
  exact both_map (run_a w os) (both_map (run_b w os) (obs_ofl (g := fun s => HandSHeadRun.getT s) (as := asX) (run_f w os) (defs_app (k := fun s => (He.frT (HandSHeadRun.getT s) asX)) (run_d1 w os) (defs_app (k := fun s => (He.frT (HandSHeadRun.getT s) asX)) (run_d2 w os) (run_d3 w os))) (run_t w os)))
theorem facts {P : Program} {w : World} {K : PySem.W.Frag} {h : Heap} {mg : Str → Option Value} {f : Addr} (X : K.In h) (G : h.Ns mainGlobals mg) (hfa : mg ("law" : Str) = some (.ref f)) (c : SaysP fa fn K) :
    ∃ fd : FuncData, (∀ (s : Shared) (v : Value), BindsTo s fd ⟨[v], []⟩ [("_law_script", v)]) ∧ ∀ base : Heap, (∀ x ∈ tabXs, LamX.TabB base mg (He.cT K (x, none)).1 (He.cT K (x, none)).2) → FnOk P w K mg base (L2.CX P w) 9 f fd ["_law_script"] (spF K mg 1 den_law) := by
  obtain ⟨fd, F⟩ := c.def_ 70 (d := d109) rfl
  have e := hfa.symm.trans (He.glo_ok X G (c.fact 129 (f := faB (.glo "law")) rfl))
  cases e
  have b := FunD.bindsA (ps := ["_law_script"]) F fun _ _ _ _ _ _ us hl => match us, hl with | [_], _ => rfl
  exact ⟨fd, fun s v => b s [v] rfl, fun base tb => ok_law F (txt X G c ⟨⟨He.glo_ok X G (c.fact 77 (f := faB (.glo "lengths_of")) rfl), tb "lengths_of" (by decide)⟩, ⟨He.glo_ok X G (c.fact 108 (f := faB (.glo "cheapest")) rfl), tb "cheapest" (by decide)⟩⟩)⟩
end L_k13
open PySem PySem.W PySem.Calls PyProof.Rows
theorem PySem.Challenge.cw_pullouts_k13_known_rows_holds : PySem.Challenge.rw_pullouts_k13_known_rows.Holds := by
  w_on; o_law
  refine HandSHeadRun.head_any (r := OpenLaw.row PySem.Challenge.rw_pullouts_k13_known_rows) (q := view (OpenLaw.row PySem.Challenge.rw_pullouts_k13_known_rows).prog [109]) (H := L_k13.hk) (ob := L_k13.ob) (M := 9000) (loose := L_k13.loose) (d := HandSHeadRun.topDef (OpenLaw.row PySem.Challenge.rw_pullouts_k13_known_rows).prog 109) (kwd := []) L_k13.ob_eq
    (by kernel_rfl) (fun s => by kernel_rfl) L_k13.run (by kernel_rfl) (by kernel_rfl) (by kernel_rfl) (by rfl) (by first | assumption | decide +kernel) (by decide +kernel) ⟨rfl, rfl, rfl, rfl, rfl, by decide +kernel⟩ ?hw ?hc
  case hw => w_witness2
  case hc =>
    refine PD.walk_pdTs (l := PySem.Challenge.rw_pullouts_k13_known_rows) (n := 63) (k := 9) (y := "_law_script") (ts := [("lengths_of", "lengths_of.<locals>.<lambda>"), ("cheapest", "cheapest.<locals>.<lambda>")]) (f := L_k13.den_law) rfl (by decide) (by kernel_rfl) ⟨rfl, by decide, by decide⟩ ?F L_k13.plain
    intro w mg fa h Y G hmg0
    obtain ⟨K, KX, c⟩ := Y
    have hmg : mg ("law" : PySem.Str) = some (.ref fa) := by
      have e : (HandSHeadRun.topDef (OpenLaw.row PySem.Challenge.rw_pullouts_k13_known_rows).prog 109).name = ("law" : PySem.Str) := by kernel_rfl
      rw [← e]
      exact hmg0
    obtain ⟨fd, hb, hF⟩ := L_k13.facts (P := (PySem.Challenge.rw_pullouts_k13_known_rows).prog) (w := w) KX G hmg c.p
    have sub : ∀ {φ : PySem.Str → Prop}, (∀ x ∈ L_k13.tabXs, φ x) → ∀ t ∈ ([("lengths_of", "lengths_of.<locals>.<lambda>"), ("cheapest", "cheapest.<locals>.<lambda>")] : List (PySem.Str × PySem.Str)), φ t.1 := fun h t ht => h t.1 (List.mem_map.mpr ⟨t, ht, rfl⟩)
    exact ⟨K, fd, KX, c.nd, sub c.hd, sub c.out, sub c.empty, hb, fun base _ _ tb => hF base fun x hx => by
      obtain ⟨t, ht, e⟩ := List.mem_map.mp (show x ∈ ([("lengths_of", "lengths_of.<locals>.<lambda>"), ("cheapest", "cheapest.<locals>.<lambda>")] : List (PySem.Str × PySem.Str)).map (·.1) from hx)
      rw [← e]
      exact tb t ht⟩
