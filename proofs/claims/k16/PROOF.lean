import PyProof.Rows.All
import Wide.All
import OpenK.AllK
import Wide.FinOn
import KE.KStateDown
import Lean
import HandS.Base
import HandS.Call
import HandS.Ends
import HandS.More
import HandS.Words
import HandS.WordsExc
import HandS.Defaults
import HandS.Head0
import HandS.Head1
import HandS.Head2
import HandS.HeadEnd
import HandS.HeadHook1
import HandS.HeadHook2
import HandS.ForMost
import HandS.ForExc
import HandS.CallSlots
import HandS.Lambda
import HandS.HeadHook4
import HandS.TupAny
import HandS.Wide
import HandS.Deep
import HandS.IsInst
import HandS.Style
import HandS.SortInts
import HandS.Iter
import HandS.HeadNt
import HandS.Property
import HandS.SlotsOwn
import HandS.ExcOwn
import HandS.Small
import HandS.SetFor
import HandS.Strs
import KE.GoesMore
import KE.GoesEnum
import KE.DataFind
import KE.KTupSum
import HandS.Conv
import HandS.TryMany
import HandS.ExcIs
import HandS.ExcField
import HandS.Dict
import HandS.TupMul
import HandS.Text
import HandS.FStr
import HandS.Zip
import PyProof.StrLawsTight
import PyProof.StrLawsChain
import PyProof.Rows.StrCut
import HandS.Nested
import HandS.SortKw
import KE.SortKeyHeap
import HandS.EndTab
import PySem.Challenge.RW_pullouts_k16_whole_mixes_of_two_rows
set_option Elab.async false
set_option linter.all false
set_option maxRecDepth 100000
set_option maxHeartbeats 0
/-! The pure layer: data as trees, an owner for each thing that changes; each construct's rule once. -/
namespace PD
open PySem PySem.Spec PyProof.Rows L2
abbrev St := L2.St
/-- data -/
inductive D where
  | non | bl (b : Bool) | int (i : Int) | str (s : Str)
  | tup (xs : List D) | etp (xs : List D) | lst (xs : List D) | dct (t : Bool) (ks vs : List D) | ldc (t : Bool) (ks vs : List D)
  | row (g : D) | obj (n : Nat) | fn (n : Str) | scr (ns : List Int)
  deriving Inhabited
/-- what changes in place: a list, a dict (t: of tuple keys) -/
inductive Cont where
  | lst (ds : List D) | dct (t : Bool) (ks vs : List D) | ldc (t : Bool) (ks vs : List D)
def Cont.d : Cont → D
  | .lst ds => .lst ds
  | .dct t ks vs => .dct t ks vs
  | .ldc t ks vs => .ldc t ks vs
def keyD : Key → D
  | .inl i => .int i
  | .inr s => .str s
structure Exn where
  cls : Str
  args : List D
/-- a slot of a def -/
inductive Slot where
  | non | sh (d : D) | own (c : Cont) | exc (a : Addr) (d : Option Addr) (x : Exn)
/-- a thing in the store: the source of draws, a list, an instance, the table of a def x whose lambdas are called q -/
inductive Ob where
  | gen (s : Int) (cs : List Int) (i : Int)
  | lst (ds : List D)
  | ins (c : Str) (fs : List (Str × D))
  | tab (x q : Str)
inductive Res (α : Type) where
  | ok (a : α) | err (x : Exn) (m : List Ob) | bad
namespace Res
def bind {α β : Type} : Res α → (α → Res β) → Res β
  | .ok a, f => f a
  | .err x m, _ => .err x m
  | .bad, _ => .bad
instance : Monad Res where
  pure := .ok
  bind := bind
end Res
/-- the frozen part: objects that never change again; where the store's things stand -/
structure Fz where
  F : Hp
  As : List (List Addr)
def Fz.le (z z' : Fz) : Prop := Same z.F z'.F ∧ ∃ r, z'.As = z.As ++ r
theorem Fz.le.refl (z : Fz) : z.le z := ⟨Same.refl _, [], (List.append_nil _).symm⟩
theorem Fz.le.trans {a b c : Fz} (h : a.le b) (k : b.le c) : a.le c := by
  obtain ⟨h1, r1, e1⟩ := h
  obtain ⟨h2, r2, e2⟩ := k
  exact ⟨h1.trans h2, r1 ++ r2, by rw [e2, e1, List.append_assoc]⟩
theorem same_tup {K : PySem.W.Frag} {H H' : Hp} {a : Addr} {xs : List V} (e : Same H H') (h : SqT K H a xs) : SqT K H' a xs := by
  rcases h with (h | ⟨o, h⟩) | h
  · exact .inl (.inl (e _ _ h))
  · exact .inl (.inr ⟨o, e _ _ h⟩)
  · exact .inr h
theorem same_upd {H : Hp} {p : Addr} {o : HO} (h : H p = none) : Same H (upd H p o) := fun b x e => by
  rw [upd_ne (ne_of_none e h)]
  exact e
theorem Fz.le.at {z z' : Fz} (h : z.le z') {n : Nat} {fp : List Addr} (e : z.As[n]? = some fp) : z'.As[n]? = some fp := by
  obtain ⟨_, r, er⟩ := h
  rw [er]
  obtain ⟨hl, _⟩ := List.getElem?_eq_some_iff.mp e
  rw [List.getElem?_append_left hl]
  exact e
/-- the keys of a dict -/
def DKeys (t : Bool) (ks : List D) (vx : List V) (o : HO) : Prop := match t with
  | false => ∃ kx : List Key, kx.length = vx.length ∧ ks = kx.map keyD ∧ o = .dK (kx.zip vx)
  | true => ∃ kx : List (List Key), kx.length = vx.length ∧ ks = kx.map (fun b => .tup (b.map keyD)) ∧ o = .dT (kx.zip vx)
section
variable (K : PySem.W.Frag) (mg : Str → Option Value) (z : Fz)
mutual
/-- a value stands for data -/
def Rep : D → V → Prop
  | .non, v => v = .non
  | .bl b, v => v = .bl b
  | .int i, v => v = .int i
  | .str s, v => v = .str s
  | .tup ds, v => ∃ a xs, v = .ref a ∧ SqT K z.F a xs ∧ Reps ds xs
  | .etp ds, v => ∃ a o xs, v = .ref a ∧ z.F a = some (.frz o (.tup xs)) ∧ o.dict = none ∧ Reps ds xs
  | .lst ds, v => ∃ a xs, v = .ref a ∧ z.F a = some (.lst xs) ∧ Reps ds xs
  | .dct t ks vs, v => ∃ (a : Addr) (o : HO) (vxs : List V), v = .ref a ∧ z.F a = some o ∧ Reps vs vxs ∧ DKeys t ks vxs o
  | .ldc t ks vs, v => ∃ (a : Addr) (od : Obj) (o : HO) (vxs : List V), v = .ref a ∧ z.F a = some (.frz od o) ∧ Reps vs vxs ∧ DKeys t ks vxs o
  | .row g, v => ∃ a dx C x, v = .ref a ∧ mg "Row" = some (.ref C) ∧ z.F a = some (.ins C dx [("held", x)]) ∧ Rep g x
  | .obj n, v => ∃ a r, v = .ref a ∧ z.As[n]? = some (a :: r)
  | .fn n, v => ∃ a, v = .ref a ∧ mg n = some (.ref a)
  | .scr ns, v => ∃ a, v = .ref a ∧ SqL K z.F a (ns.map V.int)
def Reps : List D → List V → Prop
  | [], [] => True
  | d :: ds, v :: vs => Rep d v ∧ Reps ds vs
  | [], _ :: _ => False
  | _ :: _, [] => False
end
end
section
variable {K : PySem.W.Frag} {mg : Str → Option Value} {z z' : Fz}
mutual
theorem Rep.le (h : z.le z') : ∀ {d : D} {v : V}, Rep K mg z d v → Rep K mg z' d v
  | .non, _, r => by simpa only [Rep] using r
  | .bl _, _, r => by simpa only [Rep] using r
  | .int _, _, r => by simpa only [Rep] using r
  | .str _, _, r => by simpa only [Rep] using r
  | .tup ds, v, r => by
    simp only [Rep] at r ⊢
    obtain ⟨a, xs, e, hs, hr⟩ := r
    exact ⟨a, xs, e, same_tup h.1 hs, Reps.le h hr⟩
  | .etp ds, v, r => by
    simp only [Rep] at r ⊢
    obtain ⟨a, o, xs, e, hs, hd, hr⟩ := r
    exact ⟨a, o, xs, e, h.1 _ _ hs, hd, Reps.le h hr⟩
  | .lst ds, v, r => by
    simp only [Rep] at r ⊢
    obtain ⟨a, xs, e, hs, hr⟩ := r
    exact ⟨a, xs, e, h.1 _ _ hs, Reps.le h hr⟩
  | .dct t ks vs, v, r => by
    simp only [Rep] at r ⊢
    obtain ⟨a, o, vx, e, hs, h1, h2⟩ := r
    exact ⟨a, o, vx, e, h.1 _ _ hs, Reps.le h h1, h2⟩
  | .ldc t ks vs, v, r => by
    simp only [Rep] at r ⊢
    obtain ⟨a, od, o, vx, e, hs, h1, h2⟩ := r
    exact ⟨a, od, o, vx, e, h.1 _ _ hs, Reps.le h h1, h2⟩
  | .row g, v, r => by
    simp only [Rep] at r ⊢
    obtain ⟨a, dx, C, x, e, hm, hs, hr⟩ := r
    exact ⟨a, dx, C, x, e, hm, h.1 _ _ hs, Rep.le h hr⟩
  | .obj n, v, r => by
    simp only [Rep] at r ⊢
    obtain ⟨a, r, e, hs⟩ := r
    exact ⟨a, r, e, h.at hs⟩
  | .fn n, _, r => by simpa only [Rep] using r
  | .scr ns, v, r => by
    simp only [Rep] at r ⊢
    obtain ⟨a, e, hs⟩ := r
    exact ⟨a, e, h.1.seq hs⟩
theorem Reps.le (h : z.le z') : ∀ {ds : List D} {vs : List V}, Reps K mg z ds vs → Reps K mg z' ds vs
  | [], [], _ => by simp only [Reps]
  | d :: ds, v :: vs, r => by
    simp only [Reps] at r ⊢
    exact ⟨Rep.le h r.1, Reps.le h r.2⟩
  | [], _ :: _, r => by simp only [Reps] at r
  | _ :: _, [], r => by simp only [Reps] at r
end
theorem Reps.nil : Reps K mg z [] [] := by simp only [Reps]
theorem Reps.cons {d : D} {v : V} {ds : List D} {vs : List V} (h : Rep K mg z d v) (r : Reps K mg z ds vs) : Reps K mg z (d :: ds) (v :: vs) := by
  simp only [Reps]
  exact ⟨h, r⟩
theorem Reps.uncons {d : D} {ds : List D} {vs : List V} (h : Reps K mg z (d :: ds) vs) : ∃ v vs', vs = v :: vs' ∧ Rep K mg z d v ∧ Reps K mg z ds vs' := by
  cases vs with
  | nil => simp only [Reps] at h
  | cons v vs =>
    simp only [Reps] at h
    exact ⟨v, vs, rfl, h.1, h.2⟩
theorem Reps.nil_of {vs : List V} (h : Reps K mg z [] vs) : vs = [] := by
  cases vs with
  | nil => rfl
  | cons v vs => simp only [Reps] at h
theorem Reps.len : ∀ {ds : List D} {vs : List V}, Reps K mg z ds vs → ds.length = vs.length
  | [], vs, h => by rw [h.nil_of]; rfl
  | d :: ds, vs, h => by
    obtain ⟨v, vs', rfl, _, r⟩ := h.uncons
    rw [List.length_cons, List.length_cons, Reps.len r]
theorem Reps.append : ∀ {ds es : List D} {vs ws : List V}, Reps K mg z ds vs → Reps K mg z es ws → Reps K mg z (ds ++ es) (vs ++ ws)
  | [], _, vs, _, h, k => by rw [h.nil_of]; exact k
  | d :: ds, es, vs, ws, h, k => by
    obtain ⟨v, vs', rfl, a, r⟩ := h.uncons
    exact .cons a (Reps.append r k)
theorem Reps.get : ∀ {ds : List D} {vs : List V} {i : Nat} {d : D}, Reps K mg z ds vs → ds[i]? = some d → ∃ v, vs[i]? = some v ∧ Rep K mg z d v
  | [], _, i, d, _, e => by simp at e
  | d' :: ds, vs, 0, d, h, e => by
    obtain ⟨v, vs', rfl, a, _⟩ := h.uncons
    have : d' = d := by simpa using e
    subst this
    exact ⟨v, rfl, a⟩
  | d' :: ds, vs, i + 1, d, h, e => by
    obtain ⟨v, vs', rfl, _, r⟩ := h.uncons
    exact Reps.get (i := i) r (by simpa using e)
theorem Reps.get' : ∀ {ds : List D} {vs : List V} {i : Nat} {v : V}, Reps K mg z ds vs → vs[i]? = some v → ∃ d, ds[i]? = some d ∧ Rep K mg z d v := fun {ds vs i v} h e => by
  have hl := h.len
  obtain ⟨hi, _⟩ := List.getElem?_eq_some_iff.mp e
  have hi' : i < ds.length := by omega
  obtain ⟨w, e2, r⟩ := h.get (List.getElem?_eq_getElem hi')
  rw [e] at e2
  cases e2
  exact ⟨_, List.getElem?_eq_getElem hi', r⟩
theorem Reps.set : ∀ {ds : List D} {vs : List V} {d : D} {v : V} (i : Nat), Reps K mg z ds vs → Rep K mg z d v → Reps K mg z (ds.set i d) (vs.set i v)
  | [], vs, _, _, i, h, _ => by rw [h.nil_of]; exact .nil
  | _ :: ds, vs, d, v, 0, h, k => by
    obtain ⟨w, vs', rfl, _, r⟩ := h.uncons
    exact .cons k r
  | _ :: ds, vs, d, v, i + 1, h, k => by
    obtain ⟨w, vs', rfl, a, r⟩ := h.uncons
    exact .cons a (Reps.set i r k)
theorem Reps.take : ∀ {ds : List D} {vs : List V} (n : Nat), Reps K mg z ds vs → Reps K mg z (ds.take n) (vs.take n)
  | _, _, 0, _ => .nil
  | [], vs, n + 1, h => by rw [h.nil_of]; exact .nil
  | d :: ds, vs, n + 1, h => by
    obtain ⟨w, vs', rfl, a, r⟩ := h.uncons
    exact .cons a (Reps.take n r)
theorem Reps.drop : ∀ {ds : List D} {vs : List V} (n : Nat), Reps K mg z ds vs → Reps K mg z (ds.drop n) (vs.drop n)
  | _, _, 0, h => h
  | [], vs, n + 1, h => by rw [h.nil_of]; exact .nil
  | d :: ds, vs, n + 1, h => by
    obtain ⟨w, vs', rfl, a, r⟩ := h.uncons
    exact Reps.drop n r
theorem Reps.ints : ∀ {ns : List Int} {vs : List V}, Reps K mg z (ns.map D.int) vs → vs = ns.map V.int
  | [], vs, h => h.nil_of
  | n :: ns, vs, h => by
    obtain ⟨w, vs', rfl, a, r⟩ := h.uncons
    simp only [Rep] at a
    rw [a, Reps.ints r]
    rfl
theorem Reps.of_ints : ∀ {ns : List Int}, Reps K mg z (ns.map D.int) (ns.map V.int)
  | [] => .nil
  | n :: ns => .cons (by simp only [Rep]) Reps.of_ints
end
/-- who owns an address: a slot, a thing of the store -/
abbrev Own := Addr → Option (Sum Nat Nat)
/-- a name that holds an error -/
def ExcSl (z : Fz) (v : Option V) (a : Addr) (d : Option Addr) (x : Exn) : Prop := v = some (.ref a) ∧ ∀ l w, x.args = [.int l, .int w] → ∃ dd fs, d = some dd ∧ z.F dd = some (.xd fs) ∧ fs.lookup ("line" : Str) = some (.int l) ∧ fs.lookup ("word" : Str) = some (.int w)
theorem ExcSl.le {z z' : Fz} {v : Option V} {a : Addr} {d : Option Addr} {x : Exn} (h : z.le z') (q : ExcSl z v a d x) : ExcSl z' v a d x :=
  ⟨q.1, fun l w e => let ⟨dd, fs, h1, h2, h3⟩ := q.2 l w e; ⟨dd, fs, h1, h.1 _ _ h2, h3⟩⟩
section
variable (K : PySem.W.Frag) (mg : Str → Option Value)
/-- an object holds this content -/
def COk (z : Fz) : Cont → HO → Prop
  | .lst ds, o => ∃ xs, o = .lst xs ∧ Reps K mg z ds xs
  | .dct t ks vs, o => ∃ vx, Reps K mg z vs vx ∧ DKeys t ks vx o
  | .ldc t ks vs, o => ∃ od u vx, o = .frz od u ∧ Reps K mg z vs vx ∧ DKeys t ks vx u
def SlotOk (B : Hp) (z : Fz) (ow : Own) (H : Hp) (i : Nat) (v : Option V) : Slot → Prop
  | .non => True
  | .exc a d x => ExcSl z v a d x
  | .sh d => ∃ x, v = some x ∧ Rep K mg z d x
  | .own c => ∃ a o, v = some (.ref a) ∧ H a = some o ∧ COk K mg z c o ∧ ow a = some (.inl i)
def ObOk (z : Fz) (ow : Own) (H : Hp) (n : Nat) (fp : List Addr) : Ob → Prop
  | .lst ds => ∃ a xs, fp = [a] ∧ H a = some (.lst xs) ∧ Reps K mg z ds xs ∧ ow a = some (.inr n)
  | .ins c fs => ∃ a dx C vs, fp = [a] ∧ mg c = some (.ref C) ∧ H a = some (.ins C dx ((fs.map (·.1)).zip vs)) ∧ Reps K mg z (fs.map (·.2)) vs ∧ ow a = some (.inr n)
  | .tab x q => ∃ P ps, fp = [P] ∧ P = (He.cT K (x, none)).2 ∧ H P = some (.tbl ps) ∧ TriplesOk ps.toList ∧ ow P = some (.inr n) ∧ ∀ (pos : Pos) (cv : Value), codeAmong pos ps.toList = some cv → ∃ c, cv = .ref c ∧ H c = some (LamX.CodeO c q) ∧ ow c = some (.inr n)
  | .gen s cs i => ∃ a c, fp = [a, c] ∧ a ≠ c ∧ H a = some (.lst [.int s, .ref c, .int i]) ∧ H c = some (.lst (cs.map V.int)) ∧ ow a = some (.inr n) ∧ ow c = some (.inr n)
/-- the state of a def: B what must stay, F0 what was frozen at the entry -/
structure StOk (B F0 : Hp) (z : Fz) (ow : Own) (ρ : List Slot) (m : List Ob) (σ : St) (H : Hp) : Prop where
  fh : Same z.F H
  bh : Same B H
  f0 : Same F0 z.F
  new : ∀ a, z.F a ≠ none → F0 a ≠ none ∨ B a = none
  len : σ.length = ρ.length
  slot : ∀ i s, ρ[i]? = some s → SlotOk K mg B z ow H i (σ[i]?.join) s
  ol : z.As.length = m.length
  ob : ∀ n o, m[n]? = some o → ∃ fp, z.As[n]? = some fp ∧ ObOk K mg z ow H n fp o
  ow : ∀ a o, ow a = some o → z.F a = none ∧ B a = none ∧ H a ≠ none
end
section
variable {K : PySem.W.Frag} {mg : Str → Option Value} {z z' : Fz} {B B' F0 : Hp} {ow ow' : Own} {ρ : List Slot} {m : List Ob} {σ : St} {H H' : Hp}
theorem COk.le (h : z.le z') {c : Cont} {o : HO} (r : COk K mg z c o) : COk K mg z' c o := by
  cases c with
  | lst ds => obtain ⟨xs, e, r⟩ := r; exact ⟨xs, e, r.le h⟩
  | dct t ks vs => obtain ⟨vx, r1, r2⟩ := r; exact ⟨vx, r1.le h, r2⟩
  | ldc t ks vs => obtain ⟨od, u, vx, e, r1, r2⟩ := r; exact ⟨od, u, vx, e, r1.le h, r2⟩
theorem ObOk.mono {n : Nat} {fp : List Addr} {o : Ob} (hz : z.le z') (h : ∀ a, ow a = some (.inr n) → ow' a = some (.inr n)) (hH : ∀ a u, ow a = some (.inr n) → H a = some u → H' a = some u) (q : ObOk K mg z ow H n fp o) : ObOk K mg z' ow' H' n fp o := by
  cases o with
  | gen s cs i =>
    obtain ⟨a, c, e2, ne, h1, h2, w1, w2⟩ := q
    exact ⟨a, c, e2, ne, hH _ _ w1 h1, hH _ _ w2 h2, h _ w1, h _ w2⟩
  | lst ds =>
    obtain ⟨a, xs, e, h1, r, w⟩ := q
    exact ⟨a, xs, e, hH _ _ w h1, r.le hz, h _ w⟩
  | ins c fs =>
    obtain ⟨a, dx, C, vs, e, hC, h1, r, w⟩ := q
    exact ⟨a, dx, C, vs, e, hC, hH _ _ w h1, r.le hz, h _ w⟩
  | tab x q0 =>
    obtain ⟨P, ps, e, eP, h1, ht, w, hc⟩ := q
    refine ⟨P, ps, e, eP, hH _ _ w h1, ht, h _ w, fun pos cv hcv => ?_⟩
    obtain ⟨c, e1, e2, w2⟩ := hc pos cv hcv
    exact ⟨c, e1, hH _ _ w2 e2, h _ w2⟩
/-- the heap may change where nothing is owned, frozen or kept -/
theorem StOk.heap (S : StOk K mg B F0 z ow ρ m σ H) (hf : Same z.F H') (hb : Same B H') (ho : ∀ a o, ow a ≠ none → H a = some o → H' a = some o) : StOk K mg B F0 z ow ρ m σ H' where
  fh := hf
  bh := hb
  f0 := S.f0
  new := S.new
  len := S.len
  slot := fun i s e => by
    have q := S.slot i s e
    cases s with
    | non => trivial
    | exc a d x => exact q
    | sh d => exact q
    | own c =>
      obtain ⟨a, o, e1, e2, c1, w⟩ := q
      exact ⟨a, o, e1, ho a o (by rw [w]; simp) e2, c1, w⟩
  ol := S.ol
  ob := fun n o e => by
    obtain ⟨fp, e1, q⟩ := S.ob n o e
    exact ⟨fp, e1, q.mono (Fz.le.refl _) (fun _ w => w) fun a u w h => ho a u (by rw [w]; simp) h⟩
  ow := fun a o e => by
    obtain ⟨h1, h2, h3⟩ := S.ow a o e
    refine ⟨h1, h2, fun q => ?_⟩
    cases r : H a with
    | none => exact h3 r
    | some u => rw [ho a u (by rw [e]; simp) r] at q; cases q
theorem StOk.same (S : StOk K mg B F0 z ow ρ m σ H) (h : Same H H') : StOk K mg B F0 z ow ρ m σ H' := S.heap (S.fh.trans h) (S.bh.trans h) fun a o _ e => h a o e
theorem StOk.new_none (S : StOk K mg B F0 z ow ρ m σ H) {p : Addr} (h : H p = none) : z.F p = none ∧ B p = none ∧ F0 p = none ∧ ow p = none :=
  ⟨S.fh.free h, S.bh.free h, S.f0.free (S.fh.free h), by
    cases q : ow p with
    | none => rfl
    | some o => exact absurd h (S.ow p o q).2.2⟩
/-- a new object that is to be frozen -/
theorem StOk.alloc (S : StOk K mg B F0 z ow ρ m σ H) {p : Addr} (h : H p = none) (o : HO) : StOk K mg B F0 z ow ρ m σ (upd H p o) := S.same (same_upd h)
theorem Fz.le_upd {p : Addr} {o : HO} (h : z.F p = none) : z.le ⟨upd z.F p o, z.As⟩ := ⟨same_upd h, [], (List.append_nil _).symm⟩
theorem SlotOk.le (h : z.le z') {i : Nat} {v : Option V} {s : Slot} (q : SlotOk K mg B z ow H i v s) : SlotOk K mg B' z' ow H i v s := by
  cases s with
  | non => trivial
  | exc a d x => exact ExcSl.le h q
  | sh d => obtain ⟨x, e, r⟩ := q; exact ⟨x, e, r.le h⟩
  | own c => obtain ⟨a, o, e1, e2, c1, w⟩ := q; exact ⟨a, o, e1, e2, c1.le h, w⟩
/-- a thing that nobody owns is frozen -/
theorem StOk.freeze (S : StOk K mg B F0 z ow ρ m σ H) {p : Addr} {o : HO} (h : H p = some o) (hf : z.F p = none) (hB : B p = none) (hw : ow p = none) : StOk K mg B F0 ⟨upd z.F p o, z.As⟩ ow ρ m σ H where
  fh := fun b x e => by
    by_cases hb : b = p
    · subst hb
      rw [show (Fz.F ⟨upd z.F b o, z.As⟩) = upd z.F b o from rfl, upd_same] at e
      cases e
      exact h
    · rw [show (Fz.F ⟨upd z.F p o, z.As⟩) = upd z.F p o from rfl, upd_ne hb] at e
      exact S.fh b x e
  bh := S.bh
  f0 := S.f0.trans (same_upd hf)
  new := fun a e => by
    by_cases hb : a = p
    · subst hb; exact .inr hB
    · rw [show (Fz.F ⟨upd z.F p o, z.As⟩) = upd z.F p o from rfl, upd_ne hb] at e
      exact S.new a e
  len := S.len
  slot := fun i s e => (S.slot i s e).le (Fz.le_upd hf)
  ol := S.ol
  ob := fun n o e => by
    obtain ⟨fp, e1, q⟩ := S.ob n o e
    exact ⟨fp, e1, q.mono (Fz.le_upd hf) (fun _ w => w) fun _ _ _ h => h⟩
  ow := fun a u e => by
    have q := S.ow a u e
    refine ⟨?_, q.2⟩
    show upd z.F p o a = none
    rw [upd_ne (fun z => by subst z; rw [hw] at e; cases e)]
    exact q.1
/-- what must stay may be less -/
theorem StOk.weak (S : StOk K mg B' F0 z ow ρ m σ H) (h : Same B B') : StOk K mg B F0 z ow ρ m σ H where
  fh := S.fh
  bh := h.trans S.bh
  f0 := S.f0
  new := fun a e => (S.new a e).imp id fun q => h.free q
  len := S.len
  slot := fun i s e => (S.slot i s e).le (Fz.le.refl z)
  ol := S.ol
  ob := S.ob
  ow := fun a o e => let q := S.ow a o e; ⟨q.1, h.free q.2.1, q.2.2⟩
/-- a new object is to stay -/
theorem StOk.keep (S : StOk K mg B F0 z ow ρ m σ H) {p : Addr} (h : H p = none) (o : HO) : StOk K mg (upd B p o) F0 z ow ρ m σ (upd H p o) := by
  obtain ⟨hf, hb, h0, hw⟩ := S.new_none h
  have S' := S.alloc h o
  refine ⟨S'.fh, fun b x e => ?_, S.f0, fun a e => ?_, S.len, fun i s e => (S'.slot i s e).le (Fz.le.refl z), S.ol, S'.ob, fun a u e => ?_⟩
  · by_cases hbp : b = p
    · subst hbp; rw [upd_same] at e ⊢; exact e
    · rw [upd_ne hbp] at e ⊢; exact S.bh b x e
  · have : a ≠ p := fun q => e (by rw [q]; exact hf)
    rw [upd_ne this]
    exact S.new a e
  · have : a ≠ p := fun q => by rw [q, hw] at e; cases e
    obtain ⟨q1, q2, q3⟩ := S'.ow a u e
    exact ⟨q1, by rw [upd_ne this]; exact q2, q3⟩
/-- a slot that an owner had is forgotten -/
def Own.drop (ow : Own) (i : Nat) : Own := fun a => if ow a = some (.inl i) then none else ow a
theorem Own.drop_some {i : Nat} {a : Addr} {o : Sum Nat Nat} (h : ow.drop i a = some o) : ow a = some o ∧ o ≠ .inl i := by
  unfold Own.drop at h
  split at h
  · cases h
  · rename_i h1
    exact ⟨h, fun e => h1 (by rw [h, e])⟩
theorem Own.drop_ne {i : Nat} {a : Addr} {o : Sum Nat Nat} (h : ow a = some o) (hn : o ≠ .inl i) : ow.drop i a = some o := by
  unfold Own.drop
  rw [if_neg (fun e => hn (by rw [h] at e; exact Option.some.inj e))]
  exact h
theorem join_set {σ : St} {i : Nat} {v : Option V} (h : i < σ.length) : ((σ.set i v)[i]?).join = v := by
  rw [List.getElem?_set_self h]; rfl
theorem join_set_ne {σ : St} {i j : Nat} {v : Option V} (h : i ≠ j) : ((σ.set i v)[j]?).join = (σ[j]?).join := by
  rw [List.getElem?_set_ne h]
/-- a slot takes a value -/
theorem StOk.setSh (S : StOk K mg B F0 z ow ρ m σ H) {i : Nat} {d : D} {v : V} (r : Rep K mg z d v) : StOk K mg B F0 z (ow.drop i) (ρ.set i (.sh d)) m (σ.set i (some v)) H where
  fh := S.fh
  bh := S.bh
  f0 := S.f0
  new := S.new
  len := by simpa using S.len
  slot := fun j s e => by
    by_cases hj : i = j
    · subst hj
      obtain ⟨hl, _⟩ := List.getElem?_eq_some_iff.mp e
      have hl' : i < ρ.length := by simpa using hl
      rw [List.getElem?_set_self hl'] at e
      cases e
      exact ⟨v, join_set (by rw [S.len]; exact hl'), r⟩
    · rw [List.getElem?_set_ne hj] at e
      rw [join_set_ne hj]
      have q := S.slot j s e
      cases s with
      | non => trivial
      | exc a d x => exact q
      | sh d => exact q
      | own c =>
        obtain ⟨a, o, e1, e2, c1, w⟩ := q
        exact ⟨a, o, e1, e2, c1, Own.drop_ne w (fun z => hj (Sum.inl.inj z).symm)⟩
  ol := S.ol
  ob := fun n o e => by
    obtain ⟨fp, e1, q⟩ := S.ob n o e
    exact ⟨fp, e1, q.mono (Fz.le.refl _) (fun a h => Own.drop_ne h (fun z => by cases z)) fun _ _ _ h => h⟩
  ow := fun a o e => S.ow a o (Own.drop_some e).1
/-- a slot is forgotten -/
theorem StOk.setNon (S : StOk K mg B F0 z ow ρ m σ H) {i : Nat} (v : Option V) : StOk K mg B F0 z (ow.drop i) (ρ.set i .non) m (σ.set i v) H where
  fh := S.fh
  bh := S.bh
  f0 := S.f0
  new := S.new
  len := by simpa using S.len
  slot := fun j s e => by
    by_cases hj : i = j
    · subst hj
      obtain ⟨hl, _⟩ := List.getElem?_eq_some_iff.mp e
      have hl' : i < ρ.length := by simpa using hl
      rw [List.getElem?_set_self hl'] at e
      cases e
      trivial
    · rw [List.getElem?_set_ne hj] at e
      rw [join_set_ne hj]
      have q := S.slot j s e
      cases s with
      | non => trivial
      | exc a d x => exact q
      | sh d => exact q
      | own c =>
        obtain ⟨a, o, e1, e2, c1, w⟩ := q
        exact ⟨a, o, e1, e2, c1, Own.drop_ne w (fun z => hj (Sum.inl.inj z).symm)⟩
  ol := S.ol
  ob := fun n o e => by
    obtain ⟨fp, e1, q⟩ := S.ob n o e
    exact ⟨fp, e1, q.mono (Fz.le.refl _) (fun a h => Own.drop_ne h (fun z => by cases z)) fun _ _ _ h => h⟩
  ow := fun a o e => S.ow a o (Own.drop_some e).1
/-- a slot takes an own thing -/
def Own.put (ow : Own) (i : Nat) (p : Addr) : Own := fun a => if a = p then some (.inl i) else ow.drop i a
theorem StOk.setOwn (S : StOk K mg B F0 z ow ρ m σ H) {i : Nat} {c : Cont} {p : Addr} {o : HO} (hp : H p = some o) (hf : z.F p = none) (hB : B p = none) (hw : ow p = none) (r : COk K mg z c o) :
    StOk K mg B F0 z (ow.put i p) (ρ.set i (.own c)) m (σ.set i (some (.ref p))) H where
  fh := S.fh
  bh := S.bh
  f0 := S.f0
  new := S.new
  len := by simpa using S.len
  slot := fun j s e => by
    by_cases hj : i = j
    · subst hj
      obtain ⟨hl, _⟩ := List.getElem?_eq_some_iff.mp e
      have hl' : i < ρ.length := by simpa using hl
      rw [List.getElem?_set_self hl'] at e
      cases e
      exact ⟨p, o, join_set (by rw [S.len]; exact hl'), hp, r, if_pos rfl⟩
    · rw [List.getElem?_set_ne hj] at e
      rw [join_set_ne hj]
      have q := S.slot j s e
      cases s with
      | non => trivial
      | exc a d x => exact q
      | sh d => exact q
      | own c =>
        obtain ⟨a, o, e1, e2, c1, w⟩ := q
        refine ⟨a, o, e1, e2, c1, ?_⟩
        have : a ≠ p := fun z => by rw [z, hw] at w; cases w
        show (if a = p then some (.inl i) else ow.drop i a) = _
        rw [if_neg this]
        exact Own.drop_ne w (fun z => hj (Sum.inl.inj z).symm)
  ol := S.ol
  ob := fun n o e => by
    obtain ⟨fp, e1, q⟩ := S.ob n o e
    refine ⟨fp, e1, q.mono (Fz.le.refl _) (fun a h => ?_) fun _ _ _ h => h⟩
    have : a ≠ p := fun z => by rw [z, hw] at h; cases h
    show (if a = p then some (.inl i) else ow.drop i a) = _
    rw [if_neg this]
    exact Own.drop_ne h (fun z => by cases z)
  ow := fun a u e => by
    have e : (if a = p then some (.inl i) else ow.drop i a) = some u := e
    split at e
    · rename_i h1
      subst h1
      exact ⟨hf, hB, by rw [hp]; simp⟩
    · exact S.ow a u (Own.drop_some e).1
/-- the own thing of a slot changes -/
theorem StOk.change (S : StOk K mg B F0 z ow ρ m σ H) {i : Nat} {c c' : Cont} (hc : ρ[i]? = some (.own c)) {p : Addr} {o : HO} (hp : σ[i]? = some (some (V.ref p))) (r : COk K mg z c' o) :
    StOk K mg B F0 z ow (ρ.set i (.own c')) m σ (upd H p o) := by
  obtain ⟨a, o0, e1, e2, c1, w⟩ := S.slot i _ hc
  rw [hp] at e1
  cases e1
  obtain ⟨hf, hB, _⟩ := S.ow _ _ w
  have other : ∀ b u, b ≠ p → H b = some u → upd H p o b = some u := fun b u hb e => by rw [upd_ne hb]; exact e
  refine ⟨fun b x e => other b x (fun z => by subst z; rw [hf] at e; cases e) (S.fh b x e), fun b x e => other b x (fun z => by subst z; rw [hB] at e; cases e) (S.bh b x e), S.f0, S.new, by simpa using S.len, fun j s e => ?_, S.ol, fun n u e => ?_, fun b u e => ?_⟩
  · by_cases hj : i = j
    · subst hj
      obtain ⟨hl, _⟩ := List.getElem?_eq_some_iff.mp hc
      rw [List.getElem?_set_self hl] at e
      cases e
      exact ⟨p, o, by rw [hp]; rfl, upd_same, r, w⟩
    · rw [List.getElem?_set_ne hj] at e
      have q := S.slot j s e
      cases s with
      | non => trivial
      | exc a d x => exact q
      | sh d => exact q
      | own c =>
        obtain ⟨b, u, e1, e2, c1, w'⟩ := q
        exact ⟨b, u, e1, other b u (fun z => by subst z; rw [w] at w'; exact hj (Sum.inl.inj (Option.some.inj w'))) e2, c1, w'⟩
  · obtain ⟨fp, e1, q⟩ := S.ob n u e
    exact ⟨fp, e1, q.mono (Fz.le.refl _) (fun _ w => w) fun b x w1 h1 => other b x (fun z => by subst z; rw [w] at w1; cases w1) h1⟩
  · obtain ⟨q1, q2, q3⟩ := S.ow b u e
    refine ⟨q1, q2, ?_⟩
    by_cases hb : b = p
    · subst hb; rw [upd_same]; simp
    · rw [upd_ne hb]; exact q3
/-- the own thing of a slot is frozen -/
theorem StOk.shut (S : StOk K mg B F0 z ow ρ m σ H) {i : Nat} {c : Cont} (hc : ρ[i]? = some (.own c)) : ∃ p o, σ[i]? = some (some (.ref p)) ∧ H p = some o ∧ COk K mg z c o ∧ z.F p = none ∧
    StOk K mg B F0 ⟨upd z.F p o, z.As⟩ (ow.drop i) (ρ.set i .non) m σ H := by
  obtain ⟨a, o, e1, e2, c1, w⟩ := S.slot i _ hc
  obtain ⟨hf, hB, _⟩ := S.ow _ _ w
  obtain ⟨hl, _⟩ := List.getElem?_eq_some_iff.mp hc
  have hσ : i < σ.length := by rw [S.len]; exact hl
  have e3 : σ[i]? = some (some (.ref a)) := by
    rw [List.getElem?_eq_getElem hσ] at e1 ⊢
    exact congrArg some e1
  have S2 := S.setNon (i := i) (some (.ref a))
  have es : σ.set i (some (.ref a)) = σ := by
    apply List.ext_getElem?
    intro j
    by_cases hj : i = j
    · subst hj; rw [List.getElem?_set_self hσ, e3]
    · rw [List.getElem?_set_ne hj]
  rw [es] at S2
  refine ⟨a, o, e3, e2, c1, hf, S2.freeze e2 hf hB ?_⟩
  unfold Own.drop
  rw [if_pos w]
end
end PD
namespace PD
open PySem PySem.Spec PyProof.Rows L2
/-! ### what a piece computes -/
abbrev Den (α : Type) := List Slot → List Ob → Res (α × List Ob)
abbrev Post (α β : Type) := Hp → Hp → Fz → List Slot → St → α → β → Prop
/-- how an error lies -/
def ExcAt (mg : Str → Option Value) (x : Exn) (cv : Value) (dd : Option Addr) (H : Hp) : Prop :=
  ∃ C, mg x.cls = some (.ref C) ∧ cv = .ref C ∧ (x.args = [] → dd = none) ∧
    ∀ l w, x.args = [.int l, .int w] → ∃ d fs, dd = some d ∧ H d = some (.xd fs) ∧ fs.lookup ("line" : Str) = some (.int l) ∧ fs.lookup ("word" : Str) = some (.int w)
section
variable (K : PySem.W.Frag) (mg : Str → Option Value) (RW : WX)
def Rem {α β : Type} (r : Res (α × List Ob)) (B F0 : Hp) (z : Fz) (ρ : List Slot) (σ : St) (P : Post α β) (Q : β → Hp → Prop) : Prop :=
  match r with
  | .ok (d, m') => ∀ B' z' ow' v H', Same B B' → z.le z' → StOk K mg B' F0 z' ow' ρ m' σ H' → P B B' z' ρ σ d v → Q v H'
  | .err x m' => ∀ z' ow' cv dd H', z.le z' → StOk K mg B F0 z' ow' ρ m' σ H' → ExcAt mg x cv dd z'.F → RW cv dd σ H'
  | .bad => False
def tX {α β : Type} (den : Den α) (P : Post α β) : St → Hp → (β → Hp → Prop) → Prop := fun σ H Q =>
  ∃ B F0 z ow ρ m, StOk K mg B F0 z ow ρ m σ H ∧ Rem K mg RW (den ρ m) B F0 z ρ σ P Q
end
def PMono {α β : Type} (P : Post α β) : Prop := ∀ B B1 B' z ρ σ d v, Same B B1 → P B1 B' z ρ σ d v → P B B' z ρ σ d v
section
variable {K : PySem.W.Frag} {mg : Str → Option Value} {RW : WX} {z z' z1 z2 : Fz} {B B' B1 B2 F0 : Hp} {ow ow' ow1 : Own} {ρ : List Slot} {m m1 : List Ob} {σ : St} {H H' H1 : Hp}
theorem Rem.mono {α β : Type} {r : Res (α × List Ob)} {P : Post α β} {Q : β → Hp → Prop} (hP : PMono P) (hB : Same B B1) (hz : z.le z1) (h : Rem K mg RW r B F0 z ρ σ P Q) : Rem K mg RW r B1 F0 z1 ρ σ P Q := by
  cases r with
  | ok a =>
    obtain ⟨d, m'⟩ := a
    intro B' z' ow' v H' b1 z1 S p
    exact h B' z' ow' v H' (hB.trans b1) (hz.trans z1) S (hP _ _ _ _ _ _ _ _ hB p)
  | err x m' =>
    intro z' ow' cv dd H' z1 S e
    exact h z' ow' cv dd H' (hz.trans z1) (S.weak hB) e
  | bad => exact h
theorem Rem.step {α β γ δ : Type} {r : Res (α × List Ob)} {f : α × List Ob → Res (γ × List Ob)} {P1 : Post α β} {P : Post γ δ} {Q1 : β → Hp → Prop} {Q : δ → Hp → Prop} (hP : PMono P) (h : Rem K mg RW (r.bind f) B F0 z ρ σ P Q)
    (k : ∀ a m1 B1 z1 ow1 v H1, Same B B1 → z.le z1 → StOk K mg B1 F0 z1 ow1 ρ m1 σ H1 → P1 B B1 z1 ρ σ a v → Rem K mg RW (f (a, m1)) B1 F0 z1 ρ σ P Q → Q1 v H1) : Rem K mg RW r B F0 z ρ σ P1 Q1 := by
  cases r with
  | ok a =>
    obtain ⟨d, m'⟩ := a
    intro B1 z1 ow1 v H1 hB hz S p
    exact k d m' B1 z1 ow1 v H1 hB hz S p (Rem.mono hP hB hz h)
  | err x m' => exact h
  | bad => exact h
/-- the last step: no more is asked -/
theorem Rem.done {α β : Type} {d : α} {P : Post α β} {Q : β → Hp → Prop} {v : β} (h : Rem K mg RW (.ok (d, m)) B F0 z ρ σ P Q) (hB : Same B B1) (hz : z.le z1) (S : StOk K mg B1 F0 z1 ow1 ρ m σ H1) (p : P B B1 z1 ρ σ d v) : Q v H1 :=
  h B1 z1 ow1 v H1 hB hz S p
/-- the last step where nothing was made -/
theorem Rem.here {α β : Type} {d : α} {P : Post α β} {Q : β → Hp → Prop} {v : β} (h : Rem K mg RW (.ok (d, m)) B F0 z ρ σ P Q) (S : StOk K mg B F0 z ow1 ρ m σ H1) (p : P B B z ρ σ d v) : Q v H1 :=
  h B z ow1 v H1 (Same.refl _) (Fz.le.refl _) S p
theorem tX.imp {α β γ δ : Type} {den : Den α} {den' : Den γ} {P : Post α β} {P' : Post γ δ} {Q : β → Hp → Prop} {Q' : δ → Hp → Prop} (h : tX K mg RW den P σ H Q)
    (k : ∀ B F0 z ow ρ m, StOk K mg B F0 z ow ρ m σ H → Rem K mg RW (den ρ m) B F0 z ρ σ P Q → Rem K mg RW (den' ρ m) B F0 z ρ σ P' Q') : tX K mg RW den' P' σ H Q' := by
  obtain ⟨B, F0, z, ow, ρ, m, S, h⟩ := h
  exact ⟨B, F0, z, ow, ρ, m, S, k _ _ _ _ _ _ S h⟩
end
theorem PE.imp {X : Cx} {e : Expr} {t t' : TE} (h : PE X e t) (k : ∀ σ H Q, t' σ H Q → t σ H Q) : PE X e t' := ⟨fun pins s σ H Q I q => h.run pins s σ H Q I (k σ H Q q)⟩
theorem PT.imp {X : Cx} {e : Expr} {t t' : TT} (h : PT X e t) (k : ∀ σ H Q, t' σ H Q → t σ H Q) : PT X e t' := ⟨fun pins s σ H Q I q => h.run pins s σ H Q I (k σ H Q q)⟩
theorem PA.imp {X : Cx} {e : List Expr} {t t' : TA} (h : PA X e t) (k : ∀ σ H Q, t' σ H Q → t σ H Q) : PA X e t' := ⟨fun pos pins s σ H Q I q => h.run pos pins s σ H Q I (k σ H Q q)⟩
theorem PS.imp {X : Cx} {e : Stmt} {t t' : TS} (h : PS X e t) (k : ∀ D σ H, t' D σ H → t D σ H) : PS X e t' := ⟨fun pins s σ H D I q => h.run pins s σ H D I (k D σ H q)⟩
theorem PSs.imp {X : Cx} {e : List Stmt} {t t' : TS} (h : PSs X e t) (k : ∀ D σ H, t' D σ H → t D σ H) : PSs X e t' := ⟨fun pins s σ H D I q => h.run pins s σ H D I (k D σ H q)⟩
/-! ### the kinds of values: for good; to look at; new -/
section
variable (K : PySem.W.Frag) (mg : Str → Option Value)
def pVal : Post D V := fun _ _ z _ _ d v => Rep K mg z d v
def Peek (B : Hp) (z : Fz) (ρ : List Slot) (σ : St) (c : Cont) (v : V) : Prop :=
  ∃ a, v = .ref a ∧ ((∃ o, B a = some o ∧ COk K mg z c o) ∨ ∃ i : Nat, ρ[i]? = some (Slot.own c) ∧ σ[i]? = some (some (V.ref a)))
def pLook : Post D V := fun _ B' z ρ σ d v => Rep K mg z d v ∨ ∃ c, d = c.d ∧ Peek K mg B' z ρ σ c v
def pNew : Post Cont V := fun B B' z _ _ c v => ∃ p o, v = .ref p ∧ B p = none ∧ B' p = some o ∧ z.F p = none ∧ COk K mg z c o
def pTest : Post Bool Bool := fun _ _ _ _ _ d v => v = d
def pVals : Post (List D) (List V) := fun _ _ z _ _ ds vs => Reps K mg z ds vs
def pLooks : Post (List D) (List V) := fun _ B' z ρ σ ds vs => ds.length = vs.length ∧ ∀ (i : Nat) d v, ds[i]? = some d → vs[i]? = some v → pLook K mg B' B' z ρ σ d v
end
section
variable {K : PySem.W.Frag} {mg : Str → Option Value} {RW : WX} {z z' z1 z2 : Fz} {B B' B1 B2 F0 : Hp} {ow ow' ow1 : Own} {ρ : List Slot} {m m1 : List Ob} {σ : St} {H H' H1 : Hp}
theorem pVal.pm : PMono (pVal K mg) := fun _ _ _ _ _ _ _ _ _ h => h
theorem pLook.pm : PMono (pLook K mg) := fun _ _ _ _ _ _ _ _ _ h => h
theorem pTest.pm : PMono pTest := fun _ _ _ _ _ _ _ _ _ h => h
theorem pVals.pm : PMono (pVals K mg) := fun _ _ _ _ _ _ _ _ _ h => h
theorem pLooks.pm : PMono (pLooks K mg) := fun _ _ _ _ _ _ _ _ _ h => h
theorem pNew.pm : PMono (pNew K mg) := fun _ _ _ _ _ _ _ _ h ⟨p, o, e, h1, h2⟩ => ⟨p, o, e, h.free h1, h2⟩
theorem Peek.mono {c : Cont} {v : V} (hB : Same B B1) (hz : z.le z1) (h : Peek K mg B z ρ σ c v) : Peek K mg B1 z1 ρ σ c v := by
  obtain ⟨a, e, h⟩ := h
  refine ⟨a, e, ?_⟩
  rcases h with ⟨o, h1, h2⟩ | h
  · exact .inl ⟨o, hB _ _ h1, h2.le hz⟩
  · exact .inr h
theorem look_mono {d : D} {v : V} (hB : Same B1 B2) (hz : z1.le z2) (h : pLook K mg B B1 z1 ρ σ d v) : pLook K mg B' B2 z2 ρ σ d v :=
  h.imp (fun r => r.le hz) fun ⟨c, e, p⟩ => ⟨c, e, p.mono hB hz⟩
theorem Peek.get {c : Cont} {v : V} (S : StOk K mg B F0 z ow ρ m σ H) (h : Peek K mg B z ρ σ c v) : ∃ a o, v = .ref a ∧ H a = some o ∧ COk K mg z c o := by
  obtain ⟨a, e, h⟩ := h
  rcases h with ⟨o, h1, h2⟩ | ⟨i, h1, h2⟩
  · exact ⟨a, o, e, S.bh _ _ h1, h2⟩
  · obtain ⟨b, o, e1, e2, c1, _⟩ := S.slot i _ h1
    rw [h2] at e1
    cases e1
    exact ⟨a, o, e, e2, c1⟩
theorem rep_cont {c : Cont} {v : V} (S : StOk K mg B F0 z ow ρ m σ H) (h : Rep K mg z c.d v) : ∃ a o, v = .ref a ∧ H a = some o ∧ COk K mg z c o := by
  cases c with
  | lst ds =>
    simp only [Cont.d, Rep] at h
    obtain ⟨a, xs, e, h1, h2⟩ := h
    exact ⟨a, _, e, S.fh _ _ h1, xs, rfl, h2⟩
  | dct t ks vs =>
    simp only [Cont.d, Rep] at h
    obtain ⟨a, o, vx, e, h1, h2, h3⟩ := h
    exact ⟨a, o, e, S.fh _ _ h1, vx, h2, h3⟩
  | ldc t ks vs =>
    simp only [Cont.d, Rep] at h
    obtain ⟨a, od, o, vx, e, h1, h2, h3⟩ := h
    exact ⟨a, _, e, S.fh _ _ h1, od, o, vx, rfl, h2, h3⟩
theorem Cont.d_inj {c c' : Cont} (h : c.d = c'.d) : c = c' := by
  cases c <;> cases c' <;> simp only [Cont.d, D.lst.injEq, D.dct.injEq, D.ldc.injEq, reduceCtorEq] at h
  · rw [h]
  · obtain ⟨rfl, rfl, rfl⟩ := h; rfl
  · obtain ⟨rfl, rfl, rfl⟩ := h; rfl
/-- a look at what changes in place -/
theorem look_cont {c : Cont} {v : V} (S : StOk K mg B F0 z ow ρ m σ H) (h : pLook K mg B' B z ρ σ c.d v) : ∃ a o, v = .ref a ∧ H a = some o ∧ COk K mg z c o := by
  rcases h with h | ⟨c', e, h⟩
  · exact rep_cont S h
  · cases Cont.d_inj e
    exact h.get S
theorem look_list {ds : List D} {v : V} (S : StOk K mg B F0 z ow ρ m σ H) (h : pLook K mg B' B z ρ σ (.lst ds) v) : ∃ a xs, v = .ref a ∧ H a = some (.lst xs) ∧ Reps K mg z ds xs := by
  obtain ⟨a, o, e, h1, xs, rfl, h2⟩ := look_cont (c := .lst ds) S h
  exact ⟨a, xs, e, h1, h2⟩
theorem look_rep {d : D} {v : V} (h : pLook K mg B' B z ρ σ d v) (hn : ∀ c : Cont, d ≠ c.d) : Rep K mg z d v := by
  rcases h with h | ⟨c, e, _⟩
  · exact h
  · exact absurd e (hn c)
theorem look_int {i : Int} {v : V} (h : pLook K mg B' B z ρ σ (.int i) v) : v = .int i := by
  have := look_rep h (fun c => by cases c <;> simp [Cont.d])
  simpa only [Rep] using this
theorem look_bl {i : Bool} {v : V} (h : pLook K mg B' B z ρ σ (.bl i) v) : v = .bl i := by
  have := look_rep h (fun c => by cases c <;> simp [Cont.d])
  simpa only [Rep] using this
theorem look_non {v : V} (h : pLook K mg B' B z ρ σ .non v) : v = .non := by
  have := look_rep h (fun c => by cases c <;> simp [Cont.d])
  simpa only [Rep] using this
theorem look_str {i : Str} {v : V} (h : pLook K mg B' B z ρ σ (.str i) v) : v = .str i := by
  have := look_rep h (fun c => by cases c <;> simp [Cont.d])
  simpa only [Rep] using this
theorem look_tup {ds : List D} {v : V} (S : StOk K mg B F0 z ow ρ m σ H) (h : pLook K mg B' B z ρ σ (.tup ds) v) : ∃ a xs, v = .ref a ∧ SqT K H a xs ∧ Reps K mg z ds xs := by
  have := look_rep h (fun c => by cases c <;> simp [Cont.d])
  simp only [Rep] at this
  obtain ⟨a, xs, e, h1, h2⟩ := this
  exact ⟨a, xs, e, same_tup S.fh h1, h2⟩
theorem rep_int {i : Int} {v : V} : Rep K mg z (.int i) v ↔ v = .int i := by simp only [Rep]
theorem rep_bl {i : Bool} {v : V} : Rep K mg z (.bl i) v ↔ v = .bl i := by simp only [Rep]
theorem rep_non {v : V} : Rep K mg z .non v ↔ v = .non := by simp only [Rep]
theorem rep_str {i : Str} {v : V} : Rep K mg z (.str i) v ↔ v = .str i := by simp only [Rep]
theorem rep_of_cok {c : Cont} {p : Addr} {o : HO} (h : z.F p = some o) (r : COk K mg z c o) : Rep K mg z c.d (.ref p) := by
  cases c with
  | lst ds =>
    obtain ⟨xs, rfl, r⟩ := r
    simp only [Cont.d, Rep]
    exact ⟨p, xs, rfl, h, r⟩
  | dct t ks vs =>
    obtain ⟨vx, r1, r2⟩ := r
    simp only [Cont.d, Rep]
    exact ⟨p, o, vx, rfl, h, r1, r2⟩
  | ldc t ks vs =>
    obtain ⟨od, u, vx, rfl, r1, r2⟩ := r
    simp only [Cont.d, Rep]
    exact ⟨p, od, u, vx, rfl, h, r1, r2⟩
/-- who is kept is not owned -/
theorem StOk.noown (S : StOk K mg B F0 z ow ρ m σ H) {p : Addr} {o : HO} (h : B p = some o) : ow p = none := by
  cases q : ow p with
  | none => rfl
  | some u => rw [(S.ow p u q).2.1] at h; cases h
end
/-! ### from one kind to another -/
def dN {den : Type} : Unit := ()
def dN2V (den : Den Cont) : Den D := fun ρ m => (den ρ m).bind fun r => .ok (r.1.d, r.2)
section
variable {X : Cx} {RW : WX} {e : Expr}
theorem val_look {den : Den D} (h : PE X e (tX X.K X.mg RW den (pVal X.K X.mg))) : PE X e (tX X.K X.mg RW den (pLook X.K X.mg)) :=
  PE.imp h fun σ H Q q => tX.imp q fun B F0 z ow ρ m S r => by
    cases hd : den ρ m with
    | ok a =>
      obtain ⟨d, m'⟩ := a
      rw [hd] at r
      intro B' z' ow' v H' hB hz S' p
      exact r B' z' ow' v H' hB hz S' (.inl p)
    | err x m' => rw [hd] at r; exact r
    | bad => rw [hd] at r; exact r
theorem new_look {den : Den Cont} (h : PE X e (tX X.K X.mg RW den (pNew X.K X.mg))) : PE X e (tX X.K X.mg RW (dN2V den) (pLook X.K X.mg)) :=
  PE.imp h fun σ H Q q => tX.imp q fun B F0 z ow ρ m S r => by
    refine Rem.step pLook.pm r fun c m1 B1 z1 ow1 v H1 hB hz S1 p r1 => ?_
    obtain ⟨p, o, e, h1, h2, h3, h4⟩ := p
    exact r1.here S1 (.inr ⟨c, rfl, p, e, .inl ⟨o, h2, h4⟩⟩)
theorem new_val {den : Den Cont} (h : PE X e (tX X.K X.mg RW den (pNew X.K X.mg))) : PE X e (tX X.K X.mg RW (dN2V den) (pVal X.K X.mg)) :=
  PE.imp h fun σ H Q q => tX.imp q fun B F0 z ow ρ m S r => by
    cases hd : den ρ m with
    | ok a =>
      obtain ⟨c, m'⟩ := a
      unfold dN2V at r
      rw [hd] at r
      intro B' z' ow' v H' hB hz S' p
      obtain ⟨p, o, e, h1, h2, h3, h4⟩ := p
      have S2 := (S'.weak hB).freeze (S'.bh _ _ h2) h3 h1 (S'.noown h2)
      refine r B _ ow' v H' (Same.refl _) (hz.trans (Fz.le_upd h3)) S2 ?_
      subst e
      exact rep_of_cok (z := ⟨upd z'.F p o, z'.As⟩) (show upd z'.F p o p = some o from upd_same) (h4.le (Fz.le_upd h3))
    | err x m' => unfold dN2V at r; rw [hd] at r; exact r
    | bad => unfold dN2V at r; rw [hd] at r; exact r
end
/-! ### names, constants -/
def slotAt : List Slot → Nat → Slot
  | [], _ => .non
  | s :: _, 0 => s
  | _ :: r, n + 1 => slotAt r n
theorem slotAt_get : ∀ {ρ : List Slot} {i : Nat} {s : Slot}, slotAt ρ i = s → s ≠ .non → ρ[i]? = some s
  | [], _, _, h, n => absurd h.symm n
  | t :: _, 0, s, h, _ => by simpa [slotAt] using h
  | _ :: r, i + 1, s, h, n => by simpa using slotAt_get (ρ := r) (i := i) h n
/-- a name that holds data -/
def dV (i : Nat) : Den D := fun ρ m => match slotAt ρ i with
  | .sh d => .ok (d, m)
  | _ => .bad
/-- a name, looked at -/
def dL (i : Nat) : Den D := fun ρ m => match slotAt ρ i with
  | .sh d => .ok (d, m)
  | .own c => .ok (c.d, m)
  | _ => .bad
def dC (d : D) : Den D := fun _ m => .ok (d, m)
section
variable {X : Cx} {RW : WX} {e : Expr}
theorem pd_v {i : Nat} {x : Str} {pos : Pos} (h : PE X (.Name x pos) (tVar i)) : PE X (.Name x pos) (tX X.K X.mg RW (dV i) (pVal X.K X.mg)) :=
  PE.imp h fun σ H Q ⟨B, F0, z, ow, ρ, m, S, r⟩ => by
    unfold dV at r
    cases hs : slotAt ρ i with
    | sh d =>
      rw [hs] at r
      obtain ⟨v, e1, rp⟩ := S.slot i _ (slotAt_get hs (by simp))
      refine ⟨v, ?_, r.here S rp⟩
      cases q : σ[i]? with
      | none => rw [q] at e1; cases e1
      | some u => rw [q] at e1; exact congrArg some e1
    | non => rw [hs] at r; exact r.elim
    | exc a d x => rw [hs] at r; exact r.elim
    | own c => rw [hs] at r; exact r.elim
theorem pd_l {i : Nat} {x : Str} {pos : Pos} (h : PE X (.Name x pos) (tVar i)) : PE X (.Name x pos) (tX X.K X.mg RW (dL i) (pLook X.K X.mg)) :=
  PE.imp h fun σ H Q ⟨B, F0, z, ow, ρ, m, S, r⟩ => by
    unfold dL at r
    cases hs : slotAt ρ i with
    | sh d =>
      rw [hs] at r
      obtain ⟨v, e1, rp⟩ := S.slot i _ (slotAt_get hs (by simp))
      refine ⟨v, ?_, r.here S (.inl rp)⟩
      cases q : σ[i]? with
      | none => rw [q] at e1; cases e1
      | some u => rw [q] at e1; exact congrArg some e1
    | non => rw [hs] at r; exact r.elim
    | exc a d x => rw [hs] at r; exact r.elim
    | own c =>
      rw [hs] at r
      have hg := slotAt_get hs (by simp)
      obtain ⟨a, o, e1, e2, c1, w⟩ := S.slot i _ hg
      have e3 : σ[i]? = some (some (V.ref a)) := by
        cases q : σ[i]? with
        | none => rw [q] at e1; cases e1
        | some u => rw [q] at e1; exact congrArg some e1
      exact ⟨.ref a, e3, r.here S (.inr ⟨c, rfl, a, rfl, .inr ⟨i, hg, e3⟩⟩)⟩
theorem pd_c {d : D} {v : V} (h : PE X e (tC v)) (r : ∀ z, Rep X.K X.mg z d v) : PE X e (tX X.K X.mg RW (dC d) (pVal X.K X.mg)) :=
  PE.imp h fun σ H Q ⟨B, F0, z, ow, ρ, m, S, q⟩ => q.here S (r z)
theorem pd_int {i : Int} {j pos} : PE X (.Constant (.int i) j pos) (tX X.K X.mg RW (dC (.int i)) (pVal X.K X.mg)) := pd_c pe_int fun z => by simp only [Rep]
theorem pd_bl {b : Bool} {j pos} : PE X (.Constant (.bool b) j pos) (tX X.K X.mg RW (dC (.bl b)) (pVal X.K X.mg)) := pd_c pe_bl fun z => by simp only [Rep]
theorem pd_non {j pos} : PE X (.Constant .none j pos) (tX X.K X.mg RW (dC .non) (pVal X.K X.mg)) := pd_c pe_non fun z => by simp only [Rep]
theorem pd_str {x : Str} {j pos} : PE X (.Constant (.str x) j pos) (tX X.K X.mg RW (dC (.str x)) (pVal X.K X.mg)) := pd_c pe_str fun z => by simp only [Rep]
theorem pd_gint {x : Str} {i : Int} {pos : Pos} (hg : Gl X x) (hm : ∃ t, X.mg x = some (.int i t)) (hd : (x == ("__debug__" : Str)) = false := by decide) : PE X (.Name x pos) (tX X.K X.mg RW (dC (.int i)) (pVal X.K X.mg)) := by
  obtain ⟨t, hm⟩ := hm
  exact pd_c (pe_glob (v := .int i) hg hm ⟨t, rfl⟩ hd) fun z => by simp only [Rep]
end
/-! ### operators of two -/
def dBin (g : D → D → Res D) (da db : Den D) : Den D := fun ρ m => (da ρ m).bind fun x => (db ρ x.2).bind fun y => (g x.1 y.1).bind fun d => .ok (d, y.2)
def dBinN (g : D → D → Res Cont) (da db : Den D) : Den Cont := fun ρ m => (da ρ m).bind fun x => (db ρ x.2).bind fun y => (g x.1 y.1).bind fun d => .ok (d, y.2)
def asBool : D → Res Bool
  | .bl b => .ok b
  | _ => .bad
def dT (da : Den D) : Den Bool := fun ρ m => (da ρ m).bind fun x => (asBool x.1).bind fun b => .ok (b, x.2)
/-- what a rule for two operands does -/
def BinR (X : Cx) (r : R2) (g : D → D → Res D) : Prop := ∀ {RW : WX} {B F0 : Hp} {z : Fz} {ow : Own} {ρ : List Slot} {m : List Ob} {σ : St} {H : Hp} {x y : V} {dx dy : D} {Q : VK},
  StOk X.K X.mg B F0 z ow ρ m σ H → pLook X.K X.mg B B z ρ σ dx x → pLook X.K X.mg B B z ρ σ dy y → Rem X.K X.mg RW ((g dx dy).bind fun d => .ok (d, m)) B F0 z ρ σ (pVal X.K X.mg) Q → r x y H Q
def BinN (X : Cx) (r : R2) (g : D → D → Res Cont) : Prop := ∀ {RW : WX} {B F0 : Hp} {z : Fz} {ow : Own} {ρ : List Slot} {m : List Ob} {σ : St} {H : Hp} {x y : V} {dx dy : D} {Q : VK},
  StOk X.K X.mg B F0 z ow ρ m σ H → pLook X.K X.mg B B z ρ σ dx x → pLook X.K X.mg B B z ρ σ dy y → Rem X.K X.mg RW ((g dx dy).bind fun d => .ok (d, m)) B F0 z ρ σ (pNew X.K X.mg) Q → r x y H Q
section
variable {X : Cx} {RW : WX} {e a b : Expr} {da db : Den D} {r : R2}
theorem two_step {g : D → D → Res D} (hg : BinR X r g) (σ : St) (H : Hp) (Q : VK) (q : tX X.K X.mg RW (dBin g da db) (pVal X.K X.mg) σ H Q) :
    tOp r (tX X.K X.mg RW da (pLook X.K X.mg)) (tX X.K X.mg RW db (pLook X.K X.mg)) σ H Q := by
  refine tX.imp q fun B F0 z ow ρ m S h => Rem.step pVal.pm h fun dx m1 B1 z1 ow1 x H1 hB hz S1 px h1 => ?_
  refine ⟨B1, F0, z1, ow1, ρ, m1, S1, Rem.step pVal.pm h1 fun dy m2 B2 z2 ow2 y H2 hB2 hz2 S2 py h2 => ?_⟩
  exact hg S2 (look_mono hB2 hz2 px) py h2
theorem two_stepN {g : D → D → Res Cont} (hg : BinN X r g) (σ : St) (H : Hp) (Q : VK) (q : tX X.K X.mg RW (dBinN g da db) (pNew X.K X.mg) σ H Q) :
    tOp r (tX X.K X.mg RW da (pLook X.K X.mg)) (tX X.K X.mg RW db (pLook X.K X.mg)) σ H Q := by
  refine tX.imp q fun B F0 z ow ρ m S h => Rem.step pNew.pm h fun dx m1 B1 z1 ow1 x H1 hB hz S1 px h1 => ?_
  refine ⟨B1, F0, z1, ow1, ρ, m1, S1, Rem.step pNew.pm h1 fun dy m2 B2 z2 ow2 y H2 hB2 hz2 S2 py h2 => ?_⟩
  exact hg S2 (look_mono hB2 hz2 px) py h2
theorem pd_op {op : Operator} {g : D → D → Res D} {pos : Pos} (ho : OpR X (binaryOp op) r) (hg : BinR X r g) (ha : PE X a (tX X.K X.mg RW da (pLook X.K X.mg))) (hb : PE X b (tX X.K X.mg RW db (pLook X.K X.mg))) :
    PE X (.BinOp a op b pos) (tX X.K X.mg RW (dBin g da db) (pVal X.K X.mg)) := PE.imp (pe_op ho ha hb) (two_step hg)
theorem pd_opN {op : Operator} {g : D → D → Res Cont} {pos : Pos} (ho : OpR X (binaryOp op) r) (hg : BinN X r g) (ha : PE X a (tX X.K X.mg RW da (pLook X.K X.mg))) (hb : PE X b (tX X.K X.mg RW db (pLook X.K X.mg))) :
    PE X (.BinOp a op b pos) (tX X.K X.mg RW (dBinN g da db) (pNew X.K X.mg)) := PE.imp (pe_op ho ha hb) (two_stepN hg)
theorem pd_cmp {op : CmpOp} {g : D → D → Res D} {pos : Pos} (ho : OpR X (compareOp op) r) (hg : BinR X r g) (ha : PE X a (tX X.K X.mg RW da (pLook X.K X.mg))) (hb : PE X b (tX X.K X.mg RW db (pLook X.K X.mg))) (hm : behindInMarks op b = false) :
    PE X (.Compare a [op] [b] pos) (tX X.K X.mg RW (dBin g da db) (pVal X.K X.mg)) := PE.imp (pe_cmpR ho ha hb hm) (two_step hg)
theorem test_of (σ : St) (H : Hp) (Q : Bool → Hp → Prop) {den : Den D} (q : tX X.K X.mg RW (dT den) pTest σ H Q) : tX X.K X.mg RW den (pVal X.K X.mg) σ H fun x H' => ∃ k, x = .bl k ∧ Q k H' :=
  tX.imp q fun B F0 z ow ρ m S h => Rem.step pTest.pm h fun d m1 B1 z1 ow1 v H1 hB hz S1 p h1 => by
    cases d with
    | bl b => exact ⟨b, rep_bl.mp p, h1.here S1 rfl⟩
    | _ => exact h1.elim
theorem pt_cmpD {op : CmpOp} {g : D → D → Res D} {pos : Pos} (ho : OpR X (compareOp op) r) (hg : BinR X r g) (ha : PE X a (tX X.K X.mg RW da (pLook X.K X.mg))) (hb : PE X b (tX X.K X.mg RW db (pLook X.K X.mg))) (hm : behindInMarks op b = false) :
    PT X (.Compare a [op] [b] pos) (tX X.K X.mg RW (dT (dBin g da db)) pTest) := PT.imp (pt_cmpR ho ha hb hm) fun σ H Q q => two_step hg σ H _ (test_of σ H Q q)
/-- an expression that gives a bool, as a test -/
theorem pt_bl {den : Den D} (h : PE X e (tX X.K X.mg RW den (pVal X.K X.mg))) (he : ∀ whole, isTrue e X.env whole = (do let v ← whole; standAt e.pos; holding [v] (truthy v)) := by intro _; rfl) : PT X e (tX X.K X.mg RW (dT den) pTest) :=
  PT.imp (pt_val h he) fun σ H Q q => test_of σ H Q q
end
end PD
namespace PD
open PySem PySem.Spec PyProof.Rows L2
/-! ### new things -/
section
variable {K : PySem.W.Frag} {mg : Str → Option Value} {RW : WX} {z z' z1 z2 : Fz} {B B' B1 B2 F0 : Hp} {ow ow' ow1 : Own} {ρ : List Slot} {m m1 : List Ob} {σ : St} {H H' H1 : Hp}
theorem StOk.allocF (S : StOk K mg B F0 z ow ρ m σ H) {p : Addr} (h : H p = none) (o : HO) : StOk K mg B F0 ⟨upd z.F p o, z.As⟩ ow ρ m σ (upd H p o) :=
  let q := S.new_none h
  (S.alloc h o).freeze upd_same q.1 q.2.1 q.2.2.2
theorem StOk.leF (S : StOk K mg B F0 z ow ρ m σ H) {p : Addr} (h : H p = none) (o : HO) : z.le ⟨upd z.F p o, z.As⟩ := Fz.le_upd (S.new_none h).1
theorem rep_tup_new {p : Addr} {xs : List V} {ds : List D} (h : z.F p = none) (r : Reps K mg z ds xs) : Rep K mg ⟨upd z.F p (.tup xs), z.As⟩ (.tup ds) (.ref p) := by
  simp only [Rep]
  exact ⟨p, xs, rfl, SqT.of upd_same, r.le (Fz.le_upd h)⟩
theorem Rem.newTup {Q : VK} {ds : List D} {xs : List V} {p : Addr} (h : Rem K mg RW (.ok (.tup ds, m)) B F0 z ρ σ (pVal K mg) Q) (S : StOk K mg B F0 z ow ρ m σ H) (r : Reps K mg z ds xs) (hp : H p = none) : Q (.ref p) (upd H p (.tup xs)) :=
  h B _ ow _ _ (Same.refl _) (S.leF hp _) (S.allocF hp _) (rep_tup_new (S.new_none hp).1 r)
theorem Rem.newLst {Q : VK} {ds : List D} {xs : List V} {p : Addr} (h : Rem K mg RW (.ok (.lst ds, m)) B F0 z ρ σ (pNew K mg) Q) (S : StOk K mg B F0 z ow ρ m σ H) (r : Reps K mg z ds xs) (hp : H p = none) : Q (.ref p) (upd H p (.lst xs)) :=
  have q := S.new_none hp
  h _ z ow _ _ (same_upd q.2.1) (Fz.le.refl _) (S.keep hp _) ⟨p, _, rfl, q.2.1, upd_same, q.1, xs, rfl, r⟩
end
/-! ### plain data -/
mutual
def D.py : D → PyData
  | .non => .none
  | .bl b => .bool b
  | .int i => .int i
  | .str s => .str s
  | .tup xs => .tuple (D.pys xs)
  | .etp xs => .tuple (D.pys xs)
  | .lst xs => .list (D.pys xs)
  | .dct _ _ _ => .dict []
  | .ldc _ _ _ => .dict []
  | .row _ => .dict []
  | .obj _ => .dict []
  | .fn _ => .dict []
  | .scr _ => .dict []
def D.pys : List D → List PyData
  | [] => []
  | d :: ds => d.py :: D.pys ds
end
mutual
theorem dp_of_rep {K : PySem.W.Frag} {mg : Str → Option Value} {z : Fz} {H : Hp} (hf : Same z.F H) : ∀ {d : D} {v : V}, Rep K mg z d v → d.py.canLay0 = true → Dp K H v d.py
  | .non, v, r, _ => by rw [rep_non.mp r]; simp only [D.py]; exact .non
  | .bl b, v, r, _ => by rw [rep_bl.mp r]; simp only [D.py]; exact .bl b
  | .int i, v, r, _ => by rw [rep_int.mp r]; simp only [D.py]; exact .int i
  | .str s, v, r, _ => by rw [rep_str.mp r]; simp only [D.py]; exact .str s
  | .tup ds, v, r, hc => by
    simp only [Rep] at r
    obtain ⟨a, xs, rfl, h1, h2⟩ := r
    simp only [D.py, PyData.canLay0] at hc ⊢
    exact .tup (same_tup hf h1) (dps_of_reps hf h2 hc)
  | .etp ds, v, r, hc => by
    simp only [Rep] at r
    obtain ⟨a, o, xs, rfl, h1, _, h2⟩ := r
    simp only [D.py, PyData.canLay0] at hc ⊢
    exact .tup (same_tup hf (.inl (.inr ⟨o, h1⟩))) (dps_of_reps hf h2 hc)
  | .lst ds, v, r, hc => by
    simp only [Rep] at r
    obtain ⟨a, xs, rfl, h1, h2⟩ := r
    simp only [D.py, PyData.canLay0] at hc ⊢
    exact .lst (SqL.of (hf _ _ h1)) (dps_of_reps hf h2 hc)
  | .dct _ _ _, v, r, hc => by simp [D.py, PyData.canLay0] at hc
  | .ldc _ _ _, v, r, hc => by simp [D.py, PyData.canLay0] at hc
  | .row _, v, r, hc => by simp [D.py, PyData.canLay0] at hc
  | .obj _, v, r, hc => by simp [D.py, PyData.canLay0] at hc
  | .fn _, v, r, hc => by simp [D.py, PyData.canLay0] at hc
  | .scr _, v, r, hc => by simp [D.py, PyData.canLay0] at hc
theorem dps_of_reps {K : PySem.W.Frag} {mg : Str → Option Value} {z : Fz} {H : Hp} (hf : Same z.F H) : ∀ {ds : List D} {vs : List V}, Reps K mg z ds vs → PyData.canLayAll0 (D.pys ds) = true → DpAll K H vs (D.pys ds)
  | [], vs, r, _ => by rw [r.nil_of]; simp only [D.pys]; exact .nil
  | d :: ds, vs, r, hc => by
    obtain ⟨v, vs', rfl, h1, h2⟩ := r.uncons
    simp only [D.pys, PyData.canLayAll0, Bool.and_eq_true] at hc ⊢
    exact .cons (dp_of_rep hf h1 hc.1) (dps_of_reps hf h2 hc.2)
end
def D.okp (d : D) : Bool := SeqAt.shaped d.py
theorem look_dp {K : PySem.W.Frag} {mg : Str → Option Value} {z : Fz} {B B' F0 : Hp} {ow : Own} {ρ : List Slot} {m : List Ob} {σ : St} {H : Hp} {d : D} {v : V} (S : StOk K mg B F0 z ow ρ m σ H) (h : pLook K mg B' B z ρ σ d v) (hc : d.okp = true) : Dp K H v d.py := by
  have hc := SeqAt.canLay_of_shaped hc
  rcases h with h | ⟨c, e, h⟩
  · exact dp_of_rep S.fh h hc
  · subst e
    cases c with
    | lst ds =>
      obtain ⟨a, o, rfl, h1, xs, rfl, r⟩ := h.get S
      simp only [Cont.d, D.py, PyData.canLay0] at hc ⊢
      exact .lst (SqL.of h1) (dps_of_reps S.fh r hc)
    | dct t ks vs => simp [Cont.d, D.py, PyData.canLay0] at hc
    | ldc t ks vs => simp [Cont.d, D.py, PyData.canLay0] at hc
/-! ### the operators on data -/
def addD : D → D → Res D
  | .int i, .int j => .ok (.int (i + j))
  | .str s, .str t => if s.length + t.length ≤ sizeLine then .ok (.str (s ++ t)) else .bad
  | .tup a, .tup b => if a.length + b.length ≤ sizeLine then .ok (.tup (a ++ b)) else .bad
  | _, _ => .bad
def catN : D → D → Res Cont
  | .lst a, .lst b => if a.length + b.length ≤ sizeLine then .ok (.lst (a ++ b)) else .bad
  | _, _ => .bad
def repN : D → D → Res Cont
  | .lst a, .int k => if -(2 ^ 63) ≤ k ∧ k < 2 ^ 63 ∧ a.length * k.toNat ≤ sizeLine then .ok (.lst (List.replicate k.toNat a).flatten) else .bad
  | _, _ => .bad
def subD : D → D → Res D
  | .int i, .int j => .ok (.int (i - j))
  | _, _ => .bad
def mulD : D → D → Res D
  | .int i, .int j => if (-(2 ^ 64) < i ∧ i < 2 ^ 64) ∨ (-(2 ^ 64) < j ∧ j < 2 ^ 64) then .ok (.int (i * j)) else .bad
  | _, _ => .bad
def divD : D → D → Res D
  | .int i, .int j => if 0 < j ∧ j.natAbs.log2 < 9000 then .ok (.int (i / j)) else .bad
  | _, _ => .bad
def modD : D → D → Res D
  | .int i, .int j => if 0 < j then .ok (.int (i % j)) else .bad
  | _, _ => .bad
def powD : D → D → Res D
  | .int i, .int j => if 0 ≤ j ∧ j ≤ 1000000 ∧ i.natAbs < 2 ^ 64 then .ok (.int (i ^ j.toNat)) else .bad
  | _, _ => .bad
def shlD : D → D → Res D
  | .int i, .int j => if 0 ≤ j ∧ j ≤ 1000000 ∧ i.natAbs < 2 ^ 64 then .ok (.int (i * 2 ^ j.toNat)) else .bad
  | _, _ => .bad
def ltD : D → D → Res D
  | .int i, .int j => .ok (.bl (decide (i < j)))
  | _, _ => .bad
def leD : D → D → Res D
  | .int i, .int j => .ok (.bl (decide (i ≤ j)))
  | _, _ => .bad
def gtD : D → D → Res D
  | .int i, .int j => .ok (.bl (decide (j < i)))
  | _, _ => .bad
def geD : D → D → Res D
  | .int i, .int j => .ok (.bl (decide (j ≤ i)))
  | _, _ => .bad
def eqD (x y : D) : Res D := if (x.okp && y.okp) = true then .ok (.bl (PyData.eqv x.py y.py)) else .bad
def neD (x y : D) : Res D := if (x.okp && y.okp) = true then .ok (.bl (!PyData.eqv x.py y.py)) else .bad
def isNonD : D → D → Res D
  | .non, .non => .ok (.bl true)
  | .int _, .non | .bl _, .non | .str _, .non | .tup _, .non | .etp _, .non | .lst _, .non | .dct _ _ _, .non | .ldc _ _ _, .non | .row _, .non | .obj _, .non | .fn _, .non | .scr _, .non => .ok (.bl false)
  | _, _ => .bad
def notNonD : D → D → Res D
  | .non, .non => .ok (.bl false)
  | .int _, .non | .bl _, .non | .str _, .non | .tup _, .non | .etp _, .non | .lst _, .non | .dct _ _ _, .non | .ldc _ _ _, .non | .row _, .non | .obj _, .non | .fn _, .non | .scr _, .non => .ok (.bl true)
  | _, _ => .bad
def anyPy (xs : List D) (d : D) : Bool := (D.pys xs).any fun z => PyData.eqv z d.py
def inD : D → D → Res D
  | d, .lst xs => if (d.okp && (D.lst xs).okp) = true then .ok (.bl (anyPy xs d)) else .bad
  | d, .tup xs => if (d.okp && (D.tup xs).okp) = true then .ok (.bl (anyPy xs d)) else .bad
  | _, _ => .bad
def notInD : D → D → Res D
  | d, .lst xs => if (d.okp && (D.lst xs).okp) = true then .ok (.bl (!anyPy xs d)) else .bad
  | d, .tup xs => if (d.okp && (D.tup xs).okp) = true then .ok (.bl (!anyPy xs d)) else .bad
  | _, _ => .bad
section
variable {X : Cx}
def rAddX (K : PySem.W.Frag) : R2 := fun x y H Q => (∃ i j, x = .int i ∧ y = .int j ∧ Q (.int (i + j)) H) ∨ (∃ i j, x = .str i ∧ y = .str j ∧ i.length + j.length ≤ sizeLine ∧ Q (.str (i ++ j)) H) ∨ rCatA K x y H Q
theorem op_addX : OpR X (binaryOp .Add) (rAddX X.K) := op_add.or (op_add_str.or op_catA)
theorem add_r : BinR X (rAddX X.K) addD := by
  intro RW B F0 z ow ρ m σ H x y dx dy Q S px py h
  unfold addD at h
  split at h
  · exact .inl ⟨_, _, look_int px, look_int py, h.here S (rep_int.mpr rfl)⟩
  · split at h
    · rename_i hz
      exact .inr (.inl ⟨_, _, look_str px, look_str py, hz, h.here S (rep_str.mpr rfl)⟩)
    · exact h.elim
  · split at h
    · rename_i as bs hz
      obtain ⟨a, xs, rfl, h1, r1⟩ := look_tup S px
      obtain ⟨b, ys, rfl, h2, r2⟩ := look_tup S py
      have rx := look_rep px (fun c => by cases c <;> simp [Cont.d])
      have ry := look_rep py (fun c => by cases c <;> simp [Cont.d])
      refine .inr (.inr ⟨a, b, xs, ys, rfl, rfl, h1, h2, by rw [← r1.len, ← r2.len]; exact hz, fun e => ?_, fun e1 e2 => ?_, fun _ _ p hp => ?_⟩)
      · subst e
        have e0 : as = [] := List.length_eq_zero_iff.mp (by simpa using r1.len)
        subst e0
        exact h.here S ry
      · subst e2
        have e0 : bs = [] := List.length_eq_zero_iff.mp (by simpa using r2.len)
        subst e0
        rw [List.append_nil] at h
        exact h.here S rx
      · exact h.newTup S (r1.append r2) hp
    · exact h.elim
  · exact h.elim
theorem cat_r : BinN X rCat catN := by
  intro RW B F0 z ow ρ m σ H x y dx dy Q S px py h
  unfold catN at h
  split at h
  · split at h
    · rename_i as bs hz
      obtain ⟨a, xs, rfl, h1, r1⟩ := look_list S px
      obtain ⟨b, ys, rfl, h2, r2⟩ := look_list S py
      exact ⟨a, b, xs, ys, rfl, rfl, h1, h2, by rw [← r1.len, ← r2.len]; exact hz, fun p hp => h.newLst S (r1.append r2) hp⟩
    · exact h.elim
  · exact h.elim
theorem reps_rep {K : PySem.W.Frag} {mg : Str → Option Value} {z : Fz} {ds : List D} {vs : List V} (r : Reps K mg z ds vs) : ∀ n : Nat, Reps K mg z (List.replicate n ds).flatten (List.replicate n vs).flatten
  | 0 => .nil
  | n + 1 => by
    rw [List.replicate_succ, List.replicate_succ, List.flatten_cons, List.flatten_cons]
    exact r.append (reps_rep r n)
theorem rep_r : BinN X rRep repN := by
  intro RW B F0 z ow ρ m σ H x y dx dy Q S px py h
  unfold repN at h
  split at h
  · split at h
    · rename_i as k hz
      obtain ⟨a, xs, rfl, h1, r1⟩ := look_list S px
      exact ⟨a, k, xs, rfl, look_int py, h1, hz.1, hz.2.1, by rw [← r1.len]; exact hz.2.2, fun p hp => h.newLst S (reps_rep r1 _) hp⟩
    · exact h.elim
  · exact h.elim
theorem sub_r : BinR X (rI0 fun i j => .int (i - j)) subD := by
  intro RW B F0 z ow ρ m σ H x y dx dy Q S px py h
  unfold subD at h
  split at h
  · exact ⟨_, _, look_int px, look_int py, h.here S (rep_int.mpr rfl)⟩
  · exact h.elim
theorem mul_r : BinR X (rI CMul fun i j => .int (i * j)) mulD := by
  intro RW B F0 z ow ρ m σ H x y dx dy Q S px py h
  unfold mulD at h
  split at h
  · split at h
    · rename_i hz
      exact ⟨_, _, look_int px, look_int py, hz, h.here S (rep_int.mpr rfl)⟩
    · exact h.elim
  · exact h.elim
theorem div_r : BinR X (rI CDivW fun i j => .int (i / j)) divD := by
  intro RW B F0 z ow ρ m σ H x y dx dy Q S px py h
  unfold divD at h
  split at h
  · split at h
    · rename_i hz
      exact ⟨_, _, look_int px, look_int py, hz, h.here S (rep_int.mpr rfl)⟩
    · exact h.elim
  · exact h.elim
theorem mod_r : BinR X (rI (fun _ j => 0 < j) fun i j => .int (i % j)) modD := by
  intro RW B F0 z ow ρ m σ H x y dx dy Q S px py h
  unfold modD at h
  split at h
  · split at h
    · rename_i hz
      exact ⟨_, _, look_int px, look_int py, hz, h.here S (rep_int.mpr rfl)⟩
    · exact h.elim
  · exact h.elim
theorem pow_r : BinR X (rI CPow fun i j => .int (i ^ j.toNat)) powD := by
  intro RW B F0 z ow ρ m σ H x y dx dy Q S px py h
  unfold powD at h
  split at h
  · split at h
    · rename_i hz
      exact ⟨_, _, look_int px, look_int py, hz, h.here S (rep_int.mpr rfl)⟩
    · exact h.elim
  · exact h.elim
theorem shl_r : BinR X (rI CPow fun i j => .int (i * 2 ^ j.toNat)) shlD := by
  intro RW B F0 z ow ρ m σ H x y dx dy Q S px py h
  unfold shlD at h
  split at h
  · split at h
    · rename_i hz
      exact ⟨_, _, look_int px, look_int py, hz, h.here S (rep_int.mpr rfl)⟩
    · exact h.elim
  · exact h.elim
theorem lt_r : BinR X (rI0 fun i j => .bl (decide (i < j))) ltD := by
  intro RW B F0 z ow ρ m σ H x y dx dy Q S px py h
  unfold ltD at h
  split at h
  · exact ⟨_, _, look_int px, look_int py, h.here S (rep_bl.mpr rfl)⟩
  · exact h.elim
theorem le_r : BinR X (rI0 fun i j => .bl (decide (i ≤ j))) leD := by
  intro RW B F0 z ow ρ m σ H x y dx dy Q S px py h
  unfold leD at h
  split at h
  · exact ⟨_, _, look_int px, look_int py, h.here S (rep_bl.mpr rfl)⟩
  · exact h.elim
theorem gt_r : BinR X (rI0 fun i j => .bl (decide (j < i))) gtD := by
  intro RW B F0 z ow ρ m σ H x y dx dy Q S px py h
  unfold gtD at h
  split at h
  · exact ⟨_, _, look_int px, look_int py, h.here S (rep_bl.mpr rfl)⟩
  · exact h.elim
theorem ge_r : BinR X (rI0 fun i j => .bl (decide (j ≤ i))) geD := by
  intro RW B F0 z ow ρ m σ H x y dx dy Q S px py h
  unfold geD at h
  split at h
  · exact ⟨_, _, look_int px, look_int py, h.here S (rep_bl.mpr rfl)⟩
  · exact h.elim
theorem eq_r : BinR X (rEqD X.K) eqD := by
  intro RW B F0 z ow ρ m σ H x y dx dy Q S px py h
  unfold eqD at h
  split at h
  · rename_i hz
    rw [Bool.and_eq_true] at hz
    exact ⟨_, _, look_dp S px hz.1, look_dp S py hz.2, hz.1, hz.2, h.here S (rep_bl.mpr rfl)⟩
  · exact h.elim
theorem ne_r : BinR X (rNeD X.K) neD := by
  intro RW B F0 z ow ρ m σ H x y dx dy Q S px py h
  unfold neD at h
  split at h
  · rename_i hz
    rw [Bool.and_eq_true] at hz
    exact ⟨_, _, look_dp S px hz.1, look_dp S py hz.2, hz.1, hz.2, h.here S (rep_bl.mpr rfl)⟩
  · exact h.elim
theorem look_isnon {K : PySem.W.Frag} {mg : Str → Option Value} {z : Fz} {B B' F0 : Hp} {ow : Own} {ρ : List Slot} {m : List Ob} {σ : St} {H : Hp} {d : D} {v : V} (S : StOk K mg B F0 z ow ρ m σ H) (h : pLook K mg B' B z ρ σ d v) (hd : d ≠ .non) : decide (v = .non) = false := by
  apply decide_eq_false
  intro e
  subst e
  rcases h with h | ⟨c, e, h⟩
  · cases d with
    | non => exact hd rfl
    | bl b => simp [Rep] at h
    | int b => simp [Rep] at h
    | str b => simp [Rep] at h
    | tup b => simp [Rep] at h
    | etp b => simp [Rep] at h
    | lst b => simp [Rep] at h
    | dct t b c => simp [Rep] at h
    | ldc t b c => simp [Rep] at h
    | row b => simp [Rep] at h
    | obj b => simp [Rep] at h
    | fn b => simp [Rep] at h
    | scr b => simp [Rep] at h
  · obtain ⟨a, _, e, _⟩ := h.get S
    cases e
theorem isnon_r : BinR X (fun x y H Q => y = .non ∧ Q (.bl (decide (x = .non))) H) isNonD := by
  intro RW B F0 z ow ρ m σ H x y dx dy Q S px py h
  cases dy with
  | non =>
    refine ⟨look_non py, ?_⟩
    by_cases hd : dx = .non
    · subst hd
      have e := look_non px
      subst e
      exact h.here S (rep_bl.mpr rfl)
    · rw [look_isnon S px hd]
      have e : isNonD dx .non = .ok (.bl false) := by cases dx <;> first | rfl | exact absurd rfl hd
      rw [e] at h
      exact h.here S (rep_bl.mpr rfl)
  | _ => cases dx <;> exact h.elim
theorem notnon_r : BinR X (fun x y H Q => y = .non ∧ Q (.bl (!decide (x = .non))) H) notNonD := by
  intro RW B F0 z ow ρ m σ H x y dx dy Q S px py h
  cases dy with
  | non =>
    refine ⟨look_non py, ?_⟩
    by_cases hd : dx = .non
    · subst hd
      have e := look_non px
      subst e
      exact h.here S (rep_bl.mpr rfl)
    · rw [look_isnon S px hd]
      have e : notNonD dx .non = .ok (.bl true) := by cases dx <;> first | rfl | exact absurd rfl hd
      rw [e] at h
      exact h.here S (rep_bl.mpr rfl)
  | _ => cases dx <;> exact h.elim
/-! ### in -/
def rInX (K : PySem.W.Frag) (neg : Bool) : R2 := fun x y H Q => ∃ (d : PyData) (ds : List PyData) (t : PyData), Dp K H x d ∧ Dp K H y t ∧ (t = .list ds ∨ t = .tuple ds) ∧ SeqAt.shaped d = true ∧ SeqAt.shaped t = true ∧ Q (.bl (if neg then !(ds.any fun z => PyData.eqv z d) else ds.any fun z => PyData.eqv z d)) H
theorem shaped_lt {ds : List PyData} : SeqAt.shaped (.tuple ds) = SeqAt.shaped (.list ds) := by
  unfold SeqAt.shaped
  simp only [PyData.canLay0, PyData.depth]
  rfl
theorem op_inX (hu : X.A.units + 65 < cLine) : OpR X (compareOp .In) (rInX X.K false) := by
  intro pins s σ H x y v u Q I rx ry h
  obtain ⟨d, ds, t, hd, he, ht, sd, se, q⟩ := h
  obtain ⟨as, r1⟩ := Dp.reads I d x v hd rx
  obtain ⟨bs, r2⟩ := Dp.reads I t y u he ry
  rcases ht with rfl | rfl
  · exact SeqAt.in_list_reads r2 r1 (SeqAt.canLay_of_shaped se) (SeqAt.canLay_of_shaped sd) (room_in_shaped sd hu) ⟨.bl _, H, I, rfl, q⟩
  · exact SeqAt.in_tuple_reads r2 r1 (SeqAt.canLay_of_shaped (shaped_lt.symm.trans se)) (SeqAt.canLay_of_shaped sd) (room_in_shaped sd hu) ⟨.bl _, H, I, rfl, q⟩
theorem op_notInX (hu : X.A.units + 65 < cLine) : OpR X (compareOp .NotIn) (rInX X.K true) := by
  intro pins s σ H x y v u Q I rx ry h
  obtain ⟨d, ds, t, hd, he, ht, sd, se, q⟩ := h
  obtain ⟨as, r1⟩ := Dp.reads I d x v hd rx
  obtain ⟨bs, r2⟩ := Dp.reads I t y u he ry
  rcases ht with rfl | rfl
  · exact SeqAt.notIn_list_reads r2 r1 (SeqAt.canLay_of_shaped se) (SeqAt.canLay_of_shaped sd) (room_in_shaped sd hu) ⟨.bl _, H, I, rfl, q⟩
  · exact SeqAt.notIn_tuple_reads r2 r1 (SeqAt.canLay_of_shaped (shaped_lt.symm.trans se)) (SeqAt.canLay_of_shaped sd) (room_in_shaped sd hu) ⟨.bl _, H, I, rfl, q⟩
theorem in_r : BinR X (rInX X.K false) inD := by
  intro RW B F0 z ow ρ m σ H x y dx dy Q S px py h
  unfold inD at h
  split at h
  · split at h
    · rename_i hz
      rw [Bool.and_eq_true] at hz
      exact ⟨_, _, _, look_dp S px hz.1, look_dp S py hz.2, .inl (by simp only [D.py]), hz.1, hz.2, h.here S (rep_bl.mpr rfl)⟩
    · exact h.elim
  · split at h
    · rename_i hz
      rw [Bool.and_eq_true] at hz
      exact ⟨_, _, _, look_dp S px hz.1, look_dp S py hz.2, .inr (by simp only [D.py]), hz.1, hz.2, h.here S (rep_bl.mpr rfl)⟩
    · exact h.elim
  · exact h.elim
theorem notin_r : BinR X (rInX X.K true) notInD := by
  intro RW B F0 z ow ρ m σ H x y dx dy Q S px py h
  unfold notInD at h
  split at h
  · split at h
    · rename_i hz
      rw [Bool.and_eq_true] at hz
      exact ⟨_, _, _, look_dp S px hz.1, look_dp S py hz.2, .inl (by simp only [D.py]), hz.1, hz.2, h.here S (rep_bl.mpr rfl)⟩
    · exact h.elim
  · split at h
    · rename_i hz
      rw [Bool.and_eq_true] at hz
      exact ⟨_, _, _, look_dp S px hz.1, look_dp S py hz.2, .inr (by simp only [D.py]), hz.1, hz.2, h.here S (rep_bl.mpr rfl)⟩
    · exact h.elim
  · exact h.elim
end
end PD
namespace PD
open PySem PySem.Spec PyProof.Rows L2
/-! ### and, or, not, if .. else, a < b < c -/
def dAndT (da db : Den Bool) : Den Bool := fun ρ m => (da ρ m).bind fun x => match x.1 with
  | true => db ρ x.2
  | false => .ok (false, x.2)
def dOrT (da db : Den Bool) : Den Bool := fun ρ m => (da ρ m).bind fun x => match x.1 with
  | true => .ok (true, x.2)
  | false => db ρ x.2
def dNotT (da : Den Bool) : Den Bool := fun ρ m => (da ρ m).bind fun x => .ok (!x.1, x.2)
def dAnd (da db : Den D) : Den D := fun ρ m => (da ρ m).bind fun x => match x.1 with
  | .bl true => db ρ x.2
  | .bl false => .ok (.bl false, x.2)
  | _ => .bad
def dOr (da db : Den D) : Den D := fun ρ m => (da ρ m).bind fun x => match x.1 with
  | .bl true => .ok (.bl true, x.2)
  | .bl false => db ρ x.2
  | _ => .bad
def dNot (da : Den D) : Den D := fun ρ m => (da ρ m).bind fun x => match x.1 with
  | .bl b => .ok (.bl !b, x.2)
  | _ => .bad
def dIf {α : Type} (dc : Den Bool) (da db : Den α) : Den α := fun ρ m => (dc ρ m).bind fun x => match x.1 with
  | true => da ρ x.2
  | false => db ρ x.2
def dChain (g g' : D → D → Res D) (da db dc : Den D) : Den D := fun ρ m => (da ρ m).bind fun x => (db ρ x.2).bind fun y => (g x.1 y.1).bind fun k => match k with
  | .bl true => (dc ρ y.2).bind fun w => (g' y.1 w.1).bind fun d => .ok (d, w.2)
  | .bl false => .ok (.bl false, y.2)
  | _ => .bad
section
variable {X : Cx} {RW : WX} {e a b c : Expr} {rest : List Expr} {pos : Pos}
theorem pwd_and {ta tb : Den Bool} (ha : PT X a (tX X.K X.mg RW ta pTest)) (hb : PW X (.BoolOp .And (b :: rest) pos) (tX X.K X.mg RW tb pTest)) : PW X (.BoolOp .And (a :: b :: rest) pos) (tX X.K X.mg RW (dAndT ta tb) pTest) :=
  ⟨fun whole pins s σ H Q I q => (pw_and ha hb).run whole pins s σ H Q I (tX.imp q fun B F0 z ow ρ m S h => Rem.step pTest.pm h fun x m1 B1 z1 ow1 v H1 hB hz S1 px h1 => by
    cases (show v = x from px)
    cases x with
    | true => exact iteT ⟨B1, F0, z1, ow1, ρ, m1, S1, h1⟩
    | false => exact iteF (Rem.here (d := false) h1 S1 rfl))⟩
theorem pwd_or {ta tb : Den Bool} (ha : PT X a (tX X.K X.mg RW ta pTest)) (hb : PW X (.BoolOp .Or (b :: rest) pos) (tX X.K X.mg RW tb pTest)) : PW X (.BoolOp .Or (a :: b :: rest) pos) (tX X.K X.mg RW (dOrT ta tb) pTest) :=
  ⟨fun whole pins s σ H Q I q => (pw_or ha hb).run whole pins s σ H Q I (tX.imp q fun B F0 z ow ρ m S h => Rem.step pTest.pm h fun x m1 B1 z1 ow1 v H1 hB hz S1 px h1 => by
    cases (show v = x from px)
    cases x with
    | true => exact iteT (Rem.here (d := true) h1 S1 rfl)
    | false => exact iteF ⟨B1, F0, z1, ow1, ρ, m1, S1, h1⟩)⟩
theorem ptd_not {ta : Den Bool} (ha : PT X a (tX X.K X.mg RW ta pTest)) : PT X (.UnaryOp .Not a pos) (tX X.K X.mg RW (dNotT ta) pTest) :=
  PT.imp (pt_not ha) fun σ H Q q => tX.imp q fun B F0 z ow ρ m S h => Rem.step pTest.pm h fun x m1 B1 z1 ow1 v H1 hB hz S1 px h1 => by
    cases (show v = x from px)
    exact h1.here S1 rfl
theorem pd_and {ta tb : Den D} (ha : PE X a (tX X.K X.mg RW ta (pVal X.K X.mg))) (hb : PE X (.BoolOp .And (b :: rest) pos) (tX X.K X.mg RW tb (pVal X.K X.mg))) : PE X (.BoolOp .And (a :: b :: rest) pos) (tX X.K X.mg RW (dAnd ta tb) (pVal X.K X.mg)) :=
  PE.imp (pe_and ha hb) fun σ H Q q => tX.imp q fun B F0 z ow ρ m S h => Rem.step pVal.pm h fun x m1 B1 z1 ow1 v H1 hB hz S1 px h1 => by
    cases x with
    | bl k =>
      refine ⟨k, rep_bl.mp px, ?_⟩
      cases k with
      | true => exact iteT ⟨B1, F0, z1, ow1, ρ, m1, S1, h1⟩
      | false => exact iteF (h1.here S1 (rep_bl.mpr rfl))
    | _ => exact h1.elim
theorem pd_or {ta tb : Den D} (ha : PE X a (tX X.K X.mg RW ta (pVal X.K X.mg))) (hb : PE X (.BoolOp .Or (b :: rest) pos) (tX X.K X.mg RW tb (pVal X.K X.mg))) : PE X (.BoolOp .Or (a :: b :: rest) pos) (tX X.K X.mg RW (dOr ta tb) (pVal X.K X.mg)) :=
  PE.imp (pe_or ha hb) fun σ H Q q => tX.imp q fun B F0 z ow ρ m S h => Rem.step pVal.pm h fun x m1 B1 z1 ow1 v H1 hB hz S1 px h1 => by
    cases x with
    | bl k =>
      refine ⟨k, rep_bl.mp px, ?_⟩
      cases k with
      | true => exact iteT (h1.here S1 (rep_bl.mpr rfl))
      | false => exact iteF ⟨B1, F0, z1, ow1, ρ, m1, S1, h1⟩
    | _ => exact h1.elim
theorem pd_one {op : BoolOp} {ta : Den D} (ha : PE X a (tX X.K X.mg RW ta (pVal X.K X.mg))) : PE X (.BoolOp op [a] pos) (tX X.K X.mg RW ta (pVal X.K X.mg)) := pe_one ha
theorem pd_not {ta : Den D} (ha : PE X a (tX X.K X.mg RW ta (pVal X.K X.mg))) : PE X (.UnaryOp .Not a pos) (tX X.K X.mg RW (dNot ta) (pVal X.K X.mg)) :=
  PE.imp (pe_not ha) fun σ H Q q => tX.imp q fun B F0 z ow ρ m S h => Rem.step pVal.pm h fun x m1 B1 z1 ow1 v H1 hB hz S1 px h1 => by
    cases x with
    | bl k => exact ⟨k, rep_bl.mp px, h1.here S1 (rep_bl.mpr rfl)⟩
    | _ => exact h1.elim
theorem if_step {α β : Type} {P : Post α β} (hP : PMono P) {dc : Den Bool} {da db : Den α} {Q : β → Hp → Prop} {σ : St} {H : Hp} (q : tX X.K X.mg RW (dIf dc da db) P σ H Q) :
    tX X.K X.mg RW dc pTest σ H fun k H1 => if k = true then tX X.K X.mg RW da P σ H1 Q else tX X.K X.mg RW db P σ H1 Q :=
  tX.imp q fun B F0 z ow ρ m S h => Rem.step hP h fun x m1 B1 z1 ow1 v H1 hB hz S1 px h1 => by
    cases (show v = x from px)
    cases x with
    | true => exact iteT ⟨B1, F0, z1, ow1, ρ, m1, S1, h1⟩
    | false => exact iteF ⟨B1, F0, z1, ow1, ρ, m1, S1, h1⟩
theorem pd_if {dc : Den Bool} {da db : Den D} (hc : PT X c (tX X.K X.mg RW dc pTest)) (ha : PE X a (tX X.K X.mg RW da (pVal X.K X.mg))) (hb : PE X b (tX X.K X.mg RW db (pVal X.K X.mg))) :
    PE X (.IfExp c a b pos) (tX X.K X.mg RW (dIf dc da db) (pVal X.K X.mg)) := PE.imp (pe_ifExp hc ha hb) fun σ H Q q => if_step pVal.pm q
theorem pd_ifL {dc : Den Bool} {da db : Den D} (hc : PT X c (tX X.K X.mg RW dc pTest)) (ha : PE X a (tX X.K X.mg RW da (pLook X.K X.mg))) (hb : PE X b (tX X.K X.mg RW db (pLook X.K X.mg))) :
    PE X (.IfExp c a b pos) (tX X.K X.mg RW (dIf dc da db) (pLook X.K X.mg)) := PE.imp (pe_ifExp hc ha hb) fun σ H Q q => if_step pLook.pm q
theorem chain_step {r r' : R2} {g g' : D → D → Res D} {da db dc : Den D} (hg : BinR X r g) (hg' : BinR X r' g') (σ : St) (H : Hp) (Q : VK) (q : tX X.K X.mg RW (dChain g g' da db dc) (pVal X.K X.mg) σ H Q) :
    tChain r r' (tX X.K X.mg RW da (pLook X.K X.mg)) (tX X.K X.mg RW db (pLook X.K X.mg)) (tX X.K X.mg RW dc (pLook X.K X.mg)) σ H Q := by
  refine tX.imp q fun B F0 z ow ρ m S h => Rem.step pVal.pm h fun dx m1 B1 z1 ow1 x H1 hB hz S1 px h1 => ?_
  refine ⟨B1, F0, z1, ow1, ρ, m1, S1, Rem.step pVal.pm h1 fun dy m2 B2 z2 ow2 y H2 hB2 hz2 S2 py h2 => ?_⟩
  refine hg (RW := RW) S2 (look_mono hB2 hz2 px) py ?_
  refine Rem.step (P1 := pVal X.K X.mg) (P := pVal X.K X.mg) (f := fun r : D × List Ob => match r.1 with
    | .bl true => (dc ρ r.2).bind fun w => (g' dy w.1).bind fun d => .ok (d, w.2)
    | .bl false => .ok (.bl false, r.2)
    | _ => .bad) pVal.pm (Q := Q) ?_ fun k m3 B3 z3 ow3 v H3 hB3 hz3 S3 pk h3 => ?_
  · cases hgk : g dx dy with
    | ok k =>
      rw [hgk] at h2
      exact h2
    | err x m' =>
      rw [hgk] at h2
      exact h2
    | bad =>
      rw [hgk] at h2
      exact h2
  · cases k with
    | bl k =>
      refine ⟨k, rep_bl.mp pk, ?_⟩
      cases k with
      | true =>
        refine iteT ⟨B3, F0, z3, ow3, ρ, m3, S3, Rem.step pVal.pm h3 fun dw m4 B4 z4 ow4 w H4 hB4 hz4 S4 pw h4 => ?_⟩
        exact hg' S4 (look_mono (hB3.trans hB4) (hz3.trans hz4) py) pw h4
      | false => exact iteF (h3.here S3 (rep_bl.mpr rfl))
    | _ => exact h3.elim
theorem pd_chain {op op' : CmpOp} {r r' : R2} {g g' : D → D → Res D} {da db dc : Den D} (ho : OpR X (compareOp op) r) (ho' : OpR X (compareOp op') r') (hg : BinR X r g) (hg' : BinR X r' g') (ha : PE X a (tX X.K X.mg RW da (pLook X.K X.mg)))
    (hb : PE X b (tX X.K X.mg RW db (pLook X.K X.mg))) (hc : PE X c (tX X.K X.mg RW dc (pLook X.K X.mg))) (hm : lastMarks [op, op'] [b, c] = false := by with_unfolding_all rfl) :
    PE X (.Compare a [op, op'] [b, c] pos) (tX X.K X.mg RW (dChain g g' da db dc) (pVal X.K X.mg)) := PE.imp (pe_chain ho ho' ha hb hc hm) (chain_step hg hg')
theorem pt_chainD {op op' : CmpOp} {r r' : R2} {g g' : D → D → Res D} {da db dc : Den D} (ho : OpR X (compareOp op) r) (ho' : OpR X (compareOp op') r') (hg : BinR X r g) (hg' : BinR X r' g') (ha : PE X a (tX X.K X.mg RW da (pLook X.K X.mg)))
    (hb : PE X b (tX X.K X.mg RW db (pLook X.K X.mg))) (hc : PE X c (tX X.K X.mg RW dc (pLook X.K X.mg))) (hm : lastMarks [op, op'] [b, c] = false := by with_unfolding_all rfl) :
    PT X (.Compare a [op, op'] [b, c] pos) (tX X.K X.mg RW (dT (dChain g g' da db dc)) pTest) := PT.imp (pt_chain ho ho' ha hb hc hm) fun σ H Q q => chain_step hg hg' σ H _ (test_of σ H Q q)
/-! ### -a -/
def negD : D → Res D
  | .int i => .ok (.int (-i))
  | _ => .bad
def dUn (g : D → Res D) (da : Den D) : Den D := fun ρ m => (da ρ m).bind fun x => (g x.1).bind fun d => .ok (d, x.2)
theorem pd_neg {da : Den D} (ha : PE X a (tX X.K X.mg RW da (pLook X.K X.mg))) : PE X (.UnaryOp .USub a pos) (tX X.K X.mg RW (dUn negD da) (pVal X.K X.mg)) :=
  PE.imp (pe_un un_neg ha) fun σ H Q q => tX.imp q fun B F0 z ow ρ m S h => Rem.step pVal.pm h fun x m1 B1 z1 ow1 v H1 hB hz S1 px h1 => by
    cases x with
    | int i => exact ⟨i, look_int px, h1.here S1 (rep_int.mpr rfl)⟩
    | _ => exact h1.elim
/-! ### x[i], x[a:b] -/
def ixD : D → D → Res D
  | .lst xs, .int i => match atI xs i with
    | some d => .ok d
    | none => .bad
  | .tup xs, .int i => match atI xs i with
    | some d => .ok d
    | none => .bad
  | _, _ => .bad
theorem reps_at {K : PySem.W.Frag} {mg : Str → Option Value} {z : Fz} {ds : List D} {vs : List V} {i : Int} {d : D} (r : Reps K mg z ds vs) (h : atI ds i = some d) : ∃ v, atI vs i = some v ∧ Rep K mg z d v := by
  unfold atI at h ⊢
  rw [← r.len]
  cases e : ixN ds.length i with
  | none => rw [e] at h; cases h
  | some j =>
    rw [e] at h
    exact r.get h
theorem ix_r : BinR X (fun x y H Q => rIxL X.K x y H Q ∨ rIxT X.K x y H Q) ixD := by
  intro RW B F0 z ow ρ m σ H x y dx dy Q S px py h
  unfold ixD at h
  split at h
  · split at h
    · rename_i ds i _ d hd
      obtain ⟨a, xs, rfl, h1, r1⟩ := look_list S px
      obtain ⟨v, e, r⟩ := reps_at r1 hd
      exact .inl ⟨a, xs, i, v, rfl, look_int py, SqL.of h1, e, h.here S r⟩
    · exact h.elim
  · split at h
    · rename_i ds i _ d hd
      obtain ⟨a, xs, rfl, h1, r1⟩ := look_tup S px
      obtain ⟨v, e, r⟩ := reps_at r1 hd
      exact .inr ⟨a, xs, i, v, rfl, look_int py, h1, e, h.here S r⟩
    · exact h.elim
  · exact h.elim
theorem pd_ix {da db : Den D} (ha : PE X a (tX X.K X.mg RW da (pLook X.K X.mg))) (hb : PE X b (tX X.K X.mg RW db (pLook X.K X.mg))) (hs : PlainIx b := by exact fun _ _ => rfl) :
    PE X (.Subscript a b pos) (tX X.K X.mg RW (dBin ixD da db) (pVal X.K X.mg)) := PE.imp (pe_ix (ix_list.or ix_tup) ha hb hs) (two_step ix_r)
def pOpt : Post (Option Int) (Option Int) := fun _ _ _ _ _ d v => v = d
theorem pOpt.pm : PMono pOpt := fun _ _ _ _ _ _ _ _ _ h => h
def dNoPart : Den (Option Int) := fun _ m => .ok (none, m)
def dPart (da : Den D) : Den (Option Int) := fun ρ m => (da ρ m).bind fun x => match x.1 with
  | .int i => .ok (some i, x.2)
  | _ => .bad
theorem pod_none : PO X none (tX X.K X.mg RW dNoPart pOpt) := ⟨fun pins s σ H Q I q => po_none.run pins s σ H Q I (by
  obtain ⟨B, F0, z, ow, ρ, m, S, h⟩ := q
  exact h.here S rfl)⟩
theorem pod_some {da : Den D} (ha : PE X a (tX X.K X.mg RW da (pLook X.K X.mg))) : PO X (some a) (tX X.K X.mg RW (dPart da) pOpt) :=
  ⟨fun pins s σ H Q I q => (po_some ha).run pins s σ H Q I (tX.imp q fun B F0 z ow ρ m S h => Rem.step pOpt.pm h fun x m1 B1 z1 ow1 v H1 hB hz S1 px h1 => by
    cases x with
    | int i => exact ⟨i, look_int px, h1.here S1 rfl⟩
    | _ => exact h1.elim)⟩
/-- the cut of a list -/
def cut {α : Type} (xs : List α) (lo hi : Option Int) : List α := (xs.drop (HT.sIx xs.length 0 lo)).take (HT.sIx xs.length xs.length hi - HT.sIx xs.length 0 lo)
theorem reps_cut {K : PySem.W.Frag} {mg : Str → Option Value} {z : Fz} {ds : List D} {vs : List V} {lo hi : Option Int} (r : Reps K mg z ds vs) : Reps K mg z (cut ds lo hi) (cutV vs lo hi) := by
  unfold cut cutV
  rw [← r.len]
  exact (r.drop _).take _
def slN : D → Option Int → Option Int → Res Cont
  | .lst xs, lo, hi => .ok (.lst (cut xs lo hi))
  | _, _, _ => .bad
def slT : D → Option Int → Option Int → Res D
  | .tup xs, lo, hi => .ok (.tup (cut xs lo hi))
  | _, _, _ => .bad
def dSl {α : Type} (g : D → Option Int → Option Int → Res α) (da : Den D) (dl dh : Den (Option Int)) : Den α := fun ρ m => (da ρ m).bind fun x => (dl ρ x.2).bind fun l => (dh ρ l.2).bind fun u => (g x.1 l.1 u.1).bind fun d => .ok (d, u.2)
theorem cut_whole {α : Type} {xs : List α} {lo hi : Option Int} (h : HT.sIx xs.length 0 lo = 0 ∧ HT.sIx xs.length xs.length hi = xs.length) : cut xs lo hi = xs := by
  unfold cut
  rw [h.1, h.2]
  simp
theorem pd_slN {da : Den D} {dl dh : Den (Option Int)} {lo hi : Option Expr} {p2 : Pos} (ha : PE X a (tX X.K X.mg RW da (pLook X.K X.mg))) (hl : PO X lo (tX X.K X.mg RW dl pOpt)) (hh : PO X hi (tX X.K X.mg RW dh pOpt)) :
    PE X (.Subscript a (.Slice lo hi none p2) pos) (tX X.K X.mg RW (dSl slN da dl dh) (pNew X.K X.mg)) := PE.imp (pe_slice sl_list ha hl hh) fun σ H Q q => by
  refine tX.imp q fun B F0 z ow ρ m S h => Rem.step pNew.pm h fun dx m1 B1 z1 ow1 x H1 hB hz S1 px h1 => ?_
  refine ⟨B1, F0, z1, ow1, ρ, m1, S1, Rem.step pNew.pm h1 fun l m2 B2 z2 ow2 y H2 hB2 hz2 S2 py h2 => ?_⟩
  refine ⟨B2, F0, z2, ow2, ρ, m2, S2, Rem.step pNew.pm h2 fun u m3 B3 z3 ow3 w H3 hB3 hz3 S3 pw h3 => ?_⟩
  cases (show y = l from py)
  cases (show w = u from pw)
  cases dx with
  | lst ds =>
    obtain ⟨p, xs, rfl, e, r⟩ := look_list S3 (look_mono (B' := B) (hB2.trans hB3) (hz2.trans hz3) px)
    exact ⟨p, xs, rfl, SqL.of e, fun p hp => Rem.newLst (ds := cut ds l u) h3 S3 (reps_cut r) hp⟩
  | _ => exact h3.elim
theorem pd_slT {da : Den D} {dl dh : Den (Option Int)} {lo hi : Option Expr} {p2 : Pos} (ha : PE X a (tX X.K X.mg RW da (pLook X.K X.mg))) (hl : PO X lo (tX X.K X.mg RW dl pOpt)) (hh : PO X hi (tX X.K X.mg RW dh pOpt)) :
    PE X (.Subscript a (.Slice lo hi none p2) pos) (tX X.K X.mg RW (dSl slT da dl dh) (pVal X.K X.mg)) := PE.imp (pe_slice sl_tupA ha hl hh) fun σ H Q q => by
  refine tX.imp q fun B F0 z ow ρ m S h => Rem.step pVal.pm h fun dx m1 B1 z1 ow1 x H1 hB hz S1 px h1 => ?_
  refine ⟨B1, F0, z1, ow1, ρ, m1, S1, Rem.step pVal.pm h1 fun l m2 B2 z2 ow2 y H2 hB2 hz2 S2 py h2 => ?_⟩
  refine ⟨B2, F0, z2, ow2, ρ, m2, S2, Rem.step pVal.pm h2 fun u m3 B3 z3 ow3 w H3 hB3 hz3 S3 pw h3 => ?_⟩
  cases (show y = l from py)
  cases (show w = u from pw)
  cases dx with
  | tup ds =>
    have px' := look_mono (B' := B) (hB2.trans hB3) (hz2.trans hz3) px
    obtain ⟨p, xs, rfl, e, r⟩ := look_tup S3 px'
    have rx := look_rep px' (fun c => by cases c <;> simp [Cont.d])
    refine ⟨p, xs, rfl, e, fun hw => ?_, fun _ p hp => Rem.newTup (ds := cut ds l u) h3 S3 (reps_cut r) hp⟩
    rw [← r.len] at hw
    have h4 : Rem X.K X.mg RW (.ok (.tup (cut ds l u), m3)) B3 F0 z3 ρ σ (pVal X.K X.mg) Q := h3
    rw [cut_whole hw] at h4
    exact h4.here S3 rx
  | _ => exact h3.elim
/-! ### argument lists, displays -/
def dNil {α : Type} : Den (List α) := fun _ m => .ok ([], m)
def dCons {α : Type} (da : Den α) (dr : Den (List α)) : Den (List α) := fun ρ m => (da ρ m).bind fun x => (dr ρ x.2).bind fun xs => .ok (x.1 :: xs.1, xs.2)
theorem pad_nil : PA X [] (tX X.K X.mg RW dNil (pVals X.K X.mg)) := PA.imp pa_nil fun σ H Q ⟨B, F0, z, ow, ρ, m, S, h⟩ => h.here S .nil
theorem pad_cons {es : List Expr} {de : Den D} {dr : Den (List D)} (ha : PE X e (tX X.K X.mg RW de (pVal X.K X.mg))) (hr : PA X es (tX X.K X.mg RW dr (pVals X.K X.mg))) (hs : starEach (e :: es) X.env = (false, eval e X.env) :: starEach es X.env := by rfl) :
    PA X (e :: es) (tX X.K X.mg RW (dCons de dr) (pVals X.K X.mg)) := PA.imp (pa_cons ha hr hs) fun σ H Q q => by
  refine tX.imp q fun B F0 z ow ρ m S h => Rem.step pVals.pm h fun dx m1 B1 z1 ow1 x H1 hB hz S1 px h1 => ?_
  refine ⟨B1, F0, z1, ow1, ρ, m1, S1, Rem.step pVals.pm h1 fun ds m2 B2 z2 ow2 vs H2 hB2 hz2 S2 ps h2 => ?_⟩
  exact h2.here S2 (Reps.cons (Rep.le hz2 px) ps)
theorem pal_nil : PA X [] (tX X.K X.mg RW dNil (pLooks X.K X.mg)) := PA.imp pa_nil fun σ H Q ⟨B, F0, z, ow, ρ, m, S, h⟩ => h.here S ⟨rfl, fun i d v e => by simp at e⟩
theorem pal_cons {es : List Expr} {de : Den D} {dr : Den (List D)} (ha : PE X e (tX X.K X.mg RW de (pLook X.K X.mg))) (hr : PA X es (tX X.K X.mg RW dr (pLooks X.K X.mg))) (hs : starEach (e :: es) X.env = (false, eval e X.env) :: starEach es X.env := by rfl) :
    PA X (e :: es) (tX X.K X.mg RW (dCons de dr) (pLooks X.K X.mg)) := PA.imp (pa_cons ha hr hs) fun σ H Q q => by
  refine tX.imp q fun B F0 z ow ρ m S h => Rem.step pLooks.pm h fun dx m1 B1 z1 ow1 x H1 hB hz S1 px h1 => ?_
  refine ⟨B1, F0, z1, ow1, ρ, m1, S1, Rem.step pLooks.pm h1 fun ds m2 B2 z2 ow2 vs H2 hB2 hz2 S2 ps h2 => ?_⟩
  refine h2.here S2 ⟨by simp [ps.1], fun i d v e1 e2 => ?_⟩
  cases i with
  | zero =>
    simp at e1 e2
    subst e1 e2
    exact look_mono hB2 hz2 px
  | succ i => exact ps.2 i d v (by simpa using e1) (by simpa using e2)
def dTup (da : Den (List D)) : Den D := fun ρ m => (da ρ m).bind fun x => if x.1.length ≤ sizeLine then .ok (.tup x.1, x.2) else .bad
def dLst (da : Den (List D)) : Den Cont := fun ρ m => (da ρ m).bind fun x => if x.1.length ≤ sizeLine then .ok (.lst x.1, x.2) else .bad
theorem pd_tup {es : List Expr} {da : Den (List D)} {x1} (ha : PA X es (tX X.K X.mg RW da (pVals X.K X.mg))) : PE X (.Tuple es x1 pos) (tX X.K X.mg RW (dTup da) (pVal X.K X.mg)) :=
  PE.imp (pe_tup ha) fun σ H Q q => tX.imp q fun B F0 z ow ρ m S h => Rem.step pVal.pm h fun x m1 B1 z1 ow1 v H1 hB hz S1 px h1 => by
    dsimp only at h1
    split at h1
    · rename_i hl
      exact ⟨by rw [← Reps.len px]; exact hl, fun p hp => h1.newTup S1 px hp⟩
    · exact h1.elim
theorem pd_lst {es : List Expr} {da : Den (List D)} (ha : PA X es (tX X.K X.mg RW da (pVals X.K X.mg))) : PE X (.List es pos) (tX X.K X.mg RW (dLst da) (pNew X.K X.mg)) :=
  PE.imp (pe_lst ha) fun σ H Q q => tX.imp q fun B F0 z ow ρ m S h => Rem.step pNew.pm h fun x m1 B1 z1 ow1 v H1 hB hz S1 px h1 => by
    dsimp only at h1
    split at h1
    · rename_i hl
      exact ⟨by rw [← Reps.len px]; exact hl, fun p hp => h1.newLst S1 px hp⟩
    · exact h1.elim
/-! ### built-in functions -/
def oneArg {α : Type} (g : D → Res α) : List D → Res α
  | [x] => g x
  | _ => .bad
def twoArg {α : Type} (g : D → D → Res α) : List D → Res α
  | [x, y] => g x y
  | _ => .bad
def dCB {α : Type} (g : List D → Res α) (da : Den (List D)) : Den α := fun ρ m => (da ρ m).bind fun x => (g x.1).bind fun d => .ok (d, x.2)
/-- what a built-in does on looks -/
def CbR (X : Cx) (r : List V → Hp → VK → Prop) (g : List D → Res D) : Prop := ∀ {RW : WX} {B F0 : Hp} {z : Fz} {ow : Own} {ρ : List Slot} {m : List Ob} {σ : St} {H : Hp} {vs : List V} {ds : List D} {Q : VK},
  StOk X.K X.mg B F0 z ow ρ m σ H → pLooks X.K X.mg B B z ρ σ ds vs → Rem X.K X.mg RW ((g ds).bind fun d => .ok (d, m)) B F0 z ρ σ (pVal X.K X.mg) Q → r vs H Q
def CbN (X : Cx) (r : List V → Hp → VK → Prop) (g : List D → Res Cont) : Prop := ∀ {RW : WX} {B F0 : Hp} {z : Fz} {ow : Own} {ρ : List Slot} {m : List Ob} {σ : St} {H : Hp} {vs : List V} {ds : List D} {Q : VK},
  StOk X.K X.mg B F0 z ow ρ m σ H → pLooks X.K X.mg B B z ρ σ ds vs → Rem X.K X.mg RW ((g ds).bind fun d => .ok (d, m)) B F0 z ρ σ (pNew X.K X.mg) Q → r vs H Q
theorem looks_one {K : PySem.W.Frag} {mg : Str → Option Value} {z : Fz} {B B' : Hp} {ρ : List Slot} {σ : St} {d : D} {vs : List V} (h : pLooks K mg B' B z ρ σ [d] vs) : ∃ v, vs = [v] ∧ pLook K mg B B z ρ σ d v := by
  obtain ⟨hl, h⟩ := h
  match vs, hl with
  | [v], _ => exact ⟨v, rfl, h 0 d v rfl rfl⟩
theorem looks_two {K : PySem.W.Frag} {mg : Str → Option Value} {z : Fz} {B B' : Hp} {ρ : List Slot} {σ : St} {d e : D} {vs : List V} (h : pLooks K mg B' B z ρ σ [d, e] vs) : ∃ v w, vs = [v, w] ∧ pLook K mg B B z ρ σ d v ∧ pLook K mg B B z ρ σ e w := by
  obtain ⟨hl, h⟩ := h
  match vs, hl with
  | [v, w], _ => exact ⟨v, w, rfl, h 0 d v rfl rfl, h 1 e w rfl rfl⟩
theorem cb_step {r : List V → Hp → VK → Prop} {g : List D → Res D} (hg : CbR X r g) {da : Den (List D)} (σ : St) (H : Hp) (Q : VK) (q : tX X.K X.mg RW (dCB g da) (pVal X.K X.mg) σ H Q) : tCB r (tX X.K X.mg RW da (pLooks X.K X.mg)) σ H Q :=
  tX.imp q fun B F0 z ow ρ m S h => Rem.step pVal.pm h fun ds m1 B1 z1 ow1 vs H1 hB hz S1 px h1 => hg S1 px h1
theorem cb_stepN {r : List V → Hp → VK → Prop} {g : List D → Res Cont} (hg : CbN X r g) {da : Den (List D)} (σ : St) (H : Hp) (Q : VK) (q : tX X.K X.mg RW (dCB g da) (pNew X.K X.mg) σ H Q) : tCB r (tX X.K X.mg RW da (pLooks X.K X.mg)) σ H Q :=
  tX.imp q fun B F0 z ow ρ m S h => Rem.step pNew.pm h fun ds m1 B1 z1 ow1 vs H1 hB hz S1 px h1 => hg S1 px h1
theorem pd_callB {id : String} {x : Str} {p : Pos} {r : List V → Hp → VK → Prop} {g : List D → Res D} {es : List Expr} {da : Den (List D)} (hc : CallR X (.builtin id) r) (hg : CbR X r g) (hG : Gl X x) (hm : X.mg x = none) (hv : bootBuiltins x = some (.builtin id))
    (ha : PA X (e :: es) (tX X.K X.mg RW da (pLooks X.K X.mg))) (hn : x ≠ "__name__" := by decide) (hdb : (x == ("__debug__" : Str)) = false := by decide)
    (he : starEach (e :: es) X.env = (false, eval e X.env) :: starEach es X.env := by rfl) (hpl : (backTo pos (starEach es X.env)).any (·.1) = false := by rfl) :
    PE X (.Call (.Name x p) (e :: es) [] pos) (tX X.K X.mg RW (dCB g da) (pVal X.K X.mg)) := PE.imp (pe_callB hc hG hm hv ha hn hdb he hpl) (cb_step hg)
theorem pd_callTy {T : String} {x : Str} {p : Pos} {r : List V → Hp → VK → Prop} {g : List D → Res D} {es : List Expr} {da : Den (List D)} (hc : CallR X (.type T) r) (hg : CbR X r g) (hG : Gl X x) (hm : X.mg x = none) (hv : bootBuiltins x = some (.type T))
    (ha : PA X (e :: es) (tX X.K X.mg RW da (pLooks X.K X.mg))) (hn : x ≠ "__name__" := by decide) (hdb : (x == ("__debug__" : Str)) = false := by decide)
    (he : starEach (e :: es) X.env = (false, eval e X.env) :: starEach es X.env := by rfl) (hpl : (backTo pos (starEach es X.env)).any (·.1) = false := by rfl) :
    PE X (.Call (.Name x p) (e :: es) [] pos) (tX X.K X.mg RW (dCB g da) (pVal X.K X.mg)) := PE.imp (pe_callTy hc hG hm hv ha hn hdb he hpl) (cb_step hg)
theorem pd_callTyN {T : String} {x : Str} {p : Pos} {r : List V → Hp → VK → Prop} {g : List D → Res Cont} {es : List Expr} {da : Den (List D)} (hc : CallR X (.type T) r) (hg : CbN X r g) (hG : Gl X x) (hm : X.mg x = none) (hv : bootBuiltins x = some (.type T))
    (ha : PA X (e :: es) (tX X.K X.mg RW da (pLooks X.K X.mg))) (hn : x ≠ "__name__" := by decide) (hdb : (x == ("__debug__" : Str)) = false := by decide)
    (he : starEach (e :: es) X.env = (false, eval e X.env) :: starEach es X.env := by rfl) (hpl : (backTo pos (starEach es X.env)).any (·.1) = false := by rfl) :
    PE X (.Call (.Name x p) (e :: es) [] pos) (tX X.K X.mg RW (dCB g da) (pNew X.K X.mg)) := PE.imp (pe_callTy hc hG hm hv ha hn hdb he hpl) (cb_stepN hg)
def lenD : D → Res D
  | .lst xs => .ok (.int xs.length)
  | .tup xs => .ok (.int xs.length)
  | _ => .bad
theorem len_r : CbR X (fun xs H Q => ∃ p ys, xs = [.ref p] ∧ (SqL X.K H p ys ∨ SqT X.K H p ys) ∧ Q (.int ys.length) H) (oneArg lenD) := by
  intro RW B F0 z ow ρ m σ H vs ds Q S px h
  match ds, h with
  | [d], h =>
    obtain ⟨v, rfl, p⟩ := looks_one px
    cases d with
    | lst xs =>
      obtain ⟨a, ys, rfl, e, r⟩ := look_list S p
      exact ⟨a, ys, rfl, .inl (SqL.of e), by rw [← r.len]; exact h.here S (rep_int.mpr rfl)⟩
    | tup xs =>
      obtain ⟨a, ys, rfl, e, r⟩ := look_tup S p
      exact ⟨a, ys, rfl, .inr e, by rw [← r.len]; exact h.here S (rep_int.mpr rfl)⟩
    | _ => exact h.elim
  | [], h => exact h.elim
  | _ :: _ :: _, h => exact h.elim
def intD : D → Res D
  | .int i => .ok (.int i)
  | .bl b => .ok (.int (if b then 1 else 0))
  | _ => .bad
theorem int_r : CbR X (fun xs H Q => (∃ i, xs = [.int i] ∧ Q (.int i) H) ∨ ∃ k, xs = [.bl k] ∧ Q (.int (if k then 1 else 0)) H) (oneArg intD) := by
  intro RW B F0 z ow ρ m σ H vs ds Q S px h
  match ds, h with
  | [d], h =>
    obtain ⟨v, rfl, p⟩ := looks_one px
    cases d with
    | int i => exact .inl ⟨i, by rw [look_int p], h.here S (rep_int.mpr rfl)⟩
    | bl i => exact .inr ⟨i, by rw [look_bl p], h.here S (rep_int.mpr rfl)⟩
    | _ => exact h.elim
  | [], h => exact h.elim
  | _ :: _ :: _, h => exact h.elim
def max2D : D → D → Res D
  | .int i, .int j => .ok (.int (if j > i then j else i))
  | _, _ => .bad
def min2D : D → D → Res D
  | .int i, .int j => .ok (.int (if j < i then j else i))
  | _, _ => .bad
theorem max2_r : CbR X (fun xs H Q => ∃ i j, xs = [.int i, .int j] ∧ Q (.int (if j > i then j else i)) H) (twoArg max2D) := by
  intro RW B F0 z ow ρ m σ H vs ds Q S px h
  match ds, h with
  | [d, e], h =>
    obtain ⟨v, w, rfl, p, q⟩ := looks_two px
    cases d with
    | int i => cases e with
      | int j => exact ⟨i, j, by rw [look_int p, look_int q], h.here S (rep_int.mpr rfl)⟩
      | _ => exact h.elim
    | _ => exact h.elim
  | [], h => exact h.elim
  | [_], h => exact h.elim
  | _ :: _ :: _ :: _, h => exact h.elim
theorem min2_r : CbR X (fun xs H Q => ∃ i j, xs = [.int i, .int j] ∧ Q (.int (if j < i then j else i)) H) (twoArg min2D) := by
  intro RW B F0 z ow ρ m σ H vs ds Q S px h
  match ds, h with
  | [d, e], h =>
    obtain ⟨v, w, rfl, p, q⟩ := looks_two px
    cases d with
    | int i => cases e with
      | int j => exact ⟨i, j, by rw [look_int p, look_int q], h.here S (rep_int.mpr rfl)⟩
      | _ => exact h.elim
    | _ => exact h.elim
  | [], h => exact h.elim
  | [_], h => exact h.elim
  | _ :: _ :: _ :: _, h => exact h.elim
/-- ints of data -/
def ints? : List D → Option (List Int)
  | [] => some []
  | .int i :: r => (ints? r).map (i :: ·)
  | _ :: _ => none
theorem ints?_eq : ∀ {ds : List D} {ns : List Int}, ints? ds = some ns → ds = ns.map D.int
  | [], ns, h => by cases h; rfl
  | d :: r, ns, h => by
    cases d with
    | int i =>
      simp only [ints?, Option.map_eq_some_iff] at h
      obtain ⟨ms, e, rfl⟩ := h
      rw [ints?_eq e]
      rfl
    | _ => simp [ints?] at h
theorem ints?_map (ns : List Int) : ints? (ns.map D.int) = some ns := by
  induction ns with
  | nil => rfl
  | cons n ns ih => simp [ints?, ih]
def sumD : D → Res D
  | .lst xs => match ints? xs with
    | some ns => .ok (.int ns.sum)
    | none => .bad
  | _ => .bad
theorem sum_r : CbR X (rSum X.K) (oneArg sumD) := by
  intro RW B F0 z ow ρ m σ H vs ds Q S px h
  match ds, h with
  | [d], h =>
    obtain ⟨v, rfl, p⟩ := looks_one px
    cases d with
    | lst xs =>
      dsimp only [oneArg, sumD] at h
      cases hn : ints? xs with
      | none => rw [hn] at h; exact h.elim
      | some ns =>
        rw [hn] at h
        cases ints?_eq hn
        obtain ⟨a, ys, rfl, e, r⟩ := look_list S p
        cases r.ints
        exact ⟨a, ns, rfl, SqL.of e, h.here S (rep_int.mpr rfl)⟩
    | _ => exact h.elim
  | [], h => exact h.elim
  | _ :: _ :: _, h => exact h.elim
/-- the greatest, the least -/
def maxI : Int → List Int → Int
  | a, [] => a
  | a, b :: r => maxI (if b > a then b else a) r
def minI : Int → List Int → Int
  | a, [] => a
  | a, b :: r => minI (if b < a then b else a) r
theorem maxI_spec : ∀ (r : List Int) (a : Int), (maxI a r = a ∨ maxI a r ∈ r) ∧ a ≤ maxI a r ∧ ∀ y ∈ r, y ≤ maxI a r
  | [], a => ⟨.inl rfl, Int.le_refl _, fun y h => by simp at h⟩
  | b :: r, a => by
    obtain ⟨h1, h2, h3⟩ := maxI_spec r (if b > a then b else a)
    simp only [maxI]
    refine ⟨?_, ?_, fun y hy => ?_⟩
    · rcases h1 with h1 | h1
      · rw [h1]; split <;> simp
      · exact .inr (List.mem_cons_of_mem _ h1)
    · refine Int.le_trans ?_ h2; split <;> omega
    · rcases List.mem_cons.mp hy with rfl | hy
      · refine Int.le_trans ?_ h2; split <;> omega
      · exact h3 y hy
theorem minI_spec : ∀ (r : List Int) (a : Int), (minI a r = a ∨ minI a r ∈ r) ∧ minI a r ≤ a ∧ ∀ y ∈ r, minI a r ≤ y
  | [], a => ⟨.inl rfl, Int.le_refl _, fun y h => by simp at h⟩
  | b :: r, a => by
    obtain ⟨h1, h2, h3⟩ := minI_spec r (if b < a then b else a)
    simp only [minI]
    refine ⟨?_, ?_, fun y hy => ?_⟩
    · rcases h1 with h1 | h1
      · rw [h1]; split <;> simp
      · exact .inr (List.mem_cons_of_mem _ h1)
    · refine Int.le_trans h2 ?_; split <;> omega
    · rcases List.mem_cons.mp hy with rfl | hy
      · refine Int.le_trans h2 ?_; split <;> omega
      · exact h3 y hy
def maxLD : D → Res D
  | .lst xs => match ints? xs with
    | some (n :: ns) => .ok (.int (maxI n ns))
    | _ => .bad
  | _ => .bad
def minLD : D → Res D
  | .lst xs => match ints? xs with
    | some (n :: ns) => .ok (.int (minI n ns))
    | _ => .bad
  | _ => .bad
theorem maxL_r : CbR X (rMax X.K) (oneArg maxLD) := by
  intro RW B F0 z ow ρ m σ H vs ds Q S px h
  match ds, h with
  | [d], h =>
    obtain ⟨v, rfl, p⟩ := looks_one px
    cases d with
    | lst xs =>
      dsimp only [oneArg, maxLD] at h
      cases hn : ints? xs with
      | none => rw [hn] at h; exact h.elim
      | some ns =>
        rw [hn] at h
        cases ints?_eq hn
        cases ns with
        | nil => exact h.elim
        | cons n ns =>
          obtain ⟨a, ys, rfl, e, r⟩ := look_list S p
          cases r.ints
          refine ⟨a, n :: ns, rfl, SqL.of e, by simp, fun w h1 h2 => ?_⟩
          obtain ⟨m1, m2, m3⟩ := maxI_spec ns n
          have e1 : w = maxI n ns := by
            have a1 : w ≤ maxI n ns := by
              rcases List.mem_cons.mp h1 with rfl | h1
              · exact m2
              · exact m3 _ h1
            have a2 : maxI n ns ≤ w := by
              rcases m1 with q | q
              · rw [q]; exact h2 _ (by simp)
              · exact h2 _ (List.mem_cons_of_mem _ q)
            omega
          rw [e1]
          exact h.here S (rep_int.mpr rfl)
    | _ => exact h.elim
  | [], h => exact h.elim
  | _ :: _ :: _, h => exact h.elim
theorem minL_r : CbR X (rMin X.K) (oneArg minLD) := by
  intro RW B F0 z ow ρ m σ H vs ds Q S px h
  match ds, h with
  | [d], h =>
    obtain ⟨v, rfl, p⟩ := looks_one px
    cases d with
    | lst xs =>
      dsimp only [oneArg, minLD] at h
      cases hn : ints? xs with
      | none => rw [hn] at h; exact h.elim
      | some ns =>
        rw [hn] at h
        cases ints?_eq hn
        cases ns with
        | nil => exact h.elim
        | cons n ns =>
          obtain ⟨a, ys, rfl, e, r⟩ := look_list S p
          cases r.ints
          refine ⟨a, n :: ns, rfl, SqL.of e, by simp, fun w h1 h2 => ?_⟩
          obtain ⟨m1, m2, m3⟩ := minI_spec ns n
          have e1 : w = minI n ns := by
            have a1 : minI n ns ≤ w := by
              rcases List.mem_cons.mp h1 with rfl | h1
              · exact m2
              · exact m3 _ h1
            have a2 : w ≤ minI n ns := by
              rcases m1 with q | q
              · rw [q]; exact h2 _ (by simp)
              · exact h2 _ (List.mem_cons_of_mem _ q)
            omega
          rw [e1]
          exact h.here S (rep_int.mpr rfl)
    | _ => exact h.elim
  | [], h => exact h.elim
  | _ :: _ :: _, h => exact h.elim
def listN : D → Res Cont
  | .lst xs => .ok (.lst xs)
  | .tup xs => .ok (.lst xs)
  | _ => .bad
theorem list_r : CbN X (fun xs H Q => ∃ p ys, xs = [.ref p] ∧ (SqL X.K H p ys ∨ SqT X.K H p ys) ∧ ∀ l, H l = none → Q (.ref l) (upd H l (.lst ys))) (oneArg listN) := by
  intro RW B F0 z ow ρ m σ H vs ds Q S px h
  match ds, h with
  | [d], h =>
    obtain ⟨v, rfl, p⟩ := looks_one px
    cases d with
    | lst xs =>
      obtain ⟨a, ys, rfl, e, r⟩ := look_list S p
      exact ⟨a, ys, rfl, .inl (SqL.of e), fun l hl => Rem.newLst (ds := xs) h S r hl⟩
    | tup xs =>
      obtain ⟨a, ys, rfl, e, r⟩ := look_tup S p
      exact ⟨a, ys, rfl, .inr e, fun l hl => Rem.newLst (ds := xs) h S r hl⟩
    | _ => exact h.elim
  | [], h => exact h.elim
  | _ :: _ :: _, h => exact h.elim
def tupleD : D → Res D
  | .lst xs => .ok (.tup xs)
  | .tup xs => .ok (.tup xs)
  | _ => .bad
theorem tuple_r : CbR X (fun xs H Q => ∃ p ys, xs = [.ref p] ∧ ((SqL X.K H p ys ∧ ∀ l, H l = none → Q (.ref l) (upd H l (.tup ys))) ∨ (SqT X.K H p ys ∧ Q (.ref p) H))) (oneArg tupleD) := by
  intro RW B F0 z ow ρ m σ H vs ds Q S px h
  match ds, h with
  | [d], h =>
    obtain ⟨v, rfl, p⟩ := looks_one px
    cases d with
    | lst xs =>
      obtain ⟨a, ys, rfl, e, r⟩ := look_list S p
      exact ⟨a, ys, rfl, .inl ⟨SqL.of e, fun l hl => Rem.newTup (ds := xs) h S r hl⟩⟩
    | tup xs =>
      obtain ⟨a, ys, rfl, e, r⟩ := look_tup S p
      refine ⟨a, ys, rfl, .inr ⟨e, h.here S ?_⟩⟩
      exact look_rep p (fun c => by cases c <;> simp [Cont.d])
    | _ => exact h.elim
  | [], h => exact h.elim
  | _ :: _ :: _, h => exact h.elim
end
end PD
namespace PD
open PySem PySem.Spec PyProof.Rows L2
/-! ### defs: what is promised -/
abbrev FDen := List D → List Ob → Res (D × List Ob)
def spF (K : PySem.W.Frag) (mg : Str → Option Value) (n : Nat) (f : FDen) : Sp := fun vs H Q E => vs.length = n ∧ ∃ B F0 z ow m ds, StOk K mg B F0 z ow [] m [] H ∧ Reps K mg z ds vs ∧ match f ds m with
  | .ok (d, m') => ∀ z' ow' v H', z.le z' → StOk K mg B F0 z' ow' [] m' [] H' → Rep K mg z' d v → Q v H'
  | .err x m' => ∀ z' ow' cv dd H', z.le z' → StOk K mg B F0 z' ow' [] m' [] H' → ExcAt mg x cv dd z'.F → E cv dd H'
  | .bad => False
structure Fd (P : Program) (w : World) (K : PySem.W.Frag) (mg : Str → Option Value) (base : Heap) (x : Str) (k n : Nat) (f : FDen) : Prop where
  ex : ∃ a fd ps, FnOk P w K mg base (L2.CX P w) k a fd ps (spF K mg n f) ∧ mg x = some (.ref a) ∧ PySem.W.keepIn K (.ref a) = true ∧ Binds K fd ps []
section
variable {K : PySem.W.Frag} {mg : Str → Option Value} {RW : WX} {z z' z1 z2 : Fz} {B B' B1 B2 F0 F1 : Hp} {ow ow' ow1 : Own} {ρ : List Slot} {m m' m1 : List Ob} {σ : St} {H H' H1 : Hp}
/-- what a callee must leave: all but the store's things -/
def calleeB (ow : Own) (H : Hp) : Hp := fun a => match ow a with
  | some (.inr _) => none
  | _ => H a
def calleeO (ow : Own) : Own := fun a => match ow a with
  | some (.inr n) => some (.inr n)
  | _ => none
theorem StOk.enter (S : StOk K mg B F0 z ow ρ m σ H) : StOk K mg (calleeB ow H) z.F z (calleeO ow) [] m [] H where
  fh := S.fh
  bh := fun a o e => by
    unfold calleeB at e
    split at e
    · cases e
    · exact e
  f0 := Same.refl _
  new := fun a e => .inl e
  len := rfl
  slot := fun i s e => by simp at e
  ol := S.ol
  ob := fun n o e => by
    obtain ⟨fp, e1, q⟩ := S.ob n o e
    exact ⟨fp, e1, q.mono (Fz.le.refl _) (fun a h => by unfold calleeO; rw [h]) fun _ _ _ h => h⟩
  ow := fun a o e => by
    unfold calleeO at e
    split at e
    · rename_i n hn
      cases e
      obtain ⟨h1, h2, h3⟩ := S.ow a _ hn
      exact ⟨h1, by unfold calleeB; rw [hn], h3⟩
    · cases e
theorem StOk.leave (S : StOk K mg B F0 z ow ρ m σ H) (hz : z.le z') (S' : StOk K mg (calleeB ow H) z.F z' ow' [] m' [] H') : ∃ ow'', StOk K mg B F0 z' ow'' ρ m' σ H' := by
  have hcb : ∀ a, calleeB ow H a = none → B a = none := fun a e => by
    cases q : B a with
    | none => rfl
    | some o =>
      have hH := S.bh a o q
      cases r : ow a with
      | none => unfold calleeB at e; rw [r] at e; rw [hH] at e; cases e
      | some u => rw [(S.ow a u r).2.1] at q; cases q
  have hinl : ∀ a i, ow a = some (.inl i) → calleeB ow H a = H a ∧ H a ≠ none := fun a i e => ⟨by unfold calleeB; rw [e], (S.ow a _ e).2.2⟩
  have hno : ∀ a i, ow a = some (.inl i) → ow' a = none := fun a i e => by
    cases q : ow' a with
    | none => rfl
    | some u =>
      obtain ⟨h1, h2⟩ := hinl a i e
      rw [(S'.ow a u q).2.1] at h1
      exact absurd h1.symm h2
  have hB' : Same B H' := fun a o e => by
    have hH := S.bh a o e
    refine S'.bh a o ?_
    unfold calleeB
    cases r : ow a with
    | none => exact hH
    | some u => rw [(S.ow a u r).2.1] at e; cases e
  refine ⟨fun a => match ow a with
    | some (.inl i) => some (.inl i)
    | _ => (match ow' a with
      | some (.inr n) => some (.inr n)
      | _ => none), ⟨S'.fh, hB', S.f0.trans hz.1, fun a e => ?_, S.len, fun i s e => ?_, S'.ol, fun n o e => ?_, fun a o e => ?_⟩⟩
  · rcases S'.new a e with q | q
    · exact S.new a q
    · exact .inr (hcb a q)
  · have q := S.slot i s e
    cases s with
    | non => trivial
    | exc a d x => exact ExcSl.le hz q
    | sh d => obtain ⟨x, e1, r⟩ := q; exact ⟨x, e1, r.le hz⟩
    | own c =>
      obtain ⟨a, o, e1, e2, c1, w⟩ := q
      refine ⟨a, o, e1, S'.bh a o ?_, c1.le hz, ?_⟩
      · rw [(hinl a i w).1]; exact e2
      · simp only [w]
  · obtain ⟨fp, e1, q⟩ := S'.ob n o e
    refine ⟨fp, e1, q.mono (Fz.le.refl _) (fun a h => ?_) fun _ _ _ h => h⟩
    have hn : ∀ i, ow a ≠ some (.inl i) := fun i w => by rw [hno a i w] at h; cases h
    simp only [h]
  · split at e
    · rename_i i hi
      cases e
      obtain ⟨h1, h2⟩ := hinl a i hi
      obtain ⟨g1, g2, g3⟩ := S.ow a _ hi
      have hb : calleeB ow H a ≠ none := by rw [h1]; exact h2
      refine ⟨?_, g2, ?_⟩
      · cases q : z'.F a with
        | none => rfl
        | some o =>
          rcases S'.new a (by rw [q]; simp) with r | r
          · exact absurd g1 r
          · exact absurd r hb
      · cases q : H a with
        | none => exact absurd q h2
        | some o => rw [S'.bh a o (by rw [h1]; exact q)]; simp
    · split at e
      · rename_i n hn
        cases e
        obtain ⟨g1, g2, g3⟩ := S'.ow a _ hn
        exact ⟨g1, hcb a g2, g3⟩
      · cases e
/-- the slots are forgotten -/
theorem StOk.forget (S : StOk K mg B F0 z ow ρ m σ H) : StOk K mg B F0 z ow [] m [] H :=
  ⟨S.fh, S.bh, S.f0, S.new, rfl, fun i s e => by simp at e, S.ol, S.ob, S.ow⟩
end
def dCall (f : FDen) (da : Den (List D)) : Den D := fun ρ m => (da ρ m).bind fun x => f x.1 x.2
section
variable {X : Cx} {RW : WX} {e : Expr}
theorem pd_call {x : Str} {k n : Nat} {f : FDen} {es : List Expr} {da : Den (List D)} {p pos : Pos} (F : Fd X.prog X.w X.K X.mg X.base x k n f) (hr : Room k X.A) (tk : Takes X RW) (hg : Gl X x) (ha : PA X (e :: es) (tX X.K X.mg RW da (pVals X.K X.mg)))
    (hn : ∀ ρ m xs m', da ρ m = .ok (xs, m') → xs.length = n) (hdb : (x == ("__debug__" : Str)) = false := by decide) (he : starEach (e :: es) X.env = (false, eval e X.env) :: starEach es X.env := by rfl) (hpl : (backTo pos (starEach es X.env)).any (·.1) = false := by rfl) :
    PE X (.Call (.Name x p) (e :: es) [] pos) (tX X.K X.mg RW (dCall f da) (pVal X.K X.mg)) := by
  obtain ⟨a, fd, ps, F, hm, hk, hb⟩ := F.ex
  refine PE.imp (pe_callS (E := WE RW) F hr hg hm hk hb (fun σ => passAt tk σ) ha hdb he hpl) fun σ H Q q => ?_
  obtain ⟨B, F0, z, ow, ρ, m, S, h⟩ := q
  refine ⟨B, F0, z, ow, ρ, m, S, ?_⟩
  have hlen := hn ρ m
  unfold dCall at h
  cases hd : da ρ m with
  | bad => rw [hd] at h; exact h
  | err x m' => rw [hd] at h; exact h
  | ok r =>
    obtain ⟨ds, m1⟩ := r
    rw [hd] at h
    intro B1 z1 ow1 vs H1 hB hz S1 pv
    refine ⟨by rw [← Reps.len pv]; exact hlen ds m1 hd, calleeB ow1 H1, z1.F, z1, calleeO ow1, m1, ds, S1.enter, pv, ?_⟩
    have h : Rem X.K X.mg RW (f ds m1) B F0 z ρ σ (pVal X.K X.mg) Q := h
    cases hf : f ds m1 with
    | bad => rw [hf] at h; exact h
    | ok r =>
      obtain ⟨d, m2⟩ := r
      rw [hf] at h
      intro z2 ow2 v H2 hz2 S2 rv
      obtain ⟨ow3, S3⟩ := S1.leave hz2 S2
      exact h B1 z2 ow3 v H2 hB (hz.trans hz2) S3 rv
    | err x m2 =>
      rw [hf] at h
      intro z2 ow2 cv dd H2 hz2 S2 ex
      obtain ⟨ow3, S3⟩ := S1.leave hz2 S2
      exact h z2 ow3 cv dd H2 (hz.trans hz2) (S3.weak hB) ex
end
/-! ### statements -/
inductive Out where
  | nx (ρ : List Slot) (m : List Ob) | rt (d : D) (m : List Ob) | bk (ρ : List Slot) (m : List Ob) | ct (ρ : List Slot) (m : List Ob) | er (x : Exn) (ρ : List Slot) (m : List Ob) | bad
abbrev SDen := List Slot → List Ob → Out
section
variable (K : PySem.W.Frag) (mg : Str → Option Value) (RW : WX)
def RemS (o : Out) (B F0 : Hp) (z : Fz) (D : Ends) : Prop := match o with
  | .nx ρ' m' => ∀ z' ow' σ' H', z.le z' → StOk K mg B F0 z' ow' ρ' m' σ' H' → D.nx σ' H'
  | .rt d m' => ∀ z' ow' v H', z.le z' → StOk K mg B F0 z' ow' [] m' [] H' → Rep K mg z' d v → D.rt v H'
  | .bk ρ' m' => ∀ z' ow' σ' H', z.le z' → StOk K mg B F0 z' ow' ρ' m' σ' H' → D.bk σ' H'
  | .ct ρ' m' => ∀ z' ow' σ' H', z.le z' → StOk K mg B F0 z' ow' ρ' m' σ' H' → D.ct σ' H'
  | .er x ρ' m' => ∀ z' ow' σ' cv dd H', z.le z' → StOk K mg B F0 z' ow' ρ' m' σ' H' → ExcAt mg x cv dd z'.F → RW cv dd σ' H'
  | .bad => False
def tB (den : SDen) : TS := fun D σ H => ∃ B F0 z ow ρ m, StOk K mg B F0 z ow ρ m σ H ∧ RemS K mg RW (den ρ m) B F0 z D
end
/-- an expression's result, gone on with -/
def bindS {α : Type} (r : Res (α × List Ob)) (ρ : List Slot) (k : α → List Ob → Out) : Out := match r with
  | .ok (a, m') => k a m'
  | .err x m' => .er x ρ m'
  | .bad => .bad
section
variable {K : PySem.W.Frag} {mg : Str → Option Value} {RW : WX} {z z' z1 z2 : Fz} {B B' B1 B2 F0 : Hp} {ow ow' ow1 : Own} {ρ : List Slot} {m m1 : List Ob} {σ : St} {H H' H1 : Hp} {D : Ends}
theorem RemS.mono {o : Out} (hz : z.le z1) (h : RemS K mg RW o B F0 z D) : RemS K mg RW o B F0 z1 D := by
  cases o with
  | nx ρ' m' => exact fun z' ow' σ' H' q => h z' ow' σ' H' (hz.trans q)
  | rt d m' => exact fun z' ow' v H' q => h z' ow' v H' (hz.trans q)
  | bk ρ' m' => exact fun z' ow' σ' H' q => h z' ow' σ' H' (hz.trans q)
  | ct ρ' m' => exact fun z' ow' σ' H' q => h z' ow' σ' H' (hz.trans q)
  | er x ρ' m' => exact fun z' ow' σ' cv dd H' q => h z' ow' σ' cv dd H' (hz.trans q)
  | bad => exact h
theorem Rem.stepS {α β : Type} {r : Res (α × List Ob)} {k : α → List Ob → Out} {P1 : Post α β} {Q1 : β → Hp → Prop} (h : RemS K mg RW (bindS r ρ k) B F0 z D)
    (g : ∀ a m1 B1 z1 ow1 v H1, Same B B1 → z.le z1 → StOk K mg B1 F0 z1 ow1 ρ m1 σ H1 → P1 B B1 z1 ρ σ a v → RemS K mg RW (k a m1) B F0 z1 D → Q1 v H1) : Rem K mg RW r B F0 z ρ σ P1 Q1 := by
  cases r with
  | ok a =>
    obtain ⟨d, m'⟩ := a
    intro B1 z1 ow1 v H1 hB hz S p
    exact g d m' B1 z1 ow1 v H1 hB hz S p (RemS.mono hz h)
  | err x m' => exact fun z' ow' cv dd H' hz S e => h z' ow' σ cv dd H' hz S e
  | bad => exact h
end
def thenS (a b : SDen) : SDen := fun ρ m => match a ρ m with
  | .nx ρ' m' => b ρ' m'
  | o => o
def skipS : SDen := fun ρ m => .nx ρ m
section
variable {X : Cx} {RW : WX} {e c : Expr} {pos : Pos}
theorem sd_nil : PSs X [] (tB X.K X.mg RW skipS) := PSs.imp pss_nil fun D σ H ⟨B, F0, z, ow, ρ, m, S, h⟩ => h z ow σ H (Fz.le.refl _) S
theorem seq_step {a b : SDen} (D : Ends) (σ : St) (H : Hp) (q : tB X.K X.mg RW (thenS a b) D σ H) : tSeq (tB X.K X.mg RW a) (tB X.K X.mg RW b) D σ H := by
  obtain ⟨B, F0, z, ow, ρ, m, S, h⟩ := q
  refine ⟨B, F0, z, ow, ρ, m, S, ?_⟩
  unfold thenS at h
  cases ha : a ρ m with
  | nx ρ' m' =>
    rw [ha] at h
    exact fun z' ow' σ' H' hz S' => ⟨B, F0, z', ow', ρ', m', S', RemS.mono hz h⟩
  | rt d m' => rw [ha] at h; exact h
  | bk ρ' m' => rw [ha] at h; exact h
  | ct ρ' m' => rw [ha] at h; exact h
  | er x ρ' m' => rw [ha] at h; exact h
  | bad => rw [ha] at h; exact h
theorem sd_cons {st : Stmt} {rest : List Stmt} {a b : SDen} (ha : PS X st (tB X.K X.mg RW a)) (hb : PSs X rest (tB X.K X.mg RW b)) : PSs X (st :: rest) (tB X.K X.mg RW (thenS a b)) := PSs.imp (pss_cons ha hb) seq_step
theorem sd_one {st : Stmt} {a : SDen} (ha : PS X st (tB X.K X.mg RW a)) : PSs X [st] (tB X.K X.mg RW a) := pss_one ha
theorem sd_pass : PS X (.Pass pos) (tB X.K X.mg RW skipS) := PS.imp ps_pass fun D σ H ⟨B, F0, z, ow, ρ, m, S, h⟩ => h z ow σ H (Fz.le.refl _) S
theorem sd_break : PS X (.Break pos) (tB X.K X.mg RW fun ρ m => .bk ρ m) := PS.imp ps_break fun D σ H ⟨B, F0, z, ow, ρ, m, S, h⟩ => h z ow σ H (Fz.le.refl _) S
theorem sd_continue : PS X (.Continue pos) (tB X.K X.mg RW fun ρ m => .ct ρ m) := PS.imp ps_continue fun D σ H ⟨B, F0, z, ow, ρ, m, S, h⟩ => h z ow σ H (Fz.le.refl _) S
theorem sd_doc {x j pos'} : PS X (.Expr (.Constant (.str x) j pos) pos') (tB X.K X.mg RW skipS) := PS.imp ps_doc fun D σ H ⟨B, F0, z, ow, ρ, m, S, h⟩ => h z ow σ H (Fz.le.refl _) S
def retS (de : Den D) : SDen := fun ρ m => bindS (de ρ m) ρ fun d m' => .rt d m'
theorem sd_ret {de : Den D} (h : PE X e (tX X.K X.mg RW de (pVal X.K X.mg))) : PS X (.Return (some e) pos) (tB X.K X.mg RW (retS de)) :=
  PS.imp (ps_ret h) fun D σ H ⟨B, F0, z, ow, ρ, m, S, q⟩ => ⟨B, F0, z, ow, ρ, m, S, Rem.stepS q fun d m1 B1 z1 ow1 v H1 hB hz S1 p q1 => q1 z1 ow1 v H1 (Fz.le.refl _) (S1.weak hB).forget p⟩
theorem sd_retN : PS X (.Return none pos) (tB X.K X.mg RW fun _ m => .rt .non m) := PS.imp ps_retN fun D σ H ⟨B, F0, z, ow, ρ, m, S, q⟩ => q z ow .non H (Fz.le.refl _) S.forget (rep_non.mpr rfl)
def exprS {α : Type} (de : Den α) : SDen := fun ρ m => bindS (de ρ m) ρ fun _ m' => .nx ρ m'
theorem sd_expr {de : Den D} (h : PE X e (tX X.K X.mg RW de (pVal X.K X.mg))) (hs : swapsWith e none pos.line X.env = pure false := by rfl) : PS X (.Expr e pos) (tB X.K X.mg RW (exprS de)) :=
  PS.imp (ps_expr h hs) fun D σ H ⟨B, F0, z, ow, ρ, m, S, q⟩ => ⟨B, F0, z, ow, ρ, m, S, Rem.stepS q fun d m1 B1 z1 ow1 v H1 hB hz S1 p q1 => q1 z1 ow1 σ H1 (Fz.le.refl _) (S1.weak hB)⟩
def ifS (dc : Den Bool) (a b : SDen) : SDen := fun ρ m => bindS (dc ρ m) ρ fun c m' => match c with
  | true => a ρ m'
  | false => b ρ m'
theorem sd_if {dc : Den Bool} {a b : SDen} {sa sb : List Stmt} (hc : PT X c (tX X.K X.mg RW dc pTest)) (ha : PSs X sa (tB X.K X.mg RW a)) (hb : PSs X sb (tB X.K X.mg RW b)) : PS X (.If c sa sb pos) (tB X.K X.mg RW (ifS dc a b)) :=
  PS.imp (ps_if hc ha hb) fun D σ H ⟨B, F0, z, ow, ρ, m, S, q⟩ => ⟨B, F0, z, ow, ρ, m, S, Rem.stepS q fun d m1 B1 z1 ow1 v H1 hB hz S1 p q1 => by
    cases (show v = d from p)
    cases d with
    | true => exact iteT ⟨B, F0, z1, ow1, ρ, m1, S1.weak hB, q1⟩
    | false => exact iteF ⟨B, F0, z1, ow1, ρ, m1, S1.weak hB, q1⟩⟩
/-! ### stores -/
def setS (i : Nat) (de : Den D) : SDen := fun ρ m => bindS (de ρ m) ρ fun d m' => .nx (ρ.set i (.sh d)) m'
def setN (i : Nat) (de : Den Cont) : SDen := fun ρ m => bindS (de ρ m) ρ fun c m' => .nx (ρ.set i (.own c)) m'
theorem StOk.takeNew {K : PySem.W.Frag} {mg : Str → Option Value} {z : Fz} {B B1 F0 : Hp} {ow : Own} {ρ : List Slot} {m : List Ob} {σ : St} {H : Hp} {i : Nat} {c : Cont} {v : V} (S : StOk K mg B1 F0 z ow ρ m σ H) (hB : Same B B1) (p : pNew K mg B B1 z ρ σ c v) :
    ∃ ow', StOk K mg B F0 z ow' (ρ.set i (.own c)) m (σ.set i (some v)) H := by
  obtain ⟨p, o, rfl, h1, h2, h3, h4⟩ := p
  exact ⟨_, (S.weak hB).setOwn (S.bh _ _ h2) h3 h1 (S.noown h2) h4⟩
theorem set_step {i : Nat} {de : Den D} (D : Ends) (σ : St) (H : Hp) (q : tB X.K X.mg RW (setS i de) D σ H) : tAsg (tX X.K X.mg RW de (pVal X.K X.mg)) (gName i) D σ H := by
  obtain ⟨B, F0, z, ow, ρ, m, S, q⟩ := q
  exact ⟨B, F0, z, ow, ρ, m, S, Rem.stepS q fun d m1 B1 z1 ow1 v H1 hB hz S1 p q1 => q1 z1 _ _ H1 (Fz.le.refl _) ((S1.weak hB).setSh p)⟩
theorem setN_step {i : Nat} {de : Den Cont} (D : Ends) (σ : St) (H : Hp) (q : tB X.K X.mg RW (setN i de) D σ H) : tAsg (tX X.K X.mg RW de (pNew X.K X.mg)) (gName i) D σ H := by
  obtain ⟨B, F0, z, ow, ρ, m, S, q⟩ := q
  exact ⟨B, F0, z, ow, ρ, m, S, Rem.stepS q fun d m1 B1 z1 ow1 v H1 hB hz S1 p q1 => by
    obtain ⟨ow2, S2⟩ := S1.takeNew (i := i) hB p
    exact q1 z1 _ _ H1 (Fz.le.refl _) S2⟩
theorem sd_set {i : Nat} {x : Str} {de : Den D} {pos' : Pos} (hN : X.N.Nodup) (hi : X.N[i]? = some x) (hx : Loc X.env.scope x) (he : PE X e (tX X.K X.mg RW de (pVal X.K X.mg))) (hs : swapsWith e (some (.Name x pos')) pos.line X.env = pure false := by rfl)
    (hf : X.fn x = true ∨ X.env.scope.names.lookup x = some .local := by first | exact .inl rfl | exact .inr rfl | assumption) : PS X (.Assign [.Name x pos'] e pos) (tB X.K X.mg RW (setS i de)) := PS.imp (ps_set hN hi hx he hs hf) set_step
theorem sd_setN {i : Nat} {x : Str} {de : Den Cont} {pos' : Pos} (hN : X.N.Nodup) (hi : X.N[i]? = some x) (hx : Loc X.env.scope x) (he : PE X e (tX X.K X.mg RW de (pNew X.K X.mg))) (hs : swapsWith e (some (.Name x pos')) pos.line X.env = pure false := by rfl)
    (hf : X.fn x = true ∨ X.env.scope.names.lookup x = some .local := by first | exact .inl rfl | exact .inr rfl | assumption) : PS X (.Assign [.Name x pos'] e pos) (tB X.K X.mg RW (setN i de)) := PS.imp (ps_set hN hi hx he hs hf) setN_step
/-- name op= e -/
def augS (i : Nat) (g : D → D → Res D) (de : Den D) : SDen := fun ρ m => match slotAt ρ i with
  | .sh x => bindS (de ρ m) ρ fun y m' => (match g x y with
    | .ok d => .nx (ρ.set i (.sh d)) m'
    | _ => .bad)
  | _ => .bad
/-- what an in-place operator does -/
def IpR (X : Cx) (t : TIp) (g : D → D → Res D) : Prop := ∀ {B F0 : Hp} {z : Fz} {ow : Own} {ρ : List Slot} {m : List Ob} {σ : St} {H : Hp} {x y : V} {dx dy d : D} {Q : VK},
  StOk X.K X.mg B F0 z ow ρ m σ H → Rep X.K X.mg z dx x → pLook X.K X.mg B B z ρ σ dy y → g dx dy = .ok d → (∀ v, Rep X.K X.mg z d v → Q v H) → t x y H Q
theorem sd_aug {i : Nat} {x : Str} {op : Operator} {t : TIp} {g : D → D → Res D} {de : Den D} {pos' : Pos} (hN : X.N.Nodup) (hi : X.N[i]? = some x) (hx : Loc X.env.scope x) (he : PE X e (tX X.K X.mg RW de (pLook X.K X.mg))) (ho : PIp X op t) (hg : IpR X t g)
    (hf : X.fn x = true ∨ X.env.scope.names.lookup x = some .local := by first | exact .inl rfl | exact .inr rfl | assumption) : PS X (.AugAssign (.Name x pos') op e pos) (tB X.K X.mg RW (augS i g de)) :=
  PS.imp (ps_aug hN hi hx he ho hf) fun D σ H ⟨B, F0, z, ow, ρ, m, S, q⟩ => by
    unfold augS at q
    cases hs : slotAt ρ i with
    | non => rw [hs] at q; exact q.elim
    | exc a d x => rw [hs] at q; exact q.elim
    | own c => rw [hs] at q; exact q.elim
    | sh dx =>
      rw [hs] at q
      obtain ⟨v, e1, rp⟩ := S.slot i _ (slotAt_get hs (by simp))
      refine ⟨v, ?_, B, F0, z, ow, ρ, m, S, Rem.stepS q fun dy m1 B1 z1 ow1 y H1 hB hz S1 py q1 => ?_⟩
      · cases r : σ[i]? with
        | none => rw [r] at e1; cases e1
        | some u => rw [r] at e1; exact congrArg some e1
      · cases hgd : g dx dy with
        | ok d =>
          rw [hgd] at q1
          exact hg S1 (rp.le hz) py hgd fun v rv => q1 z1 _ _ H1 (Fz.le.refl _) ((S1.weak hB).setSh rv)
        | err x m' => rw [hgd] at q1; exact q1.elim
        | bad => rw [hgd] at q1; exact q1.elim
def ipAddD : D → D → Res D
  | .int i, .int j => .ok (.int (i + j))
  | _, _ => .bad
theorem ipadd_r : IpR X (ipI fun i j => i + j) ipAddD := by
  intro B F0 z ow ρ m σ H x y dx dy d Q S px py h q
  unfold ipAddD at h
  split at h
  · cases h
    exact ⟨_, _, rep_int.mp px, look_int py, q _ (rep_int.mpr rfl)⟩
  · cases h
theorem ipsub_r : IpR X (ipI fun i j => i - j) subD := by
  intro B F0 z ow ρ m σ H x y dx dy d Q S px py h q
  unfold subD at h
  split at h
  · cases h
    exact ⟨_, _, rep_int.mp px, look_int py, q _ (rep_int.mpr rfl)⟩
  · cases h
/-- an operator's rule as an in-place one -/
theorem ip_of {op : Operator} {r : R2} (ho : OpR X (inplaceOp op) r) : PIp X op r := by
  intro pins s σ H x y v u Q I rx ry h
  exact augR ho I rx ry h
/-- own[i] = e, own a list -/
def isetS (i : Nat) (di de : Den D) : SDen := fun ρ m => match slotAt ρ i with
  | .own (.lst ds) => bindS (de ρ m) ρ fun d m1 => bindS (di ρ m1) ρ fun k m2 => (match k with
    | .int j => (match ixN ds.length j with
      | some n => .nx (ρ.set i (.own (.lst (ds.set n d)))) m2
      | none => .bad)
    | _ => .bad)
  | _ => .bad
theorem slot_own {K : PySem.W.Frag} {mg : Str → Option Value} {z : Fz} {B F0 : Hp} {ow : Own} {ρ : List Slot} {m : List Ob} {σ : St} {H : Hp} {i : Nat} {c : Cont} (S : StOk K mg B F0 z ow ρ m σ H) (h : slotAt ρ i = .own c) :
    ρ[i]? = some (.own c) ∧ ∃ a o, σ[i]? = some (some (V.ref a)) ∧ H a = some o ∧ COk K mg z c o := by
  have hg := slotAt_get h (by simp)
  obtain ⟨a, o, e1, e2, c1, _⟩ := S.slot i _ hg
  refine ⟨hg, a, o, ?_, e2, c1⟩
  cases r : σ[i]? with
  | none => rw [r] at e1; cases e1
  | some u => rw [r] at e1; exact congrArg some e1
theorem sd_iset {i : Nat} {x : Str} {ei : Expr} {di de : Den D} {px p2 : Pos} (hv : PE X (.Name x px) (tVar i)) (hi : PE X ei (tX X.K X.mg RW di (pLook X.K X.mg))) (he : PE X e (tX X.K X.mg RW de (pVal X.K X.mg)))
    (ha : ∀ v, assign (.Subscript (.Name x px) ei p2) X.env v = (do
      let ov ← holding [v] (eval (.Name x px) X.env)
      let iv ← holding [v, ov] (eval ei X.env)
      standAt p2
      holding [v, ov, iv] (setItem ov iv v)
      release [v, ov, iv] []) := by intro _; rfl) (hs : swapsWithSole [.Subscript (.Name x px) ei p2] e pos.line X.env = pure false := by rfl) (hw : swappedStores [.Subscript (.Name x px) ei p2] e X.env = pure none := by rfl)
    (h1 : (assignEach [.Subscript (.Name x px) ei p2] X.env).map (·.2) = [assign (.Subscript (.Name x px) ei p2) X.env] := by rfl) : PS X (.Assign [.Subscript (.Name x px) ei p2] e pos) (tB X.K X.mg RW (isetS i di de)) :=
  PS.imp (ps_asg he (pg_sub hv hi set_list ha) hs hw h1) fun D σ H ⟨B, F0, z, ow, ρ, m, S, q⟩ => by
    unfold isetS at q
    split at q
    · rename_i ds hs
      refine ⟨B, F0, z, ow, ρ, m, S, Rem.stepS q fun d m1 B1 z1 ow1 v H1 hB hz S1 pd q1 => ?_⟩
      have S1' := S1.weak hB
      obtain ⟨_, a, _, e3, _, _⟩ := slot_own S1' hs
      refine ⟨.ref a, e3, B, F0, z1, ow1, ρ, m1, S1', Rem.stepS q1 fun k m2 B2 z2 ow2 kv H2 hB2 hz2 S2 pk q2 => ?_⟩
      have S2' := S2.weak hB2
      obtain ⟨hg, a2, o, e4, hH, xs, rfl, r⟩ := slot_own S2' hs
      rw [e3] at e4
      cases e4
      cases k with
      | int j =>
        dsimp only at q2
        cases hx : ixN ds.length j with
        | none => rw [hx] at q2; exact q2.elim
        | some n =>
          rw [hx] at q2
          refine ⟨a, xs, j, n, rfl, look_int pk, hH, by rw [← r.len]; exact hx, ?_⟩
          exact q2 z2 _ σ _ (Fz.le.refl _) (S2'.change hg e3 ⟨_, rfl, r.set n (Rep.le hz2 pd)⟩)
      | _ => exact q2.elim
    · exact q.elim
end
end PD
namespace PD
open PySem PySem.Spec PyProof.Rows L2
/-! ### what is walked -/
section
variable (K : PySem.W.Frag) (mg : Str → Option Value)
def Yields (J : It) (z0 : Fz) (ds : List D) : Prop := ∀ (B F0 : Hp) (z : Fz) (ow : Own) (ρ : List Slot) (m : List Ob) (σ : St) (H : Hp) (i : Nat), z0.le z → StOk K mg B F0 z ow ρ m σ H →
  (i = ds.length → J.stop i H) ∧ ∀ d, ds[i]? = some d → J.go i H ∧ ∀ x H', J.yld i H x H' → ∃ z', z.le z' ∧ StOk K mg B F0 z' ow ρ m σ H' ∧ Rep K mg z' d x
def pIt : Post (List D) It := fun _ _ z _ _ ds J => Yields K mg J z ds
end
theorem pIt.pm {K : PySem.W.Frag} {mg : Str → Option Value} : PMono (pIt K mg) := fun _ _ _ _ _ _ _ _ _ h => h
theorem PI.imp {X : Cx} {tg e : Expr} {t t' : TI} (h : PI X tg e t) (k : ∀ σ H Q, t' σ H Q → t σ H Q) : PI X tg e t' := ⟨fun pins s σ H Q I q => h.run pins s σ H Q I (k σ H Q q)⟩
def asList : D → Res (List D)
  | .lst xs => .ok xs
  | _ => .bad
def asTup : D → Res (List D)
  | .tup xs => .ok xs
  | _ => .bad
def dIt (g : D → Res (List D)) (da : Den D) : Den (List D) := fun ρ m => (da ρ m).bind fun x => (g x.1).bind fun xs => .ok (xs, x.2)
def irange (lo : Int) : Nat → List D
  | 0 => []
  | n + 1 => .int lo :: irange (lo + 1) n
theorem irange_len : ∀ (n : Nat) (lo : Int), (irange lo n).length = n
  | 0, _ => rfl
  | n + 1, lo => by simp [irange, irange_len n]
theorem irange_get : ∀ (n : Nat) (lo : Int) (i : Nat) (d : D), (irange lo n)[i]? = some d → i < n ∧ d = .int (lo + i)
  | 0, _, i, d, h => by simp [irange] at h
  | n + 1, lo, 0, d, h => by simp [irange] at h; exact ⟨Nat.succ_pos _, by rw [← h]; simp⟩
  | n + 1, lo, i + 1, d, h => by
    simp only [irange, List.getElem?_cons_succ] at h
    obtain ⟨h1, h2⟩ := irange_get n (lo + 1) i d h
    refine ⟨by omega, ?_⟩
    rw [h2]
    congr 1
    push_cast
    omega
def rng1 : List D → Res (List D)
  | [.int j] => if -(2 ^ 62) ≤ j ∧ j < 2 ^ 62 then .ok (irange 0 j.toNat) else .bad
  | _ => .bad
def rng2 : List D → Res (List D)
  | [.int i, .int j] => if -(2 ^ 62) ≤ i ∧ i < 2 ^ 62 ∧ -(2 ^ 62) ≤ j ∧ j < 2 ^ 62 then .ok (irange i (j - i).toNat) else .bad
  | _ => .bad
theorem yields_list {K : PySem.W.Frag} {mg : Str → Option Value} {z : Fz} {a : Addr} {xs : List V} {ds : List D} (h : z.F a = some (.lst xs)) (r : Reps K mg z ds xs) : Yields K mg (Itl K a) z ds := by
  intro B F0 z' ow ρ m σ H i hz S
  have hH : SqL K H a xs := SqL.of (S.fh _ _ (hz.1 _ _ h))
  refine ⟨fun e => ⟨xs, hH, by rw [← r.len]; omega⟩, fun d hd => ?_⟩
  obtain ⟨v, hv, rv⟩ := r.get hd
  refine ⟨⟨xs, v, hH, hv⟩, fun x H' y => ?_⟩
  obtain ⟨e, y⟩ := y
  subst e
  have e := (y xs hH).symm.trans hv
  cases e
  exact ⟨z', Fz.le.refl _, S, rv.le hz⟩
theorem yields_tup {K : PySem.W.Frag} {mg : Str → Option Value} {z : Fz} {a : Addr} {xs : List V} {ds : List D} (h : SqT K z.F a xs) (r : Reps K mg z ds xs) : Yields K mg (Itt K a) z ds := by
  intro B F0 z' ow ρ m σ H i hz S
  have hH : SqT K H a xs := same_tup S.fh (same_tup hz.1 h)
  refine ⟨fun e => ⟨xs, hH, by rw [← r.len]; omega⟩, fun d hd => ?_⟩
  obtain ⟨v, hv, rv⟩ := r.get hd
  refine ⟨⟨xs, v, hH, hv⟩, fun x H' y => ?_⟩
  obtain ⟨e, y⟩ := y
  subst e
  have e := (y xs hH).symm.trans hv
  cases e
  exact ⟨z', Fz.le.refl _, S, rv.le hz⟩
theorem yields_rng {K : PySem.W.Frag} {mg : Str → Option Value} {z : Fz} (lo : Int) (n : Nat) : Yields K mg (Itr lo n) z (irange lo n) := by
  intro B F0 z' ow ρ m σ H i hz S
  refine ⟨fun e => by show n ≤ i; rw [e, irange_len]; exact Nat.le_refl _, fun d hd => ?_⟩
  obtain ⟨h1, rfl⟩ := irange_get n lo i d hd
  refine ⟨h1, fun x H' y => ?_⟩
  obtain ⟨rfl, rfl⟩ := y
  exact ⟨z', Fz.le.refl _, S, rep_int.mpr rfl⟩
section
variable {X : Cx} {RW : WX} {e tg : Expr} {pos : Pos}
theorem it_list {da : Den D} (h : PE X e (tX X.K X.mg RW da (pVal X.K X.mg))) : PI X tg e (tX X.K X.mg RW (dIt asList da) (pIt X.K X.mg)) :=
  PI.imp (pi_list h) fun σ H Q q => tX.imp q fun B F0 z ow ρ m S h => Rem.step pIt.pm h fun d m1 B1 z1 ow1 v H1 hB hz S1 p h1 => by
    cases d with
    | lst ds =>
      obtain ⟨a, xs, rfl, e1, r⟩ := (by simpa only [Rep] using (show Rep X.K X.mg z1 (.lst ds) v from p) : ∃ a xs, v = .ref a ∧ z1.F a = some (.lst xs) ∧ Reps X.K X.mg z1 ds xs)
      exact ⟨a, rfl, ⟨xs, SqL.of (S1.fh _ _ e1)⟩, Rem.here (d := ds) h1 S1 (yields_list e1 r)⟩
    | _ => exact h1.elim
theorem it_tup {da : Den D} (h : PE X e (tX X.K X.mg RW da (pVal X.K X.mg))) : PI X tg e (tX X.K X.mg RW (dIt asTup da) (pIt X.K X.mg)) :=
  PI.imp (pi_tup h) fun σ H Q q => tX.imp q fun B F0 z ow ρ m S h => Rem.step pIt.pm h fun d m1 B1 z1 ow1 v H1 hB hz S1 p h1 => by
    cases d with
    | tup ds =>
      obtain ⟨a, xs, rfl, e1, r⟩ := (by simpa only [Rep] using (show Rep X.K X.mg z1 (.tup ds) v from p) : ∃ a xs, v = .ref a ∧ SqT X.K z1.F a xs ∧ Reps X.K X.mg z1 ds xs)
      exact ⟨a, rfl, ⟨xs, same_tup S1.fh e1⟩, Rem.here (d := ds) h1 S1 (yields_tup e1 r)⟩
    | _ => exact h1.elim
def dRng (g : List D → Res (List D)) (da : Den (List D)) : Den (List D) := fun ρ m => (da ρ m).bind fun x => (g x.1).bind fun xs => .ok (xs, x.2)
theorem it_rng1 {a : Expr} {da : Den (List D)} {p : Pos} (hg : Gl X "range") (hm : X.mg "range" = none) (ha : PA X [a] (tX X.K X.mg RW da (pLooks X.K X.mg))) (hs : starEach [a] X.env = [(false, eval a X.env)] := by rfl) :
    PI X tg (.Call (.Name "range" p) [a] [] pos) (tX X.K X.mg RW (dRng rng1 da) (pIt X.K X.mg)) :=
  PI.imp (pi_range1 hg hm ha hs) fun σ H Q q => tX.imp q fun B F0 z ow ρ m S h => Rem.step pIt.pm h fun xs m1 B1 z1 ow1 vs H1 hB hz S1 p h1 => by
    match xs, h1 with
    | [.int j], h1 =>
      obtain ⟨v, rfl, px⟩ := looks_one p
      have h1 : Rem X.K X.mg RW ((rng1 [.int j]).bind fun xs => .ok (xs, m1)) B1 F0 z1 ρ σ (pIt X.K X.mg) Q := h1
      by_cases hj : -(2 ^ 62) ≤ j ∧ j < 2 ^ 62
      · rw [show rng1 [.int j] = .ok (irange 0 j.toNat) from if_pos hj] at h1
        exact ⟨j, by rw [look_int px], hj.1, hj.2, Rem.here (d := irange 0 j.toNat) h1 S1 (yields_rng 0 _)⟩
      · rw [show rng1 [.int j] = .bad from if_neg hj] at h1
        exact h1.elim
    | [], h1 => exact h1.elim
    | .non :: _, h1 => exact h1.elim
    | .bl _ :: _, h1 => exact h1.elim
    | .str _ :: _, h1 => exact h1.elim
    | .tup _ :: _, h1 => exact h1.elim
    | .etp _ :: _, h1 => exact h1.elim
    | .lst _ :: _, h1 => exact h1.elim
    | .dct _ _ _ :: _, h1 => exact h1.elim
    | .ldc _ _ _ :: _, h1 => exact h1.elim
    | .row _ :: _, h1 => exact h1.elim
    | .obj _ :: _, h1 => exact h1.elim
    | .fn _ :: _, h1 => exact h1.elim
    | .scr _ :: _, h1 => exact h1.elim
    | .int _ :: _ :: _, h1 => exact h1.elim
theorem it_rng2 {a b : Expr} {da : Den (List D)} {p : Pos} (hg : Gl X "range") (hm : X.mg "range" = none) (ha : PA X [a, b] (tX X.K X.mg RW da (pLooks X.K X.mg)))
    (hs : starEach [a, b] X.env = [(false, eval a X.env), (false, eval b X.env)] := by rfl) (hs2 : starEach [b] X.env = [(false, eval b X.env)] := by rfl) :
    PI X tg (.Call (.Name "range" p) [a, b] [] pos) (tX X.K X.mg RW (dRng rng2 da) (pIt X.K X.mg)) :=
  PI.imp (pi_range2 hg hm ha hs hs2) fun σ H Q q => tX.imp q fun B F0 z ow ρ m S h => Rem.step pIt.pm h fun xs m1 B1 z1 ow1 vs H1 hB hz S1 p h1 => by
    unfold rng2 at h1
    dsimp only at h1
    split at h1
    · rename_i i j
      obtain ⟨v, w, rfl, px, py⟩ := looks_two p
      by_cases hj : -(2 ^ 62) ≤ i ∧ i < 2 ^ 62 ∧ -(2 ^ 62) ≤ j ∧ j < 2 ^ 62
      · rw [if_pos hj] at h1
        exact ⟨i, j, by rw [look_int px, look_int py], hj, Rem.here (d := irange i (j - i).toNat) h1 S1 (yields_rng i _)⟩
      · rw [if_neg hj] at h1
        exact h1.elim
    · exact h1.elim
end
/-! ### targets -/
abbrev Tg := D → List Slot → Option (List Slot)
def tG (K : PySem.W.Frag) (mg : Str → Option Value) (vs : List Nat) (f : Tg) : TG := fun v σ H Q => ∃ B F0 z ow ρ m d, StOk K mg B F0 z ow ρ m σ H ∧ Rep K mg z d v ∧ ∃ ρ', f d ρ = some ρ' ∧
  ∀ ow' σ', StOk K mg B F0 z ow' ρ' m σ' H → wipe σ' vs = wipe σ vs → Q σ' H
theorem PG.imp {X : Cx} {e : Expr} {t t' : TG} (h : PG X e t) (k : ∀ v σ H Q, t' v σ H Q → t v σ H Q) : PG X e t' := ⟨fun pins s σ H v u Q I r q => h.run pins s σ H v u Q I r (k v σ H Q q)⟩
def tgN (i : Nat) : Tg := fun d ρ => some (ρ.set i (.sh d))
def wipeS (ρ : List Slot) : List Nat → List Slot
  | [] => ρ
  | v :: vs => (wipeS ρ vs).set v .non
def TgOk (vs : List Nat) (f : Tg) : Prop := ∀ d ρ ρ', f d ρ = some ρ' → wipeS ρ' vs = wipeS ρ vs
theorem wipe_one (σ : St) (i : Nat) (v : Option V) : wipe (σ.set i v) [i] = wipe σ [i] := by
  show (σ.set i v).set i none = σ.set i none
  rw [List.set_set]
section
variable {X : Cx} {RW : WX} {e : Expr} {pos : Pos}
theorem tg_name {i : Nat} {x : Str} (hN : X.N.Nodup) (hi : X.N[i]? = some x) (hx : Loc X.env.scope x) (hf : X.fn x = true ∨ X.env.scope.names.lookup x = some .local := by first | exact .inl rfl | exact .inr rfl | assumption) : PG X (.Name x pos) (tG X.K X.mg [i] (tgN i)) :=
  PG.imp (pg_name hN hi hx hf) fun v σ H Q ⟨B, F0, z, ow, ρ, m, d, S, r, ρ', e, k⟩ => by
    cases e
    exact k _ _ (S.setSh r) (wipe_one _ _ _)
/-! ### for -/
def loopS (tg : Tg) (body : SDen) : List D → SDen
  | [], ρ, m => .nx ρ m
  | d :: ds, ρ, m => match tg d ρ with
    | none => .bad
    | some ρ1 => match body ρ1 m with
      | .nx ρ' m' => loopS tg body ds ρ' m'
      | .ct ρ' m' => loopS tg body ds ρ' m'
      | .bk ρ' m' => .nx ρ' m'
      | o => o
def forS (di : Den (List D)) (tg : Tg) (body : SDen) : SDen := fun ρ m => bindS (di ρ m) ρ fun ds m' => loopS tg body ds ρ m'
theorem sd_for {tg iter : Expr} {body : List Stmt} {vs : List Nat} {di : Den (List D)} {f : Tg} {b : SDen} (hp : PassesOwn (model X.prog X.w) X.A X.env X.xe) (hc : X.calm = true) (hi : PI X tg iter (tX X.K X.mg RW di (pIt X.K X.mg))) (hg : PG X tg (tG X.K X.mg vs f)) (hb : PSs X body (tB X.K X.mg RW b))
    (hs : ∀ x, foldedSetIterable iter X.env x = pure x := by intro _; rfl) : PS X (.For tg iter body [] pos) (tB X.K X.mg RW (forS di f b)) :=
  PS.imp (ps_for hp hc hi hg hb hs) fun D σ H ⟨B, F0, z, ow, ρ, m, S, q⟩ => by
    refine ⟨B, F0, z, ow, ρ, m, S, Rem.stepS q fun ds m1 B1 z1 ow1 J H1 hB hz S1 yl q1 => ?_⟩
    have S1 := S1.weak hB
    refine ⟨fun i k σ H => k = ds.length - i ∧ i ≤ ds.length ∧ ∃ z2 ow2 ρ2 m2, z1.le z2 ∧ StOk X.K X.mg B F0 z2 ow2 ρ2 m2 σ H ∧ RemS X.K X.mg RW (loopS f b (ds.drop i) ρ2 m2) B F0 z2 D,
      ⟨ds.length, by simp, Nat.zero_le _, z1, ow1, ρ, m1, Fz.le.refl _, S1, by simpa using q1⟩, ?_⟩
    rintro i k σ H ⟨rfl, hi, z2, ow2, ρ2, m2, hz2, S2, q2⟩
    obtain ⟨y1, y2⟩ := yl B F0 z2 ow2 ρ2 m2 σ H i hz2 S2
    by_cases hlt : i < ds.length
    · have hd : ds[i]? = some ds[i] := List.getElem?_eq_getElem hlt
      obtain ⟨go, y3⟩ := y2 _ hd
      rw [List.drop_eq_getElem_cons hlt] at q2
      refine .inr ⟨go, fun σ' H' => ∃ z3 ow3 ρ3 m3, z1.le z3 ∧ StOk X.K X.mg B F0 z3 ow3 ρ3 m3 σ' H' ∧ RemS X.K X.mg RW (loopS f b (ds.drop (i + 1)) ρ3 m3) B F0 z3 D, fun σ' H' ⟨z3, ow3, ρ3, m3, h3, S3, q3⟩ => ⟨ds.length - (i + 1), by omega, rfl, hlt, z3, ow3, ρ3, m3, h3, S3, q3⟩, fun x H' hy => ?_⟩
      obtain ⟨z3, hz3, S3, rx⟩ := y3 x H' hy
      simp only [loopS] at q2
      cases ht : f ds[i] ρ2 with
      | none => rw [ht] at q2; exact q2.elim
      | some ρ3 =>
        rw [ht] at q2
        refine ⟨B, F0, z3, ow2, ρ2, m2, ds[i], S3, rx, ρ3, ht, fun ow4 σ4 S4 _ => ?_⟩
        refine ⟨B, F0, z3, ow4, ρ3, m2, S4, ?_⟩
        dsimp only at q2
        cases hbd : b ρ3 m2 with
        | nx ρ' m' =>
          rw [hbd] at q2
          exact fun z' ow' σ' H' h' S' => ⟨z', ow', ρ', m', hz2.trans (hz3.trans h'), S', RemS.mono (hz3.trans h') q2⟩
        | ct ρ' m' =>
          rw [hbd] at q2
          exact fun z' ow' σ' H' h' S' => ⟨z', ow', ρ', m', hz2.trans (hz3.trans h'), S', RemS.mono (hz3.trans h') q2⟩
        | bk ρ' m' =>
          rw [hbd] at q2
          exact fun z' ow' σ' H' h' S' => q2 z' ow' σ' H' (hz3.trans h') S'
        | rt d m' => rw [hbd] at q2; exact RemS.mono hz3 q2
        | er x ρ' m' => rw [hbd] at q2; exact RemS.mono hz3 q2
        | bad => rw [hbd] at q2; exact q2
    · have e : i = ds.length := by omega
      subst e
      rw [List.drop_length] at q2
      exact .inl ⟨y1 rfl, q2 z2 ow2 σ H (Fz.le.refl _) S2⟩
/-! ### while -/
def whileS (dc : Den Bool) (b : SDen) : Nat → SDen
  | 0, _, _ => .bad
  | n + 1, ρ, m => bindS (dc ρ m) ρ fun c m1 => match c with
    | false => .nx ρ m1
    | true => match b ρ m1 with
      | .nx ρ' m' => whileS dc b n ρ' m'
      | .ct ρ' m' => whileS dc b n ρ' m'
      | .bk ρ' m' => .nx ρ' m'
      | o => o
theorem sd_while {c : Expr} {body : List Stmt} {dc : Den Bool} {b : SDen} (n : Nat) (hp : PassesOwn (model X.prog X.w) X.A X.env X.xe) (hc : PT X c (tX X.K X.mg RW dc pTest)) (hb : PSs X body (tB X.K X.mg RW b)) :
    PS X (.While c body [] pos) (tB X.K X.mg RW (whileS dc b n)) :=
  PS.imp (ps_while hp hc hb) fun D σ H ⟨B, F0, z, ow, ρ, m, S, q⟩ => by
    refine ⟨fun k σ H => ∃ z2 ow2 ρ2 m2, StOk X.K X.mg B F0 z2 ow2 ρ2 m2 σ H ∧ RemS X.K X.mg RW (whileS dc b k ρ2 m2) B F0 z2 D, ⟨n, z, ow, ρ, m, S, q⟩, ?_⟩
    rintro k σ H ⟨z2, ow2, ρ2, m2, S2, q2⟩
    cases k with
    | zero => exact q2.elim
    | succ k =>
      refine ⟨B, F0, z2, ow2, ρ2, m2, S2, Rem.stepS (show RemS X.K X.mg RW (bindS (dc ρ2 m2) ρ2 _) B F0 z2 D from q2) fun c m3 B3 z3 ow3 v H3 hB hz S3 p q3 => ?_⟩
      cases (show v = c from p)
      cases c with
      | false => exact iteF (q3 z3 ow3 σ H3 (Fz.le.refl _) (S3.weak hB))
      | true =>
        refine iteT ⟨fun σ' H' => ∃ z4 ow4 ρ4 m4, StOk X.K X.mg B F0 z4 ow4 ρ4 m4 σ' H' ∧ RemS X.K X.mg RW (whileS dc b k ρ4 m4) B F0 z4 D, fun σ' H' h => ⟨k, Nat.lt_succ_self _, h⟩, B, F0, z3, ow3, ρ2, m3, S3.weak hB, ?_⟩
        dsimp only at q3
        cases hbd : b ρ2 m3 with
        | nx ρ' m' =>
          rw [hbd] at q3
          exact fun z' ow' σ' H' h' S' => ⟨z', ow', ρ', m', S', RemS.mono h' q3⟩
        | ct ρ' m' =>
          rw [hbd] at q3
          exact fun z' ow' σ' H' h' S' => ⟨z', ow', ρ', m', S', RemS.mono h' q3⟩
        | bk ρ' m' => rw [hbd] at q3; exact q3
        | rt d m' => rw [hbd] at q3; exact q3
        | er x ρ' m' => rw [hbd] at q3; exact q3
        | bad => rw [hbd] at q3; exact q3
end
/-! ### comprehensions -/
def noOwn (ρ : List Slot) : List Nat → Bool
  | [] => true
  | v :: vs => (match slotAt ρ v with
    | .own _ => false
    | _ => true) && noOwn ρ vs
section
variable {K : PySem.W.Frag} {mg : Str → Option Value} {RW : WX} {z z' z1 z2 : Fz} {B B' B1 B2 F0 F1 : Hp} {ow ow' ow1 : Own} {ρ : List Slot} {m m' m1 : List Ob} {σ : St} {H H' H1 : Hp}
theorem StOk.hide (S : StOk K mg B F0 z ow ρ m σ H) {i : Nat} (v : Option V) : StOk K mg B F0 z ow (ρ.set i .non) m (σ.set i v) H where
  fh := S.fh
  bh := S.bh
  f0 := S.f0
  new := S.new
  len := by simpa using S.len
  slot := fun j s e => by
    by_cases hj : i = j
    · subst hj
      obtain ⟨hl, _⟩ := List.getElem?_eq_some_iff.mp e
      have hl' : i < ρ.length := by simpa using hl
      rw [List.getElem?_set_self hl'] at e
      cases e
      trivial
    · rw [List.getElem?_set_ne hj] at e
      rw [join_set_ne hj]
      exact S.slot j s e
  ol := S.ol
  ob := S.ob
  ow := S.ow
theorem StOk.wiped (S : StOk K mg B F0 z ow ρ m σ H) : ∀ vs : List Nat, StOk K mg B F0 z ow (wipeS ρ vs) m (wipe σ vs) H
  | [] => S
  | v :: vs => (StOk.wiped S vs).hide none
theorem wipeS_get : ∀ {vs : List Nat} {ρ : List Slot} {i : Nat}, i ∉ vs → (wipeS ρ vs)[i]? = ρ[i]?
  | [], _, _, _ => rfl
  | v :: vs, ρ, i, h => by
    simp only [List.mem_cons, not_or] at h
    show ((wipeS ρ vs).set v .non)[i]? = _
    rw [List.getElem?_set_ne (Ne.symm h.1)]
    exact wipeS_get h.2
theorem wipe_get : ∀ {vs : List Nat} {σ : St} {i : Nat}, i ∉ vs → (wipe σ vs)[i]? = σ[i]?
  | [], _, _, _ => rfl
  | v :: vs, σ, i, h => by
    simp only [List.mem_cons, not_or] at h
    show ((wipe σ vs).set v none)[i]? = _
    rw [List.getElem?_set_ne (Ne.symm h.1)]
    exact wipe_get h.2
theorem slotAt_of : ∀ {ρ : List Slot} {i : Nat} {s : Slot}, ρ[i]? = some s → slotAt ρ i = s
  | [], _, _, h => by simp at h
  | t :: _, 0, s, h => by simpa [slotAt] using h
  | _ :: r, i + 1, s, h => slotAt_of (ρ := r) (i := i) (by simpa using h)
theorem noOwn_at : ∀ {vs : List Nat} {ρ : List Slot} {i : Nat} {c : Cont}, noOwn ρ vs = true → i ∈ vs → ρ[i]? ≠ some (.own c)
  | [], _, _, _, _, h => by simp at h
  | v :: vs, ρ, i, c, h, hi => by
    simp only [noOwn, Bool.and_eq_true] at h
    rcases List.mem_cons.mp hi with rfl | hi
    · intro e
      have e2 : slotAt ρ i = .own c := slotAt_of e
      rw [e2] at h
      exact Bool.noConfusion h.1
    · exact noOwn_at h.2 hi
theorem wipe_in : ∀ {vs : List Nat} {σ : St} {i : Nat}, i ∈ vs → i < σ.length → (wipe σ vs)[i]? = some none
  | v :: vs, σ, i, h, hl => by
    show ((wipe σ vs).set v none)[i]? = _
    by_cases e : v = i
    · subst e
      rw [List.getElem?_set_self (by rw [wipe_length]; exact hl)]
    · rw [List.getElem?_set_ne e]
      rcases List.mem_cons.mp h with rfl | h
      · exact absurd rfl e
      · exact wipe_in h hl
theorem wipe_wipe (σ : St) (vs : List Nat) : wipe (wipe σ vs) vs = wipe σ vs := by
  apply List.ext_getElem?
  intro i
  by_cases hi : i ∈ vs
  · by_cases hl : i < σ.length
    · rw [wipe_in hi hl, wipe_in hi (by rw [wipe_length]; exact hl)]
    · rw [List.getElem?_eq_none (by rw [wipe_length, wipe_length]; omega), List.getElem?_eq_none (by rw [wipe_length]; omega)]
  · rw [wipe_get hi]
theorem wipeS_len (ρ : List Slot) : ∀ vs : List Nat, (wipeS ρ vs).length = ρ.length
  | [] => rfl
  | v :: vs => by unfold wipeS; rw [List.length_set, wipeS_len ρ vs]
theorem wipeS_in : ∀ {vs : List Nat} {ρ : List Slot} {i : Nat}, i ∈ vs → i < ρ.length → (wipeS ρ vs)[i]? = some .non
  | v :: vs, ρ, i, h, hl => by
    show ((wipeS ρ vs).set v .non)[i]? = _
    by_cases e : v = i
    · subst e
      rw [List.getElem?_set_self (by rw [wipeS_len]; exact hl)]
    · rw [List.getElem?_set_ne e]
      rcases List.mem_cons.mp h with rfl | h
      · exact absurd rfl e
      · exact wipeS_in h hl
theorem wipeS_wipeS (ρ : List Slot) (vs : List Nat) : wipeS (wipeS ρ vs) vs = wipeS ρ vs := by
  apply List.ext_getElem?
  intro i
  by_cases hi : i ∈ vs
  · by_cases hl : i < ρ.length
    · rw [wipeS_in hi hl, wipeS_in hi (by rw [wipeS_len]; exact hl)]
    · rw [List.getElem?_eq_none (by rw [wipeS_len, wipeS_len]; omega), List.getElem?_eq_none (by rw [wipeS_len]; omega)]
  · rw [wipeS_get hi]
/-- back from the block -/
theorem StOk.unwipe {vs : List Nat} (S : StOk K mg B1 F1 z ow1 ρ m1 σ H1) (S' : StOk K mg B F0 z' ow' (wipeS ρ vs) m' (wipe σ vs) H') (hz : z.le z') (hn : noOwn ρ vs = true) : StOk K mg B F0 z' ow' ρ m' σ H' where
  fh := S'.fh
  bh := S'.bh
  f0 := S'.f0
  new := S'.new
  len := S.len
  slot := fun i s e => by
    by_cases hi : i ∈ vs
    · have q := S.slot i s e
      cases s with
      | non => trivial
      | exc a d x => exact ExcSl.le hz q
      | sh d => obtain ⟨x, e1, r⟩ := q; exact ⟨x, e1, r.le hz⟩
      | own c => exact absurd e (noOwn_at hn hi)
    · have q := S'.slot i s (by rw [wipeS_get hi]; exact e)
      rw [wipe_get hi] at q
      exact q
  ol := S'.ol
  ob := S'.ob
  ow := S'.ow
/-- what is kept is changed by who keeps it -/
theorem StOk.rekeep {p : Addr} {o o' : HO} (S : StOk K mg (upd B p o) F0 z ow ρ m σ H) (hF : F0 p = none) : StOk K mg (upd B p o') F0 z ow ρ m σ (upd H p o') := by
  have hz : z.F p = none := by
    cases q : z.F p with
    | none => rfl
    | some u =>
      rcases S.new p (by rw [q]; simp) with r | r
      · exact absurd hF r
      · rw [upd_same] at r; cases r
  have hw := S.noown (p := p) (o := o) upd_same
  have other : ∀ b u, b ≠ p → H b = some u → upd H p o' b = some u := fun b u hb e => by rw [upd_ne hb]; exact e
  refine ⟨fun b x e => other b x (fun q => by subst q; rw [hz] at e; cases e) (S.fh b x e), fun b x e => ?_, S.f0, fun a e => ?_, S.len, fun i s e => ?_, S.ol, fun n u e => ?_, fun a u e => ?_⟩
  · by_cases hb : b = p
    · subst hb; rw [upd_same] at e ⊢; exact e
    · rw [upd_ne hb] at e
      exact other b x hb (S.bh b x (by rw [upd_ne hb]; exact e))
  · have ha : a ≠ p := fun q => e (by rw [q]; exact hz)
    have q := S.new a e
    rw [upd_ne ha] at q ⊢
    exact q
  · have q := S.slot i s e
    cases s with
    | non => trivial
    | exc a d x => exact q
    | sh d => exact q
    | own c =>
      obtain ⟨a, u, e1, e2, c1, w⟩ := q
      exact ⟨a, u, e1, other a u (fun q => by rw [q, hw] at w; cases w) e2, c1, w⟩
  · obtain ⟨fp, e1, q⟩ := S.ob n u e
    exact ⟨fp, e1, q.mono (Fz.le.refl _) (fun _ w => w) fun b x w1 h1 => other b x (fun q => by rw [q, hw] at w1; cases w1) h1⟩
  · have ha : a ≠ p := fun q => by rw [q, hw] at e; cases e
    obtain ⟨g1, g2, g3⟩ := S.ow a u e
    rw [upd_ne ha] at g2 ⊢
    exact ⟨g1, g2, by rw [upd_ne ha]; exact g3⟩
end
abbrev noRW : WX := fun _ _ _ _ => False
/-- the turns of a comprehension -/
def compL (tg : Tg) (test : Den Bool) (elt : Den D) (ρ : List Slot) : List D → List Ob → Option (List D × List Ob)
  | [], m => some ([], m)
  | d :: ds, m => match tg d ρ with
    | none => none
    | some ρ1 => match test ρ1 m with
      | .ok (false, m1) => compL tg test elt ρ ds m1
      | .ok (true, m1) => (match elt ρ1 m1 with
        | .ok (x, m2) => (match compL tg test elt ρ ds m2 with
          | some (xs, m3) => some (x :: xs, m3)
          | none => none)
        | _ => none)
      | _ => none
def dComp (di : Den (List D)) (vs : List Nat) (tg : Tg) (test : Den Bool) (elt : Den D) : Den Cont := fun ρ m => (di ρ m).bind fun x => match noOwn ρ vs, compL tg test elt (wipeS ρ vs) x.1 x.2 with
  | true, some (xs, m') => if xs.length ≤ sizeLine then .ok (.lst xs, m') else .bad
  | _, _ => .bad
def dYes : Den Bool := fun _ m => .ok (true, m)
section
variable {K : PySem.W.Frag} {mg : Str → Option Value} {RW : WX}
theorem comp_step {vs : List Nat} {di : Den (List D)} {f : Tg} {test : Den Bool} {elt : Den D} (hf : TgOk vs f) (σ : St) (H : Hp) (Q : VK) (q : tX K mg RW (dComp di vs f test elt) (pNew K mg) σ H Q) :
    tLc (tX K mg RW di (pIt K mg)) (tG K mg vs f) (tX K mg noRW test pTest) (tX K mg noRW elt (pVal K mg)) vs σ H Q := by
  obtain ⟨B, F0, z, ow, ρ, m, S, h⟩ := q
  refine ⟨B, F0, z, ow, ρ, m, S, Rem.step pNew.pm h fun ds m1 B1 z1 ow1 J H1 hB hz S1 yl h1 => ?_⟩
  intro D hD
  dsimp only at h1
  cases hn : noOwn ρ vs with
  | false => rw [hn] at h1; exact h1.elim
  | true =>
    rw [hn] at h1
    cases hc : compL f test elt (wipeS ρ vs) ds m1 with
    | none => rw [hc] at h1; exact h1.elim
    | some r =>
      obtain ⟨xs, m'⟩ := r
      rw [hc] at h1
      dsimp only at h1
      by_cases hsz : xs.length ≤ sizeLine
      · rw [if_pos hsz] at h1
        obtain ⟨nz, nB, n0, nw⟩ := S1.new_none hD
        have S2 := (S1.keep hD (.lst []))
        refine ⟨fun i k H => k = ds.length - i ∧ i ≤ ds.length ∧ ∃ z2 ow2 m2 acc ys rest, z1.le z2 ∧ StOk K mg (upd B1 D (.lst acc)) F0 z2 ow2 ρ m2 σ H ∧ Reps K mg z2 ys acc ∧ compL f test elt (wipeS ρ vs) (ds.drop i) m2 = some (rest, m') ∧ ys ++ rest = xs,
          ⟨ds.length, by simp, Nat.zero_le _, z1, ow1, m1, [], [], xs, Fz.le.refl _, S2, .nil, by simpa using hc, rfl⟩, ?_⟩
        rintro i k H ⟨rfl, hi, z2, ow2, m2, acc, ys, rest, hz2, S2, ry, hr, hx⟩
        obtain ⟨y1, y2⟩ := yl _ F0 z2 ow2 ρ m2 σ H i hz2 S2
        by_cases hlt : i < ds.length
        · have hd : ds[i]? = some ds[i] := List.getElem?_eq_getElem hlt
          obtain ⟨go, y3⟩ := y2 _ hd
          rw [List.drop_eq_getElem_cons hlt] at hr
          refine .inr ⟨go, fun H' => i + 1 ≤ ds.length ∧ ∃ z2 ow2 m2 acc ys rest, z1.le z2 ∧ StOk K mg (upd B1 D (.lst acc)) F0 z2 ow2 ρ m2 σ H' ∧ Reps K mg z2 ys acc ∧ compL f test elt (wipeS ρ vs) (ds.drop (i + 1)) m2 = some (rest, m') ∧ ys ++ rest = xs,
            fun H' h' => ⟨ds.length - (i + 1), by omega, rfl, h'⟩, fun x H' hy => ?_⟩
          obtain ⟨z3, hz3, S3, rx⟩ := y3 x H' hy
          simp only [compL] at hr
          cases ht : f ds[i] (wipeS ρ vs) with
          | none => rw [ht] at hr; cases hr
          | some ρ3 =>
            rw [ht] at hr
            dsimp only at hr
            refine ⟨_, F0, z3, ow2, wipeS ρ vs, m2, ds[i], S3.wiped vs, rx, ρ3, ht, fun ow4 σ4 S4 hw => ⟨?_, ?_⟩⟩
            · rw [hw, wipe_wipe]
            have hwf : wipeS ρ3 vs = wipeS ρ vs := by rw [hf _ _ _ ht, wipeS_wipeS]
            have hws : wipe σ4 vs = wipe σ vs := by rw [hw, wipe_wipe]
            have back : ∀ {acc' : List V} {z5 : Fz} {ow5 : Own} {m5 : List Ob} {H5 : Hp}, z3.le z5 → StOk K mg (upd B1 D (.lst acc')) F0 z5 ow5 ρ3 m5 σ4 H5 → StOk K mg (upd B1 D (.lst acc')) F0 z5 ow5 ρ m5 σ H5 := fun {acc' z5 ow5 m5 H5} h5 S5 => by
              have q := S5.wiped vs
              rw [hwf, hws] at q
              exact S3.unwipe q h5 hn
            refine ⟨_, F0, z3, ow4, ρ3, m2, S4, ?_⟩
            cases htt : test ρ3 m2 with
            | err x m' => rw [htt] at hr; cases hr
            | bad => rw [htt] at hr; cases hr
            | ok r =>
              obtain ⟨bv, m3⟩ := r
              rw [htt] at hr
              intro B5 z5 ow5 v H5 hB5 hz5 S5 p5
              cases (show v = bv from p5)
              cases bv with
              | false =>
                dsimp only at hr
                exact iteF ⟨hlt, z5, ow5, m3, acc, ys, rest, hz2.trans (hz3.trans hz5), back hz5 (S5.weak hB5), ry.le (hz3.trans hz5), hr, hx⟩
              | true =>
                dsimp only at hr
                refine iteT ⟨B5, F0, z5, ow5, ρ3, m3, S5, ?_⟩
                cases hel : elt ρ3 m3 with
                | err x m' => rw [hel] at hr; cases hr
                | bad => rw [hel] at hr; cases hr
                | ok r =>
                  obtain ⟨y, m4⟩ := r
                  rw [hel] at hr
                  dsimp only at hr
                  cases hcr : compL f test elt (wipeS ρ vs) (ds.drop (i + 1)) m4 with
                  | none => rw [hcr] at hr; cases hr
                  | some r =>
                    obtain ⟨rest', m5⟩ := r
                    rw [hcr] at hr
                    cases hr
                    intro B6 z6 ow6 w H6 hB6 hz6 S6 pw
                    have hD6 : H6 D = some (.lst acc) := S6.bh _ _ (hB6 _ _ (hB5 _ _ upd_same))
                    refine ⟨acc, hD6, ?_, hlt, z6, ow6, m4, acc ++ [w], ys ++ [y], rest', hz2.trans (hz3.trans (hz5.trans hz6)), ?_, ?_, hcr, by rw [← hx, List.append_assoc]; rfl⟩
                    · rw [← ry.len]
                      have : (ys ++ y :: rest').length ≤ sizeLine := by rw [hx]; exact hsz
                      rw [List.length_append, List.length_cons] at this
                      omega
                    · exact back (hz5.trans hz6) ((S6.weak (hB5.trans hB6)).rekeep n0)
                    · exact (ry.le (hz3.trans (hz5.trans hz6))).append (.cons pw .nil)
        · have e : i = ds.length := by omega
          subst e
          rw [List.drop_length] at hr
          cases hr
          rw [List.append_nil] at hx
          subst hx
          refine .inl ⟨y1 rfl, ?_⟩
          refine h1 _ z2 ow2 _ H (same_upd nB) hz2 S2 ⟨D, _, rfl, nB, upd_same, ?_, acc, rfl, ry⟩
          cases q : z2.F D with
          | none => rfl
          | some u =>
            rcases S2.new D (by rw [q]; simp) with r | r
            · exact absurd n0 r
            · rw [upd_same] at r; cases r
      · rw [if_neg hsz] at h1; exact h1.elim
end
end PD
namespace PD
open PySem PySem.Spec PyProof.Rows L2
/-! ### comprehensions as expressions -/
section
variable {X : Cx} {RW : WX}
theorem ptsd_nil : PTs X [] (tX X.K X.mg RW dYes pTest) := ⟨fun pins s σ H Q I q => pts_nil.run pins s σ H Q I (by
  obtain ⟨B, F0, z, ow, ρ, m, S, h⟩ := q
  exact h.here S rfl)⟩
theorem ptsd_one {c : Expr} {t : Den Bool} (h : PT X c (tX X.K X.mg RW t pTest)) : PTs X [c] (tX X.K X.mg RW t pTest) := pts_one h
variable {elt tg iter : Expr} {ifs : List Expr} {scope : Scope} {own : List (Str × Nat)} {pos : Pos} {di : Den (List D)} {f : Tg} {test : Den Bool} {de : Den D}
theorem pd_comp {vs : List Nat} (hc : X.calm = true) (hN : X.N.Nodup) (hi : PI X tg iter (tX X.K X.mg RW di (pIt X.K X.mg))) (hv : own.map (·.2) = vs) (ok : BlkOk X.N X.env.scope scope own) (hf : TgOk vs f)
    (hg : ∀ (s : Shared) (H : Hp) (C : Addr) (cl : List (Str × Addr)) (fp : List Addr), PG (X.blk s H scope (compEnvC scope cl C X.env) fp) tg (tG X.K X.mg vs f))
    (ht : ∀ (s : Shared) (H : Hp) (C : Addr) (cl : List (Str × Addr)) (fp : List Addr), PTs (X.blk s H scope (compEnvC scope cl C X.env) fp) ifs (tX X.K X.mg noRW test pTest))
    (he : ∀ (s : Shared) (H : Hp) (C : Addr) (cl : List (Str × Addr)) (fp : List Addr), PE (X.blk s H scope (compEnvC scope cl C X.env) fp) elt (tX X.K X.mg noRW de (pVal X.K X.mg))) (hs : ∀ x, foldedSetIterable iter X.env x = pure x := by intro _; rfl) :
    PE X (.ListComp elt [⟨tg, iter, ifs, 0⟩] scope pos) (tX X.K X.mg RW (dComp di vs f test de) (pNew X.K X.mg)) := by
  subst hv
  exact PE.imp (pe_lc hc hN hi ok hg ht he hs) (comp_step hf)
/-- name = [..] -/
theorem sd_setC {vs : List Nat} {i : Nat} {y : Str} {py spos : Pos} (hc : X.calm = true) (hN : X.N.Nodup) (hy : X.N[i]? = some y) (hyl : X.env.scope.names.lookup y = some .local)
    (hsw : swapsWith (.ListComp elt [⟨tg, iter, ifs, 0⟩] scope pos) (some (.Name y py)) spos.line X.env = pure true) (hi : PI X tg iter (tX X.K X.mg RW di (pIt X.K X.mg))) (hv : own.map (·.2) = vs) (ok : BlkOk X.N X.env.scope scope own) (hf : TgOk vs f)
    (hg : ∀ (s : Shared) (H : Hp) (C : Addr) (cl : List (Str × Addr)) (fp : List Addr), PG (X.blk s H scope (compEnvC scope cl C X.env) fp) tg (tG X.K X.mg vs f))
    (ht : ∀ (s : Shared) (H : Hp) (C : Addr) (cl : List (Str × Addr)) (fp : List Addr), PTs (X.blk s H scope (compEnvC scope cl C X.env) fp) ifs (tX X.K X.mg noRW test pTest))
    (he : ∀ (s : Shared) (H : Hp) (C : Addr) (cl : List (Str × Addr)) (fp : List Addr), PE (X.blk s H scope (compEnvC scope cl C X.env) fp) elt (tX X.K X.mg noRW de (pVal X.K X.mg))) (hs : ∀ x, foldedSetIterable iter X.env x = pure x := by intro _; rfl) :
    PS X (.Assign [.Name y py] (.ListComp elt [⟨tg, iter, ifs, 0⟩] scope pos) spos) (tB X.K X.mg RW (setN i (dComp di vs f test de))) := by
  subst hv
  exact PS.imp (ps_setLc hc hN hy hyl hsw hi ok hg ht he hs) fun D σ H q => comp_step hf σ H _ (setN_step D σ H q)
end
/-- the own thing of a slot is for good from now on -/
def freezeS (i : Nat) (a : SDen) : SDen := fun ρ m => match slotAt ρ i with
  | .own c => a (ρ.set i (.sh c.d)) m
  | .sh _ => a ρ m
  | _ => .bad
theorem set_same {σ : St} {i : Nat} {v : Option V} (h : σ[i]? = some v) : σ.set i v = σ := by
  obtain ⟨hl, _⟩ := List.getElem?_eq_some_iff.mp h
  apply List.ext_getElem?
  intro j
  by_cases hj : i = j
  · subst hj; rw [List.getElem?_set_self hl, h]
  · rw [List.getElem?_set_ne hj]
section
variable {X : Cx} {RW : WX}
theorem freeze_step {i : Nat} {a : SDen} (D : Ends) (σ : St) (H : Hp) (q : tB X.K X.mg RW (freezeS i a) D σ H) : tB X.K X.mg RW a D σ H := by
  obtain ⟨B, F0, z, ow, ρ, m, S, h⟩ := q
  unfold freezeS at h
  cases hs : slotAt ρ i with
  | non => rw [hs] at h; exact h.elim
  | exc a d x => rw [hs] at h; exact h.elim
  | sh d => rw [hs] at h; exact ⟨B, F0, z, ow, ρ, m, S, h⟩
  | own c =>
    rw [hs] at h
    obtain ⟨p, o, e1, hH, r, hz, S2⟩ := S.shut (slotAt_get hs (by simp))
    have rp : Rep X.K X.mg ⟨upd z.F p o, z.As⟩ c.d (.ref p) := rep_of_cok (z := ⟨upd z.F p o, z.As⟩) (show upd z.F p o p = some o from upd_same) (r.le (Fz.le_upd hz))
    have S3 := S2.setSh (i := i) rp
    rw [set_same e1, List.set_set] at S3
    exact ⟨B, F0, _, _, _, m, S3, RemS.mono (Fz.le_upd hz) h⟩
theorem sd_freeze {i : Nat} {st : List Stmt} {a : SDen} (h : PSs X st (tB X.K X.mg RW a)) : PSs X st (tB X.K X.mg RW (freezeS i a)) := PSs.imp h freeze_step
/-! ### methods that change an own list -/
/-- x.append(e) -/
def appS (i : Nat) (de : Den (List D)) : SDen := fun ρ m => match slotAt ρ i with
  | .own (.lst ds) => bindS (de ρ m) ρ fun ys m' => (match ys with
    | [y] => if ds.length < sizeLine then .nx (ρ.set i (.own (.lst (ds ++ [y])))) m' else .bad
    | _ => .bad)
  | _ => .bad
theorem sd_append {i : Nat} {x : Str} {e : Expr} {es : List Expr} {de : Den (List D)} {px apos cpos pos : Pos} (hv : PE X (.Name x px) (tVar i)) (ha : PA X (e :: es) (tX X.K X.mg RW de (pVals X.K X.mg)))
    (h : ∀ to t, PE X (.Name x px) to → PA X (e :: es) t → PS X (.Expr (.Call (.Attribute (.Name x px) "append" apos) (e :: es) [] cpos) pos) (tDrop (tBM X.K "list" rAppend to t))) :
    PS X (.Expr (.Call (.Attribute (.Name x px) "append" apos) (e :: es) [] cpos) pos) (tB X.K X.mg RW (appS i de)) :=
  PS.imp (h _ _ hv ha) fun D σ H ⟨B, F0, z, ow, ρ, m, S, q⟩ => by
    unfold appS at q
    split at q
    · rename_i ds hs
      obtain ⟨hg, a, o, e3, hH, xs, rfl, r⟩ := slot_own S hs
      refine ⟨.ref a, e3, .inl ⟨rfl, _, SqL.of hH⟩, B, F0, z, ow, ρ, m, S, Rem.stepS q fun ys m1 B1 z1 ow1 vs H1 hB hz S1 pv q1 => ?_⟩
      have S1' := S1.weak hB
      obtain ⟨_, a2, o2, e4, hH2, xs2, rfl, r2⟩ := slot_own S1' hs
      rw [e3] at e4
      cases e4
      match ys, q1 with
      | [y], q1 =>
        obtain ⟨v, vs', rfl, rv, rn⟩ := Reps.uncons pv
        cases rn.nil_of
        dsimp only at q1
        split at q1
        · rename_i hl
          refine ⟨a, xs2, v, rfl, rfl, hH2, by rw [← r2.len]; exact hl, ?_⟩
          exact q1 z1 _ σ _ (Fz.le.refl _) (S1'.change hg e3 ⟨_, rfl, r2.append (.cons rv .nil)⟩)
        · exact q1.elim
      | [], q1 => exact q1.elim
      | _ :: _ :: _, q1 => exact q1.elim
    · exact q.elim
/-! ### a, b = e, f -/
inductive Itm where
  | v (d : D) | n (c : Cont)
def Itm.slot : Itm → Slot
  | .v d => .sh d
  | .n c => .own c
section
variable (K : PySem.W.Frag) (mg : Str → Option Value)
def ItmOk (B : Hp) (z : Fz) : Itm → V → Prop
  | .v d, v => Rep K mg z d v
  | .n c, v => ∃ p o, v = .ref p ∧ B p = some o ∧ z.F p = none ∧ COk K mg z c o
def isNew (B : Hp) : Itm → V → Prop
  | .v _, _ => True
  | .n _, v => ∃ p, v = .ref p ∧ B p = none
/-- the new ones are apart -/
def pItms : Post (List Itm) (List V) := fun B B' z _ _ its vs => its.length = vs.length ∧ (∀ (i : Nat) it v, its[i]? = some it → vs[i]? = some v → ItmOk K mg B' z it v ∧ isNew B it v) ∧
  ∀ (i j : Nat) c c' v w, i < j → its[i]? = some (.n c) → its[j]? = some (.n c') → vs[i]? = some v → vs[j]? = some w → v ≠ w
end
end
theorem pItms.pm {K : PySem.W.Frag} {mg : Str → Option Value} : PMono (pItms K mg) := fun B B1 B' z ρ σ its vs hB h => ⟨h.1, fun i it v e1 e2 => by
  obtain ⟨q1, q2⟩ := h.2.1 i it v e1 e2
  refine ⟨q1, ?_⟩
  cases it with
  | v d => trivial
  | n c => obtain ⟨p, e, q⟩ := q2; exact ⟨p, e, hB.free q⟩, h.2.2⟩
def dItV (da : Den D) : Den Itm := fun ρ m => (da ρ m).bind fun x => .ok (.v x.1, x.2)
def dItN (da : Den Cont) : Den Itm := fun ρ m => (da ρ m).bind fun x => .ok (.n x.1, x.2)
section
variable {X : Cx} {RW : WX} {e : Expr}
theorem ItmOk.mono {K : PySem.W.Frag} {mg : Str → Option Value} {B B1 F0 : Hp} {z z1 : Fz} {ow : Own} {ρ : List Slot} {m : List Ob} {σ : St} {H : Hp} {it : Itm} {v : V} (S : StOk K mg B1 F0 z1 ow ρ m σ H) (h0 : Same F0 z.F) (hB : Same B B1) (hz : z.le z1) (h : ItmOk K mg B z it v) : ItmOk K mg B1 z1 it v := by
  cases it with
  | v d => exact Rep.le hz h
  | n c =>
    obtain ⟨p, o, e, h1, h2, h3⟩ := h
    refine ⟨p, o, e, hB _ _ h1, ?_, h3.le hz⟩
    cases q : z1.F p with
    | none => rfl
    | some u =>
      rcases S.new p (by rw [q]; simp) with r | r
      · exact absurd (h0.free h2) r
      · rw [hB _ _ h1] at r; cases r
theorem pai_nil : PA X [] (tX X.K X.mg RW dNil (pItms X.K X.mg)) := PA.imp pa_nil fun σ H Q ⟨B, F0, z, ow, ρ, m, S, h⟩ => h.here S ⟨rfl, fun i it v e => by simp at e, fun i j c c' v w _ e => by simp at e⟩
theorem Rem.step2 {K : PySem.W.Frag} {mg : Str → Option Value} {RW : WX} {z z1 : Fz} {B B1 F0 : Hp} {ρ : List Slot} {σ : St} {α β γ δ : Type} {r : Res (α × List Ob)} {f : α × List Ob → Res (γ × List Ob)} {P1 : Post α β} {P : Post γ δ} {Q1 : β → Hp → Prop} {Q : δ → Hp → Prop} (hB : Same B B1) (hz : z.le z1)
    (h : Rem K mg RW (r.bind f) B F0 z ρ σ P Q)
    (k : ∀ a m2 B2 z2 ow2 v H2, Same B1 B2 → z1.le z2 → StOk K mg B2 F0 z2 ow2 ρ m2 σ H2 → P1 B1 B2 z2 ρ σ a v → Rem K mg RW (f (a, m2)) B F0 z ρ σ P Q → Q1 v H2) : Rem K mg RW r B1 F0 z1 ρ σ P1 Q1 := by
  cases r with
  | ok a =>
    obtain ⟨d, m'⟩ := a
    intro B2 z2 ow2 v H2 hB2 hz2 S p
    exact k d m' B2 z2 ow2 v H2 hB2 hz2 S p h
  | err x m' => exact fun z' ow' cv dd H' q S e => h z' ow' cv dd H' (hz.trans q) (S.weak hB) e
  | bad => exact h
theorem pai_consV {es : List Expr} {de : Den D} {dr : Den (List Itm)} (ha : PE X e (tX X.K X.mg RW de (pVal X.K X.mg))) (hr : PA X es (tX X.K X.mg RW dr (pItms X.K X.mg))) (hs : starEach (e :: es) X.env = (false, eval e X.env) :: starEach es X.env := by rfl) :
    PA X (e :: es) (tX X.K X.mg RW (dCons (dItV de) dr) (pItms X.K X.mg)) := PA.imp (pa_cons ha hr hs) fun σ H Q q => by
  refine tX.imp q fun B F0 z ow ρ m S h => ?_
  unfold dCons dItV at h
  have h : Rem X.K X.mg RW ((de ρ m).bind fun x => (dr ρ x.2).bind fun xs => .ok (Itm.v x.1 :: xs.1, xs.2)) B F0 z ρ σ (pItms X.K X.mg) Q := by
    cases hd : de ρ m with
    | ok a => rw [hd] at h; exact h
    | err x m' => rw [hd] at h; exact h
    | bad => rw [hd] at h; exact h
  refine Rem.step2 (Same.refl _) (Fz.le.refl _) h fun dx m1 B1 z1 ow1 x H1 hB hz S1 px h1 => ?_
  refine ⟨B1, F0, z1, ow1, ρ, m1, S1, Rem.step2 hB hz h1 fun ds m2 B2 z2 ow2 vs H2 hB2 hz2 S2 ps h2 => ?_⟩
  refine h2 B2 z2 ow2 _ H2 (hB.trans hB2) (hz.trans hz2) S2 ⟨by simp [ps.1], fun i it v e1 e2 => ?_, fun i j c c' v w hij e1 e2 e3 e4 => ?_⟩
  · cases i with
    | zero =>
      simp at e1 e2
      subst e1 e2
      exact ⟨Rep.le hz2 px, trivial⟩
    | succ i =>
      obtain ⟨q1, q2⟩ := ps.2.1 i it v (by simpa using e1) (by simpa using e2)
      refine ⟨q1, ?_⟩
      cases it with
      | v d => trivial
      | n c => obtain ⟨p, e, q⟩ := q2; exact ⟨p, e, hB.free q⟩
  · cases j with
    | zero => omega
    | succ j =>
      cases i with
      | zero => simp at e1
      | succ i => exact ps.2.2 i j c c' v w (by omega) (by simpa using e1) (by simpa using e2) (by simpa using e3) (by simpa using e4)
theorem pai_consN {es : List Expr} {de : Den Cont} {dr : Den (List Itm)} (ha : PE X e (tX X.K X.mg RW de (pNew X.K X.mg))) (hr : PA X es (tX X.K X.mg RW dr (pItms X.K X.mg))) (hs : starEach (e :: es) X.env = (false, eval e X.env) :: starEach es X.env := by rfl) :
    PA X (e :: es) (tX X.K X.mg RW (dCons (dItN de) dr) (pItms X.K X.mg)) := PA.imp (pa_cons ha hr hs) fun σ H Q q => by
  refine tX.imp q fun B F0 z ow ρ m S h => ?_
  unfold dCons dItN at h
  have h : Rem X.K X.mg RW ((de ρ m).bind fun x => (dr ρ x.2).bind fun xs => .ok (Itm.n x.1 :: xs.1, xs.2)) B F0 z ρ σ (pItms X.K X.mg) Q := by
    cases hd : de ρ m with
    | ok a => rw [hd] at h; exact h
    | err x m' => rw [hd] at h; exact h
    | bad => rw [hd] at h; exact h
  refine Rem.step2 (Same.refl _) (Fz.le.refl _) h fun dx m1 B1 z1 ow1 x H1 hB hz S1 px h1 => ?_
  obtain ⟨p, o, rfl, hp1, hp2, hp3, hp4⟩ := px
  have it1 : ItmOk X.K X.mg B1 z1 (.n dx) (.ref p) := ⟨p, o, rfl, hp2, hp3, hp4⟩
  refine ⟨B1, F0, z1, ow1, ρ, m1, S1, Rem.step2 hB hz h1 fun ds m2 B2 z2 ow2 vs H2 hB2 hz2 S2 ps h2 => ?_⟩
  have it2 := it1.mono S2 S1.f0 hB2 hz2
  refine h2 B2 z2 ow2 _ H2 (hB.trans hB2) (hz.trans hz2) S2 ⟨by simp [ps.1], fun i it v e1 e2 => ?_, fun i j c c' v w hij e1 e2 e3 e4 => ?_⟩
  · cases i with
    | zero =>
      simp at e1 e2
      subst e1 e2
      exact ⟨it2, p, rfl, hp1⟩
    | succ i =>
      obtain ⟨q1, q2⟩ := ps.2.1 i it v (by simpa using e1) (by simpa using e2)
      refine ⟨q1, ?_⟩
      cases it with
      | v d => trivial
      | n c => obtain ⟨p, e, q⟩ := q2; exact ⟨p, e, hB.free q⟩
  · cases j with
    | zero => omega
    | succ j =>
      cases i with
      | zero =>
        simp at e3
        subst e3
        obtain ⟨_, p', e, q⟩ := ps.2.1 j (.n c') w (by simpa using e2) (by simpa using e4)
        subst e
        intro z
        cases z
        rw [hp2] at q
        cases q
      | succ i => exact ps.2.2 i j c c' v w (by omega) (by simpa using e1) (by simpa using e2) (by simpa using e3) (by simpa using e4)
/-- slots take what came -/
def setAll : List Nat → List Itm → List Slot → Option (List Slot)
  | [], [], ρ => some ρ
  | i :: is, it :: its, ρ => setAll is its (ρ.set i it.slot)
  | _, _, _ => none
def setAllV : List Nat → List V → St → St
  | i :: is, v :: vs, σ => setAllV is vs (σ.set i (some v))
  | _, _, σ => σ
theorem StOk.takeAll {K : PySem.W.Frag} {mg : Str → Option Value} {B F0 : Hp} {z : Fz} {m : List Ob} {H : Hp} : ∀ {is : List Nat} {its : List Itm} {vs : List V} {ow : Own} {ρ ρ' : List Slot} {σ : St}, StOk K mg B F0 z ow ρ m σ H → setAll is its ρ = some ρ' → its.length = vs.length →
    (∀ (i : Nat) it v, its[i]? = some it → vs[i]? = some v → (match it with
      | .v d => Rep K mg z d v
      | .n c => ∃ p o, v = .ref p ∧ H p = some o ∧ z.F p = none ∧ B p = none ∧ ow p = none ∧ COk K mg z c o)) →
    (∀ (i j : Nat) c c' v w, i < j → its[i]? = some (.n c) → its[j]? = some (.n c') → vs[i]? = some v → vs[j]? = some w → v ≠ w) → ∃ ow', StOk K mg B F0 z ow' ρ' m (setAllV is vs σ) H
  | [], [], vs, ow, ρ, ρ', σ, S, h, hl, _, _ => by
    cases h
    exact ⟨ow, S⟩
  | i :: is, it :: its, [], ow, ρ, ρ', σ, S, h, hl, _, _ => by simp at hl
  | i :: is, it :: its, v :: vs, ow, ρ, ρ', σ, S, h, hl, h1, h2 => by
    have q := h1 0 it v rfl rfl
    have hl' : its.length = vs.length := by simpa using hl
    have h2' : ∀ (i j : Nat) c c' v w, i < j → its[i]? = some (.n c) → its[j]? = some (.n c') → vs[i]? = some v → vs[j]? = some w → v ≠ w := fun i j c c' v w hij e1 e2 e3 e4 => h2 (i + 1) (j + 1) c c' v w (by omega) (by simpa using e1) (by simpa using e2) (by simpa using e3) (by simpa using e4)
    cases it with
    | v d =>
      refine StOk.takeAll (is := is) (its := its) (vs := vs) (S.setSh (i := i) (show Rep K mg z d v from q)) (show setAll is its (ρ.set i (.sh d)) = some ρ' from h) hl' (fun j it w e1 e2 => ?_) h2'
      have r := h1 (j + 1) it w (by simpa using e1) (by simpa using e2)
      cases it with
      | v d => exact r
      | n c =>
        obtain ⟨p, o, a1, a2, a3, a4, a5, a6⟩ := r
        refine ⟨p, o, a1, a2, a3, a4, ?_, a6⟩
        unfold Own.drop
        rw [a5]
        rfl
    | n c =>
      obtain ⟨p, o, rfl, a2, a3, a4, a5, a6⟩ := q
      refine StOk.takeAll (is := is) (its := its) (vs := vs) (S.setOwn (i := i) a2 a3 a4 a5 a6) (show setAll is its (ρ.set i (.own c)) = some ρ' from h) hl' (fun j it w e1 e2 => ?_) h2'
      have r := h1 (j + 1) it w (by simpa using e1) (by simpa using e2)
      cases it with
      | v d => exact r
      | n c' =>
        obtain ⟨p', o', rfl, b2, b3, b4, b5, b6⟩ := r
        refine ⟨p', o', rfl, b2, b3, b4, ?_, b6⟩
        have ne : p' ≠ p := fun e => h2 0 (j + 1) c c' (.ref p) (.ref p') (by omega) rfl (by simpa using e1) rfl (by simpa using e2) (by rw [e])
        show (if p' = p then some (Sum.inl i) else ow.drop i p') = none
        rw [if_neg ne]
        unfold Own.drop
        rw [b5]
        rfl
  | [], _ :: _, _, _, _, _, _, _, h, _, _, _ => by cases h
  | _ :: _, [], _, _, _, _, _, _, h, _, _, _ => by cases h
theorem itms_set {K : PySem.W.Frag} {mg : Str → Option Value} {B B1 F0 : Hp} {z : Fz} {ow : Own} {ρ ρ' : List Slot} {m : List Ob} {σ : St} {H : Hp} {is : List Nat} {its : List Itm} {vs : List V} (S : StOk K mg B1 F0 z ow ρ m σ H) (hB : Same B B1) (p : pItms K mg B B1 z ρ σ its vs) (h : setAll is its ρ = some ρ') :
    ∃ ow', StOk K mg B F0 z ow' ρ' m (setAllV is vs σ) H := by
  refine (S.weak hB).takeAll h p.1 (fun i it v e1 e2 => ?_) p.2.2
  obtain ⟨q1, q2⟩ := p.2.1 i it v e1 e2
  cases it with
  | v d => exact q1
  | n c =>
    obtain ⟨p, o, rfl, b1, b2, b3⟩ := q1
    obtain ⟨p', e, b4⟩ := q2
    cases e
    exact ⟨p, o, rfl, S.bh _ _ b1, b2, b4, S.noown b1, b3⟩
def parS (is : List Nat) (de : Den (List Itm)) : SDen := fun ρ m => bindS (de ρ m) ρ fun its m' => match setAll is its ρ with
  | some ρ' => .nx ρ' m'
  | none => .bad
theorem setAll_len {is : List Nat} {its : List Itm} {ρ ρ' : List Slot} (h : setAll is its ρ = some ρ') : is.length = its.length := by
  induction is generalizing its ρ with
  | nil => cases its with
    | nil => rfl
    | cons => cases h
  | cons i is ih => cases its with
    | nil => cases h
    | cons it its => rw [List.length_cons, List.length_cons, ih h]
theorem sd_par2 {i j : Nat} {x y : Str} {a b : Expr} {de : Den (List Itm)} {px py pt pos : Pos} {kt k2 pt2} (hc : X.calm = true) (hN : X.N.Nodup) (hi : X.N[i]? = some x) (hj : X.N[j]? = some y) (hij : i ≠ j)
    (hx : X.env.scope.names.lookup x = some .local) (hy : X.env.scope.names.lookup y = some .local) (ha : PA X [a, b] (tX X.K X.mg RW de (pItms X.K X.mg)))
    (hw : swappedStores [.Tuple [.Name x px, .Name y py] kt pt] (.Tuple [a, b] k2 pt2) X.env = pure (some [x, y]))
    (hs : swapsWithSole [.Tuple [.Name x px, .Name y py] kt pt] (.Tuple [a, b] k2 pt2) pos.line X.env = pure false := by rfl) :
    PS X (.Assign [.Tuple [.Name x px, .Name y py] kt pt] (.Tuple [a, b] k2 pt2) pos) (tB X.K X.mg RW (parS [i, j] de)) :=
  PS.imp (ps_par hc hN hi hj hij hx hy ha hw hs) fun D σ H ⟨B, F0, z, ow, ρ, m, S, q⟩ => by
    refine ⟨B, F0, z, ow, ρ, m, S, Rem.stepS q fun its m1 B1 z1 ow1 vs H1 hB hz S1 p q1 => ?_⟩
    cases hs : setAll [i, j] its ρ with
    | none => rw [hs] at q1; exact q1.elim
    | some ρ' =>
      rw [hs] at q1
      obtain ⟨ow2, S2⟩ := itms_set S1 hB p hs
      have hl := p.1
      have hl2 := setAll_len hs
      match vs, (hl2.trans hl : 2 = vs.length) with
      | [v, w], _ => exact ⟨v, w, rfl, q1 z1 ow2 _ H1 (Fz.le.refl _) S2⟩
/-- the targets' stores, one by one -/
def gNames : List Nat → TGs
  | [] => gNil
  | i :: is => gCons (gName i) (gNames is)
theorem gNames_run : ∀ {is : List Nat} {vs : List V} {σ : St} {H : Hp} {Q : St → Hp → Prop}, is.length = vs.length → Q (setAllV is vs σ) H → gNames is vs σ H Q
  | [], [], _, _, _, _, q => ⟨rfl, q⟩
  | i :: is, v :: vs, σ, H, Q, hl, q => ⟨v, vs, rfl, gNames_run (by simpa using hl) q⟩
  | [], _ :: _, _, _, _, hl, _ => by simp at hl
  | _ :: _, [], _, _, _, hl, _ => by simp at hl
/-- a, b, .. = e, f, .. where a tuple is laid -/
theorem sd_parT {is : List Nat} {ts es : List Expr} {k k2 : Nat} {de : Den (List Itm)} {pt pt2 pos : Pos} (ha : PA X es (tX X.K X.mg RW de (pItms X.K X.mg))) (hc : X.calm = true) (hg : PGs X ts (gNames is))
    (h : ∀ te g, PE X (.Tuple es k2 pt2) te → PG X (.Tuple ts k pt) g → PS X (.Assign [.Tuple ts k pt] (.Tuple es k2 pt2) pos) (tAsg te g)) (h100 : is.length ≤ 100 := by decide) (hn : (assignEach ts X.env).length = is.length := by rfl) (hst : (assignEach ts X.env).findIdx? (·.1) = none := by rfl) :
    PS X (.Assign [.Tuple ts k pt] (.Tuple es k2 pt2) pos) (tB X.K X.mg RW (parS is de)) :=
  PS.imp (h _ _ (pe_tup ha) (pg_tup (n := is.length) hc hg hn hst)) fun D σ H ⟨B, F0, z, ow, ρ, m, S, q⟩ => by
    refine ⟨B, F0, z, ow, ρ, m, S, Rem.stepS q fun its m1 B1 z1 ow1 vs H1 hB hz S1 p q1 => ?_⟩
    cases hs : setAll is its ρ with
    | none => rw [hs] at q1; exact q1.elim
    | some ρ' =>
      rw [hs] at q1
      have hl : is.length = vs.length := (setAll_len hs).trans p.1
      refine ⟨Nat.le_trans (by rw [← hl]; exact h100) (by decide), fun t ht => ?_⟩
      refine ⟨t, vs, rfl, SqT.of upd_same, hl.symm, gNames_run hl ?_⟩
      obtain ⟨ow2, S2⟩ := itms_set S1 hB p hs
      exact q1 z1 ow2 _ _ (Fz.le.refl _) (S2.alloc ht _)
/-- a, b, .. = a tuple (or a list) that stands -/
def unS (is : List Nat) (de : Den D) : SDen := fun ρ m => bindS (de ρ m) ρ fun d m' => match d with
  | .tup ds => (match setAll is (ds.map .v) ρ with
    | some ρ' => .nx ρ' m'
    | none => .bad)
  | _ => .bad
theorem reps_itms {K : PySem.W.Frag} {mg : Str → Option Value} {B F0 : Hp} {z : Fz} {ow : Own} {ρ ρ' : List Slot} {m : List Ob} {σ : St} {H : Hp} {is : List Nat} {ds : List D} {vs : List V} (S : StOk K mg B F0 z ow ρ m σ H) (r : Reps K mg z ds vs) (h : setAll is (ds.map .v) ρ = some ρ') : ∃ ow', StOk K mg B F0 z ow' ρ' m (setAllV is vs σ) H := by
  refine S.takeAll h (by rw [List.length_map, r.len]) (fun i it v e1 e2 => ?_) (fun i j c c' v w _ e1 => ?_)
  · rw [List.getElem?_map] at e1
    cases q : ds[i]? with
    | none => rw [q] at e1; cases e1
    | some d =>
      rw [q] at e1
      cases e1
      obtain ⟨w, e3, rv⟩ := r.get q
      rw [e2] at e3
      cases e3
      exact rv
  · rw [List.getElem?_map] at e1
    cases q : ds[i]? with
    | none => rw [q] at e1; cases e1
    | some d => rw [q] at e1; cases e1
theorem sd_unT {is : List Nat} {ts : List Expr} {k : Nat} {de : Den D} {pt pos : Pos} (he : PE X e (tX X.K X.mg RW de (pVal X.K X.mg))) (hc : X.calm = true) (hg : PGs X ts (gNames is))
    (h : ∀ te g, PE X e te → PG X (.Tuple ts k pt) g → PS X (.Assign [.Tuple ts k pt] e pos) (tAsg te g)) (hn : (assignEach ts X.env).length = is.length := by rfl) (hst : (assignEach ts X.env).findIdx? (·.1) = none := by rfl) :
    PS X (.Assign [.Tuple ts k pt] e pos) (tB X.K X.mg RW (unS is de)) :=
  PS.imp (h _ _ he (pg_tup (n := is.length) hc hg hn hst)) fun D σ H ⟨B, F0, z, ow, ρ, m, S, q⟩ => by
    refine ⟨B, F0, z, ow, ρ, m, S, Rem.stepS q fun d m1 B1 z1 ow1 v H1 hB hz S1 p q1 => ?_⟩
    cases d with
    | tup ds =>
      obtain ⟨a, xs, rfl, e1, r⟩ := (by simpa only [Rep] using (show Rep X.K X.mg z1 (.tup ds) v from p) : ∃ a xs, v = .ref a ∧ SqT X.K z1.F a xs ∧ Reps X.K X.mg z1 ds xs)
      dsimp only at q1
      cases hs : setAll is (ds.map .v) ρ with
      | none => rw [hs] at q1; exact q1.elim
      | some ρ' =>
        rw [hs] at q1
        have hl : is.length = xs.length := by rw [setAll_len hs, List.length_map, r.len]
        obtain ⟨ow2, S2⟩ := reps_itms (S1.weak hB) r hs
        exact ⟨a, xs, rfl, same_tup S1.fh e1, hl.symm, gNames_run hl (q1 z1 ow2 _ _ (Fz.le.refl _) S2)⟩
    | _ => exact q1.elim
/-- a tuple as a loop's target -/
def tgT (is : List Nat) : Tg := fun d ρ => match d with
  | .tup ds => setAll is (ds.map .v) ρ
  | _ => none
theorem setAllV_wipe : ∀ {is : List Nat} {vs : List V} {σ : St}, wipe (setAllV is vs σ) is = wipe σ is := by
  intro is vs σ
  apply List.ext_getElem?
  intro i
  have hlen : ∀ (is : List Nat) (vs : List V) (σ : St), (setAllV is vs σ).length = σ.length := by
    intro is
    induction is with
    | nil => intro vs σ; cases vs <;> rfl
    | cons j is ih => intro vs σ; cases vs with
      | nil => rfl
      | cons v vs => simp only [setAllV]; rw [ih]; simp
  have hget : ∀ (is : List Nat) (vs : List V) (σ : St), i ∉ is → (setAllV is vs σ)[i]? = σ[i]? := by
    intro is
    induction is with
    | nil => intro vs σ _; cases vs <;> rfl
    | cons j is ih => intro vs σ h; cases vs with
      | nil => rfl
      | cons v vs =>
        simp only [List.mem_cons, not_or] at h
        simp only [setAllV]
        rw [ih _ _ h.2, List.getElem?_set_ne (Ne.symm h.1)]
  by_cases hi : i ∈ is
  · by_cases hl : i < σ.length
    · rw [wipe_in hi (by rw [hlen]; exact hl), wipe_in hi hl]
    · rw [List.getElem?_eq_none (by rw [wipe_length, hlen]; omega), List.getElem?_eq_none (by rw [wipe_length]; omega)]
  · rw [wipe_get hi, wipe_get hi, hget _ _ _ hi]
theorem setAll_wipe {is : List Nat} {its : List Itm} {ρ ρ' : List Slot} (h : setAll is its ρ = some ρ') : wipeS ρ' is = wipeS ρ is := by
  apply List.ext_getElem?
  intro i
  have hlen : ∀ (is : List Nat) (its : List Itm) (ρ ρ' : List Slot), setAll is its ρ = some ρ' → ρ'.length = ρ.length := by
    intro is
    induction is with
    | nil => intro its ρ ρ' h; cases its with
      | nil => cases h; rfl
      | cons => cases h
    | cons j is ih => intro its ρ ρ' h; cases its with
      | nil => cases h
      | cons v vs => rw [ih _ _ _ h]; simp
  have hget : ∀ (is : List Nat) (its : List Itm) (ρ ρ' : List Slot), setAll is its ρ = some ρ' → i ∉ is → ρ'[i]? = ρ[i]? := by
    intro is
    induction is with
    | nil => intro its ρ ρ' h _; cases its with
      | nil => cases h; rfl
      | cons => cases h
    | cons j is ih => intro its ρ ρ' h hi; cases its with
      | nil => cases h
      | cons v vs =>
        simp only [List.mem_cons, not_or] at hi
        rw [ih _ _ _ h hi.2, List.getElem?_set_ne (Ne.symm hi.1)]
  by_cases hi : i ∈ is
  · by_cases hl : i < ρ.length
    · rw [wipeS_in hi (by rw [hlen _ _ _ _ h]; exact hl), wipeS_in hi hl]
    · rw [List.getElem?_eq_none (by rw [wipeS_len, hlen _ _ _ _ h]; omega), List.getElem?_eq_none (by rw [wipeS_len]; omega)]
  · rw [wipeS_get hi, wipeS_get hi, hget _ _ _ _ h hi]
theorem tgok_n (i : Nat) : TgOk [i] (tgN i) := fun d ρ ρ' h => by
  cases h
  show (ρ.set i _).set i .non = ρ.set i .non
  rw [List.set_set]
theorem tgok_t (is : List Nat) : TgOk is (tgT is) := fun d ρ ρ' h => by
  cases d with
  | tup ds => exact setAll_wipe h
  | _ => cases h
theorem tg_tup {is : List Nat} {ts : List Expr} {k : Nat} {pt : Pos} (hc : X.calm = true) (hg : PGs X ts (gNames is)) (hn : (assignEach ts X.env).length = is.length := by rfl) (hst : (assignEach ts X.env).findIdx? (·.1) = none := by rfl) : PG X (.Tuple ts k pt) (tG X.K X.mg is (tgT is)) :=
  PG.imp (pg_tup (n := is.length) hc hg hn hst) fun v σ H Q ⟨B, F0, z, ow, ρ, m, d, S, r, ρ', e, k⟩ => by
    cases d with
    | tup ds =>
      obtain ⟨a, xs, rfl, e1, r⟩ := (by simpa only [Rep] using r : ∃ a xs, v = .ref a ∧ SqT X.K z.F a xs ∧ Reps X.K X.mg z ds xs)
      have hl : is.length = xs.length := by rw [setAll_len e, List.length_map, r.len]
      obtain ⟨ow2, S2⟩ := reps_itms S r e
      exact ⟨a, xs, rfl, same_tup S.fh e1, hl.symm, gNames_run hl (k _ _ S2 setAllV_wipe)⟩
    | _ => cases e
end
/-! ### a def by its body -/
def pad : List D → Nat → List Slot
  | [], n => List.replicate n .non
  | d :: ds, n => .sh d :: pad ds n
theorem pad_len : ∀ (ds : List D) (n : Nat), (pad ds n).length = ds.length + n
  | [], n => by simp [pad]
  | d :: ds, n => by simp [pad, pad_len ds n]; omega
theorem pad_get : ∀ {ds : List D} {n i : Nat} {s : Slot}, (pad ds n)[i]? = some s → s = .non ∨ ∃ d, ds[i]? = some d ∧ s = .sh d
  | [], n, i, s, h => by
    simp only [pad, List.getElem?_replicate] at h
    split at h
    · cases h; exact .inl rfl
    · cases h
  | d :: ds, n, 0, s, h => by simp [pad] at h; exact .inr ⟨d, rfl, h.symm⟩
  | d :: ds, n, i + 1, s, h => by
    simp only [pad, List.getElem?_cons_succ] at h
    rcases pad_get h with h | ⟨e, h1, h2⟩
    · exact .inl h
    · exact .inr ⟨e, by simpa using h1, h2⟩
/-- n parameters, l other names -/
def fnD (n l : Nat) (body : SDen) : FDen := fun ds m => if ds.length = n then (match body (pad ds l) m with
  | .nx _ m' => .ok (.non, m')
  | .rt d m' => .ok (d, m')
  | .er x _ m' => .err x m'
  | _ => .bad) else .bad
theorem StOk.args {K : PySem.W.Frag} {mg : Str → Option Value} {B F0 : Hp} {z : Fz} {ow : Own} {m : List Ob} {H : Hp} {ds : List D} {vs : List V} {N : List Str} {l : Nat} (S : StOk K mg B F0 z ow [] m [] H) (r : Reps K mg z ds vs) (hl : N.length = ds.length + l) : StOk K mg B F0 z ow (pad ds l) m (L2.start N vs) H := by
  have e1 : N.length - vs.length = l := by rw [← r.len]; omega
  refine ⟨S.fh, S.bh, S.f0, S.new, ?_, fun i s e => ?_, S.ol, S.ob, S.ow⟩
  · unfold L2.start
    rw [List.length_append, List.length_map, List.length_replicate, pad_len, r.len, e1]
  · rcases pad_get e with rfl | ⟨d, h1, rfl⟩
    · trivial
    · obtain ⟨v, h2, h3⟩ := r.get h1
      refine ⟨v, ?_, h3⟩
      obtain ⟨hi, _⟩ := List.getElem?_eq_some_iff.mp h2
      unfold L2.start
      rw [List.getElem?_append_left (by simpa using hi), List.getElem?_map, h2]
      rfl
theorem Fd.mk' {P : Program} {w : World} {K : PySem.W.Frag} {mg : Str → Option Value} {base : Heap} {x : Str} {k n l : Nat} {b : SDen} {params : Arguments} {body : List Stmt} {scope : Scope} {a : Addr} {fd : FuncData} {N ps : List Str} (F : FunD K x x params body scope [] [] a fd) (S : FnScope N ps scope) (hm : mg x = some (.ref a)) (hb : Binds K fd ps []) (hn : ps.length = n) (hl : N.length = n + l)
    (h : ∀ (cdv : Value) (A : Around) (outer : List Env) (s : Shared) (H : Hp) (E : XK), Room k (A.deeper (envOfC x scope s.heap.objs.size a cdv)) → PSs (cxOf (L2.CX P w) P w K mg base N x scope a cdv A outer s H E) body (tB K mg (fun cls d _ H => E cls d H) b)) : Fd P w K mg base x (k + 1) n (fnD n l b) := by
  refine ⟨a, fd, ps, F.ok S (fun vs H Q E q => by rw [hn]; exact q.1) (fun cdv A outer s H vs Q E hr q => ?_), hm, F.kp, hb⟩
  refine ⟨_, h cdv A outer s H E hr, ?_⟩
  obtain ⟨hv, B, F0, z, ow, m, ds, S0, r, q⟩ := q
  have hds : ds.length = n := by rw [r.len]; exact hv
  refine ⟨B, F0, z, ow, pad ds l, m, S0.args r (by rw [hl, hds]), ?_⟩
  unfold fnD at q
  rw [if_pos hds] at q
  cases hbd : b (pad ds l) m with
  | nx ρ' m' =>
    rw [hbd] at q
    exact fun z' ow' σ' H' hz S' => q z' ow' .non H' hz S'.forget (rep_non.mpr rfl)
  | rt d m' =>
    rw [hbd] at q
    exact fun z' ow' v H' hz S' rv => q z' ow' v H' hz S' rv
  | er x ρ' m' =>
    rw [hbd] at q
    exact fun z' ow' σ' cv dd H' hz S' ex => q z' ow' cv dd H' hz S'.forget ex
  | bk ρ' m' => rw [hbd] at q; exact q.elim
  | ct ρ' m' => rw [hbd] at q; exact q.elim
  | bad => rw [hbd] at q; exact q.elim
end PD
namespace PD
open PySem PySem.Spec PyProof.Rows L2
def DLen {α : Type} (d : Den (List α)) (n : Nat) : Prop := ∀ ρ m xs m', d ρ m = .ok (xs, m') → xs.length = n
theorem dlen_nil {α : Type} : DLen (dNil : Den (List α)) 0 := fun ρ m xs m' h => by cases h; rfl
theorem dlen_cons {α : Type} {a : Den α} {r : Den (List α)} {n : Nat} (h : DLen r n) : DLen (dCons a r) (n + 1) := fun ρ m xs m' e => by
  unfold dCons at e
  cases ha : a ρ m with
  | ok x =>
    rw [ha] at e
    cases hr : r ρ x.2 with
    | ok y =>
      have e : (r ρ x.2).bind (fun xs => .ok (x.1 :: xs.1, xs.2)) = .ok (xs, m') := e
      rw [hr] at e
      obtain ⟨ys, m2⟩ := y
      have e : Res.ok (x.1 :: ys, m2) = Res.ok (xs, m') := e
      cases e
      exact congrArg Nat.succ (h _ _ _ _ hr)
    | err x' m'' =>
      have e : (r ρ x.2).bind (fun xs => .ok (x.1 :: xs.1, xs.2)) = .ok (xs, m') := e
      rw [hr] at e
      cases e
    | bad =>
      have e : (r ρ x.2).bind (fun xs => .ok (x.1 :: xs.1, xs.2)) = .ok (xs, m') := e
      rw [hr] at e
      cases e
  | err x m'' => rw [ha] at e; cases e
  | bad => rw [ha] at e; cases e
section
variable {X : Cx} {RW : WX} {e c : Expr} {pos : Pos}
theorem sd_never {st : Stmt} : PS X st (tB X.K X.mg RW fun _ _ => .bad) := PS.imp ps_never fun D σ H ⟨B, F0, z, ow, ρ, m, S, h⟩ => h
def ipDivD : D → D → Res D
  | .int i, .int j => if 0 < j ∧ j < 1073741824 then .ok (.int (i / j)) else .bad
  | _, _ => .bad
theorem ipdiv_r : IpR X (rI CDiv fun i j => .int (i / j)) ipDivD := by
  intro B F0 z ow ρ m σ H x y dx dy d Q S px py h q
  unfold ipDivD at h
  split at h
  · split at h
    · rename_i hz
      cases h
      exact ⟨_, _, rep_int.mp px, look_int py, hz, q _ (rep_int.mpr rfl)⟩
    · cases h
  · cases h
theorem ipmul_r : IpR X (rI CMul fun i j => .int (i * j)) mulD := by
  intro B F0 z ow ρ m σ H x y dx dy d Q S px py h q
  unfold mulD at h
  split at h
  · split at h
    · rename_i hz
      cases h
      exact ⟨_, _, rep_int.mp px, look_int py, hz, q _ (rep_int.mpr rfl)⟩
    · cases h
  · cases h
end
/-! ### isinstance -/
inductive Ty where
  | int | bool | str | non | tup | lst | dct
def Ty.name : Ty → String
  | .int => "int"
  | .bool => "bool"
  | .str => "str"
  | .non => "NoneType"
  | .tup => "tuple"
  | .lst => "list"
  | .dct => "dict"
def Ty.isa : Ty → Ty → Bool
  | .int, .int | .bool, .int | .bool, .bool | .str, .str | .tup, .tup | .lst, .lst | .dct, .dct => true
  | _, _ => false
theorem kit_isa : ∀ a b : Ty, b.name ≠ "NoneType" → kitB a.name b.name = some (a.isa b) := by
  intro a b h
  cases b with
  | non => exact absurd rfl h
  | _ => cases a <;> decide +kernel
def D.ty : D → Option Ty
  | .non => some .non
  | .bl _ => some .bool
  | .int _ => some .int
  | .str _ => some .str
  | .tup _ => some .tup
  | .etp _ => some .tup
  | .lst _ => some .lst
  | .dct _ _ _ => some .dct
  | _ => none
theorem look_ty {K : PySem.W.Frag} {mg : Str → Option Value} {z : Fz} {B B' F0 : Hp} {ow : Own} {ρ : List Slot} {m : List Ob} {σ : St} {H : Hp} {d : D} {v : V} {t : Ty} (S : StOk K mg B F0 z ow ρ m σ H) (h : pLook K mg B' B z ρ σ d v) (ht : d.ty = some t) : TyX K H v (.type t.name) := by
  cases d with
  | non => cases ht; rw [look_non h]; exact .base .non
  | bl b => cases ht; rw [look_bl h]; exact .base (.bl b)
  | int i => cases ht; rw [look_int h]; exact .base (.int i)
  | str s => cases ht; rw [look_str h]; exact .base (.str s)
  | tup ds =>
    cases ht
    obtain ⟨a, xs, rfl, e, _⟩ := look_tup S h
    rcases e with (e | ⟨o, e⟩) | e
    · exact .base (.tup e)
    · exact .fTuple e
    · obtain ⟨o, its, n, h1, h2, _⟩ := e
      exact .kTuple h1 h2
  | etp ds =>
    cases ht
    have h := look_rep h (fun c => by cases c <;> simp [Cont.d])
    simp only [Rep] at h
    obtain ⟨a, o, xs, rfl, e, _⟩ := h
    exact .fTuple (S.fh _ _ e)
  | lst ds =>
    cases ht
    obtain ⟨a, xs, rfl, e, _⟩ := look_list S h
    exact .base (.lst e)
  | dct t ks vs =>
    cases ht
    obtain ⟨a, o, rfl, e, vx, _, hk⟩ := look_cont (c := .dct t ks vs) S h
    cases t with
    | false => obtain ⟨kx, _, _, rfl⟩ := hk; exact .base (.dK e)
    | true => obtain ⟨kx, _, _, rfl⟩ := hk; exact .base (.dT e)
  | ldc t ks vs => cases ht
  | row g => cases ht
  | obj n => cases ht
  | fn n => cases ht
  | scr n => cases ht
def isiD (T : Ty) : D → Res D := fun d => match d.ty with
  | some t => .ok (.bl (t.isa T))
  | none => .bad
section
variable {X : Cx} {RW : WX} {e c : Expr} {pos : Pos}
theorem pd_isi (T : Ty) {x : Str} {de : Den D} {p p2 : Pos} (hN : T.name ≠ "NoneType") (hg : Gl X "isinstance") (hm : X.mg "isinstance" = none) (hg2 : Gl X x) (hm2 : X.mg x = none) (hv2 : bootBuiltins x = some (.type T.name)) (he : PE X e (tX X.K X.mg RW de (pLook X.K X.mg)))
    (hn : x ≠ "__name__" := by decide) (hd : (x == ("__debug__" : Str)) = false := by decide)
    (hs : starEach (e :: [.Name x p2]) X.env = (false, eval e X.env) :: starEach [.Name x p2] X.env := by rfl) (hs2 : starEach [.Name x p2] X.env = (false, eval (.Name x p2) X.env) :: starEach [] X.env := by rfl) (hpl : (backTo pos (starEach [.Name x p2] X.env)).any (·.1) = false := by rfl) :
    PE X (.Call (.Name "isinstance" p) [e, .Name x p2] [] pos) (tX X.K X.mg RW (dUn (isiD T) de) (pVal X.K X.mg)) :=
  PE.imp (pe_callB call_isi hg hm (by decide +kernel) (pa_cons he (pa_cons (pe_bltn (v := .ty T.name) hg2 hm2 hv2 rfl hn hd) pa_nil hs2) hs) (by decide) (by decide) hs hpl) fun σ H Q q => tX.imp q fun B F0 z ow ρ m S h => Rem.step pVal.pm h fun d m1 B1 z1 ow1 v H1 hB hz S1 p h1 => by
    unfold isiD at h1
    dsimp only at h1
    cases ht : d.ty with
    | none => rw [ht] at h1; exact h1.elim
    | some t =>
      rw [ht] at h1
      exact ⟨v, .ty T.name, _, _, t.isa T, rfl, .ty _, look_ty S1 p ht, kit_ty (kit_isa t T hN), h1.here S1 (rep_bl.mpr rfl)⟩
end
end PD
namespace PD
open PySem L2
theorem hu65 {A : Around} {k : Nat} (hr : Room k A) : A.units + 65 < cLine := by have := hr.un; omega
end PD
namespace PD
open PySem PySem.Spec PyProof.Rows L2
/-! ### the source of draws -/
section
variable {K : PySem.W.Frag} {mg : Str → Option Value} {RW : WX} {z z' z1 z2 : Fz} {B B' B1 B2 F0 F1 : Hp} {ow ow' ow1 : Own} {ρ : List Slot} {m m' m1 : List Ob} {σ : St} {H H' H1 : Hp}
theorem StOk.genAt (S : StOk K mg B F0 z ow ρ m σ H) {n : Nat} {s : Int} {cs : List Int} {i : Int} (h : m[n]? = some (.gen s cs i)) :
    ∃ a c, z.As[n]? = some [a, c] ∧ a ≠ c ∧ H a = some (.lst [.int s, .ref c, .int i]) ∧ H c = some (.lst (cs.map V.int)) ∧ ow a = some (.inr n) ∧ ow c = some (.inr n) := by
  obtain ⟨fp, e, a, c, rfl, ne, h1, h2, w1, w2⟩ := S.ob n _ h
  exact ⟨a, c, e, ne, h1, h2, w1, w2⟩
theorem StOk.genChange (S : StOk K mg B F0 z ow ρ m σ H) {n : Nat} {s s' : Int} {cs cs' : List Int} {i i' : Int} {a c : Addr} (hm : m[n]? = some (.gen s cs i)) (hA : z.As[n]? = some [a, c])
    (ha : H' a = some (.lst [.int s', .ref c, .int i'])) (hc : H' c = some (.lst (cs'.map V.int))) (hx : ∀ b o, b ≠ a → b ≠ c → H b = some o → H' b = some o) : StOk K mg B F0 z ow ρ (m.set n (.gen s' cs' i')) σ H' := by
  obtain ⟨a0, c0, e, ne, h1, h2, w1, w2⟩ := S.genAt hm
  rw [hA] at e
  cases e
  have hn : ∀ b, (z.F b ≠ none ∨ B b ≠ none) → b ≠ a ∧ b ≠ c := fun b h => by
    refine ⟨fun q => ?_, fun q => ?_⟩ <;> subst q
    · obtain ⟨q1, q2, _⟩ := S.ow _ _ w1
      exact h.elim (fun r => r q1) fun r => r q2
    · obtain ⟨q1, q2, _⟩ := S.ow _ _ w2
      exact h.elim (fun r => r q1) fun r => r q2
  have hol : ∀ b u, ow b = some u → u ≠ .inr n → b ≠ a ∧ b ≠ c := fun b u h hu => by
    refine ⟨fun q => ?_, fun q => ?_⟩ <;> subst q
    · rw [w1] at h; cases h; exact hu rfl
    · rw [w2] at h; cases h; exact hu rfl
  refine ⟨fun b o q => ?_, fun b o q => ?_, S.f0, S.new, S.len, fun j t q => ?_, by rw [List.length_set]; exact S.ol, fun k o q => ?_, fun b u q => ?_⟩
  · obtain ⟨n1, n2⟩ := hn b (.inl (by rw [q]; simp))
    exact hx b o n1 n2 (S.fh b o q)
  · obtain ⟨n1, n2⟩ := hn b (.inr (by rw [q]; simp))
    exact hx b o n1 n2 (S.bh b o q)
  · have r := S.slot j t q
    cases t with
    | non => trivial
    | exc a d x => exact r
    | sh d => exact r
    | own ct =>
      obtain ⟨b, o, e1, e2, c1, w⟩ := r
      obtain ⟨n1, n2⟩ := hol b _ w (by simp)
      exact ⟨b, o, e1, hx b o n1 n2 e2, c1, w⟩
  · by_cases hk : n = k
    · subst hk
      obtain ⟨hl, _⟩ := List.getElem?_eq_some_iff.mp hm
      rw [List.getElem?_set_self hl] at q
      cases q
      exact ⟨[a, c], hA, a, c, rfl, ne, ha, hc, w1, w2⟩
    · rw [List.getElem?_set_ne hk] at q
      obtain ⟨fp, e1, r⟩ := S.ob k o q
      refine ⟨fp, e1, r.mono (Fz.le.refl _) (fun _ w => w) fun b x w1 h1 => ?_⟩
      obtain ⟨n1, n2⟩ := hol b _ w1 (fun z => hk (Sum.inr.inj z).symm)
      exact hx _ _ n1 n2 h1
  · obtain ⟨q1, q2, q3⟩ := S.ow b u q
    refine ⟨q1, q2, ?_⟩
    by_cases n1 : b = a
    · rw [n1, ha]; simp
    · by_cases n2 : b = c
      · rw [n2, hc]; simp
      · cases r : H b with
        | none => exact absurd r q3
        | some o => rw [hx b o n1 n2 r]; simp
/-- a new one -/
theorem StOk.genNew (S : StOk K mg B F0 z ow ρ m σ H) {a c : Addr} {s i : Int} {cs : List Int} (ne : a ≠ c) (ha : H a = some (.lst [.int s, .ref c, .int i])) (hc : H c = some (.lst (cs.map V.int)))
    (na : ow a = none ∧ z.F a = none ∧ B a = none) (nc : ow c = none ∧ z.F c = none ∧ B c = none) :
    ∃ ow', StOk K mg B F0 ⟨z.F, z.As ++ [[a, c]]⟩ ow' ρ (m ++ [.gen s cs i]) σ H := by
  have hle : z.le ⟨z.F, z.As ++ [[a, c]]⟩ := ⟨Same.refl _, _, rfl⟩
  refine ⟨fun b => if b = a ∨ b = c then some (.inr m.length) else ow b, S.fh, S.bh, S.f0, S.new, S.len, fun j t q => ?_, by simp [S.ol], fun k o q => ?_, fun b u q => ?_⟩
  · have r := S.slot j t q
    cases t with
    | non => trivial
    | exc a d x => exact ExcSl.le hle r
    | sh d => obtain ⟨x, e, r⟩ := r; exact ⟨x, e, r.le hle⟩
    | own ct =>
      obtain ⟨b, o, e1, e2, c1, w⟩ := r
      refine ⟨b, o, e1, e2, c1.le hle, ?_⟩
      have n : ¬ (b = a ∨ b = c) := fun z => by
        rcases z with z | z <;> subst z
        · rw [na.1] at w; cases w
        · rw [nc.1] at w; cases w
      show (if b = a ∨ b = c then some (.inr m.length) else ow b) = _
      rw [if_neg n]; exact w
  · by_cases hk : k < m.length
    · rw [List.getElem?_append_left hk] at q
      obtain ⟨fp, e1, r⟩ := S.ob k o q
      refine ⟨fp, hle.at e1, r.mono hle (fun b h => ?_) fun _ _ _ h => h⟩
      have n : ¬ (b = a ∨ b = c) := fun z => by
        rcases z with z | z <;> subst z
        · rw [na.1] at h; cases h
        · rw [nc.1] at h; cases h
      rw [if_neg n]; exact h
    · have hk' : k = m.length := by
        obtain ⟨hl, _⟩ := List.getElem?_eq_some_iff.mp q
        rw [List.length_append, List.length_singleton] at hl
        omega
      subst hk'
      rw [List.getElem?_append_right (Nat.le_refl _), Nat.sub_self] at q
      cases q
      refine ⟨[a, c], ?_, a, c, rfl, ne, ha, hc, if_pos (.inl rfl), if_pos (.inr rfl)⟩
      show (z.As ++ [[a, c]])[m.length]? = _
      rw [← S.ol, List.getElem?_append_right (Nat.le_refl _), Nat.sub_self]
      rfl
  · have q : (if b = a ∨ b = c then some (.inr m.length) else ow b) = some u := q
    by_cases n : b = a ∨ b = c
    · rcases n with n | n <;> subst n
      · exact ⟨na.2.1, na.2.2, by rw [ha]; simp⟩
      · exact ⟨nc.2.1, nc.2.2, by rw [hc]; simp⟩
    · rw [if_neg n] at q
      exact S.ow b u q
end
/-- the script's list, walked and copied -/
def asScr : D → Res (List D)
  | .scr ns => .ok (ns.map .int)
  | _ => .bad
def listScr : D → Res Cont
  | .scr ns => .ok (.lst (ns.map .int))
  | _ => .bad
def dGen (da : Den (List Itm)) : Den D := fun ρ m => (da ρ m).bind fun x => match x.1 with
  | [.v (.int s), .n (.lst cs), .v (.int i)] => (match ints? cs with
    | some ns => .ok (.obj x.2.length, x.2 ++ [.gen s ns i])
    | none => .bad)
  | _ => .bad
section
variable {X : Cx} {RW : WX} {e tg : Expr} {pos : Pos}
theorem rep_scr {K : PySem.W.Frag} {mg : Str → Option Value} {z : Fz} {ns : List Int} {v : V} : Rep K mg z (.scr ns) v ↔ ∃ a, v = .ref a ∧ SqL K z.F a (ns.map V.int) := by simp only [Rep]
theorem yields_scr {K : PySem.W.Frag} {mg : Str → Option Value} {z : Fz} {a : Addr} {ns : List Int} (h : SqL K z.F a (ns.map V.int)) : Yields K mg (Itl K a) z (ns.map .int) := by
  intro B F0 z' ow ρ m σ H i hz S
  have hH : SqL K H a (ns.map V.int) := S.fh.seq (hz.1.seq h)
  refine ⟨fun e => ⟨_, hH, by rw [e, List.length_map, List.length_map]; exact Nat.le_refl _⟩, fun d hd => ?_⟩
  rw [List.getElem?_map] at hd
  cases q : ns[i]? with
  | none => rw [q] at hd; cases hd
  | some n =>
    rw [q] at hd
    cases hd
    have hv : (ns.map V.int)[i]? = some (.int n) := by rw [List.getElem?_map, q]; rfl
    refine ⟨⟨_, _, hH, hv⟩, fun x H' y => ?_⟩
    obtain ⟨e, y⟩ := y
    subst e
    have e := (y _ hH).symm.trans hv
    cases e
    exact ⟨z', Fz.le.refl _, S, rep_int.mpr rfl⟩
theorem it_scr {da : Den D} (h : PE X e (tX X.K X.mg RW da (pVal X.K X.mg))) : PI X tg e (tX X.K X.mg RW (dIt asScr da) (pIt X.K X.mg)) :=
  PI.imp (pi_list h) fun σ H Q q => tX.imp q fun B F0 z ow ρ m S h => Rem.step pIt.pm h fun d m1 B1 z1 ow1 v H1 hB hz S1 p h1 => by
    cases d with
    | scr ns =>
      obtain ⟨a, rfl, e1⟩ := rep_scr.mp p
      exact ⟨a, rfl, ⟨_, S1.fh.seq e1⟩, Rem.here (d := ns.map D.int) h1 S1 (yields_scr e1)⟩
    | _ => exact h1.elim
theorem listScr_r : CbN X (fun xs H Q => ∃ p ys, xs = [.ref p] ∧ (SqL X.K H p ys ∨ SqT X.K H p ys) ∧ ∀ l, H l = none → Q (.ref l) (upd H l (.lst ys))) (oneArg listScr) := by
  intro RW B F0 z ow ρ m σ H vs ds Q S px h
  match ds, h with
  | [d], h =>
    obtain ⟨v, rfl, p⟩ := looks_one px
    cases d with
    | scr ns =>
      obtain ⟨a, rfl, e⟩ := rep_scr.mp (look_rep p (fun c => by cases c <;> simp [Cont.d]))
      exact ⟨a, _, rfl, .inl (S.fh.seq e), fun l hl => Rem.newLst (ds := ns.map .int) h S Reps.of_ints hl⟩
    | _ => exact h.elim
  | [], h => exact h.elim
  | _ :: _ :: _, h => exact h.elim
theorem pd_gen {es : List Expr} {da : Den (List Itm)} (ha : PA X es (tX X.K X.mg RW da (pItms X.K X.mg))) : PE X (.List es pos) (tX X.K X.mg RW (dGen da) (pVal X.K X.mg)) :=
  PE.imp (pe_lst ha) fun σ H Q q => tX.imp q fun B F0 z ow ρ m S h => Rem.step2 (Same.refl _) (Fz.le.refl _) h fun its m1 B1 z1 ow1 vs H1 hB hz S1 p h1 => by
    dsimp only at h1
    split at h1
    · rename_i s cs i
      cases hn : ints? cs with
      | none => rw [hn] at h1; exact h1.elim
      | some ns =>
        rw [hn] at h1
        cases ints?_eq hn
        obtain ⟨hl, hit, _⟩ := p
        match vs, hl with
        | [v1, v2, v3], _ =>
          obtain ⟨q1, _⟩ := hit 0 _ v1 rfl rfl
          obtain ⟨q2, q2'⟩ := hit 1 _ v2 rfl rfl
          obtain ⟨q3, _⟩ := hit 2 _ v3 rfl rfl
          have q1 : Rep X.K X.mg z1 (.int s) v1 := q1
          have q3 : Rep X.K X.mg z1 (.int i) v3 := q3
          cases rep_int.mp q1
          cases rep_int.mp q3
          obtain ⟨c, o, rfl, b1, b2, xs, rfl, r⟩ := q2
          obtain ⟨c', e, b3⟩ := q2'
          cases e
          cases r.ints
          refine ⟨by show 3 ≤ sizeLine; decide, fun a ha => ?_⟩
          have hc1 : H1 c = some (.lst (ns.map V.int)) := S1.bh _ _ b1
          have ne : a ≠ c := fun z => by rw [z, hc1] at ha; cases ha
          obtain ⟨nz, nB, _, nw⟩ := S1.new_none ha
          have S2 := (S1.alloc ha (.lst [.int s, .ref c, .int i])).weak hB
          obtain ⟨ow2, S3⟩ := S2.genNew ne upd_same (by rw [upd_ne (Ne.symm ne)]; exact hc1) ⟨nw, nz, hB.free nB⟩ ⟨S1.noown b1, b2, b3⟩
          refine h1 B ⟨z1.F, z1.As ++ [[a, c]]⟩ ow2 _ _ (Same.refl _) (hz.trans ⟨Same.refl _, _, rfl⟩) S3 ?_
          show Rep _ _ _ (.obj m1.length) (.ref a)
          simp only [Rep]
          refine ⟨a, [c], rfl, ?_⟩
          rw [← S1.ol, List.getElem?_append_right (Nat.le_refl _), Nat.sub_self]
          rfl
    · exact h1.elim
end
/-- a draw -/
def nextG (s : Int) (cs : List Int) (i b : Int) : Option (Int × Ob) :=
  match atI (cs ++ [0]) (i % (if (cs.length : Int) > 1 then (cs.length : Int) else 1)) with
  | none => none
  | some cell => if cell ≥ 10 ^ 18 then (match ixN cs.length (i % cs.length) with
    | none => none
    | some k => some (cell % b, .gen s (cs.set k (cell / b)) i))
    else some (((s * 48271 + cell * 69621 + 11) % 2147483647 / 7) % b, .gen ((s * 48271 + cell * 69621 + 11) % 2147483647) cs (i + 1))
def den_law_next : FDen := fun ds m => match ds with
  | [.obj n, .int b] => if 0 < b ∧ b.natAbs.log2 < 9000 then (match m[n]? with
    | some (.gen s cs i) => if cs.length ≤ 1000 then (match nextG s cs i b with
      | some (r, g) => .ok (.int r, m.set n g)
      | none => .bad) else .bad
    | _ => .bad) else .bad
  | _ => .bad
theorem next_inv {ds : List D} {m m' : List Ob} {d : D} (h : den_law_next ds m = .ok (d, m')) : ∃ n b s cs i r g, ds = [.obj n, .int b] ∧ 0 < b ∧ b.natAbs.log2 < 9000 ∧ m[n]? = some (.gen s cs i) ∧ cs.length ≤ 1000 ∧ nextG s cs i b = some (r, g) ∧ d = .int r ∧ m' = m.set n g := by
  unfold den_law_next at h
  split at h
  · rename_i n b
    by_cases hb : 0 < b ∧ b.natAbs.log2 < 9000
    · rw [if_pos hb] at h
      cases hg : m[n]? with
      | none => rw [hg] at h; cases h
      | some g =>
        cases g with
        | gen s cs i =>
          rw [hg] at h
          dsimp only at h
          by_cases hl : cs.length ≤ 1000
          · rw [if_pos hl] at h
            cases hn : nextG s cs i b with
            | none => rw [hn] at h; cases h
            | some x =>
              obtain ⟨r, g⟩ := x
              rw [hn] at h
              cases h
              exact ⟨n, b, s, cs, i, r, g, rfl, hb.1, hb.2, hg, hl, hn, rfl, rfl⟩
          · rw [if_neg hl] at h; cases h
        | lst ds => rw [hg] at h; cases h
        | ins c fs => rw [hg] at h; cases h
        | tab x q => rw [hg] at h; cases h
    · rw [if_neg hb] at h; cases h
  · cases h
theorem next_noerr {ds : List D} {m m' : List Ob} {x : Exn} (h : den_law_next ds m = .err x m') : False := by
  unfold den_law_next at h
  split at h
  · rename_i n b
    by_cases hb : 0 < b ∧ b.natAbs.log2 < 9000
    · rw [if_pos hb] at h
      cases hg : m[n]? with
      | none => rw [hg] at h; cases h
      | some g =>
        cases g with
        | gen s cs i =>
          rw [hg] at h
          dsimp only at h
          by_cases hl : cs.length ≤ 1000
          · rw [if_pos hl] at h
            cases hn : nextG s cs i b with
            | none => rw [hn] at h; cases h
            | some x => rw [hn] at h; cases h
          · rw [if_neg hl] at h; cases h
        | lst ds => rw [hg] at h; cases h
        | ins c fs => rw [hg] at h; cases h
        | tab x q => rw [hg] at h; cases h
    · rw [if_neg hb] at h; cases h
  · cases h
end PD
namespace PD
open PySem PySem.Spec PyProof.Rows L2
/-- as Fd.mk', the def's object told apart -/
theorem Fd.mkF {P : Program} {w : World} {K : PySem.W.Frag} {mg : Str → Option Value} {base : Heap} {x : Str} {k n l : Nat} {b : SDen} {params : Arguments} {body : List Stmt} {scope : Scope} {a : Addr} {fd : FuncData} {N ps : List Str} (F : FunD K x x params body scope [] [] a fd) (S : FnScope N ps scope) (hn : ps.length = n) (hl : N.length = n + l)
    (h : ∀ (cdv : Value) (A : Around) (outer : List Env) (s : Shared) (H : Hp) (E : XK), Room k (A.deeper (envOfC x scope s.heap.objs.size a cdv)) → PSs (cxOf (L2.CX P w) P w K mg base N x scope a cdv A outer s H E) body (tB K mg (fun cls d _ H => E cls d H) b)) : FnOk P w K mg base (L2.CX P w) (k + 1) a fd ps (spF K mg n (fnD n l b)) := by
  refine F.ok S (fun vs H Q E q => by rw [hn]; exact q.1) (fun cdv A outer s H vs Q E hr q => ?_)
  refine ⟨_, h cdv A outer s H E hr, ?_⟩
  obtain ⟨hv, B, F0, z, ow, m, ds, S0, r, q⟩ := q
  have hds : ds.length = n := by rw [r.len]; exact hv
  refine ⟨B, F0, z, ow, pad ds l, m, S0.args r (by rw [hl, hds]), ?_⟩
  unfold fnD at q
  rw [if_pos hds] at q
  cases hbd : b (pad ds l) m with
  | nx ρ' m' =>
    rw [hbd] at q
    exact fun z' ow' σ' H' hz S' => q z' ow' .non H' hz S'.forget (rep_non.mpr rfl)
  | rt d m' =>
    rw [hbd] at q
    exact fun z' ow' v H' hz S' rv => q z' ow' v H' hz S' rv
  | er x ρ' m' =>
    rw [hbd] at q
    exact fun z' ow' σ' cv dd H' hz S' ex => q z' ow' cv dd H' hz S'.forget ex
  | bk ρ' m' => rw [hbd] at q; exact q.elim
  | ct ρ' m' => rw [hbd] at q; exact q.elim
  | bad => rw [hbd] at q; exact q.elim
/-- at the law's entry -/
theorem spF_entry {K : PySem.W.Frag} {mg : Str → Option Value} {f : FDen} {H : Hp} {a : Addr} {ns : List Int} {m' : List Ob} (hS : SqL K H a (ns.map V.int)) (h : f [.scr ns] [] = .ok (.bl true, m')) :
    spF K mg 1 f [.ref a] H (fun v _ => v = .bl true) fun _ _ _ => False := by
  refine ⟨rfl, H, H, ⟨H, []⟩, fun _ => none, [], [.scr ns], ⟨Same.refl _, Same.refl _, Same.refl _, fun a e => .inl e, rfl, fun i s e => by simp at e, rfl, fun n o e => by simp at e, fun a o e => by cases e⟩, .cons (rep_scr.mpr ⟨a, rfl, hS⟩) .nil, ?_⟩
  rw [h]
  exact fun z' ow' v H' _ _ r => rep_bl.mp r
/-- a law: by the promise of its def and the plain law -/
theorem walk_pd {l : PySem.W.OpenLaw} {n k : Nat} {q : Program} {loose : List Str} {XP : (Str → Option Value) → Heap → Prop} {YP : World → Heap → Prop} {d : DefRec} {x : Str} {f : FDen}
    (hn : l.most = some n) (hn2 : n ≤ sizeLine) (hdf : d.params.defaults = []) (hr : Room k callerA)
    (F : ∀ (w : World) (mg : Str → Option Value) (fa : Addr) (h : Heap), YP w h → h.Ns mainGlobals mg → mg d.name = some (.ref fa) →
      ∃ (K : PySem.W.Frag) (fd : FuncData), K.In h ∧ (∀ (s : Shared) (u : Value), BindsTo s fd ⟨[u], []⟩ [(x, u)]) ∧
        ∀ base : Heap, K.In base → base.Ns mainGlobals mg → FnOk l.prog w K mg base (L2.CX l.prog w) k fa fd [x] (spF K mg 1 f))
    (hf : ∀ ns : List Int, ns.length ≤ n → ∃ m', f [.scr ns] [] = .ok (.bl true, m')) :
    PySem.W.WalkO q loose XP YP l.row.toRowW d [] (fun f vs => PySem.call f vs) := by
  refine Att.attach_call hn hdf fun w s₀ s₁ mg mb fa o pm cd doc a vs ns G Y ho hd hcd hmg hobj hints hlen hg => ?_
  obtain ⟨K, fd, KX, hb, hF⟩ := F w mg fa _ Y G.T.g hmg
  obtain ⟨m', hm⟩ := hf ns hlen
  refine law_call KX G.T.g G.T.b G.T.builtins G.T.nolimit hg hobj hints (Nat.le_trans hlen hn2) hr hF hb (fun H hO hS => spF_entry hS hm) fun H e s' z => ?_
  obtain ⟨_, _, _, _, _, _, _, _, _, _, _, _, z⟩ := z
  exact z.elim
end PD
/-! The plain side: rules by which a denotation is read. -/
namespace PD
open PySem PySem.Spec PyProof.Rows L2
/-- an equation that is no step of reckoning -/
theorem byEq {α : Sort u} {a b : α} (h : a = b) : a = b := h
theorem szl_eq : sizeLine = 16777216 := by decide +kernel
section
variable {α β : Type} {ρ ρ' : List Slot} {m m' : List Ob}
@[simp] theorem bind_ok (a : α) (k : α → Res β) : (Res.ok a).bind k = k a := byEq rfl
@[simp] theorem bind_bad (k : α → Res β) : (Res.bad : Res α).bind k = .bad := byEq rfl
@[simp] theorem bindS_ok (a : α) (k : α → List Ob → Out) : bindS (.ok (a, m)) ρ k = k a m := byEq rfl
@[simp] theorem dV_ev (i : Nat) : dV i ρ m = match slotAt ρ i with
  | .sh d => .ok (d, m)
  | _ => .bad := byEq rfl
@[simp] theorem dL_ev (i : Nat) : dL i ρ m = match slotAt ρ i with
  | .sh d => .ok (d, m)
  | .own c => .ok (c.d, m)
  | _ => .bad := byEq rfl
@[simp] theorem slotAt_0 (s : Slot) (r : List Slot) : slotAt (s :: r) 0 = s := byEq rfl
@[simp] theorem slotAt_s (s : Slot) (r : List Slot) (n : Nat) : slotAt (s :: r) (n + 1) = slotAt r n := byEq rfl
@[simp] theorem dC_ev (d : D) : dC d ρ m = .ok (d, m) := byEq rfl
@[simp] theorem dN2V_ev (f : Den Cont) : dN2V f ρ m = (f ρ m).bind fun r => .ok (r.1.d, r.2) := byEq rfl
@[simp] theorem dBin_ev (g : D → D → Res D) (da db : Den D) : dBin g da db ρ m = (da ρ m).bind fun x => (db ρ x.2).bind fun y => (g x.1 y.1).bind fun d => .ok (d, y.2) := byEq rfl
@[simp] theorem dBinN_ev (g : D → D → Res Cont) (da db : Den D) : dBinN g da db ρ m = (da ρ m).bind fun x => (db ρ x.2).bind fun y => (g x.1 y.1).bind fun d => .ok (d, y.2) := byEq rfl
@[simp] theorem dT_ev (da : Den D) : dT da ρ m = (da ρ m).bind fun x => (asBool x.1).bind fun b => .ok (b, x.2) := byEq rfl
@[simp] theorem asBool_bl (b : Bool) : asBool (.bl b) = .ok b := byEq rfl
@[simp] theorem dAndT_ev (da db : Den Bool) : dAndT da db ρ m = (da ρ m).bind fun x => match x.1 with
  | true => db ρ x.2
  | false => .ok (false, x.2) := byEq rfl
@[simp] theorem dOrT_ev (da db : Den Bool) : dOrT da db ρ m = (da ρ m).bind fun x => match x.1 with
  | true => .ok (true, x.2)
  | false => db ρ x.2 := byEq rfl
@[simp] theorem dNotT_ev (da : Den Bool) : dNotT da ρ m = (da ρ m).bind fun x => .ok (!x.1, x.2) := byEq rfl
@[simp] theorem dAnd_ev (da db : Den D) : dAnd da db ρ m = (da ρ m).bind fun x => match x.1 with
  | .bl true => db ρ x.2
  | .bl false => .ok (.bl false, x.2)
  | _ => .bad := byEq rfl
@[simp] theorem dOr_ev (da db : Den D) : dOr da db ρ m = (da ρ m).bind fun x => match x.1 with
  | .bl true => .ok (.bl true, x.2)
  | .bl false => db ρ x.2
  | _ => .bad := byEq rfl
@[simp] theorem dNot_ev (da : Den D) : dNot da ρ m = (da ρ m).bind fun x => match x.1 with
  | .bl b => .ok (.bl !b, x.2)
  | _ => .bad := byEq rfl
@[simp] theorem dIf_ev (dc : Den Bool) (da db : Den α) : dIf dc da db ρ m = (dc ρ m).bind fun x => match x.1 with
  | true => da ρ x.2
  | false => db ρ x.2 := byEq rfl
@[simp] theorem dChain_ev (g g' : D → D → Res D) (da db dc : Den D) : dChain g g' da db dc ρ m = (da ρ m).bind fun x => (db ρ x.2).bind fun y => (g x.1 y.1).bind fun k => match k with
  | .bl true => (dc ρ y.2).bind fun w => (g' y.1 w.1).bind fun d => .ok (d, w.2)
  | .bl false => .ok (.bl false, y.2)
  | _ => .bad := byEq rfl
@[simp] theorem dUn_ev (g : D → Res D) (da : Den D) : dUn g da ρ m = (da ρ m).bind fun x => (g x.1).bind fun d => .ok (d, x.2) := byEq rfl
@[simp] theorem dNoPart_ev : dNoPart ρ m = .ok (none, m) := byEq rfl
@[simp] theorem dPart_ev (da : Den D) : dPart da ρ m = (da ρ m).bind fun x => match x.1 with
  | .int i => .ok (some i, x.2)
  | _ => .bad := byEq rfl
@[simp] theorem dSl_ev (g : D → Option Int → Option Int → Res α) (da : Den D) (dl dh : Den (Option Int)) : dSl g da dl dh ρ m = (da ρ m).bind fun x => (dl ρ x.2).bind fun l => (dh ρ l.2).bind fun u => (g x.1 l.1 u.1).bind fun d => .ok (d, u.2) := byEq rfl
@[simp] theorem dNil_ev : (dNil : Den (List α)) ρ m = .ok ([], m) := byEq rfl
@[simp] theorem dCons_ev (da : Den α) (dr : Den (List α)) : dCons da dr ρ m = (da ρ m).bind fun x => (dr ρ x.2).bind fun xs => .ok (x.1 :: xs.1, xs.2) := byEq rfl
@[simp] theorem dTup_ev (da : Den (List D)) : dTup da ρ m = (da ρ m).bind fun x => if x.1.length ≤ 16777216 then .ok (.tup x.1, x.2) else .bad := by rw [← szl_eq]; rfl
@[simp] theorem dLst_ev (da : Den (List D)) : dLst da ρ m = (da ρ m).bind fun x => if x.1.length ≤ 16777216 then .ok (.lst x.1, x.2) else .bad := by rw [← szl_eq]; rfl
@[simp] theorem oneArg_ev (g : D → Res α) (x : D) : oneArg g [x] = g x := byEq rfl
@[simp] theorem twoArg_ev (g : D → D → Res α) (x y : D) : twoArg g [x, y] = g x y := byEq rfl
@[simp] theorem dCB_ev (g : List D → Res α) (da : Den (List D)) : dCB g da ρ m = (da ρ m).bind fun x => (g x.1).bind fun d => .ok (d, x.2) := byEq rfl
@[simp] theorem dCall_ev (f : FDen) (da : Den (List D)) : dCall f da ρ m = (da ρ m).bind fun x => f x.1 x.2 := byEq rfl
@[simp] theorem dIt_ev (g : D → Res (List D)) (da : Den D) : dIt g da ρ m = (da ρ m).bind fun x => (g x.1).bind fun xs => .ok (xs, x.2) := byEq rfl
@[simp] theorem dRng_ev (g : List D → Res (List D)) (da : Den (List D)) : dRng g da ρ m = (da ρ m).bind fun x => (g x.1).bind fun xs => .ok (xs, x.2) := byEq rfl
@[simp] theorem dYes_ev : dYes ρ m = .ok (true, m) := byEq rfl
@[simp] theorem dItV_ev (da : Den D) : dItV da ρ m = (da ρ m).bind fun x => .ok (.v x.1, x.2) := byEq rfl
@[simp] theorem dItN_ev (da : Den Cont) : dItN da ρ m = (da ρ m).bind fun x => .ok (.n x.1, x.2) := byEq rfl
@[simp] theorem thenS_ev (a b : SDen) : thenS a b ρ m = match a ρ m with
  | .nx ρ' m' => b ρ' m'
  | o => o := byEq rfl
@[simp] theorem skipS_ev : skipS ρ m = .nx ρ m := byEq rfl
@[simp] theorem retS_ev (de : Den D) : retS de ρ m = bindS (de ρ m) ρ fun d m' => .rt d m' := byEq rfl
@[simp] theorem exprS_ev (de : Den α) : exprS de ρ m = bindS (de ρ m) ρ fun _ m' => .nx ρ m' := byEq rfl
@[simp] theorem ifS_ev (dc : Den Bool) (a b : SDen) : ifS dc a b ρ m = bindS (dc ρ m) ρ fun c m' => match c with
  | true => a ρ m'
  | false => b ρ m' := byEq rfl
@[simp] theorem setS_ev (i : Nat) (de : Den D) : setS i de ρ m = bindS (de ρ m) ρ fun d m' => .nx (ρ.set i (.sh d)) m' := byEq rfl
@[simp] theorem setN_ev (i : Nat) (de : Den Cont) : setN i de ρ m = bindS (de ρ m) ρ fun c m' => .nx (ρ.set i (.own c)) m' := byEq rfl
@[simp] theorem augS_ev (i : Nat) (g : D → D → Res D) (de : Den D) : augS i g de ρ m = match slotAt ρ i with
  | .sh x => bindS (de ρ m) ρ fun y m' => (match g x y with
    | .ok d => .nx (ρ.set i (.sh d)) m'
    | _ => .bad)
  | _ => .bad := byEq rfl
@[simp] theorem isetS_ev (i : Nat) (di de : Den D) : isetS i di de ρ m = match slotAt ρ i with
  | .own (.lst ds) => bindS (de ρ m) ρ fun d m1 => bindS (di ρ m1) ρ fun k m2 => (match k with
    | .int j => (match ixN ds.length j with
      | some n => .nx (ρ.set i (.own (.lst (ds.set n d)))) m2
      | none => .bad)
    | _ => .bad)
  | _ => .bad := byEq rfl
@[simp] theorem freezeS_ev (i : Nat) (a : SDen) : freezeS i a ρ m = match slotAt ρ i with
  | .own c => a (ρ.set i (.sh c.d)) m
  | .sh _ => a ρ m
  | _ => .bad := byEq rfl
@[simp] theorem appS_ev (i : Nat) (de : Den (List D)) : appS i de ρ m = match slotAt ρ i with
  | .own (.lst ds) => bindS (de ρ m) ρ fun ys m' => (match ys with
    | [y] => if ds.length < 16777216 then .nx (ρ.set i (.own (.lst (ds ++ [y])))) m' else .bad
    | _ => .bad)
  | _ => .bad := by rw [← szl_eq]; rfl
@[simp] theorem parS_ev (is : List Nat) (de : Den (List Itm)) : parS is de ρ m = bindS (de ρ m) ρ fun its m' => match setAll is its ρ with
  | some ρ' => .nx ρ' m'
  | none => .bad := byEq rfl
@[simp] theorem unS_ev (is : List Nat) (de : Den D) : unS is de ρ m = bindS (de ρ m) ρ fun d m' => match d with
  | .tup ds => (match setAll is (ds.map .v) ρ with
    | some ρ' => .nx ρ' m'
    | none => .bad)
  | _ => .bad := byEq rfl
@[simp] theorem setAll_nil : setAll [] [] ρ = some ρ := byEq rfl
@[simp] theorem setAll_cons (i : Nat) (is : List Nat) (it : Itm) (its : List Itm) : setAll (i :: is) (it :: its) ρ = setAll is its (ρ.set i it.slot) := byEq rfl
@[simp] theorem slot_v (d : D) : (Itm.v d).slot = .sh d := byEq rfl
@[simp] theorem slot_n (c : Cont) : (Itm.n c).slot = .own c := byEq rfl
@[simp] theorem forS_ev (di : Den (List D)) (tg : Tg) (body : SDen) : forS di tg body ρ m = bindS (di ρ m) ρ fun ds m' => loopS tg body ds ρ m' := byEq rfl
@[simp] theorem tgN_ev (i : Nat) (d : D) : tgN i d ρ = some (ρ.set i (.sh d)) := byEq rfl
@[simp] theorem contd_lst (ds : List D) : (Cont.lst ds).d = .lst ds := byEq rfl
@[simp] theorem pad_cons_ev (d : D) (ds : List D) (n : Nat) : pad (d :: ds) n = .sh d :: pad ds n := byEq rfl
@[simp] theorem pad_nil_ev (n : Nat) : pad [] n = List.replicate n .non := byEq rfl
@[simp] theorem addD_int (i j : Int) : addD (.int i) (.int j) = .ok (.int (i + j)) := byEq rfl
@[simp] theorem subD_int (i j : Int) : subD (.int i) (.int j) = .ok (.int (i - j)) := byEq rfl
@[simp] theorem ltD_int (i j : Int) : ltD (.int i) (.int j) = .ok (.bl (decide (i < j))) := byEq rfl
@[simp] theorem leD_int (i j : Int) : leD (.int i) (.int j) = .ok (.bl (decide (i ≤ j))) := byEq rfl
@[simp] theorem gtD_int (i j : Int) : gtD (.int i) (.int j) = .ok (.bl (decide (j < i))) := byEq rfl
@[simp] theorem geD_int (i j : Int) : geD (.int i) (.int j) = .ok (.bl (decide (j ≤ i))) := byEq rfl
@[simp] theorem negD_int (i : Int) : negD (.int i) = .ok (.int (-i)) := byEq rfl
@[simp] theorem ipAddD_int (i j : Int) : ipAddD (.int i) (.int j) = .ok (.int (i + j)) := byEq rfl
@[simp] theorem eqD_int (i j : Int) : eqD (.int i) (.int j) = .ok (.bl (decide (i = j))) := by
  show (if true = true then Res.ok (D.bl (i == j)) else .bad) = _
  rw [if_pos rfl]
  congr 2
@[simp] theorem neD_int (i j : Int) : neD (.int i) (.int j) = .ok (.bl (!decide (i = j))) := by
  show (if true = true then Res.ok (D.bl (!(i == j))) else .bad) = _
  rw [if_pos rfl]
  congr 3
@[simp] theorem lenD_lst (xs : List D) : lenD (.lst xs) = .ok (.int xs.length) := byEq rfl
@[simp] theorem lenD_tup (xs : List D) : lenD (.tup xs) = .ok (.int xs.length) := byEq rfl
@[simp] theorem intD_int (i : Int) : intD (.int i) = .ok (.int i) := byEq rfl
@[simp] theorem slN_lst (xs : List D) (l h : Option Int) : slN (.lst xs) l h = .ok (.lst (cut xs l h)) := byEq rfl
@[simp] theorem slT_tup (xs : List D) (l h : Option Int) : slT (.tup xs) l h = .ok (.tup (cut xs l h)) := byEq rfl
@[simp] theorem asList_lst (xs : List D) : asList (.lst xs) = .ok xs := byEq rfl
@[simp] theorem asTup_tup (xs : List D) : asTup (.tup xs) = .ok xs := byEq rfl
@[simp] theorem catN_lst (a b : List D) : catN (.lst a) (.lst b) = if a.length + b.length ≤ 16777216 then .ok (.lst (a ++ b)) else .bad := by rw [← szl_eq]; rfl
@[simp] theorem addD_tup (a b : List D) : addD (.tup a) (.tup b) = if a.length + b.length ≤ 16777216 then .ok (.tup (a ++ b)) else .bad := by rw [← szl_eq]; rfl
theorem modD_int {i j : Int} (h : 0 < j) : modD (.int i) (.int j) = .ok (.int (i % j)) := if_pos h
theorem mulD_int {i j : Int} (h : (-(2 ^ 64) < i ∧ i < 2 ^ 64) ∨ (-(2 ^ 64) < j ∧ j < 2 ^ 64)) : mulD (.int i) (.int j) = .ok (.int (i * j)) := if_pos h
theorem divD_int {i j : Int} (h : 0 < j ∧ j.natAbs.log2 < 9000) : divD (.int i) (.int j) = .ok (.int (i / j)) := if_pos h
theorem divD_nat {a b : Nat} (h0 : 0 < b) (h1 : b < 1000000) : divD (.int (a : Int)) (.int (b : Int)) = .ok (.int ((a / b : Nat) : Int)) := by
  rw [divD_int ⟨by omega, by
    rw [Int.natAbs_natCast]
    have : b.log2 < 20 := (Nat.log2_lt (by omega)).mpr (by omega)
    omega⟩, Int.natCast_ediv]
/-- a def, by its body -/
theorem fnD_rt {n l : Nat} {b : SDen} {ds : List D} {d : D} (hl : ds.length = n) (h : b (pad ds l) m = .rt d m') : fnD n l b ds m = .ok (d, m') := by
  unfold fnD
  rw [if_pos hl, h]
theorem fnD_nx {n l : Nat} {b : SDen} {ds : List D} (hl : ds.length = n) (h : b (pad ds l) m = .nx ρ' m') : fnD n l b ds m = .ok (.non, m') := by
  unfold fnD
  rw [if_pos hl, h]
theorem fnD_er {n l : Nat} {b : SDen} {ds : List D} {x : Exn} (hl : ds.length = n) (h : b (pad ds l) m = .er x ρ' m') : fnD n l b ds m = .err x m' := by
  unfold fnD
  rw [if_pos hl, h]
/-! ### ints -/
theorem irange_eq : ∀ (n : Nat) (lo : Int), irange lo n = (List.range n).map fun (k : Nat) => D.int (lo + (k : Int))
  | 0, lo => rfl
  | n + 1, lo => by
    rw [irange, irange_eq n, List.range_succ_eq_map, List.map_cons, List.map_map]
    congr 1
    · simp
    · refine List.map_congr_left fun k _ => ?_
      show D.int (lo + 1 + k) = D.int (lo + ((k + 1 : Nat) : Int))
      congr 1
      omega
theorem sumD_ints (ns : List Int) : sumD (.lst (ns.map D.int)) = .ok (.int ns.sum) := by rw [sumD, ints?_map]
theorem rng1_nat {n : Nat} (h : n < 2 ^ 62) : rng1 [.int (n : Int)] = .ok ((List.range n).map fun (k : Nat) => D.int (k : Int)) := by
  unfold rng1
  dsimp only
  rw [if_pos ⟨by omega, by omega⟩, irange_eq, Int.toNat_natCast]
  congr 1
  exact List.map_congr_left fun k _ => by rw [Int.zero_add]
theorem rng2_nat {a b : Nat} (ha : a < 2 ^ 62) (hb : b < 2 ^ 62) : rng2 [.int (a : Int), .int (b : Int)] = .ok ((List.range' a (b - a)).map fun (k : Nat) => D.int (k : Int)) := by
  unfold rng2
  dsimp only
  rw [if_pos ⟨by omega, by omega, by omega, by omega⟩, irange_eq, show ((b : Int) - a).toNat = b - a by omega, List.range'_eq_map_range, List.map_map]
  rfl
end
/-! ### data that is told apart as Lean tells it apart -/
structure Enc {α : Type} [DecidableEq α] (f : α → D) (k : Nat) : Prop where
  can : ∀ a, (f a).py.canLay0 = true
  dep : ∀ a, (f a).py.depth ≤ k
  eqv : ∀ a b, PyData.eqv (f a).py (f b).py = decide (a = b)
abbrev nD (n : Nat) : D := .int (n : Int)
abbrev lD {α : Type} (f : α → D) (xs : List α) : D := .lst (xs.map f)
abbrev tD {α : Type} (f : α → D) (xs : List α) : D := .tup (xs.map f)
section
variable {α β : Type} [DecidableEq α] [DecidableEq β] {f : α → D} {g : β → D} {k j : Nat}
theorem enc_int : Enc D.int 0 := ⟨fun _ => rfl, fun _ => Nat.le_refl _, fun _ _ => by simp [D.py, PyData.eqv]; rfl⟩
theorem enc_nat : Enc nD 0 := ⟨fun _ => rfl, fun _ => Nat.le_refl _, fun a b => by
  rw [enc_int.eqv]
  exact decide_eq_decide.mpr (by omega)⟩
theorem Enc.all (h : Enc f k) : ∀ xs : List α, PyData.canLayAll0 (D.pys (xs.map f)) = true ∧ PyData.depthAll (D.pys (xs.map f)) ≤ k
  | [] => ⟨rfl, Nat.zero_le _⟩
  | a :: r => by
    obtain ⟨h1, h2⟩ := h.all r
    exact ⟨by simp [D.pys, PyData.canLayAll0, h.can a, h1], by
      have := h.dep a
      simp only [List.map_cons, D.pys, PyData.depthAll]
      omega⟩
theorem Enc.eqs (h : Enc f k) : ∀ xs ys : List α, PyData.eqvAll (D.pys (xs.map f)) (D.pys (ys.map f)) = decide (xs = ys)
  | [], [] => by simp [D.pys, PyData.eqvAll]
  | [], _ :: _ => by simp [D.pys, PyData.eqvAll]
  | _ :: _, [] => by simp [D.pys, PyData.eqvAll]
  | x :: xs, y :: ys => by
    have ih := h.eqs xs ys
    simp only [List.map_cons, D.pys, PyData.eqvAll, h.eqv, ih]
    by_cases h : x = y
    · by_cases h2 : xs = ys <;> simp [h, h2]
    · simp [h]
theorem Enc.lst (h : Enc f k) : Enc (lD f) (k + 1) := ⟨fun a => by show PyData.canLay0 (.list _) = true; rw [PyData.canLay0]; exact (h.all a).1, fun a => by show PyData.depth (.list _) ≤ _; rw [PyData.depth]; have := (h.all a).2; omega, fun a b => by
  show PyData.eqv (.list _) (.list _) = _
  rw [PyData.eqv]
  exact h.eqs a b⟩
theorem Enc.tup (h : Enc f k) : Enc (tD f) (k + 1) := ⟨fun a => by show PyData.canLay0 (.tuple _) = true; rw [PyData.canLay0]; exact (h.all a).1, fun a => by show PyData.depth (.tuple _) ≤ _; rw [PyData.depth]; have := (h.all a).2; omega, fun a b => by
  show PyData.eqv (.tuple _) (.tuple _) = _
  rw [PyData.eqv]
  exact h.eqs a b⟩
theorem Enc.ok (h : Enc f k) (hk : k ≤ 64) (a : α) : (f a).okp = true := by
  have := h.dep a
  simp [D.okp, SeqAt.shaped, h.can a]
  omega
theorem eqD_enc (h : Enc f k) (hk : k ≤ 64) (a b : α) : eqD (f a) (f b) = .ok (.bl (decide (a = b))) := by
  unfold eqD
  rw [h.ok hk a, h.ok hk b, h.eqv]
  rfl
theorem neD_enc (h : Enc f k) (hk : k ≤ 64) (a b : α) : neD (f a) (f b) = .ok (.bl (!decide (a = b))) := by
  unfold neD
  rw [h.ok hk a, h.ok hk b, h.eqv]
  rfl
theorem Enc.any (h : Enc f k) (a : α) : ∀ xs : List α, anyPy (xs.map f) (f a) = decide (a ∈ xs)
  | [] => by simp [anyPy, D.pys]
  | x :: xs => by
    have ih := h.any a xs
    unfold anyPy at ih ⊢
    simp only [List.map_cons, D.pys, List.any_cons, h.eqv, ih]
    by_cases e : a = x
    · simp [e]
    · have e' : ¬ x = a := fun q => e q.symm
      simp [e, e']
theorem inD_lst (h : Enc f k) (hk : k < 64) (a : α) (xs : List α) : inD (f a) (.lst (xs.map f)) = .ok (.bl (decide (a ∈ xs))) := by
  unfold inD
  dsimp only
  rw [h.ok (by omega) a, h.lst.ok (by omega) xs, h.any a xs]
  rfl
theorem inD_tup (h : Enc f k) (hk : k < 64) (a : α) (xs : List α) : inD (f a) (.tup (xs.map f)) = .ok (.bl (decide (a ∈ xs))) := by
  unfold inD
  dsimp only
  rw [h.ok (by omega) a, h.tup.ok (by omega) xs, h.any a xs]
  rfl
theorem notInD_lst (h : Enc f k) (hk : k < 64) (a : α) (xs : List α) : notInD (f a) (.lst (xs.map f)) = .ok (.bl (!decide (a ∈ xs))) := by
  unfold notInD
  dsimp only
  rw [h.ok (by omega) a, h.lst.ok (by omega) xs, h.any a xs]
  rfl
theorem notInD_tup (h : Enc f k) (hk : k < 64) (a : α) (xs : List α) : notInD (f a) (.tup (xs.map f)) = .ok (.bl (!decide (a ∈ xs))) := by
  unfold notInD
  dsimp only
  rw [h.ok (by omega) a, h.tup.ok (by omega) xs, h.any a xs]
  rfl
end
/-! ### loops -/
section
variable {α β : Type} {ρ ρ' : List Slot} {m m' : List Ob}
theorem loop_nx {tg : Tg} {body : SDen} {d : D} {ds : List D} {ρ1 ρ'' : List Slot} {m'' : List Ob} (h1 : tg d ρ = some ρ1) (h2 : body ρ1 m = .nx ρ'' m'') : loopS tg body (d :: ds) ρ m = loopS tg body ds ρ'' m'' := by
  rw [loopS, h1]
  dsimp only
  rw [h2]
theorem loop_ct {tg : Tg} {body : SDen} {d : D} {ds : List D} {ρ1 ρ'' : List Slot} {m'' : List Ob} (h1 : tg d ρ = some ρ1) (h2 : body ρ1 m = .ct ρ'' m'') : loopS tg body (d :: ds) ρ m = loopS tg body ds ρ'' m'' := by
  rw [loopS, h1]
  dsimp only
  rw [h2]
theorem loop_bk {tg : Tg} {body : SDen} {d : D} {ds : List D} {ρ1 ρ'' : List Slot} {m'' : List Ob} (h1 : tg d ρ = some ρ1) (h2 : body ρ1 m = .bk ρ'' m'') : loopS tg body (d :: ds) ρ m = .nx ρ'' m'' := by
  rw [loopS, h1]
  dsimp only
  rw [h2]
theorem loop_rt {tg : Tg} {body : SDen} {d v : D} {ds : List D} {ρ1 : List Slot} {m'' : List Ob} (h1 : tg d ρ = some ρ1) (h2 : body ρ1 m = .rt v m'') : loopS tg body (d :: ds) ρ m = .rt v m'' := by
  rw [loopS, h1]
  dsimp only
  rw [h2]
theorem loop_fold {σ : Type} (R : σ → List Slot) (step : σ → D → σ) {tg : Tg} {body : SDen} : ∀ (ds : List D) (s : σ), (∀ s d, d ∈ ds → ∃ ρ1, tg d (R s) = some ρ1 ∧ body ρ1 m = .nx (R (step s d)) m) → loopS tg body ds (R s) m = .nx (R (ds.foldl step s)) m
  | [], s, _ => rfl
  | d :: ds, s, h => by
    obtain ⟨ρ1, e1, e2⟩ := h s d (List.mem_cons_self ..)
    rw [loopS, e1]
    show (match body ρ1 m with
      | .nx ρ' m' => loopS tg body ds ρ' m'
      | .ct ρ' m' => loopS tg body ds ρ' m'
      | .bk ρ' m' => .nx ρ' m'
      | o => o) = _
    rw [e2]
    exact loop_fold R step ds _ fun s d hd => h s d (List.mem_cons_of_mem _ hd)
theorem comp_of {tg : Tg} {test : Den Bool} {elt : Den D} (t : D → Bool) (f : D → D) : ∀ ds : List D, (∀ d ∈ ds, ∃ ρ1, tg d ρ = some ρ1 ∧ test ρ1 m = .ok (t d, m) ∧ (t d = true → elt ρ1 m = .ok (f d, m))) → compL tg test elt ρ ds m = some ((ds.filter t).map f, m)
  | [], _ => rfl
  | d :: ds, h => by
    obtain ⟨ρ1, e1, e2, e3⟩ := h d (List.mem_cons_self ..)
    have ih := comp_of t f ds fun d hd => h d (List.mem_cons_of_mem _ hd)
    rw [compL, e1]
    dsimp only
    rw [e2]
    cases ht : t d with
    | false =>
      dsimp only
      rw [List.filter_cons_of_neg (by rw [ht]; simp)]
      exact ih
    | true =>
      dsimp only
      rw [e3 ht]
      dsimp only
      rw [ih, List.filter_cons_of_pos ht, List.map_cons]
theorem dComp_of {di : Den (List D)} {vs : List Nat} {tg : Tg} {test : Den Bool} {elt : Den D} {ds : List D} (t : D → Bool) (f : D → D) (h1 : di ρ m = .ok (ds, m')) (h2 : noOwn ρ vs = true) (hl : ds.length ≤ sizeLine)
    (h : ∀ d ∈ ds, ∃ ρ1, tg d (wipeS ρ vs) = some ρ1 ∧ test ρ1 m' = .ok (t d, m') ∧ (t d = true → elt ρ1 m' = .ok (f d, m'))) : dComp di vs tg test elt ρ m = .ok (.lst ((ds.filter t).map f), m') := by
  unfold dComp
  rw [h1]
  show (match noOwn ρ vs, compL tg test elt (wipeS ρ vs) ds m' with
    | true, some (xs, m') => if xs.length ≤ sizeLine then Res.ok (Cont.lst xs, m') else .bad
    | _, _ => .bad) = _
  rw [h2, comp_of t f ds h]
  exact if_pos (by rw [List.length_map]; exact Nat.le_trans (List.length_filter_le ..) hl)
theorem comp_map {α : Type} (g : α → D) {tg : Tg} {test : Den Bool} {elt : Den D} (t : α → Bool) (f : α → D) : ∀ xs : List α, (∀ a ∈ xs, ∃ ρ1, tg (g a) ρ = some ρ1 ∧ test ρ1 m = .ok (t a, m) ∧ (t a = true → elt ρ1 m = .ok (f a, m))) → compL tg test elt ρ (xs.map g) m = some ((xs.filter t).map f, m)
  | [], _ => rfl
  | d :: ds, h => by
    obtain ⟨ρ1, e1, e2, e3⟩ := h d (List.mem_cons_self ..)
    have ih := comp_map g t f ds fun d hd => h d (List.mem_cons_of_mem _ hd)
    rw [List.map_cons, compL, e1]
    dsimp only
    rw [e2]
    cases ht : t d with
    | false =>
      dsimp only
      rw [List.filter_cons_of_neg (by rw [ht]; simp)]
      exact ih
    | true =>
      dsimp only
      rw [e3 ht]
      dsimp only
      rw [ih, List.filter_cons_of_pos ht, List.map_cons]
theorem dComp_map {α : Type} (g : α → D) {di : Den (List D)} {vs : List Nat} {tg : Tg} {test : Den Bool} {elt : Den D} (xs : List α) (t : α → Bool) (f : α → D) (h1 : di ρ m = .ok (xs.map g, m')) (h2 : noOwn ρ vs = true) (hl : xs.length ≤ 16777216)
    (h : ∀ a ∈ xs, ∃ ρ1, tg (g a) (wipeS ρ vs) = some ρ1 ∧ test ρ1 m' = .ok (t a, m') ∧ (t a = true → elt ρ1 m' = .ok (f a, m'))) : dComp di vs tg test elt ρ m = .ok (.lst ((xs.filter t).map f), m') := by
  unfold dComp
  rw [h1]
  show (match noOwn ρ vs, compL tg test elt (wipeS ρ vs) (xs.map g) m' with
    | true, some (xs, m') => if xs.length ≤ sizeLine then Res.ok (Cont.lst xs, m') else .bad
    | _, _ => .bad) = _
  rw [h2, comp_map g t f xs h]
  exact if_pos (by rw [List.length_map, szl_eq]; exact Nat.le_trans (List.length_filter_le ..) hl)
theorem dComp_all {α : Type} (g : α → D) {di : Den (List D)} {vs : List Nat} {tg : Tg} {elt : Den D} (xs : List α) (f : α → D) (h1 : di ρ m = .ok (xs.map g, m')) (h2 : noOwn ρ vs = true) (hl : xs.length ≤ 16777216)
    (h : ∀ a ∈ xs, ∃ ρ1, tg (g a) (wipeS ρ vs) = some ρ1 ∧ elt ρ1 m' = .ok (f a, m')) : dComp di vs tg dYes elt ρ m = .ok (.lst (xs.map f), m') := by
  have e := dComp_map g xs (fun _ => true) f h1 h2 hl (test := dYes) (elt := elt) (tg := tg) fun a ha => by
    obtain ⟨ρ1, a1, a2⟩ := h a ha
    exact ⟨ρ1, a1, rfl, fun _ => a2⟩
  rw [List.filter_eq_self.mpr (fun _ _ => rfl)] at e
  exact e
theorem while_step {dc : Den Bool} {b : SDen} {n : Nat} {ρ'' : List Slot} {m'' : List Ob} (h1 : dc ρ m = .ok (true, m')) (h2 : b ρ m' = .nx ρ'' m'') : whileS dc b (n + 1) ρ m = whileS dc b n ρ'' m'' := by
  rw [whileS, h1]
  show (match b ρ m' with
    | .nx ρ' m' => whileS dc b n ρ' m'
    | .ct ρ' m' => whileS dc b n ρ' m'
    | .bk ρ' m' => .nx ρ' m'
    | o => o) = _
  rw [h2]
theorem while_stop {dc : Den Bool} {b : SDen} {n : Nat} (h1 : dc ρ m = .ok (false, m')) : whileS dc b (n + 1) ρ m = .nx ρ m' := by
  rw [whileS, h1]
  rfl
theorem cut_lo {α : Type} (xs : List α) (k : Nat) (h : k ≤ xs.length) : cut xs (some (k : Int)) none = xs.drop k := by
  unfold cut
  rw [HT.sIx_nat, HT.sIx_none, Nat.min_eq_left h]
  exact List.take_of_length_le (by rw [List.length_drop]; omega)
theorem cut_hi {α : Type} (xs : List α) (k : Nat) : cut xs none (some (k : Int)) = xs.take k := by
  unfold cut
  rw [HT.sIx_nat, HT.sIx_none, List.drop_zero, Nat.sub_zero]
  rcases Nat.le_total k xs.length with h | h
  · rw [Nat.min_eq_left h]
  · rw [Nat.min_eq_right h, List.take_of_length_le (Nat.le_refl _), List.take_of_length_le h]
theorem cut_neg {α : Type} (xs : List α) (k : Nat) (h : 0 < k) : cut xs (some (-(k : Int))) none = xs.drop (xs.length - k) := by
  have e : HT.sIx xs.length 0 (some (-(k : Int))) = xs.length - k := by
    show (if (-(k : Int)) < 0 then ((-(k : Int)) + (xs.length : Int)).toNat else min (-(k : Int)).toNat xs.length) = _
    rw [if_pos (by omega)]
    omega
  unfold cut
  rw [e, HT.sIx_none]
  exact List.take_of_length_le (by rw [List.length_drop]; omega)
theorem atI_nat {α : Type} (xs : List α) (k : Nat) (h : k < xs.length) : atI xs (k : Int) = some xs[k] := by
  unfold atI ixN
  rw [if_pos (by omega), if_pos (by omega)]
  show xs[(k : Int).toNat]? = _
  rw [Int.toNat_natCast]
  exact List.getElem?_eq_getElem h
theorem ixD_lst {α : Type} (f : α → D) (xs : List α) (k : Nat) (h : k < xs.length) : ixD (.lst (xs.map f)) (.int (k : Int)) = .ok (f xs[k]) := by
  unfold ixD
  dsimp only
  rw [atI_nat _ _ (by rw [List.length_map]; exact h)]
  dsimp only
  rw [List.getElem_map]
theorem ixD_tup {α : Type} (f : α → D) (xs : List α) (k : Nat) (h : k < xs.length) : ixD (.tup (xs.map f)) (.int (k : Int)) = .ok (f xs[k]) := by
  unfold ixD
  dsimp only
  rw [atI_nat _ _ (by rw [List.length_map]; exact h)]
  dsimp only
  rw [List.getElem_map]
/-! ### draws -/
def Drawn (m : List Ob) : Prop := ∃ s cs i, m = [.gen s cs i] ∧ cs.length ≤ 63
theorem nextG_ok (s : Int) (cs : List Int) (i b : Int) (hb : 0 < b) : ∃ r s' cs' i', nextG s cs i b = some (r, .gen s' cs' i') ∧ 0 ≤ r ∧ r < b ∧ cs'.length = cs.length := by
  have hk : ∃ cell, atI (cs ++ [0]) (i % (if (cs.length : Int) > 1 then (cs.length : Int) else 1)) = some cell ∧ (cs = [] → cell = 0) := by
    have h0 : 0 ≤ i % (if (cs.length : Int) > 1 then (cs.length : Int) else 1) := Int.emod_nonneg _ (by split <;> omega)
    have h1 : i % (if (cs.length : Int) > 1 then (cs.length : Int) else 1) < (cs ++ [0]).length := by
      have q : i % (if (cs.length : Int) > 1 then (cs.length : Int) else 1) < (if (cs.length : Int) > 1 then (cs.length : Int) else 1) := Int.emod_lt_of_pos _ (by split <;> omega)
      rw [List.length_append, List.length_singleton]
      show _ < ((cs.length + 1 : Nat) : Int)
      by_cases hq : (cs.length : Int) > 1
      · rw [if_pos hq] at q ⊢; omega
      · rw [if_neg hq] at q ⊢; omega
    generalize i % (if (cs.length : Int) > 1 then (cs.length : Int) else 1) = k at h0 h1 ⊢
    have e : ixN (cs ++ [0]).length k = some k.toNat := by
      unfold ixN
      rw [if_pos h0, if_pos h1]
    unfold atI
    rw [e]
    have hlt : k.toNat < (cs ++ [0]).length := by omega
    refine ⟨(cs ++ [0])[k.toNat], List.getElem?_eq_getElem hlt, fun e => ?_⟩
    subst e
    have : k.toNat = 0 := by simpa using hlt
    simp [this]
  obtain ⟨cell, e, hz⟩ := hk
  unfold nextG
  rw [e]
  dsimp only
  by_cases hc : cell ≥ 10 ^ 18
  · rw [if_pos hc]
    have hne : cs ≠ [] := fun q => by rw [hz q] at hc; exact absurd hc (by decide)
    have hl : 0 < cs.length := List.length_pos_iff.mpr hne
    have e2 : ixN cs.length (i % cs.length) = some (i % cs.length).toNat := by
      unfold ixN
      rw [if_pos (Int.emod_nonneg _ (by omega)), if_pos (Int.emod_lt_of_pos _ (by omega))]
    rw [e2]
    exact ⟨_, _, _, _, rfl, Int.emod_nonneg _ (by omega), Int.emod_lt_of_pos _ hb, List.length_set ..⟩
  · rw [if_neg hc]
    exact ⟨_, _, _, _, rfl, Int.emod_nonneg _ (by omega), Int.emod_lt_of_pos _ hb, rfl⟩
theorem next_ok {m : List Ob} {b : Int} (h : Drawn m) (hb : 0 < b) (hl : b.natAbs.log2 < 9000) : ∃ (r : Int) (m' : List Ob), den_law_next [.obj 0, .int b] m = .ok (.int r, m') ∧ 0 ≤ r ∧ r < b ∧ Drawn m' := by
  obtain ⟨s, cs, i, rfl, hc⟩ := h
  obtain ⟨r, s', cs', i', e, h1, h2, h3⟩ := nextG_ok s cs i b hb
  refine ⟨r, [.gen s' cs' i'], ?_, h1, h2, s', cs', i', rfl, by omega⟩
  unfold den_law_next
  dsimp only
  rw [if_pos ⟨hb, hl⟩]
  show (if cs.length ≤ 1000 then (match nextG s cs i b with
      | some (r, g) => Res.ok (D.int r, [Ob.gen s cs i].set 0 g)
      | none => .bad) else .bad) = _
  rw [if_pos (by omega), e]
  rfl
/-- as a natural number -/
theorem next_nat {m : List Ob} {b : Nat} (h : Drawn m) (hb : 0 < b) (hl : b.log2 < 9000) : ∃ (r : Nat) (m' : List Ob), den_law_next [.obj 0, .int (b : Int)] m = .ok (.int (r : Int), m') ∧ r < b ∧ Drawn m' := by
  obtain ⟨r, m', e, h1, h2, h3⟩ := next_ok (b := (b : Int)) h (by omega) hl
  obtain ⟨k, rfl⟩ := Int.eq_ofNat_of_zero_le h1
  exact ⟨k, m', e, by omega, h3⟩
/-- the source of draws made of a script -/
def denMix : FDen := fnD 2 2 (thenS (setS 2 (dV 1))
    (thenS (forS (dIt asScr (dV 0)) (tgN 3) (setS 2 (dBin modD (dCB (oneArg intD) (dCons (dBin addD (dBin addD (dBin mulD (dL 2) (dC (.int 48271))) (dBin modD (dCB (oneArg intD) (dCons (dL 3) dNil)) (dC (.int 2147483629)))) (dC (.int 1))) dNil)) (dC (.int 2147483647)))))
    (retS (dGen (dCons (dItV (dV 2)) (dCons (dItN (dCB (oneArg listScr) (dCons (dL 0) dNil))) (dCons (dItV (dC (.int 0))) dNil)))))))
theorem mix_body (x c : Int) (s0 s1 : Slot) (m : List Ob) : ∃ y : Int, (setS 2 (dBin modD (dCB (oneArg intD) (dCons (dBin addD (dBin addD (dBin mulD (dL 2) (dC (.int 48271))) (dBin modD (dCB (oneArg intD) (dCons (dL 3) dNil)) (dC (.int 2147483629)))) (dC (.int 1))) dNil)) (dC (.int 2147483647)))) [s0, s1, .sh (.int x), .sh (.int c)] m = .nx [s0, s1, .sh (.int y), .sh (.int c)] m := by
  have q1 : mulD (.int x) (.int 48271) = .ok (.int (x * 48271)) := mulD_int (.inr (by decide))
  have q2 : modD (.int c) (.int 2147483629) = .ok (.int (c % 2147483629)) := modD_int (by decide)
  have q3 : modD (.int (x * 48271 + c % 2147483629 + 1)) (.int 2147483647) = .ok (.int ((x * 48271 + c % 2147483629 + 1) % 2147483647)) := modD_int (by decide)
  refine ⟨(x * 48271 + c % 2147483629 + 1) % 2147483647, ?_⟩
  simp [q1, q2, q3]
theorem mix_loop (s0 s1 : Slot) (m : List Ob) : ∀ (ns : List Int) (x : Int) (x3 : Slot), ∃ (y : Int) (y3 : Slot), loopS (tgN 3) (setS 2 (dBin modD (dCB (oneArg intD) (dCons (dBin addD (dBin addD (dBin mulD (dL 2) (dC (.int 48271))) (dBin modD (dCB (oneArg intD) (dCons (dL 3) dNil)) (dC (.int 2147483629)))) (dC (.int 1))) dNil)) (dC (.int 2147483647)))) (ns.map D.int) [s0, s1, .sh (.int x), x3] m = .nx [s0, s1, .sh (.int y), y3] m
  | [], x, x3 => ⟨x, x3, rfl⟩
  | c :: ns, x, x3 => by
    obtain ⟨z, e⟩ := mix_body x c s0 s1 m
    obtain ⟨y, y3, e2⟩ := mix_loop s0 s1 m ns z (.sh (.int c))
    exact ⟨y, y3, by rw [List.map_cons, loop_nx (ρ1 := [s0, s1, .sh (.int x), .sh (.int c)]) rfl e, e2]⟩
theorem mix_ok (ns : List Int) (seed : Int) : ∃ s : Int, denMix [.scr ns, .int seed] [] = .ok (.obj 0, [.gen s ns 0]) := by
  obtain ⟨y, y3, e⟩ := mix_loop (.sh (.scr ns)) (.sh (.int seed)) [] ns seed .non
  refine ⟨y, fnD_rt rfl ?_⟩
  have q : asScr (.scr ns) = .ok (ns.map D.int) := rfl
  have q2 : listScr (.scr ns) = .ok (.lst (ns.map D.int)) := rfl
  simp [q, e, dGen, q2, ints?_map]
theorem mix_drawn (ns : List Int) (seed : Int) (h : ns.length ≤ 63) : ∃ m : List Ob, denMix [.scr ns, .int seed] [] = .ok (.obj 0, m) ∧ Drawn m := by
  obtain ⟨s, e⟩ := mix_ok ns seed
  exact ⟨_, e, s, ns, 0, rfl, h⟩
end
end PD
namespace PD
open PySem PySem.Spec PyProof.Rows L2
/-! ### sorted ints -/
def insI (a : Int) : List Int → List Int
  | [] => [a]
  | b :: r => if a ≤ b then a :: b :: r else b :: insI a r
def isort : List Int → List Int
  | [] => []
  | a :: r => insI a (isort r)
theorem insI_perm (a : Int) : ∀ l : List Int, (insI a l).Perm (a :: l)
  | [] => List.Perm.refl _
  | b :: r => by
    rw [insI]
    split
    · exact List.Perm.refl _
    · exact ((insI_perm a r).cons b).trans (List.Perm.swap a b r)
theorem isort_perm : ∀ l : List Int, (isort l).Perm l
  | [] => List.Perm.refl _
  | a :: r => (insI_perm a _).trans ((isort_perm r).cons a)
theorem insI_sorted (a : Int) : ∀ l : List Int, l.Pairwise (· ≤ ·) → (insI a l).Pairwise (· ≤ ·)
  | [], _ => List.pairwise_singleton _ _
  | b :: r, h => by
    obtain ⟨h1, h2⟩ := List.pairwise_cons.mp h
    rw [insI]
    split
    · rename_i hab
      refine List.pairwise_cons.mpr ⟨fun c hc => ?_, h⟩
      rcases List.mem_cons.mp hc with rfl | hc
      · exact hab
      · exact Int.le_trans hab (h1 c hc)
    · rename_i hab
      refine List.pairwise_cons.mpr ⟨fun c hc => ?_, insI_sorted a r h2⟩
      rcases List.mem_cons.mp ((insI_perm a r).mem_iff.mp hc) with rfl | hc
      · omega
      · exact h1 c hc
theorem isort_sorted : ∀ l : List Int, (isort l).Pairwise (· ≤ ·)
  | [] => List.Pairwise.nil
  | a :: r => insI_sorted a _ (isort_sorted r)
theorem sorted_one : ∀ a b : List Int, a.Pairwise (· ≤ ·) → b.Pairwise (· ≤ ·) → a.Perm b → a = b
  | [], b, _, _, p => (List.nil_perm.mp p).symm
  | x :: a, [], _, _, p => by cases List.perm_nil.mp p
  | x :: a, y :: b, ha, hb, p => by
    obtain ⟨a1, a2⟩ := List.pairwise_cons.mp ha
    obtain ⟨b1, b2⟩ := List.pairwise_cons.mp hb
    have hx : x ≤ y := by
      rcases List.mem_cons.mp (p.symm.mem_iff.mp (List.mem_cons_self ..) : y ∈ x :: a) with e | e
      · omega
      · exact a1 y e
    have hy : y ≤ x := by
      rcases List.mem_cons.mp (p.mem_iff.mp (List.mem_cons_self ..) : x ∈ y :: b) with e | e
      · omega
      · exact b1 x e
    have e : x = y := by omega
    subst e
    rw [sorted_one a b a2 b2 (List.Perm.cons_inv p)]
def sortedN : D → Res Cont
  | .lst xs => match ints? xs with
    | some ns => .ok (.lst ((isort ns).map .int))
    | none => .bad
  | _ => .bad
section
variable {X : Cx}
theorem sortedI_r : CbN X (rSortedI X.K) (oneArg sortedN) := by
  intro RW B F0 z ow ρ m σ H vs ds Q S px h
  match ds, h with
  | [d], h =>
    obtain ⟨v, rfl, p⟩ := looks_one px
    cases d with
    | lst xs =>
      dsimp only [oneArg, sortedN] at h
      cases hn : ints? xs with
      | none => rw [hn] at h; exact h.elim
      | some ns =>
        rw [hn] at h
        cases ints?_eq hn
        obtain ⟨a, ys, rfl, e, r⟩ := look_list S p
        cases r.ints
        refine ⟨a, ns, rfl, SqL.of e, fun ns' p h1 h2 hp => ?_⟩
        cases sorted_one ns' (isort ns) h2 (isort_sorted ns) (h1.trans (isort_perm ns).symm)
        exact h.newLst S Reps.of_ints hp
    | _ => exact h.elim
  | [], h => exact h.elim
  | _ :: _ :: _, h => exact h.elim
theorem pd_callBN {id : String} {x : Str} {p pos : Pos} {r : List V → Hp → VK → Prop} {g : List D → Res Cont} {e : Expr} {es : List Expr} {da : Den (List D)} {RW : WX} (hc : CallR X (.builtin id) r) (hg : CbN X r g) (hG : Gl X x) (hm : X.mg x = none) (hv : bootBuiltins x = some (.builtin id))
    (ha : PA X (e :: es) (tX X.K X.mg RW da (pLooks X.K X.mg))) (hn : x ≠ "__name__" := by decide) (hdb : (x == ("__debug__" : Str)) = false := by decide)
    (he : starEach (e :: es) X.env = (false, eval e X.env) :: starEach es X.env := by rfl) (hpl : (backTo pos (starEach es X.env)).any (·.1) = false := by rfl) :
    PE X (.Call (.Name x p) (e :: es) [] pos) (tX X.K X.mg RW (dCB g da) (pNew X.K X.mg)) := PE.imp (pe_callB hc hG hm hv ha hn hdb he hpl) (cb_stepN hg)
/-! ### methods of built-in types -/
def tyD (T : String) : D → Bool
  | .lst _ => T == "list"
  | .str _ => T == "str"
  | _ => false
def dMeth (T : String) (g : D → List D → Res D) (de : Den D) (da : Den (List D)) : Den D := fun ρ m => (de ρ m).bind fun x => if tyD T x.1 = true then (da ρ x.2).bind fun xs => (g x.1 xs.1).bind fun d => .ok (d, xs.2) else .bad
def MbR (X : Cx) (r : V → List V → Hp → VK → Prop) (g : D → List D → Res D) : Prop := ∀ {RW : WX} {B F0 : Hp} {z : Fz} {ow : Own} {ρ : List Slot} {m : List Ob} {σ : St} {H : Hp} {x : V} {d : D} {vs : List V} {ds : List D} {Q : VK},
  StOk X.K X.mg B F0 z ow ρ m σ H → pLook X.K X.mg B B z ρ σ d x → pLooks X.K X.mg B B z ρ σ ds vs → Rem X.K X.mg RW ((g d ds).bind fun d => .ok (d, m)) B F0 z ρ σ (pVal X.K X.mg) Q → r x vs H Q
theorem ty_look {T : String} {B F0 : Hp} {z : Fz} {ow : Own} {ρ : List Slot} {m : List Ob} {σ : St} {H : Hp} {d : D} {v : V} (S : StOk X.K X.mg B F0 z ow ρ m σ H) (p : pLook X.K X.mg B B z ρ σ d v) (h : tyD T d = true) : tyV X.K T v H := by
  cases d with
  | lst xs =>
    obtain ⟨a, ys, rfl, e, r⟩ := look_list S p
    exact .inl ⟨eq_of_beq h, ys, SqL.of e⟩
  | str s =>
    have e := rep_str.mp (look_rep p (fun c => by cases c <;> simp [Cont.d]))
    subst e
    exact eq_of_beq h
  | _ => cases h
theorem pd_meth {T id : String} {name : Str} {r : V → List V → Hp → VK → Prop} {g : D → List D → Res D} {o e : Expr} {es : List Expr} {de : Den D} {da : Den (List D)} {RW : WX} {apos cpos : Pos} (pa : PlainAttrs T) (slot : PySem.Slot T name id) (hty : typeOf (.builtin id) = pure (.type "method_descriptor")) (hm : MtR X id r) (hg : MbR X r g)
    (ho : PE X o (tX X.K X.mg RW de (pLook X.K X.mg))) (ha : PA X (e :: es) (tX X.K X.mg RW da (pLooks X.K X.mg)))
    (hbase : attributeBase o name X.env (eval o X.env) = eval o X.env := by rfl)
    (hfew : ((backTo cpos (starEach (e :: es) X.env)).all (fun x => !x.1) && (backToKw cpos (keywordEach [] X.env)).all (fun x => x.1.isSome)
      && decide ((e :: es).length + ([] : List Keyword).length + (if ([] : List Keyword).isEmpty then 0 else 1) < 30)) = true := by rfl)
    (hline : (apos.endLine == cpos.line) = true := by rfl) (hs : starEach (e :: es) X.env = (false, eval e X.env) :: starEach es X.env := by rfl) (hplain : (backTo cpos (starEach es X.env)).any (·.1) = false := by rfl) :
    PE X (.Call (.Attribute o name apos) (e :: es) [] cpos) (tX X.K X.mg RW (dMeth T g de da) (pVal X.K X.mg)) :=
  PE.imp (pe_bm pa slot hty hm ho ha hbase hfew hline hs hplain) fun σ H Q q => tX.imp q fun B F0 z ow ρ m S h => Rem.step pVal.pm h fun d m1 B1 z1 ow1 v H1 hB hz S1 p h1 => by
    dsimp only at h1
    split at h1
    · rename_i ht
      refine ⟨ty_look S1 p ht, B1, F0, z1, ow1, ρ, m1, S1, Rem.step pVal.pm h1 fun ds m2 B2 z2 ow2 vs H2 hB2 hz2 S2 py h2 => ?_⟩
      exact hg S2 (look_mono hB2 hz2 p) py h2
    · exact h1.elim
/-- the place of an item -/
def placeD (d : PyData) : List PyData → Nat → Option Nat
  | [], _ => none
  | x :: r, i => if PyData.eqv x d = true then some i else placeD d r (i + 1)
theorem placeD_spec (d : PyData) : ∀ (xs : List PyData) (i j : Nat), placeD d xs i = some j → ∃ k z, j = i + k ∧ xs[k]? = some z ∧ PyData.eqv z d = true ∧ ∀ m z', m < k → xs[m]? = some z' → PyData.eqv z' d = false
  | [], i, j, h => by cases h
  | x :: r, i, j, h => by
    rw [placeD] at h
    split at h
    · rename_i hx
      cases h
      exact ⟨0, x, rfl, rfl, hx, fun m z' hm => absurd hm (Nat.not_lt_zero _)⟩
    · rename_i hx
      obtain ⟨k, z, rfl, h2, h3, h4⟩ := placeD_spec d r (i + 1) j h
      refine ⟨k + 1, z, by omega, h2, h3, fun m z' hm e => ?_⟩
      cases m with
      | zero => cases e; simpa using hx
      | succ m => exact h4 m z' (by omega) e
def indexD : D → List D → Res D
  | .lst xs, [d] => if (d.okp && (D.lst xs).okp) = true then (match placeD d.py (D.pys xs) 0 with
    | some j => .ok (.int (j : Int))
    | none => .bad) else .bad
  | _, _ => .bad
theorem index_r : MbR X (rIndexD X.K) indexD := by
  intro RW B F0 z ow ρ m σ H x d vs ds Q S px ps h
  unfold indexD at h
  split at h
  · rename_i xs d
    obtain ⟨v, rfl, py⟩ := looks_one ps
    split at h
    · rename_i hz
      rw [Bool.and_eq_true] at hz
      cases hj : placeD d.py (D.pys xs) 0 with
      | none => rw [hj] at h; exact h.elim
      | some j =>
        rw [hj] at h
        obtain ⟨k, w, rfl, h2, h3, h4⟩ := placeD_spec _ _ _ _ hj
        obtain ⟨a, ys, rfl, e, r⟩ := look_list S px
        have e1 : (D.lst xs).py = .list (D.pys xs) := by simp only [D.py]
        have l1 := look_dp S px hz.2
        have l2 := hz.2
        unfold D.okp at l2
        rw [e1] at l1 l2
        exact ⟨a, v, d.py, D.pys xs, k, w, rfl, rfl, l1, look_dp S py hz.1, l2, hz.1, h2, h3, h4, h.here S (rep_int.mpr (by rw [Nat.zero_add]))⟩
    · exact h.elim
  · exact h.elim
/-! ### the truth of a value -/
def truD : D → Res Bool
  | .non => .ok false
  | .bl b => .ok b
  | .int i => .ok (i != 0)
  | .lst xs => .ok (!xs.isEmpty)
  | .tup xs => .ok (!xs.isEmpty)
  | _ => .bad
def dTru (da : Den D) : Den Bool := fun ρ m => (da ρ m).bind fun x => (truD x.1).bind fun b => .ok (b, x.2)
theorem reps_empty {K : PySem.W.Frag} {mg : Str → Option Value} {z : Fz} {ds : List D} {vs : List V} (r : Reps K mg z ds vs) : (!vs.isEmpty) = !ds.isEmpty := by
  have := r.len
  cases ds <;> cases vs <;> simp_all
theorem pt_tru {e : Expr} {da : Den D} {RW : WX} (h : PE X e (tX X.K X.mg RW da (pLook X.K X.mg))) (he : ∀ whole, isTrue e X.env whole = (do let v ← whole; standAt e.pos; holding [v] (truthy v)) := by intro _; rfl) : PT X e (tX X.K X.mg RW (dTru da) pTest) :=
  PT.imp (pt_truth h he) fun σ H Q q => tX.imp q fun B F0 z ow ρ m S h => Rem.step pTest.pm h fun d m1 B1 z1 ow1 v H1 hB hz S1 p h1 => by
    cases d with
    | non =>
      cases rep_non.mp (look_rep p (fun c => by cases c <;> simp [Cont.d]))
      exact ⟨false, rfl, h1.here S1 rfl⟩
    | bl b =>
      cases rep_bl.mp (look_rep p (fun c => by cases c <;> simp [Cont.d]))
      exact ⟨b, rfl, h1.here S1 rfl⟩
    | int i =>
      cases look_int p
      exact ⟨i != 0, rfl, h1.here S1 rfl⟩
    | lst xs =>
      obtain ⟨a, ys, rfl, e, r⟩ := look_list S1 p
      exact ⟨!xs.isEmpty, .inl ⟨ys, SqL.of e, (reps_empty r).symm⟩, h1.here S1 rfl⟩
    | tup xs =>
      obtain ⟨a, ys, rfl, e, r⟩ := look_tup S1 p
      exact ⟨!xs.isEmpty, .inr (.inl ⟨ys, e, (reps_empty r).symm⟩), h1.here S1 rfl⟩
    | _ => exact h1.elim
/-! ### a, b, c = .. -/
theorem sd_par3 {i j k : Nat} {x y w : Str} {a b c : Expr} {de : Den (List Itm)} {px py pw pt pos : Pos} {kt k2 pt2} {RW : WX} (hc : X.calm = true) (hN : X.N.Nodup) (hi : X.N[i]? = some x) (hj : X.N[j]? = some y) (hk : X.N[k]? = some w) (hij : i ≠ j) (hik : i ≠ k) (hjk : j ≠ k)
    (hx : X.env.scope.names.lookup x = some .local) (hy : X.env.scope.names.lookup y = some .local) (hw' : X.env.scope.names.lookup w = some .local) (ha : PA X [a, b, c] (tX X.K X.mg RW de (pItms X.K X.mg)))
    (hw : swappedStores [.Tuple [.Name x px, .Name y py, .Name w pw] kt pt] (.Tuple [a, b, c] k2 pt2) X.env = pure (some [x, y, w]))
    (hs : swapsWithSole [.Tuple [.Name x px, .Name y py, .Name w pw] kt pt] (.Tuple [a, b, c] k2 pt2) pos.line X.env = pure false := by rfl) :
    PS X (.Assign [.Tuple [.Name x px, .Name y py, .Name w pw] kt pt] (.Tuple [a, b, c] k2 pt2) pos) (tB X.K X.mg RW (parS [i, j, k] de)) :=
  PS.imp (ps_par3 hc hN hi hj hk hij hik hjk hx hy hw' ha hw hs) fun D σ H ⟨B, F0, z, ow, ρ, m, S, q⟩ => by
    refine ⟨B, F0, z, ow, ρ, m, S, Rem.stepS q fun its m1 B1 z1 ow1 vs H1 hB hz S1 p q1 => ?_⟩
    cases hs : setAll [i, j, k] its ρ with
    | none => rw [hs] at q1; exact q1.elim
    | some ρ' =>
      rw [hs] at q1
      obtain ⟨ow2, S2⟩ := itms_set S1 hB p hs
      have hl := p.1
      have hl2 := setAll_len hs
      match vs, (hl2.trans hl : 3 = vs.length) with
      | [v, w, u], _ => exact ⟨v, w, u, rfl, q1 z1 ow2 _ H1 (Fz.le.refl _) S2⟩
/-! ### enumerate(list) -/
def enumL : Nat → List D → List D
  | _, [] => []
  | i, d :: r => .tup [.int (i : Int), d] :: enumL (i + 1) r
theorem enumL_get : ∀ (ds : List D) (k i : Nat), (enumL k ds)[i]? = (ds[i]?).map fun d => D.tup [.int ((k + i : Nat) : Int), d]
  | [], k, i => by simp [enumL]
  | d :: r, k, 0 => by simp [enumL]
  | d :: r, k, i + 1 => by
    rw [enumL, List.getElem?_cons_succ, enumL_get r, List.getElem?_cons_succ, show k + 1 + i = k + (i + 1) by omega]
theorem enumL_len : ∀ (ds : List D) (k : Nat), (enumL k ds).length = ds.length
  | [], _ => rfl
  | _ :: r, k => by rw [enumL, List.length_cons, enumL_len r, List.length_cons]
def dEnum (da : Den D) : Den (List D) := fun ρ m => (da ρ m).bind fun x => match x.1 with
  | .lst xs => .ok (enumL 0 xs, x.2)
  | _ => .bad
theorem yields_enum {K : PySem.W.Frag} {mg : Str → Option Value} {z : Fz} {a : Addr} {xs : List V} {ds : List D} (h : z.F a = some (.lst xs)) (r : Reps K mg z ds xs) : Yields K mg (Ite K a) z (enumL 0 ds) := by
  intro B F0 z' ow ρ m σ H i hz S
  have hH : SqL K H a xs := SqL.of (S.fh _ _ (hz.1 _ _ h))
  refine ⟨fun e => ⟨xs, hH, by rw [← r.len, e, enumL_len]; exact Nat.le_refl _⟩, fun d hd => ?_⟩
  rw [enumL_get] at hd
  cases hq : ds[i]? with
  | none => rw [hq] at hd; cases hd
  | some d0 =>
    rw [hq] at hd
    cases hd
    obtain ⟨v, hv, rv⟩ := r.get hq
    refine ⟨⟨xs, v, hH, hv⟩, fun x H' y => ?_⟩
    obtain ⟨T, x0, rfl, hT, rfl, y⟩ := y
    have e := (y xs hH).symm.trans hv
    cases e
    refine ⟨_, S.leF hT _, S.allocF hT _, rep_tup_new (S.new_none hT).1 (.cons (rep_int.mpr (by rw [Nat.zero_add])) (.cons (rv.le hz) .nil))⟩
theorem it_enumL {e : Expr} {da : Den D} {RW : WX} {p pos tpos : Pos} {elts : List Expr} {kk : Nat} (hg : Gl X "enumerate") (hm : X.mg "enumerate" = none) (ha : PE X e (tX X.K X.mg RW da (pVal X.K X.mg))) (hs : starEach [e] X.env = [(false, eval e X.env)] := by rfl) (hs2 : starEach [e] X.env = (false, eval e X.env) :: starEach [] X.env := by rfl) :
    PI X (.Tuple elts kk tpos) (.Call (.Name "enumerate" p) [e] [] pos) (tX X.K X.mg RW (dEnum da) (pIt X.K X.mg)) :=
  PI.imp (pi_enum hg hm (pa_cons ha pa_nil hs2) hs) fun σ H Q q => by
    refine tX.imp q fun B F0 z ow ρ m S h => Rem.step pIt.pm h fun d m1 B1 z1 ow1 v H1 hB hz S1 p h1 => ?_
    cases d with
    | lst ds =>
      obtain ⟨a, xs, rfl, e1, r⟩ := (by simpa only [Rep] using (show Rep X.K X.mg z1 (.lst ds) v from p) : ∃ a xs, v = .ref a ∧ z1.F a = some (.lst xs) ∧ Reps X.K X.mg z1 ds xs)
      exact ⟨a, xs, rfl, SqL.of (S1.fh _ _ e1), Rem.here (d := enumL 0 ds) h1 S1 (yields_enum e1 r)⟩
    | _ => exact h1.elim
end
end PD
/-! A Hook with facts of one's own: Bools over the written part. -/
namespace PD
open PySem PySem.Spec PyProof.Rows L2
abbrev Fb : Type := PySem.W.Frag → Bool
def obsP (fb : List Fb) (fn : List He5.DefA) (K : PySem.W.Frag) : He.AlD := ((fb.all fun f => f K) && fn.all fun d => d.ok K, fn.map fun d => He5.fnA K (d.at_ K))
def valP (fn : List He5.DefA) : He.AlD := (true, fn.map He5.DefA.val)
def SaysP (fb : List Fb) (fn : List He5.DefA) (K : PySem.W.Frag) : Prop := obsP fb fn K = valP fn
def obsPG (n : Nat) (fb : List Fb) (fn : List He5.DefA) (g : Addr → Option Obj) : He.AlD := obsP fb fn (He.frG g (He.asD g n))
def hookP (n : Nat) (fb : List Fb) (fn : List He5.DefA) : PySem.W.Hook where
  α := He.AlD
  obs := fun s => obsPG n fb fn s.heap.get?
  val := fun _ => valP fn
  says := fun _ h => ∃ K : PySem.W.Frag, K.In h ∧ SaysP fb fn K
  of := fun _ _ e => ⟨_, He.frG_in, e⟩
  keeps := fun _ _ _ ⟨K, hK, c⟩ k => ⟨K, PySem.W.Frag.In.keeps hK k, c⟩
theorem obsPG_eq {n : Nat} {fb : List Fb} {fn : List He5.DefA} {g : Addr → Option Obj} {s : Shared} (h : ∀ a, g a = s.heap.get? a) : obsPG n fb fn g = (hookP n fb fn).obs s := by
  have e : g = s.heap.get? := funext h
  rw [e] <;> rfl
section
variable {fb : List Fb} {fn : List He5.DefA} {K : PySem.W.Frag}
theorem SaysP.fact (c : SaysP fb fn K) (i : Nat) {f : Fb} (h : fb[i]? = some f := by rfl) : f K = true := by
  have c1 := (He.ba (show ((fb.all fun f => f K) && fn.all fun d => d.ok K) = true from congrArg (fun z : He.AlD => z.1) c)).1
  exact List.all_eq_true.mp c1 f (List.mem_of_getElem? h)
theorem SaysP.def_ (c : SaysP fb fn K) (i : Nat) {d : He5.DefA} (h : fn[i]? = some d := by rfl) : ∃ fd, FunD K d.name d.qual d.params d.body d.scope (d.dvs K) (d.kws K) (d.at_ K) fd := by
  have c2 := (He.ba (show ((fb.all fun f => f K) && fn.all fun d => d.ok K) = true from congrArg (fun z : He.AlD => z.1) c)).2
  have e : fn.map (fun d => He5.fnA K (d.at_ K)) = fn.map He5.DefA.val := congrArg (fun z : He.AlD => z.2) c
  have e2 : (fn.map fun d => He5.fnA K (d.at_ K))[i]? = (fn.map He5.DefA.val)[i]? := by rw [e]
  rw [List.getElem?_map, List.getElem?_map, h] at e2
  exact He5.DefA.funD (Option.some.inj e2) (List.all_eq_true.mp c2 d (List.mem_of_getElem? h))
end
/-! ### properties -/
/-- where a class's property stands, where its getter -/
def pAd (K : PySem.W.Frag) (C f : Str) : Addr := He.ma K (He.ga K C) f
def gAd (K : PySem.W.Frag) (C f : Str) : Addr := match PySem.W.recIn K (pAd K C f) "property" with
  | some (.ref g :: _) => g
  | _ => 0
def propB (C f : Str) : Fb := fun K => He.eqO (PySem.W.findIn K (.ref (He.ga K C)) f) (some (some (.ref (pAd K C f)))) && (He.eqO (PySem.W.specialIn K (.ref (pAd K C f)) "__get__") (some (some (.builtin "property.__get__"))) &&
  (decide (PySem.W.takesIn K (.ref (pAd K C f)) = some true) && (match PySem.W.recIn K (pAd K C f) "property" with
    | some (.ref g :: _) => decide (g = gAd K C f)
    | _ => false)))
theorem propB_ok {K : PySem.W.Frag} {C f : Str} (h : propB C f K = true) : PropOf K (He.ga K C) f (pAd K C f) (gAd K C f) := by
  obtain ⟨h1, h2⟩ := He.ba h
  obtain ⟨h2, h3⟩ := He.ba h2
  obtain ⟨h3, h4⟩ := He.ba h3
  refine ⟨He.eqO_ok h1, He.eqO_ok h2, of_decide_eq_true h3, ?_⟩
  unfold gAd
  split
  · rename_i g r e
    exact ⟨_, e⟩
  · rename_i hno
    split at h4
    · rename_i g r e
      exact absurd e (hno g r)
    · cases h4
/-- an own class asked of: isinstance -/
def kitF (t : PySem.W.Frag → Value) (C : Str) (b : Bool) : Fb := fun K => decide (PySem.W.kitOne K (t K) (.ref (He.ga K C)) = some b)
end PD
namespace PD
def faB (f : He.Fa) : Fb := fun K => f.ok K
end PD
/-! Rows: the class, its instances. -/
namespace PD
open PySem PySem.Spec PyProof.Rows L2
/-! ### an own class whose instances are asked of -/
abbrev cA (K : PySem.W.Frag) (x : Str) : Addr := He.ga K x
structure OwnK (K : PySem.W.Frag) (x : Str) : Prop where
  cls : Cls K (cA K x)
  ha : PySem.W.findIn K (.ref (cA K x)) "__class__" = some (some (.builtin "object.__class__"))
  hn : PySem.W.specialIn K (.builtin "object.__class__") "__get__" = some (some (.builtin "getset_descriptor.__get__"))
  ht : PySem.W.takesIn K (.builtin "object.__class__") = some true
  hm : PySem.W.mroIn K (cA K x) (.type "object") = some true
def ownB (x : Str) : Fb := fun K => (He.Fa.cls x).ok K && (He.eqO (PySem.W.findIn K (.ref (cA K x)) "__class__") (some (some (.builtin "object.__class__"))) &&
  (He.eqO (PySem.W.specialIn K (.builtin "object.__class__") "__get__") (some (some (.builtin "getset_descriptor.__get__"))) && (decide (PySem.W.takesIn K (.builtin "object.__class__") = some true) && decide (PySem.W.mroIn K (cA K x) (.type "object") = some true))))
theorem ownB_ok {x : Str} {K : PySem.W.Frag} (h : ownB x K = true) : OwnK K x := by
  obtain ⟨h1, h⟩ := He.ba h
  obtain ⟨h2, h⟩ := He.ba h
  obtain ⟨h3, h⟩ := He.ba h
  obtain ⟨h4, h5⟩ := He.ba h
  exact ⟨He.cls_ok h1, He.eqO_ok h2, He.eqO_ok h3, of_decide_eq_true h4, of_decide_eq_true h5⟩
theorem OwnK.ty {K : PySem.W.Frag} {x : Str} (o : OwnK K x) {H : Hp} {a dx : Addr} {fs : List (Str × V)} (e : H a = some (.ins (cA K x) dx fs)) : TyX K H (.ref a) (.ref (cA K x)) :=
  .base (.ins e o.cls o.ha o.hn o.ht o.hm)
/-- no built-in thing is of the own class -/
def tysB (x : Str) : Fb := fun K => [Ty.int, .bool, .str, .non, .tup, .lst, .dct].all fun t => decide (PySem.W.kitOne K (.type t.name) (.ref (cA K x)) = some false)
theorem tysB_ok {x : Str} {K : PySem.W.Frag} (h : tysB x K = true) (t : Ty) : PySem.W.kitOne K (.type t.name) (.ref (cA K x)) = some false := by
  have q := List.all_eq_true.mp h
  cases t <;> exact of_decide_eq_true (q _ (by simp))
structure RowK (K : PySem.W.Frag) (mg : Str → Option Value) : Prop where
  mgC : mg "Row" = some (.ref (cA K "Row"))
  own : OwnK K "Row"
  held : NoAttr K (cA K "Row") "held"
  kit : PySem.W.kitOne K (.ref (cA K "Row")) (.ref (cA K "Row")) = some true
  tys : ∀ t : Ty, PySem.W.kitOne K (.type t.name) (.ref (cA K "Row")) = some false
def rowB : Fb := fun K => ownB "Row" K && ((He.Fa.noat "Row" "held").ok K && (decide (PySem.W.kitOne K (.ref (cA K "Row")) (.ref (cA K "Row")) = some true) && tysB "Row" K))
theorem rowB_ok {K : PySem.W.Frag} {mg : Str → Option Value} (hm : mg "Row" = some (.ref (cA K "Row"))) (h : rowB K = true) : RowK K mg := by
  obtain ⟨h1, h⟩ := He.ba h
  obtain ⟨h2, h⟩ := He.ba h
  obtain ⟨h3, h4⟩ := He.ba h
  exact ⟨hm, ownB_ok h1, He.noat_ok h2, of_decide_eq_true h3, tysB_ok h4⟩
section
variable {X : Cx} {RW : WX} {e c : Expr} {pos : Pos}
theorem rep_row {K : PySem.W.Frag} {mg : Str → Option Value} {z : Fz} {g : D} {v : V} (R : RowK K mg) (h : Rep K mg z (.row g) v) : ∃ a dx x, v = .ref a ∧ z.F a = some (.ins (cA K "Row") dx [("held", x)]) ∧ Rep K mg z g x := by
  simp only [Rep] at h
  obtain ⟨a, dx, C, x, e, hC, hF, r⟩ := h
  rw [R.mgC] at hC
  cases hC
  exact ⟨a, dx, x, e, hF, r⟩
theorem look_row {K : PySem.W.Frag} {mg : Str → Option Value} {z : Fz} {B B' F0 : Hp} {ow : Own} {ρ : List Slot} {m : List Ob} {σ : St} {H : Hp} {g : D} {v : V} (R : RowK K mg) (S : StOk K mg B F0 z ow ρ m σ H) (h : pLook K mg B' B z ρ σ (.row g) v) :
    ∃ a dx x, v = .ref a ∧ H a = some (.ins (cA K "Row") dx [("held", x)]) ∧ Rep K mg z g x := by
  obtain ⟨a, dx, x, e, hF, r⟩ := rep_row R (look_rep h (fun c => by cases c <;> simp [Cont.d]))
  exact ⟨a, dx, x, e, S.fh _ _ hF, r⟩
def heldD : D → Res D
  | .row g => .ok g
  | _ => .bad
/-- row.held -/
theorem pd_held {de : Den D} (R : RowK X.K X.mg) (he : PE X e (tX X.K X.mg RW de (pLook X.K X.mg))) (hb : attributeBase e "held" X.env (eval e X.env) = eval e X.env := by rfl) :
    PE X (.Attribute e "held" pos) (tX X.K X.mg RW (dUn heldD de) (pVal X.K X.mg)) :=
  PE.imp (pe_fld he hb) fun σ H Q q => tX.imp q fun B F0 z ow ρ m S h => Rem.step pVal.pm h fun d m1 B1 z1 ow1 v H1 hB hz S1 p h1 => by
    cases d with
    | row g =>
      obtain ⟨a, dx, x, rfl, hH, r⟩ := look_row R S1 p
      exact ⟨a, _, dx, _, x, rfl, hH, R.own.cls, R.held, rfl, h1.here S1 r⟩
    | _ => exact h1.elim
/-- isinstance(x, Row) -/
def isRowD : D → Res D
  | .row _ => .ok (.bl true)
  | d => match d.ty with
    | some _ => .ok (.bl false)
    | none => .bad
theorem pd_isRow {de : Den D} {p p2 : Pos} (R : RowK X.K X.mg) (hg : Gl X "isinstance") (hm : X.mg "isinstance" = none) (hg2 : Gl X "Row") (he : PE X e (tX X.K X.mg RW de (pLook X.K X.mg)))
    (hs : starEach (e :: [.Name "Row" p2]) X.env = (false, eval e X.env) :: starEach [.Name "Row" p2] X.env := by rfl) (hs2 : starEach [.Name "Row" p2] X.env = (false, eval (.Name "Row" p2) X.env) :: starEach [] X.env := by rfl) (hpl : (backTo pos (starEach [.Name "Row" p2] X.env)).any (·.1) = false := by rfl) :
    PE X (.Call (.Name "isinstance" p) [e, .Name "Row" p2] [] pos) (tX X.K X.mg RW (dUn isRowD de) (pVal X.K X.mg)) :=
  PE.imp (pe_callB call_isi hg hm (by decide +kernel) (pa_cons he (pa_cons (pe_glob (v := .ref (cA X.K "Row")) hg2 R.mgC rfl) pa_nil hs2) hs) (by decide) (by decide) hs hpl) fun σ H Q q => tX.imp q fun B F0 z ow ρ m S h => Rem.step pVal.pm h fun d m1 B1 z1 ow1 v H1 hB hz S1 p h1 => by
    have other : ∀ t : Ty, d.ty = some t → Rem X.K X.mg RW (.ok (.bl false, m1)) B1 F0 z1 ρ σ (pVal X.K X.mg) Q → rIsi X.K [v, .ref (cA X.K "Row")] H1 Q := fun t ht h2 =>
      ⟨v, _, _, _, false, rfl, .own _, look_ty S1 p ht, R.tys t, h2.here S1 (rep_bl.mpr rfl)⟩
    cases d with
    | row g =>
      obtain ⟨a, dx, x, rfl, hH, r⟩ := look_row R S1 p
      exact ⟨_, _, _, _, true, rfl, .own _, R.own.ty hH, R.kit, h1.here S1 (rep_bl.mpr rfl)⟩
    | non => exact other .non rfl h1
    | bl b => exact other .bool rfl h1
    | int b => exact other .int rfl h1
    | str b => exact other .str rfl h1
    | tup b => exact other .tup rfl h1
    | etp b => exact other .tup rfl h1
    | lst b => exact other .lst rfl h1
    | dct t b c => exact other .dct rfl h1
    | ldc t b c => exact h1.elim
    | obj n => exact h1.elim
    | fn n => exact h1.elim
    | scr n => exact h1.elim
end
end PD
/-! Rows: property, len, ==, made. -/
namespace PD
open PySem PySem.Spec PyProof.Rows L2
/-! ### a promise, asked -/
abbrev noX : XK := fun _ _ _ => False
theorem pass_no {X Y : Cx} : Passes (L2.CX X.prog X.w) Y noX := fun _ _ _ _ _ _ _ z => by
  obtain ⟨_, _, _, _, _, _, _, _, _, _, _, _, z⟩ := z
  exact z.elim
section
variable {K : PySem.W.Frag} {mg : Str → Option Value} {z : Fz} {B F0 : Hp} {ow : Own} {ρ : List Slot} {m : List Ob} {σ : St} {H : Hp}
theorem spF_of {n : Nat} {f : FDen} {ds : List D} {vs : List V} {Q : VK} {E : XK} (S : StOk K mg B F0 z ow ρ m σ H) (pv : Reps K mg z ds vs) (hl : ds.length = n)
    (h : match f ds m with
      | .ok (d, m2) => ∀ z2 ow2 v H2, z.le z2 → StOk K mg B F0 z2 ow2 ρ m2 σ H2 → Rep K mg z2 d v → Q v H2
      | .err x m2 => ∀ z2 ow2 cv dd H2, z.le z2 → StOk K mg B F0 z2 ow2 ρ m2 σ H2 → ExcAt mg x cv dd z2.F → E cv dd H2
      | .bad => False) : spF K mg n f vs H Q E := by
  refine ⟨by rw [← Reps.len pv]; exact hl, calleeB ow H, z.F, z, calleeO ow, m, ds, S.enter, pv, ?_⟩
  cases hf : f ds m with
  | bad => rw [hf] at h; exact h
  | ok r =>
    obtain ⟨d, m2⟩ := r
    rw [hf] at h
    intro z2 ow2 v H2 hz2 S2 rv
    obtain ⟨ow3, S3⟩ := S.leave hz2 S2
    exact h z2 ow3 v H2 hz2 S3 rv
  | err x m2 =>
    rw [hf] at h
    intro z2 ow2 cv dd H2 hz2 S2 ex
    obtain ⟨ow3, S3⟩ := S.leave hz2 S2
    exact h z2 ow3 cv dd H2 hz2 S3 ex
end
/-- what a callee gives, an error no answer -/
def noErr (r : Res (D × List Ob)) : Res (D × List Ob) := match r with
  | .err _ _ => .bad
  | r => r
/-- a function at its address -/
structure Ff (P : Program) (w : World) (K : PySem.W.Frag) (mg : Str → Option Value) (base : Heap) (a : Addr) (k n : Nat) (f : FDen) : Prop where
  ex : ∃ fd ps, FnOk P w K mg base (L2.CX P w) k a fd ps (spF K mg n f) ∧ Binds K fd ps []
theorem Ff.mk' {P : Program} {w : World} {K : PySem.W.Frag} {mg : Str → Option Value} {base : Heap} {x q : Str} {k n l : Nat} {b : SDen} {params : Arguments} {body : List Stmt} {scope : Scope} {a : Addr} {fd : FuncData} {N ps : List Str} (F : FunD K x q params body scope [] [] a fd) (S : FnScope N ps scope) (hb : Binds K fd ps []) (hn : ps.length = n) (hl : N.length = n + l)
    (h : ∀ (cdv : Value) (A : Around) (outer : List Env) (s : Shared) (H : Hp) (E : XK), Room k (A.deeper (envOfC q scope s.heap.objs.size a cdv)) → PSs (cxOf (L2.CX P w) P w K mg base N q scope a cdv A outer s H E) body (tB K mg (fun cls d _ H => E cls d H) b)) : Ff P w K mg base a (k + 1) n (fnD n l b) := by
  refine ⟨fd, ps, F.ok S (fun vs H Q E q => by rw [hn]; exact q.1) (fun cdv A outer s H vs Q E hr q => ?_), hb⟩
  refine ⟨_, h cdv A outer s H E hr, ?_⟩
  obtain ⟨hv, B, F0, z, ow, m, ds, S0, r, q⟩ := q
  have hds : ds.length = n := by rw [r.len]; exact hv
  refine ⟨B, F0, z, ow, pad ds l, m, S0.args r (by rw [hl, hds]), ?_⟩
  unfold fnD at q
  rw [if_pos hds] at q
  cases hbd : b (pad ds l) m with
  | nx ρ' m' => rw [hbd] at q; exact fun z' ow' σ' H' hz S' => q z' ow' .non H' hz S'.forget (rep_non.mpr rfl)
  | rt d m' => rw [hbd] at q; exact fun z' ow' v H' hz S' rv => q z' ow' v H' hz S' rv
  | er x ρ' m' => rw [hbd] at q; exact fun z' ow' σ' cv dd H' hz S' ex => q z' ow' cv dd H' hz S'.forget ex
  | bk ρ' m' => rw [hbd] at q; exact q.elim
  | ct ρ' m' => rw [hbd] at q; exact q.elim
  | bad => rw [hbd] at q; exact q.elim
/-- a promise of the call that no error leaves, from where the call stands -/
theorem spF_here {K : PySem.W.Frag} {mg : Str → Option Value} {RW : WX} {z : Fz} {B F0 : Hp} {ow : Own} {ρ : List Slot} {m : List Ob} {σ : St} {H : Hp} {n : Nat} {f : FDen} {ds : List D} {vs : List V} {Q : VK} (S : StOk K mg B F0 z ow ρ m σ H) (pv : Reps K mg z ds vs) (hl : ds.length = n)
    (h : Rem K mg RW (noErr (f ds m)) B F0 z ρ σ (pVal K mg) Q) : spF K mg n f vs H Q noX := by
  refine spF_of S pv hl ?_
  cases hf : f ds m with
  | bad => rw [hf] at h; exact h
  | err x m2 => rw [hf] at h; exact h.elim
  | ok r =>
    obtain ⟨d, m2⟩ := r
    rw [hf] at h
    exact fun z2 ow2 v H2 hz2 S2 rv => h B z2 ow2 v H2 (Same.refl _) hz2 S2 rv
section
variable {X : Cx} {RW : WX} {e c : Expr} {pos : Pos}
/-! ### row.groups -/
def dOwn1 (f : FDen) (de : Den D) : Den D := fun ρ m => (de ρ m).bind fun x => match x.1 with
  | .row g => noErr (f [.row g] x.2)
  | _ => .bad
theorem pd_prop {f : Str} {p g : Addr} {k : Nat} {den : FDen} {de : Den D} (R : RowK X.K X.mg) (hp : PropOf X.K (cA X.K "Row") f p g) (F : Ff X.prog X.w X.K X.mg X.base g k 1 den) (hr : Room (k + 1) X.A) (he : PE X e (tX X.K X.mg RW de (pVal X.K X.mg)))
    (hb : attributeBase e f X.env (eval e X.env) = eval e X.env := by rfl) : PE X (.Attribute e f pos) (tX X.K X.mg RW (dOwn1 den de) (pVal X.K X.mg)) := by
  obtain ⟨fd, ps, F, hbn⟩ := F.ex
  refine PE.imp (pe_prop (E := noX) he R.own.cls hp F hr hbn .nil pass_no hb) fun σ H Q q => tX.imp q fun B F0 z ow ρ m S h => Rem.step pVal.pm h fun d m1 B1 z1 ow1 v H1 hB hz S1 pd h1 => ?_
  cases d with
  | row g =>
    have pd : Rep X.K X.mg z1 (.row g) v := pd
    obtain ⟨a, dx, x, rfl, hF, r⟩ := rep_row R pd
    exact ⟨a, dx, _, rfl, S1.fh _ _ hF, spF_here (ds := [.row g]) S1 (.cons pd .nil) rfl h1⟩
  | _ => exact h1.elim
/-! ### len(row) -/
theorem call_lenOwn {C g : Addr} {n : Nat} {sp : Sp} {fd : FuncData} {ps : List Str} {E : XK} (hs : PySem.W.findIn X.K (.ref C) "__len__" = some (some (.ref g))) (hf : PySem.W.isFn X.K (.ref g) = true) (F : FnOk X.prog X.w X.K X.mg X.base (L2.CX X.prog X.w) n g fd ps sp) (hbn : Binds X.K fd ps []) (hr : Room (n + 1) X.A)
    (hx : Passes (L2.CX X.prog X.w) X E) : CallR X (.builtin "len") (fun xs H Q => ∃ a dx fs, xs = [.ref a] ∧ H a = some (.ins C dx fs) ∧ sp [.ref a] H (fun z H' => ∃ i : Int, z = .int i ∧ (0 ≤ i ∧ i < 2 ^ 63) ∧ Q (.int i) H') E) := by
  intro pins s σ H xs us Q I r h
  obtain ⟨a, dx, fs, rfl, ha, q⟩ := h
  obtain ⟨u, rfl, ru⟩ := r.one
  cases (show u = Value.ref a from ru)
  obtain ⟨mA, O, _⟩ := ins_get I.hok ha
  obtain ⟨od, J, _⟩ := O.look
  obtain ⟨mm, hF⟩ := I.fr
  have b := hbn s [Value.ref a] I.kIn (by rw [List.append_nil]; exact (F.len _ _ _ _ q))
  refine PySem.W.len_K hF I.ok.mod.kin J hs hf (wpAny_call (codeAny_mono (F.run X.A.in1 X.stack s H ⟨[Value.ref a], []⟩ _ [V.ref a] _ E hr.in1 I.env0.in1 b (.cons rfl .nil) q) fun r s' hq => ?_))
  cases r with
  | error er => exact (hx pins σ H s er s' I hq)
  | ok fl =>
    cases fl with
    | ret w =>
      obtain ⟨z', H', I2, rv, i, rfl, hi, qz⟩ := I.after hq
      obtain ⟨t, e⟩ := (show ∃ t, w = Value.int i t from rv)
      cases e
      exact ⟨hi, .int i, H', I2.tok _, ⟨_, rfl⟩, qz⟩
    | next => exact False.elim hq
    | brk => exact False.elim hq
    | cont => exact False.elim hq
def asLen (r : Res (D × List Ob)) : Res (D × List Ob) := match r with
  | .ok (.int i, m) => if 0 ≤ i ∧ i < 9223372036854775808 then .ok (.int i, m) else .bad
  | _ => .bad
def dLenRow (f : FDen) (de : Den D) : Den D := fun ρ m => (de ρ m).bind fun x => match x.1 with
  | .row g => asLen (f [.row g] x.2)
  | _ => .bad
theorem pd_lenRow {g : Addr} {k : Nat} {den : FDen} {de : Den D} {p : Pos} (R : RowK X.K X.mg) (hs : PySem.W.findIn X.K (.ref (cA X.K "Row")) "__len__" = some (some (.ref g))) (hf : PySem.W.isFn X.K (.ref g) = true) (F : Ff X.prog X.w X.K X.mg X.base g k 1 den) (hr : Room (k + 1) X.A) (hg : Gl X "len") (hm : X.mg "len" = none)
    (he : PE X e (tX X.K X.mg RW de (pVal X.K X.mg))) (hs1 : starEach [e] X.env = (false, eval e X.env) :: starEach [] X.env := by rfl) (hpl : (backTo pos (starEach [] X.env)).any (·.1) = false := by rfl) :
    PE X (.Call (.Name "len" p) [e] [] pos) (tX X.K X.mg RW (dLenRow den de) (pVal X.K X.mg)) := by
  obtain ⟨fd, ps, F, hbn⟩ := F.ex
  refine PE.imp (pe_callB (call_lenOwn (E := noX) hs hf F hbn hr pass_no) hg hm (by decide +kernel) (pa_cons he pa_nil hs1) (by decide) (by decide) hs1 hpl) fun σ H Q q => tX.imp q fun B F0 z ow ρ m S h => Rem.step pVal.pm h fun d m1 B1 z1 ow1 v H1 hB hz S1 pd h1 => ?_
  cases d with
  | row g =>
    have pd : Rep X.K X.mg z1 (.row g) v := pd
    obtain ⟨a, dx, x, rfl, hF, r⟩ := rep_row R pd
    refine ⟨a, dx, _, rfl, S1.fh _ _ hF, spF_of (ds := [.row g]) S1 (.cons pd .nil) rfl ?_⟩
    have h1 : Rem X.K X.mg RW (asLen (den [.row g] m1)) B1 F0 z1 ρ σ (pVal X.K X.mg) Q := h1
    cases hf : den [.row g] m1 with
    | bad => rw [hf] at h1; exact h1.elim
    | err x m2 => rw [hf] at h1; exact h1.elim
    | ok r =>
      obtain ⟨d, m2⟩ := r
      rw [hf] at h1
      cases d with
      | int i =>
        by_cases hi : 0 ≤ i ∧ i < 9223372036854775808
        · rw [show asLen (.ok (.int i, m2)) = .ok (.int i, m2) from if_pos hi] at h1
          intro z2 ow2 v H2 hz2 S2 rv
          cases rep_int.mp rv
          exact ⟨i, rfl, ⟨hi.1, by have := hi.2; omega⟩, h1 B1 z2 ow2 _ H2 (Same.refl _) hz2 S2 rv⟩
        · rw [show asLen (.ok (.int i, m2)) = .bad from if_neg hi] at h1
          exact h1.elim
      | _ => exact h1.elim
  | _ => exact h1.elim
/-! ### row == x -/
inductive RtTy (K : PySem.W.Frag) (H : Hp) : V → Value → Prop where
  | ins {b C dy : Addr} {gs : List (Str × V)} (e : H b = some (.ins C dy gs)) : RtTy K H (.ref b) (.ref C)
  | tup {b : Addr} {ys : List V} (e : SqT K H b ys) : RtTy K H (.ref b) (.type "tuple")
theorem op_eqOwn {C g : Addr} {n : Nat} {sp : Sp} {fd : FuncData} {ps : List Str} {E : XK} (hs : PySem.W.findIn X.K (.ref C) "__eq__" = some (some (.ref g))) (hf : PySem.W.isFn X.K (.ref g) = true) (F : FnOk X.prog X.w X.K X.mg X.base (L2.CX X.prog X.w) n g fd ps sp) (hbn : Binds X.K fd ps []) (hr : Room n X.A)
    (hx : Passes (L2.CX X.prog X.w) X E) : OpR X (compareOp .Eq) (fun x y H Q => ∃ a dx fs tb, x = .ref a ∧ H a = some (.ins C dx fs) ∧ RtTy X.K H y tb ∧ PySem.W.notFirst X.K C tb = true ∧ sp [x, y] H Q E) := by
  intro pins s σ H x y v u Q I rx ry h
  obtain ⟨a, dx, fs, tb, rfl, ha, ht, hn, q⟩ := h
  cases (show v = Value.ref a from rx)
  obtain ⟨mA, O, _⟩ := ins_get I.hok ha
  obtain ⟨od, J, _⟩ := O.look
  obtain ⟨mm, hF⟩ := I.fr
  have LT : PySem.W.Looks (model X.prog X.w) s.heap (typeOf u) tb := by
    cases ht with
    | @ins b C' dy gs e =>
      cases (show u = Value.ref b from ry)
      obtain ⟨mB, O', _⟩ := ins_get I.hok e
      obtain ⟨od', J', _⟩ := O'.look
      exact J'.type
    | @tup b ys e =>
      cases (show u = Value.ref b from ry)
      obtain ⟨its, _, ⟨o, ho, hc, _⟩, _⟩ := I.tuple e
      exact fun A Q E s k q => wpAny_typeOf_ref (k _ _ ho) (by rw [hc]; exact q)
  have b := hbn s [Value.ref a, u] I.kIn (by rw [List.append_nil]; exact (F.len _ _ _ _ q))
  show wpAny _ _ (richCompare .Eq (.ref a) u) _ _ _
  refine PySem.W.cmp_K (op := .Eq) hr.units0 hF I.ok.mod.kin J LT hn hs hf ?_
  refine wpAny_call (codeAny_mono (F.run X.A X.stack s H ⟨[Value.ref a, u], []⟩ _ [V.ref a, y] _ E hr I.env0 b (.cons rfl (.cons ry .nil)) q) fun r s' hq => ?_)
  cases r with
  | error er => exact (hx pins σ H s er s' I hq)
  | ok fl =>
    cases fl with
    | ret w =>
      obtain ⟨z', H', I2, rz, qz⟩ := I.after hq
      exact SlX.cmpback rz ⟨z', H', I2, rz, qz⟩
    | next => exact False.elim hq
    | brk => exact False.elim hq
    | cont => exact False.elim hq
def dEqRow (f : FDen) (da db : Den D) : Den D := fun ρ m => (da ρ m).bind fun x => (db ρ x.2).bind fun y => match x.1, y.1 with
  | .row g, .row k => noErr (f [.row g, .row k] y.2)
  | .row g, .tup k => noErr (f [.row g, .tup k] y.2)
  | _, _ => .bad
def nfB : Fb := fun K => PySem.W.notFirst K (cA K "Row") (.ref (cA K "Row")) && PySem.W.notFirst K (cA K "Row") (.type "tuple")
theorem pd_eqRow {a b : Expr} {g : Addr} {k : Nat} {den : FDen} {da db : Den D} (R : RowK X.K X.mg) (hs : PySem.W.findIn X.K (.ref (cA X.K "Row")) "__eq__" = some (some (.ref g))) (hf : PySem.W.isFn X.K (.ref g) = true) (hn : nfB X.K = true) (F : Ff X.prog X.w X.K X.mg X.base g k 2 den) (hr : Room k X.A)
    (ha : PE X a (tX X.K X.mg RW da (pVal X.K X.mg))) (hb : PE X b (tX X.K X.mg RW db (pVal X.K X.mg))) (hm : behindInMarks .Eq b = false := by rfl) :
    PE X (.Compare a [.Eq] [b] pos) (tX X.K X.mg RW (dEqRow den da db) (pVal X.K X.mg)) := by
  obtain ⟨fd, ps, F, hbn⟩ := F.ex
  obtain ⟨n1, n2⟩ := He.ba hn
  refine PE.imp (pe_cmpR (op_eqOwn (E := noX) hs hf F hbn hr pass_no) ha hb hm) fun σ H Q q => tX.imp q fun B F0 z ow ρ m S h => Rem.step pVal.pm h fun d m1 B1 z1 ow1 v H1 hB hz S1 pd h1 => ?_
  refine ⟨B1, F0, z1, ow1, ρ, m1, S1, Rem.step pVal.pm h1 fun dy m2 B2 z2 ow2 y H2 hB2 hz2 S2 py h2 => ?_⟩
  have pd : Rep X.K X.mg z2 d v := Rep.le hz2 pd
  have py : Rep X.K X.mg z2 dy y := py
  cases d with
  | row g =>
    obtain ⟨a, dx, x, rfl, hF, r⟩ := rep_row R pd
    cases dy with
    | row k =>
      obtain ⟨b, dz, x2, rfl, hF2, r2⟩ := rep_row R py
      exact ⟨a, dx, _, _, rfl, S2.fh _ _ hF, .ins (S2.fh _ _ hF2), n1, spF_here (ds := [.row g, .row k]) S2 (.cons pd (.cons py .nil)) rfl h2⟩
    | tup k =>
      obtain ⟨b, ys, rfl, e, r2⟩ := (by simpa only [Rep] using py : ∃ a xs, y = .ref a ∧ SqT X.K z2.F a xs ∧ Reps X.K X.mg z2 k xs)
      exact ⟨a, dx, _, _, rfl, S2.fh _ _ hF, .tup (same_tup S2.fh e), n2, spF_here (ds := [.row g, .tup k]) S2 (.cons pd (.cons py .nil)) rfl h2⟩
    | _ => exact h2.elim
  | _ => exact h2.elim
end
end PD
/-! Errors raised; a Row made; sorted(set(..)); more walks. -/
namespace PD
open PySem PySem.Spec PyProof.Rows L2
/-! ### raise X() -/
structure ExcK (K : PySem.W.Frag) (mg : Str → Option Value) (x : Str) : Prop where
  at_ : mg x = some (.ref (cA K x))
  exc : PySem.W.excIn K (cA K x) He.veBase "ValueError.__new__" = true
  kp : PySem.W.keepIn K (.ref (cA K x)) = true
  sub : PySem.W.subIn K (.ref (cA K x)) (.type "BaseException") = some true
  typ : PySem.W.typeIn K (.ref (cA K x)) = some (.type "type")
theorem excK_ok {K : PySem.W.Frag} {mg : Str → Option Value} {x : Str} (hm : mg x = some (.ref (cA K x))) (h : (He.Fa.exc x).ok K = true) : ExcK K mg x := by
  obtain ⟨h1, h2, h3, h4⟩ := He.exc_ok h
  exact ⟨hm, h1, h2, h3, h4⟩
section
variable {X : Cx} {RW : WX} {e c : Expr} {pos : Pos}
theorem pmk_own0 {x : Str} {p : Pos} (T : ExcK X.K X.mg x) (hg : Gl X x) (hdb : (x == ("__debug__" : Str)) = false) : PMk X (.Call (.Name x p) [] [] pos) (fun _ H Q => Q (.ref (cA X.K x)) none H) := by
  intro pins s σ H Q I h
  refine wpAny_Call_Name_kw (ld_glob I hg T.at_ ?_ hdb)
  refine PySem.W.callWith_K0 (first := []) I.kIn T.kp ?_
  show wpAny _ _ (call (.ref _) []) _ _ _
  obtain ⟨bm, N, nm, qn, bs, hdct, sn, sub, ab, col, dd, k0, k1, k2, k3, k5, mN, hC, hN, hni, TT⟩ := exc_obj I.kIn T.exc
  exact wpAny_call_exc_subT PySem.F.excBase_ValueError TT hC hN hni (fun h' e hm => mk_of I hm (raises_own T.sub T.typ) h (I.hok.gone hm.new)) (Nat.zero_le _)
def raiseS (x : Str) : SDen := fun ρ m => .er ⟨x, []⟩ ρ m
theorem sd_raise0 {x : Str} {p pos' : Pos} (T : ExcK X.K X.mg x) (hc : X.calm = true) (tk : Takes X RW) (hg : Gl X x) (hdb : (x == ("__debug__" : Str)) = false := by decide) : PS X (.Raise (some (.Call (.Name x p) [] [] pos)) none pos') (tB X.K X.mg RW (raiseS x)) :=
  PS.imp (ps_raise hc tk (pmk_own0 T hg hdb)) fun D σ H ⟨B, F0, z, ow, ρ, m, S, q⟩ => q z ow σ _ none H (Fz.le.refl _) S ⟨_, T.at_, rfl, fun _ => rfl, fun l w e => by cases e⟩
/-! ### sorted(set(a tuple)) -/
def rSetTI (K : PySem.W.Frag) (w : World) : List V → Hp → VK → Prop := fun xs H Q => ∃ (p : Addr) (ns : List Int), xs = [.ref p] ∧ SqT K H p (ns.map V.int) ∧ ns.length ≤ 1000 ∧ ∀ a c, H a = none → c ≤ ns.length → Q (.ref a) (upd H a (SetO w a (fun j => decide (j ∈ ns)) c))
theorem cr_setTI (hc : X.calm = true) : CallR X (.type "set") (rSetTI X.K X.w) := by
  intro pins s σ H xs us Q I r h
  obtain ⟨p0, ns, rfl, hq, hl, q⟩ := h
  obtain ⟨u, rfl, ru⟩ := r.one
  cases (show u = Value.ref p0 from ru)
  obtain ⟨its, rv, pt, hz⟩ := I.tuple hq
  have hi : IntsAre its.toArray.toList ns := ints_of_vals rv
  refine call_set_tupI ns (I.ok.hd hc) (show s.heap.IsTuple p0 its.toArray from pt) hi (by unfold scanBound; omega) fun h' tk c R1 hcn k => ?_
  have hn := I.hok.fresh (Nat.le_refl s.heap.objs.size)
  exact ⟨.ref _, _, I.laid (t' := tk) k (Nat.le_refl _) (setO_new R1), rfl, q _ c hn hcn⟩
/-- without equal neighbours -/
def sset : List Int → List Int
  | [] => []
  | a :: r => (match sset r with
    | [] => [a]
    | b :: t => if a = b then b :: t else a :: b :: t)
theorem sset_mem : ∀ (l : List Int) (k : Int), k ∈ sset l ↔ k ∈ l
  | [], k => Iff.rfl
  | a :: r, k => by
    have ih := sset_mem r
    rw [sset]
    cases h : sset r with
    | nil =>
      have hr : r = [] := by
        cases r with
        | nil => rfl
        | cons b t => have := (ih b).mpr (List.mem_cons_self ..); rw [h] at this; cases this
      subst hr
      exact Iff.rfl
    | cons b t =>
      dsimp only
      rw [h] at ih
      split
      · rename_i e
        subst e
        rw [ih, List.mem_cons]
        constructor
        · exact .inr
        · rintro (e | e)
          · subst e; exact (ih k).mp (List.mem_cons_self ..)
          · exact e
      · rw [List.mem_cons, ih, List.mem_cons]
theorem sset_sorted : ∀ l : List Int, l.Pairwise (· ≤ ·) → (sset l).Pairwise (· < ·)
  | [], _ => List.Pairwise.nil
  | a :: r, h => by
    obtain ⟨h1, h2⟩ := List.pairwise_cons.mp h
    have ih := sset_sorted r h2
    have hm := sset_mem r
    rw [sset]
    cases hs : sset r with
    | nil => exact List.pairwise_singleton _ _
    | cons b t =>
      rw [hs] at ih hm
      dsimp only
      split
      · exact ih
      · rename_i ne
        refine List.pairwise_cons.mpr ⟨fun c hc => ?_, ih⟩
        have hab : a ≤ b := h1 b ((hm b).mp (List.mem_cons_self ..))
        rcases List.mem_cons.mp hc with rfl | hc
        · omega
        · have := (List.pairwise_cons.mp ih).1 c hc
          omega
theorem strict_one : ∀ a b : List Int, a.Pairwise (· < ·) → b.Pairwise (· < ·) → (∀ k, k ∈ a ↔ k ∈ b) → a = b
  | [], [], _, _, _ => rfl
  | [], y :: b, _, _, h => by cases (h y).mpr (List.mem_cons_self ..)
  | x :: a, [], _, _, h => by cases (h x).mp (List.mem_cons_self ..)
  | x :: a, y :: b, ha, hb, h => by
    obtain ⟨a1, a2⟩ := List.pairwise_cons.mp ha
    obtain ⟨b1, b2⟩ := List.pairwise_cons.mp hb
    have hx : x = y := by
      rcases List.mem_cons.mp ((h x).mp (List.mem_cons_self ..)) with e | e
      · exact e
      · rcases List.mem_cons.mp ((h y).mpr (List.mem_cons_self ..)) with e2 | e2
        · exact e2.symm
        · have := a1 y e2; have := b1 x e; omega
    subst hx
    congr 1
    refine strict_one a b a2 b2 fun k => ⟨fun hk => ?_, fun hk => ?_⟩
    · rcases List.mem_cons.mp ((h k).mp (List.mem_cons_of_mem _ hk)) with e | e
      · subst e; have := a1 _ hk; omega
      · exact e
    · rcases List.mem_cons.mp ((h k).mpr (List.mem_cons_of_mem _ hk)) with e | e
      · subst e; have := b1 _ hk; omega
      · exact e
def sortedSetN : D → Res Cont
  | .tup xs => match ints? xs with
    | some ns => if ns.length < 64 then .ok (.lst ((sset (isort ns)).map .int)) else .bad
    | none => .bad
  | _ => .bad
def dUnN (g : D → Res Cont) (da : Den D) : Den Cont := fun ρ m => (da ρ m).bind fun x => (g x.1).bind fun d => .ok (d, x.2)
theorem pd_sortedSet {da : Den D} {p p2 q : Pos} (hc : X.calm = true) (hg : Gl X "sorted") (hm : X.mg "sorted" = none) (hg2 : Gl X "set") (hm2 : X.mg "set" = none) (ha : PE X e (tX X.K X.mg RW da (pLook X.K X.mg)))
    (hs1 : starEach [e] X.env = (false, eval e X.env) :: starEach [] X.env := by rfl) (hpl : (backTo q (starEach [] X.env)).any (·.1) = false := by rfl)
    (hs2 : starEach [.Call (.Name "set" p2) [e] [] q] X.env = (false, eval (.Call (.Name "set" p2) [e] [] q) X.env) :: starEach [] X.env := by rfl) (hpl2 : (backTo pos (starEach [] X.env)).any (·.1) = false := by rfl) :
    PE X (.Call (.Name "sorted" p) [.Call (.Name "set" p2) [e] [] q] [] pos) (tX X.K X.mg RW (dUnN sortedSetN da) (pNew X.K X.mg)) := by
  have h1 := pe_callTy (p := p2) (cr_setTI hc) hg2 hm2 PyProof.Rows.boot_set (pa_cons ha pa_nil hs1) (by decide) (by decide) hs1 hpl
  refine PE.imp (pe_callB (cr_sortedSet hc) hg hm (by decide +kernel) (pa_cons h1 pa_nil hs2) (by decide) (by decide) hs2 hpl2) fun σ H Q q => tX.imp q fun B F0 z ow ρ m S h => Rem.step pNew.pm h fun d m1 B1 z1 ow1 v H1 hB hz S1 px h1 => ?_
  cases d with
  | tup xs =>
    dsimp only [sortedSetN] at h1
    cases hn : ints? xs with
    | none => rw [hn] at h1; exact h1.elim
    | some ns =>
      rw [hn] at h1
      cases ints?_eq hn
      dsimp only at h1
      split at h1
      · rename_i h64
        obtain ⟨a, ys, rfl, e, r⟩ := look_tup S1 px
        cases r.ints
        refine ⟨a, ns, rfl, e, by omega, fun b c hb hcn => ?_⟩
        refine ⟨b, _, c, rfl, upd_same, by omega, fun ms p h2 h3 _ hp => ?_⟩
        have em : ms = sset (isort ns) := strict_one _ _ h2 (sset_sorted _ (isort_sorted ns)) fun k => by
          rw [h3 k, sset_mem, (isort_perm ns).mem_iff, decide_eq_true_eq]
        subst em
        have S2 := S1.alloc hb (SetO X.w b (fun j => decide (j ∈ ns)) c)
        exact Rem.newLst (ds := (sset (isort ns)).map .int) h1 S2 Reps.of_ints hp
      · exact h1.elim
  | _ => exact h1.elim
end
end PD
/-! Instances in the store; a Row made. -/
namespace PD
open PySem PySem.Spec PyProof.Rows L2
section
variable {K : PySem.W.Frag} {mg : Str → Option Value} {z z' z1 z2 z3 : Fz} {B B' B1 B2 F0 F1 : Hp} {ow ow' ow1 ow2 : Own} {ρ ρ1 : List Slot} {m m' m1 : List Ob} {σ σ1 : St} {H H' H1 H2 : Hp}
/-- a thing of the store of one object changes -/
theorem StOk.obSet (S : StOk K mg B F0 z ow ρ m σ H) {n : Nat} {o o' : Ob} {a : Addr} {u : HO} (hm : m[n]? = some o) (hA : z.As[n]? = some [a]) (w : ow a = some (.inr n)) (hu : H a ≠ none) (ok : ObOk K mg z ow (upd H a u) n [a] o') : StOk K mg B F0 z ow ρ (m.set n o') σ (upd H a u) := by
  obtain ⟨wf, wb, _⟩ := S.ow a _ w
  have other : ∀ b x, b ≠ a → H b = some x → upd H a u b = some x := fun b x hb e => by rw [upd_ne hb]; exact e
  refine ⟨fun b x e => other b x (fun q => by subst q; rw [wf] at e; cases e) (S.fh b x e), fun b x e => other b x (fun q => by subst q; rw [wb] at e; cases e) (S.bh b x e), S.f0, S.new, S.len, fun j s e => ?_, by rw [List.length_set]; exact S.ol, fun k x e => ?_, fun b x e => ?_⟩
  · have q := S.slot j s e
    cases s with
    | non => trivial
    | exc a d x => exact q
    | sh d => exact q
    | own c =>
      obtain ⟨b, x, e1, e2, c1, w'⟩ := q
      exact ⟨b, x, e1, other b x (fun q => by subst q; rw [w] at w'; cases w') e2, c1, w'⟩
  · by_cases hk : n = k
    · subst hk
      obtain ⟨hl, _⟩ := List.getElem?_eq_some_iff.mp hm
      rw [List.getElem?_set_self hl] at e
      cases e
      exact ⟨_, hA, ok⟩
    · rw [List.getElem?_set_ne hk] at e
      obtain ⟨fp, e1, q⟩ := S.ob k x e
      exact ⟨fp, e1, q.mono (Fz.le.refl _) (fun _ w => w) fun b y w1 h1 => other b y (fun q => by subst q; rw [w] at w1; exact hk (Sum.inr.inj (Option.some.inj w1))) h1⟩
  · obtain ⟨q1, q2, q3⟩ := S.ow b x e
    refine ⟨q1, q2, ?_⟩
    by_cases hb : b = a
    · subst hb; rw [upd_same]; simp
    · rw [upd_ne hb]; exact q3
/-- a new thing of one object -/
theorem StOk.obNew (S : StOk K mg B F0 z ow ρ m σ H) {p : Addr} {u : HO} {o : Ob} (hp : H p = none) (ok : ∀ ow' : Own, ow' p = some (.inr m.length) → ObOk K mg ⟨z.F, z.As ++ [[p]]⟩ ow' (upd H p u) m.length [p] o) : ∃ ow', StOk K mg B F0 ⟨z.F, z.As ++ [[p]]⟩ ow' ρ (m ++ [o]) σ (upd H p u) := by
  obtain ⟨nz, nB, _, nw⟩ := S.new_none hp
  have S := S.alloc hp u
  have hle : z.le ⟨z.F, z.As ++ [[p]]⟩ := ⟨Same.refl _, _, rfl⟩
  have hno : ∀ b x, ow b = some x → b ≠ p := fun b x h q => by subst q; rw [nw] at h; cases h
  refine ⟨fun b => if b = p then some (.inr m.length) else ow b, S.fh, S.bh, S.f0, S.new, S.len, fun j t q => ?_, by simp [S.ol], fun k x q => ?_, fun b x q => ?_⟩
  · have r := S.slot j t q
    cases t with
    | non => trivial
    | exc a d x => exact ExcSl.le hle r
    | sh d => obtain ⟨x, e, r⟩ := r; exact ⟨x, e, r.le hle⟩
    | own ct =>
      obtain ⟨b, x, e1, e2, c1, w⟩ := r
      exact ⟨b, x, e1, e2, c1.le hle, by show (if b = p then _ else _) = _; rw [if_neg (hno b _ w)]; exact w⟩
  · by_cases hk : k < m.length
    · rw [List.getElem?_append_left hk] at q
      obtain ⟨fp, e1, r⟩ := S.ob k x q
      exact ⟨fp, hle.at e1, r.mono hle (fun b h => by show (if b = p then _ else _) = _; rw [if_neg (hno b _ h)]; exact h) fun _ _ _ h => h⟩
    · have hk' : k = m.length := by
        obtain ⟨hl, _⟩ := List.getElem?_eq_some_iff.mp q
        rw [List.length_append, List.length_singleton] at hl
        omega
      subst hk'
      rw [List.getElem?_append_right (Nat.le_refl _), Nat.sub_self] at q
      cases q
      refine ⟨[p], ?_, ok _ (if_pos rfl)⟩
      show (z.As ++ [[p]])[m.length]? = _
      rw [← S.ol, List.getElem?_append_right (Nat.le_refl _), Nat.sub_self]
      rfl
  · have q : (if b = p then some (Sum.inr m.length) else ow b) = some x := q
    by_cases n : b = p
    · subst n; exact ⟨nz, nB, by rw [upd_same]; simp⟩
    · rw [if_neg n] at q; exact S.ow b x q
mutual
theorem Rep.back (hF : Same z2.F z3.F) (hA : z3.As = z1.As) (h12 : ∃ r, z2.As = z1.As ++ r) : ∀ {d : D} {v w : V}, Rep K mg z1 d v → Rep K mg z2 d w → Rep K mg z3 d w
  | .non, _, _, _, r => by simpa only [Rep] using r
  | .bl _, _, _, _, r => by simpa only [Rep] using r
  | .int _, _, _, _, r => by simpa only [Rep] using r
  | .str _, _, _, _, r => by simpa only [Rep] using r
  | .fn _, _, _, _, r => by simpa only [Rep] using r
  | .tup ds, v, w, q, r => by
    simp only [Rep] at q r ⊢
    obtain ⟨a, xs, e, hs, hr⟩ := r
    obtain ⟨b, ys, e2, hs2, hr2⟩ := q
    exact ⟨a, xs, e, same_tup hF hs, Reps.back hF hA h12 hr2 hr⟩
  | .etp ds, v, w, q, r => by
    simp only [Rep] at q r ⊢
    obtain ⟨a, o, xs, e, hs, hd, hr⟩ := r
    obtain ⟨b, o2, ys, e2, hs2, hd2, hr2⟩ := q
    exact ⟨a, o, xs, e, hF _ _ hs, hd, Reps.back hF hA h12 hr2 hr⟩
  | .lst ds, v, w, q, r => by
    simp only [Rep] at q r ⊢
    obtain ⟨a, xs, e, hs, hr⟩ := r
    obtain ⟨b, ys, e2, hs2, hr2⟩ := q
    exact ⟨a, xs, e, hF _ _ hs, Reps.back hF hA h12 hr2 hr⟩
  | .dct t ks vs, v, w, q, r => by
    simp only [Rep] at q r ⊢
    obtain ⟨a, o, vx, e, hs, h1, h2⟩ := r
    obtain ⟨b, o2, vx2, e2, hs2, h3, h4⟩ := q
    exact ⟨a, o, vx, e, hF _ _ hs, Reps.back hF hA h12 h3 h1, h2⟩
  | .ldc t ks vs, v, w, q, r => by
    simp only [Rep] at q r ⊢
    obtain ⟨a, od, o, vx, e, hs, h1, h2⟩ := r
    obtain ⟨b, od2, o2, vx2, e2, hs2, h3, h4⟩ := q
    exact ⟨a, od, o, vx, e, hF _ _ hs, Reps.back hF hA h12 h3 h1, h2⟩
  | .row g, v, w, q, r => by
    simp only [Rep] at q r ⊢
    obtain ⟨a, dx, C, x, e, hm, hs, hr⟩ := r
    obtain ⟨b, dx2, C2, x2, e2, hm2, hs2, hr2⟩ := q
    exact ⟨a, dx, C, x, e, hm, hF _ _ hs, Rep.back hF hA h12 hr2 hr⟩
  | .obj n, v, w, q, r => by
    simp only [Rep] at q r ⊢
    obtain ⟨a, l, e, hs⟩ := r
    obtain ⟨b, l2, e2, hs2⟩ := q
    obtain ⟨t, ht⟩ := h12
    obtain ⟨hl, _⟩ := List.getElem?_eq_some_iff.mp hs2
    rw [ht, List.getElem?_append_left hl] at hs
    exact ⟨a, l, e, by rw [hA]; exact hs⟩
  | .scr ns, v, w, q, r => by
    simp only [Rep] at r ⊢
    obtain ⟨a, e, hs⟩ := r
    exact ⟨a, e, hF.seq hs⟩
theorem Reps.back (hF : Same z2.F z3.F) (hA : z3.As = z1.As) (h12 : ∃ r, z2.As = z1.As ++ r) : ∀ {ds : List D} {vs ws : List V}, Reps K mg z1 ds vs → Reps K mg z2 ds ws → Reps K mg z3 ds ws
  | [], vs, ws, q, r => by rw [r.nil_of]; exact .nil
  | d :: ds, vs, ws, q, r => by
    obtain ⟨v, vs', rfl, q1, q2⟩ := q.uncons
    obtain ⟨w, ws', rfl, r1, r2⟩ := r.uncons
    exact .cons (Rep.back hF hA h12 q1 r1) (Reps.back hF hA h12 q2 r2)
end
theorem COk.back (hF : Same z2.F z3.F) (hA : z3.As = z1.As) (h12 : ∃ r, z2.As = z1.As ++ r) {c : Cont} {o o' : HO} (q : COk K mg z1 c o) (r : COk K mg z2 c o') : COk K mg z3 c o' := by
  cases c with
  | lst ds =>
    obtain ⟨xs, e, r⟩ := r
    obtain ⟨ys, e2, q⟩ := q
    exact ⟨xs, e, q.back hF hA h12 r⟩
  | dct t ks vs =>
    obtain ⟨vx, r1, r2⟩ := r
    obtain ⟨vy, q1, q2⟩ := q
    exact ⟨vx, q1.back hF hA h12 r1, r2⟩
  | ldc t ks vs =>
    obtain ⟨od, u, vx, e, r1, r2⟩ := r
    obtain ⟨od2, u2, vy, e2, q1, q2⟩ := q
    exact ⟨od, u, vx, e, q1.back hF hA h12 r1, r2⟩
theorem ObOk.back (hF : Same z2.F z3.F) (hA : z3.As = z1.As) (h12 : ∃ r, z2.As = z1.As ++ r) {n : Nat} {fp fp' : List Addr} {o : Ob} (q : ObOk K mg z1 ow1 H1 n fp' o) (r : ObOk K mg z2 ow2 H2 n fp o) : ObOk K mg z3 ow2 H2 n fp o := by
  cases o with
  | gen s cs i => exact r
  | lst ds =>
    obtain ⟨a, xs, e, h, r, w⟩ := r
    obtain ⟨b, ys, _, _, q, _⟩ := q
    exact ⟨a, xs, e, h, q.back hF hA h12 r, w⟩
  | ins c fs =>
    obtain ⟨a, dx, C, vs, e, hC, h, r, w⟩ := r
    obtain ⟨b, dy, C2, vs2, _, _, _, q, _⟩ := q
    exact ⟨a, dx, C, vs, e, hC, h, q.back hF hA h12 r, w⟩
  | tab x q0 => exact r
/-- the last thing of the store is forgotten: no earlier one knows of it -/
theorem StOk.takeLast (S1 : StOk K mg B1 F1 z1 ow1 ρ m σ H1) {fp : List Addr} (hA : z2.As = z1.As ++ [fp]) {o : Ob} (S : StOk K mg B F0 z2 ow ρ (m ++ [o]) σ H) :
    StOk K mg B F0 ⟨z2.F, z1.As⟩ (fun a => if ow a = some (.inr m.length) then none else ow a) ρ m σ H := by
  have e1 : Same z2.F (Fz.F ⟨z2.F, z1.As⟩) := Same.refl _
  have e2 : Fz.As ⟨z2.F, z1.As⟩ = z1.As := rfl
  have e3 : ∃ r, z2.As = z1.As ++ r := ⟨_, hA⟩
  refine ⟨S.fh, S.bh, S.f0, S.new, S.len, fun i s e => ?_, S1.ol, fun n x e => ?_, fun a x e => ?_⟩
  · have q := S.slot i s e
    have q1 := S1.slot i s e
    cases s with
    | non => trivial
    | exc a d x => exact q
    | sh d =>
      obtain ⟨x, e4, r⟩ := q
      obtain ⟨y, e5, r1⟩ := q1
      exact ⟨x, e4, r1.back e1 e2 e3 r⟩
    | own c =>
      obtain ⟨a, x, h1, h2, c1, w⟩ := q
      obtain ⟨b, y, g1, g2, c2, _⟩ := q1
      exact ⟨a, x, h1, h2, c2.back e1 e2 e3 c1, by show (if _ then _ else _) = _; rw [w, if_neg (by simp)]⟩
  · obtain ⟨hl, _⟩ := List.getElem?_eq_some_iff.mp e
    obtain ⟨fp1, h1, q1⟩ := S1.ob n x e
    obtain ⟨fp2, h2, q2⟩ := S.ob n x (by rw [List.getElem?_append_left hl]; exact e)
    have hl2 : n < z1.As.length := by rw [S1.ol]; exact hl
    rw [hA, List.getElem?_append_left hl2, h1] at h2
    cases h2
    exact ⟨fp1, h1, (q1.back e1 e2 e3 q2).mono (Fz.le.refl _) (fun a w => by show (if _ then _ else _) = _; rw [w, if_neg (by intro z; have := Sum.inr.inj (Option.some.inj z); omega)]) fun _ _ _ h => h⟩
  · have e : (if ow a = some (.inr m.length) then none else ow a) = some x := e
    split at e
    · cases e
    · exact S.ow a x e
end
/-! ### o.f = e, o in the store -/
def putD (f : Str) (d : D) : List (Str × D) → List (Str × D)
  | [] => [(f, d)]
  | p :: r => if p.1 = f then (p.1, d) :: r else p :: putD f d r
theorem putF_zip {K : PySem.W.Frag} {mg : Str → Option Value} {z : Fz} {f : Str} {d : D} {v : V} (hd : Rep K mg z d v) : ∀ {fs : List (Str × D)} {vs : List V}, Reps K mg z (fs.map (·.2)) vs →
    ∃ ws, putF f v ((fs.map (·.1)).zip vs) = ((putD f d fs).map (·.1)).zip ws ∧ Reps K mg z ((putD f d fs).map (·.2)) ws
  | [], vs, r => ⟨[v], rfl, .cons hd .nil⟩
  | p :: fs, vs, r => by
    obtain ⟨w, ws, rfl, r1, r2⟩ := Reps.uncons r
    obtain ⟨xs, e, r3⟩ := putF_zip hd r2
    by_cases h : p.1 = f
    · refine ⟨v :: ws, ?_, ?_⟩
      · show (if p.1 = f then (p.1, v) :: (fs.map (·.1)).zip ws else (p.1, w) :: putF f v ((fs.map (·.1)).zip ws)) = _
        rw [if_pos h, show putD f d (p :: fs) = (p.1, d) :: fs from if_pos h]
        rfl
      · rw [show putD f d (p :: fs) = (p.1, d) :: fs from if_pos h]
        exact .cons hd r2
    · refine ⟨w :: xs, ?_, ?_⟩
      · show (if p.1 = f then (p.1, v) :: (fs.map (·.1)).zip ws else (p.1, w) :: putF f v ((fs.map (·.1)).zip ws)) = _
        rw [if_neg h, show putD f d (p :: fs) = p :: putD f d fs from if_neg h, e]
        rfl
      · rw [show putD f d (p :: fs) = p :: putD f d fs from if_neg h]
        exact .cons r1 r3
/-- what the class c must be for its attribute f to be stored and read -/
structure AtrK (K : PySem.W.Frag) (mg : Str → Option Value) (c f : Str) : Prop where
  at_ : mg c = some (.ref (cA K c))
  cls : Cls K (cA K c)
  no : NoAttr K (cA K c) f
def fldS (c : Str) (i : Nat) (f : Str) (de : Den D) : SDen := fun ρ m => bindS (de ρ m) ρ fun d m1 => match slotAt ρ i with
  | .sh (.obj n) => (match m1[n]? with
    | some (.ins c' fs) => if c' = c ∧ fs.length < 1000 then .nx ρ (m1.set n (.ins c (putD f d fs))) else .bad
    | _ => .bad)
  | _ => .bad
theorem rep_obj {K : PySem.W.Frag} {mg : Str → Option Value} {z : Fz} {n : Nat} {v : V} : Rep K mg z (.obj n) v ↔ ∃ a r, v = .ref a ∧ z.As[n]? = some (a :: r) := by simp only [Rep]
theorem StOk.insAt {K : PySem.W.Frag} {mg : Str → Option Value} {z : Fz} {B F0 : Hp} {ow : Own} {ρ : List Slot} {m : List Ob} {σ : St} {H : Hp} (S : StOk K mg B F0 z ow ρ m σ H) {n : Nat} {c : Str} {fs : List (Str × D)} (hm : m[n]? = some (.ins c fs)) :
    ∃ a dx C vs, z.As[n]? = some [a] ∧ mg c = some (.ref C) ∧ H a = some (.ins C dx ((fs.map (·.1)).zip vs)) ∧ Reps K mg z (fs.map (·.2)) vs ∧ ow a = some (.inr n) := by
  obtain ⟨fp, e, a, dx, C, vs, rfl, h⟩ := S.ob n _ hm
  exact ⟨a, dx, C, vs, e, h⟩
section
variable {X : Cx} {RW : WX} {e : Expr}
theorem sd_fld {c f : Str} {i : Nat} {x : Str} {px pos' pos : Pos} {de : Den D} (T : AtrK X.K X.mg c f) (hv : PE X (.Name x px) (tVar i)) (he : PE X e (tX X.K X.mg RW de (pVal X.K X.mg))) (hs : swapsWith e (some (.Attribute (.Name x px) f pos')) pos.line X.env = pure false := by rfl) :
    PS X (.Assign [.Attribute (.Name x px) f pos'] e pos) (tB X.K X.mg RW (fldS c i f de)) :=
  PS.imp (ps_fld hv he hs) fun D σ H ⟨B, F0, z, ow, ρ, m, S, q⟩ => by
    refine ⟨B, F0, z, ow, ρ, m, S, Rem.stepS q fun d m1 B1 z1 ow1 v H1 hB hz S1 pd q1 => ?_⟩
    have S1 := S1.weak hB
    cases hsl : slotAt ρ i with
    | sh ds =>
      rw [hsl] at q1
      cases ds with
      | obj n =>
        dsimp only at q1
        obtain ⟨w, e1, rw'⟩ := S1.slot i _ (slotAt_get hsl (by simp))
        obtain ⟨a0, r, rfl, hA0⟩ := rep_obj.mp rw'
        refine ⟨.ref a0, ?_, ?_⟩
        · cases q : σ[i]? with
          | none => rw [q] at e1; cases e1
          | some u => rw [q] at e1; exact congrArg some e1
        cases hm : m1[n]? with
        | none => rw [hm] at q1; exact q1.elim
        | some ob =>
          rw [hm] at q1
          cases ob with
          | ins c' fs =>
            dsimp only at q1
            split at q1
            · rename_i hc
              obtain ⟨rfl, hlen⟩ := hc
              obtain ⟨a, dx, C, vs, hA, hC, hH, rv, w⟩ := S1.insAt hm
              rw [hA] at hA0
              cases hA0
              rw [T.at_] at hC
              cases hC
              refine ⟨_, _, dx, _, rfl, hH, T.cls, T.no, ?_, ?_⟩
              · rw [List.length_zip, List.length_map]
                omega
              · obtain ⟨ws, e2, r2⟩ := putF_zip (f := f) pd rv
                rw [e2]
                exact q1 z1 ow1 σ _ (Fz.le.refl _) (S1.obSet hm hA w (by rw [hH]; simp) ⟨_, dx, _, ws, rfl, T.at_, upd_same, r2, w⟩)
            · exact q1.elim
          | gen _ _ _ => exact q1.elim
          | lst _ => exact q1.elim
          | tab _ _ => exact q1.elim
      | _ => exact q1.elim
    | non => rw [hsl] at q1; exact q1.elim
    | own c => rw [hsl] at q1; exact q1.elim
    | exc a d x => rw [hsl] at q1; exact q1.elim
end
end PD
/-! A Row made. -/
namespace PD
open PySem PySem.Spec PyProof.Rows L2
section
variable {X : Cx} {RW : WX} {e : Expr} {pos : Pos}
theorem mk_call {C f : Addr} {k : Nat} {fd : FuncData} {ps : List Str} {sp : Sp} {E : St → XK} {pins : List (Addr × Obj)} {σ : St} {H : Hp} {s : Shared} {Q : VK} {us : List Value} {vs : List V} (M : Mk X.K C f) (F : FnOk X.prog X.w X.K X.mg X.base (L2.CX X.prog X.w) k f fd ps sp) (hr : Room (k + 1) X.A) (hb : Binds X.K fd ps [])
    (hx : PassesAt (L2.CX X.prog X.w) X σ (E σ)) (I : Inv X pins σ H s) (r : Vals vs us)
    (h : ∀ x dx, H x = none → H dx = none → dx ≠ x → sp (.ref x :: vs) (upd (upd H dx (.own x)) x (.ins C dx [])) (fun v H2 => v = .non ∧ Q (.ref x) H2) (E σ)) : wpAny (model X.prog X.w) X.A (call (.ref C) us) (EP X pins σ Q) X.xe s := by
  have q0 := h _ _ (I.hok.fresh (Nat.le_succ s.heap.objs.size)) (I.hok.fresh (Nat.le_refl s.heap.objs.size)) (Nat.ne_of_lt (Nat.lt_succ_self _))
  have J := Inv.made (C := C) I
  have rr : Vals (V.ref (s.heap.objs.size + 1) :: vs) (Value.ref (s.heap.objs.size + 1) :: us) := .cons rfl r
  have hlen := F.len _ _ _ _ q0
  rw [rr.length] at hlen
  have bb := hb _ (Value.ref (s.heap.objs.size + 1) :: us) J.kIn (by rw [List.append_nil]; exact hlen)
  rw [List.append_nil] at bb
  refine wpAny_call (make_map (f := f) I.kIn M.makes M.init (beq_iff_eq.mp M.fn) (codeAny_mono (F.run _ X.stack _ _ ⟨Value.ref (s.heap.objs.size + 1) :: us, []⟩ _ _ _ (E σ) (hr.make C us []) (J.env0.make C us []) bb rr q0) fun out s2 hq => ?_))
  cases out with
  | error er => exact hx pins _ _ er s2 J hq
  | ok fl =>
    cases fl with
    | ret u =>
      obtain ⟨v, H3, I3, rv, rfl, q3⟩ := J.after hq
      exact ⟨rv, ⟨V.ref (s.heap.objs.size + 1), H3, I3, rfl, q3⟩⟩
    | next => exact False.elim hq
    | brk => exact False.elim hq
    | cont => exact False.elim hq
def tMkS (C : Addr) (sp : Sp) (E : St → XK) (t : TA) : TE := fun σ H Q => t σ H fun vs H1 => ∀ x dx, H1 x = none → H1 dx = none → dx ≠ x → sp (.ref x :: vs) (upd (upd H1 dx (.own x)) x (.ins C dx [])) (fun v H2 => v = .non ∧ Q (.ref x) H2) (E σ)
theorem pe_mkS {C f : Addr} {k : Nat} {fd : FuncData} {ps : List Str} {sp : Sp} {E : St → XK} {x : Str} {p : Pos} {es : List Expr} {t : TA} (M : Mk X.K C f) (F : FnOk X.prog X.w X.K X.mg X.base (L2.CX X.prog X.w) k f fd ps sp) (hr : Room (k + 1) X.A) (hg : Gl X x) (hm : X.mg x = some (.ref C)) (hb : Binds X.K fd ps [])
    (hx : ∀ σ, PassesAt (L2.CX X.prog X.w) X σ (E σ)) (ha : PA X (e :: es) t) (hdb : (x == ("__debug__" : Str)) = false) (he : starEach (e :: es) X.env = (false, eval e X.env) :: starEach es X.env) (hpl : (backTo pos (starEach es X.env)).any (·.1) = false) :
    PE X (.Call (.Name x p) (e :: es) [] pos) (tMkS C sp E t) := ⟨fun pins s σ H Q I h =>
  wpAny_Call_Name_kw (ld_glob I hg hm (PySem.W.callWith_K (h₀ := X.base) I.ok.mod.kin M.kp (thn (ha.run pos pins s σ H _ I h) fun us s1 ⟨vs, H1, I1, r, q⟩ => ⟨I1.kIn, mk_call M F hr hb (hx σ) I1 r q⟩) he hpl) hdb)⟩
def okGroup : D → Bool
  | .int i => decide (0 ≤ i) && decide (i ≤ 11)
  | _ => false
def rowOk : D → Bool
  | .tup xs => decide (1 ≤ xs.length) && (decide (xs.length ≤ 12) && xs.all okGroup)
  | _ => false
/-- no thing of the store, no own class within -/
def plainD : D → Bool
  | .tup xs => xs.all fun d => d.ty.isSome
  | .etp _ => false
  | d => d.ty.isSome
def rowN (g : D) (m : List Ob) : Res (D × List Ob) := if rowOk g = true then .ok (.row g, m) else if plainD g = true then .err ⟨"BadGroups", []⟩ m else .bad
/-- what the class's own __init__ must do -/
def RowInit (init : FDen) : Prop := ∀ (g : D) (m : List Ob), (rowOk g = true → init [.obj m.length, g] (m ++ [.ins "Row" []]) = .ok (.non, m ++ [.ins "Row" [("held", g)]])) ∧
  (rowOk g = false → plainD g = true → init [.obj m.length, g] (m ++ [.ins "Row" []]) = .err ⟨"BadGroups", []⟩ (m ++ [.ins "Row" []]))
def dMkRow (da : Den D) : Den D := fun ρ m => (da ρ m).bind fun x => rowN x.1 x.2
theorem pd_mkRow {f : Addr} {k : Nat} {init : FDen} {da : Den D} {p : Pos} (R : RowK X.K X.mg) (M : Mk X.K (cA X.K "Row") f) (F : Ff X.prog X.w X.K X.mg X.base f k 2 init) (hi : RowInit init) (hr : Room (k + 1) X.A) (tk : Takes X RW) (hg : Gl X "Row") (ha : PE X e (tX X.K X.mg RW da (pVal X.K X.mg)))
    (he : starEach [e] X.env = (false, eval e X.env) :: starEach [] X.env := by rfl) (hpl : (backTo pos (starEach [] X.env)).any (·.1) = false := by rfl) :
    PE X (.Call (.Name "Row" p) [e] [] pos) (tX X.K X.mg RW (dMkRow da) (pVal X.K X.mg)) := by
  obtain ⟨fd, ps, F, hbn⟩ := F.ex
  refine PE.imp (pe_mkS (E := WE RW) M F hr hg R.mgC hbn (fun σ => passAt tk σ) (pa_cons ha pa_nil he) (by decide) he hpl) fun σ H Q q => tX.imp q fun B F0 z ow ρ m S h => Rem.step pVal.pm h fun d m1 B1 z1 ow1 v H1 hB hz S1 pd h1 => ?_
  intro x dx hx hdx hne
  have hx2 : upd H1 dx (.own x) x = none := by rw [upd_ne (Ne.symm hne)]; exact hx
  obtain ⟨ow2, S2⟩ := (S1.alloc hdx (.own x)).obNew hx2 (u := .ins (cA X.K "Row") dx []) (o := .ins "Row" []) fun ow' w => ⟨x, dx, _, [], rfl, R.mgC, upd_same, .nil, w⟩
  have hle1 : z1.le ⟨z1.F, z1.As ++ [[x]]⟩ := ⟨Same.refl _, _, rfl⟩
  have pd : Rep X.K X.mg z1 d v := pd
  have ro : Rep X.K X.mg ⟨z1.F, z1.As ++ [[x]]⟩ (.obj m1.length) (.ref x) := rep_obj.mpr ⟨x, [], rfl, by
    show (z1.As ++ [[x]])[m1.length]? = _
    rw [← S1.ol, List.getElem?_append_right (Nat.le_refl _), Nat.sub_self]
    rfl⟩
  have asEq : ∀ {z2 : Fz} {o : Ob} {ow3 : Own} {H3 : Hp}, Fz.le ⟨z1.F, z1.As ++ [[x]]⟩ z2 → StOk X.K X.mg B1 F0 z2 ow3 ρ (m1 ++ [o]) σ H3 → z2.As = z1.As ++ [[x]] := fun {z2 o ow3 H3} hz2 S3 => by
    obtain ⟨_, r, er⟩ := hz2
    have := S3.ol
    rw [er, List.length_append, List.length_append, List.length_append, S1.ol] at this
    have : r = [] := List.length_eq_zero_iff.mp (by simpa using this)
    rw [er, this, List.append_nil]
  refine spF_of (ds := [.obj m1.length, d]) S2 (.cons ro (.cons (pd.le hle1) .nil)) rfl ?_
  have h1 : Rem X.K X.mg RW (rowN d m1) B1 F0 z1 ρ σ (pVal X.K X.mg) Q := h1
  obtain ⟨hi1, hi2⟩ := hi d m1
  cases hok : rowOk d with
  | true =>
    rw [hi1 hok]
    rw [show rowN d m1 = .ok (.row d, m1) from if_pos hok] at h1
    intro z2 ow3 w H3 hz2 S3 rv
    refine ⟨rep_non.mp rv, ?_⟩
    have hA := asEq hz2 S3
    have S4 := S1.takeLast hA (S3 : StOk X.K X.mg B1 F0 z2 ow3 ρ (m1 ++ [Ob.ins "Row" [("held", d)]]) σ H3)
    obtain ⟨a, dx', C, vs, hA2, hC, hH, rvs, wa⟩ := S3.insAt (n := m1.length) (c := "Row") (fs := [("held", d)]) (by rw [List.getElem?_append_right (Nat.le_refl _), Nat.sub_self]; rfl)
    rw [hA, ← S1.ol, List.getElem?_append_right (Nat.le_refl _), Nat.sub_self] at hA2
    cases hA2
    rw [R.mgC] at hC
    cases hC
    obtain ⟨wv, ws, rfl, r1, r2⟩ := Reps.uncons rvs
    cases r2.nil_of
    obtain ⟨wF, wB, _⟩ := S3.ow x _ wa
    have S5 := S4.freeze hH wF wB (by show (if _ then _ else _) = _; rw [wa, if_pos rfl])
    have hle : z1.le ⟨upd z2.F x (.ins (cA X.K "Row") dx' (([("held", d)].map (·.1)).zip [wv])), z1.As⟩ := ⟨(hz2.1 : Same z1.F z2.F).trans (same_upd wF), [], (List.append_nil _).symm⟩
    refine h1 B1 _ _ (.ref x) H3 (Same.refl _) hle S5 ?_
    show Rep _ _ _ (.row d) (.ref x)
    simp only [Rep]
    refine ⟨x, dx', _, wv, rfl, R.mgC, upd_same, ?_⟩
    exact Rep.back (z1 := z1) (z2 := z2) (z3 := ⟨upd z2.F x (.ins (cA X.K "Row") dx' (([("held", d)].map (·.1)).zip [wv])), z1.As⟩) (same_upd wF) rfl ⟨_, hA⟩ pd r1
  | false =>
    rw [show rowN d m1 = if plainD d = true then .err ⟨"BadGroups", []⟩ m1 else .bad from if_neg (by rw [hok]; simp)] at h1
    cases hp : plainD d with
    | false => rw [hp] at h1; exact h1.elim
    | true =>
      rw [hi2 hok hp]
      rw [hp, if_pos rfl] at h1
      intro z2 ow3 cv dd H3 hz2 S3 ex
      have hA := asEq hz2 S3
      have S4 := S1.takeLast hA (S3 : StOk X.K X.mg B1 F0 z2 ow3 ρ (m1 ++ [Ob.ins "Row" []]) σ H3)
      exact h1 ⟨z2.F, z1.As⟩ _ cv dd H3 ⟨hz2.1, [], (List.append_nil _).symm⟩ S4 ex
end
end PD
/-! enumerate(tuple). -/
namespace PySem
open PySem PySem.W
theorem meets_enum1 {v : Value} {o : Obj} {Hs : Heap → Prop} (B : Begins v o Hs) : Meets (Builtin.«enumerate.__new__» ⟨[.type "enumerate", v], []⟩) (fun _ R s => Hs s.heap ∧
    R (.ok (.ret (.ref (s.heap.push o).objs.size))) { s with heap := (s.heap.push o).push { cls := .type "enumerate", data := .fields #[.none, .bool false, .ref s.heap.objs.size, rawInt 0, .none, .none] } }) :=
  .of_wp fun prog w A R s h => by
    obtain ⟨hp, g, d, tk, os⟩ := s; obtain ⟨h1, h⟩ := h
    have hsub := sub_enumerate
    have q1 : ∀ {A' : Around} {E : Value → Shared → Prop} {Q : Value → Shared → Prop}, Q (.ref hp.objs.size) ⟨hp.push o, g, d, tk, os⟩ → wpAny (model prog w) A' (pyIter v) Q E ⟨hp, g, d, tk, os⟩ := fun q => B.iter _ _ _ _ _ _ h1 q
    wp_walk using q1
    refine wpAny_stack_any fun st => wpAny_pure ?_
    split <;> first
      | (rename_i c _ _ _ _ _; cases (c == Value.type "enumerate") <;> (wp_walk using q1; exact ⟨_, rfl, h⟩))
      | (wp_walk using q1; exact ⟨_, rfl, h⟩)
theorem enum1_begins {prog : Program} {w : World} {A : Around} {E : Value → Shared → Prop} {s : Shared} {v : Value} {o : Obj} {Hs : Heap → Prop} {Q : Value → Shared → Prop} (B : Begins v o Hs) (h1 : Hs s.heap)
    (h : ∀ h', IsEnum h' (s.heap.objs.size + 1) s.heap.objs.size 0 .none → h'.get? s.heap.objs.size = some o → (∀ b o, s.heap.get? b = some o → h'.get? b = some o) → Q (.ref (s.heap.objs.size + 1)) { s with heap := h' }) :
    wpAny (model prog w) A (call (.type "enumerate") [v]) Q E s := by
  refine callType_new F.called_enumerate (by decide) (F.typeCall_enumerate_1 _) (F.newCall_enumerate_1 _) (fun obj => F.args_object_init_2 obj _) F.entry_enumerate_new (meets_enum1 B) ⟨h1, ?_⟩
  have hz : (s.heap.push o).objs.size = s.heap.objs.size + 1 := Heap.size_push ..
  show _ ∧ _; rw [hz]
  have q := Heap.get?_push_size (s.heap.push o) (o := { cls := .type "enumerate", data := .fields #[.none, .bool false, .ref s.heap.objs.size, rawInt 0, .none, .none] }) rfl
  rw [hz] at q
  exact ⟨⟨_, q, rfl⟩, h _ q (Heap.get?_push_of_some _ (Heap.get?_push_size _ B.free)) fun b o x => Heap.get?_push_of_some _ (Heap.get?_push_of_some _ x)⟩
end PySem
namespace PD
open PySem PySem.Spec PyProof.Rows L2
def Itet (K : PySem.W.Frag) (a : Addr) : It :=
  ⟨fun i H => ∃ (xs : List V) (x : V), SqT K H a xs ∧ xs[i]? = some x, fun i H v H' => ∃ T x, v = .ref T ∧ H T = none ∧ H' = upd H T (.tup [.int (i : Nat), x]) ∧ ∀ xs, SqT K H a xs → xs[i]? = some x, fun i H => ∃ xs : List V, SqT K H a xs ∧ xs.length ≤ i⟩
theorem turn_enumT {P : Program} {w : World} {K : PySem.W.Frag} {elts : List Expr} {kk : Nat} {tpos : Pos} (a e it : Addr) :
    Turn P w K (.Tuple elts kk tpos) (Itet K a) [e, it] e (fun i h => (∃ old, PySem.IsEnum h e it (((i : Nat) : Int)) old) ∧ (h.IsTupleIter it a i ∧ e ≠ it)) where
  mem := by simp
  obj := fun i h st b hb => by
    obtain ⟨⟨old, he⟩, ⟨o, ho, hc, hd⟩, _⟩ := st
    have q : b = e ∨ b = it := by simpa using hb
    rcases q with rfl | rfl
    · exact ⟨_, he, fun v q => nomatch q⟩
    · exact ⟨o, ho, fun v q => by rw [hd] at q; cases q⟩
  keep := fun i h h' st k => by
    obtain ⟨⟨old, he⟩, hi, hne⟩ := st
    exact ⟨⟨old, k e (by simp) _ he⟩, hi.at fun o q => k it (by simp) o q, hne⟩
  item := by
    intro X hP hw hK hc i pins s σ H E I hf st hg
    subst hP hw hK
    obtain ⟨⟨old, he⟩, hit, hne⟩ := st
    obtain ⟨xs, x, hq, hx⟩ := hg
    obtain ⟨its, rv, p, hz⟩ := I.tuple hq
    obtain ⟨u, hu, ru⟩ := rv.get hx
    have hel : e < s.heap.objs.size := Heap.lt_size he
    have hil : it < s.heap.objs.size := by obtain ⟨_, q, _⟩ := hit; exact Heap.lt_size q
    have hea : e ≠ a := fun q => by
      obtain ⟨o, ho, hcl, _⟩ := p
      rw [← q, he] at ho
      cases ho
      simp at hcl
    have hia : a ≠ it := fun q => by
      obtain ⟨o, ho, hcl, _⟩ := p
      obtain ⟨o', ho', hcl', _⟩ := hit
      rw [q, ho'] at ho
      cases ho
      rw [hcl] at hcl'
      simp at hcl'
    have hsz : i < its.toArray.size := by
      obtain ⟨hl, _⟩ := List.getElem?_eq_some_iff.mp hu
      simpa using hl
    refine PySem.wpAny_pyNext_enum_itemC (PySem.Draws.tuple (show X.A.in1.handled = none from I.ok.hd hc) it a hia its.toArray) he ⟨hit, p⟩ hsz hne (by simp [hne, hea]) fun y h' tk hPy ho hst' hT hs1 hk => ?_
    have ey : y = u := by
      have q1 : its.toArray[i]? = some y := hPy
      rw [List.getElem?_toArray, hu] at q1
      exact (Option.some.inj q1).symm
    subst ey
    refine ⟨_, rfl, wpAny_letOwnedTupleGo_enum (s := { s with heap := h', toks := tk + 1 }) ho fun h'' he' sb => ?_⟩
    have hT2 : h''.get? s.heap.objs.size = some { cls := .type "tuple", data := .seq #[.int i tk, y] } := (sb.2 _ (Nat.ne_of_gt hel)).trans hT
    have new : ObjOk X.prog X.w (upd H s.heap.objs.size (.tup [.int (i : Nat), x])) h'' s.heap.objs.size (.tup [.int (i : Nat), x]) := ⟨by show 2 ≤ sizeLine; decide, [.int i tk, y], .cons ⟨_, rfl⟩ (.cons ru .nil), ⟨_, hT2, rfl, _, rfl⟩⟩
    have I1 : Inv X pins σ (upd H s.heap.objs.size (.tup [.int (i : Nat), x])) { s with heap := h'', toks := tk + 1 } :=
      I.turnedNew (ch := [e, it]) (fun b ob hb q => by
        have b1 : b ≠ e := fun z => hb (by simp [z])
        have b2 : b ≠ it := fun z => hb (by simp [z])
        exact (sb.2 b b1).trans (hk b ob b1 b2 q)) hf (Nat.le_refl _) new
    refine ⟨.ref s.heap.objs.size, _, I1, rfl, ⟨_, x, rfl, I.hok.fresh (Nat.le_refl _), rfl, fun ys hy => by rw [I.tuple_inj hy hq]; exact hx⟩, ⟨⟨y, ?_⟩, hst'.1.at fun o q => (sb.2 it (Ne.symm hne)).trans q, hne⟩, fun b hb => ?_⟩
    · rw [show ((i + 1 : Nat) : Int) = (i : Int) + 1 by omega]; exact he'
    · have q : b = e ∨ b = it := by simpa using hb
      have hb' : b < s.heap.objs.size := by rcases q with rfl | rfl <;> assumption
      rw [upd_ne (Nat.ne_of_lt hb')]
      exact (hf b hb).1
  done := by
    intro X hP hw hK hc i pins s σ H E I hf st hg
    subst hP hw hK
    obtain ⟨⟨old, he⟩, hit, hne⟩ := st
    obtain ⟨xs, hq, hx⟩ := hg
    obtain ⟨its, rv, p, hz⟩ := I.tuple hq
    obtain ⟨f0, f1, f2, f3, f4, f5⟩ := hf it (by simp)
    have hl := rv.length
    have hia : a ≠ it := fun q => by
      obtain ⟨o, ho, hcl, _⟩ := p
      obtain ⟨o', ho', hcl', _⟩ := hit
      rw [q, ho'] at ho
      cases ho
      rw [hcl] at hcl'
      simp at hcl'
    have hend : ∀ (s' : Shared) (Q' : Value → Shared → Prop) (E' : Value → Shared → Prop), (s'.heap.IsTupleIter it a i ∧ s'.heap.IsTuple a its.toArray) →
        (∀ h' e, Heap.ExtBut it s'.heap h' → (∃ o, h'.get? e = some o ∧ o.cls = .type "StopIteration") → E' (.ref e) { s' with heap := h' }) → wpAny (model X.prog X.w) X.A.in1 (Builtin.SmallTypes.nextOf (.ref it)) Q' E' s' :=
      fun s' Q' E' st hE => PySem.wpAny_nextOf_tuple_end (show X.A.in1.handled = none from I.ok.hd hc) st.1 st.2 (by simp; omega) hE
    have D : PySem.Draws X.prog X.w X.A.in1 it [it, a] i (fun _ _ => True) (fun j h => j = i ∧ (h.IsTupleIter it a i ∧ h.IsTuple a its.toArray)) := {
      live := fun _ _ st => let ⟨o, ho, _⟩ := st.2.1; ⟨o, ho⟩
      frame := fun _ _ _ st hk => ⟨st.1, st.2.1.at fun o e => hk it (by simp) o e, st.2.2.at fun o e => hk a (by simp) o e⟩
      item := fun j s' Q' E' hj st hQ => absurd st.1 (Nat.ne_of_lt hj)
      done := fun s' Q' E' st hE => hend s' Q' E' st.2 hE }
    exact PySem.wpAny_pyNext_enum_endD D he ⟨rfl, hit, p⟩ fun h' eb => ⟨rfl, I.turned (t' := s.toks) (fun b o hb e => eb b o hb e) f0 f1 f3 f4 f5⟩
  self := fun A i s Q E st h => wpAny_pyIter_enum st.1.choose_spec h
def iEnumT (K : PySem.W.Frag) (ta : TA) : TI := fun σ H R => ta σ H fun vs H1 => ∃ a xs, vs = [.ref a] ∧ SqT K H1 a xs ∧ R (Itet K a) H1
theorem pi_enumT {X : Cx} {e : Expr} {ta : TA} {p pos tpos : Pos} {elts : List Expr} {kk : Nat} (hg : Gl X "enumerate") (hm : X.mg "enumerate" = none) (ha : PA X [e] ta) (hs : starEach [e] X.env = [(false, eval e X.env)] := by rfl) :
    PI X (.Tuple elts kk tpos) (.Call (.Name "enumerate" p) [e] [] pos) (iEnumT X.K ta) := by
  refine ⟨fun pins s σ H R I h => Call_ (ld_blt I hg hm boot_enumerate (PyProof.Rows.callWith_type1 (thn (ha.run pos pins s σ H _ I h) fun us s1 ⟨vs, H1, I1, r1, q1⟩ => ?_) hs rfl))⟩
  obtain ⟨a, xs, rfl, hq, q⟩ := q1
  obtain ⟨u, rfl, ru⟩ := r1.one
  cases (show u = Value.ref a from ru)
  obtain ⟨its, rv, p', hz⟩ := I1.tuple hq
  refine PySem.enum1_begins (PySem.begins_tuple a its.toArray) p' fun h' he ho hk => wpAny_pyIter_enum he ?_
  have I2 : Inv X pins σ H1 { s1 with heap := h' } := I1.kept (t' := s1.toks) hk
  have hit : h'.IsTupleIter s1.heap.objs.size a 0 := ⟨_, ho, rfl, rfl⟩
  refine ⟨s1.heap.objs.size + 1, [s1.heap.objs.size + 1, s1.heap.objs.size], _, _, H1, rfl, I2, turn_enumT a _ _, ⟨⟨.none, he⟩, hit, Nat.succ_ne_self _⟩, fun b hb => ?_, q⟩
  have hle : s1.heap.objs.size ≤ b := by
    have e' : b = s1.heap.objs.size + 1 ∨ b = s1.heap.objs.size := by simpa using hb
    rcases e' with q | q <;> rw [q]
    · exact Nat.le_succ _
    · exact Nat.le_refl _
  exact I1.fpOk hle (I1.hok.fresh hle)
/-- for i, x in enumerate(tuple) -/
def dEnumT (da : Den D) : Den (List D) := fun ρ m => (da ρ m).bind fun x => match x.1 with
  | .tup xs => .ok (enumL 0 xs, x.2)
  | _ => .bad
theorem yields_enumT {K : PySem.W.Frag} {mg : Str → Option Value} {z : Fz} {a : Addr} {xs : List V} {ds : List D} (h : SqT K z.F a xs) (r : Reps K mg z ds xs) : Yields K mg (Itet K a) z (enumL 0 ds) := by
  intro B F0 z' ow ρ m σ H i hz S
  have hH : SqT K H a xs := same_tup S.fh (same_tup hz.1 h)
  refine ⟨fun e => ⟨xs, hH, by rw [← r.len, e, enumL_len]; exact Nat.le_refl _⟩, fun d hd => ?_⟩
  rw [enumL_get] at hd
  cases hq : ds[i]? with
  | none => rw [hq] at hd; cases hd
  | some d0 =>
    rw [hq] at hd
    cases hd
    obtain ⟨v, hv, rv⟩ := r.get hq
    refine ⟨⟨xs, v, hH, hv⟩, fun x H' y => ?_⟩
    obtain ⟨T, x0, rfl, hT, rfl, y⟩ := y
    have e := (y xs hH).symm.trans hv
    cases e
    exact ⟨_, S.leF hT _, S.allocF hT _, rep_tup_new (S.new_none hT).1 (.cons (rep_int.mpr (by rw [Nat.zero_add])) (.cons (rv.le hz) .nil))⟩
theorem it_enumT {X : Cx} {e : Expr} {da : Den D} {RW : WX} {p pos tpos : Pos} {elts : List Expr} {kk : Nat} (hg : Gl X "enumerate") (hm : X.mg "enumerate" = none) (ha : PE X e (tX X.K X.mg RW da (pVal X.K X.mg))) (hs : starEach [e] X.env = [(false, eval e X.env)] := by rfl) (hs2 : starEach [e] X.env = (false, eval e X.env) :: starEach [] X.env := by rfl) :
    PI X (.Tuple elts kk tpos) (.Call (.Name "enumerate" p) [e] [] pos) (tX X.K X.mg RW (dEnumT da) (pIt X.K X.mg)) :=
  PI.imp (pi_enumT hg hm (pa_cons ha pa_nil hs2) hs) fun σ H Q q => by
    refine tX.imp q fun B F0 z ow ρ m S h => Rem.step pIt.pm h fun d m1 B1 z1 ow1 v H1 hB hz S1 p h1 => ?_
    cases d with
    | tup ds =>
      obtain ⟨a, xs, rfl, e1, r⟩ := (by simpa only [Rep] using (show Rep X.K X.mg z1 (.tup ds) v from p) : ∃ a xs, v = .ref a ∧ SqT X.K z1.F a xs ∧ Reps X.K X.mg z1 ds xs)
      exact ⟨a, xs, rfl, same_tup S1.fh e1, Rem.here (d := enumL 0 ds) h1 S1 (yields_enumT e1 r)⟩
    | _ => exact h1.elim
end PD
/-! Tuples known to have no dict: made, joined, cut, counted in, searched. -/
namespace PD
open PySem PySem.Spec PyProof.Rows L2
section
variable {K : PySem.W.Frag} {mg : Str → Option Value} {z : Fz}
theorem rep_etp {ds : List D} {v : V} : Rep K mg z (.etp ds) v ↔ ∃ a o xs, v = .ref a ∧ z.F a = some (.frz o (.tup xs)) ∧ o.dict = none ∧ Reps K mg z ds xs := by simp only [Rep]
theorem rep_etp_tup {ds : List D} {v : V} (h : Rep K mg z (.etp ds) v) : Rep K mg z (.tup ds) v := by
  obtain ⟨a, o, xs, rfl, h1, _, h2⟩ := rep_etp.mp h
  simp only [Rep]
  exact ⟨a, xs, rfl, .inl (.inr ⟨o, h1⟩), h2⟩
theorem Rem.newEtp {RW : WX} {B F0 : Hp} {ow : Own} {ρ : List Slot} {m : List Ob} {σ : St} {H : Hp} {Q : VK} {ds : List D} {xs : List V} {p : Addr} {ob : Obj} (h : Rem K mg RW (.ok (.etp ds, m)) B F0 z ρ σ (pVal K mg) Q) (S : StOk K mg B F0 z ow ρ m σ H) (r : Reps K mg z ds xs) (hd : ob.dict = none) (hp : H p = none) : Q (.ref p) (upd H p (.frz ob (.tup xs))) :=
  h B _ ow _ _ (Same.refl _) (S.leF hp _) (S.allocF hp _) (rep_etp.mpr ⟨p, ob, xs, rfl, upd_same, hd, r.le (Fz.le_upd (S.new_none hp).1)⟩)
end
section
variable {X : Cx} {RW : WX} {e : Expr} {pos : Pos}
/-- the place p, new: a tuple of which all is known -/
def NewE (xs : List V) (H : Hp) (Q : VK) : Prop := ∀ (p : Addr) (ob : Obj), H p = none → ob.dict = none → Q (.ref p) (upd H p (.frz ob (.tup xs)))
theorem laidE {pins : List (Addr × Obj)} {s : Shared} {σ : St} {H : Hp} {xs : List V} {us : List Value} {Q : VK} {tk : Nat} (I : Inv X pins σ H s) (hz : xs.length ≤ sizeLine) (r : Vals xs us) (q : NewE xs H Q) :
    EP X pins σ Q (.ref s.heap.objs.size) { s with heap := s.heap.push { cls := .type "tuple", data := .seq us.toArray }, toks := tk } :=
  ⟨.ref s.heap.objs.size, _, I.laid (t' := tk) (fun b u e => Heap.get?_push_of_some _ e) (Nat.le_refl _) (show ObjOk X.prog X.w _ _ _ (.frz { cls := .type "tuple", data := .seq us.toArray } (.tup xs)) from ⟨Heap.get?_push_size _ rfl, hz, us, r, ⟨_, Heap.get?_push_size _ rfl, rfl, _, rfl⟩⟩), rfl, q _ _ (I.hok.fresh (Nat.le_refl _)) rfl⟩
def tTupE (t : TA) : TE := fun σ H Q => t σ H fun xs H1 => xs.length ≤ sizeLine ∧ NewE xs H1 Q
theorem pe_tupE {es : List Expr} {t : TA} {x1} (h : PA X es t) : PE X (.Tuple es x1 pos) (tTupE t) := ⟨fun pins s σ H Q I hq =>
  wpAny_Tuple_spliced (thn (h.run pos pins s σ H _ I hq) fun us s1 ⟨xs, H1, I1, r, z, q⟩ => ⟨by rw [← r.length]; exact z, laidE (tk := s1.toks) I1 z r q⟩)⟩
def dTupE (da : Den (List D)) : Den D := fun ρ m => (da ρ m).bind fun x => if x.1.length ≤ sizeLine then .ok (.etp x.1, x.2) else .bad
theorem pd_tupE {es : List Expr} {da : Den (List D)} {x1} (ha : PA X es (tX X.K X.mg RW da (pVals X.K X.mg))) : PE X (.Tuple es x1 pos) (tX X.K X.mg RW (dTupE da) (pVal X.K X.mg)) :=
  PE.imp (pe_tupE ha) fun σ H Q q => tX.imp q fun B F0 z ow ρ m S h => Rem.step pVal.pm h fun x m1 B1 z1 ow1 v H1 hB hz S1 px h1 => by
    dsimp only at h1
    split at h1
    · rename_i hl
      exact ⟨by rw [← Reps.len px]; exact hl, fun p ob hp hd => h1.newEtp S1 px hd hp⟩
    · exact h1.elim
/-! ### as any tuple -/
def plainT : D → Res D
  | .etp xs => .ok (.tup xs)
  | .tup xs => .ok (.tup xs)
  | _ => .bad
theorem pd_plain {de : Den D} (h : PE X e (tX X.K X.mg RW de (pVal X.K X.mg))) : PE X e (tX X.K X.mg RW (dUn plainT de) (pVal X.K X.mg)) :=
  PE.imp h fun σ H Q q => tX.imp q fun B F0 z ow ρ m S r => by
    unfold dUn at r
    cases hd : de ρ m with
    | ok a =>
      obtain ⟨d, m'⟩ := a
      rw [hd] at r
      intro B' z' ow' v H' hB hz S' p
      cases d with
      | etp xs => exact r B' z' ow' v H' hB hz S' (rep_etp_tup p)
      | tup xs => exact r B' z' ow' v H' hB hz S' p
      | _ => exact r.elim
    | err x m' => rw [hd] at r; exact r
    | bad => rw [hd] at r; exact r
/-! ### + -/
def rCatE (K : PySem.W.Frag) : R2 := fun x y H Q => ∃ a b xs ys, x = .ref a ∧ y = .ref b ∧ SqT K H a xs ∧ SqT K H b ys ∧ xs.length + ys.length ≤ sizeLine ∧
  (xs = [] → Q (.ref b) H) ∧ (xs ≠ [] → ys = [] → Q (.ref a) H) ∧ (xs ≠ [] → ys ≠ [] → NewE (xs ++ ys) H Q)
theorem op_catE : OpR X (binaryOp .Add) (rCatE X.K) := by
  intro pins s σ H x y v u Q I rx ry h
  obtain ⟨a, b, xs, ys, rfl, rfl, ha, hb, hz, q0, q1, q2⟩ := h
  cases (show v = Value.ref a from rx)
  cases (show u = Value.ref b from ry)
  obtain ⟨us, r1, p1, _⟩ := I.tuple ha
  obtain ⟨ws, r2, p2, _⟩ := I.tuple hb
  by_cases hx : xs = []
  · subst hx
    have e0 : us = [] := r1.nil_iff.mpr rfl
    subst e0
    exact cat_tup0 p1 p2 ⟨.ref b, H, I, rfl, q0 rfl⟩
  · refine HT.cat_tup p1 p2 (fun z => hx (r1.nil_iff.mp z)) (fun z => ⟨.ref a, H, I, rfl, q1 hx (r2.nil_iff.mp z)⟩) (fun z => ?_) (by rw [← r1.length, ← r2.length]; exact hz)
    exact laidE (tk := s.toks) I (by rw [List.length_append]; exact hz) (r1.append r2) (q2 hx fun w => z (r2.nil_iff.mpr w))
def catE : D → D → Res D
  | .etp a, .etp b => if a.length + b.length ≤ sizeLine then .ok (.etp (a ++ b)) else .bad
  | _, _ => .bad
theorem look_etp {K : PySem.W.Frag} {mg : Str → Option Value} {z : Fz} {B B' F0 : Hp} {ow : Own} {ρ : List Slot} {m : List Ob} {σ : St} {H : Hp} {ds : List D} {v : V} (S : StOk K mg B F0 z ow ρ m σ H) (h : pLook K mg B' B z ρ σ (.etp ds) v) :
    ∃ a o xs, v = .ref a ∧ H a = some (.frz o (.tup xs)) ∧ o.dict = none ∧ Reps K mg z ds xs ∧ Rep K mg z (.etp ds) v := by
  have h := look_rep h (fun c => by cases c <;> simp [Cont.d])
  obtain ⟨a, o, xs, e, h1, h2, h3⟩ := rep_etp.mp h
  exact ⟨a, o, xs, e, S.fh _ _ h1, h2, h3, h⟩
theorem catE_r : BinR X (rCatE X.K) catE := by
  intro RW B F0 z ow ρ m σ H x y dx dy Q S px py h
  unfold catE at h
  split at h
  · rename_i as bs
    split at h
    · rename_i hz
      obtain ⟨a, o, xs, rfl, h1, d1, r1, rx⟩ := look_etp S px
      obtain ⟨b, o2, ys, rfl, h2, d2, r2, ry⟩ := look_etp S py
      refine ⟨a, b, xs, ys, rfl, rfl, .inl (.inr ⟨o, h1⟩), .inl (.inr ⟨o2, h2⟩), by rw [← r1.len, ← r2.len]; exact hz, fun e => ?_, fun e1 e2 => ?_, fun _ _ p ob hp hd => h.newEtp S (r1.append r2) hd hp⟩
      · subst e
        have e0 : as = [] := List.length_eq_zero_iff.mp (by simpa using r1.len)
        subst e0
        exact h.here S ry
      · subst e2
        have e0 : bs = [] := List.length_eq_zero_iff.mp (by simpa using r2.len)
        subst e0
        rw [List.append_nil] at h
        exact h.here S rx
    · exact h.elim
  · exact h.elim
/-! ### tuple(a list) -/
theorem call_tupE : CallR X (.type "tuple") (fun xs H Q => ∃ p ys, xs = [.ref p] ∧ SqL X.K H p ys ∧ NewE ys H Q) := by
  intro pins s σ H xs us Q I r h
  obtain ⟨p, ys, rfl, hq, q⟩ := h
  obtain ⟨u, rfl, ru⟩ := r.one
  cases (show u = Value.ref p from ru)
  obtain ⟨its, r', pl, hz⟩ := I.list hq
  have hlen := r'.length
  refine call_tuple_list pl.isList (fun h' kp => ?_) (by rw [List.size_toArray, ← hlen]; exact hz)
  have I1 : Inv X pins σ H { s with heap := h' } := I.kept (t' := s.toks) kp
  exact laidE (tk := s.toks) I1 hz r' q
def tupleE : D → Res D
  | .lst xs => .ok (.etp xs)
  | _ => .bad
theorem tupleE_r : CbR X (fun xs H Q => ∃ p ys, xs = [.ref p] ∧ SqL X.K H p ys ∧ NewE ys H Q) (oneArg tupleE) := by
  intro RW B F0 z ow ρ m σ H vs ds Q S px h
  match ds, h with
  | [d], h =>
    obtain ⟨v, rfl, p⟩ := looks_one px
    cases d with
    | lst xs =>
      obtain ⟨a, ys, rfl, e, r⟩ := look_list S p
      exact ⟨a, ys, rfl, SqL.of e, fun l ob hl hd => Rem.newEtp (ds := xs) h S r hd hl⟩
    | _ => exact h.elim
  | [], h => exact h.elim
  | _ :: _ :: _, h => exact h.elim
/-! ### slices -/
def rSlE (K : PySem.W.Frag) : V → Option Int → Option Int → Hp → VK → Prop := fun x lo hi H Q => ∃ a xs, x = .ref a ∧ SqT K H a xs ∧ (HT.sIx xs.length 0 lo = 0 ∧ HT.sIx xs.length xs.length hi = xs.length → Q (.ref a) H) ∧
  (¬ (HT.sIx xs.length 0 lo = 0 ∧ HT.sIx xs.length xs.length hi = xs.length) → NewE (cutV xs lo hi) H Q)
theorem sl_tupE : SlR X (rSlE X.K) := by
  intro pins s σ H x v vl vu lo hi sl Q I rx hs pl pu h
  obtain ⟨a, xs, rfl, hx, q1, q2⟩ := h
  cases (show v = Value.ref a from rx)
  obtain ⟨its, r, ht, hz⟩ := I.tuple hx
  have hl : its.toArray.size = xs.length := by rw [List.size_toArray, r.length]
  refine ⟨"tuple", _, PyProof.Rows.slot_tuple_getitem.lookup, ht.typeIs, ?_⟩
  by_cases hw : HT.sIx xs.length 0 lo = 0 ∧ HT.sIx xs.length xs.length hi = xs.length
  · exact getItem_tuple_whole ht hs pl pu (by rw [hl]; exact hw) ⟨.ref a, H, I, rfl, q1 hw⟩
  · refine HT.getItem_tuple_cut ht hs pl pu (by rw [hl]; exact hw) ?_ (by rw [hl]; exact hz)
    rw [hl]
    exact laidE (tk := s.toks) I (Nat.le_trans (cutV_length xs lo hi) hz) ((r.drop _).take _) (q2 hw)
def slE : D → Option Int → Option Int → Res D
  | .etp xs, lo, hi => .ok (.etp (cut xs lo hi))
  | _, _, _ => .bad
theorem pd_slE {a : Expr} {da : Den D} {dl dh : Den (Option Int)} {lo hi : Option Expr} {p2 : Pos} (ha : PE X a (tX X.K X.mg RW da (pLook X.K X.mg))) (hl : PO X lo (tX X.K X.mg RW dl pOpt)) (hh : PO X hi (tX X.K X.mg RW dh pOpt)) :
    PE X (.Subscript a (.Slice lo hi none p2) pos) (tX X.K X.mg RW (dSl slE da dl dh) (pVal X.K X.mg)) := PE.imp (pe_slice sl_tupE ha hl hh) fun σ H Q q => by
  refine tX.imp q fun B F0 z ow ρ m S h => Rem.step pVal.pm h fun dx m1 B1 z1 ow1 x H1 hB hz S1 px h1 => ?_
  refine ⟨B1, F0, z1, ow1, ρ, m1, S1, Rem.step pVal.pm h1 fun l m2 B2 z2 ow2 y H2 hB2 hz2 S2 py h2 => ?_⟩
  refine ⟨B2, F0, z2, ow2, ρ, m2, S2, Rem.step pVal.pm h2 fun u m3 B3 z3 ow3 w H3 hB3 hz3 S3 pw h3 => ?_⟩
  cases (show y = l from py)
  cases (show w = u from pw)
  cases dx with
  | etp ds =>
    obtain ⟨p, o, xs, rfl, e, hd, r, rx⟩ := look_etp S3 (look_mono (B' := B) (hB2.trans hB3) (hz2.trans hz3) px)
    refine ⟨p, xs, rfl, .inl (.inr ⟨o, e⟩), fun hw => ?_, fun _ p ob hp hd => Rem.newEtp (ds := cut ds l u) h3 S3 (reps_cut r) hd hp⟩
    rw [← r.len] at hw
    have h4 : Rem X.K X.mg RW (.ok (.etp (cut ds l u), m3)) B3 F0 z3 ρ σ (pVal X.K X.mg) Q := h3
    rw [cut_whole hw] at h4
    exact h4.here S3 rx
  | _ => exact h3.elim
/-! ### its methods -/
def tyE (x : V) (H : Hp) : Prop := ∃ p o xs, x = .ref p ∧ H p = some (.frz o (.tup xs)) ∧ o.dict = none
def tBME (r : V → List V → Hp → VK → Prop) (to : TE) (t : TA) : TE := fun σ H Q => to σ H fun x H1 => tyE x H1 ∧ t σ H1 fun xs H2 => r x xs H2 Q
theorem pe_bmE {id : String} {name : Str} {r : V → List V → Hp → VK → Prop} {o : Expr} {es : List Expr} {to : TE} {t : TA} {apos cpos : Pos} (slot : PySem.Slot "tuple" name id) (hty : typeOf (.builtin id) = pure (.type "method_descriptor")) (hm : MtR X id r) (ho : PE X o to) (ha : PA X (e :: es) t)
    (hbase : attributeBase o name X.env (eval o X.env) = eval o X.env)
    (hfew : ((backTo cpos (starEach (e :: es) X.env)).all (fun x => !x.1) && (backToKw cpos (keywordEach [] X.env)).all (fun x => x.1.isSome) && decide ((e :: es).length + ([] : List Keyword).length + (if ([] : List Keyword).isEmpty then 0 else 1) < 30)) = true)
    (hline : (apos.endLine == cpos.line) = true) (hs : starEach (e :: es) X.env = (false, eval e X.env) :: starEach es X.env) (hplain : (backTo cpos (starEach es X.env)).any (·.1) = false) : PE X (.Call (.Attribute o name apos) (e :: es) [] cpos) (tBME r to t) := by
  refine ⟨fun pins s σ H Q I h => wpAny_Call_method_late hbase hfew hline rfl (thn (ho.run pins s σ H _ I h) fun v s1 ⟨x, H1, I1, r1, ty, q1⟩ => ?_)⟩
  obtain ⟨p, ob, xs, rfl, hp, hd⟩ := ty
  cases (show v = Value.ref p from r1)
  obtain ⟨hob, _, its, rv, o2, ho2, hc, _⟩ := (show ObjOk X.prog X.w H1 s1.heap p (.frz ob (.tup xs)) from I1.hok p _ hp)
  refine ⟨"tuple", id, PySem.F.plainAttrs_tuple, slot, hty, ⟨o2, ho2, hc⟩, fun a e => ?_, ?_⟩
  · cases e
    exact ⟨ob, hob, hd⟩
  · have hA := ha.run cpos pins s1 σ H1 _ I1 q1
    rw [hs] at hA ⊢
    refine Calls.callWith_builtin (by show (false || (backTo cpos (starEach es X.env)).any (·.1)) = false; rw [hplain]; rfl) (Calls.evalArgs_plain (thn hA fun us s2 ⟨vs, H2, I2, r2, q2⟩ => ?_))
    exact hm pins s2 σ H2 (.ref p) vs _ us Q I2 r1 r2 q2
def dMethE (g : D → List D → Res D) (de : Den D) (da : Den (List D)) : Den D := fun ρ m => (de ρ m).bind fun x => match x.1 with
  | .etp ds => (da ρ x.2).bind fun xs => (g (.etp ds) xs.1).bind fun d => .ok (d, xs.2)
  | _ => .bad
theorem pd_methE {id : String} {name : Str} {r : V → List V → Hp → VK → Prop} {g : D → List D → Res D} {o : Expr} {es : List Expr} {de : Den D} {da : Den (List D)} {apos cpos : Pos} (slot : PySem.Slot "tuple" name id) (hty : typeOf (.builtin id) = pure (.type "method_descriptor")) (hm : MtR X id r) (hg : MbR X r g)
    (ho : PE X o (tX X.K X.mg RW de (pLook X.K X.mg))) (ha : PA X (e :: es) (tX X.K X.mg RW da (pLooks X.K X.mg)))
    (hbase : attributeBase o name X.env (eval o X.env) = eval o X.env := by rfl)
    (hfew : ((backTo cpos (starEach (e :: es) X.env)).all (fun x => !x.1) && (backToKw cpos (keywordEach [] X.env)).all (fun x => x.1.isSome) && decide ((e :: es).length + ([] : List Keyword).length + (if ([] : List Keyword).isEmpty then 0 else 1) < 30)) = true := by rfl)
    (hline : (apos.endLine == cpos.line) = true := by rfl) (hs : starEach (e :: es) X.env = (false, eval e X.env) :: starEach es X.env := by rfl) (hplain : (backTo cpos (starEach es X.env)).any (·.1) = false := by rfl) :
    PE X (.Call (.Attribute o name apos) (e :: es) [] cpos) (tX X.K X.mg RW (dMethE g de da) (pVal X.K X.mg)) :=
  PE.imp (pe_bmE slot hty hm ho ha hbase hfew hline hs hplain) fun σ H Q q => tX.imp q fun B F0 z ow ρ m S h => Rem.step pVal.pm h fun d m1 B1 z1 ow1 v H1 hB hz S1 p h1 => by
    cases d with
    | etp ds =>
      obtain ⟨a, ob, xs, rfl, e1, hd, _⟩ := look_etp S1 p
      refine ⟨⟨a, ob, xs, rfl, e1, hd⟩, B1, F0, z1, ow1, ρ, m1, S1, Rem.step pVal.pm h1 fun ds2 m2 B2 z2 ow2 vs H2 hB2 hz2 S2 py h2 => ?_⟩
      exact hg S2 (look_mono hB2 hz2 p) py h2
    | _ => exact h1.elim
def rSrcE (K : PySem.W.Frag) (x : V) (xs : List V) (H : Hp) (k : PyData → List PyData → Prop) : Prop := ∃ (a : Addr) (y : V) (d : PyData) (ds : List PyData), x = V.ref a ∧ xs = [y] ∧ Dp K H (V.ref a) (.tuple ds) ∧ Dp K H y d ∧ SeqAt.shaped (.tuple ds) = true ∧ SeqAt.shaped d = true ∧ k d ds
theorem src_reads {pins : List (Addr × Obj)} {s : Shared} {σ : St} {H : Hp} {a : Addr} {y : V} {d : PyData} {ds : List PyData} {uy : Value} (hu : X.A.units + 65 < cLine) (I : Inv X pins σ H s) (ry : RelV y uy) (hl : Dp X.K H (V.ref a) (.tuple ds)) (hy : Dp X.K H y d) (sl : SeqAt.shaped (.tuple ds) = true) (sd : SeqAt.shaped d = true) :
    ∃ (its : List Value) (dd : Option Addr) (n : Nat) (sls : Array (Option Value)), s.heap.get? a = some { cls := .type "tuple", dict := dd, data := .seq its.toArray n, slots := sls } ∧ its.map (SeqAt.readOf s.heap) = ds ∧ (∀ u, u ∈ its.toArray → SeqAt.EqAt X.A.in1 s u uy (PyData.eqv (SeqAt.readOf s.heap u) d)) := by
  obtain ⟨bs, r1⟩ := Dp.reads I d y uy hy ry
  have hxs : PyData.canLayAll0 ds = true := SeqAt.canLay_of_shaped (shaped_lt.symm.trans sl)
  cases hl with
  | tup hs ha =>
    obtain ⟨its, rv, ⟨⟨cls, dd, data, sls⟩, ho, hc, n, hdt⟩, hlen⟩ := I.tuple hs
    simp only at hc hdt
    subst hc; subst hdt
    obtain ⟨as, h4⟩ := Dp.readsAll I ds _ its ha rv
    exact ⟨its, dd, n, sls, ho, SeqAt.readsAll_map ds its as hxs h4, SeqAt.items_eqAt (vs := its.toArray) (show ReadsAll s.heap its.toArray.toList ds as from h4) r1 hxs (SeqAt.canLay_of_shaped sd) (room_in_shaped sd hu)⟩
theorem mt_tcount (hu : X.A.units + 65 < cLine) : MtR X "tuple.count" (fun x xs H Q => rSrcE X.K x xs H fun d ds => Q (.int ((ds.countP fun z => PyData.eqv z d : Nat) : Int)) H) := by
  intro pins s σ H x xs v us Q I rx rxs h
  obtain ⟨a, y, d, ds, rfl, rfl, hl, hy, sl, sd, q⟩ := h
  cases (show v = Value.ref a from rx)
  obtain ⟨uy, rfl, ry⟩ := rxs.one
  obtain ⟨its, dd, n, sls, ho, hmap, heq⟩ := src_reads hu I ry hl hy sl sd
  refine call_meets PySem.F.slot_tuple_count ⟨_, ho, rfl⟩ PySem.F.entry_tuple_count (PySem.F.args_tuple_count_2 _ _) (SeqAt.tuple_countAt a its.toArray n dd sls uy fun u => PyData.eqv (SeqAt.readOf s.heap u) d) ⟨ho, heq, ⟨.int _, H, I.tok _, ⟨s.toks, ?_⟩, q⟩⟩
  rw [← hmap, List.countP_map]
  rfl
theorem mt_tindex (hu : X.A.units + 65 < cLine) : MtR X "tuple.index" (fun x xs H Q => rSrcE X.K x xs H fun d ds => ∃ (j : Nat) (z : PyData), ds[j]? = some z ∧ PyData.eqv z d = true ∧ (∀ (m : Nat) (z' : PyData), m < j → ds[m]? = some z' → PyData.eqv z' d = false) ∧ Q (.int (j : Nat)) H) := by
  intro pins s σ H x xs v us Q I rx rxs h
  obtain ⟨a, y, d, ds, rfl, rfl, hl, hy, sl, sd, j, z, hz, hzj, hno, q⟩ := h
  cases (show v = Value.ref a from rx)
  obtain ⟨uy, rfl, ry⟩ := rxs.one
  obtain ⟨its, dd, n, sls, ho, hmap, heq⟩ := src_reads hu I ry hl hy sl sd
  have hn : its.length = ds.length := by rw [← hmap, List.length_map]
  obtain ⟨hjd, _⟩ := List.getElem?_eq_some_iff.mp hz
  have at_ : ∀ (k : Nat) (hk : k < its.toArray.size) (z' : PyData), ds[k]? = some z' → SeqAt.readOf s.heap its.toArray[k] = z' := fun k hk z' e => by
    have hk2 : k < its.length := by simpa using hk
    rw [← hmap, List.getElem?_map, List.getElem?_eq_getElem hk2] at e
    simpa using e
  refine call_meets PySem.F.slot_tuple_index ⟨_, ho, rfl⟩ PySem.F.entry_tuple_index (PySem.F.args_tuple_index_2 _ _) (TI.tuple_indexAt a its.toArray n dd sls uy (fun u => PyData.eqv (SeqAt.readOf s.heap u) d) j (by rw [List.size_toArray, hn]; exact hjd) ?_ ?_)
    ⟨ho, heq, ⟨.int _, H, I.tok _, ⟨_, rfl⟩, q⟩⟩
  · show PyData.eqv _ d = true
    rw [at_ j _ z hz]
    exact hzj
  · intro k hk hkj
    have hkd : k < ds.length := by rw [← hn]; simpa using hk
    show PyData.eqv _ d = false
    rw [at_ k hk _ (List.getElem?_eq_getElem hkd)]
    exact hno k _ hkj (List.getElem?_eq_getElem hkd)
def countD : D → List D → Res D
  | .etp xs, [d] => if (d.okp && (D.etp xs).okp) = true then .ok (.int (((D.pys xs).countP fun z => PyData.eqv z d.py : Nat) : Int)) else .bad
  | _, _ => .bad
def indexE : D → List D → Res D
  | .etp xs, [d] => if (d.okp && (D.etp xs).okp) = true then (match placeD d.py (D.pys xs) 0 with
    | some j => .ok (.int (j : Int))
    | none => .bad) else .bad
  | _, _ => .bad
theorem etp_py (xs : List D) : (D.etp xs).py = .tuple (D.pys xs) := by simp only [D.py]
theorem count_r : MbR X (fun x xs H Q => rSrcE X.K x xs H fun d ds => Q (.int ((ds.countP fun z => PyData.eqv z d : Nat) : Int)) H) countD := by
  intro RW B F0 z ow ρ m σ H x d vs ds Q S px ps h
  unfold countD at h
  split at h
  · rename_i xs d
    obtain ⟨v, rfl, py⟩ := looks_one ps
    split at h
    · rename_i hz
      rw [Bool.and_eq_true] at hz
      obtain ⟨a, ob, ys, rfl, e, _⟩ := look_etp S px
      have l1 := look_dp S px hz.2
      have l2 := hz.2
      unfold D.okp at l2
      rw [etp_py] at l1 l2
      exact ⟨a, v, d.py, D.pys xs, rfl, rfl, l1, look_dp S py hz.1, l2, hz.1, h.here S (rep_int.mpr rfl)⟩
    · exact h.elim
  · exact h.elim
theorem indexE_r : MbR X (fun x xs H Q => rSrcE X.K x xs H fun d ds => ∃ (j : Nat) (z : PyData), ds[j]? = some z ∧ PyData.eqv z d = true ∧ (∀ (m : Nat) (z' : PyData), m < j → ds[m]? = some z' → PyData.eqv z' d = false) ∧ Q (.int (j : Nat)) H) indexE := by
  intro RW B F0 z ow ρ m σ H x d vs ds Q S px ps h
  unfold indexE at h
  split at h
  · rename_i xs d
    obtain ⟨v, rfl, py⟩ := looks_one ps
    split at h
    · rename_i hz
      rw [Bool.and_eq_true] at hz
      cases hj : placeD d.py (D.pys xs) 0 with
      | none => rw [hj] at h; exact h.elim
      | some j =>
        rw [hj] at h
        obtain ⟨k, w, rfl, h2, h3, h4⟩ := placeD_spec _ _ _ _ hj
        obtain ⟨a, ob, ys, rfl, e, _⟩ := look_etp S px
        have l1 := look_dp S px hz.2
        have l2 := hz.2
        unfold D.okp at l2
        rw [etp_py] at l1 l2
        exact ⟨a, v, d.py, D.pys xs, rfl, rfl, l1, look_dp S py hz.1, l2, hz.1, k, w, h2, h3, h4, h.here S (rep_int.mpr (by rw [Nat.zero_add]))⟩
    · exact h.elim
  · exact h.elim
end
end PD
/-! Comprehensions of two walks; defs as values. -/
namespace PD
open PySem PySem.Spec PyProof.Rows L2
def compL2 (tg : Tg) (test : Den Bool) (di1 : Den (List D)) (vs1 : List Nat) (tg1 : Tg) (test1 : Den Bool) (elt : Den D) (ρ : List Slot) : List D → List Ob → Option (List D × List Ob)
  | [], m => some ([], m)
  | d :: ds, m => match tg d ρ with
    | none => none
    | some ρ1 => match test ρ1 m with
      | .ok (false, m1) => compL2 tg test di1 vs1 tg1 test1 elt ρ ds m1
      | .ok (true, m1) => (match di1 ρ1 m1 with
        | .ok (es, m2) => (match noOwn ρ1 vs1, compL tg1 test1 elt (wipeS ρ1 vs1) es m2 with
          | true, some (xs, m3) => (match compL2 tg test di1 vs1 tg1 test1 elt ρ ds m3 with
            | some (ys, m4) => some (xs ++ ys, m4)
            | none => none)
          | _, _ => none)
        | _ => none)
      | _ => none
def dComp2 (di : Den (List D)) (vs : List Nat) (tg : Tg) (test : Den Bool) (di1 : Den (List D)) (vs1 : List Nat) (tg1 : Tg) (test1 : Den Bool) (elt : Den D) : Den Cont := fun ρ m => (di ρ m).bind fun x => match noOwn ρ vs, compL2 tg test di1 vs1 tg1 test1 elt (wipeS ρ vs) x.1 x.2 with
  | true, some (xs, m') => if xs.length ≤ sizeLine then .ok (.lst xs, m') else .bad
  | _, _ => .bad
section
variable {K : PySem.W.Frag} {mg : Str → Option Value} {RW : WX}
theorem comp2_step {vs vs1 : List Nat} {di di1 : Den (List D)} {f f1 : Tg} {test test1 : Den Bool} {elt : Den D} (hf : TgOk vs f) (hf1 : TgOk vs1 f1) (σ : St) (H : Hp) (Q : VK) (q : tX K mg RW (dComp2 di vs f test di1 vs1 f1 test1 elt) (pNew K mg) σ H Q) :
    tLc2 (tX K mg RW di (pIt K mg)) (tG K mg vs f) (tX K mg noRW test pTest) (tX K mg noRW di1 (pIt K mg)) (tG K mg vs1 f1) (tX K mg noRW test1 pTest) (tX K mg noRW elt (pVal K mg)) vs vs1 σ H Q := by
  obtain ⟨B, F0, z, ow, ρ, m, S, h⟩ := q
  refine ⟨B, F0, z, ow, ρ, m, S, Rem.step pNew.pm h fun ds m1 B1 z1 ow1 J H1 hB hz S1 yl h1 => ?_⟩
  intro Da hD
  dsimp only at h1
  cases hn : noOwn ρ vs with
  | false => rw [hn] at h1; exact h1.elim
  | true =>
    rw [hn] at h1
    cases hc : compL2 f test di1 vs1 f1 test1 elt (wipeS ρ vs) ds m1 with
    | none => rw [hc] at h1; exact h1.elim
    | some r =>
      obtain ⟨xs, m'⟩ := r
      rw [hc] at h1
      dsimp only at h1
      by_cases hsz : xs.length ≤ sizeLine
      · rw [if_pos hsz] at h1
        obtain ⟨nz, nB, n0, nw⟩ := S1.new_none hD
        have S2 := (S1.keep hD (.lst []))
        refine ⟨fun i k H => k = ds.length - i ∧ i ≤ ds.length ∧ ∃ z2 ow2 m2 acc ys rest, z1.le z2 ∧ StOk K mg (upd B1 Da (.lst acc)) F0 z2 ow2 ρ m2 σ H ∧ Reps K mg z2 ys acc ∧ compL2 f test di1 vs1 f1 test1 elt (wipeS ρ vs) (ds.drop i) m2 = some (rest, m') ∧ ys ++ rest = xs,
          ⟨ds.length, by simp, Nat.zero_le _, z1, ow1, m1, [], [], xs, Fz.le.refl _, S2, .nil, by simpa using hc, rfl⟩, ?_⟩
        rintro i k H ⟨rfl, hi, z2, ow2, m2, acc, ys, rest, hz2, S2, ry, hr, hx⟩
        obtain ⟨y1, y2⟩ := yl _ F0 z2 ow2 ρ m2 σ H i hz2 S2
        by_cases hlt : i < ds.length
        · have hd : ds[i]? = some ds[i] := List.getElem?_eq_getElem hlt
          obtain ⟨go, y3⟩ := y2 _ hd
          rw [List.drop_eq_getElem_cons hlt] at hr
          refine .inr ⟨go, fun H' => i + 1 ≤ ds.length ∧ ∃ z2 ow2 m2 acc ys rest, z1.le z2 ∧ StOk K mg (upd B1 Da (.lst acc)) F0 z2 ow2 ρ m2 σ H' ∧ Reps K mg z2 ys acc ∧ compL2 f test di1 vs1 f1 test1 elt (wipeS ρ vs) (ds.drop (i + 1)) m2 = some (rest, m') ∧ ys ++ rest = xs,
            fun H' h' => ⟨ds.length - (i + 1), by omega, rfl, h'⟩, fun x H' hy => ?_⟩
          obtain ⟨z3, hz3, S3, rx⟩ := y3 x H' hy
          simp only [compL2] at hr
          cases ht : f ds[i] (wipeS ρ vs) with
          | none => rw [ht] at hr; cases hr
          | some ρ3 =>
            rw [ht] at hr
            dsimp only at hr
            refine ⟨_, F0, z3, ow2, wipeS ρ vs, m2, ds[i], S3.wiped vs, rx, ρ3, ht, fun ow4 σ4 S4 hw => ⟨by rw [hw, wipe_wipe], ?_⟩⟩
            have hwf : wipeS ρ3 vs = wipeS ρ vs := by rw [hf _ _ _ ht, wipeS_wipeS]
            have hws : wipe σ4 vs = wipe σ vs := by rw [hw, wipe_wipe]
            have back : ∀ {acc' : List V} {z5 : Fz} {ow5 : Own} {m5 : List Ob} {H5 : Hp}, z3.le z5 → StOk K mg (upd B1 Da (.lst acc')) F0 z5 ow5 ρ3 m5 σ4 H5 → StOk K mg (upd B1 Da (.lst acc')) F0 z5 ow5 ρ m5 σ H5 := fun {acc' z5 ow5 m5 H5} h5 S5 => by
              have q := S5.wiped vs
              rw [hwf, hws] at q
              exact S3.unwipe q h5 hn
            refine ⟨_, F0, z3, ow4, ρ3, m2, S4, ?_⟩
            cases htt : test ρ3 m2 with
            | err x m' => rw [htt] at hr; cases hr
            | bad => rw [htt] at hr; cases hr
            | ok r =>
              obtain ⟨bv, m3⟩ := r
              rw [htt] at hr
              intro B5 z5 ow5 v H5 hB5 hz5 S5 p5
              cases (show v = bv from p5)
              cases bv with
              | false =>
                dsimp only at hr
                exact iteF ⟨hlt, z5, ow5, m3, acc, ys, rest, hz2.trans (hz3.trans hz5), back hz5 (S5.weak hB5), ry.le (hz3.trans hz5), hr, hx⟩
              | true =>
                dsimp only at hr
                refine iteT ⟨B5, F0, z5, ow5, ρ3, m3, S5, ?_⟩
                cases hel : di1 ρ3 m3 with
                | err x m' => rw [hel] at hr; cases hr
                | bad => rw [hel] at hr; cases hr
                | ok r =>
                  obtain ⟨es, m4⟩ := r
                  rw [hel] at hr
                  dsimp only at hr
                  cases hn1 : noOwn ρ3 vs1 with
                  | false => rw [hn1] at hr; cases hr
                  | true =>
                    rw [hn1] at hr
                    cases hci : compL f1 test1 elt (wipeS ρ3 vs1) es m4 with
                    | none => rw [hci] at hr; cases hr
                    | some r =>
                      obtain ⟨xs1, m5⟩ := r
                      rw [hci] at hr
                      dsimp only at hr
                      cases hcr : compL2 f test di1 vs1 f1 test1 elt (wipeS ρ vs) (ds.drop (i + 1)) m5 with
                      | none => rw [hcr] at hr; cases hr
                      | some r =>
                        obtain ⟨rest', m6⟩ := r
                        rw [hcr] at hr
                        cases hr
                        intro B6 z6 ow6 J1 H6 hB6 hz6 S6 yl1
                        have hle36 : z3.le z6 := hz5.trans hz6
                        refine ⟨fun j k H => k = es.length - j ∧ j ≤ es.length ∧ ∃ z7 ow7 m7 acc ys irest, z6.le z7 ∧ StOk K mg (upd B1 Da (.lst acc)) F0 z7 ow7 ρ3 m7 σ4 H ∧ Reps K mg z7 ys acc ∧ compL f1 test1 elt (wipeS ρ3 vs1) (es.drop j) m7 = some (irest, m5) ∧ ys ++ (irest ++ rest') = xs,
                          ⟨es.length, by simp, Nat.zero_le _, z6, ow6, m4, acc, ys, xs1, Fz.le.refl _, S6.weak (hB5.trans hB6), ry.le (hz3.trans hle36), by simpa using hci, hx⟩, ?_⟩
                        rintro j k H ⟨rfl, hj, z7, ow7, m7, acc, ys, irest, hz7, S7, ry7, hr7, hx7⟩
                        obtain ⟨w1, w2⟩ := yl1 _ F0 z7 ow7 ρ3 m7 σ4 H j hz7 S7
                        by_cases hlt1 : j < es.length
                        · have hd1 : es[j]? = some es[j] := List.getElem?_eq_getElem hlt1
                          obtain ⟨go1, w3⟩ := w2 _ hd1
                          rw [List.drop_eq_getElem_cons hlt1] at hr7
                          refine .inr ⟨go1, fun H' => j + 1 ≤ es.length ∧ ∃ z7 ow7 m7 acc ys irest, z6.le z7 ∧ StOk K mg (upd B1 Da (.lst acc)) F0 z7 ow7 ρ3 m7 σ4 H' ∧ Reps K mg z7 ys acc ∧ compL f1 test1 elt (wipeS ρ3 vs1) (es.drop (j + 1)) m7 = some (irest, m5) ∧ ys ++ (irest ++ rest') = xs,
                            fun H' h' => ⟨es.length - (j + 1), by omega, rfl, h'⟩, fun x1 H' hy1 => ?_⟩
                          obtain ⟨z8, hz8, S8, rx1⟩ := w3 x1 H' hy1
                          simp only [compL] at hr7
                          cases ht1 : f1 es[j] (wipeS ρ3 vs1) with
                          | none => rw [ht1] at hr7; cases hr7
                          | some ρ9 =>
                            rw [ht1] at hr7
                            dsimp only at hr7
                            refine ⟨_, F0, z8, ow7, wipeS ρ3 vs1, m7, es[j], S8.wiped vs1, rx1, ρ9, ht1, fun ow9 σ9 S9 hw9 => ⟨by rw [hw9, wipe_wipe], ?_⟩⟩
                            have hwf1 : wipeS ρ9 vs1 = wipeS ρ3 vs1 := by rw [hf1 _ _ _ ht1, wipeS_wipeS]
                            have hws1 : wipe σ9 vs1 = wipe σ4 vs1 := by rw [hw9, wipe_wipe]
                            have back1 : ∀ {acc' : List V} {z5 : Fz} {ow5 : Own} {m5 : List Ob} {H5 : Hp}, z8.le z5 → StOk K mg (upd B1 Da (.lst acc')) F0 z5 ow5 ρ9 m5 σ9 H5 → StOk K mg (upd B1 Da (.lst acc')) F0 z5 ow5 ρ3 m5 σ4 H5 := fun {acc' z5 ow5 m5 H5} h5 S5 => by
                              have q := S5.wiped vs1
                              rw [hwf1, hws1] at q
                              exact S8.unwipe q h5 hn1
                            refine ⟨_, F0, z8, ow9, ρ9, m7, S9, ?_⟩
                            cases htt1 : test1 ρ9 m7 with
                            | err x m' => rw [htt1] at hr7; cases hr7
                            | bad => rw [htt1] at hr7; cases hr7
                            | ok r =>
                              obtain ⟨bv, m8⟩ := r
                              rw [htt1] at hr7
                              intro B9 z9 ow10 v9 H9 hB9 hz9 S10 p9
                              cases (show v9 = bv from p9)
                              cases bv with
                              | false =>
                                dsimp only at hr7
                                exact iteF ⟨hlt1, z9, ow10, m8, acc, ys, irest, hz7.trans (hz8.trans hz9), back1 hz9 (S10.weak hB9), ry7.le (hz8.trans hz9), hr7, hx7⟩
                              | true =>
                                dsimp only at hr7
                                refine iteT ⟨B9, F0, z9, ow10, ρ9, m8, S10, ?_⟩
                                cases hel1 : elt ρ9 m8 with
                                | err x m' => rw [hel1] at hr7; cases hr7
                                | bad => rw [hel1] at hr7; cases hr7
                                | ok r =>
                                  obtain ⟨y, m9⟩ := r
                                  rw [hel1] at hr7
                                  dsimp only at hr7
                                  cases hcr1 : compL f1 test1 elt (wipeS ρ3 vs1) (es.drop (j + 1)) m9 with
                                  | none => rw [hcr1] at hr7; cases hr7
                                  | some r =>
                                    obtain ⟨ir2, m10⟩ := r
                                    rw [hcr1] at hr7
                                    cases hr7
                                    intro B11 z11 ow11 w H11 hB11 hz11 S11 pw
                                    have hD6 : H11 Da = some (.lst acc) := S11.bh _ _ (hB11 _ _ (hB9 _ _ upd_same))
                                    refine ⟨acc, hD6, ?_, hlt1, z11, ow11, m9, acc ++ [w], ys ++ [y], ir2, hz7.trans (hz8.trans (hz9.trans hz11)), ?_, ?_, hcr1, by rw [← hx7, List.append_assoc]; rfl⟩
                                    · rw [← ry7.len]
                                      have : (ys ++ (y :: ir2 ++ rest')).length ≤ sizeLine := by rw [hx7]; exact hsz
                                      rw [List.length_append, List.length_append, List.length_cons] at this
                                      omega
                                    · exact back1 (hz9.trans hz11) ((S11.weak (hB9.trans hB11)).rekeep n0)
                                    · exact (ry7.le (hz8.trans (hz9.trans hz11))).append (.cons pw .nil)
                        · have e : j = es.length := by omega
                          subst e
                          rw [List.drop_length] at hr7
                          cases hr7
                          exact .inl ⟨w1 rfl, hlt, z7, ow7, m5, acc, ys, rest', hz2.trans (hz3.trans (hle36.trans hz7)), back (hle36.trans hz7) S7, ry7, hcr, hx7⟩
        · have e : i = ds.length := by omega
          subst e
          rw [List.drop_length] at hr
          cases hr
          rw [List.append_nil] at hx
          subst hx
          refine .inl ⟨y1 rfl, ?_⟩
          refine h1 _ z2 ow2 _ H (same_upd nB) hz2 S2 ⟨Da, _, rfl, nB, upd_same, ?_, acc, rfl, ry⟩
          cases q : z2.F Da with
          | none => rfl
          | some u =>
            rcases S2.new Da (by rw [q]; simp) with r | r
            · exact absurd n0 r
            · rw [upd_same] at r; cases r
      · rw [if_neg hsz] at h1; exact h1.elim
end
section
variable {X : Cx} {RW : WX} {elt tg iter tg1 iter1 : Expr} {ifs ifs1 : List Expr} {scope : Scope} {own : List (Str × Nat)} {pos : Pos} {di di1 : Den (List D)} {f f1 : Tg} {test test1 : Den Bool} {de : Den D}
theorem pd_comp2 {vs vs1 : List Nat} (hc : X.calm = true) (hN : X.N.Nodup) (hi : PI X tg iter (tX X.K X.mg RW di (pIt X.K X.mg))) (hv : own.map (·.2) = vs) (ok : BlkOk X.N X.env.scope scope own) (hv1 : ∀ i ∈ vs1, i ∈ vs) (hf : TgOk vs f) (hf1 : TgOk vs1 f1)
    (hg : ∀ (s : Shared) (H : Hp) (C : Addr) (cl : List (Str × Addr)) (fp : List Addr), PG (X.blk s H scope (compEnvC scope cl C X.env) fp) tg (tG X.K X.mg vs f))
    (ht : ∀ (s : Shared) (H : Hp) (C : Addr) (cl : List (Str × Addr)) (fp : List Addr), PTs (X.blk s H scope (compEnvC scope cl C X.env) fp) ifs (tX X.K X.mg noRW test pTest))
    (hi1 : ∀ (s : Shared) (H : Hp) (C : Addr) (cl : List (Str × Addr)) (fp : List Addr), PI (X.blk s H scope (compEnvC scope cl C X.env) fp) tg1 iter1 (tX X.K X.mg noRW di1 (pIt X.K X.mg)))
    (hg1 : ∀ (s : Shared) (H : Hp) (C : Addr) (cl : List (Str × Addr)) (fp : List Addr), PG (X.blk s H scope (compEnvC scope cl C X.env) fp) tg1 (tG X.K X.mg vs1 f1))
    (ht1 : ∀ (s : Shared) (H : Hp) (C : Addr) (cl : List (Str × Addr)) (fp : List Addr), PTs (X.blk s H scope (compEnvC scope cl C X.env) fp) ifs1 (tX X.K X.mg noRW test1 pTest))
    (he : ∀ (s : Shared) (H : Hp) (C : Addr) (cl : List (Str × Addr)) (fp : List Addr), PE (X.blk s H scope (compEnvC scope cl C X.env) fp) elt (tX X.K X.mg noRW de (pVal X.K X.mg))) (hs : ∀ x, foldedSetIterable iter X.env x = pure x := by intro _; rfl) (hs1 : ∀ env x, foldedSetIterable iter1 env x = pure x := by intro _ _; rfl) :
    PE X (.ListComp elt [⟨tg, iter, ifs, 0⟩, ⟨tg1, iter1, ifs1, 0⟩] scope pos) (tX X.K X.mg RW (dComp2 di vs f test di1 vs1 f1 test1 de) (pNew X.K X.mg)) := by
  subst hv
  exact PE.imp (pe_lc2 hc hN hi ok hv1 hg ht hi1 hg1 ht1 he hs hs1) (comp2_step hf hf1)
end
/-! ### defs as values -/
section
variable {X : Cx} {RW : WX} {e c : Expr} {pos : Pos}
theorem pd_fn {x : Str} {k n : Nat} {f : FDen} (F : Fd X.prog X.w X.K X.mg X.base x k n f) (hg : Gl X x) (hdb : (x == ("__debug__" : Str)) = false := by decide) : PE X (.Name x pos) (tX X.K X.mg RW (dC (.fn x)) (pVal X.K X.mg)) := by
  obtain ⟨a, _, _, _, hm, _⟩ := F.ex
  exact pd_c (pe_glob (v := .ref a) hg hm rfl hdb) fun z => by simp only [Rep]; exact ⟨a, rfl, hm⟩
def tCallX (X : Cx) (E : St → XK) (tc : TE) (t : TA) : TE := fun σ H Q => tc σ H fun x H1 => ∃ (f : Addr) (k : Nat) (fd : FuncData) (ps : List Str) (sp : Sp), x = .ref f ∧ FnOk X.prog X.w X.K X.mg X.base (L2.CX X.prog X.w) k f fd ps sp ∧ Room k X.A ∧ PySem.W.keepIn X.K (.ref f) = true ∧ Binds X.K fd ps [] ∧ t σ H1 fun vs H2 => sp vs H2 Q (E σ)
theorem pe_callX {es : List Expr} {E : St → XK} {tc : TE} {t : TA} (hx : ∀ σ, PassesAt (L2.CX X.prog X.w) X σ (E σ)) (hc : PE X c tc) (ha : PA X (e :: es) t)
    (hev : eval (.Call c (e :: es) [] pos) X.env = (do callWith pos (← eval c X.env) [] (backTo pos (starEach (e :: es) X.env)) (backToKw pos (keywordEach [] X.env))))
    (he : starEach (e :: es) X.env = (false, eval e X.env) :: starEach es X.env) (hpl : (backTo pos (starEach es X.env)).any (·.1) = false) : PE X (.Call c (e :: es) [] pos) (tCallX X E tc t) := ⟨fun pins s σ H Q I h => by
  rw [hev]
  refine wpAny_bind (thn (hc.run pins s σ H _ I h) fun u s1 ⟨x, H1, I1, r1, f, k, fd, ps, sp, ex, F, hr, hk, hb, q⟩ => ?_)
  subst ex
  cases (show u = Value.ref f from r1)
  exact PySem.W.callWith_K (h₀ := X.base) I.ok.mod.kin hk (thn (ha.run pos pins s1 σ H1 _ I1 q) fun us s2 ⟨vs, H2, I2, r, q2⟩ => ⟨I2.kIn, run_fnS F hr hb (hx σ) I2 r q2⟩) he hpl⟩
theorem pe_callX0 {E : St → XK} {tc : TE} (hx : ∀ σ, PassesAt (L2.CX X.prog X.w) X σ (E σ)) (hc : PE X c tc)
    (hev : eval (.Call c [] [] pos) X.env = (do callWith pos (← eval c X.env) [] (backTo pos (starEach [] X.env)) (backToKw pos (keywordEach [] X.env)))) : PE X (.Call c [] [] pos) (tCallX X E tc tNil) := ⟨fun pins s σ H Q I h => by
  rw [hev]
  refine wpAny_bind (thn (hc.run pins s σ H _ I h) fun u s1 ⟨x, H1, I1, r1, f, k, fd, ps, sp, ex, F, hr, hk, hb, q⟩ => ?_)
  subst ex
  cases (show u = Value.ref f from r1)
  exact PySem.W.callWith_K0 (first := []) I1.kIn hk (run_fnS (us := []) F hr hb (hx σ) I1 .nil q)⟩
/-- the defs that may be called so -/
inductive Fds (P : Program) (w : World) (K : PySem.W.Frag) (mg : Str → Option Value) (base : Heap) (k n : Nat) : List (Str × FDen) → Prop
  | nil : Fds P w K mg base k n []
  | cons {x : Str} {f : FDen} {r : List (Str × FDen)} {j : Nat} (h : Fd P w K mg base x j n f) (hj : j ≤ k) (t : Fds P w K mg base k n r) : Fds P w K mg base k n ((x, f) :: r)
theorem Fds.get {P : Program} {w : World} {K : PySem.W.Frag} {mg : Str → Option Value} {base : Heap} {k n : Nat} {x : Str} {f : FDen} : ∀ {l : List (Str × FDen)}, Fds P w K mg base k n l → l.lookup x = some f → ∃ j, j ≤ k ∧ Fd P w K mg base x j n f
  | _, .nil, h => by cases h
  | _, .cons (x := y) (f := g) h hj t, e => by
    rw [List.lookup_cons] at e
    split at e
    · rename_i hb
      cases e
      cases eq_of_beq hb
      exact ⟨_, hj, h⟩
    · exact t.get e
def dCallFn (n : Nat) (l : List (Str × FDen)) (dc : Den D) (da : Den (List D)) : Den D := fun ρ m => (dc ρ m).bind fun x => match x.1 with
  | .fn y => (match l.lookup y with
    | some f => (da ρ x.2).bind fun xs => if xs.1.length = n then f xs.1 xs.2 else .bad
    | none => .bad)
  | _ => .bad
theorem callFn_step {k n : Nat} {l : List (Str × FDen)} {dc : Den D} {da : Den (List D)} (L : Fds X.prog X.w X.K X.mg X.base k n l) (hr : Room k X.A) (σ : St) (H : Hp) (Q : VK) (q : tX X.K X.mg RW (dCallFn n l dc da) (pVal X.K X.mg) σ H Q) :
    tCallX X (WE RW) (tX X.K X.mg RW dc (pVal X.K X.mg)) (tX X.K X.mg RW da (pVals X.K X.mg)) σ H Q := by
  refine tX.imp q fun B F0 z ow ρ m S h => Rem.step pVal.pm h fun d m1 B1 z1 ow1 v H1 hB hz S1 pd h1 => ?_
  cases d with
  | fn y =>
    dsimp only at h1
    cases hl : l.lookup y with
    | none => rw [hl] at h1; exact h1.elim
    | some f =>
      rw [hl] at h1
      obtain ⟨j, hj, F⟩ := L.get hl
      obtain ⟨a, fd, ps, F, hm, hk, hb⟩ := F.ex
      have pd : Rep X.K X.mg z1 (.fn y) v := pd
      simp only [Rep] at pd
      obtain ⟨a', rfl, hm'⟩ := pd
      rw [hm] at hm'
      cases hm'
      refine ⟨a, j, fd, ps, _, rfl, F, hr.mono hj, hk, hb, B1, F0, z1, ow1, ρ, m1, S1, Rem.step pVal.pm h1 fun xs m2 B2 z2 ow2 vs H2 hB2 hz2 S2 pv h2 => ?_⟩
      dsimp only at h2
      split at h2
      · rename_i hn
        refine spF_of S2 pv hn ?_
        cases hf : f xs m2 with
        | bad => rw [hf] at h2; exact h2
        | ok r =>
          obtain ⟨d, m3⟩ := r
          rw [hf] at h2
          exact fun z3 ow3 w H3 hz3 S3 rv => h2 B2 z3 ow3 w H3 (Same.refl _) hz3 S3 rv
        | err x m3 =>
          rw [hf] at h2
          exact fun z3 ow3 cv dd H3 hz3 S3 ex => h2 z3 ow3 cv dd H3 hz3 S3 ex
      · exact h2.elim
  | _ => exact h1.elim
theorem pd_callFn {es : List Expr} {k n : Nat} {l : List (Str × FDen)} {dc : Den D} {da : Den (List D)} (L : Fds X.prog X.w X.K X.mg X.base k n l) (hr : Room k X.A) (tk : Takes X RW) (hc : PE X c (tX X.K X.mg RW dc (pVal X.K X.mg))) (ha : PA X (e :: es) (tX X.K X.mg RW da (pVals X.K X.mg)))
    (hev : eval (.Call c (e :: es) [] pos) X.env = (do callWith pos (← eval c X.env) [] (backTo pos (starEach (e :: es) X.env)) (backToKw pos (keywordEach [] X.env))) := by rfl)
    (he : starEach (e :: es) X.env = (false, eval e X.env) :: starEach es X.env := by rfl) (hpl : (backTo pos (starEach es X.env)).any (·.1) = false := by rfl) :
    PE X (.Call c (e :: es) [] pos) (tX X.K X.mg RW (dCallFn n l dc da) (pVal X.K X.mg)) := PE.imp (pe_callX (fun σ => passAt tk σ) hc ha hev he hpl) (callFn_step L hr)
theorem pd_callFn0 {k : Nat} {l : List (Str × FDen)} {dc : Den D} (L : Fds X.prog X.w X.K X.mg X.base k 0 l) (hr : Room k X.A) (tk : Takes X RW) (hc : PE X c (tX X.K X.mg RW dc (pVal X.K X.mg)))
    (hev : eval (.Call c [] [] pos) X.env = (do callWith pos (← eval c X.env) [] (backTo pos (starEach [] X.env)) (backToKw pos (keywordEach [] X.env))) := by rfl) :
    PE X (.Call c [] [] pos) (tX X.K X.mg RW (dCallFn 0 l dc dNil) (pVal X.K X.mg)) := PE.imp (pe_callX0 (fun σ => passAt tk σ) hc hev) fun σ H Q q => by
  have h := callFn_step L hr σ H Q q
  obtain ⟨B, F0, z, ow, ρ, m, S, h⟩ := h
  refine ⟨B, F0, z, ow, ρ, m, S, ?_⟩
  cases hd : dc ρ m with
  | bad => rw [hd] at h; exact h
  | err x m' => rw [hd] at h; exact h
  | ok r =>
    obtain ⟨d, m'⟩ := r
    rw [hd] at h
    intro B1 z1 ow1 v H1 hB hz S1 pv
    obtain ⟨f, k, fd, ps, sp, ex, F, hr, hk, hb, B2, F2, z2, ow2, ρ2, m2, S2, q2⟩ := h B1 z1 ow1 v H1 hB hz S1 pv
    exact ⟨f, k, fd, ps, sp, ex, F, hr, hk, hb, q2 B2 z2 ow2 [] H1 (Same.refl _) (Fz.le.refl _) S2 .nil⟩
/-- f(), a def of the text -/
theorem pd_call0 {x : Str} {k : Nat} {f : FDen} {p : Pos} (F : Fd X.prog X.w X.K X.mg X.base x k 0 f) (hr : Room k X.A) (tk : Takes X RW) (hg : Gl X x) (hdb : (x == ("__debug__" : Str)) = false := by decide)
    (hev : eval (.Call (.Name x p) [] [] pos) X.env = (do callWith pos (← eval (.Name x p) X.env) [] (backTo pos (starEach [] X.env)) (backToKw pos (keywordEach [] X.env))) := by rfl) :
    PE X (.Call (.Name x p) [] [] pos) (tX X.K X.mg RW (dCallFn 0 [(x, f)] (dC (.fn x)) dNil) (pVal X.K X.mg)) := pd_callFn0 (.cons F (Nat.le_refl _) .nil) hr tk (pd_fn F hg hdb) hev
/-! ### sum(a tuple) -/
end
end PD
/-! sum(a tuple); the class Row's own __init__. -/
namespace PD
open PySem PySem.Spec PyProof.Rows L2
section
variable {X : Cx} {RW : WX}
theorem cr_sumT (hc : X.calm = true) : CallR X (.builtin "sum") (fun vs H Q => ∃ (a : Addr) (ns : List Int), vs = [V.ref a] ∧ SqT X.K H a (ns.map V.int) ∧ Q (.int ns.sum) H) := by
  intro pins s σ H vs us Q I r h
  obtain ⟨a, ns, rfl, hs, q⟩ := h
  obtain ⟨its, rv, hl, _⟩ := I.tuple hs
  have hi : IntsAre its ns := rv.ints
  obtain ⟨xs, ex⟩ := hi.allInts.items
  have hn : numsOf (intItems xs).toList = ns := by rw [← ex]; exact hi.numsOf
  have hl : s.heap.IsTuple a its.toArray := hl
  rw [nums_intItems] at hn
  rw [ex] at hl
  rw [Vals.ref1 r]
  refine PySem.W.ktm_sumG (I.ok.hd hc) hl fun h' tk t' hk => ?_
  rw [preSum_eq, List.take_of_length_le (by simp), hn]
  exact ⟨.int _, H, I.kept hk, ⟨_, rfl⟩, q⟩
def sumT : D → Res D
  | .tup xs => match ints? xs with
    | some ns => .ok (.int ns.sum)
    | none => .bad
  | _ => .bad
theorem sumT_r : CbR X (fun vs H Q => ∃ (a : Addr) (ns : List Int), vs = [V.ref a] ∧ SqT X.K H a (ns.map V.int) ∧ Q (.int ns.sum) H) (oneArg sumT) := by
  intro RW B F0 z ow ρ m σ H vs ds Q S px h
  match ds, h with
  | [d], h =>
    obtain ⟨v, rfl, p⟩ := looks_one px
    cases d with
    | tup xs =>
      dsimp only [oneArg, sumT] at h
      cases hn : ints? xs with
      | none => rw [hn] at h; exact h.elim
      | some ns =>
        rw [hn] at h
        cases ints?_eq hn
        obtain ⟨a, ys, rfl, e, r⟩ := look_tup S p
        cases r.ints
        exact ⟨a, ns, rfl, e, h.here S (rep_int.mpr rfl)⟩
    | _ => exact h.elim
  | [], h => exact h.elim
  | _ :: _ :: _, h => exact h.elim
end
end PD
namespace PD
open PySem PySem.Spec PyProof.Rows L2
theorem wipe_sub {vs ws : List Nat} {σ σ' : St} (h : ∀ i ∈ vs, i ∈ ws) (e : wipe σ' vs = wipe σ vs) : wipe σ' ws = wipe σ ws := by
  have hl : σ'.length = σ.length := by rw [← wipe_length σ' vs, e, wipe_length]
  apply List.ext_getElem?
  intro i
  by_cases hi : i ∈ ws
  · by_cases hi2 : i < σ.length
    · rw [wipe_in hi (by rw [hl]; exact hi2), wipe_in hi hi2]
    · rw [List.getElem?_eq_none (by rw [wipe_length, hl]; omega), List.getElem?_eq_none (by rw [wipe_length]; omega)]
  · have hv : i ∉ vs := fun z => hi (h i z)
    rw [wipe_get hi, wipe_get hi, ← wipe_get (vs := vs) hv, e, wipe_get hv]
theorem wipeS_sub {vs ws : List Nat} {ρ ρ' : List Slot} (h : ∀ i ∈ vs, i ∈ ws) (e : wipeS ρ' vs = wipeS ρ vs) : wipeS ρ' ws = wipeS ρ ws := by
  have hl : ρ'.length = ρ.length := by rw [← wipeS_len ρ' vs, e, wipeS_len]
  apply List.ext_getElem?
  intro i
  by_cases hi : i ∈ ws
  · by_cases hi2 : i < ρ.length
    · rw [wipeS_in hi (by rw [hl]; exact hi2), wipeS_in hi hi2]
    · rw [List.getElem?_eq_none (by rw [wipeS_len, hl]; omega), List.getElem?_eq_none (by rw [wipeS_len]; omega)]
  · have hv : i ∉ vs := fun z => hi (h i z)
    rw [wipeS_get hi, wipeS_get hi, ← wipeS_get (vs := vs) hv, e, wipeS_get hv]
theorem tgok_sub {vs ws : List Nat} {f : Tg} (h : ∀ i ∈ vs, i ∈ ws) (t : TgOk vs f) : TgOk ws f := fun d ρ ρ' e => wipeS_sub h (t d ρ ρ' e)
section
variable {X : Cx} {RW : WX}
theorem tg_sub {e : Expr} {us vs : List Nat} {f : Tg} (h : ∀ i ∈ us, i ∈ vs) (g : PG X e (tG X.K X.mg us f)) : PG X e (tG X.K X.mg vs f) :=
  PG.imp g fun v σ H Q ⟨B, F0, z, ow, ρ, m, d, S, r, ρ', e, k⟩ => ⟨B, F0, z, ow, ρ, m, d, S, r, ρ', e, fun ow' σ' S' hw => k ow' σ' S' (wipe_sub h hw)⟩
variable {elt tg iter tg1 iter1 : Expr} {ifs ifs1 : List Expr} {scope : Scope} {own : List (Str × Nat)} {pos : Pos} {di di1 : Den (List D)} {f f1 : Tg} {test test1 : Den Bool} {de : Den D}
theorem sd_setC2 {vs vs1 : List Nat} {i : Nat} {y : Str} {py spos : Pos} (hc : X.calm = true) (hN : X.N.Nodup) (hy : X.N[i]? = some y) (hyl : X.env.scope.names.lookup y = some .local)
    (hsw : swapsWith (.ListComp elt [⟨tg, iter, ifs, 0⟩, ⟨tg1, iter1, ifs1, 0⟩] scope pos) (some (.Name y py)) spos.line X.env = pure true) (hi : PI X tg iter (tX X.K X.mg RW di (pIt X.K X.mg))) (hv : own.map (·.2) = vs) (ok : BlkOk X.N X.env.scope scope own) (hv1 : ∀ i ∈ vs1, i ∈ vs) (hf : TgOk vs f) (hf1 : TgOk vs1 f1)
    (hg : ∀ (s : Shared) (H : Hp) (C : Addr) (cl : List (Str × Addr)) (fp : List Addr), PG (X.blk s H scope (compEnvC scope cl C X.env) fp) tg (tG X.K X.mg vs f))
    (ht : ∀ (s : Shared) (H : Hp) (C : Addr) (cl : List (Str × Addr)) (fp : List Addr), PTs (X.blk s H scope (compEnvC scope cl C X.env) fp) ifs (tX X.K X.mg noRW test pTest))
    (hi1 : ∀ (s : Shared) (H : Hp) (C : Addr) (cl : List (Str × Addr)) (fp : List Addr), PI (X.blk s H scope (compEnvC scope cl C X.env) fp) tg1 iter1 (tX X.K X.mg noRW di1 (pIt X.K X.mg)))
    (hg1 : ∀ (s : Shared) (H : Hp) (C : Addr) (cl : List (Str × Addr)) (fp : List Addr), PG (X.blk s H scope (compEnvC scope cl C X.env) fp) tg1 (tG X.K X.mg vs1 f1))
    (ht1 : ∀ (s : Shared) (H : Hp) (C : Addr) (cl : List (Str × Addr)) (fp : List Addr), PTs (X.blk s H scope (compEnvC scope cl C X.env) fp) ifs1 (tX X.K X.mg noRW test1 pTest))
    (he : ∀ (s : Shared) (H : Hp) (C : Addr) (cl : List (Str × Addr)) (fp : List Addr), PE (X.blk s H scope (compEnvC scope cl C X.env) fp) elt (tX X.K X.mg noRW de (pVal X.K X.mg))) (hs : ∀ x, foldedSetIterable iter X.env x = pure x := by intro _; rfl) (hs1 : ∀ env x, foldedSetIterable iter1 env x = pure x := by intro _ _; rfl) :
    PS X (.Assign [.Name y py] (.ListComp elt [⟨tg, iter, ifs, 0⟩, ⟨tg1, iter1, ifs1, 0⟩] scope pos) spos) (tB X.K X.mg RW (setN i (dComp2 di vs f test di1 vs1 f1 test1 de))) := by
  subst hv
  exact PS.imp (ps_setLc2 hc hN hy hyl hsw hi ok hv1 hg ht hi1 hg1 ht1 he hs hs1) fun D σ H q => comp2_step hf hf1 σ H _ (setN_step D σ H q)
end
end PD
/-! Plain: is_from, the class Row's own __init__. -/
namespace PD
open PySem PySem.Spec PyProof.Rows L2
def den_is_integer0 : FDen := fnD 1 0 (retS (dAnd (dUn (isiD .int) (dL 0)) (dNot (dUn (isiD .bool) (dL 0)))))
def den_is_from0 : FDen := fnD 3 0 (retS (dAnd (dCall den_is_integer0 (dCons (dV 0) dNil)) (dChain leD leD (dL 1) (dL 0) (dL 2))))
def den_Row_init0 : FDen := fnD 2 1 (thenS (ifS (dOrT (dNotT (dT (dUn (isiD .tup) (dL 1)))) (dNotT (dT (dChain leD leD (dC (.int 1)) (dCB (oneArg lenD) (dCons (dL 1) dNil)) (dC (.int 12)))))) (raiseS "BadGroups") skipS)
    (thenS (forS (dIt asTup (dV 1)) (tgN 2) (ifS (dNotT (dT (dCall den_is_from0 (dCons (dV 2) (dCons (dC (.int 0)) (dCons (dC (.int 11)) dNil)))))) (raiseS "BadGroups") skipS))
    (fldS "Row" 0 "held" (dV 1))))
theorem loop_er {tg : Tg} {body : SDen} {d : D} {ds : List D} {ρ ρ1 ρ' : List Slot} {m m' : List Ob} {x : Exn} (h1 : tg d ρ = some ρ1) (h2 : body ρ1 m = .er x ρ' m') : loopS tg body (d :: ds) ρ m = .er x ρ' m' := by
  rw [loopS, h1]
  dsimp only
  rw [h2]
def isIntD : D → Bool
  | .int _ => true
  | _ => false
theorem integer_ok (d : D) (m : List Ob) (h : d.ty.isSome = true) : den_is_integer0 [d] m = .ok (.bl (isIntD d), m) := by
  cases d <;> first | rfl | cases h
def fromD (lo hi : Int) : D → Bool
  | .int i => decide (lo ≤ i) && decide (i ≤ hi)
  | _ => false
theorem from_ok (d : D) (lo hi : Int) (m : List Ob) (h : d.ty.isSome = true) : den_is_from0 [d, .int lo, .int hi] m = .ok (.bl (fromD lo hi d), m) := by
  have h1 := integer_ok d m h
  refine fnD_rt rfl ?_
  cases d with
  | int i =>
    show bindS ((den_is_integer0 [.int i] m).bind fun x => match x.1 with
      | .bl true => dChain leD leD (dL 1) (dL 0) (dL 2) (pad [.int i, .int lo, .int hi] 0) x.2
      | .bl false => .ok (.bl false, x.2)
      | _ => .bad) _ _ = _
    rw [h1]
    show bindS (match D.bl (decide (lo ≤ i)) with
      | .bl true => Res.ok (D.bl (decide (i ≤ hi)), m)
      | .bl false => .ok (.bl false, m)
      | _ => .bad) _ _ = _
    cases hl : decide (lo ≤ i) with
    | true => show Out.rt (.bl (decide (i ≤ hi))) m = .rt (.bl (decide (lo ≤ i) && decide (i ≤ hi))) m; rw [hl]; rfl
    | false => show Out.rt (.bl false) m = .rt (.bl (decide (lo ≤ i) && decide (i ≤ hi))) m; rw [hl]; rfl
  | obj n => cases h
  | fn n => cases h
  | scr n => cases h
  | row g => cases h
  | ldc t ks vs => cases h
  | _ => rfl
theorem row_turns (s0 : Slot) (g : D) (m : List Ob) : ∀ (xs : List D) (s2 : Slot), (xs.all fun d => d.ty.isSome) = true →
    (xs.all okGroup = true → ∃ s', loopS (tgN 2) (ifS (dNotT (dT (dCall den_is_from0 (dCons (dV 2) (dCons (dC (.int 0)) (dCons (dC (.int 11)) dNil)))))) (raiseS "BadGroups") skipS) xs [s0, .sh g, s2] m = .nx [s0, .sh g, s'] m) ∧
    (xs.all okGroup = false → ∃ ρ', loopS (tgN 2) (ifS (dNotT (dT (dCall den_is_from0 (dCons (dV 2) (dCons (dC (.int 0)) (dCons (dC (.int 11)) dNil)))))) (raiseS "BadGroups") skipS) xs [s0, .sh g, s2] m = .er ⟨"BadGroups", []⟩ ρ' m)
  | [], s2, _ => ⟨fun _ => ⟨s2, rfl⟩, fun h => by cases h⟩
  | d :: r, s2, h => by
    rw [List.all_cons, Bool.and_eq_true] at h
    obtain ⟨i1, i2⟩ := row_turns s0 g m r (.sh d) h.2
    have e1 := from_ok d 0 11 m h.1
    have eg : fromD 0 11 d = okGroup d := by cases d <;> rfl
    rw [eg] at e1
    have body : (ifS (dNotT (dT (dCall den_is_from0 (dCons (dV 2) (dCons (dC (.int 0)) (dCons (dC (.int 11)) dNil)))))) (raiseS "BadGroups") skipS) [s0, .sh g, .sh d] m = if okGroup d = true then .nx [s0, .sh g, .sh d] m else .er ⟨"BadGroups", []⟩ [s0, .sh g, .sh d] m := by
      have e2 : (dCall den_is_from0 (dCons (dV 2) (dCons (dC (.int 0)) (dCons (dC (.int 11)) dNil)))) [s0, .sh g, .sh d] m = .ok (.bl (okGroup d), m) := e1
      show bindS ((((dCall den_is_from0 _ [s0, .sh g, .sh d] m).bind _)).bind _) _ _ = _
      rw [e2]
      cases okGroup d <;> rfl
    cases ho : okGroup d with
    | true =>
      rw [ho, if_pos rfl] at body
      rw [List.all_cons, ho, Bool.true_and]
      refine ⟨fun q => ?_, fun q => ?_⟩
      · obtain ⟨s', e⟩ := i1 q
        exact ⟨s', by rw [loop_nx (ρ1 := [s0, .sh g, .sh d]) rfl body]; exact e⟩
      · obtain ⟨s', e⟩ := i2 q
        exact ⟨s', by rw [loop_nx (ρ1 := [s0, .sh g, .sh d]) rfl body]; exact e⟩
    | false =>
      rw [ho, if_neg (by simp)] at body
      rw [List.all_cons, ho, Bool.false_and]
      exact ⟨fun q => by (cases q), fun _ => ⟨[s0, .sh g, .sh d], loop_er (ρ1 := [s0, .sh g, .sh d]) rfl body⟩⟩
theorem rowInit0 : RowInit den_Row_init0 := by
  intro g m
  have hm : (m ++ [Ob.ins "Row" []])[m.length]? = some (.ins "Row" []) := by rw [List.getElem?_append_right (Nat.le_refl _), Nat.sub_self]; rfl
  have hset : (m ++ [Ob.ins "Row" []]).set m.length (.ins "Row" (putD "held" g [])) = m ++ [.ins "Row" [("held", g)]] := by
    rw [List.set_append_right _ _ (Nat.le_refl _), Nat.sub_self]
    rfl
  have fin : fldS "Row" 0 "held" (dV 1) = fldS "Row" 0 "held" (dV 1) := rfl
  have hend : ∀ s', (fldS "Row" 0 "held" (dV 1)) [.sh (.obj m.length), .sh g, s'] (m ++ [.ins "Row" []]) = .nx [.sh (.obj m.length), .sh g, s'] (m ++ [.ins "Row" [("held", g)]]) := fun s' => by
    show (match (m ++ [Ob.ins "Row" []])[m.length]? with
      | some (.ins c' fs) => if c' = "Row" ∧ fs.length < 1000 then Out.nx _ ((m ++ [Ob.ins "Row" []]).set m.length (.ins "Row" (putD "held" g fs))) else .bad
      | _ => .bad) = _
    rw [hm]
    show (if ("Row" : Str) = "Row" ∧ 0 < 1000 then _ else _) = _
    rw [if_pos ⟨rfl, by decide⟩, hset]
  have notTup : plainD g = true → (∀ xs, g ≠ .tup xs) → (∀ xs, g ≠ .etp xs) → den_Row_init0 [.obj m.length, g] (m ++ [.ins "Row" []]) = .err ⟨"BadGroups", []⟩ (m ++ [.ins "Row" []]) := fun hp h1 h2 => by
    cases g with
    | tup xs => exact absurd rfl (h1 xs)
    | etp xs => exact absurd rfl (h2 xs)
    | row g => cases hp
    | obj n => cases hp
    | fn n => cases hp
    | scr n => cases hp
    | ldc t ks vs => cases hp
    | _ => exact fnD_er rfl rfl
  cases g with
  | tup xs =>
    have lenE : ∀ {s : SDen}, (ifS (dOrT (dNotT (dT (dUn (isiD .tup) (dL 1)))) (dNotT (dT (dChain leD leD (dC (.int 1)) (dCB (oneArg lenD) (dCons (dL 1) dNil)) (dC (.int 12)))))) (raiseS "BadGroups") skipS) [.sh (.obj m.length), .sh (.tup xs), .non] (m ++ [.ins "Row" []]) =
        if 1 ≤ xs.length ∧ xs.length ≤ 12 then .nx [.sh (.obj m.length), .sh (.tup xs), .non] (m ++ [.ins "Row" []]) else .er ⟨"BadGroups", []⟩ [.sh (.obj m.length), .sh (.tup xs), .non] (m ++ [.ins "Row" []]) := fun {s} => by
      show bindS ((((match D.bl (decide ((1 : Int) ≤ (xs.length : Int))) with
        | .bl true => Res.ok (D.bl (decide ((xs.length : Int) ≤ 12)), m ++ [Ob.ins "Row" []])
        | .bl false => .ok (.bl false, m ++ [Ob.ins "Row" []])
        | _ => .bad).bind fun x => (asBool x.1).bind fun b => .ok (b, x.2)).bind fun x => .ok (!x.1, x.2))) _ _ = _
      by_cases h1 : 1 ≤ xs.length
      · rw [decide_eq_true (by omega : (1 : Int) ≤ (xs.length : Int))]
        by_cases h2 : xs.length ≤ 12
        · rw [decide_eq_true (by omega : (xs.length : Int) ≤ 12), if_pos ⟨h1, h2⟩]; rfl
        · rw [decide_eq_false (by omega : ¬ (xs.length : Int) ≤ 12), if_neg (fun z => h2 z.2)]; rfl
      · rw [decide_eq_false (by omega : ¬ (1 : Int) ≤ (xs.length : Int)), if_neg (fun z => h1 z.1)]; rfl
    refine ⟨fun h => ?_, fun h hp => ?_⟩
    · simp only [rowOk, Bool.and_eq_true, decide_eq_true_eq] at h
      obtain ⟨h1, h2, h3⟩ := h
      have hp : (xs.all fun d => d.ty.isSome) = true := List.all_eq_true.mpr fun d hd => by
        have := List.all_eq_true.mp h3 d hd
        cases d <;> first | rfl | cases this
      obtain ⟨s', e⟩ := (row_turns (.sh (.obj m.length)) (.tup xs) (m ++ [.ins "Row" []]) xs .non hp).1 h3
      refine fnD_nx rfl (ρ' := [.sh (.obj m.length), .sh (.tup xs), s']) ?_
      show (match (ifS _ _ skipS) [.sh (.obj m.length), .sh (.tup xs), .non] (m ++ [Ob.ins "Row" []]) with
        | .nx ρ' m' => _
        | o => o) = _
      rw [lenE (s := skipS), if_pos ⟨h1, h2⟩]
      show (match loopS _ _ xs _ _ with
        | .nx ρ' m' => _
        | o => o) = _
      rw [e]
      exact hend s'
    · have hp : (xs.all fun d => d.ty.isSome) = true := hp
      by_cases hl : 1 ≤ xs.length ∧ xs.length ≤ 12
      · have h3 : xs.all okGroup = false := by
          cases q : xs.all okGroup with
          | false => rfl
          | true => simp [rowOk, hl.1, hl.2, q] at h
        obtain ⟨ρ', e⟩ := (row_turns (.sh (.obj m.length)) (.tup xs) (m ++ [.ins "Row" []]) xs .non hp).2 h3
        refine fnD_er rfl (ρ' := ρ') ?_
        show (match (ifS _ _ skipS) [.sh (.obj m.length), .sh (.tup xs), .non] (m ++ [Ob.ins "Row" []]) with
          | .nx ρ' m' => _
          | o => o) = _
        rw [lenE (s := skipS), if_pos hl]
        show (match loopS _ _ xs _ _ with
          | .nx ρ' m' => _
          | o => o) = _
        rw [e]
      · refine fnD_er rfl (ρ' := [.sh (.obj m.length), .sh (.tup xs), .non]) ?_
        show (match (ifS _ _ skipS) [.sh (.obj m.length), .sh (.tup xs), .non] (m ++ [Ob.ins "Row" []]) with
          | .nx ρ' m' => _
          | o => o) = _
        rw [lenE (s := skipS), if_neg hl]
  | etp xs =>
    exact ⟨fun h => by (cases h), fun _ hp => by (cases hp)⟩
  | _ => exact ⟨fun h => by (cases h), fun _ hp => notTup hp (by simp) (by simp)⟩
end PD
/-! own[i] += e. -/
namespace PD
open PySem PySem.Spec PyProof.Rows L2
section
variable {X : Cx} {RW : WX} {e : Expr} {pos : Pos}
theorem get_listA : PGet X (fun o i H Q => ∃ p xs k v, o = .ref p ∧ i = .int k ∧ H p = some (.lst xs) ∧ atI xs k = some v ∧ Q v H) := by
  intro pins s σ H x y u v Q I rx ry h
  obtain ⟨p, xs, k, w, rfl, rfl, hp, hat, q⟩ := h
  cases (show u = Value.ref p from rx)
  obtain ⟨t, rfl⟩ := (show ∃ t, v = Value.int k t from ry)
  obtain ⟨its, r, pl, hz⟩ := I.list (SqL.of hp)
  obtain ⟨j, h1, h2, h3, h4, h5⟩ := atI_get hat
  obtain ⟨wv, ew, rw'⟩ := r.get h2
  have hl := r.length
  have hn := line63
  have fin : EP X pins σ Q wv s := ⟨w, H, I, rw', q⟩
  rcases Int.lt_or_le k 0 with h0 | h0
  · have hj : (k + (its.toArray.size : Int)).toNat = j := by
      rw [seqIndex_neg h0 h4] at h1
      rw [List.size_toArray, ← hl]
      exact Option.some.inj h1
    refine wpAny_getItem_list_neg pl.isList h0 ?_ ?_ (by rw [hj]; simpa using ew) fin
    · rw [List.size_toArray, ← hl]; omega
    · omega
  · have hj : k.toNat = j := by
      rw [seqIndex_of h0 h5] at h1
      exact Option.some.inj h1
    exact wpAny_getItem_list pl.isList h0 (by omega) (by rw [hj]; simpa using ew) fin
def iaugS (i : Nat) (di de : Den D) : SDen := fun ρ m => match slotAt ρ i with
  | .own (.lst ds) => bindS (di ρ m) ρ fun k m1 => (match k with
    | .int j => (match ixN ds.length j with
      | some n => (match ds[n]? with
        | some x => bindS (de ρ m1) ρ fun d m2 => (match ipAddD x d with
          | .ok y => .nx (ρ.set i (.own (.lst (ds.set n y)))) m2
          | _ => .bad)
        | none => .bad)
      | none => .bad)
    | _ => .bad)
  | _ => .bad
theorem sd_iaug {i : Nat} {x : Str} {ei : Expr} {di de : Den D} {px tpos : Pos} (hv : PE X (.Name x px) (tVar i)) (hi : PE X ei (tX X.K X.mg RW di (pLook X.K X.mg))) (he : PE X e (tX X.K X.mg RW de (pLook X.K X.mg)))
    (ha : ∀ ov iv new, augStore ei ov iv new = (do holding [new, ov, iv] (setItem ov iv new); release [new, ov, iv] []; pure .next) := by intros; rfl) : PS X (.AugAssign (.Subscript (.Name x px) ei tpos) .Add e pos) (tB X.K X.mg RW (iaugS i di de)) :=
  PS.imp (ps_augS hv hi get_listA he ip_add set_list ha) fun D σ H ⟨B, F0, z, ow, ρ, m, S, q⟩ => by
    unfold iaugS at q
    split at q
    · rename_i ds hs
      obtain ⟨hg, a, o, e3, hH, xs, rfl, r⟩ := slot_own S hs
      refine ⟨.ref a, e3, B, F0, z, ow, ρ, m, S, Rem.stepS q fun k m1 B1 z1 ow1 kv H1 hB hz S1 pk q1 => ?_⟩
      have S1' := S1.weak hB
      obtain ⟨_, a1, o1, e4, hH1, xs1, rfl, r1⟩ := slot_own S1' hs
      rw [e3] at e4
      cases e4
      cases k with
      | int j =>
        dsimp only at q1
        cases hn : ixN ds.length j with
        | none => rw [hn] at q1; exact q1.elim
        | some n =>
          rw [hn] at q1
          dsimp only at q1
          cases hx : ds[n]? with
          | none => rw [hx] at q1; exact q1.elim
          | some dx =>
            rw [hx] at q1
            obtain ⟨v, hv, rv⟩ := r1.get hx
            refine ⟨a, xs1, j, v, rfl, look_int pk, hH1, by unfold atI; rw [← r1.len, hn]; exact hv, ?_⟩
            refine ⟨B, F0, z1, ow1, ρ, m1, S1', Rem.stepS q1 fun d m2 B2 z2 ow2 w H2 hB2 hz2 S2 pd q2 => ?_⟩
            have S2' := S2.weak hB2
            obtain ⟨_, a2, o2, e5, hH2, xs2, rfl, r2⟩ := slot_own S2' hs
            rw [e3] at e5
            cases e5
            cases dx with
            | int i0 =>
              cases d with
              | int j0 =>
                refine ⟨i0, j0, rep_int.mp rv, look_int pd, a, xs2, j, n, rfl, look_int pk, hH2, by rw [← r2.len]; exact hn, ?_⟩
                exact q2 z2 _ σ _ (Fz.le.refl _) (S2'.change hg e3 ⟨_, rfl, r2.set n (rep_int.mpr rfl)⟩)
              | _ => exact q2.elim
            | _ => exact q2.elim
      | _ => exact q1.elim
    · exact q.elim
end
end PD
/-! The plain side of the newer rules. -/
namespace PD
open PySem PySem.Spec PyProof.Rows L2
section
variable {α β : Type} {ρ ρ' : List Slot} {m m' : List Ob}
@[simp] theorem bind_err (x : Exn) (k : α → Res β) : (Res.err x m : Res α).bind k = .err x m := byEq rfl
@[simp] theorem bindS_err (x : Exn) (k : α → List Ob → Out) : bindS (.err x m') ρ k = .er x ρ m' := byEq rfl
@[simp] theorem raiseS_ev (x : Str) : raiseS x ρ m = .er ⟨x, []⟩ ρ m := byEq rfl
@[simp] theorem heldD_row (g : D) : heldD (.row g) = .ok g := byEq rfl
@[simp] theorem isRowD_row (g : D) : isRowD (.row g) = .ok (.bl true) := byEq rfl
@[simp] theorem dOwn1_ev (f : FDen) (de : Den D) : dOwn1 f de ρ m = (de ρ m).bind fun x => match x.1 with
  | .row g => noErr (f [.row g] x.2)
  | _ => .bad := byEq rfl
@[simp] theorem noErr_ok (r : D × List Ob) : noErr (.ok r) = .ok r := byEq rfl
@[simp] theorem dLenRow_ev (f : FDen) (de : Den D) : dLenRow f de ρ m = (de ρ m).bind fun x => match x.1 with
  | .row g => asLen (f [.row g] x.2)
  | _ => .bad := byEq rfl
@[simp] theorem dEqRow_ev (f : FDen) (da db : Den D) : dEqRow f da db ρ m = (da ρ m).bind fun x => (db ρ x.2).bind fun y => match x.1, y.1 with
  | .row g, .row k => noErr (f [.row g, .row k] y.2)
  | .row g, .tup k => noErr (f [.row g, .tup k] y.2)
  | _, _ => .bad := byEq rfl
@[simp] theorem dMkRow_ev (da : Den D) : dMkRow da ρ m = (da ρ m).bind fun x => rowN x.1 x.2 := byEq rfl
theorem rowN_ok {g : D} (h : rowOk g = true) : rowN g m = .ok (.row g, m) := if_pos h
@[simp] theorem dUnN_ev (g : D → Res Cont) (da : Den D) : dUnN g da ρ m = (da ρ m).bind fun x => (g x.1).bind fun d => .ok (d, x.2) := byEq rfl
@[simp] theorem dTupE_ev (da : Den (List D)) : dTupE da ρ m = (da ρ m).bind fun x => if x.1.length ≤ 16777216 then .ok (.etp x.1, x.2) else .bad := by rw [← szl_eq]; rfl
@[simp] theorem plainT_etp (xs : List D) : plainT (.etp xs) = .ok (.tup xs) := byEq rfl
@[simp] theorem plainT_tup (xs : List D) : plainT (.tup xs) = .ok (.tup xs) := byEq rfl
@[simp] theorem catE_etp (a b : List D) : catE (.etp a) (.etp b) = if a.length + b.length ≤ 16777216 then .ok (.etp (a ++ b)) else .bad := by rw [← szl_eq]; rfl
@[simp] theorem tupleE_lst (xs : List D) : tupleE (.lst xs) = .ok (.etp xs) := byEq rfl
@[simp] theorem dMethE_ev (g : D → List D → Res D) (de : Den D) (da : Den (List D)) : dMethE g de da ρ m = (de ρ m).bind fun x => match x.1 with
  | .etp ds => (da ρ x.2).bind fun xs => (g (.etp ds) xs.1).bind fun d => .ok (d, xs.2)
  | _ => .bad := byEq rfl
@[simp] theorem dCallFn_ev (n : Nat) (l : List (Str × FDen)) (dc : Den D) (da : Den (List D)) : dCallFn n l dc da ρ m = (dc ρ m).bind fun x => match x.1 with
  | .fn y => (match l.lookup y with
    | some f => (da ρ x.2).bind fun xs => if xs.1.length = n then f xs.1 xs.2 else .bad
    | none => .bad)
  | _ => .bad := byEq rfl
@[simp] theorem dEnum_ev (da : Den D) : dEnum da ρ m = (da ρ m).bind fun x => match x.1 with
  | .lst xs => .ok (enumL 0 xs, x.2)
  | _ => .bad := byEq rfl
@[simp] theorem dEnumT_ev (da : Den D) : dEnumT da ρ m = (da ρ m).bind fun x => match x.1 with
  | .tup xs => .ok (enumL 0 xs, x.2)
  | _ => .bad := byEq rfl
@[simp] theorem iaugS_ev (i : Nat) (di de : Den D) : iaugS i di de ρ m = match slotAt ρ i with
  | .own (.lst ds) => bindS (di ρ m) ρ fun k m1 => (match k with
    | .int j => (match ixN ds.length j with
      | some n => (match ds[n]? with
        | some x => bindS (de ρ m1) ρ fun d m2 => (match ipAddD x d with
          | .ok y => .nx (ρ.set i (.own (.lst (ds.set n y)))) m2
          | _ => .bad)
        | none => .bad)
      | none => .bad)
    | _ => .bad)
  | _ => .bad := byEq rfl
end
end PD
/-! list(range(n)), tuple(range(n)). -/
namespace PD
open PySem PySem.Spec PyProof.Rows L2
theorem reps_irange {K : PySem.W.Frag} {mg : Str → Option Value} {z : Fz} : ∀ (n : Nat) (lo : Int), Reps K mg z (irange lo n) ((List.range n).map fun i => V.int (lo + (i : Nat)))
  | 0, _ => .nil
  | n + 1, lo => by
    rw [irange, List.range_succ_eq_map, List.map_cons, List.map_map]
    refine .cons (rep_int.mpr (by simp)) ?_
    have h := reps_irange (K := K) (mg := mg) (z := z) n (lo + 1)
    have e : (List.range n).map (fun i => V.int (lo + 1 + (i : Nat))) = (List.range n).map ((fun i => V.int (lo + (i : Nat))) ∘ Nat.succ) := List.map_congr_left fun k _ => by
      show V.int (lo + 1 + (k : Int)) = V.int (lo + ((k + 1 : Nat) : Int))
      congr 1
      omega
    rw [← e]
    exact h
def rgN : D → Res Cont
  | .int n => if -(4611686018427387904) ≤ n ∧ n ≤ 16777216 then .ok (.lst (irange 0 n.toNat)) else .bad
  | _ => .bad
def rgT : D → Res D
  | .int n => if -(4611686018427387904) ≤ n ∧ n ≤ 16777216 then .ok (.tup (irange 0 n.toNat)) else .bad
  | _ => .bad
section
variable {X : Cx} {RW : WX} {e : Expr} {pos : Pos}
theorem rgV_eq {K : PySem.W.Frag} {mg : Str → Option Value} {z : Fz} (n : Int) : Reps K mg z (irange 0 n.toNat) (rgV 0 n) := by
  unfold rgV
  rw [show (n - 0).toNat = n.toNat by omega]
  exact reps_irange _ _
theorem pd_listRg {da : Den D} {p q : Pos} (hc : X.calm = true) (hg : Gl X "list") (hm : X.mg "list" = none) (hg2 : Gl X "range") (hm2 : X.mg "range" = none) (ha : PE X e (tX X.K X.mg RW da (pLook X.K X.mg)))
    (n1 : starEach [e] X.env = (false, eval e X.env) :: starEach [] X.env := by rfl) (n2 : starEach [.Call (.Name "range" q) [e] [] pos] X.env = (false, eval (.Call (.Name "range" q) [e] [] pos) X.env) :: starEach [] X.env := by rfl) {p0 : Pos} :
    PE X (.Call (.Name "list" p) [.Call (.Name "range" q) [e] [] pos] [] p0) (tX X.K X.mg RW (dUnN rgN da) (pNew X.K X.mg)) :=
  PE.imp (pe_listRg hc hg hm (prg_1 hg2 hm2 ha n1) n2) fun σ H Q q => tX.imp q fun B F0 z ow ρ m S h => Rem.step pNew.pm h fun d m1 B1 z1 ow1 v H1 hB hz S1 px h1 => by
    cases d with
    | int n =>
      by_cases hn : -(4611686018427387904) ≤ n ∧ n ≤ 16777216
      · have h1 : Rem X.K X.mg RW ((rgN (.int n)).bind fun d => .ok (d, m1)) B1 F0 z1 ρ σ (pNew X.K X.mg) Q := h1
        rw [show rgN (.int n) = .ok (.lst (irange 0 n.toNat)) from if_pos hn] at h1
        exact ⟨n, look_int px, ⟨by omega, by omega, by omega, by omega, by omega⟩, fun q hq => Rem.newLst (ds := irange 0 n.toNat) h1 S1 (rgV_eq n) hq⟩
      · have h1 : Rem X.K X.mg RW ((rgN (.int n)).bind fun d => .ok (d, m1)) B1 F0 z1 ρ σ (pNew X.K X.mg) Q := h1
        rw [show rgN (.int n) = .bad from if_neg hn] at h1
        exact h1.elim
    | _ => exact h1.elim
theorem pd_tupRg {da : Den D} {p q : Pos} (hc : X.calm = true) (hg : Gl X "tuple") (hm : X.mg "tuple" = none) (hg2 : Gl X "range") (hm2 : X.mg "range" = none) (ha : PE X e (tX X.K X.mg RW da (pLook X.K X.mg)))
    (n1 : starEach [e] X.env = (false, eval e X.env) :: starEach [] X.env := by rfl) (n2 : starEach [.Call (.Name "range" q) [e] [] pos] X.env = (false, eval (.Call (.Name "range" q) [e] [] pos) X.env) :: starEach [] X.env := by rfl) {p0 : Pos} :
    PE X (.Call (.Name "tuple" p) [.Call (.Name "range" q) [e] [] pos] [] p0) (tX X.K X.mg RW (dUn rgT da) (pVal X.K X.mg)) :=
  PE.imp (pe_tupRg hc hg hm (prg_1 hg2 hm2 ha n1) n2) fun σ H Q q => tX.imp q fun B F0 z ow ρ m S h => Rem.step pVal.pm h fun d m1 B1 z1 ow1 v H1 hB hz S1 px h1 => by
    cases d with
    | int n =>
      by_cases hn : -(4611686018427387904) ≤ n ∧ n ≤ 16777216
      · have h1 : Rem X.K X.mg RW ((rgT (.int n)).bind fun d => .ok (d, m1)) B1 F0 z1 ρ σ (pVal X.K X.mg) Q := h1
        rw [show rgT (.int n) = .ok (.tup (irange 0 n.toNat)) from if_pos hn] at h1
        exact ⟨n, look_int px, ⟨by omega, by omega, by omega, by omega, by omega⟩, fun q hq => Rem.newTup (ds := irange 0 n.toNat) h1 S1 (rgV_eq n) hq⟩
      · have h1 : Rem X.K X.mg RW ((rgT (.int n)).bind fun d => .ok (d, m1)) B1 F0 z1 ρ σ (pVal X.K X.mg) Q := h1
        rw [show rgT (.int n) = .bad from if_neg hn] at h1
        exact h1.elim
    | _ => exact h1.elim
theorem rgN_nat {n : Nat} (h : n ≤ 16777216) : rgN (.int (n : Int)) = .ok (.lst ((List.range n).map fun (k : Nat) => D.int (k : Int))) := by
  unfold rgN
  dsimp only
  rw [if_pos ⟨by omega, by omega⟩, irange_eq, Int.toNat_natCast]
  congr 2
  exact List.map_congr_left fun k _ => by rw [Int.zero_add]
end
end PD
/-! try .. except. -/
namespace PD
open PySem PySem.Spec PyProof.Rows L2
/-- the error classes stand directly under one -/
def subE (a b : Str) : Bool := decide (a = b) || decide (b = ("PullError" : Str))
def errB (As Bs : List Str) : Fb := fun K => As.all fun a => Bs.all fun b => decide (PySem.W.exmOne K (.ref (cA K a)) (.ref (cA K b)) = some (subE a b))
structure ErrK (K : PySem.W.Frag) (mg : Str → Option Value) (As Bs : List Str) : Prop where
  as : ∀ a ∈ As, mg a = some (.ref (cA K a))
  bs : ∀ b ∈ Bs, mg b = some (.ref (cA K b))
  ex : ∀ a ∈ As, ∀ b ∈ Bs, PySem.W.exmOne K (.ref (cA K a)) (.ref (cA K b)) = some (subE a b)
theorem errK_ok {K : PySem.W.Frag} {mg : Str → Option Value} {As Bs : List Str} (h1 : ∀ a ∈ As, mg a = some (.ref (cA K a))) (h2 : ∀ b ∈ Bs, mg b = some (.ref (cA K b))) (h : errB As Bs K = true) : ErrK K mg As Bs :=
  ⟨h1, h2, fun a ha b hb => of_decide_eq_true (List.all_eq_true.mp (List.all_eq_true.mp h a ha) b hb)⟩
def hands (As : List Str) (x : Exn) : List (Str × SDen) → SDen
  | [] => fun ρ m => .er x ρ m
  | (c, s) :: r => fun ρ m => if As.contains x.cls = true then (if subE x.cls c = true then (match s ρ m with
    | .er _ _ _ => .bad
    | o => o) else hands As x r ρ m) else .bad
def tryS (As : List Str) (b : SDen) (l : List (Str × SDen)) : SDen := fun ρ m => match b ρ m with
  | .er x ρ' m' => hands As x l ρ' m'
  | o => o
section
variable {X : Cx} {RW : WX} {pos : Pos}
theorem ErrK.nm {As Bs : List Str} {c : Str} (E : ErrK X.K X.mg As Bs) (hc : c ∈ Bs) (hg : Gl X c) (hd : (c == ("__debug__" : Str)) = false) : Names X c (.ref (cA X.K c)) := ⟨hg, hd, .inl (E.bs c hc)⟩
abbrev hdT (X : Cx) (p : Str × SDen) : Value × (Addr → Value → Option Addr → TS) := (.ref (cA X.K p.1), fun _ _ _ => tB X.K X.mg noRW p.2)
theorem hd_nil : HdsOk X [] (([] : List (Str × SDen)).map (hdT X)) := .nil
theorem hd_cons {As Bs : List Str} {c : Str} {s : SDen} {b₀ : Stmt} {su : List Stmt} {np pos' : Pos} {hds : List ExceptHandler} {l : List (Str × SDen)} (E : ErrK X.K X.mg As Bs) (hc : c ∈ Bs) (hg : Gl X c)
    (hsu : ∀ (a : Addr) (oe : Obj) (pn : List (Addr × Obj)), PSs (X.suite a ((a, oe) :: pn)) (b₀ :: su) (tB X.K X.mg noRW s)) (r : HdsOk X hds (l.map (hdT X))) (hd : (c == ("__debug__" : Str)) = false := by decide) :
    HdsOk X (.ExceptHandler (some (.Name c np)) none (b₀ :: su) pos' :: hds) (((c, s) :: l).map (hdT X)) := .cons (E.nm hc hg hd) (fun a oe cls d pn _ _ => hsu a oe pn) r
theorem hands_rem {As Bs : List Str} (E : ErrK X.K X.mg As Bs) {x : Exn} {ρ : List Slot} {m : List Ob} {B F0 : Hp} {z : Fz} {D : Ends} : ∀ {l : List (Str × SDen)}, (∀ p ∈ l, p.1 ∈ Bs) → RemS X.K X.mg RW (hands As x l ρ m) B F0 z D →
    ∀ z' ow' σ' cv dd H', z.le z' → StOk X.K X.mg B F0 z' ow' ρ m σ' H' → ExcAt X.mg x cv dd z'.F → wMany X.K RW D (l.map (hdT X)) cv dd σ' H'
  | [], _, h, z', ow', σ', cv, dd, H', hz, S, ex => h z' ow' σ' cv dd H' hz S ex
  | (c, s) :: l, hl, h, z', ow', σ', cv, dd, H', hz, S, ex => by
    simp only [hands] at h
    by_cases hA : As.contains x.cls = true
    · rw [if_pos hA] at h
      have hA2 : x.cls ∈ As := by simpa using hA
      have hc : c ∈ Bs := hl (c, s) (List.mem_cons_self ..)
      obtain ⟨C, hC, e, _⟩ := id ex
      rw [E.as _ hA2] at hC
      cases hC
      refine ⟨subE x.cls c, by rw [e]; exact E.ex _ hA2 _ hc, fun hb a ha => ?_, fun hb => ?_⟩
      · rw [hb, if_pos rfl] at h
        have key : RemS X.K X.mg noRW (s ρ m) B F0 z D := by
          cases ho : s ρ m with
          | nx ρ' m' => rw [ho] at h; exact h
          | rt d m' => rw [ho] at h; exact h
          | bk ρ' m' => rw [ho] at h; exact h
          | ct ρ' m' => rw [ho] at h; exact h
          | er x ρ' m' => rw [ho] at h; exact h.elim
          | bad => rw [ho] at h; exact h.elim
        exact ⟨B, F0, z', ow', ρ, m, S, key.mono hz⟩
      · rw [hb, if_neg (by simp)] at h
        exact hands_rem E (fun p hp => hl p (List.mem_cons_of_mem _ hp)) h z' ow' σ' cv dd H' hz S ex
    · rw [if_neg hA] at h; exact h.elim
theorem sd_try {As Bs : List Str} {body : List Stmt} {h₀ : ExceptHandler} {hds : List ExceptHandler} {b : SDen} {l : List (Str × SDen)} (hs : X.stack = X.env :: X.outer) (hf : X.env.frame = some X.env.locals) (E : ErrK X.K X.mg As Bs) (tk : Takes X RW)
    (hb : ∀ (W : WX) (pn : List (Addr × Obj)) (xe : Value → Shared → Prop), Takes (X.tr pn xe) W → PassesOwn (model X.prog X.w) X.A X.env xe → PSs (X.tr pn xe) body (tB X.K X.mg W b)) (hh : HdsOk X (h₀ :: hds) (l.map (hdT X))) (hl : ∀ p ∈ l, p.1 ∈ Bs) :
    PS X (.Try body (h₀ :: hds) [] [] pos) (tB X.K X.mg RW (tryS As b l)) :=
  PS.imp (ps_try_many (tb := fun W => tB X.K X.mg W b) hs hf tk hb hh) fun D σ H ⟨B, F0, z, ow, ρ, m, S, q⟩ => by
    refine ⟨B, F0, z, ow, ρ, m, S, ?_⟩
    unfold tryS at q
    cases ho : b ρ m with
    | nx ρ' m' => rw [ho] at q; exact q
    | rt d m' => rw [ho] at q; exact q
    | bk ρ' m' => rw [ho] at q; exact q
    | ct ρ' m' => rw [ho] at q; exact q
    | er x ρ' m' =>
      rw [ho] at q
      exact hands_rem E hl q
    | bad => rw [ho] at q; exact q
end
/-! ### except X as e -/
theorem StOk.setExc {K : PySem.W.Frag} {mg : Str → Option Value} {B F0 : Hp} {z : Fz} {ow : Own} {ρ : List Slot} {m : List Ob} {σ : St} {H : Hp} (S : StOk K mg B F0 z ow ρ m σ H) {i : Nat} {a : Addr} {d : Option Addr} {x : Exn} (r : ExcSl z (some (.ref a)) a d x) : StOk K mg B F0 z (ow.drop i) (ρ.set i (.exc a d x)) m (σ.set i (some (.ref a))) H := by
  have q := S.setNon (i := i) (some (V.ref a))
  refine ⟨q.fh, q.bh, q.f0, q.new, by simpa using S.len, fun j s e => ?_, q.ol, q.ob, q.ow⟩
  by_cases hj : i = j
  · subst hj
    obtain ⟨hl, _⟩ := List.getElem?_eq_some_iff.mp e
    have hl' : i < ρ.length := by simpa using hl
    rw [List.getElem?_set_self hl'] at e
    cases e
    rw [join_set (by rw [S.len]; exact hl')]
    exact r
  · rw [List.getElem?_set_ne hj] at e
    exact q.slot j s (by rw [List.getElem?_set_ne hj]; exact e)
/-- behind the suite its name is gone; no error leaves it -/
def clearO (i : Nat) : Out → Out
  | .nx ρ m => .nx (ρ.set i .non) m
  | .bk ρ m => .bk (ρ.set i .non) m
  | .ct ρ m => .ct (ρ.set i .non) m
  | .rt d m => .rt d m
  | .er _ _ _ => .bad
  | .bad => .bad
abbrev EDen := Addr → Option Addr → Exn → SDen
/-- what it does hangs on no address -/
def Alike (i : Nat) (s : EDen) : Prop := ∀ (a : Addr) (d : Option Addr) (x : Exn) (ρ : List Slot) (m : List Ob), clearO i (s a d x (ρ.set i (.exc a d x)) m) = clearO i (s 0 none x (ρ.set i (.exc 0 none x)) m)
def tryAsS (As : List Str) (c : Str) (i : Nat) (b : SDen) (s : EDen) : SDen := fun ρ m => match b ρ m with
  | .er x ρ' m' => if As.contains x.cls = true then (if subE x.cls c = true then clearO i (s 0 none x (ρ'.set i (.exc 0 none x)) m') else .er x ρ' m') else .bad
  | o => o
theorem clear_rem {K : PySem.W.Frag} {mg : Str → Option Value} {RW : WX} {B F0 : Hp} {z : Fz} {D : Ends} {i : Nat} {o : Out} (h : RemS K mg RW (clearO i o) B F0 z D) :
    RemS K mg noRW o B F0 z { nx := fun σ' H' => D.nx (σ'.set i none) H', rt := D.rt, bk := fun σ' H' => D.bk (σ'.set i none) H', ct := fun σ' H' => D.ct (σ'.set i none) H' } := by
  cases o with
  | nx ρ m => exact fun z' ow' σ' H' hz S => h z' _ _ H' hz (S.setNon none)
  | bk ρ m => exact fun z' ow' σ' H' hz S => h z' _ _ H' hz (S.setNon none)
  | ct ρ m => exact fun z' ow' σ' H' hz S => h z' _ _ H' hz (S.setNon none)
  | rt d m => exact h
  | er x ρ m => exact h.elim
  | bad => exact h.elim
section
variable {X : Cx} {RW : WX} {pos : Pos}
theorem sd_tryAs {As Bs : List Str} {c n : Str} {i : Nat} {np pos' : Pos} {body su : List Stmt} {b₀ : Stmt} {b : SDen} {s : EDen} (hs : X.stack = X.env :: X.outer) (hf : X.env.frame = some X.env.locals) (hN : X.N.Nodup) (hi : X.N[i]? = some n) (hln : X.env.kindOf n = some .local) (E : ErrK X.K X.mg As Bs) (hcB : c ∈ Bs) (hg : Gl X c) (tk : Takes X RW)
    (hb : ∀ (W : WX) (pn : List (Addr × Obj)) (xe : Value → Shared → Prop), Takes (X.tr pn xe) W → PassesOwn (model X.prog X.w) X.A X.env xe → PSs (X.tr pn xe) body (tB X.K X.mg W b))
    (hsu : ∀ (a : Addr) (d : Option Addr) (x : Exn) (oe : Obj) (pn : List (Addr × Obj)), As.contains x.cls = true → (x.args = [] → d = none) → Zc (.ref (cA X.K x.cls)) d oe → (∃ vs, oe.data = .fields vs) → PSs (X.suite a ((a, oe) :: pn)) (b₀ :: su) (tB X.K X.mg noRW (s a d x)))
    (hu : Alike i s) (hd : (c == ("__debug__" : Str)) = false := by decide) :
    PS X (.Try body [.ExceptHandler (some (.Name c np)) (some n) (b₀ :: su) pos'] [] [] pos) (tB X.K X.mg RW (tryAsS As c i b s)) :=
  PS.imp (ps_try_as (tb := fun W => tB X.K X.mg W b) (ts := fun a cls d D σ H => ∃ x : Exn, As.contains x.cls = true ∧ (x.args = [] → d = none) ∧ cls = .ref (cA X.K x.cls) ∧ tB X.K X.mg noRW (s a d x) D σ H) hs hf hN hi hln (E.nm hcB hg hd) tk hb
    fun a oe cls d pn hz hf => ⟨fun pins st σ H D I ⟨x, h1, h0, h2, q⟩ => by subst h2; exact (hsu a d x oe pn h1 h0 hz hf).run pins st σ H D I q⟩) fun D σ H ⟨B, F0, z, ow, ρ, m, S, q⟩ => by
    refine ⟨B, F0, z, ow, ρ, m, S, ?_⟩
    unfold tryAsS at q
    cases ho : b ρ m with
    | nx ρ' m' => rw [ho] at q; exact q
    | rt d m' => rw [ho] at q; exact q
    | bk ρ' m' => rw [ho] at q; exact q
    | ct ρ' m' => rw [ho] at q; exact q
    | bad => rw [ho] at q; exact q
    | er x ρ' m' =>
      rw [ho] at q
      intro z' ow' σ' cv dd H' hz' S' ex
      dsimp only at q
      by_cases hA : As.contains x.cls = true
      · rw [if_pos hA] at q
        have hA2 : x.cls ∈ As := by simpa using hA
        obtain ⟨C, hC, e, hno, hlw⟩ := id ex
        rw [E.as _ hA2] at hC
        cases hC
        subst e
        refine ⟨subE x.cls c, E.ex _ hA2 _ hcB, fun hb a ha => ?_, fun hb => ?_⟩
        · rw [hb, if_pos rfl, ← hu a dd x] at q
          exact ⟨x, hA, hno, rfl, B, F0, z', _, _, m', S'.setExc (a := a) (d := dd) (x := x) ⟨rfl, hlw⟩, RemS.mono (RW := noRW) hz' (clear_rem q)⟩
        · rw [hb, if_neg (by simp)] at q
          exact q z' ow' σ' _ dd H' hz' S' ex
      · rw [if_neg hA] at q; exact q.elim
/-! ### what is asked of the error -/
def dIsE (a : Addr) (i : Nat) (x : Exn) (y : Str) : Den D := fun ρ m => match slotAt ρ i with
  | .exc a' _ _ => if a' = a ∧ x.args.length = 0 then .ok (.bl (subE x.cls y), m) else .bad
  | _ => .bad
def excB (x : Str) : Fb := fun K => decide (PySem.W.findIn K (.ref (cA K x)) "__getattribute__" = some (some (.builtin "BaseException.__getattribute__"))) && (decide (PySem.W.findIn K (.ref (cA K x)) "__getattr__" = some none) && (decide (PySem.W.subIn K (.ref (cA K x)) (.type "BaseException") = some true) &&
  (PySem.W.hasDictIn K (cA K x) && (decide (PySem.W.findIn K (.ref (cA K x)) "__class__" = some (some (.builtin "object.__class__"))) && (decide (PySem.W.specialIn K (.builtin "object.__class__") "__get__" = some (some (.builtin "getset_descriptor.__get__"))) && (decide (PySem.W.takesIn K (.builtin "object.__class__") = some true) && decide (PySem.W.mroIn K (cA K x) (.type "object") = some true)))))))
theorem excB_ok {K : PySem.W.Frag} {x : Str} (h : excB x K = true) : ExcC K (cA K x) := by
  obtain ⟨h1, h⟩ := He.ba h
  obtain ⟨h2, h⟩ := He.ba h
  obtain ⟨h3, h⟩ := He.ba h
  obtain ⟨h4, h⟩ := He.ba h
  obtain ⟨h5, h⟩ := He.ba h
  obtain ⟨h6, h⟩ := He.ba h
  obtain ⟨h7, h8⟩ := He.ba h
  exact ⟨of_decide_eq_true h1, of_decide_eq_true h2, of_decide_eq_true h3, h4, of_decide_eq_true h5, of_decide_eq_true h6, of_decide_eq_true h7, of_decide_eq_true h8⟩
/-- isinstance of errors -/
structure IsEK (K : PySem.W.Frag) (mg : Str → Option Value) (As Bs : List Str) : Prop where
  as : ∀ a ∈ As, ExcC K (cA K a)
  bs : ∀ b ∈ Bs, mg b = some (.ref (cA K b))
  kit : ∀ a ∈ As, ∀ b ∈ Bs, PySem.W.kitOne K (.ref (cA K a)) (.ref (cA K b)) = some (subE a b)
def isEB (As Bs : List Str) : Fb := fun K => As.all fun a => excB a K && Bs.all fun b => decide (PySem.W.kitOne K (.ref (cA K a)) (.ref (cA K b)) = some (subE a b))
theorem isEK_ok {K : PySem.W.Frag} {mg : Str → Option Value} {As Bs : List Str} (h2 : ∀ b ∈ Bs, mg b = some (.ref (cA K b))) (h : isEB As Bs K = true) : IsEK K mg As Bs :=
  ⟨fun a ha => excB_ok (He.ba (List.all_eq_true.mp h a ha)).1, h2, fun a ha b hb => of_decide_eq_true (List.all_eq_true.mp (He.ba (List.all_eq_true.mp h a ha)).2 b hb)⟩
theorem pe_bad {α β : Type} {e : Expr} {den : Den D} (h : ∀ ρ m, den ρ m = .bad) : PE X e (tX X.K X.mg RW den (pVal X.K X.mg)) := ⟨fun pins s σ H Q I ⟨B, F0, z, ow, ρ, m, S, r⟩ => by rw [h] at r; exact r.elim⟩
theorem pd_isE {As Bs : List Str} {a : Addr} {d : Option Addr} {x : Exn} {oe : Obj} {pn : List (Addr × Obj)} {i : Nat} {n y : Str} {p px p2 : Pos} (E : IsEK X.K X.mg As Bs) (hA : As.contains x.cls = true) (hy : y ∈ Bs) (h0 : x.args = [] → d = none) (hz : Zc (.ref (cA X.K x.cls)) d oe) (hf : ∃ vs, oe.data = .fields vs) (hv : PE (X.suite a ((a, oe) :: pn)) (.Name n px) (tVar i))
    (hg : Gl X "isinstance") (hm : X.mg "isinstance" = none) (hg2 : Gl X y) (hd : (y == ("__debug__" : Str)) = false := by decide)
    (hs : starEach (.Name n px :: [.Name y p2]) X.env = (false, eval (.Name n px) X.env) :: starEach [.Name y p2] X.env := by rfl) (hs2 : starEach [.Name y p2] X.env = (false, eval (.Name y p2) X.env) :: starEach [] X.env := by rfl) (hpl : (backTo pos (starEach [.Name y p2] X.env)).any (·.1) = false := by rfl) :
    PE (X.suite a ((a, oe) :: pn)) (.Call (.Name "isinstance" p) [.Name n px, .Name y p2] [] pos) (tX X.K X.mg RW (dIsE a i x y) (pVal X.K X.mg)) := by
  have hA2 : x.cls ∈ As := by simpa using hA
  by_cases hxa : x.args.length = 0
  case neg =>
    refine pe_bad (α := Unit) (β := Unit) (X := X.suite a ((a, oe) :: pn)) fun ρ m => ?_
    unfold dIsE
    split
    · rw [if_neg (fun z => hxa z.2)]
    · rfl
  have hd0 := h0 (List.length_eq_zero_iff.mp hxa)
  subst hd0
  refine PE.imp (pe_callB (X := X.suite a ((a, oe) :: pn)) (call_isE (X := X) (E.as _ hA2) hz hf) hg hm (by decide +kernel) (pa_cons hv (pa_cons (pe_glob (X := X.suite a ((a, oe) :: pn)) (v := .ref (cA X.K y)) hg2 (E.bs y hy) rfl hd) pa_nil hs2) hs) (by decide) (by decide) hs hpl) fun σ H Q ⟨B, F0, z, ow, ρ, m, S, r⟩ => ?_
  unfold dIsE at r
  cases hsl : slotAt ρ i with
  | exc a' d x' =>
    rw [hsl] at r
    dsimp only at r
    by_cases ha : a' = a
    · rw [if_pos ⟨ha, hxa⟩] at r
      subst ha
      obtain ⟨e1, _⟩ := S.slot i _ (slotAt_get hsl (by simp))
      refine ⟨.ref a', ?_, .ref (cA X.K y), .ref (cA X.K y), subE x.cls y, rfl, fun u hu => hu, E.kit _ hA2 _ hy, r.here S (rep_bl.mpr rfl)⟩
      cases q : σ[i]? with
      | none => rw [q] at e1; cases e1
      | some u => rw [q] at e1; exact congrArg some e1
    · rw [if_neg (fun z => ha z.1)] at r; exact r.elim
  | non => rw [hsl] at r; exact r.elim
  | sh d => rw [hsl] at r; exact r.elim
  | own c => rw [hsl] at r; exact r.elim
end
end PD
/-! dicts of ints and texts: displays, d[k], k in d. -/
namespace PD
open PySem PySem.Spec PyProof.Rows L2
def keyOf : D → Option Key
  | .int i => some (.inl i)
  | .str s => some (.inr s)
  | _ => none
theorem keyOf_k (k : Key) : keyOf (keyD k) = some k := by cases k <;> rfl
theorem keyOf_eq {d : D} {k : Key} (h : keyOf d = some k) : d = keyD k := by
  cases d <;> simp only [keyOf, Option.some.injEq, reduceCtorEq] at h <;> subst h <;> rfl
theorem keyD_inj {a b : Key} (h : keyD a = keyD b) : a = b := by
  have := keyOf_k a
  rw [h, keyOf_k] at this
  exact (Option.some.inj this).symm
/-- what stands at a key -/
def atD (k : Key) : List D → List D → Option D
  | x :: ks, v :: vs => if keyOf x = some k then some v else atD k ks vs
  | _, _ => none
theorem atD_some {K : PySem.W.Frag} {mg : Str → Option Value} {z : Fz} {k : Key} : ∀ {kx : List Key} {vx : List V} {vs : List D}, kx.length = vx.length → Reps K mg z vs vx →
    (∀ d, atD k (kx.map keyD) vs = some d → ∃ v, valV (kx.zip vx) k = some v ∧ Rep K mg z d v) ∧ (atD k (kx.map keyD) vs = none → valV (kx.zip vx) k = none)
  | [], vx, vs, hl, r => ⟨fun d h => by simp [atD] at h, fun _ => rfl⟩
  | x :: kx, [], vs, hl, r => by simp at hl
  | x :: kx, v :: vx, vs, hl, r => by
    cases vs with
    | nil => simp only [Reps] at r
    | cons d0 vs =>
      simp only [Reps] at r
      simp only [List.map_cons, atD, keyOf_k, Option.some.injEq, List.zip_cons_cons]
      have ih := atD_some (k := k) (kx := kx) (vx := vx) (vs := vs) (by simpa using hl) r.2
      by_cases e : x = k
      · rw [if_pos e]
        refine ⟨fun d h => ?_, fun h => by simp at h⟩
        cases h
        exact ⟨v, valV_pos e, r.1⟩
      · rw [if_neg e, valV_neg e]
        exact ih
theorem look_dict {K : PySem.W.Frag} {mg : Str → Option Value} {z : Fz} {B B' F0 : Hp} {ow : Own} {ρ : List Slot} {m : List Ob} {σ : St} {H : Hp} {ks vs : List D} {v : V} (S : StOk K mg B F0 z ow ρ m σ H) (h : pLook K mg B' B z ρ σ (.dct false ks vs) v) :
    ∃ (a : Addr) (kx : List Key) (vx : List V), v = .ref a ∧ Rd H a (.dK (kx.zip vx)) ∧ kx.length = vx.length ∧ ks = kx.map keyD ∧ Reps K mg z vs vx := by
  obtain ⟨a, o, e, h1, vx, r, kx, hl, hk, ho⟩ := look_cont (c := .dct false ks vs) S h
  subst ho
  exact ⟨a, kx, vx, e, .inl h1, hl, hk, r⟩
def dgetD : D → D → Res D
  | .dct false ks vs, y => match keyOf y with
    | some k => match atD k ks vs with
      | some d => .ok d
      | none => .bad
    | none => .bad
  | _, _ => .bad
def dinD : D → D → Res D
  | y, .dct false ks vs => match keyOf y with
    | some k => .ok (.bl (atD k ks vs).isSome)
    | none => .bad
  | _, _ => .bad
def dnotinD : D → D → Res D
  | y, .dct false ks vs => match keyOf y with
    | some k => .ok (.bl (!(atD k ks vs).isSome))
    | none => .bad
  | _, _ => .bad
theorem look_key {K : PySem.W.Frag} {mg : Str → Option Value} {z : Fz} {B B' : Hp} {ρ : List Slot} {σ : St} {k : Key} {d : D} {v : V} (hk : keyOf d = some k) (h : pLook K mg B' B z ρ σ d v) : v = kV k := by
  rw [keyOf_eq hk] at h
  cases k with
  | inl i => exact look_int h
  | inr s => exact look_str h
section
variable {X : Cx} {RW : WX} {a b : Expr} {da db : Den D} {pos : Pos}
theorem dget_r : BinR X (fun x y H Q => ∃ a v, x = .ref a ∧ DGet H a y (some v) ∧ Q v H) dgetD := by
  intro RW B F0 z ow ρ m σ H x y dx dy Q S px py h
  unfold dgetD at h
  split at h
  · rename_i ks vs _
    split at h
    · rename_i k hk
      split at h
      · rename_i d hd
        obtain ⟨a, kx, vx, rfl, hr, hl, rfl, r⟩ := look_dict S px
        obtain ⟨v, hv, rv⟩ := (atD_some hl r).1 d hd
        exact ⟨a, v, rfl, .inl ⟨_, k, hr, look_key hk py, hv.symm⟩, h.here S rv⟩
      · exact h.elim
    · exact h.elim
  · exact h.elim
theorem pd_dget (hu : X.A.units + 1 < cLine) (ha : PE X a (tX X.K X.mg RW da (pLook X.K X.mg))) (hb : PE X b (tX X.K X.mg RW db (pLook X.K X.mg))) (hs : NoSl b := by exact fun _ _ => rfl) :
    PE X (.Subscript a b pos) (tX X.K X.mg RW (dBin dgetD da db) (pVal X.K X.mg)) := PE.imp (pe_dget hu ha hb hs) (two_step dget_r)
theorem din_look {z : Fz} {B F0 : Hp} {ow : Own} {ρ : List Slot} {m : List Ob} {σ : St} {H : Hp} {x y : V} {dy : D} {ks vs : List D} {k : Key} (S : StOk X.K X.mg B F0 z ow ρ m σ H) (hk : keyOf dy = some k) (py : pLook X.K X.mg B B z ρ σ dy y) (px : pLook X.K X.mg B B z ρ σ (.dct false ks vs) x) :
    ∃ a o, x = .ref a ∧ DGet H a y o ∧ o.isSome = (atD k ks vs).isSome := by
  obtain ⟨a, kx, vx, rfl, hr, hl, rfl, r⟩ := look_dict S px
  refine ⟨a, valV (kx.zip vx) k, rfl, .inl ⟨_, k, hr, look_key hk py, rfl⟩, ?_⟩
  cases hd : atD k (kx.map keyD) vs with
  | none => rw [(atD_some hl r).2 hd]; rfl
  | some d => obtain ⟨v, hv, _⟩ := (atD_some hl r).1 d hd; rw [hv]; rfl
theorem din_r : BinR X (fun y x H Q => ∃ a o, x = .ref a ∧ DGet H a y o ∧ Q (.bl o.isSome) H) dinD := by
  intro RW B F0 z ow ρ m σ H y x dy dx Q S py px h
  unfold dinD at h
  split at h
  · split at h
    · rename_i k hk
      obtain ⟨a, o, e, g, ho⟩ := din_look S hk py px
      exact ⟨a, o, e, g, h.here S (by rw [ho]; exact rep_bl.mpr rfl)⟩
    · exact h.elim
  · exact h.elim
theorem dnotin_r : BinR X (fun y x H Q => ∃ a o, x = .ref a ∧ DGet H a y o ∧ Q (.bl (!o.isSome)) H) dnotinD := by
  intro RW B F0 z ow ρ m σ H y x dy dx Q S py px h
  unfold dnotinD at h
  split at h
  · split at h
    · rename_i k hk
      obtain ⟨a, o, e, g, ho⟩ := din_look S hk py px
      exact ⟨a, o, e, g, h.here S (by rw [ho]; exact rep_bl.mpr rfl)⟩
    · exact h.elim
  · exact h.elim
theorem pd_din (hu : X.A.units + 1 < cLine) (ha : PE X a (tX X.K X.mg RW da (pLook X.K X.mg))) (hb : PE X b (tX X.K X.mg RW db (pLook X.K X.mg))) (hm : behindInMarks .In b = false) :
    PE X (.Compare a [.In] [b] pos) (tX X.K X.mg RW (dBin dinD da db) (pVal X.K X.mg)) := PE.imp (pe_cmp (pc_din hu ha hb) hm) (two_step din_r)
theorem ptd_din (hu : X.A.units + 1 < cLine) (ha : PE X a (tX X.K X.mg RW da (pLook X.K X.mg))) (hb : PE X b (tX X.K X.mg RW db (pLook X.K X.mg))) (hm : behindInMarks .In b = false) :
    PT X (.Compare a [.In] [b] pos) (tX X.K X.mg RW (dT (dBin dinD da db)) pTest) := PT.imp (pt_cmp (pc_din hu ha hb) hm) fun σ H Q q => two_step din_r σ H _ (test_of σ H Q q)
theorem pd_dnotin (hu : X.A.units + 1 < cLine) (ha : PE X a (tX X.K X.mg RW da (pLook X.K X.mg))) (hb : PE X b (tX X.K X.mg RW db (pLook X.K X.mg))) (hm : behindInMarks .NotIn b = false) :
    PE X (.Compare a [.NotIn] [b] pos) (tX X.K X.mg RW (dBin dnotinD da db) (pVal X.K X.mg)) := PE.imp (pe_cmp (pc_dnotin hu ha hb) hm) (two_step dnotin_r)
theorem ptd_dnotin (hu : X.A.units + 1 < cLine) (ha : PE X a (tX X.K X.mg RW da (pLook X.K X.mg))) (hb : PE X b (tX X.K X.mg RW db (pLook X.K X.mg))) (hm : behindInMarks .NotIn b = false) :
    PT X (.Compare a [.NotIn] [b] pos) (tX X.K X.mg RW (dT (dBin dnotinD da db)) pTest) := PT.imp (pt_cmp (pc_dnotin hu ha hb) hm) fun σ H Q q => two_step dnotin_r σ H _ (test_of σ H Q q)
end
/-! ### displays -/
def dpNil : Den (List (Key × D)) := fun _ m => .ok ([], m)
def dpCons (k : Key) (dv : Den D) (dr : Den (List (Key × D))) : Den (List (Key × D)) := fun ρ m => (dv ρ m).bind fun x => (dr ρ x.2).bind fun xs => .ok ((k, x.1) :: xs.1, xs.2)
def dDct (dp : Den (List (Key × D))) : Den Cont := fun ρ m => (dp ρ m).bind fun x => if (x.1.map (·.1)).Nodup ∧ x.1.length ≤ 15 then .ok (.dct false ((x.1.map (·.1)).map keyD) (x.1.map (·.2)), x.2) else .bad
section
variable (K : PySem.W.Frag) (mg : Str → Option Value)
def pPairs : Post (List (Key × D)) (List (V × V)) := fun _ _ z _ _ ds ps => ∃ vs, ps = ((ds.map (·.1)).zip vs).map (fun kv => (kV kv.1, kv.2)) ∧ Reps K mg z (ds.map (·.2)) vs
end
theorem pPairs.pm {K : PySem.W.Frag} {mg : Str → Option Value} : PMono (pPairs K mg) := fun _ _ _ _ _ _ _ _ _ h => h
structure PPd (X : Cx) (RW : WX) (pos : Pos) (keys : List (Option Expr)) (values : List Expr) (trs : List (TE × TE)) (dp : Den (List (Key × D))) : Prop where
  pps : PPs X pos keys values trs
  go : ∀ σ H (Q : List (V × V) → Hp → Prop), tX X.K X.mg RW dp (pPairs X.K X.mg) σ H Q → tPairs trs σ H Q
section
variable {X : Cx} {RW : WX} {pos : Pos}
theorem ppd_nil : PPd X RW pos [] [] [] dpNil := ⟨pps_nil, fun σ H Q ⟨B, F0, z, ow, ρ, m, S, h⟩ => h.here S ⟨[], rfl, .nil⟩⟩
theorem ppd_consS {x : Str} {v : Expr} {j p} {ks : List (Option Expr)} {vs : List Expr} {dv : Den D} {dr : Den (List (Key × D))} {trs : List (TE × TE)} (hv : PE X v (tX X.K X.mg RW dv (pVal X.K X.mg))) (hr : PPd X RW pos ks vs trs dr) :
    PPd X RW pos (some (.Constant (.str x) j p) :: ks) (v :: vs) ((tC (.str x), tX X.K X.mg RW dv (pVal X.K X.mg)) :: trs) (dpCons (.inr x) dv dr) := ⟨pps_cons pe_str hv hr.pps, fun σ H Q q => by
  refine tX.imp q fun B F0 z ow ρ m S h => Rem.step pPairs.pm h fun dx m1 B1 z1 ow1 y H1 hB hz S1 px h1 => ?_
  refine hr.go _ _ _ ⟨B1, F0, z1, ow1, ρ, m1, S1, Rem.step pPairs.pm h1 fun ds m2 B2 z2 ow2 ws H2 hB2 hz2 S2 ps h2 => ?_⟩
  obtain ⟨us, rfl, r⟩ := ps
  exact h2.here S2 ⟨y :: us, rfl, Reps.cons (Rep.le hz2 px) r⟩⟩
theorem ppd_consI {x : Int} {v : Expr} {j p} {ks : List (Option Expr)} {vs : List Expr} {dv : Den D} {dr : Den (List (Key × D))} {trs : List (TE × TE)} (hv : PE X v (tX X.K X.mg RW dv (pVal X.K X.mg))) (hr : PPd X RW pos ks vs trs dr) :
    PPd X RW pos (some (.Constant (.int x) j p) :: ks) (v :: vs) ((tC (.int x), tX X.K X.mg RW dv (pVal X.K X.mg)) :: trs) (dpCons (.inl x) dv dr) := ⟨pps_cons pe_int hv hr.pps, fun σ H Q q => by
  refine tX.imp q fun B F0 z ow ρ m S h => Rem.step pPairs.pm h fun dx m1 B1 z1 ow1 y H1 hB hz S1 px h1 => ?_
  refine hr.go _ _ _ ⟨B1, F0, z1, ow1, ρ, m1, S1, Rem.step pPairs.pm h1 fun ds m2 B2 z2 ow2 ws H2 hB2 hz2 S2 ps h2 => ?_⟩
  obtain ⟨us, rfl, r⟩ := ps
  exact h2.here S2 ⟨y :: us, rfl, Reps.cons (Rep.le hz2 px) r⟩⟩
theorem valV_absent {k : Key} : ∀ {kvs : List (Key × V)}, k ∉ kvs.map (·.1) → valV kvs k = none
  | [], _ => rfl
  | p :: r, h => by
    rw [List.map_cons, List.mem_cons, not_or] at h
    rw [valV_neg (fun e => h.1 e.symm)]
    exact valV_absent h.2
theorem mergeK_app : ∀ (more acc : List (Key × V)), ((acc ++ more).map (·.1)).Nodup → mergeK acc more = acc ++ more
  | [], acc, _ => by rw [List.append_nil]; rfl
  | p :: r, acc, h => by
    have e : acc ++ p :: r = (acc ++ [p]) ++ r := by rw [List.append_assoc]; rfl
    rw [e] at h ⊢
    rw [← mergeK_app r (acc ++ [p]) h]
    show mergeK (putK acc p.1 p.2) r = _
    rw [putK_new]
    rw [List.map_append, List.map_append, List.append_assoc, List.map_cons, List.map_nil] at h
    have h2 := (List.nodup_append.mp h).2.2
    exact valV_absent fun q => h2 _ q p.1 (by simp) rfl
theorem pd_dct {keys : List (Option Expr)} {values : List Expr} {trs : List (TE × TE)} {dp : Den (List (Key × D))} (h : PPd X RW pos keys values trs dp) (h0 : keys ≠ [] := by exact List.cons_ne_nil _ _) (hall : keys.all (·.isSome) = true := by rfl) (hl : keys.length = values.length := by rfl)
    (h15 : keys.length ≤ 15 := by decide) : PE X (.Dict keys values pos) (tX X.K X.mg RW (dDct dp) (pNew X.K X.mg)) :=
  PE.imp (pe_disp h.pps hall hl h0 h15) fun σ H Q ⟨B, F0, z, ow, ρ, m, S, q⟩ p hp => by
    have hn := S.new_none hp
    have S0 := S.keep hp (.dK [])
    have hF : F0 p = none := by
      cases e : F0 p with
      | none => rfl
      | some u => rw [S.f0 _ _ e] at hn; exact nomatch hn.1
    refine h.go _ _ _ ⟨_, F0, z, ow, ρ, m, S0, ?_⟩
    unfold dDct at q
    cases hd : dp ρ m with
    | bad => rw [hd] at q; exact q
    | err x m1 =>
      rw [hd] at q
      exact fun z' ow' cv dd H' hz S1 ex => q z' ow' cv dd H' hz (S1.weak (same_upd hn.2.1)) ex
    | ok r =>
      obtain ⟨ds, m1⟩ := r
      rw [hd] at q
      change Rem _ _ _ (if _ then _ else _) _ _ _ _ _ _ _ at q
      intro B1 z1 ow1 ps H1 hB hz S1 px
      have hH1 : H1 p = some (.dK []) := S1.bh _ _ (hB _ _ upd_same)
      obtain ⟨vs, rfl, r⟩ := px
      split at q
      · rename_i hc
        have hlen : ((ds.map (·.1)).zip vs).length = ds.length := by
          rw [List.length_zip, List.length_map, ← r.len, List.length_map, Nat.min_self]
        refine ⟨hH1, _, rfl, by rw [hlen]; exact hc.2, ?_⟩
        have hm : mergeK [] ((ds.map (·.1)).zip vs) = (ds.map (·.1)).zip vs := by
          have q := mergeK_app ((ds.map (·.1)).zip vs) [] (by
            rw [List.nil_append, List.map_fst_zip (by rw [List.length_map, ← r.len, List.length_map]; exact Nat.le_refl _)]
            exact hc.1)
          rwa [List.nil_append] at q
        rw [hm]
        have S2 := (S1.weak hB).rekeep (o' := .dK ((ds.map (·.1)).zip vs)) hF
        have hz1 : z1.F p = none := by
          cases e : z1.F p with
          | none => rfl
          | some u => rcases S1.new p (by rw [e]; simp) with w | w
                      · exact absurd hF w
                      · rw [hB _ _ upd_same] at w; cases w
        exact q _ z1 ow1 _ _ (same_upd hn.2.1) hz S2 ⟨p, _, rfl, hn.2.1, upd_same, hz1, vs, r, _, by rw [List.length_map, ← r.len, List.length_map], rfl, rfl⟩
      · exact q.elim
end
end PD
/-! what an except suite does hangs on no address: a rule for each construct. -/
namespace PD
open PySem PySem.Spec PyProof.Rows L2
abbrev atE (i : Nat) (a : Addr) (d : Option Addr) (x : Exn) (ρ : List Slot) : List Slot := ρ.set i (.exc a d x)
def AlD {α : Type} (i : Nat) (x : Exn) (f : Addr → Option Addr → Den α) : Prop := ∀ a d ρ m, f a d (atE i a d x ρ) m = f 0 none (atE i 0 none x ρ) m
def OutAl (i : Nat) (a : Addr) (d : Option Addr) (x : Exn) : Out → Out → Prop
  | .nx ρ1 m1, .nx ρ2 m2 => m1 = m2 ∧ ∃ ρ, ρ1 = atE i a d x ρ ∧ ρ2 = atE i 0 none x ρ
  | .rt d1 m1, .rt d2 m2 => d1 = d2 ∧ m1 = m2
  | .er _ _ _, .er _ _ _ => True
  | .bad, .bad => True
  | _, _ => False
def AlS (i : Nat) (x : Exn) (s : Addr → Option Addr → SDen) : Prop := ∀ a d ρ m, OutAl i a d x (s a d (atE i a d x ρ) m) (s 0 none (atE i 0 none x ρ) m)
theorem alike_of {i : Nat} {s : EDen} (h : ∀ x, AlS i x fun a d => s a d x) : Alike i s := fun a d x ρ m => by
  have q := h x a d ρ m
  dsimp only [atE] at q
  cases h1 : s a d x (ρ.set i (.exc a d x)) m <;> cases h2 : s 0 none x (ρ.set i (.exc 0 none x)) m <;> rw [h1, h2] at q <;> simp only [OutAl] at q <;> try exact q.elim
  · obtain ⟨e, ρ0, e1, e2⟩ := q
    subst e e1 e2
    simp only [clearO, atE, List.set_set]
  · rw [q.1, q.2]
  · rfl
theorem slot_al {i j : Nat} {a : Addr} {d : Option Addr} {x : Exn} {ρ : List Slot} (h : i ≠ j) : slotAt (atE i a d x ρ) j = slotAt ρ j := by
  have key : ∀ (ρ : List Slot) (i j : Nat) (s : Slot), i ≠ j → slotAt (ρ.set i s) j = slotAt ρ j := by
    intro ρ
    induction ρ with
    | nil => intro i j s _; rfl
    | cons t r ih =>
      intro i j s h
      cases i with
      | zero => cases j with
        | zero => exact absurd rfl h
        | succ j => rfl
      | succ i => cases j with
        | zero => rfl
        | succ j => exact ih i j s (fun e => h (by rw [e]))
  exact key ρ i j _ h
theorem slot_self {i : Nat} {s : Slot} : ∀ {ρ : List Slot}, i < ρ.length → slotAt (ρ.set i s) i = s := by
  induction i with
  | zero => intro ρ h; cases ρ with
    | nil => simp at h
    | cons t r => rfl
  | succ i ih => intro ρ h; cases ρ with
    | nil => simp at h
    | cons t r => exact ih (by simpa using h)
theorem slot_none {i : Nat} : ∀ {ρ : List Slot}, ρ.length ≤ i → slotAt ρ i = .non := by
  induction i with
  | zero => intro ρ h; cases ρ with
    | nil => rfl
    | cons t r => simp at h
  | succ i ih => intro ρ h; cases ρ with
    | nil => rfl
    | cons t r => exact ih (by simpa using h)
variable {i : Nat} {x : Exn}
theorem al_c {c : D} : AlD i x fun _ _ => dC c := fun _ _ _ _ => rfl
theorem al_nil {α : Type} : AlD i x fun _ _ => (dNil : Den (List α)) := fun _ _ _ _ => rfl
theorem al_v {j : Nat} (h : i ≠ j) : AlD i x fun _ _ => dV j := fun a d ρ m => by simp only [dV]; rw [slot_al h, slot_al h]
theorem al_l {j : Nat} (h : i ≠ j) : AlD i x fun _ _ => dL j := fun a d ρ m => by simp only [dL]; rw [slot_al h, slot_al h]
theorem al_if {α : Type} {c : Addr → Option Addr → Den Bool} {f g : Addr → Option Addr → Den α} (hc : AlD i x c) (hf : AlD i x f) (hg : AlD i x g) : AlD i x fun a d => dIf (c a d) (f a d) (g a d) := fun a d ρ m => by
  dsimp only [dIf]
  rw [hc]
  congr 1
  funext y
  rw [hf, hg]
theorem al_T {f : Addr → Option Addr → Den D} (hf : AlD i x f) : AlD i x fun a d => dT (f a d) := fun a d ρ m => by dsimp only [dT]; rw [hf]
theorem al_N {f : Addr → Option Addr → Den Cont} (hf : AlD i x f) : AlD i x fun a d => dN2V (f a d) := fun a d ρ m => by dsimp only [dN2V]; rw [hf]
theorem al_lst {f : Addr → Option Addr → Den (List D)} (hf : AlD i x f) : AlD i x fun a d => dLst (f a d) := fun a d ρ m => by dsimp only [dLst]; rw [hf]
theorem al_tup {f : Addr → Option Addr → Den (List D)} (hf : AlD i x f) : AlD i x fun a d => dTup (f a d) := fun a d ρ m => by dsimp only [dTup]; rw [hf]
theorem al_cons {α : Type} {f : Addr → Option Addr → Den α} {g : Addr → Option Addr → Den (List α)} (hf : AlD i x f) (hg : AlD i x g) : AlD i x fun a d => dCons (f a d) (g a d) := fun a d ρ m => by
  dsimp only [dCons]
  rw [hf]
  congr 1
  funext y
  rw [hg]
theorem al_bin {k : D → D → Res D} {f g : Addr → Option Addr → Den D} (hf : AlD i x f) (hg : AlD i x g) : AlD i x fun a d => dBin k (f a d) (g a d) := fun a d ρ m => by
  dsimp only [dBin]
  rw [hf]
  congr 1
  funext y
  rw [hg]
theorem al_binN {k : D → D → Res Cont} {f g : Addr → Option Addr → Den D} (hf : AlD i x f) (hg : AlD i x g) : AlD i x fun a d => dBinN k (f a d) (g a d) := fun a d ρ m => by
  dsimp only [dBinN]
  rw [hf]
  congr 1
  funext y
  rw [hg]
theorem al_isE {y : Str} : AlD i x fun a _ => dIsE a i x y := fun a d ρ m => by
  dsimp only [dIsE, atE]
  by_cases h : i < ρ.length
  · rw [slot_self h, slot_self h]
    simp
  · have e : ∀ s : Slot, ρ.set i s = ρ := fun s => List.set_eq_of_length_le (by omega)
    rw [e, e, slot_none (by omega)]
theorem al_set {j : Nat} {f : Addr → Option Addr → Den D} (h : i ≠ j) (hf : AlD i x f) : AlS i x fun a d => setS j (f a d) := fun a d ρ m => by
  dsimp only [setS]
  rw [hf]
  cases f 0 none (atE i 0 none x ρ) m with
  | ok r =>
    refine ⟨rfl, ρ.set j (.sh r.1), ?_, ?_⟩ <;> exact List.set_comm _ _ h
  | err y m' => exact True.intro
  | bad => exact True.intro
theorem al_ret {f : Addr → Option Addr → Den D} (hf : AlD i x f) : AlS i x fun a d => retS (f a d) := fun a d ρ m => by
  dsimp only [retS]
  rw [hf]
  cases f 0 none (atE i 0 none x ρ) m with
  | ok r => exact ⟨rfl, rfl⟩
  | err y m' => exact True.intro
  | bad => exact True.intro
theorem al_then {s t : Addr → Option Addr → SDen} (hs : AlS i x s) (ht : AlS i x t) : AlS i x fun a d => thenS (s a d) (t a d) := fun a d ρ m => by
  dsimp only [thenS]
  have q := hs a d ρ m
  cases h1 : s a d (atE i a d x ρ) m <;> cases h2 : s 0 none (atE i 0 none x ρ) m <;> rw [h1, h2] at q <;> simp only [OutAl] at q <;> try exact q.elim
  · obtain ⟨e, ρ0, e1, e2⟩ := q
    subst e e1 e2
    exact ht a d ρ0 _
  · exact q
  · exact True.intro
  · exact True.intro
theorem hu1 {A : Around} {k : Nat} (hr : Room k A) : A.units + 1 < cLine := by have := hr.un; omega
end PD
/-! a tuple many times. -/
namespace PD
open PySem PySem.Spec PyProof.Rows L2
def repTD : D → D → Res D
  | .tup a, .int k => if 0 < a.length ∧ 2 ≤ k ∧ k ≤ 1000 ∧ a.length ≤ 1000 then .ok (.tup (List.replicate k.toNat a).flatten) else .bad
  | _, _ => .bad
theorem repT_r {X : Cx} : BinR X (rRepT X.K) repTD := by
  intro RW B F0 z ow ρ m σ H x y dx dy Q S px py h
  unfold repTD at h
  split at h
  · split at h
    · rename_i as k hz
      obtain ⟨a, xs, rfl, h1, r1⟩ := look_tup S px
      exact ⟨a, k, xs, rfl, look_int py, h1, fun e => by have := r1.len; have h0 := hz.1; rw [e, List.length_nil] at this; omega, hz.2.1, hz.2.2.1, by rw [← r1.len]; exact hz.2.2.2, fun p hp => h.newTup S (reps_rep r1 _) hp⟩
    · exact h.elim
  · exact h.elim
end PD
/-! evaluation rules: try, dicts. -/
namespace PD
open PySem PySem.Spec PyProof.Rows L2
section
variable {ρ ρ' : List Slot} {m m' : List Ob} {α β : Type}
@[simp] theorem dTru_ev (da : Den D) : dTru da ρ m = (da ρ m).bind fun x => (truD x.1).bind fun b => .ok (b, x.2) := byEq rfl
@[simp] theorem truD_bl (b : Bool) : truD (.bl b) = .ok b := byEq rfl
@[simp] theorem truD_int (i : Int) : truD (.int i) = .ok (i != 0) := byEq rfl
@[simp] theorem truD_lst (xs : List D) : truD (.lst xs) = .ok (!xs.isEmpty) := byEq rfl
@[simp] theorem truD_tup (xs : List D) : truD (.tup xs) = .ok (!xs.isEmpty) := byEq rfl
theorem try_nx {As : List Str} {b : SDen} {l : List (Str × SDen)} (h : b ρ m = .nx ρ' m') : tryS As b l ρ m = .nx ρ' m' := by unfold tryS; rw [h]
theorem try_rt {As : List Str} {b : SDen} {l : List (Str × SDen)} {d : D} (h : b ρ m = .rt d m') : tryS As b l ρ m = .rt d m' := by unfold tryS; rw [h]
theorem try_er {As : List Str} {b : SDen} {l : List (Str × SDen)} {x : Exn} (h : b ρ m = .er x ρ' m') : tryS As b l ρ m = hands As x l ρ' m' := by unfold tryS; rw [h]
theorem tryAs_nx {As : List Str} {c : Str} {i : Nat} {b : SDen} {s : EDen} (h : b ρ m = .nx ρ' m') : tryAsS As c i b s ρ m = .nx ρ' m' := by unfold tryAsS; rw [h]
theorem tryAs_rt {As : List Str} {c : Str} {i : Nat} {b : SDen} {s : EDen} {d : D} (h : b ρ m = .rt d m') : tryAsS As c i b s ρ m = .rt d m' := by unfold tryAsS; rw [h]
theorem thenS_nx {a b : SDen} (h : a ρ m = .nx ρ' m') : thenS a b ρ m = b ρ' m' := by unfold thenS; rw [h]
theorem thenS_rt {a b : SDen} {d : D} (h : a ρ m = .rt d m') : thenS a b ρ m = .rt d m' := by unfold thenS; rw [h]
/-- a comprehension whose element draws -/
theorem comp_drawn {α : Type} (g : α → D) (P : List Ob → Prop) (Q : α → Prop) {tg : Tg} {elt : Den D} : ∀ (ds : List D) (m : List Ob), P m → (∀ d ∈ ds, ∀ m, P m → ∃ ρ1, tg d ρ = some ρ1 ∧ ∃ (a : α) (m' : List Ob), elt ρ1 m = .ok (g a, m') ∧ P m' ∧ Q a) →
    ∃ (as : List α) (m' : List Ob), compL tg dYes elt ρ ds m = some (as.map g, m') ∧ as.length = ds.length ∧ P m' ∧ ∀ a ∈ as, Q a
  | [], m, hp, _ => ⟨[], m, rfl, rfl, hp, fun _ h => nomatch h⟩
  | d :: ds, m, hp, h => by
    obtain ⟨ρ1, e1, a, m1, e2, p1, q1⟩ := h d (List.mem_cons_self ..) m hp
    obtain ⟨as, m2, e3, hl, p2, q2⟩ := comp_drawn g P Q ds m1 p1 fun d hd => h d (List.mem_cons_of_mem _ hd)
    refine ⟨a :: as, m2, ?_, by simp [hl], p2, fun b hb => ?_⟩
    · rw [compL, e1]
      dsimp only [dYes]
      rw [e2]
      dsimp only
      rw [e3]
      rfl
    · rcases List.mem_cons.mp hb with rfl | hb
      · exact q1
      · exact q2 b hb
theorem dComp_drawn {α : Type} (g : α → D) (P : List Ob → Prop) (Q : α → Prop) {di : Den (List D)} {vs : List Nat} {tg : Tg} {elt : Den D} {ds : List D} (h1 : di ρ m = .ok (ds, m')) (h2 : noOwn ρ vs = true) (hl : ds.length ≤ 16777216) (hp : P m')
    (h : ∀ d ∈ ds, ∀ m, P m → ∃ ρ1, tg d (wipeS ρ vs) = some ρ1 ∧ ∃ (a : α) (m' : List Ob), elt ρ1 m = .ok (g a, m') ∧ P m' ∧ Q a) : ∃ (as : List α) (m'' : List Ob), dComp di vs tg dYes elt ρ m = .ok (.lst (as.map g), m'') ∧ as.length = ds.length ∧ P m'' ∧ ∀ a ∈ as, Q a := by
  obtain ⟨as, m2, e, hl2, p2, q2⟩ := comp_drawn (ρ := wipeS ρ vs) g P Q ds m' hp h
  refine ⟨as, m2, ?_, hl2, p2, q2⟩
  unfold dComp
  rw [h1]
  show (match noOwn ρ vs, compL tg dYes elt (wipeS ρ vs) ds m' with
    | true, some (xs, m') => if xs.length ≤ sizeLine then Res.ok (Cont.lst xs, m') else .bad
    | _, _ => .bad) = _
  rw [h2, e]
  exact if_pos (by rw [List.length_map, szl_eq, hl2]; exact hl)
end
end PD
/-! loops by a relation; list places; levels of groups, plainly. -/
namespace PD
open PySem PySem.Spec PyProof.Rows L2
section
variable {ρ ρ' : List Slot} {m m' : List Ob} {α β : Type}
theorem loop_rel {α σ : Type} (g : α → D) (St : σ → List Slot → Prop) (step : σ → α → σ) {tg : Tg} {body : SDen} {m : List Ob} : ∀ (xs : List α) (s : σ) (ρ : List Slot), St s ρ → (∀ s ρ x, x ∈ xs → St s ρ → ∃ ρ1 ρ2, tg (g x) ρ = some ρ1 ∧ body ρ1 m = .nx ρ2 m ∧ St (step s x) ρ2) →
    ∃ ρ', loopS tg body (xs.map g) ρ m = .nx ρ' m ∧ St (xs.foldl step s) ρ'
  | [], s, ρ, h, _ => ⟨ρ, rfl, h⟩
  | x :: xs, s, ρ, h, hs => by
    obtain ⟨ρ1, ρ2, e1, e2, h2⟩ := hs s ρ x (List.mem_cons_self ..) h
    obtain ⟨ρ', e, h'⟩ := loop_rel g St step xs (step s x) ρ2 h2 fun s ρ y hy => hs s ρ y (List.mem_cons_of_mem _ hy)
    exact ⟨ρ', by rw [List.map_cons, loop_nx e1 e2, e], h'⟩
/-- a loop, told by what is done of it -/
theorem loop_done {α : Type} (g : α → D) (St : List α → List Slot → List Ob → Prop) {tg : Tg} {body : SDen} : ∀ (xs done : List α) (ρ : List Slot) (m : List Ob), St done ρ m →
    (∀ done ρ m x, x ∈ xs → St done ρ m → ∃ ρ1 ρ2 m2, tg (g x) ρ = some ρ1 ∧ body ρ1 m = .nx ρ2 m2 ∧ St (done ++ [x]) ρ2 m2) → ∃ ρ' m', loopS tg body (xs.map g) ρ m = .nx ρ' m' ∧ St (done ++ xs) ρ' m'
  | [], done, ρ, m, h, _ => ⟨ρ, m, rfl, by rw [List.append_nil]; exact h⟩
  | x :: xs, done, ρ, m, h, hs => by
    obtain ⟨ρ1, ρ2, m2, e1, e2, h2⟩ := hs done ρ m x (List.mem_cons_self ..) h
    obtain ⟨ρ', m', e, h'⟩ := loop_done g St xs (done ++ [x]) ρ2 m2 h2 fun d ρ m y hy => hs d ρ m y (List.mem_cons_of_mem _ hy)
    exact ⟨ρ', m', by rw [List.map_cons, loop_nx e1 e2, e], by rw [List.append_assoc] at h'; exact h'⟩
theorem ixN_nat {n k : Nat} (h : k < n) : ixN n (k : Int) = some k := by
  unfold ixN
  rw [if_pos (by omega), if_pos (by omega), Int.toNat_natCast]
theorem atI_last {α : Type} (xs : List α) : atI xs (-1) = xs.getLast? := by
  unfold atI ixN
  rw [if_neg (by omega)]
  cases xs with
  | nil => rfl
  | cons a r =>
    rw [if_pos (by rw [List.length_cons]; omega)]
    show (a :: r)[((-1 : Int) + ((a :: r).length : Int)).toNat]? = _
    rw [List.getLast?_eq_getElem?]
    congr 1
    rw [List.length_cons]; omega
theorem ixD_last {α : Type} (f : α → D) (xs : List α) (z : α) (h : xs ≠ []) : ixD (.lst (xs.map f)) (.int (-1)) = .ok (f (xs.getLast?.getD z)) := by
  unfold ixD
  dsimp only
  rw [atI_last, List.getLast?_map]
  cases hx : xs.getLast? with
  | none => exact absurd (List.getLast?_eq_none_iff.mp hx) h
  | some x => rfl
theorem getD_get {α : Type} (xs : List α) (k : Nat) (z : α) (h : k < xs.length) : xs.getD k z = xs[k] := by
  rw [List.getD_eq_getElem?_getD, List.getElem?_eq_getElem h]
  rfl
theorem ixD_getD {α : Type} (f : α → D) (xs : List α) (k : Nat) (z : α) (h : k < xs.length) : ixD (.lst (xs.map f)) (.int (k : Int)) = .ok (f (xs.getD k z)) := by rw [ixD_lst f xs k h, getD_get xs k z h]
theorem ixT_getD {α : Type} (f : α → D) (xs : List α) (k : Nat) (z : α) (h : k < xs.length) : ixD (.tup (xs.map f)) (.int (k : Int)) = .ok (f (xs.getD k z)) := by rw [ixD_tup f xs k h, getD_get xs k z h]
theorem intD_bl (b : Bool) : intD (.bl b) = .ok (.int (if b = true then 1 else 0)) := by cases b <;> rfl
theorem max2D_int (i j : Int) : max2D (.int i) (.int j) = .ok (.int (if i < j then j else i)) := rfl
theorem min2D_int (i j : Int) : min2D (.int i) (.int j) = .ok (.int (if j < i then j else i)) := rfl
/-! ### greatest -/
def maxL : List Int → Int
  | [] => 0
  | a :: r => maxI a r
theorem maxLD_int (l : List Int) (h : l ≠ []) : maxLD (.lst (l.map D.int)) = .ok (.int (maxL l)) := by
  unfold maxLD
  dsimp only
  rw [ints?_map]
  cases l with
  | nil => exact absurd rfl h
  | cons a r => rfl
theorem maxL_mem (l : List Int) (h : l ≠ []) : maxL l ∈ l := by
  cases l with
  | nil => exact absurd rfl h
  | cons a r =>
    rcases (maxI_spec r a).1 with e | e
    · rw [maxL, e]; exact List.mem_cons_self ..
    · exact List.mem_cons_of_mem _ e
theorem maxL_le (l : List Int) {x : Int} (h : x ∈ l) : x ≤ maxL l := by
  cases l with
  | nil => cases h
  | cons a r =>
    rcases List.mem_cons.mp h with rfl | h
    · exact (maxI_spec r x).2.1
    · exact (maxI_spec r a).2.2 x h
/-! ### enumerate -/
theorem enum_ints (f : Int → D) : ∀ (gs : List Int) (k : Nat), enumL k (gs.map f) = (List.range' k gs.length).map fun (j : Nat) => D.tup [.int (j : Int), f (gs.getD (j - k) 0)]
  | [], k => rfl
  | g :: gs, k => by
    rw [List.map_cons, enumL, enum_ints f gs (k + 1), List.length_cons, List.range'_succ, List.map_cons, Nat.sub_self]
    congr 1
    refine List.map_congr_left fun j hj => ?_
    have h := (List.mem_range'_1.mp hj).1
    rw [show j - k = j - (k + 1) + 1 by omega, List.getD_cons_succ]
theorem enum_int0 (gs : List Int) : enumL 0 (gs.map D.int) = (List.range gs.length).map fun (j : Nat) => D.tup [.int (j : Int), .int (gs.getD j 0)] := by
  rw [enum_ints D.int gs 0, List.range_eq_range']
  rfl
/-! ### classes and levels -/
def clsOf (gs : List Int) (g : Int) : List Nat := (List.range gs.length).filter fun k => decide (gs.getD k 0 = g)
def clsF (gs : List Int) : List (List Nat) := (sset (isort gs)).map (clsOf gs)
def lvSet (L la : Int) (F : List Int) (ws : List Nat) : List Int := ws.foldl (fun F w => F.set w (L + if (w : Int) < la then 1 else 0)) F
def lvMost (F : List Int) (ws : List Nat) : Int := maxL (ws.map fun w => F.getD w 0)
def lvEnd (F : List Int) (ws : List Nat) : Int := (((ws.filter fun w => decide (F.getD w 0 = lvMost F ws)).getLast?.getD 0 : Nat) : Int)
def lvStep (s : List Int × Int × Int) (ws : List Nat) : List Int × Int × Int :=
  if s.2.1 < lvMost (lvSet s.2.1 s.2.2 s.1 ws) ws then (lvSet s.2.1 s.2.2 s.1 ws, lvMost (lvSet s.2.1 s.2.2 s.1 ws) ws, lvEnd (lvSet s.2.1 s.2.2 s.1 ws) ws)
  else (lvSet s.2.1 s.2.2 s.1 ws, s.2.1, if s.2.2 < lvEnd (lvSet s.2.1 s.2.2 s.1 ws) ws then lvEnd (lvSet s.2.1 s.2.2 s.1 ws) ws else s.2.2)
def lvAll (gs : List Int) : List Int × Int × Int := (clsF gs).foldl lvStep (List.replicate gs.length 0, 0, -1)
def levF (gs : List Int) : List Int := (lvAll gs).1
theorem lvSet_len (L la : Int) : ∀ (ws : List Nat) (F : List Int), (lvSet L la F ws).length = F.length
  | [], F => rfl
  | w :: ws, F => by
    show (lvSet L la (F.set w _) ws).length = _
    rw [lvSet_len L la ws, List.length_set]
theorem lvSet_get (L la : Int) : ∀ (ws : List Nat) (F : List Int) (k : Nat), (∀ w ∈ ws, w < F.length) → (lvSet L la F ws).getD k 0 = if k ∈ ws then L + (if (k : Int) < la then 1 else 0) else F.getD k 0
  | [], F, k, _ => rfl
  | w :: ws, F, k, h => by
    show (lvSet L la (F.set w _) ws).getD k 0 = _
    rw [lvSet_get L la ws _ k (fun x hx => by rw [List.length_set]; exact h x (List.mem_cons_of_mem _ hx))]
    by_cases hk : k ∈ ws
    · rw [if_pos hk, if_pos (List.mem_cons_of_mem _ hk)]
    · rw [if_neg hk]
      have hw := h w (List.mem_cons_self ..)
      by_cases e : k = w
      · subst e
        rw [if_pos (List.mem_cons_self ..), getD_get _ _ _ (by rw [List.length_set]; exact hw), List.getElem_set_self]
      · rw [if_neg (c := k ∈ w :: ws) (by rw [List.mem_cons]; rintro (q | q); exact e q; exact hk q), List.getD_eq_getElem?_getD, List.getElem?_set_ne (fun q => e q.symm), ← List.getD_eq_getElem?_getD]
theorem cls_lt {gs : List Int} {g : Int} {k : Nat} (h : k ∈ clsOf gs g) : k < gs.length := List.mem_range.mp (List.mem_filter.mp h).1
theorem cls_at {gs : List Int} {g : Int} {k : Nat} : k ∈ clsOf gs g ↔ k < gs.length ∧ gs.getD k 0 = g := by
  unfold clsOf
  rw [List.mem_filter, List.mem_range, decide_eq_true_eq]
theorem sset_isort_mem (gs : List Int) (g : Int) : g ∈ sset (isort gs) ↔ g ∈ gs := by
  rw [sset_mem]
  exact (isort_perm gs).mem_iff
theorem cls_ne {gs : List Int} {ws : List Nat} (h : ws ∈ clsF gs) : ws ≠ [] ∧ ∀ w ∈ ws, w < gs.length := by
  obtain ⟨g, hg, rfl⟩ := List.mem_map.mp h
  refine ⟨?_, fun w hw => cls_lt hw⟩
  obtain ⟨k, hk, e⟩ := List.getElem_of_mem ((sset_isort_mem gs g).mp hg)
  exact List.ne_nil_of_mem (cls_at.mpr ⟨hk, by rw [getD_get _ _ _ hk]; exact e⟩)
theorem sset_len : ∀ l : List Int, (sset l).length ≤ l.length
  | [] => Nat.le_refl _
  | a :: r => by
    have ih := sset_len r
    rw [sset]
    cases h : sset r with
    | nil => dsimp only; simp
    | cons b t =>
      rw [h] at ih
      dsimp only
      split
      · rw [List.length_cons] at ih ⊢; simp only [List.length_cons]; omega
      · simp only [List.length_cons] at ih ⊢; omega
theorem lvMost_mem (F : List Int) (ws : List Nat) (h : ws ≠ []) : ∃ w ∈ ws, lvMost F ws = F.getD w 0 := by
  obtain ⟨w, hw, e⟩ := List.mem_map.mp (maxL_mem (ws.map fun w => F.getD w 0) (by intro e; exact h (List.map_eq_nil_iff.mp e)))
  exact ⟨w, hw, e.symm⟩
theorem lvEnd_ne (F : List Int) (ws : List Nat) (h : ws ≠ []) : (ws.filter fun w => decide (F.getD w 0 = lvMost F ws)) ≠ [] := by
  obtain ⟨w, hw, e⟩ := lvMost_mem F ws h
  exact List.ne_nil_of_mem (List.mem_filter.mpr ⟨hw, by rw [decide_eq_true_eq]; exact e.symm⟩)
theorem lvStep1 (s : List Int × Int × Int) (ws : List Nat) : (lvStep s ws).1 = lvSet s.2.1 s.2.2 s.1 ws := by unfold lvStep; split <;> rfl
theorem lvStep2 (s : List Int × Int × Int) (ws : List Nat) : (lvStep s ws).2.1 = if s.2.1 < lvMost (lvSet s.2.1 s.2.2 s.1 ws) ws then lvMost (lvSet s.2.1 s.2.2 s.1 ws) ws else s.2.1 := by unfold lvStep; split <;> rfl
/-- every value lies from 0 to the number of classes -/
theorem lv_bound (n : Nat) : ∀ (cs : List (List Nat)) (s : List Int × Int × Int) (b : Int), (∀ ws ∈ cs, ws ≠ [] ∧ ∀ w ∈ ws, w < n) → s.1.length = n → 0 ≤ s.2.1 → s.2.1 ≤ b → (∀ k, 0 ≤ s.1.getD k 0 ∧ s.1.getD k 0 ≤ b) →
    (cs.foldl lvStep s).1.length = n ∧ ∀ k, 0 ≤ (cs.foldl lvStep s).1.getD k 0 ∧ (cs.foldl lvStep s).1.getD k 0 ≤ b + cs.length
  | [], s, b, _, hl, _, _, h => ⟨hl, fun k => by
    have := h k
    refine ⟨this.1, ?_⟩
    rw [List.length_nil]
    have q := this.2
    show s.1.getD k 0 ≤ b + ((0 : Nat) : Int)
    omega⟩
  | ws :: cs, s, b, hc, hl, h0, hb, h => by
    obtain ⟨hne, hlt⟩ := hc ws (List.mem_cons_self ..)
    have hg := lvSet_get s.2.1 s.2.2 ws s.1
    have hg' : ∀ k, 0 ≤ (lvSet s.2.1 s.2.2 s.1 ws).getD k 0 ∧ (lvSet s.2.1 s.2.2 s.1 ws).getD k 0 ≤ b + 1 := fun k => by
      rw [hg k (fun w hw => by rw [hl]; exact hlt w hw)]
      have q := h k
      split
      · split <;> omega
      · omega
    obtain ⟨w, hw, e⟩ := lvMost_mem (lvSet s.2.1 s.2.2 s.1 ws) ws hne
    have hm := hg' w
    have hlen : (lvSet s.2.1 s.2.2 s.1 ws).length = n := by rw [lvSet_len, hl]
    obtain ⟨a1, a2⟩ := lv_bound n cs (lvStep s ws) (b + 1) (fun x hx => hc x (List.mem_cons_of_mem _ hx)) (by rw [lvStep1]; exact hlen) (by rw [lvStep2]; split <;> omega) (by rw [lvStep2]; split <;> omega) (by rw [lvStep1]; exact hg')
    rw [List.foldl_cons, List.length_cons]
    exact ⟨a1, fun k => by have := a2 k; exact ⟨this.1, by have := this.2; omega⟩⟩
theorem clsF_len (gs : List Int) : (clsF gs).length ≤ gs.length := by
  unfold clsF
  rw [List.length_map]
  exact Nat.le_trans (sset_len _) (by rw [(isort_perm gs).length_eq]; exact Nat.le_refl _)
theorem levF_ok (gs : List Int) : (levF gs).length = gs.length ∧ ∀ k, 0 ≤ (levF gs).getD k 0 ∧ (levF gs).getD k 0 ≤ gs.length := by
  obtain ⟨h1, h2⟩ := lv_bound gs.length (clsF gs) (List.replicate gs.length 0, 0, -1) 0 (fun ws h => cls_ne h) (List.length_replicate ..) (Int.le_refl _) (Int.le_refl _) (fun k => by
    rw [List.getD_eq_getElem?_getD, List.getElem?_replicate]
    split <;> exact ⟨Int.le_refl _, Int.le_refl _⟩)
  refine ⟨h1, fun k => ?_⟩
  have := h2 k
  have hl := clsF_len gs
  exact ⟨this.1, by have := this.2; unfold levF lvAll; omega⟩
theorem levF_max (gs : List Int) (h : gs ≠ []) : 0 ≤ maxL (levF gs) ∧ maxL (levF gs) ≤ gs.length := by
  obtain ⟨h1, h2⟩ := levF_ok gs
  have hne : levF gs ≠ [] := fun e => h (List.length_eq_zero_iff.mp (by rw [← h1, e]; rfl))
  obtain ⟨k, hk, e⟩ := List.getElem_of_mem (maxL_mem _ hne)
  have := h2 k
  rw [getD_get _ _ _ hk, e] at this
  exact this
end
end PD
/-! orders, mixes, the best of a list, plainly; comprehensions with two loops. -/
namespace PD
open PySem PySem.Spec PyProof.Rows L2
section
variable {ρ ρ' : List Slot} {m m' : List Ob}
theorem comp2_map {α β : Type} (g : α → D) (g1 : β → D) (ys : α → List β) (t : α → β → Bool) (f : α → β → D) {tg : Tg} {test : Den Bool} {di1 : Den (List D)} {vs1 : List Nat} {tg1 : Tg} {test1 : Den Bool} {elt : Den D} : ∀ xs : List α,
    (∀ a ∈ xs, ∃ ρ1, tg (g a) ρ = some ρ1 ∧ test ρ1 m = .ok (true, m) ∧ di1 ρ1 m = .ok ((ys a).map g1, m) ∧ noOwn ρ1 vs1 = true ∧ ∀ b ∈ ys a, ∃ ρ2, tg1 (g1 b) (wipeS ρ1 vs1) = some ρ2 ∧ test1 ρ2 m = .ok (t a b, m) ∧ (t a b = true → elt ρ2 m = .ok (f a b, m))) →
    compL2 tg test di1 vs1 tg1 test1 elt ρ (xs.map g) m = some ((xs.map fun a => ((ys a).filter (t a)).map (f a)).flatten, m)
  | [], _ => rfl
  | a :: xs, h => by
    obtain ⟨ρ1, e1, e2, e3, e4, e5⟩ := h a (List.mem_cons_self ..)
    have ih := comp2_map g g1 ys t f xs fun b hb => h b (List.mem_cons_of_mem _ hb)
    rw [List.map_cons, compL2, e1]
    dsimp only
    rw [e2]
    dsimp only
    rw [e3]
    dsimp only
    rw [e4, comp_map g1 (t a) (f a) (ys a) e5]
    dsimp only
    rw [ih]
    rfl
theorem dComp2_map {α β : Type} (g : α → D) (g1 : β → D) (xs : List α) (ys : α → List β) (t : α → β → Bool) (f : α → β → D) {di : Den (List D)} {vs : List Nat} {tg : Tg} {test : Den Bool} {di1 : Den (List D)} {vs1 : List Nat} {tg1 : Tg} {test1 : Den Bool} {elt : Den D}
    (h1 : di ρ m = .ok (xs.map g, m')) (h2 : noOwn ρ vs = true) (hl : (xs.map fun a => ((ys a).filter (t a)).map (f a)).flatten.length ≤ 16777216)
    (h : ∀ a ∈ xs, ∃ ρ1, tg (g a) (wipeS ρ vs) = some ρ1 ∧ test ρ1 m' = .ok (true, m') ∧ di1 ρ1 m' = .ok ((ys a).map g1, m') ∧ noOwn ρ1 vs1 = true ∧ ∀ b ∈ ys a, ∃ ρ2, tg1 (g1 b) (wipeS ρ1 vs1) = some ρ2 ∧ test1 ρ2 m' = .ok (t a b, m') ∧ (t a b = true → elt ρ2 m' = .ok (f a b, m'))) :
    dComp2 di vs tg test di1 vs1 tg1 test1 elt ρ m = .ok (.lst (xs.map fun a => ((ys a).filter (t a)).map (f a)).flatten, m') := by
  unfold dComp2
  rw [h1]
  show (match noOwn ρ vs, compL2 tg test di1 vs1 tg1 test1 elt (wipeS ρ vs) (xs.map g) m' with
    | true, some (xs, m') => if xs.length ≤ sizeLine then Res.ok (Cont.lst xs, m') else .bad
    | _, _ => .bad) = _
  rw [h2, comp2_map g g1 ys t f xs h]
  exact if_pos (by rw [szl_eq]; exact hl)
theorem repN_int (n : Nat) (i : Int) (h : n ≤ 1000000) : repN (.lst [.int i]) (.int (n : Int)) = .ok (.lst ((List.replicate n i).map .int)) := by
  unfold repN
  dsimp only
  refine (if_pos ⟨by omega, by omega, by rw [szl_eq, Int.toNat_natCast, List.length_singleton]; omega⟩).trans ?_
  rw [Int.toNat_natCast, List.map_replicate, List.flatten_replicate_singleton]
/-! ### what equals itself -/
def Okk (k : Nat) (d : D) : Prop := d.py.canLay0 = true ∧ d.py.depth ≤ k
theorem okk_int (i : Int) : Okk 0 (.int i) := ⟨rfl, Nat.le_refl _⟩
theorem okk_mono {k j : Nat} {d : D} (h : Okk k d) (hk : k ≤ j) : Okk j d := ⟨h.1, Nat.le_trans h.2 hk⟩
theorem okk_all {k : Nat} : ∀ xs : List D, (∀ x ∈ xs, Okk k x) → PyData.canLayAll0 (D.pys xs) = true ∧ PyData.depthAll (D.pys xs) ≤ k
  | [], _ => ⟨rfl, Nat.zero_le _⟩
  | x :: r, h => by
    obtain ⟨h1, h2⟩ := okk_all r fun y hy => h y (List.mem_cons_of_mem _ hy)
    obtain ⟨a1, a2⟩ := h x (List.mem_cons_self ..)
    exact ⟨by simp [D.pys, PyData.canLayAll0, a1, h1], by simp only [D.pys, PyData.depthAll]; omega⟩
theorem okk_lst {k : Nat} {xs : List D} (h : ∀ x ∈ xs, Okk k x) : Okk (k + 1) (.lst xs) := by
  obtain ⟨h1, h2⟩ := okk_all xs h
  exact ⟨by show PyData.canLay0 (.list _) = true; rw [PyData.canLay0]; exact h1, by show PyData.depth (.list _) ≤ _; rw [PyData.depth]; omega⟩
theorem okk_tup {k : Nat} {xs : List D} (h : ∀ x ∈ xs, Okk k x) : Okk (k + 1) (.tup xs) := by
  obtain ⟨h1, h2⟩ := okk_all xs h
  exact ⟨by show PyData.canLay0 (.tuple _) = true; rw [PyData.canLay0]; exact h1, by show PyData.depth (.tuple _) ≤ _; rw [PyData.depth]; omega⟩
theorem okk_ints (xs : List Int) : Okk 1 (.tup (xs.map D.int)) := okk_tup fun x hx => by
  obtain ⟨i, _, rfl⟩ := List.mem_map.mp hx
  exact okk_int i
theorem eqD_self {k : Nat} {d : D} (h : Okk k d) (hk : k ≤ 64) : eqD d d = .ok (.bl true) := by
  have ho : d.okp = true := by
    have h1 := h.1
    have h2 := h.2
    simp [D.okp, SeqAt.shaped, h1]
    omega
  unfold eqD
  rw [ho, PySem.SeqAt.eqv_refl d.py h.1]
  rfl
/-! ### orders of items -/
def longI (items some : List Int) : List (List Int) := (items.filter fun x => !decide (x ∈ some)).map fun x => some ++ [x]
def lvlI (items : List Int) : Nat → List (List Int)
  | 0 => [[]]
  | k + 1 => ((lvlI items k).map (longI items)).flatten
def ordI (items : List Int) : List (List Int) := lvlI items items.length
theorem lvlI_spec (items : List Int) : ∀ (k : Nat) (r : List Int), r ∈ lvlI items k → r.length = k ∧ r.Nodup ∧ ∀ x ∈ r, x ∈ items
  | 0, r, h => by rw [lvlI, List.mem_singleton] at h; subst h; exact ⟨rfl, List.Pairwise.nil, fun _ h => nomatch h⟩
  | k + 1, r, h => by
    rw [lvlI, List.mem_flatten] at h
    obtain ⟨l, h1, h2⟩ := h
    obtain ⟨r0, h3, rfl⟩ := List.mem_map.mp h1
    obtain ⟨x, hx, rfl⟩ := List.mem_map.mp h2
    obtain ⟨hx1, hx2⟩ := List.mem_filter.mp hx
    obtain ⟨a1, a2, a3⟩ := lvlI_spec items k r0 h3
    have hx3 : x ∉ r0 := by simpa using hx2
    refine ⟨by rw [List.length_append, a1]; rfl, ?_, fun y hy => ?_⟩
    · refine List.pairwise_append.mpr ⟨a2, List.pairwise_singleton _ _, fun a ha b hb => ?_⟩
      rw [List.mem_singleton] at hb
      subst hb
      intro e
      subst e
      exact hx3 ha
    · rcases List.mem_append.mp hy with hy | hy
      · exact a3 y hy
      · rw [List.mem_singleton] at hy; subst hy; exact hx1
theorem longI_len (items some : List Int) : (longI items some).length ≤ items.length := by
  unfold longI
  rw [List.length_map]
  exact List.length_filter_le ..
theorem flat_le {α : Type} (n : Nat) : ∀ l : List (List α), (∀ x ∈ l, x.length ≤ n) → l.flatten.length ≤ l.length * n
  | [], _ => by simp
  | a :: r, h => by
    have ih := flat_le n r fun x hx => h x (List.mem_cons_of_mem _ hx)
    have ha := h a (List.mem_cons_self ..)
    rw [List.flatten_cons, List.length_append, List.length_cons, Nat.succ_mul]
    omega
theorem lvlI_len (items : List Int) : ∀ k, (lvlI items k).length ≤ items.length ^ k
  | 0 => Nat.le_refl _
  | k + 1 => by
    have ih := lvlI_len items k
    rw [lvlI, Nat.pow_succ]
    refine Nat.le_trans (flat_le items.length _ fun x hx => ?_) (by rw [List.length_map]; exact Nat.mul_le_mul_right _ ih)
    obtain ⟨r, _, rfl⟩ := List.mem_map.mp hx
    exact longI_len items r
theorem nodup_len : ∀ (r items : List Int), r.Nodup → (∀ x ∈ r, x ∈ items) → r.length ≤ items.length
  | [], items, _, _ => Nat.zero_le _
  | x :: r, items, h, hs => by
    obtain ⟨h1, h2⟩ := List.pairwise_cons.mp h
    have hx := hs x (List.mem_cons_self ..)
    have ih := nodup_len r (items.erase x) h2 fun y hy => (List.mem_erase_of_ne (fun e => h1 y hy e.symm)).mpr (hs y (List.mem_cons_of_mem _ hy))
    rw [List.length_erase_of_mem hx] at ih
    have := List.length_pos_of_mem hx
    rw [List.length_cons]
    omega
theorem ordI_all {items r : List Int} (h : r ∈ ordI items) : ∀ x ∈ items, x ∈ r := by
  intro x hx
  obtain ⟨h1, h2, h3⟩ := lvlI_spec items _ r h
  by_cases hr : x ∈ r
  · exact hr
  · have := nodup_len (x :: r) items (List.pairwise_cons.mpr ⟨fun y hy e => hr (e ▸ hy), h2⟩) fun y hy => by
      rcases List.mem_cons.mp hy with rfl | hy
      · exact hx
      · exact h3 y hy
    rw [List.length_cons] at this
    omega
theorem isorted_one : ∀ (l : List Int), l ≠ [] → sset (isort l) ≠ [] := fun l h e => by
  cases l with
  | nil => exact h rfl
  | cons a r =>
    have := (sset_isort_mem (a :: r) a).mpr (List.mem_cons_self ..)
    rw [e] at this
    cases this
/-! ### the place of an item -/
theorem place_int (x : Int) : ∀ (o : List Int) (k : Nat), x ∈ o → placeD (D.int x).py (D.pys (o.map .int)) k = some (k + o.idxOf x)
  | [], k, h => nomatch h
  | a :: r, k, h => by
    rw [List.map_cons]
    show (if PyData.eqv (D.int a).py (D.int x).py = true then some k else placeD (D.int x).py (D.pys (r.map .int)) (k + 1)) = _
    rw [enc_int.eqv, List.idxOf_cons]
    by_cases e : a = x
    · subst e
      rw [if_pos (by simp)]
      simp
    · have hr : x ∈ r := by
        rcases List.mem_cons.mp h with e2 | h2
        · exact absurd e2.symm e
        · exact h2
      rw [if_neg (by simpa using e), place_int x r (k + 1) hr]
      have : (a == x) = false := by simpa using e
      rw [this]
      simp only [cond_false]
      congr 1
      omega
theorem indexE_int (x : Int) (o : List Int) (h : x ∈ o) : indexE (.etp (o.map .int)) [.int x] = .ok (.int ((o.idxOf x : Nat) : Int)) := by
  have h1 : (D.etp (o.map .int)).okp = true := enc_int.tup.ok (by decide) o
  have h2 : (D.int x).okp = true := enc_int.ok (by decide) x
  show (if ((D.int x).okp && (D.etp (o.map .int)).okp) = true then (match placeD (D.int x).py (D.pys (o.map .int)) 0 with
    | some j => Res.ok (D.int (j : Int))
    | none => .bad) else .bad) = _
  rw [h1, h2, place_int x o 0 h, Nat.zero_add]
  rfl
/-! ### the best -/
def bstep {α : Type} (c : α → Nat) (b : Option (Nat × α)) (x : α) : Option (Nat × α) := match b with
  | none => some (c x, x)
  | some (h, y) => if c x < h then some (c x, x) else some (h, y)
def bestF {α : Type} (c : α → Nat) (l : List α) : Option (Nat × α) := l.foldl (bstep c) none
theorem best_some {α : Type} (c : α → Nat) : ∀ (l : List α) (b : Nat × α), ∃ b', l.foldl (bstep c) (some b) = some b' ∧ (b' = b ∨ (b'.2 ∈ l ∧ b'.1 = c b'.2))
  | [], b => ⟨b, rfl, .inl rfl⟩
  | x :: l, (h, y) => by
    rw [List.foldl_cons]
    show ∃ b', l.foldl (bstep c) (if c x < h then some (c x, x) else some (h, y)) = some b' ∧ _
    split
    · obtain ⟨b', e, hb⟩ := best_some c l (c x, x)
      refine ⟨b', e, .inr ?_⟩
      rcases hb with rfl | ⟨h1, h2⟩
      · exact ⟨List.mem_cons_self .., rfl⟩
      · exact ⟨List.mem_cons_of_mem _ h1, h2⟩
    · obtain ⟨b', e, hb⟩ := best_some c l (h, y)
      refine ⟨b', e, ?_⟩
      rcases hb with rfl | ⟨h1, h2⟩
      · exact .inl rfl
      · exact .inr ⟨List.mem_cons_of_mem _ h1, h2⟩
theorem best_ne {α : Type} (c : α → Nat) (l : List α) (h : l ≠ []) : ∃ b', bestF c l = some b' ∧ b'.2 ∈ l ∧ b'.1 = c b'.2 := by
  cases l with
  | nil => exact absurd rfl h
  | cons x r =>
    obtain ⟨b', e, hb⟩ := best_some c r (c x, x)
    refine ⟨b', e, ?_⟩
    rcases hb with rfl | ⟨h1, h2⟩
    · exact ⟨List.mem_cons_self .., rfl⟩
    · exact ⟨List.mem_cons_of_mem _ h1, h2⟩
/-! ### mixes -/
def mixG (prev : Nat → List (List Nat)) : Nat → List (List Nat)
  | 0 => (prev 0).map (0 :: ·)
  | b + 1 => (prev (b + 1)).map (0 :: ·) ++ (mixG prev b).map (1 :: ·)
def mixF : Nat → Nat → List (List Nat)
  | 0, b => [List.replicate b 1]
  | a + 1, b => mixG (mixF a) b
theorem mixF_00 : mixF 0 0 = [[]] := rfl
theorem mixF_0s (b : Nat) : mixF 0 (b + 1) = (mixF 0 b).map (1 :: ·) := by
  show [List.replicate (b + 1) 1] = [List.replicate b 1].map (1 :: ·)
  rw [List.replicate_succ]
  rfl
theorem mixF_s0 (a : Nat) : mixF (a + 1) 0 = (mixF a 0).map (0 :: ·) := rfl
theorem mixF_ss (a b : Nat) : mixF (a + 1) (b + 1) = (mixF a (b + 1)).map (0 :: ·) ++ (mixF (a + 1) b).map (1 :: ·) := rfl
/-- a mix of so many wagons -/
inductive Mix : Nat → Nat → List Nat → Prop
  | nil : Mix 0 0 []
  | zero {a b l} : Mix a b l → Mix (a + 1) b (0 :: l)
  | one {a b l} : Mix a b l → Mix a (b + 1) (1 :: l)
theorem mixF_mix : ∀ (a b : Nat) (l : List Nat), l ∈ mixF a b → Mix a b l
  | 0, 0, l, h => by rw [mixF_00, List.mem_singleton] at h; subst h; exact .nil
  | 0, b + 1, l, h => by
    rw [mixF_0s] at h
    obtain ⟨r, hr, rfl⟩ := List.mem_map.mp h
    exact .one (mixF_mix 0 b r hr)
  | a + 1, 0, l, h => by
    rw [mixF_s0] at h
    obtain ⟨r, hr, rfl⟩ := List.mem_map.mp h
    exact .zero (mixF_mix a 0 r hr)
  | a + 1, b + 1, l, h => by
    rw [mixF_ss] at h
    rcases List.mem_append.mp h with h | h
    · obtain ⟨r, hr, rfl⟩ := List.mem_map.mp h
      exact .zero (mixF_mix a (b + 1) r hr)
    · obtain ⟨r, hr, rfl⟩ := List.mem_map.mp h
      exact .one (mixF_mix (a + 1) b r hr)
theorem mixF_ne : ∀ a b : Nat, mixF a b ≠ []
  | 0, 0 => by rw [mixF_00]; exact List.cons_ne_nil _ _
  | 0, b + 1 => by rw [mixF_0s]; exact fun e => mixF_ne 0 b (List.map_eq_nil_iff.mp e)
  | a + 1, 0 => by rw [mixF_s0]; exact fun e => mixF_ne a 0 (List.map_eq_nil_iff.mp e)
  | a + 1, b + 1 => by rw [mixF_ss]; exact fun e => mixF_ne a (b + 1) (List.map_eq_nil_iff.mp (List.append_eq_nil_iff.mp e).1)
theorem Mix.len {a b : Nat} {l : List Nat} (h : Mix a b l) : l.length = a + b := by
  induction h with
  | nil => rfl
  | zero _ ih => rw [List.length_cons, ih]; omega
  | one _ ih => rw [List.length_cons, ih]; omega
theorem Mix.sum {a b : Nat} {l : List Nat} (h : Mix a b l) : l.sum = b := by
  induction h with
  | nil => rfl
  | zero _ ih => rw [List.sum_cons, ih]; omega
  | one _ ih => rw [List.sum_cons, ih]; omega
theorem Mix.bit {a b : Nat} {l : List Nat} (h : Mix a b l) : ∀ x ∈ l, x ≤ 1 := by
  induction h with
  | nil => exact fun _ h => nomatch h
  | zero _ ih => intro x hx; rcases List.mem_cons.mp hx with rfl | hx; exact Nat.zero_le _; exact ih x hx
  | one _ ih => intro x hx; rcases List.mem_cons.mp hx with rfl | hx; exact Nat.le_refl _; exact ih x hx
/-- the groups as they come -/
def comeF : List Int → List Int → List Nat → List Int
  | _, _, [] => []
  | a, b, 0 :: l => a.headD 0 :: comeF a.tail b l
  | a, b, _ :: l => b.headD 0 :: comeF a b.tail l
theorem come_len : ∀ (l : List Nat) (a b : List Int), (comeF a b l).length = l.length
  | [], a, b => by rw [comeF]; rfl
  | 0 :: l, a, b => by rw [comeF, List.length_cons, come_len l, List.length_cons]
  | (n + 1) :: l, a, b => by rw [comeF, List.length_cons, come_len l, List.length_cons]; intro h; cases h
theorem come_mem {p q : Nat} {l : List Nat} (h : Mix p q l) : ∀ (a b : List Int), a.length = p → b.length = q → ∀ x ∈ comeF a b l, x ∈ a ∨ x ∈ b := by
  induction h with
  | nil => intro a b _ _ x hx; rw [comeF] at hx; cases hx
  | zero _ ih =>
    intro a b ha hb x hx
    rw [comeF] at hx
    cases a with
    | nil => cases ha
    | cons y a =>
      rcases List.mem_cons.mp hx with rfl | hx
      · exact .inl (List.mem_cons_self ..)
      · rcases ih a b (by rw [List.length_cons] at ha; omega) hb x hx with h | h
        · exact .inl (List.mem_cons_of_mem _ h)
        · exact .inr h
  | one _ ih =>
    intro a b ha hb x hx
    rw [comeF] at hx
    · cases b with
      | nil => cases hb
      | cons y b =>
        rcases List.mem_cons.mp hx with rfl | hx
        · exact .inr (List.mem_cons_self ..)
        · rcases ih a b ha (by rw [List.length_cons] at hb; omega) x hx with h | h
          · exact .inl h
          · exact .inr (List.mem_cons_of_mem _ h)
    · intro h; cases h
end
end PD
/-! texts: str(int), f-strings, join, split, rstrip; zip of two tuples. -/
namespace PD
open PySem PySem.Spec PyProof.Rows L2
section
variable {X : Cx} {RW : WX}
theorem look_txt {B' B : Hp} {z : Fz} {ρ : List Slot} {σ : St} {K : PySem.W.Frag} {mg : Str → Option Value} {s : Str} {v : V} (p : pLook K mg B' B z ρ σ (.str s) v) : v = .str s := rep_str.mp (look_rep p (fun c => by cases c <;> simp [Cont.d]))
/-! ### str(int) -/
def strD : D → Res D
  | .int i => if i.natAbs.log2 < 1920 then .ok (.str (toString i)) else .bad
  | _ => .bad
theorem str_r : CbR X (fun xs H Q => ∃ i : Int, xs = [.int i] ∧ i.natAbs.log2 < 1920 ∧ Q (.str (toString i)) H) (oneArg strD) := by
  intro RW B F0 z ow ρ m σ H vs ds Q S px h
  match ds, h with
  | [d], h =>
    obtain ⟨v, rfl, p⟩ := looks_one px
    cases d with
    | int i =>
      dsimp only [oneArg, strD] at h
      split at h
      · rename_i hz
        cases look_int p
        exact ⟨i, rfl, hz, h.here S (rep_str.mpr rfl)⟩
      · exact h.elim
    | _ => exact h.elim
  | [], h => exact h.elim
  | _ :: _ :: _, h => exact h.elim
/-! ### f-strings -/
def fmtD : D → Res D
  | .int i => if i.natAbs.log2 < 1920 then .ok (.str (toString i)) else .bad
  | .str s => if s.length ≤ sizeLine then .ok (.str s) else .bad
  | _ => .bad
theorem pd_fmt {e : Expr} {da : Den D} {pos : Pos} (he : PE X e (tX X.K X.mg RW da (pLook X.K X.mg))) : PE X (.FormattedValue e (-1) none pos) (tX X.K X.mg RW (dUn fmtD da) (pVal X.K X.mg)) :=
  PE.imp (pe_fmt he) fun σ H Q q => tX.imp q fun B F0 z ow ρ m S h => Rem.step pVal.pm h fun d m1 B1 z1 ow1 v H1 hB hz S1 p h1 => by
    cases d with
    | int i =>
      dsimp only [fmtD] at h1
      split at h1
      · rename_i hz
        exact .inr ⟨i, look_int p, hz, h1.here S1 (rep_str.mpr rfl)⟩
      · exact h1.elim
    | str s =>
      dsimp only [fmtD] at h1
      split at h1
      · rename_i hz
        exact .inl ⟨s, look_txt p, hz, h1.here S1 (rep_str.mpr rfl)⟩
      · exact h1.elim
    | _ => exact h1.elim
/-- the parts of an f-string, glued behind what there is -/
def dFs : List (Den D) → Str → Den D
  | [], acc, ρ, m => .ok (.str acc, m)
  | da :: r, acc, ρ, m => (da ρ m).bind fun x => match x.1 with
    | .str s => if (acc ++ s).length ≤ sizeLine then dFs r (acc ++ s) ρ x.2 else .bad
    | _ => .bad
inductive PFs (X : Cx) (RW : WX) : List Expr → List TE → List (Den D) → Prop
  | nil : PFs X RW [] [] []
  | cons {e : Expr} {es : List Expr} {ts : List TE} {da : Den D} {ds : List (Den D)} (h : PE X e (tX X.K X.mg RW da (pVal X.K X.mg))) (r : PFs X RW es ts ds) : PFs X RW (e :: es) (tX X.K X.mg RW da (pVal X.K X.mg) :: ts) (da :: ds)
theorem PFs.pj {es : List Expr} {ts : List TE} {ds : List (Den D)} (h : PFs X RW es ts ds) : PJ X es ts := by
  induction h with
  | nil => exact .nil
  | cons h _ ih => exact .cons h ih
theorem PFs.run {es : List Expr} {ts : List TE} {ds : List (Den D)} (h : PFs X RW es ts ds) : ∀ (acc : Str) (B F0 : Hp) (z : Fz) (ow : Own) (ρ : List Slot) (m : List Ob) (σ : St) (H : Hp) (Q : VK), StOk X.K X.mg B F0 z ow ρ m σ H →
    Rem X.K X.mg RW (dFs ds acc ρ m) B F0 z ρ σ (pVal X.K X.mg) Q → tJs ts acc σ H fun out H1 => Q (.str out) H1 := by
  induction h with
  | nil => exact fun acc B F0 z ow ρ m σ H Q S h => h.here S (rep_str.mpr rfl)
  | @cons e es ts da ds he r ih =>
    intro acc B F0 z ow ρ m σ H Q S h
    refine ⟨B, F0, z, ow, ρ, m, S, Rem.step pVal.pm h fun d m1 B1 z1 ow1 v H1 hB hz S1 p h1 => ?_⟩
    cases d with
    | str s =>
      dsimp only at h1
      split at h1
      · rename_i hl
        exact ⟨s, rep_str.mp p, hl, ih (acc ++ s) B1 F0 z1 ow1 ρ m1 σ H1 Q S1 h1⟩
      · exact h1.elim
    | _ => exact h1.elim
theorem pd_fstr {v1 v2 : Expr} {rest : List Expr} {ts : List TE} {ds : List (Den D)} {pos : Pos} (h : PFs X RW (v1 :: v2 :: rest) ts ds) : PE X (.JoinedStr (v1 :: v2 :: rest) pos) (tX X.K X.mg RW (dFs ds Str.empty) (pVal X.K X.mg)) :=
  PE.imp (pe_joined h.pj) fun σ H Q ⟨B, F0, z, ow, ρ, m, S, q⟩ => h.run Str.empty B F0 z ow ρ m σ H Q S q
/-! ### methods of texts -/
def strs? : List D → Option (List Str)
  | [] => some []
  | .str s :: r => (strs? r).map (s :: ·)
  | _ :: _ => none
theorem strs?_eq : ∀ {ds : List D} {ns : List Str}, strs? ds = some ns → ds = ns.map D.str
  | [], ns, h => by cases h; rfl
  | d :: r, ns, h => by
    cases d with
    | str s =>
      rw [strs?] at h
      cases hr : strs? r with
      | none => rw [hr] at h; cases h
      | some l =>
        rw [hr] at h
        cases h
        rw [strs?_eq hr]
        rfl
    | _ => cases h
theorem strs?_map : ∀ ns : List Str, strs? (ns.map D.str) = some ns
  | [] => rfl
  | s :: r => by rw [List.map_cons, strs?, strs?_map r]; rfl
theorem Reps.strs {K : PySem.W.Frag} {mg : Str → Option Value} {z : Fz} : ∀ {ns : List Str} {vs : List V}, Reps K mg z (ns.map D.str) vs → vs = ns.map V.str
  | [], vs, h => h.nil_of
  | n :: ns, vs, h => by
    obtain ⟨w, vs', rfl, a, r⟩ := h.uncons
    rw [rep_str.mp a, Reps.strs r]
    rfl
theorem Reps.of_strs {K : PySem.W.Frag} {mg : Str → Option Value} {z : Fz} : ∀ {ns : List Str}, Reps K mg z (ns.map D.str) (ns.map V.str)
  | [] => .nil
  | n :: ns => .cons (rep_str.mpr rfl) Reps.of_strs
def joinD : D → List D → Res D
  | .str a, [.lst ds] => match strs? ds with
    | some ys => if (ys.map (·.length)).sum + ys.length * a.length ≤ 16777216 then .ok (.str (Txt.join a ys)) else .bad
    | none => .bad
  | _, _ => .bad
theorem join_r : MbR X (fun x xs H Q => ∃ a p, ∃ ys : List Str, x = .str a ∧ xs = [.ref p] ∧ (SqL X.K H p (ys.map V.str) ∨ SqT X.K H p (ys.map V.str)) ∧ (ys.map (·.length)).sum + ys.length * a.length ≤ 16777216 ∧ Q (.str (Txt.join a ys)) H) joinD := by
  intro RW B F0 z ow ρ m σ H x d vs ds Q S px ps h
  unfold joinD at h
  split at h
  · rename_i a ds
    obtain ⟨v, rfl, py⟩ := looks_one ps
    cases hn : strs? ds with
    | none => rw [hn] at h; exact h.elim
    | some ys =>
      rw [hn] at h
      dsimp only at h
      split at h
      · rename_i hz
        cases strs?_eq hn
        obtain ⟨p, xs, rfl, e, r⟩ := look_list S py
        cases r.strs
        exact ⟨a, p, ys, look_txt px, rfl, .inl (SqL.of e), hz, h.here S (rep_str.mpr rfl)⟩
      · exact h.elim
  · exact h.elim
/-- methods that give a new list -/
def dMethN (T : String) (g : D → List D → Res Cont) (de : Den D) (da : Den (List D)) : Den Cont := fun ρ m => (de ρ m).bind fun x => if tyD T x.1 = true then (da ρ x.2).bind fun xs => (g x.1 xs.1).bind fun d => .ok (d, xs.2) else .bad
def MbN (X : Cx) (r : V → List V → Hp → VK → Prop) (g : D → List D → Res Cont) : Prop := ∀ {RW : WX} {B F0 : Hp} {z : Fz} {ow : Own} {ρ : List Slot} {m : List Ob} {σ : St} {H : Hp} {x : V} {d : D} {vs : List V} {ds : List D} {Q : VK},
  StOk X.K X.mg B F0 z ow ρ m σ H → pLook X.K X.mg B B z ρ σ d x → pLooks X.K X.mg B B z ρ σ ds vs → Rem X.K X.mg RW ((g d ds).bind fun d => .ok (d, m)) B F0 z ρ σ (pNew X.K X.mg) Q → r x vs H Q
theorem pd_methN {T id : String} {name : Str} {r : V → List V → Hp → VK → Prop} {g : D → List D → Res Cont} {o e : Expr} {es : List Expr} {de : Den D} {da : Den (List D)} {apos cpos : Pos} (pa : PlainAttrs T) (slot : PySem.Slot T name id) (hty : typeOf (.builtin id) = pure (.type "method_descriptor")) (hm : MtR X id r) (hg : MbN X r g)
    (ho : PE X o (tX X.K X.mg RW de (pLook X.K X.mg))) (ha : PA X (e :: es) (tX X.K X.mg RW da (pLooks X.K X.mg)))
    (hbase : attributeBase o name X.env (eval o X.env) = eval o X.env := by rfl)
    (hfew : ((backTo cpos (starEach (e :: es) X.env)).all (fun x => !x.1) && (backToKw cpos (keywordEach [] X.env)).all (fun x => x.1.isSome)
      && decide ((e :: es).length + ([] : List Keyword).length + (if ([] : List Keyword).isEmpty then 0 else 1) < 30)) = true := by rfl)
    (hline : (apos.endLine == cpos.line) = true := by rfl) (hs : starEach (e :: es) X.env = (false, eval e X.env) :: starEach es X.env := by rfl) (hplain : (backTo cpos (starEach es X.env)).any (·.1) = false := by rfl) :
    PE X (.Call (.Attribute o name apos) (e :: es) [] cpos) (tX X.K X.mg RW (dMethN T g de da) (pNew X.K X.mg)) :=
  PE.imp (pe_bm pa slot hty hm ho ha hbase hfew hline hs hplain) fun σ H Q q => tX.imp q fun B F0 z ow ρ m S h => Rem.step pNew.pm h fun d m1 B1 z1 ow1 v H1 hB hz S1 p h1 => by
    dsimp only at h1
    split at h1
    · rename_i ht
      refine ⟨ty_look S1 p ht, B1, F0, z1, ow1, ρ, m1, S1, Rem.step pNew.pm h1 fun ds m2 B2 z2 ow2 vs H2 hB2 hz2 S2 py h2 => ?_⟩
      exact hg S2 (look_mono hB2 hz2 p) py h2
    · exact h1.elim
def splitN : D → List D → Res Cont
  | .str a, [.str b] => if (b.length == 0) = false ∧ a.length + 2 ≤ sizeLine then .ok (.lst ((Txt.split a b).map .str)) else .bad
  | _, _ => .bad
theorem split_r : MbN X (fun x xs H Q => ∃ a b, x = .str a ∧ xs = [.str b] ∧ (b.length == 0) = false ∧ a.length + 2 ≤ sizeLine ∧ rNewStrs (Txt.split a b) H Q) splitN := by
  intro RW B F0 z ow ρ m σ H x d vs ds Q S px ps h
  unfold splitN at h
  split at h
  · rename_i a b
    obtain ⟨v, rfl, py⟩ := looks_one ps
    split at h
    · rename_i hz
      exact ⟨a, b, look_txt px, by rw [look_txt py], hz.1, hz.2, fun p hp => h.newLst S Reps.of_strs hp⟩
    · exact h.elim
  · exact h.elim
/-- methods without an argument -/
def dMeth0 (T : String) (g : D → Res D) (de : Den D) : Den D := fun ρ m => (de ρ m).bind fun x => if tyD T x.1 = true then (g x.1).bind fun d => .ok (d, x.2) else .bad
def rstripD : D → Res D
  | .str a => if a.length ≤ sizeLine then .ok (.str (Txt.rstrip a)) else .bad
  | _ => .bad
theorem pd_rstrip {o : Expr} {de : Den D} {apos cpos : Pos} (ho : PE X o (tX X.K X.mg RW de (pLook X.K X.mg)))
    (hbase : attributeBase o "rstrip" X.env (eval o X.env) = eval o X.env := by rfl) (hline : (apos.endLine == cpos.line) = true := by rfl) :
    PE X (.Call (.Attribute o "rstrip" apos) [] [] cpos) (tX X.K X.mg RW (dMeth0 "str" rstripD de) (pVal X.K X.mg)) :=
  PE.imp (pe_m0 (PySem.F.slot_str_rstrip) (PySem.F.type_str_rstrip) mt_rstrip ho hbase hline) fun σ H Q q => tX.imp q fun B F0 z ow ρ m S h => Rem.step pVal.pm h fun d m1 B1 z1 ow1 v H1 hB hz S1 p h1 => by
    dsimp only at h1
    split at h1
    · cases d with
      | str a =>
        dsimp only [rstripD] at h1
        split at h1
        · rename_i hl
          exact ⟨⟨a, look_txt p⟩, a, look_txt p, rfl, hl, h1.here S1 (rep_str.mpr rfl)⟩
        · exact h1.elim
      | _ => exact h1.elim
    · exact h1.elim
/-! ### zip of two tuples -/
def zipL : List D → List D → List D
  | x :: xs, y :: ys => .tup [x, y] :: zipL xs ys
  | _, _ => []
theorem zipL_get : ∀ (xs ys : List D) (i : Nat), (zipL xs ys)[i]? = match xs[i]?, ys[i]? with
    | some x, some y => some (.tup [x, y])
    | _, _ => none
  | [], ys, i => by simp [zipL]
  | x :: xs, [], i => by simp [zipL]
  | x :: xs, y :: ys, 0 => by simp [zipL]
  | x :: xs, y :: ys, i + 1 => by simp only [zipL, List.getElem?_cons_succ]; exact zipL_get xs ys i
theorem zipL_len : ∀ (xs ys : List D), (zipL xs ys).length = min xs.length ys.length
  | [], ys => by simp [zipL]
  | x :: xs, [] => by simp [zipL]
  | x :: xs, y :: ys => by simp only [zipL, List.length_cons, zipL_len xs ys]; omega
theorem yields_zipT {K : PySem.W.Frag} {mg : Str → Option Value} {z : Fz} {a b : Addr} {xs ys : List V} {ds es : List D} (h : SqT K z.F a xs) (r : Reps K mg z ds xs) (h2 : SqT K z.F b ys) (r2 : Reps K mg z es ys) : Yields K mg (RZ.ItzT K a b) z (zipL ds es) := by
  intro B F0 z' ow ρ m σ H i hz S
  have hH : SqT K H a xs := same_tup S.fh (same_tup hz.1 h)
  have hH2 : SqT K H b ys := same_tup S.fh (same_tup hz.1 h2)
  refine ⟨fun e => ⟨xs, ys, hH, hH2, by rw [← r.len, ← r2.len, e, zipL_len]; omega⟩, fun d hd => ?_⟩
  rw [zipL_get] at hd
  cases hq : ds[i]? with
  | none => rw [hq] at hd; cases hd
  | some d0 =>
    cases hq2 : es[i]? with
    | none => rw [hq, hq2] at hd; cases hd
    | some d1 =>
      rw [hq, hq2] at hd
      cases hd
      obtain ⟨v, hv, rv⟩ := r.get hq
      obtain ⟨w, hw, rw'⟩ := r2.get hq2
      refine ⟨⟨xs, ys, v, w, hH, hH2, hv, hw⟩, fun x H' y => ?_⟩
      obtain ⟨T, x0, y0, rfl, hT, rfl, y1, y2⟩ := y
      have e := (y1 xs hH).symm.trans hv
      cases e
      have e := (y2 ys hH2).symm.trans hw
      cases e
      exact ⟨_, S.leF hT _, S.allocF hT _, rep_tup_new (S.new_none hT).1 (.cons (rv.le hz) (.cons (rw'.le hz) .nil))⟩
def dZip (da : Den (List D)) : Den (List D) := fun ρ m => (da ρ m).bind fun x => match x.1 with
  | [.tup xs, .tup ys] => .ok (zipL xs ys, x.2)
  | _ => .bad
theorem it_zip {e e2 : Expr} {da : Den (List D)} {p pos tpos : Pos} {elts : List Expr} {kk : Nat} (hg : Gl X "zip") (hm : X.mg "zip" = none) (ha : PA X [e, e2] (tX X.K X.mg RW da (pVals X.K X.mg)))
    (hs : starEach [e, e2] X.env = (false, eval e X.env) :: starEach [e2] X.env := by rfl) (hpl : (backTo pos (starEach [e2] X.env)).any (·.1) = false := by rfl) :
    PI X (.Tuple elts kk tpos) (.Call (.Name "zip" p) [e, e2] [] pos) (tX X.K X.mg RW (dZip da) (pIt X.K X.mg)) :=
  PI.imp (RZ.pi_zipA hg hm ha hs hpl) fun σ H Q q => by
    refine tX.imp q fun B F0 z ow ρ m S h => Rem.step pIt.pm h fun d m1 B1 z1 ow1 v H1 hB hz S1 p h1 => ?_
    dsimp only at h1
    split at h1
    · rename_i ds es
      obtain ⟨v1, vs1, rfl, p1, r1⟩ := (show Reps X.K X.mg z1 [.tup ds, .tup es] v from p).uncons
      obtain ⟨v2, vs2, rfl, p2, r2⟩ := r1.uncons
      cases r2.nil_of
      simp only [Rep] at p1 p2
      obtain ⟨a, xs, rfl, e1, q1⟩ := p1
      obtain ⟨b, ys, rfl, e2, q2⟩ := p2
      exact ⟨a, b, xs, ys, rfl, .inr ⟨same_tup S1.fh e1, same_tup S1.fh e2, Rem.here (d := zipL ds es) h1 S1 (yields_zipT e1 q1 e2 q2)⟩⟩
    · exact h1.elim
/-- == of rows by their own word, as a test -/
theorem pt_eqRow {pos : Pos} {a b : Expr} {g : Addr} {k : Nat} {den : FDen} {da db : Den D} (R : RowK X.K X.mg) (hs : PySem.W.findIn X.K (.ref (cA X.K "Row")) "__eq__" = some (some (.ref g))) (hf : PySem.W.isFn X.K (.ref g) = true) (hn : nfB X.K = true) (F : Ff X.prog X.w X.K X.mg X.base g k 2 den) (hr : Room k X.A)
    (ha : PE X a (tX X.K X.mg RW da (pVal X.K X.mg))) (hb : PE X b (tX X.K X.mg RW db (pVal X.K X.mg))) (hm : behindInMarks .Eq b = false := by rfl) :
    PT X (.Compare a [.Eq] [b] pos) (tX X.K X.mg RW (dT (dEqRow den da db)) pTest) := by
  obtain ⟨fd, ps, F, hbn⟩ := F.ex
  obtain ⟨n1, n2⟩ := He.ba hn
  refine PT.imp (pt_cmpR (op_eqOwn (E := noX) hs hf F hbn hr pass_no) ha hb hm) fun σ H Q q => tX.imp (test_of σ H Q q) fun B F0 z ow ρ m S h => Rem.step pVal.pm h fun d m1 B1 z1 ow1 v H1 hB hz S1 pd h1 => ?_
  refine ⟨B1, F0, z1, ow1, ρ, m1, S1, Rem.step pVal.pm h1 fun dy m2 B2 z2 ow2 y H2 hB2 hz2 S2 py h2 => ?_⟩
  have pd : Rep X.K X.mg z2 d v := Rep.le hz2 pd
  have py : Rep X.K X.mg z2 dy y := py
  cases d with
  | row g =>
    obtain ⟨a, dx, x, rfl, hF, r⟩ := rep_row R pd
    cases dy with
    | row k =>
      obtain ⟨b, dz, x2, rfl, hF2, r2⟩ := rep_row R py
      exact ⟨a, dx, _, _, rfl, S2.fh _ _ hF, .ins (S2.fh _ _ hF2), n1, spF_here (ds := [.row g, .row k]) S2 (.cons pd (.cons py .nil)) rfl h2⟩
    | tup k =>
      obtain ⟨b, ys, rfl, e, r2⟩ := (by simpa only [Rep] using py : ∃ a xs, y = .ref a ∧ SqT X.K z2.F a xs ∧ Reps X.K X.mg z2 k xs)
      exact ⟨a, dx, _, _, rfl, S2.fh _ _ hF, .tup (same_tup S2.fh e), n2, spF_here (ds := [.row g, .tup k]) S2 (.cons pd (.cons py .nil)) rfl h2⟩
    | _ => exact h2.elim
  | _ => exact h2.elim
/-- a block within a block that captures nothing -/
theorem blkOk_nf {N : List Str} {sc sc' scope : Scope} {own : List (Str × Nat)} (h : blkC N sc scope own = true) (hf : (scope.names.all fun y => decide (y.2 ≠ .free)) = true) : BlkOk N sc' scope own := by
  have b := blkOk_by h
  exact ⟨b.kind, b.uniq, b.ix, fun y hy e => absurd e (by simpa using List.all_eq_true.mp hf y hy), b.own⟩
/-! ### what is not served: no more is said -/
def badS : SDen := fun _ _ => .bad
theorem sd_bad {s : Stmt} : PS X s (tB X.K X.mg RW badS) := ⟨fun _ _ _ _ _ _ ⟨_, _, _, _, _, _, _, h⟩ => h.elim⟩
end
end PD
/-! texts, plainly: what split and join do to lists of signs. -/
namespace PD
open PySem PySem.Spec PyProof.Rows L2
section
def splitL (c : Nat) : List Nat → List (List Nat)
  | [] => [[]]
  | a :: r => if a = c then [] :: splitL c r else match splitL c r with
    | [] => [[a]]
    | p :: ps => (a :: p) :: ps
def joinL (c : Nat) : List (List Nat) → List Nat
  | [] => []
  | [x] => x
  | x :: y :: r => x ++ c :: joinL c (y :: r)
theorem splitL_ne (c : Nat) : ∀ l : List Nat, splitL c l ≠ []
  | [] => by simp [splitL]
  | a :: r => by
    rw [splitL]
    split
    · exact List.cons_ne_nil _ _
    · split <;> exact List.cons_ne_nil _ _
theorem splitL_app (c : Nat) (r : List Nat) : ∀ l : List Nat, splitL c (l ++ c :: r) = splitL c l ++ splitL c r
  | [] => by
    show splitL c (c :: r) = [[]] ++ splitL c r
    rw [splitL, if_pos rfl]
    rfl
  | a :: l => by
    have ih := splitL_app c r l
    rw [List.cons_append, splitL, splitL, ih]
    by_cases h : a = c
    · rw [if_pos h, if_pos h]
      rfl
    · rw [if_neg h, if_neg h]
      cases hs : splitL c l with
      | nil => exact absurd hs (splitL_ne c l)
      | cons p ps => rfl
theorem splitL_free (c : Nat) : ∀ l : List Nat, c ∉ l → splitL c l = [l]
  | [], _ => rfl
  | a :: l, h => by
    rw [splitL, if_neg (fun e => h (by rw [e]; exact List.mem_cons_self ..)), splitL_free c l (fun q => h (List.mem_cons_of_mem _ q))]
theorem split_join (c : Nat) : ∀ ps : List (List Nat), ps ≠ [] → (∀ p ∈ ps, c ∉ p) → splitL c (joinL c ps) = ps
  | [], h, _ => absurd rfl h
  | [x], _, h => by rw [joinL, splitL_free c x (h x (List.mem_cons_self ..))]
  | x :: y :: r, _, h => by
    rw [joinL, splitL_app, splitL_free c x (h x (List.mem_cons_self ..)), split_join c (y :: r) (List.cons_ne_nil _ _) fun p hp => h p (List.mem_cons_of_mem _ hp)]
    rfl
/-- the text of a list of signs -/
def mkS (l : List Nat) : Str := ⟨l.toArray⟩
@[simp] theorem mkS_list (l : List Nat) : (mkS l).cps.toList = l := rfl
theorem mkS_of (x : Str) : mkS x.cps.toList = x := by obtain ⟨a⟩ := x; show Str.mk _ = _; rw [Array.toArray_toList]
theorem str_ext {x y : Str} (h : x.cps.toList = y.cps.toList) : x = y := by rw [← mkS_of x, ← mkS_of y, h]
theorem list_app (x y : Str) : (x ++ y).cps.toList = x.cps.toList ++ y.cps.toList := by
  obtain ⟨a⟩ := x; obtain ⟨b⟩ := y
  show (a ++ b).toList = _
  simp
theorem list_join (c : Nat) : ∀ ps : List Str, (Str.join ⟨#[c]⟩ ps).cps.toList = joinL c (ps.map fun p => p.cps.toList)
  | [] => rfl
  | [x] => rfl
  | x :: y :: r => by
    show (x ++ ⟨#[c]⟩ ++ Str.join ⟨#[c]⟩ (y :: r)).cps.toList = _
    rw [list_app, list_app, list_join c (y :: r), List.append_assoc]
    rfl
theorem split_eq (x : Str) (c : Nat) : Txt.split x ⟨#[c]⟩ = (splitL c x.cps.toList).map mkS := by
  have h1 := StrLaws.join_split x ⟨#[c]⟩
  have h2 := StrLaws.split_free x c
  have h3 : (Txt.split x ⟨#[c]⟩).map (fun p => p.cps.toList) ≠ [] := by
    intro e
    have := split_pos x ⟨#[c]⟩
    rw [List.map_eq_nil_iff.mp e] at this
    exact absurd this (by decide)
  have h4 : x.cps.toList = joinL c ((Txt.split x ⟨#[c]⟩).map fun p => p.cps.toList) := by rw [← list_join, h1]
  rw [h4, split_join c _ h3 fun p hp => by
    obtain ⟨q, hq, rfl⟩ := List.mem_map.mp hp
    exact h2 q hq, List.map_map]
  conv => lhs; rw [← List.map_id (Txt.split x ⟨#[c]⟩)]
  exact List.map_congr_left fun p _ => (mkS_of p).symm
theorem join_eq (sep : Str) (ps : List Str) : Txt.join sep ps = Str.join sep ps := StrLaws.glued_eq_join sep ps
theorem split_joined (c : Nat) (ps : List Str) (hne : ps ≠ []) (h : ∀ p ∈ ps, c ∉ p.cps.toList) : Txt.split (Txt.join ⟨#[c]⟩ ps) ⟨#[c]⟩ = ps := by
  rw [split_eq, join_eq, list_join, split_join c _ (fun e => hne (List.map_eq_nil_iff.mp e)) fun p hp => by
    obtain ⟨q, hq, rfl⟩ := List.mem_map.mp hp
    exact h q hq, List.map_map]
  conv => rhs; rw [← List.map_id ps]
  exact List.map_congr_left fun p _ => mkS_of p
/-! ### the words of a line -/
def neL (l : List Nat) : List (List Nat) := (splitL 32 l).filter fun w => decide (w ≠ [])
theorem neL_app (l r : List Nat) : neL (l ++ 32 :: r) = neL l ++ neL r := by unfold neL; rw [splitL_app, List.filter_append]
theorem neL_sp (r : List Nat) : neL (32 :: r) = neL r := neL_app [] r
theorem neL_sps : ∀ s r : List Nat, (∀ x ∈ s, x = 32) → neL (s ++ r) = neL r
  | [], r, _ => rfl
  | a :: s, r, h => by
    have e := h a (List.mem_cons_self ..)
    subst e
    rw [List.cons_append, neL_sp, neL_sps s r fun x hx => h x (List.mem_cons_of_mem _ hx)]
theorem neL_word (w : List Nat) (h0 : w ≠ []) (h : 32 ∉ w) : neL w = [w] := by
  unfold neL
  rw [splitL_free 32 w h, List.filter_cons_of_pos (by simpa using h0)]
  rfl
theorem neL_end (l s : List Nat) (h : ∀ x ∈ s, x = 32) : neL (l ++ s) = neL l := by
  cases s with
  | nil => rw [List.append_nil]
  | cons a s =>
    have e := h a (List.mem_cons_self ..)
    subst e
    have q := neL_sps s [] fun x hx => h x (List.mem_cons_of_mem _ hx)
    rw [List.append_nil] at q
    rw [neL_app, q, show neL [] = [] from rfl, List.append_nil]
/-- what is told so far: whatever comes behind it, its words stay -/
def Told (M : List Nat) (ws : List (List Nat)) : Prop := ∀ r, neL (M ++ r) = ws ++ neL r
theorem Told.sps {s : List Nat} (h : ∀ x ∈ s, x = 32) : Told s [] := fun r => neL_sps s r h
theorem Told.add {M : List Nat} {ws : List (List Nat)} (h : Told M ws) {w s : List Nat} (h0 : w ≠ []) (hw : 32 ∉ w) (hs : ∀ x ∈ s, x = 32) (hs0 : s ≠ []) : Told (M ++ w ++ s) (ws ++ [w]) := fun r => by
  cases s with
  | nil => exact absurd rfl hs0
  | cons a s =>
    have e := hs a (List.mem_cons_self ..)
    subst e
    rw [List.append_assoc, List.append_assoc, h, List.cons_append, neL_app, neL_word w h0 hw, neL_sps s r fun x hx => hs x (List.mem_cons_of_mem _ hx), List.append_assoc]
theorem Told.all {M : List Nat} {ws : List (List Nat)} (h : Told M ws) : neL M = ws := by
  have e := h []
  rwa [List.append_nil, show neL [] = [] from rfl, List.append_nil] at e
theorem neL_join : ∀ ws : List (List Nat), (∀ w ∈ ws, w ≠ [] ∧ 32 ∉ w) → neL (joinL 32 ws) = ws
  | [], _ => rfl
  | [w], h => neL_word w (h w (List.mem_cons_self ..)).1 (h w (List.mem_cons_self ..)).2
  | w :: y :: r, h => by
    obtain ⟨h0, h1⟩ := h w (List.mem_cons_self ..)
    rw [joinL, neL_app, neL_word w h0 h1, neL_join (y :: r) fun x hx => h x (List.mem_cons_of_mem _ hx)]
    rfl
/-- rstrip takes away spaces at the end alone -/
theorem takeWhile_all {α : Type} (p : α → Bool) : ∀ (l : List α) (x : α), x ∈ l.takeWhile p → p x = true ∧ x ∈ l
  | [], x, h => nomatch h
  | a :: l, x, h => by
    rw [List.takeWhile_cons] at h
    split at h
    · rename_i ha
      rcases List.mem_cons.mp h with rfl | h
      · exact ⟨ha, List.mem_cons_self ..⟩
      · have := takeWhile_all p l x h
        exact ⟨this.1, List.mem_cons_of_mem _ this.2⟩
    · cases h
theorem takeWhile_drop {α : Type} (p : α → Bool) : ∀ l : List α, l.takeWhile p ++ l.drop (l.takeWhile p).length = l
  | [] => rfl
  | a :: l => by
    rw [List.takeWhile_cons]
    split
    · rw [List.cons_append, List.length_cons, List.drop_succ_cons, takeWhile_drop p l]
    · rfl
theorem rstrip_cut (x : Str) : ∃ s : List Nat, x.cps.toList = (Txt.rstrip x).cps.toList ++ s ∧ ∀ c ∈ s, Unicode.isSpace c = true ∧ c ∈ x.cps.toList := by
  have e := stripBy_eq Unicode.isSpace false true x
  have e2 : (Txt.rstrip x).cps.toList = x.cps.toList.take (x.length - (x.cps.toList.reverse.takeWhile Unicode.isSpace).length) := by
    show (Txt.stripBy Unicode.isSpace false true x).cps.toList = _
    rw [e, StrLaws.strSub_toList]
    rfl
  have hl : x.length = x.cps.toList.length := by simp [Str.length]
  refine ⟨x.cps.toList.drop (x.length - (x.cps.toList.reverse.takeWhile Unicode.isSpace).length), by rw [e2, List.take_append_drop], fun c hc => ?_⟩
  have hd : x.cps.toList.drop (x.length - (x.cps.toList.reverse.takeWhile Unicode.isSpace).length) = (x.cps.toList.reverse.takeWhile Unicode.isSpace).reverse := by
    have q := takeWhile_drop Unicode.isSpace x.cps.toList.reverse
    have q2 : x.cps.toList = (x.cps.toList.reverse.drop (x.cps.toList.reverse.takeWhile Unicode.isSpace).length).reverse ++ (x.cps.toList.reverse.takeWhile Unicode.isSpace).reverse := by
      rw [← List.reverse_append, q, List.reverse_reverse]
    conv => lhs; arg 2; rw [q2]
    rw [hl, List.drop_append_of_le_length (by rw [List.length_reverse, List.length_drop, List.length_reverse]; omega)]
    rw [List.drop_of_length_le (by rw [List.length_reverse, List.length_drop, List.length_reverse]; omega), List.nil_append]
  rw [hd, List.mem_reverse] at hc
  have := takeWhile_all _ _ _ hc
  exact ⟨this.1, List.mem_reverse.mp this.2⟩
/-! ### texts of numbers -/
abbrev tS (n : Nat) : Str := (toString (n : Int) : String)
theorem tS_tab : ((List.range 12).all fun n => decide ((tS n).cps.toList ≠ []) && (tS n).cps.toList.all (fun c => decide (48 ≤ c) && decide (c ≤ 57)) && decide ((tS n).cps.toList.length ≤ 2)) = true := by decide +kernel
theorem tS_inj : ((List.range 12).all fun n => (List.range 12).all fun k => decide (tS n = tS k) == decide (n = k)) = true := by decide +kernel
theorem tS_ne {n : Nat} (h : n < 12) : (tS n).cps.toList ≠ [] ∧ (∀ c ∈ (tS n).cps.toList, 48 ≤ c ∧ c ≤ 57) ∧ (tS n).cps.toList.length ≤ 2 := by
  have q := List.all_eq_true.mp tS_tab n (List.mem_range.mpr h)
  simp only [Bool.and_eq_true, decide_eq_true_eq, List.all_eq_true] at q
  exact ⟨q.1.1, q.1.2, q.2⟩
theorem tS_eq {n k : Nat} (h : n < 12) (hk : k < 12) : decide (tS n = tS k) = decide (n = k) := by
  have q := List.all_eq_true.mp (List.all_eq_true.mp tS_inj n (List.mem_range.mpr h)) k (List.mem_range.mpr hk)
  exact eq_of_beq q
theorem strD_nat (n : Nat) (h : n < 1000000) : strD (nD n) = .ok (.str (tS n)) := by
  unfold strD
  dsimp only
  refine if_pos ?_
  rw [Int.natAbs_natCast]
  have : n.log2 ≤ n := Nat.log2_le_self n
  by_cases h0 : n = 0
  · subst h0; decide
  · have : n.log2 < 20 := (Nat.log2_lt h0).mpr (by omega)
    omega
theorem fmtD_nat (n : Nat) (h : n < 1000000) : fmtD (nD n) = .ok (.str (tS n)) := strD_nat n h
/-- plain signs -/
def Asc (x : Str) : Prop := ∀ c ∈ x.cps.toList, c < 128
theorem Asc.can {x : Str} (h : Asc x) : (D.str x).py.canLay0 = true := by
  show x.cps.all (fun c => decide (c < 0x110000)) = true
  rw [← Array.all_toList, List.all_eq_true]
  intro c hc
  have := h c hc
  rw [decide_eq_true_eq]
  omega
theorem Asc.okk {x : Str} (h : Asc x) : Okk 0 (.str x) := ⟨h.can, Nat.le_refl _⟩
theorem okk_okp {k : Nat} {d : D} (h : Okk k d) (hk : k ≤ 64) : d.okp = true := by
  have h1 := h.1
  have h2 := h.2
  simp [D.okp, SeqAt.shaped, h1]
  omega
theorem str_eqv (a b : Str) : PyData.eqv (D.str a).py (D.str b).py = decide (a = b) := by
  show PyData.eqv (.str a) (.str b) = _
  simp [PyData.eqv]
  rfl
theorem eqD_txt {a b : Str} (ha : Asc a) (hb : Asc b) : eqD (.str a) (.str b) = .ok (.bl (decide (a = b))) := by
  unfold eqD
  rw [okk_okp ha.okk (by decide), okk_okp hb.okk (by decide), str_eqv]
  rfl
theorem neD_txt {a b : Str} (ha : Asc a) (hb : Asc b) : neD (.str a) (.str b) = .ok (.bl (!decide (a = b))) := by
  unfold neD
  rw [okk_okp ha.okk (by decide), okk_okp hb.okk (by decide), str_eqv]
  rfl
theorem one_eqv (a b : Str) : PyData.eqv (D.lst [.str a]).py (D.lst [.str b]).py = decide (a = b) := by
  show PyData.eqv (.list [.str a]) (.list [.str b]) = _
  simp [PyData.eqv, PyData.eqvAll]
  rfl
theorem okk_one {a : Str} (h : Asc a) : Okk 1 (.lst [.str a]) := okk_lst fun x hx => by rw [List.mem_singleton] at hx; subst hx; exact h.okk
theorem eqD_one {a b : Str} (ha : Asc a) (hb : Asc b) : eqD (.lst [.str a]) (.lst [.str b]) = .ok (.bl (decide (a = b))) := by
  unfold eqD
  rw [okk_okp (okk_one ha) (by decide), okk_okp (okk_one hb) (by decide), one_eqv]
  rfl
theorem neD_one {a b : Str} (ha : Asc a) (hb : Asc b) : neD (.lst [.str a]) (.lst [.str b]) = .ok (.bl (!decide (a = b))) := by
  unfold neD
  rw [okk_okp (okk_one ha) (by decide), okk_okp (okk_one hb) (by decide), one_eqv]
  rfl
theorem neD_self {k : Nat} {d : D} (h : Okk k d) (hk : k ≤ 64) : neD d d = .ok (.bl false) := by
  unfold neD
  rw [okk_okp h hk, SeqAt.eqv_refl d.py h.1]
  rfl
theorem joinD_strs (a : Str) (ys : List Str) (h : (ys.map (·.length)).sum + ys.length * a.length ≤ 16777216) : joinD (.str a) [.lst (ys.map .str)] = .ok (.str (Txt.join a ys)) := by
  unfold joinD
  dsimp only
  rw [strs?_map]
  exact if_pos h
theorem splitN_str (a b : Str) (hb : (b.length == 0) = false) (h : a.length + 2 ≤ 16777216) : splitN (.str a) [.str b] = .ok (.lst ((Txt.split a b).map .str)) := by
  unfold splitN
  exact if_pos ⟨hb, by rw [szl_eq]; exact h⟩
theorem cut_one {α : Type} (xs : List α) (k : Nat) : cut xs (some (k : Int)) (some ((k : Int) + 1)) = (xs.drop k).take 1 := by
  unfold cut
  rw [show (k : Int) + 1 = ((k + 1 : Nat) : Int) by omega, HT.sIx_nat, HT.sIx_nat]
  rcases Nat.lt_or_ge k xs.length with h | h
  · rw [Nat.min_eq_left (by omega), Nat.min_eq_left (by omega)]
    congr 1
    omega
  · rw [Nat.min_eq_right (by omega), Nat.min_eq_right (by omega), List.drop_of_length_le (Nat.le_refl _), List.drop_of_length_le h]
    simp
@[simp] theorem dMeth_ev (T : String) (g : D → List D → Res D) (de : Den D) (da : Den (List D)) (ρ : List Slot) (m : List Ob) : dMeth T g de da ρ m = (de ρ m).bind fun x => if tyD T x.1 = true then (da ρ x.2).bind fun xs => (g x.1 xs.1).bind fun d => .ok (d, xs.2) else .bad := byEq rfl
@[simp] theorem dMethN_ev (T : String) (g : D → List D → Res Cont) (de : Den D) (da : Den (List D)) (ρ : List Slot) (m : List Ob) : dMethN T g de da ρ m = (de ρ m).bind fun x => if tyD T x.1 = true then (da ρ x.2).bind fun xs => (g x.1 xs.1).bind fun d => .ok (d, xs.2) else .bad := byEq rfl
@[simp] theorem dMeth0_ev (T : String) (g : D → Res D) (de : Den D) (ρ : List Slot) (m : List Ob) : dMeth0 T g de ρ m = (de ρ m).bind fun x => if tyD T x.1 = true then (g x.1).bind fun d => .ok (d, x.2) else .bad := byEq rfl
theorem tyD_str (s : Str) : tyD "str" (.str s) = true := rfl
@[simp] theorem dZip_ev (da : Den (List D)) (ρ : List Slot) (m : List Ob) : dZip da ρ m = (da ρ m).bind fun x => match x.1 with
  | [.tup xs, .tup ys] => .ok (zipL xs ys, x.2)
  | _ => .bad := byEq rfl
theorem min2D_nat (a b : Nat) : min2D (nD a) (nD b) = .ok (nD (min a b)) := by
  rw [min2D_int]
  by_cases h : b < a
  · rw [if_pos (by omega), Nat.min_eq_right (by omega)]
  · rw [if_neg (by omega), Nat.min_eq_left (by omega)]
theorem slotAt_set (s : Slot) : ∀ (ρ : List Slot) (i : Nat), i < ρ.length → PD.slotAt (ρ.set i s) i = s
  | [], i, h => absurd h (Nat.not_lt_zero _)
  | _ :: _, 0, _ => rfl
  | _ :: r, i + 1, h => slotAt_set s r i (by rw [List.length_cons] at h; omega)
theorem addD_str (a b : Str) (h : a.length + b.length ≤ 16777216) : addD (.str a) (.str b) = .ok (.str (a ++ b)) := if_pos (by rw [szl_eq]; exact h)
end
end PD
/-! sorted(xs, key=lambda k: g[k]): the lambda made, its calls, the sort. -/
namespace PD
open PySem PySem.Spec PyProof.Rows L2
section
variable {prog : Program} {w : World} {A : Around} {s : Shared}
/-- the sequence at ga has this item at this place -/
def SeqAtV (h : Heap) (ga : Addr) (n : Nat) (i : Int) : Prop := ∃ (its : List Value) (tk : Tok), (h.IsList ga its.toArray ∨ IsTup h ga its.toArray) ∧ its.length ≤ 1000000 ∧ its[n]? = some (.int i tk)
theorem SeqAtV.keeps {h h' : Heap} {ga : Addr} {n : Nat} {i : Int} (q : SeqAtV h ga n i) (k : ∀ b o, h.get? b = some o → h'.get? b = some o) : SeqAtV h' ga n i := by
  obtain ⟨its, tk, hl, hz, hi⟩ := q
  refine ⟨its, tk, ?_, hz, hi⟩
  rcases hl with hl | hl
  · exact .inl (hl.at fun o e => k _ _ e)
  · obtain ⟨o, e, r⟩ := hl
    exact .inr ⟨o, k _ _ e, r⟩
/-- a call of such a lambda -/
theorem lam_call {f c' gc ga : Addr} {qual : Str} {params : Arguments} {scope : Scope} {cl : List (Str × Addr)} {pm ctv : Value} {g k : Str} {gp kp sp : Pos} {n : Nat} {i : Int} {tk : Tok}
    (ho : s.heap.get? f = some (W.kla_obj "<lambda>" qual params (.Subscript (.Name g gp) (.Name k kp) sp) scope cl pm c' ctv)) (hrec : s.heap.CodeRec (.ref c') qual) (hroom : A.depth < recursionLimit) (hnl : s.heap.NoLimit)
    (hk : scope.kind = .function) (hco : scope.isCoroutine = false) (hgen : scope.isGenerator = false) (hcell : ∀ x ∈ scope.names, x.2 ≠ .cell) (hkl : scope.names.lookup k = some .local) (hgf : scope.names.lookup g = some .free)
    (hbind : ∀ v : Value, bindArgs (W.kla_fn "<lambda>" qual params (.Subscript (.Name g gp) (.Name k kp) sp) scope cl pm (.ref c') ctv) ⟨[v], []⟩ = pure [(k, v)])
    (hcl : cl.lookup g = some gc) (hc : s.heap.IsCell gc (some (.ref ga))) (hi : SeqAtV s.heap ga n i)
    (hd1 : (g == ("__debug__" : Str)) = false) (hd2 : (k == ("__debug__" : Str)) = false) (hd3 : (g == ("__classdict__" : Str)) = false) :
    wpAny (model prog w) A (call (.ref f) [.int (n : Int) tk]) (W.KeyPure (.int i) s) (fun _ _ => False) s := by
  refine wpAny_call (W.kla_callFunE hroom ho rfl hco hgen rfl hrec ?_)
  rw [hbind]
  refine wpAny_pure (wpAny_newFunctionEnv hcell (fun x hx => by rw [List.mem_singleton] at hx; subst hx; exact hkl) (fun h₁ hns hsb => ⟨hnl.fresh _ hsb, ?_⟩) hk)
  have kp1 : ∀ b o, s.heap.get? b = some o → h₁.get? b = some o := fun b o e => hsb.extBut b o (Nat.ne_of_lt (Heap.lt_size e)) (Heap.get?_push_of_some _ e)
  have hc1 : h₁.IsCell gc (some (.ref ga)) := by
    obtain ⟨o, e1, e2⟩ := hc
    exact ⟨o, kp1 _ _ e1, e2⟩
  obtain ⟨its, tk2, hl, hz, hit⟩ := hi.keeps kp1
  obtain ⟨hlt, _⟩ := List.getElem?_eq_some_iff.mp hit
  refine W.kla_codeExpr (Subscript_ (wpAny_Name (wpAny_loadName_free hk hgf hcl hc1 (wpAny_Name (wpAny_loadName_local hk hkl hns (v := .int (n : Int) tk) (by simp [List.lookup]) ?_) hd2) hd3) hd1))
  have fin : W.KeyPure (.int i) s (.int i tk2) { s with heap := h₁, toks := s.toks + 1 } := ⟨h₁, s.toks + 1, rfl, kp1, .int i tk2⟩
  rcases hl with hl | hl
  · exact item_listR hl (by omega) (by omega) (by rw [Int.toNat_natCast]; simpa using hit) fin rfl
  · exact subscriptTail_builtinR (x := .int i tk2) hl.typeIs slot_tuple_getitem.lookup (getItem_tuple (j := n) hl (by omega) (by omega) (by rw [List.size_toArray]; exact seqIndex_of (by omega) (by omega)) (by simpa using hit) ⟨rfl, fin⟩) rfl
end
section
variable {X : Cx} {pins : List (Addr × Obj)} {σ : L2.St} {H : Hp} {s : Shared}
/-- the name of the lambdas of a def -/
abbrev lamQ (X : Cx) : Str := X.env.qual ++ ("<lambda>" : Str)
/-- the abstract heap behind a lambda's making: as it was, or the table has grown by a new code object -/
def Grown (H : Hp) (P c' : Addr) (ps : Array Value) (q : Str) (H1 : Hp) : Prop :=
  H1 = H ∨ (H c' = none ∧ ∃ qs : Array Value, H1 = upd (upd H P (.tbl qs)) c' (LamX.CodeO c' q) ∧ TriplesOk qs.toList ∧ ∀ (pos : Pos) (cv : Value), codeAmong pos qs.toList = some cv → codeAmong pos ps.toList = some cv ∨ cv = .ref c')
theorem lam_make3 {cA0 P : Addr} {ps : Array Value} {params : Arguments} {body : Expr} {scope : Scope} {lp : Pos} {EX : Value → Shared → Prop} {QQ : Value → Shared → Prop}
    (I : Inv X pins σ H s) (tb : LamX.TabB X.base X.mg cA0 P) (ecode : X.env.code = .ref cA0) (eP : H P = some (.tbl ps)) (tri : TriplesOk ps.toList)
    (old : ∀ (pos : Pos) (cv : Value), codeAmong pos ps.toList = some cv → ∃ c, cv = .ref c ∧ H c = some (LamX.CodeO c (lamQ X)))
    (nodef : defaultsOf params X.env = ([], [])) (caps : ∀ y ∈ scope.names, y.2 = .free → ∃ c, X.env.cells.lookup y.1 = some c)
    (go : ∀ (f c' : Addr) (pm ctv : Value) (H1 : Hp) (s' : Shared), Inv X pins σ H1 s' → Grown H P c' ps (lamQ X) H1 → s'.heap.get? f = some (W.kla_obj "<lambda>" (lamQ X) params body scope (cloFrom X.env.cells scope.names []) pm c' ctv) →
      s'.heap.CodeRec (.ref c') (lamQ X) → QQ (.ref f) s') : wpAny (model X.prog X.w) X.A (eval (.Lambda params body scope lp) X.env) QQ EX s := by
  refine W.kla_eval nodef ?_
  have hbm := tb.bm.keeps I.bk
  have tabObj := I.hok P _ eP
  cases found : codeAmong lp ps.toList with
  | some cv =>
    obtain ⟨c', rfl, eco⟩ := old lp cv found
    refine W.kla_makeFunctionHit (closure_ok caps) I.ok.glob (I.mod.glob.keeps I.bk) ecode (tb.code.keeps I.bk) tabObj tri found hbm fun ctv h2 t2 kp _ => ?_
    have kp2 : ∀ b o, s.heap.get? b = some o → (h2.push (W.kla_obj "<lambda>" (lamQ X) params body scope (cloFrom X.env.cells scope.names []) ((X.mg "__name__").getD .none) c' ctv)).get? b = some o := fun b o z => Heap.get?_push_of_some _ (kp b o z)
    have J : Inv X pins σ H { s with heap := h2.push (W.kla_obj "<lambda>" (lamQ X) params body scope (cloFrom X.env.cells scope.names []) ((X.mg "__name__").getD .none) c' ctv), toks := t2 } := I.kept kp2
    obtain ⟨⟨oc, us, t, z1, z2, z3⟩, _, _⟩ := J.hok c' _ eco
    exact go _ c' _ ctv H _ J (.inl rfl) (Heap.get?_push_size _ rfl) ⟨c', oc, us, t, rfl, z1, z2, z3⟩
  | none =>
    refine W.kla_makeFunction (closure_ok caps) I.ok.glob (I.mod.glob.keeps I.bk) ecode (tb.code.keeps I.bk) tabObj tri found tb.gP hbm fun c' ctv h2 t2 ext big small rec tab => ?_
    obtain ⟨c2, oc, us, t, e2, z1, z2, z3⟩ := rec
    cases e2
    have fresh := I.hok.fresh big
    have J := LamX.inv_table (t' := t2) (more := #[rawInt lp.line, rawInt lp.col, .ref c']) (h' := h2.push (W.kla_obj "<lambda>" (lamQ X) params body scope (cloFrom X.env.cells scope.names []) ((X.mg "__name__").getD .none) c' ctv)) I eP
      (fun b o nb z => Heap.get?_push_of_some _ (ext b o nb z)) (Heap.get?_push_of_some _ tab) big ⟨oc, us, t, Heap.get?_push_of_some _ z1, z2, z3⟩
    have el : (ps ++ #[rawInt lp.line, rawInt lp.col, Value.ref c']).toList = ps.toList ++ [rawInt lp.line, rawInt lp.col, .ref c'] := by simp
    refine go _ c' _ ctv _ _ J (.inr ⟨fresh, _, rfl, by rw [el]; exact TriplesOk_snoc _ _ _ _ tri, fun p' cv z => ?_⟩) (Heap.get?_push_size _ rfl) ⟨c', oc, us, t, rfl, Heap.get?_push_of_some _ z1, z2, z3⟩
    rw [el] at z
    exact LamX.among_app _ tri z
/-- the keys -/
def keyAt (gs : List Int) (n : Int) : Int := gs.getD n.toNat 0
def sortBy (gs ns : List Int) : List Int := ns.mergeSort fun a b => decide (keyAt gs a ≤ keyAt gs b)
/-- the lambda's own words -/
def lamW (sc scope : Scope) (g k : Str) : Bool :=
  decide (scope.kind = .function) && (!scope.isCoroutine && (!scope.isGenerator && (decide (scope.names.lookup k = some .local) && (decide (scope.names.lookup g = some .free) && ((decide (sc.names.lookup g = some .cell) || decide (sc.names.lookup g = some .free)) &&
    scope.names.all fun y => decide (y.2 ≠ .cell) && (decide (y.2 ≠ .free) || (decide (sc.names.lookup y.1 = some .cell) || decide (sc.names.lookup y.1 = some .free))))))))
def tSortL (K : W.Frag) (P : Addr) (q : Str) (j : Nat) (ta : TA) : TE := fun σ H Q => ta σ H fun vs H1 => ∃ (a ga : Addr) (ns gs : List Int) (ps : Array Value), vs = [.ref a] ∧ SqL K H1 a (ns.map V.int) ∧ H1 P = some (.tbl ps) ∧ TriplesOk ps.toList ∧
  (∀ (pos : Pos) (cv : Value), codeAmong pos ps.toList = some cv → ∃ c, cv = .ref c ∧ H1 c = some (LamX.CodeO c q)) ∧ σ[j]? = some (some (.ref ga)) ∧ (SqL K H1 ga (gs.map V.int) ∨ SqT K H1 ga (gs.map V.int)) ∧ ns.length ≤ 100000 ∧ gs.length ≤ 100000 ∧ (∀ n ∈ ns, 0 ≤ n ∧ n < gs.length) ∧
  ∀ (c' : Addr) (H2 : Hp), Grown H1 P c' ps q H2 → ∀ p, H2 p = none → Q (.ref p) (upd H2 p (.lst ((sortBy gs ns).map V.int)))
theorem ints_each : ∀ {ns : List Int} {vs : List Value}, Vals (ns.map V.int) vs → W.EachIs (fun v (n : Int) => ∃ t, v = .int n t) vs ns
  | [], _, r => by cases r; exact .nil
  | n :: ns, _, r => by
    cases r with
    | cons h r => exact .cons h (ints_each r)
theorem each_ints : ∀ {ns : List Int} {vs : List Value}, W.EachIs (fun v (n : Int) => ∃ t, v = .int n t) vs ns → Vals (ns.map V.int) vs
  | [], _, .nil => .nil
  | _ :: _, _, .cons h r => .cons h (each_ints r)
end
end PD
/-! sorted(xs, key=lambda k: g[k]), the rule. -/
namespace PD
open PySem PySem.Spec PyProof.Rows L2
section
variable {X : Cx}
theorem seq_at {s : Shared} {pins : List (Addr × Obj)} {σ : L2.St} {H : Hp} {ga : Addr} {gs : List Int} (I : Inv X pins σ H s) (h : SqL X.K H ga (gs.map V.int) ∨ SqT X.K H ga (gs.map V.int)) (hl : gs.length ≤ 100000) {n : Nat} (hn : n < gs.length) : SeqAtV s.heap ga n (gs.getD n 0) := by
  have item : ∀ its : List Value, Vals (gs.map V.int) its → its.length ≤ 1000000 ∧ ∃ tk, its[n]? = some (.int (gs.getD n 0) tk) := fun its r => by
    have hlen := r.length
    rw [List.length_map] at hlen
    obtain ⟨u, hu, t, eu⟩ := r.get (i := n) (x := .int (gs.getD n 0)) (by rw [List.getElem?_map, List.getElem?_eq_getElem hn, getD_get _ _ _ hn]; rfl)
    exact ⟨by omega, t, by rw [hu, eu]⟩
  rcases h with h | h
  · obtain ⟨its, r, pl, _⟩ := I.list h
    obtain ⟨h1, tk, h2⟩ := item its r
    exact ⟨its, tk, .inl pl.isList, h1, h2⟩
  · obtain ⟨its, r, pl, _⟩ := I.tuple h
    obtain ⟨h1, tk, h2⟩ := item its r
    exact ⟨its, tk, .inr pl, h1, h2⟩
theorem pe_sortLam {e : Expr} {ta : TA} {p pos lp gp kp sp kwp : Pos} {params : Arguments} {scope : Scope} {g k : Str} {cA0 P : Addr} {j n : Nat} (hr : Room n X.A) (hg : Gl X "sorted") (hm : X.mg "sorted" = none) (ha : PA X [e] ta)
    (tb : LamX.TabB X.base X.mg cA0 P) (ecode : X.env.code = .ref cA0) (nodef : defaultsOf params X.env = ([], [])) (hN : X.N[j]? = some g) (hW : lamW X.env.scope scope g k = true)
    (hbind : ∀ (cl : List (Str × Addr)) (pm cd ctv v : Value), bindArgs (W.kla_fn "<lambda>" (lamQ X) params (.Subscript (.Name g gp) (.Name k kp) sp) scope cl pm cd ctv) ⟨[v], []⟩ = pure [(k, v)])
    (hd1 : (g == ("__debug__" : Str)) = false) (hd2 : (k == ("__debug__" : Str)) = false) (hd3 : (g == ("__classdict__" : Str)) = false)
    (hb : backTo pos (starEach [e] X.env) = (false, eval e X.env) :: backTo pos (starEach [] X.env) := by rfl) (hpl : (backTo pos (starEach [e] X.env)).any (·.1) = false := by rfl)
    (hall : (backToKw pos (keywordEach [⟨some "key", .Lambda params (.Subscript (.Name g gp) (.Name k kp) sp) scope lp, kwp⟩] X.env)).all (·.1.isSome) = true := by rfl)
    (hnone : (backToKw pos (keywordEach [⟨some "key", .Lambda params (.Subscript (.Name g gp) (.Name k kp) sp) scope lp, kwp⟩] X.env)).any (·.1.isNone) = false := by rfl)
    (hks : (backToKw pos (keywordEach [⟨some "key", .Lambda params (.Subscript (.Name g gp) (.Name k kp) sp) scope lp, kwp⟩] X.env)).filterMap (·.1) = [Str.ofString "key"] := by rfl) :
    PE X (.Call (.Name "sorted" p) [e] [⟨some "key", .Lambda params (.Subscript (.Name g gp) (.Name k kp) sp) scope lp, kwp⟩] pos) (tSortL X.K P (lamQ X) j ta) := by
  unfold lamW at hW
  simp only [Bool.and_eq_true, Bool.or_eq_true, Bool.not_eq_true', decide_eq_true_eq, List.all_eq_true] at hW
  obtain ⟨w1, w2, w3, w4, w5, w6, w7⟩ := hW
  refine ⟨fun pins s σ H Q I h => ?_⟩
  refine wpAny_Call_Name_kw (ld_blt I hg hm boot_sorted ?_)
  refine PyProof.Rows.callWith_kw (thn (ha.run pos pins s σ H _ I h) fun us s1 hh => ?_) hb hpl hall hnone
  obtain ⟨vs, H1, I1, r1, a, ga, ns, gs, ps, rfl, sqA, eP, tri, old, ej, sqG, lnA, lnG, inr, q⟩ := hh
  obtain ⟨u, rfl, ru⟩ := r1.one
  cases (show u = Value.ref a from ru)
  rw [hks]
  have caps : ∀ y ∈ scope.names, y.2 = .free → ∃ c, X.env.cells.lookup y.1 = some c := fun y hy ey => by
    rcases (w7 y hy).2 with z | z
    · exact absurd ey z
    · exact I1.ok.has _ z
  refine PyProof.Rows.kws_cons (lam_make3 I1 tb ecode eP tri old nodef caps fun f c' pm ctv H2 s2 I2 gr ef rec => PyProof.Rows.kws_nil ?_)
  show wpAny (model X.prog X.w) X.A (call (.builtin "sorted") [.ref a] [(Str.ofString "key", .ref f)]) _ _ s2
  -- the list and the groups are still there
  have stay : ∀ b u, H1 b = some u → (∀ z, u ≠ .tbl z) → H2 b = some u := fun b u eb nt => by
    rcases gr with rfl | ⟨fr, qs, rfl, _, _⟩
    · exact eb
    · rw [upd_ne (ne_of_none eb fr), upd_ne (fun z => by rw [z, eP] at eb; exact nt ps (Option.some.inj eb).symm)]
      exact eb
  have sqA2 : SqL X.K H2 a (ns.map V.int) := by
    rcases sqA with (z | ⟨o, z⟩) | z
    · exact .inl (.inl (stay _ _ z (fun _ z => by cases z)))
    · exact .inl (.inr ⟨o, stay _ _ z (fun _ z => by cases z)⟩)
    · exact .inr z
  have sqG2 : SqL X.K H2 ga (gs.map V.int) ∨ SqT X.K H2 ga (gs.map V.int) := by
    rcases sqG with ((z | ⟨o, z⟩) | z) | ((z | ⟨o, z⟩) | z)
    · exact .inl (.inl (.inl (stay _ _ z (fun _ z => by cases z))))
    · exact .inl (.inl (.inr ⟨o, stay _ _ z (fun _ z => by cases z)⟩))
    · exact .inl (.inr z)
    · exact .inr (.inl (.inl (stay _ _ z (fun _ z => by cases z))))
    · exact .inr (.inl (.inr ⟨o, stay _ _ z (fun _ z => by cases z)⟩))
    · exact .inr (.inr z)
  obtain ⟨its, rA, plA, _⟩ := I2.list sqA2
  have lenA := rA.length
  rw [List.length_map] at lenA
  -- the cell that the lambda captured
  obtain ⟨m, _, look⟩ := I2.loc
  have vis : Vis X.env.scope g := by
    rcases w6 with z | z
    · exact .inr (.inl z)
    · exact .inr (.inr z)
  obtain ⟨gv, rg, lk⟩ := look j g _ hN ej vis
  cases (show gv = Value.ref ga from rg)
  obtain ⟨gc, egc, cell⟩ : ∃ gc, X.env.cells.lookup g = some gc ∧ s2.heap.IsCell gc (some (.ref ga)) := by
    rcases lk with ⟨z, _⟩ | ⟨_, c, z1, z2⟩
    · have z : X.env.scope.names.lookup g = some .local := z
      rcases w6 with y | y <;> rw [z] at y <;> cases y
    · exact ⟨c, z1, z2⟩
  have ecl := NdefX.clo_has (cells := X.env.cells) (names := scope.names) caps (mem_of_lookup w5) egc
  have ro := hr
  refine W.sorted_key_data (b := false) (fun n : Int => .int (keyAt gs n)) plA.isList (ints_each rA) (W.AllAlike.of fun _ _ => rfl) (W.Sortable.others fun _ => ⟨fun z => (by cases z), fun _ z => (by cases z)⟩) (by rw [szl_eq]; omega) (fun x _ => ?_) (ksk_s1 _ _) (fun _ => ksk_l1 _ _) (fun _ => ksk_t1 _ _) (fun v x hx hm h2 t2 kp => ?_) fun out cc h2 t2 kp n0 eD el eo => ?_
  · have := hr.un
    show X.A.units + 2 + 0 < _
    omega
  · obtain ⟨t, rfl⟩ := hx
    obtain ⟨i0, i1⟩ := inr x hm
    obtain ⟨nn, rfl⟩ := Int.eq_ofNat_of_zero_le i0
    have nlt : nn < gs.length := by omega
    have ekey : keyAt gs (nn : Int) = gs.getD nn 0 := by unfold keyAt; rw [Int.toNat_natCast]
    rw [ekey]
    refine lam_call (s := { s2 with heap := h2, toks := t2 }) (kp _ _ ef) ?_ (by have := hr.dp; show X.A.depth < _; omega) (I2.nolimit.keeps kp) w1 w2 w3 (fun y hy => (w7 y hy).1) w4 w5 (fun v => hbind _ _ _ _ v) ecl ?_ ((seq_at I2 sqG2 lnG nlt).keeps kp) hd1 hd2 hd3
    · obtain ⟨c2, oc, us, tq, z0, z1, z2, z3⟩ := rec
      exact ⟨c2, oc, us, tq, z0, kp _ _ z1, z2, z3⟩
    · obtain ⟨o, z1, z2⟩ := cell
      exact ⟨o, kp _ _ z1, z2⟩
  · rw [W.dataLe_int] at eo
    have n1 : H2 (s2.heap.objs.size + 1) = none := I2.hok.fresh (Nat.le_succ _)
    refine ⟨.ref (s2.heap.objs.size + 1), _, I2.laid (t' := t2) (a := s2.heap.objs.size + 1) (o := .lst ((sortBy gs ns).map V.int)) (h' := h2) kp (Nat.le_succ _) ?_, rfl, q c' H2 gr _ n1⟩
    refine ⟨?_, out, cc, each_ints eo, eD⟩
    rw [List.length_map]
    unfold sortBy
    rw [List.length_mergeSort, szl_eq]
    omega
end
end PD
/-! sorted(xs, key=lambda k: g[k]) over the pure layer. -/
namespace PD
open PySem PySem.Spec PyProof.Rows L2
section
variable {K : PySem.W.Frag} {mg : Str → Option Value} {B F0 H H2 : Hp} {z : Fz} {ow : Own} {ρ : List Slot} {m : List Ob} {σ : L2.St}
/-- the table of a def stands in the store -/
theorem StOk.tabAt (S : StOk K mg B F0 z ow ρ m σ H) {t : Nat} {x q : Str} (hm : m[t]? = some (.tab x q)) : ∃ ps : Array Value, H (He.cT K (x, none)).2 = some (.tbl ps) ∧ TriplesOk ps.toList ∧ ow (He.cT K (x, none)).2 = some (.inr t) ∧
    ∀ (pos : Pos) (cv : Value), codeAmong pos ps.toList = some cv → ∃ c, cv = .ref c ∧ H c = some (LamX.CodeO c q) ∧ ow c = some (.inr t) := by
  obtain ⟨fp, _, P, ps, _, rfl, h1, h2, h3, h4⟩ := S.ob t _ hm
  exact ⟨ps, h1, h2, h3, h4⟩
theorem StOk.grow (S : StOk K mg B F0 z ow ρ m σ H) {t : Nat} {x q : Str} (hm : m[t]? = some (.tab x q)) {ps : Array Value} (eP : H (He.cT K (x, none)).2 = some (.tbl ps)) {c' : Addr} (gr : Grown H (He.cT K (x, none)).2 c' ps q H2) :
    ∃ ow2 : Own, StOk K mg B F0 z ow2 ρ m σ H2 := by
  rcases gr with rfl | ⟨fr, qs, rfl, tri, among⟩
  · exact ⟨ow, S⟩
  obtain ⟨fp, eA, P, ps', efp, rfl, h1, h2, h3, h4⟩ := S.ob t _ hm
  rw [eP] at h1
  cases h1
  generalize hPd : (He.cT K (x, none)).2 = P at *
  obtain ⟨nF, nB, _⟩ := S.ow _ _ h3
  obtain ⟨cF, cB, _, cO⟩ := S.new_none fr
  have nPc : P ≠ c' := ne_of_none eP fr
  have stay : ∀ a u, H a = some u → a ≠ P → upd (upd H P (.tbl qs)) c' (LamX.CodeO c' q) a = some u := fun a u e ne => by
    rw [upd_ne (ne_of_none e fr), upd_ne ne]
    exact e
  refine ⟨fun a => if a = c' then some (.inr t) else ow a, ?_⟩
  refine ⟨fun a o e => stay a o (S.fh a o e) (fun w => by rw [w, nF] at e; cases e), fun a o e => stay a o (S.bh a o e) (fun w => by rw [w, nB] at e; cases e), S.f0, S.new, S.len, fun i sl e => ?_, S.ol, fun n o e => ?_, fun a o e => ?_⟩
  · have q1 := S.slot i sl e
    cases sl with
    | non => trivial
    | exc a d x => exact q1
    | sh d => exact q1
    | own c =>
      obtain ⟨a, o, e1, e2, c1, w⟩ := q1
      refine ⟨a, o, e1, stay a o e2 (fun y => by rw [y, h3] at w; cases w), c1, ?_⟩
      show (if a = c' then some (.inr t) else ow a) = some (.inl i)
      rw [if_neg (fun y => by rw [y, fr] at e2; cases e2)]
      exact w
  · by_cases hn : n = t
    · subst hn
      rw [hm] at e
      cases e
      refine ⟨fp, eA, P, qs, efp, ?_, by rw [upd_ne nPc, upd_same], tri, by show (if P = c' then some (.inr n) else ow P) = _; rw [if_neg nPc]; exact h3, fun pos cv hc => ?_⟩
      · exact hPd.symm
      · rcases among pos cv hc with hc | rfl
        · obtain ⟨c, e1, e2, e3⟩ := h4 pos cv hc
          refine ⟨c, e1, stay c _ e2 (fun y => by rw [y, eP] at e2; exact LamX.codeO_ne ps (Option.some.inj e2).symm), ?_⟩
          show (if c = c' then some (.inr n) else ow c) = _
          rw [if_neg (fun y => by rw [y, fr] at e2; cases e2)]
          exact e3
        · exact ⟨c', rfl, upd_same, if_pos rfl⟩
    · obtain ⟨fp2, e1, q2⟩ := S.ob n o e
      refine ⟨fp2, e1, q2.mono (Fz.le.refl _) (fun a w => ?_) fun a u w hu => stay a u hu (fun y => by rw [y, h3] at w; cases w; exact hn rfl)⟩
      show (if a = c' then some (.inr t) else ow a) = _
      rw [if_neg (fun y => by rw [y, cO] at w; cases w)]
      exact w
  · by_cases ha : a = c'
    · subst ha
      exact ⟨cF, cB, by rw [upd_same]; simp⟩
    · have e : (if a = c' then some (.inr t) else ow a) = some o := e
      rw [if_neg ha] at e
      obtain ⟨h1, h2, h5⟩ := S.ow a o e
      refine ⟨h1, h2, ?_⟩
      rw [upd_ne ha]
      by_cases hp : a = P
      · rw [hp, upd_same]; simp
      · rw [upd_ne hp]; exact h5
end
/-- what a slot holds, when it is a list or a tuple -/
def seqOf : Slot → Option (List D)
  | .sh (.lst ds) => some ds
  | .sh (.tup ds) => some ds
  | .own (.lst ds) => some ds
  | _ => none
def dSortK (t j : Nat) (x q : Str) (da : Den (List D)) : Den Cont := fun ρ m => (da ρ m).bind fun v => match v.1, v.2[t]?, seqOf (PD.slotAt ρ j) with
  | [.lst ds], some (.tab x' q'), some es => (match ints? ds, ints? es with
    | some ns, some gs => if x' = x ∧ q' = q ∧ ns.length ≤ 100000 ∧ gs.length ≤ 100000 ∧ (ns.all fun n => decide (0 ≤ n) && decide (n < gs.length)) = true then .ok (.lst ((sortBy gs ns).map .int), v.2) else .bad
    | _, _ => .bad)
  | _, _, _ => .bad
section
variable {X : Cx} {RW : WX}
theorem seq_slot {K : PySem.W.Frag} {mg : Str → Option Value} {B F0 H : Hp} {z : Fz} {ow : Own} {ρ : List Slot} {m : List Ob} {σ : L2.St} (S : StOk K mg B F0 z ow ρ m σ H) {j : Nat} {gs : List Int} (h : seqOf (PD.slotAt ρ j) = some (gs.map D.int)) :
    ∃ ga, σ[j]? = some (some (.ref ga)) ∧ (SqL K H ga (gs.map V.int) ∨ SqT K H ga (gs.map V.int)) := by
  have join : ∀ {v : V}, σ[j]?.join = some v → σ[j]? = some (some v) := fun {v} e => by
    cases q : σ[j]? with
    | none => rw [q] at e; cases e
    | some u => rw [q] at e; exact congrArg some e
  cases hs : PD.slotAt ρ j with
  | non => rw [hs] at h; cases h
  | exc a d x => rw [hs] at h; cases h
  | own c =>
    rw [hs] at h
    cases c with
    | lst ds =>
      have h : some ds = some (gs.map D.int) := h
      cases h
      obtain ⟨a, o, e1, e2, ⟨xs, rfl, r⟩, _⟩ := S.slot j _ (slotAt_get hs (by simp))
      cases r.ints
      exact ⟨a, join e1, .inl (SqL.of e2)⟩
    | dct t ks vs => cases h
    | ldc t ks vs => cases h
  | sh d =>
    rw [hs] at h
    cases d with
    | lst ds =>
      have h : some ds = some (gs.map D.int) := h
      cases h
      obtain ⟨v, e1, r⟩ := S.slot j _ (slotAt_get hs (by simp))
      simp only [Rep] at r
      obtain ⟨a, xs, rfl, e2, r⟩ := r
      cases r.ints
      exact ⟨a, join e1, .inl (SqL.of (S.fh _ _ e2))⟩
    | tup ds =>
      have h : some ds = some (gs.map D.int) := h
      cases h
      obtain ⟨v, e1, r⟩ := S.slot j _ (slotAt_get hs (by simp))
      simp only [Rep] at r
      obtain ⟨a, xs, rfl, e2, r⟩ := r
      cases r.ints
      exact ⟨a, join e1, .inr (same_tup S.fh e2)⟩
    | _ => cases h
/-- the table of the def that runs -/
def TabX (X : Cx) (x : Str) : Prop := ∃ c, X.env.code = .ref c ∧ LamX.TabB X.base X.mg c (He.cT X.K (x, none)).2
theorem pd_sortLam {e : Expr} {da : Den (List D)} {p pos lp gp kp sp kwp : Pos} {params : Arguments} {scope : Scope} {g k x q : Str} {t j n : Nat} (hr : Room n X.A) (tx : TabX X x) (eq : lamQ X = q) (hg : Gl X "sorted") (hm : X.mg "sorted" = none) (ha : PA X [e] (tX X.K X.mg RW da (pLooks X.K X.mg)))
    (hN : X.N[j]? = some g) (hW : lamW X.env.scope scope g k = true) (nodef : defaultsOf params X.env = ([], []) := by rfl)
    (hbind : ∀ (cl : List (Str × Addr)) (pm cd ctv v : Value), bindArgs (W.kla_fn "<lambda>" (lamQ X) params (.Subscript (.Name g gp) (.Name k kp) sp) scope cl pm cd ctv) ⟨[v], []⟩ = pure [(k, v)] := by intro _ _ _ _ _; rfl)
    (hd1 : (g == ("__debug__" : Str)) = false := by decide) (hd2 : (k == ("__debug__" : Str)) = false := by decide) (hd3 : (g == ("__classdict__" : Str)) = false := by decide)
    (hb : backTo pos (starEach [e] X.env) = (false, eval e X.env) :: backTo pos (starEach [] X.env) := by rfl) (hpl : (backTo pos (starEach [e] X.env)).any (·.1) = false := by rfl)
    (hall : (backToKw pos (keywordEach [⟨some "key", .Lambda params (.Subscript (.Name g gp) (.Name k kp) sp) scope lp, kwp⟩] X.env)).all (·.1.isSome) = true := by rfl)
    (hnone : (backToKw pos (keywordEach [⟨some "key", .Lambda params (.Subscript (.Name g gp) (.Name k kp) sp) scope lp, kwp⟩] X.env)).any (·.1.isNone) = false := by rfl)
    (hks : (backToKw pos (keywordEach [⟨some "key", .Lambda params (.Subscript (.Name g gp) (.Name k kp) sp) scope lp, kwp⟩] X.env)).filterMap (·.1) = [Str.ofString "key"] := by rfl) :
    PE X (.Call (.Name "sorted" p) [e] [⟨some "key", .Lambda params (.Subscript (.Name g gp) (.Name k kp) sp) scope lp, kwp⟩] pos) (tX X.K X.mg RW (dSortK t j x q da) (pNew X.K X.mg)) := by
  obtain ⟨c, ecode, tb⟩ := tx
  subst eq
  refine PE.imp (pe_sortLam hr hg hm ha tb ecode nodef hN hW hbind hd1 hd2 hd3 hb hpl hall hnone hks) fun σ H Q qq => tX.imp qq fun B F0 z ow ρ m S h => Rem.step pNew.pm h fun d m1 B1 z1 ow1 v H1 hB hz S1 pp h1 => ?_
  dsimp only at h1
  split at h1
  · rename_i ds x' q' es e1 e2 e3
    split at h1
    · rename_i ns gs f1 f2
      split at h1
      · rename_i hc
        obtain ⟨rfl, rfl, c1, c2, c3⟩ := hc
        cases ints?_eq f1
        cases ints?_eq f2
        obtain ⟨v0, rfl, p0⟩ := looks_one pp
        obtain ⟨a, xs, rfl, ea, r⟩ := look_list S1 p0
        cases r.ints
        obtain ⟨ga, ej, sg⟩ := seq_slot S1 e3
        obtain ⟨ps, t1, t2, t3, t4⟩ := S1.tabAt e2
        refine ⟨a, ga, ns, gs, ps, rfl, SqL.of ea, t1, t2, fun pos cv hcv => ?_, ej, sg, c1, c2, fun n hn => ?_, fun c' H2 gr p hp => ?_⟩
        · obtain ⟨c, y1, y2, _⟩ := t4 pos cv hcv
          exact ⟨c, y1, y2⟩
        · have := List.all_eq_true.mp c3 n hn
          simpa using this
        · obtain ⟨ow2, S2⟩ := S1.grow e2 t1 gr
          exact Rem.newLst h1 S2 Reps.of_ints hp
      · exact h1.elim
    · exact h1.elim
  · exact h1.elim
end
end PD
/-! A def that makes lambdas; the end of a law with a table. -/
namespace PD
open PySem PySem.Spec PyProof.Rows L2
/-- what is known of the table of the def x -/
def TabK (K : PySem.W.Frag) (mg : Str → Option Value) (base : Heap) (x : Str) : Prop := mg x = some (.ref (He.ga K x)) ∧ LamX.TabB base mg (He.cT K (x, none)).1 (He.cT K (x, none)).2
theorem fn_tab {P : Program} {w : World} {K : PySem.W.Frag} {mg : Str → Option Value} {base : Heap} {x : Str} {k : Nat} {params : Arguments} {body : List Stmt} {scope : Scope} {a : Addr} {fd : FuncData} {N ps : List Str} {sp : Sp} (F : FunD K x x params body scope [] [] a fd) (S : FnScope N ps scope) (hm : mg x = some (.ref a)) (tb : TabK K mg base x)
    (len : ∀ vs H Q E, sp vs H Q E → vs.length = ps.length)
    (hbody : ∀ (cdv : Value) (A : Around) (outer : List Env) (s : Shared) (H : Hp) (vs : List V) (Q : VK) (E : XK), Room k (A.deeper (envOfC x scope s.heap.objs.size a cdv)) → TabX (cxOf (L2.CX P w) P w K mg base N x scope a cdv A outer s H E) x → sp vs H Q E →
      ∃ t, PSs (cxOf (L2.CX P w) P w K mg base N x scope a cdv A outer s H E) body t ∧ t { nx := fun _ H' => Q .non H', rt := Q } (start N vs) H) : FnOk P w K mg base (L2.CX P w) (k + 1) a fd ps sp := by
  obtain ⟨oc, od, dV, kV, doc, pm, an, cdv, ct, osl, rfl, lk, hcd, _, _⟩ := F.ex
  obtain ⟨hga, tb⟩ := tb
  have ea : a = He.ga K x := by
    rw [hm] at hga
    exact Value.ref.inj (Option.some.inj hga)
  obtain ⟨c, rfl⟩ := He.codeIn_ref hcd
  have ec : (He.cT K (x, none)).1 = c := He.codeOf_eq (p := (x, none)) (by show K.lookup (He.ga K x) = _; rw [← ea]; exact lk) rfl
  refine fn_of lk hcd S len fun A outer s H vs Q E hr hsp => hbody _ A outer s H vs Q E hr ⟨c, rfl, ?_⟩ hsp
  rw [ec] at tb
  exact tb
theorem Fd.mkT {P : Program} {w : World} {K : PySem.W.Frag} {mg : Str → Option Value} {base : Heap} {x : Str} {k n l : Nat} {b : SDen} {params : Arguments} {body : List Stmt} {scope : Scope} {a : Addr} {fd : FuncData} {N ps : List Str} (F : FunD K x x params body scope [] [] a fd) (S : FnScope N ps scope) (hm : mg x = some (.ref a)) (hb : Binds K fd ps []) (tb : TabK K mg base x) (hn : ps.length = n) (hl : N.length = n + l)
    (h : ∀ (cdv : Value) (A : Around) (outer : List Env) (s : Shared) (H : Hp) (E : XK), Room k (A.deeper (envOfC x scope s.heap.objs.size a cdv)) → TabX (cxOf (L2.CX P w) P w K mg base N x scope a cdv A outer s H E) x → PSs (cxOf (L2.CX P w) P w K mg base N x scope a cdv A outer s H E) body (tB K mg (fun cls d _ H => E cls d H) b)) : Fd P w K mg base x (k + 1) n (fnD n l b) := by
  refine ⟨a, fd, ps, fn_tab F S hm tb (fun vs H Q E q => by rw [hn]; exact q.1) (fun cdv A outer s H vs Q E hr tx q => ⟨_, h cdv A outer s H E hr tx, ?_⟩), hm, F.kp, hb⟩
  obtain ⟨hv, B, F0, z, ow, m, ds, S0, r, q⟩ := q
  have hds : ds.length = n := by rw [r.len]; exact hv
  refine ⟨B, F0, z, ow, pad ds l, m, S0.args r (by rw [hl, hds]), ?_⟩
  unfold fnD at q
  rw [if_pos hds] at q
  cases hbd : b (pad ds l) m with
  | nx ρ' m' => rw [hbd] at q; exact fun z' ow' σ' H' hz S' => q z' ow' .non H' hz S'.forget (rep_non.mpr rfl)
  | rt d m' => rw [hbd] at q; exact fun z' ow' v H' hz S' rv => q z' ow' v H' hz S' rv
  | er x ρ' m' => rw [hbd] at q; exact fun z' ow' σ' cv dd H' hz S' ex => q z' ow' cv dd H' hz S'.forget ex
  | bk ρ' m' => rw [hbd] at q; exact q.elim
  | ct ρ' m' => rw [hbd] at q; exact q.elim
  | bad => rw [hbd] at q; exact q.elim
/-! ### the head's facts, with a table -/
structure SaysPT (fb : List Fb) (fn : List He5.DefA) (x : Str) (h : Heap) (K : PySem.W.Frag) : Prop where
  p : SaysP fb fn K
  hd : PySem.W.codeHdIn K (He.cT K (x, none)).1 (He.cT K (x, none)).2 = true
  out : K.lookup (He.cT K (x, none)).2 = none
  empty : h.get? (He.cT K (x, none)).2 = some { cls := .none, data := .fields #[] }
def tabB (g : Addr → Option Obj) (x : Str) (K : PySem.W.Frag) : Bool := PySem.W.codeHdIn K (He.cT K (x, none)).1 (He.cT K (x, none)).2 && (match g (He.cT K (x, none)).2 with
  | some o => He.emptyTab o
  | none => false)
abbrev AlPT : Type := He.AlD × Bool
def obsPT (n : Nat) (fb : List Fb) (fn : List He5.DefA) (x : Str) (g : Addr → Option Obj) : AlPT := (obsP fb fn (He.frT g (He.asD g n)), tabB g x (He.frT g (He.asD g n)))
theorem saysPT_of {n : Nat} {fb : List Fb} {fn : List He5.DefA} {x : Str} {h : Heap} (e : obsPT n fb fn x h.get? = (valP fn, true)) : SaysPT fb fn x h (He.frT h.get? (He.asD h.get? n)) := by
  have e1 : obsP fb fn (He.frT h.get? (He.asD h.get? n)) = valP fn := congrArg (fun y : AlPT => y.1) e
  have e2 : tabB h.get? x (He.frT h.get? (He.asD h.get? n)) = true := congrArg (fun y : AlPT => y.2) e
  obtain ⟨h3, h4⟩ := He.ba e2
  cases q : h.get? (He.cT (He.frT h.get? (He.asD h.get? n)) (x, none)).2 with
  | none => rw [q] at h4; cases h4
  | some o =>
    rw [q] at h4
    exact ⟨e1, h3, He.frT_none q h4, by rw [q, He.emptyTab_eq h4]⟩
def hookPT (n : Nat) (fb : List Fb) (fn : List He5.DefA) (x : Str) : PySem.W.Hook where
  α := AlPT
  obs := fun s => obsPT n fb fn x s.heap.get?
  val := fun _ => (valP fn, true)
  says := fun _ h => ∃ K : PySem.W.Frag, K.In h ∧ SaysPT fb fn x h K
  of := fun _ _ e => ⟨_, He.frT_in, saysPT_of e⟩
  keeps := fun _ _ _ ⟨K, hK, c⟩ k => ⟨K, PySem.W.Frag.In.keeps hK k, ⟨c.p, c.hd, c.out, k _ _ c.empty⟩⟩
theorem obsPT_eq {n : Nat} {fb : List Fb} {fn : List He5.DefA} {x : Str} {g : Addr → Option Obj} {s : Shared} (h : ∀ a, g a = s.heap.get? a) : obsPT n fb fn x g = (hookPT n fb fn x).obs s := by
  have e : g = s.heap.get? := funext h
  rw [e] <;> rfl
/-! ### the entry -/
theorem spF_entryT {K : PySem.W.Frag} {mg : Str → Option Value} {f : FDen} {H : Hp} {a : Addr} {ns : List Int} {m' : List Ob} {x q : Str} (hP : H (He.cT K (x, none)).2 = some (.tbl #[])) (hS : SqL K H a (ns.map V.int)) (h : f [.scr ns] [.tab x q] = .ok (.bl true, m')) :
    spF K mg 1 f [.ref a] H (fun v _ => v = .bl true) fun _ _ _ => False := by
  have eF : ∀ b o, (fun b => if b = (He.cT K (x, none)).2 then none else H b) b = some o → H b = some o := fun b o e => by
    have e : (if b = (He.cT K (x, none)).2 then none else H b) = some o := e
    split at e
    · cases e
    · exact e
  have nP : (fun b => if b = (He.cT K (x, none)).2 then none else H b) (He.cT K (x, none)).2 = none := if_pos rfl
  refine ⟨rfl, fun b => if b = (He.cT K (x, none)).2 then none else H b, fun b => if b = (He.cT K (x, none)).2 then none else H b, ⟨fun b => if b = (He.cT K (x, none)).2 then none else H b, [[(He.cT K (x, none)).2]]⟩, fun b => if b = (He.cT K (x, none)).2 then some (.inr 0) else none, [.tab x q], [.scr ns],
    ⟨fun b o e => eF b o e, fun b o e => eF b o e, Same.refl _, fun a e => .inl e, rfl, fun i s e => by simp at e, rfl, fun n o e => ?_, fun b o e => ?_⟩, .cons (rep_scr.mpr ⟨a, rfl, ?_⟩) .nil, ?_⟩
  · cases n with
    | zero =>
      cases e
      exact ⟨_, rfl, _, #[], rfl, rfl, hP, True.intro, if_pos rfl, fun pos cv hc => by
        have hc : codeAmong pos [] = some cv := hc
        simp [codeAmong] at hc⟩
    | succ n => simp at e
  · have e : (if b = (He.cT K (x, none)).2 then some (Sum.inr 0) else none) = some o := e
    split at e
    · rename_i hb
      subst hb
      exact ⟨nP, nP, by rw [hP]; simp⟩
    · cases e
  · have keep : ∀ u, H a = some u → (∀ z, u ≠ .tbl z) → (if a = (He.cT K (x, none)).2 then none else H a) = some u := fun u e nt => by
      rw [if_neg (fun w => by rw [w, hP] at e; exact nt #[] (Option.some.inj e).symm)]
      exact e
    rcases hS with (y | ⟨o, y⟩) | y
    · exact .inl (.inl (keep _ y (fun _ z => by cases z)))
    · exact .inl (.inr ⟨o, keep _ y (fun _ z => by cases z)⟩)
    · exact .inr y
  · rw [h]
    exact fun z' ow' v H' _ _ r => rep_bl.mp r
/-- a law with a table: by the promise of its def and the plain law -/
theorem walk_pdT {l : PySem.W.OpenLaw} {n k : Nat} {p : Program} {loose : List Str} {XP : (Str → Option Value) → Heap → Prop} {YP : World → Heap → Prop} {d : DefRec} {y x q : Str} {f : FDen}
    (hn : l.most = some n) (hn2 : n ≤ sizeLine) (hdf : d.params.defaults = []) (hr : Room k callerA)
    (F : ∀ (w : World) (mg : Str → Option Value) (fa : Addr) (h : Heap), YP w h → h.Ns mainGlobals mg → mg d.name = some (.ref fa) →
      ∃ (K : PySem.W.Frag) (fd : FuncData), K.In h ∧ PySem.W.codeHdIn K (He.cT K (x, none)).1 (He.cT K (x, none)).2 = true ∧ K.lookup (He.cT K (x, none)).2 = none ∧ h.get? (He.cT K (x, none)).2 = some { cls := .none, data := .fields #[] } ∧ (∀ (s : Shared) (u : Value), BindsTo s fd ⟨[u], []⟩ [(y, u)]) ∧
        ∀ base : Heap, K.In base → base.Ns mainGlobals mg → LamX.TabB base mg (He.cT K (x, none)).1 (He.cT K (x, none)).2 → FnOk l.prog w K mg base (L2.CX l.prog w) k fa fd [y] (spF K mg 1 f))
    (hf : ∀ ns : List Int, ns.length ≤ n → ∃ m', f [.scr ns] [.tab x q] = .ok (.bl true, m')) :
    PySem.W.WalkO p loose XP YP l.row.toRowW d [] (fun f vs => PySem.call f vs) := by
  refine Att.attach_callB hn hdf fun w s₀ s₁ mg mb fa o pm cd doc a vs ns G Y ho hd hcd hmg hobj hints hlen hbits hg => ?_
  obtain ⟨K, fd, KX, c1, c2, c3, hb, hF⟩ := F w mg fa _ Y G.T.g hmg
  obtain ⟨m', hm⟩ := hf ns hlen
  have one : ∀ {φ : Addr × Addr → Prop}, φ (He.cT K (x, none)) → ∀ p ∈ [He.cT K (x, none)], φ p := fun h p hp => by rw [List.mem_singleton] at hp; subst hp; exact h
  refine LamX.law_callTs (cs := [He.cT K (x, none)]) KX G.T.g G.T.b G.T.builtins G.T.nolimit hg (one c3) (one c2) (one (PySem.W.codeHd_of_K KX c1)) G.T.bmain hobj hints (Nat.le_trans hlen hn2) hr (fun base KB nb tb => hF base KB nb (tb _ (List.mem_singleton.mpr rfl))) hb (fun H hH hS => spF_entryT (q := q) (hH _ (List.mem_singleton.mpr rfl)) hS hm) fun H e s' z => ?_
  obtain ⟨_, _, _, _, _, _, _, _, _, _, _, _, z⟩ := z
  exact z.elim
end PD
/-! own dicts: new, d[k] = v, locked while a list is made from them, sealed when they are handed out. -/
namespace PD
open PySem PySem.Spec PyProof.Rows L2
mutual
/-- no locked dict is within -/
def noL : D → Bool
  | .non => true
  | .bl _ => true
  | .int _ => true
  | .str _ => true
  | .tup xs => noLs xs
  | .etp xs => noLs xs
  | .lst xs => noLs xs
  | .dct _ _ vs => noLs vs
  | .ldc _ _ _ => false
  | .row g => noL g
  | .obj _ => true
  | .fn _ => true
  | .scr _ => true
def noLs : List D → Bool
  | [] => true
  | d :: ds => noL d && noLs ds
end
theorem noLs_app : ∀ {a b : List D}, noLs a = true → noLs b = true → noLs (a ++ b) = true
  | [], _, _, h => h
  | x :: a, b, h, k => by
    simp only [noLs, Bool.and_eq_true, List.cons_append] at h ⊢
    exact ⟨h.1, noLs_app h.2 k⟩
theorem noLs_all : ∀ {a : List D}, (∀ d ∈ a, noL d = true) → noLs a = true
  | [], _ => by simp only [noLs]
  | x :: a, h => by
    simp only [noLs, Bool.and_eq_true]
    exact ⟨h x (by simp), noLs_all fun d hd => h d (by simp [hd])⟩
theorem noLs_map {α : Type} (f : α → D) (h : ∀ x, noL (f x) = true) (xs : List α) : noLs (xs.map f) = true := noLs_all fun d hd => by
  obtain ⟨x, _, rfl⟩ := List.mem_map.mp hd
  exact h x
def noLC : Cont → Bool
  | .lst ds => noLs ds
  | .dct _ _ vs => noLs vs
  | .ldc _ _ _ => false
def noLO : Ob → Bool
  | .lst ds => noLs ds
  | .ins _ fs => noLs (fs.map (·.2))
  | .gen _ _ _ => true
  | .tab _ _ => true
def noLM : List Ob → Bool
  | [] => true
  | o :: m => noLO o && noLM m
theorem noLM_at : ∀ {m : List Ob} {n : Nat} {o : Ob}, noLM m = true → m[n]? = some o → noLO o = true
  | [], n, o, _, e => by simp at e
  | x :: m, 0, o, h, e => by
    simp only [noLM, Bool.and_eq_true] at h
    have : x = o := by simpa using e
    rw [← this]
    exact h.1
  | x :: m, n + 1, o, h, e => by
    simp only [noLM, Bool.and_eq_true] at h
    exact noLM_at h.2 (by simpa using e)
def DctO (u : HO) : Prop := (∃ k, u = .dK k) ∨ ∃ k, u = .dT k
section
variable {K : PySem.W.Frag} {mg : Str → Option Value} {z z' : Fz} {d : Addr} {od : Obj} {u : HO}
theorem rd_unl {xs : List V} {a : Addr} (hd : z.F d = some (.frz od u)) (hu : DctO u) (h : ∀ a o, a ≠ d → z.F a = some o → z'.F a = some o) {v : HO} (hv : (∃ xs, v = .tup xs) ∨ ∃ xs, v = .lst xs) (r : Rd z.F a v) : Rd z'.F a v := by
  rcases r with r | ⟨o, r⟩
  · refine .inl (h a _ (fun e => ?_) r)
    rw [e, hd] at r
    rcases hv with ⟨xs, rfl⟩ | ⟨xs, rfl⟩ <;> cases r
  · refine .inr ⟨o, h a _ (fun e => ?_) r⟩
    rw [e, hd] at r
    cases r
    rcases hv with ⟨xs, rfl⟩ | ⟨xs, rfl⟩ <;> rcases hu with ⟨k, e⟩ | ⟨k, e⟩ <;> cases e
theorem DKeys.dct {t : Bool} {ks : List D} {vx : List V} {o : HO} (h : DKeys t ks vx o) : DctO o := by
  cases t with
  | false => obtain ⟨kx, _, _, rfl⟩ := h; exact .inl ⟨_, rfl⟩
  | true => obtain ⟨kx, _, _, rfl⟩ := h; exact .inr ⟨_, rfl⟩
mutual
theorem Rep.unl (hd : z.F d = some (.frz od u)) (hu : DctO u) (h : ∀ a o, a ≠ d → z.F a = some o → z'.F a = some o) (hA : z'.As = z.As) : ∀ {x : D} {v : V}, noL x = true → Rep K mg z x v → Rep K mg z' x v
  | .non, _, _, r => by simpa only [Rep] using r
  | .bl _, _, _, r => by simpa only [Rep] using r
  | .int _, _, _, r => by simpa only [Rep] using r
  | .str _, _, _, r => by simpa only [Rep] using r
  | .tup ds, v, n, r => by
    simp only [Rep] at r ⊢
    simp only [noL] at n
    obtain ⟨a, xs, e, hs, hr⟩ := r
    exact ⟨a, xs, e, hs.imp (rd_unl (xs := xs) hd hu h (.inl ⟨_, rfl⟩)) id, Reps.unl hd hu h hA n hr⟩
  | .etp ds, v, n, r => by
    simp only [Rep] at r ⊢
    simp only [noL] at n
    obtain ⟨a, o, xs, e, hs, hn, hr⟩ := r
    refine ⟨a, o, xs, e, h a _ (fun q => ?_) hs, hn, Reps.unl hd hu h hA n hr⟩
    rw [q, hd] at hs
    cases hs
    rcases hu with ⟨k, e⟩ | ⟨k, e⟩ <;> cases e
  | .lst ds, v, n, r => by
    simp only [Rep] at r ⊢
    simp only [noL] at n
    obtain ⟨a, xs, e, hs, hr⟩ := r
    exact ⟨a, xs, e, h a _ (fun q => by rw [q, hd] at hs; cases hs) hs, Reps.unl hd hu h hA n hr⟩
  | .dct t ks vs, v, n, r => by
    simp only [Rep] at r ⊢
    simp only [noL] at n
    obtain ⟨a, o, vx, e, hs, h1, h2⟩ := r
    refine ⟨a, o, vx, e, h a _ (fun q => ?_) hs, Reps.unl hd hu h hA n h1, h2⟩
    rw [q, hd] at hs
    cases hs
    rcases h2.dct with ⟨k, e⟩ | ⟨k, e⟩ <;> cases e
  | .ldc t ks vs, v, n, r => by simp only [noL] at n; cases n
  | .row g, v, n, r => by
    simp only [Rep] at r ⊢
    simp only [noL] at n
    obtain ⟨a, dx, C, x, e, hm, hs, hr⟩ := r
    exact ⟨a, dx, C, x, e, hm, h a _ (fun q => by rw [q, hd] at hs; cases hs) hs, Rep.unl hd hu h hA n hr⟩
  | .obj n, v, _, r => by
    simp only [Rep] at r ⊢
    rw [hA]
    exact r
  | .fn n, _, _, r => by simpa only [Rep] using r
  | .scr ns, v, _, r => by
    simp only [Rep] at r ⊢
    obtain ⟨a, e, hs⟩ := r
    exact ⟨a, e, hs.imp (rd_unl (xs := ns.map V.int) hd hu h (.inr ⟨_, rfl⟩)) id⟩
theorem Reps.unl (hd : z.F d = some (.frz od u)) (hu : DctO u) (h : ∀ a o, a ≠ d → z.F a = some o → z'.F a = some o) (hA : z'.As = z.As) : ∀ {xs : List D} {vs : List V}, noLs xs = true → Reps K mg z xs vs → Reps K mg z' xs vs
  | [], [], _, _ => by simp only [Reps]
  | d :: ds, v :: vs, n, r => by
    simp only [Reps] at r ⊢
    simp only [noLs, Bool.and_eq_true] at n
    exact ⟨Rep.unl hd hu h hA n.1 r.1, Reps.unl hd hu h hA n.2 r.2⟩
  | [], _ :: _, _, r => by simp only [Reps] at r
  | _ :: _, [], _, r => by simp only [Reps] at r
end
theorem COk.unl (hd : z.F d = some (.frz od u)) (hu : DctO u) (h : ∀ a o, a ≠ d → z.F a = some o → z'.F a = some o) (hA : z'.As = z.As) {c : Cont} {o : HO} (n : noLC c = true) (r : COk K mg z c o) : COk K mg z' c o := by
  cases c with
  | lst ds => obtain ⟨xs, e, r⟩ := r; exact ⟨xs, e, r.unl hd hu h hA n⟩
  | dct t ks vs => obtain ⟨vx, r1, r2⟩ := r; exact ⟨vx, r1.unl hd hu h hA n, r2⟩
  | ldc t ks vs => cases n
end
/-! ### locked for a while -/
def maskS (i : Nat) (L : D) : Nat → List Slot → List Slot
  | _, [] => []
  | k, s :: r => (if k = i then .sh L else match s with
    | .own _ => .non
    | s => s) :: maskS i L (k + 1) r
theorem maskS_len (i : Nat) (L : D) : ∀ (k : Nat) (ρ : List Slot), (maskS i L k ρ).length = ρ.length
  | _, [] => rfl
  | k, s :: r => by simp [maskS, maskS_len i L (k + 1) r]
theorem maskS_get (i : Nat) (L : D) : ∀ (k : Nat) (ρ : List Slot) (j : Nat), (maskS i L k ρ)[j]? = (ρ[j]?).map fun s => if k + j = i then .sh L else match s with
    | .own _ => .non
    | s => s
  | _, [], j => by simp [maskS]
  | k, s :: r, 0 => by simp [maskS]
  | k, s :: r, j + 1 => by
    simp only [maskS, List.getElem?_cons_succ, maskS_get i L (k + 1) r j]
    rw [show k + 1 + j = k + (j + 1) by omega]
def dLock (i : Nat) (de : Den Cont) : Den Cont := fun ρ m => match slotAt ρ i with
  | .own (.dct t ks vs) => match de (maskS i (.ldc t ks vs) 0 ρ) m with
    | .ok (c, m') => if noLC c = true ∧ noLM m' = true then .ok (c, m') else .bad
    | _ => .bad
  | _ => .bad
def lockB (ow : Own) (H : Hp) (d : Addr) : Hp := fun a => if a = d then none else calleeB ow H a
section
variable {K : PySem.W.Frag} {mg : Str → Option Value} {z z1 z2 : Fz} {B B2 F0 : Hp} {ow ow2 : Own} {ρ : List Slot} {m m' : List Ob} {σ : St} {H H2 : Hp} {d : Addr} {u : HO}
theorem StOk.lockIn (S : StOk K mg B F0 z ow ρ m σ H) {i : Nat} {t : Bool} {ks vs : List D} (hi : ρ[i]? = some (.own (.dct t ks vs))) (od : Obj) (e1 : σ[i]? = some (some (V.ref d))) (e2 : H d = some u) (c1 : COk K mg z (.dct t ks vs) u) (w : ow d = some (.inl i)) :
    StOk K mg (lockB ow H d) (upd z.F d (.frz od u)) ⟨upd z.F d (.frz od u), z.As⟩ (calleeO ow) (maskS i (.ldc t ks vs) 0 ρ) m σ (upd H d (.frz od u)) := by
  obtain ⟨nz, nB, _⟩ := S.ow d _ w
  have hz : z.le ⟨upd z.F d (.frz od u), z.As⟩ := Fz.le_upd nz
  refine ⟨fun a o e => ?_, fun a o e => ?_, Same.refl _, fun a e => .inl e, by rw [maskS_len]; exact S.len, fun j s e => ?_, S.ol, fun n o e => ?_, fun a o e => ?_⟩
  · by_cases ha : a = d
    · subst ha
      rw [show (Fz.F ⟨upd z.F a (.frz od u), z.As⟩) = upd z.F a (.frz od u) from rfl, upd_same] at e
      rw [upd_same]
      exact e
    · rw [show (Fz.F ⟨upd z.F d (.frz od u), z.As⟩) = upd z.F d (.frz od u) from rfl, upd_ne ha] at e
      rw [upd_ne ha]
      exact S.fh a o e
  · unfold lockB at e
    split at e
    · cases e
    · rename_i ha
      rw [upd_ne ha]
      unfold calleeB at e
      split at e
      · cases e
      · exact e
  · rw [maskS_get] at e
    cases hs : ρ[j]? with
    | none => rw [hs] at e; simp at e
    | some s0 =>
      rw [hs] at e
      simp only [Option.map_some, Option.some.injEq, Nat.zero_add] at e
      by_cases hj : j = i
      · rw [if_pos hj] at e
        subst e hj
        refine ⟨.ref d, by rw [e1]; rfl, ?_⟩
        obtain ⟨vx, r1, r2⟩ := c1
        simp only [Rep]
        exact ⟨d, od, u, vx, rfl, upd_same, r1.le hz, r2⟩
      · rw [if_neg hj] at e
        have q := S.slot j s0 hs
        cases s0 with
        | non => subst e; trivial
        | exc a dd x => subst e; exact ExcSl.le hz q
        | sh x => subst e; obtain ⟨y, e3, r⟩ := q; exact ⟨y, e3, r.le hz⟩
        | own c => subst e; trivial
  · obtain ⟨fp, e3, q⟩ := S.ob n o e
    refine ⟨fp, e3, q.mono hz (fun a w1 => by unfold calleeO; rw [w1]) fun a v w1 e4 => ?_⟩
    rw [upd_ne (fun y => by rw [y, w] at w1; cases w1)]
    exact e4
  · unfold calleeO at e
    split at e
    · rename_i n hn
      cases e
      have ha : a ≠ d := fun y => by rw [y, w] at hn; cases hn
      obtain ⟨g1, g2, g3⟩ := S.ow a _ hn
      refine ⟨?_, ?_, ?_⟩
      · show upd z.F d _ a = none
        rw [upd_ne ha]
        exact g1
      · unfold lockB
        rw [if_neg ha]
        unfold calleeB
        rw [hn]
      · rw [upd_ne ha]
        exact g3
    · cases e
theorem StOk.lockOut (S : StOk K mg B F0 z ow ρ m σ H) {i : Nat} {od : Obj} (e2 : H d = some u) (du : DctO u) (w : ow d = some (.inl i)) (hB : Same (lockB ow H d) B2) (hz : Fz.le ⟨upd z.F d (.frz od u), z.As⟩ z2) {ρ2 : List Slot} (S2 : StOk K mg B2 (upd z.F d (.frz od u)) z2 ow2 ρ2 m' σ H2)
    (hm : noLM m' = true) {p : Addr} {o : HO} (hp : lockB ow H d p = none) (hp2 : B2 p = some o) (hp3 : z2.F p = none) :
    ∃ z3 ow3, z.le z3 ∧ (∀ a x, a ≠ d → z2.F a = some x → z3.F a = some x) ∧ z3.As = z2.As ∧ StOk K mg (upd B p o) F0 z3 ow3 ρ m' σ (upd H2 d u) ∧ B p = none ∧ z3.F p = none := by
  obtain ⟨nz, nB, _⟩ := S.ow d _ w
  have hzd : z2.F d = some (.frz od u) := hz.1 _ _ upd_same
  have hpd : p ≠ d := fun y => by rw [y, hzd] at hp3; cases hp3
  have hcb : ∀ a, lockB ow H d a = none → B a = none := fun a e => by
    by_cases ha : a = d
    · rw [ha]; exact nB
    · unfold lockB at e
      rw [if_neg ha] at e
      cases q : B a with
      | none => rfl
      | some o =>
        have hH := S.bh a o q
        cases r : ow a with
        | none => unfold calleeB at e; rw [r] at e; rw [hH] at e; cases e
        | some u => rw [(S.ow a u r).2.1] at q; cases q
  have hcb2 : ∀ a, B2 a = none → B a = none := fun a e => hcb a (hB.free e)
  have hinl : ∀ a j, ow a = some (.inl j) → a ≠ d → lockB ow H d a = H a ∧ H a ≠ none := fun a j e ha => ⟨by unfold lockB; rw [if_neg ha]; unfold calleeB; rw [e], (S.ow a _ e).2.2⟩
  have hno : ∀ a j, ow a = some (.inl j) → ow2 a = none := fun a j e => by
    cases q : ow2 a with
    | none => rfl
    | some v =>
      obtain ⟨g1, g2, g3⟩ := S2.ow a v q
      by_cases ha : a = d
      · rw [ha, hzd] at g1; cases g1
      · obtain ⟨h1, h2⟩ := hinl a j e ha
        have := hB.free g2
        rw [h1] at this
        exact absurd this h2
  have z3z : z.le ⟨fun a => if a = d then none else z2.F a, z2.As⟩ := by
    refine ⟨fun a x e => ?_, ?_⟩
    · have ha : a ≠ d := fun y => by rw [y, nz] at e; cases e
      show (if a = d then none else z2.F a) = some x
      rw [if_neg ha]
      refine hz.1 _ _ ?_
      show upd z.F d _ a = some x
      rw [upd_ne ha]
      exact e
    · obtain ⟨r, er⟩ := hz.2
      exact ⟨r, er⟩
  have stay : ∀ a x, a ≠ d → z2.F a = some x → (Fz.F ⟨fun a => if a = d then none else z2.F a, z2.As⟩) a = some x := fun a x ha e => by
    show (if a = d then none else z2.F a) = some x
    rw [if_neg ha]
    exact e
  refine ⟨⟨fun a => if a = d then none else z2.F a, z2.As⟩, fun a => match ow a with
    | some (.inl j) => some (.inl j)
    | _ => (match ow2 a with
      | some (.inr n) => some (.inr n)
      | _ => none), z3z, stay, rfl, ⟨fun a x e => ?_, fun a x e => ?_, fun a x e => ?_, fun a e => ?_, S.len, fun j s e => ?_, S2.ol, fun n x e => ?_, fun a x e => ?_⟩, hcb p hp, ?_⟩
  · have e : (if a = d then none else z2.F a) = some x := e
    split at e
    · cases e
    · rename_i ha
      rw [upd_ne ha]
      exact S2.fh a x e
  · by_cases hap : a = p
    · subst hap
      rw [upd_same] at e
      cases e
      rw [upd_ne hpd]
      exact S2.bh a _ hp2
    · rw [upd_ne hap] at e
      have ha : a ≠ d := fun y => by rw [y, nB] at e; cases e
      rw [upd_ne ha]
      refine S2.bh a x (hB a x ?_)
      unfold lockB
      rw [if_neg ha]
      unfold calleeB
      cases r : ow a with
      | none => exact S.bh a x e
      | some v => rw [(S.ow a v r).2.1] at e; cases e
  · exact z3z.1 a x (S.f0 a x e)
  · have e : (if a = d then none else z2.F a) ≠ none := e
    by_cases ha : a = d
    · rw [if_pos ha] at e; exact absurd rfl e
    · rw [if_neg ha] at e
      have hap : a ≠ p := fun y => by rw [y] at e; exact e hp3
      rw [upd_ne hap]
      rcases S2.new a e with q | q
      · rw [upd_ne ha] at q
        exact S.new a q
      · exact .inr (hcb2 a q)
  · have q := S.slot j s e
    cases s with
    | non => trivial
    | exc a dd x => exact ExcSl.le z3z q
    | sh x => obtain ⟨y, e1, r⟩ := q; exact ⟨y, e1, r.le z3z⟩
    | own c =>
      obtain ⟨a, x, e1, e3, c1, w1⟩ := q
      refine ⟨a, x, e1, ?_, c1.le z3z, by simp only [w1]⟩
      by_cases ha : a = d
      · subst ha
        rw [e2] at e3
        rw [upd_same]
        exact e3
      · rw [upd_ne ha]
        refine S2.bh a x (hB a x ?_)
        rw [(hinl a j w1 ha).1]
        exact e3
  · obtain ⟨fp, e1, q⟩ := S2.ob n x e
    refine ⟨fp, e1, ?_⟩
    have ho := noLM_at hm e
    have hw : ∀ a, ow2 a = some (.inr n) → (match ow a with
      | some (.inl j) => some (.inl j)
      | _ => (match ow2 a with
        | some (.inr n) => some (.inr n)
        | _ => none)) = some (Sum.inr (α := Nat) n) := fun a h1 => by
      have hn : ∀ j, ow a ≠ some (.inl j) := fun j w1 => by rw [hno a j w1] at h1; cases h1
      split
      · rename_i j hj; exact absurd hj (hn j)
      · rw [h1]
    have hH : ∀ a y, ow2 a = some (.inr n) → H2 a = some y → upd H2 d u a = some y := fun a y h1 h2 => by
      rw [upd_ne (fun q => by have := (S2.ow a _ h1).1; rw [q, hzd] at this; cases this)]
      exact h2
    cases x with
    | gen s cs k =>
      obtain ⟨a, c, e3, ne, h1, h2, w1, w2⟩ := q
      exact ⟨a, c, e3, ne, hH _ _ w1 h1, hH _ _ w2 h2, hw _ w1, hw _ w2⟩
    | lst ds =>
      obtain ⟨a, xs, e3, h1, r, w1⟩ := q
      exact ⟨a, xs, e3, hH _ _ w1 h1, r.unl (z' := ⟨fun a => if a = d then none else z2.F a, z2.As⟩) hzd du stay rfl ho, hw _ w1⟩
    | ins c fs =>
      obtain ⟨a, dx, C, vs, e3, hC, h1, r, w1⟩ := q
      exact ⟨a, dx, C, vs, e3, hC, hH _ _ w1 h1, r.unl (z' := ⟨fun a => if a = d then none else z2.F a, z2.As⟩) hzd du stay rfl ho, hw _ w1⟩
    | tab y q0 =>
      obtain ⟨P, ps, e3, eP, h1, ht, w1, hc⟩ := q
      refine ⟨P, ps, e3, eP, hH _ _ w1 h1, ht, hw _ w1, fun pos cv hcv => ?_⟩
      obtain ⟨c, e4, e5, w2⟩ := hc pos cv hcv
      exact ⟨c, e4, hH _ _ w2 e5, hw _ w2⟩
  · split at e
    · rename_i j hj
      cases e
      obtain ⟨g1, g2, g3⟩ := S.ow a _ hj
      by_cases ha : a = d
      · subst ha
        exact ⟨if_pos rfl, by rw [upd_ne (Ne.symm hpd)]; exact nB, by rw [upd_same]; simp⟩
      · obtain ⟨h1, h2⟩ := hinl a j hj ha
        have hb : lockB ow H d a ≠ none := by rw [h1]; exact h2
        have hap : a ≠ p := fun y => by rw [y] at hb; exact hb hp
        refine ⟨?_, by rw [upd_ne hap]; exact g2, ?_⟩
        · show (if a = d then none else z2.F a) = none
          rw [if_neg ha]
          cases q : z2.F a with
          | none => rfl
          | some x =>
            rcases S2.new a (by rw [q]; simp) with r | r
            · rw [upd_ne ha] at r; exact absurd g1 r
            · exact absurd (hB.free r) hb
        · rw [upd_ne ha]
          cases q : H a with
          | none => exact absurd q h2
          | some x => rw [S2.bh a x (hB a x (by rw [h1]; exact q))]; simp
    · split at e
      · rename_i n hn
        cases e
        obtain ⟨g1, g2, g3⟩ := S2.ow a _ hn
        have ha : a ≠ d := fun y => by rw [y, hzd] at g1; cases g1
        have hap : a ≠ p := fun y => by rw [y, hp2] at g2; cases g2
        exact ⟨by show (if a = d then none else z2.F a) = none; rw [if_neg ha]; exact g1, by rw [upd_ne hap]; exact hcb2 a g2, by rw [upd_ne ha]; exact g3⟩
      · cases e
  · show (if p = d then none else z2.F p) = none
    rw [if_neg hpd]
    exact hp3
end
section
variable {K : PySem.W.Frag} {mg : Str → Option Value} {RW : WX}
/-- the list is made while the dict is locked -/
theorem lock_step {i : Nat} {de : Den Cont} (σ : St) (H : Hp) (Q : VK) (q : tX K mg RW (dLock i de) (pNew K mg) σ H Q) : ∃ d u, H d = some u ∧ Mut (some u) ∧ ∀ od, tX K mg noRW de (pNew K mg) σ (upd H d (.frz od u)) fun v H' => H' d = some (.frz od u) ∧ Q v (upd H' d u) := by
  obtain ⟨B, F0, z, ow, ρ, m, S, h⟩ := q
  unfold dLock at h
  split at h
  · rename_i t ks vs hs
    have hi := slotAt_get hs (by simp)
    obtain ⟨d, u, e0, e2, c1, w⟩ := S.slot i _ hi
    have e1 : σ[i]? = some (some (V.ref d)) := by
      cases q : σ[i]? with
      | none => rw [q] at e0; cases e0
      | some y => rw [q] at e0; exact congrArg some e0
    have du : DctO u := by obtain ⟨vx, _, r⟩ := c1; exact r.dct
    refine ⟨d, u, e2, by rcases du with ⟨k, rfl⟩ | ⟨k, rfl⟩ <;> exact True.intro, fun od => ?_⟩
    refine ⟨_, _, _, _, _, m, S.lockIn hi od e1 e2 c1 w, ?_⟩
    split at h
    · rename_i c m' hde
      rw [hde]
      split at h
      · rename_i hn
        intro B2 z2 ow2 v H2 hB hz S2 px
        obtain ⟨p, o, rfl, p1, p2, p3, p4⟩ := px
        obtain ⟨z3, ow3, l1, l2, l3, S3, q1, q2⟩ := S.lockOut e2 du w hB hz S2 hn.2 p1 p2 p3
        have hzd : z2.F d = some (.frz od u) := hz.1 _ _ upd_same
        exact ⟨S2.fh _ _ hzd, h (upd B p o) z3 ow3 _ _ (same_upd q1) l1 S3 ⟨p, o, rfl, q1, upd_same, q2, p4.unl hzd du l2 l3 hn.1⟩⟩
      · exact h.elim
    · exact h.elim
  · exact h.elim
end
section
variable {X : Cx} {RW : WX} {e : Expr}
theorem pd_lock {i : Nat} {de : Den Cont} (h : PE X e (tX X.K X.mg noRW de (pNew X.K X.mg))) : PE X e (tX X.K X.mg RW (dLock i de) (pNew X.K X.mg)) := PE.imp (pe_lock h) lock_step
theorem sd_lockC {i j : Nat} {st : Stmt} {de : Den Cont} (h : PS X st (tAsg (tX X.K X.mg noRW de (pNew X.K X.mg)) (gName j))) : PS X st (tB X.K X.mg RW (setN j (dLock i de))) :=
  PS.imp (ps_lock h) fun D σ H q => lock_step σ H _ (setN_step D σ H q)
end
end PD
/-! own dicts of ints and texts: statements and expressions. -/
namespace PD
open PySem PySem.Spec PyProof.Rows L2
/-! ### {} -/
def dNewDct (t : Bool) : Den Cont := fun _ m => .ok (.dct t [] [], m)
section
variable {X : Cx} {RW : WX} {pos : Pos}
theorem Rem.newDct {K : PySem.W.Frag} {mg : Str → Option Value} {z : Fz} {B F0 : Hp} {ow : Own} {ρ : List Slot} {m : List Ob} {σ : St} {H : Hp} {Q : VK} {c : Cont} {o : HO} (h : Rem K mg RW (.ok (c, m)) B F0 z ρ σ (pNew K mg) Q) (S : StOk K mg B F0 z ow ρ m σ H) (r : COk K mg z c o) {p : Addr} (hp : H p = none) : Q (.ref p) (upd H p o) := by
  obtain ⟨nz, nB, _⟩ := S.new_none hp
  exact h (upd B p o) z ow (.ref p) (upd H p o) (same_upd nB) (Fz.le.refl _) (S.keep hp o) ⟨p, o, rfl, nB, upd_same, nz, r⟩
theorem pd_newD : PE X (.Dict [] [] pos) (tX X.K X.mg RW (dNewDct false) (pNew X.K X.mg)) :=
  PE.imp pe_dnewK fun σ H Q ⟨B, F0, z, ow, ρ, m, S, q⟩ p hp => Rem.newDct q S ⟨[], .nil, [], rfl, rfl, rfl⟩ hp
theorem pd_newDT : PE X (.Dict [] [] pos) (tX X.K X.mg RW (dNewDct true) (pNew X.K X.mg)) :=
  PE.imp pe_dnewT fun σ H Q ⟨B, F0, z, ow, ρ, m, S, q⟩ p hp => Rem.newDct q S ⟨[], .nil, [], rfl, rfl, rfl⟩ hp
end
/-! ### d[k], k in d -/
/-- a dict of ints and texts, open or locked -/
def dctOf : D → Option (List D × List D)
  | .dct false ks vs => some (ks, vs)
  | .ldc false ks vs => some (ks, vs)
  | _ => none
def dgetK : D → D → Res D := fun x y => match dctOf x, keyOf y with
  | some (ks, vs), some k => (match atD k ks vs with
    | some d => .ok d
    | none => .bad)
  | _, _ => .bad
def dinK : D → D → Res D := fun y x => match dctOf x, keyOf y with
  | some (ks, vs), some k => .ok (.bl (atD k ks vs).isSome)
  | _, _ => .bad
theorem look_dctOf {K : PySem.W.Frag} {mg : Str → Option Value} {z : Fz} {B B' F0 : Hp} {ow : Own} {ρ : List Slot} {m : List Ob} {σ : St} {H : Hp} {d : D} {ks vs : List D} {v : V} (S : StOk K mg B F0 z ow ρ m σ H) (hd : dctOf d = some (ks, vs)) (h : pLook K mg B' B z ρ σ d v) :
    ∃ (a : Addr) (kx : List Key) (vx : List V), v = .ref a ∧ Rd H a (.dK (kx.zip vx)) ∧ kx.length = vx.length ∧ ks = kx.map keyD ∧ Reps K mg z vs vx := by
  unfold dctOf at hd
  split at hd
  · cases hd
    exact look_dict S h
  · cases hd
    obtain ⟨a, o, e, h1, od, u, vx, rfl, r, kx, hl, hk, rfl⟩ := look_cont (c := .ldc false ks vs) S h
    exact ⟨a, kx, vx, e, .inr ⟨od, h1⟩, hl, hk, r⟩
  · cases hd
section
variable {X : Cx} {RW : WX} {a b : Expr} {da db : Den D} {pos : Pos}
theorem dgetK_r : BinR X (fun x y H Q => ∃ a v, x = .ref a ∧ DGet H a y (some v) ∧ Q v H) dgetK := by
  intro RW B F0 z ow ρ m σ H x y dx dy Q S px py h
  unfold dgetK at h
  split at h
  · rename_i ks vs k hx hk
    split at h
    · rename_i d hd
      obtain ⟨a, kx, vx, rfl, hr, hl, rfl, r⟩ := look_dctOf S hx px
      obtain ⟨v, hv, rv⟩ := (atD_some hl r).1 d hd
      exact ⟨a, v, rfl, .inl ⟨_, k, hr, look_key hk py, hv.symm⟩, h.here S rv⟩
    · exact h.elim
  · exact h.elim
theorem pd_dgetK (hu : X.A.units + 1 < cLine) (ha : PE X a (tX X.K X.mg RW da (pLook X.K X.mg))) (hb : PE X b (tX X.K X.mg RW db (pLook X.K X.mg))) (hs : NoSl b := by exact fun _ _ => rfl) :
    PE X (.Subscript a b pos) (tX X.K X.mg RW (dBin dgetK da db) (pVal X.K X.mg)) := PE.imp (pe_dget hu ha hb hs) (two_step dgetK_r)
theorem dinK_r : BinR X (fun y x H Q => ∃ a o, x = .ref a ∧ DGet H a y o ∧ Q (.bl o.isSome) H) dinK := by
  intro RW B F0 z ow ρ m σ H y x dy dx Q S py px h
  unfold dinK at h
  split at h
  · rename_i ks vs k hx hk
    obtain ⟨a, kx, vx, rfl, hr, hl, rfl, r⟩ := look_dctOf S hx px
    refine ⟨a, valV (kx.zip vx) k, rfl, .inl ⟨_, k, hr, look_key hk py, rfl⟩, h.here S ?_⟩
    have e : (valV (kx.zip vx) k).isSome = (atD k (kx.map keyD) vs).isSome := by
      cases hd : atD k (kx.map keyD) vs with
      | none => rw [(atD_some hl r).2 hd]; rfl
      | some d => obtain ⟨v, hv, _⟩ := (atD_some hl r).1 d hd; rw [hv]; rfl
    rw [e]
    exact rep_bl.mpr rfl
  · exact h.elim
theorem pd_dinK (hu : X.A.units + 1 < cLine) (ha : PE X a (tX X.K X.mg RW da (pLook X.K X.mg))) (hb : PE X b (tX X.K X.mg RW db (pLook X.K X.mg))) (hm : behindInMarks .In b = false) :
    PE X (.Compare a [.In] [b] pos) (tX X.K X.mg RW (dBin dinK da db) (pVal X.K X.mg)) := PE.imp (pe_cmp (pc_din hu ha hb) hm) (two_step dinK_r)
theorem ptd_dinK (hu : X.A.units + 1 < cLine) (ha : PE X a (tX X.K X.mg RW da (pLook X.K X.mg))) (hb : PE X b (tX X.K X.mg RW db (pLook X.K X.mg))) (hm : behindInMarks .In b = false) :
    PT X (.Compare a [.In] [b] pos) (tX X.K X.mg RW (dT (dBin dinK da db)) pTest) := PT.imp (pt_cmp (pc_din hu ha hb) hm) fun σ H Q q => two_step dinK_r σ H _ (test_of σ H Q q)
end
/-! ### d[k] = v -/
def putV (k : Key) (v : D) : List D → List D → List D
  | x :: ks, w :: vs => (if keyOf x = some k then v else w) :: putV k v ks vs
  | _, vs => vs
def putC (k : Key) (v : D) (ks vs : List D) : Cont := if (atD k ks vs).isSome = true then .dct false ks (putV k v ks vs) else .dct false (ks ++ [keyD k]) (vs ++ [v])
def dputS (i : Nat) (dk dv : Den D) : SDen := fun ρ m => match slotAt ρ i with
  | .own (.dct false ks vs) => bindS (dv ρ m) ρ fun d m1 => bindS (dk ρ m1) ρ fun k m2 => (match keyOf k with
    | some j => if vs.length < sizeLine then .nx (ρ.set i (.own (putC j d ks vs))) m2 else .bad
    | none => .bad)
  | _ => .bad
theorem put_map {K : PySem.W.Frag} {mg : Str → Option Value} {z : Fz} {k : Key} {v : D} {y : V} (ry : Rep K mg z v y) : ∀ {kx : List Key} {vx : List V} {vs : List D}, kx.length = vx.length → Reps K mg z vs vx →
    ∃ vy, vy.length = vx.length ∧ Reps K mg z (putV k v (kx.map keyD) vs) vy ∧ (kx.zip vx).map (fun kv => if kv.1 = k then (kv.1, y) else kv) = kx.zip vy
  | [], vx, vs, hl, r => by
    have : vx = [] := by cases vx with
      | nil => rfl
      | cons => simp at hl
    subst this
    refine ⟨[], rfl, ?_, rfl⟩
    simp only [List.map_nil, putV]
    exact r
  | x :: kx, [], vs, hl, r => by simp at hl
  | x :: kx, w :: vx, vs, hl, r => by
    cases vs with
    | nil => simp only [Reps] at r
    | cons d0 vs =>
      simp only [Reps] at r
      obtain ⟨vy, l1, r1, e1⟩ := put_map ry (kx := kx) (vx := vx) (vs := vs) (by simpa using hl) r.2
      by_cases e : x = k
      · refine ⟨y :: vy, by simp [l1], ?_, ?_⟩
        · simp only [List.map_cons, putV, keyOf_k]
          rw [if_pos (congrArg some e)]
          exact Reps.cons ry r1
        · simp only [List.zip_cons_cons, List.map_cons]
          rw [if_pos e, e1]
      · refine ⟨w :: vy, by simp [l1], ?_, ?_⟩
        · simp only [List.map_cons, putV, keyOf_k]
          rw [if_neg (fun q => e (Option.some.inj q))]
          exact Reps.cons r.1 r1
        · simp only [List.zip_cons_cons, List.map_cons]
          rw [if_neg e, e1]
theorem put_cok {K : PySem.W.Frag} {mg : Str → Option Value} {z : Fz} {k : Key} {v : D} {y : V} (ry : Rep K mg z v y) {kx : List Key} {vx : List V} {vs : List D} (hl : kx.length = vx.length) (r : Reps K mg z vs vx) :
    COk K mg z (putC k v (kx.map keyD) vs) (.dK (putK (kx.zip vx) k y)) := by
  have hs : (valV (kx.zip vx) k).isSome = (atD k (kx.map keyD) vs).isSome := by
    cases hd : atD k (kx.map keyD) vs with
    | none => rw [(atD_some hl r).2 hd]; rfl
    | some d => obtain ⟨v, hv, _⟩ := (atD_some hl r).1 d hd; rw [hv]; rfl
  unfold putC putK
  rw [valV_any, hs]
  split
  · obtain ⟨vy, l1, r1, e1⟩ := put_map (k := k) ry hl r
    exact ⟨vy, r1, kx, by rw [l1, hl], rfl, by rw [e1]⟩
  · refine ⟨vx ++ [y], r.append (.cons ry .nil), kx ++ [k], by simp [hl], by simp, ?_⟩
    rw [List.zip_append hl]
    rfl
section
variable {X : Cx} {RW : WX} {e ei : Expr} {px p2 pos : Pos}
theorem sd_dput {i : Nat} {x : Str} {di de : Den D} (hu : X.A.units + 1 < cLine) (hv : PE X (.Name x px) (tVar i)) (hi : PE X ei (tX X.K X.mg RW di (pLook X.K X.mg))) (he : PE X e (tX X.K X.mg RW de (pVal X.K X.mg)))
    (hs : swapsWith e (some (.Subscript (.Name x px) ei p2)) pos.line X.env = pure false := by rfl) : PS X (.Assign [.Subscript (.Name x px) ei p2] e pos) (tB X.K X.mg RW (dputS i di de)) :=
  PS.imp (ps_dput hu hv hi he hs) fun D σ H ⟨B, F0, z, ow, ρ, m, S, q⟩ => by
    unfold dputS at q
    split at q
    · rename_i ks vs hs
      refine ⟨B, F0, z, ow, ρ, m, S, Rem.stepS q fun d m1 B1 z1 ow1 v H1 hB hz S1 pd q1 => ?_⟩
      have S1' := S1.weak hB
      obtain ⟨_, a, _, e3, _, _⟩ := slot_own S1' hs
      refine ⟨.ref a, e3, B, F0, z1, ow1, ρ, m1, S1', Rem.stepS q1 fun k m2 B2 z2 ow2 kv H2 hB2 hz2 S2 pk q2 => ?_⟩
      have S2' := S2.weak hB2
      obtain ⟨hg, a2, o, e4, hH, vx, r, kx, hl, rfl, rfl⟩ := slot_own S2' hs
      rw [e3] at e4
      cases e4
      cases hk : keyOf k with
      | none => simp only [hk] at q2; exact q2.elim
      | some j =>
        simp only [hk] at q2
        split at q2
        · rename_i hlt
          have hz : (kx.zip vx).length < sizeLine := by
            rw [List.length_zip, hl, Nat.min_self, ← r.len]
            exact hlt
          refine ⟨a, _, rfl, .inl ⟨_, j, hH, look_key hk pk, hz, rfl⟩, ?_⟩
          exact q2 z2 ow2 σ _ (Fz.le.refl _) (S2'.change hg e3 (put_cok (Rep.le hz2 pd) hl r))
        · exact q2.elim
    · exact q.elim
end
/-! ### gone through by keys, while it is locked -/
def asLdc : D → Res (List D)
  | .ldc false ks _ => .ok ks
  | _ => .bad
theorem rep_key {K : PySem.W.Frag} {mg : Str → Option Value} {z : Fz} (k : Key) : Rep K mg z (keyD k) (kV k) := by
  cases k with
  | inl i => exact rep_int.mpr rfl
  | inr s => exact rep_str.mpr rfl
theorem yields_keys {K : PySem.W.Frag} {mg : Str → Option Value} {z : Fz} {a : Addr} {od : Obj} {kx : List Key} {vx : List V} (hl : kx.length = vx.length) (h : z.F a = some (.frz od (.dK (kx.zip vx)))) : Yields K mg (Itk a od (kx.zip vx)) z (kx.map keyD) := by
  intro B F0 z' ow ρ m σ H i hz S
  have hH : H a = some (.frz od (.dK (kx.zip vx))) := S.fh _ _ (hz.1 _ _ h)
  have hlen : (kx.zip vx).length = kx.length := by rw [List.length_zip, hl, Nat.min_self]
  refine ⟨fun e => ⟨hH, by rw [hlen, e, List.length_map]; exact Nat.le_refl _⟩, fun d hd => ?_⟩
  rw [List.getElem?_map] at hd
  obtain ⟨k, hk, rfl⟩ := Option.map_eq_some_iff.mp hd
  obtain ⟨hi, _⟩ := List.getElem?_eq_some_iff.mp hk
  refine ⟨⟨hH, by rw [hlen]; exact hi⟩, fun x H' y => ?_⟩
  obtain ⟨rfl, k', v, e1, rfl⟩ := y
  have e2 : (kx.zip vx).map (·.1) = kx := List.map_fst_zip (by rw [hl]; exact Nat.le_refl _)
  have e3 : kx[i]? = some k' := by
    rw [← e2, List.getElem?_map, e1]
    rfl
  rw [hk] at e3
  cases e3
  exact ⟨z', Fz.le.refl _, S, rep_key k⟩
section
variable {X : Cx} {RW : WX} {e tg : Expr} {pos : Pos}
theorem it_ldc {da : Den D} (h : PE X e (tX X.K X.mg RW da (pVal X.K X.mg))) : PI X tg e (tX X.K X.mg RW (dIt asLdc da) (pIt X.K X.mg)) :=
  PI.imp (pi_keys h) fun σ H Q q => tX.imp q fun B F0 z ow ρ m S h => Rem.step pIt.pm h fun d m1 B1 z1 ow1 v H1 hB hz S1 p h1 => by
    match d, h1, p with
    | .ldc false ks vs, h1, p =>
      obtain ⟨a, od, o, vx, rfl, e1, r, kx, hl, rfl, rfl⟩ := (by simpa only [Rep] using (show Rep X.K X.mg z1 (.ldc false ks vs) v from p) : ∃ (a : Addr) (od : Obj) (o : HO) (vxs : List V), v = .ref a ∧ z1.F a = some (.frz od o) ∧ Reps X.K X.mg z1 vs vxs ∧ DKeys false ks vxs o)
      exact ⟨a, od, rfl, .inl ⟨_, S1.fh _ _ e1, Rem.here (d := kx.map keyD) h1 S1 (yields_keys hl e1)⟩⟩
    | .ldc true ks vs, h1, _ => exact h1.elim
    | .non, h1, _ => exact h1.elim
    | .bl _, h1, _ => exact h1.elim
    | .int _, h1, _ => exact h1.elim
    | .str _, h1, _ => exact h1.elim
    | .tup _, h1, _ => exact h1.elim
    | .etp _, h1, _ => exact h1.elim
    | .lst _, h1, _ => exact h1.elim
    | .dct _ _ _, h1, _ => exact h1.elim
    | .row _, h1, _ => exact h1.elim
    | .obj _, h1, _ => exact h1.elim
    | .fn _, h1, _ => exact h1.elim
    | .scr _, h1, _ => exact h1.elim
/-! ### name = [..] while a dict is locked -/
variable {elt iter : Expr} {ifs : List Expr} {scope : Scope} {own : List (Str × Nat)} {di : Den (List D)} {f : Tg} {test : Den Bool} {de : Den D}
theorem sd_setLC {vs : List Nat} {i l : Nat} {y : Str} {py spos : Pos} (hc : X.calm = true) (hN : X.N.Nodup) (hy : X.N[i]? = some y) (hyl : X.env.scope.names.lookup y = some .local)
    (hsw : swapsWith (.ListComp elt [⟨tg, iter, ifs, 0⟩] scope pos) (some (.Name y py)) spos.line X.env = pure true) (hi : PI X tg iter (tX X.K X.mg noRW di (pIt X.K X.mg))) (hv : own.map (·.2) = vs) (ok : BlkOk X.N X.env.scope scope own) (hf : TgOk vs f)
    (hg : ∀ (s : Shared) (H : Hp) (C : Addr) (cl : List (Str × Addr)) (fp : List Addr), PG (X.blk s H scope (compEnvC scope cl C X.env) fp) tg (tG X.K X.mg vs f))
    (ht : ∀ (s : Shared) (H : Hp) (C : Addr) (cl : List (Str × Addr)) (fp : List Addr), PTs (X.blk s H scope (compEnvC scope cl C X.env) fp) ifs (tX X.K X.mg noRW test pTest))
    (he : ∀ (s : Shared) (H : Hp) (C : Addr) (cl : List (Str × Addr)) (fp : List Addr), PE (X.blk s H scope (compEnvC scope cl C X.env) fp) elt (tX X.K X.mg noRW de (pVal X.K X.mg))) (hs : ∀ x, foldedSetIterable iter X.env x = pure x := by intro _; rfl) :
    PS X (.Assign [.Name y py] (.ListComp elt [⟨tg, iter, ifs, 0⟩] scope pos) spos) (tB X.K X.mg RW (setN i (dLock l (dComp di vs f test de)))) := by
  subst hv
  exact sd_lockC (PS.imp (ps_setLc hc hN hy hyl hsw hi ok hg ht he hs) fun D σ H q => comp_step hf σ H _ q)
end
/-! ### handed out: locked for good -/
def tSeal (t : TS) : TS := fun D σ H => ∃ d u, H d = some u ∧ Mut (some u) ∧ ∀ od, t D σ (upd H d (.frz od u))
theorem pss_seal {X : Cx} {st : List Stmt} {t : TS} (h : PSs X st t) : PSs X st (tSeal t) := by
  refine ⟨fun pins s σ H D I hw => ?_⟩
  obtain ⟨d, u, hd, mu, hw⟩ := hw
  obtain ⟨od, I1⟩ := I.lock hd mu
  exact h.run pins s σ _ _ I1 (hw od)
def sealS (i : Nat) (a : SDen) : SDen := fun ρ m => match slotAt ρ i with
  | .own (.dct t ks vs) => a (ρ.set i (.sh (.ldc t ks vs))) m
  | _ => .bad
section
variable {X : Cx} {RW : WX}
theorem seal_step {i : Nat} {a : SDen} (D : Ends) (σ : St) (H : Hp) (q : tB X.K X.mg RW (sealS i a) D σ H) : tSeal (tB X.K X.mg RW a) D σ H := by
  obtain ⟨B, F0, z, ow, ρ, m, S, h⟩ := q
  unfold sealS at h
  split at h
  · rename_i t ks vs hs
    obtain ⟨hg, d, u, e1, hH, vx, r, dk⟩ := slot_own S hs
    refine ⟨d, u, hH, by rcases dk.dct with ⟨k, rfl⟩ | ⟨k, rfl⟩ <;> exact True.intro, fun od => ?_⟩
    have S1 := S.change (c' := .ldc t ks vs) (o := .frz od u) hg e1 ⟨od, u, vx, rfl, r, dk⟩
    obtain ⟨hl, _⟩ := List.getElem?_eq_some_iff.mp hg
    refine freeze_step (i := i) D σ _ ⟨B, F0, z, ow, _, m, S1, ?_⟩
    unfold freezeS
    have e2 : slotAt (ρ.set i (.own (.ldc t ks vs))) i = .own (.ldc t ks vs) := slotAt_of (List.getElem?_set_self hl)
    rw [e2]
    dsimp only
    rw [List.set_set]
    exact h
  · exact h.elim
theorem sd_seal {i : Nat} {st : List Stmt} {a : SDen} (h : PSs X st (tB X.K X.mg RW a)) : PSs X st (tB X.K X.mg RW (sealS i a)) := PSs.imp (pss_seal h) seal_step
end
end PD
/-! The plain side of own dicts, of sorting by a key, of draws behind a table. -/
namespace PD
open PySem PySem.Spec PyProof.Rows L2
section
variable {ρ ρ' : List Slot} {m m' m1 m2 : List Ob}
@[simp] theorem dNewDct_ev (t : Bool) : dNewDct t ρ m = .ok (.dct t [] [], m) := byEq rfl
@[simp] theorem asLdc_ldc (ks vs : List D) : asLdc (.ldc false ks vs) = .ok ks := byEq rfl
@[simp] theorem sealS_ev (i : Nat) (a : SDen) : sealS i a ρ m = match slotAt ρ i with
  | .own (.dct t ks vs) => a (ρ.set i (.sh (.ldc t ks vs))) m
  | _ => .bad := byEq rfl
theorem dLock_ok {i : Nat} {de : Den Cont} {t : Bool} {ks vs : List D} {c : Cont} (h1 : PD.slotAt ρ i = .own (.dct t ks vs)) (h2 : de (maskS i (.ldc t ks vs) 0 ρ) m = .ok (c, m')) (h3 : noLC c = true) (h4 : noLM m' = true) : dLock i de ρ m = .ok (c, m') := by
  unfold dLock
  rw [h1]
  dsimp only
  rw [h2]
  exact if_pos ⟨h3, h4⟩
theorem dputS_ok {i : Nat} {dk dv : Den D} {ks vs : List D} {d k : D} {j : Key} (h1 : PD.slotAt ρ i = .own (.dct false ks vs)) (h2 : dv ρ m = .ok (d, m1)) (h3 : dk ρ m1 = .ok (k, m2)) (h4 : keyOf k = some j) (h5 : vs.length < 16777216) :
    dputS i dk dv ρ m = .nx (ρ.set i (.own (putC j d ks vs))) m2 := by
  unfold dputS
  rw [h1]
  show bindS (dv ρ m) ρ _ = _
  rw [h2]
  show bindS (dk ρ m1) ρ _ = _
  rw [h3]
  show (match keyOf k with
    | some j => if vs.length < sizeLine then Out.nx (ρ.set i (.own (putC j d ks vs))) m2 else .bad
    | none => .bad) = _
  rw [h4]
  exact if_pos (by rw [szl_eq]; exact h5)
theorem keyOf_nat (n : Nat) : keyOf (nD n) = some (.inl (n : Int)) := rfl
theorem atD_nat (f : Nat → D) (k : Nat) : ∀ xs : List Nat, atD (.inl (k : Int)) (xs.map nD) (xs.map f) = if k ∈ xs then some (f k) else none
  | [] => rfl
  | x :: xs => by
    rw [List.map_cons, List.map_cons, atD, keyOf_nat, atD_nat f k xs]
    by_cases e : x = k
    · subst e
      rw [if_pos rfl, if_pos (List.mem_cons_self ..)]
    · rw [if_neg (fun q => e (by have := Sum.inl.inj (Option.some.inj q); omega))]
      by_cases hk : k ∈ xs
      · rw [if_pos hk, if_pos (List.mem_cons_of_mem _ hk)]
      · rw [if_neg hk, if_neg (fun q => (List.mem_cons.mp q).elim (fun z => e z.symm) hk)]
theorem dgetK_nat (b : Bool) (f : Nat → D) (k : Nat) (xs : List Nat) (h : k ∈ xs) : dgetK (if b then .ldc false (xs.map nD) (xs.map f) else .dct false (xs.map nD) (xs.map f)) (nD k) = .ok (f k) := by
  have q := atD_nat f k xs
  rw [if_pos h] at q
  cases b with
  | true =>
    show (match atD (.inl (k : Int)) (xs.map nD) (xs.map f) with
      | some d => Res.ok d
      | none => .bad) = _
    rw [q]
  | false =>
    show (match atD (.inl (k : Int)) (xs.map nD) (xs.map f) with
      | some d => Res.ok d
      | none => .bad) = _
    rw [q]
theorem dgetK_ldc (f : Nat → D) (k : Nat) (xs : List Nat) (h : k ∈ xs) : dgetK (.ldc false (xs.map nD) (xs.map f)) (nD k) = .ok (f k) := dgetK_nat true f k xs h
theorem putC_new (f : Nat → D) (k : Nat) (xs : List Nat) (h : k ∉ xs) : putC (.inl (k : Int)) (f k) (xs.map nD) (xs.map f) = .dct false ((xs ++ [k]).map nD) ((xs ++ [k]).map f) := by
  unfold putC
  rw [atD_nat, if_neg h, if_neg (by simp), List.map_append, List.map_append]
  rfl
theorem dSortK_ok {t j : Nat} {x q : Str} {da : Den (List D)} {ns gs : List Int} (h1 : da ρ m = .ok ([.lst (ns.map .int)], m')) (h2 : m'[t]? = some (.tab x q)) (h3 : seqOf (PD.slotAt ρ j) = some (gs.map .int)) (h4 : ns.length ≤ 100000) (h5 : gs.length ≤ 100000) (h6 : ∀ n ∈ ns, 0 ≤ n ∧ n < gs.length) :
    dSortK t j x q da ρ m = .ok (.lst ((sortBy gs ns).map .int), m') := by
  unfold dSortK
  rw [h1]
  show (match [D.lst (ns.map .int)], m'[t]?, seqOf (PD.slotAt ρ j) with
    | [.lst ds], some (.tab x' q'), some es => (match ints? ds, ints? es with
      | some ns, some gs => if x' = x ∧ q' = q ∧ ns.length ≤ 100000 ∧ gs.length ≤ 100000 ∧ (ns.all fun n => decide (0 ≤ n) && decide (n < gs.length)) = true then Res.ok (Cont.lst ((sortBy gs ns).map .int), m') else .bad
      | _, _ => .bad)
    | _, _, _ => .bad) = _
  rw [h2, h3]
  dsimp only
  rw [ints?_map, ints?_map]
  refine if_pos ⟨rfl, rfl, h4, h5, ?_⟩
  rw [List.all_eq_true]
  intro n hn
  have := h6 n hn
  rw [Bool.and_eq_true, decide_eq_true_eq, decide_eq_true_eq]
  exact this
/-! ### the order of wagons by their groups -/
def natsI (xs : List Nat) : List Int := xs.map fun (k : Nat) => (k : Int)
theorem toNats : ∀ l : List Int, (∀ x ∈ l, 0 ≤ x) → l = natsI (l.map Int.toNat)
  | [], _ => rfl
  | x :: l, h => by
    have e := toNats l fun y hy => h y (List.mem_cons_of_mem _ hy)
    have hx := h x (List.mem_cons_self ..)
    show x :: l = ((x.toNat : Nat) : Int) :: natsI (l.map Int.toNat)
    rw [← e, Int.toNat_of_nonneg hx]
def ordN (gs : List Int) : List Nat := (sortBy gs (natsI (List.range gs.length))).map Int.toNat
theorem sortBy_perm (gs ns : List Int) : (sortBy gs ns).Perm ns := List.mergeSort_perm ns _
theorem sortBy_ord (gs ns : List Int) : (sortBy gs ns).Pairwise fun a b => keyAt gs a ≤ keyAt gs b := by
  have h := List.pairwise_mergeSort (le := fun a b => decide (keyAt gs a ≤ keyAt gs b)) (fun a b c h1 h2 => by
    rw [decide_eq_true_eq] at h1 h2 ⊢; omega) (fun a b => by
    rw [Bool.or_eq_true, decide_eq_true_eq, decide_eq_true_eq]; omega) ns
  exact h.imp fun q => by simpa using q
theorem natsI_mem {xs : List Nat} {x : Int} : x ∈ natsI xs → 0 ≤ x ∧ ∃ k ∈ xs, x = (k : Int) := fun h => by
  obtain ⟨k, hk, rfl⟩ := List.mem_map.mp h
  exact ⟨by omega, k, hk, rfl⟩
theorem sortBy_nats (gs : List Int) : sortBy gs (natsI (List.range gs.length)) = natsI (ordN gs) := toNats _ fun x hx => (natsI_mem ((sortBy_perm gs _).mem_iff.mp hx)).1
theorem ordN_perm (gs : List Int) : (ordN gs).Perm (List.range gs.length) := by
  have h := (sortBy_perm gs (natsI (List.range gs.length))).map Int.toNat
  refine h.trans ?_
  unfold natsI
  rw [List.map_map]
  have e : (Int.toNat ∘ fun (k : Nat) => (k : Int)) = id := funext fun k => Int.toNat_natCast k
  rw [e, List.map_id]
theorem ordN_mem (gs : List Int) (k : Nat) : k ∈ ordN gs ↔ k < gs.length := by rw [(ordN_perm gs).mem_iff, List.mem_range]
theorem ordN_nodup (gs : List Int) : (ordN gs).Nodup := (ordN_perm gs).nodup_iff.mpr List.nodup_range
theorem ordN_len (gs : List Int) : (ordN gs).length = gs.length := by rw [(ordN_perm gs).length_eq, List.length_range]
theorem ordN_ord (gs : List Int) : (ordN gs).Pairwise fun a b => gs.getD a 0 ≤ gs.getD b 0 := by
  have h := sortBy_ord gs (natsI (List.range gs.length))
  rw [sortBy_nats] at h
  unfold natsI at h
  rw [List.pairwise_map] at h
  exact h.imp fun {a b} q => by
    have q : keyAt gs (a : Int) ≤ keyAt gs (b : Int) := q
    unfold keyAt at q
    rwa [Int.toNat_natCast, Int.toNat_natCast] at q
theorem natsI_int (xs : List Nat) : (natsI xs).map D.int = xs.map nD := by unfold natsI; rw [List.map_map]; rfl
/-! ### draws behind a table -/
def DrawnT (x q : Str) (m : List Ob) : Prop := ∃ s cs i, m = [.tab x q, .gen s cs i] ∧ cs.length ≤ 63
theorem DrawnT.noL {x q : Str} {m : List Ob} (h : DrawnT x q m) : noLM m = true := by
  obtain ⟨s, cs, i, rfl, _⟩ := h
  rfl
theorem DrawnT.tab {x q : Str} {m : List Ob} (h : DrawnT x q m) : m[0]? = some (.tab x q) := by
  obtain ⟨s, cs, i, rfl, _⟩ := h
  rfl
theorem next_okT {x q : Str} {m : List Ob} {b : Int} (h : DrawnT x q m) (hb : 0 < b) (hl : b.natAbs.log2 < 9000) : ∃ (r : Int) (m' : List Ob), den_law_next [.obj 1, .int b] m = .ok (.int r, m') ∧ 0 ≤ r ∧ r < b ∧ DrawnT x q m' := by
  obtain ⟨s, cs, i, rfl, hc⟩ := h
  obtain ⟨r, s', cs', i', e, h1, h2, h3⟩ := nextG_ok s cs i b hb
  refine ⟨r, [.tab x q, .gen s' cs' i'], ?_, h1, h2, s', cs', i', rfl, by omega⟩
  unfold den_law_next
  dsimp only
  rw [if_pos ⟨hb, hl⟩]
  show (if cs.length ≤ 1000 then (match nextG s cs i b with
      | some (r, g) => Res.ok (D.int r, [Ob.tab x q, Ob.gen s cs i].set 1 g)
      | none => .bad) else .bad) = _
  rw [if_pos (by omega), e]
  rfl
theorem next_natT {x q : Str} {m : List Ob} {b : Nat} (h : DrawnT x q m) (hb : 0 < b) (hl : b.log2 < 9000) : ∃ (r : Nat) (m' : List Ob), den_law_next [.obj 1, .int (b : Int)] m = .ok (.int (r : Int), m') ∧ r < b ∧ DrawnT x q m' := by
  obtain ⟨r, m', e, h1, h2, h3⟩ := next_okT (b := (b : Int)) h (by omega) hl
  obtain ⟨k, rfl⟩ := Int.eq_ofNat_of_zero_le h1
  exact ⟨k, m', e, by omega, h3⟩
theorem mix_okT (x qq : Str) (ns : List Int) (seed : Int) : ∃ s : Int, denMix [.scr ns, .int seed] [.tab x qq] = .ok (.obj 1, [.tab x qq, .gen s ns 0]) := by
  obtain ⟨y, y3, e⟩ := mix_loop (.sh (.scr ns)) (.sh (.int seed)) [.tab x qq] ns seed .non
  refine ⟨y, fnD_rt rfl ?_⟩
  have q : asScr (.scr ns) = .ok (ns.map D.int) := rfl
  have q2 : listScr (.scr ns) = .ok (.lst (ns.map D.int)) := rfl
  simp [q, e, dGen, q2, ints?_map]
theorem mix_drawnT (x q : Str) (ns : List Int) (seed : Int) (h : ns.length ≤ 63) : ∃ m : List Ob, denMix [.scr ns, .int seed] [.tab x q] = .ok (.obj 1, m) ∧ DrawnT x q m := by
  obtain ⟨s, e⟩ := mix_okT x q ns seed
  exact ⟨_, e, s, ns, 0, rfl, h⟩
end
end PD
/-! Levels: what they are, by the wagons of lower groups. -/
namespace PD
open PySem PySem.Spec PyProof.Rows L2
/-- 1 if w stands ahead of k -/
def ah (w k : Nat) : Int := if w < k then 1 else 0
def LvSpec (gs F : List Int) (w : Nat) : Prop := 0 ≤ F.getD w 0 ∧ (∀ k, k < gs.length → gs.getD k 0 < gs.getD w 0 → F.getD k 0 + ah w k ≤ F.getD w 0) ∧
  (F.getD w 0 = 0 ∨ ∃ k, k < gs.length ∧ gs.getD k 0 < gs.getD w 0 ∧ F.getD w 0 = F.getD k 0 + ah w k)
def LvInv (gs : List Int) (P : List Int) (s : List Int × Int × Int) : Prop := s.1.length = gs.length ∧ 0 ≤ s.2.1 ∧ (∀ k, k < gs.length → gs.getD k 0 ∈ P → s.1.getD k 0 ≤ s.2.1 ∧ (s.1.getD k 0 = s.2.1 → (k : Int) ≤ s.2.2) ∧ LvSpec gs s.1 k) ∧
  ((s.2.1 = 0 ∧ s.2.2 = -1) ∨ ∃ w : Nat, s.2.2 = (w : Int) ∧ w < gs.length ∧ gs.getD w 0 ∈ P ∧ s.1.getD w 0 = s.2.1)
theorem last_max : ∀ {ws : List Nat}, ws.Pairwise (· < ·) → ∀ {w : Nat}, w ∈ ws → w ≤ ws.getLast?.getD 0
  | [], _, w, h => by cases h
  | [a], _, w, h => by
    have : w = a := by simpa using h
    rw [this]
    exact Nat.le_refl _
  | a :: b :: r, hp, w, h => by
    have h2 := (List.pairwise_cons.mp hp)
    have ih := fun {w : Nat} (hw : w ∈ b :: r) => last_max h2.2 hw
    rw [List.getLast?_cons_cons]
    rcases List.mem_cons.mp h with rfl | h
    · have := h2.1 b (List.mem_cons_self ..)
      have := ih (List.mem_cons_self ..)
      omega
    · exact ih h
theorem lvEnd_spec (F : List Int) (ws : List Nat) (h : ws ≠ []) (hp : ws.Pairwise (· < ·)) : ∃ e : Nat, lvEnd F ws = (e : Int) ∧ e ∈ ws ∧ F.getD e 0 = lvMost F ws ∧ ∀ k ∈ ws, F.getD k 0 = lvMost F ws → k ≤ e := by
  have hne := lvEnd_ne F ws h
  refine ⟨_, rfl, ?_⟩
  have hm : (ws.filter fun w => decide (F.getD w 0 = lvMost F ws)).getLast?.getD 0 ∈ ws.filter fun w => decide (F.getD w 0 = lvMost F ws) := by
    rw [List.getLast?_eq_some_getLast hne]
    exact List.getLast_mem hne
  have hm2 := List.mem_filter.mp hm
  refine ⟨hm2.1, by simpa using hm2.2, fun k hk e => ?_⟩
  exact last_max (hp.sublist (List.filter_sublist ..)) (List.mem_filter.mpr ⟨hk, by simpa using e⟩)
theorem lvMost_le (F : List Int) (ws : List Nat) {k : Nat} (h : k ∈ ws) : F.getD k 0 ≤ lvMost F ws := maxL_le _ (List.mem_map.mpr ⟨k, h, rfl⟩)
theorem cls_pair (gs : List Int) (g : Int) : (clsOf gs g).Pairwise (· < ·) := List.pairwise_lt_range.sublist (List.filter_sublist ..)
theorem lv_inv (gs : List Int) : ∀ (rest P : List Int) (s : List Int × Int × Int), (P ++ rest).Pairwise (· < ·) → (∀ k, k < gs.length → gs.getD k 0 ∈ P ++ rest) → (∀ c ∈ rest, c ∈ gs) → LvInv gs P s → LvInv gs (P ++ rest) ((rest.map (clsOf gs)).foldl lvStep s)
  | [], P, s, _, _, _, h => by rw [List.append_nil]; exact h
  | c :: rest, P, s, hp, ha, hin, ⟨hl, h0, hold, hla⟩ => by
    rw [List.map_cons, List.foldl_cons]
    have e : P ++ c :: rest = (P ++ [c]) ++ rest := by rw [List.append_assoc]; rfl
    rw [e] at hp ha ⊢
    refine lv_inv gs rest (P ++ [c]) _ hp ha (fun x hx => hin x (List.mem_cons_of_mem _ hx)) ?_
    have hP : ∀ p ∈ P, p < c := fun p h => by
      have q := (List.pairwise_append.mp (List.pairwise_append.mp hp).1).2.2
      exact q p h c (List.mem_singleton.mpr rfl)
    have hcP : c ∉ P := fun h => by have := hP c h; omega
    have low : ∀ k, k < gs.length → gs.getD k 0 < c → gs.getD k 0 ∈ P := fun k hk hlt => by
      rcases List.mem_append.mp (ha k hk) with q | q
      · rcases List.mem_append.mp q with q | q
        · exact q
        · rw [List.mem_singleton.mp q] at hlt; omega
      · have r := (List.pairwise_append.mp hp).2.2 c (List.mem_append_right _ (List.mem_singleton.mpr rfl)) _ q
        omega
    have wslt : ∀ w ∈ clsOf gs c, w < s.1.length := fun w hw => by rw [hl]; exact cls_lt hw
    have hg := fun k => lvSet_get s.2.1 s.2.2 (clsOf gs c) s.1 k wslt
    have hne : clsOf gs c ≠ [] := by
      obtain ⟨k, hk, ek⟩ := List.getElem_of_mem (hin c (List.mem_cons_self ..))
      exact List.ne_nil_of_mem (cls_at.mpr ⟨hk, by rw [getD_get _ _ _ hk]; exact ek⟩)
    have hF1 := lvStep1 s (clsOf gs c)
    have hF2 := lvStep2 s (clsOf gs c)
    have hF3 : (lvStep s (clsOf gs c)).2.2 = if s.2.1 < lvMost (lvSet s.2.1 s.2.2 s.1 (clsOf gs c)) (clsOf gs c) then lvEnd (lvSet s.2.1 s.2.2 s.1 (clsOf gs c)) (clsOf gs c) else if s.2.2 < lvEnd (lvSet s.2.1 s.2.2 s.1 (clsOf gs c)) (clsOf gs c) then lvEnd (lvSet s.2.1 s.2.2 s.1 (clsOf gs c)) (clsOf gs c) else s.2.2 := by
      unfold lvStep; split <;> rfl
    have hlen : (lvSet s.2.1 s.2.2 s.1 (clsOf gs c)).length = gs.length := by rw [lvSet_len, hl]
    obtain ⟨en, een, enw, enF, enM⟩ := lvEnd_spec (lvSet s.2.1 s.2.2 s.1 (clsOf gs c)) (clsOf gs c) hne (cls_pair gs c)
    have hmost := fun k (h : k ∈ clsOf gs c) => lvMost_le (lvSet s.2.1 s.2.2 s.1 (clsOf gs c)) (clsOf gs c) h
    generalize hF' : lvSet s.2.1 s.2.2 s.1 (clsOf gs c) = F' at *
    generalize hM : lvMost F' (clsOf gs c) = M at *
    have hgo : ∀ k, gs.getD k 0 ∈ P → F'.getD k 0 = s.1.getD k 0 := fun k hk => by
      rw [hg k, if_neg (fun q => hcP (by rw [← (cls_at.mp q).2]; exact hk))]
    have hgn : ∀ k ∈ clsOf gs c, F'.getD k 0 = s.2.1 + (if (k : Int) < s.2.2 then 1 else 0) := fun k hk => by rw [hg k, if_pos hk]
    -- the spec of the old ones
    have old : ∀ k, k < gs.length → gs.getD k 0 ∈ P → LvSpec gs F' k := fun k hk hkP => by
      obtain ⟨_, _, s1, s2, s3⟩ := hold k hk hkP
      rw [LvSpec, hgo k hkP]
      have lower : ∀ j, j < gs.length → gs.getD j 0 < gs.getD k 0 → F'.getD j 0 = s.1.getD j 0 := fun j hj hlt => hgo j (low j hj (by have := hP _ hkP; omega))
      refine ⟨s1, fun j hj hlt => by rw [lower j hj hlt]; exact s2 j hj hlt, s3.imp id fun ⟨j, hj, hlt, ej⟩ => ⟨j, hj, hlt, by rw [lower j hj hlt]; exact ej⟩⟩
    -- .. of the new ones
    have new : ∀ w ∈ clsOf gs c, LvSpec gs F' w := fun w hw => by
      obtain ⟨hwl, hwc⟩ := cls_at.mp hw
      rw [LvSpec, hwc, hgn w hw]
      refine ⟨by split <;> omega, fun k hk hlt => ?_, ?_⟩
      · have hkP := low k hk hlt
        obtain ⟨a1, a2, _⟩ := hold k hk hkP
        rw [hgo k hkP]
        unfold ah
        by_cases ek : s.1.getD k 0 = s.2.1
        · have := a2 ek
          split <;> split <;> omega
        · split <;> split <;> omega
      · rcases hla with ⟨b1, b2⟩ | ⟨v, b1, b2, b3, b4⟩
        · exact .inl (by rw [b1, b2, if_neg (by omega)]; rfl)
        · refine .inr ⟨v, b2, hP _ b3, ?_⟩
          rw [hgo v b3, b4, b1]
          unfold ah
          split <;> split <;> omega
    refine ⟨by rw [hF1]; exact hlen, by rw [hF2]; split <;> omega, fun k hk hkP => ?_, ?_⟩
    · rw [hF1, hF2, hF3]
      rcases List.mem_append.mp hkP with q | q
      · obtain ⟨a1, a2, _⟩ := hold k hk q
        refine ⟨?_, fun ee => ?_, old k hk q⟩
        · rw [hgo k q]; split <;> omega
        · rw [hgo k q] at ee
          by_cases hlt : s.2.1 < M
          · rw [if_pos hlt] at ee ⊢; omega
          · rw [if_neg hlt] at ee ⊢
            have := a2 ee
            split <;> omega
      · have hkw : k ∈ clsOf gs c := cls_at.mpr ⟨hk, List.mem_singleton.mp q⟩
        have b1 := hmost k hkw
        have b2 := enM k hkw
        refine ⟨by split <;> omega, fun ee => ?_, new k hkw⟩
        rw [een]
        by_cases hlt : s.2.1 < M
        · rw [if_pos hlt] at ee ⊢
          have := b2 ee
          omega
        · rw [if_neg hlt] at ee ⊢
          have b3 := hgn k hkw
          have : M = s.2.1 := by
            have : s.2.1 ≤ F'.getD k 0 := by rw [b3]; split <;> omega
            omega
          have := b2 (by omega)
          split <;> omega
    · rw [hF1, hF2, hF3, een]
      have enP : gs.getD en 0 ∈ P ++ [c] := List.mem_append_right _ (List.mem_singleton.mpr (cls_at.mp enw).2)
      have enl := cls_lt enw
      by_cases hlt : s.2.1 < M
      · rw [if_pos hlt, if_pos hlt]
        exact .inr ⟨en, rfl, enl, enP, enF⟩
      · rw [if_neg hlt, if_neg hlt]
        have b3 := hgn en enw
        have hM2 : F'.getD en 0 = s.2.1 := by
          have : s.2.1 ≤ F'.getD en 0 := by rw [b3]; split <;> omega
          omega
        by_cases h3 : s.2.2 < (en : Int)
        · rw [if_pos h3]
          exact .inr ⟨en, rfl, enl, enP, hM2⟩
        · rw [if_neg h3]
          rcases hla with ⟨b1, b2⟩ | ⟨v, b1, b2, b3, b4⟩
          · omega
          · exact .inr ⟨v, b1, b2, List.mem_append_left _ b3, by rw [hgo v b3]; exact b4⟩
theorem levF_spec (gs : List Int) (w : Nat) (h : w < gs.length) : LvSpec gs (levF gs) w := by
  have q := lv_inv gs (sset (isort gs)) [] (List.replicate gs.length 0, 0, -1) (by rw [List.nil_append]; exact sset_sorted _ (isort_sorted gs)) (fun k hk => by
    rw [List.nil_append, sset_isort_mem, getD_get _ _ _ hk]; exact List.getElem_mem hk) (fun c hc => (sset_isort_mem gs c).mp hc) ⟨List.length_replicate .., Int.le_refl _, (fun k hk hP => by cases hP), .inl ⟨rfl, rfl⟩⟩
  exact (q.2.2.1 w h (by rw [List.nil_append, sset_isort_mem, getD_get _ _ _ h]; exact List.getElem_mem h)).2.2
theorem maxL_eq (l : List Int) (x : Int) (h : x ∈ l) (hm : ∀ y ∈ l, y ≤ x) : maxL l = x := by
  have a := maxL_le l h
  have b := hm _ (maxL_mem l (List.ne_nil_of_mem h))
  omega
/-- no level comes up to the number of classes -/
theorem levF_cls (gs : List Int) (h : gs ≠ []) : ∀ k, (levF gs).getD k 0 + 1 ≤ (clsF gs).length := by
  have hc : ∀ ws ∈ clsF gs, ws ≠ [] ∧ ∀ w ∈ ws, w < gs.length := fun ws h => cls_ne h
  have hcl : clsF gs ≠ [] := fun e => isorted_one gs h (List.map_eq_nil_iff.mp e)
  unfold levF lvAll
  generalize clsF gs = cs at hc hcl
  cases cs with
  | nil => exact absurd rfl hcl
  | cons ws cs =>
    have hlt := (hc ws (List.mem_cons_self ..)).2
    have hne := (hc ws (List.mem_cons_self ..)).1
    have hg := fun k => lvSet_get 0 (-1) ws (List.replicate gs.length 0) k (fun w hw => by rw [List.length_replicate]; exact hlt w hw)
    have hz : ∀ k, (lvSet 0 (-1) (List.replicate gs.length 0) ws).getD k 0 = 0 := fun k => by
      rw [hg k]
      split
      · rw [if_neg (by omega)]; rfl
      · rw [List.getD_eq_getElem?_getD, List.getElem?_replicate]
        split <;> rfl
    obtain ⟨w, hw, e⟩ := lvMost_mem (lvSet 0 (-1) (List.replicate gs.length 0) ws) ws hne
    rw [hz w] at e
    have e1 := lvStep1 (List.replicate gs.length 0, 0, -1) ws
    have e2 := lvStep2 (List.replicate gs.length 0, 0, -1) ws
    dsimp only at e1 e2
    rw [e, if_neg (by omega)] at e2
    obtain ⟨a1, a2⟩ := lv_bound gs.length cs (lvStep (List.replicate gs.length 0, 0, -1) ws) 0 (fun x hx => hc x (List.mem_cons_of_mem _ hx)) (by rw [e1, lvSet_len, List.length_replicate]) (by rw [e2]; exact Int.le_refl _) (by rw [e2]; exact Int.le_refl _) (fun k => by rw [e1, hz k]; exact ⟨Int.le_refl _, Int.le_refl _⟩)
    intro k
    have := (a2 k).2
    rw [List.foldl_cons, List.length_cons]
    omega
theorem levF_top (gs : List Int) (h : gs ≠ []) : 0 ≤ maxL (levF gs) ∧ maxL (levF gs) + 1 ≤ (clsF gs).length := by
  obtain ⟨h1, h2⟩ := levF_ok gs
  have hne : levF gs ≠ [] := fun e => h (List.length_eq_zero_iff.mp (by rw [← h1, e]; rfl))
  refine ⟨(levF_max gs h).1, ?_⟩
  obtain ⟨k, hk, e⟩ := List.getElem_of_mem (maxL_mem _ hne)
  have := levF_cls gs h k
  rw [getD_get _ _ _ hk, e] at this
  exact this
/-- a wagon's level by those of lower groups -/
theorem levF_low (gs : List Int) (w : Nat) (h : w < gs.length) (done : List Nat) (hd : ∀ k ∈ done, k < gs.length) (hl : ∀ k, k < gs.length → gs.getD k 0 < gs.getD w 0 → k ∈ done) :
    maxL (0 :: (done.filter fun k => decide (gs.getD k 0 < gs.getD w 0)).map fun k => (levF gs).getD k 0 + ah w k) = (levF gs).getD w 0 := by
  obtain ⟨h0, h1, h2⟩ := levF_spec gs w h
  refine maxL_eq _ _ ?_ fun y hy => ?_
  · rcases h2 with e | ⟨k, hk, hlt, e⟩
    · rw [e]; exact List.mem_cons_self ..
    · rw [e]
      exact List.mem_cons_of_mem _ (List.mem_map.mpr ⟨k, List.mem_filter.mpr ⟨hl k hk hlt, by simpa using hlt⟩, rfl⟩)
  · rcases List.mem_cons.mp hy with rfl | hy
    · exact h0
    · obtain ⟨k, hk, rfl⟩ := List.mem_map.mp hy
      obtain ⟨k1, k2⟩ := List.mem_filter.mp hk
      exact h1 k (hd k k1) (by simpa using k2)
end PD
/-! x.append(a.pop(0) if c else b.pop(0)), own lists; a def that calls itself. -/
namespace PD
open PySem PySem.Spec PyProof.Rows L2
def popTo (i j : Nat) (ρ : List Slot) (m : List Ob) : Out := match PD.slotAt ρ i, PD.slotAt ρ j with
  | .own (.lst ds), .own (.lst (y :: ys)) => if ds.length < sizeLine then .nx ((ρ.set j (.own (.lst ys))).set i (.own (.lst (ds ++ [y])))) m else .bad
  | _, _ => .bad
def appPopS (i l r : Nat) (dc : Den Bool) : SDen := fun ρ m => match PD.slotAt ρ i with
  | .own (.lst _) => bindS (dc ρ m) ρ fun c m' => match c with
    | true => popTo i l ρ m'
    | false => popTo i r ρ m'
  | _ => .bad
section
variable {X : Cx} {RW : WX}
theorem pop_step {B F0 : Hp} {z : Fz} {ow : Own} {ρ : List Slot} {m : List Ob} {σ : St} {H : Hp} {i j : Nat} {D : Ends} {a : Addr} (hij : i ≠ j) (S : StOk X.K X.mg B F0 z ow ρ m σ H) (ea : σ[i]? = some (some (V.ref a))) (q : RemS X.K X.mg RW (popTo i j ρ m) B F0 z D) :
    tBM X.K "list" rPopAt (tVar j) (tCons (tC (.int 0)) tNil) σ H fun y H2 => rAppend (.ref a) [y] H2 fun _ H3 => D.nx σ H3 := by
  unfold popTo at q
  split at q
  · rename_i ds y ys h1 h2
    split at q
    · rename_i hl
      obtain ⟨g1, a', o1, e1, hH1, xs1, rfl, r1⟩ := slot_own S h1
      obtain ⟨g2, b, o2, e2, hH2, xs2, rfl, r2⟩ := slot_own S h2
      rw [ea] at e1
      cases e1
      obtain ⟨v, vs, rfl, rv, rr⟩ := r2.uncons
      refine ⟨.ref b, e2, .inl ⟨rfl, _, SqL.of hH2⟩, b, _, 0, 0, v, rfl, rfl, hH2, by decide, by decide, (ixN_seq (by unfold ixN; rw [if_pos (by decide), if_pos (by rw [List.length_cons]; omega)]; rfl)).1, rfl, ?_⟩
      have S2 := S.change (c' := .lst ys) (o := .lst vs) g2 e2 ⟨vs, rfl, rr⟩
      have hab : a ≠ b := fun e => by
        obtain ⟨a2, _, f1, _, _, w1⟩ := S.slot i _ g1
        obtain ⟨b2, _, f2, _, _, w2⟩ := S.slot j _ g2
        rw [ea] at f1
        rw [e2] at f2
        cases f1
        cases f2
        rw [e] at w1
        rw [w1] at w2
        exact hij (Sum.inl.inj (Option.some.inj w2))
      have g3 : (ρ.set j (.own (.lst ys)))[i]? = some (.own (.lst ds)) := by
        rw [List.getElem?_set_ne (Ne.symm hij)]
        exact g1
      have S3 := S2.change (c' := .lst (ds ++ [y])) (o := .lst (xs1 ++ [v])) g3 ea ⟨_, rfl, r1.append (.cons rv .nil)⟩
      refine ⟨a, xs1, v, rfl, rfl, ?_, by rw [← r1.len]; exact hl, ?_⟩
      · show upd H b (.lst ((v :: vs).eraseIdx 0)) a = _
        rw [upd_ne hab]
        exact hH1
      · exact q z _ σ _ (Fz.le.refl _) S3
    · exact q.elim
  · exact q.elim
theorem sd_appPop {i l r : Nat} {st : Stmt} {c : Expr} {dc : Den Bool} (hil : i ≠ l) (hir : i ≠ r) (hc : PT X c (tX X.K X.mg RW dc pTest))
    (h : ∀ {tc : TT}, PT X c tc → PS X st (tDrop (tBM X.K "list" rAppend (tVar i) (tCons (tIf tc (tBM X.K "list" rPopAt (tVar l) (tCons (tC (.int 0)) tNil)) (tBM X.K "list" rPopAt (tVar r) (tCons (tC (.int 0)) tNil))) tNil)))) :
    PS X st (tB X.K X.mg RW (appPopS i l r dc)) := PS.imp (h hc) fun D σ H ⟨B, F0, z, ow, ρ, m, S, q⟩ => by
  unfold appPopS at q
  split at q
  · rename_i ds hs
    obtain ⟨hg, a, o, e3, hH, xs, rfl, rx⟩ := slot_own S hs
    refine ⟨.ref a, e3, .inl ⟨rfl, _, SqL.of hH⟩, B, F0, z, ow, ρ, m, S, Rem.stepS q fun cv m1 B1 z1 ow1 v H1 hB hz S1 pv q1 => ?_⟩
    cases (show v = cv from pv)
    cases cv with
    | true => exact iteT (pop_step hil (S1.weak hB) e3 q1)
    | false => exact iteF (pop_step hir (S1.weak hB) e3 q1)
  · exact q.elim
/-! ### a list or a tuple, gone through -/
def asSeq : D → Res (List D)
  | .lst xs => .ok xs
  | .tup xs => .ok xs
  | _ => .bad
theorem it_seq {e tg : Expr} {da : Den D} (h : PE X e (tX X.K X.mg RW da (pVal X.K X.mg))) : PI X tg e (tX X.K X.mg RW (dIt asSeq da) (pIt X.K X.mg)) := ⟨fun pins s σ H R I ⟨B, F0, z, ow, ρ, m, S, q⟩ => by
  unfold dIt at q
  cases hd : da ρ m with
  | bad => rw [hd] at q; exact q.elim
  | err x m' =>
    rw [hd] at q
    refine (it_list h).run pins s σ H R I ⟨B, F0, z, ow, ρ, m, S, ?_⟩
    unfold dIt
    rw [hd]
    exact q
  | ok r =>
    obtain ⟨d, m'⟩ := r
    rw [hd] at q
    cases d with
    | lst xs =>
      refine (it_list h).run pins s σ H R I ⟨B, F0, z, ow, ρ, m, S, ?_⟩
      unfold dIt
      rw [hd]
      exact q
    | tup xs =>
      refine (it_tup h).run pins s σ H R I ⟨B, F0, z, ow, ρ, m, S, ?_⟩
      unfold dIt
      rw [hd]
      exact q
    | _ => exact q.elim⟩
@[simp] theorem asSeq_lst (xs : List D) : asSeq (.lst xs) = .ok xs := byEq rfl
@[simp] theorem asSeq_tup (xs : List D) : asSeq (.tup xs) = .ok xs := byEq rfl
/-! ### recursion -/
theorem pss_none {ss : List Stmt} : PSs X ss (tB X.K X.mg RW fun _ _ => .bad) := ⟨fun pins s σ H D I ⟨B, F0, z, ow, ρ, m, S, q⟩ => q.elim⟩
end
end PD
/-! Mixes of two rows, level by level; counting in a tuple. -/
namespace PD
open PySem PySem.Spec PyProof.Rows L2
theorem mixF_len : ∀ a b : Nat, (mixF a b).length ≤ 2 ^ (a + b)
  | 0, 0 => by rw [mixF_00]; decide
  | 0, b + 1 => by
    rw [mixF_0s, List.length_map, show 0 + (b + 1) = (0 + b) + 1 by omega, Nat.pow_succ]
    have := mixF_len 0 b
    omega
  | a + 1, 0 => by
    rw [mixF_s0, List.length_map, show a + 1 + 0 = (a + 0) + 1 by omega, Nat.pow_succ]
    have h : (mixF a 0).length ≤ 2 ^ (a + 0) := mixF_len a 0
    have h : (mixF a 0).length ≤ 2 ^ a := h
    show (mixF a 0).length ≤ 2 ^ a * 2
    omega
  | a + 1, b + 1 => by
    rw [mixF_ss, List.length_append, List.length_map, List.length_map]
    have h1 := mixF_len a (b + 1)
    have h2 := mixF_len (a + 1) b
    rw [show a + 1 + b = a + (b + 1) by omega] at h2
    rw [show a + 1 + (b + 1) = (a + (b + 1)) + 1 by omega, Nat.pow_succ]
    omega
/-- one wagon more -/
def moreM (a b : Nat) (r : List Nat) : List (List Nat) := (if r.count 0 < a then [r ++ [0]] else []) ++ (if r.count 1 < b then [r ++ [1]] else [])
def iterM (a b : Nat) : Nat → List (List Nat) → List (List Nat)
  | 0, l => l
  | k + 1, l => iterM a b k (l.map (moreM a b)).flatten
theorem iterM_app (a b : Nat) : ∀ (k : Nat) (l l' : List (List Nat)), iterM a b k (l ++ l') = iterM a b k l ++ iterM a b k l'
  | 0, _, _ => rfl
  | k + 1, l, l' => by rw [iterM, iterM, iterM, List.map_append, List.flatten_append, iterM_app a b k]
theorem iterM_one (a b : Nat) : ∀ (k p q : Nat) (r : List Nat), r.count 0 + p = a → r.count 1 + q = b → p + q = k → iterM a b k [r] = (mixF p q).map (r ++ ·)
  | 0, p, q, r, h1, h2, h3 => by
    have : p = 0 := by omega
    have : q = 0 := by omega
    subst p q
    rw [iterM, mixF_00, List.map_cons, List.map_nil, List.append_nil]
  | k + 1, p, q, r, h1, h2, h3 => by
    have c0 : (r ++ [0]).count 0 = r.count 0 + 1 := by rw [List.count_append]; rfl
    have c01 : (r ++ [0]).count 1 = r.count 1 := by rw [List.count_append]; rfl
    have c1 : (r ++ [1]).count 1 = r.count 1 + 1 := by rw [List.count_append]; rfl
    have c10 : (r ++ [1]).count 0 = r.count 0 := by rw [List.count_append]; rfl
    have cons0 : ∀ l : List (List Nat), l.map ((r ++ [0]) ++ ·) = (l.map (0 :: ·)).map (r ++ ·) := fun l => by
      rw [List.map_map]
      exact List.map_congr_left fun x _ => by show (r ++ [0]) ++ x = r ++ (0 :: x); rw [List.append_assoc]; rfl
    have cons1 : ∀ l : List (List Nat), l.map ((r ++ [1]) ++ ·) = (l.map (1 :: ·)).map (r ++ ·) := fun l => by
      rw [List.map_map]
      exact List.map_congr_left fun x _ => by show (r ++ [1]) ++ x = r ++ (1 :: x); rw [List.append_assoc]; rfl
    rw [iterM, List.map_cons, List.map_nil, List.flatten_cons, List.flatten_nil, List.append_nil]
    unfold moreM
    cases p with
    | zero =>
      cases q with
      | zero => omega
      | succ q =>
        rw [if_neg (by omega), if_pos (by omega), List.nil_append, iterM_one a b k 0 q _ (by omega) (by omega) (by omega), mixF_0s, cons1]
    | succ p =>
      cases q with
      | zero => rw [if_pos (by omega), if_neg (by omega), List.append_nil, iterM_one a b k p 0 _ (by omega) (by omega) (by omega), mixF_s0, cons0]
      | succ q =>
        rw [if_pos (by omega), if_pos (by omega), iterM_app, iterM_one a b k p (q + 1) _ (by omega) (by omega) (by omega), iterM_one a b k (p + 1) q _ (by omega) (by omega) (by omega), mixF_ss, List.map_append, cons0, cons1]
theorem iterM_mix (a b : Nat) : iterM a b (a + b) [[]] = mixF a b := by
  rw [iterM_one a b (a + b) a b [] (by simp) (by simp) rfl]
  exact List.map_id' _
theorem iterM_snoc (a b : Nat) : ∀ (k : Nat) (l : List (List Nat)), iterM a b (k + 1) l = ((iterM a b k l).map (moreM a b)).flatten
  | 0, l => rfl
  | k + 1, l => by rw [iterM, iterM_snoc a b k]; rfl
theorem moreM_len (a b : Nat) (r : List Nat) : (moreM a b r).length ≤ 2 := by
  unfold moreM
  rw [List.length_append]
  split <;> split <;> simp
theorem iterM_len (a b : Nat) : ∀ (k : Nat), (iterM a b k [[]]).length ≤ 2 ^ k
  | 0 => Nat.le_refl _
  | k + 1 => by
    rw [iterM_snoc, Nat.pow_succ]
    refine Nat.le_trans (flat_le 2 _ fun x hx => ?_) (by rw [List.length_map]; exact Nat.mul_le_mul_right _ (iterM_len a b k))
    obtain ⟨r, _, rfl⟩ := List.mem_map.mp hx
    exact moreM_len a b r
theorem iterM_each (a b : Nat) : ∀ (k : Nat), ∀ r ∈ iterM a b k [[]], r.length = k
  | 0, r, h => by rw [iterM, List.mem_singleton] at h; rw [h]; rfl
  | k + 1, r, h => by
    rw [iterM_snoc, List.mem_flatten] at h
    obtain ⟨l, h1, h2⟩ := h
    obtain ⟨s, h3, rfl⟩ := List.mem_map.mp h1
    have := iterM_each a b k s h3
    unfold moreM at h2
    rcases List.mem_append.mp h2 with h2 | h2
    · split at h2
      · rw [List.mem_singleton] at h2
        rw [h2, List.length_append, this]
        rfl
      · cases h2
    · split at h2
      · rw [List.mem_singleton] at h2
        rw [h2, List.length_append, this]
        rfl
      · cases h2
theorem countP_nat (x : Nat) : ∀ l : List Nat, (D.pys (l.map nD)).countP (fun z => PyData.eqv z (nD x).py) = l.count x
  | [] => rfl
  | y :: l => by
    have ih := countP_nat x l
    rw [List.map_cons, show D.pys (nD y :: l.map nD) = (nD y).py :: D.pys (l.map nD) from by simp only [D.pys], List.countP_cons, ih, enc_int.eqv, List.count_cons]
    by_cases e : y = x
    · subst e
      simp
    · have : ¬ ((y : Int) = (x : Int)) := by omega
      simp [this, e]
theorem countD_nat (x : Nat) (l : List Nat) : countD (.etp (l.map nD)) [nD x] = .ok (.int ((l.count x : Nat) : Int)) := by
  have e : l.map nD = (l.map fun (k : Nat) => (k : Int)).map D.int := by rw [List.map_map]; rfl
  have h1 : (D.etp (l.map nD)).okp = true := by rw [e]; exact enc_int.tup.ok (by decide) _
  have h2 : (nD x).okp = true := enc_int.ok (by decide) x
  show (if ((nD x).okp && (D.etp (l.map nD)).okp) = true then Res.ok (D.int (((D.pys (l.map nD)).countP fun z => PyData.eqv z (nD x).py : Nat) : Int)) else .bad) = _
  rw [h1, h2, countP_nat]
  rfl
section
variable {ρ : List Slot} {m : List Ob}
theorem thenS_er {a b : SDen} {x : Exn} {ρ' : List Slot} {m' : List Ob} (h : a ρ m = .er x ρ' m') : thenS a b ρ m = .er x ρ' m' := by unfold thenS; rw [h]
theorem appPop_ok {i l r : Nat} {dc : Den Bool} {c : Bool} {m' : List Ob} {ds ys : List D} {y : D} (h1 : PD.slotAt ρ i = .own (.lst ds)) (h2 : dc ρ m = .ok (c, m')) (h3 : PD.slotAt ρ (if c = true then l else r) = .own (.lst (y :: ys))) (h4 : ds.length < 16777216) :
    appPopS i l r dc ρ m = .nx ((ρ.set (if c = true then l else r) (.own (.lst ys))).set i (.own (.lst (ds ++ [y])))) m' := by
  unfold appPopS
  rw [h1]
  show bindS (dc ρ m) ρ _ = _
  rw [h2]
  cases c with
  | true =>
    show popTo i l ρ m' = _
    unfold popTo
    rw [h1, show PD.slotAt ρ l = .own (.lst (y :: ys)) from h3]
    exact if_pos (by rw [szl_eq]; exact h4)
  | false =>
    show popTo i r ρ m' = _
    unfold popTo
    rw [h1, show PD.slotAt ρ r = .own (.lst (y :: ys)) from h3]
    exact if_pos (by rw [szl_eq]; exact h4)
end
end PD
namespace L_k16
open PySem PySem.Spec PyProof.Rows L2 PD
def top (i : Nat) : Stmt := PySem.Challenge.pw_pullouts_k16_whole_mixes_of_two_rows.main.body.getD i (.Pass ⟨0, 0, 0, 0⟩)
abbrev As : List Str := ["BadGroups", "BadRow", "BadPulls", "BadTracks", "TooLarge", "BadMix"]
abbrev Bs : List Str := ["BadMix", "TooLarge"]
abbrev Cs : List Str := []
structure Txt (K : PySem.W.Frag) (mg : Str → Option Value) (base : Heap) : Prop where
  tab : TabK K mg base "_law_levels"
  b_max : mg "max" = none
  b_int : mg "int" = none
  b_len : mg "len" = none
  b_isinstance : mg "isinstance" = none
  b_bool : mg "bool" = none
  b_tuple : mg "tuple" = none
  b_sorted : mg "sorted" = none
  b_set : mg "set" = none
  b_enumerate : mg "enumerate" = none
  b_sum : mg "sum" = none
  b_range : mg "range" = none
  b_list : mg "list" = none
  g_MOST_WAGONS : ∃ t, mg "MOST_WAGONS" = some (.int 12 t)
  g_MOST_GROUP : ∃ t, mg "MOST_GROUP" = some (.int 11 t)
  g_MOST_TRACKS : ∃ t, mg "MOST_TRACKS" = some (.int 4 t)
  g_MOST_REACH : ∃ t, mg "MOST_REACH" = some (.int 200 t)
  g_MOST_MIXED : ∃ t, mg "MOST_MIXED" = some (.int 6 t)
  e_BadGroups : ExcK K mg "BadGroups"
  e_BadRow : ExcK K mg "BadRow"
  e_BadTracks : ExcK K mg "BadTracks"
  e_BadPulls : ExcK K mg "BadPulls"
  e_TooLarge : ExcK K mg "TooLarge"
  e_BadMix : ExcK K mg "BadMix"
  err : ErrK K mg As Bs
  f_is_integer : ∃ a fd, FunD K "is_integer" "is_integer" (defArgs (top 11)) (defBody (top 11)) (defScope (top 11)) [] [] a fd ∧ mg "is_integer" = some (.ref a) ∧ Binds K fd ["value"] []
  f_is_from : ∃ a fd, FunD K "is_from" "is_from" (defArgs (top 12)) (defBody (top 12)) (defScope (top 12)) [] [] a fd ∧ mg "is_from" = some (.ref a) ∧ Binds K fd ["value", "low", "high"] []
  f_check_row : ∃ a fd, FunD K "check_row" "check_row" (defArgs (top 14)) (defBody (top 14)) (defScope (top 14)) [] [] a fd ∧ mg "check_row" = some (.ref a) ∧ Binds K fd ["value"] []
  f_classes : ∃ a fd, FunD K "classes" "classes" (defArgs (top 15)) (defBody (top 15)) (defScope (top 15)) [] [] a fd ∧ mg "classes" = some (.ref a) ∧ Binds K fd ["groups"] []
  f_check_tracks : ∃ a fd, FunD K "check_tracks" "check_tracks" (defArgs (top 19)) (defBody (top 19)) (defScope (top 19)) [] [] a fd ∧ mg "check_tracks" = some (.ref a) ∧ Binds K fd ["value"] []
  f_longer_ends : ∃ a fd, FunD K "longer_ends" "longer_ends" (defArgs (top 20)) (defBody (top 20)) (defScope (top 20)) [] [] a fd ∧ mg "longer_ends" = some (.ref a) ∧ Binds K fd ["ends", "tracks"] []
  f_reach : ∃ a fd, FunD K "reach" "reach" (defArgs (top 21)) (defBody (top 21)) (defScope (top 21)) [] [] a fd ∧ mg "reach" = some (.ref a) ∧ Binds K fd ["h", "tracks"] []
  f_levels : ∃ a fd, FunD K "levels" "levels" (defArgs (top 23)) (defBody (top 23)) (defScope (top 23)) [] [] a fd ∧ mg "levels" = some (.ref a) ∧ Binds K fd ["groups"] []
  f_least_pulls : ∃ a fd, FunD K "least_pulls" "least_pulls" (defArgs (top 24)) (defBody (top 24)) (defScope (top 24)) [] [] a fd ∧ mg "least_pulls" = some (.ref a) ∧ Binds K fd ["groups", "tracks"] []
  f_mixes_of : ∃ a fd, FunD K "mixes_of" "mixes_of" (defArgs (top 27)) (defBody (top 27)) (defScope (top 27)) [] [] a fd ∧ mg "mixes_of" = some (.ref a) ∧ Binds K fd ["first", "second"] []
  f_groups_by : ∃ a fd, FunD K "groups_by" "groups_by" (defArgs (top 28)) (defBody (top 28)) (defScope (top 28)) [] [] a fd ∧ mg "groups_by" = some (.ref a) ∧ Binds K fd ["one", "other", "mix"] []
  f_mixed_rows : ∃ a fd, FunD K "mixed_rows" "mixed_rows" (defArgs (top 29)) (defBody (top 29)) (defScope (top 29)) [] [] a fd ∧ mg "mixed_rows" = some (.ref a) ∧ Binds K fd ["one", "other", "tracks"] []
  f_is_mix : ∃ a fd, FunD K "is_mix" "is_mix" (defArgs (top 30)) (defBody (top 30)) (defScope (top 30)) [] [] a fd ∧ mg "is_mix" = some (.ref a) ∧ Binds K fd ["value", "first", "second"] []
  f_mixed : ∃ a fd, FunD K "mixed" "mixed" (defArgs (top 31)) (defBody (top 31)) (defScope (top 31)) [] [] a fd ∧ mg "mixed" = some (.ref a) ∧ Binds K fd ["one", "other", "mix"] []
  f_law_mix : ∃ a fd, FunD K "_law_mix" "_law_mix" (defArgs (top 33)) (defBody (top 33)) (defScope (top 33)) [] [] a fd ∧ mg "_law_mix" = some (.ref a) ∧ Binds K fd ["_law_script", "_law_seed"] []
  f_law_next : ∃ a fd, FunD K "_law_next" "_law_next" (defArgs (top 34)) (defBody (top 34)) (defScope (top 34)) [] [] a fd ∧ mg "_law_next" = some (.ref a) ∧ Binds K fd ["_law_h", "_law_bound"] []
  f_law_groups : ∃ a fd, FunD K "_law_groups" "_law_groups" (defArgs (top 35)) (defBody (top 35)) (defScope (top 35)) [] [] a fd ∧ mg "_law_groups" = some (.ref a) ∧ Binds K fd ["_law_h", "_law_most"] []
  f_law_stops : ∃ a fd, FunD K "_law_stops" "_law_stops" (defArgs (top 36)) (defBody (top 36)) (defScope (top 36)) [] [] a fd ∧ mg "_law_stops" = some (.ref a) ∧ Binds K fd ["_law_code"] []
  f_law_fits : ∃ a fd, FunD K "_law_fits" "_law_fits" (defArgs (top 37)) (defBody (top 37)) (defScope (top 37)) [] [] a fd ∧ mg "_law_fits" = some (.ref a) ∧ Binds K fd ["_law_code", "_law_tracks"] []
  f_law_codes : ∃ a fd, FunD K "_law_codes" "_law_codes" (defArgs (top 38)) (defBody (top 38)) (defScope (top 38)) [] [] a fd ∧ mg "_law_codes" = some (.ref a) ∧ Binds K fd ["_law_h", "_law_tracks"] []
  f_law_ahead : ∃ a fd, FunD K "_law_ahead" "_law_ahead" (defArgs (top 39)) (defBody (top 39)) (defScope (top 39)) [] [] a fd ∧ mg "_law_ahead" = some (.ref a) ∧ Binds K fd ["_law_way", "_law_x", "_law_y"] []
  f_law_right : ∃ a fd, FunD K "_law_right" "_law_right" (defArgs (top 40)) (defBody (top 40)) (defScope (top 40)) [] [] a fd ∧ mg "_law_right" = some (.ref a) ∧ Binds K fd ["_law_groups_here", "_law_way"] []
  f_law_levels : ∃ a fd, FunD K "_law_levels" "_law_levels" (defArgs (top 41)) (defBody (top 41)) (defScope (top 41)) [] [] a fd ∧ mg "_law_levels" = some (.ref a) ∧ Binds K fd ["_law_groups_here"] []
  f_law_pulls : ∃ a fd, FunD K "_law_pulls" "_law_pulls" (defArgs (top 42)) (defBody (top 42)) (defScope (top 42)) [] [] a fd ∧ mg "_law_pulls" = some (.ref a) ∧ Binds K fd ["_law_groups_here", "_law_tracks"] []
  f_law_mixes : ∃ a fd, FunD K "_law_mixes" "_law_mixes" (defArgs (top 43)) (defBody (top 43)) (defScope (top 43)) [] [] a fd ∧ mg "_law_mixes" = some (.ref a) ∧ Binds K fd ["_law_first", "_law_second"] []
  f_law_come : ∃ a fd, FunD K "_law_come" "_law_come" (defArgs (top 44)) (defBody (top 44)) (defScope (top 44)) [] [] a fd ∧ mg "_law_come" = some (.ref a) ∧ Binds K fd ["_law_one", "_law_other", "_law_mix_here"] []
  f_law_told : ∃ a fd, FunD K "_law_told" "_law_told" (defArgs (top 45)) (defBody (top 45)) (defScope (top 45)) [] [] a fd ∧ mg "_law_told" = some (.ref a) ∧ Binds K fd ["_law_one", "_law_other", "_law_mix_here"] []
  f_law_large : ∃ a fd, FunD K "_law_large" "_law_large" (defArgs (top 46)) (defBody (top 46)) (defScope (top 46)) [] [] a fd ∧ mg "_law_large" = some (.ref a) ∧ Binds K fd ["_law_one", "_law_other"] []
  f_law : ∃ a fd, FunD K "law" "law" (defArgs (top 47)) (defBody (top 47)) (defScope (top 47)) [] [] a fd ∧ mg "law" = some (.ref a) ∧ Binds K fd ["_law_script"] []
  f_Row___init__ : ∃ fd, FunD K "__init__" "Row.__init__" (defArgs (inClass (top 13) 0)) (defBody (inClass (top 13) 0)) (defScope (inClass (top 13) 0)) [] [] (He.ma K (cA K "Row") "__init__") fd ∧ Binds K fd ["self", "groups"] []
  f_Row_groups : ∃ fd, FunD K "groups" "Row.groups" (defArgs (inClass (top 13) 1)) (defBody (inClass (top 13) 1)) (defScope (inClass (top 13) 1)) [] [] (gAd K "Row" "groups") fd ∧ Binds K fd ["self"] []
  f_Row___len__ : ∃ fd, FunD K "__len__" "Row.__len__" (defArgs (inClass (top 13) 2)) (defBody (inClass (top 13) 2)) (defScope (inClass (top 13) 2)) [] [] (He.ma K (cA K "Row") "__len__") fd ∧ Binds K fd ["self"] []
  f_Row___eq__ : ∃ fd, FunD K "__eq__" "Row.__eq__" (defArgs (inClass (top 13) 3)) (defBody (inClass (top 13) 3)) (defScope (inClass (top 13) 3)) [] [] (He.ma K (cA K "Row") "__eq__") fd ∧ Binds K fd ["self", "other"] []
  row : RowK K mg
  at_Row_held : AtrK K mg "Row" "held"
  mk_Row : Mk K (cA K "Row") (He.ma K (cA K "Row") "__init__")
  nf : nfB K = true
  m_Row___len__ : Meth K (cA K "Row") "__len__" (He.ma K (cA K "Row") "__len__")
  m_Row___eq__ : Meth K (cA K "Row") "__eq__" (He.ma K (cA K "Row") "__eq__")
  p_Row_groups : PropOf K (cA K "Row") "groups" (pAd K "Row" "groups") (gAd K "Row" "groups")
section
variable {P : Program} {w : World} {K : PySem.W.Frag} {mg : Str → Option Value} {base : Heap}
/-! ### is_integer -/
abbrev N_is_integer : List Str := ["value"]
theorem sc_is_integer : FnScope N_is_integer ["value"] (defScope (top 11)) := ⟨rfl, rfl, rfl, by decide +kernel, rfl, by decide +kernel, by decide +kernel⟩
def den_is_integer : FDen := fnD 1 0 (retS (dAnd (dUn (isiD .int) (dL 0)) (dNot (dUn (isiD .bool) (dL 0)))))
theorem ok_is_integer (T : Txt K mg base) : Fd P w K mg base "is_integer" 1 1 den_is_integer := by
  obtain ⟨a, fd, F, hm, hb⟩ := T.f_is_integer
  refine Fd.mk' F sc_is_integer hm hb rfl rfl fun cdv A outer s H E hr => ?_
  have tk := takes_of (X := cxOf (L2.CX P w) P w K mg base N_is_integer "is_integer" (defScope (top 11)) a cdv A outer s H E) rfl rfl rfl rfl
  exact (sd_one (sd_ret (pd_and (pd_isi (x := "int") .int (by decide) (by rfl) T.b_isinstance (by rfl) T.b_int (by decide +kernel) (pd_l (pv 0))) (pd_one (pd_not (pd_isi (x := "bool") .bool (by decide) (by rfl) T.b_isinstance (by rfl) T.b_bool (by decide +kernel) (pd_l (pv 0))))))))
/-! ### is_from -/
abbrev N_is_from : List Str := ["value", "low", "high"]
theorem sc_is_from : FnScope N_is_from ["value", "low", "high"] (defScope (top 12)) := ⟨rfl, rfl, rfl, by decide +kernel, rfl, by decide +kernel, by decide +kernel⟩
def den_is_from : FDen := fnD 3 0 (retS (dAnd (dCall den_is_integer (dCons (dV 0) dNil)) (dChain leD leD (dL 1) (dL 0) (dL 2))))
theorem ok_is_from (T : Txt K mg base) : Fd P w K mg base "is_from" 2 3 den_is_from := by
  obtain ⟨a, fd, F, hm, hb⟩ := T.f_is_from
  refine Fd.mk' F sc_is_from hm hb rfl rfl fun cdv A outer s H E hr => ?_
  have tk := takes_of (X := cxOf (L2.CX P w) P w K mg base N_is_from "is_from" (defScope (top 12)) a cdv A outer s H E) rfl rfl rfl rfl
  exact (sd_one (sd_ret (pd_and (pd_call (ok_is_integer T) (hr.mono (by decide)) tk (by rfl) (pad_cons (pd_v (pv 0)) pad_nil) (dlen_cons dlen_nil)) (pd_one (pd_chain op_le op_le le_r le_r (pd_l (pv 1)) (pd_l (pv 0)) (pd_l (pv 2)))))))
/-! ### Row.__init__ -/
abbrev N_Row___init__ : List Str := ["self", "groups", "group"]
theorem sc_Row___init__ : FnScope N_Row___init__ ["self", "groups"] (defScope (inClass (top 13) 0)) := ⟨rfl, rfl, rfl, by decide +kernel, rfl, by decide +kernel, by decide +kernel⟩
def den_Row___init__ : FDen := fnD 2 1 (thenS (ifS (dOrT (dNotT (dT (dUn (isiD .tup) (dL 1)))) (dNotT (dT (dChain leD leD (dC (.int 1)) (dCB (oneArg lenD) (dCons (dL 1) dNil)) (dC (.int 12)))))) (raiseS "BadGroups") skipS)
    (thenS (forS (dIt asTup (dV 1)) (tgN 2) (ifS (dNotT (dT (dCall den_is_from (dCons (dV 2) (dCons (dC (.int 0)) (dCons (dC (.int 11)) dNil)))))) (raiseS "BadGroups") skipS))
    (fldS "Row" 0 "held" (dV 1))))
theorem ok_Row___init__ (T : Txt K mg base) : Ff P w K mg base (He.ma K (cA K "Row") "__init__") 3 2 den_Row___init__ := by
  obtain ⟨fd, F, hb⟩ := T.f_Row___init__
  refine Ff.mk' F sc_Row___init__ hb rfl rfl fun cdv A outer s H E hr => ?_
  have tk := takes_of (X := cxOf (L2.CX P w) P w K mg base N_Row___init__ "Row.__init__" (defScope (inClass (top 13) 0)) (He.ma K (cA K "Row") "__init__") cdv A outer s H E) rfl rfl rfl rfl
  exact (sd_cons (sd_if (PW.pt (pwd_or (ptd_not (pt_bl (pd_isi (x := "tuple") .tup (by decide) (by rfl) T.b_isinstance (by rfl) T.b_tuple (by decide +kernel) (pd_l (pv 1))))) (pw_or1 (ptd_not (pt_chainD op_le op_le le_r le_r (val_look pd_int) (val_look (pd_callB call_len_seq len_r (by rfl) T.b_len (by decide +kernel) (pal_cons (pd_l (pv 1)) pal_nil))) (val_look (pd_gint rfl T.g_MOST_WAGONS))))))) (sd_one (sd_raise0 T.e_BadGroups rfl tk (by rfl))) sd_nil)
    (sd_cons (sd_for (passes_of rfl) rfl (it_tup (pd_v (pv 1))) (tg_name (i := 2) sc_Row___init__.nd rfl (.inl rfl)) (sd_one (sd_if (ptd_not (pt_bl (pd_call (ok_is_from T) (hr.mono (by decide)) tk (by rfl) (pad_cons (pd_v (pv 2)) (pad_cons pd_int (pad_cons (pd_gint rfl T.g_MOST_GROUP) pad_nil))) (dlen_cons (dlen_cons (dlen_cons dlen_nil)))))) (sd_one (sd_raise0 T.e_BadGroups rfl tk (by rfl))) sd_nil)))
    (sd_one (sd_fld T.at_Row_held (pv 0) (pd_v (pv 1))))))
theorem rowInit : RowInit den_Row___init__ := rowInit0
/-! ### Row.groups -/
abbrev N_Row_groups : List Str := ["self"]
theorem sc_Row_groups : FnScope N_Row_groups ["self"] (defScope (inClass (top 13) 1)) := ⟨rfl, rfl, rfl, by decide +kernel, rfl, by decide +kernel, by decide +kernel⟩
def den_Row_groups : FDen := fnD 1 0 (retS (dUn heldD (dL 0)))
theorem ok_Row_groups (T : Txt K mg base) : Ff P w K mg base (gAd K "Row" "groups") 1 1 den_Row_groups := by
  obtain ⟨fd, F, hb⟩ := T.f_Row_groups
  refine Ff.mk' F sc_Row_groups hb rfl rfl fun cdv A outer s H E hr => ?_
  have tk := takes_of (X := cxOf (L2.CX P w) P w K mg base N_Row_groups "Row.groups" (defScope (inClass (top 13) 1)) (gAd K "Row" "groups") cdv A outer s H E) rfl rfl rfl rfl
  exact (sd_one (sd_ret (pd_held T.row (pd_l (pv 0)))))
/-! ### Row.__len__ -/
abbrev N_Row___len__ : List Str := ["self"]
theorem sc_Row___len__ : FnScope N_Row___len__ ["self"] (defScope (inClass (top 13) 2)) := ⟨rfl, rfl, rfl, by decide +kernel, rfl, by decide +kernel, by decide +kernel⟩
def den_Row___len__ : FDen := fnD 1 0 (retS (dCB (oneArg lenD) (dCons (dUn heldD (dL 0)) dNil)))
theorem ok_Row___len__ (T : Txt K mg base) : Ff P w K mg base (He.ma K (cA K "Row") "__len__") 1 1 den_Row___len__ := by
  obtain ⟨fd, F, hb⟩ := T.f_Row___len__
  refine Ff.mk' F sc_Row___len__ hb rfl rfl fun cdv A outer s H E hr => ?_
  have tk := takes_of (X := cxOf (L2.CX P w) P w K mg base N_Row___len__ "Row.__len__" (defScope (inClass (top 13) 2)) (He.ma K (cA K "Row") "__len__") cdv A outer s H E) rfl rfl rfl rfl
  exact (sd_one (sd_ret (pd_callB call_len_seq len_r (by rfl) T.b_len (by decide +kernel) (pal_cons (val_look (pd_held T.row (pd_l (pv 0)))) pal_nil))))
/-! ### Row.__eq__ -/
abbrev N_Row___eq__ : List Str := ["self", "other"]
theorem sc_Row___eq__ : FnScope N_Row___eq__ ["self", "other"] (defScope (inClass (top 13) 3)) := ⟨rfl, rfl, rfl, by decide +kernel, rfl, by decide +kernel, by decide +kernel⟩
def den_Row___eq__ : FDen := fnD 2 0 (retS (dAnd (dUn isRowD (dL 1)) (dBin eqD (dUn heldD (dL 0)) (dUn heldD (dL 1)))))
theorem ok_Row___eq__ (T : Txt K mg base) : Ff P w K mg base (He.ma K (cA K "Row") "__eq__") 1 2 den_Row___eq__ := by
  obtain ⟨fd, F, hb⟩ := T.f_Row___eq__
  refine Ff.mk' F sc_Row___eq__ hb rfl rfl fun cdv A outer s H E hr => ?_
  have tk := takes_of (X := cxOf (L2.CX P w) P w K mg base N_Row___eq__ "Row.__eq__" (defScope (inClass (top 13) 3)) (He.ma K (cA K "Row") "__eq__") cdv A outer s H E) rfl rfl rfl rfl
  exact (sd_one (sd_ret (pd_and (pd_isRow T.row (by rfl) T.b_isinstance (by rfl) (pd_l (pv 1))) (pd_one (pd_cmp (op_eqD hr.units) eq_r (val_look (pd_held T.row (pd_l (pv 0)))) (val_look (pd_held T.row (pd_l (pv 1)))) (nomark _))))))
/-! ### check_row -/
abbrev N_check_row : List Str := ["value"]
theorem sc_check_row : FnScope N_check_row ["value"] (defScope (top 14)) := ⟨rfl, rfl, rfl, by decide +kernel, rfl, by decide +kernel, by decide +kernel⟩
def den_check_row : FDen := fnD 1 0 (ifS (dNotT (dT (dUn isRowD (dL 0)))) (raiseS "BadRow") skipS)
theorem ok_check_row (T : Txt K mg base) : Fd P w K mg base "check_row" 1 1 den_check_row := by
  obtain ⟨a, fd, F, hm, hb⟩ := T.f_check_row
  refine Fd.mk' F sc_check_row hm hb rfl rfl fun cdv A outer s H E hr => ?_
  have tk := takes_of (X := cxOf (L2.CX P w) P w K mg base N_check_row "check_row" (defScope (top 14)) a cdv A outer s H E) rfl rfl rfl rfl
  exact (sd_one (sd_if (ptd_not (pt_bl (pd_isRow T.row (by rfl) T.b_isinstance (by rfl) (pd_l (pv 0))))) (sd_one (sd_raise0 T.e_BadRow rfl tk (by rfl))) sd_nil))
/-! ### classes -/
abbrev N_classes : List Str := ["groups", "found", "group", "wagon", "own"]
theorem sc_classes : FnScope N_classes ["groups"] (defScope (top 15)) := ⟨rfl, rfl, rfl, by decide +kernel, rfl, by decide +kernel, by decide +kernel⟩
def den_classes : FDen := fnD 1 4 (thenS (setN 1 (dLst dNil))
    (thenS (forS (dIt asList (dN2V (dUnN sortedSetN (dL 0)))) (tgN 2) (appS 1 (dCons (dN2V (dComp (dEnumT (dV 0)) [3, 4] (tgT [3, 4]) (dT (dBin eqD (dL 4) (dL 2))) (dV 3))) dNil)))
    (freezeS 1 (retS (dV 1)))))
theorem ok_classes (T : Txt K mg base) : Fd P w K mg base "classes" 1 1 den_classes := by
  obtain ⟨a, fd, F, hm, hb⟩ := T.f_classes
  refine Fd.mk' F sc_classes hm hb rfl rfl fun cdv A outer s H E hr => ?_
  have tk := takes_of (X := cxOf (L2.CX P w) P w K mg base N_classes "classes" (defScope (top 15)) a cdv A outer s H E) rfl rfl rfl rfl
  exact (sd_cons (sd_setN (i := 1) sc_classes.nd rfl (.inl rfl) (pd_lst pad_nil))
    (sd_cons (sd_for (passes_of rfl) rfl (it_list (new_val (pd_sortedSet rfl (by rfl) T.b_sorted (by rfl) T.b_set (pd_l (pv 0))))) (tg_name (i := 2) sc_classes.nd rfl (.inr rfl)) (sd_one (sd_append (pv 1) (pad_cons (new_val (pd_comp (own := [("wagon", 3), ("own", 4)]) (vs := [3, 4]) rfl sc_classes.nd (it_enumT (by rfl) T.b_enumerate (pd_v (pv 0))) rfl (blkOk_by (own := [("wagon", 3), ("own", 4)]) (N := N_classes) (sc := defScope (top 15)) (by decide +kernel)) (tgok_t [3, 4]) (fun _ _ _ _ _ => (tg_tup (is := [3, 4]) rfl (pgs_cons (pg_name (i := 3) sc_classes.nd rfl (.inl rfl)) (pgs_cons (pg_name (i := 4) sc_classes.nd rfl (.inl rfl)) pgs_nil)))) (fun _ _ _ _ _ => (ptsd_one (pt_cmpD (op_eqD hr.units) eq_r (pd_l (pv 4)) (pd_l (pv 2)) (nomark _)))) (fun _ _ _ _ _ => (pd_v (pv 3))))) pad_nil) (fun _ _ a b => ps_expr (pe_bm PySem.F.plainAttrs_list PySem.F.slot_list_append PySem.F.type_list_append mt_append a b)))))
    (sd_freeze (i := 1) (sd_one (sd_ret (pd_v (pv 1)))))))
/-! ### check_tracks -/
abbrev N_check_tracks : List Str := ["value"]
theorem sc_check_tracks : FnScope N_check_tracks ["value"] (defScope (top 19)) := ⟨rfl, rfl, rfl, by decide +kernel, rfl, by decide +kernel, by decide +kernel⟩
def den_check_tracks : FDen := fnD 1 0 (ifS (dNotT (dT (dCall den_is_from (dCons (dV 0) (dCons (dC (.int 1)) (dCons (dC (.int 4)) dNil)))))) (raiseS "BadTracks") skipS)
theorem ok_check_tracks (T : Txt K mg base) : Fd P w K mg base "check_tracks" 3 1 den_check_tracks := by
  obtain ⟨a, fd, F, hm, hb⟩ := T.f_check_tracks
  refine Fd.mk' F sc_check_tracks hm hb rfl rfl fun cdv A outer s H E hr => ?_
  have tk := takes_of (X := cxOf (L2.CX P w) P w K mg base N_check_tracks "check_tracks" (defScope (top 19)) a cdv A outer s H E) rfl rfl rfl rfl
  exact (sd_one (sd_if (ptd_not (pt_bl (pd_call (ok_is_from T) (hr.mono (by decide)) tk (by rfl) (pad_cons (pd_v (pv 0)) (pad_cons pd_int (pad_cons (pd_gint rfl T.g_MOST_TRACKS) pad_nil))) (dlen_cons (dlen_cons (dlen_cons dlen_nil)))))) (sd_one (sd_raise0 T.e_BadTracks rfl tk (by rfl))) sd_nil))
/-! ### longer_ends -/
abbrev N_longer_ends : List Str := ["ends", "tracks"]
theorem sc_longer_ends : FnScope N_longer_ends ["ends", "tracks"] (defScope (top 20)) := ⟨rfl, rfl, rfl, by decide +kernel, rfl, by decide +kernel, by decide +kernel⟩
def den_longer_ends : FDen := fnD 2 0 (retS (dN2V (dBinN catN (dL 0) (dN2V (dLst (dCons (dCB (oneArg sumD) (dCons (dN2V (dSl slN (dL 0) (dPart (dUn negD (dL 1))) dNoPart)) dNil)) dNil))))))
theorem ok_longer_ends (T : Txt K mg base) : Fd P w K mg base "longer_ends" 1 2 den_longer_ends := by
  obtain ⟨a, fd, F, hm, hb⟩ := T.f_longer_ends
  refine Fd.mk' F sc_longer_ends hm hb rfl rfl fun cdv A outer s H E hr => ?_
  have tk := takes_of (X := cxOf (L2.CX P w) P w K mg base N_longer_ends "longer_ends" (defScope (top 20)) a cdv A outer s H E) rfl rfl rfl rfl
  exact (sd_one (sd_ret (new_val (pd_opN op_cat cat_r (pd_l (pv 0)) (new_look (pd_lst (pad_cons (pd_callB (cr_sum rfl) sum_r (by rfl) T.b_sum (by decide +kernel) (pal_cons (new_look (pd_slN (pd_l (pv 0)) (pod_some (val_look (pd_neg (pd_l (pv 1))))) pod_none)) pal_nil)) pad_nil)))))))
/-! ### reach -/
abbrev N_reach : List Str := ["h", "tracks", "ends", "turn"]
theorem sc_reach : FnScope N_reach ["h", "tracks"] (defScope (top 21)) := ⟨rfl, rfl, rfl, by decide +kernel, rfl, by decide +kernel, by decide +kernel⟩
def den_reach : FDen := fnD 2 2 (thenS (ifS (dNotT (dT (dCall den_is_from (dCons (dV 0) (dCons (dC (.int 0)) (dCons (dC (.int 200)) dNil)))))) (raiseS "BadPulls") skipS)
    (thenS (exprS (dCall den_check_tracks (dCons (dV 1) dNil)))
    (thenS (setS 2 (dN2V (dLst (dCons (dC (.int 1)) dNil))))
    (thenS (forS (dRng rng1 (dCons (dL 0) dNil)) (tgN 3) (setS 2 (dCall den_longer_ends (dCons (dV 2) (dCons (dV 1) dNil)))))
    (retS (dCB (oneArg sumD) (dCons (dL 2) dNil)))))))
theorem ok_reach (T : Txt K mg base) : Fd P w K mg base "reach" 4 2 den_reach := by
  obtain ⟨a, fd, F, hm, hb⟩ := T.f_reach
  refine Fd.mk' F sc_reach hm hb rfl rfl fun cdv A outer s H E hr => ?_
  have tk := takes_of (X := cxOf (L2.CX P w) P w K mg base N_reach "reach" (defScope (top 21)) a cdv A outer s H E) rfl rfl rfl rfl
  exact (sd_cons (sd_if (ptd_not (pt_bl (pd_call (ok_is_from T) (hr.mono (by decide)) tk (by rfl) (pad_cons (pd_v (pv 0)) (pad_cons pd_int (pad_cons (pd_gint rfl T.g_MOST_REACH) pad_nil))) (dlen_cons (dlen_cons (dlen_cons dlen_nil)))))) (sd_one (sd_raise0 T.e_BadPulls rfl tk (by rfl))) sd_nil)
    (sd_cons (sd_expr (pd_call (ok_check_tracks T) (hr.mono (by decide)) tk (by rfl) (pad_cons (pd_v (pv 1)) pad_nil) (dlen_cons dlen_nil)))
    (sd_cons (sd_set (i := 2) sc_reach.nd rfl (.inl rfl) (new_val (pd_lst (pad_cons pd_int pad_nil))))
    (sd_cons (sd_for (passes_of rfl) rfl (it_rng1 (by rfl) T.b_range (pal_cons (pd_l (pv 0)) pal_nil)) (tg_name (i := 3) sc_reach.nd rfl (.inl rfl)) (sd_one (sd_set (i := 2) sc_reach.nd rfl (.inl rfl) (pd_call (ok_longer_ends T) (hr.mono (by decide)) tk (by rfl) (pad_cons (pd_v (pv 2)) (pad_cons (pd_v (pv 1)) pad_nil)) (dlen_cons (dlen_cons dlen_nil))))))
    (sd_one (sd_ret (pd_callB (cr_sum rfl) sum_r (by rfl) T.b_sum (by decide +kernel) (pal_cons (pd_l (pv 2)) pal_nil))))))))
/-! ### levels -/
abbrev N_levels : List Str := ["groups", "found", "level", "last", "wagons", "wagon", "most", "ends"]
theorem sc_levels : FnScope N_levels ["groups"] (defScope (top 23)) := ⟨rfl, rfl, rfl, by decide +kernel, rfl, by decide +kernel, by decide +kernel⟩
def den_levels : FDen := fnD 1 7 (thenS (setN 1 (dBinN repN (dN2V (dLst (dCons (dC (.int 0)) dNil))) (dCB (oneArg lenD) (dCons (dL 0) dNil))))
    (thenS (parS [2, 3] (dCons (dItV (dC (.int 0))) (dCons (dItV (dUn negD (dC (.int 1)))) dNil)))
    (thenS (forS (dIt asList (dCall den_classes (dCons (dV 0) dNil))) (tgN 4) (thenS (forS (dIt asList (dV 4)) (tgN 5) (isetS 1 (dL 5) (dBin addD (dL 2) (dCB (oneArg intD) (dCons (dBin ltD (dL 5) (dL 3)) dNil)))))
    (thenS (setS 6 (dCB (oneArg maxLD) (dCons (dN2V (dComp (dIt asList (dV 4)) [5] (tgN 5) dYes (dBin ixD (dL 1) (dL 5)))) dNil)))
    (thenS (setN 7 (dComp (dIt asList (dV 4)) [5] (tgN 5) (dT (dBin eqD (dBin ixD (dL 1) (dL 5)) (dL 6))) (dV 5)))
    (ifS (dT (dBin gtD (dL 6) (dL 2))) (parS [2, 3] (dCons (dItV (dV 6)) (dCons (dItV (dBin ixD (dL 7) (dUn negD (dC (.int 1))))) dNil))) (setS 3 (dCB (twoArg max2D) (dCons (dL 3) (dCons (dBin ixD (dL 7) (dUn negD (dC (.int 1)))) dNil)))))))))
    (freezeS 1 (retS (dV 1))))))
theorem ok_levels (T : Txt K mg base) : Fd P w K mg base "levels" 2 1 den_levels := by
  obtain ⟨a, fd, F, hm, hb⟩ := T.f_levels
  refine Fd.mk' F sc_levels hm hb rfl rfl fun cdv A outer s H E hr => ?_
  have tk := takes_of (X := cxOf (L2.CX P w) P w K mg base N_levels "levels" (defScope (top 23)) a cdv A outer s H E) rfl rfl rfl rfl
  exact (sd_cons (sd_setN (i := 1) sc_levels.nd rfl (.inr rfl) (pd_opN op_rep rep_r (new_look (pd_lst (pad_cons pd_int pad_nil))) (val_look (pd_callB call_len_seq len_r (by rfl) T.b_len (by decide +kernel) (pal_cons (pd_l (pv 0)) pal_nil)))))
    (sd_cons (sd_parT (is := [2, 3]) (pai_consV pd_int (pai_consV (pd_neg (val_look pd_int)) pai_nil)) rfl (pgs_cons (pg_name (i := 2) sc_levels.nd rfl (.inl rfl)) (pgs_cons (pg_name (i := 3) sc_levels.nd rfl (.inl rfl)) pgs_nil)) (fun _ _ a b => ps_asg a b))
    (sd_cons (sd_for (passes_of rfl) rfl (it_list (pd_call (ok_classes T) (hr.mono (by decide)) tk (by rfl) (pad_cons (pd_v (pv 0)) pad_nil) (dlen_cons dlen_nil))) (tg_name (i := 4) sc_levels.nd rfl (.inl rfl)) (sd_cons (sd_for (passes_of rfl) rfl (it_list (pd_v (pv 4))) (tg_name (i := 5) sc_levels.nd rfl (.inl rfl)) (sd_one (sd_iset (pv 1) (pd_l (pv 5)) (pd_op op_addX add_r (pd_l (pv 2)) (val_look (pd_callTy call_int1 int_r (by rfl) T.b_int (by decide +kernel) (pal_cons (val_look (pd_cmp op_lt lt_r (pd_l (pv 5)) (pd_l (pv 3)) (nomark _))) pal_nil)))))))
    (sd_cons (sd_set (i := 6) sc_levels.nd rfl (.inr rfl) (pd_callB (cr_max rfl) maxL_r (by rfl) T.b_max (by decide +kernel) (pal_cons (new_look (pd_comp (own := [("wagon", 5)]) (vs := [5]) rfl sc_levels.nd (it_list (pd_v (pv 4))) rfl (blkOk_by (own := [("wagon", 5)]) (N := N_levels) (sc := defScope (top 23)) (by decide +kernel)) (tgok_n 5) (fun _ _ _ _ _ => (tg_name (i := 5) sc_levels.nd rfl (.inl rfl))) (fun _ _ _ _ _ => ptsd_nil) (fun _ _ _ _ _ => (pd_ix (pd_l (pv 1)) (pd_l (pv 5)))))) pal_nil)))
    (sd_cons (sd_setC (i := 7) (own := [("wagon", 5)]) (vs := [5]) rfl sc_levels.nd rfl rfl (sw_true rfl rfl rfl (by decide +kernel)) (it_list (pd_v (pv 4))) rfl (blkOk_by (own := [("wagon", 5)]) (N := N_levels) (sc := defScope (top 23)) (by decide +kernel)) (tgok_n 5) (fun _ _ _ _ _ => (tg_name (i := 5) sc_levels.nd rfl (.inl rfl))) (fun _ _ _ _ _ => (ptsd_one (pt_cmpD (op_eqD hr.units) eq_r (val_look (pd_ix (pd_l (pv 1)) (pd_l (pv 5)))) (pd_l (pv 6)) (nomark _)))) (fun _ _ _ _ _ => (pd_v (pv 5))))
    (sd_one (sd_if (pt_cmpD op_gt gt_r (pd_l (pv 6)) (pd_l (pv 2)) (nomark _)) (sd_one (sd_par2 (i := 2) (j := 3) rfl sc_levels.nd rfl rfl (by decide) rfl rfl (pai_consV (pd_v (pv 6)) (pai_consV (pd_ix (pd_l (pv 7)) (val_look (pd_neg (val_look pd_int)))) pai_nil)) (by rfl))) (sd_one (sd_set (i := 3) sc_levels.nd rfl (.inl rfl) (pd_callB (call_max2 rfl) max2_r (by rfl) T.b_max (by decide +kernel) (pal_cons (pd_l (pv 3)) (pal_cons (val_look (pd_ix (pd_l (pv 7)) (val_look (pd_neg (val_look pd_int))))) pal_nil)))))))))))
    (sd_freeze (i := 1) (sd_one (sd_ret (pd_v (pv 1))))))))
/-! ### least_pulls -/
abbrev N_least_pulls : List Str := ["groups", "tracks", "most", "h"]
theorem sc_least_pulls : FnScope N_least_pulls ["groups", "tracks"] (defScope (top 24)) := ⟨rfl, rfl, rfl, by decide +kernel, rfl, by decide +kernel, by decide +kernel⟩
def den_least_pulls : FDen := fnD 2 2 (thenS (setS 2 (dBin addD (dCB (oneArg maxLD) (dCons (dCall den_levels (dCons (dV 0) dNil)) dNil)) (dC (.int 1))))
    (thenS (setS 3 (dC (.int 0)))
    (thenS (whileS (dT (dBin ltD (dCall den_reach (dCons (dV 3) (dCons (dV 1) dNil))) (dL 2))) (augS 3 ipAddD (dC (.int 1))) 100000)
    (retS (dV 3)))))
theorem ok_least_pulls (T : Txt K mg base) : Fd P w K mg base "least_pulls" 5 2 den_least_pulls := by
  obtain ⟨a, fd, F, hm, hb⟩ := T.f_least_pulls
  refine Fd.mk' F sc_least_pulls hm hb rfl rfl fun cdv A outer s H E hr => ?_
  have tk := takes_of (X := cxOf (L2.CX P w) P w K mg base N_least_pulls "least_pulls" (defScope (top 24)) a cdv A outer s H E) rfl rfl rfl rfl
  exact (sd_cons (sd_set (i := 2) sc_least_pulls.nd rfl (.inl rfl) (pd_op op_addX add_r (val_look (pd_callB (cr_max rfl) maxL_r (by rfl) T.b_max (by decide +kernel) (pal_cons (val_look (pd_call (ok_levels T) (hr.mono (by decide)) tk (by rfl) (pad_cons (pd_v (pv 0)) pad_nil) (dlen_cons dlen_nil))) pal_nil))) (val_look pd_int)))
    (sd_cons (sd_set (i := 3) sc_least_pulls.nd rfl (.inl rfl) pd_int)
    (sd_cons (sd_while 100000 (passes_of rfl) (pt_cmpD op_lt lt_r (val_look (pd_call (ok_reach T) (hr.mono (by decide)) tk (by rfl) (pad_cons (pd_v (pv 3)) (pad_cons (pd_v (pv 1)) pad_nil)) (dlen_cons (dlen_cons dlen_nil)))) (pd_l (pv 2)) (nomark _)) (sd_one (sd_aug (i := 3) sc_least_pulls.nd rfl (.inl rfl) (val_look pd_int) ip_add ipadd_r)))
    (sd_one (sd_ret (pd_v (pv 3)))))))
/-! ### mixes_of -/
abbrev N_mixes_of : List Str := ["first", "second", "found", "turn", "longer", "some"]
theorem sc_mixes_of : FnScope N_mixes_of ["first", "second"] (defScope (top 27)) := ⟨rfl, rfl, rfl, by decide +kernel, rfl, by decide +kernel, by decide +kernel⟩
def den_mixes_of : FDen := fnD 2 4 (thenS (setS 2 (dN2V (dLst (dCons (dTupE dNil) dNil))))
    (thenS (forS (dRng rng1 (dCons (dBin addD (dL 0) (dL 1)) dNil)) (tgN 3) (thenS (setN 4 (dLst dNil))
    (thenS (forS (dIt asList (dV 2)) (tgN 5) (thenS (ifS (dT (dBin ltD (dMethE countD (dL 5) (dCons (dC (.int 0)) dNil)) (dL 0))) (appS 4 (dCons (dBin catE (dL 5) (dTupE (dCons (dC (.int 0)) dNil))) dNil)) skipS)
    (ifS (dT (dBin ltD (dMethE countD (dL 5) (dCons (dC (.int 1)) dNil)) (dL 1))) (appS 4 (dCons (dBin catE (dL 5) (dTupE (dCons (dC (.int 1)) dNil))) dNil)) skipS)))
    (freezeS 4 (setS 2 (dV 4))))))
    (retS (dV 2))))
theorem ok_mixes_of (T : Txt K mg base) : Fd P w K mg base "mixes_of" 1 2 den_mixes_of := by
  obtain ⟨a, fd, F, hm, hb⟩ := T.f_mixes_of
  refine Fd.mk' F sc_mixes_of hm hb rfl rfl fun cdv A outer s H E hr => ?_
  have tk := takes_of (X := cxOf (L2.CX P w) P w K mg base N_mixes_of "mixes_of" (defScope (top 27)) a cdv A outer s H E) rfl rfl rfl rfl
  exact (sd_cons (sd_set (i := 2) sc_mixes_of.nd rfl (.inl rfl) (new_val (pd_lst (pad_cons (pd_tupE pad_nil) pad_nil))))
    (sd_cons (sd_for (passes_of rfl) rfl (it_rng1 (by rfl) T.b_range (pal_cons (val_look (pd_op op_addX add_r (pd_l (pv 0)) (pd_l (pv 1)))) pal_nil)) (tg_name (i := 3) sc_mixes_of.nd rfl (.inl rfl)) (sd_cons (sd_setN (i := 4) sc_mixes_of.nd rfl (.inl rfl) (pd_lst pad_nil))
    (sd_cons (sd_for (passes_of rfl) rfl (it_list (pd_v (pv 2))) (tg_name (i := 5) sc_mixes_of.nd rfl (.inl rfl)) (sd_cons (sd_if (pt_cmpD op_lt lt_r (val_look (pd_methE PySem.F.slot_tuple_count PySem.F.type_tuple_count (mt_tcount (hu65 hr)) count_r (pd_l (pv 5)) (pal_cons (val_look pd_int) pal_nil))) (pd_l (pv 0)) (nomark _)) (sd_one (sd_append (pv 4) (pad_cons (pd_op op_catE catE_r (pd_l (pv 5)) (val_look (pd_tupE (pad_cons pd_int pad_nil)))) pad_nil) (fun _ _ a b => ps_expr (pe_bm PySem.F.plainAttrs_list PySem.F.slot_list_append PySem.F.type_list_append mt_append a b)))) sd_nil)
    (sd_one (sd_if (pt_cmpD op_lt lt_r (val_look (pd_methE PySem.F.slot_tuple_count PySem.F.type_tuple_count (mt_tcount (hu65 hr)) count_r (pd_l (pv 5)) (pal_cons (val_look pd_int) pal_nil))) (pd_l (pv 1)) (nomark _)) (sd_one (sd_append (pv 4) (pad_cons (pd_op op_catE catE_r (pd_l (pv 5)) (val_look (pd_tupE (pad_cons pd_int pad_nil)))) pad_nil) (fun _ _ a b => ps_expr (pe_bm PySem.F.plainAttrs_list PySem.F.slot_list_append PySem.F.type_list_append mt_append a b)))) sd_nil))))
    (sd_freeze (i := 4) (sd_one (sd_set (i := 2) sc_mixes_of.nd rfl (.inl rfl) (pd_v (pv 4))))))))
    (sd_one (sd_ret (pd_v (pv 2))))))
/-! ### groups_by -/
abbrev N_groups_by : List Str := ["one", "other", "mix", "places", "found", "which"]
theorem sc_groups_by : FnScope N_groups_by ["one", "other", "mix"] (defScope (top 28)) := ⟨rfl, rfl, rfl, by decide +kernel, rfl, by decide +kernel, by decide +kernel⟩
def den_groups_by : FDen := fnD 3 3 (thenS (setN 3 (dLst (dCons (dC (.int 0)) (dCons (dC (.int 0)) dNil))))
    (thenS (setN 4 (dLst dNil))
    (thenS (forS (dIt asTup (dV 2)) (tgN 5) (thenS (appS 4 (dCons (dBin ixD (dBin ixD (dTup (dCons (dV 0) (dCons (dV 1) dNil))) (dL 5)) (dBin ixD (dL 3) (dL 5))) dNil))
    (iaugS 3 (dL 5) (dC (.int 1)))))
    (retS (dCB (oneArg tupleD) (dCons (dL 4) dNil))))))
theorem ok_groups_by (T : Txt K mg base) : Fd P w K mg base "groups_by" 1 3 den_groups_by := by
  obtain ⟨a, fd, F, hm, hb⟩ := T.f_groups_by
  refine Fd.mk' F sc_groups_by hm hb rfl rfl fun cdv A outer s H E hr => ?_
  have tk := takes_of (X := cxOf (L2.CX P w) P w K mg base N_groups_by "groups_by" (defScope (top 28)) a cdv A outer s H E) rfl rfl rfl rfl
  exact (sd_cons (sd_setN (i := 3) sc_groups_by.nd rfl (.inl rfl) (pd_lst (pad_cons pd_int (pad_cons pd_int pad_nil))))
    (sd_cons (sd_setN (i := 4) sc_groups_by.nd rfl (.inl rfl) (pd_lst pad_nil))
    (sd_cons (sd_for (passes_of rfl) rfl (it_tup (pd_v (pv 2))) (tg_name (i := 5) sc_groups_by.nd rfl (.inl rfl)) (sd_cons (sd_append (pv 4) (pad_cons (pd_ix (val_look (pd_ix (val_look (pd_tup (pad_cons (pd_v (pv 0)) (pad_cons (pd_v (pv 1)) pad_nil)))) (pd_l (pv 5)))) (val_look (pd_ix (pd_l (pv 3)) (pd_l (pv 5))))) pad_nil) (fun _ _ a b => ps_expr (pe_bm PySem.F.plainAttrs_list PySem.F.slot_list_append PySem.F.type_list_append mt_append a b)))
    (sd_one (sd_iaug (pv 3) (pd_l (pv 5)) (val_look pd_int)))))
    (sd_one (sd_ret (pd_callTy call_tuple_of tuple_r (by rfl) T.b_tuple (by decide +kernel) (pal_cons (pd_l (pv 4)) pal_nil)))))))
/-! ### mixed_rows -/
abbrev N_mixed_rows : List Str := ["one", "other", "tracks", "best", "mix", "h"]
theorem sc_mixed_rows : FnScope N_mixed_rows ["one", "other", "tracks"] (defScope (top 29)) := ⟨rfl, rfl, rfl, by decide +kernel, rfl, by decide +kernel, by decide +kernel⟩
def den_mixed_rows : FDen := fnD 3 3 (thenS (exprS (dCall den_check_row (dCons (dV 0) dNil)))
    (thenS (exprS (dCall den_check_row (dCons (dV 1) dNil)))
    (thenS (exprS (dCall den_check_tracks (dCons (dV 2) dNil)))
    (thenS (ifS (dOrT (dT (dBin gtD (dLenRow den_Row___len__ (dV 0)) (dC (.int 6)))) (dT (dBin gtD (dLenRow den_Row___len__ (dV 1)) (dC (.int 6))))) (raiseS "TooLarge") skipS)
    (thenS (setS 3 (dC .non))
    (thenS (forS (dIt asList (dCall den_mixes_of (dCons (dLenRow den_Row___len__ (dV 0)) (dCons (dLenRow den_Row___len__ (dV 1)) dNil)))) (tgN 4) (thenS (setS 5 (dCall den_least_pulls (dCons (dCall den_groups_by (dCons (dUn heldD (dL 0)) (dCons (dUn heldD (dL 1)) (dCons (dUn plainT (dV 4)) dNil)))) (dCons (dV 2) dNil))))
    (ifS (dOrT (dT (dBin isNonD (dL 3) (dC .non))) (dT (dBin ltD (dL 5) (dBin ixD (dL 3) (dC (.int 0)))))) (setS 3 (dTup (dCons (dV 5) (dCons (dUn plainT (dV 4)) dNil)))) skipS)))
    (retS (dV 3))))))))
theorem ok_mixed_rows (T : Txt K mg base) : Fd P w K mg base "mixed_rows" 6 3 den_mixed_rows := by
  obtain ⟨a, fd, F, hm, hb⟩ := T.f_mixed_rows
  refine Fd.mk' F sc_mixed_rows hm hb rfl rfl fun cdv A outer s H E hr => ?_
  have tk := takes_of (X := cxOf (L2.CX P w) P w K mg base N_mixed_rows "mixed_rows" (defScope (top 29)) a cdv A outer s H E) rfl rfl rfl rfl
  exact (sd_cons (sd_expr (pd_call (ok_check_row T) (hr.mono (by decide)) tk (by rfl) (pad_cons (pd_v (pv 0)) pad_nil) (dlen_cons dlen_nil)))
    (sd_cons (sd_expr (pd_call (ok_check_row T) (hr.mono (by decide)) tk (by rfl) (pad_cons (pd_v (pv 1)) pad_nil) (dlen_cons dlen_nil)))
    (sd_cons (sd_expr (pd_call (ok_check_tracks T) (hr.mono (by decide)) tk (by rfl) (pad_cons (pd_v (pv 2)) pad_nil) (dlen_cons dlen_nil)))
    (sd_cons (sd_if (PW.pt (pwd_or (pt_cmpD op_gt gt_r (val_look (pd_lenRow T.row T.m_Row___len__.at_ T.m_Row___len__.fn (ok_Row___len__ T) (hr.mono (by decide)) (by rfl) T.b_len (pd_v (pv 0)))) (val_look (pd_gint rfl T.g_MOST_MIXED)) (nomark _)) (pw_or1 (pt_cmpD op_gt gt_r (val_look (pd_lenRow T.row T.m_Row___len__.at_ T.m_Row___len__.fn (ok_Row___len__ T) (hr.mono (by decide)) (by rfl) T.b_len (pd_v (pv 1)))) (val_look (pd_gint rfl T.g_MOST_MIXED)) (nomark _))))) (sd_one (sd_raise0 T.e_TooLarge rfl tk (by rfl))) sd_nil)
    (sd_cons (sd_set (i := 3) sc_mixed_rows.nd rfl (.inl rfl) pd_non)
    (sd_cons (sd_for (passes_of rfl) rfl (it_list (pd_call (ok_mixes_of T) (hr.mono (by decide)) tk (by rfl) (pad_cons (pd_lenRow T.row T.m_Row___len__.at_ T.m_Row___len__.fn (ok_Row___len__ T) (hr.mono (by decide)) (by rfl) T.b_len (pd_v (pv 0))) (pad_cons (pd_lenRow T.row T.m_Row___len__.at_ T.m_Row___len__.fn (ok_Row___len__ T) (hr.mono (by decide)) (by rfl) T.b_len (pd_v (pv 1))) pad_nil)) (dlen_cons (dlen_cons dlen_nil)))) (tg_name (i := 4) sc_mixed_rows.nd rfl (.inl rfl)) (sd_cons (sd_set (i := 5) sc_mixed_rows.nd rfl (.inl rfl) (pd_call (ok_least_pulls T) (hr.mono (by decide)) tk (by rfl) (pad_cons (pd_call (ok_groups_by T) (hr.mono (by decide)) tk (by rfl) (pad_cons (pd_held T.row (pd_l (pv 0))) (pad_cons (pd_held T.row (pd_l (pv 1))) (pad_cons (pd_plain (pd_v (pv 4))) pad_nil))) (dlen_cons (dlen_cons (dlen_cons dlen_nil)))) (pad_cons (pd_v (pv 2)) pad_nil)) (dlen_cons (dlen_cons dlen_nil))))
    (sd_one (sd_if (PW.pt (pwd_or (pt_cmpD op_isN isnon_r (pd_l (pv 3)) (val_look pd_non) (nomark _)) (pw_or1 (pt_cmpD op_lt lt_r (pd_l (pv 5)) (val_look (pd_ix (pd_l (pv 3)) (val_look pd_int))) (nomark _))))) (sd_one (sd_set (i := 3) sc_mixed_rows.nd rfl (.inl rfl) (pd_tup (pad_cons (pd_v (pv 5)) (pad_cons (pd_plain (pd_v (pv 4))) pad_nil))))) sd_nil))))
    (sd_one (sd_ret (pd_v (pv 3))))))))))
/-! ### is_mix -/
abbrev N_is_mix : List Str := ["value", "first", "second", "one"]
theorem sc_is_mix : FnScope N_is_mix ["value", "first", "second"] (defScope (top 30)) := ⟨rfl, rfl, rfl, by decide +kernel, rfl, by decide +kernel, by decide +kernel⟩
def den_is_mix : FDen := fnD 3 1 (thenS (ifS (dOrT (dNotT (dT (dUn (isiD .tup) (dL 0)))) (dT (dBin neD (dCB (oneArg lenD) (dCons (dL 0) dNil)) (dBin addD (dL 1) (dL 2))))) (retS (dC (.bl false))) skipS)
    (thenS (ifS (dTru (dN2V (dComp (dIt asTup (dV 0)) [3] (tgN 3) (dNotT (dT (dCall den_is_from (dCons (dV 3) (dCons (dC (.int 0)) (dCons (dC (.int 1)) dNil)))))) (dV 3)))) (retS (dC (.bl false))) skipS)
    (retS (dBin eqD (dCB (oneArg sumT) (dCons (dL 0) dNil)) (dL 2)))))
theorem ok_is_mix (T : Txt K mg base) : Fd P w K mg base "is_mix" 3 3 den_is_mix := by
  obtain ⟨a, fd, F, hm, hb⟩ := T.f_is_mix
  refine Fd.mk' F sc_is_mix hm hb rfl rfl fun cdv A outer s H E hr => ?_
  have tk := takes_of (X := cxOf (L2.CX P w) P w K mg base N_is_mix "is_mix" (defScope (top 30)) a cdv A outer s H E) rfl rfl rfl rfl
  exact (sd_cons (sd_if (PW.pt (pwd_or (ptd_not (pt_bl (pd_isi (x := "tuple") .tup (by decide) (by rfl) T.b_isinstance (by rfl) T.b_tuple (by decide +kernel) (pd_l (pv 0))))) (pw_or1 (pt_cmpD (op_neD hr.units) ne_r (val_look (pd_callB call_len_seq len_r (by rfl) T.b_len (by decide +kernel) (pal_cons (pd_l (pv 0)) pal_nil))) (val_look (pd_op op_addX add_r (pd_l (pv 1)) (pd_l (pv 2)))) (nomark _))))) (sd_one (sd_ret pd_bl)) sd_nil)
    (sd_cons (sd_if (pt_tru (new_look (pd_comp (own := [("one", 3)]) (vs := [3]) rfl sc_is_mix.nd (it_tup (pd_v (pv 0))) rfl (blkOk_by (own := [("one", 3)]) (N := N_is_mix) (sc := defScope (top 30)) (by decide +kernel)) (tgok_n 3) (fun _ _ _ _ _ => (tg_name (i := 3) sc_is_mix.nd rfl (.inl rfl))) (fun _ _ _ _ _ => (ptsd_one (ptd_not (pt_bl (pd_call (ok_is_from T) (hr.mono (by decide)) takes0 (by rfl) (pad_cons (pd_v (pv 3)) (pad_cons pd_int (pad_cons pd_int pad_nil))) (dlen_cons (dlen_cons (dlen_cons dlen_nil)))))))) (fun _ _ _ _ _ => (pd_v (pv 3)))))) (sd_one (sd_ret pd_bl)) sd_nil)
    (sd_one (sd_ret (pd_cmp (op_eqD hr.units) eq_r (val_look (pd_callB (cr_sumT rfl) sumT_r (by rfl) T.b_sum (by decide +kernel) (pal_cons (pd_l (pv 0)) pal_nil))) (pd_l (pv 2)) (nomark _))))))
/-! ### mixed -/
abbrev N_mixed : List Str := ["one", "other", "mix"]
theorem sc_mixed : FnScope N_mixed ["one", "other", "mix"] (defScope (top 31)) := ⟨rfl, rfl, rfl, by decide +kernel, rfl, by decide +kernel, by decide +kernel⟩
def den_mixed : FDen := fnD 3 0 (thenS (exprS (dCall den_check_row (dCons (dV 0) dNil)))
    (thenS (exprS (dCall den_check_row (dCons (dV 1) dNil)))
    (thenS (ifS (dT (dBin gtD (dBin addD (dLenRow den_Row___len__ (dV 0)) (dLenRow den_Row___len__ (dV 1))) (dC (.int 12)))) (raiseS "TooLarge") skipS)
    (thenS (ifS (dNotT (dT (dCall den_is_mix (dCons (dV 2) (dCons (dLenRow den_Row___len__ (dV 0)) (dCons (dLenRow den_Row___len__ (dV 1)) dNil)))))) (raiseS "BadMix") skipS)
    (retS (dMkRow (dCall den_groups_by (dCons (dUn heldD (dL 0)) (dCons (dUn heldD (dL 1)) (dCons (dV 2) dNil))))))))))
theorem ok_mixed (T : Txt K mg base) : Fd P w K mg base "mixed" 5 3 den_mixed := by
  obtain ⟨a, fd, F, hm, hb⟩ := T.f_mixed
  refine Fd.mk' F sc_mixed hm hb rfl rfl fun cdv A outer s H E hr => ?_
  have tk := takes_of (X := cxOf (L2.CX P w) P w K mg base N_mixed "mixed" (defScope (top 31)) a cdv A outer s H E) rfl rfl rfl rfl
  exact (sd_cons (sd_expr (pd_call (ok_check_row T) (hr.mono (by decide)) tk (by rfl) (pad_cons (pd_v (pv 0)) pad_nil) (dlen_cons dlen_nil)))
    (sd_cons (sd_expr (pd_call (ok_check_row T) (hr.mono (by decide)) tk (by rfl) (pad_cons (pd_v (pv 1)) pad_nil) (dlen_cons dlen_nil)))
    (sd_cons (sd_if (pt_cmpD op_gt gt_r (val_look (pd_op op_addX add_r (val_look (pd_lenRow T.row T.m_Row___len__.at_ T.m_Row___len__.fn (ok_Row___len__ T) (hr.mono (by decide)) (by rfl) T.b_len (pd_v (pv 0)))) (val_look (pd_lenRow T.row T.m_Row___len__.at_ T.m_Row___len__.fn (ok_Row___len__ T) (hr.mono (by decide)) (by rfl) T.b_len (pd_v (pv 1)))))) (val_look (pd_gint rfl T.g_MOST_WAGONS)) (nomark _)) (sd_one (sd_raise0 T.e_TooLarge rfl tk (by rfl))) sd_nil)
    (sd_cons (sd_if (ptd_not (pt_bl (pd_call (ok_is_mix T) (hr.mono (by decide)) tk (by rfl) (pad_cons (pd_v (pv 2)) (pad_cons (pd_lenRow T.row T.m_Row___len__.at_ T.m_Row___len__.fn (ok_Row___len__ T) (hr.mono (by decide)) (by rfl) T.b_len (pd_v (pv 0))) (pad_cons (pd_lenRow T.row T.m_Row___len__.at_ T.m_Row___len__.fn (ok_Row___len__ T) (hr.mono (by decide)) (by rfl) T.b_len (pd_v (pv 1))) pad_nil))) (dlen_cons (dlen_cons (dlen_cons dlen_nil)))))) (sd_one (sd_raise0 T.e_BadMix rfl tk (by rfl))) sd_nil)
    (sd_one (sd_ret (pd_mkRow T.row T.mk_Row (ok_Row___init__ T) rowInit (hr.mono (by decide)) tk (by rfl) (pd_call (ok_groups_by T) (hr.mono (by decide)) tk (by rfl) (pad_cons (pd_held T.row (pd_l (pv 0))) (pad_cons (pd_held T.row (pd_l (pv 1))) (pad_cons (pd_v (pv 2)) pad_nil))) (dlen_cons (dlen_cons (dlen_cons dlen_nil)))))))))))
/-! ### _law_mix -/
abbrev N_law_mix : List Str := ["_law_script", "_law_seed", "_law_state", "_law_cell"]
theorem sc_law_mix : FnScope N_law_mix ["_law_script", "_law_seed"] (defScope (top 33)) := ⟨rfl, rfl, rfl, by decide +kernel, rfl, by decide +kernel, by decide +kernel⟩
def den_law_mix : FDen := fnD 2 2 (thenS (setS 2 (dV 1))
    (thenS (forS (dIt asScr (dV 0)) (tgN 3) (setS 2 (dBin modD (dCB (oneArg intD) (dCons (dBin addD (dBin addD (dBin mulD (dL 2) (dC (.int 48271))) (dBin modD (dCB (oneArg intD) (dCons (dL 3) dNil)) (dC (.int 2147483629)))) (dC (.int 1))) dNil)) (dC (.int 2147483647)))))
    (retS (dGen (dCons (dItV (dV 2)) (dCons (dItN (dCB (oneArg listScr) (dCons (dL 0) dNil))) (dCons (dItV (dC (.int 0))) dNil)))))))
theorem ok_law_mix (T : Txt K mg base) : Fd P w K mg base "_law_mix" 1 2 den_law_mix := by
  obtain ⟨a, fd, F, hm, hb⟩ := T.f_law_mix
  refine Fd.mk' F sc_law_mix hm hb rfl rfl fun cdv A outer s H E hr => ?_
  have tk := takes_of (X := cxOf (L2.CX P w) P w K mg base N_law_mix "_law_mix" (defScope (top 33)) a cdv A outer s H E) rfl rfl rfl rfl
  exact (sd_cons (sd_set (i := 2) sc_law_mix.nd rfl (.inl rfl) (pd_v (pv 1)))
    (sd_cons (sd_for (passes_of rfl) rfl (it_scr (pd_v (pv 0))) (tg_name (i := 3) sc_law_mix.nd rfl (.inl rfl)) (sd_one (sd_set (i := 2) sc_law_mix.nd rfl (.inl rfl) (pd_op op_mod mod_r (val_look (pd_callTy call_int1 int_r (by rfl) T.b_int (by decide +kernel) (pal_cons (val_look (pd_op op_addX add_r (val_look (pd_op op_addX add_r (val_look (pd_op op_mul mul_r (pd_l (pv 2)) (val_look pd_int))) (val_look (pd_op op_mod mod_r (val_look (pd_callTy call_int1 int_r (by rfl) T.b_int (by decide +kernel) (pal_cons (pd_l (pv 3)) pal_nil))) (val_look pd_int))))) (val_look pd_int))) pal_nil))) (val_look pd_int)))))
    (sd_one (sd_ret (pd_gen (pai_consV (pd_v (pv 2)) (pai_consN (pd_callTyN call_list_of listScr_r (by rfl) T.b_list (by decide +kernel) (pal_cons (pd_l (pv 0)) pal_nil)) (pai_consV pd_int pai_nil))))))))
/-! ### _law_next -/
abbrev N_law_next : List Str := ["_law_h", "_law_bound", "_law_cell", "_law_cells"]
theorem sc_law_next : FnScope N_law_next ["_law_h", "_law_bound"] (defScope (top 34)) := ⟨rfl, rfl, rfl, by decide +kernel, rfl, by decide +kernel, by decide +kernel⟩
theorem ok_law_next (T : Txt K mg base) : Fd P w K mg base "_law_next" 1 2 den_law_next := by
  obtain ⟨fa, fd, F, hm, hb⟩ := T.f_law_next
  refine ⟨fa, fd, _, F.ok sc_law_next (fun vs H Q E q => q.1) (fun cdv A outer s0 H vs Q E hr q => ?_), hm, F.kp, hb⟩
  obtain ⟨hv, B, F0, z, ow, m, ds, S, r, q⟩ := q
  cases hden : den_law_next ds m with
  | err x m' => exact (next_noerr hden).elim
  | bad => rw [hden] at q; exact q.elim
  | ok dm =>
    obtain ⟨d, m'⟩ := dm
    rw [hden] at q
    obtain ⟨n, b, s, cs, i, rr0, gg, rfl, hb0, hb1, hg, hlen, hnx, rfl, rfl⟩ := next_inv hden
    have hb := And.intro hb0 hb1
    clear hden
    dsimp only at q
    obtain ⟨v0, vs1, rfl, r0, r1⟩ := r.uncons
    obtain ⟨v1, vs2, rfl, rb, r2⟩ := r1.uncons
    cases r2.nil_of
    cases rep_int.mp rb
    obtain ⟨a, c, hAs, ne, hA, hC, wa, wc⟩ := S.genAt hg
    have r0 : ∃ a r, v0 = .ref a ∧ z.As[n]? = some (a :: r) := by simpa only [Rep] using r0
    obtain ⟨a', rr, rfl, e0⟩ := r0
    rw [hAs] at e0
    cases e0
    have small : cs.length + 1 ≤ sizeLine := Nat.le_trans (by omega : cs.length + 1 ≤ 2000) (by decide)
    refine ⟨_, pss_cons (ps_set (i := 2) sc_law_next.nd rfl (.inl rfl) (pe_ix ix_list (pe_op op_cat (pe_ix ix_list (pv 0) pe_int (fun _ _ => rfl)) (pe_lst (pa_cons pe_int pa_nil)))
        (pe_op op_mod (pe_callTy call_int1 (by rfl) T.b_int (by decide +kernel) (pa_cons (pe_ix ix_list (pv 0) pe_int (fun _ _ => rfl)) pa_nil))
          (pe_callB (call_max2 rfl) (by rfl) T.b_max (by decide +kernel) (pa_cons pe_int (pa_cons (pe_callB call_len_seq (by rfl) T.b_len (by decide +kernel) (pa_cons (pe_ix ix_list (pv 0) pe_int (fun _ _ => rfl)) pa_nil)) pa_nil)))) (fun _ _ => rfl)))
      (pss_cons (ps_if (pt_cmpR op_ge (pv 2) (pe_op op_pow pe_int pe_int) (nomark _))
        (pss_cons (ps_set (i := 3) sc_law_next.nd rfl (.inl rfl) (pe_ix ix_list (pv 0) pe_int (fun _ _ => rfl)))
        (pss_cons (ps_asg (pe_op op_fdivW (pv 2) (pv 1)) (pg_sub (pv 3) (pe_op op_mod (pe_callTy call_int1 (by rfl) T.b_int (by decide +kernel) (pa_cons (pe_ix ix_list (pv 0) pe_int (fun _ _ => rfl)) pa_nil)) (pe_callB call_len_seq (by rfl) T.b_len (by decide +kernel) (pa_cons (pv 3) pa_nil))) set_list))
        (pss_one (ps_ret (pe_op op_mod (pe_callTy call_int1 (by rfl) T.b_int (by decide +kernel) (pa_cons (pv 2) pa_nil)) (pv 1)))))) pss_nil)
      (pss_cons (ps_asg (pe_op op_mod (pe_callTy call_int1 (by rfl) T.b_int (by decide +kernel) (pa_cons (pe_op op_add (pe_op op_add (pe_op op_mul (pe_ix ix_list (pv 0) pe_int (fun _ _ => rfl)) pe_int) (pe_op op_mul (pv 2) pe_int)) pe_int) pa_nil)) pe_int) (pg_sub (pv 0) pe_int set_list))
      (pss_cons (ps_asg (pe_op op_add (pe_ix ix_list (pv 0) pe_int (fun _ _ => rfl)) pe_int) (pg_sub (pv 0) pe_int set_list))
      (pss_one (ps_ret (pe_op op_mod (pe_callTy call_int1 (by rfl) T.b_int (by decide +kernel) (pa_cons (pe_op op_fdivW (pe_ix ix_list (pv 0) pe_int (fun _ _ => rfl)) pe_int) pa_nil)) (pv 1))))))), ?_⟩
    -- _law_h[1] + [0]
    refine ⟨.ref a, rfl, a, _, 1, .ref c, rfl, rfl, SqL.of hA, rfl, by decide, fun p1 hp1 => ?_⟩
    have na1 : a ≠ p1 := ne_of_none hA hp1
    have nc1 : c ≠ p1 := ne_of_none hC hp1
    refine ⟨c, p1, cs.map V.int, [.int 0], rfl, rfl, by rw [upd_ne nc1]; exact hC, upd_same, by rw [List.length_map]; exact small, fun p2 hp2 => ?_⟩
    have hp2' : p2 ≠ p1 := fun e => by rw [e, upd_same] at hp2; cases hp2
    have hp2H : H p2 = none := by rw [upd_ne hp2'] at hp2; exact hp2
    have na2 : a ≠ p2 := ne_of_none hA hp2H
    have nc2 : c ≠ p2 := ne_of_none hC hp2H
    generalize hH2 : upd (upd H p1 (.lst [.int 0])) p2 (.lst (cs.map V.int ++ [.int 0])) = H2
    have hA2 : H2 a = some (.lst [.int s, .ref c, .int i]) := by rw [← hH2, upd_ne na2, upd_ne na1]; exact hA
    have hC2 : H2 c = some (.lst (cs.map V.int)) := by rw [← hH2, upd_ne nc2, upd_ne nc1]; exact hC
    have hP2 : H2 p2 = some (.lst (cs.map V.int ++ [.int 0])) := by rw [← hH2, upd_same]
    have sm : Same H H2 := by rw [← hH2]; exact (same_upd hp1).trans (same_upd hp2)
    -- the index
    refine ⟨.ref a, rfl, a, _, 2, .int i, rfl, rfl, SqL.of hA2, rfl, .inl ⟨i, rfl, ?_⟩⟩
    refine ⟨.ref a, rfl, a, _, 1, .ref c, rfl, rfl, SqL.of hA2, rfl, c, _, rfl, .inl (SqL.of hC2), 1, _, rfl, ?_⟩
    rw [List.length_map]
    refine ⟨i, _, rfl, rfl, by split <;> omega, ?_⟩
    unfold nextG at hnx
    cases hcell : atI (cs ++ [0]) (i % (if (cs.length : Int) > 1 then (cs.length : Int) else 1)) with
    | none => rw [hcell] at hnx; cases hnx
    | some cell =>
      rw [hcell] at hnx
      have hcell2 : atI (cs.map V.int ++ [V.int 0]) (i % (if (cs.length : Int) > 1 then (cs.length : Int) else 1)) = some (.int cell) := by
        have e : cs.map V.int ++ [V.int 0] = (cs ++ [0]).map V.int := by rw [List.map_append]; rfl
        rw [e]
        unfold atI at hcell ⊢
        rw [List.length_map]
        cases hx : ixN (cs ++ [0]).length (i % (if (cs.length : Int) > 1 then (cs.length : Int) else 1)) with
        | none => rw [hx] at hcell; cases hcell
        | some j =>
          rw [hx] at hcell
          show ((cs ++ [0]).map V.int)[j]? = _
          rw [List.getElem?_map]
          have hcell : (cs ++ [0])[j]? = some cell := hcell
          rw [hcell]
          rfl
      refine ⟨p2, _, _, .int cell, rfl, rfl, SqL.of hP2, hcell2, ?_⟩
      -- if _law_cell >= 10 ** 18
      refine ⟨.int cell, rfl, 10, 18, rfl, rfl, ⟨by decide, by decide, by decide⟩, cell, 10 ^ 18, rfl, rfl, _, rfl, ?_⟩
      dsimp only at hnx
      by_cases hbig : cell ≥ 10 ^ 18
      · rw [if_pos hbig] at hnx
        have hd : decide ((10 : Int) ^ 18 ≤ cell) = true := decide_eq_true hbig
        cases hk : ixN cs.length (i % cs.length) with
        | none => rw [hk] at hnx; cases hnx
        | some k =>
          rw [hk] at hnx
          cases hnx
          have hpos : 0 < (cs.length : Int) := by
            rcases Nat.eq_zero_or_pos cs.length with h0 | h0
            · exfalso
              rw [h0] at hk
              unfold ixN at hk
              split at hk
              · rename_i h1
                rw [if_neg (by intro h2; have : i % ((0 : Nat) : Int) = i := Int.emod_zero i; omega)] at hk
                cases hk
              · split at hk
                · rename_i h1 h2
                  omega
                · cases hk
            · omega
          rw [hd]
          refine iteT ?_
          refine ⟨.ref a, rfl, a, _, 1, .ref c, rfl, rfl, SqL.of hA2, rfl, ?_⟩
          refine ⟨.int cell, rfl, .int b, rfl, cell, b, rfl, rfl, hb, ?_⟩
          refine ⟨.ref c, rfl, .ref a, rfl, a, _, 2, .int i, rfl, rfl, SqL.of hA2, rfl, .inl ⟨i, rfl, ?_⟩⟩
          refine ⟨.ref c, rfl, c, _, rfl, .inl (SqL.of hC2), i, _, rfl, rfl, by rw [List.length_map]; exact hpos, ?_⟩
          refine ⟨c, _, _, k, rfl, rfl, hC2, by rw [List.length_map]; exact hk, ?_⟩
          refine ⟨.int cell, rfl, .inl ⟨cell, rfl, .int b, rfl, cell, b, rfl, rfl, hb.1, ?_⟩⟩
          refine q z ow _ _ (Fz.le.refl _) (((S.same sm).genChange (i' := i) (s' := s) (cs' := cs.set k (cell / b)) hg hAs ?_ ?_ ?_)) (rep_int.mpr rfl)
          · rw [upd_ne ne]; exact hA2
          · rw [upd_same, List.map_set]
          · intro x o _ h2 e
            rw [upd_ne h2]
            exact e
      · rw [if_neg hbig] at hnx
        cases hnx
        have hd : decide ((10 : Int) ^ 18 ≤ cell) = false := decide_eq_false hbig
        rw [hd]
        refine iteF ?_
        refine ⟨.ref a, rfl, a, _, 0, .int s, rfl, rfl, SqL.of hA2, rfl, s, 48271, rfl, rfl, .inr (by decide), ?_⟩
        refine ⟨.int cell, rfl, cell, 69621, rfl, rfl, .inr (by decide), s * 48271, cell * 69621, rfl, rfl, s * 48271 + cell * 69621, 11, rfl, rfl, .inl ⟨_, rfl, _, 2147483647, rfl, rfl, (show (0 : Int) < 2147483647 by decide), ?_⟩⟩
        refine ⟨.ref a, rfl, a, _, 0, 0, rfl, rfl, hA2, rfl, ?_⟩
        have hA3 : upd H2 a (.lst [.int ((s * 48271 + cell * 69621 + 11) % 2147483647), .ref c, .int i]) a = some (.lst [.int ((s * 48271 + cell * 69621 + 11) % 2147483647), .ref c, .int i]) := upd_same
        refine ⟨.ref a, rfl, a, _, 2, .int i, rfl, rfl, SqL.of hA3, rfl, i, 1, rfl, rfl, ?_⟩
        refine ⟨.ref a, rfl, a, _, 2, 2, rfl, rfl, hA3, rfl, ?_⟩
        have hA4 : upd (upd H2 a (.lst [.int ((s * 48271 + cell * 69621 + 11) % 2147483647), .ref c, .int i])) a (.lst [.int ((s * 48271 + cell * 69621 + 11) % 2147483647), .ref c, .int (i + 1)]) a = some (.lst [.int ((s * 48271 + cell * 69621 + 11) % 2147483647), .ref c, .int (i + 1)]) := upd_same
        refine ⟨.ref a, rfl, a, _, 0, .int ((s * 48271 + cell * 69621 + 11) % 2147483647), rfl, rfl, SqL.of hA4, rfl, ((s * 48271 + cell * 69621 + 11) % 2147483647), 7, rfl, rfl, ⟨by decide, by decide⟩, .inl ⟨_, rfl, .int b, rfl, _, b, rfl, rfl, hb.1, ?_⟩⟩
        refine q z ow _ _ (Fz.le.refl _) (((S.same sm).genChange (i' := i + 1) (s' := ((s * 48271 + cell * 69621 + 11) % 2147483647)) (cs' := cs) hg hAs ?_ ?_ ?_)) (rep_int.mpr rfl)
        · exact hA4
        · show upd (upd H2 a _) a _ c = _
          rw [upd_ne (Ne.symm ne), upd_ne (Ne.symm ne)]
          exact hC2
        · intro x o h1 _ e
          show upd (upd H2 a _) a _ x = _
          rw [upd_ne h1, upd_ne h1]
          exact e
/-! ### _law_groups -/
abbrev N_law_groups : List Str := ["_law_h", "_law_most", "_law_size", "_law_kind", "_law_left", "_law_found", "_law_k", "_law_spot"]
theorem sc_law_groups : FnScope N_law_groups ["_law_h", "_law_most"] (defScope (top 35)) := ⟨rfl, rfl, rfl, by decide +kernel, rfl, by decide +kernel, by decide +kernel⟩
def den_law_groups : FDen := fnD 2 6 (thenS (setS 2 (dBin addD (dC (.int 1)) (dCall den_law_next (dCons (dV 0) (dCons (dV 1) dNil)))))
    (thenS (setS 3 (dCall den_law_next (dCons (dV 0) (dCons (dC (.int 3)) dNil))))
    (thenS (ifS (dT (dBin eqD (dL 3) (dC (.int 0)))) (retS (dCB (oneArg tupleD) (dCons (dN2V (dComp (dRng rng1 (dCons (dL 2) dNil)) [6] (tgN 6) dYes (dCall den_law_next (dCons (dV 0) (dCons (dBin addD (dC (.int 1)) (dCall den_law_next (dCons (dV 0) (dCons (dC (.int 12)) dNil)))) dNil))))) dNil))) skipS)
    (thenS (parS [4, 5] (dCons (dItV (dN2V (dUnN rgN (dL 2)))) (dCons (dItN (dLst dNil)) dNil)))
    (thenS (forS (dRng rng1 (dCons (dL 2) dNil)) (tgN 6) (thenS (setS 7 (dIf (dOrT (dT (dBin eqD (dL 3) (dC (.int 1)))) (dT (dBin eqD (dCall den_law_next (dCons (dV 0) (dCons (dC (.int 3)) dNil))) (dC (.int 0))))) (dCall den_law_next (dCons (dV 0) (dCons (dCB (oneArg lenD) (dCons (dL 4) dNil)) dNil))) (dBin subD (dCB (oneArg lenD) (dCons (dL 4) dNil)) (dC (.int 1)))))
    (thenS (appS 5 (dCons (dBin ixD (dL 4) (dL 7)) dNil))
    (setS 4 (dN2V (dBinN catN (dN2V (dSl slN (dL 4) dNoPart (dPart (dL 7)))) (dN2V (dSl slN (dL 4) (dPart (dBin addD (dL 7) (dC (.int 1)))) dNoPart))))))))
    (retS (dCB (oneArg tupleD) (dCons (dL 5) dNil))))))))
theorem ok_law_groups (T : Txt K mg base) : Fd P w K mg base "_law_groups" 2 2 den_law_groups := by
  obtain ⟨a, fd, F, hm, hb⟩ := T.f_law_groups
  refine Fd.mk' F sc_law_groups hm hb rfl rfl fun cdv A outer s H E hr => ?_
  have tk := takes_of (X := cxOf (L2.CX P w) P w K mg base N_law_groups "_law_groups" (defScope (top 35)) a cdv A outer s H E) rfl rfl rfl rfl
  exact (sd_cons (sd_set (i := 2) sc_law_groups.nd rfl (.inl rfl) (pd_op op_addX add_r (val_look pd_int) (val_look (pd_call (ok_law_next T) (hr.mono (by decide)) tk (by rfl) (pad_cons (pd_v (pv 0)) (pad_cons (pd_v (pv 1)) pad_nil)) (dlen_cons (dlen_cons dlen_nil))))))
    (sd_cons (sd_set (i := 3) sc_law_groups.nd rfl (.inl rfl) (pd_call (ok_law_next T) (hr.mono (by decide)) tk (by rfl) (pad_cons (pd_v (pv 0)) (pad_cons pd_int pad_nil)) (dlen_cons (dlen_cons dlen_nil))))
    (sd_cons (sd_if (pt_cmpD (op_eqD hr.units) eq_r (pd_l (pv 3)) (val_look pd_int) (nomark _)) (sd_one (sd_ret (pd_callTy call_tuple_of tuple_r (by rfl) T.b_tuple (by decide +kernel) (pal_cons (new_look (pd_comp (own := [("_law_k", 6)]) (vs := [6]) rfl sc_law_groups.nd (it_rng1 (by rfl) T.b_range (pal_cons (pd_l (pv 2)) pal_nil)) rfl (blkOk_by (own := [("_law_k", 6)]) (N := N_law_groups) (sc := defScope (top 35)) (by decide +kernel)) (tgok_n 6) (fun _ _ _ _ _ => (tg_name (i := 6) sc_law_groups.nd rfl (.inl rfl))) (fun _ _ _ _ _ => ptsd_nil) (fun _ _ _ _ _ => (pd_call (ok_law_next T) (hr.mono (by decide)) takes0 (by rfl) (pad_cons (pd_v (pv 0)) (pad_cons (pd_op op_addX add_r (val_look pd_int) (val_look (pd_call (ok_law_next T) (hr.mono (by decide)) takes0 (by rfl) (pad_cons (pd_v (pv 0)) (pad_cons pd_int pad_nil)) (dlen_cons (dlen_cons dlen_nil))))) pad_nil)) (dlen_cons (dlen_cons dlen_nil)))))) pal_nil)))) sd_nil)
    (sd_cons (sd_par2 (i := 4) (j := 5) rfl sc_law_groups.nd rfl rfl (by decide) rfl rfl (pai_consV (new_val (pd_listRg rfl (by rfl) T.b_list (by rfl) T.b_range (pd_l (pv 2)))) (pai_consN (pd_lst pad_nil) pai_nil)) (by rfl))
    (sd_cons (sd_for (passes_of rfl) rfl (it_rng1 (by rfl) T.b_range (pal_cons (pd_l (pv 2)) pal_nil)) (tg_name (i := 6) sc_law_groups.nd rfl (.inl rfl)) (sd_cons (sd_set (i := 7) sc_law_groups.nd rfl (.inl rfl) (pd_if (PW.pt (pwd_or (pt_cmpD (op_eqD hr.units) eq_r (pd_l (pv 3)) (val_look pd_int) (nomark _)) (pw_or1 (pt_cmpD (op_eqD hr.units) eq_r (val_look (pd_call (ok_law_next T) (hr.mono (by decide)) tk (by rfl) (pad_cons (pd_v (pv 0)) (pad_cons pd_int pad_nil)) (dlen_cons (dlen_cons dlen_nil)))) (val_look pd_int) (nomark _))))) (pd_call (ok_law_next T) (hr.mono (by decide)) tk (by rfl) (pad_cons (pd_v (pv 0)) (pad_cons (pd_callB call_len_seq len_r (by rfl) T.b_len (by decide +kernel) (pal_cons (pd_l (pv 4)) pal_nil)) pad_nil)) (dlen_cons (dlen_cons dlen_nil))) (pd_op op_sub sub_r (val_look (pd_callB call_len_seq len_r (by rfl) T.b_len (by decide +kernel) (pal_cons (pd_l (pv 4)) pal_nil))) (val_look pd_int))))
    (sd_cons (sd_append (pv 5) (pad_cons (pd_ix (pd_l (pv 4)) (pd_l (pv 7))) pad_nil) (fun _ _ a b => ps_expr (pe_bm PySem.F.plainAttrs_list PySem.F.slot_list_append PySem.F.type_list_append mt_append a b)))
    (sd_one (sd_set (i := 4) sc_law_groups.nd rfl (.inl rfl) (new_val (pd_opN op_cat cat_r (new_look (pd_slN (pd_l (pv 4)) pod_none (pod_some (pd_l (pv 7))))) (new_look (pd_slN (pd_l (pv 4)) (pod_some (val_look (pd_op op_addX add_r (pd_l (pv 7)) (val_look pd_int)))) pod_none)))))))))
    (sd_one (sd_ret (pd_callTy call_tuple_of tuple_r (by rfl) T.b_tuple (by decide +kernel) (pal_cons (pd_l (pv 5)) pal_nil)))))))))
/-! ### _law_stops -/
abbrev N_law_stops : List Str := ["_law_code", "_law_found", "_law_stop"]
theorem sc_law_stops : FnScope N_law_stops ["_law_code"] (defScope (top 36)) := ⟨rfl, rfl, rfl, by decide +kernel, rfl, by decide +kernel, by decide +kernel⟩
def den_law_stops : FDen := fnD 1 2 (thenS (parS [1, 2] (dCons (dItN (dLst dNil)) (dCons (dItV (dC (.int 1))) dNil)))
    (thenS (whileS (dT (dBin gtD (dL 0) (dC (.int 0)))) (thenS (ifS (dT (dBin neD (dBin mulD (dBin divD (dL 0) (dC (.int 2))) (dC (.int 2))) (dL 0))) (appS 1 (dCons (dV 2) dNil)) skipS)
    (parS [0, 2] (dCons (dItV (dBin divD (dL 0) (dC (.int 2)))) (dCons (dItV (dBin addD (dL 2) (dC (.int 1)))) dNil)))) 100000)
    (freezeS 1 (retS (dV 1)))))
theorem ok_law_stops (T : Txt K mg base) : Fd P w K mg base "_law_stops" 1 1 den_law_stops := by
  obtain ⟨a, fd, F, hm, hb⟩ := T.f_law_stops
  refine Fd.mk' F sc_law_stops hm hb rfl rfl fun cdv A outer s H E hr => ?_
  have tk := takes_of (X := cxOf (L2.CX P w) P w K mg base N_law_stops "_law_stops" (defScope (top 36)) a cdv A outer s H E) rfl rfl rfl rfl
  exact (sd_cons (sd_par2 (i := 1) (j := 2) rfl sc_law_stops.nd rfl rfl (by decide) rfl rfl (pai_consN (pd_lst pad_nil) (pai_consV pd_int pai_nil)) (by rfl))
    (sd_cons (sd_while 100000 (passes_of rfl) (pt_cmpD op_gt gt_r (pd_l (pv 0)) (val_look pd_int) (nomark _)) (sd_cons (sd_if (pt_cmpD (op_neD hr.units) ne_r (val_look (pd_op op_mul mul_r (val_look (pd_op op_fdivW div_r (pd_l (pv 0)) (val_look pd_int))) (val_look pd_int))) (pd_l (pv 0)) (nomark _)) (sd_one (sd_append (pv 1) (pad_cons (pd_v (pv 2)) pad_nil) (fun _ _ a b => ps_expr (pe_bm PySem.F.plainAttrs_list PySem.F.slot_list_append PySem.F.type_list_append mt_append a b)))) sd_nil)
    (sd_one (sd_par2 (i := 0) (j := 2) rfl sc_law_stops.nd rfl rfl (by decide) rfl rfl (pai_consV (pd_op op_fdivW div_r (pd_l (pv 0)) (val_look pd_int)) (pai_consV (pd_op op_addX add_r (pd_l (pv 2)) (val_look pd_int)) pai_nil)) (by rfl)))))
    (sd_freeze (i := 1) (sd_one (sd_ret (pd_v (pv 1)))))))
/-! ### _law_fits -/
abbrev N_law_fits : List Str := ["_law_code", "_law_tracks", "_law_row", "_law_k"]
theorem sc_law_fits : FnScope N_law_fits ["_law_code", "_law_tracks"] (defScope (top 37)) := ⟨rfl, rfl, rfl, by decide +kernel, rfl, by decide +kernel, by decide +kernel⟩
def den_law_fits : FDen := fnD 2 2 (thenS (setS 2 (dN2V (dBinN catN (dN2V (dLst (dCons (dC (.int 0)) dNil))) (dCall den_law_stops (dCons (dV 0) dNil)))))
    (retS (dBin eqD (dN2V (dComp (dRng rng2 (dCons (dC (.int 1)) (dCons (dCB (oneArg lenD) (dCons (dL 2) dNil)) dNil))) [3] (tgN 3) (dT (dBin gtD (dBin subD (dBin ixD (dL 2) (dL 3)) (dBin ixD (dL 2) (dBin subD (dL 3) (dC (.int 1))))) (dL 1))) (dV 3))) (dN2V (dLst dNil)))))
theorem ok_law_fits (T : Txt K mg base) : Fd P w K mg base "_law_fits" 2 2 den_law_fits := by
  obtain ⟨a, fd, F, hm, hb⟩ := T.f_law_fits
  refine Fd.mk' F sc_law_fits hm hb rfl rfl fun cdv A outer s H E hr => ?_
  have tk := takes_of (X := cxOf (L2.CX P w) P w K mg base N_law_fits "_law_fits" (defScope (top 37)) a cdv A outer s H E) rfl rfl rfl rfl
  exact (sd_cons (sd_set (i := 2) sc_law_fits.nd rfl (.inr rfl) (new_val (pd_opN op_cat cat_r (new_look (pd_lst (pad_cons pd_int pad_nil))) (val_look (pd_call (ok_law_stops T) (hr.mono (by decide)) tk (by rfl) (pad_cons (pd_v (pv 0)) pad_nil) (dlen_cons dlen_nil))))))
    (sd_one (sd_ret (pd_cmp (op_eqD hr.units) eq_r (new_look (pd_comp (own := [("_law_k", 3)]) (vs := [3]) rfl sc_law_fits.nd (it_rng2 (by rfl) T.b_range (pal_cons (val_look pd_int) (pal_cons (val_look (pd_callB call_len_seq len_r (by rfl) T.b_len (by decide +kernel) (pal_cons (pd_l (pv 2)) pal_nil))) pal_nil))) rfl (blkOk_by (own := [("_law_k", 3)]) (N := N_law_fits) (sc := defScope (top 37)) (by decide +kernel)) (tgok_n 3) (fun _ _ _ _ _ => (tg_name (i := 3) sc_law_fits.nd rfl (.inl rfl))) (fun _ _ _ _ _ => (ptsd_one (pt_cmpD op_gt gt_r (val_look (pd_op op_sub sub_r (val_look (pd_ix (pd_l (pv 2)) (pd_l (pv 3)))) (val_look (pd_ix (pd_l (pv 2)) (val_look (pd_op op_sub sub_r (pd_l (pv 3)) (val_look pd_int))))))) (pd_l (pv 1)) (nomark _)))) (fun _ _ _ _ _ => (pd_v (pv 3))))) (new_look (pd_lst pad_nil)) (nomark _)))))
/-! ### _law_codes -/
abbrev N_law_codes : List Str := ["_law_h", "_law_tracks", "_law_top", "_law_k", "_law_code"]
theorem sc_law_codes : FnScope N_law_codes ["_law_h", "_law_tracks"] (defScope (top 38)) := ⟨rfl, rfl, rfl, by decide +kernel, rfl, by decide +kernel, by decide +kernel⟩
def den_law_codes : FDen := fnD 2 3 (thenS (setS 2 (dC (.int 1)))
    (thenS (forS (dRng rng1 (dCons (dL 0) dNil)) (tgN 3) (setS 2 (dBin mulD (dL 2) (dC (.int 2)))))
    (retS (dN2V (dComp (dRng rng1 (dCons (dL 2) dNil)) [4] (tgN 4) (dT (dCall den_law_fits (dCons (dV 4) (dCons (dV 1) dNil)))) (dV 4))))))
theorem ok_law_codes (T : Txt K mg base) : Fd P w K mg base "_law_codes" 3 2 den_law_codes := by
  obtain ⟨a, fd, F, hm, hb⟩ := T.f_law_codes
  refine Fd.mk' F sc_law_codes hm hb rfl rfl fun cdv A outer s H E hr => ?_
  have tk := takes_of (X := cxOf (L2.CX P w) P w K mg base N_law_codes "_law_codes" (defScope (top 38)) a cdv A outer s H E) rfl rfl rfl rfl
  exact (sd_cons (sd_set (i := 2) sc_law_codes.nd rfl (.inl rfl) pd_int)
    (sd_cons (sd_for (passes_of rfl) rfl (it_rng1 (by rfl) T.b_range (pal_cons (pd_l (pv 0)) pal_nil)) (tg_name (i := 3) sc_law_codes.nd rfl (.inl rfl)) (sd_one (sd_set (i := 2) sc_law_codes.nd rfl (.inl rfl) (pd_op op_mul mul_r (pd_l (pv 2)) (val_look pd_int)))))
    (sd_one (sd_ret (new_val (pd_comp (own := [("_law_code", 4)]) (vs := [4]) rfl sc_law_codes.nd (it_rng1 (by rfl) T.b_range (pal_cons (pd_l (pv 2)) pal_nil)) rfl (blkOk_by (own := [("_law_code", 4)]) (N := N_law_codes) (sc := defScope (top 38)) (by decide +kernel)) (tgok_n 4) (fun _ _ _ _ _ => (tg_name (i := 4) sc_law_codes.nd rfl (.inl rfl))) (fun _ _ _ _ _ => (ptsd_one (pt_bl (pd_call (ok_law_fits T) (hr.mono (by decide)) takes0 (by rfl) (pad_cons (pd_v (pv 4)) (pad_cons (pd_v (pv 1)) pad_nil)) (dlen_cons (dlen_cons dlen_nil)))))) (fun _ _ _ _ _ => (pd_v (pv 4)))))))))
/-! ### _law_ahead -/
abbrev N_law_ahead : List Str := ["_law_way", "_law_x", "_law_y"]
theorem sc_law_ahead : FnScope N_law_ahead ["_law_way", "_law_x", "_law_y"] (defScope (top 39)) := ⟨rfl, rfl, rfl, by decide +kernel, rfl, by decide +kernel, by decide +kernel⟩
def den_law_ahead : FDen := fnD 3 0 (retS (dOr (dBin ltD (dBin ixD (dL 0) (dL 1)) (dBin ixD (dL 0) (dL 2))) (dAnd (dBin eqD (dBin ixD (dL 0) (dL 1)) (dBin ixD (dL 0) (dL 2))) (dBin ltD (dL 1) (dL 2)))))
theorem ok_law_ahead (T : Txt K mg base) : Fd P w K mg base "_law_ahead" 1 3 den_law_ahead := by
  obtain ⟨a, fd, F, hm, hb⟩ := T.f_law_ahead
  refine Fd.mk' F sc_law_ahead hm hb rfl rfl fun cdv A outer s H E hr => ?_
  have tk := takes_of (X := cxOf (L2.CX P w) P w K mg base N_law_ahead "_law_ahead" (defScope (top 39)) a cdv A outer s H E) rfl rfl rfl rfl
  exact (sd_one (sd_ret (pd_or (pd_cmp op_lt lt_r (val_look (pd_ix (pd_l (pv 0)) (pd_l (pv 1)))) (val_look (pd_ix (pd_l (pv 0)) (pd_l (pv 2)))) (nomark _)) (pd_one (pd_and (pd_cmp (op_eqD hr.units) eq_r (val_look (pd_ix (pd_l (pv 0)) (pd_l (pv 1)))) (val_look (pd_ix (pd_l (pv 0)) (pd_l (pv 2)))) (nomark _)) (pd_one (pd_cmp op_lt lt_r (pd_l (pv 1)) (pd_l (pv 2)) (nomark _))))))))
/-! ### _law_right -/
abbrev N_law_right : List Str := ["_law_groups_here", "_law_way", "_law_size", "_law_x", "_law_y"]
theorem sc_law_right : FnScope N_law_right ["_law_groups_here", "_law_way"] (defScope (top 40)) := ⟨rfl, rfl, rfl, by decide +kernel, rfl, by decide +kernel, by decide +kernel⟩
def den_law_right : FDen := fnD 2 3 (thenS (setS 2 (dCB (oneArg lenD) (dCons (dL 0) dNil)))
    (thenS (forS (dRng rng1 (dCons (dL 2) dNil)) (tgN 3) (ifS (dT (dBin neD (dN2V (dComp (dRng rng1 (dCons (dL 2) dNil)) [4] (tgN 4) (dAndT (dT (dBin gtD (dBin ixD (dL 0) (dL 3)) (dBin ixD (dL 0) (dL 4)))) (dT (dCall den_law_ahead (dCons (dV 1) (dCons (dV 3) (dCons (dV 4) dNil)))))) (dV 4))) (dN2V (dLst dNil)))) (retS (dC (.bl false))) skipS))
    (retS (dC (.bl true)))))
theorem ok_law_right (T : Txt K mg base) : Fd P w K mg base "_law_right" 2 2 den_law_right := by
  obtain ⟨a, fd, F, hm, hb⟩ := T.f_law_right
  refine Fd.mk' F sc_law_right hm hb rfl rfl fun cdv A outer s H E hr => ?_
  have tk := takes_of (X := cxOf (L2.CX P w) P w K mg base N_law_right "_law_right" (defScope (top 40)) a cdv A outer s H E) rfl rfl rfl rfl
  exact (sd_cons (sd_set (i := 2) sc_law_right.nd rfl (.inl rfl) (pd_callB call_len_seq len_r (by rfl) T.b_len (by decide +kernel) (pal_cons (pd_l (pv 0)) pal_nil)))
    (sd_cons (sd_for (passes_of rfl) rfl (it_rng1 (by rfl) T.b_range (pal_cons (pd_l (pv 2)) pal_nil)) (tg_name (i := 3) sc_law_right.nd rfl (.inr rfl)) (sd_one (sd_if (pt_cmpD (op_neD hr.units) ne_r (new_look (pd_comp (own := [("_law_y", 4)]) (vs := [4]) rfl sc_law_right.nd (it_rng1 (by rfl) T.b_range (pal_cons (pd_l (pv 2)) pal_nil)) rfl (blkOk_by (own := [("_law_y", 4)]) (N := N_law_right) (sc := defScope (top 40)) (by decide +kernel)) (tgok_n 4) (fun _ _ _ _ _ => (tg_name (i := 4) sc_law_right.nd rfl (.inl rfl))) (fun _ _ _ _ _ => (ptsd_one (PW.pt (pwd_and (pt_cmpD op_gt gt_r (val_look (pd_ix (pd_l (pv 0)) (pd_l (pv 3)))) (val_look (pd_ix (pd_l (pv 0)) (pd_l (pv 4)))) (nomark _)) (pw_and1 (pt_bl (pd_call (ok_law_ahead T) (hr.mono (by decide)) takes0 (by rfl) (pad_cons (pd_v (pv 1)) (pad_cons (pd_v (pv 3)) (pad_cons (pd_v (pv 4)) pad_nil))) (dlen_cons (dlen_cons (dlen_cons dlen_nil)))))))))) (fun _ _ _ _ _ => (pd_v (pv 4))))) (new_look (pd_lst pad_nil)) (nomark _)) (sd_one (sd_ret pd_bl)) sd_nil)))
    (sd_one (sd_ret pd_bl))))
/-! ### _law_levels -/
abbrev N_law_levels : List Str := ["_law_groups_here", "_law_order", "_law_found", "_law_here", "_law_low", "_law_k"]
theorem sc_law_levels : FnScope N_law_levels ["_law_groups_here"] (defScope (top 41)) := ⟨rfl, rfl, rfl, by decide +kernel, rfl, by decide +kernel, by decide +kernel⟩
def den_law_levels : FDen := fnD 1 5 (thenS (parS [1, 2] (dCons (dItV (dN2V (dSortK 0 0 "_law_levels" "_law_levels.<locals>.<lambda>" (dCons (dN2V (dUnN rgN (dCB (oneArg lenD) (dCons (dL 0) dNil)))) dNil)))) (dCons (dItN (dNewDct false)) dNil)))
    (thenS (forS (dIt asList (dV 1)) (tgN 3) (thenS (setN 4 (dLock 2 (dComp (dIt asLdc (dV 2)) [5] (tgN 5) (dT (dBin ltD (dBin ixD (dL 0) (dL 5)) (dBin ixD (dL 0) (dL 3)))) (dBin addD (dBin dgetK (dL 2) (dL 5)) (dCB (oneArg intD) (dCons (dBin ltD (dL 3) (dL 5)) dNil))))))
    (dputS 2 (dL 3) (dCB (oneArg maxLD) (dCons (dN2V (dBinN catN (dN2V (dLst (dCons (dC (.int 0)) dNil))) (dL 4))) dNil)))))
    (sealS 2 (retS (dV 2)))))
theorem ok_law_levels (T : Txt K mg base) : Fd P w K mg base "_law_levels" 1 1 den_law_levels := by
  obtain ⟨a, fd, F, hm, hb⟩ := T.f_law_levels
  refine Fd.mkT F sc_law_levels hm hb T.tab rfl rfl fun cdv A outer s H E hr tx => ?_
  have tk := takes_of (X := cxOf (L2.CX P w) P w K mg base N_law_levels "_law_levels" (defScope (top 41)) a cdv A outer s H E) rfl rfl rfl rfl
  exact (sd_cons (sd_parT (is := [1, 2]) (pai_consV (new_val (pd_sortLam (t := 0) (j := 0) (q := "_law_levels.<locals>.<lambda>") hr tx (by rfl) (by rfl) T.b_sorted (pal_cons (new_look (pd_listRg rfl (by rfl) T.b_list (by rfl) T.b_range (val_look (pd_callB call_len_seq len_r (by rfl) T.b_len (by decide +kernel) (pal_cons (pd_l (pv 0)) pal_nil))))) pal_nil) rfl (by change lamW (defScope (top 41)) _ _ _ = true; decide +kernel))) (pai_consN pd_newD pai_nil)) rfl (pgs_cons (pg_name (i := 1) sc_law_levels.nd rfl (.inl rfl)) (pgs_cons (pg_name (i := 2) sc_law_levels.nd rfl (.inr rfl)) pgs_nil)) (fun _ _ a b => ps_asg a b))
    (sd_cons (sd_for (passes_of rfl) rfl (it_list (pd_v (pv 1))) (tg_name (i := 3) sc_law_levels.nd rfl (.inr rfl)) (sd_cons (sd_setLC (i := 4) (l := 2) (own := [("_law_k", 5)]) (vs := [5]) rfl sc_law_levels.nd rfl rfl (sw_true rfl rfl rfl (by decide +kernel)) (it_ldc (pd_v (pv 2))) rfl (blkOk_by (own := [("_law_k", 5)]) (N := N_law_levels) (sc := defScope (top 41)) (by decide +kernel)) (tgok_n 5) (fun _ _ _ _ _ => (tg_name (i := 5) sc_law_levels.nd rfl (.inl rfl))) (fun _ _ _ _ _ => (ptsd_one (pt_cmpD op_lt lt_r (val_look (pd_ix (pd_l (pv 0)) (pd_l (pv 5)))) (val_look (pd_ix (pd_l (pv 0)) (pd_l (pv 3)))) (nomark _)))) (fun _ _ _ _ _ => (pd_op op_addX add_r (val_look (pd_dgetK (hu1 hr) (pd_l (pv 2)) (pd_l (pv 5)))) (val_look (pd_callTy call_int1 int_r (by rfl) T.b_int (by decide +kernel) (pal_cons (val_look (pd_cmp op_lt lt_r (pd_l (pv 3)) (pd_l (pv 5)) (nomark _))) pal_nil))))))
    (sd_one (sd_dput (hu1 hr) (pv 2) (pd_l (pv 3)) (pd_callB (cr_max rfl) maxL_r (by rfl) T.b_max (by decide +kernel) (pal_cons (new_look (pd_opN op_cat cat_r (new_look (pd_lst (pad_cons pd_int pad_nil))) (pd_l (pv 4)))) pal_nil))))))
    (sd_seal (i := 2) (sd_one (sd_ret (pd_v (pv 2)))))))
/-! ### _law_pulls -/
abbrev N_law_pulls : List Str := ["_law_groups_here", "_law_tracks", "_law_told_here", "_law_steps", "_law_h", "_law_k"]
theorem sc_law_pulls : FnScope N_law_pulls ["_law_groups_here", "_law_tracks"] (defScope (top 42)) := ⟨rfl, rfl, rfl, by decide +kernel, rfl, by decide +kernel, by decide +kernel⟩
def den_law_pulls : FDen := fnD 2 4 (thenS (setS 2 (dCall den_law_levels (dCons (dV 0) dNil)))
    (thenS (parS [3, 4] (dCons (dItV (dBin addD (dC (.int 1)) (dCB (oneArg maxLD) (dCons (dN2V (dComp (dIt asLdc (dV 2)) [5] (tgN 5) dYes (dBin dgetK (dL 2) (dL 5)))) dNil)))) (dCons (dItV (dC (.int 0))) dNil)))
    (thenS (whileS (dT (dBin ltD (dCB (oneArg lenD) (dCons (dCall den_law_codes (dCons (dV 4) (dCons (dV 1) dNil))) dNil)) (dL 3))) (setS 4 (dBin addD (dL 4) (dC (.int 1)))) 100000)
    (retS (dV 4)))))
theorem ok_law_pulls (T : Txt K mg base) : Fd P w K mg base "_law_pulls" 4 2 den_law_pulls := by
  obtain ⟨a, fd, F, hm, hb⟩ := T.f_law_pulls
  refine Fd.mk' F sc_law_pulls hm hb rfl rfl fun cdv A outer s H E hr => ?_
  have tk := takes_of (X := cxOf (L2.CX P w) P w K mg base N_law_pulls "_law_pulls" (defScope (top 42)) a cdv A outer s H E) rfl rfl rfl rfl
  exact (sd_cons (sd_set (i := 2) sc_law_pulls.nd rfl (.inr rfl) (pd_call (ok_law_levels T) (hr.mono (by decide)) tk (by rfl) (pad_cons (pd_v (pv 0)) pad_nil) (dlen_cons dlen_nil)))
    (sd_cons (sd_par2 (i := 3) (j := 4) rfl sc_law_pulls.nd rfl rfl (by decide) rfl rfl (pai_consV (pd_op op_addX add_r (val_look pd_int) (val_look (pd_callB (cr_max rfl) maxL_r (by rfl) T.b_max (by decide +kernel) (pal_cons (new_look (pd_comp (own := [("_law_k", 5)]) (vs := [5]) rfl sc_law_pulls.nd (it_ldc (pd_v (pv 2))) rfl (blkOk_by (own := [("_law_k", 5)]) (N := N_law_pulls) (sc := defScope (top 42)) (by decide +kernel)) (tgok_n 5) (fun _ _ _ _ _ => (tg_name (i := 5) sc_law_pulls.nd rfl (.inl rfl))) (fun _ _ _ _ _ => ptsd_nil) (fun _ _ _ _ _ => (pd_dgetK (hu1 hr) (pd_l (pv 2)) (pd_l (pv 5)))))) pal_nil)))) (pai_consV pd_int pai_nil)) (by rfl))
    (sd_cons (sd_while 100000 (passes_of rfl) (pt_cmpD op_lt lt_r (val_look (pd_callB call_len_seq len_r (by rfl) T.b_len (by decide +kernel) (pal_cons (val_look (pd_call (ok_law_codes T) (hr.mono (by decide)) tk (by rfl) (pad_cons (pd_v (pv 4)) (pad_cons (pd_v (pv 1)) pad_nil)) (dlen_cons (dlen_cons dlen_nil)))) pal_nil))) (pd_l (pv 3)) (nomark _)) (sd_one (sd_set (i := 4) sc_law_pulls.nd rfl (.inl rfl) (pd_op op_addX add_r (pd_l (pv 4)) (val_look pd_int)))))
    (sd_one (sd_ret (pd_v (pv 4)))))))
/-! ### _law_mixes -/
abbrev N_law_mixes : List Str := ["_law_first", "_law_second", "_law_found", "_law_rest"]
theorem sc_law_mixes : FnScope N_law_mixes ["_law_first", "_law_second"] (defScope (top 43)) := ⟨rfl, rfl, rfl, by decide +kernel, rfl, by decide +kernel, by decide +kernel⟩
def den_law_mixes_n : Nat → FDen
  | 0 => fnD 2 2 fun _ _ => .bad
  | k + 1 => fnD 2 2 (thenS (ifS (dT (dBin eqD (dBin addD (dL 0) (dL 1)) (dC (.int 0)))) (retS (dN2V (dLst (dCons (dTup dNil) dNil)))) skipS)
    (thenS (setN 2 (dLst dNil))
    (thenS (ifS (dT (dBin gtD (dL 0) (dC (.int 0)))) (setN 2 (dComp (dIt asList (dCall (den_law_mixes_n k) (dCons (dBin subD (dL 0) (dC (.int 1))) (dCons (dV 1) dNil)))) [3] (tgN 3) dYes (dBin addD (dTup (dCons (dC (.int 0)) dNil)) (dL 3)))) skipS)
    (thenS (ifS (dT (dBin gtD (dL 1) (dC (.int 0)))) (setN 2 (dBinN catN (dL 2) (dN2V (dComp (dIt asList (dCall (den_law_mixes_n k) (dCons (dV 0) (dCons (dBin subD (dL 1) (dC (.int 1))) dNil)))) [3] (tgN 3) dYes (dBin addD (dTup (dCons (dC (.int 1)) dNil)) (dL 3)))))) skipS)
    (freezeS 2 (retS (dV 2)))))))
theorem ok_law_mixes_n (T : Txt K mg base) : ∀ k : Nat, Fd P w K mg base "_law_mixes" (1 + k) 2 (den_law_mixes_n k)
  | 0 => by
    obtain ⟨a, fd, F, hm, hb⟩ := T.f_law_mixes
    refine Fd.mk' F sc_law_mixes hm hb rfl rfl fun cdv A outer s H E hr => ?_
    exact pss_none -- := takes_of (X := cxOf (L2.CX P w) P w K mg base N_law_mixes "_law_mixes" (defScope (top 43)) a cdv A outer s H E) rfl rfl rfl rfl
  | k + 1 => by
    obtain ⟨a, fd, F, hm, hb⟩ := T.f_law_mixes
    refine Fd.mk' F sc_law_mixes hm hb rfl rfl fun cdv A outer s H E hr => ?_
    have tk := takes_of (X := cxOf (L2.CX P w) P w K mg base N_law_mixes "_law_mixes" (defScope (top 43)) a cdv A outer s H E) rfl rfl rfl rfl
    exact (sd_cons (sd_if (pt_cmpD (op_eqD hr.units) eq_r (val_look (pd_op op_addX add_r (pd_l (pv 0)) (pd_l (pv 1)))) (val_look pd_int) (nomark _)) (sd_one (sd_ret (new_val (pd_lst (pad_cons (pd_tup pad_nil) pad_nil))))) sd_nil)
    (sd_cons (sd_setN (i := 2) sc_law_mixes.nd rfl (.inl rfl) (pd_lst pad_nil))
    (sd_cons (sd_if (pt_cmpD op_gt gt_r (pd_l (pv 0)) (val_look pd_int) (nomark _)) (sd_one (sd_setC (i := 2) (own := [("_law_rest", 3)]) (vs := [3]) rfl sc_law_mixes.nd rfl rfl (sw_true rfl rfl rfl (by decide +kernel)) (it_list (pd_call (ok_law_mixes_n T k) (hr.mono (by show _ ≤ 1 + k; omega)) tk (by rfl) (pad_cons (pd_op op_sub sub_r (pd_l (pv 0)) (val_look pd_int)) (pad_cons (pd_v (pv 1)) pad_nil)) (dlen_cons (dlen_cons dlen_nil)))) rfl (blkOk_by (own := [("_law_rest", 3)]) (N := N_law_mixes) (sc := defScope (top 43)) (by decide +kernel)) (tgok_n 3) (fun _ _ _ _ _ => (tg_name (i := 3) sc_law_mixes.nd rfl (.inl rfl))) (fun _ _ _ _ _ => ptsd_nil) (fun _ _ _ _ _ => (pd_op op_addX add_r (val_look (pd_tup (pad_cons pd_int pad_nil))) (pd_l (pv 3)))))) sd_nil)
    (sd_cons (sd_if (pt_cmpD op_gt gt_r (pd_l (pv 1)) (val_look pd_int) (nomark _)) (sd_one (sd_setN (i := 2) sc_law_mixes.nd rfl (.inl rfl) (pd_opN op_cat cat_r (pd_l (pv 2)) (new_look (pd_comp (own := [("_law_rest", 3)]) (vs := [3]) rfl sc_law_mixes.nd (it_list (pd_call (ok_law_mixes_n T k) (hr.mono (by show _ ≤ 1 + k; omega)) tk (by rfl) (pad_cons (pd_v (pv 0)) (pad_cons (pd_op op_sub sub_r (pd_l (pv 1)) (val_look pd_int)) pad_nil)) (dlen_cons (dlen_cons dlen_nil)))) rfl (blkOk_by (own := [("_law_rest", 3)]) (N := N_law_mixes) (sc := defScope (top 43)) (by decide +kernel)) (tgok_n 3) (fun _ _ _ _ _ => (tg_name (i := 3) sc_law_mixes.nd rfl (.inl rfl))) (fun _ _ _ _ _ => ptsd_nil) (fun _ _ _ _ _ => (pd_op op_addX add_r (val_look (pd_tup (pad_cons pd_int pad_nil))) (pd_l (pv 3))))))))) sd_nil)
    (sd_freeze (i := 2) (sd_one (sd_ret (pd_v (pv 2)))))))))
def den_law_mixes : FDen := den_law_mixes_n 12
theorem ok_law_mixes (T : Txt K mg base) : Fd P w K mg base "_law_mixes" 13 2 den_law_mixes := ok_law_mixes_n T 12
/-! ### _law_come -/
abbrev N_law_come : List Str := ["_law_one", "_law_other", "_law_mix_here", "_law_left", "_law_right_here", "_law_found", "_law_which"]
theorem sc_law_come : FnScope N_law_come ["_law_one", "_law_other", "_law_mix_here"] (defScope (top 44)) := ⟨rfl, rfl, rfl, by decide +kernel, rfl, by decide +kernel, by decide +kernel⟩
def den_law_come : FDen := fnD 3 4 (thenS (parS [3, 4, 5] (dCons (dItN (dCB (oneArg listN) (dCons (dL 0) dNil))) (dCons (dItN (dCB (oneArg listN) (dCons (dL 1) dNil))) (dCons (dItN (dLst dNil)) dNil))))
    (thenS (forS (dIt asSeq (dV 2)) (tgN 6) (appPopS 5 3 4 (dT (dBin eqD (dL 6) (dC (.int 0))))))
    (retS (dCB (oneArg tupleD) (dCons (dL 5) dNil)))))
theorem ok_law_come (T : Txt K mg base) : Fd P w K mg base "_law_come" 1 3 den_law_come := by
  obtain ⟨a, fd, F, hm, hb⟩ := T.f_law_come
  refine Fd.mk' F sc_law_come hm hb rfl rfl fun cdv A outer s H E hr => ?_
  have tk := takes_of (X := cxOf (L2.CX P w) P w K mg base N_law_come "_law_come" (defScope (top 44)) a cdv A outer s H E) rfl rfl rfl rfl
  exact (sd_cons (sd_par3 (i := 3) (j := 4) (k := 5) rfl sc_law_come.nd rfl rfl rfl (by decide) (by decide) (by decide) rfl rfl rfl (pai_consN (pd_callTyN call_list_of list_r (by rfl) T.b_list (by decide +kernel) (pal_cons (pd_l (pv 0)) pal_nil)) (pai_consN (pd_callTyN call_list_of list_r (by rfl) T.b_list (by decide +kernel) (pal_cons (pd_l (pv 1)) pal_nil)) (pai_consN (pd_lst pad_nil) pai_nil))) (by rfl))
    (sd_cons (sd_for (passes_of rfl) rfl (it_seq (pd_v (pv 2))) (tg_name (i := 6) sc_law_come.nd rfl (.inl rfl)) (sd_one (sd_appPop (i := 5) (l := 3) (r := 4) (by decide) (by decide) (pt_cmpD (op_eqD hr.units) eq_r (pd_l (pv 6)) (val_look pd_int) (nomark _)) (fun a => ps_expr (pe_bm PySem.F.plainAttrs_list PySem.F.slot_list_append PySem.F.type_list_append mt_append (pv 5) (pa_cons (pe_ifExp a (pe_bm PySem.F.plainAttrs_list PySem.F.slot_list_pop PySem.F.type_list_pop mt_popAt (pv 3) (pa_cons pe_int pa_nil)) (pe_bm PySem.F.plainAttrs_list PySem.F.slot_list_pop PySem.F.type_list_pop mt_popAt (pv 4) (pa_cons pe_int pa_nil))) pa_nil))))))
    (sd_one (sd_ret (pd_callTy call_tuple_of tuple_r (by rfl) T.b_tuple (by decide +kernel) (pal_cons (pd_l (pv 5)) pal_nil))))))
/-! ### _law_told -/
abbrev N_law_told : List Str := ["_law_one", "_law_other", "_law_mix_here"]
theorem sc_law_told : FnScope N_law_told ["_law_one", "_law_other", "_law_mix_here"] (defScope (top 45)) := ⟨rfl, rfl, rfl, by decide +kernel, rfl, by decide +kernel, by decide +kernel⟩
def den_law_told : FDen := fnD 3 0 (tryS As (retS (dOwn1 den_Row_groups (dCall den_mixed (dCons (dV 0) (dCons (dV 1) (dCons (dV 2) dNil)))))) [("BadMix", (retS (dC (.str "mix")))), ("TooLarge", (retS (dC (.str "large"))))])
theorem ok_law_told (T : Txt K mg base) : Fd P w K mg base "_law_told" 6 3 den_law_told := by
  obtain ⟨a, fd, F, hm, hb⟩ := T.f_law_told
  refine Fd.mk' F sc_law_told hm hb rfl rfl fun cdv A outer s H E hr => ?_
  have tk := takes_of (X := cxOf (L2.CX P w) P w K mg base N_law_told "_law_told" (defScope (top 45)) a cdv A outer s H E) rfl rfl rfl rfl
  exact (sd_one (sd_try rfl rfl T.err tk (fun W pn xe tk po => (sd_one (sd_ret (pd_prop T.row T.p_Row_groups (ok_Row_groups T) (hr.mono (by decide)) (pd_call (ok_mixed T) (hr.mono (by decide)) tk (by rfl) (pad_cons (pd_v (pv 0)) (pad_cons (pd_v (pv 1)) (pad_cons (pd_v (pv 2)) pad_nil))) (dlen_cons (dlen_cons (dlen_cons dlen_nil)))))))) (hd_cons (c := "BadMix") T.err (by decide) (by rfl) (fun a oe pn => (sd_one (sd_ret pd_str))) (hd_cons (c := "TooLarge") T.err (by decide) (by rfl) (fun a oe pn => (sd_one (sd_ret pd_str))) hd_nil)) (List.forall_mem_cons.mpr ⟨by decide, (List.forall_mem_cons.mpr ⟨by decide, (fun _ h => nomatch h)⟩)⟩)))
/-! ### _law_large -/
abbrev N_law_large : List Str := ["_law_one", "_law_other"]
theorem sc_law_large : FnScope N_law_large ["_law_one", "_law_other"] (defScope (top 46)) := ⟨rfl, rfl, rfl, by decide +kernel, rfl, by decide +kernel, by decide +kernel⟩
def den_law_large : FDen := fnD 2 0 (thenS (tryS As (exprS (dCall den_mixed_rows (dCons (dV 0) (dCons (dV 1) (dCons (dC (.int 1)) dNil))))) [("TooLarge", (retS (dC (.bl true))))])
    (retS (dC (.bl false))))
theorem ok_law_large (T : Txt K mg base) : Fd P w K mg base "_law_large" 7 2 den_law_large := by
  obtain ⟨a, fd, F, hm, hb⟩ := T.f_law_large
  refine Fd.mk' F sc_law_large hm hb rfl rfl fun cdv A outer s H E hr => ?_
  have tk := takes_of (X := cxOf (L2.CX P w) P w K mg base N_law_large "_law_large" (defScope (top 46)) a cdv A outer s H E) rfl rfl rfl rfl
  exact (sd_cons (sd_try rfl rfl T.err tk (fun W pn xe tk po => (sd_one (sd_expr (pd_call (ok_mixed_rows T) (hr.mono (by decide)) tk (by rfl) (pad_cons (pd_v (pv 0)) (pad_cons (pd_v (pv 1)) (pad_cons pd_int pad_nil))) (dlen_cons (dlen_cons (dlen_cons dlen_nil))))))) (hd_cons (c := "TooLarge") T.err (by decide) (by rfl) (fun a oe pn => (sd_one (sd_ret pd_bl))) hd_nil) (List.forall_mem_cons.mpr ⟨by decide, (fun _ h => nomatch h)⟩))
    (sd_one (sd_ret pd_bl)))
/-! ### law -/
abbrev N_law : List Str := ["_law_script", "_law_h", "_law_far", "_law_one", "_law_other", "_law_tracks", "_law_best", "_law_mix_here", "_law_pulls_here", "_law_k", "_law_spot", "_law_odd"]
theorem sc_law : FnScope N_law ["_law_script"] (defScope (top 47)) := ⟨rfl, rfl, rfl, by decide +kernel, rfl, by decide +kernel, by decide +kernel⟩
def den_law : FDen := fnD 1 11 (thenS (setS 1 (dCall den_law_mix (dCons (dV 0) (dCons (dC (.int 16)) dNil))))
    (thenS (setS 2 (dBin ixD (dN2V (dLst (dCons (dC (.int 3)) (dCons (dC (.int 4)) (dCons (dC (.int 5)) dNil))))) (dCall den_law_next (dCons (dV 1) (dCons (dC (.int 3)) dNil)))))
    (thenS (parS [3, 4] (dCons (dItV (dCall den_law_groups (dCons (dV 1) (dCons (dV 2) dNil)))) (dCons (dItV (dCall den_law_groups (dCons (dV 1) (dCons (dBin subD (dL 2) (dC (.int 1))) dNil)))) dNil)))
    (thenS (parS [5, 6] (dCons (dItV (dBin addD (dC (.int 1)) (dCall den_law_next (dCons (dV 1) (dCons (dC (.int 4)) dNil))))) (dCons (dItV (dC .non)) dNil)))
    (thenS (forS (dIt asList (dCall den_law_mixes (dCons (dCB (oneArg lenD) (dCons (dL 3) dNil)) (dCons (dCB (oneArg lenD) (dCons (dL 4) dNil)) dNil)))) (tgN 7) (thenS (setS 8 (dCall den_law_pulls (dCons (dCall den_law_come (dCons (dV 3) (dCons (dV 4) (dCons (dV 7) dNil)))) (dCons (dV 5) dNil))))
    (ifS (dOrT (dT (dBin isNonD (dL 6) (dC .non))) (dT (dBin ltD (dL 8) (dBin ixD (dL 6) (dC (.int 0)))))) (setS 6 (dTup (dCons (dV 8) (dCons (dV 7) dNil)))) skipS)))
    (thenS (ifS (dT (dBin neD (dCall den_mixed_rows (dCons (dMkRow (dV 3)) (dCons (dMkRow (dV 4)) (dCons (dV 5) dNil)))) (dL 6))) (retS (dC (.bl false))) skipS)
    (thenS (parS [3, 4] (dCons (dItV (dCall den_law_groups (dCons (dV 1) (dCons (dC (.int 9)) dNil)))) (dCons (dItV (dCall den_law_groups (dCons (dV 1) (dCons (dC (.int 6)) dNil)))) dNil)))
    (thenS (ifS (dT (dBin neD (dCall den_law_large (dCons (dMkRow (dV 3)) (dCons (dMkRow (dV 4)) dNil))) (dBin gtD (dCB (oneArg lenD) (dCons (dL 3) dNil)) (dC (.int 6))))) (retS (dC (.bl false))) skipS)
    (thenS (setS 7 (dN2V (dBinN repN (dN2V (dLst (dCons (dC (.int 0)) dNil))) (dCB (oneArg lenD) (dCons (dL 3) dNil)))))
    (thenS (forS (dRng rng1 (dCons (dCB (oneArg lenD) (dCons (dL 4) dNil)) dNil)) (tgN 9) (thenS (setS 10 (dCall den_law_next (dCons (dV 1) (dCons (dBin addD (dCB (oneArg lenD) (dCons (dL 7) dNil)) (dC (.int 1))) dNil))))
    (setS 7 (dN2V (dBinN catN (dN2V (dBinN catN (dN2V (dSl slN (dL 7) dNoPart (dPart (dL 10)))) (dN2V (dLst (dCons (dC (.int 1)) dNil))))) (dN2V (dSl slN (dL 7) (dPart (dL 10)) dNoPart)))))))
    (thenS (ifS (dT (dBin gtD (dCB (oneArg lenD) (dCons (dL 7) dNil)) (dC (.int 12)))) (retS (dBin eqD (dCall den_law_told (dCons (dMkRow (dV 3)) (dCons (dMkRow (dV 4)) (dCons (dCB (oneArg tupleD) (dCons (dL 7) dNil)) dNil)))) (dC (.str "large")))) skipS)
    (thenS (ifS (dT (dBin neD (dCall den_law_told (dCons (dMkRow (dV 3)) (dCons (dMkRow (dV 4)) (dCons (dCB (oneArg tupleD) (dCons (dL 7) dNil)) dNil)))) (dCall den_law_come (dCons (dV 3) (dCons (dV 4) (dCons (dV 7) dNil)))))) (retS (dC (.bl false))) skipS)
    (thenS (setN 11 (dLst (dCons (dV 7) (dCons (dC .non) (dCons (dBin addD (dCB (oneArg tupleD) (dCons (dL 7) dNil)) (dTup (dCons (dC (.int 0)) dNil))) (dCons (dSl slT (dCB (oneArg tupleD) (dCons (dL 7) dNil)) (dPart (dC (.int 1))) dNoPart) (dCons (dBin repTD (dTup (dCons (dC (.int 1)) dNil)) (dBin addD (dCB (oneArg lenD) (dCons (dL 7) dNil)) (dC (.int 1)))) (dCons (dBin repTD (dTup (dCons (dC (.bl true)) dNil)) (dCB (oneArg lenD) (dCons (dL 7) dNil))) dNil))))))))
    (thenS (appS 11 (dCons (dBin addD (dCB (oneArg tupleD) (dCons (dN2V (dSl slN (dL 7) dNoPart (dPart (dUn negD (dC (.int 1)))))) dNil)) (dTup (dCons (dBin subD (dC (.int 1)) (dBin ixD (dL 7) (dUn negD (dC (.int 1))))) dNil))) dNil))
    (retS (dBin eqD (dCall den_law_told (dCons (dMkRow (dV 3)) (dCons (dMkRow (dV 4)) (dCons (dBin ixD (dL 11) (dCall den_law_next (dCons (dV 1) (dCons (dC (.int 7)) dNil)))) dNil)))) (dC (.str "mix"))))))))))))))))))
theorem ok_law {a : Addr} {fd : FuncData} (F : FunD K "law" "law" (defArgs (top 47)) (defBody (top 47)) (defScope (top 47)) [] [] a fd) (T : Txt K mg base) : FnOk P w K mg base (L2.CX P w) 14 a fd ["_law_script"] (spF K mg 1 den_law) := by
  refine Fd.mkF F sc_law rfl rfl fun cdv A outer s H E hr => ?_
  have tk := takes_of (X := cxOf (L2.CX P w) P w K mg base N_law "law" (defScope (top 47)) a cdv A outer s H E) rfl rfl rfl rfl
  exact (sd_cons (sd_set (i := 1) sc_law.nd rfl (.inl rfl) (pd_call (ok_law_mix T) (hr.mono (by decide)) tk (by rfl) (pad_cons (pd_v (pv 0)) (pad_cons pd_int pad_nil)) (dlen_cons (dlen_cons dlen_nil))))
    (sd_cons (sd_set (i := 2) sc_law.nd rfl (.inl rfl) (pd_ix (new_look (pd_lst (pad_cons pd_int (pad_cons pd_int (pad_cons pd_int pad_nil))))) (val_look (pd_call (ok_law_next T) (hr.mono (by decide)) tk (by rfl) (pad_cons (pd_v (pv 1)) (pad_cons pd_int pad_nil)) (dlen_cons (dlen_cons dlen_nil))))))
    (sd_cons (sd_par2 (i := 3) (j := 4) rfl sc_law.nd rfl rfl (by decide) rfl rfl (pai_consV (pd_call (ok_law_groups T) (hr.mono (by decide)) tk (by rfl) (pad_cons (pd_v (pv 1)) (pad_cons (pd_v (pv 2)) pad_nil)) (dlen_cons (dlen_cons dlen_nil))) (pai_consV (pd_call (ok_law_groups T) (hr.mono (by decide)) tk (by rfl) (pad_cons (pd_v (pv 1)) (pad_cons (pd_op op_sub sub_r (pd_l (pv 2)) (val_look pd_int)) pad_nil)) (dlen_cons (dlen_cons dlen_nil))) pai_nil)) (by rfl))
    (sd_cons (sd_par2 (i := 5) (j := 6) rfl sc_law.nd rfl rfl (by decide) rfl rfl (pai_consV (pd_op op_addX add_r (val_look pd_int) (val_look (pd_call (ok_law_next T) (hr.mono (by decide)) tk (by rfl) (pad_cons (pd_v (pv 1)) (pad_cons pd_int pad_nil)) (dlen_cons (dlen_cons dlen_nil))))) (pai_consV pd_non pai_nil)) (by rfl))
    (sd_cons (sd_for (passes_of rfl) rfl (it_list (pd_call (ok_law_mixes T) (hr.mono (by decide)) tk (by rfl) (pad_cons (pd_callB call_len_seq len_r (by rfl) T.b_len (by decide +kernel) (pal_cons (pd_l (pv 3)) pal_nil)) (pad_cons (pd_callB call_len_seq len_r (by rfl) T.b_len (by decide +kernel) (pal_cons (pd_l (pv 4)) pal_nil)) pad_nil)) (dlen_cons (dlen_cons dlen_nil)))) (tg_name (i := 7) sc_law.nd rfl (.inl rfl)) (sd_cons (sd_set (i := 8) sc_law.nd rfl (.inl rfl) (pd_call (ok_law_pulls T) (hr.mono (by decide)) tk (by rfl) (pad_cons (pd_call (ok_law_come T) (hr.mono (by decide)) tk (by rfl) (pad_cons (pd_v (pv 3)) (pad_cons (pd_v (pv 4)) (pad_cons (pd_v (pv 7)) pad_nil))) (dlen_cons (dlen_cons (dlen_cons dlen_nil)))) (pad_cons (pd_v (pv 5)) pad_nil)) (dlen_cons (dlen_cons dlen_nil))))
    (sd_one (sd_if (PW.pt (pwd_or (pt_cmpD op_isN isnon_r (pd_l (pv 6)) (val_look pd_non) (nomark _)) (pw_or1 (pt_cmpD op_lt lt_r (pd_l (pv 8)) (val_look (pd_ix (pd_l (pv 6)) (val_look pd_int))) (nomark _))))) (sd_one (sd_set (i := 6) sc_law.nd rfl (.inl rfl) (pd_tup (pad_cons (pd_v (pv 8)) (pad_cons (pd_v (pv 7)) pad_nil))))) sd_nil))))
    (sd_cons (sd_if (pt_cmpD (op_neD hr.units) ne_r (val_look (pd_call (ok_mixed_rows T) (hr.mono (by decide)) tk (by rfl) (pad_cons (pd_mkRow T.row T.mk_Row (ok_Row___init__ T) rowInit (hr.mono (by decide)) tk (by rfl) (pd_v (pv 3))) (pad_cons (pd_mkRow T.row T.mk_Row (ok_Row___init__ T) rowInit (hr.mono (by decide)) tk (by rfl) (pd_v (pv 4))) (pad_cons (pd_v (pv 5)) pad_nil))) (dlen_cons (dlen_cons (dlen_cons dlen_nil))))) (pd_l (pv 6)) (nomark _)) (sd_one (sd_ret pd_bl)) sd_nil)
    (sd_cons (sd_par2 (i := 3) (j := 4) rfl sc_law.nd rfl rfl (by decide) rfl rfl (pai_consV (pd_call (ok_law_groups T) (hr.mono (by decide)) tk (by rfl) (pad_cons (pd_v (pv 1)) (pad_cons pd_int pad_nil)) (dlen_cons (dlen_cons dlen_nil))) (pai_consV (pd_call (ok_law_groups T) (hr.mono (by decide)) tk (by rfl) (pad_cons (pd_v (pv 1)) (pad_cons pd_int pad_nil)) (dlen_cons (dlen_cons dlen_nil))) pai_nil)) (by rfl))
    (sd_cons (sd_if (pt_cmpD (op_neD hr.units) ne_r (val_look (pd_call (ok_law_large T) (hr.mono (by decide)) tk (by rfl) (pad_cons (pd_mkRow T.row T.mk_Row (ok_Row___init__ T) rowInit (hr.mono (by decide)) tk (by rfl) (pd_v (pv 3))) (pad_cons (pd_mkRow T.row T.mk_Row (ok_Row___init__ T) rowInit (hr.mono (by decide)) tk (by rfl) (pd_v (pv 4))) pad_nil)) (dlen_cons (dlen_cons dlen_nil)))) (val_look (pd_cmp op_gt gt_r (val_look (pd_callB call_len_seq len_r (by rfl) T.b_len (by decide +kernel) (pal_cons (pd_l (pv 3)) pal_nil))) (val_look pd_int) (nomark _))) (nomark _)) (sd_one (sd_ret pd_bl)) sd_nil)
    (sd_cons (sd_set (i := 7) sc_law.nd rfl (.inl rfl) (new_val (pd_opN op_rep rep_r (new_look (pd_lst (pad_cons pd_int pad_nil))) (val_look (pd_callB call_len_seq len_r (by rfl) T.b_len (by decide +kernel) (pal_cons (pd_l (pv 3)) pal_nil))))))
    (sd_cons (sd_for (passes_of rfl) rfl (it_rng1 (by rfl) T.b_range (pal_cons (val_look (pd_callB call_len_seq len_r (by rfl) T.b_len (by decide +kernel) (pal_cons (pd_l (pv 4)) pal_nil))) pal_nil)) (tg_name (i := 9) sc_law.nd rfl (.inl rfl)) (sd_cons (sd_set (i := 10) sc_law.nd rfl (.inl rfl) (pd_call (ok_law_next T) (hr.mono (by decide)) tk (by rfl) (pad_cons (pd_v (pv 1)) (pad_cons (pd_op op_addX add_r (val_look (pd_callB call_len_seq len_r (by rfl) T.b_len (by decide +kernel) (pal_cons (pd_l (pv 7)) pal_nil))) (val_look pd_int)) pad_nil)) (dlen_cons (dlen_cons dlen_nil))))
    (sd_one (sd_set (i := 7) sc_law.nd rfl (.inl rfl) (new_val (pd_opN op_cat cat_r (new_look (pd_opN op_cat cat_r (new_look (pd_slN (pd_l (pv 7)) pod_none (pod_some (pd_l (pv 10))))) (new_look (pd_lst (pad_cons pd_int pad_nil))))) (new_look (pd_slN (pd_l (pv 7)) (pod_some (pd_l (pv 10))) pod_none))))))))
    (sd_cons (sd_if (pt_cmpD op_gt gt_r (val_look (pd_callB call_len_seq len_r (by rfl) T.b_len (by decide +kernel) (pal_cons (pd_l (pv 7)) pal_nil))) (val_look pd_int) (nomark _)) (sd_one (sd_ret (pd_cmp (op_eqD hr.units) eq_r (val_look (pd_call (ok_law_told T) (hr.mono (by decide)) tk (by rfl) (pad_cons (pd_mkRow T.row T.mk_Row (ok_Row___init__ T) rowInit (hr.mono (by decide)) tk (by rfl) (pd_v (pv 3))) (pad_cons (pd_mkRow T.row T.mk_Row (ok_Row___init__ T) rowInit (hr.mono (by decide)) tk (by rfl) (pd_v (pv 4))) (pad_cons (pd_callTy call_tuple_of tuple_r (by rfl) T.b_tuple (by decide +kernel) (pal_cons (pd_l (pv 7)) pal_nil)) pad_nil))) (dlen_cons (dlen_cons (dlen_cons dlen_nil))))) (val_look pd_str) (nomark _)))) sd_nil)
    (sd_cons (sd_if (pt_cmpD (op_neD hr.units) ne_r (val_look (pd_call (ok_law_told T) (hr.mono (by decide)) tk (by rfl) (pad_cons (pd_mkRow T.row T.mk_Row (ok_Row___init__ T) rowInit (hr.mono (by decide)) tk (by rfl) (pd_v (pv 3))) (pad_cons (pd_mkRow T.row T.mk_Row (ok_Row___init__ T) rowInit (hr.mono (by decide)) tk (by rfl) (pd_v (pv 4))) (pad_cons (pd_callTy call_tuple_of tuple_r (by rfl) T.b_tuple (by decide +kernel) (pal_cons (pd_l (pv 7)) pal_nil)) pad_nil))) (dlen_cons (dlen_cons (dlen_cons dlen_nil))))) (val_look (pd_call (ok_law_come T) (hr.mono (by decide)) tk (by rfl) (pad_cons (pd_v (pv 3)) (pad_cons (pd_v (pv 4)) (pad_cons (pd_v (pv 7)) pad_nil))) (dlen_cons (dlen_cons (dlen_cons dlen_nil))))) (nomark _)) (sd_one (sd_ret pd_bl)) sd_nil)
    (sd_cons (sd_setN (i := 11) sc_law.nd rfl (.inl rfl) (pd_lst (pad_cons (pd_v (pv 7)) (pad_cons pd_non (pad_cons (pd_op op_addX add_r (val_look (pd_callTy call_tuple_of tuple_r (by rfl) T.b_tuple (by decide +kernel) (pal_cons (pd_l (pv 7)) pal_nil))) (val_look (pd_tup (pad_cons pd_int pad_nil)))) (pad_cons (pd_slT (val_look (pd_callTy call_tuple_of tuple_r (by rfl) T.b_tuple (by decide +kernel) (pal_cons (pd_l (pv 7)) pal_nil))) (pod_some (val_look pd_int)) pod_none) (pad_cons (pd_op op_repT repT_r (val_look (pd_tup (pad_cons pd_int pad_nil))) (val_look (pd_op op_addX add_r (val_look (pd_callB call_len_seq len_r (by rfl) T.b_len (by decide +kernel) (pal_cons (pd_l (pv 7)) pal_nil))) (val_look pd_int)))) (pad_cons (pd_op op_repT repT_r (val_look (pd_tup (pad_cons pd_bl pad_nil))) (val_look (pd_callB call_len_seq len_r (by rfl) T.b_len (by decide +kernel) (pal_cons (pd_l (pv 7)) pal_nil)))) pad_nil))))))))
    (sd_cons (sd_append (pv 11) (pad_cons (pd_op op_addX add_r (val_look (pd_callTy call_tuple_of tuple_r (by rfl) T.b_tuple (by decide +kernel) (pal_cons (new_look (pd_slN (pd_l (pv 7)) pod_none (pod_some (val_look (pd_neg (val_look pd_int)))))) pal_nil))) (val_look (pd_tup (pad_cons (pd_op op_sub sub_r (val_look pd_int) (val_look (pd_ix (pd_l (pv 7)) (val_look (pd_neg (val_look pd_int)))))) pad_nil)))) pad_nil) (fun _ _ a b => ps_expr (pe_bm PySem.F.plainAttrs_list PySem.F.slot_list_append PySem.F.type_list_append mt_append a b)))
    (sd_one (sd_ret (pd_cmp (op_eqD hr.units) eq_r (val_look (pd_call (ok_law_told T) (hr.mono (by decide)) tk (by rfl) (pad_cons (pd_mkRow T.row T.mk_Row (ok_Row___init__ T) rowInit (hr.mono (by decide)) tk (by rfl) (pd_v (pv 3))) (pad_cons (pd_mkRow T.row T.mk_Row (ok_Row___init__ T) rowInit (hr.mono (by decide)) tk (by rfl) (pd_v (pv 4))) (pad_cons (pd_ix (pd_l (pv 11)) (val_look (pd_call (ok_law_next T) (hr.mono (by decide)) tk (by rfl) (pad_cons (pd_v (pv 1)) (pad_cons pd_int pad_nil)) (dlen_cons (dlen_cons dlen_nil))))) pad_nil))) (dlen_cons (dlen_cons (dlen_cons dlen_nil))))) (val_look pd_str) (nomark _))))))))))))))))))
end
end L_k16
namespace L_k16
open PySem PySem.Spec PyProof.Rows L2 PD
def endsL (t : Nat) : Nat → List Int
  | 0 => [1]
  | n + 1 => endsL t n ++ [((endsL t n).drop ((endsL t n).length - t)).sum]
theorem ends_len (t : Nat) : ∀ n, (endsL t n).length = n + 1
  | 0 => rfl
  | n + 1 => by rw [endsL, List.length_append, ends_len t n]; rfl
theorem is_integer_ok (i : Int) (m : List Ob) : den_is_integer [.int i] m = .ok (.bl true, m) := rfl
theorem is_from_ok (v lo hi : Int) (m : List Ob) (h1 : lo ≤ v) (h2 : v ≤ hi) : den_is_from [.int v, .int lo, .int hi] m = .ok (.bl true, m) := by
  refine fnD_rt rfl ?_
  simp [is_integer_ok, h1, h2]
theorem check_tracks_ok (t : Int) (m : List Ob) (h1 : 1 ≤ t) (h2 : t ≤ 4) : den_check_tracks [.int t] m = .ok (.non, m) := by
  refine fnD_nx (ρ' := [.sh (.int t)]) rfl ?_
  simp [is_from_ok, h1, h2]
theorem cut_lo {α : Type} (xs : List α) (k : Nat) (h : k ≤ xs.length) : cut xs (some (k : Int)) none = xs.drop k := by
  unfold cut
  rw [HT.sIx_nat, HT.sIx_none, Nat.min_eq_left h]
  exact List.take_of_length_le (by rw [List.length_drop]; omega)
theorem cut_neg {α : Type} (xs : List α) (k : Nat) (h : 0 < k) : cut xs (some (-(k : Int))) none = xs.drop (xs.length - k) := by
  have e : HT.sIx xs.length 0 (some (-(k : Int))) = xs.length - k := by
    show (if (-(k : Int)) < 0 then ((-(k : Int)) + (xs.length : Int)).toNat else min (-(k : Int)).toNat xs.length) = _
    rw [if_pos (by omega)]
    omega
  unfold cut
  rw [e, HT.sIx_none]
  exact List.take_of_length_le (by rw [List.length_drop]; omega)
theorem longer_ok (t : Nat) (n : Nat) (m : List Ob) (ht : 0 < t) (hn : n < 1000000) : den_longer_ends [.lst ((endsL t n).map .int), .int (t : Int)] m = .ok (.lst ((endsL t (n + 1)).map .int), m) := by
  refine fnD_rt rfl ?_
  have e : sumD (.lst (cut ((endsL t n).map D.int) (some (-(t : Int))) none)) = .ok (.int ((endsL t n).drop ((endsL t n).length - t)).sum) := by
    rw [cut_neg _ _ ht, ← List.map_drop, sumD_ints, List.length_map]
  have hl2 : (endsL t n).length + 1 ≤ 16777216 := by rw [ends_len]; omega
  simp [e, hl2, endsL]
theorem reach_loop (t : Nat) (m : List Ob) (ht : 0 < t) (s0 : Slot) (s1 : Slot) : ∀ (ds : List D) (n : Nat) (x : Slot), n + ds.length < 1000000 → ∃ x', loopS (tgN 3) (setS 2 (dCall den_longer_ends (dCons (dV 2) (dCons (dV 1) dNil)))) ds [s0, .sh (.int (t : Int)), .sh (.lst ((endsL t n).map .int)), x] m = .nx [s0, .sh (.int (t : Int)), .sh (.lst ((endsL t (n + ds.length)).map .int)), x'] m
  | [], n, x, _ => ⟨x, rfl⟩
  | d :: ds, n, x, h => by
    have h' : n + (ds.length + 1) < 1000000 := h
    obtain ⟨x', e⟩ := reach_loop t m ht s0 s1 ds (n + 1) (.sh d) (by omega)
    refine ⟨x', ?_⟩
    rw [loopS]
    simp only [tgN_ev, List.set, setS_ev, dCall_ev, dCons_ev, dV_ev, dNil_ev, slotAt_0, slotAt_s, bind_ok, longer_ok t n m ht (by omega), bindS_ok]
    rw [e, List.length_cons, show n + 1 + ds.length = n + (ds.length + 1) by omega]
theorem reach_ok (h t : Nat) (m : List Ob) (hh : h ≤ 200) (h1 : 0 < t) (h2 : t ≤ 4) : den_reach [.int (h : Int), .int (t : Int)] m = .ok (.int (endsL t h).sum, m) := by
  obtain ⟨x', e⟩ := reach_loop t m h1 (.sh (.int (h : Int))) .non ((List.range h).map fun (k : Nat) => D.int (k : Int)) 0 .non (by simp; omega)
  refine fnD_rt (d := .int (endsL t h).sum) rfl ?_
  have q0 := rng1_nat (show h < 2 ^ 62 by omega)
  have q1 := is_from_ok (h : Int) 0 200 m (by omega) (by omega)
  have q2 := check_tracks_ok (t : Int) m (by omega) (by omega)
  have e1 : endsL t 0 = [1] := rfl
  have e2 := sumD_ints (endsL t h)
  rw [e1, List.length_map, List.length_range, Nat.zero_add] at e
  simp only [List.map_cons, List.map_nil] at e
  simp [q0, q1, q2, e, e2]
theorem lreach_loop (t : Nat) (m : List Ob) (ht : 0 < t) (s0 : Slot) : ∀ (ds : List D) (n : Nat) (x : Slot), n + ds.length < 1000000 → ∃ x', loopS (tgN 3) (appS 2 (dCons (dCB (oneArg sumD) (dCons (dN2V (dSl slN (dL 2) (dPart (dCB (twoArg max2D) (dCons (dC (.int 0)) (dCons (dBin subD (dCB (oneArg lenD) (dCons (dL 2) dNil)) (dL 1)) dNil)))) dNoPart)) dNil)) dNil)) ds [s0, .sh (.int (t : Int)), .own (.lst ((endsL t n).map .int)), x] m = .nx [s0, .sh (.int (t : Int)), .own (.lst ((endsL t (n + ds.length)).map .int)), x'] m
  | [], n, x, _ => ⟨x, rfl⟩
  | d :: ds, n, x, h => by
    have h' : n + (ds.length + 1) < 1000000 := h
    obtain ⟨x', e⟩ := lreach_loop t m ht s0 ds (n + 1) (.sh d) (by omega)
    refine ⟨x', ?_⟩
    rw [loopS]
    have e3 : max2D (.int 0) (.int ((((endsL t n).map D.int).length : Int) - (t : Int))) = .ok (.int (((endsL t n).length - t : Nat) : Int)) := by
      rw [List.length_map]
      show Res.ok (D.int (if ((endsL t n).length : Int) - (t : Int) > 0 then ((endsL t n).length : Int) - (t : Int) else 0)) = _
      congr 2
      split <;> omega
    have e4 : sumD (.lst (cut ((endsL t n).map D.int) (some (((endsL t n).length - t : Nat) : Int)) none)) = .ok (.int ((endsL t n).drop ((endsL t n).length - t)).sum) := by
      rw [cut_lo _ _ (by rw [List.length_map]; omega), ← List.map_drop, sumD_ints]
    have hl2 : ((endsL t n).map D.int).length < 16777216 := by rw [List.length_map, ends_len]; omega
    simp only [tgN_ev, List.set, appS_ev, dCall_ev, dCons_ev, dV_ev, dL_ev, dNil_ev, slotAt_0, slotAt_s, bind_ok, bindS_ok, dCB_ev, dN2V_ev, dSl_ev, dPart_ev, dC_ev, dBin_ev, oneArg_ev, twoArg_ev, contd_lst, lenD_lst, subD_int, e3, dNoPart_ev, slN_lst, e4, if_pos hl2]
    have e5 : (endsL t n).map D.int ++ [D.int ((endsL t n).drop ((endsL t n).length - t)).sum] = (endsL t (n + 1)).map D.int := by rw [endsL, List.map_append]; rfl
    rw [e5, e, List.length_cons, show n + 1 + ds.length = n + (ds.length + 1) by omega]
def tot (t n : Nat) : Int := (endsL t n).sum
theorem ends_last (t n : Nat) : atI ((endsL t n).map D.int) (-1) = ((endsL t n).getLast?).map D.int := by
  have hl := ends_len t n
  unfold atI ixN
  rw [if_neg (by decide), List.length_map, if_pos (by omega), hl, show ((-1 : Int) + ((n + 1 : Nat) : Int)).toNat = n by omega]
  show ((endsL t n).map D.int)[n]? = _
  rw [List.getElem?_map, List.getLast?_eq_getElem?, hl]
  rfl
theorem tot_succ (t n : Nat) : tot t (n + 1) = tot t n + ((endsL t n).drop ((endsL t n).length - t)).sum := by
  unfold tot
  rw [endsL, List.sum_append]
  simp
theorem last_succ (t n : Nat) : (endsL t (n + 1)).getLast? = some ((endsL t n).drop ((endsL t n).length - t)).sum := by
  rw [endsL, List.getLast?_append]
  rfl
theorem any_loop (t N : Nat) (m : List Ob) (ht : 0 < t) : ∀ (k n F : Nat), (N : Int) ≤ tot t (n + k) → k < F → n + k < 900000 → ∃ j : Nat, n ≤ j ∧ j ≤ n + k ∧ (N : Int) ≤ tot t j ∧ (j = n ∨ tot t (j - 1) < N) ∧
    whileS (dT (dBin ltD (dL 3) (dL 0))) (thenS (setS 2 (dCall den_longer_ends (dCons (dV 2) (dCons (dV 1) dNil)))) (augS 3 ipAddD (dBin ixD (dL 2) (dUn negD (dC (.int 1)))))) F [.sh (.int (N : Int)), .sh (.int (t : Int)), .sh (.lst ((endsL t n).map .int)), .sh (.int (tot t n))] m
      = .nx [.sh (.int (N : Int)), .sh (.int (t : Int)), .sh (.lst ((endsL t j).map .int)), .sh (.int (tot t j))] m := by
  intro k
  induction k with
  | zero =>
    intro n F h hF hk
    obtain ⟨F, rfl⟩ : ∃ F', F = F' + 1 := ⟨F - 1, by omega⟩
    refine ⟨n, Nat.le_refl _, Nat.le_refl _, h, .inl rfl, while_stop ?_⟩
    have : ¬ tot t n < (N : Int) := by have h' : (N : Int) ≤ tot t n := h; omega
    simp [this]
  | succ k ih =>
    intro n F h hF hk
    obtain ⟨F, rfl⟩ : ∃ F', F = F' + 1 := ⟨F - 1, by omega⟩
    by_cases hs : tot t n < (N : Int)
    · obtain ⟨j, h1, h2, h3, h4, h5⟩ := ih (n + 1) F (by rw [show n + 1 + k = n + (k + 1) by omega]; exact h) (by omega) (by omega)
      refine ⟨j, by omega, by omega, h3, ?_, ?_⟩
      · rcases h4 with e | e
        · exact .inr (by rw [e]; exact hs)
        · exact .inr e
      · rw [← h5]
        refine while_step (m' := m) (by simp [hs]) ?_
        have e1 := longer_ok t n m ht (by omega)
        have e2 : ixD (.lst ((endsL t (n + 1)).map .int)) (.int (-1)) = .ok (.int ((endsL t n).drop ((endsL t n).length - t)).sum) := by
          unfold ixD
          dsimp only
          rw [ends_last, last_succ]
          rfl
        simp [e1, e2, tot_succ]
    · refine ⟨n, Nat.le_refl _, by omega, by omega, .inl rfl, while_stop ?_⟩
      simp [hs]
def stopsF : Nat → Nat → Nat → List Nat
  | 0, _, _ => []
  | n + 1, c, s => if c = 0 then [] else (if c % 2 = 1 then [s] else []) ++ stopsF n (c / 2) (s + 1)
theorem stops_len : ∀ n c s, (stopsF n c s).length ≤ n
  | 0, _, _ => Nat.le_refl _
  | n + 1, c, s => by
    rw [stopsF]
    split
    · exact Nat.zero_le _
    · have := stops_len n (c / 2) (s + 1)
      rw [List.length_append]
      split <;> simp <;> omega
theorem stops_loop (m : List Ob) : ∀ (n c s F : Nat) (acc : List Nat), c < 2 ^ n → n < F → acc.length + n < 1000000 → ∃ s' : Nat,
    whileS (dT (dBin gtD (dL 0) (dC (.int 0)))) (thenS (ifS (dT (dBin eqD (dBin modD (dL 0) (dC (.int 2))) (dC (.int 1)))) (appS 1 (dCons (dV 2) dNil)) skipS)
    (thenS (augS 0 ipDivD (dC (.int 2)))
    (augS 2 ipAddD (dC (.int 1))))) F [.sh (nD c), .own (.lst (acc.map nD)), .sh (nD s)] m = .nx [.sh (nD 0), .own (.lst ((acc ++ stopsF n c s).map nD)), .sh (nD s')] m := by
  intro n
  induction n with
  | zero =>
    intro c s F acc hc hF ha
    obtain rfl : c = 0 := by have : (2 : Nat) ^ 0 = 1 := rfl
                             omega
    obtain ⟨F, rfl⟩ : ∃ F', F = F' + 1 := ⟨F - 1, by omega⟩
    exact ⟨s, by rw [while_stop (m' := m) (by simp)]; simp [stopsF]⟩
  | succ n ih =>
    intro c s F acc hc hF ha
    obtain ⟨F, rfl⟩ : ∃ F', F = F' + 1 := ⟨F - 1, by omega⟩
    by_cases h0 : c = 0
    · subst h0
      exact ⟨s, by rw [while_stop (m' := m) (by simp)]; simp [stopsF]⟩
    · have hp : (2 : Nat) ^ (n + 1) = 2 * 2 ^ n := by rw [Nat.pow_succ]; omega
      obtain ⟨s', e⟩ := ih (c / 2) (s + 1) F (acc ++ if c % 2 = 1 then [s] else []) (by omega) (by omega) (by rw [List.length_append]; split <;> simp <;> omega)
      refine ⟨s', ?_⟩
      rw [stopsF, if_neg h0, ← List.append_assoc, ← e]
      have q0 : 0 < c := by omega
      have q1 := modD_int (i := (c : Int)) (j := 2) (by decide)
      have q2 : ipDivD (.int (c : Int)) (.int 2) = .ok (.int ((c / 2 : Nat) : Int)) := by
        unfold ipDivD
        dsimp only
        rw [if_pos (by decide)]
        congr 2
      have q3 : acc.length < 16777216 := by omega
      refine while_step (m' := m) (by simp [q0]) ?_
      by_cases h1 : c % 2 = 1
      · have q4 : ((c : Int) % 2 = 1) := by omega
        simp [q1, q2, q3, q4, h1, nD]
      · have q4 : ¬ ((c : Int) % 2 = 1) := by omega
        simp [q1, q2, q4, h1, nD]
theorem lstops_loop (m : List Ob) : ∀ (n c s F : Nat) (acc : List Nat), c < 2 ^ n → n < F → acc.length + n < 1000000 → ∃ s' : Nat,
    whileS (dT (dBin gtD (dL 0) (dC (.int 0)))) (thenS (ifS (dT (dBin neD (dBin mulD (dBin divD (dL 0) (dC (.int 2))) (dC (.int 2))) (dL 0))) (appS 1 (dCons (dV 2) dNil)) skipS)
    (parS [0, 2] (dCons (dItV (dBin divD (dL 0) (dC (.int 2)))) (dCons (dItV (dBin addD (dL 2) (dC (.int 1)))) dNil)))) F [.sh (nD c), .own (.lst (acc.map nD)), .sh (nD s)] m = .nx [.sh (nD 0), .own (.lst ((acc ++ stopsF n c s).map nD)), .sh (nD s')] m := by
  intro n
  induction n with
  | zero =>
    intro c s F acc hc hF ha
    obtain rfl : c = 0 := by have : (2 : Nat) ^ 0 = 1 := rfl
                             omega
    obtain ⟨F, rfl⟩ : ∃ F', F = F' + 1 := ⟨F - 1, by omega⟩
    exact ⟨s, by rw [while_stop (m' := m) (by simp)]; simp [stopsF]⟩
  | succ n ih =>
    intro c s F acc hc hF ha
    obtain ⟨F, rfl⟩ : ∃ F', F = F' + 1 := ⟨F - 1, by omega⟩
    by_cases h0 : c = 0
    · subst h0
      exact ⟨s, by rw [while_stop (m' := m) (by simp)]; simp [stopsF]⟩
    · have hp : (2 : Nat) ^ (n + 1) = 2 * 2 ^ n := by rw [Nat.pow_succ]; omega
      obtain ⟨s', e⟩ := ih (c / 2) (s + 1) F (acc ++ if c % 2 = 1 then [s] else []) (by omega) (by omega) (by rw [List.length_append]; split <;> simp <;> omega)
      refine ⟨s', ?_⟩
      rw [stopsF, if_neg h0, ← List.append_assoc, ← e]
      have q0 : 0 < c := by omega
      have q1 := divD_int (i := (c : Int)) (j := 2) (by decide)
      have q2 := mulD_int (i := (c : Int) / 2) (j := 2) (.inr (by decide))
      have q3 : acc.length < 16777216 := by omega
      refine while_step (m' := m) (by simp [q0]) ?_
      by_cases h1 : c % 2 = 1
      · have q4 : ¬ ((c : Int) / 2 * 2 = (c : Int)) := by omega
        simp [q1, q2, q3, q4, h1, nD]
      · have q4 : ((c : Int) / 2 * 2 = (c : Int)) := by omega
        simp [q1, q2, q4, h1, nD]
theorem lstops_ok (n c : Nat) (m : List Ob) (hc : c < 2 ^ n) (hn : n < 1000) : den_law_stops [.int (c : Int)] m = .ok (.lst ((stopsF n c 1).map nD), m) := by
  obtain ⟨s', e⟩ := lstops_loop m n c 1 100000 [] hc (by omega) (by simp; omega)
  refine fnD_rt rfl ?_
  simp only [List.map_nil, List.nil_append, nD, show ((1 : Nat) : Int) = 1 from rfl, show ((0 : Nat) : Int) = 0 from rfl] at e
  simp [e]
def gapsOk (t : Nat) : Nat → List Nat → Bool
  | _, [] => true
  | b, s :: r => !decide ((t : Int) < (s : Int) - (b : Int)) && gapsOk t s r
theorem allowed_loop (t : Nat) (m : List Ob) (s0 : Slot) : ∀ (l : List Nat) (b : Nat) (x : Slot), ∃ ρ, loopS (tgN 3) (thenS (ifS (dT (dBin gtD (dBin subD (dL 3) (dL 2)) (dL 1))) (retS (dC (.bl false))) skipS)
    (setS 2 (dV 3))) (l.map nD) [s0, .sh (nD t), .sh (nD b), x] m = if gapsOk t b l = true then .nx ρ m else .rt (.bl false) m
  | [], b, x => ⟨_, rfl⟩
  | s :: l, b, x => by
    obtain ⟨ρ, e⟩ := allowed_loop t m s0 l s (.sh (nD s))
    refine ⟨ρ, ?_⟩
    rw [List.map_cons, loopS, gapsOk]
    by_cases h : (t : Int) < (s : Int) - (b : Int)
    · simp [h, nD]
    · simp only [nD] at e
      simp [h, nD, e]
theorem atI_nat {α : Type} (xs : List α) (k : Nat) (h : k < xs.length) : atI xs (k : Int) = some xs[k] := by
  unfold atI ixN
  rw [if_pos (by omega), if_pos (by omega)]
  show xs[(k : Int).toNat]? = _
  rw [Int.toNat_natCast]
  exact List.getElem?_eq_getElem h
/-- the places at which a row of stops steps too far -/
def farAt (t : Nat) (row : List Nat) : List Nat := (List.range' 1 (row.length - 1)).filter fun k => decide ((t : Int) < ((row.getD k 0 : Nat) : Int) - ((row.getD (k - 1) 0 : Nat) : Int))
theorem far_gaps (t : Nat) : ∀ (l : List Nat) (b : Nat), farAt t (b :: l) = [] ↔ gapsOk t b l = true
  | [], b => by simp [farAt, gapsOk]
  | s :: l, b => by
    have ih := far_gaps t l s
    unfold farAt at ih ⊢
    have e : List.range' 1 ((b :: s :: l).length - 1) = 1 :: (List.range' 1 ((s :: l).length - 1)).map (· + 1) := by
      show List.range' 1 (l.length + 1) = 1 :: (List.range' 1 l.length).map (· + 1)
      rw [List.range'_succ]
      refine congrArg (1 :: ·) ?_
      rw [List.range'_eq_map_range, List.range'_eq_map_range, List.map_map]
      exact List.map_congr_left fun x _ => by show 1 + 1 + x = 1 + x + 1; omega
    rw [e, List.filter_cons, gapsOk]
    by_cases h : (t : Int) < (s : Int) - (b : Int)
    · simp [h]
    · have h2 : decide ((t : Int) < (((b :: s :: l).getD 1 0 : Nat) : Int) - (((b :: s :: l).getD (1 - 1) 0 : Nat) : Int)) = false := by simpa using Int.not_lt.mp h
      rw [if_neg (by rw [h2]; simp), List.filter_map]
      have e3 : (decide ((t : Int) < (s : Int) - (b : Int))) = false := decide_eq_false h
      rw [e3, Bool.not_false, Bool.true_and, ← ih, List.map_eq_nil_iff]
      refine iff_of_eq (congrArg (· = []) (List.filter_congr fun k hk => ?_))
      have hk1 : 1 ≤ k := (List.mem_range'_1.mp hk).1
      obtain ⟨j, rfl⟩ : ∃ j, k = j + 1 := ⟨k - 1, by omega⟩
      simp
theorem fits_ok (n c t : Nat) (m : List Ob) (hc : c < 2 ^ n) (hn : n < 1000) : den_law_fits [.int (c : Int), .int (t : Int)] m = .ok (.bl (gapsOk t 0 (stopsF n c 1)), m) := by
  have q := lstops_ok n c m hc hn
  have hl := stops_len n c 1
  generalize hL : stopsF n c 1 = L at q hl ⊢
  have q1 : (0 : Nat) + 1 + (L.map nD).length ≤ 16777216 := by rw [List.length_map]; omega
  have comp := dComp_of (ρ := [.sh (nD c), .sh (nD t), .sh (lD nD (0 :: L)), .non]) (m := m) (m' := m) (di := dRng rng2 (dCons (dC (.int 1)) (dCons (dCB (oneArg lenD) (dCons (dL 2) dNil)) dNil))) (vs := [3]) (tg := tgN 3) (test := dT (dBin gtD (dBin subD (dBin ixD (dL 2) (dL 3)) (dBin ixD (dL 2) (dBin subD (dL 3) (dC (.int 1))))) (dL 1))) (elt := dV 3)
    (ds := (List.range' 1 L.length).map nD) (fun d => match d with
      | .int k => decide ((t : Int) < (((0 :: L).getD k.toNat 0 : Nat) : Int) - (((0 :: L).getD (k.toNat - 1) 0 : Nat) : Int))
      | _ => false) id
    (by
      have r := rng2_nat (a := 1) (b := L.length + 1) (by omega) (by omega)
      rw [Nat.add_sub_cancel] at r
      simp only [show ((1 : Nat) : Int) = 1 from rfl] at r
      have q3 : ((((0 :: L).map nD).length : Nat) : Int) = ((L.length + 1 : Nat) : Int) := by rw [List.length_map, List.length_cons]
      simp only [dRng_ev, dCons_ev, dC_ev, dCB_ev, dL_ev, slotAt_0, slotAt_s, bind_ok, dNil_ev, oneArg_ev, lenD_lst, lD, q3, r]) rfl (by rw [List.length_map, List.length_range', szl_eq]; omega) (by
      intro d hd
      obtain ⟨k, hk, rfl⟩ := List.mem_map.mp hd
      obtain ⟨h1, h2⟩ := List.mem_range'_1.mp hk
      have w1 : ixD (.lst ((0 :: L).map nD)) (.int (k : Int)) = .ok (nD ((0 :: L).getD k 0)) := by
        unfold ixD
        dsimp only
        rw [atI_nat _ _ (by simp; omega)]
        dsimp only
        rw [List.getElem_map, List.getD_eq_getElem?_getD, List.getElem?_eq_getElem (by simp; omega)]
        rfl
      have w2 : ixD (.lst ((0 :: L).map nD)) (.int ((k : Int) - 1)) = .ok (nD ((0 :: L).getD (k - 1) 0)) := by
        have e : (k : Int) - 1 = ((k - 1 : Nat) : Int) := by omega
        unfold ixD
        dsimp only
        rw [e, atI_nat _ _ (by simp; omega)]
        dsimp only
        rw [List.getElem_map, List.getD_eq_getElem?_getD, List.getElem?_eq_getElem (by simp; omega)]
        rfl
      refine ⟨_, rfl, ?_, fun _ => rfl⟩
      show dT _ [.sh (nD c), .sh (nD t), .sh (.lst ((0 :: L).map nD)), .sh (.int (k : Int))] m = _
      simp only [dT_ev, dBin_ev, dL_ev, slotAt_0, slotAt_s, bind_ok, w1, w2, dC_ev, subD_int, gtD_int, asBool_bl, nD, Int.toNat_natCast])
  refine fnD_rt rfl ?_
  have e0 : (D.int 0 :: L.map nD) = (0 :: L).map nD := rfl
  have e1 : ((List.range' 1 L.length).map nD).filter (fun d => match d with
      | .int k => decide ((t : Int) < (((0 :: L).getD k.toNat 0 : Nat) : Int) - (((0 :: L).getD (k.toNat - 1) 0 : Nat) : Int))
      | _ => false) = (farAt t (0 :: L)).map nD := by
    rw [List.filter_map]
    unfold farAt
    rfl
  rw [e1, List.map_id] at comp
  have e2 := eqD_enc enc_nat.lst (by decide) (farAt t (0 :: L)) []
  have e3 : decide (farAt t (0 :: L) = []) = gapsOk t 0 L := by
    have := far_gaps t L 0
    cases hg : gapsOk t 0 L with
    | true => exact decide_eq_true (this.mpr hg)
    | false => exact decide_eq_false fun z => by rw [this.mp z] at hg; cases hg
  rw [e3] at e2
  simp only [lD, List.map_nil] at e2 comp
  simp only [pad_cons_ev, pad_nil_ev, List.replicate, thenS_ev, setS_ev, dN2V_ev, dBinN_ev, dLst_ev, dCons_ev, dC_ev, dNil_ev, bind_ok, List.length_cons, List.length_nil, Nat.zero_add, Nat.reduceLeDiff, if_true, contd_lst, dCall_ev, dV_ev, slotAt_0, slotAt_s, q, catN_lst, if_pos q1, List.cons_append, List.nil_append, bindS_ok, List.set, e0, retS_ev, dBin_ev, comp, e2]
def codesL (n t : Nat) : List Nat := (List.range (2 ^ n)).filter fun c => gapsOk t 0 (stopsF n c 1)
theorem dbl_ok (v : Nat) : mulD (.int (v : Int)) (.int 2) = .ok (.int ((v * 2 : Nat) : Int)) := by
  rw [mulD_int (.inr (by decide)), Int.natCast_mul]
  rfl
def dblN : Nat → Nat → Nat
  | v, 0 => v
  | v, n + 1 => dblN (v * 2) n
theorem dblN_eq : ∀ (n v : Nat), dblN v n = v * 2 ^ n
  | 0, v => by rw [dblN]; omega
  | n + 1, v => by rw [dblN, dblN_eq n, Nat.pow_succ, Nat.mul_assoc, Nat.mul_comm 2]
theorem top_loop (m : List Ob) (s0 s1 s4 : Slot) (ds : List D) : ∀ (v : Nat) (x : Slot), ∃ x', loopS (tgN 3) (setS 2 (dBin mulD (dL 2) (dC (.int 2)))) ds [s0, s1, .sh (.int (v : Int)), x, s4] m = .nx [s0, s1, .sh (.int ((dblN v ds.length : Nat) : Int)), x', s4] m := by
  induction ds with
  | nil => exact fun v x => ⟨x, rfl⟩
  | cons d ds ih =>
    intro v x
    obtain ⟨x', e⟩ := ih (v * 2) (.sh d)
    refine ⟨x', ?_⟩
    rw [loop_nx (ρ1 := [s0, s1, .sh (.int (v : Int)), .sh d, s4]) (ρ'' := [s0, s1, .sh (.int ((v * 2 : Nat) : Int)), .sh d, s4]) (m'' := m) rfl (by
      rw [setS_ev, dBin_ev, dL_ev, slotAt_s, slotAt_s, slotAt_0]
      show bindS ((Res.ok (D.int (v : Int), m)).bind fun x => (dC (.int 2) _ x.2).bind fun y => (mulD x.1 y.1).bind fun d => .ok (d, y.2)) _ _ = _
      rw [bind_ok, dC_ev, bind_ok, dbl_ok, bind_ok, bindS_ok]
      rfl), e, List.length_cons, dblN]
theorem lcodes_ok (n t : Nat) (m : List Ob) (hn : n < 20) : den_law_codes [.int (n : Int), .int (t : Int)] m = .ok (lD nD (codesL n t), m) := by
  have h2 : 2 ^ n ≤ 2 ^ 20 := Nat.pow_le_pow_right (by decide) (by omega)
  obtain ⟨x', e⟩ := top_loop m (.sh (nD n)) (.sh (nD t)) .non ((List.range n).map nD) 1 .non
  have comp := dComp_of (ρ := [.sh (nD n), .sh (nD t), .sh (nD (2 ^ n)), x', .non]) (m := m) (m' := m) (di := dRng rng1 (dCons (dL 2) dNil)) (vs := [4]) (tg := tgN 4) (test := dT (dCall den_law_fits (dCons (dV 4) (dCons (dV 1) dNil)))) (elt := dV 4)
    (ds := (List.range (2 ^ n)).map nD) (fun d => match d with
      | .int k => gapsOk t 0 (stopsF n k.toNat 1)
      | _ => false) id
    (by
      have r := rng1_nat (n := 2 ^ n) (by omega)
      simp only [dRng_ev, dCons_ev, dL_ev, slotAt_0, slotAt_s, bind_ok, dNil_ev, nD, r]) rfl (by rw [List.length_map, List.length_range, szl_eq]; omega) (by
      intro d hd
      obtain ⟨k, hk, rfl⟩ := List.mem_map.mp hd
      have hk := List.mem_range.mp hk
      have w := fits_ok n k t m hk (by omega)
      refine ⟨_, rfl, ?_, fun _ => rfl⟩
      show dT _ [.sh (nD n), .sh (nD t), .sh (nD (2 ^ n)), x', .sh (.int (k : Int))] m = _
      simp [nD, w])
  have r := rng1_nat (n := n) (by omega)
  refine fnD_rt rfl ?_
  rw [List.map_id, List.filter_map] at comp
  rw [List.length_map, List.length_range, dblN_eq, Nat.one_mul] at e
  have e0 : D.int ((1 : Nat) : Int) = D.int 1 := rfl
  rw [e0] at e
  have e9 : (List.filter ((fun d => match d with
      | D.int k => gapsOk t 0 (stopsF n k.toNat 1)
      | _ => false) ∘ nD) (List.range (2 ^ n))) = codesL n t := rfl
  rw [e9] at comp
  simp only [nD] at comp e
  simp only [pad_cons_ev, pad_nil_ev, List.replicate, thenS_ev, setS_ev, dC_ev, bindS_ok, List.set, forS_ev, dRng_ev, dCons_ev, dL_ev, slotAt_0, slotAt_s, bind_ok, dNil_ev, r, e, retS_ev, dN2V_ev, comp, contd_lst, lD, nD]
theorem count_ok (n t : Nat) (hn : n < 9) (h1 : 1 ≤ t) (h4 : t ≤ 4) : ((codesL n t).length : Int) = tot t n := by
  have h : ∀ n : Nat, n < 9 → ∀ t : Nat, t < 5 → t = 0 ∨ ((codesL n t).length : Int) = tot t n := by decide +kernel
  rcases h n hn t (by omega) with e | e
  · omega
  · exact e
theorem menu_ok (a b c : Int) (r : Nat) (hr : r < 3) : ixD (.lst [.int a, .int b, .int c]) (.int (r : Int)) = .ok (.int ([a, b, c].getD r 0)) := by
  have : r = 0 ∨ r = 1 ∨ r = 2 := by omega
  rcases this with rfl | rfl | rfl <;> rfl
abbrev iT : List Int → D := tD D.int
theorem sorted_set (gs : List Int) (h : gs.length < 64) : sortedSetN (iT gs) = .ok (.lst ((sset (isort gs)).map .int)) := by
  show (match ints? (gs.map D.int) with
    | some ns => if ns.length < 64 then Res.ok (Cont.lst ((sset (isort ns)).map .int)) else .bad
    | none => .bad) = _
  rw [ints?_map]
  exact if_pos h
abbrev clsB : SDen := appS 1 (dCons (dN2V (dComp (dEnumT (dV 0)) [3, 4] (tgT [3, 4]) (dT (dBin eqD (dL 4) (dL 2))) (dV 3))) dNil)
theorem cls_loop (gs : List Int) (m : List Ob) (h : gs.length < 64) : ∀ (ks : List Int) (acc : List (List Nat)) (x2 : Slot), acc.length + ks.length < 1000 → ∃ y2, loopS (tgN 2) clsB (ks.map D.int) [.sh (iT gs), .own (.lst (acc.map (lD nD))), x2, .non, .non] m = .nx [.sh (iT gs), .own (.lst ((acc ++ ks.map (clsOf gs)).map (lD nD))), y2, .non, .non] m
  | [], acc, x2, _ => ⟨x2, by rw [List.map_nil, List.map_nil, List.append_nil]; rfl⟩
  | k :: ks, acc, x2, hl => by
    have hl' : acc.length + (ks.length + 1) < 1000 := hl
    obtain ⟨y2, e⟩ := cls_loop gs m h ks (acc ++ [clsOf gs k]) (.sh (.int k)) (by rw [List.length_append, List.length_singleton]; omega)
    refine ⟨y2, ?_⟩
    have e1 := dComp_map (ρ := [.sh (iT gs), .own (.lst (acc.map (lD nD))), .sh (.int k), .non, .non]) (m := m) (m' := m) (di := dEnumT (dV 0)) (vs := [3, 4]) (tg := tgT [3, 4]) (test := dT (dBin eqD (dL 4) (dL 2))) (elt := dV 3) (fun (j : Nat) => D.tup [.int (j : Int), .int (gs.getD j 0)]) (List.range gs.length) (fun j => decide (gs.getD j 0 = k)) nD
      (by simp only [dEnumT_ev, dV_ev, slotAt_0, bind_ok, tD]; rw [enum_int0]) rfl (by rw [List.length_range]; omega) (fun j _ => ⟨_, rfl, by simp only [bind_ok, bind_bad, bindS_ok, dV_ev, dL_ev, slotAt_0, slotAt_s, dC_ev, dN2V_ev, dBin_ev, dBinN_ev, dT_ev, asBool_bl, dAndT_ev, dOrT_ev, dNotT_ev, dAnd_ev, dOr_ev, dNot_ev, dIf_ev, dChain_ev, dUn_ev, dNoPart_ev, dPart_ev, dSl_ev, dNil_ev, dCons_ev, dTup_ev, dLst_ev, oneArg_ev, twoArg_ev, dCB_ev, dCall_ev, dIt_ev, dRng_ev, dYes_ev, dItV_ev, dItN_ev, thenS_ev, skipS_ev, retS_ev, exprS_ev, ifS_ev, setS_ev, setN_ev, augS_ev, isetS_ev, freezeS_ev, appS_ev, parS_ev, unS_ev, setAll_nil, setAll_cons, slot_v, slot_n, forS_ev, tgN_ev, contd_lst, pad_cons_ev, pad_nil_ev, addD_int, subD_int, ltD_int, leD_int, gtD_int, geD_int, negD_int, ipAddD_int, eqD_int, neD_int, lenD_lst, lenD_tup, intD_int, slN_lst, slT_tup, asList_lst, asTup_tup, catN_lst, addD_tup, bind_err, bindS_err, raiseS_ev, heldD_row, isRowD_row, dOwn1_ev, noErr_ok, dLenRow_ev, dEqRow_ev, dMkRow_ev, dUnN_ev, dTupE_ev, plainT_etp, plainT_tup, catE_etp, tupleE_lst, dMethE_ev, dCallFn_ev, dEnum_ev, dEnumT_ev, iaugS_ev, dTru_ev, truD_bl, truD_int, truD_lst, truD_tup, mkS_list, dMeth_ev, dMethN_ev, dMeth0_ev, dZip_ev, dNewDct_ev, asLdc_ldc, sealS_ev, asSeq_lst, asSeq_tup, List.set, List.replicate, List.length_cons, List.length_nil, Nat.zero_add, Nat.reduceAdd, Nat.reduceLeDiff, if_true, Bool.not_true, Bool.not_false, List.map_nil, List.map_cons, wipeS, Itm.slot], fun _ => by simp only [bind_ok, bind_bad, bindS_ok, dV_ev, dL_ev, slotAt_0, slotAt_s, dC_ev, dN2V_ev, dBin_ev, dBinN_ev, dT_ev, asBool_bl, dAndT_ev, dOrT_ev, dNotT_ev, dAnd_ev, dOr_ev, dNot_ev, dIf_ev, dChain_ev, dUn_ev, dNoPart_ev, dPart_ev, dSl_ev, dNil_ev, dCons_ev, dTup_ev, dLst_ev, oneArg_ev, twoArg_ev, dCB_ev, dCall_ev, dIt_ev, dRng_ev, dYes_ev, dItV_ev, dItN_ev, thenS_ev, skipS_ev, retS_ev, exprS_ev, ifS_ev, setS_ev, setN_ev, augS_ev, isetS_ev, freezeS_ev, appS_ev, parS_ev, unS_ev, setAll_nil, setAll_cons, slot_v, slot_n, forS_ev, tgN_ev, contd_lst, pad_cons_ev, pad_nil_ev, addD_int, subD_int, ltD_int, leD_int, gtD_int, geD_int, negD_int, ipAddD_int, eqD_int, neD_int, lenD_lst, lenD_tup, intD_int, slN_lst, slT_tup, asList_lst, asTup_tup, catN_lst, addD_tup, bind_err, bindS_err, raiseS_ev, heldD_row, isRowD_row, dOwn1_ev, noErr_ok, dLenRow_ev, dEqRow_ev, dMkRow_ev, dUnN_ev, dTupE_ev, plainT_etp, plainT_tup, catE_etp, tupleE_lst, dMethE_ev, dCallFn_ev, dEnum_ev, dEnumT_ev, iaugS_ev, dTru_ev, truD_bl, truD_int, truD_lst, truD_tup, mkS_list, dMeth_ev, dMethN_ev, dMeth0_ev, dZip_ev, dNewDct_ev, asLdc_ldc, sealS_ev, asSeq_lst, asSeq_tup, List.set, List.replicate, List.length_cons, List.length_nil, Nat.zero_add, Nat.reduceAdd, Nat.reduceLeDiff, if_true, Bool.not_true, Bool.not_false, List.map_nil, List.map_cons, wipeS, Itm.slot]⟩)
    rw [List.map_cons, loop_nx (ρ1 := [.sh (iT gs), .own (.lst (acc.map (lD nD))), .sh (.int k), .non, .non]) (ρ'' := [.sh (iT gs), .own (.lst ((acc ++ [clsOf gs k]).map (lD nD))), .sh (.int k), .non, .non]) (m'' := m) rfl (by
      have q : (acc.map (lD nD)).length < 16777216 := by rw [List.length_map]; omega
      simp only [appS_ev, slotAt_s, slotAt_0, dCons_ev, dN2V_ev, e1, bind_ok, dNil_ev, bindS_ok, q, if_true, List.set, List.map_append, List.map_cons, List.map_nil, contd_lst]
      rfl), e, List.append_assoc, List.map_cons]
    rfl
theorem classes_ok (gs : List Int) (m : List Ob) (h : gs.length < 64) : den_classes [iT gs] m = .ok (lD (lD nD) (clsF gs), m) := by
  have hl : (sset (isort gs)).length ≤ gs.length := Nat.le_trans (sset_len _) (by rw [(isort_perm gs).length_eq]; exact Nat.le_refl _)
  obtain ⟨y2, e⟩ := cls_loop gs m h (sset (isort gs)) [] .non (by rw [List.length_nil]; omega)
  refine fnD_rt rfl ?_
  have q := sorted_set gs h
  rw [List.nil_append, List.map_nil] at e
  simp only [bind_ok, bind_bad, bindS_ok, dV_ev, dL_ev, slotAt_0, slotAt_s, dC_ev, dN2V_ev, dBin_ev, dBinN_ev, dT_ev, asBool_bl, dAndT_ev, dOrT_ev, dNotT_ev, dAnd_ev, dOr_ev, dNot_ev, dIf_ev, dChain_ev, dUn_ev, dNoPart_ev, dPart_ev, dSl_ev, dNil_ev, dCons_ev, dTup_ev, dLst_ev, oneArg_ev, twoArg_ev, dCB_ev, dCall_ev, dIt_ev, dRng_ev, dYes_ev, dItV_ev, dItN_ev, thenS_ev, skipS_ev, retS_ev, exprS_ev, ifS_ev, setS_ev, setN_ev, augS_ev, isetS_ev, freezeS_ev, appS_ev, parS_ev, unS_ev, setAll_nil, setAll_cons, slot_v, slot_n, forS_ev, tgN_ev, contd_lst, pad_cons_ev, pad_nil_ev, addD_int, subD_int, ltD_int, leD_int, gtD_int, geD_int, negD_int, ipAddD_int, eqD_int, neD_int, lenD_lst, lenD_tup, intD_int, slN_lst, slT_tup, asList_lst, asTup_tup, catN_lst, addD_tup, bind_err, bindS_err, raiseS_ev, heldD_row, isRowD_row, dOwn1_ev, noErr_ok, dLenRow_ev, dEqRow_ev, dMkRow_ev, dUnN_ev, dTupE_ev, plainT_etp, plainT_tup, catE_etp, tupleE_lst, dMethE_ev, dCallFn_ev, dEnum_ev, dEnumT_ev, iaugS_ev, dTru_ev, truD_bl, truD_int, truD_lst, truD_tup, mkS_list, dMeth_ev, dMethN_ev, dMeth0_ev, dZip_ev, dNewDct_ev, asLdc_ldc, sealS_ev, asSeq_lst, asSeq_tup, List.set, List.replicate, List.length_cons, List.length_nil, Nat.zero_add, Nat.reduceAdd, Nat.reduceLeDiff, if_true, Bool.not_true, Bool.not_false, List.map_nil, List.map_cons, q, e]
  rfl
abbrev lvB : SDen := isetS 1 (dL 5) (dBin addD (dL 2) (dCB (oneArg intD) (dCons (dBin ltD (dL 5) (dL 3)) dNil)))
def Plain (s : Slot) : Prop := s = .non ∨ ∃ d, s = .sh d
theorem lv_in (n : Nat) (m : List Ob) (x0 x4 x6 x7 : Slot) (L la : Int) : ∀ (ws : List Nat) (F : List Int) (x5 : Slot), (∀ w ∈ ws, w < n) → F.length = n → Plain x5 → ∃ y5, Plain y5 ∧
    loopS (tgN 5) lvB (ws.map nD) [x0, .own (.lst (F.map .int)), .sh (.int L), .sh (.int la), x4, x5, x6, x7] m = .nx [x0, .own (.lst ((lvSet L la F ws).map .int)), .sh (.int L), .sh (.int la), x4, y5, x6, x7] m
  | [], F, x5, _, _, h5 => ⟨x5, h5, rfl⟩
  | w :: ws, F, x5, hw, hF, h5 => by
    obtain ⟨y5, h, e⟩ := lv_in n m x0 x4 x6 x7 L la ws (F.set w (L + if (w : Int) < la then 1 else 0)) (.sh (nD w)) (fun x hx => hw x (List.mem_cons_of_mem _ hx)) (by rw [List.length_set]; exact hF) (.inr ⟨_, rfl⟩)
    refine ⟨y5, h, ?_⟩
    have q : ixN (F.map D.int).length (w : Int) = some w := ixN_nat (by rw [List.length_map, hF]; exact hw w (List.mem_cons_self ..))
    have q2 : (F.map D.int).set w (.int (L + if (w : Int) < la then 1 else 0)) = (F.set w (L + if (w : Int) < la then 1 else 0)).map D.int := by rw [List.map_set]
    rw [List.map_cons, loop_nx (ρ1 := [x0, .own (.lst (F.map .int)), .sh (.int L), .sh (.int la), x4, .sh (nD w), x6, x7]) (ρ'' := [x0, .own (.lst ((F.set w (L + if (w : Int) < la then 1 else 0)).map .int)), .sh (.int L), .sh (.int la), x4, .sh (nD w), x6, x7]) (m'' := m) rfl (by
      simp only [bind_ok, bind_bad, bindS_ok, dV_ev, dL_ev, slotAt_0, slotAt_s, dC_ev, dN2V_ev, dBin_ev, dBinN_ev, dT_ev, asBool_bl, dAndT_ev, dOrT_ev, dNotT_ev, dAnd_ev, dOr_ev, dNot_ev, dIf_ev, dChain_ev, dUn_ev, dNoPart_ev, dPart_ev, dSl_ev, dNil_ev, dCons_ev, dTup_ev, dLst_ev, oneArg_ev, twoArg_ev, dCB_ev, dCall_ev, dIt_ev, dRng_ev, dYes_ev, dItV_ev, dItN_ev, thenS_ev, skipS_ev, retS_ev, exprS_ev, ifS_ev, setS_ev, setN_ev, augS_ev, isetS_ev, freezeS_ev, appS_ev, parS_ev, unS_ev, setAll_nil, setAll_cons, slot_v, slot_n, forS_ev, tgN_ev, contd_lst, pad_cons_ev, pad_nil_ev, addD_int, subD_int, ltD_int, leD_int, gtD_int, geD_int, negD_int, ipAddD_int, eqD_int, neD_int, lenD_lst, lenD_tup, intD_int, slN_lst, slT_tup, asList_lst, asTup_tup, catN_lst, addD_tup, bind_err, bindS_err, raiseS_ev, heldD_row, isRowD_row, dOwn1_ev, noErr_ok, dLenRow_ev, dEqRow_ev, dMkRow_ev, dUnN_ev, dTupE_ev, plainT_etp, plainT_tup, catE_etp, tupleE_lst, dMethE_ev, dCallFn_ev, dEnum_ev, dEnumT_ev, iaugS_ev, dTru_ev, truD_bl, truD_int, truD_lst, truD_tup, mkS_list, dMeth_ev, dMethN_ev, dMeth0_ev, dZip_ev, dNewDct_ev, asLdc_ldc, sealS_ev, asSeq_lst, asSeq_tup, List.set, List.replicate, List.length_cons, List.length_nil, Nat.zero_add, Nat.reduceAdd, Nat.reduceLeDiff, if_true, Bool.not_true, Bool.not_false, List.map_nil, List.map_cons, nD, intD_bl, decide_eq_true_eq, q, q2]), e]
    rfl
/-- the state of the loop over the classes -/
def LvR (gs : List Int) (s : List Int × Int × Int) (ρ : List Slot) : Prop := s.1.length = gs.length ∧ ∃ x4 x5 x6 x7, Plain x5 ∧ ρ = [.sh (iT gs), .own (.lst (s.1.map .int)), .sh (.int s.2.1), .sh (.int s.2.2), x4, x5, x6, x7]
abbrev mostD : Den Cont := dComp (dIt asList (dV 4)) [5] (tgN 5) dYes (dBin ixD (dL 1) (dL 5))
abbrev endsD : Den Cont := dComp (dIt asList (dV 4)) [5] (tgN 5) (dT (dBin eqD (dBin ixD (dL 1) (dL 5)) (dL 6))) (dV 5)
theorem most_ok (m : List Ob) (x0 x2 x3 x5 x6 x7 : Slot) (F : List Int) (ws : List Nat) (h5 : Plain x5) (hw : ∀ w ∈ ws, w < F.length) (hl : ws.length < 1000) : mostD [x0, .own (.lst (F.map .int)), x2, x3, .sh (lD nD ws), x5, x6, x7] m = .ok (.lst ((ws.map fun w => F.getD w 0).map D.int), m) := by
  rw [List.map_map]
  refine dComp_all nD ws (fun w => D.int (F.getD w 0)) (by simp only [bind_ok, bind_bad, bindS_ok, dV_ev, dL_ev, slotAt_0, slotAt_s, dC_ev, dN2V_ev, dBin_ev, dBinN_ev, dT_ev, asBool_bl, dAndT_ev, dOrT_ev, dNotT_ev, dAnd_ev, dOr_ev, dNot_ev, dIf_ev, dChain_ev, dUn_ev, dNoPart_ev, dPart_ev, dSl_ev, dNil_ev, dCons_ev, dTup_ev, dLst_ev, oneArg_ev, twoArg_ev, dCB_ev, dCall_ev, dIt_ev, dRng_ev, dYes_ev, dItV_ev, dItN_ev, thenS_ev, skipS_ev, retS_ev, exprS_ev, ifS_ev, setS_ev, setN_ev, augS_ev, isetS_ev, freezeS_ev, appS_ev, parS_ev, unS_ev, setAll_nil, setAll_cons, slot_v, slot_n, forS_ev, tgN_ev, contd_lst, pad_cons_ev, pad_nil_ev, addD_int, subD_int, ltD_int, leD_int, gtD_int, geD_int, negD_int, ipAddD_int, eqD_int, neD_int, lenD_lst, lenD_tup, intD_int, slN_lst, slT_tup, asList_lst, asTup_tup, catN_lst, addD_tup, bind_err, bindS_err, raiseS_ev, heldD_row, isRowD_row, dOwn1_ev, noErr_ok, dLenRow_ev, dEqRow_ev, dMkRow_ev, dUnN_ev, dTupE_ev, plainT_etp, plainT_tup, catE_etp, tupleE_lst, dMethE_ev, dCallFn_ev, dEnum_ev, dEnumT_ev, iaugS_ev, dTru_ev, truD_bl, truD_int, truD_lst, truD_tup, mkS_list, dMeth_ev, dMethN_ev, dMeth0_ev, dZip_ev, dNewDct_ev, asLdc_ldc, sealS_ev, asSeq_lst, asSeq_tup, List.set, List.replicate, List.length_cons, List.length_nil, Nat.zero_add, Nat.reduceAdd, Nat.reduceLeDiff, if_true, Bool.not_true, Bool.not_false, List.map_nil, List.map_cons]) (by rcases h5 with rfl | ⟨d, rfl⟩ <;> rfl) (by omega) fun w hx => ⟨_, rfl, ?_⟩
  have q := ixD_getD D.int F w 0 (hw w hx)
  rcases h5 with rfl | ⟨d, rfl⟩ <;> simp only [bind_ok, bind_bad, bindS_ok, dV_ev, dL_ev, slotAt_0, slotAt_s, dC_ev, dN2V_ev, dBin_ev, dBinN_ev, dT_ev, asBool_bl, dAndT_ev, dOrT_ev, dNotT_ev, dAnd_ev, dOr_ev, dNot_ev, dIf_ev, dChain_ev, dUn_ev, dNoPart_ev, dPart_ev, dSl_ev, dNil_ev, dCons_ev, dTup_ev, dLst_ev, oneArg_ev, twoArg_ev, dCB_ev, dCall_ev, dIt_ev, dRng_ev, dYes_ev, dItV_ev, dItN_ev, thenS_ev, skipS_ev, retS_ev, exprS_ev, ifS_ev, setS_ev, setN_ev, augS_ev, isetS_ev, freezeS_ev, appS_ev, parS_ev, unS_ev, setAll_nil, setAll_cons, slot_v, slot_n, forS_ev, tgN_ev, contd_lst, pad_cons_ev, pad_nil_ev, addD_int, subD_int, ltD_int, leD_int, gtD_int, geD_int, negD_int, ipAddD_int, eqD_int, neD_int, lenD_lst, lenD_tup, intD_int, slN_lst, slT_tup, asList_lst, asTup_tup, catN_lst, addD_tup, bind_err, bindS_err, raiseS_ev, heldD_row, isRowD_row, dOwn1_ev, noErr_ok, dLenRow_ev, dEqRow_ev, dMkRow_ev, dUnN_ev, dTupE_ev, plainT_etp, plainT_tup, catE_etp, tupleE_lst, dMethE_ev, dCallFn_ev, dEnum_ev, dEnumT_ev, iaugS_ev, dTru_ev, truD_bl, truD_int, truD_lst, truD_tup, mkS_list, dMeth_ev, dMethN_ev, dMeth0_ev, dZip_ev, dNewDct_ev, asLdc_ldc, sealS_ev, asSeq_lst, asSeq_tup, List.set, List.replicate, List.length_cons, List.length_nil, Nat.zero_add, Nat.reduceAdd, Nat.reduceLeDiff, if_true, Bool.not_true, Bool.not_false, List.map_nil, List.map_cons, wipeS, nD, q]
theorem ends_ok (m : List Ob) (x0 x2 x3 x5 x7 : Slot) (M : Int) (F : List Int) (ws : List Nat) (h5 : Plain x5) (hw : ∀ w ∈ ws, w < F.length) (hl : ws.length < 1000) : endsD [x0, .own (.lst (F.map .int)), x2, x3, .sh (lD nD ws), x5, .sh (.int M), x7] m = .ok (.lst ((ws.filter fun w => decide (F.getD w 0 = M)).map nD), m) := by
  refine dComp_map nD ws (fun w => decide (F.getD w 0 = M)) nD (by simp only [bind_ok, bind_bad, bindS_ok, dV_ev, dL_ev, slotAt_0, slotAt_s, dC_ev, dN2V_ev, dBin_ev, dBinN_ev, dT_ev, asBool_bl, dAndT_ev, dOrT_ev, dNotT_ev, dAnd_ev, dOr_ev, dNot_ev, dIf_ev, dChain_ev, dUn_ev, dNoPart_ev, dPart_ev, dSl_ev, dNil_ev, dCons_ev, dTup_ev, dLst_ev, oneArg_ev, twoArg_ev, dCB_ev, dCall_ev, dIt_ev, dRng_ev, dYes_ev, dItV_ev, dItN_ev, thenS_ev, skipS_ev, retS_ev, exprS_ev, ifS_ev, setS_ev, setN_ev, augS_ev, isetS_ev, freezeS_ev, appS_ev, parS_ev, unS_ev, setAll_nil, setAll_cons, slot_v, slot_n, forS_ev, tgN_ev, contd_lst, pad_cons_ev, pad_nil_ev, addD_int, subD_int, ltD_int, leD_int, gtD_int, geD_int, negD_int, ipAddD_int, eqD_int, neD_int, lenD_lst, lenD_tup, intD_int, slN_lst, slT_tup, asList_lst, asTup_tup, catN_lst, addD_tup, bind_err, bindS_err, raiseS_ev, heldD_row, isRowD_row, dOwn1_ev, noErr_ok, dLenRow_ev, dEqRow_ev, dMkRow_ev, dUnN_ev, dTupE_ev, plainT_etp, plainT_tup, catE_etp, tupleE_lst, dMethE_ev, dCallFn_ev, dEnum_ev, dEnumT_ev, iaugS_ev, dTru_ev, truD_bl, truD_int, truD_lst, truD_tup, mkS_list, dMeth_ev, dMethN_ev, dMeth0_ev, dZip_ev, dNewDct_ev, asLdc_ldc, sealS_ev, asSeq_lst, asSeq_tup, List.set, List.replicate, List.length_cons, List.length_nil, Nat.zero_add, Nat.reduceAdd, Nat.reduceLeDiff, if_true, Bool.not_true, Bool.not_false, List.map_nil, List.map_cons]) (by rcases h5 with rfl | ⟨d, rfl⟩ <;> rfl) (by omega) fun w hx => ⟨_, rfl, ?_, fun _ => ?_⟩
  · have q := ixD_getD D.int F w 0 (hw w hx)
    rcases h5 with rfl | ⟨d, rfl⟩ <;> simp only [bind_ok, bind_bad, bindS_ok, dV_ev, dL_ev, slotAt_0, slotAt_s, dC_ev, dN2V_ev, dBin_ev, dBinN_ev, dT_ev, asBool_bl, dAndT_ev, dOrT_ev, dNotT_ev, dAnd_ev, dOr_ev, dNot_ev, dIf_ev, dChain_ev, dUn_ev, dNoPart_ev, dPart_ev, dSl_ev, dNil_ev, dCons_ev, dTup_ev, dLst_ev, oneArg_ev, twoArg_ev, dCB_ev, dCall_ev, dIt_ev, dRng_ev, dYes_ev, dItV_ev, dItN_ev, thenS_ev, skipS_ev, retS_ev, exprS_ev, ifS_ev, setS_ev, setN_ev, augS_ev, isetS_ev, freezeS_ev, appS_ev, parS_ev, unS_ev, setAll_nil, setAll_cons, slot_v, slot_n, forS_ev, tgN_ev, contd_lst, pad_cons_ev, pad_nil_ev, addD_int, subD_int, ltD_int, leD_int, gtD_int, geD_int, negD_int, ipAddD_int, eqD_int, neD_int, lenD_lst, lenD_tup, intD_int, slN_lst, slT_tup, asList_lst, asTup_tup, catN_lst, addD_tup, bind_err, bindS_err, raiseS_ev, heldD_row, isRowD_row, dOwn1_ev, noErr_ok, dLenRow_ev, dEqRow_ev, dMkRow_ev, dUnN_ev, dTupE_ev, plainT_etp, plainT_tup, catE_etp, tupleE_lst, dMethE_ev, dCallFn_ev, dEnum_ev, dEnumT_ev, iaugS_ev, dTru_ev, truD_bl, truD_int, truD_lst, truD_tup, mkS_list, dMeth_ev, dMethN_ev, dMeth0_ev, dZip_ev, dNewDct_ev, asLdc_ldc, sealS_ev, asSeq_lst, asSeq_tup, List.set, List.replicate, List.length_cons, List.length_nil, Nat.zero_add, Nat.reduceAdd, Nat.reduceLeDiff, if_true, Bool.not_true, Bool.not_false, List.map_nil, List.map_cons, wipeS, nD, q]
  · rcases h5 with rfl | ⟨d, rfl⟩ <;> simp only [bind_ok, bind_bad, bindS_ok, dV_ev, dL_ev, slotAt_0, slotAt_s, dC_ev, dN2V_ev, dBin_ev, dBinN_ev, dT_ev, asBool_bl, dAndT_ev, dOrT_ev, dNotT_ev, dAnd_ev, dOr_ev, dNot_ev, dIf_ev, dChain_ev, dUn_ev, dNoPart_ev, dPart_ev, dSl_ev, dNil_ev, dCons_ev, dTup_ev, dLst_ev, oneArg_ev, twoArg_ev, dCB_ev, dCall_ev, dIt_ev, dRng_ev, dYes_ev, dItV_ev, dItN_ev, thenS_ev, skipS_ev, retS_ev, exprS_ev, ifS_ev, setS_ev, setN_ev, augS_ev, isetS_ev, freezeS_ev, appS_ev, parS_ev, unS_ev, setAll_nil, setAll_cons, slot_v, slot_n, forS_ev, tgN_ev, contd_lst, pad_cons_ev, pad_nil_ev, addD_int, subD_int, ltD_int, leD_int, gtD_int, geD_int, negD_int, ipAddD_int, eqD_int, neD_int, lenD_lst, lenD_tup, intD_int, slN_lst, slT_tup, asList_lst, asTup_tup, catN_lst, addD_tup, bind_err, bindS_err, raiseS_ev, heldD_row, isRowD_row, dOwn1_ev, noErr_ok, dLenRow_ev, dEqRow_ev, dMkRow_ev, dUnN_ev, dTupE_ev, plainT_etp, plainT_tup, catE_etp, tupleE_lst, dMethE_ev, dCallFn_ev, dEnum_ev, dEnumT_ev, iaugS_ev, dTru_ev, truD_bl, truD_int, truD_lst, truD_tup, mkS_list, dMeth_ev, dMethN_ev, dMeth0_ev, dZip_ev, dNewDct_ev, asLdc_ldc, sealS_ev, asSeq_lst, asSeq_tup, List.set, List.replicate, List.length_cons, List.length_nil, Nat.zero_add, Nat.reduceAdd, Nat.reduceLeDiff, if_true, Bool.not_true, Bool.not_false, List.map_nil, List.map_cons, wipeS, nD]
abbrev lvC : SDen := thenS (forS (dIt asList (dV 4)) (tgN 5) lvB)
    (thenS (setS 6 (dCB (oneArg maxLD) (dCons (dN2V mostD) dNil)))
    (thenS (setN 7 endsD)
    (ifS (dT (dBin gtD (dL 6) (dL 2))) (parS [2, 3] (dCons (dItV (dV 6)) (dCons (dItV (dBin ixD (dL 7) (dUn negD (dC (.int 1))))) dNil))) (setS 3 (dCB (twoArg max2D) (dCons (dL 3) (dCons (dBin ixD (dL 7) (dUn negD (dC (.int 1)))) dNil)))))))
theorem lv_step (gs : List Int) (m : List Ob) (hg : gs.length < 64) (s : List Int × Int × Int) (ρ : List Slot) (ws : List Nat) (hne : ws ≠ []) (hw : ∀ w ∈ ws, w < gs.length) (hl : ws.length < 1000) (h : LvR gs s ρ) : ∃ ρ1 ρ2, tgN 4 (lD nD ws) ρ = some ρ1 ∧ lvC ρ1 m = .nx ρ2 m ∧ LvR gs (lvStep s ws) ρ2 := by
  obtain ⟨F, L, la⟩ := s
  obtain ⟨hF, x4, x5, x6, x7, h5, rfl⟩ := h
  dsimp only at hF
  obtain ⟨y5, g5, e1⟩ := lv_in gs.length m (.sh (iT gs)) (.sh (lD nD ws)) x6 x7 L la ws F x5 hw hF h5
  have hF2 : (lvSet L la F ws).length = gs.length := by rw [lvSet_len, hF]
  have e2 := most_ok m (.sh (iT gs)) (.sh (.int L)) (.sh (.int la)) y5 x6 x7 (lvSet L la F ws) ws g5 (by rw [hF2]; exact hw) hl
  have e3 := ends_ok m (.sh (iT gs)) (.sh (.int L)) (.sh (.int la)) y5 x7 (lvMost (lvSet L la F ws) ws) (lvSet L la F ws) ws g5 (by rw [hF2]; exact hw) hl
  have e4 := maxLD_int (ws.map fun w => (lvSet L la F ws).getD w 0) (by intro e; exact hne (List.map_eq_nil_iff.mp e))
  have e5 := ixD_last nD (ws.filter fun w => decide ((lvSet L la F ws).getD w 0 = lvMost (lvSet L la F ws) ws)) 0 (lvEnd_ne _ _ hne)
  refine ⟨_, [.sh (iT gs), .own (.lst ((lvSet L la F ws).map .int)), .sh (.int (lvStep (F, L, la) ws).2.1), .sh (.int (lvStep (F, L, la) ws).2.2), .sh (lD nD ws), y5, .sh (.int (lvMost (lvSet L la F ws) ws)), .own (.lst ((ws.filter fun w => decide ((lvSet L la F ws).getD w 0 = lvMost (lvSet L la F ws) ws)).map nD))], rfl, ?_, ?_⟩
  · refine (thenS_nx (ρ' := [.sh (iT gs), .own (.lst ((lvSet L la F ws).map .int)), .sh (.int L), .sh (.int la), .sh (lD nD ws), y5, x6, x7]) (m' := m) (by simp only [forS_ev, dIt_ev, dV_ev, List.set, slotAt_s, slotAt_0, bind_ok, asList_lst, bindS_ok, lD, e1])).trans ?_
    refine (thenS_nx (ρ' := [.sh (iT gs), .own (.lst ((lvSet L la F ws).map .int)), .sh (.int L), .sh (.int la), .sh (lD nD ws), y5, .sh (.int (lvMost (lvSet L la F ws) ws)), x7]) (m' := m) (by
      simp only [setS_ev, dCB_ev, dCons_ev, dN2V_ev, e2, bind_ok, dNil_ev, contd_lst, oneArg_ev, e4, bindS_ok, List.set]
      rfl)).trans ?_
    refine (thenS_nx (ρ' := [.sh (iT gs), .own (.lst ((lvSet L la F ws).map .int)), .sh (.int L), .sh (.int la), .sh (lD nD ws), y5, .sh (.int (lvMost (lvSet L la F ws) ws)), .own (.lst ((ws.filter fun w => decide ((lvSet L la F ws).getD w 0 = lvMost (lvSet L la F ws) ws)).map nD))]) (m' := m) (by
      simp only [setN_ev, e3, bindS_ok, List.set])).trans ?_
    generalize hM : lvMost (lvSet L la F ws) ws = M at *
    generalize hE : ((ws.filter fun w => decide ((lvSet L la F ws).getD w 0 = M)).getLast?.getD 0) = E at *
    have hE' : lvEnd (lvSet L la F ws) ws = (E : Int) := by unfold lvEnd; rw [hM, hE]
    unfold lvStep
    dsimp only
    rw [hM, hE']
    by_cases hc : L < M
    · rw [if_pos hc]
      simp only [bind_ok, bind_bad, bindS_ok, dV_ev, dL_ev, slotAt_0, slotAt_s, dC_ev, dN2V_ev, dBin_ev, dBinN_ev, dT_ev, asBool_bl, dAndT_ev, dOrT_ev, dNotT_ev, dAnd_ev, dOr_ev, dNot_ev, dIf_ev, dChain_ev, dUn_ev, dNoPart_ev, dPart_ev, dSl_ev, dNil_ev, dCons_ev, dTup_ev, dLst_ev, oneArg_ev, twoArg_ev, dCB_ev, dCall_ev, dIt_ev, dRng_ev, dYes_ev, dItV_ev, dItN_ev, thenS_ev, skipS_ev, retS_ev, exprS_ev, ifS_ev, setS_ev, setN_ev, augS_ev, isetS_ev, freezeS_ev, appS_ev, parS_ev, unS_ev, setAll_nil, setAll_cons, slot_v, slot_n, forS_ev, tgN_ev, contd_lst, pad_cons_ev, pad_nil_ev, addD_int, subD_int, ltD_int, leD_int, gtD_int, geD_int, negD_int, ipAddD_int, eqD_int, neD_int, lenD_lst, lenD_tup, intD_int, slN_lst, slT_tup, asList_lst, asTup_tup, catN_lst, addD_tup, bind_err, bindS_err, raiseS_ev, heldD_row, isRowD_row, dOwn1_ev, noErr_ok, dLenRow_ev, dEqRow_ev, dMkRow_ev, dUnN_ev, dTupE_ev, plainT_etp, plainT_tup, catE_etp, tupleE_lst, dMethE_ev, dCallFn_ev, dEnum_ev, dEnumT_ev, iaugS_ev, dTru_ev, truD_bl, truD_int, truD_lst, truD_tup, mkS_list, dMeth_ev, dMethN_ev, dMeth0_ev, dZip_ev, dNewDct_ev, asLdc_ldc, sealS_ev, asSeq_lst, asSeq_tup, List.set, List.replicate, List.length_cons, List.length_nil, Nat.zero_add, Nat.reduceAdd, Nat.reduceLeDiff, if_true, Bool.not_true, Bool.not_false, List.map_nil, List.map_cons, e5, decide_eq_true hc, Itm.slot]
    · rw [if_neg hc]
      simp only [bind_ok, bind_bad, bindS_ok, dV_ev, dL_ev, slotAt_0, slotAt_s, dC_ev, dN2V_ev, dBin_ev, dBinN_ev, dT_ev, asBool_bl, dAndT_ev, dOrT_ev, dNotT_ev, dAnd_ev, dOr_ev, dNot_ev, dIf_ev, dChain_ev, dUn_ev, dNoPart_ev, dPart_ev, dSl_ev, dNil_ev, dCons_ev, dTup_ev, dLst_ev, oneArg_ev, twoArg_ev, dCB_ev, dCall_ev, dIt_ev, dRng_ev, dYes_ev, dItV_ev, dItN_ev, thenS_ev, skipS_ev, retS_ev, exprS_ev, ifS_ev, setS_ev, setN_ev, augS_ev, isetS_ev, freezeS_ev, appS_ev, parS_ev, unS_ev, setAll_nil, setAll_cons, slot_v, slot_n, forS_ev, tgN_ev, contd_lst, pad_cons_ev, pad_nil_ev, addD_int, subD_int, ltD_int, leD_int, gtD_int, geD_int, negD_int, ipAddD_int, eqD_int, neD_int, lenD_lst, lenD_tup, intD_int, slN_lst, slT_tup, asList_lst, asTup_tup, catN_lst, addD_tup, bind_err, bindS_err, raiseS_ev, heldD_row, isRowD_row, dOwn1_ev, noErr_ok, dLenRow_ev, dEqRow_ev, dMkRow_ev, dUnN_ev, dTupE_ev, plainT_etp, plainT_tup, catE_etp, tupleE_lst, dMethE_ev, dCallFn_ev, dEnum_ev, dEnumT_ev, iaugS_ev, dTru_ev, truD_bl, truD_int, truD_lst, truD_tup, mkS_list, dMeth_ev, dMethN_ev, dMeth0_ev, dZip_ev, dNewDct_ev, asLdc_ldc, sealS_ev, asSeq_lst, asSeq_tup, List.set, List.replicate, List.length_cons, List.length_nil, Nat.zero_add, Nat.reduceAdd, Nat.reduceLeDiff, if_true, Bool.not_true, Bool.not_false, List.map_nil, List.map_cons, e5, decide_eq_false hc, max2D_int]
  · exact ⟨by rw [lvStep1]; exact hF2, .sh (lD nD ws), y5, .sh (.int (lvMost (lvSet L la F ws) ws)), .own (.lst ((ws.filter fun w => decide ((lvSet L la F ws).getD w 0 = lvMost (lvSet L la F ws) ws)).map nD)), g5, by rw [lvStep1]⟩
theorem levels_ok (gs : List Int) (m : List Ob) (h : gs.length < 64) : den_levels [iT gs] m = .ok (lD D.int (levF gs), m) := by
  obtain ⟨ρ, e, hF, x4, x5, x6, x7, _, hρ⟩ := loop_rel (lD nD) (LvR gs) lvStep (tg := tgN 4) (body := lvC) (m := m) (clsF gs) (List.replicate gs.length 0, 0, -1) [.sh (iT gs), .own (.lst ((List.replicate gs.length 0).map .int)), .sh (.int 0), .sh (.int (-1)), .non, .non, .non, .non]
    ⟨List.length_replicate .., _, _, _, _, .inl rfl, rfl⟩ (fun s ρ ws hx hs => lv_step gs m h s ρ ws (cls_ne hx).1 (cls_ne hx).2 (by
      obtain ⟨g, _, rfl⟩ := List.mem_map.mp hx
      have q : (clsOf gs g).length ≤ (List.range gs.length).length := List.length_filter_le ..
      rw [List.length_range] at q
      omega) hs)
  refine fnD_rt rfl ?_
  have q := repN_int gs.length 0 (by omega)
  have qc := classes_ok gs m h
  refine (thenS_nx (ρ' := [.sh (iT gs), .own (.lst ((List.replicate gs.length (0 : Int)).map .int)), .non, .non, .non, .non, .non, .non]) (m' := m) (by
    simp only [bind_ok, bind_bad, bindS_ok, dV_ev, dL_ev, slotAt_0, slotAt_s, dC_ev, dN2V_ev, dBin_ev, dBinN_ev, dT_ev, asBool_bl, dAndT_ev, dOrT_ev, dNotT_ev, dAnd_ev, dOr_ev, dNot_ev, dIf_ev, dChain_ev, dUn_ev, dNoPart_ev, dPart_ev, dSl_ev, dNil_ev, dCons_ev, dTup_ev, dLst_ev, oneArg_ev, twoArg_ev, dCB_ev, dCall_ev, dIt_ev, dRng_ev, dYes_ev, dItV_ev, dItN_ev, thenS_ev, skipS_ev, retS_ev, exprS_ev, ifS_ev, setS_ev, setN_ev, augS_ev, isetS_ev, freezeS_ev, appS_ev, parS_ev, unS_ev, setAll_nil, setAll_cons, slot_v, slot_n, forS_ev, tgN_ev, contd_lst, pad_cons_ev, pad_nil_ev, addD_int, subD_int, ltD_int, leD_int, gtD_int, geD_int, negD_int, ipAddD_int, eqD_int, neD_int, lenD_lst, lenD_tup, intD_int, slN_lst, slT_tup, asList_lst, asTup_tup, catN_lst, addD_tup, bind_err, bindS_err, raiseS_ev, heldD_row, isRowD_row, dOwn1_ev, noErr_ok, dLenRow_ev, dEqRow_ev, dMkRow_ev, dUnN_ev, dTupE_ev, plainT_etp, plainT_tup, catE_etp, tupleE_lst, dMethE_ev, dCallFn_ev, dEnum_ev, dEnumT_ev, iaugS_ev, dTru_ev, truD_bl, truD_int, truD_lst, truD_tup, mkS_list, dMeth_ev, dMethN_ev, dMeth0_ev, dZip_ev, dNewDct_ev, asLdc_ldc, sealS_ev, asSeq_lst, asSeq_tup, List.set, List.replicate, List.length_cons, List.length_nil, Nat.zero_add, Nat.reduceAdd, Nat.reduceLeDiff, if_true, Bool.not_true, Bool.not_false, List.map_nil, List.map_cons, tD, List.length_map, q])).trans ?_
  refine (thenS_nx (ρ' := [.sh (iT gs), .own (.lst ((List.replicate gs.length (0 : Int)).map .int)), .sh (.int 0), .sh (.int (-1)), .non, .non, .non, .non]) (m' := m) (by
    simp only [bind_ok, bind_bad, bindS_ok, dV_ev, dL_ev, slotAt_0, slotAt_s, dC_ev, dN2V_ev, dBin_ev, dBinN_ev, dT_ev, asBool_bl, dAndT_ev, dOrT_ev, dNotT_ev, dAnd_ev, dOr_ev, dNot_ev, dIf_ev, dChain_ev, dUn_ev, dNoPart_ev, dPart_ev, dSl_ev, dNil_ev, dCons_ev, dTup_ev, dLst_ev, oneArg_ev, twoArg_ev, dCB_ev, dCall_ev, dIt_ev, dRng_ev, dYes_ev, dItV_ev, dItN_ev, thenS_ev, skipS_ev, retS_ev, exprS_ev, ifS_ev, setS_ev, setN_ev, augS_ev, isetS_ev, freezeS_ev, appS_ev, parS_ev, unS_ev, setAll_nil, setAll_cons, slot_v, slot_n, forS_ev, tgN_ev, contd_lst, pad_cons_ev, pad_nil_ev, addD_int, subD_int, ltD_int, leD_int, gtD_int, geD_int, negD_int, ipAddD_int, eqD_int, neD_int, lenD_lst, lenD_tup, intD_int, slN_lst, slT_tup, asList_lst, asTup_tup, catN_lst, addD_tup, bind_err, bindS_err, raiseS_ev, heldD_row, isRowD_row, dOwn1_ev, noErr_ok, dLenRow_ev, dEqRow_ev, dMkRow_ev, dUnN_ev, dTupE_ev, plainT_etp, plainT_tup, catE_etp, tupleE_lst, dMethE_ev, dCallFn_ev, dEnum_ev, dEnumT_ev, iaugS_ev, dTru_ev, truD_bl, truD_int, truD_lst, truD_tup, mkS_list, dMeth_ev, dMethN_ev, dMeth0_ev, dZip_ev, dNewDct_ev, asLdc_ldc, sealS_ev, asSeq_lst, asSeq_tup, List.set, List.replicate, List.length_cons, List.length_nil, Nat.zero_add, Nat.reduceAdd, Nat.reduceLeDiff, if_true, Bool.not_true, Bool.not_false, List.map_nil, List.map_cons, Itm.slot])).trans ?_
  refine (thenS_nx (ρ' := ρ) (m' := m) (by
    simp only [forS_ev, dIt_ev, dCall_ev, dCons_ev, dV_ev, slotAt_0, bind_ok, dNil_ev, qc, asList_lst, bindS_ok, lD]
    exact e)).trans ?_
  rw [hρ]
  simp only [bind_ok, bind_bad, bindS_ok, dV_ev, dL_ev, slotAt_0, slotAt_s, dC_ev, dN2V_ev, dBin_ev, dBinN_ev, dT_ev, asBool_bl, dAndT_ev, dOrT_ev, dNotT_ev, dAnd_ev, dOr_ev, dNot_ev, dIf_ev, dChain_ev, dUn_ev, dNoPart_ev, dPart_ev, dSl_ev, dNil_ev, dCons_ev, dTup_ev, dLst_ev, oneArg_ev, twoArg_ev, dCB_ev, dCall_ev, dIt_ev, dRng_ev, dYes_ev, dItV_ev, dItN_ev, thenS_ev, skipS_ev, retS_ev, exprS_ev, ifS_ev, setS_ev, setN_ev, augS_ev, isetS_ev, freezeS_ev, appS_ev, parS_ev, unS_ev, setAll_nil, setAll_cons, slot_v, slot_n, forS_ev, tgN_ev, contd_lst, pad_cons_ev, pad_nil_ev, addD_int, subD_int, ltD_int, leD_int, gtD_int, geD_int, negD_int, ipAddD_int, eqD_int, neD_int, lenD_lst, lenD_tup, intD_int, slN_lst, slT_tup, asList_lst, asTup_tup, catN_lst, addD_tup, bind_err, bindS_err, raiseS_ev, heldD_row, isRowD_row, dOwn1_ev, noErr_ok, dLenRow_ev, dEqRow_ev, dMkRow_ev, dUnN_ev, dTupE_ev, plainT_etp, plainT_tup, catE_etp, tupleE_lst, dMethE_ev, dCallFn_ev, dEnum_ev, dEnumT_ev, iaugS_ev, dTru_ev, truD_bl, truD_int, truD_lst, truD_tup, mkS_list, dMeth_ev, dMethN_ev, dMeth0_ev, dZip_ev, dNewDct_ev, asLdc_ldc, sealS_ev, asSeq_lst, asSeq_tup, List.set, List.replicate, List.length_cons, List.length_nil, Nat.zero_add, Nat.reduceAdd, Nat.reduceLeDiff, if_true, Bool.not_true, Bool.not_false, List.map_nil, List.map_cons]
  rfl
def pullsN' (k t : Nat) : Nat := ((List.range 14).find? fun h => decide ((k : Int) ≤ tot t h)).getD 0
abbrev lpR : SDen := (thenS (setS 3 (dC (.int 0)))
    (thenS (whileS (dT (dBin ltD (dCall den_reach (dCons (dV 3) (dCons (dV 1) dNil))) (dL 2))) (augS 3 ipAddD (dC (.int 1))) 100000)
    (retS (dV 3))))
theorem lp_tab (m : List Ob) (x0 : Slot) : ((List.range 13).map fun k => (List.range 4).map fun t => lpR [x0, .sh (nD (t + 1)), .sh (nD (k + 1)), .non] m) = ((List.range 13).map fun k => (List.range 4).map fun t => .rt (nD (pullsN' (k + 1) (t + 1))) m) := by kernel_rfl
def lpF (gs : List Int) (t : Nat) : Nat := pullsN' ((maxL (levF gs)).toNat + 1) t
theorem least_pulls_ok (gs : List Int) (t : Nat) (m : List Ob) (h0 : gs ≠ []) (h : gs.length ≤ 12) (ht : 1 ≤ t) (ht4 : t ≤ 4) : den_least_pulls [iT gs, nD t] m = .ok (nD (lpF gs t), m) := by
  have q1 := levels_ok gs m (by omega)
  obtain ⟨l1, l2⟩ := levF_max gs h0
  have hne : levF gs ≠ [] := fun e => h0 (List.length_eq_zero_iff.mp (by rw [← (levF_ok gs).1, e]; rfl))
  have q2 := maxLD_int (levF gs) hne
  have q3 : maxL (levF gs) + 1 = (((maxL (levF gs)).toNat + 1 : Nat) : Int) := by omega
  have tb := List.map_inj_left.mp (List.map_inj_left.mp (lp_tab m (.sh (iT gs))) (maxL (levF gs)).toNat (List.mem_range.mpr (by omega))) (t - 1) (List.mem_range.mpr (by omega))
  rw [show t - 1 + 1 = t by omega] at tb
  refine fnD_rt rfl ?_
  refine (thenS_nx (ρ' := [.sh (iT gs), .sh (nD t), .sh (nD ((maxL (levF gs)).toNat + 1)), .non]) (m' := m) (by
    simp only [pad_cons_ev, pad_nil_ev, List.replicate, setS_ev, dBin_ev, dCB_ev, dCons_ev, dCall_ev, dV_ev, slotAt_0, bind_ok, dNil_ev, q1, oneArg_ev, lD, q2, dC_ev, addD_int, bindS_ok, List.set, q3, nD])).trans tb
abbrev eI : List Int → D := fun o => .etp (o.map D.int)
abbrev aoD : Den Cont := (dComp2 (dIt asList (dV 1)) [3, 4] (tgN 3) dYes (dIt asList (dV 0)) [4] (tgN 4) (dT (dBin notInD (dL 4) (dUn plainT (dV 3)))) (dBin catE (dL 3) (dTupE (dCons (dV 4) dNil))))
theorem ao_step (items : List Int) (m : List Ob) (x2 : Slot) (l : List (List Int)) (hi : items.length ≤ 1000) (hl : l.length * items.length ≤ 1000000) (hr : ∀ r ∈ l, r.length ≤ 1000) :
    aoD [.sh (lD D.int items), .sh (lD eI l), x2, .non, .non] m = .ok (.lst (((l.map (longI items)).flatten).map eI), m) := by
  have e : (((l.map (longI items)).flatten).map eI) = (l.map fun some => ((items.filter fun x => !decide (x ∈ some)).map fun x => eI (some ++ [x]))).flatten := by
    rw [List.map_flatten, List.map_map]
    congr 1
    refine List.map_congr_left fun r _ => ?_
    show (longI items r).map eI = _
    unfold longI
    rw [List.map_map]
    rfl
  rw [e]
  refine dComp2_map eI D.int l (fun _ => items) (fun some x => !decide (x ∈ some)) (fun some x => eI (some ++ [x])) (by simp only [bind_ok, bind_bad, bindS_ok, dV_ev, dL_ev, slotAt_0, slotAt_s, dC_ev, dN2V_ev, dBin_ev, dBinN_ev, dT_ev, asBool_bl, dAndT_ev, dOrT_ev, dNotT_ev, dAnd_ev, dOr_ev, dNot_ev, dIf_ev, dChain_ev, dUn_ev, dNoPart_ev, dPart_ev, dSl_ev, dNil_ev, dCons_ev, dTup_ev, dLst_ev, oneArg_ev, twoArg_ev, dCB_ev, dCall_ev, dIt_ev, dRng_ev, dYes_ev, dItV_ev, dItN_ev, thenS_ev, skipS_ev, retS_ev, exprS_ev, ifS_ev, setS_ev, setN_ev, augS_ev, isetS_ev, freezeS_ev, appS_ev, parS_ev, unS_ev, setAll_nil, setAll_cons, slot_v, slot_n, forS_ev, tgN_ev, contd_lst, pad_cons_ev, pad_nil_ev, addD_int, subD_int, ltD_int, leD_int, gtD_int, geD_int, negD_int, ipAddD_int, eqD_int, neD_int, lenD_lst, lenD_tup, intD_int, slN_lst, slT_tup, asList_lst, asTup_tup, catN_lst, addD_tup, bind_err, bindS_err, raiseS_ev, heldD_row, isRowD_row, dOwn1_ev, noErr_ok, dLenRow_ev, dEqRow_ev, dMkRow_ev, dUnN_ev, dTupE_ev, plainT_etp, plainT_tup, catE_etp, tupleE_lst, dMethE_ev, dCallFn_ev, dEnum_ev, dEnumT_ev, iaugS_ev, dTru_ev, truD_bl, truD_int, truD_lst, truD_tup, mkS_list, dMeth_ev, dMethN_ev, dMeth0_ev, dZip_ev, dNewDct_ev, asLdc_ldc, sealS_ev, asSeq_lst, asSeq_tup, List.set, List.replicate, List.length_cons, List.length_nil, Nat.zero_add, Nat.reduceAdd, Nat.reduceLeDiff, if_true, Bool.not_true, Bool.not_false, List.map_nil, List.map_cons]) rfl ?_ fun r hx => ⟨_, rfl, rfl, by simp only [bind_ok, bind_bad, bindS_ok, dV_ev, dL_ev, slotAt_0, slotAt_s, dC_ev, dN2V_ev, dBin_ev, dBinN_ev, dT_ev, asBool_bl, dAndT_ev, dOrT_ev, dNotT_ev, dAnd_ev, dOr_ev, dNot_ev, dIf_ev, dChain_ev, dUn_ev, dNoPart_ev, dPart_ev, dSl_ev, dNil_ev, dCons_ev, dTup_ev, dLst_ev, oneArg_ev, twoArg_ev, dCB_ev, dCall_ev, dIt_ev, dRng_ev, dYes_ev, dItV_ev, dItN_ev, thenS_ev, skipS_ev, retS_ev, exprS_ev, ifS_ev, setS_ev, setN_ev, augS_ev, isetS_ev, freezeS_ev, appS_ev, parS_ev, unS_ev, setAll_nil, setAll_cons, slot_v, slot_n, forS_ev, tgN_ev, contd_lst, pad_cons_ev, pad_nil_ev, addD_int, subD_int, ltD_int, leD_int, gtD_int, geD_int, negD_int, ipAddD_int, eqD_int, neD_int, lenD_lst, lenD_tup, intD_int, slN_lst, slT_tup, asList_lst, asTup_tup, catN_lst, addD_tup, bind_err, bindS_err, raiseS_ev, heldD_row, isRowD_row, dOwn1_ev, noErr_ok, dLenRow_ev, dEqRow_ev, dMkRow_ev, dUnN_ev, dTupE_ev, plainT_etp, plainT_tup, catE_etp, tupleE_lst, dMethE_ev, dCallFn_ev, dEnum_ev, dEnumT_ev, iaugS_ev, dTru_ev, truD_bl, truD_int, truD_lst, truD_tup, mkS_list, dMeth_ev, dMethN_ev, dMeth0_ev, dZip_ev, dNewDct_ev, asLdc_ldc, sealS_ev, asSeq_lst, asSeq_tup, List.set, List.replicate, List.length_cons, List.length_nil, Nat.zero_add, Nat.reduceAdd, Nat.reduceLeDiff, if_true, Bool.not_true, Bool.not_false, List.map_nil, List.map_cons, wipeS], rfl, fun x hy => ⟨_, rfl, ?_, fun _ => ?_⟩⟩
  · refine Nat.le_trans (flat_le items.length _ fun x hx => ?_) (by rw [List.length_map]; omega)
    obtain ⟨r, _, rfl⟩ := List.mem_map.mp hx
    rw [List.length_map]
    exact List.length_filter_le ..
  · have q := notInD_tup enc_int (by decide) x r
    simp only [bind_ok, bind_bad, bindS_ok, dV_ev, dL_ev, slotAt_0, slotAt_s, dC_ev, dN2V_ev, dBin_ev, dBinN_ev, dT_ev, asBool_bl, dAndT_ev, dOrT_ev, dNotT_ev, dAnd_ev, dOr_ev, dNot_ev, dIf_ev, dChain_ev, dUn_ev, dNoPart_ev, dPart_ev, dSl_ev, dNil_ev, dCons_ev, dTup_ev, dLst_ev, oneArg_ev, twoArg_ev, dCB_ev, dCall_ev, dIt_ev, dRng_ev, dYes_ev, dItV_ev, dItN_ev, thenS_ev, skipS_ev, retS_ev, exprS_ev, ifS_ev, setS_ev, setN_ev, augS_ev, isetS_ev, freezeS_ev, appS_ev, parS_ev, unS_ev, setAll_nil, setAll_cons, slot_v, slot_n, forS_ev, tgN_ev, contd_lst, pad_cons_ev, pad_nil_ev, addD_int, subD_int, ltD_int, leD_int, gtD_int, geD_int, negD_int, ipAddD_int, eqD_int, neD_int, lenD_lst, lenD_tup, intD_int, slN_lst, slT_tup, asList_lst, asTup_tup, catN_lst, addD_tup, bind_err, bindS_err, raiseS_ev, heldD_row, isRowD_row, dOwn1_ev, noErr_ok, dLenRow_ev, dEqRow_ev, dMkRow_ev, dUnN_ev, dTupE_ev, plainT_etp, plainT_tup, catE_etp, tupleE_lst, dMethE_ev, dCallFn_ev, dEnum_ev, dEnumT_ev, iaugS_ev, dTru_ev, truD_bl, truD_int, truD_lst, truD_tup, mkS_list, dMeth_ev, dMethN_ev, dMeth0_ev, dZip_ev, dNewDct_ev, asLdc_ldc, sealS_ev, asSeq_lst, asSeq_tup, List.set, List.replicate, List.length_cons, List.length_nil, Nat.zero_add, Nat.reduceAdd, Nat.reduceLeDiff, if_true, Bool.not_true, Bool.not_false, List.map_nil, List.map_cons, wipeS, eI, q]
  · have q := hr r hx
    have q1 : (r.map D.int).length ≤ 16777215 := by rw [List.length_map]; omega
    simp only [bind_ok, bind_bad, bindS_ok, dV_ev, dL_ev, slotAt_0, slotAt_s, dC_ev, dN2V_ev, dBin_ev, dBinN_ev, dT_ev, asBool_bl, dAndT_ev, dOrT_ev, dNotT_ev, dAnd_ev, dOr_ev, dNot_ev, dIf_ev, dChain_ev, dUn_ev, dNoPart_ev, dPart_ev, dSl_ev, dNil_ev, dCons_ev, dTup_ev, dLst_ev, oneArg_ev, twoArg_ev, dCB_ev, dCall_ev, dIt_ev, dRng_ev, dYes_ev, dItV_ev, dItN_ev, thenS_ev, skipS_ev, retS_ev, exprS_ev, ifS_ev, setS_ev, setN_ev, augS_ev, isetS_ev, freezeS_ev, appS_ev, parS_ev, unS_ev, setAll_nil, setAll_cons, slot_v, slot_n, forS_ev, tgN_ev, contd_lst, pad_cons_ev, pad_nil_ev, addD_int, subD_int, ltD_int, leD_int, gtD_int, geD_int, negD_int, ipAddD_int, eqD_int, neD_int, lenD_lst, lenD_tup, intD_int, slN_lst, slT_tup, asList_lst, asTup_tup, catN_lst, addD_tup, bind_err, bindS_err, raiseS_ev, heldD_row, isRowD_row, dOwn1_ev, noErr_ok, dLenRow_ev, dEqRow_ev, dMkRow_ev, dUnN_ev, dTupE_ev, plainT_etp, plainT_tup, catE_etp, tupleE_lst, dMethE_ev, dCallFn_ev, dEnum_ev, dEnumT_ev, iaugS_ev, dTru_ev, truD_bl, truD_int, truD_lst, truD_tup, mkS_list, dMeth_ev, dMethN_ev, dMeth0_ev, dZip_ev, dNewDct_ev, asLdc_ldc, sealS_ev, asSeq_lst, asSeq_tup, List.set, List.replicate, List.length_cons, List.length_nil, Nat.zero_add, Nat.reduceAdd, Nat.reduceLeDiff, if_true, Bool.not_true, Bool.not_false, List.map_nil, List.map_cons, wipeS, eI, if_pos q1, List.map_append]
theorem ao_loop (items : List Int) (m : List Ob) (hi : items.length ≤ 6) : ∀ (ds : List D) (k : Nat) (x2 : Slot), k + ds.length ≤ 6 → ∃ y2,
    loopS (tgN 2) (freezeS 1 (setN 1 aoD)) ds [.sh (lD D.int items), .own (.lst ((lvlI items k).map eI)), x2, .non, .non] m = .nx [.sh (lD D.int items), .own (.lst ((lvlI items (k + ds.length)).map eI)), y2, .non, .non] m
  | [], k, x2, _ => ⟨x2, rfl⟩
  | d :: ds, k, x2, hk => by
    have hk' : k + (ds.length + 1) ≤ 6 := hk
    obtain ⟨y2, e⟩ := ao_loop items m hi ds (k + 1) (.sh d) (by omega)
    refine ⟨y2, ?_⟩
    have hb : (lvlI items k).length ≤ 6 ^ 6 := Nat.le_trans (lvlI_len items k) (Nat.le_trans (Nat.pow_le_pow_left hi k) (Nat.pow_le_pow_right (by decide) (by omega)))
    have q := ao_step items m (.sh d) (lvlI items k) (by omega) (by
      have : (lvlI items k).length * items.length ≤ 6 ^ 6 * 6 := Nat.mul_le_mul hb hi
      omega) (fun r hr => by rw [(lvlI_spec items k r hr).1]; omega)
    rw [loop_nx (ρ1 := [.sh (lD D.int items), .own (.lst ((lvlI items k).map eI)), .sh d, .non, .non]) (ρ'' := [.sh (lD D.int items), .own (.lst ((lvlI items (k + 1)).map eI)), .sh d, .non, .non]) (m'' := m) rfl (by
      simp only [freezeS_ev, slotAt_s, slotAt_0, List.set, contd_lst, setN_ev]
      rw [q]
      simp only [bindS_ok, List.set]
      rfl), e, List.length_cons, show k + 1 + ds.length = k + (ds.length + 1) by omega]
abbrev bD {α : Type} (f : α → D) : Option (Nat × α) → D
  | none => .non
  | some (h, o) => .tup [nD h, f o]
def relab (gs o : List Int) : List Int := gs.map fun g => ((o.idxOf g : Nat) : Int)
abbrev foB : SDen := (thenS (setS 5 (dCall den_least_pulls (dCons (dCB (oneArg tupleD) (dCons (dN2V (dComp (dIt asTup (dUn heldD (dL 0))) [6] (tgN 6) dYes (dMethE indexE (dL 4) (dCons (dL 6) dNil)))) dNil)) (dCons (dV 1) dNil))))
    (ifS (dOrT (dT (dBin isNonD (dL 3) (dC .non))) (dT (dBin ltD (dL 5) (dBin ixD (dL 3) (dC (.int 0)))))) (setS 3 (dTup (dCons (dV 5) (dCons (dUn plainT (dV 4)) dNil)))) skipS))
theorem best_if (m : List Ob) (h : Nat) (o : List Int) (b : Option (Nat × List Int)) (x0 x1 x2 x6 : Slot) (c : List Int → Nat) (hc : c o = h) :
    ifS (dOrT (dT (dBin isNonD (dL 3) (dC .non))) (dT (dBin ltD (dL 5) (dBin ixD (dL 3) (dC (.int 0)))))) (setS 3 (dTup (dCons (dV 5) (dCons (dUn plainT (dV 4)) dNil)))) skipS [x0, x1, x2, .sh (bD iT b), .sh (eI o), .sh (nD h), x6] m = .nx [x0, x1, x2, .sh (bD iT (bstep c b o)), .sh (eI o), .sh (nD h), x6] m := by
  subst hc
  cases b with
  | none =>
    have q : isNonD .non .non = .ok (.bl true) := rfl
    simp only [bind_ok, bind_bad, bindS_ok, dV_ev, dL_ev, slotAt_0, slotAt_s, dC_ev, dN2V_ev, dBin_ev, dBinN_ev, dT_ev, asBool_bl, dAndT_ev, dOrT_ev, dNotT_ev, dAnd_ev, dOr_ev, dNot_ev, dIf_ev, dChain_ev, dUn_ev, dNoPart_ev, dPart_ev, dSl_ev, dNil_ev, dCons_ev, dTup_ev, dLst_ev, oneArg_ev, twoArg_ev, dCB_ev, dCall_ev, dIt_ev, dRng_ev, dYes_ev, dItV_ev, dItN_ev, thenS_ev, skipS_ev, retS_ev, exprS_ev, ifS_ev, setS_ev, setN_ev, augS_ev, isetS_ev, freezeS_ev, appS_ev, parS_ev, unS_ev, setAll_nil, setAll_cons, slot_v, slot_n, forS_ev, tgN_ev, contd_lst, pad_cons_ev, pad_nil_ev, addD_int, subD_int, ltD_int, leD_int, gtD_int, geD_int, negD_int, ipAddD_int, eqD_int, neD_int, lenD_lst, lenD_tup, intD_int, slN_lst, slT_tup, asList_lst, asTup_tup, catN_lst, addD_tup, bind_err, bindS_err, raiseS_ev, heldD_row, isRowD_row, dOwn1_ev, noErr_ok, dLenRow_ev, dEqRow_ev, dMkRow_ev, dUnN_ev, dTupE_ev, plainT_etp, plainT_tup, catE_etp, tupleE_lst, dMethE_ev, dCallFn_ev, dEnum_ev, dEnumT_ev, iaugS_ev, dTru_ev, truD_bl, truD_int, truD_lst, truD_tup, mkS_list, dMeth_ev, dMethN_ev, dMeth0_ev, dZip_ev, dNewDct_ev, asLdc_ldc, sealS_ev, asSeq_lst, asSeq_tup, List.set, List.replicate, List.length_cons, List.length_nil, Nat.zero_add, Nat.reduceAdd, Nat.reduceLeDiff, if_true, Bool.not_true, Bool.not_false, List.map_nil, List.map_cons, bD, q, bstep]
  | some p =>
    obtain ⟨k, y⟩ := p
    have q : isNonD (.tup [nD k, iT y]) .non = .ok (.bl false) := rfl
    have q2 : ixD (.tup [nD k, iT y]) (.int 0) = .ok (nD k) := rfl
    by_cases hk : c o < k
    · have q3 : decide (((c o : Nat) : Int) < (k : Int)) = true := by rw [decide_eq_true_eq]; omega
      simp only [bstep, if_pos hk]
      simp only [bind_ok, bind_bad, bindS_ok, dV_ev, dL_ev, slotAt_0, slotAt_s, dC_ev, dN2V_ev, dBin_ev, dBinN_ev, dT_ev, asBool_bl, dAndT_ev, dOrT_ev, dNotT_ev, dAnd_ev, dOr_ev, dNot_ev, dIf_ev, dChain_ev, dUn_ev, dNoPart_ev, dPart_ev, dSl_ev, dNil_ev, dCons_ev, dTup_ev, dLst_ev, oneArg_ev, twoArg_ev, dCB_ev, dCall_ev, dIt_ev, dRng_ev, dYes_ev, dItV_ev, dItN_ev, thenS_ev, skipS_ev, retS_ev, exprS_ev, ifS_ev, setS_ev, setN_ev, augS_ev, isetS_ev, freezeS_ev, appS_ev, parS_ev, unS_ev, setAll_nil, setAll_cons, slot_v, slot_n, forS_ev, tgN_ev, contd_lst, pad_cons_ev, pad_nil_ev, addD_int, subD_int, ltD_int, leD_int, gtD_int, geD_int, negD_int, ipAddD_int, eqD_int, neD_int, lenD_lst, lenD_tup, intD_int, slN_lst, slT_tup, asList_lst, asTup_tup, catN_lst, addD_tup, bind_err, bindS_err, raiseS_ev, heldD_row, isRowD_row, dOwn1_ev, noErr_ok, dLenRow_ev, dEqRow_ev, dMkRow_ev, dUnN_ev, dTupE_ev, plainT_etp, plainT_tup, catE_etp, tupleE_lst, dMethE_ev, dCallFn_ev, dEnum_ev, dEnumT_ev, iaugS_ev, dTru_ev, truD_bl, truD_int, truD_lst, truD_tup, mkS_list, dMeth_ev, dMethN_ev, dMeth0_ev, dZip_ev, dNewDct_ev, asLdc_ldc, sealS_ev, asSeq_lst, asSeq_tup, List.set, List.replicate, List.length_cons, List.length_nil, Nat.zero_add, Nat.reduceAdd, Nat.reduceLeDiff, if_true, Bool.not_true, Bool.not_false, List.map_nil, List.map_cons, bD, q, q2, nD, q3]
    · have q3 : decide (((c o : Nat) : Int) < (k : Int)) = false := by rw [decide_eq_false_iff_not]; omega
      simp only [bstep, if_neg hk]
      simp only [bind_ok, bind_bad, bindS_ok, dV_ev, dL_ev, slotAt_0, slotAt_s, dC_ev, dN2V_ev, dBin_ev, dBinN_ev, dT_ev, asBool_bl, dAndT_ev, dOrT_ev, dNotT_ev, dAnd_ev, dOr_ev, dNot_ev, dIf_ev, dChain_ev, dUn_ev, dNoPart_ev, dPart_ev, dSl_ev, dNil_ev, dCons_ev, dTup_ev, dLst_ev, oneArg_ev, twoArg_ev, dCB_ev, dCall_ev, dIt_ev, dRng_ev, dYes_ev, dItV_ev, dItN_ev, thenS_ev, skipS_ev, retS_ev, exprS_ev, ifS_ev, setS_ev, setN_ev, augS_ev, isetS_ev, freezeS_ev, appS_ev, parS_ev, unS_ev, setAll_nil, setAll_cons, slot_v, slot_n, forS_ev, tgN_ev, contd_lst, pad_cons_ev, pad_nil_ev, addD_int, subD_int, ltD_int, leD_int, gtD_int, geD_int, negD_int, ipAddD_int, eqD_int, neD_int, lenD_lst, lenD_tup, intD_int, slN_lst, slT_tup, asList_lst, asTup_tup, catN_lst, addD_tup, bind_err, bindS_err, raiseS_ev, heldD_row, isRowD_row, dOwn1_ev, noErr_ok, dLenRow_ev, dEqRow_ev, dMkRow_ev, dUnN_ev, dTupE_ev, plainT_etp, plainT_tup, catE_etp, tupleE_lst, dMethE_ev, dCallFn_ev, dEnum_ev, dEnumT_ev, iaugS_ev, dTru_ev, truD_bl, truD_int, truD_lst, truD_tup, mkS_list, dMeth_ev, dMethN_ev, dMeth0_ev, dZip_ev, dNewDct_ev, asLdc_ldc, sealS_ev, asSeq_lst, asSeq_tup, List.set, List.replicate, List.length_cons, List.length_nil, Nat.zero_add, Nat.reduceAdd, Nat.reduceLeDiff, if_true, Bool.not_true, Bool.not_false, List.map_nil, List.map_cons, bD, q, q2, nD, q3]
theorem fo_step (gs : List Int) (t : Nat) (m : List Ob) (h0 : gs ≠ []) (h : gs.length ≤ 12) (ht : 1 ≤ t) (ht4 : t ≤ 4) (o : List Int) (ho : ∀ g ∈ gs, g ∈ o) (b : Option (Nat × List Int)) (x2 x5 : Slot) :
    foB [.sh (.row (iT gs)), .sh (nD t), x2, .sh (bD iT b), .sh (eI o), x5, .non] m = .nx [.sh (.row (iT gs)), .sh (nD t), x2, .sh (bD iT (bstep (fun o => lpF (relab gs o) t) b o)), .sh (eI o), .sh (nD (lpF (relab gs o) t)), .non] m := by
  have e1 := dComp_all (ρ := [.sh (.row (iT gs)), .sh (nD t), x2, .sh (bD iT b), .sh (eI o), x5, .non]) (m := m) (m' := m) D.int (di := dIt asTup (dUn heldD (dL 0))) (vs := [6]) (tg := tgN 6) (elt := dMethE indexE (dL 4) (dCons (dL 6) dNil)) gs (fun g => D.int ((o.idxOf g : Nat) : Int))
    (by simp only [bind_ok, bind_bad, bindS_ok, dV_ev, dL_ev, slotAt_0, slotAt_s, dC_ev, dN2V_ev, dBin_ev, dBinN_ev, dT_ev, asBool_bl, dAndT_ev, dOrT_ev, dNotT_ev, dAnd_ev, dOr_ev, dNot_ev, dIf_ev, dChain_ev, dUn_ev, dNoPart_ev, dPart_ev, dSl_ev, dNil_ev, dCons_ev, dTup_ev, dLst_ev, oneArg_ev, twoArg_ev, dCB_ev, dCall_ev, dIt_ev, dRng_ev, dYes_ev, dItV_ev, dItN_ev, thenS_ev, skipS_ev, retS_ev, exprS_ev, ifS_ev, setS_ev, setN_ev, augS_ev, isetS_ev, freezeS_ev, appS_ev, parS_ev, unS_ev, setAll_nil, setAll_cons, slot_v, slot_n, forS_ev, tgN_ev, contd_lst, pad_cons_ev, pad_nil_ev, addD_int, subD_int, ltD_int, leD_int, gtD_int, geD_int, negD_int, ipAddD_int, eqD_int, neD_int, lenD_lst, lenD_tup, intD_int, slN_lst, slT_tup, asList_lst, asTup_tup, catN_lst, addD_tup, bind_err, bindS_err, raiseS_ev, heldD_row, isRowD_row, dOwn1_ev, noErr_ok, dLenRow_ev, dEqRow_ev, dMkRow_ev, dUnN_ev, dTupE_ev, plainT_etp, plainT_tup, catE_etp, tupleE_lst, dMethE_ev, dCallFn_ev, dEnum_ev, dEnumT_ev, iaugS_ev, dTru_ev, truD_bl, truD_int, truD_lst, truD_tup, mkS_list, dMeth_ev, dMethN_ev, dMeth0_ev, dZip_ev, dNewDct_ev, asLdc_ldc, sealS_ev, asSeq_lst, asSeq_tup, List.set, List.replicate, List.length_cons, List.length_nil, Nat.zero_add, Nat.reduceAdd, Nat.reduceLeDiff, if_true, Bool.not_true, Bool.not_false, List.map_nil, List.map_cons, tD]) rfl (by omega) (fun g hg => ⟨_, rfl, by simp only [bind_ok, bind_bad, bindS_ok, dV_ev, dL_ev, slotAt_0, slotAt_s, dC_ev, dN2V_ev, dBin_ev, dBinN_ev, dT_ev, asBool_bl, dAndT_ev, dOrT_ev, dNotT_ev, dAnd_ev, dOr_ev, dNot_ev, dIf_ev, dChain_ev, dUn_ev, dNoPart_ev, dPart_ev, dSl_ev, dNil_ev, dCons_ev, dTup_ev, dLst_ev, oneArg_ev, twoArg_ev, dCB_ev, dCall_ev, dIt_ev, dRng_ev, dYes_ev, dItV_ev, dItN_ev, thenS_ev, skipS_ev, retS_ev, exprS_ev, ifS_ev, setS_ev, setN_ev, augS_ev, isetS_ev, freezeS_ev, appS_ev, parS_ev, unS_ev, setAll_nil, setAll_cons, slot_v, slot_n, forS_ev, tgN_ev, contd_lst, pad_cons_ev, pad_nil_ev, addD_int, subD_int, ltD_int, leD_int, gtD_int, geD_int, negD_int, ipAddD_int, eqD_int, neD_int, lenD_lst, lenD_tup, intD_int, slN_lst, slT_tup, asList_lst, asTup_tup, catN_lst, addD_tup, bind_err, bindS_err, raiseS_ev, heldD_row, isRowD_row, dOwn1_ev, noErr_ok, dLenRow_ev, dEqRow_ev, dMkRow_ev, dUnN_ev, dTupE_ev, plainT_etp, plainT_tup, catE_etp, tupleE_lst, dMethE_ev, dCallFn_ev, dEnum_ev, dEnumT_ev, iaugS_ev, dTru_ev, truD_bl, truD_int, truD_lst, truD_tup, mkS_list, dMeth_ev, dMethN_ev, dMeth0_ev, dZip_ev, dNewDct_ev, asLdc_ldc, sealS_ev, asSeq_lst, asSeq_tup, List.set, List.replicate, List.length_cons, List.length_nil, Nat.zero_add, Nat.reduceAdd, Nat.reduceLeDiff, if_true, Bool.not_true, Bool.not_false, List.map_nil, List.map_cons, wipeS, eI, indexE_int g o (ho g hg)]⟩)
  have e2 : tupleD (.lst (gs.map fun g => D.int ((o.idxOf g : Nat) : Int))) = .ok (iT (relab gs o)) := by
    show Res.ok (D.tup _) = Res.ok (D.tup _)
    unfold relab
    rw [List.map_map]
    rfl
  have e3 := least_pulls_ok (relab gs o) t m (by unfold relab; exact fun e => h0 (List.map_eq_nil_iff.mp e)) (by unfold relab; rw [List.length_map]; exact h) ht ht4
  refine (thenS_nx (ρ' := [.sh (.row (iT gs)), .sh (nD t), x2, .sh (bD iT b), .sh (eI o), .sh (nD (lpF (relab gs o) t)), .non]) (m' := m) (by
    simp only [setS_ev, dCall_ev, dCons_ev, dCB_ev, dN2V_ev, e1, bind_ok, dNil_ev, contd_lst, oneArg_ev, e2, dV_ev, slotAt_s, slotAt_0, e3, bindS_ok, List.set])).trans ?_
  exact best_if m (lpF (relab gs o) t) o b _ _ _ _ (fun o => lpF (relab gs o) t) rfl
def freeF (gs : List Int) (t : Nat) : Option (Nat × List Int) := bestF (fun o => lpF (relab gs o) t) (ordI (sset (isort gs)))
theorem fo_loop (gs : List Int) (t : Nat) (m : List Ob) (h0 : gs ≠ []) (h : gs.length ≤ 12) (ht : 1 ≤ t) (ht4 : t ≤ 4) (x2 : Slot) : ∀ (os : List (List Int)) (b : Option (Nat × List Int)) (x4 x5 : Slot), (∀ o ∈ os, ∀ g ∈ gs, g ∈ o) → ∃ y4 y5,
    loopS (tgN 4) foB (os.map eI) [.sh (.row (iT gs)), .sh (nD t), x2, .sh (bD iT b), x4, x5, .non] m = .nx [.sh (.row (iT gs)), .sh (nD t), x2, .sh (bD iT (os.foldl (bstep fun o => lpF (relab gs o) t) b)), y4, y5, .non] m
  | [], b, x4, x5, _ => ⟨x4, x5, rfl⟩
  | o :: os, b, x4, x5, ho => by
    obtain ⟨y4, y5, e⟩ := fo_loop gs t m h0 h ht ht4 x2 os (bstep (fun o => lpF (relab gs o) t) b o) (.sh (eI o)) (.sh (nD (lpF (relab gs o) t))) fun o ho' => ho o (List.mem_cons_of_mem _ ho')
    refine ⟨y4, y5, ?_⟩
    rw [List.map_cons, loop_nx rfl (fo_step gs t m h0 h ht ht4 o (ho o (List.mem_cons_self ..)) b x2 x5), e]
    rfl
theorem check_row_ok (g : D) (m : List Ob) : den_check_row [.row g] m = .ok (.non, m) := by
  refine fnD_nx (ρ' := [.sh (.row g)]) rfl ?_
  simp only [bind_ok, bind_bad, bindS_ok, dV_ev, dL_ev, slotAt_0, slotAt_s, dC_ev, dN2V_ev, dBin_ev, dBinN_ev, dT_ev, asBool_bl, dAndT_ev, dOrT_ev, dNotT_ev, dAnd_ev, dOr_ev, dNot_ev, dIf_ev, dChain_ev, dUn_ev, dNoPart_ev, dPart_ev, dSl_ev, dNil_ev, dCons_ev, dTup_ev, dLst_ev, oneArg_ev, twoArg_ev, dCB_ev, dCall_ev, dIt_ev, dRng_ev, dYes_ev, dItV_ev, dItN_ev, thenS_ev, skipS_ev, retS_ev, exprS_ev, ifS_ev, setS_ev, setN_ev, augS_ev, isetS_ev, freezeS_ev, appS_ev, parS_ev, unS_ev, setAll_nil, setAll_cons, slot_v, slot_n, forS_ev, tgN_ev, contd_lst, pad_cons_ev, pad_nil_ev, addD_int, subD_int, ltD_int, leD_int, gtD_int, geD_int, negD_int, ipAddD_int, eqD_int, neD_int, lenD_lst, lenD_tup, intD_int, slN_lst, slT_tup, asList_lst, asTup_tup, catN_lst, addD_tup, bind_err, bindS_err, raiseS_ev, heldD_row, isRowD_row, dOwn1_ev, noErr_ok, dLenRow_ev, dEqRow_ev, dMkRow_ev, dUnN_ev, dTupE_ev, plainT_etp, plainT_tup, catE_etp, tupleE_lst, dMethE_ev, dCallFn_ev, dEnum_ev, dEnumT_ev, iaugS_ev, dTru_ev, truD_bl, truD_int, truD_lst, truD_tup, mkS_list, dMeth_ev, dMethN_ev, dMeth0_ev, dZip_ev, dNewDct_ev, asLdc_ldc, sealS_ev, asSeq_lst, asSeq_tup, List.set, List.replicate, List.length_cons, List.length_nil, Nat.zero_add, Nat.reduceAdd, Nat.reduceLeDiff, if_true, Bool.not_true, Bool.not_false, List.map_nil, List.map_cons]
abbrev eN : List Nat → D := fun o => .etp (o.map nD)
abbrev mxB : SDen := thenS (ifS (dT (dBin ltD (dMethE countD (dL 5) (dCons (dC (.int 0)) dNil)) (dL 0))) (appS 4 (dCons (dBin catE (dL 5) (dTupE (dCons (dC (.int 0)) dNil))) dNil)) skipS)
    (ifS (dT (dBin ltD (dMethE countD (dL 5) (dCons (dC (.int 1)) dNil)) (dL 1))) (appS 4 (dCons (dBin catE (dL 5) (dTupE (dCons (dC (.int 1)) dNil))) dNil)) skipS)
theorem mx_step (a b : Nat) (m : List Ob) (x2 x3 : Slot) (acc : List (List Nat)) (r : List Nat) (h : acc.length ≤ 1000000) (hr : r.length ≤ 1000) :
    mxB [.sh (nD a), .sh (nD b), x2, x3, .own (.lst (acc.map eN)), .sh (eN r)] m = .nx [.sh (nD a), .sh (nD b), x2, x3, .own (.lst ((acc ++ moreM a b r).map eN)), .sh (eN r)] m := by
  have c0 : countD (.etp (r.map nD)) [.int 0] = .ok (.int ((r.count 0 : Nat) : Int)) := countD_nat 0 r
  have c1 : countD (.etp (r.map nD)) [.int 1] = .ok (.int ((r.count 1 : Nat) : Int)) := countD_nat 1 r
  have q1 : (r.map nD).length ≤ 16777215 := by rw [List.length_map]; omega
  have e0 : r.map nD ++ [.int 0] = (r ++ [0]).map nD := by rw [List.map_append]; rfl
  have e1 : r.map nD ++ [.int 1] = (r ++ [1]).map nD := by rw [List.map_append]; rfl
  have q2 : (acc.map eN).length < 16777216 := by rw [List.length_map]; omega
  refine (thenS_nx (ρ' := [.sh (nD a), .sh (nD b), x2, x3, .own (.lst ((acc ++ (if r.count 0 < a then [r ++ [0]] else [])).map eN)), .sh (eN r)]) (m' := m) ?_).trans ?_
  · by_cases h0 : r.count 0 < a
    · have d0 : decide (((r.count 0 : Nat) : Int) < (a : Int)) = true := by rw [decide_eq_true_eq]; omega
      rw [if_pos h0]
      simp only [bind_ok, bind_bad, bindS_ok, dV_ev, dL_ev, slotAt_0, slotAt_s, dC_ev, dN2V_ev, dBin_ev, dBinN_ev, dT_ev, asBool_bl, dAndT_ev, dOrT_ev, dNotT_ev, dAnd_ev, dOr_ev, dNot_ev, dIf_ev, dChain_ev, dUn_ev, dNoPart_ev, dPart_ev, dSl_ev, dNil_ev, dCons_ev, dTup_ev, dLst_ev, oneArg_ev, twoArg_ev, dCB_ev, dCall_ev, dIt_ev, dRng_ev, dYes_ev, dItV_ev, dItN_ev, thenS_ev, skipS_ev, retS_ev, exprS_ev, ifS_ev, setS_ev, setN_ev, augS_ev, isetS_ev, freezeS_ev, appS_ev, parS_ev, unS_ev, setAll_nil, setAll_cons, slot_v, slot_n, forS_ev, tgN_ev, contd_lst, pad_cons_ev, pad_nil_ev, addD_int, subD_int, ltD_int, leD_int, gtD_int, geD_int, negD_int, ipAddD_int, eqD_int, neD_int, lenD_lst, lenD_tup, intD_int, slN_lst, slT_tup, asList_lst, asTup_tup, catN_lst, addD_tup, bind_err, bindS_err, raiseS_ev, heldD_row, isRowD_row, dOwn1_ev, noErr_ok, dLenRow_ev, dEqRow_ev, dMkRow_ev, dUnN_ev, dTupE_ev, plainT_etp, plainT_tup, catE_etp, tupleE_lst, dMethE_ev, dCallFn_ev, dEnum_ev, dEnumT_ev, iaugS_ev, dTru_ev, truD_bl, truD_int, truD_lst, truD_tup, mkS_list, dMeth_ev, dMethN_ev, dMeth0_ev, dZip_ev, dNewDct_ev, asLdc_ldc, sealS_ev, asSeq_lst, asSeq_tup, List.set, List.replicate, List.length_cons, List.length_nil, Nat.zero_add, Nat.reduceAdd, Nat.reduceLeDiff, if_true, Bool.not_true, Bool.not_false, List.map_nil, List.map_cons, eN, nD, c0, d0, if_pos q1, e0, if_pos q2, List.map_append]
    · have d0 : decide (((r.count 0 : Nat) : Int) < (a : Int)) = false := by rw [decide_eq_false_iff_not]; omega
      rw [if_neg h0, List.append_nil]
      simp only [bind_ok, bind_bad, bindS_ok, dV_ev, dL_ev, slotAt_0, slotAt_s, dC_ev, dN2V_ev, dBin_ev, dBinN_ev, dT_ev, asBool_bl, dAndT_ev, dOrT_ev, dNotT_ev, dAnd_ev, dOr_ev, dNot_ev, dIf_ev, dChain_ev, dUn_ev, dNoPart_ev, dPart_ev, dSl_ev, dNil_ev, dCons_ev, dTup_ev, dLst_ev, oneArg_ev, twoArg_ev, dCB_ev, dCall_ev, dIt_ev, dRng_ev, dYes_ev, dItV_ev, dItN_ev, thenS_ev, skipS_ev, retS_ev, exprS_ev, ifS_ev, setS_ev, setN_ev, augS_ev, isetS_ev, freezeS_ev, appS_ev, parS_ev, unS_ev, setAll_nil, setAll_cons, slot_v, slot_n, forS_ev, tgN_ev, contd_lst, pad_cons_ev, pad_nil_ev, addD_int, subD_int, ltD_int, leD_int, gtD_int, geD_int, negD_int, ipAddD_int, eqD_int, neD_int, lenD_lst, lenD_tup, intD_int, slN_lst, slT_tup, asList_lst, asTup_tup, catN_lst, addD_tup, bind_err, bindS_err, raiseS_ev, heldD_row, isRowD_row, dOwn1_ev, noErr_ok, dLenRow_ev, dEqRow_ev, dMkRow_ev, dUnN_ev, dTupE_ev, plainT_etp, plainT_tup, catE_etp, tupleE_lst, dMethE_ev, dCallFn_ev, dEnum_ev, dEnumT_ev, iaugS_ev, dTru_ev, truD_bl, truD_int, truD_lst, truD_tup, mkS_list, dMeth_ev, dMethN_ev, dMeth0_ev, dZip_ev, dNewDct_ev, asLdc_ldc, sealS_ev, asSeq_lst, asSeq_tup, List.set, List.replicate, List.length_cons, List.length_nil, Nat.zero_add, Nat.reduceAdd, Nat.reduceLeDiff, if_true, Bool.not_true, Bool.not_false, List.map_nil, List.map_cons, eN, nD, c0, d0]
  · have q3 : ((acc ++ (if r.count 0 < a then [r ++ [0]] else [])).map eN).length < 16777216 := by rw [List.length_map, List.length_append]; split <;> simp <;> omega
    unfold moreM
    rw [← List.append_assoc]
    generalize acc ++ (if r.count 0 < a then [r ++ [0]] else []) = acc' at q3
    by_cases h0 : r.count 1 < b
    · have d0 : decide (((r.count 1 : Nat) : Int) < (b : Int)) = true := by rw [decide_eq_true_eq]; omega
      rw [if_pos h0]
      simp only [bind_ok, bind_bad, bindS_ok, dV_ev, dL_ev, slotAt_0, slotAt_s, dC_ev, dN2V_ev, dBin_ev, dBinN_ev, dT_ev, asBool_bl, dAndT_ev, dOrT_ev, dNotT_ev, dAnd_ev, dOr_ev, dNot_ev, dIf_ev, dChain_ev, dUn_ev, dNoPart_ev, dPart_ev, dSl_ev, dNil_ev, dCons_ev, dTup_ev, dLst_ev, oneArg_ev, twoArg_ev, dCB_ev, dCall_ev, dIt_ev, dRng_ev, dYes_ev, dItV_ev, dItN_ev, thenS_ev, skipS_ev, retS_ev, exprS_ev, ifS_ev, setS_ev, setN_ev, augS_ev, isetS_ev, freezeS_ev, appS_ev, parS_ev, unS_ev, setAll_nil, setAll_cons, slot_v, slot_n, forS_ev, tgN_ev, contd_lst, pad_cons_ev, pad_nil_ev, addD_int, subD_int, ltD_int, leD_int, gtD_int, geD_int, negD_int, ipAddD_int, eqD_int, neD_int, lenD_lst, lenD_tup, intD_int, slN_lst, slT_tup, asList_lst, asTup_tup, catN_lst, addD_tup, bind_err, bindS_err, raiseS_ev, heldD_row, isRowD_row, dOwn1_ev, noErr_ok, dLenRow_ev, dEqRow_ev, dMkRow_ev, dUnN_ev, dTupE_ev, plainT_etp, plainT_tup, catE_etp, tupleE_lst, dMethE_ev, dCallFn_ev, dEnum_ev, dEnumT_ev, iaugS_ev, dTru_ev, truD_bl, truD_int, truD_lst, truD_tup, mkS_list, dMeth_ev, dMethN_ev, dMeth0_ev, dZip_ev, dNewDct_ev, asLdc_ldc, sealS_ev, asSeq_lst, asSeq_tup, List.set, List.replicate, List.length_cons, List.length_nil, Nat.zero_add, Nat.reduceAdd, Nat.reduceLeDiff, if_true, Bool.not_true, Bool.not_false, List.map_nil, List.map_cons, eN, nD, c1, d0, if_pos q1, e1, if_pos q3, List.map_append]
    · have d0 : decide (((r.count 1 : Nat) : Int) < (b : Int)) = false := by rw [decide_eq_false_iff_not]; omega
      rw [if_neg h0, List.append_nil]
      simp only [bind_ok, bind_bad, bindS_ok, dV_ev, dL_ev, slotAt_0, slotAt_s, dC_ev, dN2V_ev, dBin_ev, dBinN_ev, dT_ev, asBool_bl, dAndT_ev, dOrT_ev, dNotT_ev, dAnd_ev, dOr_ev, dNot_ev, dIf_ev, dChain_ev, dUn_ev, dNoPart_ev, dPart_ev, dSl_ev, dNil_ev, dCons_ev, dTup_ev, dLst_ev, oneArg_ev, twoArg_ev, dCB_ev, dCall_ev, dIt_ev, dRng_ev, dYes_ev, dItV_ev, dItN_ev, thenS_ev, skipS_ev, retS_ev, exprS_ev, ifS_ev, setS_ev, setN_ev, augS_ev, isetS_ev, freezeS_ev, appS_ev, parS_ev, unS_ev, setAll_nil, setAll_cons, slot_v, slot_n, forS_ev, tgN_ev, contd_lst, pad_cons_ev, pad_nil_ev, addD_int, subD_int, ltD_int, leD_int, gtD_int, geD_int, negD_int, ipAddD_int, eqD_int, neD_int, lenD_lst, lenD_tup, intD_int, slN_lst, slT_tup, asList_lst, asTup_tup, catN_lst, addD_tup, bind_err, bindS_err, raiseS_ev, heldD_row, isRowD_row, dOwn1_ev, noErr_ok, dLenRow_ev, dEqRow_ev, dMkRow_ev, dUnN_ev, dTupE_ev, plainT_etp, plainT_tup, catE_etp, tupleE_lst, dMethE_ev, dCallFn_ev, dEnum_ev, dEnumT_ev, iaugS_ev, dTru_ev, truD_bl, truD_int, truD_lst, truD_tup, mkS_list, dMeth_ev, dMethN_ev, dMeth0_ev, dZip_ev, dNewDct_ev, asLdc_ldc, sealS_ev, asSeq_lst, asSeq_tup, List.set, List.replicate, List.length_cons, List.length_nil, Nat.zero_add, Nat.reduceAdd, Nat.reduceLeDiff, if_true, Bool.not_true, Bool.not_false, List.map_nil, List.map_cons, eN, nD, c1, d0]
theorem mx_in (a b : Nat) (m : List Ob) (x2 x3 : Slot) : ∀ (l acc : List (List Nat)) (x5 : Slot), acc.length + 2 * l.length ≤ 1000000 → (∀ r ∈ l, r.length ≤ 1000) → ∃ y5,
    loopS (tgN 5) mxB (l.map eN) [.sh (nD a), .sh (nD b), x2, x3, .own (.lst (acc.map eN)), x5] m = .nx [.sh (nD a), .sh (nD b), x2, x3, .own (.lst ((acc ++ (l.map (moreM a b)).flatten).map eN)), y5] m
  | [], acc, x5, _, _ => ⟨x5, by rw [List.map_nil, List.map_nil, List.flatten_nil, List.append_nil]; rfl⟩
  | r :: l, acc, x5, hl, hr => by
    have hl' : acc.length + 2 * (l.length + 1) ≤ 1000000 := hl
    have h2 := moreM_len a b r
    obtain ⟨y5, e⟩ := mx_in a b m x2 x3 l (acc ++ moreM a b r) (.sh (eN r)) (by rw [List.length_append]; omega) (fun x hx => hr x (List.mem_cons_of_mem _ hx))
    refine ⟨y5, ?_⟩
    rw [List.map_cons, loop_nx (ρ1 := [.sh (nD a), .sh (nD b), x2, x3, .own (.lst (acc.map eN)), .sh (eN r)]) rfl (mx_step a b m x2 x3 acc r (by omega) (hr r (List.mem_cons_self ..))), e, List.map_cons, List.flatten_cons, List.append_assoc]
abbrev mxO : SDen := thenS (setN 4 (dLst dNil)) (thenS (forS (dIt asList (dV 2)) (tgN 5) mxB) (freezeS 4 (setS 2 (dV 4))))
theorem mx_out (a b : Nat) (m : List Ob) : ∀ (ds : List D) (k : Nat) (x3 x4 x5 : Slot), k + ds.length ≤ 12 → ∃ y3 y4 y5,
    loopS (tgN 3) mxO ds [.sh (nD a), .sh (nD b), .sh (lD eN (iterM a b k [[]])), x3, x4, x5] m = .nx [.sh (nD a), .sh (nD b), .sh (lD eN (iterM a b (k + ds.length) [[]])), y3, y4, y5] m
  | [], k, x3, x4, x5, _ => ⟨x3, x4, x5, rfl⟩
  | d :: ds, k, x3, x4, x5, hk => by
    have hk' : k + (ds.length + 1) ≤ 12 := hk
    have hb : (iterM a b k [[]]).length ≤ 2 ^ 12 := Nat.le_trans (iterM_len a b k) (Nat.pow_le_pow_right (by decide) (by omega))
    obtain ⟨y5, e1⟩ := mx_in a b m (.sh (lD eN (iterM a b k [[]]))) (.sh d) (iterM a b k [[]]) [] x5 (by rw [List.length_nil]; omega) (fun r hr => by rw [iterM_each a b k r hr]; omega)
    obtain ⟨y3, y4, y5', e⟩ := mx_out a b m ds (k + 1) (.sh d) (.sh (lD eN (iterM a b (k + 1) [[]]))) y5 (by omega)
    refine ⟨y3, y4, y5', ?_⟩
    rw [List.nil_append, ← iterM_snoc] at e1
    rw [loop_nx (ρ1 := [.sh (nD a), .sh (nD b), .sh (lD eN (iterM a b k [[]])), .sh d, x4, x5]) (ρ'' := [.sh (nD a), .sh (nD b), .sh (lD eN (iterM a b (k + 1) [[]])), .sh d, .sh (lD eN (iterM a b (k + 1) [[]])), y5]) (m'' := m) rfl (by
      refine (thenS_nx (ρ' := [.sh (nD a), .sh (nD b), .sh (lD eN (iterM a b k [[]])), .sh d, .own (.lst (([] : List (List Nat)).map eN)), x5]) (m' := m) (by simp only [bind_ok, bind_bad, bindS_ok, dV_ev, dL_ev, slotAt_0, slotAt_s, dC_ev, dN2V_ev, dBin_ev, dBinN_ev, dT_ev, asBool_bl, dAndT_ev, dOrT_ev, dNotT_ev, dAnd_ev, dOr_ev, dNot_ev, dIf_ev, dChain_ev, dUn_ev, dNoPart_ev, dPart_ev, dSl_ev, dNil_ev, dCons_ev, dTup_ev, dLst_ev, oneArg_ev, twoArg_ev, dCB_ev, dCall_ev, dIt_ev, dRng_ev, dYes_ev, dItV_ev, dItN_ev, thenS_ev, skipS_ev, retS_ev, exprS_ev, ifS_ev, setS_ev, setN_ev, augS_ev, isetS_ev, freezeS_ev, appS_ev, parS_ev, unS_ev, setAll_nil, setAll_cons, slot_v, slot_n, forS_ev, tgN_ev, contd_lst, pad_cons_ev, pad_nil_ev, addD_int, subD_int, ltD_int, leD_int, gtD_int, geD_int, negD_int, ipAddD_int, eqD_int, neD_int, lenD_lst, lenD_tup, intD_int, slN_lst, slT_tup, asList_lst, asTup_tup, catN_lst, addD_tup, bind_err, bindS_err, raiseS_ev, heldD_row, isRowD_row, dOwn1_ev, noErr_ok, dLenRow_ev, dEqRow_ev, dMkRow_ev, dUnN_ev, dTupE_ev, plainT_etp, plainT_tup, catE_etp, tupleE_lst, dMethE_ev, dCallFn_ev, dEnum_ev, dEnumT_ev, iaugS_ev, dTru_ev, truD_bl, truD_int, truD_lst, truD_tup, mkS_list, dMeth_ev, dMethN_ev, dMeth0_ev, dZip_ev, dNewDct_ev, asLdc_ldc, sealS_ev, asSeq_lst, asSeq_tup, List.set, List.replicate, List.length_cons, List.length_nil, Nat.zero_add, Nat.reduceAdd, Nat.reduceLeDiff, if_true, Bool.not_true, Bool.not_false, List.map_nil, List.map_cons])).trans ?_
      refine (thenS_nx (ρ' := [.sh (nD a), .sh (nD b), .sh (lD eN (iterM a b k [[]])), .sh d, .own (.lst ((iterM a b (k + 1) [[]]).map eN)), y5]) (m' := m) (by
        simp only [forS_ev, dIt_ev, dV_ev, slotAt_0, slotAt_s, bind_ok, asList_lst, lD, bindS_ok]
        exact e1)).trans ?_
      simp only [bind_ok, bind_bad, bindS_ok, dV_ev, dL_ev, slotAt_0, slotAt_s, dC_ev, dN2V_ev, dBin_ev, dBinN_ev, dT_ev, asBool_bl, dAndT_ev, dOrT_ev, dNotT_ev, dAnd_ev, dOr_ev, dNot_ev, dIf_ev, dChain_ev, dUn_ev, dNoPart_ev, dPart_ev, dSl_ev, dNil_ev, dCons_ev, dTup_ev, dLst_ev, oneArg_ev, twoArg_ev, dCB_ev, dCall_ev, dIt_ev, dRng_ev, dYes_ev, dItV_ev, dItN_ev, thenS_ev, skipS_ev, retS_ev, exprS_ev, ifS_ev, setS_ev, setN_ev, augS_ev, isetS_ev, freezeS_ev, appS_ev, parS_ev, unS_ev, setAll_nil, setAll_cons, slot_v, slot_n, forS_ev, tgN_ev, contd_lst, pad_cons_ev, pad_nil_ev, addD_int, subD_int, ltD_int, leD_int, gtD_int, geD_int, negD_int, ipAddD_int, eqD_int, neD_int, lenD_lst, lenD_tup, intD_int, slN_lst, slT_tup, asList_lst, asTup_tup, catN_lst, addD_tup, bind_err, bindS_err, raiseS_ev, heldD_row, isRowD_row, dOwn1_ev, noErr_ok, dLenRow_ev, dEqRow_ev, dMkRow_ev, dUnN_ev, dTupE_ev, plainT_etp, plainT_tup, catE_etp, tupleE_lst, dMethE_ev, dCallFn_ev, dEnum_ev, dEnumT_ev, iaugS_ev, dTru_ev, truD_bl, truD_int, truD_lst, truD_tup, mkS_list, dMeth_ev, dMethN_ev, dMeth0_ev, dZip_ev, dNewDct_ev, asLdc_ldc, sealS_ev, asSeq_lst, asSeq_tup, List.set, List.replicate, List.length_cons, List.length_nil, Nat.zero_add, Nat.reduceAdd, Nat.reduceLeDiff, if_true, Bool.not_true, Bool.not_false, List.map_nil, List.map_cons, lD]), e, List.length_cons, show k + 1 + ds.length = k + (ds.length + 1) by omega]
theorem mixes_ok (a b : Nat) (m : List Ob) (h : a + b ≤ 12) : den_mixes_of [nD a, nD b] m = .ok (lD eN (mixF a b), m) := by
  obtain ⟨y3, y4, y5, e⟩ := mx_out a b m ((List.range (a + b)).map nD) 0 .non .non .non (by rw [List.length_map, List.length_range]; omega)
  rw [List.length_map, List.length_range, Nat.zero_add, iterM_mix] at e
  have q0 : (a : Int) + (b : Int) = ((a + b : Nat) : Int) := by omega
  have q1 := rng1_nat (n := a + b) (by omega)
  refine fnD_rt rfl ?_
  refine (thenS_nx (ρ' := [.sh (nD a), .sh (nD b), .sh (lD eN (iterM a b 0 [[]])), .non, .non, .non]) (m' := m) (by simp only [bind_ok, bind_bad, bindS_ok, dV_ev, dL_ev, slotAt_0, slotAt_s, dC_ev, dN2V_ev, dBin_ev, dBinN_ev, dT_ev, asBool_bl, dAndT_ev, dOrT_ev, dNotT_ev, dAnd_ev, dOr_ev, dNot_ev, dIf_ev, dChain_ev, dUn_ev, dNoPart_ev, dPart_ev, dSl_ev, dNil_ev, dCons_ev, dTup_ev, dLst_ev, oneArg_ev, twoArg_ev, dCB_ev, dCall_ev, dIt_ev, dRng_ev, dYes_ev, dItV_ev, dItN_ev, thenS_ev, skipS_ev, retS_ev, exprS_ev, ifS_ev, setS_ev, setN_ev, augS_ev, isetS_ev, freezeS_ev, appS_ev, parS_ev, unS_ev, setAll_nil, setAll_cons, slot_v, slot_n, forS_ev, tgN_ev, contd_lst, pad_cons_ev, pad_nil_ev, addD_int, subD_int, ltD_int, leD_int, gtD_int, geD_int, negD_int, ipAddD_int, eqD_int, neD_int, lenD_lst, lenD_tup, intD_int, slN_lst, slT_tup, asList_lst, asTup_tup, catN_lst, addD_tup, bind_err, bindS_err, raiseS_ev, heldD_row, isRowD_row, dOwn1_ev, noErr_ok, dLenRow_ev, dEqRow_ev, dMkRow_ev, dUnN_ev, dTupE_ev, plainT_etp, plainT_tup, catE_etp, tupleE_lst, dMethE_ev, dCallFn_ev, dEnum_ev, dEnumT_ev, iaugS_ev, dTru_ev, truD_bl, truD_int, truD_lst, truD_tup, mkS_list, dMeth_ev, dMethN_ev, dMeth0_ev, dZip_ev, dNewDct_ev, asLdc_ldc, sealS_ev, asSeq_lst, asSeq_tup, List.set, List.replicate, List.length_cons, List.length_nil, Nat.zero_add, Nat.reduceAdd, Nat.reduceLeDiff, if_true, Bool.not_true, Bool.not_false, List.map_nil, List.map_cons, lD]; rfl)).trans ?_
  refine (thenS_nx (m' := m) (by
    simp only [forS_ev, dRng_ev, dCons_ev, dBin_ev, dL_ev, slotAt_0, slotAt_s, bind_ok, addD_int, dNil_ev, q0, q1, bindS_ok]
    exact e)).trans ?_
  simp only [bind_ok, bind_bad, bindS_ok, dV_ev, dL_ev, slotAt_0, slotAt_s, dC_ev, dN2V_ev, dBin_ev, dBinN_ev, dT_ev, asBool_bl, dAndT_ev, dOrT_ev, dNotT_ev, dAnd_ev, dOr_ev, dNot_ev, dIf_ev, dChain_ev, dUn_ev, dNoPart_ev, dPart_ev, dSl_ev, dNil_ev, dCons_ev, dTup_ev, dLst_ev, oneArg_ev, twoArg_ev, dCB_ev, dCall_ev, dIt_ev, dRng_ev, dYes_ev, dItV_ev, dItN_ev, thenS_ev, skipS_ev, retS_ev, exprS_ev, ifS_ev, setS_ev, setN_ev, augS_ev, isetS_ev, freezeS_ev, appS_ev, parS_ev, unS_ev, setAll_nil, setAll_cons, slot_v, slot_n, forS_ev, tgN_ev, contd_lst, pad_cons_ev, pad_nil_ev, addD_int, subD_int, ltD_int, leD_int, gtD_int, geD_int, negD_int, ipAddD_int, eqD_int, neD_int, lenD_lst, lenD_tup, intD_int, slN_lst, slT_tup, asList_lst, asTup_tup, catN_lst, addD_tup, bind_err, bindS_err, raiseS_ev, heldD_row, isRowD_row, dOwn1_ev, noErr_ok, dLenRow_ev, dEqRow_ev, dMkRow_ev, dUnN_ev, dTupE_ev, plainT_etp, plainT_tup, catE_etp, tupleE_lst, dMethE_ev, dCallFn_ev, dEnum_ev, dEnumT_ev, iaugS_ev, dTru_ev, truD_bl, truD_int, truD_lst, truD_tup, mkS_list, dMeth_ev, dMethN_ev, dMeth0_ev, dZip_ev, dNewDct_ev, asLdc_ldc, sealS_ev, asSeq_lst, asSeq_tup, List.set, List.replicate, List.length_cons, List.length_nil, Nat.zero_add, Nat.reduceAdd, Nat.reduceLeDiff, if_true, Bool.not_true, Bool.not_false, List.map_nil, List.map_cons]
abbrev gbB : SDen := (thenS (appS 4 (dCons (dBin ixD (dBin ixD (dTup (dCons (dV 0) (dCons (dV 1) dNil))) (dL 5)) (dBin ixD (dL 3) (dL 5))) dNil))
    (iaugS 3 (dL 5) (dC (.int 1))))
theorem gb_loop (a b : List Int) (s2 : Slot) (m : List Ob) {p q : Nat} {l : List Nat} (h : Mix p q l) : ∀ (i j : Nat) (acc : List Int) (x5 : Slot), i + p = a.length → j + q = b.length → acc.length + l.length ≤ 1000 → ∃ y3 y5,
    loopS (tgN 5) gbB (l.map nD) [.sh (iT a), .sh (iT b), s2, .own (.lst [nD i, nD j]), .own (.lst (acc.map .int)), x5] m = .nx [.sh (iT a), .sh (iT b), s2, y3, .own (.lst ((acc ++ comeF (a.drop i) (b.drop j) l).map .int)), y5] m := by
  induction h with
  | nil => intro i j acc x5 _ _ _; exact ⟨_, x5, by rw [comeF, List.append_nil]; rfl⟩
  | @zero p q l hm ih =>
    intro i j acc x5 hi hj hl
    have hl' : acc.length + (l.length + 1) ≤ 1000 := hl
    have hi2 : i < a.length := by omega
    obtain ⟨y3, y5, e⟩ := ih (i + 1) j (acc ++ [a.getD i 0]) (.sh (nD 0)) (by omega) hj (by rw [List.length_append, List.length_singleton]; omega)
    refine ⟨y3, y5, ?_⟩
    have q1 : ixD (.tup [iT a, iT b]) (nD 0) = .ok (iT a) := rfl
    have q2 : ixD (.lst [nD i, nD j]) (nD 0) = .ok (nD i) := rfl
    have q3 := ixT_getD D.int a i 0 hi2
    have q4 : (acc.map D.int).length < 16777216 := by rw [List.length_map]; omega
    have q5 : ixN 2 ((0 : Nat) : Int) = some 0 := rfl
    have q6 : (i : Int) + 1 = ((i + 1 : Nat) : Int) := by omega
    have q7 : comeF (a.drop i) (b.drop j) (0 :: l) = a.getD i 0 :: comeF (a.drop (i + 1)) (b.drop j) l := by
      rw [comeF, List.drop_eq_getElem_cons hi2, getD_get _ _ _ hi2]
      rfl
    rw [List.map_cons, loop_nx (ρ1 := [.sh (iT a), .sh (iT b), s2, .own (.lst [nD i, nD j]), .own (.lst (acc.map .int)), .sh (nD 0)]) (ρ'' := [.sh (iT a), .sh (iT b), s2, .own (.lst [nD (i + 1), nD j]), .own (.lst ((acc ++ [a.getD i 0]).map .int)), .sh (nD 0)]) (m'' := m) rfl (by
      refine (thenS_nx (ρ' := [.sh (iT a), .sh (iT b), s2, .own (.lst [nD i, nD j]), .own (.lst ((acc ++ [a.getD i 0]).map .int)), .sh (nD 0)]) (m' := m) (by
        simp only [bind_ok, bind_bad, bindS_ok, dV_ev, dL_ev, slotAt_0, slotAt_s, dC_ev, dN2V_ev, dBin_ev, dBinN_ev, dT_ev, asBool_bl, dAndT_ev, dOrT_ev, dNotT_ev, dAnd_ev, dOr_ev, dNot_ev, dIf_ev, dChain_ev, dUn_ev, dNoPart_ev, dPart_ev, dSl_ev, dNil_ev, dCons_ev, dTup_ev, dLst_ev, oneArg_ev, twoArg_ev, dCB_ev, dCall_ev, dIt_ev, dRng_ev, dYes_ev, dItV_ev, dItN_ev, thenS_ev, skipS_ev, retS_ev, exprS_ev, ifS_ev, setS_ev, setN_ev, augS_ev, isetS_ev, freezeS_ev, appS_ev, parS_ev, unS_ev, setAll_nil, setAll_cons, slot_v, slot_n, forS_ev, tgN_ev, contd_lst, pad_cons_ev, pad_nil_ev, addD_int, subD_int, ltD_int, leD_int, gtD_int, geD_int, negD_int, ipAddD_int, eqD_int, neD_int, lenD_lst, lenD_tup, intD_int, slN_lst, slT_tup, asList_lst, asTup_tup, catN_lst, addD_tup, bind_err, bindS_err, raiseS_ev, heldD_row, isRowD_row, dOwn1_ev, noErr_ok, dLenRow_ev, dEqRow_ev, dMkRow_ev, dUnN_ev, dTupE_ev, plainT_etp, plainT_tup, catE_etp, tupleE_lst, dMethE_ev, dCallFn_ev, dEnum_ev, dEnumT_ev, iaugS_ev, dTru_ev, truD_bl, truD_int, truD_lst, truD_tup, mkS_list, dMeth_ev, dMethN_ev, dMeth0_ev, dZip_ev, dNewDct_ev, asLdc_ldc, sealS_ev, asSeq_lst, asSeq_tup, List.set, List.replicate, List.length_cons, List.length_nil, Nat.zero_add, Nat.reduceAdd, Nat.reduceLeDiff, if_true, Bool.not_true, Bool.not_false, List.map_nil, List.map_cons, q1, q2, tD, nD, q3, if_pos q4, List.map_append]
        )).trans ?_
      simp only [bind_ok, bind_bad, bindS_ok, dV_ev, dL_ev, slotAt_0, slotAt_s, dC_ev, dN2V_ev, dBin_ev, dBinN_ev, dT_ev, asBool_bl, dAndT_ev, dOrT_ev, dNotT_ev, dAnd_ev, dOr_ev, dNot_ev, dIf_ev, dChain_ev, dUn_ev, dNoPart_ev, dPart_ev, dSl_ev, dNil_ev, dCons_ev, dTup_ev, dLst_ev, oneArg_ev, twoArg_ev, dCB_ev, dCall_ev, dIt_ev, dRng_ev, dYes_ev, dItV_ev, dItN_ev, thenS_ev, skipS_ev, retS_ev, exprS_ev, ifS_ev, setS_ev, setN_ev, augS_ev, isetS_ev, freezeS_ev, appS_ev, parS_ev, unS_ev, setAll_nil, setAll_cons, slot_v, slot_n, forS_ev, tgN_ev, contd_lst, pad_cons_ev, pad_nil_ev, addD_int, subD_int, ltD_int, leD_int, gtD_int, geD_int, negD_int, ipAddD_int, eqD_int, neD_int, lenD_lst, lenD_tup, intD_int, slN_lst, slT_tup, asList_lst, asTup_tup, catN_lst, addD_tup, bind_err, bindS_err, raiseS_ev, heldD_row, isRowD_row, dOwn1_ev, noErr_ok, dLenRow_ev, dEqRow_ev, dMkRow_ev, dUnN_ev, dTupE_ev, plainT_etp, plainT_tup, catE_etp, tupleE_lst, dMethE_ev, dCallFn_ev, dEnum_ev, dEnumT_ev, iaugS_ev, dTru_ev, truD_bl, truD_int, truD_lst, truD_tup, mkS_list, dMeth_ev, dMethN_ev, dMeth0_ev, dZip_ev, dNewDct_ev, asLdc_ldc, sealS_ev, asSeq_lst, asSeq_tup, List.set, List.replicate, List.length_cons, List.length_nil, Nat.zero_add, Nat.reduceAdd, Nat.reduceLeDiff, if_true, Bool.not_true, Bool.not_false, List.map_nil, List.map_cons, nD, q5, List.getElem?_cons_zero, q6]), e, q7, List.append_assoc]
    rfl
  | @one p q l hm ih =>
    intro i j acc x5 hi hj hl
    have hl' : acc.length + (l.length + 1) ≤ 1000 := hl
    have hj2 : j < b.length := by omega
    obtain ⟨y3, y5, e⟩ := ih i (j + 1) (acc ++ [b.getD j 0]) (.sh (nD 1)) hi (by omega) (by rw [List.length_append, List.length_singleton]; omega)
    refine ⟨y3, y5, ?_⟩
    have q1 : ixD (.tup [iT a, iT b]) (nD 1) = .ok (iT b) := rfl
    have q2 : ixD (.lst [nD i, nD j]) (nD 1) = .ok (nD j) := rfl
    have q3 := ixT_getD D.int b j 0 hj2
    have q4 : (acc.map D.int).length < 16777216 := by rw [List.length_map]; omega
    have q5 : ixN 2 ((1 : Nat) : Int) = some 1 := rfl
    have q6 : (j : Int) + 1 = ((j + 1 : Nat) : Int) := by omega
    have q7 : comeF (a.drop i) (b.drop j) (1 :: l) = b.getD j 0 :: comeF (a.drop i) (b.drop (j + 1)) l := by
      rw [comeF, List.drop_eq_getElem_cons hj2, getD_get _ _ _ hj2]
      · rfl
      · intro h; cases h
    rw [List.map_cons, loop_nx (ρ1 := [.sh (iT a), .sh (iT b), s2, .own (.lst [nD i, nD j]), .own (.lst (acc.map .int)), .sh (nD 1)]) (ρ'' := [.sh (iT a), .sh (iT b), s2, .own (.lst [nD i, nD (j + 1)]), .own (.lst ((acc ++ [b.getD j 0]).map .int)), .sh (nD 1)]) (m'' := m) rfl (by
      refine (thenS_nx (ρ' := [.sh (iT a), .sh (iT b), s2, .own (.lst [nD i, nD j]), .own (.lst ((acc ++ [b.getD j 0]).map .int)), .sh (nD 1)]) (m' := m) (by
        simp only [bind_ok, bind_bad, bindS_ok, dV_ev, dL_ev, slotAt_0, slotAt_s, dC_ev, dN2V_ev, dBin_ev, dBinN_ev, dT_ev, asBool_bl, dAndT_ev, dOrT_ev, dNotT_ev, dAnd_ev, dOr_ev, dNot_ev, dIf_ev, dChain_ev, dUn_ev, dNoPart_ev, dPart_ev, dSl_ev, dNil_ev, dCons_ev, dTup_ev, dLst_ev, oneArg_ev, twoArg_ev, dCB_ev, dCall_ev, dIt_ev, dRng_ev, dYes_ev, dItV_ev, dItN_ev, thenS_ev, skipS_ev, retS_ev, exprS_ev, ifS_ev, setS_ev, setN_ev, augS_ev, isetS_ev, freezeS_ev, appS_ev, parS_ev, unS_ev, setAll_nil, setAll_cons, slot_v, slot_n, forS_ev, tgN_ev, contd_lst, pad_cons_ev, pad_nil_ev, addD_int, subD_int, ltD_int, leD_int, gtD_int, geD_int, negD_int, ipAddD_int, eqD_int, neD_int, lenD_lst, lenD_tup, intD_int, slN_lst, slT_tup, asList_lst, asTup_tup, catN_lst, addD_tup, bind_err, bindS_err, raiseS_ev, heldD_row, isRowD_row, dOwn1_ev, noErr_ok, dLenRow_ev, dEqRow_ev, dMkRow_ev, dUnN_ev, dTupE_ev, plainT_etp, plainT_tup, catE_etp, tupleE_lst, dMethE_ev, dCallFn_ev, dEnum_ev, dEnumT_ev, iaugS_ev, dTru_ev, truD_bl, truD_int, truD_lst, truD_tup, mkS_list, dMeth_ev, dMethN_ev, dMeth0_ev, dZip_ev, dNewDct_ev, asLdc_ldc, sealS_ev, asSeq_lst, asSeq_tup, List.set, List.replicate, List.length_cons, List.length_nil, Nat.zero_add, Nat.reduceAdd, Nat.reduceLeDiff, if_true, Bool.not_true, Bool.not_false, List.map_nil, List.map_cons, q1, q2, tD, nD, q3, if_pos q4, List.map_append]
        )).trans ?_
      simp only [bind_ok, bind_bad, bindS_ok, dV_ev, dL_ev, slotAt_0, slotAt_s, dC_ev, dN2V_ev, dBin_ev, dBinN_ev, dT_ev, asBool_bl, dAndT_ev, dOrT_ev, dNotT_ev, dAnd_ev, dOr_ev, dNot_ev, dIf_ev, dChain_ev, dUn_ev, dNoPart_ev, dPart_ev, dSl_ev, dNil_ev, dCons_ev, dTup_ev, dLst_ev, oneArg_ev, twoArg_ev, dCB_ev, dCall_ev, dIt_ev, dRng_ev, dYes_ev, dItV_ev, dItN_ev, thenS_ev, skipS_ev, retS_ev, exprS_ev, ifS_ev, setS_ev, setN_ev, augS_ev, isetS_ev, freezeS_ev, appS_ev, parS_ev, unS_ev, setAll_nil, setAll_cons, slot_v, slot_n, forS_ev, tgN_ev, contd_lst, pad_cons_ev, pad_nil_ev, addD_int, subD_int, ltD_int, leD_int, gtD_int, geD_int, negD_int, ipAddD_int, eqD_int, neD_int, lenD_lst, lenD_tup, intD_int, slN_lst, slT_tup, asList_lst, asTup_tup, catN_lst, addD_tup, bind_err, bindS_err, raiseS_ev, heldD_row, isRowD_row, dOwn1_ev, noErr_ok, dLenRow_ev, dEqRow_ev, dMkRow_ev, dUnN_ev, dTupE_ev, plainT_etp, plainT_tup, catE_etp, tupleE_lst, dMethE_ev, dCallFn_ev, dEnum_ev, dEnumT_ev, iaugS_ev, dTru_ev, truD_bl, truD_int, truD_lst, truD_tup, mkS_list, dMeth_ev, dMethN_ev, dMeth0_ev, dZip_ev, dNewDct_ev, asLdc_ldc, sealS_ev, asSeq_lst, asSeq_tup, List.set, List.replicate, List.length_cons, List.length_nil, Nat.zero_add, Nat.reduceAdd, Nat.reduceLeDiff, if_true, Bool.not_true, Bool.not_false, List.map_nil, List.map_cons, nD, q5, List.getElem?_cons_zero, List.getElem?_cons_succ, q6]), e, q7, List.append_assoc]
    rfl
theorem groups_by_ok (a b : List Int) (l : List Nat) (m : List Ob) (h : Mix a.length b.length l) (hl : l.length ≤ 1000) : den_groups_by [iT a, iT b, .tup (l.map nD)] m = .ok (iT (comeF a b l), m) := by
  obtain ⟨y3, y5, e⟩ := gb_loop a b (.sh (.tup (l.map nD))) m h 0 0 [] .non (by omega) (by omega) (by rw [List.length_nil]; omega)
  rw [List.drop_zero, List.drop_zero, List.nil_append] at e
  refine fnD_rt rfl ?_
  refine (thenS_nx (ρ' := [.sh (iT a), .sh (iT b), .sh (.tup (l.map nD)), .own (.lst [nD 0, nD 0]), .non, .non]) (m' := m) (by
    simp only [bind_ok, bind_bad, bindS_ok, dV_ev, dL_ev, slotAt_0, slotAt_s, dC_ev, dN2V_ev, dBin_ev, dBinN_ev, dT_ev, asBool_bl, dAndT_ev, dOrT_ev, dNotT_ev, dAnd_ev, dOr_ev, dNot_ev, dIf_ev, dChain_ev, dUn_ev, dNoPart_ev, dPart_ev, dSl_ev, dNil_ev, dCons_ev, dTup_ev, dLst_ev, oneArg_ev, twoArg_ev, dCB_ev, dCall_ev, dIt_ev, dRng_ev, dYes_ev, dItV_ev, dItN_ev, thenS_ev, skipS_ev, retS_ev, exprS_ev, ifS_ev, setS_ev, setN_ev, augS_ev, isetS_ev, freezeS_ev, appS_ev, parS_ev, unS_ev, setAll_nil, setAll_cons, slot_v, slot_n, forS_ev, tgN_ev, contd_lst, pad_cons_ev, pad_nil_ev, addD_int, subD_int, ltD_int, leD_int, gtD_int, geD_int, negD_int, ipAddD_int, eqD_int, neD_int, lenD_lst, lenD_tup, intD_int, slN_lst, slT_tup, asList_lst, asTup_tup, catN_lst, addD_tup, bind_err, bindS_err, raiseS_ev, heldD_row, isRowD_row, dOwn1_ev, noErr_ok, dLenRow_ev, dEqRow_ev, dMkRow_ev, dUnN_ev, dTupE_ev, plainT_etp, plainT_tup, catE_etp, tupleE_lst, dMethE_ev, dCallFn_ev, dEnum_ev, dEnumT_ev, iaugS_ev, dTru_ev, truD_bl, truD_int, truD_lst, truD_tup, mkS_list, dMeth_ev, dMethN_ev, dMeth0_ev, dZip_ev, dNewDct_ev, asLdc_ldc, sealS_ev, asSeq_lst, asSeq_tup, List.set, List.replicate, List.length_cons, List.length_nil, Nat.zero_add, Nat.reduceAdd, Nat.reduceLeDiff, if_true, Bool.not_true, Bool.not_false, List.map_nil, List.map_cons]
    rfl)).trans ?_
  refine (thenS_nx (ρ' := [.sh (iT a), .sh (iT b), .sh (.tup (l.map nD)), .own (.lst [nD 0, nD 0]), .own (.lst (([] : List Int).map .int)), .non]) (m' := m) (by
    simp only [bind_ok, bind_bad, bindS_ok, dV_ev, dL_ev, slotAt_0, slotAt_s, dC_ev, dN2V_ev, dBin_ev, dBinN_ev, dT_ev, asBool_bl, dAndT_ev, dOrT_ev, dNotT_ev, dAnd_ev, dOr_ev, dNot_ev, dIf_ev, dChain_ev, dUn_ev, dNoPart_ev, dPart_ev, dSl_ev, dNil_ev, dCons_ev, dTup_ev, dLst_ev, oneArg_ev, twoArg_ev, dCB_ev, dCall_ev, dIt_ev, dRng_ev, dYes_ev, dItV_ev, dItN_ev, thenS_ev, skipS_ev, retS_ev, exprS_ev, ifS_ev, setS_ev, setN_ev, augS_ev, isetS_ev, freezeS_ev, appS_ev, parS_ev, unS_ev, setAll_nil, setAll_cons, slot_v, slot_n, forS_ev, tgN_ev, contd_lst, pad_cons_ev, pad_nil_ev, addD_int, subD_int, ltD_int, leD_int, gtD_int, geD_int, negD_int, ipAddD_int, eqD_int, neD_int, lenD_lst, lenD_tup, intD_int, slN_lst, slT_tup, asList_lst, asTup_tup, catN_lst, addD_tup, bind_err, bindS_err, raiseS_ev, heldD_row, isRowD_row, dOwn1_ev, noErr_ok, dLenRow_ev, dEqRow_ev, dMkRow_ev, dUnN_ev, dTupE_ev, plainT_etp, plainT_tup, catE_etp, tupleE_lst, dMethE_ev, dCallFn_ev, dEnum_ev, dEnumT_ev, iaugS_ev, dTru_ev, truD_bl, truD_int, truD_lst, truD_tup, mkS_list, dMeth_ev, dMethN_ev, dMeth0_ev, dZip_ev, dNewDct_ev, asLdc_ldc, sealS_ev, asSeq_lst, asSeq_tup, List.set, List.replicate, List.length_cons, List.length_nil, Nat.zero_add, Nat.reduceAdd, Nat.reduceLeDiff, if_true, Bool.not_true, Bool.not_false, List.map_nil, List.map_cons])).trans ?_
  refine (thenS_nx (m' := m) (by
    simp only [forS_ev, dIt_ev, dV_ev, slotAt_s, slotAt_0, bind_ok, asTup_tup, bindS_ok]
    exact e)).trans ?_
  have q : tupleD (.lst ((comeF a b l).map .int)) = .ok (iT (comeF a b l)) := rfl
  simp only [bind_ok, bind_bad, bindS_ok, dV_ev, dL_ev, slotAt_0, slotAt_s, dC_ev, dN2V_ev, dBin_ev, dBinN_ev, dT_ev, asBool_bl, dAndT_ev, dOrT_ev, dNotT_ev, dAnd_ev, dOr_ev, dNot_ev, dIf_ev, dChain_ev, dUn_ev, dNoPart_ev, dPart_ev, dSl_ev, dNil_ev, dCons_ev, dTup_ev, dLst_ev, oneArg_ev, twoArg_ev, dCB_ev, dCall_ev, dIt_ev, dRng_ev, dYes_ev, dItV_ev, dItN_ev, thenS_ev, skipS_ev, retS_ev, exprS_ev, ifS_ev, setS_ev, setN_ev, augS_ev, isetS_ev, freezeS_ev, appS_ev, parS_ev, unS_ev, setAll_nil, setAll_cons, slot_v, slot_n, forS_ev, tgN_ev, contd_lst, pad_cons_ev, pad_nil_ev, addD_int, subD_int, ltD_int, leD_int, gtD_int, geD_int, negD_int, ipAddD_int, eqD_int, neD_int, lenD_lst, lenD_tup, intD_int, slN_lst, slT_tup, asList_lst, asTup_tup, catN_lst, addD_tup, bind_err, bindS_err, raiseS_ev, heldD_row, isRowD_row, dOwn1_ev, noErr_ok, dLenRow_ev, dEqRow_ev, dMkRow_ev, dUnN_ev, dTupE_ev, plainT_etp, plainT_tup, catE_etp, tupleE_lst, dMethE_ev, dCallFn_ev, dEnum_ev, dEnumT_ev, iaugS_ev, dTru_ev, truD_bl, truD_int, truD_lst, truD_tup, mkS_list, dMeth_ev, dMethN_ev, dMeth0_ev, dZip_ev, dNewDct_ev, asLdc_ldc, sealS_ev, asSeq_lst, asSeq_tup, List.set, List.replicate, List.length_cons, List.length_nil, Nat.zero_add, Nat.reduceAdd, Nat.reduceLeDiff, if_true, Bool.not_true, Bool.not_false, List.map_nil, List.map_cons, q]
abbrev nT : List Nat → D := fun l => .tup (l.map nD)
abbrev mrB : SDen := (thenS (setS 5 (dCall den_least_pulls (dCons (dCall den_groups_by (dCons (dUn heldD (dL 0)) (dCons (dUn heldD (dL 1)) (dCons (dUn plainT (dV 4)) dNil)))) (dCons (dV 2) dNil))))
    (ifS (dOrT (dT (dBin isNonD (dL 3) (dC .non))) (dT (dBin ltD (dL 5) (dBin ixD (dL 3) (dC (.int 0)))))) (setS 3 (dTup (dCons (dV 5) (dCons (dUn plainT (dV 4)) dNil)))) skipS))
theorem best_ifN (m : List Ob) (h : Nat) (o : List Nat) (b : Option (Nat × List Nat)) (x0 x1 x2 : Slot) (c : List Nat → Nat) (hc : c o = h) :
    ifS (dOrT (dT (dBin isNonD (dL 3) (dC .non))) (dT (dBin ltD (dL 5) (dBin ixD (dL 3) (dC (.int 0)))))) (setS 3 (dTup (dCons (dV 5) (dCons (dUn plainT (dV 4)) dNil)))) skipS [x0, x1, x2, .sh (bD nT b), .sh (eN o), .sh (nD h)] m = .nx [x0, x1, x2, .sh (bD nT (bstep c b o)), .sh (eN o), .sh (nD h)] m := by
  subst hc
  cases b with
  | none =>
    have q : isNonD .non .non = .ok (.bl true) := rfl
    simp only [bind_ok, bind_bad, bindS_ok, dV_ev, dL_ev, slotAt_0, slotAt_s, dC_ev, dN2V_ev, dBin_ev, dBinN_ev, dT_ev, asBool_bl, dAndT_ev, dOrT_ev, dNotT_ev, dAnd_ev, dOr_ev, dNot_ev, dIf_ev, dChain_ev, dUn_ev, dNoPart_ev, dPart_ev, dSl_ev, dNil_ev, dCons_ev, dTup_ev, dLst_ev, oneArg_ev, twoArg_ev, dCB_ev, dCall_ev, dIt_ev, dRng_ev, dYes_ev, dItV_ev, dItN_ev, thenS_ev, skipS_ev, retS_ev, exprS_ev, ifS_ev, setS_ev, setN_ev, augS_ev, isetS_ev, freezeS_ev, appS_ev, parS_ev, unS_ev, setAll_nil, setAll_cons, slot_v, slot_n, forS_ev, tgN_ev, contd_lst, pad_cons_ev, pad_nil_ev, addD_int, subD_int, ltD_int, leD_int, gtD_int, geD_int, negD_int, ipAddD_int, eqD_int, neD_int, lenD_lst, lenD_tup, intD_int, slN_lst, slT_tup, asList_lst, asTup_tup, catN_lst, addD_tup, bind_err, bindS_err, raiseS_ev, heldD_row, isRowD_row, dOwn1_ev, noErr_ok, dLenRow_ev, dEqRow_ev, dMkRow_ev, dUnN_ev, dTupE_ev, plainT_etp, plainT_tup, catE_etp, tupleE_lst, dMethE_ev, dCallFn_ev, dEnum_ev, dEnumT_ev, iaugS_ev, dTru_ev, truD_bl, truD_int, truD_lst, truD_tup, mkS_list, dMeth_ev, dMethN_ev, dMeth0_ev, dZip_ev, dNewDct_ev, asLdc_ldc, sealS_ev, asSeq_lst, asSeq_tup, List.set, List.replicate, List.length_cons, List.length_nil, Nat.zero_add, Nat.reduceAdd, Nat.reduceLeDiff, if_true, Bool.not_true, Bool.not_false, List.map_nil, List.map_cons, bD, q, bstep]
  | some p =>
    obtain ⟨k, y⟩ := p
    have q : isNonD (.tup [nD k, nT y]) .non = .ok (.bl false) := rfl
    have q2 : ixD (.tup [nD k, nT y]) (.int 0) = .ok (nD k) := rfl
    by_cases hk : c o < k
    · have q3 : decide (((c o : Nat) : Int) < (k : Int)) = true := by rw [decide_eq_true_eq]; omega
      simp only [bstep, if_pos hk]
      simp only [bind_ok, bind_bad, bindS_ok, dV_ev, dL_ev, slotAt_0, slotAt_s, dC_ev, dN2V_ev, dBin_ev, dBinN_ev, dT_ev, asBool_bl, dAndT_ev, dOrT_ev, dNotT_ev, dAnd_ev, dOr_ev, dNot_ev, dIf_ev, dChain_ev, dUn_ev, dNoPart_ev, dPart_ev, dSl_ev, dNil_ev, dCons_ev, dTup_ev, dLst_ev, oneArg_ev, twoArg_ev, dCB_ev, dCall_ev, dIt_ev, dRng_ev, dYes_ev, dItV_ev, dItN_ev, thenS_ev, skipS_ev, retS_ev, exprS_ev, ifS_ev, setS_ev, setN_ev, augS_ev, isetS_ev, freezeS_ev, appS_ev, parS_ev, unS_ev, setAll_nil, setAll_cons, slot_v, slot_n, forS_ev, tgN_ev, contd_lst, pad_cons_ev, pad_nil_ev, addD_int, subD_int, ltD_int, leD_int, gtD_int, geD_int, negD_int, ipAddD_int, eqD_int, neD_int, lenD_lst, lenD_tup, intD_int, slN_lst, slT_tup, asList_lst, asTup_tup, catN_lst, addD_tup, bind_err, bindS_err, raiseS_ev, heldD_row, isRowD_row, dOwn1_ev, noErr_ok, dLenRow_ev, dEqRow_ev, dMkRow_ev, dUnN_ev, dTupE_ev, plainT_etp, plainT_tup, catE_etp, tupleE_lst, dMethE_ev, dCallFn_ev, dEnum_ev, dEnumT_ev, iaugS_ev, dTru_ev, truD_bl, truD_int, truD_lst, truD_tup, mkS_list, dMeth_ev, dMethN_ev, dMeth0_ev, dZip_ev, dNewDct_ev, asLdc_ldc, sealS_ev, asSeq_lst, asSeq_tup, List.set, List.replicate, List.length_cons, List.length_nil, Nat.zero_add, Nat.reduceAdd, Nat.reduceLeDiff, if_true, Bool.not_true, Bool.not_false, List.map_nil, List.map_cons, bD, q, q2, nD, q3]
    · have q3 : decide (((c o : Nat) : Int) < (k : Int)) = false := by rw [decide_eq_false_iff_not]; omega
      simp only [bstep, if_neg hk]
      simp only [bind_ok, bind_bad, bindS_ok, dV_ev, dL_ev, slotAt_0, slotAt_s, dC_ev, dN2V_ev, dBin_ev, dBinN_ev, dT_ev, asBool_bl, dAndT_ev, dOrT_ev, dNotT_ev, dAnd_ev, dOr_ev, dNot_ev, dIf_ev, dChain_ev, dUn_ev, dNoPart_ev, dPart_ev, dSl_ev, dNil_ev, dCons_ev, dTup_ev, dLst_ev, oneArg_ev, twoArg_ev, dCB_ev, dCall_ev, dIt_ev, dRng_ev, dYes_ev, dItV_ev, dItN_ev, thenS_ev, skipS_ev, retS_ev, exprS_ev, ifS_ev, setS_ev, setN_ev, augS_ev, isetS_ev, freezeS_ev, appS_ev, parS_ev, unS_ev, setAll_nil, setAll_cons, slot_v, slot_n, forS_ev, tgN_ev, contd_lst, pad_cons_ev, pad_nil_ev, addD_int, subD_int, ltD_int, leD_int, gtD_int, geD_int, negD_int, ipAddD_int, eqD_int, neD_int, lenD_lst, lenD_tup, intD_int, slN_lst, slT_tup, asList_lst, asTup_tup, catN_lst, addD_tup, bind_err, bindS_err, raiseS_ev, heldD_row, isRowD_row, dOwn1_ev, noErr_ok, dLenRow_ev, dEqRow_ev, dMkRow_ev, dUnN_ev, dTupE_ev, plainT_etp, plainT_tup, catE_etp, tupleE_lst, dMethE_ev, dCallFn_ev, dEnum_ev, dEnumT_ev, iaugS_ev, dTru_ev, truD_bl, truD_int, truD_lst, truD_tup, mkS_list, dMeth_ev, dMethN_ev, dMeth0_ev, dZip_ev, dNewDct_ev, asLdc_ldc, sealS_ev, asSeq_lst, asSeq_tup, List.set, List.replicate, List.length_cons, List.length_nil, Nat.zero_add, Nat.reduceAdd, Nat.reduceLeDiff, if_true, Bool.not_true, Bool.not_false, List.map_nil, List.map_cons, bD, q, q2, nD, q3]
theorem mr_step (a b : List Int) (t : Nat) (m : List Ob) (ha : 1 ≤ a.length) (hab : a.length + b.length ≤ 12) (ht : 1 ≤ t) (ht4 : t ≤ 4) (l : List Nat) (hl : Mix a.length b.length l) (o : Option (Nat × List Nat)) (x5 : Slot) :
    mrB [.sh (.row (iT a)), .sh (.row (iT b)), .sh (nD t), .sh (bD nT o), .sh (eN l), x5] m = .nx [.sh (.row (iT a)), .sh (.row (iT b)), .sh (nD t), .sh (bD nT (bstep (fun l => lpF (comeF a b l) t) o l)), .sh (eN l), .sh (nD (lpF (comeF a b l) t))] m := by
  have e1 := groups_by_ok a b l m hl (by rw [hl.len]; omega)
  have hcl : (comeF a b l).length = a.length + b.length := by rw [come_len, hl.len]
  have e3 := least_pulls_ok (comeF a b l) t m (by intro e; rw [e] at hcl; rw [List.length_nil] at hcl; omega) (by omega) ht ht4
  refine (thenS_nx (ρ' := [.sh (.row (iT a)), .sh (.row (iT b)), .sh (nD t), .sh (bD nT o), .sh (eN l), .sh (nD (lpF (comeF a b l) t))]) (m' := m) (by
    simp only [setS_ev, dCall_ev, dCons_ev, dUn_ev, dL_ev, slotAt_0, slotAt_s, bind_ok, heldD_row, dV_ev, plainT_etp, dNil_ev, e1, e3, bindS_ok, List.set])).trans ?_
  exact best_ifN m (lpF (comeF a b l) t) l o _ _ _ (fun l => lpF (comeF a b l) t) rfl
def mrF (a b : List Int) (t : Nat) : Option (Nat × List Nat) := bestF (fun l => lpF (comeF a b l) t) (mixF a.length b.length)
theorem mr_loop (a b : List Int) (t : Nat) (m : List Ob) (ha : 1 ≤ a.length) (hab : a.length + b.length ≤ 12) (ht : 1 ≤ t) (ht4 : t ≤ 4) : ∀ (ls : List (List Nat)) (o : Option (Nat × List Nat)) (x4 x5 : Slot), (∀ l ∈ ls, Mix a.length b.length l) → ∃ y4 y5,
    loopS (tgN 4) mrB (ls.map eN) [.sh (.row (iT a)), .sh (.row (iT b)), .sh (nD t), .sh (bD nT o), x4, x5] m = .nx [.sh (.row (iT a)), .sh (.row (iT b)), .sh (nD t), .sh (bD nT (ls.foldl (bstep fun l => lpF (comeF a b l) t) o)), y4, y5] m
  | [], o, x4, x5, _ => ⟨x4, x5, rfl⟩
  | l :: ls, o, x4, x5, h => by
    obtain ⟨y4, y5, e⟩ := mr_loop a b t m ha hab ht ht4 ls (bstep (fun l => lpF (comeF a b l) t) o l) (.sh (eN l)) (.sh (nD (lpF (comeF a b l) t))) fun x hx => h x (List.mem_cons_of_mem _ hx)
    refine ⟨y4, y5, ?_⟩
    rw [List.map_cons, loop_nx rfl (mr_step a b t m ha hab ht ht4 l (h l (List.mem_cons_self ..)) o x5), e]
    rfl
theorem len_row (a : List Int) (m : List Ob) : den_Row___len__ [.row (iT a)] m = .ok (nD a.length, m) := by
  refine fnD_rt rfl ?_
  simp only [bind_ok, bind_bad, bindS_ok, dV_ev, dL_ev, slotAt_0, slotAt_s, dC_ev, dN2V_ev, dBin_ev, dBinN_ev, dT_ev, asBool_bl, dAndT_ev, dOrT_ev, dNotT_ev, dAnd_ev, dOr_ev, dNot_ev, dIf_ev, dChain_ev, dUn_ev, dNoPart_ev, dPart_ev, dSl_ev, dNil_ev, dCons_ev, dTup_ev, dLst_ev, oneArg_ev, twoArg_ev, dCB_ev, dCall_ev, dIt_ev, dRng_ev, dYes_ev, dItV_ev, dItN_ev, thenS_ev, skipS_ev, retS_ev, exprS_ev, ifS_ev, setS_ev, setN_ev, augS_ev, isetS_ev, freezeS_ev, appS_ev, parS_ev, unS_ev, setAll_nil, setAll_cons, slot_v, slot_n, forS_ev, tgN_ev, contd_lst, pad_cons_ev, pad_nil_ev, addD_int, subD_int, ltD_int, leD_int, gtD_int, geD_int, negD_int, ipAddD_int, eqD_int, neD_int, lenD_lst, lenD_tup, intD_int, slN_lst, slT_tup, asList_lst, asTup_tup, catN_lst, addD_tup, bind_err, bindS_err, raiseS_ev, heldD_row, isRowD_row, dOwn1_ev, noErr_ok, dLenRow_ev, dEqRow_ev, dMkRow_ev, dUnN_ev, dTupE_ev, plainT_etp, plainT_tup, catE_etp, tupleE_lst, dMethE_ev, dCallFn_ev, dEnum_ev, dEnumT_ev, iaugS_ev, dTru_ev, truD_bl, truD_int, truD_lst, truD_tup, mkS_list, dMeth_ev, dMethN_ev, dMeth0_ev, dZip_ev, dNewDct_ev, asLdc_ldc, sealS_ev, asSeq_lst, asSeq_tup, List.set, List.replicate, List.length_cons, List.length_nil, Nat.zero_add, Nat.reduceAdd, Nat.reduceLeDiff, if_true, Bool.not_true, Bool.not_false, List.map_nil, List.map_cons, tD, List.length_map]
theorem asLen_nat (n : Nat) (m : List Ob) (h : n < 1000000) : asLen (.ok (nD n, m)) = .ok (nD n, m) := by
  unfold asLen
  simp
  omega
theorem mixed_rows_ok (a b : List Int) (t : Nat) (m : List Ob) (ha : 1 ≤ a.length) (ha5 : a.length ≤ 6) (hb5 : b.length ≤ 6) (ht : 1 ≤ t) (ht4 : t ≤ 4) : den_mixed_rows [.row (iT a), .row (iT b), nD t] m = .ok (bD nT (mrF a b t), m) := by
  have q1 := check_row_ok (iT a) m
  have q1b := check_row_ok (iT b) m
  have q2 := check_tracks_ok (t : Int) m (by omega) (by omega)
  have q3 := len_row a m
  have q3b := len_row b m
  have q4 := asLen_nat a.length m (by omega)
  have q4b := asLen_nat b.length m (by omega)
  have q5 : decide ((6 : Int) < (a.length : Int)) = false := by rw [decide_eq_false_iff_not]; omega
  have q5b : decide ((6 : Int) < (b.length : Int)) = false := by rw [decide_eq_false_iff_not]; omega
  have q6 := mixes_ok a.length b.length m (by omega)
  obtain ⟨y4, y5, e⟩ := mr_loop a b t m ha (by omega) ht ht4 (mixF a.length b.length) none .non .non (fun l hl => mixF_mix _ _ l hl)
  refine fnD_rt rfl ?_
  refine (thenS_nx (ρ' := [.sh (.row (iT a)), .sh (.row (iT b)), .sh (nD t), .non, .non, .non]) (m' := m) (by simp only [bind_ok, bind_bad, bindS_ok, dV_ev, dL_ev, slotAt_0, slotAt_s, dC_ev, dN2V_ev, dBin_ev, dBinN_ev, dT_ev, asBool_bl, dAndT_ev, dOrT_ev, dNotT_ev, dAnd_ev, dOr_ev, dNot_ev, dIf_ev, dChain_ev, dUn_ev, dNoPart_ev, dPart_ev, dSl_ev, dNil_ev, dCons_ev, dTup_ev, dLst_ev, oneArg_ev, twoArg_ev, dCB_ev, dCall_ev, dIt_ev, dRng_ev, dYes_ev, dItV_ev, dItN_ev, thenS_ev, skipS_ev, retS_ev, exprS_ev, ifS_ev, setS_ev, setN_ev, augS_ev, isetS_ev, freezeS_ev, appS_ev, parS_ev, unS_ev, setAll_nil, setAll_cons, slot_v, slot_n, forS_ev, tgN_ev, contd_lst, pad_cons_ev, pad_nil_ev, addD_int, subD_int, ltD_int, leD_int, gtD_int, geD_int, negD_int, ipAddD_int, eqD_int, neD_int, lenD_lst, lenD_tup, intD_int, slN_lst, slT_tup, asList_lst, asTup_tup, catN_lst, addD_tup, bind_err, bindS_err, raiseS_ev, heldD_row, isRowD_row, dOwn1_ev, noErr_ok, dLenRow_ev, dEqRow_ev, dMkRow_ev, dUnN_ev, dTupE_ev, plainT_etp, plainT_tup, catE_etp, tupleE_lst, dMethE_ev, dCallFn_ev, dEnum_ev, dEnumT_ev, iaugS_ev, dTru_ev, truD_bl, truD_int, truD_lst, truD_tup, mkS_list, dMeth_ev, dMethN_ev, dMeth0_ev, dZip_ev, dNewDct_ev, asLdc_ldc, sealS_ev, asSeq_lst, asSeq_tup, List.set, List.replicate, List.length_cons, List.length_nil, Nat.zero_add, Nat.reduceAdd, Nat.reduceLeDiff, if_true, Bool.not_true, Bool.not_false, List.map_nil, List.map_cons, q1])).trans ?_
  refine (thenS_nx (ρ' := [.sh (.row (iT a)), .sh (.row (iT b)), .sh (nD t), .non, .non, .non]) (m' := m) (by simp only [bind_ok, bind_bad, bindS_ok, dV_ev, dL_ev, slotAt_0, slotAt_s, dC_ev, dN2V_ev, dBin_ev, dBinN_ev, dT_ev, asBool_bl, dAndT_ev, dOrT_ev, dNotT_ev, dAnd_ev, dOr_ev, dNot_ev, dIf_ev, dChain_ev, dUn_ev, dNoPart_ev, dPart_ev, dSl_ev, dNil_ev, dCons_ev, dTup_ev, dLst_ev, oneArg_ev, twoArg_ev, dCB_ev, dCall_ev, dIt_ev, dRng_ev, dYes_ev, dItV_ev, dItN_ev, thenS_ev, skipS_ev, retS_ev, exprS_ev, ifS_ev, setS_ev, setN_ev, augS_ev, isetS_ev, freezeS_ev, appS_ev, parS_ev, unS_ev, setAll_nil, setAll_cons, slot_v, slot_n, forS_ev, tgN_ev, contd_lst, pad_cons_ev, pad_nil_ev, addD_int, subD_int, ltD_int, leD_int, gtD_int, geD_int, negD_int, ipAddD_int, eqD_int, neD_int, lenD_lst, lenD_tup, intD_int, slN_lst, slT_tup, asList_lst, asTup_tup, catN_lst, addD_tup, bind_err, bindS_err, raiseS_ev, heldD_row, isRowD_row, dOwn1_ev, noErr_ok, dLenRow_ev, dEqRow_ev, dMkRow_ev, dUnN_ev, dTupE_ev, plainT_etp, plainT_tup, catE_etp, tupleE_lst, dMethE_ev, dCallFn_ev, dEnum_ev, dEnumT_ev, iaugS_ev, dTru_ev, truD_bl, truD_int, truD_lst, truD_tup, mkS_list, dMeth_ev, dMethN_ev, dMeth0_ev, dZip_ev, dNewDct_ev, asLdc_ldc, sealS_ev, asSeq_lst, asSeq_tup, List.set, List.replicate, List.length_cons, List.length_nil, Nat.zero_add, Nat.reduceAdd, Nat.reduceLeDiff, if_true, Bool.not_true, Bool.not_false, List.map_nil, List.map_cons, q1b])).trans ?_
  refine (thenS_nx (ρ' := [.sh (.row (iT a)), .sh (.row (iT b)), .sh (nD t), .non, .non, .non]) (m' := m) (by simp only [bind_ok, bind_bad, bindS_ok, dV_ev, dL_ev, slotAt_0, slotAt_s, dC_ev, dN2V_ev, dBin_ev, dBinN_ev, dT_ev, asBool_bl, dAndT_ev, dOrT_ev, dNotT_ev, dAnd_ev, dOr_ev, dNot_ev, dIf_ev, dChain_ev, dUn_ev, dNoPart_ev, dPart_ev, dSl_ev, dNil_ev, dCons_ev, dTup_ev, dLst_ev, oneArg_ev, twoArg_ev, dCB_ev, dCall_ev, dIt_ev, dRng_ev, dYes_ev, dItV_ev, dItN_ev, thenS_ev, skipS_ev, retS_ev, exprS_ev, ifS_ev, setS_ev, setN_ev, augS_ev, isetS_ev, freezeS_ev, appS_ev, parS_ev, unS_ev, setAll_nil, setAll_cons, slot_v, slot_n, forS_ev, tgN_ev, contd_lst, pad_cons_ev, pad_nil_ev, addD_int, subD_int, ltD_int, leD_int, gtD_int, geD_int, negD_int, ipAddD_int, eqD_int, neD_int, lenD_lst, lenD_tup, intD_int, slN_lst, slT_tup, asList_lst, asTup_tup, catN_lst, addD_tup, bind_err, bindS_err, raiseS_ev, heldD_row, isRowD_row, dOwn1_ev, noErr_ok, dLenRow_ev, dEqRow_ev, dMkRow_ev, dUnN_ev, dTupE_ev, plainT_etp, plainT_tup, catE_etp, tupleE_lst, dMethE_ev, dCallFn_ev, dEnum_ev, dEnumT_ev, iaugS_ev, dTru_ev, truD_bl, truD_int, truD_lst, truD_tup, mkS_list, dMeth_ev, dMethN_ev, dMeth0_ev, dZip_ev, dNewDct_ev, asLdc_ldc, sealS_ev, asSeq_lst, asSeq_tup, List.set, List.replicate, List.length_cons, List.length_nil, Nat.zero_add, Nat.reduceAdd, Nat.reduceLeDiff, if_true, Bool.not_true, Bool.not_false, List.map_nil, List.map_cons, nD, q2])).trans ?_
  refine (thenS_nx (ρ' := [.sh (.row (iT a)), .sh (.row (iT b)), .sh (nD t), .non, .non, .non]) (m' := m) (by simp only [bind_ok, bind_bad, bindS_ok, dV_ev, dL_ev, slotAt_0, slotAt_s, dC_ev, dN2V_ev, dBin_ev, dBinN_ev, dT_ev, asBool_bl, dAndT_ev, dOrT_ev, dNotT_ev, dAnd_ev, dOr_ev, dNot_ev, dIf_ev, dChain_ev, dUn_ev, dNoPart_ev, dPart_ev, dSl_ev, dNil_ev, dCons_ev, dTup_ev, dLst_ev, oneArg_ev, twoArg_ev, dCB_ev, dCall_ev, dIt_ev, dRng_ev, dYes_ev, dItV_ev, dItN_ev, thenS_ev, skipS_ev, retS_ev, exprS_ev, ifS_ev, setS_ev, setN_ev, augS_ev, isetS_ev, freezeS_ev, appS_ev, parS_ev, unS_ev, setAll_nil, setAll_cons, slot_v, slot_n, forS_ev, tgN_ev, contd_lst, pad_cons_ev, pad_nil_ev, addD_int, subD_int, ltD_int, leD_int, gtD_int, geD_int, negD_int, ipAddD_int, eqD_int, neD_int, lenD_lst, lenD_tup, intD_int, slN_lst, slT_tup, asList_lst, asTup_tup, catN_lst, addD_tup, bind_err, bindS_err, raiseS_ev, heldD_row, isRowD_row, dOwn1_ev, noErr_ok, dLenRow_ev, dEqRow_ev, dMkRow_ev, dUnN_ev, dTupE_ev, plainT_etp, plainT_tup, catE_etp, tupleE_lst, dMethE_ev, dCallFn_ev, dEnum_ev, dEnumT_ev, iaugS_ev, dTru_ev, truD_bl, truD_int, truD_lst, truD_tup, mkS_list, dMeth_ev, dMethN_ev, dMeth0_ev, dZip_ev, dNewDct_ev, asLdc_ldc, sealS_ev, asSeq_lst, asSeq_tup, List.set, List.replicate, List.length_cons, List.length_nil, Nat.zero_add, Nat.reduceAdd, Nat.reduceLeDiff, if_true, Bool.not_true, Bool.not_false, List.map_nil, List.map_cons, q3, q4, q3b, q4b, nD, q5, q5b])).trans ?_
  refine (thenS_nx (ρ' := [.sh (.row (iT a)), .sh (.row (iT b)), .sh (nD t), .sh .non, .non, .non]) (m' := m) (by simp only [bind_ok, bind_bad, bindS_ok, dV_ev, dL_ev, slotAt_0, slotAt_s, dC_ev, dN2V_ev, dBin_ev, dBinN_ev, dT_ev, asBool_bl, dAndT_ev, dOrT_ev, dNotT_ev, dAnd_ev, dOr_ev, dNot_ev, dIf_ev, dChain_ev, dUn_ev, dNoPart_ev, dPart_ev, dSl_ev, dNil_ev, dCons_ev, dTup_ev, dLst_ev, oneArg_ev, twoArg_ev, dCB_ev, dCall_ev, dIt_ev, dRng_ev, dYes_ev, dItV_ev, dItN_ev, thenS_ev, skipS_ev, retS_ev, exprS_ev, ifS_ev, setS_ev, setN_ev, augS_ev, isetS_ev, freezeS_ev, appS_ev, parS_ev, unS_ev, setAll_nil, setAll_cons, slot_v, slot_n, forS_ev, tgN_ev, contd_lst, pad_cons_ev, pad_nil_ev, addD_int, subD_int, ltD_int, leD_int, gtD_int, geD_int, negD_int, ipAddD_int, eqD_int, neD_int, lenD_lst, lenD_tup, intD_int, slN_lst, slT_tup, asList_lst, asTup_tup, catN_lst, addD_tup, bind_err, bindS_err, raiseS_ev, heldD_row, isRowD_row, dOwn1_ev, noErr_ok, dLenRow_ev, dEqRow_ev, dMkRow_ev, dUnN_ev, dTupE_ev, plainT_etp, plainT_tup, catE_etp, tupleE_lst, dMethE_ev, dCallFn_ev, dEnum_ev, dEnumT_ev, iaugS_ev, dTru_ev, truD_bl, truD_int, truD_lst, truD_tup, mkS_list, dMeth_ev, dMethN_ev, dMeth0_ev, dZip_ev, dNewDct_ev, asLdc_ldc, sealS_ev, asSeq_lst, asSeq_tup, List.set, List.replicate, List.length_cons, List.length_nil, Nat.zero_add, Nat.reduceAdd, Nat.reduceLeDiff, if_true, Bool.not_true, Bool.not_false, List.map_nil, List.map_cons])).trans ?_
  refine (thenS_nx (m' := m) (by
    simp only [forS_ev, dIt_ev, dCall_ev, dCons_ev, dLenRow_ev, dV_ev, slotAt_s, slotAt_0, bind_ok, dNil_ev, q3, q4, q3b, q4b, q6, asList_lst, bindS_ok, lD]
    exact e)).trans ?_
  simp only [bind_ok, bind_bad, bindS_ok, dV_ev, dL_ev, slotAt_0, slotAt_s, dC_ev, dN2V_ev, dBin_ev, dBinN_ev, dT_ev, asBool_bl, dAndT_ev, dOrT_ev, dNotT_ev, dAnd_ev, dOr_ev, dNot_ev, dIf_ev, dChain_ev, dUn_ev, dNoPart_ev, dPart_ev, dSl_ev, dNil_ev, dCons_ev, dTup_ev, dLst_ev, oneArg_ev, twoArg_ev, dCB_ev, dCall_ev, dIt_ev, dRng_ev, dYes_ev, dItV_ev, dItN_ev, thenS_ev, skipS_ev, retS_ev, exprS_ev, ifS_ev, setS_ev, setN_ev, augS_ev, isetS_ev, freezeS_ev, appS_ev, parS_ev, unS_ev, setAll_nil, setAll_cons, slot_v, slot_n, forS_ev, tgN_ev, contd_lst, pad_cons_ev, pad_nil_ev, addD_int, subD_int, ltD_int, leD_int, gtD_int, geD_int, negD_int, ipAddD_int, eqD_int, neD_int, lenD_lst, lenD_tup, intD_int, slN_lst, slT_tup, asList_lst, asTup_tup, catN_lst, addD_tup, bind_err, bindS_err, raiseS_ev, heldD_row, isRowD_row, dOwn1_ev, noErr_ok, dLenRow_ev, dEqRow_ev, dMkRow_ev, dUnN_ev, dTupE_ev, plainT_etp, plainT_tup, catE_etp, tupleE_lst, dMethE_ev, dCallFn_ev, dEnum_ev, dEnumT_ev, iaugS_ev, dTru_ev, truD_bl, truD_int, truD_lst, truD_tup, mkS_list, dMeth_ev, dMethN_ev, dMeth0_ev, dZip_ev, dNewDct_ev, asLdc_ldc, sealS_ev, asSeq_lst, asSeq_tup, List.set, List.replicate, List.length_cons, List.length_nil, Nat.zero_add, Nat.reduceAdd, Nat.reduceLeDiff, if_true, Bool.not_true, Bool.not_false, List.map_nil, List.map_cons]
  rfl
theorem bits_ok (l : List Nat) (m : List Ob) (h : ∀ x ∈ l, x ≤ 1) (x1 x2 : Slot) (hl : l.length ≤ 1000) : dComp (dIt asTup (dV 0)) [3] (tgN 3) (dNotT (dT (dCall den_is_from (dCons (dV 3) (dCons (dC (.int 0)) (dCons (dC (.int 1)) dNil)))))) (dV 3) [.sh (nT l), x1, x2, .non] m = .ok (.lst [], m) := by
  have e := dComp_map (ρ := [.sh (nT l), x1, x2, .non]) (m := m) (m' := m) nD (di := dIt asTup (dV 0)) (vs := [3]) (tg := tgN 3) (test := dNotT (dT (dCall den_is_from (dCons (dV 3) (dCons (dC (.int 0)) (dCons (dC (.int 1)) dNil)))))) (elt := dV 3) l (fun _ => false) nD
    (by simp only [bind_ok, bind_bad, bindS_ok, dV_ev, dL_ev, slotAt_0, slotAt_s, dC_ev, dN2V_ev, dBin_ev, dBinN_ev, dT_ev, asBool_bl, dAndT_ev, dOrT_ev, dNotT_ev, dAnd_ev, dOr_ev, dNot_ev, dIf_ev, dChain_ev, dUn_ev, dNoPart_ev, dPart_ev, dSl_ev, dNil_ev, dCons_ev, dTup_ev, dLst_ev, oneArg_ev, twoArg_ev, dCB_ev, dCall_ev, dIt_ev, dRng_ev, dYes_ev, dItV_ev, dItN_ev, thenS_ev, skipS_ev, retS_ev, exprS_ev, ifS_ev, setS_ev, setN_ev, augS_ev, isetS_ev, freezeS_ev, appS_ev, parS_ev, unS_ev, setAll_nil, setAll_cons, slot_v, slot_n, forS_ev, tgN_ev, contd_lst, pad_cons_ev, pad_nil_ev, addD_int, subD_int, ltD_int, leD_int, gtD_int, geD_int, negD_int, ipAddD_int, eqD_int, neD_int, lenD_lst, lenD_tup, intD_int, slN_lst, slT_tup, asList_lst, asTup_tup, catN_lst, addD_tup, bind_err, bindS_err, raiseS_ev, heldD_row, isRowD_row, dOwn1_ev, noErr_ok, dLenRow_ev, dEqRow_ev, dMkRow_ev, dUnN_ev, dTupE_ev, plainT_etp, plainT_tup, catE_etp, tupleE_lst, dMethE_ev, dCallFn_ev, dEnum_ev, dEnumT_ev, iaugS_ev, dTru_ev, truD_bl, truD_int, truD_lst, truD_tup, mkS_list, dMeth_ev, dMethN_ev, dMeth0_ev, dZip_ev, dNewDct_ev, asLdc_ldc, sealS_ev, asSeq_lst, asSeq_tup, List.set, List.replicate, List.length_cons, List.length_nil, Nat.zero_add, Nat.reduceAdd, Nat.reduceLeDiff, if_true, Bool.not_true, Bool.not_false, List.map_nil, List.map_cons]) rfl (by omega) (fun x hx => ⟨_, rfl, by
      have q := is_from_ok (x : Int) 0 1 m (by omega) (by have := h x hx; omega)
      simp only [bind_ok, bind_bad, bindS_ok, dV_ev, dL_ev, slotAt_0, slotAt_s, dC_ev, dN2V_ev, dBin_ev, dBinN_ev, dT_ev, asBool_bl, dAndT_ev, dOrT_ev, dNotT_ev, dAnd_ev, dOr_ev, dNot_ev, dIf_ev, dChain_ev, dUn_ev, dNoPart_ev, dPart_ev, dSl_ev, dNil_ev, dCons_ev, dTup_ev, dLst_ev, oneArg_ev, twoArg_ev, dCB_ev, dCall_ev, dIt_ev, dRng_ev, dYes_ev, dItV_ev, dItN_ev, thenS_ev, skipS_ev, retS_ev, exprS_ev, ifS_ev, setS_ev, setN_ev, augS_ev, isetS_ev, freezeS_ev, appS_ev, parS_ev, unS_ev, setAll_nil, setAll_cons, slot_v, slot_n, forS_ev, tgN_ev, contd_lst, pad_cons_ev, pad_nil_ev, addD_int, subD_int, ltD_int, leD_int, gtD_int, geD_int, negD_int, ipAddD_int, eqD_int, neD_int, lenD_lst, lenD_tup, intD_int, slN_lst, slT_tup, asList_lst, asTup_tup, catN_lst, addD_tup, bind_err, bindS_err, raiseS_ev, heldD_row, isRowD_row, dOwn1_ev, noErr_ok, dLenRow_ev, dEqRow_ev, dMkRow_ev, dUnN_ev, dTupE_ev, plainT_etp, plainT_tup, catE_etp, tupleE_lst, dMethE_ev, dCallFn_ev, dEnum_ev, dEnumT_ev, iaugS_ev, dTru_ev, truD_bl, truD_int, truD_lst, truD_tup, mkS_list, dMeth_ev, dMethN_ev, dMeth0_ev, dZip_ev, dNewDct_ev, asLdc_ldc, sealS_ev, asSeq_lst, asSeq_tup, List.set, List.replicate, List.length_cons, List.length_nil, Nat.zero_add, Nat.reduceAdd, Nat.reduceLeDiff, if_true, Bool.not_true, Bool.not_false, List.map_nil, List.map_cons, wipeS, nD, q], fun h => nomatch h⟩)
  rw [List.filter_eq_nil_iff.mpr (fun _ _ => by simp)] at e
  exact e
theorem is_mix_ok (l : List Nat) (p q : Nat) (m : List Ob) (h : Mix p q l) (hl : l.length ≤ 1000) : den_is_mix [nT l, nD p, nD q] m = .ok (.bl true, m) := by
  have e1 := bits_ok l m h.bit (.sh (nD p)) (.sh (nD q)) hl
  have q1 : isiD .tup (nT l) = .ok (.bl true) := rfl
  have q2 : decide (((l.map nD).length : Int) = (p : Int) + (q : Int)) = true := by rw [List.length_map, h.len, decide_eq_true_eq]; omega
  have q3 : sumT (nT l) = .ok (nD q) := by
    show (match ints? (l.map nD) with
      | some ns => Res.ok (D.int ns.sum)
      | none => .bad) = _
    have e : l.map nD = (l.map fun (x : Nat) => (x : Int)).map D.int := by rw [List.map_map]; rfl
    rw [e, ints?_map]
    have e2 : ∀ l : List Nat, (l.map fun (x : Nat) => (x : Int)).sum = ((l.sum : Nat) : Int) := by
      intro l
      induction l with
      | nil => rfl
      | cons a r ih => rw [List.map_cons, List.sum_cons, List.sum_cons, ih]; omega
    dsimp only
    rw [e2, h.sum]
  refine fnD_rt rfl ?_
  refine (thenS_nx (ρ' := [.sh (nT l), .sh (nD p), .sh (nD q), .non]) (m' := m) (by simp only [bind_ok, bind_bad, bindS_ok, dV_ev, dL_ev, slotAt_0, slotAt_s, dC_ev, dN2V_ev, dBin_ev, dBinN_ev, dT_ev, asBool_bl, dAndT_ev, dOrT_ev, dNotT_ev, dAnd_ev, dOr_ev, dNot_ev, dIf_ev, dChain_ev, dUn_ev, dNoPart_ev, dPart_ev, dSl_ev, dNil_ev, dCons_ev, dTup_ev, dLst_ev, oneArg_ev, twoArg_ev, dCB_ev, dCall_ev, dIt_ev, dRng_ev, dYes_ev, dItV_ev, dItN_ev, thenS_ev, skipS_ev, retS_ev, exprS_ev, ifS_ev, setS_ev, setN_ev, augS_ev, isetS_ev, freezeS_ev, appS_ev, parS_ev, unS_ev, setAll_nil, setAll_cons, slot_v, slot_n, forS_ev, tgN_ev, contd_lst, pad_cons_ev, pad_nil_ev, addD_int, subD_int, ltD_int, leD_int, gtD_int, geD_int, negD_int, ipAddD_int, eqD_int, neD_int, lenD_lst, lenD_tup, intD_int, slN_lst, slT_tup, asList_lst, asTup_tup, catN_lst, addD_tup, bind_err, bindS_err, raiseS_ev, heldD_row, isRowD_row, dOwn1_ev, noErr_ok, dLenRow_ev, dEqRow_ev, dMkRow_ev, dUnN_ev, dTupE_ev, plainT_etp, plainT_tup, catE_etp, tupleE_lst, dMethE_ev, dCallFn_ev, dEnum_ev, dEnumT_ev, iaugS_ev, dTru_ev, truD_bl, truD_int, truD_lst, truD_tup, mkS_list, dMeth_ev, dMethN_ev, dMeth0_ev, dZip_ev, dNewDct_ev, asLdc_ldc, sealS_ev, asSeq_lst, asSeq_tup, List.set, List.replicate, List.length_cons, List.length_nil, Nat.zero_add, Nat.reduceAdd, Nat.reduceLeDiff, if_true, Bool.not_true, Bool.not_false, List.map_nil, List.map_cons, q1, nD, q2])).trans ?_
  refine (thenS_nx (ρ' := [.sh (nT l), .sh (nD p), .sh (nD q), .non]) (m' := m) (by simp only [ifS_ev, dTru_ev, dN2V_ev, e1, bind_ok, contd_lst, truD_lst, bindS_ok, List.isEmpty_nil, Bool.not_true, skipS_ev])).trans ?_
  simp only [bind_ok, bind_bad, bindS_ok, dV_ev, dL_ev, slotAt_0, slotAt_s, dC_ev, dN2V_ev, dBin_ev, dBinN_ev, dT_ev, asBool_bl, dAndT_ev, dOrT_ev, dNotT_ev, dAnd_ev, dOr_ev, dNot_ev, dIf_ev, dChain_ev, dUn_ev, dNoPart_ev, dPart_ev, dSl_ev, dNil_ev, dCons_ev, dTup_ev, dLst_ev, oneArg_ev, twoArg_ev, dCB_ev, dCall_ev, dIt_ev, dRng_ev, dYes_ev, dItV_ev, dItN_ev, thenS_ev, skipS_ev, retS_ev, exprS_ev, ifS_ev, setS_ev, setN_ev, augS_ev, isetS_ev, freezeS_ev, appS_ev, parS_ev, unS_ev, setAll_nil, setAll_cons, slot_v, slot_n, forS_ev, tgN_ev, contd_lst, pad_cons_ev, pad_nil_ev, addD_int, subD_int, ltD_int, leD_int, gtD_int, geD_int, negD_int, ipAddD_int, eqD_int, neD_int, lenD_lst, lenD_tup, intD_int, slN_lst, slT_tup, asList_lst, asTup_tup, catN_lst, addD_tup, bind_err, bindS_err, raiseS_ev, heldD_row, isRowD_row, dOwn1_ev, noErr_ok, dLenRow_ev, dEqRow_ev, dMkRow_ev, dUnN_ev, dTupE_ev, plainT_etp, plainT_tup, catE_etp, tupleE_lst, dMethE_ev, dCallFn_ev, dEnum_ev, dEnumT_ev, iaugS_ev, dTru_ev, truD_bl, truD_int, truD_lst, truD_tup, mkS_list, dMeth_ev, dMethN_ev, dMeth0_ev, dZip_ev, dNewDct_ev, asLdc_ldc, sealS_ev, asSeq_lst, asSeq_tup, List.set, List.replicate, List.length_cons, List.length_nil, Nat.zero_add, Nat.reduceAdd, Nat.reduceLeDiff, if_true, Bool.not_true, Bool.not_false, List.map_nil, List.map_cons, q3, nD, decide_true]
theorem rowOk_ints (gs : List Int) (h1 : 1 ≤ gs.length) (h2 : gs.length ≤ 12) (h : ∀ g ∈ gs, 0 ≤ g ∧ g ≤ 11) : rowOk (iT gs) = true := by
  unfold rowOk
  rw [Bool.and_eq_true, Bool.and_eq_true, decide_eq_true_eq, decide_eq_true_eq, List.length_map]
  refine ⟨h1, h2, ?_⟩
  rw [List.all_eq_true]
  intro d hd
  obtain ⟨g, hg, rfl⟩ := List.mem_map.mp hd
  have := h g hg
  show (decide (0 ≤ g) && decide (g ≤ 11)) = true
  rw [Bool.and_eq_true, decide_eq_true_eq, decide_eq_true_eq]
  exact this
theorem mixed_ok (a b : List Int) (l : List Nat) (m : List Ob) (h : Mix a.length b.length l) (ha : 1 ≤ a.length) (hab : a.length + b.length ≤ 12) (h1 : ∀ g ∈ a, 0 ≤ g ∧ g ≤ 11) (h2 : ∀ g ∈ b, 0 ≤ g ∧ g ≤ 11) : den_mixed [.row (iT a), .row (iT b), nT l] m = .ok (.row (iT (comeF a b l)), m) := by
  have q1 := check_row_ok (iT a) m
  have q1b := check_row_ok (iT b) m
  have q3 := len_row a m
  have q3b := len_row b m
  have q4 := asLen_nat a.length m (by omega)
  have q4b := asLen_nat b.length m (by omega)
  have q5 : decide ((12 : Int) < (a.length : Int) + (b.length : Int)) = false := by rw [decide_eq_false_iff_not]; omega
  have q6 := is_mix_ok l a.length b.length m h (by rw [h.len]; omega)
  have q7 := groups_by_ok a b l m h (by rw [h.len]; omega)
  have hcl : (comeF a b l).length = a.length + b.length := by rw [come_len, h.len]
  have q8 := rowN_ok (m := m) (rowOk_ints (comeF a b l) (by omega) (by omega) (fun g hg => by
    rcases come_mem h a b rfl rfl g hg with h | h
    · exact h1 g h
    · exact h2 g h))
  refine fnD_rt rfl ?_
  refine (thenS_nx (ρ' := [.sh (.row (iT a)), .sh (.row (iT b)), .sh (nT l)]) (m' := m) (by simp only [bind_ok, bind_bad, bindS_ok, dV_ev, dL_ev, slotAt_0, slotAt_s, dC_ev, dN2V_ev, dBin_ev, dBinN_ev, dT_ev, asBool_bl, dAndT_ev, dOrT_ev, dNotT_ev, dAnd_ev, dOr_ev, dNot_ev, dIf_ev, dChain_ev, dUn_ev, dNoPart_ev, dPart_ev, dSl_ev, dNil_ev, dCons_ev, dTup_ev, dLst_ev, oneArg_ev, twoArg_ev, dCB_ev, dCall_ev, dIt_ev, dRng_ev, dYes_ev, dItV_ev, dItN_ev, thenS_ev, skipS_ev, retS_ev, exprS_ev, ifS_ev, setS_ev, setN_ev, augS_ev, isetS_ev, freezeS_ev, appS_ev, parS_ev, unS_ev, setAll_nil, setAll_cons, slot_v, slot_n, forS_ev, tgN_ev, contd_lst, pad_cons_ev, pad_nil_ev, addD_int, subD_int, ltD_int, leD_int, gtD_int, geD_int, negD_int, ipAddD_int, eqD_int, neD_int, lenD_lst, lenD_tup, intD_int, slN_lst, slT_tup, asList_lst, asTup_tup, catN_lst, addD_tup, bind_err, bindS_err, raiseS_ev, heldD_row, isRowD_row, dOwn1_ev, noErr_ok, dLenRow_ev, dEqRow_ev, dMkRow_ev, dUnN_ev, dTupE_ev, plainT_etp, plainT_tup, catE_etp, tupleE_lst, dMethE_ev, dCallFn_ev, dEnum_ev, dEnumT_ev, iaugS_ev, dTru_ev, truD_bl, truD_int, truD_lst, truD_tup, mkS_list, dMeth_ev, dMethN_ev, dMeth0_ev, dZip_ev, dNewDct_ev, asLdc_ldc, sealS_ev, asSeq_lst, asSeq_tup, List.set, List.replicate, List.length_cons, List.length_nil, Nat.zero_add, Nat.reduceAdd, Nat.reduceLeDiff, if_true, Bool.not_true, Bool.not_false, List.map_nil, List.map_cons, q1])).trans ?_
  refine (thenS_nx (ρ' := [.sh (.row (iT a)), .sh (.row (iT b)), .sh (nT l)]) (m' := m) (by simp only [bind_ok, bind_bad, bindS_ok, dV_ev, dL_ev, slotAt_0, slotAt_s, dC_ev, dN2V_ev, dBin_ev, dBinN_ev, dT_ev, asBool_bl, dAndT_ev, dOrT_ev, dNotT_ev, dAnd_ev, dOr_ev, dNot_ev, dIf_ev, dChain_ev, dUn_ev, dNoPart_ev, dPart_ev, dSl_ev, dNil_ev, dCons_ev, dTup_ev, dLst_ev, oneArg_ev, twoArg_ev, dCB_ev, dCall_ev, dIt_ev, dRng_ev, dYes_ev, dItV_ev, dItN_ev, thenS_ev, skipS_ev, retS_ev, exprS_ev, ifS_ev, setS_ev, setN_ev, augS_ev, isetS_ev, freezeS_ev, appS_ev, parS_ev, unS_ev, setAll_nil, setAll_cons, slot_v, slot_n, forS_ev, tgN_ev, contd_lst, pad_cons_ev, pad_nil_ev, addD_int, subD_int, ltD_int, leD_int, gtD_int, geD_int, negD_int, ipAddD_int, eqD_int, neD_int, lenD_lst, lenD_tup, intD_int, slN_lst, slT_tup, asList_lst, asTup_tup, catN_lst, addD_tup, bind_err, bindS_err, raiseS_ev, heldD_row, isRowD_row, dOwn1_ev, noErr_ok, dLenRow_ev, dEqRow_ev, dMkRow_ev, dUnN_ev, dTupE_ev, plainT_etp, plainT_tup, catE_etp, tupleE_lst, dMethE_ev, dCallFn_ev, dEnum_ev, dEnumT_ev, iaugS_ev, dTru_ev, truD_bl, truD_int, truD_lst, truD_tup, mkS_list, dMeth_ev, dMethN_ev, dMeth0_ev, dZip_ev, dNewDct_ev, asLdc_ldc, sealS_ev, asSeq_lst, asSeq_tup, List.set, List.replicate, List.length_cons, List.length_nil, Nat.zero_add, Nat.reduceAdd, Nat.reduceLeDiff, if_true, Bool.not_true, Bool.not_false, List.map_nil, List.map_cons, q1b])).trans ?_
  refine (thenS_nx (ρ' := [.sh (.row (iT a)), .sh (.row (iT b)), .sh (nT l)]) (m' := m) (by simp only [bind_ok, bind_bad, bindS_ok, dV_ev, dL_ev, slotAt_0, slotAt_s, dC_ev, dN2V_ev, dBin_ev, dBinN_ev, dT_ev, asBool_bl, dAndT_ev, dOrT_ev, dNotT_ev, dAnd_ev, dOr_ev, dNot_ev, dIf_ev, dChain_ev, dUn_ev, dNoPart_ev, dPart_ev, dSl_ev, dNil_ev, dCons_ev, dTup_ev, dLst_ev, oneArg_ev, twoArg_ev, dCB_ev, dCall_ev, dIt_ev, dRng_ev, dYes_ev, dItV_ev, dItN_ev, thenS_ev, skipS_ev, retS_ev, exprS_ev, ifS_ev, setS_ev, setN_ev, augS_ev, isetS_ev, freezeS_ev, appS_ev, parS_ev, unS_ev, setAll_nil, setAll_cons, slot_v, slot_n, forS_ev, tgN_ev, contd_lst, pad_cons_ev, pad_nil_ev, addD_int, subD_int, ltD_int, leD_int, gtD_int, geD_int, negD_int, ipAddD_int, eqD_int, neD_int, lenD_lst, lenD_tup, intD_int, slN_lst, slT_tup, asList_lst, asTup_tup, catN_lst, addD_tup, bind_err, bindS_err, raiseS_ev, heldD_row, isRowD_row, dOwn1_ev, noErr_ok, dLenRow_ev, dEqRow_ev, dMkRow_ev, dUnN_ev, dTupE_ev, plainT_etp, plainT_tup, catE_etp, tupleE_lst, dMethE_ev, dCallFn_ev, dEnum_ev, dEnumT_ev, iaugS_ev, dTru_ev, truD_bl, truD_int, truD_lst, truD_tup, mkS_list, dMeth_ev, dMethN_ev, dMeth0_ev, dZip_ev, dNewDct_ev, asLdc_ldc, sealS_ev, asSeq_lst, asSeq_tup, List.set, List.replicate, List.length_cons, List.length_nil, Nat.zero_add, Nat.reduceAdd, Nat.reduceLeDiff, if_true, Bool.not_true, Bool.not_false, List.map_nil, List.map_cons, q3, q4, q3b, q4b, nD, q5])).trans ?_
  refine (thenS_nx (ρ' := [.sh (.row (iT a)), .sh (.row (iT b)), .sh (nT l)]) (m' := m) (by simp only [bind_ok, bind_bad, bindS_ok, dV_ev, dL_ev, slotAt_0, slotAt_s, dC_ev, dN2V_ev, dBin_ev, dBinN_ev, dT_ev, asBool_bl, dAndT_ev, dOrT_ev, dNotT_ev, dAnd_ev, dOr_ev, dNot_ev, dIf_ev, dChain_ev, dUn_ev, dNoPart_ev, dPart_ev, dSl_ev, dNil_ev, dCons_ev, dTup_ev, dLst_ev, oneArg_ev, twoArg_ev, dCB_ev, dCall_ev, dIt_ev, dRng_ev, dYes_ev, dItV_ev, dItN_ev, thenS_ev, skipS_ev, retS_ev, exprS_ev, ifS_ev, setS_ev, setN_ev, augS_ev, isetS_ev, freezeS_ev, appS_ev, parS_ev, unS_ev, setAll_nil, setAll_cons, slot_v, slot_n, forS_ev, tgN_ev, contd_lst, pad_cons_ev, pad_nil_ev, addD_int, subD_int, ltD_int, leD_int, gtD_int, geD_int, negD_int, ipAddD_int, eqD_int, neD_int, lenD_lst, lenD_tup, intD_int, slN_lst, slT_tup, asList_lst, asTup_tup, catN_lst, addD_tup, bind_err, bindS_err, raiseS_ev, heldD_row, isRowD_row, dOwn1_ev, noErr_ok, dLenRow_ev, dEqRow_ev, dMkRow_ev, dUnN_ev, dTupE_ev, plainT_etp, plainT_tup, catE_etp, tupleE_lst, dMethE_ev, dCallFn_ev, dEnum_ev, dEnumT_ev, iaugS_ev, dTru_ev, truD_bl, truD_int, truD_lst, truD_tup, mkS_list, dMeth_ev, dMethN_ev, dMeth0_ev, dZip_ev, dNewDct_ev, asLdc_ldc, sealS_ev, asSeq_lst, asSeq_tup, List.set, List.replicate, List.length_cons, List.length_nil, Nat.zero_add, Nat.reduceAdd, Nat.reduceLeDiff, if_true, Bool.not_true, Bool.not_false, List.map_nil, List.map_cons, q3, q4, q3b, q4b, q6])).trans ?_
  simp only [retS_ev, dMkRow_ev, dCall_ev, dCons_ev, dUn_ev, dL_ev, dV_ev, slotAt_0, slotAt_s, bind_ok, heldD_row, dNil_ev, q7, q8, bindS_ok]
end L_k16
namespace L_k16
open PySem PySem.Spec PyProof.Rows L2 PD
abbrev DrawnK : List Ob → Prop := DrawnT "_law_levels" "_law_levels.<locals>.<lambda>"
/-- a row of ints, a list or a tuple -/
structure SeqOk (d : D) (gs : List Int) : Prop where
  len : lenD d = .ok (nD gs.length)
  ix : ∀ k, k < gs.length → ixD d (nD k) = .ok (.int (gs.getD k 0))
  sq : seqOf (.sh d) = some (gs.map .int)
theorem seq_lst (gs : List Int) (h : gs.length < 1000) : SeqOk (lD D.int gs) gs := ⟨by simp only [bind_ok, bind_bad, bindS_ok, dV_ev, dL_ev, slotAt_0, slotAt_s, dC_ev, dN2V_ev, dBin_ev, dBinN_ev, dT_ev, asBool_bl, dAndT_ev, dOrT_ev, dNotT_ev, dAnd_ev, dOr_ev, dNot_ev, dIf_ev, dChain_ev, dUn_ev, dNoPart_ev, dPart_ev, dSl_ev, dNil_ev, dCons_ev, dTup_ev, dLst_ev, oneArg_ev, twoArg_ev, dCB_ev, dCall_ev, dIt_ev, dRng_ev, dYes_ev, dItV_ev, dItN_ev, thenS_ev, skipS_ev, retS_ev, exprS_ev, ifS_ev, setS_ev, setN_ev, augS_ev, isetS_ev, freezeS_ev, appS_ev, parS_ev, unS_ev, setAll_nil, setAll_cons, slot_v, slot_n, forS_ev, tgN_ev, contd_lst, pad_cons_ev, pad_nil_ev, addD_int, subD_int, ltD_int, leD_int, gtD_int, geD_int, negD_int, ipAddD_int, eqD_int, neD_int, lenD_lst, lenD_tup, intD_int, slN_lst, slT_tup, asList_lst, asTup_tup, catN_lst, addD_tup, bind_err, bindS_err, raiseS_ev, heldD_row, isRowD_row, dOwn1_ev, noErr_ok, dLenRow_ev, dEqRow_ev, dMkRow_ev, dUnN_ev, dTupE_ev, plainT_etp, plainT_tup, catE_etp, tupleE_lst, dMethE_ev, dCallFn_ev, dEnum_ev, dEnumT_ev, iaugS_ev, dTru_ev, truD_bl, truD_int, truD_lst, truD_tup, mkS_list, dMeth_ev, dMethN_ev, dMeth0_ev, dZip_ev, dNewDct_ev, asLdc_ldc, sealS_ev, asSeq_lst, asSeq_tup, List.set, List.replicate, List.length_cons, List.length_nil, Nat.zero_add, Nat.reduceAdd, Nat.reduceLeDiff, if_true, Bool.not_true, Bool.not_false, List.map_nil, List.map_cons, lD, List.length_map], fun k hk => ixD_getD D.int gs k 0 hk, rfl⟩
theorem seq_tup (gs : List Int) (h : gs.length < 1000) : SeqOk (tD D.int gs) gs := ⟨by simp only [bind_ok, bind_bad, bindS_ok, dV_ev, dL_ev, slotAt_0, slotAt_s, dC_ev, dN2V_ev, dBin_ev, dBinN_ev, dT_ev, asBool_bl, dAndT_ev, dOrT_ev, dNotT_ev, dAnd_ev, dOr_ev, dNot_ev, dIf_ev, dChain_ev, dUn_ev, dNoPart_ev, dPart_ev, dSl_ev, dNil_ev, dCons_ev, dTup_ev, dLst_ev, oneArg_ev, twoArg_ev, dCB_ev, dCall_ev, dIt_ev, dRng_ev, dYes_ev, dItV_ev, dItN_ev, thenS_ev, skipS_ev, retS_ev, exprS_ev, ifS_ev, setS_ev, setN_ev, augS_ev, isetS_ev, freezeS_ev, appS_ev, parS_ev, unS_ev, setAll_nil, setAll_cons, slot_v, slot_n, forS_ev, tgN_ev, contd_lst, pad_cons_ev, pad_nil_ev, addD_int, subD_int, ltD_int, leD_int, gtD_int, geD_int, negD_int, ipAddD_int, eqD_int, neD_int, lenD_lst, lenD_tup, intD_int, slN_lst, slT_tup, asList_lst, asTup_tup, catN_lst, addD_tup, bind_err, bindS_err, raiseS_ev, heldD_row, isRowD_row, dOwn1_ev, noErr_ok, dLenRow_ev, dEqRow_ev, dMkRow_ev, dUnN_ev, dTupE_ev, plainT_etp, plainT_tup, catE_etp, tupleE_lst, dMethE_ev, dCallFn_ev, dEnum_ev, dEnumT_ev, iaugS_ev, dTru_ev, truD_bl, truD_int, truD_lst, truD_tup, mkS_list, dMeth_ev, dMethN_ev, dMeth0_ev, dZip_ev, dNewDct_ev, asLdc_ldc, sealS_ev, asSeq_lst, asSeq_tup, List.set, List.replicate, List.length_cons, List.length_nil, Nat.zero_add, Nat.reduceAdd, Nat.reduceLeDiff, if_true, Bool.not_true, Bool.not_false, List.map_nil, List.map_cons, tD, List.length_map], fun k hk => ixT_getD D.int gs k 0 hk, rfl⟩
abbrev lvV (gs : List Int) (k : Nat) : D := .int ((levF gs).getD k 0)
abbrev ldcF (gs : List Int) : D := .ldc false ((ordN gs).map nD) ((ordN gs).map (lvV gs))
abbrev llC : Den Cont := dComp (dIt asLdc (dV 2)) [5] (tgN 5) (dT (dBin ltD (dBin ixD (dL 0) (dL 5)) (dBin ixD (dL 0) (dL 3)))) (dBin addD (dBin dgetK (dL 2) (dL 5)) (dCB (oneArg intD) (dCons (dBin ltD (dL 3) (dL 5)) dNil)))
abbrev llM : Den D := dCB (oneArg maxLD) (dCons (dN2V (dBinN catN (dN2V (dLst (dCons (dC (.int 0)) dNil))) (dL 4))) dNil)
abbrev llB : SDen := thenS (setN 4 (dLock 2 llC)) (dputS 2 (dL 3) llM)
theorem ah_cast (w k : Nat) : (if (decide ((w : Int) < (k : Int))) = true then (1 : Int) else 0) = ah w k := by
  unfold ah
  by_cases h : w < k
  · rw [if_pos h, if_pos (by rw [decide_eq_true_eq]; omega)]
  · rw [if_neg h, if_neg (by rw [decide_eq_true_eq]; omega)]
theorem llC_ok (d : D) (gs : List Int) (m : List Ob) (hs : SeqOk d gs) (x1 x4 : Slot) (here : Nat) (hh : here < gs.length) (done : List Nat) (hd : ∀ k ∈ done, k < gs.length) (hl : done.length < 1000) :
    llC [.sh d, x1, .sh (.ldc false (done.map nD) (done.map (lvV gs))), .sh (nD here), x4, .non] m = .ok (.lst (((done.filter fun k => decide (gs.getD k 0 < gs.getD here 0)).map fun k => (levF gs).getD k 0 + ah here k).map D.int), m) := by
  rw [List.map_map]
  refine dComp_map nD done (fun k => decide (gs.getD k 0 < gs.getD here 0)) (fun k => D.int ((levF gs).getD k 0 + ah here k)) (by simp only [bind_ok, bind_bad, bindS_ok, dV_ev, dL_ev, slotAt_0, slotAt_s, dC_ev, dN2V_ev, dBin_ev, dBinN_ev, dT_ev, asBool_bl, dAndT_ev, dOrT_ev, dNotT_ev, dAnd_ev, dOr_ev, dNot_ev, dIf_ev, dChain_ev, dUn_ev, dNoPart_ev, dPart_ev, dSl_ev, dNil_ev, dCons_ev, dTup_ev, dLst_ev, oneArg_ev, twoArg_ev, dCB_ev, dCall_ev, dIt_ev, dRng_ev, dYes_ev, dItV_ev, dItN_ev, thenS_ev, skipS_ev, retS_ev, exprS_ev, ifS_ev, setS_ev, setN_ev, augS_ev, isetS_ev, freezeS_ev, appS_ev, parS_ev, unS_ev, setAll_nil, setAll_cons, slot_v, slot_n, forS_ev, tgN_ev, contd_lst, pad_cons_ev, pad_nil_ev, addD_int, subD_int, ltD_int, leD_int, gtD_int, geD_int, negD_int, ipAddD_int, eqD_int, neD_int, lenD_lst, lenD_tup, intD_int, slN_lst, slT_tup, asList_lst, asTup_tup, catN_lst, addD_tup, bind_err, bindS_err, raiseS_ev, heldD_row, isRowD_row, dOwn1_ev, noErr_ok, dLenRow_ev, dEqRow_ev, dMkRow_ev, dUnN_ev, dTupE_ev, plainT_etp, plainT_tup, catE_etp, tupleE_lst, dMethE_ev, dCallFn_ev, dEnum_ev, dEnumT_ev, iaugS_ev, dTru_ev, truD_bl, truD_int, truD_lst, truD_tup, mkS_list, dMeth_ev, dMethN_ev, dMeth0_ev, dZip_ev, dNewDct_ev, asLdc_ldc, sealS_ev, asSeq_lst, asSeq_tup, List.set, List.replicate, List.length_cons, List.length_nil, Nat.zero_add, Nat.reduceAdd, Nat.reduceLeDiff, if_true, Bool.not_true, Bool.not_false, List.map_nil, List.map_cons]) rfl (by omega) fun k hk => ⟨_, rfl, ?_, fun _ => ?_⟩
  · have q1 := hs.ix k (hd k hk)
    have q2 := hs.ix here hh
    simp only [bind_ok, bind_bad, bindS_ok, dV_ev, dL_ev, slotAt_0, slotAt_s, dC_ev, dN2V_ev, dBin_ev, dBinN_ev, dT_ev, asBool_bl, dAndT_ev, dOrT_ev, dNotT_ev, dAnd_ev, dOr_ev, dNot_ev, dIf_ev, dChain_ev, dUn_ev, dNoPart_ev, dPart_ev, dSl_ev, dNil_ev, dCons_ev, dTup_ev, dLst_ev, oneArg_ev, twoArg_ev, dCB_ev, dCall_ev, dIt_ev, dRng_ev, dYes_ev, dItV_ev, dItN_ev, thenS_ev, skipS_ev, retS_ev, exprS_ev, ifS_ev, setS_ev, setN_ev, augS_ev, isetS_ev, freezeS_ev, appS_ev, parS_ev, unS_ev, setAll_nil, setAll_cons, slot_v, slot_n, forS_ev, tgN_ev, contd_lst, pad_cons_ev, pad_nil_ev, addD_int, subD_int, ltD_int, leD_int, gtD_int, geD_int, negD_int, ipAddD_int, eqD_int, neD_int, lenD_lst, lenD_tup, intD_int, slN_lst, slT_tup, asList_lst, asTup_tup, catN_lst, addD_tup, bind_err, bindS_err, raiseS_ev, heldD_row, isRowD_row, dOwn1_ev, noErr_ok, dLenRow_ev, dEqRow_ev, dMkRow_ev, dUnN_ev, dTupE_ev, plainT_etp, plainT_tup, catE_etp, tupleE_lst, dMethE_ev, dCallFn_ev, dEnum_ev, dEnumT_ev, iaugS_ev, dTru_ev, truD_bl, truD_int, truD_lst, truD_tup, mkS_list, dMeth_ev, dMethN_ev, dMeth0_ev, dZip_ev, dNewDct_ev, asLdc_ldc, sealS_ev, asSeq_lst, asSeq_tup, List.set, List.replicate, List.length_cons, List.length_nil, Nat.zero_add, Nat.reduceAdd, Nat.reduceLeDiff, if_true, Bool.not_true, Bool.not_false, List.map_nil, List.map_cons, wipeS, q1, q2]
  · have q := dgetK_ldc (lvV gs) k done hk
    simp only [bind_ok, bind_bad, bindS_ok, dV_ev, dL_ev, slotAt_0, slotAt_s, dC_ev, dN2V_ev, dBin_ev, dBinN_ev, dT_ev, asBool_bl, dAndT_ev, dOrT_ev, dNotT_ev, dAnd_ev, dOr_ev, dNot_ev, dIf_ev, dChain_ev, dUn_ev, dNoPart_ev, dPart_ev, dSl_ev, dNil_ev, dCons_ev, dTup_ev, dLst_ev, oneArg_ev, twoArg_ev, dCB_ev, dCall_ev, dIt_ev, dRng_ev, dYes_ev, dItV_ev, dItN_ev, thenS_ev, skipS_ev, retS_ev, exprS_ev, ifS_ev, setS_ev, setN_ev, augS_ev, isetS_ev, freezeS_ev, appS_ev, parS_ev, unS_ev, setAll_nil, setAll_cons, slot_v, slot_n, forS_ev, tgN_ev, contd_lst, pad_cons_ev, pad_nil_ev, addD_int, subD_int, ltD_int, leD_int, gtD_int, geD_int, negD_int, ipAddD_int, eqD_int, neD_int, lenD_lst, lenD_tup, intD_int, slN_lst, slT_tup, asList_lst, asTup_tup, catN_lst, addD_tup, bind_err, bindS_err, raiseS_ev, heldD_row, isRowD_row, dOwn1_ev, noErr_ok, dLenRow_ev, dEqRow_ev, dMkRow_ev, dUnN_ev, dTupE_ev, plainT_etp, plainT_tup, catE_etp, tupleE_lst, dMethE_ev, dCallFn_ev, dEnum_ev, dEnumT_ev, iaugS_ev, dTru_ev, truD_bl, truD_int, truD_lst, truD_tup, mkS_list, dMeth_ev, dMethN_ev, dMeth0_ev, dZip_ev, dNewDct_ev, asLdc_ldc, sealS_ev, asSeq_lst, asSeq_tup, List.set, List.replicate, List.length_cons, List.length_nil, Nat.zero_add, Nat.reduceAdd, Nat.reduceLeDiff, if_true, Bool.not_true, Bool.not_false, List.map_nil, List.map_cons, wipeS, q, intD_bl, ah_cast]
theorem ll_loop (d : D) (gs : List Int) (m : List Ob) (hn : gs.length < 1000) (hs : SeqOk d gs) (hm : noLM m = true) : ∀ (rest done : List Nat) (x3 x4 : Slot), done ++ rest = ordN gs →
    ∃ y3 y4, loopS (tgN 3) llB (rest.map nD) [.sh d, .sh (lD nD (ordN gs)), .own (.dct false (done.map nD) (done.map (lvV gs))), x3, x4, .non] m = .nx [.sh d, .sh (lD nD (ordN gs)), .own (.dct false ((ordN gs).map nD) ((ordN gs).map (lvV gs))), y3, y4, .non] m
  | [], done, x3, x4, e => ⟨x3, x4, by rw [List.append_nil] at e; rw [e]; rfl⟩
  | here :: rest, done, x3, x4, e => by
    have e' : (done ++ [here]) ++ rest = ordN gs := by rw [List.append_assoc]; exact e
    have hin : ∀ k, k ∈ ordN gs → k < gs.length := fun k => (ordN_mem gs k).mp
    have hd : ∀ k ∈ done, k < gs.length := fun k hk => hin k (by rw [← e]; exact List.mem_append_left _ hk)
    have hh : here < gs.length := hin here (by rw [← e]; exact List.mem_append_right _ (List.mem_cons_self ..))
    have hnd := ordN_nodup gs
    rw [← e] at hnd
    have hnew : here ∉ done := fun q => (List.nodup_append.mp hnd).2.2 here q here (List.mem_cons_self ..) rfl
    have hlow : ∀ k, k < gs.length → gs.getD k 0 < gs.getD here 0 → k ∈ done := fun k hk hlt => by
      have hp := ordN_ord gs
      rw [← e] at hp
      have q := (ordN_mem gs k).mpr hk
      rw [← e] at q
      rcases List.mem_append.mp q with q | q
      · exact q
      · rcases List.mem_cons.mp q with rfl | q
        · omega
        · have r := (List.pairwise_cons.mp (List.pairwise_append.mp hp).2.1).1 k q
          omega
    have hlen : done.length < 1000 := by
      have := congrArg List.length e
      rw [ordN_len, List.length_append] at this
      omega
    obtain ⟨y3, y4, ih⟩ := ll_loop d gs m hn hs hm rest (done ++ [here]) (.sh (nD here)) (.own (.lst (((done.filter fun k => decide (gs.getD k 0 < gs.getD here 0)).map fun k => (levF gs).getD k 0 + ah here k).map D.int))) e'
    refine ⟨y3, y4, ?_⟩
    have hlow2 := levF_low gs here hh done hd hlow
    generalize hlw : (done.filter fun k => decide (gs.getD k 0 < gs.getD here 0)).map (fun k => (levF gs).getD k 0 + ah here k) = lw at ih hlow2
    have hlw3 : lw.length < 1000 := by
      rw [← hlw, List.length_map]
      have := List.length_filter_le (fun k => decide (gs.getD k 0 < gs.getD here 0)) done
      omega
    have c1 : dLock 2 llC [.sh d, .sh (lD nD (ordN gs)), .own (.dct false (done.map nD) (done.map (lvV gs))), .sh (nD here), x4, .non] m = .ok (.lst (lw.map D.int), m) := by
      refine dLock_ok rfl ?_ (noLs_map D.int (fun _ => by simp only [noL]) lw) hm
      rw [← hlw]
      exact llC_ok d gs m hs (.sh (lD nD (ordN gs))) _ here hh done hd hlen
    have c2 : llM [.sh d, .sh (lD nD (ordN gs)), .own (.dct false (done.map nD) (done.map (lvV gs))), .sh (nD here), .own (.lst (lw.map D.int)), .non] m = .ok (lvV gs here, m) := by
      have q := maxLD_int (0 :: lw) (by simp)
      rw [List.map_cons, hlow2] at q
      have q2 : lw.length + 1 ≤ 16777216 := by omega
      simp only [bind_ok, bind_bad, bindS_ok, dV_ev, dL_ev, slotAt_0, slotAt_s, dC_ev, dN2V_ev, dBin_ev, dBinN_ev, dT_ev, asBool_bl, dAndT_ev, dOrT_ev, dNotT_ev, dAnd_ev, dOr_ev, dNot_ev, dIf_ev, dChain_ev, dUn_ev, dNoPart_ev, dPart_ev, dSl_ev, dNil_ev, dCons_ev, dTup_ev, dLst_ev, oneArg_ev, twoArg_ev, dCB_ev, dCall_ev, dIt_ev, dRng_ev, dYes_ev, dItV_ev, dItN_ev, thenS_ev, skipS_ev, retS_ev, exprS_ev, ifS_ev, setS_ev, setN_ev, augS_ev, isetS_ev, freezeS_ev, appS_ev, parS_ev, unS_ev, setAll_nil, setAll_cons, slot_v, slot_n, forS_ev, tgN_ev, contd_lst, pad_cons_ev, pad_nil_ev, addD_int, subD_int, ltD_int, leD_int, gtD_int, geD_int, negD_int, ipAddD_int, eqD_int, neD_int, lenD_lst, lenD_tup, intD_int, slN_lst, slT_tup, asList_lst, asTup_tup, catN_lst, addD_tup, bind_err, bindS_err, raiseS_ev, heldD_row, isRowD_row, dOwn1_ev, noErr_ok, dLenRow_ev, dEqRow_ev, dMkRow_ev, dUnN_ev, dTupE_ev, plainT_etp, plainT_tup, catE_etp, tupleE_lst, dMethE_ev, dCallFn_ev, dEnum_ev, dEnumT_ev, iaugS_ev, dTru_ev, truD_bl, truD_int, truD_lst, truD_tup, mkS_list, dMeth_ev, dMethN_ev, dMeth0_ev, dZip_ev, dNewDct_ev, asLdc_ldc, sealS_ev, asSeq_lst, asSeq_tup, List.set, List.replicate, List.length_cons, List.length_nil, Nat.zero_add, Nat.reduceAdd, Nat.reduceLeDiff, if_true, Bool.not_true, Bool.not_false, List.map_nil, List.map_cons, List.length_map, List.cons_append, List.nil_append, q, show 1 + lw.length ≤ 16777216 by omega]
    have c3 := dputS_ok (i := 2) (dk := dL 3) (dv := llM) (j := .inl (here : Int)) (k := nD here) (ρ := [.sh d, .sh (lD nD (ordN gs)), .own (.dct false (done.map nD) (done.map (lvV gs))), .sh (nD here), .own (.lst (lw.map D.int)), .non]) rfl c2 rfl rfl (by rw [List.length_map]; omega)
    rw [putC_new (lvV gs) here done hnew] at c3
    rw [List.map_cons, loop_nx (ρ1 := [.sh d, .sh (lD nD (ordN gs)), .own (.dct false (done.map nD) (done.map (lvV gs))), .sh (nD here), x4, .non]) (ρ'' := [.sh d, .sh (lD nD (ordN gs)), .own (.dct false ((done ++ [here]).map nD) ((done ++ [here]).map (lvV gs))), .sh (nD here), .own (.lst (lw.map D.int)), .non]) (m'' := m) rfl (by
      simp only [thenS_ev, setN_ev, c1, bindS_ok, List.set]
      exact c3)]
    exact ih
theorem law_levels_ok (d : D) (gs : List Int) (m : List Ob) (hn : gs.length < 1000) (hs : SeqOk d gs) (hm : noLM m = true) (ht : m[0]? = some (.tab "_law_levels" "_law_levels.<locals>.<lambda>")) : den_law_levels [d] m = .ok (ldcF gs, m) := by
  have e1 : ∀ ρ : List Slot, PD.slotAt ρ 0 = .sh d → dSortK 0 0 "_law_levels" "_law_levels.<locals>.<lambda>" (dCons (dN2V (dUnN rgN (dCB (oneArg lenD) (dCons (dL 0) dNil)))) dNil) ρ m = .ok (.lst ((ordN gs).map nD), m) := fun ρ h0 => by
    rw [← natsI_int, ← sortBy_nats]
    refine dSortK_ok (gs := gs) ?_ ht (by rw [h0]; exact hs.sq) (by unfold natsI; rw [List.length_map, List.length_range]; omega) (by omega) fun n hx => by
      obtain ⟨h1, k, hk, rfl⟩ := natsI_mem hx
      exact ⟨h1, by have := List.mem_range.mp hk; omega⟩
    have q := rgN_nat (n := gs.length) (by omega)
    rw [natsI_int]
    simp only [bind_ok, bind_bad, bindS_ok, dV_ev, dL_ev, slotAt_0, slotAt_s, dC_ev, dN2V_ev, dBin_ev, dBinN_ev, dT_ev, asBool_bl, dAndT_ev, dOrT_ev, dNotT_ev, dAnd_ev, dOr_ev, dNot_ev, dIf_ev, dChain_ev, dUn_ev, dNoPart_ev, dPart_ev, dSl_ev, dNil_ev, dCons_ev, dTup_ev, dLst_ev, oneArg_ev, twoArg_ev, dCB_ev, dCall_ev, dIt_ev, dRng_ev, dYes_ev, dItV_ev, dItN_ev, thenS_ev, skipS_ev, retS_ev, exprS_ev, ifS_ev, setS_ev, setN_ev, augS_ev, isetS_ev, freezeS_ev, appS_ev, parS_ev, unS_ev, setAll_nil, setAll_cons, slot_v, slot_n, forS_ev, tgN_ev, contd_lst, pad_cons_ev, pad_nil_ev, addD_int, subD_int, ltD_int, leD_int, gtD_int, geD_int, negD_int, ipAddD_int, eqD_int, neD_int, lenD_lst, lenD_tup, intD_int, slN_lst, slT_tup, asList_lst, asTup_tup, catN_lst, addD_tup, bind_err, bindS_err, raiseS_ev, heldD_row, isRowD_row, dOwn1_ev, noErr_ok, dLenRow_ev, dEqRow_ev, dMkRow_ev, dUnN_ev, dTupE_ev, plainT_etp, plainT_tup, catE_etp, tupleE_lst, dMethE_ev, dCallFn_ev, dEnum_ev, dEnumT_ev, iaugS_ev, dTru_ev, truD_bl, truD_int, truD_lst, truD_tup, mkS_list, dMeth_ev, dMethN_ev, dMeth0_ev, dZip_ev, dNewDct_ev, asLdc_ldc, sealS_ev, asSeq_lst, asSeq_tup, List.set, List.replicate, List.length_cons, List.length_nil, Nat.zero_add, Nat.reduceAdd, Nat.reduceLeDiff, if_true, Bool.not_true, Bool.not_false, List.map_nil, List.map_cons, h0, hs.len, nD, q]
  obtain ⟨y3, y4, e⟩ := ll_loop d gs m hn hs hm (ordN gs) [] .non .non rfl
  refine fnD_rt rfl ?_
  have e1' := e1 [.sh d, .non, .non, .non, .non, .non] rfl
  refine (thenS_nx (ρ' := [.sh d, .sh (lD nD (ordN gs)), .own (.dct false [] []), .non, .non, .non]) (m' := m) (by
    simp only [parS_ev, dCons_ev, dItV_ev, dN2V_ev, dItN_ev, pad_cons_ev, pad_nil_ev, List.replicate, e1', bind_ok, dNewDct_ev, dNil_ev, bindS_ok, setAll_cons, setAll_nil, slot_v, slot_n, List.set, contd_lst])).trans ?_
  refine (thenS_nx (m' := m) (by
    simp only [forS_ev, dIt_ev, dV_ev, slotAt_0, slotAt_s, bind_ok, asList_lst, bindS_ok, lD]
    exact e)).trans ?_
  simp only [sealS_ev, slotAt_0, slotAt_s, List.set, retS_ev, dV_ev, bindS_ok]
theorem pulls_spec (k t : Nat) (h1 : 1 ≤ k) (hk : k ≤ 9) (ht : 1 ≤ t) (ht4 : t ≤ 4) : pullsN' k t < 9 ∧ (k : Int) ≤ tot t (pullsN' k t) ∧ ∀ j, j < pullsN' k t → tot t j < (k : Int) := by
  have tb : ((List.range 10).all fun k => (List.range 5).all fun t => (k == 0 || t == 0) || (decide (pullsN' k t < 9) && decide ((k : Int) ≤ tot t (pullsN' k t)) && (List.range (pullsN' k t)).all fun j => decide (tot t j < (k : Int)))) = true := by decide +kernel
  have a := List.all_eq_true.mp (List.all_eq_true.mp tb k (List.mem_range.mpr (by omega))) t (List.mem_range.mpr (by omega))
  rw [Bool.or_eq_true, Bool.and_eq_true, Bool.and_eq_true, decide_eq_true_eq, decide_eq_true_eq, List.all_eq_true] at a
  rcases a with a | ⟨⟨a, b⟩, c⟩
  · rw [Bool.or_eq_true, beq_iff_eq, beq_iff_eq] at a
    omega
  · exact ⟨a, b, fun j hj => by simpa using c j (List.mem_range.mpr hj)⟩
abbrev lpW : Den Bool := dT (dBin ltD (dCB (oneArg lenD) (dCons (dCall den_law_codes (dCons (dV 4) (dCons (dV 1) dNil))) dNil)) (dL 3))
abbrev lpS : SDen := setS 4 (dBin addD (dL 4) (dC (.int 1)))
theorem lpW_ok (k t h : Nat) (m : List Ob) (x0 x2 x5 : Slot) (ht : 1 ≤ t) (ht4 : t ≤ 4) (hh : h < 9) : lpW [x0, .sh (nD t), x2, .sh (nD k), .sh (nD h), x5] m = .ok (decide (tot t h < (k : Int)), m) := by
  have q := lcodes_ok h t m (by omega)
  have q2 := count_ok h t hh ht ht4
  simp only [bind_ok, bind_bad, bindS_ok, dV_ev, dL_ev, slotAt_0, slotAt_s, dC_ev, dN2V_ev, dBin_ev, dBinN_ev, dT_ev, asBool_bl, dAndT_ev, dOrT_ev, dNotT_ev, dAnd_ev, dOr_ev, dNot_ev, dIf_ev, dChain_ev, dUn_ev, dNoPart_ev, dPart_ev, dSl_ev, dNil_ev, dCons_ev, dTup_ev, dLst_ev, oneArg_ev, twoArg_ev, dCB_ev, dCall_ev, dIt_ev, dRng_ev, dYes_ev, dItV_ev, dItN_ev, thenS_ev, skipS_ev, retS_ev, exprS_ev, ifS_ev, setS_ev, setN_ev, augS_ev, isetS_ev, freezeS_ev, appS_ev, parS_ev, unS_ev, setAll_nil, setAll_cons, slot_v, slot_n, forS_ev, tgN_ev, contd_lst, pad_cons_ev, pad_nil_ev, addD_int, subD_int, ltD_int, leD_int, gtD_int, geD_int, negD_int, ipAddD_int, eqD_int, neD_int, lenD_lst, lenD_tup, intD_int, slN_lst, slT_tup, asList_lst, asTup_tup, catN_lst, addD_tup, bind_err, bindS_err, raiseS_ev, heldD_row, isRowD_row, dOwn1_ev, noErr_ok, dLenRow_ev, dEqRow_ev, dMkRow_ev, dUnN_ev, dTupE_ev, plainT_etp, plainT_tup, catE_etp, tupleE_lst, dMethE_ev, dCallFn_ev, dEnum_ev, dEnumT_ev, iaugS_ev, dTru_ev, truD_bl, truD_int, truD_lst, truD_tup, mkS_list, dMeth_ev, dMethN_ev, dMeth0_ev, dZip_ev, dNewDct_ev, asLdc_ldc, sealS_ev, asSeq_lst, asSeq_tup, List.set, List.replicate, List.length_cons, List.length_nil, Nat.zero_add, Nat.reduceAdd, Nat.reduceLeDiff, if_true, Bool.not_true, Bool.not_false, List.map_nil, List.map_cons, nD, q, lD, List.length_map, q2]
theorem lp_loop (k t : Nat) (m : List Ob) (x0 x2 x5 : Slot) (h1 : 1 ≤ k) (hk : k ≤ 9) (ht : 1 ≤ t) (ht4 : t ≤ 4) : ∀ (n h F : Nat), h + n = pullsN' k t → n < F → whileS lpW lpS F [x0, .sh (nD t), x2, .sh (nD k), .sh (nD h), x5] m = .nx [x0, .sh (nD t), x2, .sh (nD k), .sh (nD (pullsN' k t)), x5] m
  | n, h, 0, _, hF => absurd hF (by omega)
  | 0, h, F + 1, e, _ => by
    obtain ⟨a, b, c⟩ := pulls_spec k t h1 hk ht ht4
    have e : h = pullsN' k t := by omega
    subst e
    refine while_stop ?_
    rw [lpW_ok k t _ m x0 x2 x5 ht ht4 a, decide_eq_false (by omega)]
  | n + 1, h, F + 1, e, hF => by
    obtain ⟨a, b, c⟩ := pulls_spec k t h1 hk ht ht4
    have ih := lp_loop k t m x0 x2 x5 h1 hk ht ht4 n (h + 1) F (by omega) (by omega)
    have q := lpW_ok k t h m x0 x2 x5 ht ht4 (by omega)
    rw [decide_eq_true (c h (by omega))] at q
    refine (while_step q (ρ'' := [x0, .sh (nD t), x2, .sh (nD k), .sh (nD (h + 1)), x5]) (m'' := m) ?_).trans ih
    simp only [bind_ok, bind_bad, bindS_ok, dV_ev, dL_ev, slotAt_0, slotAt_s, dC_ev, dN2V_ev, dBin_ev, dBinN_ev, dT_ev, asBool_bl, dAndT_ev, dOrT_ev, dNotT_ev, dAnd_ev, dOr_ev, dNot_ev, dIf_ev, dChain_ev, dUn_ev, dNoPart_ev, dPart_ev, dSl_ev, dNil_ev, dCons_ev, dTup_ev, dLst_ev, oneArg_ev, twoArg_ev, dCB_ev, dCall_ev, dIt_ev, dRng_ev, dYes_ev, dItV_ev, dItN_ev, thenS_ev, skipS_ev, retS_ev, exprS_ev, ifS_ev, setS_ev, setN_ev, augS_ev, isetS_ev, freezeS_ev, appS_ev, parS_ev, unS_ev, setAll_nil, setAll_cons, slot_v, slot_n, forS_ev, tgN_ev, contd_lst, pad_cons_ev, pad_nil_ev, addD_int, subD_int, ltD_int, leD_int, gtD_int, geD_int, negD_int, ipAddD_int, eqD_int, neD_int, lenD_lst, lenD_tup, intD_int, slN_lst, slT_tup, asList_lst, asTup_tup, catN_lst, addD_tup, bind_err, bindS_err, raiseS_ev, heldD_row, isRowD_row, dOwn1_ev, noErr_ok, dLenRow_ev, dEqRow_ev, dMkRow_ev, dUnN_ev, dTupE_ev, plainT_etp, plainT_tup, catE_etp, tupleE_lst, dMethE_ev, dCallFn_ev, dEnum_ev, dEnumT_ev, iaugS_ev, dTru_ev, truD_bl, truD_int, truD_lst, truD_tup, mkS_list, dMeth_ev, dMethN_ev, dMeth0_ev, dZip_ev, dNewDct_ev, asLdc_ldc, sealS_ev, asSeq_lst, asSeq_tup, List.set, List.replicate, List.length_cons, List.length_nil, Nat.zero_add, Nat.reduceAdd, Nat.reduceLeDiff, if_true, Bool.not_true, Bool.not_false, List.map_nil, List.map_cons, nD]
    rfl
theorem maxL_perm (l l' : List Int) (h : l.Perm l') (hn : l ≠ []) : maxL l = maxL l' := maxL_eq l _ (h.mem_iff.mpr (maxL_mem l' (fun e => hn (by rw [e] at h; exact List.perm_nil.mp h)))) fun y hy => maxL_le l' (h.mem_iff.mp hy)
theorem range_getD (F : List Int) : (List.range F.length).map (fun k => F.getD k 0) = F := by
  apply List.ext_getElem (by simp)
  intro i h1 h2
  rw [List.getElem_map, List.getElem_range, getD_get _ _ _ h2]
theorem law_pulls_ok (d : D) (gs : List Int) (t : Nat) (m : List Ob) (h0 : gs ≠ []) (hn : gs.length ≤ 9) (hs : SeqOk d gs) (hm : noLM m = true) (htb : m[0]? = some (.tab "_law_levels" "_law_levels.<locals>.<lambda>")) (ht : 1 ≤ t) (ht4 : t ≤ 4) : den_law_pulls [d, nD t] m = .ok (nD (lpF gs t), m) := by
  have q1 := law_levels_ok d gs m (by omega) hs hm htb
  obtain ⟨l1, l2⟩ := levF_top gs h0
  have l3 := clsF_len gs
  have hlev := levF_ok gs
  have hmap : ((ordN gs).map fun k => (levF gs).getD k 0).Perm (levF gs) := by
    have h := (ordN_perm gs).map fun k => (levF gs).getD k 0
    rw [← hlev.1, range_getD] at h
    exact h
  have hne : (ordN gs).map (fun k => (levF gs).getD k 0) ≠ [] := fun e => h0 (List.length_eq_zero_iff.mp (by rw [← hlev.1, ← hmap.length_eq, e]; rfl))
  have q2 := maxLD_int _ hne
  rw [maxL_perm _ _ hmap hne] at q2
  have q3 : (1 : Int) + maxL (levF gs) = (((maxL (levF gs)).toNat + 1 : Nat) : Int) := by omega
  have cp : dComp (dIt asLdc (dV 2)) [5] (tgN 5) dYes (dBin dgetK (dL 2) (dL 5)) [.sh d, .sh (nD t), .sh (ldcF gs), .non, .non, .non] m = .ok (.lst (((ordN gs).map fun k => (levF gs).getD k 0).map D.int), m) := by
    rw [List.map_map]
    refine dComp_all nD (ordN gs) (fun k => lvV gs k) (by simp only [bind_ok, bind_bad, bindS_ok, dV_ev, dL_ev, slotAt_0, slotAt_s, dC_ev, dN2V_ev, dBin_ev, dBinN_ev, dT_ev, asBool_bl, dAndT_ev, dOrT_ev, dNotT_ev, dAnd_ev, dOr_ev, dNot_ev, dIf_ev, dChain_ev, dUn_ev, dNoPart_ev, dPart_ev, dSl_ev, dNil_ev, dCons_ev, dTup_ev, dLst_ev, oneArg_ev, twoArg_ev, dCB_ev, dCall_ev, dIt_ev, dRng_ev, dYes_ev, dItV_ev, dItN_ev, thenS_ev, skipS_ev, retS_ev, exprS_ev, ifS_ev, setS_ev, setN_ev, augS_ev, isetS_ev, freezeS_ev, appS_ev, parS_ev, unS_ev, setAll_nil, setAll_cons, slot_v, slot_n, forS_ev, tgN_ev, contd_lst, pad_cons_ev, pad_nil_ev, addD_int, subD_int, ltD_int, leD_int, gtD_int, geD_int, negD_int, ipAddD_int, eqD_int, neD_int, lenD_lst, lenD_tup, intD_int, slN_lst, slT_tup, asList_lst, asTup_tup, catN_lst, addD_tup, bind_err, bindS_err, raiseS_ev, heldD_row, isRowD_row, dOwn1_ev, noErr_ok, dLenRow_ev, dEqRow_ev, dMkRow_ev, dUnN_ev, dTupE_ev, plainT_etp, plainT_tup, catE_etp, tupleE_lst, dMethE_ev, dCallFn_ev, dEnum_ev, dEnumT_ev, iaugS_ev, dTru_ev, truD_bl, truD_int, truD_lst, truD_tup, mkS_list, dMeth_ev, dMethN_ev, dMeth0_ev, dZip_ev, dNewDct_ev, asLdc_ldc, sealS_ev, asSeq_lst, asSeq_tup, List.set, List.replicate, List.length_cons, List.length_nil, Nat.zero_add, Nat.reduceAdd, Nat.reduceLeDiff, if_true, Bool.not_true, Bool.not_false, List.map_nil, List.map_cons]) rfl (by rw [ordN_len]; omega) fun k hk => ⟨_, rfl, ?_⟩
    have q := dgetK_ldc (lvV gs) k (ordN gs) hk
    simp only [bind_ok, bind_bad, bindS_ok, dV_ev, dL_ev, slotAt_0, slotAt_s, dC_ev, dN2V_ev, dBin_ev, dBinN_ev, dT_ev, asBool_bl, dAndT_ev, dOrT_ev, dNotT_ev, dAnd_ev, dOr_ev, dNot_ev, dIf_ev, dChain_ev, dUn_ev, dNoPart_ev, dPart_ev, dSl_ev, dNil_ev, dCons_ev, dTup_ev, dLst_ev, oneArg_ev, twoArg_ev, dCB_ev, dCall_ev, dIt_ev, dRng_ev, dYes_ev, dItV_ev, dItN_ev, thenS_ev, skipS_ev, retS_ev, exprS_ev, ifS_ev, setS_ev, setN_ev, augS_ev, isetS_ev, freezeS_ev, appS_ev, parS_ev, unS_ev, setAll_nil, setAll_cons, slot_v, slot_n, forS_ev, tgN_ev, contd_lst, pad_cons_ev, pad_nil_ev, addD_int, subD_int, ltD_int, leD_int, gtD_int, geD_int, negD_int, ipAddD_int, eqD_int, neD_int, lenD_lst, lenD_tup, intD_int, slN_lst, slT_tup, asList_lst, asTup_tup, catN_lst, addD_tup, bind_err, bindS_err, raiseS_ev, heldD_row, isRowD_row, dOwn1_ev, noErr_ok, dLenRow_ev, dEqRow_ev, dMkRow_ev, dUnN_ev, dTupE_ev, plainT_etp, plainT_tup, catE_etp, tupleE_lst, dMethE_ev, dCallFn_ev, dEnum_ev, dEnumT_ev, iaugS_ev, dTru_ev, truD_bl, truD_int, truD_lst, truD_tup, mkS_list, dMeth_ev, dMethN_ev, dMeth0_ev, dZip_ev, dNewDct_ev, asLdc_ldc, sealS_ev, asSeq_lst, asSeq_tup, List.set, List.replicate, List.length_cons, List.length_nil, Nat.zero_add, Nat.reduceAdd, Nat.reduceLeDiff, if_true, Bool.not_true, Bool.not_false, List.map_nil, List.map_cons, wipeS, q]
  refine fnD_rt rfl ?_
  refine (thenS_nx (ρ' := [.sh d, .sh (nD t), .sh (ldcF gs), .non, .non, .non]) (m' := m) (by
    simp only [bind_ok, bind_bad, bindS_ok, dV_ev, dL_ev, slotAt_0, slotAt_s, dC_ev, dN2V_ev, dBin_ev, dBinN_ev, dT_ev, asBool_bl, dAndT_ev, dOrT_ev, dNotT_ev, dAnd_ev, dOr_ev, dNot_ev, dIf_ev, dChain_ev, dUn_ev, dNoPart_ev, dPart_ev, dSl_ev, dNil_ev, dCons_ev, dTup_ev, dLst_ev, oneArg_ev, twoArg_ev, dCB_ev, dCall_ev, dIt_ev, dRng_ev, dYes_ev, dItV_ev, dItN_ev, thenS_ev, skipS_ev, retS_ev, exprS_ev, ifS_ev, setS_ev, setN_ev, augS_ev, isetS_ev, freezeS_ev, appS_ev, parS_ev, unS_ev, setAll_nil, setAll_cons, slot_v, slot_n, forS_ev, tgN_ev, contd_lst, pad_cons_ev, pad_nil_ev, addD_int, subD_int, ltD_int, leD_int, gtD_int, geD_int, negD_int, ipAddD_int, eqD_int, neD_int, lenD_lst, lenD_tup, intD_int, slN_lst, slT_tup, asList_lst, asTup_tup, catN_lst, addD_tup, bind_err, bindS_err, raiseS_ev, heldD_row, isRowD_row, dOwn1_ev, noErr_ok, dLenRow_ev, dEqRow_ev, dMkRow_ev, dUnN_ev, dTupE_ev, plainT_etp, plainT_tup, catE_etp, tupleE_lst, dMethE_ev, dCallFn_ev, dEnum_ev, dEnumT_ev, iaugS_ev, dTru_ev, truD_bl, truD_int, truD_lst, truD_tup, mkS_list, dMeth_ev, dMethN_ev, dMeth0_ev, dZip_ev, dNewDct_ev, asLdc_ldc, sealS_ev, asSeq_lst, asSeq_tup, List.set, List.replicate, List.length_cons, List.length_nil, Nat.zero_add, Nat.reduceAdd, Nat.reduceLeDiff, if_true, Bool.not_true, Bool.not_false, List.map_nil, List.map_cons, q1])).trans ?_
  refine (thenS_nx (ρ' := [.sh d, .sh (nD t), .sh (ldcF gs), .sh (nD ((maxL (levF gs)).toNat + 1)), .sh (nD 0), .non]) (m' := m) (by
    simp only [parS_ev, dCons_ev, dItV_ev, dBin_ev, dC_ev, dCB_ev, dN2V_ev, cp, bind_ok, contd_lst, dNil_ev, oneArg_ev, q2, addD_int, q3, bindS_ok, setAll_cons, setAll_nil, slot_v, List.set]
    rfl)).trans ?_
  refine (thenS_nx (m' := m) (lp_loop ((maxL (levF gs)).toNat + 1) t m (.sh d) (.sh (ldcF gs)) .non (by omega) (by omega) ht ht4 (pullsN' ((maxL (levF gs)).toNat + 1) t) 0 100000 (by omega) (by
    have := (pulls_spec ((maxL (levF gs)).toNat + 1) t (by omega) (by omega) ht ht4).1
    omega))).trans ?_
  simp only [bind_ok, bind_bad, bindS_ok, dV_ev, dL_ev, slotAt_0, slotAt_s, dC_ev, dN2V_ev, dBin_ev, dBinN_ev, dT_ev, asBool_bl, dAndT_ev, dOrT_ev, dNotT_ev, dAnd_ev, dOr_ev, dNot_ev, dIf_ev, dChain_ev, dUn_ev, dNoPart_ev, dPart_ev, dSl_ev, dNil_ev, dCons_ev, dTup_ev, dLst_ev, oneArg_ev, twoArg_ev, dCB_ev, dCall_ev, dIt_ev, dRng_ev, dYes_ev, dItV_ev, dItN_ev, thenS_ev, skipS_ev, retS_ev, exprS_ev, ifS_ev, setS_ev, setN_ev, augS_ev, isetS_ev, freezeS_ev, appS_ev, parS_ev, unS_ev, setAll_nil, setAll_cons, slot_v, slot_n, forS_ev, tgN_ev, contd_lst, pad_cons_ev, pad_nil_ev, addD_int, subD_int, ltD_int, leD_int, gtD_int, geD_int, negD_int, ipAddD_int, eqD_int, neD_int, lenD_lst, lenD_tup, intD_int, slN_lst, slT_tup, asList_lst, asTup_tup, catN_lst, addD_tup, bind_err, bindS_err, raiseS_ev, heldD_row, isRowD_row, dOwn1_ev, noErr_ok, dLenRow_ev, dEqRow_ev, dMkRow_ev, dUnN_ev, dTupE_ev, plainT_etp, plainT_tup, catE_etp, tupleE_lst, dMethE_ev, dCallFn_ev, dEnum_ev, dEnumT_ev, iaugS_ev, dTru_ev, truD_bl, truD_int, truD_lst, truD_tup, mkS_list, dMeth_ev, dMethN_ev, dMeth0_ev, dZip_ev, dNewDct_ev, asLdc_ldc, sealS_ev, asSeq_lst, asSeq_tup, List.set, List.replicate, List.length_cons, List.length_nil, Nat.zero_add, Nat.reduceAdd, Nat.reduceLeDiff, if_true, Bool.not_true, Bool.not_false, List.map_nil, List.map_cons]
  rfl
def In11 (gs : List Int) : Prop := ∀ g ∈ gs, 0 ≤ g ∧ g ≤ 11
theorem log_small {n : Nat} (h : n < 9000) : n.log2 < 9000 := Nat.lt_of_le_of_lt (Nat.log2_le_self n) h
abbrev spotE : Den D := (dIf (dOrT (dT (dBin eqD (dL 3) (dC (.int 1)))) (dT (dBin eqD (dCall den_law_next (dCons (dV 0) (dCons (dC (.int 3)) dNil))) (dC (.int 0))))) (dCall den_law_next (dCons (dV 0) (dCons (dCB (oneArg lenD) (dCons (dL 4) dNil)) dNil))) (dBin subD (dCB (oneArg lenD) (dCons (dL 4) dNil)) (dC (.int 1))))
abbrev lgB : SDen := (thenS (setS 7 spotE)
    (thenS (appS 5 (dCons (dBin ixD (dL 4) (dL 7)) dNil))
    (setS 4 (dN2V (dBinN catN (dN2V (dSl slN (dL 4) dNoPart (dPart (dL 7)))) (dN2V (dSl slN (dL 4) (dPart (dBin addD (dL 7) (dC (.int 1)))) dNoPart)))))))
theorem spot_ok {m : List Ob} (hm : DrawnK m) (k : Nat) (left : List Int) (h0 : 0 < left.length) (h1 : left.length < 1000) (x1 x2 x5 x6 x7 : Slot) : ∃ (p : Nat) (m' : List Ob), spotE [.sh (.obj 1), x1, x2, .sh (nD k), .sh (lD D.int left), x5, x6, x7] m = .ok (nD p, m') ∧ p < left.length ∧ DrawnK m' := by
  have hlen : (((left.map D.int).length : Nat) : Int) = (left.length : Int) := by rw [List.length_map]
  by_cases hk : k = 1
  · subst hk
    obtain ⟨p, m1, e, hp, h⟩ := next_natT (b := left.length) hm h0 (log_small (by omega))
    have e : den_law_next [.obj 1, .int (left.length : Int)] m = .ok (nD p, m1) := e
    refine ⟨p, m1, ?_, hp, h⟩
    have q : decide (((1 : Nat) : Int) = 1) = true := rfl
    simp only [bind_ok, bind_bad, bindS_ok, dV_ev, dL_ev, slotAt_0, slotAt_s, dC_ev, dN2V_ev, dBin_ev, dBinN_ev, dT_ev, asBool_bl, dAndT_ev, dOrT_ev, dNotT_ev, dAnd_ev, dOr_ev, dNot_ev, dIf_ev, dChain_ev, dUn_ev, dNoPart_ev, dPart_ev, dSl_ev, dNil_ev, dCons_ev, dTup_ev, dLst_ev, oneArg_ev, twoArg_ev, dCB_ev, dCall_ev, dIt_ev, dRng_ev, dYes_ev, dItV_ev, dItN_ev, thenS_ev, skipS_ev, retS_ev, exprS_ev, ifS_ev, setS_ev, setN_ev, augS_ev, isetS_ev, freezeS_ev, appS_ev, parS_ev, unS_ev, setAll_nil, setAll_cons, slot_v, slot_n, forS_ev, tgN_ev, contd_lst, pad_cons_ev, pad_nil_ev, addD_int, subD_int, ltD_int, leD_int, gtD_int, geD_int, negD_int, ipAddD_int, eqD_int, neD_int, lenD_lst, lenD_tup, intD_int, slN_lst, slT_tup, asList_lst, asTup_tup, catN_lst, addD_tup, bind_err, bindS_err, raiseS_ev, heldD_row, isRowD_row, dOwn1_ev, noErr_ok, dLenRow_ev, dEqRow_ev, dMkRow_ev, dUnN_ev, dTupE_ev, plainT_etp, plainT_tup, catE_etp, tupleE_lst, dMethE_ev, dCallFn_ev, dEnum_ev, dEnumT_ev, iaugS_ev, dTru_ev, truD_bl, truD_int, truD_lst, truD_tup, mkS_list, dMeth_ev, dMethN_ev, dMeth0_ev, dZip_ev, dNewDct_ev, asLdc_ldc, sealS_ev, asSeq_lst, asSeq_tup, List.set, List.replicate, List.length_cons, List.length_nil, Nat.zero_add, Nat.reduceAdd, Nat.reduceLeDiff, if_true, Bool.not_true, Bool.not_false, List.map_nil, List.map_cons, nD, q, lD, hlen, e]
  · have q : decide ((k : Int) = 1) = false := by rw [decide_eq_false_iff_not]; omega
    obtain ⟨r, m1, e1, _, h1⟩ := next_natT (b := 3) hm (by decide) (by decide +kernel)
    have e1 : den_law_next [.obj 1, .int 3] m = .ok (nD r, m1) := e1
    by_cases hr : r = 0
    · obtain ⟨p, m2, e, hp, h⟩ := next_natT (b := left.length) h1 h0 (log_small (by omega))
      have e : den_law_next [.obj 1, .int (left.length : Int)] m1 = .ok (nD p, m2) := e
      refine ⟨p, m2, ?_, hp, h⟩
      have q2 : decide ((r : Int) = 0) = true := by rw [decide_eq_true_eq]; omega
      simp only [bind_ok, bind_bad, bindS_ok, dV_ev, dL_ev, slotAt_0, slotAt_s, dC_ev, dN2V_ev, dBin_ev, dBinN_ev, dT_ev, asBool_bl, dAndT_ev, dOrT_ev, dNotT_ev, dAnd_ev, dOr_ev, dNot_ev, dIf_ev, dChain_ev, dUn_ev, dNoPart_ev, dPart_ev, dSl_ev, dNil_ev, dCons_ev, dTup_ev, dLst_ev, oneArg_ev, twoArg_ev, dCB_ev, dCall_ev, dIt_ev, dRng_ev, dYes_ev, dItV_ev, dItN_ev, thenS_ev, skipS_ev, retS_ev, exprS_ev, ifS_ev, setS_ev, setN_ev, augS_ev, isetS_ev, freezeS_ev, appS_ev, parS_ev, unS_ev, setAll_nil, setAll_cons, slot_v, slot_n, forS_ev, tgN_ev, contd_lst, pad_cons_ev, pad_nil_ev, addD_int, subD_int, ltD_int, leD_int, gtD_int, geD_int, negD_int, ipAddD_int, eqD_int, neD_int, lenD_lst, lenD_tup, intD_int, slN_lst, slT_tup, asList_lst, asTup_tup, catN_lst, addD_tup, bind_err, bindS_err, raiseS_ev, heldD_row, isRowD_row, dOwn1_ev, noErr_ok, dLenRow_ev, dEqRow_ev, dMkRow_ev, dUnN_ev, dTupE_ev, plainT_etp, plainT_tup, catE_etp, tupleE_lst, dMethE_ev, dCallFn_ev, dEnum_ev, dEnumT_ev, iaugS_ev, dTru_ev, truD_bl, truD_int, truD_lst, truD_tup, mkS_list, dMeth_ev, dMethN_ev, dMeth0_ev, dZip_ev, dNewDct_ev, asLdc_ldc, sealS_ev, asSeq_lst, asSeq_tup, List.set, List.replicate, List.length_cons, List.length_nil, Nat.zero_add, Nat.reduceAdd, Nat.reduceLeDiff, if_true, Bool.not_true, Bool.not_false, List.map_nil, List.map_cons, nD, q, lD, hlen, e1, q2, e]
    · refine ⟨left.length - 1, m1, ?_, by omega, h1⟩
      have q2 : decide ((r : Int) = 0) = false := by rw [decide_eq_false_iff_not]; omega
      have q3 : (left.length : Int) - 1 = ((left.length - 1 : Nat) : Int) := by omega
      simp only [bind_ok, bind_bad, bindS_ok, dV_ev, dL_ev, slotAt_0, slotAt_s, dC_ev, dN2V_ev, dBin_ev, dBinN_ev, dT_ev, asBool_bl, dAndT_ev, dOrT_ev, dNotT_ev, dAnd_ev, dOr_ev, dNot_ev, dIf_ev, dChain_ev, dUn_ev, dNoPart_ev, dPart_ev, dSl_ev, dNil_ev, dCons_ev, dTup_ev, dLst_ev, oneArg_ev, twoArg_ev, dCB_ev, dCall_ev, dIt_ev, dRng_ev, dYes_ev, dItV_ev, dItN_ev, thenS_ev, skipS_ev, retS_ev, exprS_ev, ifS_ev, setS_ev, setN_ev, augS_ev, isetS_ev, freezeS_ev, appS_ev, parS_ev, unS_ev, setAll_nil, setAll_cons, slot_v, slot_n, forS_ev, tgN_ev, contd_lst, pad_cons_ev, pad_nil_ev, addD_int, subD_int, ltD_int, leD_int, gtD_int, geD_int, negD_int, ipAddD_int, eqD_int, neD_int, lenD_lst, lenD_tup, intD_int, slN_lst, slT_tup, asList_lst, asTup_tup, catN_lst, addD_tup, bind_err, bindS_err, raiseS_ev, heldD_row, isRowD_row, dOwn1_ev, noErr_ok, dLenRow_ev, dEqRow_ev, dMkRow_ev, dUnN_ev, dTupE_ev, plainT_etp, plainT_tup, catE_etp, tupleE_lst, dMethE_ev, dCallFn_ev, dEnum_ev, dEnumT_ev, iaugS_ev, dTru_ev, truD_bl, truD_int, truD_lst, truD_tup, mkS_list, dMeth_ev, dMethN_ev, dMeth0_ev, dZip_ev, dNewDct_ev, asLdc_ldc, sealS_ev, asSeq_lst, asSeq_tup, List.set, List.replicate, List.length_cons, List.length_nil, Nat.zero_add, Nat.reduceAdd, Nat.reduceLeDiff, if_true, Bool.not_true, Bool.not_false, List.map_nil, List.map_cons, nD, q, lD, hlen, e1, q2, q3]
theorem lg_loop (x1 x2 : Slot) (k : Nat) : ∀ (ds : List D) (left found : List Int) (x6 x7 : Slot) (m : List Ob), DrawnK m → left.length = ds.length → In11 left → found.length + ds.length < 1000 → ∃ (more : List Int) (m' : List Ob) (y4 y6 y7 : Slot), DrawnK m' ∧ more.length = ds.length ∧ In11 more ∧
    loopS (tgN 6) lgB ds [.sh (.obj 1), x1, x2, .sh (nD k), .sh (lD D.int left), .own (.lst (found.map .int)), x6, x7] m = .nx [.sh (.obj 1), x1, x2, .sh (nD k), y4, .own (.lst ((found ++ more).map .int)), y6, y7] m'
  | [], left, found, x6, x7, m, hm, hl, h11, hf => ⟨[], m, _, x6, x7, hm, rfl, (fun _ h => nomatch h), by rw [List.append_nil]; rfl⟩
  | d :: ds, left, found, x6, x7, m, hm, hl, h11, hf => by
    have hl' : left.length = ds.length + 1 := hl
    have hf' : found.length + (ds.length + 1) < 1000 := hf
    obtain ⟨p, m1, e1, hp, h1⟩ := spot_ok hm k left (by omega) (by omega) x1 x2 (.own (.lst (found.map .int))) (.sh d) x7
    have hx : left.getD p 0 ∈ left := by rw [getD_get _ _ _ hp]; exact List.getElem_mem _
    obtain ⟨more, m2, y4, y6, y7, h2, hlen, hi, e2⟩ := lg_loop x1 x2 k ds (left.take p ++ left.drop (p + 1)) (found ++ [left.getD p 0]) (.sh d) (.sh (nD p)) m1 h1 (by rw [List.length_append, List.length_take, List.length_drop]; omega)
      (fun g hg => by
        rcases List.mem_append.mp hg with hg | hg
        · exact h11 g (List.mem_of_mem_take hg)
        · exact h11 g (List.mem_of_mem_drop hg)) (by rw [List.length_append, List.length_singleton]; omega)
    refine ⟨left.getD p 0 :: more, m2, y4, y6, y7, h2, by rw [List.length_cons, List.length_cons, hlen], fun g hg => ?_, ?_⟩
    · rcases List.mem_cons.mp hg with rfl | hg
      · exact h11 _ hx
      · exact hi g hg
    · have q1 := ixD_getD D.int left p 0 hp
      have q2 : (found.map D.int).length < 16777216 := by rw [List.length_map]; omega
      have q3 : cut (left.map D.int) none (some (p : Int)) = (left.take p).map D.int := by rw [cut_hi, List.map_take]
      have q4 : cut (left.map D.int) (some ((p : Int) + 1)) none = (left.drop (p + 1)).map D.int := by
        rw [show (p : Int) + 1 = ((p + 1 : Nat) : Int) by omega, cut_lo _ _ (by rw [List.length_map]; omega), List.map_drop]
      have q5 : ((left.take p).map D.int).length + ((left.drop (p + 1)).map D.int).length ≤ 16777216 := by rw [List.length_map, List.length_map, List.length_take, List.length_drop]; omega
      rw [loop_nx (ρ1 := [.sh (.obj 1), x1, x2, .sh (nD k), .sh (lD D.int left), .own (.lst (found.map .int)), .sh d, x7]) (ρ'' := [.sh (.obj 1), x1, x2, .sh (nD k), .sh (lD D.int (left.take p ++ left.drop (p + 1))), .own (.lst ((found ++ [left.getD p 0]).map .int)), .sh d, .sh (nD p)]) (m'' := m1) rfl (by
        refine (thenS_nx (ρ' := [.sh (.obj 1), x1, x2, .sh (nD k), .sh (lD D.int left), .own (.lst (found.map .int)), .sh d, .sh (nD p)]) (m' := m1) (by
          rw [setS_ev, e1]
          rfl)).trans ?_
        simp only [bind_ok, bind_bad, bindS_ok, dV_ev, dL_ev, slotAt_0, slotAt_s, dC_ev, dN2V_ev, dBin_ev, dBinN_ev, dT_ev, asBool_bl, dAndT_ev, dOrT_ev, dNotT_ev, dAnd_ev, dOr_ev, dNot_ev, dIf_ev, dChain_ev, dUn_ev, dNoPart_ev, dPart_ev, dSl_ev, dNil_ev, dCons_ev, dTup_ev, dLst_ev, oneArg_ev, twoArg_ev, dCB_ev, dCall_ev, dIt_ev, dRng_ev, dYes_ev, dItV_ev, dItN_ev, thenS_ev, skipS_ev, retS_ev, exprS_ev, ifS_ev, setS_ev, setN_ev, augS_ev, isetS_ev, freezeS_ev, appS_ev, parS_ev, unS_ev, setAll_nil, setAll_cons, slot_v, slot_n, forS_ev, tgN_ev, contd_lst, pad_cons_ev, pad_nil_ev, addD_int, subD_int, ltD_int, leD_int, gtD_int, geD_int, negD_int, ipAddD_int, eqD_int, neD_int, lenD_lst, lenD_tup, intD_int, slN_lst, slT_tup, asList_lst, asTup_tup, catN_lst, addD_tup, bind_err, bindS_err, raiseS_ev, heldD_row, isRowD_row, dOwn1_ev, noErr_ok, dLenRow_ev, dEqRow_ev, dMkRow_ev, dUnN_ev, dTupE_ev, plainT_etp, plainT_tup, catE_etp, tupleE_lst, dMethE_ev, dCallFn_ev, dEnum_ev, dEnumT_ev, iaugS_ev, dTru_ev, truD_bl, truD_int, truD_lst, truD_tup, mkS_list, dMeth_ev, dMethN_ev, dMeth0_ev, dZip_ev, dNewDct_ev, asLdc_ldc, sealS_ev, asSeq_lst, asSeq_tup, List.set, List.replicate, List.length_cons, List.length_nil, Nat.zero_add, Nat.reduceAdd, Nat.reduceLeDiff, if_true, Bool.not_true, Bool.not_false, List.map_nil, List.map_cons, nD, lD, q1, q2, q3, q4, q5, List.map_append]), e2, List.append_assoc]
      rfl
theorem groups_ok {m : List Ob} (hm : DrawnK m) (most : Nat) (h0 : 1 ≤ most) (h9 : most ≤ 12) : ∃ (gs : List Int) (m' : List Ob), den_law_groups [.obj 1, nD most] m = .ok (iT gs, m') ∧ 1 ≤ gs.length ∧ gs.length ≤ most ∧ In11 gs ∧ DrawnK m' := by
  obtain ⟨r, m1, e1, hr, h1⟩ := next_natT (b := most) hm (by omega) (log_small (by omega))
  have e1 : den_law_next [.obj 1, .int (most : Int)] m = .ok (nD r, m1) := e1
  obtain ⟨k, m2, e2, hk, h2⟩ := next_natT (b := 3) h1 (by decide) (by decide +kernel)
  have e2 : den_law_next [.obj 1, .int 3] m1 = .ok (nD k, m2) := e2
  have q0 : (1 : Int) + (r : Int) = ((r + 1 : Nat) : Int) := by omega
  have q1 := rng1_nat (n := r + 1) (by omega)
  have s1 : ∀ q : SDen, thenS (setS 2 (dBin addD (dC (.int 1)) (dCall den_law_next (dCons (dV 0) (dCons (dV 1) dNil))))) (thenS (setS 3 (dCall den_law_next (dCons (dV 0) (dCons (dC (.int 3)) dNil)))) q) [.sh (.obj 1), .sh (nD most), .non, .non, .non, .non, .non, .non] m = q [.sh (.obj 1), .sh (nD most), .sh (nD (r + 1)), .sh (nD k), .non, .non, .non, .non] m2 := fun q => by
    refine (thenS_nx (ρ' := [.sh (.obj 1), .sh (nD most), .sh (nD (r + 1)), .non, .non, .non, .non, .non]) (m' := m1) (by simp only [bind_ok, bind_bad, bindS_ok, dV_ev, dL_ev, slotAt_0, slotAt_s, dC_ev, dN2V_ev, dBin_ev, dBinN_ev, dT_ev, asBool_bl, dAndT_ev, dOrT_ev, dNotT_ev, dAnd_ev, dOr_ev, dNot_ev, dIf_ev, dChain_ev, dUn_ev, dNoPart_ev, dPart_ev, dSl_ev, dNil_ev, dCons_ev, dTup_ev, dLst_ev, oneArg_ev, twoArg_ev, dCB_ev, dCall_ev, dIt_ev, dRng_ev, dYes_ev, dItV_ev, dItN_ev, thenS_ev, skipS_ev, retS_ev, exprS_ev, ifS_ev, setS_ev, setN_ev, augS_ev, isetS_ev, freezeS_ev, appS_ev, parS_ev, unS_ev, setAll_nil, setAll_cons, slot_v, slot_n, forS_ev, tgN_ev, contd_lst, pad_cons_ev, pad_nil_ev, addD_int, subD_int, ltD_int, leD_int, gtD_int, geD_int, negD_int, ipAddD_int, eqD_int, neD_int, lenD_lst, lenD_tup, intD_int, slN_lst, slT_tup, asList_lst, asTup_tup, catN_lst, addD_tup, bind_err, bindS_err, raiseS_ev, heldD_row, isRowD_row, dOwn1_ev, noErr_ok, dLenRow_ev, dEqRow_ev, dMkRow_ev, dUnN_ev, dTupE_ev, plainT_etp, plainT_tup, catE_etp, tupleE_lst, dMethE_ev, dCallFn_ev, dEnum_ev, dEnumT_ev, iaugS_ev, dTru_ev, truD_bl, truD_int, truD_lst, truD_tup, mkS_list, dMeth_ev, dMethN_ev, dMeth0_ev, dZip_ev, dNewDct_ev, asLdc_ldc, sealS_ev, asSeq_lst, asSeq_tup, List.set, List.replicate, List.length_cons, List.length_nil, Nat.zero_add, Nat.reduceAdd, Nat.reduceLeDiff, if_true, Bool.not_true, Bool.not_false, List.map_nil, List.map_cons, nD, e1, q0])).trans ?_
    exact thenS_nx (by simp only [bind_ok, bind_bad, bindS_ok, dV_ev, dL_ev, slotAt_0, slotAt_s, dC_ev, dN2V_ev, dBin_ev, dBinN_ev, dT_ev, asBool_bl, dAndT_ev, dOrT_ev, dNotT_ev, dAnd_ev, dOr_ev, dNot_ev, dIf_ev, dChain_ev, dUn_ev, dNoPart_ev, dPart_ev, dSl_ev, dNil_ev, dCons_ev, dTup_ev, dLst_ev, oneArg_ev, twoArg_ev, dCB_ev, dCall_ev, dIt_ev, dRng_ev, dYes_ev, dItV_ev, dItN_ev, thenS_ev, skipS_ev, retS_ev, exprS_ev, ifS_ev, setS_ev, setN_ev, augS_ev, isetS_ev, freezeS_ev, appS_ev, parS_ev, unS_ev, setAll_nil, setAll_cons, slot_v, slot_n, forS_ev, tgN_ev, contd_lst, pad_cons_ev, pad_nil_ev, addD_int, subD_int, ltD_int, leD_int, gtD_int, geD_int, negD_int, ipAddD_int, eqD_int, neD_int, lenD_lst, lenD_tup, intD_int, slN_lst, slT_tup, asList_lst, asTup_tup, catN_lst, addD_tup, bind_err, bindS_err, raiseS_ev, heldD_row, isRowD_row, dOwn1_ev, noErr_ok, dLenRow_ev, dEqRow_ev, dMkRow_ev, dUnN_ev, dTupE_ev, plainT_etp, plainT_tup, catE_etp, tupleE_lst, dMethE_ev, dCallFn_ev, dEnum_ev, dEnumT_ev, iaugS_ev, dTru_ev, truD_bl, truD_int, truD_lst, truD_tup, mkS_list, dMeth_ev, dMethN_ev, dMeth0_ev, dZip_ev, dNewDct_ev, asLdc_ldc, sealS_ev, asSeq_lst, asSeq_tup, List.set, List.replicate, List.length_cons, List.length_nil, Nat.zero_add, Nat.reduceAdd, Nat.reduceLeDiff, if_true, Bool.not_true, Bool.not_false, List.map_nil, List.map_cons, nD, e2])
  by_cases hk0 : k = 0
  · subst hk0
    obtain ⟨gs, m3, e3, hl, h3, hi⟩ := dComp_drawn (ρ := [.sh (.obj 1), .sh (nD most), .sh (nD (r + 1)), .sh (nD 0), .non, .non, .non, .non]) (m := m2) (m' := m2) D.int DrawnK (fun g => 0 ≤ g ∧ g ≤ 11)
      (di := dRng rng1 (dCons (dL 2) dNil)) (vs := [6]) (tg := tgN 6) (elt := dCall den_law_next (dCons (dV 0) (dCons (dBin addD (dC (.int 1)) (dCall den_law_next (dCons (dV 0) (dCons (dC (.int 12)) dNil)))) dNil))) (ds := (List.range (r + 1)).map nD)
      (by simp only [bind_ok, bind_bad, bindS_ok, dV_ev, dL_ev, slotAt_0, slotAt_s, dC_ev, dN2V_ev, dBin_ev, dBinN_ev, dT_ev, asBool_bl, dAndT_ev, dOrT_ev, dNotT_ev, dAnd_ev, dOr_ev, dNot_ev, dIf_ev, dChain_ev, dUn_ev, dNoPart_ev, dPart_ev, dSl_ev, dNil_ev, dCons_ev, dTup_ev, dLst_ev, oneArg_ev, twoArg_ev, dCB_ev, dCall_ev, dIt_ev, dRng_ev, dYes_ev, dItV_ev, dItN_ev, thenS_ev, skipS_ev, retS_ev, exprS_ev, ifS_ev, setS_ev, setN_ev, augS_ev, isetS_ev, freezeS_ev, appS_ev, parS_ev, unS_ev, setAll_nil, setAll_cons, slot_v, slot_n, forS_ev, tgN_ev, contd_lst, pad_cons_ev, pad_nil_ev, addD_int, subD_int, ltD_int, leD_int, gtD_int, geD_int, negD_int, ipAddD_int, eqD_int, neD_int, lenD_lst, lenD_tup, intD_int, slN_lst, slT_tup, asList_lst, asTup_tup, catN_lst, addD_tup, bind_err, bindS_err, raiseS_ev, heldD_row, isRowD_row, dOwn1_ev, noErr_ok, dLenRow_ev, dEqRow_ev, dMkRow_ev, dUnN_ev, dTupE_ev, plainT_etp, plainT_tup, catE_etp, tupleE_lst, dMethE_ev, dCallFn_ev, dEnum_ev, dEnumT_ev, iaugS_ev, dTru_ev, truD_bl, truD_int, truD_lst, truD_tup, mkS_list, dMeth_ev, dMethN_ev, dMeth0_ev, dZip_ev, dNewDct_ev, asLdc_ldc, sealS_ev, asSeq_lst, asSeq_tup, List.set, List.replicate, List.length_cons, List.length_nil, Nat.zero_add, Nat.reduceAdd, Nat.reduceLeDiff, if_true, Bool.not_true, Bool.not_false, List.map_nil, List.map_cons, nD, q1]) rfl (by rw [List.length_map, List.length_range]; omega) h2 (fun d _ m hm => by
        obtain ⟨a, m3, e3, ha, h3⟩ := next_natT (b := 12) hm (by decide) (by decide +kernel)
        have e3 : den_law_next [.obj 1, .int 12] m = .ok (nD a, m3) := e3
        obtain ⟨b, m4, e4, hb, h4⟩ := next_natT (b := a + 1) h3 (by omega) (log_small (by omega))
        have e4 : den_law_next [.obj 1, .int ((a + 1 : Nat) : Int)] m3 = .ok (nD b, m4) := e4
        have q0 : (1 : Int) + (a : Int) = ((a + 1 : Nat) : Int) := by omega
        exact ⟨_, rfl, (b : Int), m4, by simp only [bind_ok, bind_bad, bindS_ok, dV_ev, dL_ev, slotAt_0, slotAt_s, dC_ev, dN2V_ev, dBin_ev, dBinN_ev, dT_ev, asBool_bl, dAndT_ev, dOrT_ev, dNotT_ev, dAnd_ev, dOr_ev, dNot_ev, dIf_ev, dChain_ev, dUn_ev, dNoPart_ev, dPart_ev, dSl_ev, dNil_ev, dCons_ev, dTup_ev, dLst_ev, oneArg_ev, twoArg_ev, dCB_ev, dCall_ev, dIt_ev, dRng_ev, dYes_ev, dItV_ev, dItN_ev, thenS_ev, skipS_ev, retS_ev, exprS_ev, ifS_ev, setS_ev, setN_ev, augS_ev, isetS_ev, freezeS_ev, appS_ev, parS_ev, unS_ev, setAll_nil, setAll_cons, slot_v, slot_n, forS_ev, tgN_ev, contd_lst, pad_cons_ev, pad_nil_ev, addD_int, subD_int, ltD_int, leD_int, gtD_int, geD_int, negD_int, ipAddD_int, eqD_int, neD_int, lenD_lst, lenD_tup, intD_int, slN_lst, slT_tup, asList_lst, asTup_tup, catN_lst, addD_tup, bind_err, bindS_err, raiseS_ev, heldD_row, isRowD_row, dOwn1_ev, noErr_ok, dLenRow_ev, dEqRow_ev, dMkRow_ev, dUnN_ev, dTupE_ev, plainT_etp, plainT_tup, catE_etp, tupleE_lst, dMethE_ev, dCallFn_ev, dEnum_ev, dEnumT_ev, iaugS_ev, dTru_ev, truD_bl, truD_int, truD_lst, truD_tup, mkS_list, dMeth_ev, dMethN_ev, dMeth0_ev, dZip_ev, dNewDct_ev, asLdc_ldc, sealS_ev, asSeq_lst, asSeq_tup, List.set, List.replicate, List.length_cons, List.length_nil, Nat.zero_add, Nat.reduceAdd, Nat.reduceLeDiff, if_true, Bool.not_true, Bool.not_false, List.map_nil, List.map_cons, wipeS, nD, e3, q0, e4], h4, by omega, by omega⟩)
    rw [List.length_map, List.length_range] at hl
    refine ⟨gs, m3, fnD_rt rfl ?_, by omega, by omega, hi, h3⟩
    refine (s1 _).trans ?_
    refine thenS_rt ?_
    have q2 : tupleD (.lst (gs.map .int)) = .ok (iT gs) := rfl
    have q3 : decide (((0 : Nat) : Int) = 0) = true := rfl
    simp only [ifS_ev, dT_ev, dBin_ev, dL_ev, slotAt_s, slotAt_0, bind_ok, dC_ev, eqD_int, q3, asBool_bl, bindS_ok, retS_ev, dCB_ev, dCons_ev, dN2V_ev, e3, dNil_ev, contd_lst, oneArg_ev, q2]
  · have q3 : decide ((k : Int) = 0) = false := by rw [decide_eq_false_iff_not]; omega
    obtain ⟨more, m3, y4, y6, y7, h3, hl, hi, e3⟩ := lg_loop (.sh (nD most)) (.sh (nD (r + 1))) k ((List.range (r + 1)).map nD) ((List.range (r + 1)).map fun (j : Nat) => (j : Int)) [] .non .non m2 h2 (by rw [List.length_map, List.length_map]) (fun g hg => by
      obtain ⟨j, hj, rfl⟩ := List.mem_map.mp hg
      have := List.mem_range.mp hj
      omega) (by rw [List.length_map, List.length_range, List.length_nil]; omega)
    rw [List.length_map, List.length_range] at hl
    rw [List.nil_append] at e3
    refine ⟨more, m3, fnD_rt rfl ?_, by omega, by omega, hi, h3⟩
    refine (s1 _).trans ?_
    have q4 : rgN (nD (r + 1)) = .ok (.lst (((List.range (r + 1)).map fun (j : Nat) => (j : Int)).map D.int)) := by
      rw [rgN_nat (by omega), List.map_map]
      rfl
    have q5 : tupleD (.lst (more.map .int)) = .ok (iT more) := rfl
    refine (thenS_nx (ρ' := [.sh (.obj 1), .sh (nD most), .sh (nD (r + 1)), .sh (nD k), .non, .non, .non, .non]) (m' := m2) (by simp only [bind_ok, bind_bad, bindS_ok, dV_ev, dL_ev, slotAt_0, slotAt_s, dC_ev, dN2V_ev, dBin_ev, dBinN_ev, dT_ev, asBool_bl, dAndT_ev, dOrT_ev, dNotT_ev, dAnd_ev, dOr_ev, dNot_ev, dIf_ev, dChain_ev, dUn_ev, dNoPart_ev, dPart_ev, dSl_ev, dNil_ev, dCons_ev, dTup_ev, dLst_ev, oneArg_ev, twoArg_ev, dCB_ev, dCall_ev, dIt_ev, dRng_ev, dYes_ev, dItV_ev, dItN_ev, thenS_ev, skipS_ev, retS_ev, exprS_ev, ifS_ev, setS_ev, setN_ev, augS_ev, isetS_ev, freezeS_ev, appS_ev, parS_ev, unS_ev, setAll_nil, setAll_cons, slot_v, slot_n, forS_ev, tgN_ev, contd_lst, pad_cons_ev, pad_nil_ev, addD_int, subD_int, ltD_int, leD_int, gtD_int, geD_int, negD_int, ipAddD_int, eqD_int, neD_int, lenD_lst, lenD_tup, intD_int, slN_lst, slT_tup, asList_lst, asTup_tup, catN_lst, addD_tup, bind_err, bindS_err, raiseS_ev, heldD_row, isRowD_row, dOwn1_ev, noErr_ok, dLenRow_ev, dEqRow_ev, dMkRow_ev, dUnN_ev, dTupE_ev, plainT_etp, plainT_tup, catE_etp, tupleE_lst, dMethE_ev, dCallFn_ev, dEnum_ev, dEnumT_ev, iaugS_ev, dTru_ev, truD_bl, truD_int, truD_lst, truD_tup, mkS_list, dMeth_ev, dMethN_ev, dMeth0_ev, dZip_ev, dNewDct_ev, asLdc_ldc, sealS_ev, asSeq_lst, asSeq_tup, List.set, List.replicate, List.length_cons, List.length_nil, Nat.zero_add, Nat.reduceAdd, Nat.reduceLeDiff, if_true, Bool.not_true, Bool.not_false, List.map_nil, List.map_cons, nD, q3])).trans ?_
    refine (thenS_nx (ρ' := [.sh (.obj 1), .sh (nD most), .sh (nD (r + 1)), .sh (nD k), .sh (lD D.int ((List.range (r + 1)).map fun (j : Nat) => (j : Int))), .own (.lst (([] : List Int).map .int)), .non, .non]) (m' := m2) (by
      simp only [bind_ok, bind_bad, bindS_ok, dV_ev, dL_ev, slotAt_0, slotAt_s, dC_ev, dN2V_ev, dBin_ev, dBinN_ev, dT_ev, asBool_bl, dAndT_ev, dOrT_ev, dNotT_ev, dAnd_ev, dOr_ev, dNot_ev, dIf_ev, dChain_ev, dUn_ev, dNoPart_ev, dPart_ev, dSl_ev, dNil_ev, dCons_ev, dTup_ev, dLst_ev, oneArg_ev, twoArg_ev, dCB_ev, dCall_ev, dIt_ev, dRng_ev, dYes_ev, dItV_ev, dItN_ev, thenS_ev, skipS_ev, retS_ev, exprS_ev, ifS_ev, setS_ev, setN_ev, augS_ev, isetS_ev, freezeS_ev, appS_ev, parS_ev, unS_ev, setAll_nil, setAll_cons, slot_v, slot_n, forS_ev, tgN_ev, contd_lst, pad_cons_ev, pad_nil_ev, addD_int, subD_int, ltD_int, leD_int, gtD_int, geD_int, negD_int, ipAddD_int, eqD_int, neD_int, lenD_lst, lenD_tup, intD_int, slN_lst, slT_tup, asList_lst, asTup_tup, catN_lst, addD_tup, bind_err, bindS_err, raiseS_ev, heldD_row, isRowD_row, dOwn1_ev, noErr_ok, dLenRow_ev, dEqRow_ev, dMkRow_ev, dUnN_ev, dTupE_ev, plainT_etp, plainT_tup, catE_etp, tupleE_lst, dMethE_ev, dCallFn_ev, dEnum_ev, dEnumT_ev, iaugS_ev, dTru_ev, truD_bl, truD_int, truD_lst, truD_tup, mkS_list, dMeth_ev, dMethN_ev, dMeth0_ev, dZip_ev, dNewDct_ev, asLdc_ldc, sealS_ev, asSeq_lst, asSeq_tup, List.set, List.replicate, List.length_cons, List.length_nil, Nat.zero_add, Nat.reduceAdd, Nat.reduceLeDiff, if_true, Bool.not_true, Bool.not_false, List.map_nil, List.map_cons, q4, Itm.slot])).trans ?_
    refine (thenS_nx (m' := m3) (by
      simp only [forS_ev, dRng_ev, dCons_ev, dL_ev, slotAt_s, slotAt_0, bind_ok, dNil_ev, nD, q1, bindS_ok]
      exact e3)).trans ?_
    simp only [bind_ok, bind_bad, bindS_ok, dV_ev, dL_ev, slotAt_0, slotAt_s, dC_ev, dN2V_ev, dBin_ev, dBinN_ev, dT_ev, asBool_bl, dAndT_ev, dOrT_ev, dNotT_ev, dAnd_ev, dOr_ev, dNot_ev, dIf_ev, dChain_ev, dUn_ev, dNoPart_ev, dPart_ev, dSl_ev, dNil_ev, dCons_ev, dTup_ev, dLst_ev, oneArg_ev, twoArg_ev, dCB_ev, dCall_ev, dIt_ev, dRng_ev, dYes_ev, dItV_ev, dItN_ev, thenS_ev, skipS_ev, retS_ev, exprS_ev, ifS_ev, setS_ev, setN_ev, augS_ev, isetS_ev, freezeS_ev, appS_ev, parS_ev, unS_ev, setAll_nil, setAll_cons, slot_v, slot_n, forS_ev, tgN_ev, contd_lst, pad_cons_ev, pad_nil_ev, addD_int, subD_int, ltD_int, leD_int, gtD_int, geD_int, negD_int, ipAddD_int, eqD_int, neD_int, lenD_lst, lenD_tup, intD_int, slN_lst, slT_tup, asList_lst, asTup_tup, catN_lst, addD_tup, bind_err, bindS_err, raiseS_ev, heldD_row, isRowD_row, dOwn1_ev, noErr_ok, dLenRow_ev, dEqRow_ev, dMkRow_ev, dUnN_ev, dTupE_ev, plainT_etp, plainT_tup, catE_etp, tupleE_lst, dMethE_ev, dCallFn_ev, dEnum_ev, dEnumT_ev, iaugS_ev, dTru_ev, truD_bl, truD_int, truD_lst, truD_tup, mkS_list, dMeth_ev, dMethN_ev, dMeth0_ev, dZip_ev, dNewDct_ev, asLdc_ldc, sealS_ev, asSeq_lst, asSeq_tup, List.set, List.replicate, List.length_cons, List.length_nil, Nat.zero_add, Nat.reduceAdd, Nat.reduceLeDiff, if_true, Bool.not_true, Bool.not_false, List.map_nil, List.map_cons, q5]
theorem held_ok (g : D) (m : List Ob) : den_Row_groups [.row g] m = .ok (g, m) := by
  refine fnD_rt rfl ?_
  simp only [bind_ok, bind_bad, bindS_ok, dV_ev, dL_ev, slotAt_0, slotAt_s, dC_ev, dN2V_ev, dBin_ev, dBinN_ev, dT_ev, asBool_bl, dAndT_ev, dOrT_ev, dNotT_ev, dAnd_ev, dOr_ev, dNot_ev, dIf_ev, dChain_ev, dUn_ev, dNoPart_ev, dPart_ev, dSl_ev, dNil_ev, dCons_ev, dTup_ev, dLst_ev, oneArg_ev, twoArg_ev, dCB_ev, dCall_ev, dIt_ev, dRng_ev, dYes_ev, dItV_ev, dItN_ev, thenS_ev, skipS_ev, retS_ev, exprS_ev, ifS_ev, setS_ev, setN_ev, augS_ev, isetS_ev, freezeS_ev, appS_ev, parS_ev, unS_ev, setAll_nil, setAll_cons, slot_v, slot_n, forS_ev, tgN_ev, contd_lst, pad_cons_ev, pad_nil_ev, addD_int, subD_int, ltD_int, leD_int, gtD_int, geD_int, negD_int, ipAddD_int, eqD_int, neD_int, lenD_lst, lenD_tup, intD_int, slN_lst, slT_tup, asList_lst, asTup_tup, catN_lst, addD_tup, bind_err, bindS_err, raiseS_ev, heldD_row, isRowD_row, dOwn1_ev, noErr_ok, dLenRow_ev, dEqRow_ev, dMkRow_ev, dUnN_ev, dTupE_ev, plainT_etp, plainT_tup, catE_etp, tupleE_lst, dMethE_ev, dCallFn_ev, dEnum_ev, dEnumT_ev, iaugS_ev, dTru_ev, truD_bl, truD_int, truD_lst, truD_tup, mkS_list, dMeth_ev, dMethN_ev, dMeth0_ev, dZip_ev, dNewDct_ev, asLdc_ldc, sealS_ev, asSeq_lst, asSeq_tup, List.set, List.replicate, List.length_cons, List.length_nil, Nat.zero_add, Nat.reduceAdd, Nat.reduceLeDiff, if_true, Bool.not_true, Bool.not_false, List.map_nil, List.map_cons]
end L_k16
namespace L_k16
open PySem PySem.Spec PyProof.Rows L2 PD
/-! ### the law's own mixes -/
theorem cons_tup (x : Nat) (l : List Nat) (h : l.length ≤ 1000) : addD (.tup [nD x]) (nT l) = .ok (nT (x :: l)) := by
  have q : 1 + (l.map nD).length ≤ 16777216 := by rw [List.length_map]; omega
  simp only [bind_ok, bind_bad, bindS_ok, dV_ev, dL_ev, slotAt_0, slotAt_s, dC_ev, dN2V_ev, dBin_ev, dBinN_ev, dT_ev, asBool_bl, dAndT_ev, dOrT_ev, dNotT_ev, dAnd_ev, dOr_ev, dNot_ev, dIf_ev, dChain_ev, dUn_ev, dNoPart_ev, dPart_ev, dSl_ev, dNil_ev, dCons_ev, dTup_ev, dLst_ev, oneArg_ev, twoArg_ev, dCB_ev, dCall_ev, dIt_ev, dRng_ev, dYes_ev, dItV_ev, dItN_ev, thenS_ev, skipS_ev, retS_ev, exprS_ev, ifS_ev, setS_ev, setN_ev, augS_ev, isetS_ev, freezeS_ev, appS_ev, parS_ev, unS_ev, setAll_nil, setAll_cons, slot_v, slot_n, forS_ev, tgN_ev, contd_lst, pad_cons_ev, pad_nil_ev, addD_int, subD_int, ltD_int, leD_int, gtD_int, geD_int, negD_int, ipAddD_int, eqD_int, neD_int, lenD_lst, lenD_tup, intD_int, slN_lst, slT_tup, asList_lst, asTup_tup, catN_lst, addD_tup, bind_err, bindS_err, raiseS_ev, heldD_row, isRowD_row, dOwn1_ev, noErr_ok, dLenRow_ev, dEqRow_ev, dMkRow_ev, dUnN_ev, dTupE_ev, plainT_etp, plainT_tup, catE_etp, tupleE_lst, dMethE_ev, dCallFn_ev, dEnum_ev, dEnumT_ev, iaugS_ev, dTru_ev, truD_bl, truD_int, truD_lst, truD_tup, mkS_list, dMeth_ev, dMethN_ev, dMeth0_ev, dZip_ev, dNewDct_ev, asLdc_ldc, sealS_ev, asSeq_lst, asSeq_tup, List.set, List.replicate, List.length_cons, List.length_nil, Nat.zero_add, Nat.reduceAdd, Nat.reduceLeDiff, if_true, Bool.not_true, Bool.not_false, List.map_nil, List.map_cons, nT, if_pos q, List.cons_append, List.nil_append, List.map_cons]
  first | done | rw [if_pos (by rw [List.length_map]; omega)]
theorem cons_comp (x : Nat) (ls : List (List Nat)) (m : List Ob) (x0 x1 x2 : Slot) (di : Den (List D)) (hdi : di [x0, x1, x2, .non] m = .ok (ls.map nT, m)) (h : ∀ l ∈ ls, l.length ≤ 1000) (hl : ls.length ≤ 1000000) (dx : Den D) (hx : ∀ ρ m, dx ρ m = .ok (nD x, m)) :
    dComp di [3] (tgN 3) dYes (dBin addD (dTup (dCons dx dNil)) (dL 3)) [x0, x1, x2, .non] m = .ok (.lst ((ls.map (x :: ·)).map nT), m) := by
  rw [List.map_map]
  refine dComp_all nT ls (fun l => nT (x :: l)) hdi (by rfl) (by omega) fun l hl => ⟨_, rfl, ?_⟩
  have q := cons_tup x l (h l hl)
  simp only [dBin_ev, dTup_ev, dCons_ev, hx, bind_ok, dNil_ev, List.length_cons, List.length_nil, wipeS, List.set, dL_ev, slotAt_0, slotAt_s]
  first | (rw [q]; rfl) | (simp only [q, bind_ok]; rfl) | simp [q]
theorem law_mixes_n (m : List Ob) : ∀ (k a b : Nat), a + b < k → a + b ≤ 12 → den_law_mixes_n k [nD a, nD b] m = .ok (lD nT (mixF a b), m)
  | 0, a, b, h, _ => by omega
  | k + 1, a, b, h, h12 => by
    have ih := law_mixes_n m k
    have hlen : ∀ a b, a + b ≤ 12 → (mixF a b).length ≤ 1000000 := fun a b h => by
      have h1 := mixF_len a b
      have h2 : 2 ^ (a + b) ≤ 2 ^ 12 := Nat.pow_le_pow_right (by decide) h
      omega
    have hm : ∀ a b, a + b ≤ 12 → ∀ l ∈ mixF a b, l.length ≤ 1000 := fun a b h l hl => by rw [(mixF_mix a b l hl).len]; omega
    refine fnD_rt rfl ?_
    cases a with
    | zero =>
      cases b with
      | zero =>
        refine thenS_rt ?_
        have q : eqD (.int ((0 : Nat) + (0 : Nat) : Int)) (.int 0) = .ok (.bl true) := rfl
        simp only [bind_ok, bind_bad, bindS_ok, dV_ev, dL_ev, slotAt_0, slotAt_s, dC_ev, dN2V_ev, dBin_ev, dBinN_ev, dT_ev, asBool_bl, dAndT_ev, dOrT_ev, dNotT_ev, dAnd_ev, dOr_ev, dNot_ev, dIf_ev, dChain_ev, dUn_ev, dNoPart_ev, dPart_ev, dSl_ev, dNil_ev, dCons_ev, dTup_ev, dLst_ev, oneArg_ev, twoArg_ev, dCB_ev, dCall_ev, dIt_ev, dRng_ev, dYes_ev, dItV_ev, dItN_ev, thenS_ev, skipS_ev, retS_ev, exprS_ev, ifS_ev, setS_ev, setN_ev, augS_ev, isetS_ev, freezeS_ev, appS_ev, parS_ev, unS_ev, setAll_nil, setAll_cons, slot_v, slot_n, forS_ev, tgN_ev, contd_lst, pad_cons_ev, pad_nil_ev, addD_int, subD_int, ltD_int, leD_int, gtD_int, geD_int, negD_int, ipAddD_int, eqD_int, neD_int, lenD_lst, lenD_tup, intD_int, slN_lst, slT_tup, asList_lst, asTup_tup, catN_lst, addD_tup, bind_err, bindS_err, raiseS_ev, heldD_row, isRowD_row, dOwn1_ev, noErr_ok, dLenRow_ev, dEqRow_ev, dMkRow_ev, dUnN_ev, dTupE_ev, plainT_etp, plainT_tup, catE_etp, tupleE_lst, dMethE_ev, dCallFn_ev, dEnum_ev, dEnumT_ev, iaugS_ev, dTru_ev, truD_bl, truD_int, truD_lst, truD_tup, mkS_list, dMeth_ev, dMethN_ev, dMeth0_ev, dZip_ev, dNewDct_ev, asLdc_ldc, sealS_ev, asSeq_lst, asSeq_tup, List.set, List.replicate, List.length_cons, List.length_nil, Nat.zero_add, Nat.reduceAdd, Nat.reduceLeDiff, if_true, Bool.not_true, Bool.not_false, List.map_nil, List.map_cons, nD, q, mixF_00]
        first | done | rfl
      | succ b =>
        have e1 := ih 0 b (by omega) (by omega)
        have q0 : decide ((((0 : Nat) : Int) + ((b + 1 : Nat) : Int)) = 0) = false := by rw [decide_eq_false_iff_not]; omega
        have q1 : decide ((0 : Int) < ((0 : Nat) : Int)) = false := rfl
        have q2 : decide ((0 : Int) < ((b + 1 : Nat) : Int)) = true := by rw [decide_eq_true_eq]; omega
        have q3 : ((b + 1 : Nat) : Int) - 1 = ((b : Nat) : Int) := by omega
        have c1 := cons_comp 1 (mixF 0 b) m (.sh (nD 0)) (.sh (nD (b + 1))) (.own (.lst [])) (dIt asList (dCall (den_law_mixes_n k) (dCons (dV 0) (dCons (dBin subD (dL 1) (dC (.int 1))) dNil)))) (by
          simp only [dIt_ev, dCall_ev, dCons_ev, dV_ev, slotAt_0, slotAt_s, bind_ok, dBin_ev, dL_ev, dC_ev, subD_int, nD, q3, dNil_ev]
          simp only [nD] at e1
          rw [e1]
          rfl) (hm 0 b (by omega)) (hlen 0 b (by omega)) (dC (.int 1)) (fun _ _ => rfl)
        have hs : ((mixF 0 b).map (1 :: ·)).length ≤ 1000000 := by rw [List.length_map]; exact hlen 0 b (by omega)
        refine (thenS_nx (ρ' := [.sh (nD 0), .sh (nD (b + 1)), .non, .non]) (m' := m) (by simp only [bind_ok, bind_bad, bindS_ok, dV_ev, dL_ev, slotAt_0, slotAt_s, dC_ev, dN2V_ev, dBin_ev, dBinN_ev, dT_ev, asBool_bl, dAndT_ev, dOrT_ev, dNotT_ev, dAnd_ev, dOr_ev, dNot_ev, dIf_ev, dChain_ev, dUn_ev, dNoPart_ev, dPart_ev, dSl_ev, dNil_ev, dCons_ev, dTup_ev, dLst_ev, oneArg_ev, twoArg_ev, dCB_ev, dCall_ev, dIt_ev, dRng_ev, dYes_ev, dItV_ev, dItN_ev, thenS_ev, skipS_ev, retS_ev, exprS_ev, ifS_ev, setS_ev, setN_ev, augS_ev, isetS_ev, freezeS_ev, appS_ev, parS_ev, unS_ev, setAll_nil, setAll_cons, slot_v, slot_n, forS_ev, tgN_ev, contd_lst, pad_cons_ev, pad_nil_ev, addD_int, subD_int, ltD_int, leD_int, gtD_int, geD_int, negD_int, ipAddD_int, eqD_int, neD_int, lenD_lst, lenD_tup, intD_int, slN_lst, slT_tup, asList_lst, asTup_tup, catN_lst, addD_tup, bind_err, bindS_err, raiseS_ev, heldD_row, isRowD_row, dOwn1_ev, noErr_ok, dLenRow_ev, dEqRow_ev, dMkRow_ev, dUnN_ev, dTupE_ev, plainT_etp, plainT_tup, catE_etp, tupleE_lst, dMethE_ev, dCallFn_ev, dEnum_ev, dEnumT_ev, iaugS_ev, dTru_ev, truD_bl, truD_int, truD_lst, truD_tup, mkS_list, dMeth_ev, dMethN_ev, dMeth0_ev, dZip_ev, dNewDct_ev, asLdc_ldc, sealS_ev, asSeq_lst, asSeq_tup, List.set, List.replicate, List.length_cons, List.length_nil, Nat.zero_add, Nat.reduceAdd, Nat.reduceLeDiff, if_true, Bool.not_true, Bool.not_false, List.map_nil, List.map_cons, nD, q0])).trans ?_
        refine (thenS_nx (ρ' := [.sh (nD 0), .sh (nD (b + 1)), .own (.lst []), .non]) (m' := m) (by simp only [bind_ok, bind_bad, bindS_ok, dV_ev, dL_ev, slotAt_0, slotAt_s, dC_ev, dN2V_ev, dBin_ev, dBinN_ev, dT_ev, asBool_bl, dAndT_ev, dOrT_ev, dNotT_ev, dAnd_ev, dOr_ev, dNot_ev, dIf_ev, dChain_ev, dUn_ev, dNoPart_ev, dPart_ev, dSl_ev, dNil_ev, dCons_ev, dTup_ev, dLst_ev, oneArg_ev, twoArg_ev, dCB_ev, dCall_ev, dIt_ev, dRng_ev, dYes_ev, dItV_ev, dItN_ev, thenS_ev, skipS_ev, retS_ev, exprS_ev, ifS_ev, setS_ev, setN_ev, augS_ev, isetS_ev, freezeS_ev, appS_ev, parS_ev, unS_ev, setAll_nil, setAll_cons, slot_v, slot_n, forS_ev, tgN_ev, contd_lst, pad_cons_ev, pad_nil_ev, addD_int, subD_int, ltD_int, leD_int, gtD_int, geD_int, negD_int, ipAddD_int, eqD_int, neD_int, lenD_lst, lenD_tup, intD_int, slN_lst, slT_tup, asList_lst, asTup_tup, catN_lst, addD_tup, bind_err, bindS_err, raiseS_ev, heldD_row, isRowD_row, dOwn1_ev, noErr_ok, dLenRow_ev, dEqRow_ev, dMkRow_ev, dUnN_ev, dTupE_ev, plainT_etp, plainT_tup, catE_etp, tupleE_lst, dMethE_ev, dCallFn_ev, dEnum_ev, dEnumT_ev, iaugS_ev, dTru_ev, truD_bl, truD_int, truD_lst, truD_tup, mkS_list, dMeth_ev, dMethN_ev, dMeth0_ev, dZip_ev, dNewDct_ev, asLdc_ldc, sealS_ev, asSeq_lst, asSeq_tup, List.set, List.replicate, List.length_cons, List.length_nil, Nat.zero_add, Nat.reduceAdd, Nat.reduceLeDiff, if_true, Bool.not_true, Bool.not_false, List.map_nil, List.map_cons])).trans ?_
        refine (thenS_nx (ρ' := [.sh (nD 0), .sh (nD (b + 1)), .own (.lst []), .non]) (m' := m) (by simp only [bind_ok, bind_bad, bindS_ok, dV_ev, dL_ev, slotAt_0, slotAt_s, dC_ev, dN2V_ev, dBin_ev, dBinN_ev, dT_ev, asBool_bl, dAndT_ev, dOrT_ev, dNotT_ev, dAnd_ev, dOr_ev, dNot_ev, dIf_ev, dChain_ev, dUn_ev, dNoPart_ev, dPart_ev, dSl_ev, dNil_ev, dCons_ev, dTup_ev, dLst_ev, oneArg_ev, twoArg_ev, dCB_ev, dCall_ev, dIt_ev, dRng_ev, dYes_ev, dItV_ev, dItN_ev, thenS_ev, skipS_ev, retS_ev, exprS_ev, ifS_ev, setS_ev, setN_ev, augS_ev, isetS_ev, freezeS_ev, appS_ev, parS_ev, unS_ev, setAll_nil, setAll_cons, slot_v, slot_n, forS_ev, tgN_ev, contd_lst, pad_cons_ev, pad_nil_ev, addD_int, subD_int, ltD_int, leD_int, gtD_int, geD_int, negD_int, ipAddD_int, eqD_int, neD_int, lenD_lst, lenD_tup, intD_int, slN_lst, slT_tup, asList_lst, asTup_tup, catN_lst, addD_tup, bind_err, bindS_err, raiseS_ev, heldD_row, isRowD_row, dOwn1_ev, noErr_ok, dLenRow_ev, dEqRow_ev, dMkRow_ev, dUnN_ev, dTupE_ev, plainT_etp, plainT_tup, catE_etp, tupleE_lst, dMethE_ev, dCallFn_ev, dEnum_ev, dEnumT_ev, iaugS_ev, dTru_ev, truD_bl, truD_int, truD_lst, truD_tup, mkS_list, dMeth_ev, dMethN_ev, dMeth0_ev, dZip_ev, dNewDct_ev, asLdc_ldc, sealS_ev, asSeq_lst, asSeq_tup, List.set, List.replicate, List.length_cons, List.length_nil, Nat.zero_add, Nat.reduceAdd, Nat.reduceLeDiff, if_true, Bool.not_true, Bool.not_false, List.map_nil, List.map_cons, nD, q1])).trans ?_
        refine (thenS_nx (ρ' := [.sh (nD 0), .sh (nD (b + 1)), .own (.lst ((mixF 0 (b + 1)).map nT)), .non]) (m' := m) (by
          rw [mixF_0s]
          simp only [ifS_ev, dT_ev, dBin_ev, dL_ev, slotAt_0, slotAt_s, bind_ok, dC_ev, gtD_int, nD, q2, asBool_bl, bindS_ok, setN_ev, dBinN_ev, dN2V_ev]
          simp only [nD] at c1
          rw [c1]
          simp only [bind_ok, contd_lst, catN_lst, List.length_nil, Nat.zero_add, List.nil_append]
          rw [if_pos (by rw [List.length_map]; omega)]
          rfl)).trans ?_
        simp only [bind_ok, bind_bad, bindS_ok, dV_ev, dL_ev, slotAt_0, slotAt_s, dC_ev, dN2V_ev, dBin_ev, dBinN_ev, dT_ev, asBool_bl, dAndT_ev, dOrT_ev, dNotT_ev, dAnd_ev, dOr_ev, dNot_ev, dIf_ev, dChain_ev, dUn_ev, dNoPart_ev, dPart_ev, dSl_ev, dNil_ev, dCons_ev, dTup_ev, dLst_ev, oneArg_ev, twoArg_ev, dCB_ev, dCall_ev, dIt_ev, dRng_ev, dYes_ev, dItV_ev, dItN_ev, thenS_ev, skipS_ev, retS_ev, exprS_ev, ifS_ev, setS_ev, setN_ev, augS_ev, isetS_ev, freezeS_ev, appS_ev, parS_ev, unS_ev, setAll_nil, setAll_cons, slot_v, slot_n, forS_ev, tgN_ev, contd_lst, pad_cons_ev, pad_nil_ev, addD_int, subD_int, ltD_int, leD_int, gtD_int, geD_int, negD_int, ipAddD_int, eqD_int, neD_int, lenD_lst, lenD_tup, intD_int, slN_lst, slT_tup, asList_lst, asTup_tup, catN_lst, addD_tup, bind_err, bindS_err, raiseS_ev, heldD_row, isRowD_row, dOwn1_ev, noErr_ok, dLenRow_ev, dEqRow_ev, dMkRow_ev, dUnN_ev, dTupE_ev, plainT_etp, plainT_tup, catE_etp, tupleE_lst, dMethE_ev, dCallFn_ev, dEnum_ev, dEnumT_ev, iaugS_ev, dTru_ev, truD_bl, truD_int, truD_lst, truD_tup, mkS_list, dMeth_ev, dMethN_ev, dMeth0_ev, dZip_ev, dNewDct_ev, asLdc_ldc, sealS_ev, asSeq_lst, asSeq_tup, List.set, List.replicate, List.length_cons, List.length_nil, Nat.zero_add, Nat.reduceAdd, Nat.reduceLeDiff, if_true, Bool.not_true, Bool.not_false, List.map_nil, List.map_cons]
    | succ a =>
      cases b with
      | zero =>
        have e1 := ih a 0 (by omega) (by omega)
        have q0 : decide ((((a + 1 : Nat) : Int) + ((0 : Nat) : Int)) = 0) = false := by rw [decide_eq_false_iff_not]; omega
        have q1 : decide ((0 : Int) < ((a + 1 : Nat) : Int)) = true := by rw [decide_eq_true_eq]; omega
        have q2 : decide ((0 : Int) < ((0 : Nat) : Int)) = false := rfl
        have q3 : ((a + 1 : Nat) : Int) - 1 = ((a : Nat) : Int) := by omega
        have c1 := cons_comp 0 (mixF a 0) m (.sh (nD (a + 1))) (.sh (nD 0)) (.own (.lst [])) (dIt asList (dCall (den_law_mixes_n k) (dCons (dBin subD (dL 0) (dC (.int 1))) (dCons (dV 1) dNil)))) (by
          simp only [dIt_ev, dCall_ev, dCons_ev, dV_ev, slotAt_0, slotAt_s, bind_ok, dBin_ev, dL_ev, dC_ev, subD_int, nD, q3, dNil_ev]
          simp only [nD] at e1
          rw [e1]
          rfl) (hm a 0 (by omega)) (hlen a 0 (by omega)) (dC (.int 0)) (fun _ _ => rfl)
        refine (thenS_nx (ρ' := [.sh (nD (a + 1)), .sh (nD 0), .non, .non]) (m' := m) (by simp only [bind_ok, bind_bad, bindS_ok, dV_ev, dL_ev, slotAt_0, slotAt_s, dC_ev, dN2V_ev, dBin_ev, dBinN_ev, dT_ev, asBool_bl, dAndT_ev, dOrT_ev, dNotT_ev, dAnd_ev, dOr_ev, dNot_ev, dIf_ev, dChain_ev, dUn_ev, dNoPart_ev, dPart_ev, dSl_ev, dNil_ev, dCons_ev, dTup_ev, dLst_ev, oneArg_ev, twoArg_ev, dCB_ev, dCall_ev, dIt_ev, dRng_ev, dYes_ev, dItV_ev, dItN_ev, thenS_ev, skipS_ev, retS_ev, exprS_ev, ifS_ev, setS_ev, setN_ev, augS_ev, isetS_ev, freezeS_ev, appS_ev, parS_ev, unS_ev, setAll_nil, setAll_cons, slot_v, slot_n, forS_ev, tgN_ev, contd_lst, pad_cons_ev, pad_nil_ev, addD_int, subD_int, ltD_int, leD_int, gtD_int, geD_int, negD_int, ipAddD_int, eqD_int, neD_int, lenD_lst, lenD_tup, intD_int, slN_lst, slT_tup, asList_lst, asTup_tup, catN_lst, addD_tup, bind_err, bindS_err, raiseS_ev, heldD_row, isRowD_row, dOwn1_ev, noErr_ok, dLenRow_ev, dEqRow_ev, dMkRow_ev, dUnN_ev, dTupE_ev, plainT_etp, plainT_tup, catE_etp, tupleE_lst, dMethE_ev, dCallFn_ev, dEnum_ev, dEnumT_ev, iaugS_ev, dTru_ev, truD_bl, truD_int, truD_lst, truD_tup, mkS_list, dMeth_ev, dMethN_ev, dMeth0_ev, dZip_ev, dNewDct_ev, asLdc_ldc, sealS_ev, asSeq_lst, asSeq_tup, List.set, List.replicate, List.length_cons, List.length_nil, Nat.zero_add, Nat.reduceAdd, Nat.reduceLeDiff, if_true, Bool.not_true, Bool.not_false, List.map_nil, List.map_cons, nD, q0])).trans ?_
        refine (thenS_nx (ρ' := [.sh (nD (a + 1)), .sh (nD 0), .own (.lst []), .non]) (m' := m) (by simp only [bind_ok, bind_bad, bindS_ok, dV_ev, dL_ev, slotAt_0, slotAt_s, dC_ev, dN2V_ev, dBin_ev, dBinN_ev, dT_ev, asBool_bl, dAndT_ev, dOrT_ev, dNotT_ev, dAnd_ev, dOr_ev, dNot_ev, dIf_ev, dChain_ev, dUn_ev, dNoPart_ev, dPart_ev, dSl_ev, dNil_ev, dCons_ev, dTup_ev, dLst_ev, oneArg_ev, twoArg_ev, dCB_ev, dCall_ev, dIt_ev, dRng_ev, dYes_ev, dItV_ev, dItN_ev, thenS_ev, skipS_ev, retS_ev, exprS_ev, ifS_ev, setS_ev, setN_ev, augS_ev, isetS_ev, freezeS_ev, appS_ev, parS_ev, unS_ev, setAll_nil, setAll_cons, slot_v, slot_n, forS_ev, tgN_ev, contd_lst, pad_cons_ev, pad_nil_ev, addD_int, subD_int, ltD_int, leD_int, gtD_int, geD_int, negD_int, ipAddD_int, eqD_int, neD_int, lenD_lst, lenD_tup, intD_int, slN_lst, slT_tup, asList_lst, asTup_tup, catN_lst, addD_tup, bind_err, bindS_err, raiseS_ev, heldD_row, isRowD_row, dOwn1_ev, noErr_ok, dLenRow_ev, dEqRow_ev, dMkRow_ev, dUnN_ev, dTupE_ev, plainT_etp, plainT_tup, catE_etp, tupleE_lst, dMethE_ev, dCallFn_ev, dEnum_ev, dEnumT_ev, iaugS_ev, dTru_ev, truD_bl, truD_int, truD_lst, truD_tup, mkS_list, dMeth_ev, dMethN_ev, dMeth0_ev, dZip_ev, dNewDct_ev, asLdc_ldc, sealS_ev, asSeq_lst, asSeq_tup, List.set, List.replicate, List.length_cons, List.length_nil, Nat.zero_add, Nat.reduceAdd, Nat.reduceLeDiff, if_true, Bool.not_true, Bool.not_false, List.map_nil, List.map_cons])).trans ?_
        refine (thenS_nx (ρ' := [.sh (nD (a + 1)), .sh (nD 0), .own (.lst ((mixF (a + 1) 0).map nT)), .non]) (m' := m) (by
          rw [mixF_s0]
          simp only [ifS_ev, dT_ev, dBin_ev, dL_ev, slotAt_0, slotAt_s, bind_ok, dC_ev, gtD_int, nD, q1, asBool_bl, bindS_ok, setN_ev]
          simp only [nD] at c1
          rw [c1]
          rfl)).trans ?_
        refine (thenS_nx (ρ' := [.sh (nD (a + 1)), .sh (nD 0), .own (.lst ((mixF (a + 1) 0).map nT)), .non]) (m' := m) (by simp only [bind_ok, bind_bad, bindS_ok, dV_ev, dL_ev, slotAt_0, slotAt_s, dC_ev, dN2V_ev, dBin_ev, dBinN_ev, dT_ev, asBool_bl, dAndT_ev, dOrT_ev, dNotT_ev, dAnd_ev, dOr_ev, dNot_ev, dIf_ev, dChain_ev, dUn_ev, dNoPart_ev, dPart_ev, dSl_ev, dNil_ev, dCons_ev, dTup_ev, dLst_ev, oneArg_ev, twoArg_ev, dCB_ev, dCall_ev, dIt_ev, dRng_ev, dYes_ev, dItV_ev, dItN_ev, thenS_ev, skipS_ev, retS_ev, exprS_ev, ifS_ev, setS_ev, setN_ev, augS_ev, isetS_ev, freezeS_ev, appS_ev, parS_ev, unS_ev, setAll_nil, setAll_cons, slot_v, slot_n, forS_ev, tgN_ev, contd_lst, pad_cons_ev, pad_nil_ev, addD_int, subD_int, ltD_int, leD_int, gtD_int, geD_int, negD_int, ipAddD_int, eqD_int, neD_int, lenD_lst, lenD_tup, intD_int, slN_lst, slT_tup, asList_lst, asTup_tup, catN_lst, addD_tup, bind_err, bindS_err, raiseS_ev, heldD_row, isRowD_row, dOwn1_ev, noErr_ok, dLenRow_ev, dEqRow_ev, dMkRow_ev, dUnN_ev, dTupE_ev, plainT_etp, plainT_tup, catE_etp, tupleE_lst, dMethE_ev, dCallFn_ev, dEnum_ev, dEnumT_ev, iaugS_ev, dTru_ev, truD_bl, truD_int, truD_lst, truD_tup, mkS_list, dMeth_ev, dMethN_ev, dMeth0_ev, dZip_ev, dNewDct_ev, asLdc_ldc, sealS_ev, asSeq_lst, asSeq_tup, List.set, List.replicate, List.length_cons, List.length_nil, Nat.zero_add, Nat.reduceAdd, Nat.reduceLeDiff, if_true, Bool.not_true, Bool.not_false, List.map_nil, List.map_cons, nD, q2])).trans ?_
        simp only [bind_ok, bind_bad, bindS_ok, dV_ev, dL_ev, slotAt_0, slotAt_s, dC_ev, dN2V_ev, dBin_ev, dBinN_ev, dT_ev, asBool_bl, dAndT_ev, dOrT_ev, dNotT_ev, dAnd_ev, dOr_ev, dNot_ev, dIf_ev, dChain_ev, dUn_ev, dNoPart_ev, dPart_ev, dSl_ev, dNil_ev, dCons_ev, dTup_ev, dLst_ev, oneArg_ev, twoArg_ev, dCB_ev, dCall_ev, dIt_ev, dRng_ev, dYes_ev, dItV_ev, dItN_ev, thenS_ev, skipS_ev, retS_ev, exprS_ev, ifS_ev, setS_ev, setN_ev, augS_ev, isetS_ev, freezeS_ev, appS_ev, parS_ev, unS_ev, setAll_nil, setAll_cons, slot_v, slot_n, forS_ev, tgN_ev, contd_lst, pad_cons_ev, pad_nil_ev, addD_int, subD_int, ltD_int, leD_int, gtD_int, geD_int, negD_int, ipAddD_int, eqD_int, neD_int, lenD_lst, lenD_tup, intD_int, slN_lst, slT_tup, asList_lst, asTup_tup, catN_lst, addD_tup, bind_err, bindS_err, raiseS_ev, heldD_row, isRowD_row, dOwn1_ev, noErr_ok, dLenRow_ev, dEqRow_ev, dMkRow_ev, dUnN_ev, dTupE_ev, plainT_etp, plainT_tup, catE_etp, tupleE_lst, dMethE_ev, dCallFn_ev, dEnum_ev, dEnumT_ev, iaugS_ev, dTru_ev, truD_bl, truD_int, truD_lst, truD_tup, mkS_list, dMeth_ev, dMethN_ev, dMeth0_ev, dZip_ev, dNewDct_ev, asLdc_ldc, sealS_ev, asSeq_lst, asSeq_tup, List.set, List.replicate, List.length_cons, List.length_nil, Nat.zero_add, Nat.reduceAdd, Nat.reduceLeDiff, if_true, Bool.not_true, Bool.not_false, List.map_nil, List.map_cons]
      | succ b =>
        have e1 := ih a (b + 1) (by omega) (by omega)
        have e2 := ih (a + 1) b (by omega) (by omega)
        have q0 : decide ((((a + 1 : Nat) : Int) + ((b + 1 : Nat) : Int)) = 0) = false := by rw [decide_eq_false_iff_not]; omega
        have q1 : decide ((0 : Int) < ((a + 1 : Nat) : Int)) = true := by rw [decide_eq_true_eq]; omega
        have q2 : decide ((0 : Int) < ((b + 1 : Nat) : Int)) = true := by rw [decide_eq_true_eq]; omega
        have q3 : ((a + 1 : Nat) : Int) - 1 = ((a : Nat) : Int) := by omega
        have q4 : ((b + 1 : Nat) : Int) - 1 = ((b : Nat) : Int) := by omega
        have c1 := cons_comp 0 (mixF a (b + 1)) m (.sh (nD (a + 1))) (.sh (nD (b + 1))) (.own (.lst [])) (dIt asList (dCall (den_law_mixes_n k) (dCons (dBin subD (dL 0) (dC (.int 1))) (dCons (dV 1) dNil)))) (by
          simp only [dIt_ev, dCall_ev, dCons_ev, dV_ev, slotAt_0, slotAt_s, bind_ok, dBin_ev, dL_ev, dC_ev, subD_int, nD, q3, dNil_ev]
          simp only [nD] at e1
          rw [e1]
          rfl) (hm a (b + 1) (by omega)) (hlen a (b + 1) (by omega)) (dC (.int 0)) (fun _ _ => rfl)
        have c2 := cons_comp 1 (mixF (a + 1) b) m (.sh (nD (a + 1))) (.sh (nD (b + 1))) (.own (.lst (((mixF a (b + 1)).map (0 :: ·)).map nT))) (dIt asList (dCall (den_law_mixes_n k) (dCons (dV 0) (dCons (dBin subD (dL 1) (dC (.int 1))) dNil)))) (by
          simp only [dIt_ev, dCall_ev, dCons_ev, dV_ev, slotAt_0, slotAt_s, bind_ok, dBin_ev, dL_ev, dC_ev, subD_int, nD, q4, dNil_ev]
          simp only [nD] at e2
          rw [e2]
          rfl) (hm (a + 1) b (by omega)) (hlen (a + 1) b (by omega)) (dC (.int 1)) (fun _ _ => rfl)
        have s1 := hlen a (b + 1) (by omega)
        have s2 := hlen (a + 1) b (by omega)
        refine (thenS_nx (ρ' := [.sh (nD (a + 1)), .sh (nD (b + 1)), .non, .non]) (m' := m) (by simp only [bind_ok, bind_bad, bindS_ok, dV_ev, dL_ev, slotAt_0, slotAt_s, dC_ev, dN2V_ev, dBin_ev, dBinN_ev, dT_ev, asBool_bl, dAndT_ev, dOrT_ev, dNotT_ev, dAnd_ev, dOr_ev, dNot_ev, dIf_ev, dChain_ev, dUn_ev, dNoPart_ev, dPart_ev, dSl_ev, dNil_ev, dCons_ev, dTup_ev, dLst_ev, oneArg_ev, twoArg_ev, dCB_ev, dCall_ev, dIt_ev, dRng_ev, dYes_ev, dItV_ev, dItN_ev, thenS_ev, skipS_ev, retS_ev, exprS_ev, ifS_ev, setS_ev, setN_ev, augS_ev, isetS_ev, freezeS_ev, appS_ev, parS_ev, unS_ev, setAll_nil, setAll_cons, slot_v, slot_n, forS_ev, tgN_ev, contd_lst, pad_cons_ev, pad_nil_ev, addD_int, subD_int, ltD_int, leD_int, gtD_int, geD_int, negD_int, ipAddD_int, eqD_int, neD_int, lenD_lst, lenD_tup, intD_int, slN_lst, slT_tup, asList_lst, asTup_tup, catN_lst, addD_tup, bind_err, bindS_err, raiseS_ev, heldD_row, isRowD_row, dOwn1_ev, noErr_ok, dLenRow_ev, dEqRow_ev, dMkRow_ev, dUnN_ev, dTupE_ev, plainT_etp, plainT_tup, catE_etp, tupleE_lst, dMethE_ev, dCallFn_ev, dEnum_ev, dEnumT_ev, iaugS_ev, dTru_ev, truD_bl, truD_int, truD_lst, truD_tup, mkS_list, dMeth_ev, dMethN_ev, dMeth0_ev, dZip_ev, dNewDct_ev, asLdc_ldc, sealS_ev, asSeq_lst, asSeq_tup, List.set, List.replicate, List.length_cons, List.length_nil, Nat.zero_add, Nat.reduceAdd, Nat.reduceLeDiff, if_true, Bool.not_true, Bool.not_false, List.map_nil, List.map_cons, nD, q0])).trans ?_
        refine (thenS_nx (ρ' := [.sh (nD (a + 1)), .sh (nD (b + 1)), .own (.lst []), .non]) (m' := m) (by simp only [bind_ok, bind_bad, bindS_ok, dV_ev, dL_ev, slotAt_0, slotAt_s, dC_ev, dN2V_ev, dBin_ev, dBinN_ev, dT_ev, asBool_bl, dAndT_ev, dOrT_ev, dNotT_ev, dAnd_ev, dOr_ev, dNot_ev, dIf_ev, dChain_ev, dUn_ev, dNoPart_ev, dPart_ev, dSl_ev, dNil_ev, dCons_ev, dTup_ev, dLst_ev, oneArg_ev, twoArg_ev, dCB_ev, dCall_ev, dIt_ev, dRng_ev, dYes_ev, dItV_ev, dItN_ev, thenS_ev, skipS_ev, retS_ev, exprS_ev, ifS_ev, setS_ev, setN_ev, augS_ev, isetS_ev, freezeS_ev, appS_ev, parS_ev, unS_ev, setAll_nil, setAll_cons, slot_v, slot_n, forS_ev, tgN_ev, contd_lst, pad_cons_ev, pad_nil_ev, addD_int, subD_int, ltD_int, leD_int, gtD_int, geD_int, negD_int, ipAddD_int, eqD_int, neD_int, lenD_lst, lenD_tup, intD_int, slN_lst, slT_tup, asList_lst, asTup_tup, catN_lst, addD_tup, bind_err, bindS_err, raiseS_ev, heldD_row, isRowD_row, dOwn1_ev, noErr_ok, dLenRow_ev, dEqRow_ev, dMkRow_ev, dUnN_ev, dTupE_ev, plainT_etp, plainT_tup, catE_etp, tupleE_lst, dMethE_ev, dCallFn_ev, dEnum_ev, dEnumT_ev, iaugS_ev, dTru_ev, truD_bl, truD_int, truD_lst, truD_tup, mkS_list, dMeth_ev, dMethN_ev, dMeth0_ev, dZip_ev, dNewDct_ev, asLdc_ldc, sealS_ev, asSeq_lst, asSeq_tup, List.set, List.replicate, List.length_cons, List.length_nil, Nat.zero_add, Nat.reduceAdd, Nat.reduceLeDiff, if_true, Bool.not_true, Bool.not_false, List.map_nil, List.map_cons])).trans ?_
        refine (thenS_nx (ρ' := [.sh (nD (a + 1)), .sh (nD (b + 1)), .own (.lst (((mixF a (b + 1)).map (0 :: ·)).map nT)), .non]) (m' := m) (by
          simp only [ifS_ev, dT_ev, dBin_ev, dL_ev, slotAt_0, slotAt_s, bind_ok, dC_ev, gtD_int, nD, q1, asBool_bl, bindS_ok, setN_ev]
          simp only [nD] at c1
          rw [c1]
          rfl)).trans ?_
        refine (thenS_nx (ρ' := [.sh (nD (a + 1)), .sh (nD (b + 1)), .own (.lst ((mixF (a + 1) (b + 1)).map nT)), .non]) (m' := m) (by
          rw [mixF_ss, List.map_append]
          simp only [ifS_ev, dT_ev, dBin_ev, dL_ev, slotAt_0, slotAt_s, bind_ok, dC_ev, gtD_int, nD, q2, asBool_bl, bindS_ok, setN_ev, dBinN_ev, dN2V_ev]
          simp only [nD] at c2
          rw [c2]
          simp only [bind_ok, contd_lst, catN_lst]
          rw [if_pos (by simp only [List.length_map]; omega)]
          rfl)).trans ?_
        simp only [bind_ok, bind_bad, bindS_ok, dV_ev, dL_ev, slotAt_0, slotAt_s, dC_ev, dN2V_ev, dBin_ev, dBinN_ev, dT_ev, asBool_bl, dAndT_ev, dOrT_ev, dNotT_ev, dAnd_ev, dOr_ev, dNot_ev, dIf_ev, dChain_ev, dUn_ev, dNoPart_ev, dPart_ev, dSl_ev, dNil_ev, dCons_ev, dTup_ev, dLst_ev, oneArg_ev, twoArg_ev, dCB_ev, dCall_ev, dIt_ev, dRng_ev, dYes_ev, dItV_ev, dItN_ev, thenS_ev, skipS_ev, retS_ev, exprS_ev, ifS_ev, setS_ev, setN_ev, augS_ev, isetS_ev, freezeS_ev, appS_ev, parS_ev, unS_ev, setAll_nil, setAll_cons, slot_v, slot_n, forS_ev, tgN_ev, contd_lst, pad_cons_ev, pad_nil_ev, addD_int, subD_int, ltD_int, leD_int, gtD_int, geD_int, negD_int, ipAddD_int, eqD_int, neD_int, lenD_lst, lenD_tup, intD_int, slN_lst, slT_tup, asList_lst, asTup_tup, catN_lst, addD_tup, bind_err, bindS_err, raiseS_ev, heldD_row, isRowD_row, dOwn1_ev, noErr_ok, dLenRow_ev, dEqRow_ev, dMkRow_ev, dUnN_ev, dTupE_ev, plainT_etp, plainT_tup, catE_etp, tupleE_lst, dMethE_ev, dCallFn_ev, dEnum_ev, dEnumT_ev, iaugS_ev, dTru_ev, truD_bl, truD_int, truD_lst, truD_tup, mkS_list, dMeth_ev, dMethN_ev, dMeth0_ev, dZip_ev, dNewDct_ev, asLdc_ldc, sealS_ev, asSeq_lst, asSeq_tup, List.set, List.replicate, List.length_cons, List.length_nil, Nat.zero_add, Nat.reduceAdd, Nat.reduceLeDiff, if_true, Bool.not_true, Bool.not_false, List.map_nil, List.map_cons]
theorem law_mixes_ok (a b : Nat) (m : List Ob) (h : a + b ≤ 11) : den_law_mixes [nD a, nD b] m = .ok (lD nT (mixF a b), m) := law_mixes_n m 12 a b (by omega) (by omega)
/-! ### the law's own row by a mix -/
abbrev lcB : SDen := appPopS 5 3 4 (dT (dBin eqD (dL 6) (dC (.int 0))))
theorem lc_loop (m : List Ob) (x0 x1 x2 : Slot) {p q : Nat} {l : List Nat} (h : Mix p q l) : ∀ (a b acc : List Int) (x6 : Slot), a.length = p → b.length = q → acc.length + l.length ≤ 1000 → ∃ y3 y4 y6,
    loopS (tgN 6) lcB (l.map nD) [x0, x1, x2, .own (.lst (a.map .int)), .own (.lst (b.map .int)), .own (.lst (acc.map .int)), x6] m = .nx [x0, x1, x2, y3, y4, .own (.lst ((acc ++ comeF a b l).map .int)), y6] m := by
  induction h with
  | nil => intro a b acc x6 _ _ _; exact ⟨_, _, x6, by rw [comeF, List.append_nil]; rfl⟩
  | @zero p q l h ih =>
    intro a b acc x6 ha hb hl
    cases a with
    | nil => cases ha
    | cons x a =>
      obtain ⟨y3, y4, y6, e⟩ := ih a b (acc ++ [x]) (.sh (nD 0)) (by simpa using ha) hb (by rw [List.length_append, List.length_singleton]; rw [List.length_cons] at hl; omega)
      refine ⟨y3, y4, y6, ?_⟩
      have q := appPop_ok (i := 5) (l := 3) (r := 4) (dc := dT (dBin eqD (dL 6) (dC (.int 0)))) (c := true) (m := m) (m' := m) (ρ := [x0, x1, x2, .own (.lst ((x :: a).map .int)), .own (.lst (b.map .int)), .own (.lst (acc.map .int)), .sh (nD 0)]) (ds := acc.map .int) (ys := a.map .int) (y := .int x) rfl rfl rfl (by rw [List.length_map]; rw [List.length_cons] at hl; omega)
      rw [List.map_cons, loop_nx (ρ1 := [x0, x1, x2, .own (.lst ((x :: a).map .int)), .own (.lst (b.map .int)), .own (.lst (acc.map .int)), .sh (nD 0)]) (ρ'' := [x0, x1, x2, .own (.lst (a.map .int)), .own (.lst (b.map .int)), .own (.lst ((acc ++ [x]).map .int)), .sh (nD 0)]) (m'' := m) rfl (by
        rw [List.map_append]
        exact q), e, comeF, List.append_assoc]
      rfl
  | @one p q l h ih =>
    intro a b acc x6 ha hb hl
    cases b with
    | nil => cases hb
    | cons x b =>
      obtain ⟨y3, y4, y6, e⟩ := ih a b (acc ++ [x]) (.sh (nD 1)) ha (by simpa using hb) (by rw [List.length_append, List.length_singleton]; rw [List.length_cons] at hl; omega)
      refine ⟨y3, y4, y6, ?_⟩
      have q := appPop_ok (i := 5) (l := 3) (r := 4) (dc := dT (dBin eqD (dL 6) (dC (.int 0)))) (c := false) (m := m) (m' := m) (ρ := [x0, x1, x2, .own (.lst (a.map .int)), .own (.lst ((x :: b).map .int)), .own (.lst (acc.map .int)), .sh (nD 1)]) (ds := acc.map .int) (ys := b.map .int) (y := .int x) rfl rfl rfl (by rw [List.length_map]; rw [List.length_cons] at hl; omega)
      rw [List.map_cons, loop_nx (ρ1 := [x0, x1, x2, .own (.lst (a.map .int)), .own (.lst ((x :: b).map .int)), .own (.lst (acc.map .int)), .sh (nD 1)]) (ρ'' := [x0, x1, x2, .own (.lst (a.map .int)), .own (.lst (b.map .int)), .own (.lst ((acc ++ [x]).map .int)), .sh (nD 1)]) (m'' := m) rfl (by
        rw [List.map_append]
        exact q), e, comeF, List.append_assoc]
      · rfl
      · omega
theorem law_come_ok (a b : List Int) (l : List Nat) (d : D) (m : List Ob) (hd : asSeq d = .ok (l.map nD)) (h : Mix a.length b.length l) (hl : l.length ≤ 1000) : den_law_come [iT a, iT b, d] m = .ok (iT (comeF a b l), m) := by
  obtain ⟨y3, y4, y6, e⟩ := lc_loop m (.sh (iT a)) (.sh (iT b)) (.sh d) h a b [] .non rfl rfl (by rw [List.length_nil]; omega)
  refine fnD_rt rfl ?_
  refine (thenS_nx (ρ' := [.sh (iT a), .sh (iT b), .sh d, .own (.lst (a.map .int)), .own (.lst (b.map .int)), .own (.lst (([] : List Int).map .int)), .non]) (m' := m) (by
    have e1 : listN (iT a) = .ok (.lst (a.map .int)) := rfl
    have e2 : listN (iT b) = .ok (.lst (b.map .int)) := rfl
    simp only [bind_ok, bind_bad, bindS_ok, dV_ev, dL_ev, slotAt_0, slotAt_s, dC_ev, dN2V_ev, dBin_ev, dBinN_ev, dT_ev, asBool_bl, dAndT_ev, dOrT_ev, dNotT_ev, dAnd_ev, dOr_ev, dNot_ev, dIf_ev, dChain_ev, dUn_ev, dNoPart_ev, dPart_ev, dSl_ev, dNil_ev, dCons_ev, dTup_ev, dLst_ev, oneArg_ev, twoArg_ev, dCB_ev, dCall_ev, dIt_ev, dRng_ev, dYes_ev, dItV_ev, dItN_ev, thenS_ev, skipS_ev, retS_ev, exprS_ev, ifS_ev, setS_ev, setN_ev, augS_ev, isetS_ev, freezeS_ev, appS_ev, parS_ev, unS_ev, setAll_nil, setAll_cons, slot_v, slot_n, forS_ev, tgN_ev, contd_lst, pad_cons_ev, pad_nil_ev, addD_int, subD_int, ltD_int, leD_int, gtD_int, geD_int, negD_int, ipAddD_int, eqD_int, neD_int, lenD_lst, lenD_tup, intD_int, slN_lst, slT_tup, asList_lst, asTup_tup, catN_lst, addD_tup, bind_err, bindS_err, raiseS_ev, heldD_row, isRowD_row, dOwn1_ev, noErr_ok, dLenRow_ev, dEqRow_ev, dMkRow_ev, dUnN_ev, dTupE_ev, plainT_etp, plainT_tup, catE_etp, tupleE_lst, dMethE_ev, dCallFn_ev, dEnum_ev, dEnumT_ev, iaugS_ev, dTru_ev, truD_bl, truD_int, truD_lst, truD_tup, mkS_list, dMeth_ev, dMethN_ev, dMeth0_ev, dZip_ev, dNewDct_ev, asLdc_ldc, sealS_ev, asSeq_lst, asSeq_tup, List.set, List.replicate, List.length_cons, List.length_nil, Nat.zero_add, Nat.reduceAdd, Nat.reduceLeDiff, if_true, Bool.not_true, Bool.not_false, List.map_nil, List.map_cons, e1, e2, Itm.slot])).trans ?_
  refine (thenS_nx (m' := m) (by
    simp only [forS_ev, dIt_ev, dV_ev, slotAt_0, slotAt_s, bind_ok, hd, bindS_ok]
    exact e)).trans ?_
  simp only [retS_ev, dCB_ev, dCons_ev, dL_ev, slotAt_0, slotAt_s, bind_ok, dNil_ev, oneArg_ev, contd_lst, List.nil_append]
  rfl
end L_k16
namespace L_k16
open PySem PySem.Spec PyProof.Rows L2 PD
/-! ### the best of all mixes, by the law -/
abbrev tabN : Ob := .tab "_law_levels" "_law_levels.<locals>.<lambda>"
abbrev lwP : SDen := setS 8 (dCall den_law_pulls (dCons (dCall den_law_come (dCons (dV 3) (dCons (dV 4) (dCons (dV 7) dNil)))) (dCons (dV 5) dNil)))
abbrev lwI : SDen := ifS (dOrT (dT (dBin isNonD (dL 6) (dC .non))) (dT (dBin ltD (dL 8) (dBin ixD (dL 6) (dC (.int 0)))))) (setS 6 (dTup (dCons (dV 8) (dCons (dV 7) dNil)))) skipS
abbrev lwB : SDen := thenS lwP lwI
theorem lwI_ok (m : List Ob) (h : Nat) (o : List Nat) (b : Option (Nat × List Nat)) (x0 x1 x2 x3 x4 x5 x9 x10 x11 : Slot) (c : List Nat → Nat) (hc : c o = h) :
    lwI [x0, x1, x2, x3, x4, x5, .sh (bD nT b), .sh (nT o), .sh (nD h), x9, x10, x11] m = .nx [x0, x1, x2, x3, x4, x5, .sh (bD nT (bstep c b o)), .sh (nT o), .sh (nD h), x9, x10, x11] m := by
  subst hc
  cases b with
  | none =>
    have q : isNonD .non .non = .ok (.bl true) := rfl
    simp only [bind_ok, bind_bad, bindS_ok, dV_ev, dL_ev, slotAt_0, slotAt_s, dC_ev, dN2V_ev, dBin_ev, dBinN_ev, dT_ev, asBool_bl, dAndT_ev, dOrT_ev, dNotT_ev, dAnd_ev, dOr_ev, dNot_ev, dIf_ev, dChain_ev, dUn_ev, dNoPart_ev, dPart_ev, dSl_ev, dNil_ev, dCons_ev, dTup_ev, dLst_ev, oneArg_ev, twoArg_ev, dCB_ev, dCall_ev, dIt_ev, dRng_ev, dYes_ev, dItV_ev, dItN_ev, thenS_ev, skipS_ev, retS_ev, exprS_ev, ifS_ev, setS_ev, setN_ev, augS_ev, isetS_ev, freezeS_ev, appS_ev, parS_ev, unS_ev, setAll_nil, setAll_cons, slot_v, slot_n, forS_ev, tgN_ev, contd_lst, pad_cons_ev, pad_nil_ev, addD_int, subD_int, ltD_int, leD_int, gtD_int, geD_int, negD_int, ipAddD_int, eqD_int, neD_int, lenD_lst, lenD_tup, intD_int, slN_lst, slT_tup, asList_lst, asTup_tup, catN_lst, addD_tup, bind_err, bindS_err, raiseS_ev, heldD_row, isRowD_row, dOwn1_ev, noErr_ok, dLenRow_ev, dEqRow_ev, dMkRow_ev, dUnN_ev, dTupE_ev, plainT_etp, plainT_tup, catE_etp, tupleE_lst, dMethE_ev, dCallFn_ev, dEnum_ev, dEnumT_ev, iaugS_ev, dTru_ev, truD_bl, truD_int, truD_lst, truD_tup, mkS_list, dMeth_ev, dMethN_ev, dMeth0_ev, dZip_ev, dNewDct_ev, asLdc_ldc, sealS_ev, asSeq_lst, asSeq_tup, List.set, List.replicate, List.length_cons, List.length_nil, Nat.zero_add, Nat.reduceAdd, Nat.reduceLeDiff, if_true, Bool.not_true, Bool.not_false, List.map_nil, List.map_cons, bD, q, bstep]
  | some p =>
    obtain ⟨k, y⟩ := p
    have q : isNonD (.tup [nD k, nT y]) .non = .ok (.bl false) := rfl
    have q2 : ixD (.tup [nD k, nT y]) (.int 0) = .ok (nD k) := rfl
    by_cases hk : c o < k
    · have q3 : decide (((c o : Nat) : Int) < (k : Int)) = true := by rw [decide_eq_true_eq]; omega
      simp only [bstep, if_pos hk]
      simp only [bind_ok, bind_bad, bindS_ok, dV_ev, dL_ev, slotAt_0, slotAt_s, dC_ev, dN2V_ev, dBin_ev, dBinN_ev, dT_ev, asBool_bl, dAndT_ev, dOrT_ev, dNotT_ev, dAnd_ev, dOr_ev, dNot_ev, dIf_ev, dChain_ev, dUn_ev, dNoPart_ev, dPart_ev, dSl_ev, dNil_ev, dCons_ev, dTup_ev, dLst_ev, oneArg_ev, twoArg_ev, dCB_ev, dCall_ev, dIt_ev, dRng_ev, dYes_ev, dItV_ev, dItN_ev, thenS_ev, skipS_ev, retS_ev, exprS_ev, ifS_ev, setS_ev, setN_ev, augS_ev, isetS_ev, freezeS_ev, appS_ev, parS_ev, unS_ev, setAll_nil, setAll_cons, slot_v, slot_n, forS_ev, tgN_ev, contd_lst, pad_cons_ev, pad_nil_ev, addD_int, subD_int, ltD_int, leD_int, gtD_int, geD_int, negD_int, ipAddD_int, eqD_int, neD_int, lenD_lst, lenD_tup, intD_int, slN_lst, slT_tup, asList_lst, asTup_tup, catN_lst, addD_tup, bind_err, bindS_err, raiseS_ev, heldD_row, isRowD_row, dOwn1_ev, noErr_ok, dLenRow_ev, dEqRow_ev, dMkRow_ev, dUnN_ev, dTupE_ev, plainT_etp, plainT_tup, catE_etp, tupleE_lst, dMethE_ev, dCallFn_ev, dEnum_ev, dEnumT_ev, iaugS_ev, dTru_ev, truD_bl, truD_int, truD_lst, truD_tup, mkS_list, dMeth_ev, dMethN_ev, dMeth0_ev, dZip_ev, dNewDct_ev, asLdc_ldc, sealS_ev, asSeq_lst, asSeq_tup, List.set, List.replicate, List.length_cons, List.length_nil, Nat.zero_add, Nat.reduceAdd, Nat.reduceLeDiff, if_true, Bool.not_true, Bool.not_false, List.map_nil, List.map_cons, bD, q, q2, nD, q3]
    · have q3 : decide (((c o : Nat) : Int) < (k : Int)) = false := by rw [decide_eq_false_iff_not]; omega
      simp only [bstep, if_neg hk]
      simp only [bind_ok, bind_bad, bindS_ok, dV_ev, dL_ev, slotAt_0, slotAt_s, dC_ev, dN2V_ev, dBin_ev, dBinN_ev, dT_ev, asBool_bl, dAndT_ev, dOrT_ev, dNotT_ev, dAnd_ev, dOr_ev, dNot_ev, dIf_ev, dChain_ev, dUn_ev, dNoPart_ev, dPart_ev, dSl_ev, dNil_ev, dCons_ev, dTup_ev, dLst_ev, oneArg_ev, twoArg_ev, dCB_ev, dCall_ev, dIt_ev, dRng_ev, dYes_ev, dItV_ev, dItN_ev, thenS_ev, skipS_ev, retS_ev, exprS_ev, ifS_ev, setS_ev, setN_ev, augS_ev, isetS_ev, freezeS_ev, appS_ev, parS_ev, unS_ev, setAll_nil, setAll_cons, slot_v, slot_n, forS_ev, tgN_ev, contd_lst, pad_cons_ev, pad_nil_ev, addD_int, subD_int, ltD_int, leD_int, gtD_int, geD_int, negD_int, ipAddD_int, eqD_int, neD_int, lenD_lst, lenD_tup, intD_int, slN_lst, slT_tup, asList_lst, asTup_tup, catN_lst, addD_tup, bind_err, bindS_err, raiseS_ev, heldD_row, isRowD_row, dOwn1_ev, noErr_ok, dLenRow_ev, dEqRow_ev, dMkRow_ev, dUnN_ev, dTupE_ev, plainT_etp, plainT_tup, catE_etp, tupleE_lst, dMethE_ev, dCallFn_ev, dEnum_ev, dEnumT_ev, iaugS_ev, dTru_ev, truD_bl, truD_int, truD_lst, truD_tup, mkS_list, dMeth_ev, dMethN_ev, dMeth0_ev, dZip_ev, dNewDct_ev, asLdc_ldc, sealS_ev, asSeq_lst, asSeq_tup, List.set, List.replicate, List.length_cons, List.length_nil, Nat.zero_add, Nat.reduceAdd, Nat.reduceLeDiff, if_true, Bool.not_true, Bool.not_false, List.map_nil, List.map_cons, bD, q, q2, nD, q3]
theorem lw_step (a b : List Int) (t : Nat) (m : List Ob) (hm : noLM m = true) (htb : m[0]? = some tabN) (ha : 1 ≤ a.length) (h : a.length + b.length ≤ 9) (ht : 1 ≤ t) (ht4 : t ≤ 4) (l : List Nat) (hl : Mix a.length b.length l) (o : Option (Nat × List Nat)) (x0 x1 x2 x8 x9 x10 x11 : Slot) :
    lwB [x0, x1, x2, .sh (iT a), .sh (iT b), .sh (nD t), .sh (bD nT o), .sh (nT l), x8, x9, x10, x11] m = .nx [x0, x1, x2, .sh (iT a), .sh (iT b), .sh (nD t), .sh (bD nT (bstep (fun l => lpF (comeF a b l) t) o l)), .sh (nT l), .sh (nD (lpF (comeF a b l) t)), x9, x10, x11] m := by
  have e1 := law_come_ok a b l (nT l) m rfl hl (by rw [hl.len]; omega)
  have hcl : (comeF a b l).length = a.length + b.length := by rw [come_len, hl.len]
  have hne : comeF a b l ≠ [] := by intro e; rw [e] at hcl; rw [List.length_nil] at hcl; omega
  have e3 := law_pulls_ok (iT (comeF a b l)) (comeF a b l) t m hne (by omega) (seq_tup _ (by omega)) hm htb ht ht4
  refine (thenS_nx (ρ' := [x0, x1, x2, .sh (iT a), .sh (iT b), .sh (nD t), .sh (bD nT o), .sh (nT l), .sh (nD (lpF (comeF a b l) t)), x9, x10, x11]) (m' := m) (by
    simp only [setS_ev, dCall_ev, dCons_ev, dV_ev, slotAt_0, slotAt_s, bind_ok, dNil_ev, e1, e3, bindS_ok, List.set])).trans ?_
  exact lwI_ok m (lpF (comeF a b l) t) l o _ _ _ _ _ _ _ _ _ (fun l => lpF (comeF a b l) t) rfl
theorem lw_loop (a b : List Int) (t : Nat) (m : List Ob) (hm : noLM m = true) (htb : m[0]? = some tabN) (ha : 1 ≤ a.length) (h : a.length + b.length ≤ 9) (ht : 1 ≤ t) (ht4 : t ≤ 4) (x0 x1 x2 x9 x10 x11 : Slot) : ∀ (ls : List (List Nat)) (o : Option (Nat × List Nat)) (x7 x8 : Slot), (∀ l ∈ ls, Mix a.length b.length l) → ∃ y7 y8,
    loopS (tgN 7) lwB (ls.map nT) [x0, x1, x2, .sh (iT a), .sh (iT b), .sh (nD t), .sh (bD nT o), x7, x8, x9, x10, x11] m = .nx [x0, x1, x2, .sh (iT a), .sh (iT b), .sh (nD t), .sh (bD nT (ls.foldl (bstep fun l => lpF (comeF a b l) t) o)), y7, y8, x9, x10, x11] m
  | [], o, x7, x8, _ => ⟨x7, x8, rfl⟩
  | l :: ls, o, x7, x8, hl => by
    obtain ⟨y7, y8, e⟩ := lw_loop a b t m hm htb ha h ht ht4 x0 x1 x2 x9 x10 x11 ls (bstep (fun l => lpF (comeF a b l) t) o l) (.sh (nT l)) (.sh (nD (lpF (comeF a b l) t))) fun x hx => hl x (List.mem_cons_of_mem _ hx)
    refine ⟨y7, y8, ?_⟩
    rw [List.map_cons, loop_nx rfl (lw_step a b t m hm htb ha h ht ht4 l (hl l (List.mem_cons_self ..)) o x0 x1 x2 x8 x9 x10 x11), e]
    rfl
theorem okk_nats (l : List Nat) : Okk 1 (nT l) := okk_tup fun d hd => by
  obtain ⟨i, _, rfl⟩ := List.mem_map.mp hd
  exact okk_int _
theorem okk_best (b : Option (Nat × List Nat)) : Okk 2 (bD nT b) := by
  cases b with
  | none => exact ⟨rfl, Nat.zero_le _⟩
  | some p =>
    obtain ⟨k, o⟩ := p
    exact okk_tup fun d hd => by
      rcases List.mem_cons.mp hd with rfl | hd
      · exact okk_mono (okk_int _) (by decide)
      · rw [List.mem_singleton] at hd
        subst hd
        exact okk_nats o
/-! ### too large -/
theorem rows_large (a b : List Int) (t : Nat) (m : List Ob) (h : 6 < a.length) (ha : a.length ≤ 12) (hb : b.length ≤ 12) (ht : 1 ≤ t) (ht4 : t ≤ 4) : den_mixed_rows [.row (iT a), .row (iT b), nD t] m = .err ⟨"TooLarge", []⟩ m := by
  have q1 := check_row_ok (iT a) m
  have q1b := check_row_ok (iT b) m
  have q2 := check_tracks_ok (t : Int) m (by omega) (by omega)
  have q3 := len_row a m
  have q4 := asLen_nat a.length m (by omega)
  have q5 : decide ((6 : Int) < (a.length : Int)) = true := by rw [decide_eq_true_eq]; omega
  refine fnD_er (ρ' := [.sh (.row (iT a)), .sh (.row (iT b)), .sh (nD t), .non, .non, .non]) rfl ?_
  refine (thenS_nx (ρ' := [.sh (.row (iT a)), .sh (.row (iT b)), .sh (nD t), .non, .non, .non]) (m' := m) (by simp only [bind_ok, bind_bad, bindS_ok, dV_ev, dL_ev, slotAt_0, slotAt_s, dC_ev, dN2V_ev, dBin_ev, dBinN_ev, dT_ev, asBool_bl, dAndT_ev, dOrT_ev, dNotT_ev, dAnd_ev, dOr_ev, dNot_ev, dIf_ev, dChain_ev, dUn_ev, dNoPart_ev, dPart_ev, dSl_ev, dNil_ev, dCons_ev, dTup_ev, dLst_ev, oneArg_ev, twoArg_ev, dCB_ev, dCall_ev, dIt_ev, dRng_ev, dYes_ev, dItV_ev, dItN_ev, thenS_ev, skipS_ev, retS_ev, exprS_ev, ifS_ev, setS_ev, setN_ev, augS_ev, isetS_ev, freezeS_ev, appS_ev, parS_ev, unS_ev, setAll_nil, setAll_cons, slot_v, slot_n, forS_ev, tgN_ev, contd_lst, pad_cons_ev, pad_nil_ev, addD_int, subD_int, ltD_int, leD_int, gtD_int, geD_int, negD_int, ipAddD_int, eqD_int, neD_int, lenD_lst, lenD_tup, intD_int, slN_lst, slT_tup, asList_lst, asTup_tup, catN_lst, addD_tup, bind_err, bindS_err, raiseS_ev, heldD_row, isRowD_row, dOwn1_ev, noErr_ok, dLenRow_ev, dEqRow_ev, dMkRow_ev, dUnN_ev, dTupE_ev, plainT_etp, plainT_tup, catE_etp, tupleE_lst, dMethE_ev, dCallFn_ev, dEnum_ev, dEnumT_ev, iaugS_ev, dTru_ev, truD_bl, truD_int, truD_lst, truD_tup, mkS_list, dMeth_ev, dMethN_ev, dMeth0_ev, dZip_ev, dNewDct_ev, asLdc_ldc, sealS_ev, asSeq_lst, asSeq_tup, List.set, List.replicate, List.length_cons, List.length_nil, Nat.zero_add, Nat.reduceAdd, Nat.reduceLeDiff, if_true, Bool.not_true, Bool.not_false, List.map_nil, List.map_cons, q1])).trans ?_
  refine (thenS_nx (ρ' := [.sh (.row (iT a)), .sh (.row (iT b)), .sh (nD t), .non, .non, .non]) (m' := m) (by simp only [bind_ok, bind_bad, bindS_ok, dV_ev, dL_ev, slotAt_0, slotAt_s, dC_ev, dN2V_ev, dBin_ev, dBinN_ev, dT_ev, asBool_bl, dAndT_ev, dOrT_ev, dNotT_ev, dAnd_ev, dOr_ev, dNot_ev, dIf_ev, dChain_ev, dUn_ev, dNoPart_ev, dPart_ev, dSl_ev, dNil_ev, dCons_ev, dTup_ev, dLst_ev, oneArg_ev, twoArg_ev, dCB_ev, dCall_ev, dIt_ev, dRng_ev, dYes_ev, dItV_ev, dItN_ev, thenS_ev, skipS_ev, retS_ev, exprS_ev, ifS_ev, setS_ev, setN_ev, augS_ev, isetS_ev, freezeS_ev, appS_ev, parS_ev, unS_ev, setAll_nil, setAll_cons, slot_v, slot_n, forS_ev, tgN_ev, contd_lst, pad_cons_ev, pad_nil_ev, addD_int, subD_int, ltD_int, leD_int, gtD_int, geD_int, negD_int, ipAddD_int, eqD_int, neD_int, lenD_lst, lenD_tup, intD_int, slN_lst, slT_tup, asList_lst, asTup_tup, catN_lst, addD_tup, bind_err, bindS_err, raiseS_ev, heldD_row, isRowD_row, dOwn1_ev, noErr_ok, dLenRow_ev, dEqRow_ev, dMkRow_ev, dUnN_ev, dTupE_ev, plainT_etp, plainT_tup, catE_etp, tupleE_lst, dMethE_ev, dCallFn_ev, dEnum_ev, dEnumT_ev, iaugS_ev, dTru_ev, truD_bl, truD_int, truD_lst, truD_tup, mkS_list, dMeth_ev, dMethN_ev, dMeth0_ev, dZip_ev, dNewDct_ev, asLdc_ldc, sealS_ev, asSeq_lst, asSeq_tup, List.set, List.replicate, List.length_cons, List.length_nil, Nat.zero_add, Nat.reduceAdd, Nat.reduceLeDiff, if_true, Bool.not_true, Bool.not_false, List.map_nil, List.map_cons, q1b])).trans ?_
  refine (thenS_nx (ρ' := [.sh (.row (iT a)), .sh (.row (iT b)), .sh (nD t), .non, .non, .non]) (m' := m) (by simp only [bind_ok, bind_bad, bindS_ok, dV_ev, dL_ev, slotAt_0, slotAt_s, dC_ev, dN2V_ev, dBin_ev, dBinN_ev, dT_ev, asBool_bl, dAndT_ev, dOrT_ev, dNotT_ev, dAnd_ev, dOr_ev, dNot_ev, dIf_ev, dChain_ev, dUn_ev, dNoPart_ev, dPart_ev, dSl_ev, dNil_ev, dCons_ev, dTup_ev, dLst_ev, oneArg_ev, twoArg_ev, dCB_ev, dCall_ev, dIt_ev, dRng_ev, dYes_ev, dItV_ev, dItN_ev, thenS_ev, skipS_ev, retS_ev, exprS_ev, ifS_ev, setS_ev, setN_ev, augS_ev, isetS_ev, freezeS_ev, appS_ev, parS_ev, unS_ev, setAll_nil, setAll_cons, slot_v, slot_n, forS_ev, tgN_ev, contd_lst, pad_cons_ev, pad_nil_ev, addD_int, subD_int, ltD_int, leD_int, gtD_int, geD_int, negD_int, ipAddD_int, eqD_int, neD_int, lenD_lst, lenD_tup, intD_int, slN_lst, slT_tup, asList_lst, asTup_tup, catN_lst, addD_tup, bind_err, bindS_err, raiseS_ev, heldD_row, isRowD_row, dOwn1_ev, noErr_ok, dLenRow_ev, dEqRow_ev, dMkRow_ev, dUnN_ev, dTupE_ev, plainT_etp, plainT_tup, catE_etp, tupleE_lst, dMethE_ev, dCallFn_ev, dEnum_ev, dEnumT_ev, iaugS_ev, dTru_ev, truD_bl, truD_int, truD_lst, truD_tup, mkS_list, dMeth_ev, dMethN_ev, dMeth0_ev, dZip_ev, dNewDct_ev, asLdc_ldc, sealS_ev, asSeq_lst, asSeq_tup, List.set, List.replicate, List.length_cons, List.length_nil, Nat.zero_add, Nat.reduceAdd, Nat.reduceLeDiff, if_true, Bool.not_true, Bool.not_false, List.map_nil, List.map_cons, nD, q2])).trans ?_
  refine thenS_er ?_
  simp only [bind_ok, bind_bad, bindS_ok, dV_ev, dL_ev, slotAt_0, slotAt_s, dC_ev, dN2V_ev, dBin_ev, dBinN_ev, dT_ev, asBool_bl, dAndT_ev, dOrT_ev, dNotT_ev, dAnd_ev, dOr_ev, dNot_ev, dIf_ev, dChain_ev, dUn_ev, dNoPart_ev, dPart_ev, dSl_ev, dNil_ev, dCons_ev, dTup_ev, dLst_ev, oneArg_ev, twoArg_ev, dCB_ev, dCall_ev, dIt_ev, dRng_ev, dYes_ev, dItV_ev, dItN_ev, thenS_ev, skipS_ev, retS_ev, exprS_ev, ifS_ev, setS_ev, setN_ev, augS_ev, isetS_ev, freezeS_ev, appS_ev, parS_ev, unS_ev, setAll_nil, setAll_cons, slot_v, slot_n, forS_ev, tgN_ev, contd_lst, pad_cons_ev, pad_nil_ev, addD_int, subD_int, ltD_int, leD_int, gtD_int, geD_int, negD_int, ipAddD_int, eqD_int, neD_int, lenD_lst, lenD_tup, intD_int, slN_lst, slT_tup, asList_lst, asTup_tup, catN_lst, addD_tup, bind_err, bindS_err, raiseS_ev, heldD_row, isRowD_row, dOwn1_ev, noErr_ok, dLenRow_ev, dEqRow_ev, dMkRow_ev, dUnN_ev, dTupE_ev, plainT_etp, plainT_tup, catE_etp, tupleE_lst, dMethE_ev, dCallFn_ev, dEnum_ev, dEnumT_ev, iaugS_ev, dTru_ev, truD_bl, truD_int, truD_lst, truD_tup, mkS_list, dMeth_ev, dMethN_ev, dMeth0_ev, dZip_ev, dNewDct_ev, asLdc_ldc, sealS_ev, asSeq_lst, asSeq_tup, List.set, List.replicate, List.length_cons, List.length_nil, Nat.zero_add, Nat.reduceAdd, Nat.reduceLeDiff, if_true, Bool.not_true, Bool.not_false, List.map_nil, List.map_cons, q3, q4, nD, q5]
theorem large_ok (a b : List Int) (m : List Ob) (h1 : 1 ≤ a.length) (ha : a.length ≤ 12) (hb : b.length ≤ 6) : den_law_large [.row (iT a), .row (iT b)] m = .ok (.bl (decide ((6 : Int) < (a.length : Int))), m) := by
  refine fnD_rt rfl ?_
  by_cases h : 6 < a.length
  · have e : den_mixed_rows [.row (iT a), .row (iT b), .int 1] m = .err ⟨"TooLarge", []⟩ m := rows_large a b 1 m h ha (by omega) (by decide) (by decide)
    rw [decide_eq_true (by omega)]
    refine thenS_rt ?_
    refine (try_er (x := ⟨"TooLarge", []⟩) (ρ' := [.sh (.row (iT a)), .sh (.row (iT b))]) (m' := m) ?_).trans rfl
    simp only [bind_ok, bind_bad, bindS_ok, dV_ev, dL_ev, slotAt_0, slotAt_s, dC_ev, dN2V_ev, dBin_ev, dBinN_ev, dT_ev, asBool_bl, dAndT_ev, dOrT_ev, dNotT_ev, dAnd_ev, dOr_ev, dNot_ev, dIf_ev, dChain_ev, dUn_ev, dNoPart_ev, dPart_ev, dSl_ev, dNil_ev, dCons_ev, dTup_ev, dLst_ev, oneArg_ev, twoArg_ev, dCB_ev, dCall_ev, dIt_ev, dRng_ev, dYes_ev, dItV_ev, dItN_ev, thenS_ev, skipS_ev, retS_ev, exprS_ev, ifS_ev, setS_ev, setN_ev, augS_ev, isetS_ev, freezeS_ev, appS_ev, parS_ev, unS_ev, setAll_nil, setAll_cons, slot_v, slot_n, forS_ev, tgN_ev, contd_lst, pad_cons_ev, pad_nil_ev, addD_int, subD_int, ltD_int, leD_int, gtD_int, geD_int, negD_int, ipAddD_int, eqD_int, neD_int, lenD_lst, lenD_tup, intD_int, slN_lst, slT_tup, asList_lst, asTup_tup, catN_lst, addD_tup, bind_err, bindS_err, raiseS_ev, heldD_row, isRowD_row, dOwn1_ev, noErr_ok, dLenRow_ev, dEqRow_ev, dMkRow_ev, dUnN_ev, dTupE_ev, plainT_etp, plainT_tup, catE_etp, tupleE_lst, dMethE_ev, dCallFn_ev, dEnum_ev, dEnumT_ev, iaugS_ev, dTru_ev, truD_bl, truD_int, truD_lst, truD_tup, mkS_list, dMeth_ev, dMethN_ev, dMeth0_ev, dZip_ev, dNewDct_ev, asLdc_ldc, sealS_ev, asSeq_lst, asSeq_tup, List.set, List.replicate, List.length_cons, List.length_nil, Nat.zero_add, Nat.reduceAdd, Nat.reduceLeDiff, if_true, Bool.not_true, Bool.not_false, List.map_nil, List.map_cons, e]
  · have e : den_mixed_rows [.row (iT a), .row (iT b), .int 1] m = .ok (bD nT (mrF a b 1), m) := mixed_rows_ok a b 1 m h1 (by omega) hb (by decide) (by decide)
    rw [decide_eq_false (by omega)]
    refine (thenS_nx (ρ' := [.sh (.row (iT a)), .sh (.row (iT b))]) (m' := m) (try_nx ?_)).trans ?_
    · simp only [bind_ok, bind_bad, bindS_ok, dV_ev, dL_ev, slotAt_0, slotAt_s, dC_ev, dN2V_ev, dBin_ev, dBinN_ev, dT_ev, asBool_bl, dAndT_ev, dOrT_ev, dNotT_ev, dAnd_ev, dOr_ev, dNot_ev, dIf_ev, dChain_ev, dUn_ev, dNoPart_ev, dPart_ev, dSl_ev, dNil_ev, dCons_ev, dTup_ev, dLst_ev, oneArg_ev, twoArg_ev, dCB_ev, dCall_ev, dIt_ev, dRng_ev, dYes_ev, dItV_ev, dItN_ev, thenS_ev, skipS_ev, retS_ev, exprS_ev, ifS_ev, setS_ev, setN_ev, augS_ev, isetS_ev, freezeS_ev, appS_ev, parS_ev, unS_ev, setAll_nil, setAll_cons, slot_v, slot_n, forS_ev, tgN_ev, contd_lst, pad_cons_ev, pad_nil_ev, addD_int, subD_int, ltD_int, leD_int, gtD_int, geD_int, negD_int, ipAddD_int, eqD_int, neD_int, lenD_lst, lenD_tup, intD_int, slN_lst, slT_tup, asList_lst, asTup_tup, catN_lst, addD_tup, bind_err, bindS_err, raiseS_ev, heldD_row, isRowD_row, dOwn1_ev, noErr_ok, dLenRow_ev, dEqRow_ev, dMkRow_ev, dUnN_ev, dTupE_ev, plainT_etp, plainT_tup, catE_etp, tupleE_lst, dMethE_ev, dCallFn_ev, dEnum_ev, dEnumT_ev, iaugS_ev, dTru_ev, truD_bl, truD_int, truD_lst, truD_tup, mkS_list, dMeth_ev, dMethN_ev, dMeth0_ev, dZip_ev, dNewDct_ev, asLdc_ldc, sealS_ev, asSeq_lst, asSeq_tup, List.set, List.replicate, List.length_cons, List.length_nil, Nat.zero_add, Nat.reduceAdd, Nat.reduceLeDiff, if_true, Bool.not_true, Bool.not_false, List.map_nil, List.map_cons, e]
    · simp only [bind_ok, bind_bad, bindS_ok, dV_ev, dL_ev, slotAt_0, slotAt_s, dC_ev, dN2V_ev, dBin_ev, dBinN_ev, dT_ev, asBool_bl, dAndT_ev, dOrT_ev, dNotT_ev, dAnd_ev, dOr_ev, dNot_ev, dIf_ev, dChain_ev, dUn_ev, dNoPart_ev, dPart_ev, dSl_ev, dNil_ev, dCons_ev, dTup_ev, dLst_ev, oneArg_ev, twoArg_ev, dCB_ev, dCall_ev, dIt_ev, dRng_ev, dYes_ev, dItV_ev, dItN_ev, thenS_ev, skipS_ev, retS_ev, exprS_ev, ifS_ev, setS_ev, setN_ev, augS_ev, isetS_ev, freezeS_ev, appS_ev, parS_ev, unS_ev, setAll_nil, setAll_cons, slot_v, slot_n, forS_ev, tgN_ev, contd_lst, pad_cons_ev, pad_nil_ev, addD_int, subD_int, ltD_int, leD_int, gtD_int, geD_int, negD_int, ipAddD_int, eqD_int, neD_int, lenD_lst, lenD_tup, intD_int, slN_lst, slT_tup, asList_lst, asTup_tup, catN_lst, addD_tup, bind_err, bindS_err, raiseS_ev, heldD_row, isRowD_row, dOwn1_ev, noErr_ok, dLenRow_ev, dEqRow_ev, dMkRow_ev, dUnN_ev, dTupE_ev, plainT_etp, plainT_tup, catE_etp, tupleE_lst, dMethE_ev, dCallFn_ev, dEnum_ev, dEnumT_ev, iaugS_ev, dTru_ev, truD_bl, truD_int, truD_lst, truD_tup, mkS_list, dMeth_ev, dMethN_ev, dMeth0_ev, dZip_ev, dNewDct_ev, asLdc_ldc, sealS_ev, asSeq_lst, asSeq_tup, List.set, List.replicate, List.length_cons, List.length_nil, Nat.zero_add, Nat.reduceAdd, Nat.reduceLeDiff, if_true, Bool.not_true, Bool.not_false, List.map_nil, List.map_cons]
/-! ### no mixes -/
theorem mix_not (d : D) (p q : Nat) (m : List Ob) (h : isiD .tup d = .ok (.bl false)) : den_is_mix [d, nD p, nD q] m = .ok (.bl false, m) := by
  refine fnD_rt rfl (thenS_rt ?_)
  simp only [bind_ok, bind_bad, bindS_ok, dV_ev, dL_ev, slotAt_0, slotAt_s, dC_ev, dN2V_ev, dBin_ev, dBinN_ev, dT_ev, asBool_bl, dAndT_ev, dOrT_ev, dNotT_ev, dAnd_ev, dOr_ev, dNot_ev, dIf_ev, dChain_ev, dUn_ev, dNoPart_ev, dPart_ev, dSl_ev, dNil_ev, dCons_ev, dTup_ev, dLst_ev, oneArg_ev, twoArg_ev, dCB_ev, dCall_ev, dIt_ev, dRng_ev, dYes_ev, dItV_ev, dItN_ev, thenS_ev, skipS_ev, retS_ev, exprS_ev, ifS_ev, setS_ev, setN_ev, augS_ev, isetS_ev, freezeS_ev, appS_ev, parS_ev, unS_ev, setAll_nil, setAll_cons, slot_v, slot_n, forS_ev, tgN_ev, contd_lst, pad_cons_ev, pad_nil_ev, addD_int, subD_int, ltD_int, leD_int, gtD_int, geD_int, negD_int, ipAddD_int, eqD_int, neD_int, lenD_lst, lenD_tup, intD_int, slN_lst, slT_tup, asList_lst, asTup_tup, catN_lst, addD_tup, bind_err, bindS_err, raiseS_ev, heldD_row, isRowD_row, dOwn1_ev, noErr_ok, dLenRow_ev, dEqRow_ev, dMkRow_ev, dUnN_ev, dTupE_ev, plainT_etp, plainT_tup, catE_etp, tupleE_lst, dMethE_ev, dCallFn_ev, dEnum_ev, dEnumT_ev, iaugS_ev, dTru_ev, truD_bl, truD_int, truD_lst, truD_tup, mkS_list, dMeth_ev, dMethN_ev, dMeth0_ev, dZip_ev, dNewDct_ev, asLdc_ldc, sealS_ev, asSeq_lst, asSeq_tup, List.set, List.replicate, List.length_cons, List.length_nil, Nat.zero_add, Nat.reduceAdd, Nat.reduceLeDiff, if_true, Bool.not_true, Bool.not_false, List.map_nil, List.map_cons, h]
theorem mix_len (xs : List D) (p q : Nat) (m : List Ob) (h : xs.length ≠ p + q) : den_is_mix [.tup xs, nD p, nD q] m = .ok (.bl false, m) := by
  have q1 : isiD .tup (.tup xs) = .ok (.bl true) := rfl
  have q2 : decide ((xs.length : Int) = (p : Int) + (q : Int)) = false := by rw [decide_eq_false_iff_not]; omega
  refine fnD_rt rfl (thenS_rt ?_)
  simp only [bind_ok, bind_bad, bindS_ok, dV_ev, dL_ev, slotAt_0, slotAt_s, dC_ev, dN2V_ev, dBin_ev, dBinN_ev, dT_ev, asBool_bl, dAndT_ev, dOrT_ev, dNotT_ev, dAnd_ev, dOr_ev, dNot_ev, dIf_ev, dChain_ev, dUn_ev, dNoPart_ev, dPart_ev, dSl_ev, dNil_ev, dCons_ev, dTup_ev, dLst_ev, oneArg_ev, twoArg_ev, dCB_ev, dCall_ev, dIt_ev, dRng_ev, dYes_ev, dItV_ev, dItN_ev, thenS_ev, skipS_ev, retS_ev, exprS_ev, ifS_ev, setS_ev, setN_ev, augS_ev, isetS_ev, freezeS_ev, appS_ev, parS_ev, unS_ev, setAll_nil, setAll_cons, slot_v, slot_n, forS_ev, tgN_ev, contd_lst, pad_cons_ev, pad_nil_ev, addD_int, subD_int, ltD_int, leD_int, gtD_int, geD_int, negD_int, ipAddD_int, eqD_int, neD_int, lenD_lst, lenD_tup, intD_int, slN_lst, slT_tup, asList_lst, asTup_tup, catN_lst, addD_tup, bind_err, bindS_err, raiseS_ev, heldD_row, isRowD_row, dOwn1_ev, noErr_ok, dLenRow_ev, dEqRow_ev, dMkRow_ev, dUnN_ev, dTupE_ev, plainT_etp, plainT_tup, catE_etp, tupleE_lst, dMethE_ev, dCallFn_ev, dEnum_ev, dEnumT_ev, iaugS_ev, dTru_ev, truD_bl, truD_int, truD_lst, truD_tup, mkS_list, dMeth_ev, dMethN_ev, dMeth0_ev, dZip_ev, dNewDct_ev, asLdc_ldc, sealS_ev, asSeq_lst, asSeq_tup, List.set, List.replicate, List.length_cons, List.length_nil, Nat.zero_add, Nat.reduceAdd, Nat.reduceLeDiff, if_true, Bool.not_true, Bool.not_false, List.map_nil, List.map_cons, q1, nD, q2]
theorem from_bl (m : List Ob) : den_is_from [.bl true, .int 0, .int 1] m = .ok (.bl false, m) := by rfl
theorem mix_bl (n p q : Nat) (m : List Ob) (h : n = p + q) (h1 : 1 ≤ n) (h2 : n ≤ 1000) : den_is_mix [.tup (List.replicate n (.bl true)), nD p, nD q] m = .ok (.bl false, m) := by
  have q1 : isiD .tup (.tup (List.replicate n (.bl true))) = .ok (.bl true) := rfl
  have q2 : decide ((n : Int) = (p : Int) + (q : Int)) = true := by rw [decide_eq_true_eq]; omega
  have e1 := dComp_map (ρ := [.sh (.tup (List.replicate n (.bl true))), .sh (nD p), .sh (nD q), .non]) (m := m) (m' := m) (di := dIt asTup (dV 0)) (vs := [3]) (tg := tgN 3) (test := dNotT (dT (dCall den_is_from (dCons (dV 3) (dCons (dC (.int 0)) (dCons (dC (.int 1)) dNil)))))) (elt := dV 3)
    (fun (_ : Nat) => D.bl true) (List.range n) (fun _ => true) (fun _ => D.bl true) (by
      simp only [bind_ok, bind_bad, bindS_ok, dV_ev, dL_ev, slotAt_0, slotAt_s, dC_ev, dN2V_ev, dBin_ev, dBinN_ev, dT_ev, asBool_bl, dAndT_ev, dOrT_ev, dNotT_ev, dAnd_ev, dOr_ev, dNot_ev, dIf_ev, dChain_ev, dUn_ev, dNoPart_ev, dPart_ev, dSl_ev, dNil_ev, dCons_ev, dTup_ev, dLst_ev, oneArg_ev, twoArg_ev, dCB_ev, dCall_ev, dIt_ev, dRng_ev, dYes_ev, dItV_ev, dItN_ev, thenS_ev, skipS_ev, retS_ev, exprS_ev, ifS_ev, setS_ev, setN_ev, augS_ev, isetS_ev, freezeS_ev, appS_ev, parS_ev, unS_ev, setAll_nil, setAll_cons, slot_v, slot_n, forS_ev, tgN_ev, contd_lst, pad_cons_ev, pad_nil_ev, addD_int, subD_int, ltD_int, leD_int, gtD_int, geD_int, negD_int, ipAddD_int, eqD_int, neD_int, lenD_lst, lenD_tup, intD_int, slN_lst, slT_tup, asList_lst, asTup_tup, catN_lst, addD_tup, bind_err, bindS_err, raiseS_ev, heldD_row, isRowD_row, dOwn1_ev, noErr_ok, dLenRow_ev, dEqRow_ev, dMkRow_ev, dUnN_ev, dTupE_ev, plainT_etp, plainT_tup, catE_etp, tupleE_lst, dMethE_ev, dCallFn_ev, dEnum_ev, dEnumT_ev, iaugS_ev, dTru_ev, truD_bl, truD_int, truD_lst, truD_tup, mkS_list, dMeth_ev, dMethN_ev, dMeth0_ev, dZip_ev, dNewDct_ev, asLdc_ldc, sealS_ev, asSeq_lst, asSeq_tup, List.set, List.replicate, List.length_cons, List.length_nil, Nat.zero_add, Nat.reduceAdd, Nat.reduceLeDiff, if_true, Bool.not_true, Bool.not_false, List.map_nil, List.map_cons]
      rw [List.map_const', List.length_range]) rfl (by rw [List.length_range]; omega) (fun _ _ => ⟨_, rfl, by simp only [bind_ok, bind_bad, bindS_ok, dV_ev, dL_ev, slotAt_0, slotAt_s, dC_ev, dN2V_ev, dBin_ev, dBinN_ev, dT_ev, asBool_bl, dAndT_ev, dOrT_ev, dNotT_ev, dAnd_ev, dOr_ev, dNot_ev, dIf_ev, dChain_ev, dUn_ev, dNoPart_ev, dPart_ev, dSl_ev, dNil_ev, dCons_ev, dTup_ev, dLst_ev, oneArg_ev, twoArg_ev, dCB_ev, dCall_ev, dIt_ev, dRng_ev, dYes_ev, dItV_ev, dItN_ev, thenS_ev, skipS_ev, retS_ev, exprS_ev, ifS_ev, setS_ev, setN_ev, augS_ev, isetS_ev, freezeS_ev, appS_ev, parS_ev, unS_ev, setAll_nil, setAll_cons, slot_v, slot_n, forS_ev, tgN_ev, contd_lst, pad_cons_ev, pad_nil_ev, addD_int, subD_int, ltD_int, leD_int, gtD_int, geD_int, negD_int, ipAddD_int, eqD_int, neD_int, lenD_lst, lenD_tup, intD_int, slN_lst, slT_tup, asList_lst, asTup_tup, catN_lst, addD_tup, bind_err, bindS_err, raiseS_ev, heldD_row, isRowD_row, dOwn1_ev, noErr_ok, dLenRow_ev, dEqRow_ev, dMkRow_ev, dUnN_ev, dTupE_ev, plainT_etp, plainT_tup, catE_etp, tupleE_lst, dMethE_ev, dCallFn_ev, dEnum_ev, dEnumT_ev, iaugS_ev, dTru_ev, truD_bl, truD_int, truD_lst, truD_tup, mkS_list, dMeth_ev, dMethN_ev, dMeth0_ev, dZip_ev, dNewDct_ev, asLdc_ldc, sealS_ev, asSeq_lst, asSeq_tup, List.set, List.replicate, List.length_cons, List.length_nil, Nat.zero_add, Nat.reduceAdd, Nat.reduceLeDiff, if_true, Bool.not_true, Bool.not_false, List.map_nil, List.map_cons, wipeS, from_bl], fun _ => by simp only [bind_ok, bind_bad, bindS_ok, dV_ev, dL_ev, slotAt_0, slotAt_s, dC_ev, dN2V_ev, dBin_ev, dBinN_ev, dT_ev, asBool_bl, dAndT_ev, dOrT_ev, dNotT_ev, dAnd_ev, dOr_ev, dNot_ev, dIf_ev, dChain_ev, dUn_ev, dNoPart_ev, dPart_ev, dSl_ev, dNil_ev, dCons_ev, dTup_ev, dLst_ev, oneArg_ev, twoArg_ev, dCB_ev, dCall_ev, dIt_ev, dRng_ev, dYes_ev, dItV_ev, dItN_ev, thenS_ev, skipS_ev, retS_ev, exprS_ev, ifS_ev, setS_ev, setN_ev, augS_ev, isetS_ev, freezeS_ev, appS_ev, parS_ev, unS_ev, setAll_nil, setAll_cons, slot_v, slot_n, forS_ev, tgN_ev, contd_lst, pad_cons_ev, pad_nil_ev, addD_int, subD_int, ltD_int, leD_int, gtD_int, geD_int, negD_int, ipAddD_int, eqD_int, neD_int, lenD_lst, lenD_tup, intD_int, slN_lst, slT_tup, asList_lst, asTup_tup, catN_lst, addD_tup, bind_err, bindS_err, raiseS_ev, heldD_row, isRowD_row, dOwn1_ev, noErr_ok, dLenRow_ev, dEqRow_ev, dMkRow_ev, dUnN_ev, dTupE_ev, plainT_etp, plainT_tup, catE_etp, tupleE_lst, dMethE_ev, dCallFn_ev, dEnum_ev, dEnumT_ev, iaugS_ev, dTru_ev, truD_bl, truD_int, truD_lst, truD_tup, mkS_list, dMeth_ev, dMethN_ev, dMeth0_ev, dZip_ev, dNewDct_ev, asLdc_ldc, sealS_ev, asSeq_lst, asSeq_tup, List.set, List.replicate, List.length_cons, List.length_nil, Nat.zero_add, Nat.reduceAdd, Nat.reduceLeDiff, if_true, Bool.not_true, Bool.not_false, List.map_nil, List.map_cons, wipeS]⟩)
  refine fnD_rt rfl ?_
  refine (thenS_nx (ρ' := [.sh (.tup (List.replicate n (.bl true))), .sh (nD p), .sh (nD q), .non]) (m' := m) (by simp only [bind_ok, bind_bad, bindS_ok, dV_ev, dL_ev, slotAt_0, slotAt_s, dC_ev, dN2V_ev, dBin_ev, dBinN_ev, dT_ev, asBool_bl, dAndT_ev, dOrT_ev, dNotT_ev, dAnd_ev, dOr_ev, dNot_ev, dIf_ev, dChain_ev, dUn_ev, dNoPart_ev, dPart_ev, dSl_ev, dNil_ev, dCons_ev, dTup_ev, dLst_ev, oneArg_ev, twoArg_ev, dCB_ev, dCall_ev, dIt_ev, dRng_ev, dYes_ev, dItV_ev, dItN_ev, thenS_ev, skipS_ev, retS_ev, exprS_ev, ifS_ev, setS_ev, setN_ev, augS_ev, isetS_ev, freezeS_ev, appS_ev, parS_ev, unS_ev, setAll_nil, setAll_cons, slot_v, slot_n, forS_ev, tgN_ev, contd_lst, pad_cons_ev, pad_nil_ev, addD_int, subD_int, ltD_int, leD_int, gtD_int, geD_int, negD_int, ipAddD_int, eqD_int, neD_int, lenD_lst, lenD_tup, intD_int, slN_lst, slT_tup, asList_lst, asTup_tup, catN_lst, addD_tup, bind_err, bindS_err, raiseS_ev, heldD_row, isRowD_row, dOwn1_ev, noErr_ok, dLenRow_ev, dEqRow_ev, dMkRow_ev, dUnN_ev, dTupE_ev, plainT_etp, plainT_tup, catE_etp, tupleE_lst, dMethE_ev, dCallFn_ev, dEnum_ev, dEnumT_ev, iaugS_ev, dTru_ev, truD_bl, truD_int, truD_lst, truD_tup, mkS_list, dMeth_ev, dMethN_ev, dMeth0_ev, dZip_ev, dNewDct_ev, asLdc_ldc, sealS_ev, asSeq_lst, asSeq_tup, List.set, List.replicate, List.length_cons, List.length_nil, Nat.zero_add, Nat.reduceAdd, Nat.reduceLeDiff, if_true, Bool.not_true, Bool.not_false, List.map_nil, List.map_cons, q1, nD, List.length_replicate, q2])).trans ?_
  refine thenS_rt ?_
  simp only [ifS_ev, dTru_ev, dN2V_ev, e1, bind_ok, contd_lst, truD_lst, bindS_ok]
  cases n with
  | zero => omega
  | succ n => rw [List.range_succ_eq_map]; rfl
theorem sum_nats (l : List Nat) : sumT (nT l) = .ok (nD l.sum) := by
  show (match ints? (l.map nD) with
    | some ns => Res.ok (D.int ns.sum)
    | none => .bad) = _
  have e : l.map nD = (l.map fun (x : Nat) => (x : Int)).map D.int := by rw [List.map_map]; rfl
  rw [e, ints?_map]
  have e2 : ∀ l : List Nat, (l.map fun (x : Nat) => (x : Int)).sum = ((l.sum : Nat) : Int) := by
    intro l
    induction l with
    | nil => rfl
    | cons a r ih => rw [List.map_cons, List.sum_cons, List.sum_cons, ih]; omega
  dsimp only
  rw [e2]
theorem mix_sum (l : List Nat) (p q : Nat) (m : List Ob) (h : l.length = p + q) (hb : ∀ x ∈ l, x ≤ 1) (hs : l.sum ≠ q) (hl : l.length ≤ 1000) : den_is_mix [nT l, nD p, nD q] m = .ok (.bl false, m) := by
  have e1 := bits_ok l m hb (.sh (nD p)) (.sh (nD q)) hl
  have q1 : isiD .tup (nT l) = .ok (.bl true) := rfl
  have q2 : decide (((l.map nD).length : Int) = (p : Int) + (q : Int)) = true := by rw [List.length_map, h, decide_eq_true_eq]; omega
  have q3 := sum_nats l
  have q4 : decide (((l.sum : Nat) : Int) = (q : Int)) = false := by rw [decide_eq_false_iff_not]; omega
  refine fnD_rt rfl ?_
  refine (thenS_nx (ρ' := [.sh (nT l), .sh (nD p), .sh (nD q), .non]) (m' := m) (by simp only [bind_ok, bind_bad, bindS_ok, dV_ev, dL_ev, slotAt_0, slotAt_s, dC_ev, dN2V_ev, dBin_ev, dBinN_ev, dT_ev, asBool_bl, dAndT_ev, dOrT_ev, dNotT_ev, dAnd_ev, dOr_ev, dNot_ev, dIf_ev, dChain_ev, dUn_ev, dNoPart_ev, dPart_ev, dSl_ev, dNil_ev, dCons_ev, dTup_ev, dLst_ev, oneArg_ev, twoArg_ev, dCB_ev, dCall_ev, dIt_ev, dRng_ev, dYes_ev, dItV_ev, dItN_ev, thenS_ev, skipS_ev, retS_ev, exprS_ev, ifS_ev, setS_ev, setN_ev, augS_ev, isetS_ev, freezeS_ev, appS_ev, parS_ev, unS_ev, setAll_nil, setAll_cons, slot_v, slot_n, forS_ev, tgN_ev, contd_lst, pad_cons_ev, pad_nil_ev, addD_int, subD_int, ltD_int, leD_int, gtD_int, geD_int, negD_int, ipAddD_int, eqD_int, neD_int, lenD_lst, lenD_tup, intD_int, slN_lst, slT_tup, asList_lst, asTup_tup, catN_lst, addD_tup, bind_err, bindS_err, raiseS_ev, heldD_row, isRowD_row, dOwn1_ev, noErr_ok, dLenRow_ev, dEqRow_ev, dMkRow_ev, dUnN_ev, dTupE_ev, plainT_etp, plainT_tup, catE_etp, tupleE_lst, dMethE_ev, dCallFn_ev, dEnum_ev, dEnumT_ev, iaugS_ev, dTru_ev, truD_bl, truD_int, truD_lst, truD_tup, mkS_list, dMeth_ev, dMethN_ev, dMeth0_ev, dZip_ev, dNewDct_ev, asLdc_ldc, sealS_ev, asSeq_lst, asSeq_tup, List.set, List.replicate, List.length_cons, List.length_nil, Nat.zero_add, Nat.reduceAdd, Nat.reduceLeDiff, if_true, Bool.not_true, Bool.not_false, List.map_nil, List.map_cons, q1, nD, q2])).trans ?_
  refine (thenS_nx (ρ' := [.sh (nT l), .sh (nD p), .sh (nD q), .non]) (m' := m) (by simp only [ifS_ev, dTru_ev, dN2V_ev, e1, bind_ok, contd_lst, truD_lst, bindS_ok, List.isEmpty_nil, Bool.not_true, skipS_ev])).trans ?_
  simp only [bind_ok, bind_bad, bindS_ok, dV_ev, dL_ev, slotAt_0, slotAt_s, dC_ev, dN2V_ev, dBin_ev, dBinN_ev, dT_ev, asBool_bl, dAndT_ev, dOrT_ev, dNotT_ev, dAnd_ev, dOr_ev, dNot_ev, dIf_ev, dChain_ev, dUn_ev, dNoPart_ev, dPart_ev, dSl_ev, dNil_ev, dCons_ev, dTup_ev, dLst_ev, oneArg_ev, twoArg_ev, dCB_ev, dCall_ev, dIt_ev, dRng_ev, dYes_ev, dItV_ev, dItN_ev, thenS_ev, skipS_ev, retS_ev, exprS_ev, ifS_ev, setS_ev, setN_ev, augS_ev, isetS_ev, freezeS_ev, appS_ev, parS_ev, unS_ev, setAll_nil, setAll_cons, slot_v, slot_n, forS_ev, tgN_ev, contd_lst, pad_cons_ev, pad_nil_ev, addD_int, subD_int, ltD_int, leD_int, gtD_int, geD_int, negD_int, ipAddD_int, eqD_int, neD_int, lenD_lst, lenD_tup, intD_int, slN_lst, slT_tup, asList_lst, asTup_tup, catN_lst, addD_tup, bind_err, bindS_err, raiseS_ev, heldD_row, isRowD_row, dOwn1_ev, noErr_ok, dLenRow_ev, dEqRow_ev, dMkRow_ev, dUnN_ev, dTupE_ev, plainT_etp, plainT_tup, catE_etp, tupleE_lst, dMethE_ev, dCallFn_ev, dEnum_ev, dEnumT_ev, iaugS_ev, dTru_ev, truD_bl, truD_int, truD_lst, truD_tup, mkS_list, dMeth_ev, dMethN_ev, dMeth0_ev, dZip_ev, dNewDct_ev, asLdc_ldc, sealS_ev, asSeq_lst, asSeq_tup, List.set, List.replicate, List.length_cons, List.length_nil, Nat.zero_add, Nat.reduceAdd, Nat.reduceLeDiff, if_true, Bool.not_true, Bool.not_false, List.map_nil, List.map_cons, q3, nD, q4]
theorem mixed_bad (a b : List Int) (d : D) (m : List Ob) (hab : a.length + b.length ≤ 12) (h : den_is_mix [d, nD a.length, nD b.length] m = .ok (.bl false, m)) : den_mixed [.row (iT a), .row (iT b), d] m = .err ⟨"BadMix", []⟩ m := by
  have q1 := check_row_ok (iT a) m
  have q1b := check_row_ok (iT b) m
  have q3 := len_row a m
  have q3b := len_row b m
  have q4 := asLen_nat a.length m (by omega)
  have q4b := asLen_nat b.length m (by omega)
  have q5 : decide ((12 : Int) < (a.length : Int) + (b.length : Int)) = false := by rw [decide_eq_false_iff_not]; omega
  refine fnD_er (ρ' := [.sh (.row (iT a)), .sh (.row (iT b)), .sh d]) rfl ?_
  refine (thenS_nx (ρ' := [.sh (.row (iT a)), .sh (.row (iT b)), .sh d]) (m' := m) (by simp only [bind_ok, bind_bad, bindS_ok, dV_ev, dL_ev, slotAt_0, slotAt_s, dC_ev, dN2V_ev, dBin_ev, dBinN_ev, dT_ev, asBool_bl, dAndT_ev, dOrT_ev, dNotT_ev, dAnd_ev, dOr_ev, dNot_ev, dIf_ev, dChain_ev, dUn_ev, dNoPart_ev, dPart_ev, dSl_ev, dNil_ev, dCons_ev, dTup_ev, dLst_ev, oneArg_ev, twoArg_ev, dCB_ev, dCall_ev, dIt_ev, dRng_ev, dYes_ev, dItV_ev, dItN_ev, thenS_ev, skipS_ev, retS_ev, exprS_ev, ifS_ev, setS_ev, setN_ev, augS_ev, isetS_ev, freezeS_ev, appS_ev, parS_ev, unS_ev, setAll_nil, setAll_cons, slot_v, slot_n, forS_ev, tgN_ev, contd_lst, pad_cons_ev, pad_nil_ev, addD_int, subD_int, ltD_int, leD_int, gtD_int, geD_int, negD_int, ipAddD_int, eqD_int, neD_int, lenD_lst, lenD_tup, intD_int, slN_lst, slT_tup, asList_lst, asTup_tup, catN_lst, addD_tup, bind_err, bindS_err, raiseS_ev, heldD_row, isRowD_row, dOwn1_ev, noErr_ok, dLenRow_ev, dEqRow_ev, dMkRow_ev, dUnN_ev, dTupE_ev, plainT_etp, plainT_tup, catE_etp, tupleE_lst, dMethE_ev, dCallFn_ev, dEnum_ev, dEnumT_ev, iaugS_ev, dTru_ev, truD_bl, truD_int, truD_lst, truD_tup, mkS_list, dMeth_ev, dMethN_ev, dMeth0_ev, dZip_ev, dNewDct_ev, asLdc_ldc, sealS_ev, asSeq_lst, asSeq_tup, List.set, List.replicate, List.length_cons, List.length_nil, Nat.zero_add, Nat.reduceAdd, Nat.reduceLeDiff, if_true, Bool.not_true, Bool.not_false, List.map_nil, List.map_cons, q1])).trans ?_
  refine (thenS_nx (ρ' := [.sh (.row (iT a)), .sh (.row (iT b)), .sh d]) (m' := m) (by simp only [bind_ok, bind_bad, bindS_ok, dV_ev, dL_ev, slotAt_0, slotAt_s, dC_ev, dN2V_ev, dBin_ev, dBinN_ev, dT_ev, asBool_bl, dAndT_ev, dOrT_ev, dNotT_ev, dAnd_ev, dOr_ev, dNot_ev, dIf_ev, dChain_ev, dUn_ev, dNoPart_ev, dPart_ev, dSl_ev, dNil_ev, dCons_ev, dTup_ev, dLst_ev, oneArg_ev, twoArg_ev, dCB_ev, dCall_ev, dIt_ev, dRng_ev, dYes_ev, dItV_ev, dItN_ev, thenS_ev, skipS_ev, retS_ev, exprS_ev, ifS_ev, setS_ev, setN_ev, augS_ev, isetS_ev, freezeS_ev, appS_ev, parS_ev, unS_ev, setAll_nil, setAll_cons, slot_v, slot_n, forS_ev, tgN_ev, contd_lst, pad_cons_ev, pad_nil_ev, addD_int, subD_int, ltD_int, leD_int, gtD_int, geD_int, negD_int, ipAddD_int, eqD_int, neD_int, lenD_lst, lenD_tup, intD_int, slN_lst, slT_tup, asList_lst, asTup_tup, catN_lst, addD_tup, bind_err, bindS_err, raiseS_ev, heldD_row, isRowD_row, dOwn1_ev, noErr_ok, dLenRow_ev, dEqRow_ev, dMkRow_ev, dUnN_ev, dTupE_ev, plainT_etp, plainT_tup, catE_etp, tupleE_lst, dMethE_ev, dCallFn_ev, dEnum_ev, dEnumT_ev, iaugS_ev, dTru_ev, truD_bl, truD_int, truD_lst, truD_tup, mkS_list, dMeth_ev, dMethN_ev, dMeth0_ev, dZip_ev, dNewDct_ev, asLdc_ldc, sealS_ev, asSeq_lst, asSeq_tup, List.set, List.replicate, List.length_cons, List.length_nil, Nat.zero_add, Nat.reduceAdd, Nat.reduceLeDiff, if_true, Bool.not_true, Bool.not_false, List.map_nil, List.map_cons, q1b])).trans ?_
  refine (thenS_nx (ρ' := [.sh (.row (iT a)), .sh (.row (iT b)), .sh d]) (m' := m) (by simp only [bind_ok, bind_bad, bindS_ok, dV_ev, dL_ev, slotAt_0, slotAt_s, dC_ev, dN2V_ev, dBin_ev, dBinN_ev, dT_ev, asBool_bl, dAndT_ev, dOrT_ev, dNotT_ev, dAnd_ev, dOr_ev, dNot_ev, dIf_ev, dChain_ev, dUn_ev, dNoPart_ev, dPart_ev, dSl_ev, dNil_ev, dCons_ev, dTup_ev, dLst_ev, oneArg_ev, twoArg_ev, dCB_ev, dCall_ev, dIt_ev, dRng_ev, dYes_ev, dItV_ev, dItN_ev, thenS_ev, skipS_ev, retS_ev, exprS_ev, ifS_ev, setS_ev, setN_ev, augS_ev, isetS_ev, freezeS_ev, appS_ev, parS_ev, unS_ev, setAll_nil, setAll_cons, slot_v, slot_n, forS_ev, tgN_ev, contd_lst, pad_cons_ev, pad_nil_ev, addD_int, subD_int, ltD_int, leD_int, gtD_int, geD_int, negD_int, ipAddD_int, eqD_int, neD_int, lenD_lst, lenD_tup, intD_int, slN_lst, slT_tup, asList_lst, asTup_tup, catN_lst, addD_tup, bind_err, bindS_err, raiseS_ev, heldD_row, isRowD_row, dOwn1_ev, noErr_ok, dLenRow_ev, dEqRow_ev, dMkRow_ev, dUnN_ev, dTupE_ev, plainT_etp, plainT_tup, catE_etp, tupleE_lst, dMethE_ev, dCallFn_ev, dEnum_ev, dEnumT_ev, iaugS_ev, dTru_ev, truD_bl, truD_int, truD_lst, truD_tup, mkS_list, dMeth_ev, dMethN_ev, dMeth0_ev, dZip_ev, dNewDct_ev, asLdc_ldc, sealS_ev, asSeq_lst, asSeq_tup, List.set, List.replicate, List.length_cons, List.length_nil, Nat.zero_add, Nat.reduceAdd, Nat.reduceLeDiff, if_true, Bool.not_true, Bool.not_false, List.map_nil, List.map_cons, q3, q4, q3b, q4b, nD, q5])).trans ?_
  refine thenS_er ?_
  simp only [bind_ok, bind_bad, bindS_ok, dV_ev, dL_ev, slotAt_0, slotAt_s, dC_ev, dN2V_ev, dBin_ev, dBinN_ev, dT_ev, asBool_bl, dAndT_ev, dOrT_ev, dNotT_ev, dAnd_ev, dOr_ev, dNot_ev, dIf_ev, dChain_ev, dUn_ev, dNoPart_ev, dPart_ev, dSl_ev, dNil_ev, dCons_ev, dTup_ev, dLst_ev, oneArg_ev, twoArg_ev, dCB_ev, dCall_ev, dIt_ev, dRng_ev, dYes_ev, dItV_ev, dItN_ev, thenS_ev, skipS_ev, retS_ev, exprS_ev, ifS_ev, setS_ev, setN_ev, augS_ev, isetS_ev, freezeS_ev, appS_ev, parS_ev, unS_ev, setAll_nil, setAll_cons, slot_v, slot_n, forS_ev, tgN_ev, contd_lst, pad_cons_ev, pad_nil_ev, addD_int, subD_int, ltD_int, leD_int, gtD_int, geD_int, negD_int, ipAddD_int, eqD_int, neD_int, lenD_lst, lenD_tup, intD_int, slN_lst, slT_tup, asList_lst, asTup_tup, catN_lst, addD_tup, bind_err, bindS_err, raiseS_ev, heldD_row, isRowD_row, dOwn1_ev, noErr_ok, dLenRow_ev, dEqRow_ev, dMkRow_ev, dUnN_ev, dTupE_ev, plainT_etp, plainT_tup, catE_etp, tupleE_lst, dMethE_ev, dCallFn_ev, dEnum_ev, dEnumT_ev, iaugS_ev, dTru_ev, truD_bl, truD_int, truD_lst, truD_tup, mkS_list, dMeth_ev, dMethN_ev, dMeth0_ev, dZip_ev, dNewDct_ev, asLdc_ldc, sealS_ev, asSeq_lst, asSeq_tup, List.set, List.replicate, List.length_cons, List.length_nil, Nat.zero_add, Nat.reduceAdd, Nat.reduceLeDiff, if_true, Bool.not_true, Bool.not_false, List.map_nil, List.map_cons, q3, q4, q3b, q4b, h]
theorem mixed_large (a b : List Int) (d : D) (m : List Ob) (ha : a.length ≤ 12) (hb : b.length ≤ 12) (hab : 12 < a.length + b.length) : den_mixed [.row (iT a), .row (iT b), d] m = .err ⟨"TooLarge", []⟩ m := by
  have q1 := check_row_ok (iT a) m
  have q1b := check_row_ok (iT b) m
  have q3 := len_row a m
  have q3b := len_row b m
  have q4 := asLen_nat a.length m (by omega)
  have q4b := asLen_nat b.length m (by omega)
  have q5 : decide ((12 : Int) < (a.length : Int) + (b.length : Int)) = true := by rw [decide_eq_true_eq]; omega
  refine fnD_er (ρ' := [.sh (.row (iT a)), .sh (.row (iT b)), .sh d]) rfl ?_
  refine (thenS_nx (ρ' := [.sh (.row (iT a)), .sh (.row (iT b)), .sh d]) (m' := m) (by simp only [bind_ok, bind_bad, bindS_ok, dV_ev, dL_ev, slotAt_0, slotAt_s, dC_ev, dN2V_ev, dBin_ev, dBinN_ev, dT_ev, asBool_bl, dAndT_ev, dOrT_ev, dNotT_ev, dAnd_ev, dOr_ev, dNot_ev, dIf_ev, dChain_ev, dUn_ev, dNoPart_ev, dPart_ev, dSl_ev, dNil_ev, dCons_ev, dTup_ev, dLst_ev, oneArg_ev, twoArg_ev, dCB_ev, dCall_ev, dIt_ev, dRng_ev, dYes_ev, dItV_ev, dItN_ev, thenS_ev, skipS_ev, retS_ev, exprS_ev, ifS_ev, setS_ev, setN_ev, augS_ev, isetS_ev, freezeS_ev, appS_ev, parS_ev, unS_ev, setAll_nil, setAll_cons, slot_v, slot_n, forS_ev, tgN_ev, contd_lst, pad_cons_ev, pad_nil_ev, addD_int, subD_int, ltD_int, leD_int, gtD_int, geD_int, negD_int, ipAddD_int, eqD_int, neD_int, lenD_lst, lenD_tup, intD_int, slN_lst, slT_tup, asList_lst, asTup_tup, catN_lst, addD_tup, bind_err, bindS_err, raiseS_ev, heldD_row, isRowD_row, dOwn1_ev, noErr_ok, dLenRow_ev, dEqRow_ev, dMkRow_ev, dUnN_ev, dTupE_ev, plainT_etp, plainT_tup, catE_etp, tupleE_lst, dMethE_ev, dCallFn_ev, dEnum_ev, dEnumT_ev, iaugS_ev, dTru_ev, truD_bl, truD_int, truD_lst, truD_tup, mkS_list, dMeth_ev, dMethN_ev, dMeth0_ev, dZip_ev, dNewDct_ev, asLdc_ldc, sealS_ev, asSeq_lst, asSeq_tup, List.set, List.replicate, List.length_cons, List.length_nil, Nat.zero_add, Nat.reduceAdd, Nat.reduceLeDiff, if_true, Bool.not_true, Bool.not_false, List.map_nil, List.map_cons, q1])).trans ?_
  refine (thenS_nx (ρ' := [.sh (.row (iT a)), .sh (.row (iT b)), .sh d]) (m' := m) (by simp only [bind_ok, bind_bad, bindS_ok, dV_ev, dL_ev, slotAt_0, slotAt_s, dC_ev, dN2V_ev, dBin_ev, dBinN_ev, dT_ev, asBool_bl, dAndT_ev, dOrT_ev, dNotT_ev, dAnd_ev, dOr_ev, dNot_ev, dIf_ev, dChain_ev, dUn_ev, dNoPart_ev, dPart_ev, dSl_ev, dNil_ev, dCons_ev, dTup_ev, dLst_ev, oneArg_ev, twoArg_ev, dCB_ev, dCall_ev, dIt_ev, dRng_ev, dYes_ev, dItV_ev, dItN_ev, thenS_ev, skipS_ev, retS_ev, exprS_ev, ifS_ev, setS_ev, setN_ev, augS_ev, isetS_ev, freezeS_ev, appS_ev, parS_ev, unS_ev, setAll_nil, setAll_cons, slot_v, slot_n, forS_ev, tgN_ev, contd_lst, pad_cons_ev, pad_nil_ev, addD_int, subD_int, ltD_int, leD_int, gtD_int, geD_int, negD_int, ipAddD_int, eqD_int, neD_int, lenD_lst, lenD_tup, intD_int, slN_lst, slT_tup, asList_lst, asTup_tup, catN_lst, addD_tup, bind_err, bindS_err, raiseS_ev, heldD_row, isRowD_row, dOwn1_ev, noErr_ok, dLenRow_ev, dEqRow_ev, dMkRow_ev, dUnN_ev, dTupE_ev, plainT_etp, plainT_tup, catE_etp, tupleE_lst, dMethE_ev, dCallFn_ev, dEnum_ev, dEnumT_ev, iaugS_ev, dTru_ev, truD_bl, truD_int, truD_lst, truD_tup, mkS_list, dMeth_ev, dMethN_ev, dMeth0_ev, dZip_ev, dNewDct_ev, asLdc_ldc, sealS_ev, asSeq_lst, asSeq_tup, List.set, List.replicate, List.length_cons, List.length_nil, Nat.zero_add, Nat.reduceAdd, Nat.reduceLeDiff, if_true, Bool.not_true, Bool.not_false, List.map_nil, List.map_cons, q1b])).trans ?_
  refine thenS_er ?_
  simp only [bind_ok, bind_bad, bindS_ok, dV_ev, dL_ev, slotAt_0, slotAt_s, dC_ev, dN2V_ev, dBin_ev, dBinN_ev, dT_ev, asBool_bl, dAndT_ev, dOrT_ev, dNotT_ev, dAnd_ev, dOr_ev, dNot_ev, dIf_ev, dChain_ev, dUn_ev, dNoPart_ev, dPart_ev, dSl_ev, dNil_ev, dCons_ev, dTup_ev, dLst_ev, oneArg_ev, twoArg_ev, dCB_ev, dCall_ev, dIt_ev, dRng_ev, dYes_ev, dItV_ev, dItN_ev, thenS_ev, skipS_ev, retS_ev, exprS_ev, ifS_ev, setS_ev, setN_ev, augS_ev, isetS_ev, freezeS_ev, appS_ev, parS_ev, unS_ev, setAll_nil, setAll_cons, slot_v, slot_n, forS_ev, tgN_ev, contd_lst, pad_cons_ev, pad_nil_ev, addD_int, subD_int, ltD_int, leD_int, gtD_int, geD_int, negD_int, ipAddD_int, eqD_int, neD_int, lenD_lst, lenD_tup, intD_int, slN_lst, slT_tup, asList_lst, asTup_tup, catN_lst, addD_tup, bind_err, bindS_err, raiseS_ev, heldD_row, isRowD_row, dOwn1_ev, noErr_ok, dLenRow_ev, dEqRow_ev, dMkRow_ev, dUnN_ev, dTupE_ev, plainT_etp, plainT_tup, catE_etp, tupleE_lst, dMethE_ev, dCallFn_ev, dEnum_ev, dEnumT_ev, iaugS_ev, dTru_ev, truD_bl, truD_int, truD_lst, truD_tup, mkS_list, dMeth_ev, dMethN_ev, dMeth0_ev, dZip_ev, dNewDct_ev, asLdc_ldc, sealS_ev, asSeq_lst, asSeq_tup, List.set, List.replicate, List.length_cons, List.length_nil, Nat.zero_add, Nat.reduceAdd, Nat.reduceLeDiff, if_true, Bool.not_true, Bool.not_false, List.map_nil, List.map_cons, q3, q4, q3b, q4b, nD, q5]
theorem told_mix (a b : List Int) (d : D) (m : List Ob) (h : den_mixed [.row (iT a), .row (iT b), d] m = .err ⟨"BadMix", []⟩ m) : den_law_told [.row (iT a), .row (iT b), d] m = .ok (.str "mix", m) := by
  refine fnD_rt rfl ((try_er (x := ⟨"BadMix", []⟩) (ρ' := [.sh (.row (iT a)), .sh (.row (iT b)), .sh d]) (m' := m) ?_).trans rfl)
  simp only [bind_ok, bind_bad, bindS_ok, dV_ev, dL_ev, slotAt_0, slotAt_s, dC_ev, dN2V_ev, dBin_ev, dBinN_ev, dT_ev, asBool_bl, dAndT_ev, dOrT_ev, dNotT_ev, dAnd_ev, dOr_ev, dNot_ev, dIf_ev, dChain_ev, dUn_ev, dNoPart_ev, dPart_ev, dSl_ev, dNil_ev, dCons_ev, dTup_ev, dLst_ev, oneArg_ev, twoArg_ev, dCB_ev, dCall_ev, dIt_ev, dRng_ev, dYes_ev, dItV_ev, dItN_ev, thenS_ev, skipS_ev, retS_ev, exprS_ev, ifS_ev, setS_ev, setN_ev, augS_ev, isetS_ev, freezeS_ev, appS_ev, parS_ev, unS_ev, setAll_nil, setAll_cons, slot_v, slot_n, forS_ev, tgN_ev, contd_lst, pad_cons_ev, pad_nil_ev, addD_int, subD_int, ltD_int, leD_int, gtD_int, geD_int, negD_int, ipAddD_int, eqD_int, neD_int, lenD_lst, lenD_tup, intD_int, slN_lst, slT_tup, asList_lst, asTup_tup, catN_lst, addD_tup, bind_err, bindS_err, raiseS_ev, heldD_row, isRowD_row, dOwn1_ev, noErr_ok, dLenRow_ev, dEqRow_ev, dMkRow_ev, dUnN_ev, dTupE_ev, plainT_etp, plainT_tup, catE_etp, tupleE_lst, dMethE_ev, dCallFn_ev, dEnum_ev, dEnumT_ev, iaugS_ev, dTru_ev, truD_bl, truD_int, truD_lst, truD_tup, mkS_list, dMeth_ev, dMethN_ev, dMeth0_ev, dZip_ev, dNewDct_ev, asLdc_ldc, sealS_ev, asSeq_lst, asSeq_tup, List.set, List.replicate, List.length_cons, List.length_nil, Nat.zero_add, Nat.reduceAdd, Nat.reduceLeDiff, if_true, Bool.not_true, Bool.not_false, List.map_nil, List.map_cons, h]
theorem told_large (a b : List Int) (d : D) (m : List Ob) (h : den_mixed [.row (iT a), .row (iT b), d] m = .err ⟨"TooLarge", []⟩ m) : den_law_told [.row (iT a), .row (iT b), d] m = .ok (.str "large", m) := by
  refine fnD_rt rfl ((try_er (x := ⟨"TooLarge", []⟩) (ρ' := [.sh (.row (iT a)), .sh (.row (iT b)), .sh d]) (m' := m) ?_).trans rfl)
  simp only [bind_ok, bind_bad, bindS_ok, dV_ev, dL_ev, slotAt_0, slotAt_s, dC_ev, dN2V_ev, dBin_ev, dBinN_ev, dT_ev, asBool_bl, dAndT_ev, dOrT_ev, dNotT_ev, dAnd_ev, dOr_ev, dNot_ev, dIf_ev, dChain_ev, dUn_ev, dNoPart_ev, dPart_ev, dSl_ev, dNil_ev, dCons_ev, dTup_ev, dLst_ev, oneArg_ev, twoArg_ev, dCB_ev, dCall_ev, dIt_ev, dRng_ev, dYes_ev, dItV_ev, dItN_ev, thenS_ev, skipS_ev, retS_ev, exprS_ev, ifS_ev, setS_ev, setN_ev, augS_ev, isetS_ev, freezeS_ev, appS_ev, parS_ev, unS_ev, setAll_nil, setAll_cons, slot_v, slot_n, forS_ev, tgN_ev, contd_lst, pad_cons_ev, pad_nil_ev, addD_int, subD_int, ltD_int, leD_int, gtD_int, geD_int, negD_int, ipAddD_int, eqD_int, neD_int, lenD_lst, lenD_tup, intD_int, slN_lst, slT_tup, asList_lst, asTup_tup, catN_lst, addD_tup, bind_err, bindS_err, raiseS_ev, heldD_row, isRowD_row, dOwn1_ev, noErr_ok, dLenRow_ev, dEqRow_ev, dMkRow_ev, dUnN_ev, dTupE_ev, plainT_etp, plainT_tup, catE_etp, tupleE_lst, dMethE_ev, dCallFn_ev, dEnum_ev, dEnumT_ev, iaugS_ev, dTru_ev, truD_bl, truD_int, truD_lst, truD_tup, mkS_list, dMeth_ev, dMethN_ev, dMeth0_ev, dZip_ev, dNewDct_ev, asLdc_ldc, sealS_ev, asSeq_lst, asSeq_tup, List.set, List.replicate, List.length_cons, List.length_nil, Nat.zero_add, Nat.reduceAdd, Nat.reduceLeDiff, if_true, Bool.not_true, Bool.not_false, List.map_nil, List.map_cons, h]
theorem told_row (a b : List Int) (d g : D) (m : List Ob) (h : den_mixed [.row (iT a), .row (iT b), d] m = .ok (.row g, m)) : den_law_told [.row (iT a), .row (iT b), d] m = .ok (g, m) := by
  have e := held_ok g m
  refine fnD_rt rfl (try_rt ?_)
  simp only [bind_ok, bind_bad, bindS_ok, dV_ev, dL_ev, slotAt_0, slotAt_s, dC_ev, dN2V_ev, dBin_ev, dBinN_ev, dT_ev, asBool_bl, dAndT_ev, dOrT_ev, dNotT_ev, dAnd_ev, dOr_ev, dNot_ev, dIf_ev, dChain_ev, dUn_ev, dNoPart_ev, dPart_ev, dSl_ev, dNil_ev, dCons_ev, dTup_ev, dLst_ev, oneArg_ev, twoArg_ev, dCB_ev, dCall_ev, dIt_ev, dRng_ev, dYes_ev, dItV_ev, dItN_ev, thenS_ev, skipS_ev, retS_ev, exprS_ev, ifS_ev, setS_ev, setN_ev, augS_ev, isetS_ev, freezeS_ev, appS_ev, parS_ev, unS_ev, setAll_nil, setAll_cons, slot_v, slot_n, forS_ev, tgN_ev, contd_lst, pad_cons_ev, pad_nil_ev, addD_int, subD_int, ltD_int, leD_int, gtD_int, geD_int, negD_int, ipAddD_int, eqD_int, neD_int, lenD_lst, lenD_tup, intD_int, slN_lst, slT_tup, asList_lst, asTup_tup, catN_lst, addD_tup, bind_err, bindS_err, raiseS_ev, heldD_row, isRowD_row, dOwn1_ev, noErr_ok, dLenRow_ev, dEqRow_ev, dMkRow_ev, dUnN_ev, dTupE_ev, plainT_etp, plainT_tup, catE_etp, tupleE_lst, dMethE_ev, dCallFn_ev, dEnum_ev, dEnumT_ev, iaugS_ev, dTru_ev, truD_bl, truD_int, truD_lst, truD_tup, mkS_list, dMeth_ev, dMethN_ev, dMeth0_ev, dZip_ev, dNewDct_ev, asLdc_ldc, sealS_ev, asSeq_lst, asSeq_tup, List.set, List.replicate, List.length_cons, List.length_nil, Nat.zero_add, Nat.reduceAdd, Nat.reduceLeDiff, if_true, Bool.not_true, Bool.not_false, List.map_nil, List.map_cons, h, e]
end L_k16
namespace L_k16
open PySem PySem.Spec PyProof.Rows L2 PD
/-! ### a drawn mix -/
theorem mix_insert {p q : Nat} {l : List Nat} (h : Mix p q l) : ∀ s : Nat, Mix p (q + 1) (l.take s ++ [1] ++ l.drop s) := by
  induction h with
  | nil => intro s; rw [List.take_nil, List.drop_nil]; exact .one .nil
  | zero h ih =>
    intro s
    cases s with
    | zero => exact .one (.zero h)
    | succ s => exact .zero (ih s)
  | one h ih =>
    intro s
    cases s with
    | zero => exact .one (.one h)
    | succ s => exact .one (ih s)
theorem mix_zeros : ∀ a : Nat, Mix a 0 (List.replicate a 0)
  | 0 => .nil
  | a + 1 => .zero (mix_zeros a)
abbrev insB : SDen := thenS (setS 10 (dCall den_law_next (dCons (dV 1) (dCons (dBin addD (dCB (oneArg lenD) (dCons (dL 7) dNil)) (dC (.int 1))) dNil))))
    (setS 7 (dN2V (dBinN catN (dN2V (dBinN catN (dN2V (dSl slN (dL 7) dNoPart (dPart (dL 10)))) (dN2V (dLst (dCons (dC (.int 1)) dNil))))) (dN2V (dSl slN (dL 7) (dPart (dL 10)) dNoPart)))))
theorem ins_step {m : List Ob} (hm : DrawnK m) (l : List Nat) (hl : l.length ≤ 1000) (x0 x2 x3 x4 x5 x6 x8 x9 x10 x11 : Slot) : ∃ (s : Nat) (m' : List Ob), insB [x0, .sh (.obj 1), x2, x3, x4, x5, x6, .sh (lD nD l), x8, x9, x10, x11] m = .nx [x0, .sh (.obj 1), x2, x3, x4, x5, x6, .sh (lD nD (l.take s ++ [1] ++ l.drop s)), x8, x9, .sh (nD s), x11] m' ∧ DrawnK m' := by
  obtain ⟨s, m', e, hs, hm'⟩ := next_natT (b := l.length + 1) hm (by omega) (Nat.lt_of_le_of_lt (Nat.log2_le_self _) (by omega))
  refine ⟨s, m', ?_, hm'⟩
  have q0 : (l.length : Int) + 1 = ((l.length + 1 : Nat) : Int) := by omega
  refine (thenS_nx (ρ' := [x0, .sh (.obj 1), x2, x3, x4, x5, x6, .sh (lD nD l), x8, x9, .sh (nD s), x11]) (m' := m') (by
    simp only [setS_ev, dCall_ev, dCons_ev, dV_ev, slotAt_0, slotAt_s, bind_ok, dBin_ev, dCB_ev, dL_ev, dNil_ev, oneArg_ev, lD, lenD_lst, List.length_map, dC_ev, addD_int, q0, e, bindS_ok, List.set])).trans ?_
  have c1 : cut (l.map nD) none (some (s : Int)) = (l.take s).map nD := by rw [cut_hi, List.map_take]
  have c2 : cut (l.map nD) (some (s : Int)) none = (l.drop s).map nD := by rw [cut_lo _ _ (by rw [List.length_map]; omega), List.map_drop]
  have s1 : ((l.take s).map nD).length ≤ 16777215 := by rw [List.length_map, List.length_take]; omega
  have s2 : ((l.take s).map nD ++ [D.int 1]).length + ((l.drop s).map nD).length ≤ 16777216 := by rw [List.length_append, List.length_map, List.length_map, List.length_take, List.length_drop, List.length_singleton]; omega
  simp only [bind_ok, bind_bad, bindS_ok, dV_ev, dL_ev, slotAt_0, slotAt_s, dC_ev, dN2V_ev, dBin_ev, dBinN_ev, dT_ev, asBool_bl, dAndT_ev, dOrT_ev, dNotT_ev, dAnd_ev, dOr_ev, dNot_ev, dIf_ev, dChain_ev, dUn_ev, dNoPart_ev, dPart_ev, dSl_ev, dNil_ev, dCons_ev, dTup_ev, dLst_ev, oneArg_ev, twoArg_ev, dCB_ev, dCall_ev, dIt_ev, dRng_ev, dYes_ev, dItV_ev, dItN_ev, thenS_ev, skipS_ev, retS_ev, exprS_ev, ifS_ev, setS_ev, setN_ev, augS_ev, isetS_ev, freezeS_ev, appS_ev, parS_ev, unS_ev, setAll_nil, setAll_cons, slot_v, slot_n, forS_ev, tgN_ev, contd_lst, pad_cons_ev, pad_nil_ev, addD_int, subD_int, ltD_int, leD_int, gtD_int, geD_int, negD_int, ipAddD_int, eqD_int, neD_int, lenD_lst, lenD_tup, intD_int, slN_lst, slT_tup, asList_lst, asTup_tup, catN_lst, addD_tup, bind_err, bindS_err, raiseS_ev, heldD_row, isRowD_row, dOwn1_ev, noErr_ok, dLenRow_ev, dEqRow_ev, dMkRow_ev, dUnN_ev, dTupE_ev, plainT_etp, plainT_tup, catE_etp, tupleE_lst, dMethE_ev, dCallFn_ev, dEnum_ev, dEnumT_ev, iaugS_ev, dTru_ev, truD_bl, truD_int, truD_lst, truD_tup, mkS_list, dMeth_ev, dMethN_ev, dMeth0_ev, dZip_ev, dNewDct_ev, asLdc_ldc, sealS_ev, asSeq_lst, asSeq_tup, List.set, List.replicate, List.length_cons, List.length_nil, Nat.zero_add, Nat.reduceAdd, Nat.reduceLeDiff, if_true, Bool.not_true, Bool.not_false, List.map_nil, List.map_cons, lD, nD]
  simp only [c1, c2, if_pos s1]
  simp only [bind_ok, bind_bad, bindS_ok, dV_ev, dL_ev, slotAt_0, slotAt_s, dC_ev, dN2V_ev, dBin_ev, dBinN_ev, dT_ev, asBool_bl, dAndT_ev, dOrT_ev, dNotT_ev, dAnd_ev, dOr_ev, dNot_ev, dIf_ev, dChain_ev, dUn_ev, dNoPart_ev, dPart_ev, dSl_ev, dNil_ev, dCons_ev, dTup_ev, dLst_ev, oneArg_ev, twoArg_ev, dCB_ev, dCall_ev, dIt_ev, dRng_ev, dYes_ev, dItV_ev, dItN_ev, thenS_ev, skipS_ev, retS_ev, exprS_ev, ifS_ev, setS_ev, setN_ev, augS_ev, isetS_ev, freezeS_ev, appS_ev, parS_ev, unS_ev, setAll_nil, setAll_cons, slot_v, slot_n, forS_ev, tgN_ev, contd_lst, pad_cons_ev, pad_nil_ev, addD_int, subD_int, ltD_int, leD_int, gtD_int, geD_int, negD_int, ipAddD_int, eqD_int, neD_int, lenD_lst, lenD_tup, intD_int, slN_lst, slT_tup, asList_lst, asTup_tup, catN_lst, addD_tup, bind_err, bindS_err, raiseS_ev, heldD_row, isRowD_row, dOwn1_ev, noErr_ok, dLenRow_ev, dEqRow_ev, dMkRow_ev, dUnN_ev, dTupE_ev, plainT_etp, plainT_tup, catE_etp, tupleE_lst, dMethE_ev, dCallFn_ev, dEnum_ev, dEnumT_ev, iaugS_ev, dTru_ev, truD_bl, truD_int, truD_lst, truD_tup, mkS_list, dMeth_ev, dMethN_ev, dMeth0_ev, dZip_ev, dNewDct_ev, asLdc_ldc, sealS_ev, asSeq_lst, asSeq_tup, List.set, List.replicate, List.length_cons, List.length_nil, Nat.zero_add, Nat.reduceAdd, Nat.reduceLeDiff, if_true, Bool.not_true, Bool.not_false, List.map_nil, List.map_cons, if_pos s2, List.map_append]
  rfl
theorem ins_loop (x0 x2 x3 x4 x5 x6 x8 x11 : Slot) (p : Nat) : ∀ (ds : List D) (l : List Nat) (q : Nat) (m : List Ob) (x9 x10 : Slot), DrawnK m → Mix p q l → l.length + ds.length ≤ 1000 → ∃ (l' : List Nat) (m' : List Ob) (y9 y10 : Slot),
    loopS (tgN 9) insB ds [x0, .sh (.obj 1), x2, x3, x4, x5, x6, .sh (lD nD l), x8, x9, x10, x11] m = .nx [x0, .sh (.obj 1), x2, x3, x4, x5, x6, .sh (lD nD l'), x8, y9, y10, x11] m' ∧ DrawnK m' ∧ Mix p (q + ds.length) l'
  | [], l, q, m, x9, x10, hm, h, _ => ⟨l, m, x9, x10, rfl, hm, h⟩
  | d :: ds, l, q, m, x9, x10, hm, h, hl => by
    have hl' : l.length + (ds.length + 1) ≤ 1000 := hl
    obtain ⟨s, m1, e1, h1⟩ := ins_step hm l (by omega) x0 x2 x3 x4 x5 x6 x8 (.sh d) x10 x11
    have h2 := mix_insert h s
    obtain ⟨l', m', y9, y10, e, h3, h4⟩ := ins_loop x0 x2 x3 x4 x5 x6 x8 x11 p ds _ (q + 1) m1 (.sh d) (.sh (nD s)) h1 h2 (by rw [h2.len, ← Nat.add_assoc, ← h.len]; omega)
    refine ⟨l', m', y9, y10, ?_, h3, by rw [List.length_cons, show q + (ds.length + 1) = q + 1 + ds.length by omega]; exact h4⟩
    rw [loop_nx (ρ1 := [x0, .sh (.obj 1), x2, x3, x4, x5, x6, .sh (lD nD l), x8, .sh d, x10, x11]) rfl e1, e]
/-! ### values that are no mixes -/
def lastN (l : List Nat) : Nat := l.getLast?.getD 0
def oddL (l : List Nat) : List D := [.lst (l.map nD), .non, .tup (l.map nD ++ [.int 0]), .tup ((l.map nD).drop 1), .tup (List.replicate (l.length + 1) (.int 1)), .tup (List.replicate l.length (.bl true)), nT (l.take (l.length - 1) ++ [1 - lastN l])]
theorem cut_but {α : Type} (xs : List α) (h : 1 ≤ xs.length) : cut xs none (some (-1)) = xs.take (xs.length - 1) := by
  have e : HT.sIx xs.length xs.length (some (-1)) = xs.length - 1 := by
    show (if (-1 : Int) < 0 then ((-1 : Int) + (xs.length : Int)).toNat else min (-1 : Int).toNat xs.length) = _
    rw [if_pos (by omega)]
    omega
  unfold cut
  rw [e, HT.sIx_none, List.drop_zero, Nat.sub_zero]
theorem last_split : ∀ l : List Nat, l ≠ [] → l = l.take (l.length - 1) ++ [lastN l]
  | [], h => absurd rfl h
  | l, h => by
    have e := List.dropLast_concat_getLast h
    rw [List.dropLast_eq_take] at e
    have e2 : lastN l = l.getLast h := by unfold lastN; rw [List.getLast?_eq_some_getLast h]; rfl
    rw [e2]
    exact e.symm
theorem odd_bad {p q : Nat} {l : List Nat} (h : Mix p q l) (hp : 1 ≤ p) (hl : l.length ≤ 1000) (m : List Ob) : ∀ d ∈ oddL l, den_is_mix [d, nD p, nD q] m = .ok (.bl false, m) := by
  have hn := h.len
  have hne : l ≠ [] := fun e => by rw [e] at hn; rw [List.length_nil] at hn; omega
  intro d hd
  unfold oddL at hd
  simp only [List.mem_cons, List.not_mem_nil, or_false] at hd
  rcases hd with rfl | rfl | rfl | rfl | rfl | rfl | rfl
  · exact mix_not _ p q m rfl
  · exact mix_not _ p q m rfl
  · exact mix_len _ p q m (by rw [List.length_append, List.length_map, List.length_singleton]; omega)
  · exact mix_len _ p q m (by rw [List.length_drop, List.length_map]; omega)
  · exact mix_len _ p q m (by rw [List.length_replicate]; omega)
  · exact mix_bl l.length p q m hn (by omega) hl
  · have hsp := last_split l hne
    have hb := h.bit
    have hmem : lastN l ∈ l := by
      have q : lastN l ∈ l.take (l.length - 1) ++ [lastN l] := List.mem_append_right _ (List.mem_singleton.mpr rfl)
      rw [← hsp] at q
      exact q
    have hlb : lastN l ≤ 1 := hb _ hmem
    have hsum := h.sum
    rw [hsp, List.sum_append, List.sum_singleton] at hsum
    refine mix_sum _ p q m (by rw [List.length_append, List.length_take, List.length_singleton]; omega) (fun x hx => ?_) ?_ (by rw [List.length_append, List.length_take, List.length_singleton]; omega)
    · rcases List.mem_append.mp hx with hx | hx
      · exact hb x (List.mem_of_mem_take hx)
      · rw [List.mem_singleton] at hx
        omega
    · rw [List.sum_append, List.sum_singleton]
      omega
end L_k16
namespace L_k16
open PySem PySem.Spec PyProof.Rows L2 PD
abbrev dMix : Den D := dCB (oneArg tupleD) (dCons (dL 7) dNil)
abbrev rowsA (d : Den D) : Den (List D) := dCons (dMkRow (dV 3)) (dCons (dMkRow (dV 4)) (dCons d dNil))
abbrev finA : SDen := setN 11 (dLst (dCons (dV 7) (dCons (dC .non) (dCons (dBin addD (dCB (oneArg tupleD) (dCons (dL 7) dNil)) (dTup (dCons (dC (.int 0)) dNil))) (dCons (dSl slT (dCB (oneArg tupleD) (dCons (dL 7) dNil)) (dPart (dC (.int 1))) dNoPart) (dCons (dBin repTD (dTup (dCons (dC (.int 1)) dNil)) (dBin addD (dCB (oneArg lenD) (dCons (dL 7) dNil)) (dC (.int 1)))) (dCons (dBin repTD (dTup (dCons (dC (.bl true)) dNil)) (dCB (oneArg lenD) (dCons (dL 7) dNil))) dNil)))))))
abbrev finB : SDen := appS 11 (dCons (dBin addD (dCB (oneArg tupleD) (dCons (dN2V (dSl slN (dL 7) dNoPart (dPart (dUn negD (dC (.int 1)))))) dNil)) (dTup (dCons (dBin subD (dC (.int 1)) (dBin ixD (dL 7) (dUn negD (dC (.int 1))))) dNil))) dNil)
theorem fin_ok (l : List Nat) (m : List Ob) (x0 x1 x2 x3 x4 x5 x6 x8 x9 x10 x11 : Slot) (h2 : 2 ≤ l.length) (hl : l.length ≤ 100) (hb : lastN l ≤ 1) :
    thenS finA finB [x0, x1, x2, x3, x4, x5, x6, .sh (lD nD l), x8, x9, x10, x11] m = .nx [x0, x1, x2, x3, x4, x5, x6, .sh (lD nD l), x8, x9, x10, .own (.lst (oddL l))] m := by
  have hne : l ≠ [] := fun e => by rw [e, List.length_nil] at h2; omega
  have t1 : tupleD (.lst (l.map nD)) = .ok (.tup (l.map nD)) := rfl
  have a1 : addD (.tup (l.map nD)) (.tup [.int 0]) = .ok (.tup (l.map nD ++ [.int 0])) := by
    simp only [addD_tup]
    exact if_pos (by rw [List.length_map, List.length_singleton]; omega)
  have c1 : cut (l.map nD) (some 1) none = (l.map nD).drop 1 := cut_lo (l.map nD) 1 (by rw [List.length_map]; omega)
  have r1 : ∀ (d : D) (k : Nat), 2 ≤ k → k ≤ 1000 → repTD (.tup [d]) (.int (k : Int)) = .ok (.tup (List.replicate k d)) := fun d k h1 h3 => by
    show (if 0 < [d].length ∧ 2 ≤ (k : Int) ∧ (k : Int) ≤ 1000 ∧ [d].length ≤ 1000 then Res.ok (D.tup (List.replicate (k : Int).toNat [d]).flatten) else .bad) = _
    rw [if_pos ⟨by simp, by omega, by omega, by simp⟩, Int.toNat_natCast, List.flatten_replicate_singleton]
  have q0 : (l.length : Int) + 1 = ((l.length + 1 : Nat) : Int) := by omega
  have r2 := r1 (.int 1) (l.length + 1) (by omega) (by omega)
  have r3 := r1 (.bl true) l.length (by omega) (by omega)
  have n1 : negD (.int 1) = .ok (.int (-1)) := rfl
  have c2 : cut (l.map nD) none (some (-1)) = (l.take (l.length - 1)).map nD := by rw [cut_but _ (by rw [List.length_map]; omega), List.length_map, List.map_take]
  have i1 : ixD (.lst (l.map nD)) (.int (-1)) = .ok (nD (lastN l)) := ixD_last nD l 0 hne
  have s1 : (1 : Int) - (lastN l : Int) = ((1 - lastN l : Nat) : Int) := by omega
  have t2 : tupleD (.lst ((l.take (l.length - 1)).map nD)) = .ok (.tup ((l.take (l.length - 1)).map nD)) := rfl
  have a2 : addD (.tup ((l.take (l.length - 1)).map nD)) (.tup [nD (1 - lastN l)]) = .ok (nT (l.take (l.length - 1) ++ [1 - lastN l])) := by
    have q : ((l.take (l.length - 1)).map nD).length + [nD (1 - lastN l)].length ≤ 16777216 := by rw [List.length_map, List.length_take, List.length_singleton]; omega
    rw [addD_tup, if_pos q]
    show Res.ok (D.tup _) = Res.ok (D.tup _)
    rw [List.map_append]
    rfl
  refine (thenS_nx (ρ' := [x0, x1, x2, x3, x4, x5, x6, .sh (lD nD l), x8, x9, x10, .own (.lst [.lst (l.map nD), .non, .tup (l.map nD ++ [.int 0]), .tup ((l.map nD).drop 1), .tup (List.replicate (l.length + 1) (.int 1)), .tup (List.replicate l.length (.bl true))])]) (m' := m) (by
    simp only [setN_ev, dLst_ev, dCons_ev, dV_ev, slotAt_0, slotAt_s, bind_ok, dC_ev, dBin_ev, dCB_ev, dL_ev, dNil_ev, oneArg_ev, lD, t1, dTup_ev, List.length_cons, List.length_nil, Nat.zero_add, Nat.reduceAdd, Nat.reduceLeDiff, if_true, a1, dSl_ev, dPart_ev, dNoPart_ev, slT_tup, c1, lenD_lst, List.length_map, addD_int, q0, r2, r3, bindS_ok, List.set])).trans ?_
  simp only [appS_ev, slotAt_0, slotAt_s, dCons_ev, dBin_ev, dCB_ev, dN2V_ev, dSl_ev, dL_ev, bind_ok, dNoPart_ev, dPart_ev, dUn_ev, dC_ev, n1, lD, slN_lst, c2, contd_lst, dNil_ev, oneArg_ev, t2, dTup_ev, i1, subD_int, s1, List.length_cons, List.length_nil, Nat.zero_add, Nat.reduceAdd, Nat.reduceLeDiff, if_true, a2, bindS_ok, List.set]
  rfl
theorem far_ok (r : Nat) (h : r < 3) : ixD (.lst [.int 3, .int 4, .int 5]) (nD r) = .ok (nD (r + 3)) := by
  have hr : r = 0 ∨ r = 1 ∨ r = 2 := by omega
  rcases hr with rfl | rfl | rfl <;> rfl
theorem odd_at (l : List Nat) (r : Nat) (h : r < 7) : ∃ d ∈ oddL l, ixD (.lst (oddL l)) (nD r) = .ok d := by
  have hl : r < (oddL l).length := h
  refine ⟨(oddL l)[r], List.getElem_mem hl, ?_⟩
  have e := ixD_lst id (oddL l) r hl
  rw [List.map_id] at e
  exact e
theorem plain (ns : List Int) (h : ns.length ≤ 63) : ∃ m', den_law [.scr ns] [tabN] = .ok (.bl true, m') := by
  obtain ⟨m0, e0, h0⟩ := mix_drawnT "_law_levels" "_law_levels.<locals>.<lambda>" ns 16 h
  have e0 : den_law_mix [.scr ns, .int 16] [tabN] = .ok (.obj 1, m0) := e0
  obtain ⟨r, m1, e1, hr, h1⟩ := next_natT (b := 3) h0 (by decide) (by decide +kernel)
  have e1 : den_law_next [.obj 1, .int 3] m0 = .ok (.int (r : Int), m1) := e1
  have ef : ixD (.lst [.int 3, .int 4, .int 5]) (.int (r : Int)) = .ok (.int ((r + 3 : Nat) : Int)) := far_ok r hr
  obtain ⟨a, m2, e2, a1, a2, a3, h2⟩ := groups_ok h1 (r + 3) (by omega) (by omega)
  obtain ⟨b, m3, e3, b1, b2, b3, h3⟩ := groups_ok h2 (r + 2) (by omega) (by omega)
  have e2 : den_law_groups [.obj 1, .int ((r + 3 : Nat) : Int)] m1 = .ok (iT a, m2) := e2
  have e3 : den_law_groups [.obj 1, .int ((r + 2 : Nat) : Int)] m2 = .ok (iT b, m3) := e3
  have q1 : ((r + 3 : Nat) : Int) - 1 = ((r + 2 : Nat) : Int) := by omega
  obtain ⟨t, m4, e4, ht, h4⟩ := next_natT (b := 4) h3 (by decide) (by decide +kernel)
  have e4 : den_law_next [.obj 1, .int 4] m3 = .ok (.int (t : Int), m4) := e4
  have q2 : (1 : Int) + (t : Int) = ((t + 1 : Nat) : Int) := by omega
  have e5 := law_mixes_ok a.length b.length m4 (by omega)
  obtain ⟨y7, y8, e6⟩ := lw_loop a b (t + 1) m4 h4.noL h4.tab a1 (by omega) (by omega) (by omega) (.sh (.scr ns)) (.sh (.obj 1)) (.sh (nD (r + 3))) .non .non .non (mixF a.length b.length) none .non .non (fun l hl => mixF_mix _ _ l hl)
  have ra := rowOk_ints a a1 (by omega) a3
  have rb := rowOk_ints b b1 (by omega) b3
  have e7 := mixed_rows_ok a b (t + 1) m4 a1 (by omega) (by omega) (by omega) (by omega)
  have e8 : neD (bD nT (mrF a b (t + 1))) (bD nT (mrF a b (t + 1))) = .ok (.bl false) := neD_self (okk_best _) (by decide)
  obtain ⟨c, m5, e9, c1, c2, c3, h5⟩ := groups_ok h4 9 (by omega) (by omega)
  obtain ⟨d, m6, e10, d1, d2, d3, h6⟩ := groups_ok h5 6 (by omega) (by omega)
  have e9 : den_law_groups [.obj 1, .int 9] m4 = .ok (iT c, m5) := e9
  have e10 : den_law_groups [.obj 1, .int 6] m5 = .ok (iT d, m6) := e10
  have rc := rowOk_ints c c1 (by omega) c3
  have rd := rowOk_ints d d1 (by omega) d3
  have e11 := large_ok c d m6 c1 (by omega) d2
  have e12 : ∀ p : Bool, neD (.bl p) (.bl p) = .ok (.bl false) := fun p => by cases p <;> rfl
  have e13 := repN_int c.length 0 (by omega)
  have e13' : (List.replicate c.length (0 : Int)).map D.int = (List.replicate c.length 0).map nD := by rw [List.map_replicate, List.map_replicate]; rfl
  rw [e13'] at e13
  have q3 := rng1_nat (n := d.length) (by omega)
  obtain ⟨l, m7, y9, y10, e14, h7, hl⟩ := ins_loop (.sh (.scr ns)) (.sh (nD (r + 3))) (.sh (iT c)) (.sh (iT d)) (.sh (nD (t + 1))) (.sh (bD nT (mrF a b (t + 1)))) y8 .non c.length ((List.range d.length).map nD) (List.replicate c.length 0) 0 m6 .non .non h6 (mix_zeros c.length) (by rw [List.length_replicate, List.length_map, List.length_range]; omega)
  rw [List.length_map, List.length_range, Nat.zero_add] at hl
  have hlen := hl.len
  have t1 : tupleD (.lst (l.map nD)) = .ok (nT l) := rfl
  have base : ∀ tail : SDen, ∀ res : Out, tail [.sh (.scr ns), .sh (.obj 1), .sh (nD (r + 3)), .sh (iT c), .sh (iT d), .sh (nD (t + 1)), .sh (bD nT (mrF a b (t + 1))), .sh (lD nD l), y8, y9, y10, .non] m7 = res → True := fun _ _ _ => trivial
  have hgo : ∀ (v : D) (mm : List Ob), (thenS (ifS (dT (dBin gtD (dCB (oneArg lenD) (dCons (dL 7) dNil)) (dC (.int 12)))) (retS (dBin eqD (dCall den_law_told (dCons (dMkRow (dV 3)) (dCons (dMkRow (dV 4)) (dCons (dCB (oneArg tupleD) (dCons (dL 7) dNil)) dNil)))) (dC (.str "large")))) skipS)
    (thenS (ifS (dT (dBin neD (dCall den_law_told (dCons (dMkRow (dV 3)) (dCons (dMkRow (dV 4)) (dCons (dCB (oneArg tupleD) (dCons (dL 7) dNil)) dNil)))) (dCall den_law_come (dCons (dV 3) (dCons (dV 4) (dCons (dV 7) dNil)))))) (retS (dC (.bl false))) skipS)
    (thenS finA
    (thenS finB
    (retS (dBin eqD (dCall den_law_told (dCons (dMkRow (dV 3)) (dCons (dMkRow (dV 4)) (dCons (dBin ixD (dL 11) (dCall den_law_next (dCons (dV 1) (dCons (dC (.int 7)) dNil)))) dNil)))) (dC (.str "mix")))))))) [.sh (.scr ns), .sh (.obj 1), .sh (nD (r + 3)), .sh (iT c), .sh (iT d), .sh (nD (t + 1)), .sh (bD nT (mrF a b (t + 1))), .sh (lD nD l), y8, y9, y10, .non] m7 = .rt v mm → den_law [.scr ns] [tabN] = .ok (v, mm) := fun v mm hv => by
    refine fnD_rt rfl ?_
    refine (thenS_nx (ρ' := [.sh (.scr ns), .sh (.obj 1), .non, .non, .non, .non, .non, .non, .non, .non, .non, .non]) (m' := m0) (by simp only [bind_ok, bind_bad, bindS_ok, dV_ev, dL_ev, slotAt_0, slotAt_s, dC_ev, dN2V_ev, dBin_ev, dBinN_ev, dT_ev, asBool_bl, dAndT_ev, dOrT_ev, dNotT_ev, dAnd_ev, dOr_ev, dNot_ev, dIf_ev, dChain_ev, dUn_ev, dNoPart_ev, dPart_ev, dSl_ev, dNil_ev, dCons_ev, dTup_ev, dLst_ev, oneArg_ev, twoArg_ev, dCB_ev, dCall_ev, dIt_ev, dRng_ev, dYes_ev, dItV_ev, dItN_ev, thenS_ev, skipS_ev, retS_ev, exprS_ev, ifS_ev, setS_ev, setN_ev, augS_ev, isetS_ev, freezeS_ev, appS_ev, parS_ev, unS_ev, setAll_nil, setAll_cons, slot_v, slot_n, forS_ev, tgN_ev, contd_lst, pad_cons_ev, pad_nil_ev, addD_int, subD_int, ltD_int, leD_int, gtD_int, geD_int, negD_int, ipAddD_int, eqD_int, neD_int, lenD_lst, lenD_tup, intD_int, slN_lst, slT_tup, asList_lst, asTup_tup, catN_lst, addD_tup, bind_err, bindS_err, raiseS_ev, heldD_row, isRowD_row, dOwn1_ev, noErr_ok, dLenRow_ev, dEqRow_ev, dMkRow_ev, dUnN_ev, dTupE_ev, plainT_etp, plainT_tup, catE_etp, tupleE_lst, dMethE_ev, dCallFn_ev, dEnum_ev, dEnumT_ev, iaugS_ev, dTru_ev, truD_bl, truD_int, truD_lst, truD_tup, mkS_list, dMeth_ev, dMethN_ev, dMeth0_ev, dZip_ev, dNewDct_ev, asLdc_ldc, sealS_ev, asSeq_lst, asSeq_tup, List.set, List.replicate, List.length_cons, List.length_nil, Nat.zero_add, Nat.reduceAdd, Nat.reduceLeDiff, if_true, Bool.not_true, Bool.not_false, List.map_nil, List.map_cons, e0])).trans ?_
    refine (thenS_nx (ρ' := [.sh (.scr ns), .sh (.obj 1), .sh (nD (r + 3)), .non, .non, .non, .non, .non, .non, .non, .non, .non]) (m' := m1) (by simp only [bind_ok, bind_bad, bindS_ok, dV_ev, dL_ev, slotAt_0, slotAt_s, dC_ev, dN2V_ev, dBin_ev, dBinN_ev, dT_ev, asBool_bl, dAndT_ev, dOrT_ev, dNotT_ev, dAnd_ev, dOr_ev, dNot_ev, dIf_ev, dChain_ev, dUn_ev, dNoPart_ev, dPart_ev, dSl_ev, dNil_ev, dCons_ev, dTup_ev, dLst_ev, oneArg_ev, twoArg_ev, dCB_ev, dCall_ev, dIt_ev, dRng_ev, dYes_ev, dItV_ev, dItN_ev, thenS_ev, skipS_ev, retS_ev, exprS_ev, ifS_ev, setS_ev, setN_ev, augS_ev, isetS_ev, freezeS_ev, appS_ev, parS_ev, unS_ev, setAll_nil, setAll_cons, slot_v, slot_n, forS_ev, tgN_ev, contd_lst, pad_cons_ev, pad_nil_ev, addD_int, subD_int, ltD_int, leD_int, gtD_int, geD_int, negD_int, ipAddD_int, eqD_int, neD_int, lenD_lst, lenD_tup, intD_int, slN_lst, slT_tup, asList_lst, asTup_tup, catN_lst, addD_tup, bind_err, bindS_err, raiseS_ev, heldD_row, isRowD_row, dOwn1_ev, noErr_ok, dLenRow_ev, dEqRow_ev, dMkRow_ev, dUnN_ev, dTupE_ev, plainT_etp, plainT_tup, catE_etp, tupleE_lst, dMethE_ev, dCallFn_ev, dEnum_ev, dEnumT_ev, iaugS_ev, dTru_ev, truD_bl, truD_int, truD_lst, truD_tup, mkS_list, dMeth_ev, dMethN_ev, dMeth0_ev, dZip_ev, dNewDct_ev, asLdc_ldc, sealS_ev, asSeq_lst, asSeq_tup, List.set, List.replicate, List.length_cons, List.length_nil, Nat.zero_add, Nat.reduceAdd, Nat.reduceLeDiff, if_true, Bool.not_true, Bool.not_false, List.map_nil, List.map_cons, e1, ef])).trans ?_
    refine (thenS_nx (ρ' := [.sh (.scr ns), .sh (.obj 1), .sh (nD (r + 3)), .sh (iT a), .sh (iT b), .non, .non, .non, .non, .non, .non, .non]) (m' := m3) (by simp only [bind_ok, bind_bad, bindS_ok, dV_ev, dL_ev, slotAt_0, slotAt_s, dC_ev, dN2V_ev, dBin_ev, dBinN_ev, dT_ev, asBool_bl, dAndT_ev, dOrT_ev, dNotT_ev, dAnd_ev, dOr_ev, dNot_ev, dIf_ev, dChain_ev, dUn_ev, dNoPart_ev, dPart_ev, dSl_ev, dNil_ev, dCons_ev, dTup_ev, dLst_ev, oneArg_ev, twoArg_ev, dCB_ev, dCall_ev, dIt_ev, dRng_ev, dYes_ev, dItV_ev, dItN_ev, thenS_ev, skipS_ev, retS_ev, exprS_ev, ifS_ev, setS_ev, setN_ev, augS_ev, isetS_ev, freezeS_ev, appS_ev, parS_ev, unS_ev, setAll_nil, setAll_cons, slot_v, slot_n, forS_ev, tgN_ev, contd_lst, pad_cons_ev, pad_nil_ev, addD_int, subD_int, ltD_int, leD_int, gtD_int, geD_int, negD_int, ipAddD_int, eqD_int, neD_int, lenD_lst, lenD_tup, intD_int, slN_lst, slT_tup, asList_lst, asTup_tup, catN_lst, addD_tup, bind_err, bindS_err, raiseS_ev, heldD_row, isRowD_row, dOwn1_ev, noErr_ok, dLenRow_ev, dEqRow_ev, dMkRow_ev, dUnN_ev, dTupE_ev, plainT_etp, plainT_tup, catE_etp, tupleE_lst, dMethE_ev, dCallFn_ev, dEnum_ev, dEnumT_ev, iaugS_ev, dTru_ev, truD_bl, truD_int, truD_lst, truD_tup, mkS_list, dMeth_ev, dMethN_ev, dMeth0_ev, dZip_ev, dNewDct_ev, asLdc_ldc, sealS_ev, asSeq_lst, asSeq_tup, List.set, List.replicate, List.length_cons, List.length_nil, Nat.zero_add, Nat.reduceAdd, Nat.reduceLeDiff, if_true, Bool.not_true, Bool.not_false, List.map_nil, List.map_cons, nD, e2, q1, e3, Itm.slot])).trans ?_
    refine (thenS_nx (ρ' := [.sh (.scr ns), .sh (.obj 1), .sh (nD (r + 3)), .sh (iT a), .sh (iT b), .sh (nD (t + 1)), .sh .non, .non, .non, .non, .non, .non]) (m' := m4) (by simp only [bind_ok, bind_bad, bindS_ok, dV_ev, dL_ev, slotAt_0, slotAt_s, dC_ev, dN2V_ev, dBin_ev, dBinN_ev, dT_ev, asBool_bl, dAndT_ev, dOrT_ev, dNotT_ev, dAnd_ev, dOr_ev, dNot_ev, dIf_ev, dChain_ev, dUn_ev, dNoPart_ev, dPart_ev, dSl_ev, dNil_ev, dCons_ev, dTup_ev, dLst_ev, oneArg_ev, twoArg_ev, dCB_ev, dCall_ev, dIt_ev, dRng_ev, dYes_ev, dItV_ev, dItN_ev, thenS_ev, skipS_ev, retS_ev, exprS_ev, ifS_ev, setS_ev, setN_ev, augS_ev, isetS_ev, freezeS_ev, appS_ev, parS_ev, unS_ev, setAll_nil, setAll_cons, slot_v, slot_n, forS_ev, tgN_ev, contd_lst, pad_cons_ev, pad_nil_ev, addD_int, subD_int, ltD_int, leD_int, gtD_int, geD_int, negD_int, ipAddD_int, eqD_int, neD_int, lenD_lst, lenD_tup, intD_int, slN_lst, slT_tup, asList_lst, asTup_tup, catN_lst, addD_tup, bind_err, bindS_err, raiseS_ev, heldD_row, isRowD_row, dOwn1_ev, noErr_ok, dLenRow_ev, dEqRow_ev, dMkRow_ev, dUnN_ev, dTupE_ev, plainT_etp, plainT_tup, catE_etp, tupleE_lst, dMethE_ev, dCallFn_ev, dEnum_ev, dEnumT_ev, iaugS_ev, dTru_ev, truD_bl, truD_int, truD_lst, truD_tup, mkS_list, dMeth_ev, dMethN_ev, dMeth0_ev, dZip_ev, dNewDct_ev, asLdc_ldc, sealS_ev, asSeq_lst, asSeq_tup, List.set, List.replicate, List.length_cons, List.length_nil, Nat.zero_add, Nat.reduceAdd, Nat.reduceLeDiff, if_true, Bool.not_true, Bool.not_false, List.map_nil, List.map_cons, e4, q2, Itm.slot])).trans ?_
    refine (thenS_nx (ρ' := [.sh (.scr ns), .sh (.obj 1), .sh (nD (r + 3)), .sh (iT a), .sh (iT b), .sh (nD (t + 1)), .sh (bD nT (mrF a b (t + 1))), y7, y8, .non, .non, .non]) (m' := m4) (by
      simp only [forS_ev, dIt_ev, dCall_ev, dCons_ev, dCB_ev, dL_ev, slotAt_0, slotAt_s, bind_ok, dNil_ev, oneArg_ev, tD, lenD_tup, List.length_map]
      simp only [nD] at e5
      simp only [e5, bind_ok, lD, asList_lst, bindS_ok]
      exact e6)).trans ?_
    refine (thenS_nx (ρ' := [.sh (.scr ns), .sh (.obj 1), .sh (nD (r + 3)), .sh (iT a), .sh (iT b), .sh (nD (t + 1)), .sh (bD nT (mrF a b (t + 1))), y7, y8, .non, .non, .non]) (m' := m4) (by
      simp only [bind_ok, bind_bad, bindS_ok, dV_ev, dL_ev, slotAt_0, slotAt_s, dC_ev, dN2V_ev, dBin_ev, dBinN_ev, dT_ev, asBool_bl, dAndT_ev, dOrT_ev, dNotT_ev, dAnd_ev, dOr_ev, dNot_ev, dIf_ev, dChain_ev, dUn_ev, dNoPart_ev, dPart_ev, dSl_ev, dNil_ev, dCons_ev, dTup_ev, dLst_ev, oneArg_ev, twoArg_ev, dCB_ev, dCall_ev, dIt_ev, dRng_ev, dYes_ev, dItV_ev, dItN_ev, thenS_ev, skipS_ev, retS_ev, exprS_ev, ifS_ev, setS_ev, setN_ev, augS_ev, isetS_ev, freezeS_ev, appS_ev, parS_ev, unS_ev, setAll_nil, setAll_cons, slot_v, slot_n, forS_ev, tgN_ev, contd_lst, pad_cons_ev, pad_nil_ev, addD_int, subD_int, ltD_int, leD_int, gtD_int, geD_int, negD_int, ipAddD_int, eqD_int, neD_int, lenD_lst, lenD_tup, intD_int, slN_lst, slT_tup, asList_lst, asTup_tup, catN_lst, addD_tup, bind_err, bindS_err, raiseS_ev, heldD_row, isRowD_row, dOwn1_ev, noErr_ok, dLenRow_ev, dEqRow_ev, dMkRow_ev, dUnN_ev, dTupE_ev, plainT_etp, plainT_tup, catE_etp, tupleE_lst, dMethE_ev, dCallFn_ev, dEnum_ev, dEnumT_ev, iaugS_ev, dTru_ev, truD_bl, truD_int, truD_lst, truD_tup, mkS_list, dMeth_ev, dMethN_ev, dMeth0_ev, dZip_ev, dNewDct_ev, asLdc_ldc, sealS_ev, asSeq_lst, asSeq_tup, List.set, List.replicate, List.length_cons, List.length_nil, Nat.zero_add, Nat.reduceAdd, Nat.reduceLeDiff, if_true, Bool.not_true, Bool.not_false, List.map_nil, List.map_cons, rowN_ok ra, rowN_ok rb, e7, e8])).trans ?_
    refine (thenS_nx (ρ' := [.sh (.scr ns), .sh (.obj 1), .sh (nD (r + 3)), .sh (iT c), .sh (iT d), .sh (nD (t + 1)), .sh (bD nT (mrF a b (t + 1))), y7, y8, .non, .non, .non]) (m' := m6) (by simp only [bind_ok, bind_bad, bindS_ok, dV_ev, dL_ev, slotAt_0, slotAt_s, dC_ev, dN2V_ev, dBin_ev, dBinN_ev, dT_ev, asBool_bl, dAndT_ev, dOrT_ev, dNotT_ev, dAnd_ev, dOr_ev, dNot_ev, dIf_ev, dChain_ev, dUn_ev, dNoPart_ev, dPart_ev, dSl_ev, dNil_ev, dCons_ev, dTup_ev, dLst_ev, oneArg_ev, twoArg_ev, dCB_ev, dCall_ev, dIt_ev, dRng_ev, dYes_ev, dItV_ev, dItN_ev, thenS_ev, skipS_ev, retS_ev, exprS_ev, ifS_ev, setS_ev, setN_ev, augS_ev, isetS_ev, freezeS_ev, appS_ev, parS_ev, unS_ev, setAll_nil, setAll_cons, slot_v, slot_n, forS_ev, tgN_ev, contd_lst, pad_cons_ev, pad_nil_ev, addD_int, subD_int, ltD_int, leD_int, gtD_int, geD_int, negD_int, ipAddD_int, eqD_int, neD_int, lenD_lst, lenD_tup, intD_int, slN_lst, slT_tup, asList_lst, asTup_tup, catN_lst, addD_tup, bind_err, bindS_err, raiseS_ev, heldD_row, isRowD_row, dOwn1_ev, noErr_ok, dLenRow_ev, dEqRow_ev, dMkRow_ev, dUnN_ev, dTupE_ev, plainT_etp, plainT_tup, catE_etp, tupleE_lst, dMethE_ev, dCallFn_ev, dEnum_ev, dEnumT_ev, iaugS_ev, dTru_ev, truD_bl, truD_int, truD_lst, truD_tup, mkS_list, dMeth_ev, dMethN_ev, dMeth0_ev, dZip_ev, dNewDct_ev, asLdc_ldc, sealS_ev, asSeq_lst, asSeq_tup, List.set, List.replicate, List.length_cons, List.length_nil, Nat.zero_add, Nat.reduceAdd, Nat.reduceLeDiff, if_true, Bool.not_true, Bool.not_false, List.map_nil, List.map_cons, e9, e10, Itm.slot])).trans ?_
    refine (thenS_nx (ρ' := [.sh (.scr ns), .sh (.obj 1), .sh (nD (r + 3)), .sh (iT c), .sh (iT d), .sh (nD (t + 1)), .sh (bD nT (mrF a b (t + 1))), y7, y8, .non, .non, .non]) (m' := m6) (by
      simp only [ifS_ev, dT_ev, dBin_ev, dCall_ev, dCons_ev, dMkRow_ev, dV_ev, slotAt_0, slotAt_s, bind_ok, rowN_ok rc, rowN_ok rd, dNil_ev, e11, dCB_ev, dL_ev, oneArg_ev, tD, lenD_tup, List.length_map, dC_ev, gtD_int, e12, asBool_bl, bindS_ok, skipS_ev])).trans ?_
    refine (thenS_nx (ρ' := [.sh (.scr ns), .sh (.obj 1), .sh (nD (r + 3)), .sh (iT c), .sh (iT d), .sh (nD (t + 1)), .sh (bD nT (mrF a b (t + 1))), .sh (lD nD (List.replicate c.length 0)), y8, .non, .non, .non]) (m' := m6) (by
      simp only [setS_ev, dN2V_ev, dBinN_ev, dLst_ev, dCons_ev, dC_ev, bind_ok, dNil_ev, List.length_cons, List.length_nil, Nat.zero_add, Nat.reduceLeDiff, if_true, contd_lst, dCB_ev, dL_ev, slotAt_0, slotAt_s, oneArg_ev, tD, lenD_tup, List.length_map, e13, bindS_ok, List.set])).trans ?_
    refine (thenS_nx (ρ' := [.sh (.scr ns), .sh (.obj 1), .sh (nD (r + 3)), .sh (iT c), .sh (iT d), .sh (nD (t + 1)), .sh (bD nT (mrF a b (t + 1))), .sh (lD nD l), y8, y9, y10, .non]) (m' := m7) (by
      simp only [forS_ev, dRng_ev, dCons_ev, dCB_ev, dL_ev, slotAt_0, slotAt_s, bind_ok, dNil_ev, oneArg_ev, tD, lenD_tup, List.length_map, q3, bindS_ok]
      exact e14)).trans ?_
    exact hv
  by_cases hbig : 12 < c.length + d.length
  · have e15 := told_large c d (nT l) m7 (mixed_large c d (nT l) m7 (by omega) (by omega) hbig)
    have q4 : decide ((12 : Int) < (l.length : Int)) = true := by rw [decide_eq_true_eq, hlen]; omega
    have q5 : eqD (.str "large") (.str "large") = .ok (.bl true) := by kernel_rfl
    refine ⟨m7, hgo _ _ (thenS_rt ?_)⟩
    simp only [ifS_ev, dT_ev, dBin_ev, dCB_ev, dCons_ev, dL_ev, slotAt_0, slotAt_s, bind_ok, dNil_ev, oneArg_ev, lD, lenD_lst, List.length_map, dC_ev, gtD_int, q4, asBool_bl, bindS_ok, retS_ev, dCall_ev, dMkRow_ev, dV_ev, rowN_ok rc, rowN_ok rd, t1, e15, q5]
  · have e15 := told_row c d (nT l) (iT (comeF c d l)) m7 (mixed_ok c d l m7 hl c1 (by omega) c3 d3)
    have e16 := law_come_ok c d l (lD nD l) m7 rfl hl (by omega)
    have e17 : neD (iT (comeF c d l)) (iT (comeF c d l)) = .ok (.bl false) := neD_self (okk_ints _) (by decide)
    have q4 : decide ((12 : Int) < (l.length : Int)) = false := by rw [decide_eq_false_iff_not, hlen]; omega
    obtain ⟨k, m8, e18, hk, h8⟩ := next_natT (b := 7) h7 (by decide) (by decide +kernel)
    have e18 : den_law_next [.obj 1, .int 7] m7 = .ok (nD k, m8) := e18
    obtain ⟨o, ho, e19⟩ := odd_at l k hk
    have e20 := told_mix c d o m8 (mixed_bad c d o m8 (by omega) (odd_bad hl c1 (by omega) m8 o ho))
    have q5 : eqD (.str "mix") (.str "mix") = .ok (.bl true) := by kernel_rfl
    have hmem : lastN l ≤ 1 := by
      have hne : l ≠ [] := fun e => by rw [e, List.length_nil] at hlen; omega
      have q : lastN l ∈ l.take (l.length - 1) ++ [lastN l] := List.mem_append_right _ (List.mem_singleton.mpr rfl)
      rw [← last_split l hne] at q
      exact hl.bit _ q
    have e21 := fin_ok l m7 (.sh (.scr ns)) (.sh (.obj 1)) (.sh (nD (r + 3))) (.sh (iT c)) (.sh (iT d)) (.sh (nD (t + 1))) (.sh (bD nT (mrF a b (t + 1)))) y8 y9 y10 .non (by omega) (by omega) hmem
    refine ⟨m8, hgo _ _ ?_⟩
    refine (thenS_nx (ρ' := [.sh (.scr ns), .sh (.obj 1), .sh (nD (r + 3)), .sh (iT c), .sh (iT d), .sh (nD (t + 1)), .sh (bD nT (mrF a b (t + 1))), .sh (lD nD l), y8, y9, y10, .non]) (m' := m7) (by
      simp only [ifS_ev, dT_ev, dBin_ev, dCB_ev, dCons_ev, dL_ev, slotAt_0, slotAt_s, bind_ok, dNil_ev, oneArg_ev, lD, lenD_lst, List.length_map, dC_ev, gtD_int, q4, asBool_bl, bindS_ok, skipS_ev])).trans ?_
    refine (thenS_nx (ρ' := [.sh (.scr ns), .sh (.obj 1), .sh (nD (r + 3)), .sh (iT c), .sh (iT d), .sh (nD (t + 1)), .sh (bD nT (mrF a b (t + 1))), .sh (lD nD l), y8, y9, y10, .non]) (m' := m7) (by
      simp only [lD] at e16
      simp only [ifS_ev, dT_ev, dBin_ev, dCall_ev, dCons_ev, dMkRow_ev, dV_ev, slotAt_0, slotAt_s, bind_ok, rowN_ok rc, rowN_ok rd, dCB_ev, dL_ev, dNil_ev, oneArg_ev, lD, t1, e15, e16, e17, asBool_bl, bindS_ok, skipS_ev])).trans ?_
    rw [show ∀ z : SDen, thenS finA (thenS finB z) = thenS (thenS finA finB) z from fun z => by
      funext ρ m
      unfold thenS
      cases finA ρ m <;> rfl]
    refine (thenS_nx (m' := m7) e21).trans ?_
    simp only [retS_ev, dBin_ev, dCall_ev, dCons_ev, dMkRow_ev, dV_ev, slotAt_0, slotAt_s, bind_ok, rowN_ok rc, rowN_ok rd, dL_ev, contd_lst, dC_ev, dNil_ev, e18, e19, e20, q5, bindS_ok]
end L_k16
namespace L_k16
open PySem PySem.Spec PyProof.Rows L2 PD
def d11 : He5.DefA := ⟨fun K => He.ga K "is_integer", "is_integer", "is_integer", defArgs (top 11), defBody (top 11), defScope (top 11), [], []⟩
def d12 : He5.DefA := ⟨fun K => He.ga K "is_from", "is_from", "is_from", defArgs (top 12), defBody (top 12), defScope (top 12), [], []⟩
def d14 : He5.DefA := ⟨fun K => He.ga K "check_row", "check_row", "check_row", defArgs (top 14), defBody (top 14), defScope (top 14), [], []⟩
def d15 : He5.DefA := ⟨fun K => He.ga K "classes", "classes", "classes", defArgs (top 15), defBody (top 15), defScope (top 15), [], []⟩
def d19 : He5.DefA := ⟨fun K => He.ga K "check_tracks", "check_tracks", "check_tracks", defArgs (top 19), defBody (top 19), defScope (top 19), [], []⟩
def d20 : He5.DefA := ⟨fun K => He.ga K "longer_ends", "longer_ends", "longer_ends", defArgs (top 20), defBody (top 20), defScope (top 20), [], []⟩
def d21 : He5.DefA := ⟨fun K => He.ga K "reach", "reach", "reach", defArgs (top 21), defBody (top 21), defScope (top 21), [], []⟩
def d23 : He5.DefA := ⟨fun K => He.ga K "levels", "levels", "levels", defArgs (top 23), defBody (top 23), defScope (top 23), [], []⟩
def d24 : He5.DefA := ⟨fun K => He.ga K "least_pulls", "least_pulls", "least_pulls", defArgs (top 24), defBody (top 24), defScope (top 24), [], []⟩
def d27 : He5.DefA := ⟨fun K => He.ga K "mixes_of", "mixes_of", "mixes_of", defArgs (top 27), defBody (top 27), defScope (top 27), [], []⟩
def d28 : He5.DefA := ⟨fun K => He.ga K "groups_by", "groups_by", "groups_by", defArgs (top 28), defBody (top 28), defScope (top 28), [], []⟩
def d29 : He5.DefA := ⟨fun K => He.ga K "mixed_rows", "mixed_rows", "mixed_rows", defArgs (top 29), defBody (top 29), defScope (top 29), [], []⟩
def d30 : He5.DefA := ⟨fun K => He.ga K "is_mix", "is_mix", "is_mix", defArgs (top 30), defBody (top 30), defScope (top 30), [], []⟩
def d31 : He5.DefA := ⟨fun K => He.ga K "mixed", "mixed", "mixed", defArgs (top 31), defBody (top 31), defScope (top 31), [], []⟩
def d33 : He5.DefA := ⟨fun K => He.ga K "_law_mix", "_law_mix", "_law_mix", defArgs (top 33), defBody (top 33), defScope (top 33), [], []⟩
def d34 : He5.DefA := ⟨fun K => He.ga K "_law_next", "_law_next", "_law_next", defArgs (top 34), defBody (top 34), defScope (top 34), [], []⟩
def d35 : He5.DefA := ⟨fun K => He.ga K "_law_groups", "_law_groups", "_law_groups", defArgs (top 35), defBody (top 35), defScope (top 35), [], []⟩
def d36 : He5.DefA := ⟨fun K => He.ga K "_law_stops", "_law_stops", "_law_stops", defArgs (top 36), defBody (top 36), defScope (top 36), [], []⟩
def d37 : He5.DefA := ⟨fun K => He.ga K "_law_fits", "_law_fits", "_law_fits", defArgs (top 37), defBody (top 37), defScope (top 37), [], []⟩
def d38 : He5.DefA := ⟨fun K => He.ga K "_law_codes", "_law_codes", "_law_codes", defArgs (top 38), defBody (top 38), defScope (top 38), [], []⟩
def d39 : He5.DefA := ⟨fun K => He.ga K "_law_ahead", "_law_ahead", "_law_ahead", defArgs (top 39), defBody (top 39), defScope (top 39), [], []⟩
def d40 : He5.DefA := ⟨fun K => He.ga K "_law_right", "_law_right", "_law_right", defArgs (top 40), defBody (top 40), defScope (top 40), [], []⟩
def d41 : He5.DefA := ⟨fun K => He.ga K "_law_levels", "_law_levels", "_law_levels", defArgs (top 41), defBody (top 41), defScope (top 41), [], []⟩
def d42 : He5.DefA := ⟨fun K => He.ga K "_law_pulls", "_law_pulls", "_law_pulls", defArgs (top 42), defBody (top 42), defScope (top 42), [], []⟩
def d43 : He5.DefA := ⟨fun K => He.ga K "_law_mixes", "_law_mixes", "_law_mixes", defArgs (top 43), defBody (top 43), defScope (top 43), [], []⟩
def d44 : He5.DefA := ⟨fun K => He.ga K "_law_come", "_law_come", "_law_come", defArgs (top 44), defBody (top 44), defScope (top 44), [], []⟩
def d45 : He5.DefA := ⟨fun K => He.ga K "_law_told", "_law_told", "_law_told", defArgs (top 45), defBody (top 45), defScope (top 45), [], []⟩
def d46 : He5.DefA := ⟨fun K => He.ga K "_law_large", "_law_large", "_law_large", defArgs (top 46), defBody (top 46), defScope (top 46), [], []⟩
def d47 : He5.DefA := ⟨fun K => He.ga K "law", "law", "law", defArgs (top 47), defBody (top 47), defScope (top 47), [], []⟩
def m13_0 : He5.DefA := ⟨fun K => (He.ma K (cA K "Row") "__init__"), "__init__", "Row.__init__", defArgs (inClass (top 13) 0), defBody (inClass (top 13) 0), defScope (inClass (top 13) 0), [], []⟩
def m13_1 : He5.DefA := ⟨fun K => (gAd K "Row" "groups"), "groups", "Row.groups", defArgs (inClass (top 13) 1), defBody (inClass (top 13) 1), defScope (inClass (top 13) 1), [], []⟩
def m13_2 : He5.DefA := ⟨fun K => (He.ma K (cA K "Row") "__len__"), "__len__", "Row.__len__", defArgs (inClass (top 13) 2), defBody (inClass (top 13) 2), defScope (inClass (top 13) 2), [], []⟩
def m13_3 : He5.DefA := ⟨fun K => (He.ma K (cA K "Row") "__eq__"), "__eq__", "Row.__eq__", defArgs (inClass (top 13) 3), defBody (inClass (top 13) 3), defScope (inClass (top 13) 3), [], []⟩
def fn : List He5.DefA := [d11, d12, d14, d15, d19, d20, d21, d23, d24, d27, d28, d29, d30, d31, d33, d34, d35, d36, d37, d38, d39, d40, d41, d42, d43, d44, d45, d46, d47, m13_0, m13_1, m13_2, m13_3]
def fa : List Fb := [faB (.free "max"), faB (.free "int"), faB (.free "len"), faB (.free "isinstance"), faB (.free "bool"), faB (.free "tuple"), faB (.free "sorted"), faB (.free "set"), faB (.free "enumerate"), faB (.free "sum"), faB (.free "range"), faB (.free "list"), faB (.int "MOST_WAGONS" 12), faB (.int "MOST_GROUP" 11), faB (.int "MOST_TRACKS" 4), faB (.int "MOST_REACH" 200), faB (.int "MOST_MIXED" 6), faB (.glo "BadGroups"), faB (.exc "BadGroups"), faB (.glo "BadRow"), faB (.exc "BadRow"), faB (.glo "BadTracks"), faB (.exc "BadTracks"), faB (.glo "BadPulls"), faB (.exc "BadPulls"), faB (.glo "TooLarge"), faB (.exc "TooLarge"), faB (.glo "BadMix"), faB (.exc "BadMix"), errB As Bs, faB (.glo "is_integer"), faB (.glo "is_from"), faB (.glo "check_row"), faB (.glo "classes"), faB (.glo "check_tracks"), faB (.glo "longer_ends"), faB (.glo "reach"), faB (.glo "levels"), faB (.glo "least_pulls"), faB (.glo "mixes_of"), faB (.glo "groups_by"), faB (.glo "mixed_rows"), faB (.glo "is_mix"), faB (.glo "mixed"), faB (.glo "_law_mix"), faB (.glo "_law_next"), faB (.glo "_law_groups"), faB (.glo "_law_stops"), faB (.glo "_law_fits"), faB (.glo "_law_codes"), faB (.glo "_law_ahead"), faB (.glo "_law_right"), faB (.glo "_law_levels"), faB (.glo "_law_pulls"), faB (.glo "_law_mixes"), faB (.glo "_law_come"), faB (.glo "_law_told"), faB (.glo "_law_large"), faB (.glo "law"), faB (.glo "Row"), rowB, faB (.cls "Row"), faB (.noat "Row" "held"), faB (.mkr "Row"), faB (.meth "Row" "__len__"), faB (.meth "Row" "__eq__"), propB "Row" "groups", nfB]
theorem txt {K : PySem.W.Frag} {h base : Heap} {mg : Str → Option Value} (X : K.In h) (G : h.Ns mainGlobals mg) (c : SaysP fa fn K) (tb : TabK K mg base "_law_levels") : Txt K mg base where
  tab := tb
  b_max := He.free_ok X G (c.fact 0 (f := faB (.free "max")) rfl)
  b_int := He.free_ok X G (c.fact 1 (f := faB (.free "int")) rfl)
  b_len := He.free_ok X G (c.fact 2 (f := faB (.free "len")) rfl)
  b_isinstance := He.free_ok X G (c.fact 3 (f := faB (.free "isinstance")) rfl)
  b_bool := He.free_ok X G (c.fact 4 (f := faB (.free "bool")) rfl)
  b_tuple := He.free_ok X G (c.fact 5 (f := faB (.free "tuple")) rfl)
  b_sorted := He.free_ok X G (c.fact 6 (f := faB (.free "sorted")) rfl)
  b_set := He.free_ok X G (c.fact 7 (f := faB (.free "set")) rfl)
  b_enumerate := He.free_ok X G (c.fact 8 (f := faB (.free "enumerate")) rfl)
  b_sum := He.free_ok X G (c.fact 9 (f := faB (.free "sum")) rfl)
  b_range := He.free_ok X G (c.fact 10 (f := faB (.free "range")) rfl)
  b_list := He.free_ok X G (c.fact 11 (f := faB (.free "list")) rfl)
  g_MOST_WAGONS := He.int_ok X G (c.fact 12 (f := faB (.int "MOST_WAGONS" 12)) rfl)
  g_MOST_GROUP := He.int_ok X G (c.fact 13 (f := faB (.int "MOST_GROUP" 11)) rfl)
  g_MOST_TRACKS := He.int_ok X G (c.fact 14 (f := faB (.int "MOST_TRACKS" 4)) rfl)
  g_MOST_REACH := He.int_ok X G (c.fact 15 (f := faB (.int "MOST_REACH" 200)) rfl)
  g_MOST_MIXED := He.int_ok X G (c.fact 16 (f := faB (.int "MOST_MIXED" 6)) rfl)
  e_BadGroups := excK_ok (He.glo_ok X G (c.fact 17 (f := faB (.glo "BadGroups")) rfl)) (c.fact 18 (f := faB (.exc "BadGroups")) rfl)
  e_BadRow := excK_ok (He.glo_ok X G (c.fact 19 (f := faB (.glo "BadRow")) rfl)) (c.fact 20 (f := faB (.exc "BadRow")) rfl)
  e_BadTracks := excK_ok (He.glo_ok X G (c.fact 21 (f := faB (.glo "BadTracks")) rfl)) (c.fact 22 (f := faB (.exc "BadTracks")) rfl)
  e_BadPulls := excK_ok (He.glo_ok X G (c.fact 23 (f := faB (.glo "BadPulls")) rfl)) (c.fact 24 (f := faB (.exc "BadPulls")) rfl)
  e_TooLarge := excK_ok (He.glo_ok X G (c.fact 25 (f := faB (.glo "TooLarge")) rfl)) (c.fact 26 (f := faB (.exc "TooLarge")) rfl)
  e_BadMix := excK_ok (He.glo_ok X G (c.fact 27 (f := faB (.glo "BadMix")) rfl)) (c.fact 28 (f := faB (.exc "BadMix")) rfl)
  err := errK_ok (List.forall_mem_cons.mpr ⟨He.glo_ok X G (c.fact 17 (f := faB (.glo "BadGroups")) rfl), (List.forall_mem_cons.mpr ⟨He.glo_ok X G (c.fact 19 (f := faB (.glo "BadRow")) rfl), (List.forall_mem_cons.mpr ⟨He.glo_ok X G (c.fact 23 (f := faB (.glo "BadPulls")) rfl), (List.forall_mem_cons.mpr ⟨He.glo_ok X G (c.fact 21 (f := faB (.glo "BadTracks")) rfl), (List.forall_mem_cons.mpr ⟨He.glo_ok X G (c.fact 25 (f := faB (.glo "TooLarge")) rfl), (List.forall_mem_cons.mpr ⟨He.glo_ok X G (c.fact 27 (f := faB (.glo "BadMix")) rfl), (fun _ h => nomatch h)⟩)⟩)⟩)⟩)⟩)⟩) (List.forall_mem_cons.mpr ⟨He.glo_ok X G (c.fact 27 (f := faB (.glo "BadMix")) rfl), (List.forall_mem_cons.mpr ⟨He.glo_ok X G (c.fact 25 (f := faB (.glo "TooLarge")) rfl), (fun _ h => nomatch h)⟩)⟩) (c.fact 29 (f := errB As Bs) rfl)
  f_is_integer := by
    obtain ⟨fd, F⟩ := c.def_ 0 (d := d11) rfl
    exact ⟨_, fd, F, He.glo_ok X G (c.fact 30 (f := faB (.glo "is_integer")) rfl), FunD.bindsN F fun _ _ _ _ _ _ us hl => match us, hl with | [_], _ => rfl⟩
  f_is_from := by
    obtain ⟨fd, F⟩ := c.def_ 1 (d := d12) rfl
    exact ⟨_, fd, F, He.glo_ok X G (c.fact 31 (f := faB (.glo "is_from")) rfl), FunD.bindsN F fun _ _ _ _ _ _ us hl => match us, hl with | [_, _, _], _ => rfl⟩
  f_check_row := by
    obtain ⟨fd, F⟩ := c.def_ 2 (d := d14) rfl
    exact ⟨_, fd, F, He.glo_ok X G (c.fact 32 (f := faB (.glo "check_row")) rfl), FunD.bindsN F fun _ _ _ _ _ _ us hl => match us, hl with | [_], _ => rfl⟩
  f_classes := by
    obtain ⟨fd, F⟩ := c.def_ 3 (d := d15) rfl
    exact ⟨_, fd, F, He.glo_ok X G (c.fact 33 (f := faB (.glo "classes")) rfl), FunD.bindsN F fun _ _ _ _ _ _ us hl => match us, hl with | [_], _ => rfl⟩
  f_check_tracks := by
    obtain ⟨fd, F⟩ := c.def_ 4 (d := d19) rfl
    exact ⟨_, fd, F, He.glo_ok X G (c.fact 34 (f := faB (.glo "check_tracks")) rfl), FunD.bindsN F fun _ _ _ _ _ _ us hl => match us, hl with | [_], _ => rfl⟩
  f_longer_ends := by
    obtain ⟨fd, F⟩ := c.def_ 5 (d := d20) rfl
    exact ⟨_, fd, F, He.glo_ok X G (c.fact 35 (f := faB (.glo "longer_ends")) rfl), FunD.bindsN F fun _ _ _ _ _ _ us hl => match us, hl with | [_, _], _ => rfl⟩
  f_reach := by
    obtain ⟨fd, F⟩ := c.def_ 6 (d := d21) rfl
    exact ⟨_, fd, F, He.glo_ok X G (c.fact 36 (f := faB (.glo "reach")) rfl), FunD.bindsN F fun _ _ _ _ _ _ us hl => match us, hl with | [_, _], _ => rfl⟩
  f_levels := by
    obtain ⟨fd, F⟩ := c.def_ 7 (d := d23) rfl
    exact ⟨_, fd, F, He.glo_ok X G (c.fact 37 (f := faB (.glo "levels")) rfl), FunD.bindsN F fun _ _ _ _ _ _ us hl => match us, hl with | [_], _ => rfl⟩
  f_least_pulls := by
    obtain ⟨fd, F⟩ := c.def_ 8 (d := d24) rfl
    exact ⟨_, fd, F, He.glo_ok X G (c.fact 38 (f := faB (.glo "least_pulls")) rfl), FunD.bindsN F fun _ _ _ _ _ _ us hl => match us, hl with | [_, _], _ => rfl⟩
  f_mixes_of := by
    obtain ⟨fd, F⟩ := c.def_ 9 (d := d27) rfl
    exact ⟨_, fd, F, He.glo_ok X G (c.fact 39 (f := faB (.glo "mixes_of")) rfl), FunD.bindsN F fun _ _ _ _ _ _ us hl => match us, hl with | [_, _], _ => rfl⟩
  f_groups_by := by
    obtain ⟨fd, F⟩ := c.def_ 10 (d := d28) rfl
    exact ⟨_, fd, F, He.glo_ok X G (c.fact 40 (f := faB (.glo "groups_by")) rfl), FunD.bindsN F fun _ _ _ _ _ _ us hl => match us, hl with | [_, _, _], _ => rfl⟩
  f_mixed_rows := by
    obtain ⟨fd, F⟩ := c.def_ 11 (d := d29) rfl
    exact ⟨_, fd, F, He.glo_ok X G (c.fact 41 (f := faB (.glo "mixed_rows")) rfl), FunD.bindsN F fun _ _ _ _ _ _ us hl => match us, hl with | [_, _, _], _ => rfl⟩
  f_is_mix := by
    obtain ⟨fd, F⟩ := c.def_ 12 (d := d30) rfl
    exact ⟨_, fd, F, He.glo_ok X G (c.fact 42 (f := faB (.glo "is_mix")) rfl), FunD.bindsN F fun _ _ _ _ _ _ us hl => match us, hl with | [_, _, _], _ => rfl⟩
  f_mixed := by
    obtain ⟨fd, F⟩ := c.def_ 13 (d := d31) rfl
    exact ⟨_, fd, F, He.glo_ok X G (c.fact 43 (f := faB (.glo "mixed")) rfl), FunD.bindsN F fun _ _ _ _ _ _ us hl => match us, hl with | [_, _, _], _ => rfl⟩
  f_law_mix := by
    obtain ⟨fd, F⟩ := c.def_ 14 (d := d33) rfl
    exact ⟨_, fd, F, He.glo_ok X G (c.fact 44 (f := faB (.glo "_law_mix")) rfl), FunD.bindsN F fun _ _ _ _ _ _ us hl => match us, hl with | [_, _], _ => rfl⟩
  f_law_next := by
    obtain ⟨fd, F⟩ := c.def_ 15 (d := d34) rfl
    exact ⟨_, fd, F, He.glo_ok X G (c.fact 45 (f := faB (.glo "_law_next")) rfl), FunD.bindsN F fun _ _ _ _ _ _ us hl => match us, hl with | [_, _], _ => rfl⟩
  f_law_groups := by
    obtain ⟨fd, F⟩ := c.def_ 16 (d := d35) rfl
    exact ⟨_, fd, F, He.glo_ok X G (c.fact 46 (f := faB (.glo "_law_groups")) rfl), FunD.bindsN F fun _ _ _ _ _ _ us hl => match us, hl with | [_, _], _ => rfl⟩
  f_law_stops := by
    obtain ⟨fd, F⟩ := c.def_ 17 (d := d36) rfl
    exact ⟨_, fd, F, He.glo_ok X G (c.fact 47 (f := faB (.glo "_law_stops")) rfl), FunD.bindsN F fun _ _ _ _ _ _ us hl => match us, hl with | [_], _ => rfl⟩
  f_law_fits := by
    obtain ⟨fd, F⟩ := c.def_ 18 (d := d37) rfl
    exact ⟨_, fd, F, He.glo_ok X G (c.fact 48 (f := faB (.glo "_law_fits")) rfl), FunD.bindsN F fun _ _ _ _ _ _ us hl => match us, hl with | [_, _], _ => rfl⟩
  f_law_codes := by
    obtain ⟨fd, F⟩ := c.def_ 19 (d := d38) rfl
    exact ⟨_, fd, F, He.glo_ok X G (c.fact 49 (f := faB (.glo "_law_codes")) rfl), FunD.bindsN F fun _ _ _ _ _ _ us hl => match us, hl with | [_, _], _ => rfl⟩
  f_law_ahead := by
    obtain ⟨fd, F⟩ := c.def_ 20 (d := d39) rfl
    exact ⟨_, fd, F, He.glo_ok X G (c.fact 50 (f := faB (.glo "_law_ahead")) rfl), FunD.bindsN F fun _ _ _ _ _ _ us hl => match us, hl with | [_, _, _], _ => rfl⟩
  f_law_right := by
    obtain ⟨fd, F⟩ := c.def_ 21 (d := d40) rfl
    exact ⟨_, fd, F, He.glo_ok X G (c.fact 51 (f := faB (.glo "_law_right")) rfl), FunD.bindsN F fun _ _ _ _ _ _ us hl => match us, hl with | [_, _], _ => rfl⟩
  f_law_levels := by
    obtain ⟨fd, F⟩ := c.def_ 22 (d := d41) rfl
    exact ⟨_, fd, F, He.glo_ok X G (c.fact 52 (f := faB (.glo "_law_levels")) rfl), FunD.bindsN F fun _ _ _ _ _ _ us hl => match us, hl with | [_], _ => rfl⟩
  f_law_pulls := by
    obtain ⟨fd, F⟩ := c.def_ 23 (d := d42) rfl
    exact ⟨_, fd, F, He.glo_ok X G (c.fact 53 (f := faB (.glo "_law_pulls")) rfl), FunD.bindsN F fun _ _ _ _ _ _ us hl => match us, hl with | [_, _], _ => rfl⟩
  f_law_mixes := by
    obtain ⟨fd, F⟩ := c.def_ 24 (d := d43) rfl
    exact ⟨_, fd, F, He.glo_ok X G (c.fact 54 (f := faB (.glo "_law_mixes")) rfl), FunD.bindsN F fun _ _ _ _ _ _ us hl => match us, hl with | [_, _], _ => rfl⟩
  f_law_come := by
    obtain ⟨fd, F⟩ := c.def_ 25 (d := d44) rfl
    exact ⟨_, fd, F, He.glo_ok X G (c.fact 55 (f := faB (.glo "_law_come")) rfl), FunD.bindsN F fun _ _ _ _ _ _ us hl => match us, hl with | [_, _, _], _ => rfl⟩
  f_law_told := by
    obtain ⟨fd, F⟩ := c.def_ 26 (d := d45) rfl
    exact ⟨_, fd, F, He.glo_ok X G (c.fact 56 (f := faB (.glo "_law_told")) rfl), FunD.bindsN F fun _ _ _ _ _ _ us hl => match us, hl with | [_, _, _], _ => rfl⟩
  f_law_large := by
    obtain ⟨fd, F⟩ := c.def_ 27 (d := d46) rfl
    exact ⟨_, fd, F, He.glo_ok X G (c.fact 57 (f := faB (.glo "_law_large")) rfl), FunD.bindsN F fun _ _ _ _ _ _ us hl => match us, hl with | [_, _], _ => rfl⟩
  f_law := by
    obtain ⟨fd, F⟩ := c.def_ 28 (d := d47) rfl
    exact ⟨_, fd, F, He.glo_ok X G (c.fact 58 (f := faB (.glo "law")) rfl), FunD.bindsN F fun _ _ _ _ _ _ us hl => match us, hl with | [_], _ => rfl⟩
  f_Row___init__ := by
    obtain ⟨fd, F⟩ := c.def_ 29 (d := m13_0) rfl
    exact ⟨fd, F, FunD.bindsN F fun _ _ _ _ _ _ us hl => match us, hl with | [_, _], _ => rfl⟩
  f_Row_groups := by
    obtain ⟨fd, F⟩ := c.def_ 30 (d := m13_1) rfl
    exact ⟨fd, F, FunD.bindsN F fun _ _ _ _ _ _ us hl => match us, hl with | [_], _ => rfl⟩
  f_Row___len__ := by
    obtain ⟨fd, F⟩ := c.def_ 31 (d := m13_2) rfl
    exact ⟨fd, F, FunD.bindsN F fun _ _ _ _ _ _ us hl => match us, hl with | [_], _ => rfl⟩
  f_Row___eq__ := by
    obtain ⟨fd, F⟩ := c.def_ 32 (d := m13_3) rfl
    exact ⟨fd, F, FunD.bindsN F fun _ _ _ _ _ _ us hl => match us, hl with | [_, _], _ => rfl⟩
  row := rowB_ok (He.glo_ok X G (c.fact 59 (f := faB (.glo "Row")) rfl)) (c.fact 60 (f := rowB) rfl)
  at_Row_held := ⟨He.glo_ok X G (c.fact 59 (f := faB (.glo "Row")) rfl), He.cls_ok (c.fact 61 (f := faB (.cls "Row")) rfl), He.noat_ok (c.fact 62 (f := faB (.noat "Row" "held")) rfl)⟩
  mk_Row := He.mkr_ok (c.fact 63 (f := faB (.mkr "Row")) rfl)
  m_Row___len__ := He.meth_ok (c.fact 64 (f := faB (.meth "Row" "__len__")) rfl)
  m_Row___eq__ := He.meth_ok (c.fact 65 (f := faB (.meth "Row" "__eq__")) rfl)
  p_Row_groups := propB_ok (c.fact 66 (f := propB "Row" "groups") rfl)
  nf := c.fact 67 (f := nfB) rfl
abbrev R : PySem.W.OpenRow := PySem.W.OpenLaw.row PySem.Challenge.rw_pullouts_k16_whole_mixes_of_two_rows
abbrev hk : PySem.W.Hook := hookPT 5 fa fn "_law_levels"
def ob (s : PySem.W.SharedT) : AlPT := obsPT 5 fa fn "_law_levels" (HandSHeadRun.getT s)
theorem ob_eq (s : PySem.W.SharedT) : ob s = hk.obs s.abs := obsPT_eq (HandSHeadRun.getT_eq s)
abbrev loose : List PySem.Str := (["PullError", "BadGroups", "BadRow", "BadPulls", "BadTracks", "TooLarge", "BadMix", "MOST_WAGONS", "MOST_GROUP", "is_integer", "is_from", "Row", "check_row", "classes", "MOST_TRACKS", "MOST_REACH", "check_tracks", "longer_ends", "reach", "levels", "least_pulls", "MOST_MIXED", "mixes_of", "groups_by", "mixed_rows", "is_mix", "mixed", "_law_mix", "_law_next", "_law_groups"] : List PySem.Str) ++ (["_law_stops", "_law_fits", "_law_codes", "_law_ahead", "_law_right", "_law_levels", "_law_pulls", "_law_mixes", "_law_come", "_law_told", "_law_large"] : List PySem.Str)
theorem run (w : World) : HandSHeadRun.RunEq R (PySem.W.view R.prog [47]) hk ob 9000 loose w := by
  intro os
  kernel_rfl
theorem facts {P : Program} {w : World} {K : PySem.W.Frag} {h : Heap} {mg : Str → Option Value} {f : Addr} (X : K.In h) (G : h.Ns mainGlobals mg) (hfa : mg ("law" : Str) = some (.ref f)) (c : SaysP fa fn K) :
    ∃ fd : FuncData, (∀ (s : Shared) (v : Value), BindsTo s fd ⟨[v], []⟩ [("_law_script", v)]) ∧ ∀ base : Heap, LamX.TabB base mg (He.cT K ("_law_levels", none)).1 (He.cT K ("_law_levels", none)).2 → FnOk P w K mg base (L2.CX P w) 14 f fd ["_law_script"] (spF K mg 1 den_law) := by
  obtain ⟨fd, F⟩ := c.def_ 28 (d := d47) rfl
  have e := hfa.symm.trans (He.glo_ok X G (c.fact 58 (f := faB (.glo "law")) rfl))
  cases e
  have b := FunD.bindsA (ps := ["_law_script"]) F fun _ _ _ _ _ _ us hl => match us, hl with | [_], _ => rfl
  exact ⟨fd, fun s v => b s [v] rfl, fun base tb => ok_law F (txt X G c ⟨He.glo_ok X G (c.fact 52 (f := faB (.glo "_law_levels")) rfl), tb⟩)⟩
end L_k16
open PySem PySem.W PySem.Calls PyProof.Rows
theorem PySem.Challenge.cw_pullouts_k16_whole_mixes_of_two_rows_holds : PySem.Challenge.rw_pullouts_k16_whole_mixes_of_two_rows.Holds := by
  w_on; o_law
  refine HandSHeadRun.head_any (r := OpenLaw.row PySem.Challenge.rw_pullouts_k16_whole_mixes_of_two_rows) (q := view (OpenLaw.row PySem.Challenge.rw_pullouts_k16_whole_mixes_of_two_rows).prog [47]) (H := L_k16.hk) (ob := L_k16.ob) (M := 9000) (loose := L_k16.loose) (d := HandSHeadRun.topDef (OpenLaw.row PySem.Challenge.rw_pullouts_k16_whole_mixes_of_two_rows).prog 47) (kwd := []) L_k16.ob_eq
    (by kernel_rfl) (fun s => by kernel_rfl) L_k16.run (by kernel_rfl) (by kernel_rfl) (by kernel_rfl) (by rfl) (by first | assumption | decide +kernel) (by decide +kernel) ⟨rfl, rfl, rfl, rfl, rfl, by decide +kernel⟩ ?hw ?hc
  case hw => w_witness2
  case hc =>
    refine PD.walk_pdT (l := PySem.Challenge.rw_pullouts_k16_whole_mixes_of_two_rows) (n := 63) (k := 14) (y := "_law_script") (x := "_law_levels") (q := "_law_levels.<locals>.<lambda>") (f := L_k16.den_law) rfl (by decide) (by kernel_rfl) ⟨rfl, by decide, by decide⟩ ?F L_k16.plain
    intro w mg fa h Y G hmg0
    obtain ⟨K, KX, c⟩ := Y
    have hmg : mg ("law" : PySem.Str) = some (.ref fa) := by
      have e : (HandSHeadRun.topDef (OpenLaw.row PySem.Challenge.rw_pullouts_k16_whole_mixes_of_two_rows).prog 47).name = ("law" : PySem.Str) := by kernel_rfl
      rw [← e]
      exact hmg0
    obtain ⟨fd, hb, hF⟩ := L_k16.facts (P := (PySem.Challenge.rw_pullouts_k16_whole_mixes_of_two_rows).prog) (w := w) KX G hmg c.p
    exact ⟨K, fd, KX, c.hd, c.out, c.empty, hb, fun base _ _ tb => hF base tb⟩
