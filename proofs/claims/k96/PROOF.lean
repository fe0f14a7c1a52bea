import PyProof.Rows.All
import Wide.All
import OpenK.AllK
import Wide.FinOn
import HandS.ForMost
import HandS.Flow
import HandS.Deep
import HandS.SortOrd
import HandS.Conv
import KE.KDictKeyed
import KE.KDictWalk
import KE.KDictCopyH
import HandS.TupAny
import KE.SortData
import KE.DataMinMax
import KE.DataEq
import KE.DataCmp
import KE.DataIsa
import KE.DataAny
import KE.DataFind
import KE.DatumIndex
import HandS.TupLe
import HandS.TupMul
import HandS.Dict
import KE.KDictSum
import PyProof.SeqIndex
import HandS.Words
import HandS.Defaults
import HandS.Small
import HandS.Style
import PyProof.TupleOfSeq
import KE.KEqDict
import KE.KDictOf
import KE.KDictDisplayH
import PyProof.DictTable
import HandS.Head0
import HandS.Head1
import HandS.Head2
import HandS.HeadEnd
import HandS.HeadHook1
import HandS.HeadHook2
import PySem.Challenge.RW_forewarned_k96_levels_that_are_calm
section
set_option Elab.async false
set_option linter.all false
set_option maxRecDepth 100000
set_option autoImplicit false
/-! The data layer 0: data, values, slots, boxes; what they are in the abstract heap; worlds and their steps. -/
namespace DL
open PySem PySem.Spec PyProof.Rows L2

/-- a value: plain data, a reference to a box, a list that is only read (the script) -/
inductive Vl where
  | d (x : PyData)
  | bx (n : Nat)
  | fz (xs : List PyData)
/-- what a name of a def holds: nothing, a value, a changeable thing that nobody else knows -/
inductive Sl where
  | un
  | sh (x : Vl)
  | ow (x : PyData)
/-- a box: an object that is changed through references -/
inductive Bx where
  | dead
  | val (x : PyData)
  | ins (C : Str) (fs : List (Str × Vl))
abbrev EnvD := List Sl
abbrev Bs := List Bx

/-- an entry of a dict: its key, the key's and the value's machine values -/
abbrev Ent := NestedKey × Value × Value
def entD (w : World) (x : Ent) : DictEntry := ⟨x.1.hash w, x.2.1, x.2.2⟩
def dXp (w : World) (a : Addr) (ep : Nat) (xs : List Ent) (h : Heap) : Prop :=
  xs.length ≤ sizeLine ∧ (a == sysModules) = false ∧ ∃ o es, h.get? a = some o ∧ o.ExactDict ∧ o.data = .dict es ep ∧ es.toList = xs.map (entD w)
/-- a dict whatever its keys are, at a; ep: the count of its changes -/
def dX (w : World) (a : Addr) (ep : Nat) (xs : List Ent) : HO := .ext (dXp w a ep xs)
/-- keys are each once; they are carried by value, or they are tuples -/
def isTupK : NestedKey → Bool
  | .tup ks => decide (NestedKey.depth (.tup ks) ≤ 8)
  | _ => false
def isLeafK : NestedKey → Bool
  | .tup _ => false
  | _ => true
def KeysOk (ks : List NestedKey) : Prop := ks.Nodup ∧ ((∀ k ∈ ks, isLeafK k = true) ∨ (∀ k ∈ ks, isTupK k = true))

mutual
/-- the value v is the data d, in the abstract heap R -/
inductive Rp (w : World) (K : PySem.W.Frag) (R : Hp) : V → PyData → Prop
  | non : Rp w K R .non .none
  | bl (b : Bool) : Rp w K R (.bl b) (.bool b)
  | int (i : Int) : Rp w K R (.int i) (.int i)
  | str (x : Str) : Rp w K R (.str x) (.str x)
  | lst {a : Addr} {vs : List V} {ds : List PyData} : R a = some (.lst vs) → Rps w K R vs ds → Rp w K R (.ref a) (.list ds)
  | tup {a : Addr} {vs : List V} {ds : List PyData} : SqT K R a vs → Rps w K R vs ds → Rp w K R (.ref a) (.tuple ds)
  | dct {a : Addr} {ep : Nat} {xs : List Ent} {kvs : List (PyData × PyData)} : R a = some (dX w a ep xs) → KeysOk (xs.map (·.1)) → Rpe w K R xs kvs → Rp w K R (.ref a) (.dict kvs)
inductive Rps (w : World) (K : PySem.W.Frag) (R : Hp) : List V → List PyData → Prop
  | nil : Rps w K R [] []
  | cons {v : V} {vs : List V} {d : PyData} {ds : List PyData} : Rp w K R v d → Rps w K R vs ds → Rps w K R (v :: vs) (d :: ds)
inductive Rpe (w : World) (K : PySem.W.Frag) (R : Hp) : List Ent → List (PyData × PyData) → Prop
  | nil : Rpe w K R [] []
  | cons {k : NestedKey} {ku vu : Value} {kv vv : V} {vd : PyData} {xs : List Ent} {kvs : List (PyData × PyData)} :
      RelV kv ku → Rp w K R kv k.data → RelV vv vu → Rp w K R vv vd → Rpe w K R xs kvs → Rpe w K R ((k, ku, vu) :: xs) ((k.data, vd) :: kvs)
end

/-- one abstract heap holds what another one holds -/
def Sub (R H : Hp) : Prop := ∀ a o, R a = some o → H a = some o
theorem Sub.refl {R : Hp} : Sub R R := fun _ _ h => h
theorem Sub.trans {R S T : Hp} (h : Sub R S) (k : Sub S T) : Sub R T := fun a o e => k a o (h a o e)
theorem Sub.upd {H : Hp} {a : Addr} {o : HO} (h : H a = none) : Sub H (upd H a o) := fun b x e => by
  rw [upd_ne (ne_of_none e h)]
  exact e
theorem Sub.rd {R H : Hp} {a : Addr} {u : HO} (s : Sub R H) (r : Rd R a u) : Rd H a u := by
  rcases r with r | ⟨o, r⟩
  · exact .inl (s _ _ r)
  · exact .inr ⟨o, s _ _ r⟩
theorem SqL.sub {K : PySem.W.Frag} {R H : Hp} {a : Addr} {xs : List V} (s : Sub R H) (h : SqL K R a xs) : SqL K H a xs := by
  rcases h with h | h
  · exact .inl (s.rd h)
  · exact .inr h
theorem SqT.sub {K : PySem.W.Frag} {R H : Hp} {a : Addr} {xs : List V} (s : Sub R H) (h : SqT K R a xs) : SqT K H a xs := by
  rcases h with h | h
  · exact .inl (s.rd h)
  · exact .inr h
section
variable {w : World} {K : PySem.W.Frag} {R H : Hp}
mutual
theorem Rp.sub (s : Sub R H) : ∀ {v : V} {d : PyData}, Rp w K R v d → Rp w K H v d
  | _, _, .non => .non
  | _, _, .bl b => .bl b
  | _, _, .int i => .int i
  | _, _, .str x => .str x
  | _, _, .lst h r => .lst (s _ _ h) (r.sub s)
  | _, _, .tup h r => .tup (SqT.sub s h) (r.sub s)
  | _, _, .dct h k r => .dct (s _ _ h) k (r.sub s)
theorem Rps.sub (s : Sub R H) : ∀ {vs : List V} {ds : List PyData}, Rps w K R vs ds → Rps w K H vs ds
  | _, _, .nil => .nil
  | _, _, .cons h r => .cons (h.sub s) (r.sub s)
theorem Rpe.sub (s : Sub R H) : ∀ {xs : List Ent} {kvs : List (PyData × PyData)}, Rpe w K R xs kvs → Rpe w K H xs kvs
  | _, _, .nil => .nil
  | _, _, .cons a b c d r => .cons a (b.sub s) c (d.sub s) (r.sub s)
end
theorem Rps.length : ∀ {vs : List V} {ds : List PyData}, Rps w K R vs ds → vs.length = ds.length
  | _, _, .nil => rfl
  | _, _, .cons _ r => by rw [List.length_cons, List.length_cons, r.length]
theorem Rpe.length : ∀ {xs : List Ent} {kvs : List (PyData × PyData)}, Rpe w K R xs kvs → xs.length = kvs.length
  | _, _, .nil => rfl
  | _, _, .cons _ _ _ _ r => by rw [List.length_cons, List.length_cons, r.length]
theorem Rps.get : ∀ {vs : List V} {ds : List PyData} {i : Nat} {d : PyData}, Rps w K R vs ds → ds[i]? = some d → ∃ v, vs[i]? = some v ∧ Rp w K R v d
  | _, _, _, _, .nil, e => by simp at e
  | _, _, 0, _, .cons h _, e => by simp at e; subst e; exact ⟨_, rfl, h⟩
  | _, _, i + 1, d, .cons _ r, e => by
    obtain ⟨v, h1, h2⟩ := Rps.get (i := i) (d := d) r (by simpa using e)
    exact ⟨v, by simpa using h1, h2⟩
theorem Rps.got : ∀ {vs : List V} {ds : List PyData} {i : Nat} {v : V}, Rps w K R vs ds → vs[i]? = some v → ∃ d, ds[i]? = some d ∧ Rp w K R v d
  | _, _, _, _, .nil, e => by simp at e
  | _, _, 0, _, .cons h _, e => by simp at e; subst e; exact ⟨_, rfl, h⟩
  | _, _, i + 1, d, .cons _ r, e => by
    obtain ⟨v, h1, h2⟩ := Rps.got (i := i) (v := d) r (by simpa using e)
    exact ⟨v, by simpa using h1, h2⟩
theorem Rps.append : ∀ {vs ws : List V} {ds es : List PyData}, Rps w K R vs ds → Rps w K R ws es → Rps w K R (vs ++ ws) (ds ++ es)
  | _, _, _, _, .nil, s => s
  | _, _, _, _, .cons r t, s => .cons r (t.append s)
theorem Rps.take : ∀ {vs : List V} {ds : List PyData} (n : Nat), Rps w K R vs ds → Rps w K R (vs.take n) (ds.take n)
  | _, _, 0, _ => .nil
  | _, _, _ + 1, .nil => .nil
  | _, _, n + 1, .cons r t => .cons r (t.take n)
theorem Rps.drop : ∀ {vs : List V} {ds : List PyData} (n : Nat), Rps w K R vs ds → Rps w K R (vs.drop n) (ds.drop n)
  | _, _, 0, r => r
  | _, _, _ + 1, .nil => .nil
  | _, _, n + 1, .cons _ t => t.drop n
theorem Rps.set {v : V} {d : PyData} (h : Rp w K R v d) : ∀ {vs : List V} {ds : List PyData} (i : Nat), Rps w K R vs ds → Rps w K R (vs.set i v) (ds.set i d)
  | _, _, _, .nil => .nil
  | _, _, 0, .cons _ t => .cons h t
  | _, _, i + 1, .cons q t => .cons q (t.set h i)
theorem Rps.one {v : V} {d : PyData} (h : Rp w K R v d) : Rps w K R [v] [d] := .cons h .nil
end

/-- the root of a changeable thing at a, its parts in R -/
inductive Rt (w : World) (K : PySem.W.Frag) (R H : Hp) (a : Addr) : PyData → Prop
  | lst {vs : List V} {ds : List PyData} : H a = some (.lst vs) → Rps w K R vs ds → Rt w K R H a (.list ds)
  | dct {ep : Nat} {xs : List Ent} {kvs : List (PyData × PyData)} : H a = some (dX w a ep xs) → KeysOk (xs.map (·.1)) → Rpe w K R xs kvs → Rt w K R H a (.dict kvs)
theorem Rt.there {w : World} {K : PySem.W.Frag} {R H : Hp} {a : Addr} {d : PyData} (h : Rt w K R H a d) : ∃ o, H a = some o := by
  cases h with
  | lst h _ => exact ⟨_, h⟩
  | dct h _ _ => exact ⟨_, h⟩
theorem Rt.mono {w : World} {K : PySem.W.Frag} {R H R' H' : Hp} {a : Addr} {d : PyData} (h : Rt w K R H a d) (s : Sub R R') (k : ∀ o, H a = some o → H' a = some o) : Rt w K R' H' a d := by
  cases h with
  | lst h r => exact .lst (k _ h) (r.sub s)
  | dct h o r => exact .dct (k _ h) o (r.sub s)
/-- it becomes plain data when its root is taken into R -/
theorem Rt.rp {w : World} {K : PySem.W.Frag} {R H R' : Hp} {a : Addr} {d : PyData} (h : Rt w K R H a d) (s : Sub R R') (k : ∀ o, H a = some o → R' a = some o) : Rp w K R' (.ref a) d := by
  cases h with
  | lst h r => exact .lst (k _ h) (r.sub s)
  | dct h o r => exact .dct (k _ h) o (r.sub s)

/-- a value of an expression -/
def RpV (w : World) (K : PySem.W.Frag) (R : Hp) (bs : List Addr) (v : V) : Vl → Prop
  | .d x => Rp w K R v x
  | .bx n => ∃ a, bs[n]? = some a ∧ v = .ref a
  | .fz ds => ∃ a vs, v = .ref a ∧ SqL K R a vs ∧ Rps w K R vs ds
inductive RpVs (w : World) (K : PySem.W.Frag) (R : Hp) (bs : List Addr) : List V → List Vl → Prop
  | nil : RpVs w K R bs [] []
  | cons {v : V} {vs : List V} {x : Vl} {xs : List Vl} : RpV w K R bs v x → RpVs w K R bs vs xs → RpVs w K R bs (v :: vs) (x :: xs)
theorem RpVs.length {w : World} {K : PySem.W.Frag} {R : Hp} {bs : List Addr} : ∀ {vs : List V} {xs : List Vl}, RpVs w K R bs vs xs → vs.length = xs.length
  | _, _, .nil => rfl
  | _, _, .cons _ r => by rw [List.length_cons, List.length_cons, r.length]

/-- the fields of an instance -/
inductive RpF (w : World) (K : PySem.W.Frag) (R : Hp) (bs : List Addr) : List (Str × V) → List (Str × Vl) → Prop
  | nil : RpF w K R bs [] []
  | cons {f : Str} {v : V} {fvs : List (Str × V)} {x : Vl} {fs : List (Str × Vl)} : RpV w K R bs v x → RpF w K R bs fvs fs → RpF w K R bs ((f, v) :: fvs) ((f, x) :: fs)
/-- a box at the address b -/
inductive BxAt (w : World) (K : PySem.W.Frag) (mg : Str → Option Value) (R H : Hp) (bs : List Addr) (b : Addr) : Bx → Prop
  | dead : BxAt w K mg R H bs b .dead
  | val {d : PyData} : Rt w K R H b d → R b = none → BxAt w K mg R H bs b (.val d)
  | ins {C : Str} {c dx : Addr} {fvs : List (Str × V)} {fs : List (Str × Vl)} : mg C = some (.ref c) → H b = some (.ins c dx fvs) → RpF w K R bs fvs fs → R b = none → BxAt w K mg R H bs b (.ins C fs)

/-- a world: what never changes any more, the boxes' places, the abstract heap -/
structure Wd where
  R : Hp
  bs : List Addr
  H : Hp
structure WOk (w : World) (K : PySem.W.Frag) (mg : Str → Option Value) (W : Wd) (B : Bs) : Prop where
  sub : Sub W.R W.H
  len : W.bs.length = B.length
  nd : W.bs.Nodup
  btr : ∀ b ∈ W.bs, ∃ o, W.H b = some o
  box : ∀ (n : Nat) (b : Addr) (x : Bx), W.bs[n]? = some b → B[n]? = some x → BxAt w K mg W.R W.H W.bs b x
/-- what an expression may do -/
structure Step (W W' : Wd) : Prop where
  R : Sub W.R W'.R
  new : ∀ a o, W'.R a = some o → W.R a = some o ∨ W.H a = none
  keep : ∀ a o, W.H a = some o → a ∉ W.bs → W'.H a = some o
  trk : ∀ a o, W.H a = some o → ∃ o', W'.H a = some o'
  bs : ∃ more, W'.bs = W.bs ++ more ∧ ∀ a ∈ more, W.H a = none
theorem Step.refl {W : Wd} : Step W W := ⟨Sub.refl, fun _ _ h => .inl h, fun _ _ h _ => h, fun _ o h => ⟨o, h⟩, [], by simp, fun _ h => nomatch h⟩
theorem Step.trans {W W1 W2 : Wd} (s : Step W W1) (t : Step W1 W2) : Step W W2 := by
  obtain ⟨m1, e1, f1⟩ := s.bs
  obtain ⟨m2, e2, f2⟩ := t.bs
  have back : ∀ a, W1.H a = none → W.H a = none := fun a h => by
    cases e : W.H a with
    | none => rfl
    | some o =>
      obtain ⟨o', e'⟩ := s.trk a o e
      rw [h] at e'; cases e'
  refine ⟨s.R.trans t.R, fun a o h => ?_, fun a o h hb => ?_, fun a o h => ?_, m1 ++ m2, by rw [e2, e1, List.append_assoc], fun a h => ?_⟩
  · rcases t.new a o h with h | h
    · exact s.new a o h
    · exact .inr (back a h)
  · refine t.keep a o (s.keep a o h hb) fun hm => ?_
    rw [e1] at hm
    rcases List.mem_append.mp hm with hm | hm
    · exact hb hm
    · rw [f1 a hm] at h; cases h
  · obtain ⟨o', e'⟩ := s.trk a o h
    exact t.trk a o' e'
  · rcases List.mem_append.mp h with h | h
    · exact f1 a h
    · exact back a (f2 a h)
theorem Step.bget {W W' : Wd} (s : Step W W') {n : Nat} {a : Addr} (h : W.bs[n]? = some a) : W'.bs[n]? = some a := by
  obtain ⟨m, e, _⟩ := s.bs
  have := (List.getElem?_eq_some_iff.mp h).1
  rw [e, List.getElem?_append_left this]
  exact h
theorem Step.rpv {w : World} {K : PySem.W.Frag} {W W' : Wd} (s : Step W W') {v : V} {x : Vl} (h : RpV w K W.R W.bs v x) : RpV w K W'.R W'.bs v x := by
  cases x with
  | d x => exact (show Rp w K W.R v x from h).sub s.R
  | bx n =>
    obtain ⟨a, e, q⟩ := h
    exact ⟨a, s.bget e, q⟩
  | fz ds =>
    obtain ⟨a, vs, e, q, r⟩ := h
    exact ⟨a, vs, e, SqL.sub s.R q, r.sub s.R⟩
theorem Step.rpvs {w : World} {K : PySem.W.Frag} {W W' : Wd} (s : Step W W') : ∀ {vs : List V} {xs : List Vl}, RpVs w K W.R W.bs vs xs → RpVs w K W'.R W'.bs vs xs
  | _, _, .nil => .nil
  | _, _, .cons h r => .cons (s.rpv h) (s.rpvs r)
theorem Step.rpf {w : World} {K : PySem.W.Frag} {W W' : Wd} (s : Step W W') : ∀ {vs : List (Str × V)} {xs : List (Str × Vl)}, RpF w K W.R W.bs vs xs → RpF w K W'.R W'.bs vs xs
  | _, _, .nil => .nil
  | _, _, .cons h r => .cons (s.rpv h) (s.rpf r)
/-- an address that is tracked and no box stays none -/
theorem Step.nobx {W W' : Wd} (s : Step W W') {a : Addr} {o : HO} (h : W.H a = some o) (hb : a ∉ W.bs) : a ∉ W'.bs := fun hm => by
  obtain ⟨m, e, f⟩ := s.bs
  rw [e] at hm
  rcases List.mem_append.mp hm with hm | hm
  · exact hb hm
  · rw [f a hm] at h; cases h
theorem Step.noR {W W' : Wd} (s : Step W W') {a : Addr} {o : HO} (h : W.H a = some o) (hr : W.R a = none) : W'.R a = none := by
  cases e : W'.R a with
  | none => rfl
  | some u =>
    rcases s.new a u e with q | q
    · rw [hr] at q; cases q
    · rw [h] at q; cases q

theorem Rt.inj_none {w : World} {K : PySem.W.Frag} {R H : Hp} {a : Addr} {d : PyData} (h : Rt w K R H a d) : H a ≠ none := fun e => by
  obtain ⟨o, q⟩ := h.there
  rw [e] at q; cases q
theorem WOk.grow {w : World} {K : PySem.W.Frag} {mg : Str → Option Value} {W W' : Wd} {B : Bs} (ok : WOk w K mg W B) (s : Step W W') (eb : W'.bs = W.bs) (sub : Sub W'.R W'.H) (hb : ∀ b ∈ W.bs, ∀ o, W.H b = some o → W'.H b = some o) : WOk w K mg W' B := by
  refine ⟨sub, by rw [eb]; exact ok.len, by rw [eb]; exact ok.nd, fun b h => ?_, fun n b x e1 e2 => ?_⟩
  · rw [eb] at h
    obtain ⟨o, q⟩ := ok.btr b h
    exact ⟨o, hb b h o q⟩
  · rw [eb] at e1
    have hm := List.mem_of_getElem? e1
    have hk := hb b hm
    obtain ⟨o, q⟩ := ok.btr b hm
    cases ok.box n b x e1 e2 with
    | dead => exact .dead
    | val r z => exact .val (r.mono s.R hk) (s.noR q z)
    | ins m q' r z => exact .ins m (hk _ q') (s.rpf r) (s.noR q z)
theorem WOk.nob {w : World} {K : PySem.W.Frag} {mg : Str → Option Value} {W : Wd} {B : Bs} {p : Addr} (ok : WOk w K mg W B) (h : W.H p = none) : p ∉ W.bs := fun hm => by
  obtain ⟨o, q⟩ := ok.btr p hm
  rw [h] at q; cases q
theorem WOk.nor {w : World} {K : PySem.W.Frag} {mg : Str → Option Value} {W : Wd} {B : Bs} {p : Addr} (ok : WOk w K mg W B) (h : W.H p = none) : W.R p = none := by
  cases e : W.R p with
  | none => rfl
  | some o => rw [ok.sub p o e] at h; cases h
/-- a new thing in H alone -/
theorem WOk.newH {w : World} {K : PySem.W.Frag} {mg : Str → Option Value} {W : Wd} {B : Bs} {p : Addr} (o : HO) (ok : WOk w K mg W B) (h : W.H p = none) : Step W ⟨W.R, W.bs, upd W.H p o⟩ ∧ WOk w K mg ⟨W.R, W.bs, upd W.H p o⟩ B := by
  have sH : Sub W.H (upd W.H p o) := Sub.upd h
  have s : Step W ⟨W.R, W.bs, upd W.H p o⟩ := ⟨Sub.refl, fun _ _ e => .inl e, fun a u e _ => sH a u e, fun a u e => ⟨u, sH a u e⟩, [], by simp, fun _ z => nomatch z⟩
  exact ⟨s, ok.grow s rfl (ok.sub.trans sH) fun b _ u e => sH b u e⟩
/-- a new thing that never changes -/
theorem WOk.newR {w : World} {K : PySem.W.Frag} {mg : Str → Option Value} {W : Wd} {B : Bs} {p : Addr} (o : HO) (ok : WOk w K mg W B) (h : W.H p = none) : Step W ⟨upd W.R p o, W.bs, upd W.H p o⟩ ∧ WOk w K mg ⟨upd W.R p o, W.bs, upd W.H p o⟩ B := by
  have sH : Sub W.H (upd W.H p o) := Sub.upd h
  have s : Step W ⟨upd W.R p o, W.bs, upd W.H p o⟩ := by
    refine ⟨Sub.upd (ok.nor h), fun a u e => ?_, fun a u e _ => sH a u e, fun a u e => ⟨u, sH a u e⟩, [], by simp, fun _ z => nomatch z⟩
    have e : upd W.R p o a = some u := e
    by_cases hb : a = p
    · exact .inr (hb ▸ h)
    · rw [upd_ne hb] at e
      exact .inl e
  refine ⟨s, ok.grow s rfl (fun a u e => ?_) fun b _ u e => sH b u e⟩
  have e : upd W.R p o a = some u := e
  show upd W.H p o a = some u
  by_cases hb : a = p
  · subst hb
    rw [upd_same] at e ⊢
    exact e
  · rw [upd_ne hb] at e ⊢
    exact ok.sub a u e

/-- a slot -/
inductive SlOk (w : World) (K : PySem.W.Frag) (W : Wd) (E0 : Hp) : Option (Option V) → Sl → Prop
  | un {x : Option (Option V)} : SlOk w K W E0 x .un
  | sh {v : V} {x : Vl} : RpV w K W.R W.bs v x → SlOk w K W E0 (some (some v)) (.sh x)
  | ow {a : Addr} {d : PyData} : Rt w K W.R W.H a d → W.R a = none → a ∉ W.bs → E0 a = none → SlOk w K W E0 (some (some (.ref a))) (.ow d)
/-- the names' values; E0: the heap at the def's entry -/
structure EOk (w : World) (K : PySem.W.Frag) (W : Wd) (E0 : Hp) (σ : L2.St) (ρ : EnvD) : Prop where
  len : σ.length = ρ.length
  at_ : ∀ (i : Nat) (s : Sl), ρ[i]? = some s → SlOk w K W E0 σ[i]? s
  sep : ∀ (i j : Nat) (d e : PyData) (a : Addr), ρ[i]? = some (.ow d) → ρ[j]? = some (.ow e) → σ[i]? = some (some (.ref a)) → σ[j]? = some (some (.ref a)) → i = j
theorem EOk.step {w : World} {K : PySem.W.Frag} {W W' : Wd} {E0 : Hp} {σ : L2.St} {ρ : EnvD} (h : EOk w K W E0 σ ρ) (s : Step W W') : EOk w K W' E0 σ ρ := by
  refine ⟨h.len, fun i x e => ?_, h.sep⟩
  have q := h.at_ i x e
  generalize σ[i]? = y at q
  cases q with
  | un => exact .un
  | sh r => exact .sh (s.rpv r)
  | ow r n b e0 =>
    obtain ⟨o, ho⟩ := r.there
    exact .ow (r.mono s.R fun o e => s.keep _ o e b) (s.noR ho n) (s.nobx ho b) e0
end DL
end

section
set_option Elab.async false
set_option linter.all false
set_option maxRecDepth 100000
set_option autoImplicit false
/-! The data layer 1: judgements over data; names, constants, operators. -/
namespace DL
open PySem PySem.Spec PyProof.Rows L2

abbrev SE := EnvD → Bs → Option (Vl × Bs)
abbrev SA := EnvD → Bs → Option (List Vl × Bs)
abbrev SB := EnvD → Bs → Option (Bool × Bs)
abbrev WX (X : Cx) (W : Wd) (B : Bs) : Prop := WOk X.w X.K X.mg W B
abbrev EX (X : Cx) (W : Wd) (E0 : Hp) (σ : L2.St) (ρ : EnvD) : Prop := EOk X.w X.K W E0 σ ρ

/-- borrowed: plain data, or the root of a changeable thing that is no box -/
def RbV (w : World) (K : PySem.W.Frag) (W : Wd) (v : V) : Vl → Prop
  | .d x => Rp w K W.R v x ∨ ∃ a, v = .ref a ∧ a ∉ W.bs ∧ W.R a = none ∧ Rt w K W.R W.H a x
  | .bx n => RpV w K W.R W.bs v (.bx n)
  | .fz n => RpV w K W.R W.bs v (.fz n)
inductive RbVs (w : World) (K : PySem.W.Frag) (W : Wd) : List V → List Vl → Prop
  | nil : RbVs w K W [] []
  | cons {v : V} {vs : List V} {x : Vl} {xs : List Vl} : RbV w K W v x → RbVs w K W vs xs → RbVs w K W (v :: vs) (x :: xs)
/-- what is asked where data is used up: the root is to be read, the parts are in R -/
inductive Rb (w : World) (K : PySem.W.Frag) (R H : Hp) : V → PyData → Prop
  | non : Rb w K R H .non .none
  | bl (b : Bool) : Rb w K R H (.bl b) (.bool b)
  | int (i : Int) : Rb w K R H (.int i) (.int i)
  | str (x : Str) : Rb w K R H (.str x) (.str x)
  | lst {a : Addr} {vs : List V} {ds : List PyData} : H a = some (.lst vs) → Rps w K R vs ds → Rb w K R H (.ref a) (.list ds)
  | tup {a : Addr} {vs : List V} {ds : List PyData} : SqT K R a vs → Rps w K R vs ds → Rb w K R H (.ref a) (.tuple ds)
  | dct {a : Addr} {ep : Nat} {xs : List Ent} {kvs : List (PyData × PyData)} : H a = some (dX w a ep xs) → KeysOk (xs.map (·.1)) → Rpe w K R xs kvs → Rb w K R H (.ref a) (.dict kvs)
theorem Rp.rb {w : World} {K : PySem.W.Frag} {R H : Hp} {v : V} {d : PyData} (s : Sub R H) (h : Rp w K R v d) : Rb w K R H v d := by
  cases h with
  | non => exact .non
  | bl b => exact .bl b
  | int i => exact .int i
  | str h => exact .str h
  | lst h r => exact .lst (s _ _ h) r
  | tup h r => exact .tup h r
  | dct h k r => exact .dct (s _ _ h) k r
theorem Rt.rb {w : World} {K : PySem.W.Frag} {R H : Hp} {a : Addr} {d : PyData} (h : Rt w K R H a d) : Rb w K R H (.ref a) d := by
  cases h with
  | lst h r => exact .lst h r
  | dct h k r => exact .dct h k r
/-- all of it in H -/
theorem Rb.rp {w : World} {K : PySem.W.Frag} {R H : Hp} {v : V} {d : PyData} (s : Sub R H) (h : Rb w K R H v d) : Rp w K H v d := by
  cases h with
  | non => exact .non
  | bl b => exact .bl b
  | int i => exact .int i
  | str h => exact .str h
  | lst h r => exact .lst h (r.sub s)
  | tup h r => exact .tup (SqT.sub s h) (r.sub s)
  | dct h k r => exact .dct h k (r.sub s)
/-- the data behind a value -/
def deref (B : Bs) : Vl → Option PyData
  | .d x => some x
  | .fz _ => none
  | .bx n => match B[n]? with
    | some (.val x) => some x
    | _ => none
theorem rb_of {w : World} {K : PySem.W.Frag} {mg : Str → Option Value} {W : Wd} {B : Bs} {v : V} {r : Vl} {d : PyData} (ok : WOk w K mg W B) (h : RbV w K W v r) (e : deref B r = some d) : Rb w K W.R W.H v d := by
  cases r with
  | d x =>
    cases e
    rcases h with h | ⟨a, rfl, _, _, h⟩
    · exact h.rb ok.sub
    · exact h.rb
  | fz n => cases e
  | bx n =>
    obtain ⟨a, hb, rfl⟩ := h
    simp only [deref] at e
    cases hx : B[n]? with
    | none => rw [hx] at e; cases e
    | some x =>
      rw [hx] at e
      cases x with
      | val x =>
        cases e
        cases ok.box n a _ hb hx with
        | val h _ => exact h.rb
      | dead => cases e
      | ins _ _ => cases e
theorem RpV.rbv {w : World} {K : PySem.W.Frag} {W : Wd} {v : V} {r : Vl} (h : RpV w K W.R W.bs v r) : RbV w K W v r := by
  cases r with
  | d x => exact .inl h
  | bx n => exact h
  | fz n => exact h
theorem Step.rbv {w : World} {K : PySem.W.Frag} {W W' : Wd} (s : Step W W') {v : V} {r : Vl} (h : RbV w K W v r) : RbV w K W' v r := by
  cases r with
  | d x =>
    rcases h with h | ⟨a, e, nb, nr, h⟩
    · exact .inl (h.sub s.R)
    · obtain ⟨o, ho⟩ := h.there
      exact .inr ⟨a, e, s.nobx ho nb, s.noR ho nr, h.mono s.R fun o e => s.keep a o e nb⟩
  | bx n => exact s.rpv (w := w) (K := K) (x := .bx n) h
  | fz n => exact s.rpv (w := w) (K := K) (x := .fz n) h
theorem Step.rbvs {w : World} {K : PySem.W.Frag} {W W' : Wd} (s : Step W W') : ∀ {vs : List V} {xs : List Vl}, RbVs w K W vs xs → RbVs w K W' vs xs
  | _, _, .nil => .nil
  | _, _, .cons h r => .cons (s.rbv h) (s.rbvs r)
/-- a fresh changeable thing that nobody else knows -/
def RoV (w : World) (K : PySem.W.Frag) (H0 : Hp) (W : Wd) (v : V) : Vl → Prop
  | .d d => ∃ a, v = .ref a ∧ a ∉ W.bs ∧ W.R a = none ∧ H0 a = none ∧ Rt w K W.R W.H a d
  | .bx n => RpV w K W.R W.bs v (.bx n)
  | .fz n => RpV w K W.R W.bs v (.fz n)

section
variable (X : Cx)
def tE (f : SE) : TE := fun σ H Q => ∃ W E0 ρ B r B', W.H = H ∧ WX X W B ∧ EX X W E0 σ ρ ∧ f ρ B = some (r, B') ∧ ∀ W' v, Step W W' → WX X W' B' → RpV X.w X.K W'.R W'.bs v r → Q v W'.H
def tB (f : SE) : TE := fun σ H Q => ∃ W E0 ρ B r B', W.H = H ∧ WX X W B ∧ EX X W E0 σ ρ ∧ f ρ B = some (r, B') ∧ ∀ W' v, Step W W' → WX X W' B' → RbV X.w X.K W' v r → Q v W'.H
def tO (f : SE) : TE := fun σ H Q => ∃ W E0 ρ B r B', W.H = H ∧ WX X W B ∧ EX X W E0 σ ρ ∧ f ρ B = some (r, B') ∧ ∀ W' v, Step W W' → WX X W' B' → RoV X.w X.K W.H W' v r → Q v W'.H
def tT (f : SB) : TT := fun σ H Q => ∃ W E0 ρ B r B', W.H = H ∧ WX X W B ∧ EX X W E0 σ ρ ∧ f ρ B = some (r, B') ∧ ∀ W', Step W W' → WX X W' B' → Q r W'.H
def tA (f : SA) : TA := fun σ H Q => ∃ W E0 ρ B r B', W.H = H ∧ WX X W B ∧ EX X W E0 σ ρ ∧ f ρ B = some (r, B') ∧ ∀ W' vs, Step W W' → WX X W' B' → RpVs X.w X.K W'.R W'.bs vs r → Q vs W'.H
def tAB (f : SA) : TA := fun σ H Q => ∃ W E0 ρ B r B', W.H = H ∧ WX X W B ∧ EX X W E0 σ ρ ∧ f ρ B = some (r, B') ∧ ∀ W' vs, Step W W' → WX X W' B' → RbVs X.w X.K W' vs r → Q vs W'.H
end

theorem PE.weak {X : Cx} {e : Expr} {t t' : TE} (h : PE X e t) (k : ∀ σ H Q, t' σ H Q → t σ H Q) : PE X e t' := ⟨fun pins s σ H Q I q => h.run pins s σ H Q I (k _ _ _ q)⟩
theorem PT.weak {X : Cx} {e : Expr} {t t' : TT} (h : PT X e t) (k : ∀ σ H Q, t' σ H Q → t σ H Q) : PT X e t' := ⟨fun pins s σ H Q I q => h.run pins s σ H Q I (k _ _ _ q)⟩
theorem PA.weak {X : Cx} {es : List Expr} {t t' : TA} (h : PA X es t) (k : ∀ σ H Q, t' σ H Q → t σ H Q) : PA X es t' := ⟨fun pos pins s σ H Q I q => h.run pos pins s σ H Q I (k _ _ _ q)⟩
theorem PS.weak {X : Cx} {st : Stmt} {t t' : TS} (h : PS X st t) (k : ∀ D σ H, t' D σ H → t D σ H) : PS X st t' := ⟨fun pins s σ H D I q => h.run pins s σ H D I (k _ _ _ q)⟩
theorem PSs.weak {X : Cx} {st : List Stmt} {t t' : TS} (h : PSs X st t) (k : ∀ D σ H, t' D σ H → t D σ H) : PSs X st t' := ⟨fun pins s σ H D I q => h.run pins s σ H D I (k _ _ _ q)⟩

theorem Step.freeze {W W' : Wd} {a : Addr} {o : HO} (s : Step W W') (nr : W'.R a = none) (h0 : W.H a = none) : Step W ⟨upd W'.R a o, W'.bs, W'.H⟩ := by
  refine ⟨s.R.trans (Sub.upd nr), fun b u e => ?_, s.keep, s.trk, s.bs⟩
  have e : upd W'.R a o b = some u := e
  by_cases hb : b = a
  · exact .inr (hb ▸ h0)
  · rw [upd_ne hb] at e
    exact s.new b u e

/-- R grows by a root that was nobody's -/
theorem WOk.freeze {w : World} {K : PySem.W.Frag} {mg : Str → Option Value} {W : Wd} {B : Bs} {a : Addr} {o : HO} (ok : WOk w K mg W B) (nb : a ∉ W.bs) (nr : W.R a = none) (h : W.H a = some o) : WOk w K mg ⟨upd W.R a o, W.bs, W.H⟩ B := by
  have sR : Sub W.R (upd W.R a o) := Sub.upd nr
  refine ⟨fun b u e => ?_, ok.len, ok.nd, ok.btr, fun n b x e1 e2 => ?_⟩
  · have e : upd W.R a o b = some u := e
    by_cases hb : b = a
    · subst hb
      rw [upd_same] at e; cases e
      exact h
    · rw [upd_ne hb] at e
      exact ok.sub b u e
  · have hba : b ≠ a := fun z => nb (z ▸ List.mem_of_getElem? e1)
    have rf : ∀ {fvs : List (Str × V)} {fs : List (Str × Vl)}, RpF w K W.R W.bs fvs fs → RpF w K (upd W.R a o) W.bs fvs fs := by
      intro fvs fs r
      induction r with
      | nil => exact .nil
      | @cons f v fvs x fs h _ ih =>
        refine .cons ?_ ih
        cases x with
        | d x => exact (show Rp w K W.R v x from h).sub sR
        | bx n => exact h
        | fz ds =>
          obtain ⟨l, vs, e, q, r⟩ := h
          exact ⟨l, vs, e, SqL.sub sR q, r.sub sR⟩
    cases ok.box n b x e1 e2 with
    | dead => exact .dead
    | val r q => exact .val (r.mono sR fun _ e => e) (by show upd W.R a o b = none; rw [upd_ne hba]; exact q)
    | ins m q r z => exact .ins m q (rf r) (by show upd W.R a o b = none; rw [upd_ne hba]; exact z)
section
variable {X : Cx} {e a b : Expr} {f fa fb : SE} {pos : Pos}
theorem d_b (h : PE X e (tE X f)) : PE X e (tB X f) := PE.weak h fun σ H Q ⟨W, E0, ρ, B, r, B', e1, w1, e2, e3, q⟩ => ⟨W, E0, ρ, B, r, B', e1, w1, e2, e3, fun W' v s w2 rv => q W' v s w2 (RpV.rbv rv)⟩
theorem d_o (h : PE X e (tO X f)) : PE X e (tE X f) := PE.weak h fun σ H Q ⟨W, E0, ρ, B, r, B', e1, w1, e2, e3, q⟩ => by
  cases r with
  | bx n => exact ⟨W, E0, ρ, B, .bx n, B', e1, w1, e2, e3, fun W' v s w2 rv => q W' v s w2 rv⟩
  | fz n => exact ⟨W, E0, ρ, B, .fz n, B', e1, w1, e2, e3, fun W' v s w2 rv => q W' v s w2 rv⟩
  | d x =>
    refine ⟨W, E0, ρ, B, .d x, B', e1, w1, e2, e3, fun W' v s w2 ⟨a, ev, nb, nr, h0, rt⟩ => ?_⟩
    obtain ⟨o, ho⟩ := rt.there
    subst ev
    refine q ⟨upd W'.R a o, W'.bs, W'.H⟩ _ (s.freeze nr h0) (w2.freeze nb nr ho) ?_
    exact rt.rp (Sub.upd nr) fun u e => by rw [ho] at e; cases e; exact upd_same
end
end DL
end

section
set_option Elab.async false
set_option linter.all false
set_option maxRecDepth 100000
set_option autoImplicit false
/-! The data layer 2: names, constants, operators, tests. -/
namespace DL
open PySem PySem.Spec PyProof.Rows L2

abbrev LIM : Nat := 16777216
theorem lim_eq : sizeLine = LIM := sizeLine_eq

/-! ### names, constants -/
def eVar (i : Nat) : SE := fun ρ B => match ρ[i]? with
  | some (.sh x) => some (x, B)
  | _ => none
/-- .. where it is only looked at -/
def eBor (i : Nat) : SE := fun ρ B => match ρ[i]? with
  | some (.sh x) => some (x, B)
  | some (.ow d) => some (.d d, B)
  | _ => none
def eC (d : PyData) : SE := fun _ B => some (.d d, B)

section
variable {X : Cx} {pos : Pos}
theorem d_var {i : Nat} {x : Str} (hN : X.N[i]? = some x) (hv : Vis X.env.scope x) (hd : (x == ("__debug__" : Str)) = false := by decide) (hcd : (x == ("__classdict__" : Str)) = false := by decide) : PE X (.Name x pos) (tE X (eVar i)) := by
  refine PE.weak (pe_var hN hv hd hcd) fun σ H Q ⟨W, E0, ρ, B, r, B', e1, ok, en, e, q⟩ => ?_
  subst e1
  unfold eVar at e
  cases hs : ρ[i]? with
  | none => rw [hs] at e; cases e
  | some s =>
    rw [hs] at e
    have hq := en.at_ i s hs
    cases s with
    | sh d =>
      cases e
      generalize hσ : σ[i]? = y at hq
      cases hq with
      | @sh v _ r => exact ⟨v, hσ, q W v .refl ok r⟩
    | un => cases e
    | ow d => cases e
theorem d_bor {i : Nat} {x : Str} (hN : X.N[i]? = some x) (hv : Vis X.env.scope x) (hd : (x == ("__debug__" : Str)) = false := by decide) (hcd : (x == ("__classdict__" : Str)) = false := by decide) : PE X (.Name x pos) (tB X (eBor i)) := by
  refine PE.weak (pe_var hN hv hd hcd) fun σ H Q ⟨W, E0, ρ, B, r, B', e1, ok, en, e, q⟩ => ?_
  subst e1
  unfold eBor at e
  cases hs : ρ[i]? with
  | none => rw [hs] at e; cases e
  | some s =>
    rw [hs] at e
    have hq := en.at_ i s hs
    cases s with
    | sh d =>
      cases e
      generalize hσ : σ[i]? = y at hq
      cases hq with
      | @sh v _ r => exact ⟨v, hσ, q W v .refl ok (RpV.rbv r)⟩
    | un => cases e
    | ow d =>
      cases e
      generalize hσ : σ[i]? = y at hq
      cases hq with
      | @ow a _ rt nr nb _ => exact ⟨.ref a, hσ, q W _ .refl ok (.inr ⟨a, rfl, nb, nr, rt⟩)⟩
theorem const_E {d : PyData} {v : V} {e : Expr} (h : PE X e (tC v)) (r : ∀ R : Hp, Rp X.w X.K R v d) : PE X e (tE X (eC d)) := by
  refine PE.weak h fun σ H Q ⟨W, E0, ρ, B, r', B', e1, ok, en, e, q⟩ => ?_
  subst e1
  cases e
  exact q W v .refl ok (r W.R)
theorem d_int {i j} : PE X (.Constant (.int i) j pos) (tE X (eC (.int i))) := const_E pe_int fun _ => .int i
theorem d_bl {b j} : PE X (.Constant (.bool b) j pos) (tE X (eC (.bool b))) := const_E pe_bl fun _ => .bl b
theorem d_non {j} : PE X (.Constant .none j pos) (tE X (eC .none)) := const_E pe_non fun _ => .non
theorem d_str {x j} : PE X (.Constant (.str x) j pos) (tE X (eC (.str x))) := const_E pe_str fun _ => .str _
/-- a text of the module -/
theorem d_gstr {x z : Str} {u : Value} (hg : Gl X x) (hm : X.mg x = some u) (r : RelV (.str z) u) (hd : (x == ("__debug__" : Str)) = false := by decide) : PE X (.Name x pos) (tE X (eC (.str z))) :=
  const_E (pe_glob hg hm r hd) fun _ => .str _
end

/-! ### two-place operators over data -/
def rD (X : Cx) (g : PyData → PyData → Option PyData) : R2 := fun x y H Q => ∃ W B dx dy z, W.H = H ∧ WX X W B ∧ Rb X.w X.K W.R W.H x dx ∧ Rb X.w X.K W.R W.H y dy ∧ g dx dy = some z ∧
  ∀ W' v, Step W W' → WX X W' B → Rp X.w X.K W'.R v z → Q v W'.H
def OpD (X : Cx) (f : Value → Value → Sem Value) (g : PyData → PyData → Option PyData) : Prop := OpR X f (rD X g)
/-- .. that give a new changeable thing -/
def rDO (X : Cx) (g : PyData → PyData → Option PyData) : R2 := fun x y H Q => ∃ W B dx dy z, W.H = H ∧ WX X W B ∧ Rb X.w X.K W.R W.H x dx ∧ Rb X.w X.K W.R W.H y dy ∧ g dx dy = some z ∧
  ∀ W' v, Step W W' → WX X W' B → RoV X.w X.K W.H W' v (.d z) → Q v W'.H
def OpDO (X : Cx) (f : Value → Value → Sem Value) (g : PyData → PyData → Option PyData) : Prop := OpR X f (rDO X g)
theorem OpR.weak {X : Cx} {f : Value → Value → Sem Value} {r r' : R2} (h : OpR X f r) (k : ∀ x y H Q, r' x y H Q → r x y H Q) : OpR X f r' := fun pins s σ H x y v u Q I rx ry q => h pins s σ H x y v u Q I rx ry (k _ _ _ _ q)
def eBin (g : PyData → PyData → Option PyData) (fa fb : SE) : SE := fun ρ B => (fa ρ B).bind fun p => (fb ρ p.2).bind fun q => (deref q.2 p.1).bind fun dx => (deref q.2 q.1).bind fun dy => (g dx dy).bind fun z => some (.d z, q.2)

section
variable {X : Cx} {a b c e : Expr} {fa fb fc : SE} {pos : Pos} {g g' : PyData → PyData → Option PyData}
theorem bin_pass {σ : L2.St} {H : Hp} {Q : VK} (h : tE X (eBin g fa fb) σ H Q) : tOp (rD X g) (tB X fa) (tB X fb) σ H Q := by
  obtain ⟨W, E0, ρ, B, r, B', rfl, ok, en, e, q⟩ := h
  simp only [eBin, Option.bind_eq_some_iff] at e
  obtain ⟨p, h1, p2, h2, dx, h3, dy, h4, z, h5, h6⟩ := e
  cases h6
  exact ⟨W, E0, ρ, B, p.1, p.2, rfl, ok, en, h1, fun W1 v1 s1 ok1 r1 => ⟨W1, E0, ρ, p.2, p2.1, p2.2, rfl, ok1, en.step s1, h2, fun W2 v2 s2 ok2 r2 =>
    ⟨W2, _, dx, dy, z, rfl, ok2, rb_of ok2 (s2.rbv r1) h3, rb_of ok2 r2 h4, h5, fun W3 v s3 ok3 r3 => q W3 v ((s1.trans s2).trans s3) ok3 r3⟩⟩⟩
theorem binO_pass {σ : L2.St} {H : Hp} {Q : VK} (h : tO X (eBin g fa fb) σ H Q) : tOp (rDO X g) (tB X fa) (tB X fb) σ H Q := by
  obtain ⟨W, E0, ρ, B, r, B', rfl, ok, en, e, q⟩ := h
  simp only [eBin, Option.bind_eq_some_iff] at e
  obtain ⟨p, h1, p2, h2, dx, h3, dy, h4, z, h5, h6⟩ := e
  cases h6
  refine ⟨W, E0, ρ, B, p.1, p.2, rfl, ok, en, h1, fun W1 v1 s1 ok1 r1 => ⟨W1, E0, ρ, p.2, p2.1, p2.2, rfl, ok1, en.step s1, h2, fun W2 v2 s2 ok2 r2 =>
    ⟨W2, _, dx, dy, z, rfl, ok2, rb_of ok2 (s2.rbv r1) h3, rb_of ok2 r2 h4, h5, fun W3 v s3 ok3 ⟨l, ev, nb, nr, n0, rt⟩ => q W3 v ((s1.trans s2).trans s3) ok3 ⟨l, ev, nb, nr, ?_, rt⟩⟩⟩⟩
  cases hl : W.H l with
  | none => rfl
  | some o =>
    obtain ⟨o', e'⟩ := (s1.trans s2).trk l o hl
    rw [n0] at e'; cases e'
theorem d_bin {op : Operator} (ho : OpD X (binaryOp op) g) (ha : PE X a (tB X fa)) (hb : PE X b (tB X fb)) : PE X (.BinOp a op b pos) (tE X (eBin g fa fb)) := PE.weak (pe_op ho ha hb) fun _ _ _ h => bin_pass h
theorem dO_bin {op : Operator} (ho : OpDO X (binaryOp op) g) (ha : PE X a (tB X fa)) (hb : PE X b (tB X fb)) : PE X (.BinOp a op b pos) (tO X (eBin g fa fb)) := PE.weak (pe_op ho ha hb) fun _ _ _ h => binO_pass h
theorem d_cmp {op : CmpOp} (ho : OpD X (compareOp op) g) (ha : PE X a (tB X fa)) (hb : PE X b (tB X fb)) (hm : behindInMarks op b = false) : PE X (.Compare a [op] [b] pos) (tE X (eBin g fa fb)) := PE.weak (pe_cmpR ho ha hb hm) fun _ _ _ h => bin_pass h
/-- a value as a test -/
def sB (f : SE) : SB := fun ρ B => (f ρ B).bind fun p => match p.1 with
  | .d (.bool k) => some (k, p.2)
  | _ => none
theorem tst_pass {f : SE} {σ : L2.St} {H : Hp} {Q : Bool → Hp → Prop} (h : tT X (sB f) σ H Q) : tE X f σ H fun x H' => ∃ k, x = .bl k ∧ Q k H' := by
  obtain ⟨W, E0, ρ, B, r, B', rfl, ok, en, e, q⟩ := h
  simp only [sB, Option.bind_eq_some_iff] at e
  obtain ⟨p, h1, h2⟩ := e
  refine ⟨W, E0, ρ, B, p.1, p.2, rfl, ok, en, h1, fun W' v s ok' rv => ?_⟩
  obtain ⟨x, B1⟩ := p
  cases x with
  | bx n => cases h2
  | fz n => cases h2
  | d x =>
    cases x with
    | bool k =>
      cases (show Rp X.w X.K W'.R v (.bool k) from rv)
      cases h2
      exact ⟨_, rfl, q W' s ok'⟩
    | none => cases h2
    | int _ => cases h2
    | str _ => cases h2
    | list _ => cases h2
    | tuple _ => cases h2
    | dict _ => cases h2
theorem dt_cmp {op : CmpOp} (ho : OpD X (compareOp op) g) (ha : PE X a (tB X fa)) (hb : PE X b (tB X fb)) (hm : behindInMarks op b = false) : PT X (.Compare a [op] [b] pos) (tT X (sB (eBin g fa fb))) :=
  PT.weak (pt_cmpR ho ha hb hm) fun _ _ _ h => by
    obtain ⟨W, E0, ρ, B, r, B', e1, ok, en, e, q⟩ := tst_pass h
    exact bin_pass ⟨W, E0, ρ, B, r, B', e1, ok, en, e, q⟩
/-- any other expression that gives a bool, as a test -/
theorem dt_val {f : SE} (h : PE X e (tE X f)) (he : ∀ whole, isTrue e X.env whole = (do let v ← whole; standAt e.pos; holding [v] (truthy v)) := by intro _; rfl) : PT X e (tT X (sB f)) := PT.weak (pt_val h he) fun _ _ _ h => tst_pass h

/-! ### and, or, not, if -/
def sNot (f : SB) : SB := fun ρ B => (f ρ B).bind fun p => some (!p.1, p.2)
def sAnd (f h : SB) : SB := fun ρ B => (f ρ B).bind fun p => if p.1 = true then h ρ p.2 else some (false, p.2)
def sOr (f h : SB) : SB := fun ρ B => (f ρ B).bind fun p => if p.1 = true then some (true, p.2) else h ρ p.2
variable {ft ft' : SB} {rest : List Expr}
theorem dt_not (h : PT X a (tT X ft)) : PT X (.UnaryOp .Not a pos) (tT X (sNot ft)) := PT.weak (pt_not h) fun σ H Q ⟨W, E0, ρ, B, r, B', e1, ok, en, e, q⟩ => by
  simp only [sNot, Option.bind_eq_some_iff] at e
  obtain ⟨p, h1, h2⟩ := e
  cases h2
  exact ⟨W, E0, ρ, B, p.1, p.2, e1, ok, en, h1, fun W' s ok' => q W' s ok'⟩
theorem dw_and1 (h : PT X a (tT X ft)) : PW X (.BoolOp .And [a] pos) (tT X ft) := pw_and1 h
theorem dw_or1 (h : PT X a (tT X ft)) : PW X (.BoolOp .Or [a] pos) (tT X ft) := pw_or1 h
theorem PW.weak {X : Cx} {e : Expr} {t t' : TT} (h : PW X e t) (k : ∀ σ H Q, t' σ H Q → t σ H Q) : PW X e t' := ⟨fun wh pins s σ H Q I q => h.run wh pins s σ H Q I (k _ _ _ q)⟩
theorem dw_and (h : PT X a (tT X ft)) (k : PW X (.BoolOp .And (b :: rest) pos) (tT X ft')) : PW X (.BoolOp .And (a :: b :: rest) pos) (tT X (sAnd ft ft')) := PW.weak (pw_and h k) fun σ H Q ⟨W, E0, ρ, B, r, B', e1, ok, en, e, q⟩ => by
  simp only [sAnd, Option.bind_eq_some_iff] at e
  obtain ⟨p, h1, h2⟩ := e
  refine ⟨W, E0, ρ, B, p.1, p.2, e1, ok, en, h1, fun W' s ok' => ?_⟩
  by_cases hp : p.1 = true
  · rw [if_pos hp] at h2 ⊢
    exact ⟨W', E0, ρ, p.2, r, B', rfl, ok', en.step s, h2, fun W2 s2 ok2 => q W2 (s.trans s2) ok2⟩
  · rw [if_neg hp] at h2 ⊢
    cases h2
    exact q W' s ok'
theorem dw_or (h : PT X a (tT X ft)) (k : PW X (.BoolOp .Or (b :: rest) pos) (tT X ft')) : PW X (.BoolOp .Or (a :: b :: rest) pos) (tT X (sOr ft ft')) := PW.weak (pw_or h k) fun σ H Q ⟨W, E0, ρ, B, r, B', e1, ok, en, e, q⟩ => by
  simp only [sOr, Option.bind_eq_some_iff] at e
  obtain ⟨p, h1, h2⟩ := e
  refine ⟨W, E0, ρ, B, p.1, p.2, e1, ok, en, h1, fun W' s ok' => ?_⟩
  by_cases hp : p.1 = true
  · rw [if_pos hp] at h2 ⊢
    cases h2
    exact q W' s ok'
  · rw [if_neg hp] at h2 ⊢
    exact ⟨W', E0, ρ, p.2, r, B', rfl, ok', en.step s, h2, fun W2 s2 ok2 => q W2 (s.trans s2) ok2⟩
/-- .. as values -/
def eAnd (f h : SE) : SE := fun ρ B => (f ρ B).bind fun p => match p.1 with
  | .d (.bool true) => h ρ p.2
  | .d (.bool false) => some (.d (.bool false), p.2)
  | _ => none
def eOr (f h : SE) : SE := fun ρ B => (f ρ B).bind fun p => match p.1 with
  | .d (.bool true) => some (.d (.bool true), p.2)
  | .d (.bool false) => h ρ p.2
  | _ => none
def eNot (f : SE) : SE := fun ρ B => (f ρ B).bind fun p => match p.1 with
  | .d (.bool k) => some (.d (.bool (!k)), p.2)
  | _ => none
def eIf (t : SB) (f h : SE) : SE := fun ρ B => (t ρ B).bind fun p => if p.1 = true then f ρ p.2 else h ρ p.2
theorem d_one {op} {f : SE} (h : PE X a (tE X f)) : PE X (.BoolOp op [a] pos) (tE X f) := pe_one h
theorem d_and (h : PE X a (tE X fa)) (k : PE X (.BoolOp .And (b :: rest) pos) (tE X fb)) : PE X (.BoolOp .And (a :: b :: rest) pos) (tE X (eAnd fa fb)) := PE.weak (pe_and h k) fun σ H Q ⟨W, E0, ρ, B, r, B', e1, ok, en, e, q⟩ => by
  simp only [eAnd, Option.bind_eq_some_iff] at e
  obtain ⟨⟨x, B1⟩, h1, h2⟩ := e
  refine ⟨W, E0, ρ, B, x, B1, e1, ok, en, h1, fun W' v s ok' rv => ?_⟩
  cases x with
  | bx n => cases h2
  | fz n => cases h2
  | d x =>
    cases x with
    | bool c =>
      cases (show Rp X.w X.K W'.R v (.bool c) from rv)
      refine ⟨c, rfl, ?_⟩
      cases c with
      | true => exact ⟨W', E0, ρ, B1, r, B', rfl, ok', en.step s, h2, fun W2 v2 s2 ok2 r2 => q W2 v2 (s.trans s2) ok2 r2⟩
      | false => cases h2; exact q W' _ s ok' (.bl false)
    | none => cases h2
    | int _ => cases h2
    | str _ => cases h2
    | list _ => cases h2
    | tuple _ => cases h2
    | dict _ => cases h2
theorem d_or (h : PE X a (tE X fa)) (k : PE X (.BoolOp .Or (b :: rest) pos) (tE X fb)) : PE X (.BoolOp .Or (a :: b :: rest) pos) (tE X (eOr fa fb)) := PE.weak (pe_or h k) fun σ H Q ⟨W, E0, ρ, B, r, B', e1, ok, en, e, q⟩ => by
  simp only [eOr, Option.bind_eq_some_iff] at e
  obtain ⟨⟨x, B1⟩, h1, h2⟩ := e
  refine ⟨W, E0, ρ, B, x, B1, e1, ok, en, h1, fun W' v s ok' rv => ?_⟩
  cases x with
  | bx n => cases h2
  | fz n => cases h2
  | d x =>
    cases x with
    | bool c =>
      cases (show Rp X.w X.K W'.R v (.bool c) from rv)
      refine ⟨c, rfl, ?_⟩
      cases c with
      | false => exact ⟨W', E0, ρ, B1, r, B', rfl, ok', en.step s, h2, fun W2 v2 s2 ok2 r2 => q W2 v2 (s.trans s2) ok2 r2⟩
      | true => cases h2; exact q W' _ s ok' (.bl true)
    | none => cases h2
    | int _ => cases h2
    | str _ => cases h2
    | list _ => cases h2
    | tuple _ => cases h2
    | dict _ => cases h2
theorem d_not (h : PE X a (tE X fa)) : PE X (.UnaryOp .Not a pos) (tE X (eNot fa)) := PE.weak (pe_not h) fun σ H Q ⟨W, E0, ρ, B, r, B', e1, ok, en, e, q⟩ => by
  simp only [eNot, Option.bind_eq_some_iff] at e
  obtain ⟨⟨x, B1⟩, h1, h2⟩ := e
  refine ⟨W, E0, ρ, B, x, B1, e1, ok, en, h1, fun W' v s ok' rv => ?_⟩
  cases x with
  | bx n => cases h2
  | fz n => cases h2
  | d x =>
    cases x with
    | bool c =>
      cases (show Rp X.w X.K W'.R v (.bool c) from rv)
      cases h2
      exact ⟨c, rfl, q W' _ s ok' (.bl _)⟩
    | none => cases h2
    | int _ => cases h2
    | str _ => cases h2
    | list _ => cases h2
    | tuple _ => cases h2
    | dict _ => cases h2
theorem d_if {ft : SB} (hc : PT X c (tT X ft)) (ha : PE X a (tE X fa)) (hb : PE X b (tE X fb)) : PE X (.IfExp c a b pos) (tE X (eIf ft fa fb)) := PE.weak (pe_ifExp hc ha hb) fun σ H Q ⟨W, E0, ρ, B, r, B', e1, ok, en, e, q⟩ => by
  simp only [eIf, Option.bind_eq_some_iff] at e
  obtain ⟨p, h1, h2⟩ := e
  refine ⟨W, E0, ρ, B, p.1, p.2, e1, ok, en, h1, fun W' s ok' => ?_⟩
  by_cases hp : p.1 = true
  · rw [if_pos hp] at h2 ⊢
    exact ⟨W', E0, ρ, p.2, r, B', rfl, ok', en.step s, h2, fun W2 v2 s2 ok2 r2 => q W2 v2 (s.trans s2) ok2 r2⟩
  · rw [if_neg hp] at h2 ⊢
    exact ⟨W', E0, ρ, p.2, r, B', rfl, ok', en.step s, h2, fun W2 v2 s2 ok2 r2 => q W2 v2 (s.trans s2) ok2 r2⟩
theorem dO_if {ft : SB} (hc : PT X c (tT X ft)) (ha : PE X a (tO X fa)) (hb : PE X b (tO X fb)) : PE X (.IfExp c a b pos) (tO X (eIf ft fa fb)) := PE.weak (pe_ifExp hc ha hb) fun σ H Q ⟨W, E0, ρ, B, r, B', e1, ok, en, e, q⟩ => by
  subst e1
  simp only [eIf, Option.bind_eq_some_iff] at e
  obtain ⟨p, h1, h2⟩ := e
  have up : ∀ {W' W2 : Wd} {v : V} {r : Vl}, Step W W' → RoV X.w X.K W'.H W2 v r → RoV X.w X.K W.H W2 v r := by
    intro W' W2 v r s h
    cases r with
    | bx n => exact h
    | fz n => exact h
    | d d =>
      obtain ⟨l, ev, nb, nr, n0, rt⟩ := h
      refine ⟨l, ev, nb, nr, ?_, rt⟩
      cases hl : W.H l with
      | none => rfl
      | some o =>
        obtain ⟨o', e'⟩ := s.trk l o hl
        rw [n0] at e'; cases e'
  refine ⟨W, E0, ρ, B, p.1, p.2, rfl, ok, en, h1, fun W' s ok' => ?_⟩
  by_cases hp : p.1 = true
  · rw [if_pos hp] at h2 ⊢
    exact ⟨W', E0, ρ, p.2, r, B', rfl, ok', en.step s, h2, fun W2 v2 s2 ok2 r2 => q W2 v2 (s.trans s2) ok2 (up s r2)⟩
  · rw [if_neg hp] at h2 ⊢
    exact ⟨W', E0, ρ, p.2, r, B', rfl, ok', en.step s, h2, fun W2 v2 s2 ok2 r2 => q W2 v2 (s.trans s2) ok2 (up s r2)⟩
/-- is None -/
def isNoneD : PyData → Bool
  | .none => true
  | _ => false
end
end DL
end

section
set_option Elab.async false
set_option linter.all false
set_option maxRecDepth 100000
set_option autoImplicit false
/-! The data layer 3: data of the abstract heap read off the machine's heap; the operators over data. -/
namespace DL
open PySem PySem.Spec PyProof.Rows L2

section
variable {X : Cx} {pins : List (Addr × Obj)} {σ : L2.St} {H : Hp} {s : Shared}
theorem Inv.lstR (I : Inv X pins σ H s) {a : Addr} {vs : List V} (h : H a = some (.lst vs)) : vs.length ≤ sizeLine ∧ ∃ (its : List Value) (n : Nat), Vals vs its ∧ vs.length = its.length ∧ s.heap.get? a = some { cls := .type "list", data := .seq its.toArray n } := by
  obtain ⟨z, its, n, r, e⟩ := I.hok a _ h
  exact ⟨z, its, n, r, r.length, e⟩
theorem Inv.dctR (I : Inv X pins σ H s) {a : Addr} {ep : Nat} {xs : List Ent} (h : H a = some (dX X.w a ep xs)) : dXp X.w a ep xs s.heap := (I.hok a _ h).1
mutual
theorem Rp.reads (I : Inv X pins σ H s) : ∀ {v : V} {d : PyData} {u : Value}, Rp X.w X.K H v d → RelV v u → ∃ as, Reads s.heap u d as
  | _, _, u, .non, r => by cases (show u = Value.none from r); exact ⟨_, .none⟩
  | _, _, u, .bl b, r => by cases (show u = Value.bool b from r); exact ⟨_, .bool b⟩
  | _, _, u, .int i, r => by obtain ⟨t, e⟩ := (show ∃ t, u = Value.int i t from r); cases e; exact ⟨_, .int i t⟩
  | _, _, u, .str x, r => by obtain ⟨t, e⟩ := (show ∃ t, u = Value.str x t from r); cases e; exact ⟨_, .str x t⟩
  | _, _, u, .lst (a := a) h q, r => by
    cases (show u = Value.ref a from r)
    obtain ⟨z, its, n, rv, hl, e⟩ := Inv.lstR I h
    obtain ⟨as, ra⟩ := q.reads I rv
    exact ⟨_, .list e rfl rfl (by simpa using ra)⟩
  | _, _, u, .tup (a := a) h q, r => by
    cases (show u = Value.ref a from r)
    obtain ⟨its, rv, ⟨o, ho, hc, n, hd⟩, hz⟩ := I.tuple h
    obtain ⟨as, ra⟩ := q.reads I rv
    exact ⟨_, .tuple ho hc hd (by simpa using ra)⟩
  | _, _, u, .dct (a := a) h k q, r => by
    cases (show u = Value.ref a from r)
    obtain ⟨z, hs, o, es, ho, hx, hd, he⟩ := Inv.dctR I h
    obtain ⟨⟨as, ra⟩, bs, rb⟩ := q.reads I
    refine ⟨_, .dict ho hx.1 hd (as := as) (bs := bs) ?_ ?_⟩
    · rw [he, List.map_map]; exact ra
    · rw [he, List.map_map]; exact rb
theorem Rps.reads (I : Inv X pins σ H s) : ∀ {vs : List V} {ds : List PyData} {us : List Value}, Rps X.w X.K H vs ds → Vals vs us → ∃ as, ReadsAll s.heap us ds as
  | _, _, _, .nil, .nil => ⟨_, .nil⟩
  | _, _, _, .cons h q, .cons r rs => by
    obtain ⟨as, ra⟩ := h.reads I r
    obtain ⟨bs, rb⟩ := q.reads I rs
    exact ⟨_, .cons ra rb⟩
theorem Rpe.reads (I : Inv X pins σ H s) : ∀ {xs : List Ent} {kvs : List (PyData × PyData)}, Rpe X.w X.K H xs kvs → (∃ as, ReadsAll s.heap (xs.map fun x => (entD X.w x).key) (kvs.map (·.1)) as) ∧ ∃ as, ReadsAll s.heap (xs.map fun x => (entD X.w x).val) (kvs.map (·.2)) as
  | _, _, .nil => ⟨⟨_, .nil⟩, _, .nil⟩
  | _, _, .cons r1 h1 r2 h2 q => by
    obtain ⟨a1, e1⟩ := h1.reads I r1
    obtain ⟨a2, e2⟩ := h2.reads I r2
    obtain ⟨⟨a3, e3⟩, a4, e4⟩ := q.reads I
    exact ⟨⟨_, .cons e1 e3⟩, _, .cons e2 e4⟩
end
theorem Rb.reads (I : Inv X pins σ H s) {R : Hp} (sub : Sub R H) {v : V} {d : PyData} {u : Value} (h : Rb X.w X.K R H v d) (r : RelV v u) : ∃ as, Reads s.heap u d as := (h.rp sub).reads I r
end

/-! ### ints -/
def intD (C : Int → Int → Bool) (g : Int → Int → Int) : PyData → PyData → Option PyData
  | .int i, .int j => if C i j = true then some (.int (g i j)) else none
  | _, _ => none
abbrev noC : Int → Int → Bool := fun _ _ => true
abbrev mulC : Int → Int → Bool := fun i j => decide (i.natAbs < 2 ^ 64) || decide (j.natAbs < 2 ^ 64)
abbrev divC : Int → Int → Bool := fun _ j => decide (j ≠ 0) && decide (j.natAbs < 1073741824)
abbrev modC : Int → Int → Bool := fun _ j => decide (j ≠ 0)
abbrev powC : Int → Int → Bool := fun i j => decide (0 ≤ j) && decide (j ≤ 1000000) && decide (i.natAbs < 2 ^ 64)
abbrev shrC : Int → Int → Bool := fun _ j => decide (0 ≤ j)
abbrev subD := intD noC fun i j => i - j
abbrev fdivD := intD divC fun i j => i.fdiv j
abbrev modD := intD modC fun i j => i.fmod j
abbrev powD := intD powC fun i j => i ^ j.toNat
abbrev shlD := intD powC fun i j => i * 2 ^ j.toNat
abbrev shrD := intD shrC fun i j => i / 2 ^ j.toNat
abbrev bandD := intD noC fun i j => Builtin.bitAnd i j
section
variable {X : Cx} {f : Value → Value → Sem Value}
theorem int_pass {C : Int → Int → Prop} {Cb : Int → Int → Bool} {g : Int → Int → Int} (hc : ∀ i j, Cb i j = true → C i j) {x y : V} {H : Hp} {Q : VK} (h : rD X (intD Cb g) x y H Q) : rI C (fun i j => .int (g i j)) x y H Q := by
  obtain ⟨W, B, dx, dy, z, e1, ok, hx, hy, hg, q⟩ := h
  subst e1
  unfold intD at hg
  split at hg
  · cases hx
    cases hy
    split at hg
    · rename_i hC
      cases hg
      exact ⟨_, _, rfl, rfl, hc _ _ hC, q W _ .refl ok (.int _)⟩
    · cases hg
  · cases hg
theorem int_pass0 {g : Int → Int → Int} {x y : V} {H : Hp} {Q : VK} (h : rD X (intD noC g) x y H Q) : rI0 (fun i j => .int (g i j)) x y H Q := by
  obtain ⟨i, j, a, b, _, c⟩ := int_pass (C := fun _ _ => True) (fun _ _ _ => trivial) h
  exact ⟨i, j, a, b, c⟩
theorem od_sub : OpD X (binaryOp .Sub) subD := OpR.weak op_sub fun _ _ _ _ h => int_pass0 h
theorem od_fdiv : OpD X (binaryOp .FloorDiv) fdivD := OpR.weak op_fdivN fun _ _ _ _ h => int_pass (fun i j h => by simpa [CDivN] using h) h
theorem od_mod : OpD X (binaryOp .Mod) modD := OpR.weak op_modN fun _ _ _ _ h => int_pass (fun i j h => by simpa using h) h
theorem powC_of {i j : Int} (h : powC i j = true) : CPow i j := by
  simp only [powC, Bool.and_eq_true, decide_eq_true_eq] at h
  exact ⟨h.1.1, h.1.2, h.2⟩
theorem od_pow : OpD X (binaryOp .Pow) powD := OpR.weak op_pow fun _ _ _ _ h => int_pass (fun i j h => powC_of h) h
theorem od_shl : OpD X (binaryOp .LShift) shlD := OpR.weak op_shl fun _ _ _ _ h => int_pass (fun i j h => powC_of h) h
theorem od_shr : OpD X (binaryOp .RShift) shrD := OpR.weak op_shr fun _ _ _ _ h => int_pass (fun i j h => by simpa using h) h
theorem od_band : OpD X (binaryOp .BitAnd) bandD := OpR.weak op_and fun _ _ _ _ h => int_pass0 h
theorem od_isub : OpD X (inplaceOp .Sub) subD := OpR.weak iop_sub fun _ _ _ _ h => int_pass0 h

/-! ### + and * -/
def addD : PyData → PyData → Option PyData
  | .int i, .int j => some (.int (i + j))
  | .str x, .str y => if x.length + y.length ≤ LIM then some (.str (x ++ y)) else none
  | .list xs, .list ys => if xs.length + ys.length ≤ LIM then some (.list (xs ++ ys)) else none
  | .tuple xs, .tuple ys => if xs.length + ys.length ≤ LIM then some (.tuple (xs ++ ys)) else none
  | _, _ => none
def catD : PyData → PyData → Option PyData
  | .list xs, .list ys => if xs.length + ys.length ≤ LIM then some (.list (xs ++ ys)) else none
  | _, _ => none
/-- a new list is a fresh changeable thing -/
theorem new_lst {W : Wd} {B : Bs} {p : Addr} {vs : List V} {ds : List PyData} (ok : WX X W B) (h : W.H p = none) (r : Rps X.w X.K W.R vs ds) :
    Step W ⟨W.R, W.bs, upd W.H p (.lst vs)⟩ ∧ WX X ⟨W.R, W.bs, upd W.H p (.lst vs)⟩ B ∧ RoV X.w X.K W.H ⟨W.R, W.bs, upd W.H p (.lst vs)⟩ (.ref p) (.d (.list ds)) := by
  obtain ⟨s, ok'⟩ := ok.newH (.lst vs) h
  exact ⟨s, ok', p, rfl, ok.nob h, ok.nor h, h, .lst upd_same r⟩
theorem new_tup {W : Wd} {B : Bs} {p : Addr} {vs : List V} {ds : List PyData} (ok : WX X W B) (h : W.H p = none) (r : Rps X.w X.K W.R vs ds) :
    Step W ⟨upd W.R p (.tup vs), W.bs, upd W.H p (.tup vs)⟩ ∧ WX X ⟨upd W.R p (.tup vs), W.bs, upd W.H p (.tup vs)⟩ B ∧ Rp X.w X.K (upd W.R p (.tup vs)) (.ref p) (.tuple ds) := by
  obtain ⟨s, ok'⟩ := ok.newR (.tup vs) h
  exact ⟨s, ok', .tup (.of upd_same) (r.sub s.R)⟩
/-- a fresh thing taken as plain data -/
theorem RoV.plain {W0 W : Wd} {B : Bs} {v : V} {d : PyData} (s : Step W0 W) (ok : WX X W B) (h : RoV X.w X.K W0.H W v (.d d)) : ∃ R', Step W0 ⟨R', W.bs, W.H⟩ ∧ WX X ⟨R', W.bs, W.H⟩ B ∧ Rp X.w X.K R' v d := by
  obtain ⟨a, ev, nb, nr, h0, rt⟩ := h
  obtain ⟨o, ho⟩ := rt.there
  subst ev
  exact ⟨upd W.R a o, s.freeze nr h0, ok.freeze nb nr ho, rt.rp (Sub.upd nr) fun u e => by rw [ho] at e; cases e; exact upd_same⟩
theorem od_catO : OpDO X (binaryOp .Add) catD := OpR.weak op_cat fun x y H Q ⟨W, B, dx, dy, z, e1, ok, hx, hy, hg, q⟩ => by
  subst e1
  unfold catD at hg
  split at hg
  · cases hx with | lst hx rx =>
    cases hy with | lst hy ry =>
    split at hg
    · rename_i hz
      cases hg
      refine ⟨_, _, _, _, rfl, rfl, hx, hy, by rw [rx.length, ry.length, lim_eq]; exact hz, fun p hp => ?_⟩
      obtain ⟨s, ok', ro⟩ := new_lst ok hp (rx.append ry)
      exact q _ _ s ok' ro
    · cases hg
  · cases hg
theorem od_add : OpD X (binaryOp .Add) addD := OpR.weak (op_add.or (op_add_str.or (op_cat.or op_catA))) fun x y H Q ⟨W, B, dx, dy, z, e1, ok, hx, hy, hg, q⟩ => by
  subst e1
  unfold addD at hg
  split at hg
  · cases hx
    cases hy
    cases hg
    exact .inl ⟨_, _, rfl, rfl, q W _ .refl ok (.int _)⟩
  · cases hx
    cases hy
    split at hg
    · rename_i hz
      cases hg
      exact .inr (.inl ⟨_, _, rfl, rfl, by rw [lim_eq]; exact hz, q W _ .refl ok (.str _)⟩)
    · cases hg
  · cases hx with | lst hx rx =>
    cases hy with | lst hy ry =>
    split at hg
    · rename_i hz
      cases hg
      refine .inr (.inr (.inl ⟨_, _, _, _, rfl, rfl, hx, hy, by rw [rx.length, ry.length, lim_eq]; exact hz, fun p hp => ?_⟩))
      obtain ⟨s, ok', ro⟩ := new_lst ok hp (rx.append ry)
      obtain ⟨R', s2, ok2, rp⟩ := RoV.plain s ok' ro
      exact q _ _ s2 ok2 rp
    · cases hg
  · cases hx with | tup hx rx =>
    cases hy with | tup hy ry =>
    split at hg
    · rename_i hz
      cases hg
      refine .inr (.inr (.inr ⟨_, _, _, _, rfl, rfl, SqT.sub ok.sub hx, SqT.sub ok.sub hy, by rw [rx.length, ry.length, lim_eq]; exact hz, fun e => ?_, fun _ e => ?_, fun _ _ p hp => ?_⟩))
      · subst e
        cases rx
        exact q W _ .refl ok (.tup hy ry)
      · subst e
        cases ry
        rw [List.append_nil] at q
        exact q W _ .refl ok (.tup hx rx)
      · obtain ⟨s, ok', rp⟩ := new_tup ok hp (rx.append ry)
        exact q _ _ s ok' rp
    · cases hg
  · cases hg
theorem od_iadd : OpD X (inplaceOp .Add) (intD noC fun i j => i + j) := OpR.weak iop_add fun _ _ _ _ h => int_pass0 h
end
end DL
end

section
set_option Elab.async false
set_option linter.all false
set_option maxRecDepth 100000
set_option autoImplicit false
/-! The data layer 4: comparisons, subscripts, displays, built-ins. -/
namespace DL
open PySem PySem.Spec PyProof.Rows L2

/-! ### comparisons -/
def dOk (d : PyData) : Bool := d.plain && decide (d.depth ≤ 64)
def eqP (x y : PyData) : Option PyData := if (dOk x && dOk y) = true then some (.bool (PyData.eqv x y)) else none
def neP (x y : PyData) : Option PyData := if (dOk x && dOk y) = true then some (.bool (!PyData.eqv x y)) else none
def notNone : PyData → Bool
  | .none => false
  | _ => true
def cmpOk (x y : PyData) : Bool := PySem.W.alike x y && notNone x && decide (x.depth ≤ 64)
def ltD (x y : PyData) : Option PyData := if cmpOk x y = true then some (.bool (PySem.W.dataLt x y)) else none
def gtD (x y : PyData) : Option PyData := if cmpOk x y = true then some (.bool (PySem.W.dataLt y x)) else none
def leD (x y : PyData) : Option PyData := if cmpOk x y = true then some (.bool (!PySem.W.dataLt y x)) else none
def geD (x y : PyData) : Option PyData := if cmpOk x y = true then some (.bool (!PySem.W.dataLt x y)) else none
theorem dOk_of {x : PyData} (h : dOk x = true) : x.plain = true ∧ x.depth ≤ 64 := by simpa [dOk] using h
theorem cmpOk_of {x y : PyData} (h : cmpOk x y = true) : PySem.W.alike x y = true ∧ x ≠ .none ∧ x.depth ≤ 64 := by
  simp only [cmpOk, Bool.and_eq_true, decide_eq_true_eq] at h
  refine ⟨h.1.1, fun e => ?_, h.2⟩
  have q := h.1.2
  rw [e] at q
  cases q
theorem min_room {u a b : Nat} (hu : u + 65 < cLine) (h : a ≤ 64) : u + min a b < cLine := by
  have := Nat.min_le_left a b
  omega
section
variable {X : Cx}
/-- an operator that looks at data and gives a truth value -/
theorem look_op {f : Value → Value → Sem Value} {g : PyData → PyData → Option PyData}
    (h : ∀ (s : Shared) (v u : Value) (dx dy z : PyData) (as bs : List Addr) (Q : Value → Shared → Prop), Reads s.heap v dx as → Reads s.heap u dy bs → g dx dy = some z → (∀ k, z = .bool k → Q (.bool k) s) → wpAny (model X.prog X.w) X.A (f v u) Q X.xe s)
    (hz : ∀ dx dy z, g dx dy = some z → ∃ k, z = .bool k) : OpD X f g := by
  intro pins s σ H x y v u Q I rx ry ⟨W, B, dx, dy, z, e1, ok, hx, hy, hg, q⟩
  subst e1
  obtain ⟨as, ra⟩ := hx.reads I ok.sub rx
  obtain ⟨bs, rb⟩ := hy.reads I ok.sub ry
  refine h s v u dx dy z as bs _ ra rb hg fun k hk => ?_
  subst hk
  exact ⟨.bl k, W.H, I, rfl, q W _ .refl ok (.bl k)⟩
theorem ifb {c k : Bool} {z : PyData} (h : (if c = true then some (PyData.bool k) else none) = some z) : c = true ∧ z = .bool k := by
  by_cases hc : c = true
  · rw [if_pos hc] at h
    cases h
    exact ⟨hc, rfl⟩
  · rw [if_neg hc] at h
    cases h
theorem od_eqP (hu : X.A.units + 65 < cLine) : OpD X (compareOp .Eq) eqP := look_op (fun s v u dx dy z as bs Q ra rb hg q => by
  obtain ⟨h, e⟩ := ifb hg
  rw [Bool.and_eq_true] at h
  exact PySem.SeqAt.eq_plain ra rb (dOk_of h.1).1 (dOk_of h.2).1 (min_room hu (dOk_of h.1).2) (q _ e)) fun _ _ _ h => ⟨_, (ifb h).2⟩
theorem od_neP (hu : X.A.units + 65 < cLine) : OpD X (compareOp .NotEq) neP := look_op (fun s v u dx dy z as bs Q ra rb hg q => by
  obtain ⟨h, e⟩ := ifb hg
  rw [Bool.and_eq_true] at h
  exact PySem.SeqAt.ne_plain ra rb (dOk_of h.1).1 (dOk_of h.2).1 (min_room hu (dOk_of h.1).2) (q _ e)) fun _ _ _ h => ⟨_, (ifb h).2⟩
theorem od_lt (hu : X.A.units + 65 < cLine) : OpD X (compareOp .Lt) ltD := look_op (fun s v u dx dy z as bs Q ra rb hg q => by
  obtain ⟨h, e⟩ := ifb hg
  obtain ⟨a, b, c⟩ := cmpOk_of h
  exact PySem.W.lt_data ra rb a b (min_room hu c) (q _ e)) fun _ _ _ h => ⟨_, (ifb h).2⟩
theorem od_gt (hu : X.A.units + 65 < cLine) : OpD X (compareOp .Gt) gtD := look_op (fun s v u dx dy z as bs Q ra rb hg q => by
  obtain ⟨h, e⟩ := ifb hg
  obtain ⟨a, b, c⟩ := cmpOk_of h
  exact PySem.W.gt_data ra rb a b (min_room hu c) (q _ e)) fun _ _ _ h => ⟨_, (ifb h).2⟩
theorem od_le (hu : X.A.units + 65 < cLine) : OpD X (compareOp .LtE) leD := look_op (fun s v u dx dy z as bs Q ra rb hg q => by
  obtain ⟨h, e⟩ := ifb hg
  obtain ⟨a, b, c⟩ := cmpOk_of h
  exact PySem.W.le_data ra rb a b (min_room hu c) (q _ e)) fun _ _ _ h => ⟨_, (ifb h).2⟩
theorem od_ge (hu : X.A.units + 65 < cLine) : OpD X (compareOp .GtE) geD := look_op (fun s v u dx dy z as bs Q ra rb hg q => by
  obtain ⟨h, e⟩ := ifb hg
  obtain ⟨a, b, c⟩ := cmpOk_of h
  exact PySem.W.ge_data ra rb a b (min_room hu c) (q _ e)) fun _ _ _ h => ⟨_, (ifb h).2⟩
/-- is None (the right side is None), is of truth values -/
def isP : PyData → PyData → Option PyData
  | x, .none => some (.bool (!notNone x))
  | .bool a, .bool b => some (.bool (decide (a = b)))
  | _, _ => none
def isNotP : PyData → PyData → Option PyData
  | x, .none => some (.bool (notNone x))
  | .bool a, .bool b => some (.bool (!decide (a = b)))
  | _, _ => none
theorem none_dec {w : World} {K : PySem.W.Frag} {R H : Hp} {x : V} {d : PyData} (h : Rb w K R H x d) : decide (x = .non) = !notNone d := by
  cases h <;> first | rfl | (exact decide_eq_false fun e => nomatch e)
theorem od_is : OpD X (compareOp .Is) isP := OpR.weak (op_isN.or op_is_bl) fun x y H Q ⟨W, B, dx, dy, z, e1, ok, hx, hy, hg, q⟩ => by
  subst e1
  unfold isP at hg
  split at hg
  · cases hg
    cases hy
    refine .inl ⟨rfl, ?_⟩
    rw [none_dec hx]
    exact q W _ .refl ok (.bl _)
  · cases hx
    cases hy
    cases hg
    exact .inr ⟨_, _, rfl, rfl, q W _ .refl ok (.bl _)⟩
  · cases hg
theorem od_isNot : OpD X (compareOp .IsNot) isNotP := OpR.weak (op_notN.or op_isnot_bl) fun x y H Q ⟨W, B, dx, dy, z, e1, ok, hx, hy, hg, q⟩ => by
  subst e1
  unfold isNotP at hg
  split at hg
  · cases hg
    cases hy
    refine .inl ⟨rfl, ?_⟩
    rw [none_dec hx, Bool.not_not]
    exact q W _ .refl ok (.bl _)
  · cases hx
    cases hy
    cases hg
    exact .inr ⟨_, _, rfl, rfl, q W _ .refl ok (.bl _)⟩
  · cases hg

/-! ### a chain of two comparisons -/
def eChain (g h : PyData → PyData → Option PyData) (fa fb fc : SE) : SE := fun ρ B => (fa ρ B).bind fun p => (fb ρ p.2).bind fun q => (deref q.2 p.1).bind fun dx => (deref q.2 q.1).bind fun dy => (g dx dy).bind fun z => match z with
  | .bool true => (fc ρ q.2).bind fun r => (deref r.2 q.1).bind fun dy2 => (deref r.2 r.1).bind fun dz => (h dy2 dz).bind fun u => some (.d u, r.2)
  | .bool false => some (.d (.bool false), q.2)
  | _ => none
section
variable {a b c : Expr} {fa fb fc : SE} {pos : Pos} {g h : PyData → PyData → Option PyData} {op op' : CmpOp}
theorem chain_pass {σ : L2.St} {H : Hp} {Q : VK} (hq : tE X (eChain g h fa fb fc) σ H Q) : tChain (rD X g) (rD X h) (tB X fa) (tB X fb) (tB X fc) σ H Q := by
  obtain ⟨W, E0, ρ, B, r, B', rfl, ok, en, e, q⟩ := hq
  simp only [eChain, Option.bind_eq_some_iff] at e
  obtain ⟨p, h1, p2, h2, dx, h3, dy, h4, z, h5, h6⟩ := e
  refine ⟨W, E0, ρ, B, p.1, p.2, rfl, ok, en, h1, fun W1 v1 s1 ok1 r1 => ⟨W1, E0, ρ, p.2, p2.1, p2.2, rfl, ok1, en.step s1, h2, fun W2 v2 s2 ok2 r2 =>
    ⟨W2, _, dx, dy, z, rfl, ok2, rb_of ok2 (s2.rbv r1) h3, rb_of ok2 r2 h4, h5, fun W3 v s3 ok3 r3 => ?_⟩⟩⟩
  cases z with
  | bool k =>
    cases r3
    refine ⟨k, rfl, ?_⟩
    cases k with
    | false =>
      cases h6
      exact q W3 _ ((s1.trans s2).trans s3) ok3 (.bl false)
    | true =>
      simp only [Option.bind_eq_some_iff] at h6
      obtain ⟨p3, h7, dy2, h8, dz, h9, u, h10, h11⟩ := h6
      cases h11
      exact ⟨W3, E0, ρ, p2.2, p3.1, p3.2, rfl, ok3, ((en.step s1).step s2).step s3, h7, fun W4 v4 s4 ok4 r4 =>
        ⟨W4, _, dy2, dz, u, rfl, ok4, rb_of ok4 ((s3.trans s4).rbv r2) h8, rb_of ok4 r4 h9, h10, fun W5 v5 s5 ok5 r5 => q W5 v5 ((((s1.trans s2).trans s3).trans s4).trans s5) ok5 r5⟩⟩
  | none => cases h6
  | int _ => cases h6
  | str _ => cases h6
  | list _ => cases h6
  | tuple _ => cases h6
  | dict _ => cases h6
theorem d_chain (ho : OpD X (compareOp op) g) (ho' : OpD X (compareOp op') h) (ha : PE X a (tB X fa)) (hb : PE X b (tB X fb)) (hc : PE X c (tB X fc)) (hm : lastMarks [op, op'] [b, c] = false := by with_unfolding_all rfl) :
    PE X (.Compare a [op, op'] [b, c] pos) (tE X (eChain g h fa fb fc)) := PE.weak (pe_chain ho ho' ha hb hc hm) fun _ _ _ q => chain_pass q
theorem dt_chain (ho : OpD X (compareOp op) g) (ho' : OpD X (compareOp op') h) (ha : PE X a (tB X fa)) (hb : PE X b (tB X fb)) (hc : PE X c (tB X fc)) (hm : lastMarks [op, op'] [b, c] = false := by with_unfolding_all rfl) :
    PT X (.Compare a [op, op'] [b, c] pos) (tT X (sB (eChain g h fa fb fc))) := PT.weak (pt_chain ho ho' ha hb hc hm) fun _ _ _ q => by
  obtain ⟨W, E0, ρ, B, r, B', e1, ok, en, e, q⟩ := tst_pass q
  exact chain_pass ⟨W, E0, ρ, B, r, B', e1, ok, en, e, q⟩
end

/-! ### unary -/
def negD : PyData → Option PyData
  | .int i => some (.int (-i))
  | _ => none
def eUn (g : PyData → Option PyData) (f : SE) : SE := fun ρ B => (f ρ B).bind fun p => (deref p.2 p.1).bind fun d => (g d).bind fun z => some (.d z, p.2)
theorem d_neg {a : Expr} {fa : SE} {pos : Pos} (ha : PE X a (tB X fa)) : PE X (.UnaryOp .USub a pos) (tE X (eUn negD fa)) := PE.weak (pe_un un_neg ha) fun σ H Q ⟨W, E0, ρ, B, r, B', e1, ok, en, e, q⟩ => by
  subst e1
  simp only [eUn, Option.bind_eq_some_iff] at e
  obtain ⟨p, h1, d, h2, z, h3, h4⟩ := e
  cases h4
  refine ⟨W, E0, ρ, B, p.1, p.2, rfl, ok, en, h1, fun W1 v1 s1 ok1 r1 => ?_⟩
  have hb := rb_of ok1 r1 h2
  unfold negD at h3
  split at h3
  · cases hb
    cases h3
    exact ⟨_, rfl, q W1 _ s1 ok1 (.int _)⟩
  · cases h3

/-! ### argument lists -/
def aNil : SA := fun _ B => some ([], B)
def aCons (f : SE) (fs : SA) : SA := fun ρ B => (f ρ B).bind fun p => (fs ρ p.2).bind fun q => some (p.1 :: q.1, q.2)
section
variable {e : Expr} {es : List Expr} {f : SE} {fs : SA}
theorem da_nil : PA X [] (tA X aNil) := PA.weak pa_nil fun σ H Q ⟨W, E0, ρ, B, r, B', e1, ok, en, e, q⟩ => by
  subst e1
  cases e
  exact q W _ .refl ok .nil
theorem da_cons (he : PE X e (tE X f)) (hr : PA X es (tA X fs)) (hs : starEach (e :: es) X.env = (false, eval e X.env) :: starEach es X.env := by rfl) : PA X (e :: es) (tA X (aCons f fs)) := PA.weak (pa_cons he hr hs) fun σ H Q ⟨W, E0, ρ, B, r, B', e1, ok, en, e, q⟩ => by
  subst e1
  simp only [aCons, Option.bind_eq_some_iff] at e
  obtain ⟨p, h1, p2, h2, h3⟩ := e
  cases h3
  exact ⟨W, E0, ρ, B, p.1, p.2, rfl, ok, en, h1, fun W1 v1 s1 ok1 r1 => ⟨W1, E0, ρ, p.2, p2.1, p2.2, rfl, ok1, en.step s1, h2, fun W2 v2 s2 ok2 r2 => q W2 _ (s1.trans s2) ok2 (.cons (s2.rpv r1) r2)⟩⟩
theorem db_nil : PA X [] (tAB X aNil) := PA.weak pa_nil fun σ H Q ⟨W, E0, ρ, B, r, B', e1, ok, en, e, q⟩ => by
  subst e1
  cases e
  exact q W _ .refl ok .nil
theorem db_cons (he : PE X e (tB X f)) (hr : PA X es (tAB X fs)) (hs : starEach (e :: es) X.env = (false, eval e X.env) :: starEach es X.env := by rfl) : PA X (e :: es) (tAB X (aCons f fs)) := PA.weak (pa_cons he hr hs) fun σ H Q ⟨W, E0, ρ, B, r, B', e1, ok, en, e, q⟩ => by
  subst e1
  simp only [aCons, Option.bind_eq_some_iff] at e
  obtain ⟨p, h1, p2, h2, h3⟩ := e
  cases h3
  exact ⟨W, E0, ρ, B, p.1, p.2, rfl, ok, en, h1, fun W1 v1 s1 ok1 r1 => ⟨W1, E0, ρ, p.2, p2.1, p2.2, rfl, ok1, en.step s1, h2, fun W2 v2 s2 ok2 r2 => q W2 _ (s1.trans s2) ok2 (.cons (s2.rbv r1) r2)⟩⟩
end
/-- all plain data -/
def allD : List Vl → Option (List PyData)
  | [] => some []
  | .d x :: r => (allD r).map (x :: ·)
  | _ :: _ => none
theorem rps_of {w : World} {K : PySem.W.Frag} {R : Hp} {bs : List Addr} : ∀ {vs : List V} {xs : List Vl} {ds : List PyData}, RpVs w K R bs vs xs → allD xs = some ds → Rps w K R vs ds
  | _, _, _, .nil, e => by cases e; exact .nil
  | _, _, _, .cons (x := x) h r, e => by
    cases x with
    | d x =>
      simp only [allD, Option.map_eq_some_iff] at e
      obtain ⟨ds, e1, e2⟩ := e
      cases e2
      exact .cons h (rps_of r e1)
    | bx n => cases e
    | fz n => cases e
def derefs (B : Bs) : List Vl → Option (List PyData)
  | [] => some []
  | x :: r => (deref B x).bind fun d => (derefs B r).bind fun ds => some (d :: ds)
inductive Rbs (w : World) (K : PySem.W.Frag) (R H : Hp) : List V → List PyData → Prop
  | nil : Rbs w K R H [] []
  | cons {v : V} {vs : List V} {d : PyData} {ds : List PyData} : Rb w K R H v d → Rbs w K R H vs ds → Rbs w K R H (v :: vs) (d :: ds)
theorem rbs_of {w : World} {K : PySem.W.Frag} {mg : Str → Option Value} {W : Wd} {B : Bs} (ok : WOk w K mg W B) : ∀ {vs : List V} {xs : List Vl} {ds : List PyData}, RbVs w K W vs xs → derefs B xs = some ds → Rbs w K W.R W.H vs ds
  | _, _, _, .nil, e => by cases e; exact .nil
  | _, _, _, .cons h r, e => by
    simp only [derefs, Option.bind_eq_some_iff] at e
    obtain ⟨d, e1, ds, e2, e3⟩ := e
    cases e3
    exact .cons (rb_of ok h e1) (rbs_of ok r e2)

/-! ### displays -/
def eTup (fs : SA) : SE := fun ρ B => (fs ρ B).bind fun p => (allD p.1).bind fun ds => if ds.length ≤ LIM then some (.d (.tuple ds), p.2) else none
def eLst (fs : SA) : SE := fun ρ B => (fs ρ B).bind fun p => (allD p.1).bind fun ds => if ds.length ≤ LIM then some (.d (.list ds), p.2) else none
theorem ifs {α : Type} {c : Prop} [Decidable c] {a b : α} (h : (if c then some a else none) = some b) : c ∧ b = a := by
  by_cases hc : c
  · rw [if_pos hc] at h
    cases h
    exact ⟨hc, rfl⟩
  · rw [if_neg hc] at h
    cases h
theorem RoV.up {w : World} {K : PySem.W.Frag} {W W' W2 : Wd} {v : V} {r : Vl} (s : Step W W') (h : RoV w K W'.H W2 v r) : RoV w K W.H W2 v r := by
  cases r with
  | bx n => exact h
  | fz n => exact h
  | d d =>
    obtain ⟨l, ev, nb, nr, n0, rt⟩ := h
    refine ⟨l, ev, nb, nr, ?_, rt⟩
    cases hl : W.H l with
    | none => rfl
    | some o =>
      obtain ⟨o', e'⟩ := s.trk l o hl
      rw [n0] at e'; cases e'
section
variable {es : List Expr} {fs : SA} {pos : Pos}
theorem d_tup {x1} (h : PA X es (tA X fs)) : PE X (.Tuple es x1 pos) (tE X (eTup fs)) := PE.weak (pe_tup h) fun σ H Q ⟨W, E0, ρ, B, r, B', e1, ok, en, e, q⟩ => by
  subst e1
  simp only [eTup, Option.bind_eq_some_iff] at e
  obtain ⟨p, h1, ds, h2, h3⟩ := e
  obtain ⟨hz, h3⟩ := ifs h3
  cases h3
  refine ⟨W, E0, ρ, B, p.1, p.2, rfl, ok, en, h1, fun W1 vs s1 ok1 r1 => ⟨?_, fun l hp => ?_⟩⟩
  · rw [(rps_of r1 h2).length, lim_eq]
    exact hz
  · obtain ⟨s, ok', rp⟩ := new_tup ok1 hp (rps_of r1 h2)
    exact q _ _ (s1.trans s) ok' rp
theorem dO_lst (h : PA X es (tA X fs)) : PE X (.List es pos) (tO X (eLst fs)) := PE.weak (pe_lst h) fun σ H Q ⟨W, E0, ρ, B, r, B', e1, ok, en, e, q⟩ => by
  subst e1
  simp only [eLst, Option.bind_eq_some_iff] at e
  obtain ⟨p, h1, ds, h2, h3⟩ := e
  obtain ⟨hz, h3⟩ := ifs h3
  cases h3
  refine ⟨W, E0, ρ, B, p.1, p.2, rfl, ok, en, h1, fun W1 vs s1 ok1 r1 => ⟨?_, fun l hp => ?_⟩⟩
  · rw [(rps_of r1 h2).length, lim_eq]
    exact hz
  · obtain ⟨s, ok', ro⟩ := new_lst ok1 hp (rps_of r1 h2)
    exact q _ _ (s1.trans s) ok' (RoV.up s1 ro)
end

/-! ### subscripts, slices -/
/-- what is to be read: also the script -/
inductive Rz (w : World) (K : PySem.W.Frag) (R H : Hp) : V → PyData → Prop
  | rb {v : V} {d : PyData} : Rb w K R H v d → Rz w K R H v d
  | fz {a : Addr} {vs : List V} {ds : List PyData} : SqL K H a vs → Rps w K R vs ds → Rz w K R H (.ref a) (.list ds)
def derefZ (B : Bs) : Vl → Option PyData
  | .fz ds => some (.list ds)
  | x => deref B x
theorem rz_of {w : World} {K : PySem.W.Frag} {mg : Str → Option Value} {W : Wd} {B : Bs} {v : V} {r : Vl} {d : PyData} (ok : WOk w K mg W B) (h : RbV w K W v r) (e : derefZ B r = some d) : Rz w K W.R W.H v d := by
  cases r with
  | fz ds =>
    cases e
    obtain ⟨a, vs, rfl, q, r⟩ := h
    exact .fz (SqL.sub ok.sub q) r
  | d x => exact .rb (rb_of ok h e)
  | bx n => exact .rb (rb_of ok h e)
end
end DL
end

section
set_option Elab.async false
set_option linter.all false
set_option maxRecDepth 100000
set_option autoImplicit false
/-! The data layer: dicts (keys carried by value, or tuples of such, nested). -/
namespace DL
open PySem PySem.Spec PyProof.Rows L2

/-! ### keys as data -/
mutual
theorem eqv_key : ∀ a b : NestedKey, PyData.eqv a.data b.data = NestedKey.beq a b
  | .none, .none => rfl
  | .none, .num _ => rfl
  | .none, .text _ => rfl
  | .none, .tup _ => rfl
  | .num _, .none => rfl
  | .num i, .num j => by simp [NestedKey.data, PyData.eqv, NestedKey.beq, Bool.beq_eq_decide_eq]
  | .num _, .text _ => rfl
  | .num _, .tup _ => rfl
  | .text _, .none => rfl
  | .text _, .num _ => rfl
  | .text x, .text y => by simp [NestedKey.data, PyData.eqv, NestedKey.beq, Bool.beq_eq_decide_eq]
  | .text _, .tup _ => rfl
  | .tup _, .none => rfl
  | .tup _, .num _ => rfl
  | .tup _, .text _ => rfl
  | .tup a, .tup b => by simp only [NestedKey.data, PyData.eqv, NestedKey.beq]; exact eqv_keys a b
theorem eqv_keys : ∀ a b : List NestedKey, PyData.eqvAll (NestedKey.datas a) (NestedKey.datas b) = NestedKey.beqAll a b
  | [], [] => rfl
  | [], _ :: _ => rfl
  | _ :: _, [] => rfl
  | a :: as, b :: bs => by simp only [NestedKey.datas, PyData.eqvAll, NestedKey.beqAll]; rw [eqv_key a b, eqv_keys as bs]
end
theorem eqv_dec (a b : NestedKey) : PyData.eqv a.data b.data = decide (a = b) := by rw [eqv_key, NestedKey.decide_eq]
mutual
def keyOf : PyData → Option NestedKey
  | .none => some .none
  | .int i => some (.num i)
  | .str x => some (.text x)
  | .tuple ds => (keysOf ds).map .tup
  | .bool _ => none
  | .list _ => none
  | .dict _ => none
def keysOf : List PyData → Option (List NestedKey)
  | [] => some []
  | d :: ds => (keyOf d).bind fun k => (keysOf ds).map (k :: ·)
end
mutual
theorem keyOf_data : ∀ {d : PyData} {k : NestedKey}, keyOf d = some k → k.data = d
  | .none, k, h => by cases h; rfl
  | .int i, k, h => by cases h; rfl
  | .str x, k, h => by cases h; rfl
  | .tuple ds, k, h => by
    simp only [keyOf, Option.map_eq_some_iff] at h
    obtain ⟨ks, h1, h2⟩ := h
    cases h2
    simp only [NestedKey.data]
    rw [keysOf_data h1]
  | .bool _, k, h => nomatch h
  | .list _, k, h => nomatch h
  | .dict _, k, h => nomatch h
theorem keysOf_data : ∀ {ds : List PyData} {ks : List NestedKey}, keysOf ds = some ks → NestedKey.datas ks = ds
  | [], ks, h => by cases h; rfl
  | d :: ds, ks, h => by
    simp only [keysOf, Option.bind_eq_some_iff, Option.map_eq_some_iff] at h
    obtain ⟨k, h1, ks', h2, h3⟩ := h
    cases h3
    simp only [NestedKey.datas]
    rw [keyOf_data h1, keysOf_data h2]
end
def isTupD : PyData → Bool
  | .tuple _ => true
  | _ => false
/-- a key that is taken: none, an int, a text, a tuple of such -/
def keyGood (d : PyData) : Bool := match keyOf d with
  | some k => decide (k.depth ≤ 8)
  | none => false
theorem keyGood_of {d : PyData} (h : keyGood d = true) : ∃ k : NestedKey, k.data = d ∧ k.depth ≤ 8 := by
  unfold keyGood at h
  split at h
  · rename_i k e
    exact ⟨k, keyOf_data e, of_decide_eq_true h⟩
  · cases h
theorem tup_of (k : NestedKey) : isTupD k.data = !isLeafK k := by cases k <;> rfl

/-! ### keys carried by value -/
def lkIs : NestedKey → Value → Bool
  | .none, .none => true
  | .num i, .int j _ => decide (j = i)
  | .text x, v => Value.isStrOf x v
  | _, _ => false
def leafOf : NestedKey → Leaf
  | .num i => .num i
  | .text x => .text x
  | _ => .none
theorem lk_leaf {k : NestedKey} {v : Value} (h : lkIs k v = true) : Leaf.isOf (leafOf k) v = true ∧ (leafOf k).key = k := by
  cases k with
  | none => cases v <;> first | exact ⟨rfl, rfl⟩ | exact absurd h Bool.false_ne_true
  | num i => cases v <;> first | exact ⟨h, rfl⟩ | exact absurd h Bool.false_ne_true
  | text x => exact ⟨h, rfl⟩
  | tup ks => cases v <;> exact absurd h Bool.false_ne_true
def lkKind (prog : Program) (w : World) : KeyKind prog w NestedKey where
  is := lkIs
  hash := fun k => k.hash w
  inj := fun v a b ha hb => by
    obtain ⟨h1, e1⟩ := lk_leaf ha
    obtain ⟨h2, e2⟩ := lk_leaf hb
    rw [← e1, ← e2, (leafKind prog w).inj v _ _ h1 h2]
  byValue := fun k v h => Leaf.byValue (lk_leaf h).1
  pyHash := fun {A E s k v Q} hv h => pyHash_leaf (lk_leaf hv).1 (by rw [(lk_leaf hv).2]; exact h)
  eqBool := fun {A E s a b u v Q} hu hv h => by
    obtain ⟨h1, e1⟩ := lk_leaf hu
    obtain ⟨h2, e2⟩ := lk_leaf hv
    refine eqAt_leaf h1 h2 prog w _ _ ?_
    have e : decide (leafOf a = leafOf b) = decide (a = b) := by
      by_cases q : a = b
      · rw [decide_eq_true q, decide_eq_true (congrArg leafOf q)]
      · rw [decide_eq_false q, decide_eq_false fun z => q (by rw [← e1, ← e2, z])]
    rw [e]
    exact h
  «strs» := fun k x t v h => by
    cases k with
    | none => exact absurd h Bool.false_ne_true
    | num i => exact absurd h Bool.false_ne_true
    | tup ks => exact absurd h Bool.false_ne_true
    | text y =>
      obtain ⟨u, hu⟩ := Value.isStrOf_shape (show Value.isStrOf y (.str x t) = true from h)
      cases hu
      cases v <;> rfl

/-! ### the entries -/
abbrev prs (xs : List Ent) : List (NestedKey × Value) := xs.map fun x => (x.1, x.2.2)
/-- the keys' values are the keys -/
def Rpk (w : World) (K : PySem.W.Frag) (R : Hp) (xs : List Ent) : Prop := ∀ x ∈ xs, ∃ kv, RelV kv x.2.1 ∧ Rp w K R kv x.1.data
inductive Rpv (w : World) (K : PySem.W.Frag) (R : Hp) : List (NestedKey × Value) → List (PyData × PyData) → Prop
  | nil : Rpv w K R [] []
  | cons {k : NestedKey} {vu : Value} {vv : V} {vd : PyData} {ps : List (NestedKey × Value)} {kvs : List (PyData × PyData)} : RelV vv vu → Rp w K R vv vd → Rpv w K R ps kvs → Rpv w K R ((k, vu) :: ps) ((k.data, vd) :: kvs)
section
variable {w : World} {K : PySem.W.Frag} {R : Hp}
theorem Rpe.parts : ∀ {xs : List Ent} {kvs : List (PyData × PyData)}, Rpe w K R xs kvs → Rpk w K R xs ∧ Rpv w K R (prs xs) kvs
  | _, _, .nil => ⟨fun _ h => (nomatch h), .nil⟩
  | _, _, .cons a b c d r => by
    obtain ⟨h1, h2⟩ := r.parts
    refine ⟨fun x hx => ?_, .cons c d h2⟩
    rcases List.mem_cons.mp hx with e | hx
    · subst e; exact ⟨_, a, b⟩
    · exact h1 x hx
theorem Rpe.of : ∀ {xs : List Ent} {kvs : List (PyData × PyData)}, Rpk w K R xs → Rpv w K R (prs xs) kvs → Rpe w K R xs kvs
  | [], _, _, h => by cases h; exact .nil
  | (k, ku, vu) :: xs, _, hk, h => by
    cases h with
    | cons c d r =>
      obtain ⟨kv, a, b⟩ := hk (k, ku, vu) List.mem_cons_self
      exact .cons a b c d (Rpe.of (fun x hx => hk x (List.mem_cons_of_mem _ hx)) r)
theorem Rpv.length : ∀ {ps : List (NestedKey × Value)} {kvs : List (PyData × PyData)}, Rpv w K R ps kvs → ps.length = kvs.length
  | _, _, .nil => rfl
  | _, _, .cons _ _ r => by rw [List.length_cons, List.length_cons, r.length]

/-! ### look-ups, stores, as data -/
def dFind (kvs : List (PyData × PyData)) (k : PyData) : Option PyData := (kvs.find? fun kv => PyData.eqv kv.1 k).map (·.2)
def dPut (kvs : List (PyData × PyData)) (k v : PyData) : List (PyData × PyData) :=
  if (kvs.any fun kv => PyData.eqv kv.1 k) = true then kvs.map fun kv => if PyData.eqv kv.1 k = true then (kv.1, v) else kv else kvs ++ [(k, v)]
def dDel (kvs : List (PyData × PyData)) (k : PyData) : List (PyData × PyData) := kvs.filter fun kv => !PyData.eqv kv.1 k
theorem Rpv.find : ∀ {ps : List (NestedKey × Value)} {kvs : List (PyData × PyData)} (k : NestedKey), Rpv w K R ps kvs →
    (∀ d, dFind kvs k.data = some d → ∃ vu vv, valueAt ps k = some vu ∧ RelV vv vu ∧ Rp w K R vv d) ∧ (dFind kvs k.data = none → valueAt ps k = none)
  | _, _, k, .nil => ⟨fun _ h => (nomatch h), fun _ => rfl⟩
  | _, _, k, .cons (k := k') (ps := ps) (kvs := kvs) a b r => by
    obtain ⟨h1, h2⟩ := r.find k
    unfold dFind valueAt at *
    rw [List.find?_cons, List.find?_cons]
    simp only [eqv_dec]
    by_cases q : k' = k
    · simp only [decide_eq_true q]
      exact ⟨fun d e => by cases e; exact ⟨_, _, rfl, a, b⟩, fun e => nomatch e⟩
    · simp only [decide_eq_false q]
      exact ⟨h1, h2⟩
theorem Rpv.any : ∀ {ps : List (NestedKey × Value)} {kvs : List (PyData × PyData)} (k : NestedKey), Rpv w K R ps kvs → (kvs.any fun kv => PyData.eqv kv.1 k.data) = ps.any fun kv => decide (kv.1 = k)
  | _, _, _, .nil => rfl
  | _, _, k, .cons a b r => by rw [List.any_cons, List.any_cons, r.any k, eqv_dec]
theorem Rpv.mapPut {vu : Value} {vv : V} {vd : PyData} (rv : RelV vv vu) (rd : Rp w K R vv vd) (k : NestedKey) : ∀ {ps : List (NestedKey × Value)} {kvs : List (PyData × PyData)}, Rpv w K R ps kvs →
    Rpv w K R (ps.map fun kv => if kv.1 = k then (kv.1, vu) else kv) (kvs.map fun kv => if PyData.eqv kv.1 k.data = true then (kv.1, vd) else kv)
  | _, _, .nil => .nil
  | _, _, .cons (k := k') a b r => by
    have e : PyData.eqv k'.data k.data = decide (k' = k) := eqv_dec _ _
    rw [List.map_cons, List.map_cons]
    dsimp only
    rw [e]
    by_cases q : k' = k
    · rw [if_pos q, if_pos (decide_eq_true q)]
      exact .cons rv rd (r.mapPut rv rd k)
    · rw [if_neg q, if_neg (by simp [q])]
      exact .cons a b (r.mapPut rv rd k)
theorem Rpv.snoc {vu : Value} {vv : V} {vd : PyData} (rv : RelV vv vu) (rd : Rp w K R vv vd) (k : NestedKey) : ∀ {ps : List (NestedKey × Value)} {kvs : List (PyData × PyData)}, Rpv w K R ps kvs → Rpv w K R (ps ++ [(k, vu)]) (kvs ++ [(k.data, vd)])
  | _, _, .nil => .cons rv rd .nil
  | _, _, .cons a b r => .cons a b (r.snoc rv rd k)
theorem Rpv.put {ps : List (NestedKey × Value)} {kvs : List (PyData × PyData)} {vu : Value} {vv : V} {vd : PyData} (r : Rpv w K R ps kvs) (rv : RelV vv vu) (rd : Rp w K R vv vd) (k : NestedKey) : Rpv w K R (stored ps k vu) (dPut kvs k.data vd) := by
  unfold stored dPut
  rw [r.any k]
  by_cases q : (ps.any fun kv => decide (kv.1 = k)) = true
  · rw [if_pos q, if_pos q]
    exact r.mapPut rv rd k
  · rw [if_neg q, if_neg q]
    exact r.snoc rv rd k
theorem Rpv.del (k : NestedKey) : ∀ {ps : List (NestedKey × Value)} {kvs : List (PyData × PyData)}, Rpv w K R ps kvs → Rpv w K R (without ps k) (dDel kvs k.data)
  | _, _, .nil => .nil
  | _, _, .cons (k := k') a b r => by
    have ih := r.del k
    unfold without dDel at *
    rw [List.filter_cons, List.filter_cons]
    simp only [eqv_dec] at ih ⊢
    by_cases q : k' = k
    · rw [if_neg (by simp [q]), if_neg (by simp [q])]
      exact ih
    · rw [if_pos (by simp [q]), if_pos (by simp [q])]
      exact .cons a b ih
end

/-! ### a key's value on the machine's heap -/
section
variable {X : Cx} {pins : List (Addr × Obj)} {σ : L2.St} {H : Hp} {s : Shared}
mutual
theorem nested_of (I : Inv X pins σ H s) : ∀ (k : NestedKey) (v : V) (u : Value), Rp X.w X.K H v k.data → RelV v u → NestedIs s.heap k u
  | .none, _, _, .non, r => by cases (show _ = Value.none from r); exact .none
  | .num i, _, _, .int _, r => by obtain ⟨t, e⟩ := (show ∃ t, _ = Value.int i t from r); cases e; exact .int i t
  | .text x, _, _, .str _, r => by obtain ⟨t, e⟩ := (show ∃ t, _ = Value.str x t from r); cases e; exact .text x t
  | .tup ks, _, _, .tup (a := a) h q, r => by
    cases (show _ = Value.ref a from r)
    obtain ⟨its, rv, ⟨o, ho, hc, n, hd⟩, hz⟩ := I.tuple h
    exact .tup ho hc hd (by simpa using nesteds_of I ks _ _ q rv)
theorem nesteds_of (I : Inv X pins σ H s) : ∀ (ks : List NestedKey) (vs : List V) (us : List Value), Rps X.w X.K H vs (NestedKey.datas ks) → Vals vs us → NestedAll s.heap ks us
  | [], _, _, .nil, .nil => .nil
  | k :: ks, _, _, .cons h q, .cons r rs => .cons (nested_of I k _ _ h r) (nesteds_of I ks _ _ q rs)
end
theorem lk_of {R : Hp} {k : NestedKey} {v : V} {u : Value} (hl : isLeafK k = true) (h : Rp X.w X.K R v k.data) (r : RelV v u) : lkIs k u = true := by
  cases k with
  | none => cases h; cases (show u = Value.none from r); rfl
  | num i => cases h; obtain ⟨t, e⟩ := (show ∃ t, u = Value.int i t from r); cases e; exact decide_eq_true rfl
  | text x => cases h; obtain ⟨t, e⟩ := (show ∃ t, u = Value.str x t from r); cases e; simp [lkIs, Value.isStrOf]
  | tup ks => cases hl
theorem rp_lk {R : Hp} {k : NestedKey} {u : Value} (h : lkIs k u = true) : ∃ v, RelV v u ∧ Rp X.w X.K R v k.data := by
  cases k with
  | none => cases u <;> first | exact ⟨.non, rfl, .non⟩ | exact absurd h Bool.false_ne_true
  | num i =>
    cases u with
    | int j t =>
      have e : j = i := of_decide_eq_true h
      subst e
      exact ⟨.int j, ⟨t, rfl⟩, .int j⟩
    | _ => exact absurd h Bool.false_ne_true
  | text x =>
    obtain ⟨t, e⟩ := Value.isStrOf_shape (show Value.isStrOf x u = true from h)
    cases e
    exact ⟨.str x, ⟨t, rfl⟩, .str x⟩
  | tup ks => cases u <;> exact absurd h Bool.false_ne_true
theorem ref_tup {R : Hp} {k : NestedKey} {v : V} {u : Value} (hl : isLeafK k = false) (h : Rp X.w X.K R v k.data) (r : RelV v u) : ∃ a, v = .ref a ∧ u = .ref a := by
  cases k with
  | tup ks => cases h; exact ⟨_, rfl, r⟩
  | none => cases hl
  | num _ => cases hl
  | text _ => cases hl

/-! ### a dict on the machine's heap -/
theorem dictOf_leaf {ep : Nat} {xs : List Ent} {a : Addr} (h : dXp X.w a ep xs s.heap) (nd : (xs.map (·.1)).Nodup) (hk : ∀ x ∈ xs, lkIs x.1 x.2.1 = true) : s.heap.DictOf (lkKind X.prog X.w) a (prs xs) := by
  obtain ⟨_, _, o, es, ho, hx, hd, he⟩ := h
  refine ⟨o, es, ep, ho, hx, hd, fun e hm => ?_, ?_, ?_⟩
  · rw [← Array.mem_toList_iff, he] at hm
    obtain ⟨x, hx, rfl⟩ := List.mem_map.mp hm
    exact ⟨x.1, hk x hx, rfl⟩
  · rw [he]
    have main : ∀ ys : List Ent, (∀ x ∈ ys, lkIs x.1 x.2.1 = true) → Pairs (lkKind X.prog X.w) (ys.map (entD X.w)) (prs ys) := by
      intro ys
      induction ys with
      | nil => exact fun _ => .nil
      | cons x ys ih => exact fun hk => .cons (hk x List.mem_cons_self) rfl (ih fun y hy => hk y (List.mem_cons_of_mem _ hy))
    exact main xs hk
  · rw [List.map_map]
    exact nd
theorem of_dictOf {kvs : List (NestedKey × Value)} {a : Addr} {h : Heap} (hs : (a == sysModules) = false) (hz : kvs.length ≤ sizeLine) (hd : h.DictOf (lkKind X.prog X.w) a kvs) :
    ∃ (ep : Nat) (xs : List Ent), prs xs = kvs ∧ dXp X.w a ep xs h ∧ (∀ x ∈ xs, lkIs x.1 x.2.1 = true) := by
  obtain ⟨o, es, ep, ho, hx, hdt, hk, hp, nd⟩ := hd
  have hk' : ∀ e ∈ es.toList, ∃ k, lkIs k e.key = true ∧ e.hash = k.hash X.w := fun e he => hk e (Array.mem_toList_iff.mp he)
  have main : ∀ {l : List DictEntry} {kvs : List (NestedKey × Value)}, Pairs (lkKind X.prog X.w) l kvs → (∀ e ∈ l, ∃ k, lkIs k e.key = true ∧ e.hash = k.hash X.w) → ∃ xs : List Ent, prs xs = kvs ∧ l = xs.map (entD X.w) ∧ (∀ x ∈ xs, lkIs x.1 x.2.1 = true) := by
    intro l kvs p
    induction p with
    | nil => exact fun _ => ⟨[], rfl, rfl, fun _ h => nomatch h⟩
    | @cons e kv l kvs h1 h2 _ ih =>
      intro hk
      obtain ⟨xs, e1, e2, e3⟩ := ih fun e he => hk e (List.mem_cons_of_mem _ he)
      obtain ⟨k, q1, q2⟩ := hk e List.mem_cons_self
      have ek : k = kv.1 := (lkKind X.prog X.w).inj e.key _ _ q1 h1
      subst ek
      refine ⟨(kv.1, e.key, e.val) :: xs, ?_, ?_, fun x hx => ?_⟩
      · show (kv.1, e.val) :: prs xs = kv :: kvs
        rw [e1, h2]
      · rw [List.map_cons, ← e2]
        obtain ⟨hh, kk, vv⟩ := e
        simp only at q2
        rw [q2]
        rfl
      · rcases List.mem_cons.mp hx with z | z
        · subst z; exact q1
        · exact e3 x z
  obtain ⟨xs, e1, e2, e3⟩ := main hp hk'
  refine ⟨ep, xs, e1, ⟨?_, hs, o, es, ho, hx, hdt, e2⟩, e3⟩
  rw [← e1, List.length_map] at hz
  exact hz
abbrev adrs (xs : List Ent) : List (NestedKey × Addr × Value) := xs.map fun x => (x.1, (match x.2.1 with | .ref a => a | _ => 0), x.2.2)
theorem dictOf_tup {ep : Nat} {xs : List Ent} {a : Addr} (h : dXp X.w a ep xs s.heap) (nd : (xs.map (·.1)).Nodup) (hk : ∀ x ∈ xs, ∃ b, x.2.1 = .ref b ∧ NestedIs s.heap x.1 (.ref b) ∧ x.1.depth ≤ 8) : s.heap.DictOfH (nestedKind X.prog X.w) a (adrs xs) := by
  obtain ⟨_, _, o, es, ho, hx, hd, he⟩ := h
  refine ⟨o, es, ep, ho, hx, hd, ?_, fun y hy => ?_, ?_⟩
  · rw [he, List.map_map]
    refine List.map_congr_left fun x hx => ?_
    obtain ⟨b, e, _⟩ := hk x hx
    obtain ⟨k, ku, vu⟩ := x
    simp only at e
    subst e
    rfl
  · obtain ⟨x, hx, rfl⟩ := List.mem_map.mp hy
    obtain ⟨b, e, q⟩ := hk x hx
    simp only [e]
    exact q
  · rw [List.map_map]
    exact nd
theorem of_dictOfH {ys : List (NestedKey × Addr × Value)} {a : Addr} {h : Heap} (hs : (a == sysModules) = false) (hz : ys.length ≤ sizeLine) (hd : h.DictOfH (nestedKind X.prog X.w) a ys) :
    ∃ ep, dXp X.w a ep (ys.map fun y => (y.1, .ref y.2.1, y.2.2)) h := by
  obtain ⟨o, es, ep, ho, hx, hdt, he, _, _⟩ := hd
  refine ⟨ep, by rw [List.length_map]; exact hz, hs, o, es, ho, hx, hdt, ?_⟩
  rw [he, List.map_map]
  rfl
end
end DL
end

section
set_option Elab.async false
set_option linter.all false
set_option maxRecDepth 100000
set_option autoImplicit false
/-! The data layer: what one does with dicts. -/
namespace DL
open PySem PySem.Spec PyProof.Rows L2

theorem leaf_lk {k : NestedKey} {u : Value} (h : lkIs k u = true) : isLeafK k = true := by
  cases k <;> first | rfl | (cases u <;> exact absurd h Bool.false_ne_true)
theorem nested_tup {h : Heap} {k : NestedKey} {b : Addr} (n : NestedIs h k (.ref b)) (d : k.depth ≤ 8) : isTupK k = true := by
  cases n
  exact decide_eq_true d
theorem tupK_leaf {k : NestedKey} (h : isTupK k = true) : isLeafK k = false ∧ k.depth ≤ 8 := by
  cases k with
  | tup ks => exact ⟨rfl, of_decide_eq_true h⟩
  | none => cases h
  | num _ => cases h
  | text _ => cases h
def sameKind (kvs : List (PyData × PyData)) (k : PyData) : Bool := kvs.all fun kv => isTupD kv.1 == isTupD k
def kOk (kvs : List (PyData × PyData)) (k : PyData) : Bool := keyGood k && sameKind kvs k
section
variable {w : World} {K : PySem.W.Frag} {R H : Hp}
theorem rpe_keys : ∀ {xs : List Ent} {kvs : List (PyData × PyData)}, Rpe w K R xs kvs → kvs.map (·.1) = xs.map fun x => x.1.data
  | _, _, .nil => rfl
  | _, _, .cons _ _ _ _ r => by rw [List.map_cons, List.map_cons, rpe_keys r]
theorem kind_of {xs : List Ent} {kvs : List (PyData × PyData)} {k : NestedKey} (r : Rpe w K R xs kvs) (h : sameKind kvs k.data = true) : ∀ x ∈ xs, isLeafK x.1 = isLeafK k := fun x hx => by
  have hm : x.1.data ∈ kvs.map (·.1) := by rw [rpe_keys r]; exact List.mem_map.mpr ⟨x, hx, rfl⟩
  obtain ⟨kv, hkv, e⟩ := List.mem_map.mp hm
  have q := List.all_eq_true.mp h kv hkv
  rw [e, tup_of, tup_of] at q
  have q := beq_iff_eq.mp q
  cases h1 : isLeafK x.1 <;> cases h2 : isLeafK k <;> rw [h1, h2] at q <;> first | rfl | cases q
theorem Rb.key (s : Sub R H) {v : V} {k : NestedKey} (h : Rb w K R H v k.data) : Rp w K R v k.data := by
  cases k with
  | none => cases h; exact .non
  | num i => cases h; exact .int i
  | text x => cases h; exact .str x
  | tup ks => cases h with | tup a b => exact .tup a b
end

section
variable {X : Cx} {pins : List (Addr × Obj)} {σ : L2.St} {s : Shared} {R H : Hp}
/-- a dict and a key, ready for the machine's rules -/
inductive Look (X : Cx) (s : Shared) (R : Hp) (a : Addr) (xs : List Ent) (k : NestedKey) (v : Value) : Prop
  | leaf : lkIs k v = true → (∀ x ∈ xs, lkIs x.1 x.2.1 = true) → s.heap.DictOf (lkKind X.prog X.w) a (prs xs) → Look X s R a xs k v
  | tup {b : Addr} : v = .ref b → Rp X.w X.K R (.ref b) k.data → NestedIs s.heap k (.ref b) → k.depth ≤ 8 → (∀ x ∈ xs, ∃ c, x.2.1 = .ref c) → s.heap.DictOfH (nestedKind X.prog X.w) a (adrs xs) → Look X s R a xs k v
theorem prs_adrs (xs : List Ent) : pairsH (adrs xs) = prs xs := by
  unfold pairsH
  rw [List.map_map]
  rfl
theorem look_of (I : Inv X pins σ H s) (sub : Sub R H) {a : Addr} {ep : Nat} {xs : List Ent} {kvs : List (PyData × PyData)} {k : NestedKey} {x : V} {v : Value} (hH : H a = some (dX X.w a ep xs)) (ko : KeysOk (xs.map (·.1))) (re : Rpe X.w X.K R xs kvs)
    (hx : Rb X.w X.K R H x k.data) (rx : RelV x v) (hd : k.depth ≤ 8) (hk : sameKind kvs k.data = true) : Look X s R a xs k v := by
  have hp := Inv.dctR I hH
  have kind := kind_of re hk
  have hr := hx.key sub
  obtain ⟨rk, rv⟩ := re.parts
  cases hl : isLeafK k with
  | true =>
    have all : ∀ x ∈ xs, lkIs x.1 x.2.1 = true := fun y hy => by
      obtain ⟨kv, h1, h2⟩ := rk y hy
      exact lk_of ((kind y hy).trans hl) h2 h1
    exact .leaf (lk_of hl hr rx) all (dictOf_leaf hp ko.1 all)
  | false =>
    obtain ⟨b, e1, e2⟩ := ref_tup hl hr rx
    subst e1 e2
    have all : ∀ x ∈ xs, ∃ c, x.2.1 = .ref c ∧ NestedIs s.heap x.1 (.ref c) ∧ x.1.depth ≤ 8 := fun y hy => by
      obtain ⟨kv, h1, h2⟩ := rk y hy
      have hly := (kind y hy).trans hl
      obtain ⟨c, e3, e4⟩ := ref_tup hly h2 h1
      subst e3
      refine ⟨c, e4, ?_, ?_⟩
      · have := nested_of I y.1 (.ref c) y.2.1 (h2.sub sub) h1
        rw [e4] at this
        exact this
      · rcases ko.2 with z | z
        · have := z y.1 (List.mem_map.mpr ⟨y, hy, rfl⟩)
          rw [hly] at this; cases this
        · exact (tupK_leaf (z y.1 (List.mem_map.mpr ⟨y, hy, rfl⟩))).2
    exact .tup rfl hr (nested_of I k _ _ (hr.sub sub) rfl) hd (fun y hy => let ⟨c, e, _⟩ := all y hy; ⟨c, e⟩) (dictOf_tup hp ko.1 all)
theorem room_nested {A : Around} (hu : A.units + 65 < cLine) : (nestedKind X.prog X.w).room A.in1 := by
  show A.units + 1 + 8 < cLine
  omega

/-! ### in, not in -/
def inDict : PyData → PyData → Option PyData
  | k, .dict kvs => if kOk kvs k = true then some (.bool (dFind kvs k).isSome) else none
  | _, _ => none
def notInDict : PyData → PyData → Option PyData
  | k, .dict kvs => if kOk kvs k = true then some (.bool (!(dFind kvs k).isSome)) else none
  | _, _ => none
theorem find_some {w : World} {K : PySem.W.Frag} {R : Hp} {ps : List (NestedKey × Value)} {kvs : List (PyData × PyData)} {k : NestedKey} (r : Rpv w K R ps kvs) : (valueAt ps k).isSome = (dFind kvs k.data).isSome := by
  obtain ⟨h1, h2⟩ := r.find k
  cases e : dFind kvs k.data with
  | none => rw [h2 e]; rfl
  | some d =>
    obtain ⟨vu, vv, q, _⟩ := h1 d e
    rw [q]
    rfl
theorem od_inDict (hu : X.A.units + 65 < cLine) : OpD X (compareOp .In) inDict := by
  intro pins s σ H x y v u Q I rx ry ⟨W, B, dx, dy, z, e1, ok, hx, hy, hg, q⟩
  subst e1
  unfold inDict at hg
  split at hg
  · obtain ⟨hk, ez⟩ := ifb hg
    subst ez
    unfold kOk at hk
    rw [Bool.and_eq_true] at hk
    obtain ⟨k, ek, hd⟩ := keyGood_of hk.1
    subst ek
    cases hy with
    | dct hH ko re =>
      cases ry
      have rv := re.parts.2
      have hp := Inv.dctR I hH
      have fin : ∀ t, EP X pins σ Q (.bool (valueAt (prs _) k).isSome) { s with toks := t } := fun t => ⟨.bl _, W.H, I.tok t, rfl, by rw [find_some rv]; exact q W _ .refl ok (.bl _)⟩
      cases look_of I ok.sub hH ko re hx rx hd hk.2 with
      | leaf h1 h2 h3 => exact wpAny_in_of h1 hp.2.1 h3.mapOf (fin _)
      | tup e h1 h2 h3 h4 h5 =>
        subst e
        exact in_keyed (room_nested hu) ⟨h2, h3⟩ hp.2.1 ⟨_, h5, prs_adrs _⟩ (fin _)
  · cases hg
theorem od_notInDict (hu : X.A.units + 65 < cLine) : OpD X (compareOp .NotIn) notInDict := by
  intro pins s σ H x y v u Q I rx ry ⟨W, B, dx, dy, z, e1, ok, hx, hy, hg, q⟩
  subst e1
  unfold notInDict at hg
  split at hg
  · obtain ⟨hk, ez⟩ := ifb hg
    subst ez
    unfold kOk at hk
    rw [Bool.and_eq_true] at hk
    obtain ⟨k, ek, hd⟩ := keyGood_of hk.1
    subst ek
    cases hy with
    | dct hH ko re =>
      cases ry
      have rv := re.parts.2
      have hp := Inv.dctR I hH
      have fin : ∀ t, EP X pins σ Q (.bool (!(valueAt (prs _) k).isSome)) { s with toks := t } := fun t => ⟨.bl _, W.H, I.tok t, rfl, by rw [find_some rv]; exact q W _ .refl ok (.bl _)⟩
      cases look_of I ok.sub hH ko re hx rx hd hk.2 with
      | leaf h1 h2 h3 => exact wpAny_notIn_of h1 hp.2.1 h3.mapOf (fin _)
      | tup e h1 h2 h3 h4 h5 =>
        subst e
        exact notIn_keyed (room_nested hu) ⟨h2, h3⟩ hp.2.1 ⟨_, h5, prs_adrs _⟩ (fin _)
  · cases hg

/-! ### d[k] -/
def rGet (X : Cx) : R2 := fun x y H Q => ∃ W B kvs dk z, W.H = H ∧ WX X W B ∧ Rb X.w X.K W.R W.H x (.dict kvs) ∧ Rb X.w X.K W.R W.H y dk ∧ kOk kvs dk = true ∧ dFind kvs dk = some z ∧ ∀ v, Rp X.w X.K W.R v z → Q v W.H
theorem ix_dict (hu : X.A.units + 65 < cLine) : IxR X (rGet X) := by
  intro value slice pins s σ H x y v u Q I rx ry ⟨W, B, kvs, dk, z, e1, ok, hx, hy, hk, hf, q⟩ hs
  subst e1
  unfold kOk at hk
  rw [Bool.and_eq_true] at hk
  obtain ⟨k, ek, hd⟩ := keyGood_of hk.1
  subst ek
  cases hx with
  | dct hH ko re =>
    cases rx
    have rv := re.parts.2
    have hp := Inv.dctR I hH
    obtain ⟨vu, vv, e1, r1, r2⟩ := (rv.find k).1 z hf
    have fin : ∀ t, EP X pins σ Q vu { s with toks := t } := fun t => ⟨vv, W.H, I.tok t, r1, q vv r2⟩
    cases look_of I ok.sub hH ko re hy ry hd hk.2 with
    | leaf h1 h2 h3 => exact tail_any h3.typeIs PySem.F.slot_dict_getitem.lookup (wpAny_getItem_of h1 h3.mapOf e1 (fin _)) hs
    | tup e h1 h2 h3 h4 h5 =>
      subst e
      have hm : s.heap.DictKeyed (nestedKind X.prog X.w) _ (prs _) := ⟨_, h5, prs_adrs _⟩
      exact tail_any hm.typeIs PySem.F.slot_dict_getitem.lookup (getItem_keyed (room_nested hu) ⟨h2, h3⟩ hm e1 (fin _)) hs

/-! ### d[k] = v -/
theorem set_dict (hu : X.A.units + 65 < cLine) (I : Inv X pins σ H s) (sub : Sub R H) {a : Addr} {ep : Nat} {xs : List Ent} {kvs : List (PyData × PyData)} {k : NestedKey} {x y : V} {v u : Value} {d : PyData} {Q : Unit → Shared → Prop} (hH : H a = some (dX X.w a ep xs)) (ko : KeysOk (xs.map (·.1))) (re : Rpe X.w X.K R xs kvs)
    (hx : Rb X.w X.K R H x k.data) (rx : RelV x v) (hd : k.depth ≤ 8) (hk : sameKind kvs k.data = true) (hy : Rp X.w X.K R y d) (ry : RelV y u) (hz : xs.length < sizeLine) (hR : R a = none)
    (q : ∀ s' ep' xs', Inv X pins σ (upd H a (dX X.w a ep' xs')) s' → KeysOk (xs'.map (·.1)) → Rpe X.w X.K R xs' (dPut kvs k.data d) → Q () s') : wpAny (model X.prog X.w) X.A (setItem (.ref a) v u) Q X.xe s := by
  have hp := Inv.dctR I hH
  have mu : Mut (H a) := by rw [hH]; exact trivial
  have sR : Sub R (upd H a (dX X.w a 0 [])) := fun b o e => by
    have : b ≠ a := fun z => by subst z; rw [hR] at e; cases e
    rw [upd_ne this]
    exact sub b o e
  obtain ⟨rk, rv⟩ := re.parts
  have fin : ∀ (h' : Heap) (t : Nat) (ep' : Nat) (xs' : List Ent), Heap.SameBut a s.heap h' → dXp X.w a ep' xs' h' → Inv X pins σ (upd H a (dX X.w a ep' xs')) { s with heap := h', toks := t } := fun h' t ep' xs' hs hx' => by
    obtain ⟨_, _, o, _, ho, _⟩ := id hx'
    refine I.write mu (.inl rfl) (fun b ob hb e => (hs.2 b hb).trans e) ⟨o, ho⟩ ⟨hx', ⟨o, ho⟩, fun h1 h2 z k => ?_⟩
    obtain ⟨z1, z2, o1, es, g1, g2⟩ := z
    exact ⟨z1, z2, o1, es, k _ g1, g2⟩
  have len : (prs xs).length < sizeLine := by rw [List.length_map]; exact hz
  have slen : (stored (prs xs) k u).length ≤ sizeLine := by
    unfold stored
    split
    · rw [List.length_map]; omega
    · rw [List.length_append]; show (prs xs).length + 1 ≤ _; omega
  cases look_of I sub hH ko re hx rx hd hk with
  | leaf h1 h2 h3 =>
    refine wpAny_setItem_pairs (hsz := Nat.le_of_lt len) h1 h3 fun h' dd' hs => ?_
    have nd := (show ((stored (prs xs) k u).map (·.1)).Nodup from let ⟨_, _, _, _, _, _, _, _, n⟩ := dd'; n)
    obtain ⟨ep', xs', e1, e2, e3⟩ := of_dictOf hp.2.1 slen dd'
    refine q _ ep' xs' (fin h' _ ep' xs' hs e2) ⟨?_, .inl fun k' hk' => ?_⟩ (Rpe.of (fun z hz => rp_lk (e3 z hz)) (by rw [e1]; exact rv.put ry hy k))
    · have : xs'.map (·.1) = (prs xs').map (·.1) := by rw [List.map_map]; rfl
      rw [this, e1]
      exact nd
    · obtain ⟨z, hz, rfl⟩ := List.mem_map.mp hk'
      exact leaf_lk (e3 z hz)
  | @tup b e h1 h2 h3 h4 h5 =>
    subst e
    have hlen : (adrs xs).length ≤ sizeLine := by rw [List.length_map]; omega
    refine wpAny_setItem_heap (hsz := hlen) (room_nested hu) ⟨h2, h3⟩ h5 fun h' dd' hs => ?_
    have slen' : (storedH (adrs xs) k b u).length ≤ sizeLine := by
      have := congrArg List.length (pairsH_storedH (adrs xs) k b u)
      rw [pairsH_length, prs_adrs] at this
      rw [this]
      exact slen
    obtain ⟨ep', e2⟩ := of_dictOfH (X := X) hp.2.1 slen' dd'
    have all : ∀ y ∈ storedH (adrs xs) k b u, NestedIs h' y.1 (.ref y.2.1) ∧ y.1.depth ≤ 8 := let ⟨_, _, _, _, _, _, _, z, _⟩ := dd'; z
    have nd := (show ((storedH (adrs xs) k b u).map (·.1)).Nodup from let ⟨_, _, _, _, _, _, _, _, n⟩ := dd'; n)
    refine q _ _ _ (fin h' _ _ _ hs e2) ⟨?_, .inr fun k' hk' => ?_⟩ (Rpe.of (fun z hz => ?_) ?_)
    · rw [List.map_map]
      exact nd
    · rw [List.map_map] at hk'
      obtain ⟨z, hz, rfl⟩ := List.mem_map.mp hk'
      exact nested_tup (all z hz).1 (all z hz).2
    · obtain ⟨z, hzm, rfl⟩ := List.mem_map.mp hz
      clear hz
      unfold storedH at hzm
      have old : ∀ y ∈ adrs xs, ∃ kv, RelV kv (.ref y.2.1) ∧ Rp X.w X.K R kv y.1.data := fun y hy => by
        obtain ⟨x0, hx0, rfl⟩ := List.mem_map.mp hy
        obtain ⟨c, ec⟩ := h4 x0 hx0
        obtain ⟨kv, q1, q2⟩ := rk x0 hx0
        rw [ec] at q1
        simp only [ec]
        exact ⟨kv, q1, q2⟩
      split at hzm
      · obtain ⟨y, hy, rfl⟩ := List.mem_map.mp hzm
        obtain ⟨kv, q1, q2⟩ := old y hy
        unfold putAt
        by_cases hyk : y.1 = k
        · rw [if_pos hyk]; exact ⟨kv, q1, q2⟩
        · rw [if_neg hyk]; exact ⟨kv, q1, q2⟩
      · rcases List.mem_append.mp hzm with hm | hm
        · exact old z hm
        · have : z = (k, b, u) := by simpa using hm
          subst this
          exact ⟨.ref b, rfl, h1⟩
    · have : prs ((storedH (adrs xs) k b u).map fun y => (y.1, Value.ref y.2.1, y.2.2)) = stored (prs xs) k u := by
        rw [← prs_adrs xs, ← pairsH_storedH]
        unfold pairsH
        show ((storedH (adrs xs) k b u).map fun y => (y.1, Value.ref y.2.1, y.2.2)).map _ = _
        rw [List.map_map]
        rfl
      rw [this]
      exact rv.put ry hy k
end
end DL
end

section
set_option Elab.async false
set_option linter.all false
set_option maxRecDepth 100000
set_option autoImplicit false
/-! The data layer 5: subscripts, slices, in, len, built-ins. -/
namespace DL
open PySem PySem.Spec PyProof.Rows L2

/-- x[i] by data: a list, a tuple, a text, at an int; a dict at a key -/
def ixD : PyData → PyData → Option PyData
  | .list ds, .int i => atI ds i
  | .tuple ds, .int i => atI ds i
  | .str x, .int i => if x.length ≤ LIM then (atI x.cps.toList i).map fun c => .str ⟨#[c]⟩ else none
  | .dict kvs, k => if kOk kvs k = true then dFind kvs k else none
  | _, _ => none
def eIx (fa fb : SE) : SE := fun ρ B => (fa ρ B).bind fun p => (fb ρ p.2).bind fun q => (derefZ q.2 p.1).bind fun dx => (deref q.2 q.1).bind fun dy => (ixD dx dy).bind fun z => some (.d z, q.2)
theorem atI_rps {w : World} {K : PySem.W.Frag} {R : Hp} {vs : List V} {ds : List PyData} {i : Int} {d : PyData} (r : Rps w K R vs ds) (h : atI ds i = some d) : ∃ v, atI vs i = some v ∧ Rp w K R v d := by
  unfold atI at h ⊢
  rw [r.length]
  cases e : ixN ds.length i with
  | none => rw [e] at h; cases h
  | some j =>
    rw [e] at h
    exact r.get h
section
variable {X : Cx} {a b e : Expr} {fa fb f : SE} {pos : Pos}
theorem d_ix (hu : X.A.units + 65 < cLine) (ha : PE X a (tB X fa)) (hb : PE X b (tB X fb)) (hs : PlainIx b := by intro _ _; rfl) : PE X (.Subscript a b pos) (tE X (eIx fa fb)) := PE.weak (pe_ix (ix_seq.or (ix_dict hu)) ha hb hs) fun σ H Q ⟨W, E0, ρ, B, r, B', e1, ok, en, e, q⟩ => by
  subst e1
  simp only [eIx, Option.bind_eq_some_iff] at e
  obtain ⟨p, h1, p2, h2, dx, h3, dy, h4, z, h5, h6⟩ := e
  cases h6
  refine ⟨W, E0, ρ, B, p.1, p.2, rfl, ok, en, h1, fun W1 v1 s1 ok1 r1 => ⟨W1, E0, ρ, p.2, p2.1, p2.2, rfl, ok1, en.step s1, h2, fun W2 v2 s2 ok2 r2 => ?_⟩⟩
  have hx := rz_of ok2 (s2.rbv r1) h3
  have hy := rb_of ok2 r2 h4
  unfold ixD at h5
  split at h5
  · cases hy
    cases hx with
    | fz hq hr =>
      obtain ⟨v, e1, e2⟩ := atI_rps hr h5
      exact .inl (.inl ⟨_, _, _, v, rfl, rfl, hq, e1, q W2 v (s1.trans s2) ok2 e2⟩)
    | rb hx =>
      cases hx with
      | lst hq hr =>
        obtain ⟨v, e1, e2⟩ := atI_rps hr h5
        exact .inl (.inl ⟨_, _, _, v, rfl, rfl, .of hq, e1, q W2 v (s1.trans s2) ok2 e2⟩)
  · cases hy
    cases hx with
    | rb hx =>
      cases hx with
      | tup hq hr =>
        obtain ⟨v, e1, e2⟩ := atI_rps hr h5
        exact .inl (.inr (.inl ⟨_, _, _, v, rfl, rfl, SqT.sub ok2.sub hq, e1, q W2 v (s1.trans s2) ok2 e2⟩))
  · cases hy
    cases hx with
    | rb hx =>
      cases hx
      split at h5
      · rename_i hz
        rw [Option.map_eq_some_iff] at h5
        obtain ⟨c, e1, e2⟩ := h5
        cases e2
        exact .inl (.inr (.inr ⟨_, _, c, rfl, rfl, by rw [lim_eq]; exact hz, e1, q W2 _ (s1.trans s2) ok2 (.str _)⟩))
      · cases h5
  · split at h5
    · rename_i hk
      cases hx with
      | rb hx => exact .inr ⟨W2, _, _, dy, z, rfl, ok2, hx, hy, hk, h5, fun v hv => q W2 v (s1.trans s2) ok2 hv⟩
    · cases h5
  · cases h5

/-! ### in, not in -/
def inSeq : PyData → PyData → Option PyData
  | d, .list xs => if (dOk d && PyData.plainAll xs) = true then some (.bool (xs.any fun y => PyData.eqv y d)) else none
  | d, .tuple xs => if (dOk d && PyData.plainAll xs) = true then some (.bool (xs.any fun y => PyData.eqv y d)) else none
  | _, _ => none
def notInSeq : PyData → PyData → Option PyData
  | d, .list xs => if (dOk d && PyData.plainAll xs) = true then some (.bool (!xs.any fun y => PyData.eqv y d)) else none
  | d, .tuple xs => if (dOk d && PyData.plainAll xs) = true then some (.bool (!xs.any fun y => PyData.eqv y d)) else none
  | _, _ => none
def inSign : PyData → PyData → Option PyData
  | .str x, .str y => match x.cps.toList with
    | [c] => some (.bool (decide (c ∈ y.cps.toList)))
    | _ => none
  | _, _ => none
def notInSign : PyData → PyData → Option PyData
  | .str x, .str y => match x.cps.toList with
    | [c] => some (.bool (!decide (c ∈ y.cps.toList)))
    | _ => none
  | _, _ => none
def orD (g h : PyData → PyData → Option PyData) : PyData → PyData → Option PyData := fun x y => match g x y with
  | some z => some z
  | none => h x y
theorem OpD.or {op : Value → Value → Sem Value} {g h : PyData → PyData → Option PyData} (hg : OpD X op g) (hh : OpD X op h) : OpD X op (orD g h) := by
  intro pins s σ H x y v u Q I rx ry ⟨W, B, dx, dy, z, e1, ok, hx, hy, hz, q⟩
  unfold orD at hz
  split at hz
  · rename_i z' e
    cases hz
    exact hg pins s σ H x y v u Q I rx ry ⟨W, B, dx, dy, _, e1, ok, hx, hy, e, q⟩
  · exact hh pins s σ H x y v u Q I rx ry ⟨W, B, dx, dy, z, e1, ok, hx, hy, hz, q⟩
theorem room1 {u a b : Nat} (hu : u + 65 < cLine) (h : b ≤ 64) : u + 1 + min a b < cLine := by
  have := Nat.min_le_right a b
  omega
theorem od_inSeq (hu : X.A.units + 65 < cLine) : OpD X (compareOp .In) inSeq := look_op (fun s v u dx dy z as bs Q ra rb hg q => by
  unfold inSeq at hg
  split at hg
  · obtain ⟨h, e⟩ := ifb hg
    rw [Bool.and_eq_true] at h
    exact PySem.SeqAt.in_list_data rb ra h.2 (dOk_of h.1).1 (room1 hu (dOk_of h.1).2) (q _ e)
  · obtain ⟨h, e⟩ := ifb hg
    rw [Bool.and_eq_true] at h
    exact PySem.SeqAt.in_tuple_data rb ra h.2 (dOk_of h.1).1 (room1 hu (dOk_of h.1).2) (q _ e)
  · cases hg) fun _ _ _ h => by
    unfold inSeq at h
    split at h
    · exact ⟨_, (ifb h).2⟩
    · exact ⟨_, (ifb h).2⟩
    · cases h
theorem od_notInSeq (hu : X.A.units + 65 < cLine) : OpD X (compareOp .NotIn) notInSeq := look_op (fun s v u dx dy z as bs Q ra rb hg q => by
  unfold notInSeq at hg
  split at hg
  · obtain ⟨h, e⟩ := ifb hg
    rw [Bool.and_eq_true] at h
    exact PySem.SeqAt.notIn_list_data rb ra h.2 (dOk_of h.1).1 (room1 hu (dOk_of h.1).2) (q _ e)
  · obtain ⟨h, e⟩ := ifb hg
    rw [Bool.and_eq_true] at h
    exact PySem.SeqAt.notIn_tuple_data rb ra h.2 (dOk_of h.1).1 (room1 hu (dOk_of h.1).2) (q _ e)
  · cases hg) fun _ _ _ h => by
    unfold notInSeq at h
    split at h
    · exact ⟨_, (ifb h).2⟩
    · exact ⟨_, (ifb h).2⟩
    · cases h
theorem one_sign : ∀ {x : Str} {c : Nat}, x.cps.toList = [c] → x = ⟨#[c]⟩
  | ⟨⟨l⟩⟩, c, e => by
    have e : l = [c] := e
    rw [e]
theorem od_inSign : OpD X (compareOp .In) inSign := OpR.weak op_in_sign fun x y H Q ⟨W, B, dx, dy, z, e1, ok, hx, hy, hg, q⟩ => by
  subst e1
  unfold inSign at hg
  split at hg
  · cases hx
    cases hy
    split at hg
    · rename_i c e
      cases hg
      have ex := one_sign e
      subst ex
      exact ⟨c, _, rfl, rfl, q W _ .refl ok (.bl _)⟩
    · cases hg
  · cases hg
theorem od_notInSign : OpD X (compareOp .NotIn) notInSign := OpR.weak op_notIn_sign fun x y H Q ⟨W, B, dx, dy, z, e1, ok, hx, hy, hg, q⟩ => by
  subst e1
  unfold notInSign at hg
  split at hg
  · cases hx
    cases hy
    split at hg
    · rename_i c e
      cases hg
      have ex := one_sign e
      subst ex
      exact ⟨c, _, rfl, rfl, q W _ .refl ok (.bl _)⟩
    · cases hg
  · cases hg
def inD := orD inSeq (orD inDict inSign)
def notInD := orD notInSeq (orD notInDict notInSign)
theorem od_in (hu : X.A.units + 65 < cLine) : OpD X (compareOp .In) inD := (od_inSeq hu).or ((od_inDict hu).or od_inSign)
theorem od_notIn (hu : X.A.units + 65 < cLine) : OpD X (compareOp .NotIn) notInD := (od_notInSeq hu).or ((od_notInDict hu).or od_notInSign)

/-! ### slices -/
def cutL {α : Type} (xs : List α) (lo hi : Option Int) : List α := (xs.drop (HT.sIx xs.length 0 lo)).take (HT.sIx xs.length xs.length hi - HT.sIx xs.length 0 lo)
theorem cut_rps {w : World} {K : PySem.W.Frag} {R : Hp} {vs : List V} {ds : List PyData} (lo hi : Option Int) (r : Rps w K R vs ds) : Rps w K R (cutV vs lo hi) (cutL ds lo hi) := by
  unfold cutV cutL
  rw [r.length]
  exact (r.drop _).take _
theorem cut_len {α : Type} (xs : List α) (lo hi : Option Int) : (cutL xs lo hi).length ≤ xs.length := by
  unfold cutL
  rw [List.length_take, List.length_drop]
  omega
def sliceD (x : PyData) (lo hi : Option Int) : Option PyData := match x with
  | .list ds => some (.list (cutL ds lo hi))
  | .tuple ds => some (.tuple (cutL ds lo hi))
  | .str z => if z.length ≤ LIM then some (.str (cutS z lo hi)) else none
  | _ => none
/-- a part of a slice -/
abbrev SP' := EnvD → Bs → Option (Option Int × Bs)
def pNone : SP' := fun _ B => some (none, B)
def pSome (f : SE) : SP' := fun ρ B => (f ρ B).bind fun p => match p.1 with
  | .d (.int i) => some (some i, p.2)
  | _ => none
def tP (X : Cx) (f : SP') : TO := fun σ H Q => ∃ W E0 ρ B r B', W.H = H ∧ WX X W B ∧ EX X W E0 σ ρ ∧ f ρ B = some (r, B') ∧ ∀ W', Step W W' → WX X W' B' → Q r W'.H
theorem PO.weak {o : Option Expr} {t t' : TO} (h : PO X o t) (k : ∀ σ H Q, t' σ H Q → t σ H Q) : PO X o t' := ⟨fun pins s σ H Q I q => h.run pins s σ H Q I (k _ _ _ q)⟩
theorem dp_none : PO X none (tP X pNone) := PO.weak po_none fun σ H Q ⟨W, E0, ρ, B, r, B', e1, ok, en, e, q⟩ => by
  subst e1
  cases e
  exact q W .refl ok
theorem dp_some (h : PE X e (tE X f)) : PO X (some e) (tP X (pSome f)) := PO.weak (po_some h) fun σ H Q ⟨W, E0, ρ, B, r, B', e1, ok, en, e, q⟩ => by
  subst e1
  simp only [pSome, Option.bind_eq_some_iff] at e
  obtain ⟨⟨x, B1⟩, h1, h2⟩ := e
  refine ⟨W, E0, ρ, B, x, B1, rfl, ok, en, h1, fun W' v s ok' rv => ?_⟩
  split at h2
  · rename_i i ex
    cases h2
    simp only at ex
    subst ex
    cases (show Rp X.w X.K W'.R v (.int i) from rv)
    exact ⟨i, rfl, q W' s ok'⟩
  · cases h2
def eSlice (fa : SE) (lo hi : SP') : SE := fun ρ B => (fa ρ B).bind fun p => (lo ρ p.2).bind fun l => (hi ρ l.2).bind fun h => (deref h.2 p.1).bind fun dx => (sliceD dx l.1 h.1).bind fun z => some (.d z, h.2)
variable {lo hi : Option Expr} {fl fh : SP'} {p2 : Pos}
theorem d_slice (ha : PE X a (tB X fa)) (hl : PO X lo (tP X fl)) (hh : PO X hi (tP X fh)) : PE X (.Subscript a (.Slice lo hi none p2) pos) (tE X (eSlice fa fl fh)) := PE.weak (pe_slice (sl_list.or (sl_tupA.or sl_str)) ha hl hh) fun σ H Q ⟨W, E0, ρ, B, r, B', e1, ok, en, e, q⟩ => by
  subst e1
  simp only [eSlice, Option.bind_eq_some_iff] at e
  obtain ⟨p, h1, l, h2, h, h3, dx, h4, z, h5, h6⟩ := e
  cases h6
  refine ⟨W, E0, ρ, B, p.1, p.2, rfl, ok, en, h1, fun W1 v1 s1 ok1 r1 => ⟨W1, E0, ρ, p.2, l.1, l.2, rfl, ok1, en.step s1, h2, fun W2 s2 ok2 => ⟨W2, E0, ρ, l.2, h.1, h.2, rfl, ok2, (en.step s1).step s2, h3, fun W3 s3 ok3 => ?_⟩⟩⟩
  have st := (s1.trans s2).trans s3
  have hx := rb_of ok3 ((s2.trans s3).rbv r1) h4
  unfold sliceD at h5
  split at h5
  · cases hx with | lst hq hr =>
    cases h5
    refine .inl ⟨_, _, rfl, .of hq, fun pp hp => ?_⟩
    obtain ⟨s4, ok4, ro⟩ := new_lst ok3 hp (cut_rps l.1 h.1 hr)
    obtain ⟨R', s5, ok5, rp⟩ := RoV.plain (st.trans s4) ok4 (RoV.up st ro)
    exact q _ _ s5 ok5 rp
  · cases hx with | tup hq hr =>
    cases h5
    refine .inr (.inl ⟨_, _, rfl, SqT.sub ok3.sub hq, fun hw => ?_, fun hw pp hp => ?_⟩)
    · refine q W3 _ st ok3 (.tup hq ?_)
      have := cut_rps l.1 h.1 hr
      unfold cutV at this
      rw [hw.1, hw.2] at this
      simpa using this
    · obtain ⟨s4, ok4, rp⟩ := new_tup ok3 hp (cut_rps l.1 h.1 hr)
      exact q _ _ (st.trans s4) ok4 rp
  · cases hx
    obtain ⟨hz, e⟩ := ifs h5
    subst e
    exact .inr (.inr ⟨_, rfl, by rw [lim_eq]; exact hz, q W3 _ st ok3 (.str _)⟩)
  · cases h5
theorem dO_slice (ha : PE X a (tB X fa)) (hl : PO X lo (tP X fl)) (hh : PO X hi (tP X fh)) : PE X (.Subscript a (.Slice lo hi none p2) pos) (tO X fun ρ B => (eSlice fa fl fh ρ B).bind fun p => match p.1 with | .d (.list ds) => some (.d (.list ds), p.2) | _ => none) := PE.weak (pe_slice sl_list ha hl hh) fun σ H Q ⟨W, E0, ρ, B, r, B', e1, ok, en, e, q⟩ => by
  subst e1
  simp only [eSlice, Option.bind_eq_some_iff] at e
  obtain ⟨p', ⟨p, h1, l, h2, h, h3, dx, h4, z, h5, h6⟩, h7⟩ := e
  cases h6
  refine ⟨W, E0, ρ, B, p.1, p.2, rfl, ok, en, h1, fun W1 v1 s1 ok1 r1 => ⟨W1, E0, ρ, p.2, l.1, l.2, rfl, ok1, en.step s1, h2, fun W2 s2 ok2 => ⟨W2, E0, ρ, l.2, h.1, h.2, rfl, ok2, (en.step s1).step s2, h3, fun W3 s3 ok3 => ?_⟩⟩⟩
  have st := (s1.trans s2).trans s3
  have hx := rb_of ok3 ((s2.trans s3).rbv r1) h4
  unfold sliceD at h5
  split at h5
  · cases hx with | lst hq hr =>
    cases h5
    cases h7
    refine ⟨_, _, rfl, .of hq, fun pp hp => ?_⟩
    obtain ⟨s4, ok4, ro⟩ := new_lst ok3 hp (cut_rps l.1 h.1 hr)
    exact q _ _ (st.trans s4) ok4 (RoV.up st ro)
  · cases h5; cases h7
  · obtain ⟨hz, e⟩ := ifs h5
    subst e; cases h7
  · cases h5
end
end DL
end

section
set_option Elab.async false
set_option linter.all false
set_option maxRecDepth 100000
set_option autoImplicit false
/-! The data layer 6: built-in functions and methods. -/
namespace DL
open PySem PySem.Spec PyProof.Rows L2

def rC (X : Cx) (g : List PyData → Option PyData) : List V → Hp → VK → Prop := fun vs H Q => ∃ W B ds z, W.H = H ∧ WX X W B ∧ Rbs X.w X.K W.R W.H vs ds ∧ g ds = some z ∧ ∀ W' v, Step W W' → WX X W' B → Rp X.w X.K W'.R v z → Q v W'.H
def rCO (X : Cx) (g : List PyData → Option PyData) : List V → Hp → VK → Prop := fun vs H Q => ∃ W B ds z, W.H = H ∧ WX X W B ∧ Rbs X.w X.K W.R W.H vs ds ∧ g ds = some z ∧ ∀ W' v, Step W W' → WX X W' B → RoV X.w X.K W.H W' v (.d z) → Q v W'.H
theorem CallR.weak {X : Cx} {f : Value} {r r' : List V → Hp → VK → Prop} (h : CallR X f r) (k : ∀ vs H Q, r' vs H Q → r vs H Q) : CallR X f r' := fun pins s σ H xs us Q I rs q => h pins s σ H xs us Q I rs (k _ _ _ q)
theorem rCO_rC {X : Cx} {g : List PyData → Option PyData} {vs : List V} {H : Hp} {Q : VK} (h : rC X g vs H Q) : rCO X g vs H Q := by
  obtain ⟨W, B, ds, z, e1, ok, hx, hg, q⟩ := h
  refine ⟨W, B, ds, z, e1, ok, hx, hg, fun W' v s ok' ro => ?_⟩
  obtain ⟨R', s2, ok2, rp⟩ := RoV.plain s ok' ro
  exact q ⟨R', W'.bs, W'.H⟩ v s2 ok2 rp
def eCall (g : List PyData → Option PyData) (fs : SA) : SE := fun ρ B => (fs ρ B).bind fun p => (derefs p.2 p.1).bind fun ds => (g ds).bind fun z => some (.d z, p.2)
section
variable {X : Cx} {e : Expr} {es : List Expr} {fs : SA} {g : List PyData → Option PyData} {id T : String} {x : Str} {p pos : Pos}
theorem call_pass {σ : L2.St} {H : Hp} {Q : VK} (h : tE X (eCall g fs) σ H Q) : tAB X fs σ H fun vs H1 => rC X g vs H1 Q := by
  obtain ⟨W, E0, ρ, B, r, B', e1, ok, en, e, q⟩ := h
  simp only [eCall, Option.bind_eq_some_iff] at e
  obtain ⟨p, h1, ds, h2, z, h3, h4⟩ := e
  cases h4
  exact ⟨W, E0, ρ, B, p.1, p.2, e1, ok, en, h1, fun W1 vs s1 ok1 r1 => ⟨W1, _, ds, z, rfl, ok1, rbs_of ok1 r1 h2, h3, fun W2 v s2 ok2 rv => q W2 v (s1.trans s2) ok2 rv⟩⟩
theorem callO_pass {σ : L2.St} {H : Hp} {Q : VK} (h : tO X (eCall g fs) σ H Q) : tAB X fs σ H fun vs H1 => rCO X g vs H1 Q := by
  obtain ⟨W, E0, ρ, B, r, B', e1, ok, en, e, q⟩ := h
  subst e1
  simp only [eCall, Option.bind_eq_some_iff] at e
  obtain ⟨p, h1, ds, h2, z, h3, h4⟩ := e
  cases h4
  exact ⟨W, E0, ρ, B, p.1, p.2, rfl, ok, en, h1, fun W1 vs s1 ok1 r1 => ⟨W1, _, ds, z, rfl, ok1, rbs_of ok1 r1 h2, h3, fun W2 v s2 ok2 rv => q W2 v (s1.trans s2) ok2 (RoV.up s1 rv)⟩⟩
theorem d_callB (hc : CallR X (.builtin id) (rC X g)) (hg : Gl X x) (hm : X.mg x = none) (hv : bootBuiltins x = some (.builtin id)) (ha : PA X (e :: es) (tAB X fs)) (hn : x ≠ "__name__" := by decide) (hdb : (x == ("__debug__" : Str)) = false := by decide)
    (he : starEach (e :: es) X.env = (false, eval e X.env) :: starEach es X.env := by rfl) (hpl : (backTo pos (starEach es X.env)).any (·.1) = false := by rfl) : PE X (.Call (.Name x p) (e :: es) [] pos) (tE X (eCall g fs)) :=
  PE.weak (pe_callB hc hg hm hv ha hn hdb he hpl) fun _ _ _ h => call_pass h
theorem dO_callB (hc : CallR X (.builtin id) (rCO X g)) (hg : Gl X x) (hm : X.mg x = none) (hv : bootBuiltins x = some (.builtin id)) (ha : PA X (e :: es) (tAB X fs)) (hn : x ≠ "__name__" := by decide) (hdb : (x == ("__debug__" : Str)) = false := by decide)
    (he : starEach (e :: es) X.env = (false, eval e X.env) :: starEach es X.env := by rfl) (hpl : (backTo pos (starEach es X.env)).any (·.1) = false := by rfl) : PE X (.Call (.Name x p) (e :: es) [] pos) (tO X (eCall g fs)) :=
  PE.weak (pe_callB hc hg hm hv ha hn hdb he hpl) fun _ _ _ h => callO_pass h
theorem d_callT (hc : CallR X (.type T) (rC X g)) (hg : Gl X x) (hm : X.mg x = none) (hv : bootBuiltins x = some (.type T)) (ha : PA X (e :: es) (tAB X fs)) (hn : x ≠ "__name__" := by decide) (hdb : (x == ("__debug__" : Str)) = false := by decide)
    (he : starEach (e :: es) X.env = (false, eval e X.env) :: starEach es X.env := by rfl) (hpl : (backTo pos (starEach es X.env)).any (·.1) = false := by rfl) : PE X (.Call (.Name x p) (e :: es) [] pos) (tE X (eCall g fs)) :=
  PE.weak (pe_callTy hc hg hm hv ha hn hdb he hpl) fun _ _ _ h => call_pass h
theorem dO_callT (hc : CallR X (.type T) (rCO X g)) (hg : Gl X x) (hm : X.mg x = none) (hv : bootBuiltins x = some (.type T)) (ha : PA X (e :: es) (tAB X fs)) (hn : x ≠ "__name__" := by decide) (hdb : (x == ("__debug__" : Str)) = false := by decide)
    (he : starEach (e :: es) X.env = (false, eval e X.env) :: starEach es X.env := by rfl) (hpl : (backTo pos (starEach es X.env)).any (·.1) = false := by rfl) : PE X (.Call (.Name x p) (e :: es) [] pos) (tO X (eCall g fs)) :=
  PE.weak (pe_callTy hc hg hm hv ha hn hdb he hpl) fun _ _ _ h => callO_pass h

/-! ### scalars -/
def absD : List PyData → Option PyData
  | [.int i] => some (.int (if i < 0 then -i else i))
  | _ => none
theorem rbs1 {w : World} {K : PySem.W.Frag} {R H : Hp} {vs : List V} {d : PyData} (h : Rbs w K R H vs [d]) : ∃ v, vs = [v] ∧ Rb w K R H v d := by
  cases h with
  | cons a b => cases b; exact ⟨_, rfl, a⟩
theorem rbs2 {w : World} {K : PySem.W.Frag} {R H : Hp} {vs : List V} {d d' : PyData} (h : Rbs w K R H vs [d, d']) : ∃ v v', vs = [v, v'] ∧ Rb w K R H v d ∧ Rb w K R H v' d' := by
  cases h with
  | cons a b =>
    cases b with
    | cons c r => cases r; exact ⟨_, _, rfl, a, c⟩
theorem cd_abs : CallR X (.builtin "abs") (rC X absD) := CallR.weak call_abs fun vs H Q ⟨W, B, ds, z, e1, ok, hx, hg, q⟩ => by
  subst e1
  unfold absD at hg
  split at hg
  · obtain ⟨v, rfl, h⟩ := rbs1 hx
    cases h
    cases hg
    exact ⟨_, rfl, q W _ .refl ok (.int _)⟩
  · cases hg
def intF : List PyData → Option PyData
  | [.int i] => some (.int i)
  | [.bool k] => some (.int (if k then 1 else 0))
  | _ => none
theorem cd_int : CallR X (.type "int") (rC X intF) := CallR.weak call_int1 fun vs H Q ⟨W, B, ds, z, e1, ok, hx, hg, q⟩ => by
  subst e1
  unfold intF at hg
  split at hg
  · obtain ⟨v, rfl, h⟩ := rbs1 hx
    cases h
    cases hg
    exact .inl ⟨_, rfl, q W _ .refl ok (.int _)⟩
  · obtain ⟨v, rfl, h⟩ := rbs1 hx
    cases h
    cases hg
    exact .inr ⟨_, rfl, q W _ .refl ok (.int _)⟩
  · cases hg
def strF : List PyData → Option PyData
  | [.int i] => if i.natAbs.log2 < 1920 then some (.str (toString i)) else none
  | _ => none
theorem cd_str : CallR X (.type "str") (rC X strF) := CallR.weak call_str_int fun vs H Q ⟨W, B, ds, z, e1, ok, hx, hg, q⟩ => by
  subst e1
  unfold strF at hg
  split at hg
  · obtain ⟨v, rfl, h⟩ := rbs1 hx
    cases h
    obtain ⟨hz, e⟩ := ifs hg
    subst e
    exact ⟨_, rfl, hz, q W _ .refl ok (.str _)⟩
  · cases hg

/-! ### min, max -/
def allAlike (xs : List PyData) : Bool := xs.all fun x => notNone x && xs.all fun y => PySem.W.alike x y
theorem allAlike_of {xs : List PyData} (h : allAlike xs = true) : (∀ x ∈ xs, ∀ y ∈ xs, PySem.W.alike x y = true) ∧ ∀ x ∈ xs, x ≠ .none := by
  unfold allAlike at h
  rw [List.all_eq_true] at h
  refine ⟨fun x hx y hy => ?_, fun x hx e => ?_⟩
  · have q := h x hx
    rw [Bool.and_eq_true, List.all_eq_true] at q
    exact q.2 y hy
  · have q := h x hx
    rw [Bool.and_eq_true] at q
    rw [e] at q
    cases q.1
def minF : List PyData → Option PyData
  | [.list (x :: xs)] => if (allAlike (x :: xs) && decide (PyData.depthAll (x :: xs) ≤ 64)) = true then some (PySem.W.minD x xs) else none
  | [.tuple (x :: xs)] => if (allAlike (x :: xs) && decide (PyData.depthAll (x :: xs) ≤ 64)) = true then some (PySem.W.minD x xs) else none
  | [.int i, .int j] => some (.int (if j < i then j else i))
  | _ => none
def maxF : List PyData → Option PyData
  | [.list (x :: xs)] => if (allAlike (x :: xs) && decide (PyData.depthAll (x :: xs) ≤ 64)) = true then some (PySem.W.maxD x xs) else none
  | [.tuple (x :: xs)] => if (allAlike (x :: xs) && decide (PyData.depthAll (x :: xs) ≤ 64)) = true then some (PySem.W.maxD x xs) else none
  | [.int i, .int j] => some (.int (if j > i then j else i))
  | _ => none
theorem mm_if {c : Bool} {n : Nat} {z y : PyData} (h : (if (c && decide (n ≤ 64)) = true then some y else none) = some z) : c = true ∧ n ≤ 64 ∧ z = y := by
  obtain ⟨a, b⟩ := ifs h
  rw [Bool.and_eq_true, decide_eq_true_eq] at a
  exact ⟨a.1, a.2, b⟩
/-- the item at a place, of which the machine says what it reads as -/
theorem item_is {pins : List (Addr × Obj)} {σ : L2.St} {s : Shared} {R H : Hp} (I : Inv X pins σ H s) (sub : Sub R H) {vs : List V} {ds : List PyData} {its : List Value} {i : Nat} {u : Value} {m : PyData} {bs : List Addr} {h' : Heap}
    (r : Rps X.w X.K R vs ds) (rv : Vals vs its) (hu : its[i]? = some u) (hk : ∀ b o, s.heap.get? b = some o → h'.get? b = some o) (hm : Reads h' u m bs) (al : ∀ d ∈ ds, PySem.W.alike d m = true) : ∃ v, RelV v u ∧ Rp X.w X.K R v m := by
  have hi := (List.getElem?_eq_some_iff.mp hu).1
  have hl := rv.length
  have hvi : vs[i]? = some vs[i] := List.getElem?_eq_getElem (by omega)
  obtain ⟨d, hd, rp⟩ := r.got hvi
  obtain ⟨u', hu', ru⟩ := rv.get hvi
  rw [hu] at hu'
  cases hu'
  obtain ⟨as, ra⟩ := (rp.sub sub).reads I ru
  have e := PySem.W.alike_unique d m u as bs (al d (List.mem_of_getElem? hd)) (PyProof.Rows.Reads.keeps hk ra) hm
  subst e
  exact ⟨_, ru, rp⟩
theorem minD_mem (x : PyData) : ∀ xs : List PyData, PySem.W.minD x xs ∈ x :: xs := by
  intro xs
  unfold PySem.W.minD
  induction xs generalizing x with
  | nil => exact List.mem_cons_self
  | cons y ys ih =>
    rw [List.foldl_cons]
    have := ih (if PySem.W.dataLt y x = true then y else x)
    rcases List.mem_cons.mp this with e | h
    · rw [e]
      split <;> simp
    · exact List.mem_cons_of_mem _ (List.mem_cons_of_mem _ h)
theorem maxD_mem (x : PyData) : ∀ xs : List PyData, PySem.W.maxD x xs ∈ x :: xs := by
  intro xs
  unfold PySem.W.maxD
  induction xs generalizing x with
  | nil => exact List.mem_cons_self
  | cons y ys ih =>
    rw [List.foldl_cons]
    have := ih (if PySem.W.dataLt x y = true then y else x)
    rcases List.mem_cons.mp this with e | h
    · rw [e]
      split <;> simp
    · exact List.mem_cons_of_mem _ (List.mem_cons_of_mem _ h)
theorem cd_min (hc : X.calm = true) (hu : X.A.units + 200 < cLine) : CallR X (.builtin "min") (rC X minF) := by
  intro pins s σ H xs us Q I rs ⟨W, B, ds, z, e1, ok, hx, hg, q⟩
  subst e1
  unfold minF at hg
  split at hg
  · obtain ⟨a, b, e⟩ := mm_if hg
    subst e
    obtain ⟨v, rfl, h⟩ := rbs1 hx
    obtain ⟨al, nn⟩ := allAlike_of a
    cases h with
    | lst hq hr =>
      obtain ⟨u, rfl, ru⟩ := vals1 rs
      cases ru
      obtain ⟨hz, its, n, rv, hl, eo⟩ := Inv.lstR I hq
      obtain ⟨as, ra⟩ := (hr.sub ok.sub).reads I rv
      refine PySem.W.min_list_data (I.ok.hd hc) ⟨_, eo, rfl, _, rfl⟩ (by simpa using ra) ⟨al, nn⟩ (by omega) fun i u h' tk bs hi hm hk => ?_
      obtain ⟨v, r1, r2⟩ := item_is I ok.sub hr rv (by simpa using hi) hk hm fun d hd => al d hd _ (minD_mem _ _)
      exact ⟨v, W.H, I.kept hk, r1, q W v .refl ok r2⟩
  · obtain ⟨a, b, e⟩ := mm_if hg
    subst e
    obtain ⟨v, rfl, h⟩ := rbs1 hx
    obtain ⟨al, nn⟩ := allAlike_of a
    cases h with
    | tup hq hr =>
      obtain ⟨u, rfl, ru⟩ := vals1 rs
      cases ru
      obtain ⟨its, rv, pl, hz⟩ := I.tuple (SqT.sub ok.sub hq)
      obtain ⟨as, ra⟩ := (hr.sub ok.sub).reads I rv
      refine PySem.W.min_tuple_data (I.ok.hd hc) pl (by simpa using ra) ⟨al, nn⟩ (by omega) fun i u h' tk bs hi hm hk => ?_
      obtain ⟨v, r1, r2⟩ := item_is I ok.sub hr rv (by simpa using hi) hk hm fun d hd => al d hd _ (minD_mem _ _)
      exact ⟨v, W.H, I.kept hk, r1, q W v .refl ok r2⟩
  · cases hg
    obtain ⟨v, v', rfl, h1, h2⟩ := rbs2 hx
    cases h1
    cases h2
    exact call_min2 hc pins s σ _ _ _ Q I rs ⟨_, _, rfl, q W _ .refl ok (.int _)⟩
  · cases hg
theorem cd_max (hc : X.calm = true) (hu : X.A.units + 200 < cLine) : CallR X (.builtin "max") (rC X maxF) := by
  intro pins s σ H xs us Q I rs ⟨W, B, ds, z, e1, ok, hx, hg, q⟩
  subst e1
  unfold maxF at hg
  split at hg
  · obtain ⟨a, b, e⟩ := mm_if hg
    subst e
    obtain ⟨v, rfl, h⟩ := rbs1 hx
    obtain ⟨al, nn⟩ := allAlike_of a
    cases h with
    | lst hq hr =>
      obtain ⟨u, rfl, ru⟩ := vals1 rs
      cases ru
      obtain ⟨hz, its, n, rv, hl, eo⟩ := Inv.lstR I hq
      obtain ⟨as, ra⟩ := (hr.sub ok.sub).reads I rv
      refine PySem.W.max_list_data (I.ok.hd hc) ⟨_, eo, rfl, _, rfl⟩ (by simpa using ra) ⟨al, nn⟩ (by omega) fun i u h' tk bs hi hm hk => ?_
      obtain ⟨v, r1, r2⟩ := item_is I ok.sub hr rv (by simpa using hi) hk hm fun d hd => al d hd _ (maxD_mem _ _)
      exact ⟨v, W.H, I.kept hk, r1, q W v .refl ok r2⟩
  · obtain ⟨a, b, e⟩ := mm_if hg
    subst e
    obtain ⟨v, rfl, h⟩ := rbs1 hx
    obtain ⟨al, nn⟩ := allAlike_of a
    cases h with
    | tup hq hr =>
      obtain ⟨u, rfl, ru⟩ := vals1 rs
      cases ru
      obtain ⟨its, rv, pl, hz⟩ := I.tuple (SqT.sub ok.sub hq)
      obtain ⟨as, ra⟩ := (hr.sub ok.sub).reads I rv
      refine PySem.W.max_tuple_data (I.ok.hd hc) pl (by simpa using ra) ⟨al, nn⟩ (by omega) fun i u h' tk bs hi hm hk => ?_
      obtain ⟨v, r1, r2⟩ := item_is I ok.sub hr rv (by simpa using hi) hk hm fun d hd => al d hd _ (maxD_mem _ _)
      exact ⟨v, W.H, I.kept hk, r1, q W v .refl ok r2⟩
  · cases hg
    obtain ⟨v, v', rfl, h1, h2⟩ := rbs2 hx
    cases h1
    cases h2
    exact call_max2 hc pins s σ _ _ _ Q I rs ⟨_, _, rfl, q W _ .refl ok (.int _)⟩
  · cases hg

/-! ### sum, any, all -/
def asInts : List PyData → Option (List Int)
  | [] => some []
  | .int i :: r => (asInts r).map (i :: ·)
  | _ :: _ => none
def asBools : List PyData → Option (List Bool)
  | [] => some []
  | .bool i :: r => (asBools r).map (i :: ·)
  | _ :: _ => none
theorem asInts_map : ∀ {ds : List PyData} {ns : List Int}, asInts ds = some ns → ds = ns.map .int
  | [], _, h => by cases h; rfl
  | .int i :: r, _, h => by
    simp only [asInts, Option.map_eq_some_iff] at h
    obtain ⟨ns, h1, h2⟩ := h
    subst h2
    rw [List.map_cons, asInts_map h1]
  | .none :: _, _, h => nomatch h
  | .bool _ :: _, _, h => nomatch h
  | .str _ :: _, _, h => nomatch h
  | .list _ :: _, _, h => nomatch h
  | .tuple _ :: _, _, h => nomatch h
  | .dict _ :: _, _, h => nomatch h
theorem asBools_map : ∀ {ds : List PyData} {ns : List Bool}, asBools ds = some ns → ds = ns.map .bool
  | [], _, h => by cases h; rfl
  | .bool i :: r, _, h => by
    simp only [asBools, Option.map_eq_some_iff] at h
    obtain ⟨ns, h1, h2⟩ := h
    subst h2
    rw [List.map_cons, asBools_map h1]
  | .none :: _, _, h => nomatch h
  | .int _ :: _, _, h => nomatch h
  | .str _ :: _, _, h => nomatch h
  | .list _ :: _, _, h => nomatch h
  | .tuple _ :: _, _, h => nomatch h
  | .dict _ :: _, _, h => nomatch h
theorem ints_v {w : World} {K : PySem.W.Frag} {R : Hp} : ∀ {ns : List Int} {vs : List V}, Rps w K R vs (ns.map .int) → vs = ns.map V.int
  | [], _, h => by cases h; rfl
  | n :: ns, _, h => by
    cases h with
    | cons a b =>
      cases a
      rw [List.map_cons, ints_v b]
theorem bools_v {w : World} {K : PySem.W.Frag} {R : Hp} : ∀ {ns : List Bool} {vs : List V}, Rps w K R vs (ns.map .bool) → vs = ns.map V.bl
  | [], _, h => by cases h; rfl
  | n :: ns, _, h => by
    cases h with
    | cons a b =>
      cases a
      rw [List.map_cons, bools_v b]
def sumF : List PyData → Option PyData
  | [.list ds] => (asInts ds).map fun ns => .int ns.sum
  | _ => none
theorem cd_sum (hc : X.calm = true) : CallR X (.builtin "sum") (rC X sumF) := CallR.weak (cr_sum hc) fun vs H Q ⟨W, B, ds, z, e1, ok, hx, hg, q⟩ => by
  subst e1
  unfold sumF at hg
  split at hg
  · rw [Option.map_eq_some_iff] at hg
    obtain ⟨ns, h1, h2⟩ := hg
    subst h2
    obtain ⟨v, rfl, h⟩ := rbs1 hx
    have e := asInts_map h1
    subst e
    cases h with
    | lst hq hr =>
      have e := ints_v hr
      subst e
      exact ⟨_, ns, rfl, .of hq, q W _ .refl ok (.int _)⟩
  · cases hg
def allF : List PyData → Option PyData
  | [.list ds] => (asBools ds).map fun ns => .bool (ns.all fun b => b)
  | _ => none
def anyF : List PyData → Option PyData
  | [.list ds] => (asBools ds).map fun ns => .bool (ns.any fun b => b)
  | _ => none
theorem cd_all (hc : X.calm = true) : CallR X (.builtin "all") (rC X allF) := CallR.weak (cr_all hc) fun vs H Q ⟨W, B, ds, z, e1, ok, hx, hg, q⟩ => by
  subst e1
  unfold allF at hg
  split at hg
  · rw [Option.map_eq_some_iff] at hg
    obtain ⟨ns, h1, h2⟩ := hg
    subst h2
    obtain ⟨v, rfl, h⟩ := rbs1 hx
    have e := asBools_map h1
    subst e
    cases h with
    | lst hq hr =>
      have e := bools_v hr
      subst e
      exact ⟨_, ns, rfl, .of hq, q W _ .refl ok (.bl _)⟩
  · cases hg
theorem cd_any (hc : X.calm = true) : CallR X (.builtin "any") (rC X anyF) := CallR.weak (cr_any hc) fun vs H Q ⟨W, B, ds, z, e1, ok, hx, hg, q⟩ => by
  subst e1
  unfold anyF at hg
  split at hg
  · rw [Option.map_eq_some_iff] at hg
    obtain ⟨ns, h1, h2⟩ := hg
    subst h2
    obtain ⟨v, rfl, h⟩ := rbs1 hx
    have e := asBools_map h1
    subst e
    cases h with
    | lst hq hr =>
      have e := bools_v hr
      subst e
      exact ⟨_, ns, rfl, .of hq, q W _ .refl ok (.bl _)⟩
  · cases hg

/-! ### list, tuple of a list or tuple -/
def listF : List PyData → Option PyData
  | [.list ds] => some (.list ds)
  | [.tuple ds] => some (.list ds)
  | _ => none
def tupleF : List PyData → Option PyData
  | [.list ds] => some (.tuple ds)
  | [.tuple ds] => some (.tuple ds)
  | _ => none
theorem cd_list : CallR X (.type "list") (rCO X listF) := CallR.weak call_list_of fun vs H Q ⟨W, B, ds, z, e1, ok, hx, hg, q⟩ => by
  subst e1
  unfold listF at hg
  split at hg
  · cases hg
    obtain ⟨v, rfl, h⟩ := rbs1 hx
    cases h with
    | lst hq hr =>
      refine ⟨_, _, rfl, .inl (.of hq), fun l hl => ?_⟩
      obtain ⟨s, ok', ro⟩ := new_lst ok hl hr
      exact q _ _ s ok' ro
  · cases hg
    obtain ⟨v, rfl, h⟩ := rbs1 hx
    cases h with
    | tup hq hr =>
      refine ⟨_, _, rfl, .inr (SqT.sub ok.sub hq), fun l hl => ?_⟩
      obtain ⟨s, ok', ro⟩ := new_lst ok hl hr
      exact q _ _ s ok' ro
  · cases hg
theorem cd_tuple : CallR X (.type "tuple") (rC X tupleF) := CallR.weak call_tuple_of fun vs H Q ⟨W, B, ds, z, e1, ok, hx, hg, q⟩ => by
  subst e1
  unfold tupleF at hg
  split at hg
  · cases hg
    obtain ⟨v, rfl, h⟩ := rbs1 hx
    cases h with
    | lst hq hr =>
      refine ⟨_, _, rfl, .inl ⟨.of hq, fun l hl => ?_⟩⟩
      obtain ⟨s, ok', rp⟩ := new_tup ok hl hr
      exact q _ _ s ok' rp
  · cases hg
    obtain ⟨v, rfl, h⟩ := rbs1 hx
    cases h with
    | tup hq hr => exact ⟨_, _, rfl, .inr ⟨SqT.sub ok.sub hq, q W _ .refl ok (.tup hq hr)⟩⟩
  · cases hg
end
end DL
end

section
set_option Elab.async false
set_option linter.all false
set_option maxRecDepth 100000
set_option autoImplicit false
/-! The data layer 8: statements. -/
namespace DL
open PySem PySem.Spec PyProof.Rows L2

inductive Out where
  | nx
  | bk
  | ct
  | rt (r : Vl)
abbrev SS := EnvD → Bs → Option (Out × EnvD × Bs)
/-- where one stands in a def's body: E0 the def's entry -/
structure At (X : Cx) (E0 W : Wd) (B : Bs) (σ : L2.St) (ρ : EnvD) : Prop where
  st : Step E0 W
  ok : WX X W B
  en : EX X W E0.H σ ρ
def After (X : Cx) (D : Ends) (o : Out) (W : Wd) (σ : L2.St) : Prop := match o with
  | .nx => D.nx σ W.H
  | .bk => D.bk σ W.H
  | .ct => D.ct σ W.H
  | .rt r => ∀ v, RpV X.w X.K W.R W.bs v r → D.rt v W.H
def tS (X : Cx) (f : SS) : TS := fun D σ H => ∃ E0 W ρ B o ρ' B', W.H = H ∧ At X E0 W B σ ρ ∧ f ρ B = some (o, ρ', B') ∧ ∀ W' σ', Sub W.R W'.R → At X E0 W' B' σ' ρ' → After X D o W' σ'
def sSeq (f g : SS) : SS := fun ρ B => (f ρ B).bind fun p => match p.1 with
  | .nx => g p.2.1 p.2.2
  | o => some (o, p.2.1, p.2.2)
def sNil : SS := fun ρ B => some (.nx, ρ, B)

section
variable {X : Cx} {st : Stmt} {rest : List Stmt} {e : Expr} {f g : SS} {fe : SE} {pos : Pos}
theorem dss_nil : PSs X [] (tS X sNil) := PSs.weak pss_nil fun D σ H ⟨E0, W, ρ, B, o, ρ', B', e1, at_, e, q⟩ => by
  subst e1
  cases e
  exact q W σ Sub.refl at_
theorem dss_one (h : PS X st (tS X f)) : PSs X [st] (tS X f) := pss_one h
theorem dss_cons (h : PS X st (tS X f)) (k : PSs X rest (tS X g)) : PSs X (st :: rest) (tS X (sSeq f g)) := PSs.weak (pss_cons h k) fun D σ H ⟨E0, W, ρ, B, o, ρ', B', e1, at_, e, q⟩ => by
  simp only [sSeq, Option.bind_eq_some_iff] at e
  obtain ⟨⟨o1, ρ1, B1⟩, h1, h2⟩ := e
  refine ⟨E0, W, ρ, B, o1, ρ1, B1, e1, at_, h1, fun W' σ' sr at' => ?_⟩
  cases o1 with
  | nx => exact ⟨E0, W', ρ1, B1, o, ρ', B', rfl, at', h2, fun W2 σ2 sr2 at2 => q W2 σ2 (sr.trans sr2) at2⟩
  | bk => cases h2; exact q W' σ' sr at'
  | ct => cases h2; exact q W' σ' sr at'
  | rt r => cases h2; exact fun v rv => q W' σ' sr at' v rv
def sBreak : SS := fun ρ B => some (.bk, ρ, B)
def sCont : SS := fun ρ B => some (.ct, ρ, B)
theorem ds_pass : PS X (.Pass pos) (tS X sNil) := PS.weak ps_pass fun D σ H ⟨E0, W, ρ, B, o, ρ', B', e1, at_, e, q⟩ => by
  subst e1
  cases e
  exact q W σ Sub.refl at_
theorem ds_break : PS X (.Break pos) (tS X sBreak) := PS.weak ps_break fun D σ H ⟨E0, W, ρ, B, o, ρ', B', e1, at_, e, q⟩ => by
  subst e1
  cases e
  exact q W σ Sub.refl at_
theorem ds_cont : PS X (.Continue pos) (tS X sCont) := PS.weak ps_continue fun D σ H ⟨E0, W, ρ, B, o, ρ', B', e1, at_, e, q⟩ => by
  subst e1
  cases e
  exact q W σ Sub.refl at_
theorem ds_doc {x j pos'} : PS X (.Expr (.Constant (.str x) j pos) pos') (tS X sNil) := PS.weak ps_doc fun D σ H ⟨E0, W, ρ, B, o, ρ', B', e1, at_, e, q⟩ => by
  subst e1
  cases e
  exact q W σ Sub.refl at_
/-- behind an expression -/
theorem At.step {E0 W W' : Wd} {B B' : Bs} {σ : L2.St} {ρ : EnvD} (h : At X E0 W B σ ρ) (s : Step W W') (ok : WX X W' B') : At X E0 W' B' σ ρ := ⟨h.st.trans s, ok, h.en.step s⟩
def sExpr (fe : SE) : SS := fun ρ B => (fe ρ B).bind fun p => some (.nx, ρ, p.2)
theorem ds_expr (he : PE X e (tE X fe)) (hs : swapsWith e none pos.line X.env = pure false := by rfl) : PS X (.Expr e pos) (tS X (sExpr fe)) := PS.weak (ps_expr he hs) fun D σ H ⟨E0, W, ρ, B, o, ρ', B', e1, at_, e, q⟩ => by
  subst e1
  simp only [sExpr, Option.bind_eq_some_iff] at e
  obtain ⟨p, h1, h2⟩ := e
  cases h2
  exact ⟨W, E0.H, ρ, B, p.1, p.2, rfl, at_.ok, at_.en, h1, fun W' v s ok' _ => q W' σ s.R (at_.step s ok')⟩
def sRet (fe : SE) : SS := fun ρ B => (fe ρ B).bind fun p => some (.rt p.1, ρ, p.2)
theorem ds_ret (he : PE X e (tE X fe)) : PS X (.Return (some e) pos) (tS X (sRet fe)) := PS.weak (ps_ret he) fun D σ H ⟨E0, W, ρ, B, o, ρ', B', e1, at_, e, q⟩ => by
  subst e1
  simp only [sRet, Option.bind_eq_some_iff] at e
  obtain ⟨p, h1, h2⟩ := e
  cases h2
  exact ⟨W, E0.H, ρ, B, p.1, p.2, rfl, at_.ok, at_.en, h1, fun W' v s ok' rv => q W' σ s.R (at_.step s ok') v rv⟩
def sRetN : SS := fun ρ B => some (.rt (.d .none), ρ, B)
theorem ds_retN : PS X (.Return none pos) (tS X sRetN) := PS.weak ps_retN fun D σ H ⟨E0, W, ρ, B, o, ρ', B', e1, at_, e, q⟩ => by
  subst e1
  cases e
  exact q W σ Sub.refl at_ _ .non
def sIf (t : SB) (f g : SS) : SS := fun ρ B => (t ρ B).bind fun p => if p.1 = true then f ρ p.2 else g ρ p.2
theorem ds_if {c : Expr} {a b : List Stmt} {ft : SB} (hc : PT X c (tT X ft)) (ha : PSs X a (tS X f)) (hb : PSs X b (tS X g)) : PS X (.If c a b pos) (tS X (sIf ft f g)) := PS.weak (ps_if hc ha hb) fun D σ H ⟨E0, W, ρ, B, o, ρ', B', e1, at_, e, q⟩ => by
  subst e1
  simp only [sIf, Option.bind_eq_some_iff] at e
  obtain ⟨p, h1, h2⟩ := e
  refine ⟨W, E0.H, ρ, B, p.1, p.2, rfl, at_.ok, at_.en, h1, fun W' s ok' => ?_⟩
  by_cases hp : p.1 = true
  · rw [if_pos hp] at h2 ⊢
    exact ⟨E0, W', ρ, p.2, o, ρ', B', rfl, at_.step s ok', h2, fun W2 σ2 sr2 at2 => q W2 σ2 (s.R.trans sr2) at2⟩
  · rw [if_neg hp] at h2 ⊢
    exact ⟨E0, W', ρ, p.2, o, ρ', B', rfl, at_.step s ok', h2, fun W2 σ2 sr2 at2 => q W2 σ2 (s.R.trans sr2) at2⟩

/-! ### names -/
theorem get_set {α : Type} {l : List α} {i j : Nat} {x y : α} (h : (l.set i x)[j]? = some y) : (j = i ∧ y = x) ∨ (j ≠ i ∧ l[j]? = some y) := by
  by_cases e : j = i
  · subst e
    have hl : j < l.length := by
      have := (List.getElem?_eq_some_iff.mp h).1
      rwa [List.length_set] at this
    rw [List.getElem?_set_self hl] at h
    exact .inl ⟨rfl, (Option.some.inj h).symm⟩
  · rw [List.getElem?_set_ne (Ne.symm e)] at h
    exact .inr ⟨e, h⟩
/-- a slot gets something -/
theorem EOk.set {w : World} {K : PySem.W.Frag} {W : Wd} {E0 : Hp} {σ : L2.St} {ρ : EnvD} {i : Nat} {v : V} {s : Sl} (h : EOk w K W E0 σ ρ) (hi : i < ρ.length) (hs : SlOk w K W E0 (some (some v)) s)
    (hn : ∀ d, s = .ow d → ∀ j e, j ≠ i → ρ[j]? = some (.ow e) → σ[j]? ≠ some (some v)) : EOk w K W E0 (σ.set i (some v)) (ρ.set i s) := by
  have hσ : i < σ.length := by rw [h.len]; exact hi
  refine ⟨by rw [List.length_set, List.length_set]; exact h.len, fun j x e => ?_, fun j k d e a h1 h2 h3 h4 => ?_⟩
  · rcases get_set e with ⟨e1, e2⟩ | ⟨e1, e2⟩
    · subst e1 e2
      rw [List.getElem?_set_self hσ]
      exact hs
    · rw [List.getElem?_set_ne (Ne.symm e1)]
      exact h.at_ j x e2
  · rcases get_set h1 with ⟨q1, q2⟩ | ⟨q1, q2⟩
    · subst q1
      rcases get_set h2 with ⟨p1, p2⟩ | ⟨p1, p2⟩
      · exact p1.symm
      · rw [List.getElem?_set_self hσ] at h3
        rw [List.getElem?_set_ne (Ne.symm p1)] at h4
        cases h3
        exact absurd h4 (hn d q2.symm k e p1 p2)
    · rcases get_set h2 with ⟨p1, p2⟩ | ⟨p1, p2⟩
      · subst p1
        rw [List.getElem?_set_self hσ] at h4
        rw [List.getElem?_set_ne (Ne.symm q1)] at h3
        cases h4
        exact absurd h3 (hn e p2.symm j d q1 q2)
      · rw [List.getElem?_set_ne (Ne.symm q1)] at h3
        rw [List.getElem?_set_ne (Ne.symm p1)] at h4
        exact h.sep j k d e a q2 p2 h3 h4
def sSet (i : Nat) (fe : SE) : SS := fun ρ B => (fe ρ B).bind fun p => if i < ρ.length then some (.nx, ρ.set i (.sh p.1), p.2) else none
def sSetO (i : Nat) (fe : SE) : SS := fun ρ B => (fe ρ B).bind fun p => if i < ρ.length then (match p.1 with
  | .d d => some (.nx, ρ.set i (.ow d), p.2)
  | _ => none) else none
variable {i : Nat} {x : Str} {pos' : Pos}
theorem ds_set (hN : X.N.Nodup) (hi : X.N[i]? = some x) (hx : Loc X.env.scope x) (he : PE X e (tE X fe)) (hs : swapsWith e (some (.Name x pos')) pos.line X.env = pure false := by rfl) (hf : X.fn x = true ∨ X.env.scope.names.lookup x = some .local := by first | exact .inl rfl | exact .inr rfl | assumption) :
    PS X (.Assign [.Name x pos'] e pos) (tS X (sSet i fe)) := PS.weak (ps_set hN hi hx he hs hf) fun D σ H ⟨E0, W, ρ, B, o, ρ', B', e1, at_, e, q⟩ => by
  subst e1
  simp only [sSet, Option.bind_eq_some_iff] at e
  obtain ⟨p, h1, h2⟩ := e
  obtain ⟨hl, h2⟩ := ifs h2
  cases h2
  refine ⟨W, E0.H, ρ, B, p.1, p.2, rfl, at_.ok, at_.en, h1, fun W' v s ok' rv => ?_⟩
  exact q W' _ s.R ⟨at_.st.trans s, ok', (at_.en.step s).set hl (.sh rv) fun d e => nomatch e⟩
/-- the address of a fresh thing is no owned one's -/
theorem fresh_own {W : Wd} {E0 : Hp} {σ : L2.St} {ρ : EnvD} {a : Addr} {j : Nat} {d : PyData} (en : EX X W E0 σ ρ) (h0 : W.H a = none) (hj : ρ[j]? = some (.ow d)) : σ[j]? ≠ some (some (.ref a)) := fun e => by
  have q := en.at_ j _ hj
  rw [e] at q
  cases q with
  | ow rt _ _ _ => exact rt.inj_none h0
theorem untracked {E0 W : Wd} {a : Addr} (s : Step E0 W) (h : W.H a = none) : E0.H a = none := by
  cases e : E0.H a with
  | none => rfl
  | some o =>
    obtain ⟨o', q⟩ := s.trk a o e
    rw [h] at q; cases q
theorem ds_setO (hN : X.N.Nodup) (hi : X.N[i]? = some x) (hx : Loc X.env.scope x) (he : PE X e (tO X fe)) (hs : swapsWith e (some (.Name x pos')) pos.line X.env = pure false := by rfl) (hf : X.fn x = true ∨ X.env.scope.names.lookup x = some .local := by first | exact .inl rfl | exact .inr rfl | assumption) :
    PS X (.Assign [.Name x pos'] e pos) (tS X (sSetO i fe)) := PS.weak (ps_set hN hi hx he hs hf) fun D σ H ⟨E0, W, ρ, B, o, ρ', B', e1, at_, e, q⟩ => by
  subst e1
  simp only [sSetO, Option.bind_eq_some_iff] at e
  obtain ⟨⟨r, B1⟩, h1, h2⟩ := e
  by_cases hl : i < ρ.length
  · rw [if_pos hl] at h2
    cases r with
    | d d =>
      cases h2
      refine ⟨W, E0.H, ρ, B, .d d, B1, rfl, at_.ok, at_.en, h1, fun W' v s ok' ⟨a, ev, nb, nr, h0, rt⟩ => ?_⟩
      subst ev
      exact q W' _ s.R ⟨at_.st.trans s, ok', (at_.en.step s).set hl (.ow rt nr nb (untracked at_.st h0)) fun d' _ j e' _ hj => fresh_own at_.en h0 hj⟩
    | bx n => cases h2
    | fz n => cases h2
  · rw [if_neg hl] at h2
    cases h2

/-! ### an owned thing becomes plain data -/
def sFrz (i : Nat) : SS := fun ρ B => match ρ[i]? with
  | some (.ow d) => some (.nx, ρ.set i (.sh (.d d)), B)
  | _ => none
theorem At.freeze {E0 W : Wd} {B : Bs} {σ : L2.St} {ρ : EnvD} {d : PyData} (h : At X E0 W B σ ρ) (hi : ρ[i]? = some (.ow d)) : ∃ R', Sub W.R R' ∧ At X E0 ⟨R', W.bs, W.H⟩ B σ (ρ.set i (.sh (.d d))) := by
  have q := h.en.at_ i _ hi
  have hl := (List.getElem?_eq_some_iff.mp hi).1
  generalize hσ : σ[i]? = y at q
  cases q with
  | @ow a _ rt nr nb e0 =>
    obtain ⟨o, ho⟩ := rt.there
    have sR : Sub W.R (upd W.R a o) := Sub.upd nr
    refine ⟨upd W.R a o, sR, h.st.freeze nr e0, h.ok.freeze nb nr ho, ?_⟩
    have len := h.en.len
    refine ⟨by rw [List.length_set]; exact len, fun j x e => ?_, fun j k d1 d2 b h1 h2 h3 h4 => ?_⟩
    · rcases get_set e with ⟨e1, e2⟩ | ⟨e1, e2⟩
      · subst e1 e2
        rw [hσ]
        exact .sh (rt.rp sR fun u e => by rw [ho] at e; cases e; exact upd_same)
      · have q := h.en.at_ j x e2
        generalize hτ : σ[j]? = y at q ⊢
        cases q with
        | un => exact .un
        | @sh v x r =>
          refine .sh ?_
          cases x with
          | d z => exact (show Rp X.w X.K W.R v z from r).sub sR
          | bx n => exact r
          | fz n =>
            obtain ⟨l, vs, e3, e4, e5⟩ := r
            exact ⟨l, vs, e3, SqL.sub sR e4, e5.sub sR⟩
        | @ow b d2 rt2 nr2 nb2 e02 =>
          have hba : b ≠ a := fun z => by
            subst z
            exact e1 (h.en.sep j i _ _ b e2 hi hτ hσ)
          exact .ow (rt2.mono sR fun _ e => e) (by show upd W.R a o b = none; rw [upd_ne hba]; exact nr2) nb2 e02
    · rcases get_set h1 with ⟨_, e⟩ | ⟨_, e⟩
      · cases e
      · rcases get_set h2 with ⟨_, e'⟩ | ⟨_, e'⟩
        · cases e'
        · exact h.en.sep j k d1 d2 b e e' h3 h4
theorem dss_frz (i : Nat) {sts : List Stmt} (h : PSs X sts (tS X f)) : PSs X sts (tS X (sSeq (sFrz i) f)) := PSs.weak h fun D σ H ⟨E0, W, ρ, B, o, ρ', B', e1, at_, e, q⟩ => by
  subst e1
  simp only [sSeq, Option.bind_eq_some_iff] at e
  obtain ⟨⟨o1, ρ1, B1⟩, h1, h2⟩ := e
  unfold sFrz at h1
  split at h1
  · rename_i d hd
    cases h1
    obtain ⟨R', sr, at'⟩ := at_.freeze hd
    exact ⟨E0, ⟨R', W.bs, W.H⟩, _, _, o, ρ', B', rfl, at', h2, fun W2 σ2 sr2 at2 => q W2 σ2 (sr.trans sr2) at2⟩
  · cases h1

/-! ### an owned thing is changed -/
theorem At.write {E0 W : Wd} {B : Bs} {σ : L2.St} {ρ : EnvD} {d d' : PyData} {a : Addr} {o : HO} (h : At X E0 W B σ ρ) (hi : ρ[i]? = some (.ow d)) (hσ : σ[i]? = some (some (.ref a))) (hn : Rt X.w X.K W.R (upd W.H a o) a d') :
    At X E0 ⟨W.R, W.bs, upd W.H a o⟩ B σ (ρ.set i (.ow d')) := by
  have q := h.en.at_ i _ hi
  have hl := (List.getElem?_eq_some_iff.mp hi).1
  rw [hσ] at q
  cases q with
  | ow rt nr nb e0 =>
    have kp : ∀ b u, b ≠ a → W.H b = some u → upd W.H a o b = some u := fun b u hb e => by rw [upd_ne hb]; exact e
    have hR : ∀ b u, W.R b = some u → b ≠ a := fun b u e z => by subst z; rw [nr] at e; cases e
    refine ⟨⟨h.st.R, fun b u e => h.st.new b u e, fun b u e hb => ?_, fun b u e => ?_, h.st.bs⟩, ⟨fun b u e => kp b u (hR b u e) (h.ok.sub b u e), h.ok.len, h.ok.nd, fun b hb => ?_, fun n b x e1 e2 => ?_⟩, ⟨by rw [List.length_set]; exact h.en.len, fun j x e => ?_, fun j k d1 d2 b h1 h2 h3 h4 => ?_⟩⟩
    · refine kp b u (fun z => ?_) (h.st.keep b u e hb)
      subst z
      rw [e0] at e; cases e
    · obtain ⟨u', e'⟩ := h.st.trk b u e
      by_cases z : b = a
      · subst z; exact ⟨o, upd_same⟩
      · exact ⟨u', kp b u' z e'⟩
    · obtain ⟨u, e⟩ := h.ok.btr b hb
      exact ⟨u, kp b u (fun z => nb (z ▸ hb)) e⟩
    · have hb : b ≠ a := fun z => nb (z ▸ List.mem_of_getElem? e1)
      cases h.ok.box n b x e1 e2 with
      | dead => exact .dead
      | val r z => exact .val (r.mono Sub.refl fun u e => kp b u hb e) z
      | ins m e' r z => exact .ins m (kp b _ hb e') r z
    · rcases get_set e with ⟨e1, e2⟩ | ⟨e1, e2⟩
      · subst e1 e2
        rw [hσ]
        exact .ow hn nr nb e0
      · have q := h.en.at_ j x e2
        generalize hτ : σ[j]? = y at q ⊢
        cases q with
        | un => exact .un
        | sh r => exact .sh r
        | @ow b d2 rt2 nr2 nb2 e02 =>
          have hba : b ≠ a := fun z => by
            subst z
            exact e1 (h.en.sep j i _ _ b e2 hi hτ hσ)
          exact .ow (rt2.mono Sub.refl fun u e => kp b u hba e) nr2 nb2 e02
    · rcases get_set h1 with ⟨q1, q2⟩ | ⟨q1, q2⟩
      · subst q1
        rcases get_set h2 with ⟨p1, p2⟩ | ⟨p1, p2⟩
        · exact p1.symm
        · exact h.en.sep j k d d2 b hi p2 h3 h4
      · rcases get_set h2 with ⟨p1, p2⟩ | ⟨p1, p2⟩
        · subst p1
          exact h.en.sep j k d1 d b q2 hi h3 h4
        · exact h.en.sep j k d1 d2 b q2 p2 h3 h4
/-- x.append(e) -/
def sApp (i : Nat) (fe : SE) : SS := fun ρ B => (fe ρ B).bind fun p => match ρ[i]?, p.1 with
  | some (.ow (.list ds)), .d x => if ds.length < LIM then some (.nx, ρ.set i (.ow (.list (ds ++ [x]))), p.2) else none
  | _, _ => none
theorem ds_app {p1 p2 p3 p4 : Pos} (hN : X.N[i]? = some x) (hv : Vis X.env.scope x) (he : PE X e (tE X fe)) (hbase : attributeBase (.Name x p1) "append" X.env (eval (.Name x p1) X.env) = eval (.Name x p1) X.env := by rfl)
    (hfew : ((backTo p3 (starEach [e] X.env)).all (fun x => !x.1) && (backToKw p3 (keywordEach [] X.env)).all (fun x => x.1.isSome) && decide ([e].length + ([] : List Keyword).length + (if ([] : List Keyword).isEmpty then 0 else 1) < 30)) = true := by rfl)
    (hline : (p2.endLine == p3.line) = true := by rfl) (hst : starEach [e] X.env = (false, eval e X.env) :: starEach [] X.env := by rfl) (hplain : (backTo p3 (starEach [] X.env)).any (·.1) = false := by rfl)
    (hs : swapsWith (.Call (.Attribute (.Name x p1) "append" p2) [e] [] p3) none p4.line X.env = pure false := by rfl) (hd : (x == ("__debug__" : Str)) = false := by decide) (hcd : (x == ("__classdict__" : Str)) = false := by decide) :
    PS X (.Expr (.Call (.Attribute (.Name x p1) "append" p2) [e] [] p3) p4) (tS X (sApp i fe)) :=
  PS.weak (ps_expr (pe_bm PySem.F.plainAttrs_list PySem.F.slot_list_append PySem.F.type_list_append mt_append (pe_var hN hv hd hcd) (pa_cons he pa_nil hst) hbase hfew hline hst hplain) hs) fun D σ H ⟨E0, W, ρ, B, o, ρ', B', e1, at_, e, q⟩ => by
  subst e1
  simp only [sApp, Option.bind_eq_some_iff] at e
  obtain ⟨⟨r, B1⟩, h1, h2⟩ := e
  split at h2
  · rename_i ds z hρ er
    obtain ⟨hz, h2⟩ := ifs h2
    cases h2
    simp only at er
    subst er
    have hq := at_.en.at_ i _ hρ
    generalize hσ : σ[i]? = y at hq
    cases hq with
    | @ow a _ rt nr nb e0 =>
      cases rt with
      | @lst vs _ hH hr =>
        refine ⟨.ref a, hσ, .inl ⟨rfl, vs, .of hH⟩, W, E0.H, ρ, B, .d z, B1, rfl, at_.ok, at_.en, h1, fun W' v s ok' rv => ?_⟩
        have hH' := s.keep a _ hH nb
        have at' := at_.step s ok'
        refine ⟨a, vs, v, rfl, rfl, hH', by rw [hr.length, lim_eq]; exact hz, ?_⟩
        exact q ⟨W'.R, W'.bs, _⟩ _ s.R (at'.write hρ hσ (.lst upd_same ((hr.sub s.R).append (.one rv))))
  · cases h2
end
end DL
end

section
set_option Elab.async false
set_option linter.all false
set_option maxRecDepth 100000
set_option autoImplicit false
/-! The data layer 9: targets, iterables, for, while, comprehensions. -/
namespace DL
open PySem PySem.Spec PyProof.Rows L2

/-! ### targets -/
abbrev SG := PyData → EnvD → Option EnvD
abbrev SGs := List PyData → EnvD → Option EnvD
theorem ifs2 {α : Type} {c : Prop} [Decidable c] {a : Option α} {b : α} (h : (if c then a else none) = some b) : c ∧ a = some b := by
  split at h
  · exact ⟨‹_›, h⟩
  · cases h
/-- the slots of vs may change -/
def tG (X : Cx) (f : SG) (ks : List Nat) : TG := fun v σ H Q => ∃ W E0 ρ B d ρ', W.H = H ∧ WX X W B ∧ EX X W E0 σ ρ ∧ Rp X.w X.K W.R v d ∧ f d ρ = some ρ' ∧ ∀ σ', EX X W E0 σ' ρ' → (∀ vs : List Nat, (∀ i ∈ ks, i ∈ vs) → wipe σ' vs = wipe σ vs) → Q σ' H
def tGs (X : Cx) (f : SGs) (ks : List Nat) : TGs := fun v σ H Q => ∃ W E0 ρ B d ρ', W.H = H ∧ WX X W B ∧ EX X W E0 σ ρ ∧ Rps X.w X.K W.R v d ∧ f d ρ = some ρ' ∧ ∀ σ', EX X W E0 σ' ρ' → (∀ vs : List Nat, (∀ i ∈ ks, i ∈ vs) → wipe σ' vs = wipe σ vs) → Q σ' H
theorem PG.weak {X : Cx} {e : Expr} {t t' : TG} (h : PG X e t) (k : ∀ v σ H Q, t' v σ H Q → t v σ H Q) : PG X e t' := ⟨fun pins s σ H v u Q I r q => h.run pins s σ H v u Q I r (k _ _ _ _ q)⟩
theorem PGs.weak {X : Cx} {e : List Expr} {t t' : TGs} (h : PGs X e t) (k : ∀ v σ H Q, t' v σ H Q → t v σ H Q) : PGs X e t' := ⟨fun pins s σ H v u Q I r q => h.run pins s σ H v u Q I r (k _ _ _ _ q)⟩
theorem wipe_set (σ : L2.St) (i : Nat) (x : Option V) : ∀ vs : List Nat, i ∈ vs → wipe (σ.set i x) vs = wipe σ vs
  | [], h => nomatch h
  | v :: vs, h => by
    have out : ∀ vs : List Nat, wipe (σ.set i x) vs = wipe σ vs ∨ wipe (σ.set i x) vs = (wipe σ vs).set i x := by
      intro vs
      induction vs with
      | nil => exact .inr rfl
      | cons u us ih =>
        unfold wipe
        rcases ih with e | e
        · exact .inl (by rw [e])
        · rw [e]
          by_cases z : i = u
          · subst z
            exact .inl (by rw [List.set_set])
          · exact .inr (by rw [List.set_comm _ _ z])
    unfold wipe
    rcases List.mem_cons.mp h with z | z
    · subst z
      rcases out vs with e | e
      · rw [e]
      · rw [e, List.set_set]
    · rw [wipe_set σ i x vs z]
theorem wipe_wipe (σ : L2.St) (vs : List Nat) : ∀ us : List Nat, (∀ i ∈ us, i ∈ vs) → wipe (wipe σ us) vs = wipe σ vs
  | [], _ => rfl
  | u :: us, h => by
    show wipe ((wipe σ us).set u none) vs = _
    rw [wipe_set _ _ _ _ (h u (by simp)), wipe_wipe σ vs us fun i hi => h i (by simp [hi])]
def gN (i : Nat) : SG := fun d ρ => if i < ρ.length then some (ρ.set i (.sh (.d d))) else none
def gT (g : SGs) : SG := fun d ρ => match d with
  | .tuple ds => g ds ρ
  | _ => none
def gsNil : SGs := fun ds ρ => match ds with
  | [] => some ρ
  | _ => none
def gsCons (g : SG) (gs : SGs) : SGs := fun ds ρ => match ds with
  | d :: ds => (g d ρ).bind fun ρ1 => gs ds ρ1
  | [] => none
section
variable {X : Cx} {pos : Pos} {i : Nat} {x : Str} {e : Expr} {es : List Expr} {g : SG} {gs : SGs} {ks ks' : List Nat}
theorem dg_name (hN : X.N.Nodup) (hi : X.N[i]? = some x) (hx : Loc X.env.scope x) (hf : X.fn x = true ∨ X.env.scope.names.lookup x = some .local := by first | exact .inl rfl | exact .inr rfl | assumption) : PG X (.Name x pos) (tG X (gN i) [i]) :=
  PG.weak (pg_name hN hi hx hf) fun v σ H Q ⟨W, E0, ρ, B, d, ρ', e1, ok, en, r, e, q⟩ => by
    subst e1
    unfold gN at e
    obtain ⟨hl, e⟩ := ifs e
    subst e
    exact q _ (en.set hl (.sh r) fun d e => nomatch e) fun vs h => wipe_set _ _ _ _ (h i (by simp))
theorem dgs_nil : PGs X [] (tGs X gsNil []) := PGs.weak pgs_nil fun v σ H Q ⟨W, E0, ρ, B, d, ρ', e1, ok, en, r, e, q⟩ => by
  subst e1
  cases r with
  | nil =>
    cases e
    exact ⟨rfl, q _ en fun _ _ => rfl⟩
  | cons _ _ => cases e
theorem dgs_cons (h1 : PG X e (tG X g ks)) (h2 : PGs X es (tGs X gs ks')) (hs : (assignEach (e :: es) X.env).map (·.2) = assign e X.env :: (assignEach es X.env).map (·.2) := by rfl) : PGs X (e :: es) (tGs X (gsCons g gs) (ks ++ ks')) :=
  PGs.weak (pgs_cons h1 h2 hs) fun v σ H Q ⟨W, E0, ρ, B, d, ρ', e1, ok, en, r, e, q⟩ => by
    subst e1
    cases r with
    | nil => cases e
    | cons a b =>
      simp only [gsCons, Option.bind_eq_some_iff] at e
      obtain ⟨ρ1, h1, h2⟩ := e
      exact ⟨_, _, rfl, W, E0, ρ, B, _, ρ1, rfl, ok, en, a, h1, fun σ1 en1 w1 => ⟨W, E0, ρ1, B, _, ρ', rfl, ok, en1, b, h2, fun σ2 en2 w2 =>
        q σ2 en2 fun vs hv => (w2 vs fun i hi => hv i (List.mem_append_right _ hi)).trans (w1 vs fun i hi => hv i (List.mem_append_left _ hi))⟩⟩
/-- n: how many -/
def gTn (n : Nat) (g : SGs) : SG := fun d ρ => match d with
  | .tuple ds => if ds.length = n then g ds ρ else none
  | _ => none
theorem dg_tup {k n : Nat} (hc : X.calm = true) (h : PGs X es (tGs X gs ks)) (hn : (assignEach es X.env).length = n := by rfl) (hst : (assignEach es X.env).findIdx? (·.1) = none := by rfl) : PG X (.Tuple es k pos) (tG X (gTn n gs) ks) :=
  PG.weak (pg_tup hc h hn hst) fun v σ H Q ⟨W, E0, ρ, B, d, ρ', e1, ok, en, r, e, q⟩ => by
    subst e1
    unfold gTn at e
    split at e
    · obtain ⟨hl, e⟩ := ifs2 e
      cases r with
      | tup hq hr => exact ⟨_, _, rfl, SqT.sub ok.sub hq, by rw [hr.length]; exact hl, W, E0, ρ, B, _, ρ', rfl, ok, en, hr, e, q⟩
    · cases e
end

/-! ### iterables -/
def JOk (X : Cx) (R : Hp) (J : It) (ds : List PyData) : Prop := ∀ W B, Sub R W.R → WX X W B →
  (∀ i d, ds[i]? = some d → J.go i W.H ∧ ∀ x H', J.yld i W.H x H' → ∃ W3, W3.H = H' ∧ Step W W3 ∧ WX X W3 B ∧ Rp X.w X.K W3.R x d) ∧ J.stop ds.length W.H
abbrev SI := EnvD → Bs → Option (List PyData × Bs)
def tI (X : Cx) (f : SI) : TI := fun σ H R => ∃ W E0 ρ B ds B', W.H = H ∧ WX X W B ∧ EX X W E0 σ ρ ∧ f ρ B = some (ds, B') ∧ ∀ W' J, Step W W' → WX X W' B' → JOk X W'.R J ds → R J W'.H
theorem PI.weak {X : Cx} {tg e : Expr} {t t' : TI} (h : PI X tg e t) (k : ∀ σ H R, t' σ H R → t σ H R) : PI X tg e t' := ⟨fun pins s σ H R I q => h.run pins s σ H R I (k _ _ _ q)⟩
theorem pi_by {X : Cx} {tg e : Expr} {te : TE} {tv : V → Hp → (It → Hp → Prop) → Prop} (he : PE X e te)
    (hv : ∀ (pins : List (Addr × Obj)) (s : Shared) (σ : L2.St) (H : Hp) (R : It → Hp → Prop) (x : V) (u : Value), Inv X pins σ H s → RelV x u → tv x H R → wpAny (model X.prog X.w) X.A (pyIter u) (PIE X pins σ tg R) X.xe s) :
    PI X tg e (fun σ H R => te σ H fun x H1 => tv x H1 R) := ⟨fun pins s σ H R I h => thn (he.run pins s σ H _ I h) fun v s1 ⟨x, H1, I1, r1, q1⟩ => hv pins s1 σ H1 R x v I1 r1 q1⟩
section
variable {X : Cx} {R : Hp}
theorem jok_list {a : Addr} {vs : List V} {ds : List PyData} (h : SqL X.K R a vs) (r : Rps X.w X.K R vs ds) : JOk X R (Itl X.K a) ds := fun W B s ok => by
  have hq : SqL X.K W.H a vs := SqL.sub ok.sub (SqL.sub s h)
  refine ⟨fun i d hd => ?_, ⟨vs, hq, by rw [r.length]; exact Nat.le_refl _⟩⟩
  obtain ⟨v, hv, rv⟩ := r.get hd
  refine ⟨⟨vs, v, hq, hv⟩, fun x H' ⟨e, y⟩ => ⟨W, e.symm, .refl, ok, ?_⟩⟩
  have := y vs hq
  rw [hv] at this
  cases this
  exact rv.sub s
theorem jok_tup {a : Addr} {vs : List V} {ds : List PyData} (h : SqT X.K R a vs) (r : Rps X.w X.K R vs ds) : JOk X R (Itt X.K a) ds := fun W B s ok => by
  have hq : SqT X.K W.H a vs := SqT.sub ok.sub (SqT.sub s h)
  refine ⟨fun i d hd => ?_, ⟨vs, hq, by rw [r.length]; exact Nat.le_refl _⟩⟩
  obtain ⟨v, hv, rv⟩ := r.get hd
  refine ⟨⟨vs, v, hq, hv⟩, fun x H' ⟨e, y⟩ => ⟨W, e.symm, .refl, ok, ?_⟩⟩
  have := y vs hq
  rw [hv] at this
  cases this
  exact rv.sub s
def rngD (lo : Int) (n : Nat) : List PyData := (List.range n).map fun k : Nat => PyData.int (lo + k)
theorem rngD_length (lo : Int) (n : Nat) : (rngD lo n).length = n := by unfold rngD; rw [List.length_map, List.length_range]
theorem rngD_get {lo : Int} {n i : Nat} {d : PyData} (h : (rngD lo n)[i]? = some d) : i < n ∧ d = .int (lo + i) := by
  have hi := (List.getElem?_eq_some_iff.mp h).1
  rw [rngD_length] at hi
  unfold rngD at h
  rw [List.getElem?_map, List.getElem?_range hi] at h
  exact ⟨hi, (Option.some.inj h).symm⟩
theorem jok_rng {lo : Int} {n : Nat} : JOk X R (Itr lo n) (rngD lo n) := fun W B s ok => by
  refine ⟨fun i d hd => ?_, by rw [rngD_length]; exact Nat.le_refl _⟩
  obtain ⟨hi, e⟩ := rngD_get hd
  subst e
  exact ⟨hi, fun x H' ⟨e, y⟩ => ⟨W, e.symm, .refl, ok, by rw [y]; exact .int _⟩⟩
def rngC (lo c : Int) (n : Nat) : List PyData := (List.range n).map fun k : Nat => PyData.int (lo + k * c)
theorem rngC_length (lo c : Int) (n : Nat) : (rngC lo c n).length = n := by unfold rngC; rw [List.length_map, List.length_range]
theorem jok_rngC {lo c : Int} {n : Nat} : JOk X R (Itc lo c n) (rngC lo c n) := fun W B s ok => by
  refine ⟨fun i d hd => ?_, by rw [rngC_length]; exact Nat.le_refl _⟩
  have hi := (List.getElem?_eq_some_iff.mp hd).1
  rw [rngC_length] at hi
  unfold rngC at hd
  rw [List.getElem?_map, List.getElem?_range hi] at hd
  cases hd
  exact ⟨hi, fun x H' ⟨e, y⟩ => ⟨W, e.symm, .refl, ok, by rw [y]; exact .int _⟩⟩
def signs (x : Str) : List PyData := x.cps.toList.map fun c => .str ⟨#[c]⟩
theorem jok_str {x : Str} : JOk X R (Its x) (signs x) := fun W B s ok => by
  refine ⟨fun i d hd => ?_, by unfold signs; rw [List.length_map, Array.length_toList]; exact Nat.le_refl _⟩
  unfold signs at hd
  rw [List.getElem?_map, Option.map_eq_some_iff] at hd
  obtain ⟨c, hc, e⟩ := hd
  subst e
  rw [Array.getElem?_toList] at hc
  refine ⟨(Array.getElem?_eq_some_iff.mp hc).1, fun y H' ⟨e, c', h1, h2⟩ => ⟨W, e.symm, .refl, ok, ?_⟩⟩
  rw [hc] at h1
  cases h1
  rw [h2]
  exact .str _
end

/-! ### a dict's keys -/
def Itx (w : World) (a : Addr) (ep : Nat) (xs : List Ent) : It :=
  ⟨fun i H => H a = some (dX w a ep xs) ∧ ∃ en x, xs[i]? = some en ∧ RelV x en.2.1, fun i H x H' => H' = H ∧ ∃ en, xs[i]? = some en ∧ RelV x en.2.1, fun i H => H a = some (dX w a ep xs) ∧ xs.length ≤ i⟩
theorem relV_inj {v v' : V} {u : Value} (h : RelV v u) (h' : RelV v' u) : v = v' := by
  cases v <;> cases v' <;> simp only [L2.RelV] at h h' <;> first
    | rfl
    | (subst h; injection h' with e; rw [e])
    | (subst h; cases h'; done)
    | (obtain ⟨t, e⟩ := h; subst e; obtain ⟨t', e'⟩ := h'; injection e' with e1; rw [e1])
    | (obtain ⟨t, e⟩ := h; subst e; obtain ⟨t', e'⟩ := h'; cases e')
    | (obtain ⟨t, e⟩ := h; subst e; cases h'; done)
    | (obtain ⟨t, e⟩ := h'; rw [e] at h; cases h)
theorem rpe_get {w : World} {K : PySem.W.Frag} {R : Hp} : ∀ {xs : List Ent} {kvs : List (PyData × PyData)} {i : Nat} {kv : PyData × PyData}, Rpe w K R xs kvs → kvs[i]? = some kv →
    ∃ en kx vx, xs[i]? = some en ∧ RelV kx en.2.1 ∧ Rp w K R kx kv.1 ∧ RelV vx en.2.2 ∧ Rp w K R vx kv.2
  | _, _, _, _, .nil, e => by simp at e
  | _, _, 0, _, .cons a b c d r, e => by simp at e; subst e; exact ⟨_, _, _, rfl, a, b, c, d⟩
  | _, _, i + 1, kv, .cons a b c d r, e => by
    obtain ⟨en, kx, vx, h1, h2⟩ := rpe_get (i := i) (kv := kv) r (by simpa using e)
    exact ⟨en, kx, vx, by simpa using h1, h2⟩
theorem jok_dict {X : Cx} {R : Hp} {a : Addr} {ep : Nat} {xs : List Ent} {kvs : List (PyData × PyData)} (h : R a = some (dX X.w a ep xs)) (r : Rpe X.w X.K R xs kvs) : JOk X R (Itx X.w a ep xs) (kvs.map (·.1)) := fun W B s ok => by
  have hq := ok.sub _ _ (s _ _ h)
  have hl := r.length
  refine ⟨fun i d hd => ?_, hq, by rw [List.length_map, hl]; exact Nat.le_refl _⟩
  rw [List.getElem?_map, Option.map_eq_some_iff] at hd
  obtain ⟨kv, hkv, e⟩ := hd
  subst e
  obtain ⟨en, kx, vx, h1, h2, h3, _⟩ := rpe_get r hkv
  refine ⟨⟨hq, en, kx, h1, h2⟩, fun x H' ⟨e, en', h4, h5⟩ => ⟨W, e.symm, .refl, ok, ?_⟩⟩
  rw [h1] at h4
  cases h4
  rw [relV_inj h5 h2]
  exact h3.sub s
theorem dXp.raw {w : World} {a : Addr} {ep : Nat} {xs : List Ent} {h : Heap} (x : dXp w a ep xs h) : ∃ es, h.DictRaw a es ep ∧ es.toList = xs.map (entD w) := let ⟨_, _, o, es, ho, hx, hd, he⟩ := x; ⟨es, ⟨o, ho, hx, hd⟩, he⟩
theorem turn_x {P : Program} {w : World} {K : PySem.W.Frag} {tg : Expr} {a : Addr} {ep : Nat} {xs : List Ent} (it : Addr) : Turn P w K tg (Itx w a ep xs) [it] it (fun i h => h.IsKeyIter it a i xs.length ep) where
  mem := by simp
  obj := fun i h st b hb => by
    have e : b = it := by simpa using hb
    subst e
    obtain ⟨oi, e, c, dd⟩ := st
    exact ⟨oi, e, fun v z => by rw [dd] at z; cases z⟩
  keep := fun i h h' st k => st.at fun oi e => k it (by simp) oi e
  item := by
    intro X hP hw hK hc i pins s σ H E I hf st hg
    subst hP hw hK
    obtain ⟨hd, en, x, hen, hx⟩ := hg
    have hi : i < xs.length := (List.getElem?_eq_some_iff.mp hen).1
    obtain ⟨f0, f1, f2, f3, f4, f5⟩ := hf it (by simp)
    obtain ⟨es, hm, he⟩ := (Inv.dctR I hd).raw
    have hl : es.size = xs.length := by rw [← Array.length_toList, he, List.length_map]
    rw [← hl] at st hi
    refine wpAny_pyNext_keys_item_raw st hm hi fun h' st' sb => ?_
    have I1 : Inv X pins σ H { s with heap := h' } := I.turned (t' := s.toks) (fun b ob hb e => (sb.2 b hb).trans e) f0 f1 f3 f4 f5
    obtain ⟨oi, e, c, dd⟩ := id st'
    have hek : es[i].key = en.2.1 := by
      have h1 : es.toList[i]? = some es[i] := by rw [Array.getElem?_toList]; exact Array.getElem?_eq_getElem hi
      rw [he, List.getElem?_map, hen] at h1
      have h2 := Option.some.inj h1
      rw [← h2]
      rfl
    refine ⟨es[i].key, rfl, go_of (s := { s with heap := h' }) e c dd (by decide) ⟨x, H, I1, by rw [hek]; exact hx, ⟨rfl, en, hen, hx⟩, ?_, fun b hb => (hf b hb).1⟩⟩
    rw [← hl]
    exact st'
  done := by
    intro X hP hw hK hc i pins s σ H E I hf st hg
    subst hP hw hK
    obtain ⟨hd, hi⟩ := hg
    obtain ⟨f0, f1, f2, f3, f4, f5⟩ := hf it (by simp)
    obtain ⟨es, hm, he⟩ := (Inv.dctR I hd).raw
    have hl : es.size = xs.length := by rw [← Array.length_toList, he, List.length_map]
    rw [← hl] at st hi
    exact wpAny_pyNext_keys_end_raw (I.ok.hd hc) st hm hi fun h' eb => ⟨rfl, I.turned (t' := s.toks) (fun b ob hb e => eb b ob hb e) f0 f1 f3 f4 f5⟩
  self := fun A i s Q E st h => wpAny_pyIter_keyiter st h

/-! ### the iterables of the text -/
def iterD : Vl → Option (List PyData)
  | .d (.list ds) => some ds
  | .d (.tuple ds) => some ds
  | .d (.dict kvs) => some (kvs.map (·.1))
  | .d (.str x) => some (signs x)
  | .fz ds => some ds
  | _ => none
def sIter (f : SE) : SI := fun ρ B => (f ρ B).bind fun p => (iterD p.1).bind fun ds => some (ds, p.2)
def tvD (X : Cx) (x : V) (H : Hp) (R : It → Hp → Prop) : Prop := ∃ W B r ds, W.H = H ∧ WX X W B ∧ RpV X.w X.K W.R W.bs x r ∧ iterD r = some ds ∧ ∀ J, JOk X W.R J ds → R J W.H
section
variable {X : Cx} {tg e a b c : Expr} {f : SE} {fs : SA} {p pos : Pos}
theorem iter_ok (pins : List (Addr × Obj)) (s : Shared) (σ : L2.St) (H : Hp) (R : It → Hp → Prop) (x : V) (u : Value) (I : Inv X pins σ H s) (rx : RelV x u) (h : tvD X x H R) : wpAny (model X.prog X.w) X.A (pyIter u) (PIE X pins σ tg R) X.xe s := by
  obtain ⟨W, B, r, ds, e1, ok, rp, hi, q⟩ := h
  subst e1
  have listCase : ∀ {a : Addr} {vs : List V}, SqL X.K W.R a vs → Rps X.w X.K W.R vs ds → wpAny (model X.prog X.w) X.A (pyIter (.ref a)) (PIE X pins σ tg R) X.xe s := fun {a vs} hq hr => by
    obtain ⟨its, rv, p, hz⟩ := I.list (SqL.sub ok.sub hq)
    exact wpAny_pyIter_list p.isList (pi_one (tk := s.toks) I _ (turn_list a _) ⟨_, Heap.get?_push_size _ rfl, rfl, rfl⟩ (q _ (jok_list hq hr)))
  unfold iterD at hi
  split at hi
  · cases hi
    cases (show Rp X.w X.K W.R x _ from rp) with
    | lst hq hr =>
      cases rx
      exact listCase (.of hq) hr
  · cases hi
    cases (show Rp X.w X.K W.R x _ from rp) with
    | @tup a vs _ hq hr =>
      cases rx
      obtain ⟨its, rv, p, hz⟩ := I.tuple (SqT.sub ok.sub hq)
      exact wpAny_pyIter_tuple (show s.heap.IsTuple a its.toArray from p) (pi_one (tk := s.toks) I _ (turn_tuple a _) ⟨_, Heap.get?_push_size _ rfl, rfl, rfl⟩ (q _ (jok_tup hq hr)))
  · cases hi
    cases (show Rp X.w X.K W.R x _ from rp) with
    | @dct a ep xs _ hq ko re =>
      cases rx
      have hp := Inv.dctR I (ok.sub _ _ hq)
      obtain ⟨es, hm, he⟩ := hp.raw
      have hl : es.size = xs.length := by rw [← Array.length_toList, he, List.length_map]
      refine wpAny_pyIter_dict_raw hp.2.1 hm (pi_one (tk := s.toks) I _ (turn_x _) ⟨_, Heap.get?_push_size _ rfl, rfl, ?_⟩ (q _ (jok_dict hq re)))
      rw [hl] <;> rfl
  · cases hi
    rename_i z
    cases (show Rp X.w X.K W.R x (.str z) from rp)
    obtain ⟨t, rfl⟩ := (show ∃ t, u = Value.str z t from rx)
    cases ha : z.cps.all (· < 128)
    · exact wpAny_pyIter_wide ha (pi_one (tk := s.toks) I _ (turn_str _ z t "str_iterator" (.inr rfl)) ⟨_, Heap.get?_push_size _ rfl, rfl, rfl⟩ (q _ jok_str))
    · exact wpAny_pyIter_ascii ha (pi_one (tk := s.toks) I _ (turn_str _ z t "str_ascii_iterator" (.inl rfl)) ⟨_, Heap.get?_push_size _ rfl, rfl, rfl⟩ (q _ jok_str))
  · cases hi
    obtain ⟨a, vs, rfl, hq, hr⟩ := (show ∃ a vs, x = .ref a ∧ SqL X.K W.R a vs ∧ Rps X.w X.K W.R vs _ from rp)
    cases rx
    exact listCase hq hr
  · cases hi
theorem di_val (h : PE X e (tE X f)) : PI X tg e (tI X (sIter f)) := PI.weak (pi_by h iter_ok) fun σ H R ⟨W, E0, ρ, B, ds, B', e1, ok, en, e, q⟩ => by
  simp only [sIter, Option.bind_eq_some_iff] at e
  obtain ⟨p, h1, ds', h2, h3⟩ := e
  cases h3
  exact ⟨W, E0, ρ, B, p.1, p.2, e1, ok, en, h1, fun W' v s ok' rv => ⟨W', p.2, p.1, ds, rfl, ok', rv, h2, fun J j => q W' J s ok' j⟩⟩
def IB (i : Int) : Bool := decide (-(2 ^ 62) ≤ i) && decide (i < 2 ^ 62)
theorem IB_of {i : Int} (h : IB i = true) : -(2 ^ 62) ≤ i ∧ i < 2 ^ 62 := by
  unfold IB at h
  rw [Bool.and_eq_true, decide_eq_true_eq, decide_eq_true_eq] at h
  exact h
/-- range(..) over data -/
def rng1F : List Vl → Option (List PyData)
  | [.d (.int j)] => if IB j = true then some (rngD 0 j.toNat) else none
  | _ => none
def rng2F : List Vl → Option (List PyData)
  | [.d (.int i), .d (.int j)] => if (IB i && IB j) = true then some (rngD i (j - i).toNat) else none
  | _ => none
def rng3F : List Vl → Option (List PyData)
  | [.d (.int i), .d (.int j), .d (.int k)] => if (decide (k ≠ 0) && decide (k.natAbs < 1073741824) && Builtin.Range.small i j k && decide (0 ≤ Builtin.Range.rangeSize i j k)) = true then some (rngC i k (Builtin.Range.rangeSize i j k).toNat) else none
  | _ => none
def sRng (rf : List Vl → Option (List PyData)) (fs : SA) : SI := fun ρ B => (fs ρ B).bind fun p => (rf p.1).bind fun ds => some (ds, p.2)
theorem rpvs1 {R : Hp} {bs : List Addr} {vs : List V} {x : Vl} (h : RpVs X.w X.K R bs vs [x]) : ∃ v, vs = [v] ∧ RpV X.w X.K R bs v x := by
  cases h with
  | cons a b => cases b; exact ⟨_, rfl, a⟩
theorem rpvs2 {R : Hp} {bs : List Addr} {vs : List V} {x y : Vl} (h : RpVs X.w X.K R bs vs [x, y]) : ∃ v v', vs = [v, v'] ∧ RpV X.w X.K R bs v x ∧ RpV X.w X.K R bs v' y := by
  cases h with
  | cons a b =>
    cases b with
    | cons c d => cases d; exact ⟨_, _, rfl, a, c⟩
theorem rpvs3 {R : Hp} {bs : List Addr} {vs : List V} {x y z : Vl} (h : RpVs X.w X.K R bs vs [x, y, z]) : ∃ v v' v'', vs = [v, v', v''] ∧ RpV X.w X.K R bs v x ∧ RpV X.w X.K R bs v' y ∧ RpV X.w X.K R bs v'' z := by
  cases h with
  | cons a b =>
    cases b with
    | cons c d =>
      cases d with
      | cons f g => cases g; exact ⟨_, _, _, rfl, a, c, f⟩
theorem rpint {R : Hp} {bs : List Addr} {v : V} {i : Int} (h : RpV X.w X.K R bs v (.d (.int i))) : v = .int i := by
  cases (show Rp X.w X.K R v (.int i) from h)
  rfl
theorem di_range1 (hg : Gl X "range") (hm : X.mg "range" = none) (ha : PA X [a] (tA X fs)) (hs : starEach [a] X.env = [(false, eval a X.env)] := by rfl) : PI X tg (.Call (.Name "range" p) [a] [] pos) (tI X (sRng rng1F fs)) :=
  PI.weak (pi_range1 hg hm ha hs) fun σ H R ⟨W, E0, ρ, B, ds, B', e1, ok, en, e, q⟩ => by
    simp only [sRng, Option.bind_eq_some_iff] at e
    obtain ⟨p, h1, ds', h2, h3⟩ := e
    cases h3
    refine ⟨W, E0, ρ, B, p.1, p.2, e1, ok, en, h1, fun W' vs s ok' rv => ?_⟩
    unfold rng1F at h2
    split at h2
    · rename_i j hp
      rw [hp] at rv
      obtain ⟨v, rfl, r⟩ := rpvs1 rv
      obtain ⟨h, e⟩ := ifs h2
      subst e
      have b := IB_of h
      exact ⟨j, by rw [rpint r], b.1, b.2, q W' _ s ok' jok_rng⟩
    · cases h2
theorem di_range2 (hg : Gl X "range") (hm : X.mg "range" = none) (ha : PA X [a, b] (tA X fs)) (hs : starEach [a, b] X.env = [(false, eval a X.env), (false, eval b X.env)] := by rfl) (hs2 : starEach [b] X.env = [(false, eval b X.env)] := by rfl) : PI X tg (.Call (.Name "range" p) [a, b] [] pos) (tI X (sRng rng2F fs)) :=
  PI.weak (pi_range2 hg hm ha hs hs2) fun σ H R ⟨W, E0, ρ, B, ds, B', e1, ok, en, e, q⟩ => by
    simp only [sRng, Option.bind_eq_some_iff] at e
    obtain ⟨p, h1, ds', h2, h3⟩ := e
    cases h3
    refine ⟨W, E0, ρ, B, p.1, p.2, e1, ok, en, h1, fun W' vs s ok' rv => ?_⟩
    unfold rng2F at h2
    split at h2
    · rename_i i j hp
      rw [hp] at rv
      obtain ⟨v, v', rfl, r, r'⟩ := rpvs2 rv
      obtain ⟨h, e⟩ := ifs h2
      subst e
      rw [Bool.and_eq_true] at h
      have b := IB_of h.1
      have c := IB_of h.2
      exact ⟨i, j, by rw [rpint r, rpint r'], ⟨b.1, b.2, c.1, c.2⟩, q W' _ s ok' jok_rng⟩
    · cases h2
theorem di_range3 (hg : Gl X "range") (hm : X.mg "range" = none) (ha : PA X [a, b, c] (tA X fs)) (hs : starEach [a, b, c] X.env = (false, eval a X.env) :: starEach [b, c] X.env := by rfl) (hpl : (backTo pos (starEach [b, c] X.env)).any (·.1) = false := by rfl) : PI X tg (.Call (.Name "range" p) [a, b, c] [] pos) (tI X (sRng rng3F fs)) :=
  PI.weak (pi_range3 hg hm ha hs hpl) fun σ H R ⟨W, E0, ρ, B, ds, B', e1, ok, en, e, q⟩ => by
    simp only [sRng, Option.bind_eq_some_iff] at e
    obtain ⟨p, h1, ds', h2, h3⟩ := e
    cases h3
    refine ⟨W, E0, ρ, B, p.1, p.2, e1, ok, en, h1, fun W' vs s ok' rv => ?_⟩
    unfold rng3F at h2
    split at h2
    · rename_i i j k hp
      rw [hp] at rv
      obtain ⟨v, v', v'', rfl, r, r', r''⟩ := rpvs3 rv
      obtain ⟨h, e⟩ := ifs h2
      subst e
      simp only [Bool.and_eq_true, decide_eq_true_eq] at h
      obtain ⟨⟨⟨h1, h2⟩, h3⟩, h4⟩ := h
      exact ⟨i, j, k, _, by rw [rpint r, rpint r', rpint r''], ⟨h1, h2, h3, (Int.toNat_of_nonneg h4).symm⟩, q W' _ s ok' jok_rngC⟩
    · cases h2
end

/-! ### for -/
def forGo (g : SG) (b : SS) : List PyData → EnvD → Bs → Option (Out × EnvD × Bs)
  | [], ρ, B => some (.nx, ρ, B)
  | d :: ds, ρ, B => (g d ρ).bind fun ρ1 => (b ρ1 B).bind fun p => match p.1 with
    | .nx => forGo g b ds p.2.1 p.2.2
    | .ct => forGo g b ds p.2.1 p.2.2
    | .bk => some (.nx, p.2.1, p.2.2)
    | .rt r => some (.rt r, p.2.1, p.2.2)
def sFor (fi : SI) (g : SG) (b : SS) : SS := fun ρ B => (fi ρ B).bind fun p => forGo g b p.1 ρ p.2
/-- while, with a number of turns that is never come to -/
def whGo (t : SB) (b : SS) : Nat → EnvD → Bs → Option (Out × EnvD × Bs)
  | 0, _, _ => none
  | n + 1, ρ, B => (t ρ B).bind fun c => if c.1 = true then (b ρ c.2).bind fun p => match p.1 with
      | .nx => whGo t b n p.2.1 p.2.2
      | .ct => whGo t b n p.2.1 p.2.2
      | .bk => some (.nx, p.2.1, p.2.2)
      | .rt r => some (.rt r, p.2.1, p.2.2)
    else some (.nx, ρ, c.2)
def sWhile (n : Nat) (t : SB) (b : SS) : SS := whGo t b n
section
variable {X : Cx} {tg iter c : Expr} {body : List Stmt} {fi : SI} {g : SG} {fb : SS} {ft : SB} {ks : List Nat} {pos : Pos}
theorem ds_for (hp : PassesOwn (model X.prog X.w) X.A X.env X.xe) (hc : X.calm = true) (hi : PI X tg iter (tI X fi)) (hg : PG X tg (tG X g ks)) (hb : PSs X body (tS X fb)) (hs : ∀ x, foldedSetIterable iter X.env x = pure x := by intro _; rfl) :
    PS X (.For tg iter body [] pos) (tS X (sFor fi g fb)) := PS.weak (ps_for hp hc hi hg hb hs) fun D σ H ⟨E0, W, ρ, B, o, ρ', B', e1, at_, e, q⟩ => by
  subst e1
  simp only [sFor, Option.bind_eq_some_iff] at e
  obtain ⟨⟨ds, B1⟩, h1, h2⟩ := e
  refine ⟨W, E0.H, ρ, B, ds, B1, rfl, at_.ok, at_.en, h1, fun W1 J s1 ok1 jok => ?_⟩
  refine ⟨fun i m σ H => m = ds.length - i ∧ i ≤ ds.length ∧ ∃ W2 ρ2 B2, W2.H = H ∧ At X E0 W2 B2 σ ρ2 ∧ Sub W1.R W2.R ∧ forGo g fb (ds.drop i) ρ2 B2 = some (o, ρ', B'),
    ⟨ds.length, by simp, Nat.zero_le _, W1, ρ, B1, rfl, at_.step s1 ok1, Sub.refl, by simpa using h2⟩, ?_⟩
  rintro i m σ H ⟨rfl, hi, W2, ρ2, B2, rfl, at2, sr, hgo⟩
  by_cases hlt : i < ds.length
  · rw [List.drop_eq_getElem_cons hlt] at hgo
    simp only [forGo, Option.bind_eq_some_iff] at hgo
    obtain ⟨ρ3, g1, ⟨o3, ρ4, B4⟩, g2, g3⟩ := hgo
    obtain ⟨go, yl⟩ := (jok W2 B2 sr at2.ok).1 i ds[i] (List.getElem?_eq_getElem hlt)
    refine .inr ⟨go, _, fun σ' H' p' => ⟨ds.length - (i + 1), by omega, p'⟩, fun x H' y => ?_⟩
    obtain ⟨W3, e3, s3, ok3, rp⟩ := yl x H' y
    refine ⟨W3, E0.H, ρ2, B2, _, ρ3, e3, ok3, at2.en.step s3, rp, g1, fun σ3 en3 _ => ?_⟩
    refine ⟨E0, W3, ρ3, B2, o3, ρ4, B4, e3, ⟨at2.st.trans s3, ok3, en3⟩, g2, fun W5 σ5 sr5 at5 => ?_⟩
    cases o3 with
    | nx => exact ⟨rfl, hlt, W5, ρ4, B4, rfl, at5, (sr.trans s3.R).trans sr5, g3⟩
    | ct => exact ⟨rfl, hlt, W5, ρ4, B4, rfl, at5, (sr.trans s3.R).trans sr5, g3⟩
    | bk => cases g3; exact q W5 σ5 ((s1.R.trans (sr.trans s3.R)).trans sr5) at5
    | rt r => cases g3; exact fun v rv => q W5 σ5 ((s1.R.trans (sr.trans s3.R)).trans sr5) at5 v rv
  · have e : i = ds.length := by omega
    subst e
    rw [List.drop_eq_nil_of_le (Nat.le_refl _)] at hgo
    cases hgo
    exact .inl ⟨(jok W2 _ sr at2.ok).2, q W2 σ (s1.R.trans sr) at2⟩
theorem ds_while (n : Nat) (hp : PassesOwn (model X.prog X.w) X.A X.env X.xe) (hc : PT X c (tT X ft)) (hb : PSs X body (tS X fb)) : PS X (.While c body [] pos) (tS X (sWhile n ft fb)) := PS.weak (ps_while hp hc hb) fun D σ H ⟨E0, W, ρ, B, o, ρ', B', e1, at_, e, q⟩ => by
  subst e1
  refine ⟨fun m σ H => ∃ W2 ρ2 B2, W2.H = H ∧ At X E0 W2 B2 σ ρ2 ∧ Sub W.R W2.R ∧ whGo ft fb m ρ2 B2 = some (o, ρ', B'), ⟨n, W, ρ, B, rfl, at_, Sub.refl, e⟩, ?_⟩
  rintro m σ H ⟨W2, ρ2, B2, rfl, at2, sr, hgo⟩
  cases m with
  | zero => cases hgo
  | succ m =>
    simp only [whGo, Option.bind_eq_some_iff] at hgo
    obtain ⟨⟨k, B3⟩, g1, g2⟩ := hgo
    refine ⟨W2, E0.H, ρ2, B2, k, B3, rfl, at2.ok, at2.en, g1, fun W3 s3 ok3 => ?_⟩
    have at3 := at2.step s3 ok3
    cases k with
    | false =>
      cases g2
      exact iteF (q W3 σ (sr.trans s3.R) at3)
    | true =>
      rw [if_pos rfl] at g2
      refine iteT ?_
      simp only [Option.bind_eq_some_iff] at g2
      obtain ⟨⟨o3, ρ4, B4⟩, g2, g3⟩ := g2
      refine ⟨fun σ' H' => ∃ W2 ρ2 B2, W2.H = H' ∧ At X E0 W2 B2 σ' ρ2 ∧ Sub W.R W2.R ∧ whGo ft fb m ρ2 B2 = some (o, ρ', B'), fun σ' H' p' => ⟨m, Nat.lt_succ_self _, p'⟩, ?_⟩
      refine ⟨E0, W3, ρ2, B3, o3, ρ4, B4, rfl, at3, g2, fun W5 σ5 sr5 at5 => ?_⟩
      cases o3 with
      | nx => exact ⟨W5, ρ4, B4, rfl, at5, (sr.trans s3.R).trans sr5, g3⟩
      | ct => exact ⟨W5, ρ4, B4, rfl, at5, (sr.trans s3.R).trans sr5, g3⟩
      | bk => cases g3; exact q W5 σ5 ((sr.trans s3.R).trans sr5) at5
      | rt r => cases g3; exact fun v rv => q W5 σ5 ((sr.trans s3.R).trans sr5) at5 v rv
end

/-! ### list comprehensions -/
def wipeD (ρ : EnvD) : List Nat → EnvD
  | [] => ρ
  | v :: vs => (wipeD ρ vs).set v .un
theorem EOk.wipe {w : World} {K : PySem.W.Frag} {W : Wd} {E0 : Hp} {σ : L2.St} {ρ : EnvD} (h : EOk w K W E0 σ ρ) : ∀ vs : List Nat, EOk w K W E0 (wipe σ vs) (wipeD ρ vs)
  | [] => h
  | v :: vs => by
    have ih := EOk.wipe h vs
    unfold L2.wipe wipeD
    refine ⟨by rw [List.length_set, List.length_set]; exact ih.len, fun j x e => ?_, fun j k d e a h1 h2 h3 h4 => ?_⟩
    · rcases get_set e with ⟨e1, e2⟩ | ⟨e1, e2⟩
      · subst e1 e2
        exact .un
      · rw [List.getElem?_set_ne (Ne.symm e1)]
        exact ih.at_ j x e2
    · rcases get_set h1 with ⟨q1, q2⟩ | ⟨q1, q2⟩
      · cases q2
      · rcases get_set h2 with ⟨p1, p2⟩ | ⟨p1, p2⟩
        · cases p2
        · rw [List.getElem?_set_ne (Ne.symm q1)] at h3
          rw [List.getElem?_set_ne (Ne.symm p1)] at h4
          exact ih.sep j k d e a q2 p2 h3 h4
def unD : Vl → Option PyData
  | .d x => some x
  | _ => none
def lcGo (g : SG) (t : SB) (e : SE) (ρ0 : EnvD) : List PyData → Bs → Option (List PyData × Bs)
  | [], B => some ([], B)
  | d :: ds, B => (g d ρ0).bind fun ρ1 => (t ρ1 B).bind fun p => if p.1 = true then (e ρ1 p.2).bind fun q => (unD q.1).bind fun y => (lcGo g t e ρ0 ds q.2).bind fun r => some (y :: r.1, r.2) else lcGo g t e ρ0 ds p.2
def eLc (fi : SI) (g : SG) (t : SB) (e : SE) (vs : List Nat) : SE := fun ρ B => (fi ρ B).bind fun p => if p.1.length < LIM then (lcGo g t e (wipeD ρ vs) p.1 p.2).bind fun r => some (.d (.list r.1), r.2) else none
def sYes : SB := fun _ B => some (true, B)
theorem dts_nil {X : Cx} : PTs X [] (tT X sYes) := ⟨fun pins s σ H Q I ⟨W, E0, ρ, B, r, B', e1, ok, en, e, q⟩ => by
  subst e1
  cases e
  exact pts_nil.run pins s σ W.H Q I (q W .refl ok)⟩
theorem dts_one {X : Cx} {c : Expr} {f : SB} (h : PT X c (tT X f)) : PTs X [c] (tT X f) := pts_one h

section
variable {X : Cx} {elt tg iter : Expr} {ifs : List Expr} {scope : Scope} {own : List (Str × Nat)} {pos spos : Pos} {fi : SI} {g : SG} {ft : SB} {fe : SE} {ks : List Nat} {py : Pos}
theorem lc_pass {σ : L2.St} {H : Hp} {Q : VK} {vs : List Nat} (hk : ∀ i ∈ ks, i ∈ vs) (h : tO X (eLc fi g ft fe vs) σ H Q) : tLc (tI X fi) (tG X g ks) (tT X ft) (tE X fe) vs σ H Q := by
  obtain ⟨W, E0, ρ, B, r, B', e1, ok, en, e, q⟩ := h
  subst e1
  simp only [eLc, Option.bind_eq_some_iff] at e
  obtain ⟨⟨ds, B1⟩, h1, h2⟩ := e
  obtain ⟨hz, h5⟩ := ifs2 h2
  simp only [Option.bind_eq_some_iff] at h5
  obtain ⟨⟨ys, B2⟩, h6, h3⟩ := h5
  cases h3
  refine ⟨W, E0, ρ, B, ds, B1, rfl, ok, en, h1, fun W1 J s1 ok1 jok D hD => ?_⟩
  obtain ⟨s2, ok2⟩ := ok1.newH (.lst []) hD
  have hDb := ok1.nob hD
  have hDr := ok1.nor hD
  refine ⟨fun i m H => m = ds.length - i ∧ i ≤ ds.length ∧ ∃ W2 B3 av acc rest, W2.H = H ∧ Step W1 W2 ∧ WX X W2 B3 ∧ H D = some (.lst av) ∧ W2.R D = none ∧ D ∉ W2.bs ∧ Rps X.w X.K W2.R av acc ∧ acc.length ≤ i ∧
      lcGo g ft fe (wipeD ρ vs) (ds.drop i) B3 = some (rest, B2) ∧ acc ++ rest = ys,
    ⟨ds.length, by simp, Nat.zero_le _, ⟨W1.R, W1.bs, upd W1.H D (.lst [])⟩, B1, [], [], ys, rfl, s2, ok2, upd_same, hDr, hDb, .nil, Nat.le_refl _, by simpa using h6, rfl⟩, ?_⟩
  rintro i m H ⟨rfl, hi, W2, B3, av, acc, rest, rfl, s2, ok2, hDl, hDr, hDb, ra, hal, hgo, eys⟩
  have up : ∀ {W' : Wd} {vx : V} {x : Vl}, RoV X.w X.K W1.H W' vx x → RoV X.w X.K W.H W' vx x := fun h => RoV.up s1 h
  by_cases hlt : i < ds.length
  · rw [List.drop_eq_getElem_cons hlt] at hgo
    simp only [lcGo, Option.bind_eq_some_iff] at hgo
    obtain ⟨ρ1, g1, ⟨k, B4⟩, g2, g3⟩ := hgo
    obtain ⟨go, yl⟩ := (jok W2 B3 s2.R ok2).1 i ds[i] (List.getElem?_eq_getElem hlt)
    refine .inr ⟨go, _, fun H' p' => ⟨ds.length - (i + 1), by omega, p'⟩, fun x H' y => ?_⟩
    obtain ⟨W3, e3, s3, ok3, rp⟩ := yl x H' y
    have en3 : EX X W3 E0 (wipe σ vs) (wipeD ρ vs) := (((en.step s1).step s2).step s3).wipe vs
    refine ⟨W3, E0, wipeD ρ vs, B3, _, ρ1, e3, ok3, en3, rp, g1, fun σ3 en3 hw => ⟨(hw vs hk).trans (wipe_wipe σ vs vs fun _ h => h), ?_⟩⟩
    refine ⟨W3, E0, ρ1, B3, k, B4, e3, ok3, en3, g2, fun W4 s4 ok4 => ?_⟩
    have hD3 := s3.keep D _ hDl hDb
    have hDr3 := s3.noR hDl hDr
    have hDb3 := s3.nobx hDl hDb
    have hD4 := s4.keep D _ hD3 hDb3
    have hDr4 := s4.noR hD3 hDr3
    have hDb4 := s4.nobx hD3 hDb3
    cases k with
    | false =>
      rw [if_neg Bool.false_ne_true] at g3
      exact iteF ⟨rfl, hlt, W4, B4, av, acc, rest, rfl, (s2.trans s3).trans s4, ok4, hD4, hDr4, hDb4, (ra.sub s3.R).sub s4.R, Nat.le_succ_of_le hal, g3, eys⟩
    | true =>
      rw [if_pos rfl] at g3
      simp only [Option.bind_eq_some_iff] at g3
      obtain ⟨⟨r, B5⟩, g3, y, g4, ⟨rest', B6⟩, g5, g6⟩ := g3
      cases g6
      refine iteT ⟨W4, E0, ρ1, B4, r, B5, rfl, ok4, en3.step s4, g3, fun W5 v s5 ok5 rv => ⟨av, s5.keep D _ hD4 hDb4, ?_, ?_⟩⟩
      · rw [ra.length, lim_eq]
        exact Nat.lt_of_le_of_lt hal (Nat.lt_trans hlt hz)
      · have hD5 := s5.keep D _ hD4 hDb4
        have hDr5 := s5.noR hD4 hDr4
        have hDb5 := s5.nobx hD4 hDb4
        have hr : r = .d y := by
          cases r with
          | d z => cases g4; rfl
          | bx n => cases g4
          | fz n => cases g4
        subst hr
        have kp : ∀ b o, b ≠ D → W5.H b = some o → upd W5.H D (.lst (av ++ [v])) b = some o := fun b o hb e => by rw [upd_ne hb]; exact e
        have s15 : Step W1 W5 := ((s2.trans s3).trans s4).trans s5
        have s6 : Step W1 ⟨W5.R, W5.bs, upd W5.H D (.lst (av ++ [v]))⟩ := by
          refine ⟨s15.R, s15.new, fun b o e hb => kp b o (fun z => by subst z; rw [hD] at e; cases e) (s15.keep b o e hb), fun b o e => ?_, s15.bs⟩
          obtain ⟨o', e'⟩ := s15.trk b o e
          exact ⟨o', kp b o' (fun z => by subst z; rw [hD] at e; cases e) e'⟩
        have ok6 : WX X ⟨W5.R, W5.bs, upd W5.H D (.lst (av ++ [v]))⟩ B5 := by
          have sD : ∀ b o, W5.R b = some o → b ≠ D := fun b o e z => by subst z; rw [hDr5] at e; cases e
          refine ⟨fun b o e => kp b o (sD b o e) (ok5.sub b o e), ok5.len, ok5.nd, fun b hb => ?_, fun n b x e1 e2 => ?_⟩
          · obtain ⟨o, e⟩ := ok5.btr b hb
            exact ⟨o, kp b o (fun z => hDb5 (z ▸ hb)) e⟩
          · have hb : b ≠ D := fun z => hDb5 (z ▸ List.mem_of_getElem? e1)
            cases ok5.box n b x e1 e2 with
            | dead => exact .dead
            | val r z => exact .val (r.mono Sub.refl fun o e => kp b o hb e) z
            | ins m e' r z => exact .ins m (kp b _ hb e') r z
        refine ⟨rfl, hlt, ⟨W5.R, W5.bs, _⟩, B5, av ++ [v], acc ++ [y], rest', rfl, s6, ok6, upd_same, hDr5, hDb5, (((ra.sub s3.R).sub s4.R).sub s5.R).append (.one rv), ?_, g5, ?_⟩
        · rw [List.length_append]
          exact Nat.succ_le_succ hal
        · rw [List.append_assoc]
          exact eys
  · have e : i = ds.length := by omega
    subst e
    rw [List.drop_eq_nil_of_le (Nat.le_refl _)] at hgo
    cases hgo
    refine .inl ⟨(jok W2 _ s2.R ok2).2, q W2 _ (s1.trans s2) ok2 ⟨D, rfl, hDb, hDr, ?_, ?_⟩⟩
    · cases z : W.H D with
      | none => rfl
      | some o =>
        obtain ⟨o', e'⟩ := s1.trk D o z
        rw [hD] at e'; cases e'
    · rw [List.append_nil] at eys
      subst eys
      exact .lst hDl ra
theorem dO_lc (hc : X.calm = true) (hN : X.N.Nodup) (hi : PI X tg iter (tI X fi)) (ok : BlkOk X.N X.env.scope scope own) (hk : ∀ i ∈ ks, i ∈ own.map (·.2))
    (hg : ∀ (s : Shared) (H : Hp) (C : Addr) (cl : List (Str × Addr)) (fp : List Addr), PG (X.blk s H scope (compEnvC scope cl C X.env) fp) tg (tG X g ks))
    (ht : ∀ (s : Shared) (H : Hp) (C : Addr) (cl : List (Str × Addr)) (fp : List Addr), PTs (X.blk s H scope (compEnvC scope cl C X.env) fp) ifs (tT X ft))
    (he : ∀ (s : Shared) (H : Hp) (C : Addr) (cl : List (Str × Addr)) (fp : List Addr), PE (X.blk s H scope (compEnvC scope cl C X.env) fp) elt (tE X fe)) (hs : ∀ x, foldedSetIterable iter X.env x = pure x := by intro _; rfl) :
    PE X (.ListComp elt [⟨tg, iter, ifs, 0⟩] scope pos) (tO X (eLc fi g ft fe (own.map (·.2)))) := PE.weak (pe_lc hc hN hi ok hg ht he hs) fun σ H Q h => lc_pass hk h
end
end DL
end

section
set_option Elab.async false
set_option linter.all false
set_option maxRecDepth 100000
set_option autoImplicit false
/-! The data layer 10: defs and their calls. -/
namespace DL
open PySem PySem.Spec PyProof.Rows L2

/-! ### name = [..] on one line -/
section
variable {X : Cx} {elt tg iter : Expr} {ifs : List Expr} {scope : Scope} {own : List (Str × Nat)} {pos spos py : Pos} {fi : SI} {g : SG} {ft : SB} {fe : SE} {ks : List Nat} {i : Nat} {y : Str}
theorem asg_pass {f : SE} {D : Ends} {σ : L2.St} {H : Hp} (h : tS X (sSet i f) D σ H) : tE X f σ H fun x H1 => gName i x σ H1 D.nx := by
  obtain ⟨E0, W, ρ, B, o, ρ', B', e1, at_, e, q⟩ := h
  subst e1
  simp only [sSet, Option.bind_eq_some_iff] at e
  obtain ⟨p, h1, h2⟩ := e
  obtain ⟨hl, h2⟩ := ifs2 h2
  cases h2
  exact ⟨W, E0.H, ρ, B, p.1, p.2, rfl, at_.ok, at_.en, h1, fun W' v s ok' rv => q W' _ s.R ⟨at_.st.trans s, ok', (at_.en.step s).set hl (.sh rv) fun d e => nomatch e⟩⟩
theorem asgO_pass {f : SE} {D : Ends} {σ : L2.St} {H : Hp} (h : tS X (sSetO i f) D σ H) : tO X f σ H fun x H1 => gName i x σ H1 D.nx := by
  obtain ⟨E0, W, ρ, B, o, ρ', B', e1, at_, e, q⟩ := h
  subst e1
  simp only [sSetO, Option.bind_eq_some_iff] at e
  obtain ⟨⟨r, B1⟩, h1, h2⟩ := e
  obtain ⟨hl, h2⟩ := ifs2 h2
  cases r with
  | d d =>
    cases h2
    refine ⟨W, E0.H, ρ, B, .d d, B1, rfl, at_.ok, at_.en, h1, fun W' v s ok' ⟨a, ev, nb, nr, h0, rt⟩ => ?_⟩
    subst ev
    exact q W' _ s.R ⟨at_.st.trans s, ok', (at_.en.step s).set hl (.ow rt nr nb (untracked at_.st h0)) fun d' _ j e' _ hj => fresh_own at_.en h0 hj⟩
  | bx n => cases h2
  | fz n => cases h2
/-- from owned to plain, pointwise -/
theorem o_pass {f : SE} {σ : L2.St} {H : Hp} {Q : VK} (h : tE X f σ H Q) : tO X f σ H Q := by
  obtain ⟨W, E0, ρ, B, r, B', e1, w1, e2, e3, q⟩ := h
  refine ⟨W, E0, ρ, B, r, B', e1, w1, e2, e3, fun W' v s w2 ro => ?_⟩
  cases r with
  | bx n => exact q W' v s w2 ro
  | fz n => exact q W' v s w2 ro
  | d x =>
    obtain ⟨a, ev, nb, nr, h0, rt⟩ := ro
    obtain ⟨o, ho⟩ := rt.there
    subst ev
    refine q ⟨upd W'.R a o, W'.bs, W'.H⟩ _ (s.freeze nr (by subst e1; exact h0)) (w2.freeze nb nr ho) ?_
    exact rt.rp (Sub.upd nr) fun u e => by rw [ho] at e; cases e; exact upd_same
theorem ds_setLc (hc : X.calm = true) (hN : X.N.Nodup) (hy : X.N[i]? = some y) (hyl : X.env.scope.names.lookup y = some .local)
    (hsw : swapsWith (.ListComp elt [⟨tg, iter, ifs, 0⟩] scope pos) (some (.Name y py)) spos.line X.env = pure true) (hi : PI X tg iter (tI X fi)) (ok : BlkOk X.N X.env.scope scope own) (hk : ∀ i ∈ ks, i ∈ own.map (·.2))
    (hg : ∀ (s : Shared) (H : Hp) (C : Addr) (cl : List (Str × Addr)) (fp : List Addr), PG (X.blk s H scope (compEnvC scope cl C X.env) fp) tg (tG X g ks))
    (ht : ∀ (s : Shared) (H : Hp) (C : Addr) (cl : List (Str × Addr)) (fp : List Addr), PTs (X.blk s H scope (compEnvC scope cl C X.env) fp) ifs (tT X ft))
    (he : ∀ (s : Shared) (H : Hp) (C : Addr) (cl : List (Str × Addr)) (fp : List Addr), PE (X.blk s H scope (compEnvC scope cl C X.env) fp) elt (tE X fe)) (hs : ∀ x, foldedSetIterable iter X.env x = pure x := by intro _; rfl) :
    PS X (.Assign [.Name y py] (.ListComp elt [⟨tg, iter, ifs, 0⟩] scope pos) spos) (tS X (sSet i (eLc fi g ft fe (own.map (·.2))))) :=
  PS.weak (ps_setLc hc hN hy hyl hsw hi ok hg ht he hs) fun D σ H h => lc_pass hk (o_pass (asg_pass h))
theorem ds_setLcO (hc : X.calm = true) (hN : X.N.Nodup) (hy : X.N[i]? = some y) (hyl : X.env.scope.names.lookup y = some .local)
    (hsw : swapsWith (.ListComp elt [⟨tg, iter, ifs, 0⟩] scope pos) (some (.Name y py)) spos.line X.env = pure true) (hi : PI X tg iter (tI X fi)) (ok : BlkOk X.N X.env.scope scope own) (hk : ∀ i ∈ ks, i ∈ own.map (·.2))
    (hg : ∀ (s : Shared) (H : Hp) (C : Addr) (cl : List (Str × Addr)) (fp : List Addr), PG (X.blk s H scope (compEnvC scope cl C X.env) fp) tg (tG X g ks))
    (ht : ∀ (s : Shared) (H : Hp) (C : Addr) (cl : List (Str × Addr)) (fp : List Addr), PTs (X.blk s H scope (compEnvC scope cl C X.env) fp) ifs (tT X ft))
    (he : ∀ (s : Shared) (H : Hp) (C : Addr) (cl : List (Str × Addr)) (fp : List Addr), PE (X.blk s H scope (compEnvC scope cl C X.env) fp) elt (tE X fe)) (hs : ∀ x, foldedSetIterable iter X.env x = pure x := by intro _; rfl) :
    PS X (.Assign [.Name y py] (.ListComp elt [⟨tg, iter, ifs, 0⟩] scope pos) spos) (tS X (sSetO i (eLc fi g ft fe (own.map (·.2))))) :=
  PS.weak (ps_setLc hc hN hy hyl hsw hi ok hg ht he hs) fun D σ H h => lc_pass hk (asgO_pass h)
end

/-! ### a def's meaning -/
abbrev SF := List Vl → Bs → Option (Vl × Bs)
def okV (n : Nat) : Vl → Bool
  | .bx m => decide (m < n)
  | _ => true
def okB (n : Nat) : Bx → Bool
  | .ins _ fs => fs.all fun x => okV n x.2
  | _ => true
/-- boxes that nobody can come to any more are forgotten -/
def tidy (n : Nat) (r : Vl) (B : Bs) : Vl × Bs := if (okV n r && (B.take n).all (okB n)) = true then (r, B.take n) else (r, B)
def startD (N : Nat) (xs : List Vl) : EnvD := xs.map .sh ++ List.replicate (N - xs.length) .un
def funS (N np : Nat) (body : SS) : SF := fun xs B => if xs.length = np then (body (startD N xs) B).bind fun p => match p.1 with
    | .nx => some (tidy B.length (.d .none) p.2.2)
    | .rt r => some (tidy B.length r p.2.2)
    | _ => none
  else none
def spD (w : World) (K : PySem.W.Frag) (mg : Str → Option Value) (np : Nat) (f : SF) : Sp := fun vs H Q _ => ∃ W B xs r B', W.H = H ∧ WOk w K mg W B ∧ RpVs w K W.R W.bs vs xs ∧ xs.length = np ∧ f xs B = some (r, B') ∧
  ∀ W' v, Step W W' → WOk w K mg W' B' → RpV w K W'.R W'.bs v r → Q v W'.H
section
variable {w : World} {K : PySem.W.Frag} {mg : Str → Option Value}
theorem RpVs.get {R : Hp} {bs : List Addr} : ∀ {vs : List V} {xs : List Vl} {i : Nat} {x : Vl}, RpVs w K R bs vs xs → xs[i]? = some x → ∃ v, vs[i]? = some v ∧ RpV w K R bs v x
  | _, _, _, _, .nil, e => by simp at e
  | _, _, 0, _, .cons h _, e => by simp at e; subst e; exact ⟨_, rfl, h⟩
  | _, _, i + 1, x, .cons _ r, e => by
    obtain ⟨v, h1, h2⟩ := RpVs.get (i := i) (x := x) r (by simpa using e)
    exact ⟨v, by simpa using h1, h2⟩
theorem start_ok {W : Wd} {N : List Str} {vs : List V} {xs : List Vl} (r : RpVs w K W.R W.bs vs xs) (E0 : Hp) : EOk w K W E0 (L2.start N vs) (startD N.length xs) := by
  have hl := r.length
  have no : ∀ (i : Nat) (d : PyData), (startD N.length xs)[i]? ≠ some (.ow d) := fun i d e => by
    unfold startD at e
    rcases List.mem_append.mp (List.mem_of_getElem? e) with h | h
    · obtain ⟨x, _, e⟩ := List.mem_map.mp h
      cases e
    · cases (List.eq_of_mem_replicate h)
  refine ⟨?_, fun i s e => ?_, fun i j d _ _ h _ _ _ => absurd h (no i d)⟩
  · unfold L2.start startD
    simp only [List.length_append, List.length_map, List.length_replicate, hl]
  · cases s with
    | un => exact .un
    | ow d => exact absurd e (no i d)
    | sh x =>
      unfold startD at e
      by_cases hi : i < xs.length
      · rw [List.getElem?_append_left (by simpa using hi), List.getElem?_map, Option.map_eq_some_iff] at e
        obtain ⟨x', hx, e⟩ := e
        cases e
        obtain ⟨v, hv, rv⟩ := r.get hx
        have : (L2.start N vs)[i]? = some (some v) := by
          unfold L2.start
          rw [List.getElem?_append_left (by rw [List.length_map, hl]; exact hi), List.getElem?_map, hv]
          rfl
        rw [this]
        exact .sh rv
      · rw [List.getElem?_append_right (by simpa using hi), List.getElem?_replicate] at e
        split at e <;> cases e
/-- back to the boxes of old -/
theorem tidy_ok {E0 W : Wd} {B B0 : Bs} {r : Vl} (s : Step E0 W) (ok : WOk w K mg W B) (l0 : E0.bs.length = B0.length) :
    ∃ W', W'.H = W.H ∧ Step E0 W' ∧ WOk w K mg W' (tidy B0.length r B).2 ∧ (tidy B0.length r B).1 = r ∧ ∀ v, RpV w K W.R W.bs v r → RpV w K W'.R W'.bs v r := by
  unfold tidy
  split
  · rename_i hc
    rw [Bool.and_eq_true, List.all_eq_true] at hc
    obtain ⟨more, eb, fm⟩ := s.bs
    have pre : ∀ {n : Nat} {b : Addr}, E0.bs[n]? = some b → W.bs[n]? = some b := fun h => s.bget h
    have back : ∀ {n : Nat} {b : Addr}, n < B0.length → W.bs[n]? = some b → E0.bs[n]? = some b := fun {n b} hn h => by
      rw [eb, List.getElem?_append_left (by omega)] at h
      exact h
    have rv : ∀ {v : V} {x : Vl}, okV B0.length x = true → RpV w K W.R W.bs v x → RpV w K W.R E0.bs v x := fun {v x} h q => by
      cases x with
      | d z => exact q
      | bx n =>
        obtain ⟨a, h1, h2⟩ := q
        exact ⟨a, back (of_decide_eq_true h) h1, h2⟩
      | fz z => exact q
    have rf : ∀ {fvs : List (Str × V)} {fs : List (Str × Vl)}, RpF w K W.R W.bs fvs fs → (fs.all fun x => okV B0.length x.2) = true → RpF w K W.R E0.bs fvs fs := by
      intro fvs fs q
      induction q with
      | nil => exact fun _ => .nil
      | cons a _ ih =>
        intro h
        rw [List.all_cons, Bool.and_eq_true] at h
        exact .cons (rv h.1 a) (ih h.2)
    refine ⟨⟨W.R, E0.bs, W.H⟩, rfl, ⟨s.R, s.new, s.keep, s.trk, [], by simp, fun _ h => nomatch h⟩, ⟨ok.sub, ?_, ?_, fun b hb => ?_, fun n b x e1 e2 => ?_⟩, rfl, fun v q => ?_⟩
    · have : W.bs.length = B.length := ok.len
      rw [eb, List.length_append] at this
      rw [List.length_take]
      show E0.bs.length = _
      rw [l0]
      omega
    · have := ok.nd
      rw [eb] at this
      exact (List.nodup_append.mp this).1
    · exact ok.btr b (by rw [eb]; exact List.mem_append_left _ hb)
    · have e2' : B[n]? = some x := by
        have hn : n < (B.take B0.length).length := (List.getElem?_eq_some_iff.mp e2).1
        rw [List.length_take] at hn
        rw [List.getElem?_take_of_lt (by omega)] at e2
        exact e2
      have hb := hc.2 x (List.mem_of_getElem? e2)
      cases ok.box n b x (pre e1) e2' with
      | dead => exact .dead
      | val q z => exact .val q z
      | ins m q f z => exact .ins m q (rf f hb) z
    · exact rv hc.1 q
  · exact ⟨W, rfl, s, ok, rfl, fun v q => q⟩
end
section
variable {P : Program} {w : World} {K : PySem.W.Frag} {mg : Str → Option Value} {base : Heap} {x qual : Str} {params : Arguments} {body : List Stmt} {scope : Scope} {dvs : List V} {kws : List (Str × V)} {f : Addr} {fd : FuncData} {N ps : List Str} {sb : SS} {k : Nat}
/-- THE RULE: a def means its body's meaning -/
theorem fun_ok (F : FunD K x qual params body scope dvs kws f fd) (S : FnScope N ps scope)
    (hbody : ∀ (cdv : Value) (A : Around) (outer : List Env) (s : Shared) (H : Hp) (E : XK), Room k (A.deeper (envOfC qual scope s.heap.objs.size f cdv)) →
      PSs (cxOf CX0 P w K mg base N qual scope f cdv A outer s H E).nox body (tS (cxOf CX0 P w K mg base N qual scope f cdv A outer s H E).nox sb)) : FnOk P w K mg base CX0 (k + 1) f fd ps (spD w K mg ps.length (funS N.length ps.length sb)) := by
  refine F.ok S (fun vs H Q E ⟨W, B, xs, r, B', e1, ok, rv, hl, _⟩ => rv.length.trans hl) fun cdv A outer s H vs Q E hr h => ?_
  refine ⟨_, PSs.nox (hbody cdv A outer s H E hr), ?_⟩
  obtain ⟨W, B, xs, r, B', e1, ok, rv, hl, e, q⟩ := h
  subst e1
  unfold funS at e
  rw [if_pos hl, Option.bind_eq_some_iff] at e
  obtain ⟨⟨o, ρ', B1⟩, h1, h2⟩ := e
  refine ⟨W, W, startD N.length xs, B, o, ρ', B1, rfl, ⟨.refl, ok, start_ok rv W.H⟩, h1, fun W' σ' sr at' => ?_⟩
  cases o with
  | nx =>
    obtain ⟨W2, e2, s2, ok2, e3, _⟩ := tidy_ok (r := .d .none) at'.st at'.ok ok.len
    have e4 := Option.some.inj h2
    show Q .non W'.H
    rw [← e2]
    refine q W2 .non s2 ?_ ?_
    · rw [e4] at ok2; exact ok2
    · rw [e4] at e3; simp only at e3; subst e3; exact .non
  | rt r1 =>
    obtain ⟨W2, e2, s2, ok2, e3, bk⟩ := tidy_ok (r := r1) at'.st at'.ok ok.len
    have e4 := Option.some.inj h2
    intro v rv'
    show Q v W'.H
    rw [← e2]
    refine q W2 v s2 ?_ ?_
    · rw [e4] at ok2; exact ok2
    · have rv2 := bk v rv'
      rw [e4] at e3
      simp only at e3
      subst e3
      exact rv2
  | bk => cases h2
  | ct => cases h2
end
end DL
end

section
set_option Elab.async false
set_option linter.all false
set_option maxRecDepth 100000
set_option autoImplicit false
/-! The data layer 11: calls, boxes, stores. -/
namespace DL
open PySem PySem.Spec PyProof.Rows L2

/-! ### calls of defs -/
def eFn (f : SF) (fs : SA) : SE := fun ρ B => (fs ρ B).bind fun p => f p.1 p.2
section
variable {X : Cx} {k np : Nat} {f : Addr} {fd : FuncData} {ps : List Str} {sf : SF} {x : Str} {p pos : Pos} {e : Expr} {es : List Expr} {fs : SA} {ds : List Value} {dvs : List V} {dds : List PyData}
theorem fn_pass {σ : L2.St} {H : Hp} {Q : VK} (h : tE X (fun ρ B => (fs ρ B).bind fun p => if p.1.length = np then sf p.1 p.2 else none) σ H Q) : tCall (spD X.w X.K X.mg np sf) [] E0 (tA X fs) σ H Q := by
  obtain ⟨W, E0, ρ, B, r, B', e1, ok, en, e, q⟩ := h
  simp only [Option.bind_eq_some_iff] at e
  obtain ⟨p, h1, h2⟩ := e
  obtain ⟨hl, h2⟩ := ifs2 h2
  refine ⟨W, E0, ρ, B, p.1, p.2, e1, ok, en, h1, fun W1 vs s1 ok1 r1 => ?_⟩
  show spD X.w X.K X.mg np sf (vs ++ []) W1.H Q L2.E0
  rw [List.append_nil]
  exact ⟨W1, p.2, p.1, r, B', rfl, ok1, r1, hl, h2, fun W2 v s2 ok2 rv => q W2 v (s1.trans s2) ok2 rv⟩
theorem eFn_len {g : List Vl → Nat → Prop} {σ : L2.St} {H : Hp} {Q : VK} (hf : ∀ xs B r, sf xs B = some r → xs.length = np) (h : tE X (eFn sf fs) σ H Q) : tE X (fun ρ B => (fs ρ B).bind fun p => if p.1.length = np then sf p.1 p.2 else none) σ H Q := by
  obtain ⟨W, E0, ρ, B, r, B', e1, ok, en, e, q⟩ := h
  refine ⟨W, E0, ρ, B, r, B', e1, ok, en, ?_, q⟩
  simp only [eFn, Option.bind_eq_some_iff] at e ⊢
  obtain ⟨p, h1, h2⟩ := e
  exact ⟨p, h1, by rw [if_pos (hf _ _ _ h2)]; exact h2⟩
/-- a def's arguments are as many as it has parameters -/
def Ar (np : Nat) (f : SF) : Prop := ∀ xs B r, f xs B = some r → xs.length = np
theorem ar_fun {N np : Nat} {b : SS} : Ar np (funS N np b) := fun xs B r h => by
  unfold funS at h
  exact (ifs2 h).1
theorem d_call (F : FnOk X.prog X.w X.K X.mg X.base CX0 k f fd ps (spD X.w X.K X.mg np sf)) (ar : Ar np sf) (hr : Room k X.A) (hg : Gl X x) (hm : X.mg x = some (.ref f)) (hk : PySem.W.keepIn X.K (.ref f) = true) (hb : Binds X.K fd ps [])
    (ha : PA X (e :: es) (tA X fs)) (hdb : (x == ("__debug__" : Str)) = false := by decide) (he : starEach (e :: es) X.env = (false, eval e X.env) :: starEach es X.env := by rfl) (hpl : (backTo pos (starEach es X.env)).any (·.1) = false := by rfl) :
    PE X (.Call (.Name x p) (e :: es) [] pos) (tE X (eFn sf fs)) := PE.weak (pe_call F hr hg hm hk hb .nil pass0 ha hdb he hpl) fun _ _ _ h => fn_pass (eFn_len (g := fun _ _ => True) ar h)
theorem d_call0 (F : FnOk X.prog X.w X.K X.mg X.base CX0 k f fd ps (spD X.w X.K X.mg np sf)) (ar : Ar np sf) (hr : Room k X.A) (hg : Gl X x) (hm : X.mg x = some (.ref f)) (hk : PySem.W.keepIn X.K (.ref f) = true) (hb : Binds X.K fd ps [])
    (hdb : (x == ("__debug__" : Str)) = false := by decide) :
    PE X (.Call (.Name x p) [] [] pos) (tE X (eFn sf aNil)) := PE.weak (pe_call0 F hr hg hm hk hb .nil pass0 hdb) fun σ H Q ⟨W, E0, ρ, B, r, B', e1, ok, en, e, q⟩ => by
  subst e1
  have e : sf [] B = some (r, B') := e
  exact ⟨W, B, [], r, B', rfl, ok, .nil, ar _ _ _ e, e, q⟩
end

/-! ### boxes -/
section
variable {w : World} {K : PySem.W.Frag} {mg : Str → Option Value}
theorem RpV.more {R : Hp} {bs m : List Addr} {v : V} {x : Vl} (h : RpV w K R bs v x) : RpV w K R (bs ++ m) v x := by
  cases x with
  | d z => exact h
  | bx n =>
    obtain ⟨a, h1, h2⟩ := h
    exact ⟨a, by rw [List.getElem?_append_left (List.getElem?_eq_some_iff.mp h1).1]; exact h1, h2⟩
  | fz z => exact h
theorem RpF.more {R : Hp} {bs m : List Addr} : ∀ {fvs : List (Str × V)} {fs : List (Str × Vl)}, RpF w K R bs fvs fs → RpF w K R (bs ++ m) fvs fs
  | _, _, .nil => .nil
  | _, _, .cons a r => .cons a.more r.more
theorem WOk.newBox {W W0 : Wd} {B : Bs} {a : Addr} {b : Bx} (ok : WOk w K mg W B) (s : Step W0 W) (nb : a ∉ W.bs) (h0 : W0.H a = none) (ha : ∃ o, W.H a = some o) (hb : BxAt w K mg W.R W.H (W.bs ++ [a]) a b) :
    Step W0 ⟨W.R, W.bs ++ [a], W.H⟩ ∧ WOk w K mg ⟨W.R, W.bs ++ [a], W.H⟩ (B ++ [b]) := by
  obtain ⟨more, eb, fm⟩ := s.bs
  refine ⟨⟨s.R, s.new, s.keep, s.trk, more ++ [a], by show W.bs ++ [a] = _; rw [eb, List.append_assoc], fun c hc => ?_⟩, ok.sub, ?_, ?_, fun c hc => ?_, fun n c x e1 e2 => ?_⟩
  · rcases List.mem_append.mp hc with h | h
    · exact fm c h
    · have : c = a := by simpa using h
      rw [this]; exact h0
  · show (W.bs ++ [a]).length = _
    rw [List.length_append, List.length_append, ok.len]
    rfl
  · show (W.bs ++ [a]).Nodup
    rw [List.nodup_append]
    refine ⟨ok.nd, by simp, fun x hx y hy e => ?_⟩
    have : y = a := by simpa using hy
    subst this
    subst e
    exact nb hx
  · rcases List.mem_append.mp hc with h | h
    · exact ok.btr c h
    · have : c = a := by simpa using h
      rw [this]; exact ha
  · by_cases hn : n < W.bs.length
    · have e1 : (W.bs ++ [a])[n]? = some c := e1
      rw [List.getElem?_append_left hn] at e1
      rw [List.getElem?_append_left (by rw [← ok.len]; exact hn)] at e2
      cases ok.box n c x e1 e2 with
      | dead => exact .dead
      | val q z => exact .val q z
      | ins m q f z => exact .ins m q f.more z
    · have e1 : (W.bs ++ [a])[n]? = some c := e1
      rw [List.getElem?_append_right (by omega)] at e1
      rw [List.getElem?_append_right (by rw [← ok.len]; omega)] at e2
      have hz : n - W.bs.length = 0 := by
        have := (List.getElem?_eq_some_iff.mp e1).1
        simp at this
        omega
      rw [hz] at e1
      rw [← ok.len, hz] at e2
      simp at e1 e2
      subst e1 e2
      exact hb
/-- a box's content is changed -/
theorem WOk.putBox {W : Wd} {B : Bs} {a : Addr} {n : Nat} {b : Bx} {o : HO} (ok : WOk w K mg W B) (hn : W.bs[n]? = some a) (nr : W.R a = none) (hb : BxAt w K mg W.R (upd W.H a o) W.bs a b) :
    Step W ⟨W.R, W.bs, upd W.H a o⟩ ∧ WOk w K mg ⟨W.R, W.bs, upd W.H a o⟩ (B.set n b) := by
  have hm := List.mem_of_getElem? hn
  have kp : ∀ c u, c ≠ a → W.H c = some u → upd W.H a o c = some u := fun c u hc e => by rw [upd_ne hc]; exact e
  have hR : ∀ c u, W.R c = some u → c ≠ a := fun c u e z => by subst z; rw [nr] at e; cases e
  refine ⟨⟨Sub.refl, fun _ _ e => .inl e, fun c u e hc => kp c u (fun z => hc (z ▸ hm)) e, fun c u e => ?_, [], by simp, fun _ h => nomatch h⟩, fun c u e => kp c u (hR c u e) (ok.sub c u e), by rw [List.length_set]; exact ok.len, ok.nd, fun c hc => ?_, fun m c x e1 e2 => ?_⟩
  · by_cases z : c = a
    · subst z; exact ⟨o, upd_same⟩
    · exact ⟨u, kp c u z e⟩
  · by_cases z : c = a
    · subst z; exact ⟨o, upd_same⟩
    · obtain ⟨u, e⟩ := ok.btr c hc
      exact ⟨u, kp c u z e⟩
  · rcases get_set e2 with ⟨q1, q2⟩ | ⟨q1, q2⟩
    · subst q1 q2
      have : c = a := by
        have e1 : W.bs[m]? = some c := e1
        rw [hn] at e1
        exact (Option.some.inj e1).symm
      subst this
      exact hb
    · have hc : c ≠ a := fun z => by
        subst z
        have e1 : W.bs[m]? = some c := e1
        have h1 := (List.getElem?_eq_some_iff.mp e1)
        have h2 := (List.getElem?_eq_some_iff.mp hn)
        exact q1 ((List.getElem_inj ok.nd).mp (h1.2.trans h2.2.symm))
      cases ok.box m c x e1 q2 with
      | dead => exact .dead
      | val q z => exact .val (q.mono Sub.refl fun u e => kp c u hc e) z
      | ins m q f z => exact .ins m (kp c _ hc q) f z
end
/-- a new changeable thing that is shared from now on -/
def eBox (f : SE) : SE := fun ρ B => (f ρ B).bind fun p => match p.1 with
  | .d d => some (.bx p.2.length, p.2 ++ [.val d])
  | _ => none
section
variable {X : Cx} {e o i v : Expr} {f fo fi fv : SE} {pos pt : Pos}
theorem d_box (h : PE X e (tO X f)) : PE X e (tE X (eBox f)) := PE.weak h fun σ H Q ⟨W, E0, ρ, B, r, B', e1, w1, e2, e3, q⟩ => by
  subst e1
  simp only [eBox, Option.bind_eq_some_iff] at e3
  obtain ⟨⟨x, B1⟩, h1, h2⟩ := e3
  cases x with
  | bx n => cases h2
  | fz n => cases h2
  | d d =>
    cases h2
    refine ⟨W, E0, ρ, B, .d d, B1, rfl, w1, e2, h1, fun W' v s ok ⟨a, ev, nb, nr, h0, rt⟩ => ?_⟩
    obtain ⟨s2, ok2⟩ := ok.newBox s nb h0 rt.there (.val rt nr)
    refine q ⟨W'.R, W'.bs ++ [a], W'.H⟩ v s2 ok2 ⟨a, ?_, ev⟩
    rw [List.getElem?_append_right (by rw [← ok.len]; exact Nat.le_refl _), ← ok.len, Nat.sub_self]
    rfl

/-! ### o[i] = v -/
def putD : PyData → PyData → PyData → Option PyData
  | .dict kvs, k, v => if (kOk kvs k && decide (kvs.length < LIM)) = true then some (.dict (dPut kvs k v)) else none
  | .list ds, .int i, v => (ixN ds.length i).map fun j => .list (ds.set j v)
  | _, _, _ => none
def rSet (X : Cx) : TSet := fun o i v H Q => ∃ W B a dd dk dv dz, W.H = H ∧ WX X W B ∧ o = .ref a ∧ W.R a = none ∧ Rt X.w X.K W.R W.H a dd ∧ Rb X.w X.K W.R W.H i dk ∧ Rp X.w X.K W.R v dv ∧ putD dd dk dv = some dz ∧
  ∀ o', Rt X.w X.K W.R (upd W.H a o') a dz → Q (upd W.H a o')
theorem set_D (hu : X.A.units + 65 < cLine) : PSet X (rSet X) := by
  intro pins s σ H o i v ov iv u Q I ro ri rv ⟨W, B, a, dd, dk, dv, dz, e1, ok, e2, nr, rt, hk, hv, hp, q⟩
  subst e1 e2
  unfold putD at hp
  split at hp
  · obtain ⟨hc, e⟩ := ifs hp
    subst e
    simp only [Bool.and_eq_true, decide_eq_true_eq, kOk] at hc
    obtain ⟨⟨hg, hs⟩, hz⟩ := hc
    obtain ⟨k, ek, hd⟩ := keyGood_of hg
    subst ek
    cases rt with
    | dct hH ko re =>
      cases ro
      exact set_dict hu I ok.sub hH ko re hk ri hd hs hv rv (by rw [re.length, lim_eq]; exact hz) nr fun s' ep' xs' I' ko' re' => ⟨_, I', q _ (.dct upd_same ko' re')⟩
  · rw [Option.map_eq_some_iff] at hp
    obtain ⟨j, hj, e⟩ := hp
    subst e
    cases rt with
    | lst hH hr =>
      cases hk
      exact set_list pins s σ W.H _ _ v _ _ u Q I ro ri rv ⟨a, _, _, j, rfl, rfl, hH, by rw [hr.length]; exact hj, q _ (.lst upd_same (hr.set hv j))⟩
  · cases hp
/-- o a box -/
def sPutB (fo fi fv : SE) : SS := fun ρ B => (fv ρ B).bind fun p => (fo ρ p.2).bind fun q => (fi ρ q.2).bind fun t => match q.1 with
  | .bx n => match t.2[n]? with
    | some (.val d) => (deref t.2 t.1).bind fun k => (unD p.1).bind fun x => (putD d k x).bind fun z => some (.nx, ρ, t.2.set n (.val z))
    | _ => none
  | _ => none
theorem ds_putB (hu : X.A.units + 65 < cLine) (ho : PE X o (tB X fo)) (hi : PE X i (tB X fi)) (hv : PE X v (tE X fv)) (hs : swapsWithSole [.Subscript o i pt] v pos.line X.env = pure false := by rfl) (hw : swappedStores [.Subscript o i pt] v X.env = pure none := by rfl)
    (h1 : (assignEach [.Subscript o i pt] X.env).map (·.2) = [assign (.Subscript o i pt) X.env] := by rfl)
    (ha : ∀ v, assign (.Subscript o i pt) X.env v = (do
      let ov ← holding [v] (eval o X.env)
      let iv ← holding [v, ov] (eval i X.env)
      standAt pt
      holding [v, ov, iv] (setItem ov iv v)
      release [v, ov, iv] []) := by intro _; rfl) : PS X (.Assign [.Subscript o i pt] v pos) (tS X (sPutB fo fi fv)) :=
  PS.weak (ps_asg hv (pg_sub ho hi (set_D hu) ha) hs hw h1) fun D σ H ⟨E0, W, ρ, B, oo, ρ', B', e1, at_, e, q⟩ => by
    subst e1
    simp only [sPutB, Option.bind_eq_some_iff] at e
    obtain ⟨⟨rv, B1⟩, h1, ⟨ro, B2⟩, h2, ⟨ri, B3⟩, h3, h4⟩ := e
    refine ⟨W, E0.H, ρ, B, rv, B1, rfl, at_.ok, at_.en, h1, fun W1 v1 s1 ok1 r1 => ?_⟩
    have at1 := at_.step s1 ok1
    refine ⟨W1, E0.H, ρ, B1, ro, B2, rfl, ok1, at1.en, h2, fun W2 v2 s2 ok2 r2 => ?_⟩
    have at2 := at1.step s2 ok2
    refine ⟨W2, E0.H, ρ, B2, ri, B3, rfl, ok2, at2.en, h3, fun W3 v3 s3 ok3 r3 => ?_⟩
    have at3 := at2.step s3 ok3
    split at h4
    · rename_i n e5
      simp only at e5
      subst e5
      split at h4
      · rename_i d hd
        simp only [Option.bind_eq_some_iff] at h4
        obtain ⟨k, h5, x, h6, z, h7, h8⟩ := h4
        cases h8
        obtain ⟨a, ha, rfl⟩ := s3.rpv (w := X.w) (K := X.K) (x := .bx n) r2
        have hx : rv = .d x := by
          cases rv with
          | d y => cases h6; rfl
          | bx n => cases h6
          | fz n => cases h6
        subst hx
        cases ok3.box n a _ ha hd with
        | val rt nr =>
          refine ⟨W3, B3, a, d, k, x, z, rfl, ok3, rfl, nr, rt, rb_of ok3 r3 h5, ?_, h7, fun o' rt' => ?_⟩
          · exact ((show Rp X.w X.K W1.R v1 x from r1).sub s2.R).sub s3.R
          · obtain ⟨s4, ok4⟩ := ok3.putBox (o := o') ha nr (.val rt' nr)
            exact q ⟨W3.R, W3.bs, _⟩ σ ((s1.R.trans s2.R).trans s3.R) (at3.step s4 ok4)
      · cases h4
    · cases h4
/-- x[i] = v, x a name whose thing nobody else knows -/
def sPutO (j : Nat) (fi fv : SE) : SS := fun ρ B => (fv ρ B).bind fun p => (fi ρ p.2).bind fun t => match ρ[j]? with
  | some (.ow d) => (deref t.2 t.1).bind fun k => (unD p.1).bind fun x => (putD d k x).bind fun z => some (.nx, ρ.set j (.ow z), t.2)
  | _ => none
theorem ds_putO {j : Nat} {x : Str} {px : Pos} (hu : X.A.units + 65 < cLine) (hN : X.N[j]? = some x) (hx : Vis X.env.scope x) (hi : PE X i (tB X fi)) (hv : PE X v (tE X fv)) (hs : swapsWithSole [.Subscript (.Name x px) i pt] v pos.line X.env = pure false := by rfl)
    (hw : swappedStores [.Subscript (.Name x px) i pt] v X.env = pure none := by rfl)
    (h1 : (assignEach [.Subscript (.Name x px) i pt] X.env).map (·.2) = [assign (.Subscript (.Name x px) i pt) X.env] := by rfl)
    (ha : ∀ v, assign (.Subscript (.Name x px) i pt) X.env v = (do
      let ov ← holding [v] (eval (.Name x px) X.env)
      let iv ← holding [v, ov] (eval i X.env)
      standAt pt
      holding [v, ov, iv] (setItem ov iv v)
      release [v, ov, iv] []) := by intro _; rfl) (hd : (x == ("__debug__" : Str)) = false := by decide) (hcd : (x == ("__classdict__" : Str)) = false := by decide) : PS X (.Assign [.Subscript (.Name x px) i pt] v pos) (tS X (sPutO j fi fv)) :=
  PS.weak (ps_asg hv (pg_sub (pe_var hN hx hd hcd) hi (set_D hu) ha) hs hw h1) fun D σ H ⟨E0, W, ρ, B, oo, ρ', B', e1, at_, e, q⟩ => by
    subst e1
    simp only [sPutO, Option.bind_eq_some_iff] at e
    obtain ⟨⟨rv, B1⟩, h1, ⟨ri, B3⟩, h3, h4⟩ := e
    split at h4
    · rename_i d hρ
      simp only [Option.bind_eq_some_iff] at h4
      obtain ⟨k, h5, y, h6, z, h7, h8⟩ := h4
      cases h8
      refine ⟨W, E0.H, ρ, B, rv, B1, rfl, at_.ok, at_.en, h1, fun W1 v1 s1 ok1 r1 => ?_⟩
      have at1 := at_.step s1 ok1
      have hq := at1.en.at_ j _ hρ
      generalize hσ : σ[j]? = sv at hq
      cases hq with
      | @ow a _ rt nr nb e0 =>
        refine ⟨.ref a, hσ, ?_⟩
        refine ⟨W1, E0.H, ρ, B1, ri, _, rfl, ok1, at1.en, h3, fun W3 v3 s3 ok3 r3 => ?_⟩
        have at3 := at1.step s3 ok3
        obtain ⟨ob, hob⟩ := rt.there
        have hx : rv = .d y := by
          cases rv with
          | d y => cases h6; rfl
          | bx n => cases h6
          | fz n => cases h6
        subst hx
        refine ⟨W3, _, a, d, k, y, z, rfl, ok3, rfl, s3.noR hob nr, rt.mono s3.R fun o e => s3.keep a o e nb, rb_of ok3 r3 h5, (show Rp X.w X.K W1.R v1 y from r1).sub s3.R, h7, fun o' rt' => ?_⟩
        exact q ⟨W3.R, W3.bs, _⟩ σ (s1.R.trans s3.R) (at3.write hρ hσ rt')
    · cases h4
end
end DL
end

section
set_option Elab.async false
set_option linter.all false
set_option maxRecDepth 100000
set_option autoImplicit false
/-! The data layer 12: op=, a, b = .., displays of dicts. -/
namespace DL
open PySem PySem.Spec PyProof.Rows L2

/-! ### name op= e -/
def sAug (i : Nat) (g : PyData → PyData → Option PyData) (fe : SE) : SS := fun ρ B => match ρ[i]? with
  | some (.sh x) => (fe ρ B).bind fun p => (deref p.2 x).bind fun dx => (deref p.2 p.1).bind fun dy => (g dx dy).bind fun z => some (.nx, ρ.set i (.sh (.d z)), p.2)
  | _ => none
section
variable {X : Cx} {e o i v : Expr} {fe fo fi fv : SE} {pos pt pos' : Pos} {j : Nat} {x : Str} {g : PyData → PyData → Option PyData} {op : Operator}
theorem ds_aug (hN : X.N.Nodup) (hi : X.N[j]? = some x) (hx : Loc X.env.scope x) (ho : OpD X (inplaceOp op) g) (he : PE X e (tB X fe)) (hf : X.fn x = true ∨ X.env.scope.names.lookup x = some .local := by first | exact .inl rfl | exact .inr rfl | assumption) :
    PS X (.AugAssign (.Name x pos') op e pos) (tS X (sAug j g fe)) := PS.weak (ps_aug hN hi hx he (ti := rD X g) (fun pins s σ H x y v u Q I rx ry q => ho pins s σ H x y v u Q I rx ry q) hf) fun D σ H ⟨E0, W, ρ, B, oo, ρ', B', e1, at_, e, q⟩ => by
  subst e1
  unfold sAug at e
  split at e
  · rename_i y hy
    have hl := (List.getElem?_eq_some_iff.mp hy).1
    simp only [Option.bind_eq_some_iff] at e
    obtain ⟨⟨r, B1⟩, h1, dx, h2, dy, h3, z, h4, h5⟩ := e
    cases h5
    have hq := at_.en.at_ j _ hy
    generalize hσ : σ[j]? = sv at hq
    cases hq with
    | @sh v _ rv =>
      refine ⟨v, hσ, W, E0.H, ρ, B, r, B1, rfl, at_.ok, at_.en, h1, fun W1 v1 s1 ok1 r1 => ?_⟩
      refine ⟨W1, B1, dx, dy, z, rfl, ok1, rb_of ok1 (RpV.rbv (s1.rpv rv)) h2, rb_of ok1 r1 h3, h4, fun W2 v2 s2 ok2 r2 => ?_⟩
      have at2 := (at_.step s1 ok1).step s2 ok2
      exact q W2 _ (s1.R.trans s2.R) ⟨at2.st, at2.ok, at2.en.set hl (.sh r2) fun d e => nomatch e⟩
  · cases e

/-! ### o[i] op= e, o a box that is a dict -/
theorem get_D (hu : X.A.units + 65 < cLine) : PGet X (rGet X) := by
  intro pins s σ H x y v u Q I rx ry ⟨W, B, kvs, dk, z, e1, ok, hx, hy, hk, hf, q⟩
  subst e1
  unfold kOk at hk
  rw [Bool.and_eq_true] at hk
  obtain ⟨k, ek, hd⟩ := keyGood_of hk.1
  subst ek
  cases hx with
  | dct hH ko re =>
    cases rx
    have rv := re.parts.2
    have hp := Inv.dctR I hH
    obtain ⟨vu, vv, e1, r1, r2⟩ := (rv.find k).1 z hf
    have fin : ∀ t, EP X pins σ Q vu { s with toks := t } := fun t => ⟨vv, W.H, I.tok t, r1, q vv r2⟩
    cases look_of I ok.sub hH ko re hy ry hd hk.2 with
    | leaf h1 h2 h3 => exact wpAny_getItem_of h1 h3.mapOf e1 (fin _)
    | tup e h1 h2 h3 h4 h5 =>
      subst e
      have hm : s.heap.DictKeyed (nestedKind X.prog X.w) _ (prs _) := ⟨_, h5, prs_adrs _⟩
      exact getItem_keyed (room_nested hu) ⟨h2, h3⟩ hm e1 (fin _)
def sAugB (fo fi : SE) (g : PyData → PyData → Option PyData) (fe : SE) : SS := fun ρ B => (fo ρ B).bind fun p => (fi ρ p.2).bind fun t => match p.1 with
  | .bx n => match t.2[n]? with
    | some (.val (.dict kvs)) => (deref t.2 t.1).bind fun k => if kOk kvs k = true then (dFind kvs k).bind fun old => (fe ρ t.2).bind fun r => (deref r.2 (.d old)).bind fun old' => (deref r.2 r.1).bind fun dy => (g old' dy).bind fun z =>
        match r.2[n]? with
        | some (.val d) => (putD d k z).bind fun d' => some (.nx, ρ, r.2.set n (.val d'))
        | _ => none
      else none
    | _ => none
  | _ => none
theorem Rb.keyD {w : World} {K : PySem.W.Frag} {R H R' H' : Hp} {v : V} {k : PyData} (sub : Sub R H) (hR : Sub R R') (hk : keyGood k = true) (sub' : Sub R' H') (h : Rb w K R H v k) : Rb w K R' H' v k := by
  obtain ⟨k, e, _⟩ := keyGood_of hk
  subst e
  exact ((h.key sub).sub hR).rb sub'
theorem ds_augB (hu : X.A.units + 65 < cLine) (ho : PE X o (tB X fo)) (hi : PE X i (tB X fi)) (hop : OpD X (inplaceOp op) g) (he : PE X e (tE X fe))
    (ha : ∀ ov iv new, augStore i ov iv new = (do holding [new, ov, iv] (setItem ov iv new); release [new, ov, iv] []; pure .next) := by intros; rfl) : PS X (.AugAssign (.Subscript o i pt) op e pos) (tS X (sAugB fo fi g fe)) :=
  PS.weak (ps_augS ho hi (get_D hu) he (tip := rD X g) (fun pins s σ H x y v u Q I rx ry q => hop pins s σ H x y v u Q I rx ry q) (set_D hu) ha) fun D σ H ⟨E0, W, ρ, B, oo, ρ', B', e1, at_, e, q⟩ => by
    subst e1
    simp only [sAugB, Option.bind_eq_some_iff] at e
    obtain ⟨⟨ro, B1⟩, h1, ⟨ri, B2⟩, h2, h3⟩ := e
    refine ⟨W, E0.H, ρ, B, ro, B1, rfl, at_.ok, at_.en, h1, fun W1 v1 s1 ok1 r1 => ?_⟩
    have at1 := at_.step s1 ok1
    refine ⟨W1, E0.H, ρ, B1, ri, B2, rfl, ok1, at1.en, h2, fun W2 v2 s2 ok2 r2 => ?_⟩
    have at2 := at1.step s2 ok2
    split at h3
    · rename_i n e5
      simp only at e5
      subst e5
      split at h3
      · rename_i kvs hd
        simp only [Option.bind_eq_some_iff] at h3
        obtain ⟨k, h5, h6⟩ := h3
        obtain ⟨hk, h6⟩ := ifs2 h6
        simp only [Option.bind_eq_some_iff] at h6
        obtain ⟨old, h7, ⟨re, B3⟩, h8, old', h9, dy, h10, z, h11, h12⟩ := h6
        cases h9
        obtain ⟨a, ha, rfl⟩ := s2.rpv (w := X.w) (K := X.K) (x := .bx n) r1
        have hkey := rb_of ok2 r2 h5
        have hkg : keyGood k = true := by
          unfold kOk at hk
          rw [Bool.and_eq_true] at hk
          exact hk.1
        cases ok2.box n a _ ha hd with
        | val rt nr =>
          refine ⟨W2, B2, kvs, k, old, rfl, ok2, rt.rb, hkey, hk, h7, fun vg rg => ?_⟩
          refine ⟨W2, E0.H, ρ, B2, re, B3, rfl, ok2, at2.en, h8, fun W3 v3 s3 ok3 r3 => ?_⟩
          have at3 := at2.step s3 ok3
          refine ⟨W3, B3, old, dy, z, rfl, ok3, (rg.sub s3.R).rb ok3.sub, rb_of ok3 (RpV.rbv r3) h10, h11, fun W4 v4 s4 ok4 r4 => ?_⟩
          have at4 := at3.step s4 ok4
          split at h12
          · rename_i d hd'
            simp only [Option.bind_eq_some_iff] at h12
            obtain ⟨d', h13, h14⟩ := h12
            cases h14
            have ha4 := s4.bget (s3.bget ha)
            cases ok4.box n a _ ha4 hd' with
            | val rt' nr' =>
              refine ⟨W4, B3, a, d, k, z, d', rfl, ok4, rfl, nr', rt', hkey.keyD ok2.sub (s3.R.trans s4.R) hkg ok4.sub, r4, h13, fun o' rt'' => ?_⟩
              obtain ⟨s5, ok5⟩ := ok4.putBox (o := o') ha4 nr' (.val rt'' nr')
              exact q ⟨W4.R, W4.bs, _⟩ σ ((((s1.R.trans s2.R).trans s3.R)).trans s4.R) (at4.step s5 ok5)
          · cases h12
      · cases h3
    · cases h3
end

/-! ### a, b = e, f -/
def RM (b : Bool) (w : World) (K : PySem.W.Frag) (H0 : Hp) (W : Wd) (v : V) (x : Vl) : Prop := if b = true then (∃ d, x = .d d ∧ RoV w K H0 W v (.d d)) else RpV w K W.R W.bs v x
def slM (b : Bool) (x : Vl) : Option Sl := if b = true then (match x with
  | .d d => some (.ow d)
  | _ => none) else some (.sh x)
def tM (b : Bool) (X : Cx) (f : SE) : TE := if b = true then tO X f else tE X f
theorem Step.rm {w : World} {K : PySem.W.Frag} {H0 : Hp} {W W' : Wd} {b : Bool} {v : V} {x : Vl} (s : Step W W') (h : RM b w K H0 W v x) : RM b w K H0 W' v x := by
  unfold RM at *
  cases b with
  | false => exact s.rpv h
  | true =>
    rw [if_pos rfl] at *
    obtain ⟨d, e, a, ev, nb, nr, h0, rt⟩ := h
    obtain ⟨o, ho⟩ := rt.there
    exact ⟨d, e, a, ev, s.nobx ho nb, s.noR ho nr, h0, rt.mono s.R fun o e => s.keep a o e nb⟩
/-- what the names own is there -/
def OwnIn (σ : L2.St) (ρ : EnvD) (H0 : Hp) : Prop := ∀ (j : Nat) (d : PyData) (a : Addr), ρ[j]? = some (Sl.ow d) → σ[j]? = some (some (V.ref a)) → H0 a ≠ none
theorem own_there {X : Cx} {W : Wd} {E0 : Hp} {σ : L2.St} {ρ : EnvD} (en : EX X W E0 σ ρ) : OwnIn σ ρ W.H := fun j d a hj hσ => by
  have q := en.at_ j _ hj
  rw [hσ] at q
  cases q with
  | ow rt _ _ _ => exact rt.inj_none
/-- a slot is set, owned or not -/
theorem EOk.setM {X : Cx} {W : Wd} {E0 H0 : Hp} {σ : L2.St} {ρ : EnvD} {i : Nat} {b : Bool} {v : V} {x : Vl} {s : Sl} (en : EX X W E0 σ ρ) (hi : i < ρ.length) (h : RM b X.w X.K H0 W v x) (hs : slM b x = some s) (hE : ∀ a, H0 a = none → E0 a = none)
    (hf : OwnIn σ ρ H0) : EX X W E0 (σ.set i (some v)) (ρ.set i s) := by
  unfold RM at h
  unfold slM at hs
  cases b with
  | false =>
    rw [if_neg Bool.false_ne_true] at h hs
    cases hs
    exact en.set hi (.sh h) fun d e => nomatch e
  | true =>
    rw [if_pos rfl] at h hs
    obtain ⟨d, e, a, ev, nb, nr, h0, rt⟩ := h
    subst e ev
    cases hs
    exact en.set hi (.ow rt nr nb (hE a h0)) fun d' _ j e' _ hj z => hf j e' a hj z h0
def sPar (b c : Bool) (i j : Nat) (f h : SE) : SS := fun ρ B => (f ρ B).bind fun p => (h ρ p.2).bind fun q => (slM b p.1).bind fun s1 => (slM c q.1).bind fun s2 => if i < ρ.length ∧ j < ρ.length then some (.nx, (ρ.set i s1).set j s2, q.2) else none
def sPar3 (b c d : Bool) (i j l : Nat) (f h k : SE) : SS := fun ρ B => (f ρ B).bind fun p => (h ρ p.2).bind fun q => (k ρ q.2).bind fun r => (slM b p.1).bind fun s1 => (slM c q.1).bind fun s2 => (slM d r.1).bind fun s3 =>
  if i < ρ.length ∧ j < ρ.length ∧ l < ρ.length then some (.nx, ((ρ.set i s1).set j s2).set l s3, r.2) else none
theorem own_set {X : Cx} {W1 : Wd} {H0 : Hp} {σ : L2.St} {ρ : EnvD} {i : Nat} {b : Bool} {v : V} {x : Vl} {s : Sl} (len : σ.length = ρ.length) (hi : i < ρ.length) (h : OwnIn σ ρ W1.H) (rm : RM b X.w X.K H0 W1 v x) (hs : slM b x = some s) : OwnIn (σ.set i (some v)) (ρ.set i s) W1.H := fun k d a g1 g2 => by
  rcases get_set g1 with ⟨z1, z2⟩ | ⟨z1, z2⟩
  · subst z1
    have hσ : k < σ.length := by rw [len]; exact hi
    rw [List.getElem?_set_self hσ] at g2
    cases g2
    subst z2
    unfold slM at hs
    cases b with
    | false => cases hs
    | true =>
      unfold RM at rm
      rw [if_pos rfl] at rm
      obtain ⟨_, _, a', ev, _, _, _, rt⟩ := rm
      cases ev
      exact rt.inj_none
  · rw [List.getElem?_set_ne (Ne.symm z1)] at g2
    exact h k d a z2 g2
section
variable {X : Cx} {σ : L2.St} {H : Hp}
theorem tM_run {b : Bool} {f : SE} {W : Wd} {E0 : Hp} {ρ : EnvD} {B B1 : Bs} {r : Vl} {s : Sl} {Q : VK} (ok : WX X W B) (en : EX X W E0 σ ρ) (h : f ρ B = some (r, B1)) (hs : slM b r = some s)
    (q : ∀ W' v, Step W W' → WX X W' B1 → RM b X.w X.K W.H W' v r → Q v W'.H) : tM b X f σ W.H Q := by
  unfold tM
  unfold slM at hs
  cases b with
  | false => exact ⟨W, E0, ρ, B, r, B1, rfl, ok, en, h, fun W' v s ok' rv => q W' v s ok' rv⟩
  | true =>
    rw [if_pos rfl] at hs
    cases r with
    | bx n => cases hs
    | fz n => cases hs
    | d d => exact ⟨W, E0, ρ, B, .d d, B1, rfl, ok, en, h, fun W' v s ok' rv => q W' v s ok' ⟨d, rfl, rv⟩⟩
variable {f h k : SE} {a b c : Expr} {x y z : Str} {px py pz pt pos : Pos} {i j l : Nat} {kt k2 pt2} {m n o : Bool}
theorem ds_par (hc : X.calm = true) (hN : X.N.Nodup) (hi : X.N[i]? = some x) (hj : X.N[j]? = some y) (hij : i ≠ j) (hx : X.env.scope.names.lookup x = some .local) (hy : X.env.scope.names.lookup y = some .local) (ha : PE X a (tM m X f)) (hb : PE X b (tM n X h))
    (hs1 : starEach [a, b] X.env = (false, eval a X.env) :: starEach [b] X.env := by rfl) (hs2 : starEach [b] X.env = (false, eval b X.env) :: starEach [] X.env := by rfl)
    (hw : swappedStores [.Tuple [.Name x px, .Name y py] kt pt] (.Tuple [a, b] k2 pt2) X.env = pure (some [x, y]) := by rfl)
    (hs : swapsWithSole [.Tuple [.Name x px, .Name y py] kt pt] (.Tuple [a, b] k2 pt2) pos.line X.env = pure false := by rfl) :
    PS X (.Assign [.Tuple [.Name x px, .Name y py] kt pt] (.Tuple [a, b] k2 pt2) pos) (tS X (sPar m n i j f h)) :=
  PS.weak (ps_par hc hN hi hj hij hx hy (pa_cons ha (pa_cons hb pa_nil hs2) hs1) hw hs) fun D σ H ⟨E0, W, ρ, B, oo, ρ', B', e1, at_, e, q⟩ => by
    subst e1
    simp only [sPar, Option.bind_eq_some_iff] at e
    obtain ⟨⟨r1, B1⟩, h1, ⟨r2, B2⟩, h2, s1, h3, s2, h4, h5⟩ := e
    obtain ⟨⟨hi, hj⟩, h5⟩ := ifs2 h5
    cases h5
    refine tM_run at_.ok at_.en h1 h3 fun W1 v1 st1 ok1 rm1 => ?_
    have at1 := at_.step st1 ok1
    refine tM_run ok1 at1.en h2 h4 fun W2 v2 st2 ok2 rm2 => ?_
    have at2 := at1.step st2 ok2
    refine ⟨v1, v2, rfl, ?_⟩
    have en1 : EX X W2 E0.H (σ.set i (some v1)) (ρ.set i s1) := EOk.setM at2.en hi (st2.rm rm1) h3 (fun a z => untracked at_.st z) (own_there at_.en)
    have en2 : EX X W2 E0.H ((σ.set i (some v1)).set j (some v2)) ((ρ.set i s1).set j s2) := EOk.setM en1 (by rw [List.length_set]; exact hj) rm2 h4 (fun a z => untracked at1.st z) (own_set at_.en.len hi (own_there at1.en) rm1 h3)
    exact q W2 _ (st1.R.trans st2.R) ⟨at2.st, ok2, en2⟩
theorem ds_par3 (hc : X.calm = true) (hN : X.N.Nodup) (hi : X.N[i]? = some x) (hj : X.N[j]? = some y) (hl : X.N[l]? = some z) (hij : i ≠ j) (hil : i ≠ l) (hjl : j ≠ l) (hx : X.env.scope.names.lookup x = some .local) (hy : X.env.scope.names.lookup y = some .local) (hz : X.env.scope.names.lookup z = some .local)
    (ha : PE X a (tM m X f)) (hb : PE X b (tM n X h)) (hcc : PE X c (tM o X k))
    (hs1 : starEach [a, b, c] X.env = (false, eval a X.env) :: starEach [b, c] X.env := by rfl) (hs2 : starEach [b, c] X.env = (false, eval b X.env) :: starEach [c] X.env := by rfl) (hs3 : starEach [c] X.env = (false, eval c X.env) :: starEach [] X.env := by rfl)
    (hw : swappedStores [.Tuple [.Name x px, .Name y py, .Name z pz] kt pt] (.Tuple [a, b, c] k2 pt2) X.env = pure (some [x, y, z]) := by rfl)
    (hs : swapsWithSole [.Tuple [.Name x px, .Name y py, .Name z pz] kt pt] (.Tuple [a, b, c] k2 pt2) pos.line X.env = pure false := by rfl) :
    PS X (.Assign [.Tuple [.Name x px, .Name y py, .Name z pz] kt pt] (.Tuple [a, b, c] k2 pt2) pos) (tS X (sPar3 m n o i j l f h k)) :=
  PS.weak (ps_par3 hc hN hi hj hl hij hil hjl hx hy hz (pa_cons ha (pa_cons hb (pa_cons hcc pa_nil hs3) hs2) hs1) hw hs) fun D σ H ⟨E0, W, ρ, B, oo, ρ', B', e1, at_, e, q⟩ => by
    subst e1
    simp only [sPar3, Option.bind_eq_some_iff] at e
    obtain ⟨⟨r1, B1⟩, h1, ⟨r2, B2⟩, h2, ⟨r3, B3⟩, h2b, s1, h3, s2, h4, s3, h4b, h5⟩ := e
    obtain ⟨⟨hi, hj, hl⟩, h5⟩ := ifs2 h5
    cases h5
    refine tM_run at_.ok at_.en h1 h3 fun W1 v1 st1 ok1 rm1 => ?_
    have at1 := at_.step st1 ok1
    refine tM_run ok1 at1.en h2 h4 fun W2 v2 st2 ok2 rm2 => ?_
    have at2 := at1.step st2 ok2
    refine tM_run ok2 at2.en h2b h4b fun W3 v3 st3 ok3 rm3 => ?_
    have at3 := at2.step st3 ok3
    refine ⟨v1, v2, v3, rfl, ?_⟩
    have len1 : (σ.set i (some v1)).length = (ρ.set i s1).length := by rw [List.length_set, List.length_set]; exact at_.en.len
    have hj' : j < (ρ.set i s1).length := by rw [List.length_set]; exact hj
    have en1 : EX X W3 E0.H (σ.set i (some v1)) (ρ.set i s1) := EOk.setM at3.en hi (st3.rm (st2.rm rm1)) h3 (fun a z => untracked at_.st z) (own_there at_.en)
    have en2 : EX X W3 E0.H ((σ.set i (some v1)).set j (some v2)) ((ρ.set i s1).set j s2) := EOk.setM en1 hj' (st3.rm rm2) h4 (fun a z => untracked at1.st z) (own_set at_.en.len hi (own_there at1.en) rm1 h3)
    have en3 : EX X W3 E0.H (((σ.set i (some v1)).set j (some v2)).set l (some v3)) (((ρ.set i s1).set j s2).set l s3) := EOk.setM en2 (by rw [List.length_set, List.length_set]; exact hl) rm3 h4b (fun a z => untracked at2.st z)
      (own_set len1 hj' (own_set at_.en.len hi (own_there at2.en) (st2.rm rm1) h3) rm2 h4)
    exact q W3 _ ((st1.R.trans st2.R).trans st3.R) ⟨at3.st, ok3, en3⟩
end
end DL
end

section
set_option Elab.async false
set_option linter.all false
set_option maxRecDepth 100000
set_option autoImplicit false
/-! The data layer 13: sorted, len, index, list of a range, dict of a dict, == of dicts. -/
namespace DL
open PySem PySem.Spec PyProof.Rows L2

/-! ### sorted -/
/-- values with their data -/
def VD (w : World) (K : PySem.W.Frag) (R : Hp) (v : Value) (d : PyData) : Prop := ∃ x, RelV x v ∧ Rp w K R x d
theorem vd_of {w : World} {K : PySem.W.Frag} {R : Hp} {xs : List V} {vs : List Value} {ds : List PyData} (r : Vals xs vs) (h : Rps w K R xs ds) : PySem.W.EachIs (VD w K R) vs ds := by
  induction r generalizing ds with
  | nil => cases h; exact .nil
  | cons a b ih =>
    cases h with
    | cons c d => exact .cons ⟨_, a, c⟩ (ih d)
theorem of_vd {w : World} {K : PySem.W.Frag} {R : Hp} : ∀ {vs : List Value} {ds : List PyData}, PySem.W.EachIs (VD w K R) vs ds → ∃ xs, Vals xs vs ∧ Rps w K R xs ds
  | _, _, .nil => ⟨[], .nil, .nil⟩
  | _, _, .cons ⟨x, a, b⟩ r => by
    obtain ⟨xs, h1, h2⟩ := of_vd r
    exact ⟨x :: xs, .cons a h1, .cons b h2⟩
def sortableB (ds : List PyData) : Bool := (ds.all fun d => match d with
  | .tuple (_ :: _) => true
  | _ => false) || ds.all fun d => match d with
  | .none => false
  | .tuple _ => false
  | _ => true
theorem sortable_of {ds : List PyData} (h : sortableB ds = true) : PySem.W.Sortable ds := by
  unfold sortableB at h
  rw [Bool.or_eq_true, List.all_eq_true, List.all_eq_true] at h
  rcases h with h | h
  · refine .inl fun d hd => ?_
    have q := h d hd
    split at q
    · exact ⟨_, _, rfl⟩
    · cases q
  · refine .inr fun d hd => ?_
    have q := h d hd
    constructor
    · intro e; subst e; cases q
    · intro xs e; subst e; cases q
def sortD (ds : List PyData) : Option (List PyData) := if (allAlike ds && sortableB ds && decide (PyData.depthAll ds ≤ 60)) = true then some (ds.mergeSort (PySem.W.dataLe false fun d => d)) else none
section
variable {prog : Program} {w : World} {A : Around} {E : Value → Shared → Prop} {s : Shared}
theorem sorted_col {r : Addr} {vs : List Value} {ds : List PyData} {R : Value → PyData → Prop} {Q : Value → Shared → Prop} (hL : vs.length ≤ sizeLine)
    (col : ∀ (P : List Value → Shared → Prop) (E : Value → Shared → Prop), (∀ (h' : Heap) (tk : Nat), (∀ b o, s.heap.get? b = some o → h'.get? b = some o) → P vs { s with heap := h', toks := tk }) → wpAny (model prog w) A.in1 (collect (.ref r)) P E s)
    (e : PySem.W.EachIs R vs ds) (er : PySem.W.EachIs (fun v d => ∃ as, Reads s.heap v d as) vs ds) (hal : PySem.W.AllAlike ds) (hk : PySem.W.Sortable ds) (hu : ∀ d, d ∈ ds → A.units + 2 + d.depth < cLine)
    (h : ∀ (h1 h' : Heap) (tk : Nat) (a : Addr) (out : List Value) (n : Nat), (∀ b o, s.heap.get? b = some o → h1.get? b = some o) → (∀ b o, h1.get? b = some o → h'.get? b = some o) → h1.objs.size ≤ a → h'.get? a = some { cls := .type "list", data := .seq out.toArray n } → PySem.W.EachIs R out (ds.mergeSort (PySem.W.dataLe false fun d => d)) → Q (.ref a) { s with heap := h', toks := tk }) :
    wpAny (model prog w) A (call (.builtin "sorted") [.ref r]) Q E s := by
  refine PyProof.Rows.call_function_entry_kw kind_sorted plain_sorted entry_sorted (args_sorted1 _) ?_
  unfold Builtin.«sorted»
  refine wpAny_bind (m := checkCount "sorted" 1 1 _) (wpAny_pure ?_)
  refine wpAny_bind (col _ _ fun h1 tk k1 => ?_)
  refine wpAny_bind (wpAny_newList ?_ hL)
  have k2 : ∀ b o, h1.get? b = some o → b ≠ h1.objs.size ∧ (h1.push (seqObj "list" vs.toArray 0)).get? b = some o := fun b o q => ⟨Nat.ne_of_lt (Heap.lt_size q), Heap.get?_push_of_some _ q⟩
  have hp : (h1.push (seqObj "list" vs.toArray 0)).objs.size = h1.objs.size + 1 := size_push' ..
  generalize ha : h1.objs.size = a at k2 hp
  have ho : (h1.push (seqObj "list" vs.toArray 0)).get? a = some (seqObj "list" vs.toArray 0) := by rw [← ha]; exact Heap.get?_push_size _ rfl
  have k3 : ∀ b o, h1.get? b = some o → (PySem.W.sortingHeap (h1.push (seqObj "list" vs.toArray 0)) a vs).get? b = some o := fun b o q => PySem.W.sortingHeap_old (k2 b o q).1 (k2 b o q).2
  have er' : PySem.W.EachIs (fun v d => ∃ as, Reads (PySem.W.sortingHeap (h1.push (seqObj "list" vs.toArray 0)) a vs) v d as) vs ds := er.mono fun _ _ ⟨as, r⟩ => ⟨as, PyProof.Rows.Reads.keeps (fun b o q => k3 b o (k1 b o q)) r⟩
  have em : ds.map (fun d => d) = ds := List.map_id' ds
  have S := PySem.W.SortsAt.data (prog := prog) (w := w) (A := A.in1.in1) (s := { s with heap := PySem.W.sortingHeap (h1.push (seqObj "list" vs.toArray 0)) a vs, toks := tk }) er' hal hk hu
  have hs := PySem.W.sortVals_data (enc := fun d => d) false e er' (by rw [em]; exact hal)
  rw [em] at hs
  show wpAny _ _ _ _ _ { s with heap := h1.push (seqObj "list" vs.toArray 0), toks := tk }
  refine wpAny_bind (wpAny_holding (wpAny_call_entry_kw slot_list_sort ⟨_, ho, rfl⟩ entry_list_sort ?body (args_list_sort _)))
  case body =>
    refine PySem.W.list_sort_vals (s := { s with heap := h1.push (seqObj "list" vs.toArray 0), toks := tk }) ho S hL ⟨_, rfl, ?_⟩
    obtain ⟨n, hn⟩ := sortedHeap_at (vs := vs) (out := (PySem.W.sortVals (PySem.W.dataKind (PySem.W.sortingHeap (h1.push (seqObj "list" vs.toArray 0)) a vs) ds) false vs vs).toArray) ho
    refine wpAny_pure ⟨_, rfl, h h1 _ tk a _ n k1 (fun b o q => ?_) (Nat.le_of_eq ha) hn hs⟩
    rw [sortedHeap_old (k2 b o q).1 (by rw [hp, ← ha]; exact Nat.lt_succ_of_lt (Heap.lt_size q))]
    exact (k2 b o q).2
end

/-! ### what one walks through at once -/
def colD : PyData → Option (List PyData)
  | .list ds => some ds
  | .tuple ds => some ds
  | .dict kvs => some (kvs.map (·.1))
  | _ => none
section
variable {X : Cx} {pins : List (Addr × Obj)} {σ : L2.St} {s : Shared} {R H : Hp}
theorem key_vals {w : World} {K : PySem.W.Frag} {R : Hp} : ∀ {xs : List Ent} {kvs : List (PyData × PyData)}, Rpe w K R xs kvs → ∃ ks, Vals ks (xs.map (·.2.1)) ∧ Rps w K R ks (kvs.map (·.1))
  | _, _, .nil => ⟨[], .nil, .nil⟩
  | _, _, .cons a b c d r => by
    obtain ⟨ks, h1, h2⟩ := key_vals r
    exact ⟨_ :: ks, .cons a h1, .cons b h2⟩
/-- the items of a list, a tuple, a dict, taken at once -/
theorem col_ok (I : Inv X pins σ H s) (sub : Sub R H) {x : V} {u : Value} {d : PyData} {ds : List PyData} (hx : Rb X.w X.K R H x d) (rx : RelV x u) (hc : colD d = some ds) : ∃ (a : Addr) (xs : List V) (vs : List Value), u = .ref a ∧ Vals xs vs ∧ Rps X.w X.K R xs ds ∧ vs.length ≤ sizeLine ∧
    ∀ (A : Around) (P : List Value → Shared → Prop) (E : Value → Shared → Prop), A.handled = none → (∀ (h' : Heap) (tk : Nat), (∀ b o, s.heap.get? b = some o → h'.get? b = some o) → P vs { s with heap := h', toks := tk }) → wpAny (model X.prog X.w) A (collect (.ref a)) P E s := by
  unfold colD at hc
  split at hc
  · cases hc
    cases hx with
    | @lst a vs _ hq hr =>
      cases rx
      obtain ⟨hz, its, n, rv, hl, eo⟩ := Inv.lstR I hq
      refine ⟨a, vs, its, rfl, rv, hr, by rw [← rv.length]; exact hz, fun A P E hh h => ?_⟩
      exact wpAny_collect_seq a (.inl rfl) eo rfl rfl (fun h' k => by simpa using h h' s.toks k) (by rw [List.size_toArray]; exact rv.length ▸ hz)
  · cases hc
    cases hx with
    | @tup a vs _ hq hr =>
      cases rx
      obtain ⟨its, rv, ⟨o, ho, hc, n, hd⟩, hz⟩ := I.tuple (SqT.sub sub hq)
      have hz' : its.toArray.size ≤ sizeLine := by rw [List.size_toArray]; exact rv.length ▸ hz
      refine ⟨a, vs, its, rfl, rv, hr, by simpa using hz', fun A P E hh h => ?_⟩
      exact wpAny_collect_seq a (.inr rfl) ho hc hd (fun h' k => by simpa using h h' s.toks k) hz'
  · cases hc
    cases hx with
    | @dct a ep xs kvs hq ko re =>
      cases rx
      obtain ⟨ks, h1, h2⟩ := key_vals re
      have hp := Inv.dctR I hq
      obtain ⟨es, hm, he⟩ := hp.raw
      have hl : es.size = xs.length := by rw [← Array.length_toList, he, List.length_map]
      have hz : xs.length ≤ sizeLine := hp.1
      refine ⟨a, ks, _, rfl, h1, h2, by rw [List.length_map]; exact hz, fun A P E hh h => ?_⟩
      refine PySem.W.kdu_collect (PySem.KdlSrc.rawDict hp.2.1) hh hm (by omega) fun h' tk acc k it => ?_
      have e : acc.toList = xs.map (·.2.1) := by
        apply List.ext_getElem?
        intro j
        have hsz : acc.size = es.size := it.1
        by_cases hj : j < acc.size
        · have hje : j < es.size := by omega
          obtain ⟨_, hv⟩ := it.2 j acc[j] (Array.getElem?_eq_getElem hj)
          rw [Array.getElem?_toList, Array.getElem?_eq_getElem hj, hv]
          have h3 : es.toList[j]? = some es[j] := by rw [Array.getElem?_toList]; exact Array.getElem?_eq_getElem hje
          rw [he, List.getElem?_map, Option.map_eq_some_iff] at h3
          obtain ⟨en, h4, h5⟩ := h3
          rw [List.getElem?_map, h4, ← h5]
          rfl
        · rw [List.getElem?_eq_none (by simpa using hj), List.getElem?_eq_none (by rw [List.length_map]; omega)]
      rw [e]
      exact h h' tk k
  · cases hc
end
def sortedF : List PyData → Option PyData
  | [d] => (colD d).bind fun ds => (sortD ds).map .list
  | _ => none
section
variable {X : Cx} {e : Expr} {p pos : Pos}
theorem depth_mem : ∀ {ds : List PyData} {d : PyData}, d ∈ ds → d.depth ≤ PyData.depthAll ds
  | [], _, h => nomatch h
  | x :: xs, d, h => by
    rw [PyData.depthAll]
    rcases List.mem_cons.mp h with e | h
    · subst e; exact Nat.le_max_left _ _
    · exact Nat.le_trans (depth_mem h) (Nat.le_max_right _ _)
theorem cd_sorted (hc : X.calm = true) (hu : X.A.units + 200 < cLine) : CallR X (.builtin "sorted") (rCO X sortedF) := by
  intro pins s σ H xs us Q I rs ⟨W, B, ds, z, e1, ok, hx, hg, q⟩
  subst e1
  unfold sortedF at hg
  split at hg
  · rename_i d
    rw [Option.bind_eq_some_iff] at hg
    obtain ⟨ds, hcd, h2⟩ := hg
    rw [Option.map_eq_some_iff] at h2
    obtain ⟨ys, h3, h4⟩ := h2
    subst h4
    unfold sortD at h3
    obtain ⟨hcond, e5⟩ := ifs h3
    subst e5
    simp only [Bool.and_eq_true, decide_eq_true_eq] at hcond
    obtain ⟨⟨ha, hs⟩, hd⟩ := hcond
    obtain ⟨v, rfl, h⟩ := rbs1 hx
    obtain ⟨u, rfl, ru⟩ := vals1 rs
    obtain ⟨a, ks, vs, rfl, rv, hr, hz, col⟩ := col_ok I ok.sub h ru hcd
    have er : PySem.W.EachIs (fun v d => ∃ as, Reads s.heap v d as) vs ds := (vd_of rv hr).mono fun v d ⟨x, h1, h2⟩ => (h2.sub ok.sub).reads I h1
    refine sorted_col hz (fun P E h => col X.A.in1 P E (I.ok.hd hc) h) (vd_of rv hr) er (fun d hd d' hd' => (allAlike_of ha).1 d hd d' hd') (sortable_of hs) (fun d hd' => ?_) fun h1 h' tk b out n k1 k2 hb ho eo => ?_
    · have := depth_mem hd'
      omega
    · obtain ⟨ys, rv', hr'⟩ := of_vd eo
      have I1 := I.kept (h' := h1) (t' := tk) k1
      have hlen : ys.length ≤ sizeLine := by
        rw [hr'.length, List.length_mergeSort, ← hr.length, rv.length]
        exact hz
      have I2 := I1.laid (a := b) (o := .lst ys) (h' := h') (t' := tk) k2 hb ⟨hlen, out, n, rv', ho⟩
      have hn : W.H b = none := I1.hok.fresh hb
      obtain ⟨st, ok', ro⟩ := new_lst ok hn hr'
      exact ⟨.ref b, _, I2, rfl, q _ _ st ok' ro⟩
  · cases hg
end
end DL
end

section
set_option Elab.async false
set_option linter.all false
set_option maxRecDepth 100000
set_option autoImplicit false
/-! The data layer 14: == of dicts, whatever their keys. -/
namespace DL
open PySem PySem.Spec PyProof.Rows L2

section
variable {prog : Program} {w : World} {A : Around} {E : Value → Shared → Prop} {s : Shared}
/-- the walk of the one dict with look-ups in the other one -/
theorem same_raw {nm : String} {a b : Addr} {ea eb : Array DictEntry} {pa pb : Nat} {xs ys : List Ent} {g : Nat → Bool} {Q : Bool → Shared → Prop} (ha : (a == sysModules) = false) (hb : (b == sysModules) = false)
    (ma : s.heap.DictRaw a ea pa) (mb : s.heap.DictRaw b eb pb) (la : ea.toList = xs.map (entD w)) (lb : eb.toList = ys.map (entD w))
    (find : ∀ (i : Nat) (x : Ent), xs[i]? = some x → ∀ (P : Option Nat → Shared → Prop) (E : Value → Shared → Prop), ((∀ (j : Nat) (y : Ent), ys[j]? = some y → y.1 ≠ x.1) → P none s) → (∀ (j : Nat) (y : Ent), ys[j]? = some y → y.1 = x.1 → P (some j) s) →
      wpAny (model prog w) A (dictFind b x.2.1 (x.1.hash w)) P E s)
    (gn : ∀ (i : Nat) (x : Ent), xs[i]? = some x → (∀ (j : Nat) (y : Ent), ys[j]? = some y → y.1 ≠ x.1) → g i = false)
    (gs : ∀ (i : Nat) (x : Ent), xs[i]? = some x → ∀ (j : Nat) (y : Ent), ys[j]? = some y → y.1 = x.1 → SeqAt.EqAt A s x.2.2 y.2.2 (g i))
    (h : Q (xs.length == ys.length && (List.range xs.length).all g) s) : wpAny (model prog w) A (Builtin.Dict.samePairs nm a b) Q E s := by
  obtain ⟨oa, hoa, _, hda⟩ := ma
  obtain ⟨ob, hob, _, hdb⟩ := mb
  have hla : xs.length = ea.size := by rw [← Array.length_toList, la, List.length_map]
  have hlb : ys.length = eb.size := by rw [← Array.length_toList, lb, List.length_map]
  have ga : ∀ (i : Nat) (hi : i < ea.size), ∃ x, xs[i]? = some x ∧ ea[i] = entD w x := fun i hi => by
    have h1 : ea.toList[i]? = some ea[i] := by rw [Array.getElem?_toList]; exact Array.getElem?_eq_getElem hi
    rw [la, List.getElem?_map, Option.map_eq_some_iff] at h1
    obtain ⟨x, h2, h3⟩ := h1
    exact ⟨x, h2, h3.symm⟩
  have gb : ∀ (j : Nat) (y : Ent), ys[j]? = some y → eb[j]? = some (entD w y) := fun j y hy => by
    rw [← Array.getElem?_toList, lb, List.getElem?_map, hy]
    rfl
  rw [hla, hlb] at h
  unfold Builtin.Dict.samePairs Builtin.Dict.showsAll
  rw [if_neg (show ¬ (a == sysModules) = true by rw [ha]; exact Bool.false_ne_true), if_neg (show ¬ (b == sysModules) = true by rw [hb]; exact Bool.false_ne_true)]
  refine wpAny_bind (wpAny_pure (wpAny_bind (wpAny_pure ?_)))
  refine wpAny_bind (wpAny_dictEntries hoa hda ?_)
  dsimp only
  refine wpAny_bind (wpAny_dictEntries hob hdb ?_)
  by_cases hsz : ea.size = eb.size
  case neg =>
    rw [if_pos (by simpa using hsz)]
    have hbf : (ea.size == eb.size) = false := by simpa using hsz
    rw [hbf, Bool.false_and] at h
    exact wpAny_bind (wpAny_rule (wpAny_pure h))
  case pos =>
    have h' : Q ((List.range ea.size).all g) s := by simpa [hsz] using h
    have bad : ∀ i, i < ea.size → g i = false → Q false s := fun i hi hg => by
      have : (List.range ea.size).all g = false := by
        rw [List.all_eq_false]
        exact ⟨i, List.mem_range.mpr hi, by rw [hg]; exact Bool.false_ne_true⟩
      rw [this] at h'
      exact h'
    rw [if_neg (by rw [hsz]; simp)]
    refine wpAny_bind (wpAny_dictEpoch hoa hda ?_)
    refine wpAny_bind ?_
    rw [Std.Legacy.Range.forIn_eq_forIn_range']
    simp only [Std.Legacy.Range.size, Nat.sub_zero, Nat.add_sub_cancel, Nat.div_one]
    refine wpAny_forIn_list _
      (fun rest q s' => s' = s ∧ q = (none, ()) ∧ ∃ i, rest = List.range' i (ea.size - i) ∧ i ≤ ea.size ∧ ∀ j, j < i → g j = true)
      _ ?_ ?_ _ _ ⟨rfl, rfl, 0, by simp, Nat.zero_le _, fun j hj => absurd hj (Nat.not_lt_zero _)⟩
    · rintro x rest q s' ⟨rfl, rfl, i, hr, hi, hpre⟩
      have hlt : i < ea.size := by
        rcases Nat.lt_or_ge i ea.size with h | h
        · exact h
        · rw [Nat.sub_eq_zero_of_le h] at hr; simp at hr
      obtain ⟨rfl, hrest⟩ : x = i ∧ rest = List.range' (i + 1) (ea.size - (i + 1)) := by
        have e : ea.size - i = (ea.size - (i + 1)) + 1 := by omega
        rw [e, List.range'_succ] at hr
        injection hr with h1 h2
        exact ⟨h1, h2⟩
      refine wpAny_bind (wpAny_dictEntries hoa hda ?_)
      rw [Array.getElem?_eq_getElem hlt]
      obtain ⟨y, hy, ey⟩ := ga x hlt
      rw [ey]
      show wpAny _ _ (holding [y.2.1, y.2.2] _ >>= _) _ _ _
      refine wpAny_bind (wpAny_holding (wpAny_bind (find x y hy _ _ (fun hno => ?_) fun j z hz ez => ?_)))
      · refine wpAny_pure ?_
        show wpAny _ _ (if (!false) = true then _ else _) _ _ _
        rw [if_pos (by decide)]
        exact wpAny_pure (wpAny_pure (bad x hlt (gn x y hy hno)))
      · refine wpAny_bind (wpAny_dictEntries hob hdb ?_)
        rw [gb j z hz]
        have he := gs x y hy j z hz ez
        refine wpAny_holding (he prog w _ _ ?_)
        cases hg : g x with
        | false =>
          show wpAny _ _ (if (!false) = true then _ else _) _ _ _
          rw [if_pos (by decide)]
          exact wpAny_pure (wpAny_pure (bad x hlt hg))
        | true =>
          show wpAny _ _ (if (!true) = true then _ else _) _ _ _
          rw [if_neg (by decide)]
          refine wpAny_bind (wpAny_dictEpoch hoa hda ?_)
          rw [if_neg (by simp)]
          refine wpAny_pure ⟨rfl, rfl, x + 1, hrest, hlt, fun j hj => ?_⟩
          rcases Nat.lt_or_eq_of_le (Nat.le_of_lt_succ hj) with q | q
          · exact hpre j q
          · rw [q]; exact hg
    · rintro q s' ⟨rfl, rfl, i, hr, hi, hpre⟩
      have hin : i = ea.size := by
        rcases Nat.lt_or_ge i ea.size with h | h
        · have e : ea.size - i = (ea.size - (i + 1)) + 1 := by omega
          rw [e, List.range'_succ] at hr; exact nomatch hr
        · exact Nat.le_antisymm hi h
      refine wpAny_pure ?_
      have : (List.range ea.size).all g = true := by
        rw [List.all_eq_true]
        exact fun j hj => hpre j (by rw [hin]; exact List.mem_range.mp hj)
      rw [this] at h'
      exact h'
theorem eq_raw {a b : Addr} {r : Bool} {Q : Value → Shared → Prop} (ta : s.TypeIs (.ref a) "dict") (tb : s.TypeIs (.ref b) "dict") (hu : A.units < cLine)
    (same : ∀ (nm : String) (P : Bool → Shared → Prop) (E : Value → Shared → Prop), P r s → wpAny (model prog w) A.in1 (Builtin.Dict.samePairs nm a b) P E s) (h : Q (.bool r) s) :
    wpAny (model prog w) A (compareOp .Eq (.ref a) (.ref b)) Q E s := by
  refine wpAny_richCompare_same_room (op := .Eq) ta tb PySem.F.slot_dict_eq (wpAny_call_entry PySem.F.slot_dict_eq ta PySem.F.entry_dict_eq ?_ (PySem.F.args_dict_eq_2 _ _)) hu
  show wpAny _ _ (Builtin.Dict.dictSlotArgs "__eq__" ⟨[.ref a, .ref b], []⟩ >>= _) _ _ s
  refine wpAny_bind ?_
  unfold Builtin.Dict.dictSlotArgs
  refine wpAny_bind (wpAny_notOrdered_dict ta ?_)
  show wpAny _ _ (pure (Value.ref a, Value.ref b)) _ _ s
  refine wpAny_pure ?_
  refine wpAny_bind (wpAny_isInstance (T := "dict") tb PySem.F.sub_dict_dict ?_)
  simp only [Bool.not_true, Bool.false_eq_true, if_false]
  refine wpAny_bind (wpAny_pure (wpAny_bind (wpAny_pure ?_)))
  refine wpAny_bind (same _ _ _ ?_)
  refine wpAny_pure ⟨_, rfl, ?_, ?_⟩
  · exact fun x => nomatch x
  · simpa using h
theorem ne_raw {a b : Addr} {r : Bool} {Q : Value → Shared → Prop} (ta : s.TypeIs (.ref a) "dict") (tb : s.TypeIs (.ref b) "dict") (hu : A.units < cLine)
    (same : ∀ (nm : String) (P : Bool → Shared → Prop) (E : Value → Shared → Prop), P r s → wpAny (model prog w) A.in1 (Builtin.Dict.samePairs nm a b) P E s) (h : Q (.bool (!r)) s) :
    wpAny (model prog w) A (compareOp .NotEq (.ref a) (.ref b)) Q E s := by
  refine wpAny_richCompare_same_room (op := .NotEq) ta tb PySem.F.slot_dict_ne (wpAny_call_entry PySem.F.slot_dict_ne ta PySem.F.entry_dict_ne ?_ (PySem.F.args_dict_ne_2 _ _)) hu
  show wpAny _ _ (Builtin.Dict.dictSlotArgs "__ne__" ⟨[.ref a, .ref b], []⟩ >>= _) _ _ s
  refine wpAny_bind ?_
  unfold Builtin.Dict.dictSlotArgs
  refine wpAny_bind (wpAny_notOrdered_dict ta ?_)
  show wpAny _ _ (pure (Value.ref a, Value.ref b)) _ _ s
  refine wpAny_pure ?_
  refine wpAny_bind (wpAny_isInstance (T := "dict") tb PySem.F.sub_dict_dict ?_)
  simp only [Bool.not_true, Bool.false_eq_true, if_false]
  refine wpAny_bind (wpAny_pure (wpAny_bind (wpAny_pure ?_)))
  refine wpAny_bind (same _ _ _ ?_)
  refine wpAny_pure ⟨_, rfl, ?_, ?_⟩
  · exact fun x => nomatch x
  · simpa using h
end

/-! ### over data -/
/-- every key of the one is a key of the other one that it is to be looked up in -/
def dictsOk (ka kb : List (PyData × PyData)) : Bool := (ka.all fun kv => kOk kb kv.1) && (ka.all fun kv => dOk kv.2) && (kb.all fun kv => dOk kv.2)
def dictSame (ka kb : List (PyData × PyData)) : Bool := ka.length == kb.length && ka.all fun kv => match dFind kb kv.1 with
  | some u => PyData.eqv kv.2 u
  | none => false
section
variable {X : Cx} {pins : List (Addr × Obj)} {σ : L2.St} {s : Shared} {R H : Hp}
theorem rpe_at {w : World} {K : PySem.W.Frag} {R : Hp} : ∀ {xs : List Ent} {kvs : List (PyData × PyData)} {i : Nat} {x : Ent}, Rpe w K R xs kvs → xs[i]? = some x → ∃ kx vx vd, kvs[i]? = some (x.1.data, vd) ∧ RelV kx x.2.1 ∧ Rp w K R kx x.1.data ∧ RelV vx x.2.2 ∧ Rp w K R vx vd
  | _, _, _, _, .nil, e => by simp at e
  | _, _, 0, _, .cons a b c d r, e => by simp at e; subst e; exact ⟨_, _, _, rfl, a, b, c, d⟩
  | _, _, i + 1, x, .cons a b c d r, e => by
    obtain ⟨kx, vx, vd, h1, h2⟩ := rpe_at (i := i) (x := x) r (by simpa using e)
    exact ⟨kx, vx, vd, by simpa using h1, h2⟩
theorem find_ent {w : World} {K : PySem.W.Frag} {R : Hp} {k : NestedKey} : ∀ {ys : List Ent} {kvs : List (PyData × PyData)}, Rpe w K R ys kvs → (ys.map (·.1)).Nodup →
    ((∀ (j : Nat) (y : Ent), ys[j]? = some y → y.1 ≠ k) → dFind kvs k.data = none) ∧ ∀ (j : Nat) (y : Ent), ys[j]? = some y → y.1 = k → ∃ vx vd, dFind kvs k.data = some vd ∧ RelV vx y.2.2 ∧ Rp w K R vx vd
  | _, _, .nil, _ => ⟨fun _ => rfl, fun j y h => by simp at h⟩
  | _, _, .cons (k := k') a b c d r, nd => by
    rw [List.map_cons, List.nodup_cons] at nd
    obtain ⟨h1, h2⟩ := find_ent (k := k) r nd.2
    unfold dFind at *
    rw [List.find?_cons]
    simp only [eqv_dec]
    by_cases q : k' = k
    · simp only [decide_eq_true q]
      refine ⟨fun hno => absurd q (hno 0 _ rfl), fun j y hy ey => ?_⟩
      cases j with
      | zero => simp at hy; subst hy; exact ⟨_, _, rfl, c, d⟩
      | succ j =>
        simp at hy
        have hm : y.1 ∈ List.map (fun x : Ent => x.1) _ := List.mem_map.mpr ⟨y, List.mem_of_getElem? hy, rfl⟩
        rw [ey, ← q] at hm
        exact absurd hm nd.1
    · simp only [decide_eq_false q]
      refine ⟨fun hno => h1 fun j y hy => hno (j + 1) y (by simpa using hy), fun j y hy ey => ?_⟩
      cases j with
      | zero => simp at hy; subst hy; exact absurd ey q
      | succ j => exact h2 j y (by simpa using hy) ey
theorem find_look (I : Inv X pins σ H s) (A : Around) (hu : A.units + 8 < cLine) {b : Addr} {ys : List Ent} {eb : Array DictEntry} {pb : Nat} {k : NestedKey} {v : Value} (mb : s.heap.DictRaw b eb pb) (lb : eb.toList = ys.map (entD X.w)) (lk : Look X s R b ys k v)
    (P : Option Nat → Shared → Prop) (E : Value → Shared → Prop) (h1 : (∀ (j : Nat) (y : Ent), ys[j]? = some y → y.1 ≠ k) → P none s) (h2 : ∀ (j : Nat) (y : Ent), ys[j]? = some y → y.1 = k → P (some j) s) :
    wpAny (model X.prog X.w) A (dictFind b v (k.hash X.w)) P E s := by
  obtain ⟨ob, hob, _, hdb⟩ := mb
  cases lk with
  | leaf g1 g2 g3 =>
    refine wpAny_dictFind_of (knd := lkKind X.prog X.w) g1 hob hdb (fun e he => ?_) ?_
    · rw [← Array.mem_toList_iff, lb] at he
      obtain ⟨x, hx, rfl⟩ := List.mem_map.mp he
      exact ⟨x.1, g2 x hx, rfl⟩
    · have at_ : ∀ (j : Nat) (hj : j < eb.size), ∃ y, ys[j]? = some y ∧ eb[j].key = y.2.1 := fun j hj => by
        have h1 : eb.toList[j]? = some eb[j] := by rw [Array.getElem?_toList]; exact Array.getElem?_eq_getElem hj
        rw [lb, List.getElem?_map, Option.map_eq_some_iff] at h1
        obtain ⟨y, h2, h3⟩ := h1
        exact ⟨y, h2, by rw [← h3]; rfl⟩
      have hl : eb.size = ys.length := by rw [← Array.length_toList, lb, List.length_map]
      cases hj : eb.findIdx? fun e => (lkKind X.prog X.w).is k e.key with
      | none =>
        refine h1 fun j y hy e => ?_
        have hjl : j < eb.size := by rw [hl]; exact (List.getElem?_eq_some_iff.mp hy).1
        have := (Array.findIdx?_eq_none_iff.mp hj) eb[j] (Array.getElem_mem hjl)
        obtain ⟨y', hy', ek⟩ := at_ j hjl
        rw [hy] at hy'
        cases hy'
        rw [ek, ← e] at this
        have h3 : (lkKind X.prog X.w).is y.1 y.2.1 = true := g2 y (List.mem_of_getElem? hy)
        rw [h3] at this
        cases this
      | some j =>
        obtain ⟨hjl, h3, _⟩ := Array.findIdx?_eq_some_iff_getElem.mp hj
        obtain ⟨y, hy, ek⟩ := at_ j hjl
        rw [ek] at h3
        exact h2 j y hy ((lkKind X.prog X.w).inj _ _ _ (g2 y (List.mem_of_getElem? hy)) h3)
  | @tup c e g1 g2 g3 g4 g5 =>
    subst e
    obtain ⟨o, es, ep, ho, hx, hd, he, his, hn⟩ := g5
    rw [hob] at ho
    cases ho
    rw [hdb] at hd
    cases hd
    refine wpAny_dictFind_heap (knd := nestedKind X.prog X.w) (show A.units + 8 < cLine from hu) ⟨g2, g3⟩ hob hdb he his hn (fun hno => ?_) fun j p hp => ?_
    · refine h1 fun j y hy e => ?_
      refine hno j ((match y.2.1 with | .ref a => a | _ => 0), y.2.2) ?_
      rw [List.getElem?_map, hy, ← e]
      rfl
    · rw [List.getElem?_map, Option.map_eq_some_iff] at hp
      obtain ⟨y, hy, e⟩ := hp
      cases e
      exact h2 j y hy rfl
theorem dicts_same (I : Inv X pins σ H s) (sub : Sub R H) (A : Around) (hu : A.units + 65 < cLine) {a b : Addr} {pa pb : Nat} {xs ys : List Ent} {ka kb : List (PyData × PyData)} (ha : H a = some (dX X.w a pa xs)) (hb : H b = some (dX X.w b pb ys))
    (ra : Rpe X.w X.K R xs ka) (koa : KeysOk (xs.map (·.1))) (rb : Rpe X.w X.K R ys kb) (kob : KeysOk (ys.map (·.1))) (hok : dictsOk ka kb = true) (nm : String) (P : Bool → Shared → Prop) (E : Value → Shared → Prop) (h : P (dictSame ka kb) s) :
    wpAny (model X.prog X.w) A (Builtin.Dict.samePairs nm a b) P E s := by
  have dpa := Inv.dctR I ha
  have dpb := Inv.dctR I hb
  obtain ⟨ea, ma, la⟩ := dpa.raw
  obtain ⟨eb, mb, lb⟩ := dpb.raw
  unfold dictsOk at hok
  rw [Bool.and_eq_true, Bool.and_eq_true, List.all_eq_true, List.all_eq_true, List.all_eq_true] at hok
  obtain ⟨⟨hk, hva⟩, hvb⟩ := hok
  have look : ∀ (i : Nat) (x : Ent), xs[i]? = some x → Look X s R b ys x.1 x.2.1 := fun i x hx => by
    obtain ⟨kx, vx, vd, e1, r1, r2, _, _⟩ := rpe_at ra hx
    have := hk _ (List.mem_of_getElem? e1)
    unfold kOk at this
    rw [Bool.and_eq_true] at this
    obtain ⟨k, ek, hd⟩ := keyGood_of this.1
    have hd' : x.1.depth ≤ 8 := by
      have e := this.1
      unfold keyGood at e
      split at e
      · rename_i k' hk'
        have e2 := keyOf_data hk'
        have : k' = x.1 := by
          have q := eqv_dec k' x.1
          rw [e2] at q
          have q2 := eqv_dec x.1 x.1
          rw [q2] at q
          simpa using q.symm
        rw [← this]
        exact of_decide_eq_true e
      · cases e
    exact look_of I sub hb kob rb (r2.rb sub) r1 hd' this.2
  refine same_raw (g := fun i => match ka[i]? with
    | some kv => (match dFind kb kv.1 with
      | some u => PyData.eqv kv.2 u
      | none => false)
    | none => false) dpa.2.1 dpb.2.1 ma mb la lb (fun i x hx P E h1 h2 => find_look I A (by omega) mb lb (look i x hx) P E h1 h2) (fun i x hx hno => ?_) (fun i x hx j y hy e => ?_) ?_
  · obtain ⟨kx, vx, vd, e1, _⟩ := rpe_at ra hx
    rw [e1]
    simp only [(find_ent rb kob.1).1 hno]
  · obtain ⟨kx, vx, vd, e1, _, _, r3, r4⟩ := rpe_at ra hx
    obtain ⟨vy, vd', e2, r5, r6⟩ := (find_ent rb kob.1).2 j y hy e
    rw [e1]
    simp only [e2]
    obtain ⟨as, q1⟩ := (r4.sub sub).reads I r3
    obtain ⟨bs, q2⟩ := (r6.sub sub).reads I r5
    have o1 := dOk_of (hva _ (List.mem_of_getElem? e1))
    have o2 : dOk vd' = true := by
      unfold dFind at e2
      rw [Option.map_eq_some_iff] at e2
      obtain ⟨kv, h1, h2⟩ := e2
      have := hvb kv (List.mem_of_find?_eq_some h1)
      rw [h2] at this
      exact this
    exact PySem.SeqAt.eqAt_plain _ _ A s _ _ as bs q1 q2 o1.1 (dOk_of o2).1 (min_room hu o1.2)
  · have e : (List.range xs.length).all (fun i => match ka[i]? with
      | some kv => (match dFind kb kv.1 with
        | some u => PyData.eqv kv.2 u
        | none => false)
      | none => false) = ka.all fun kv => match dFind kb kv.1 with
        | some u => PyData.eqv kv.2 u
        | none => false := by
      rw [ra.length]
      rw [Bool.eq_iff_iff, List.all_eq_true, List.all_eq_true]
      constructor
      · intro hh kv hm
        obtain ⟨i, hi, e⟩ := List.getElem_of_mem hm
        have := hh i (List.mem_range.mpr hi)
        rw [List.getElem?_eq_getElem hi, e] at this
        exact this
      · intro hh i hi
        have hi := List.mem_range.mp hi
        rw [List.getElem?_eq_getElem hi]
        exact hh _ (List.getElem_mem hi)
    rw [e, ra.length, rb.length]
    exact h
end
def eqDict : PyData → PyData → Option PyData
  | .dict ka, .dict kb => if dictsOk ka kb = true then some (.bool (dictSame ka kb)) else none
  | _, _ => none
def neDict : PyData → PyData → Option PyData
  | .dict ka, .dict kb => if dictsOk ka kb = true then some (.bool (!dictSame ka kb)) else none
  | _, _ => none
section
variable {X : Cx}
theorem od_eqDict (hu : X.A.units + 100 < cLine) : OpD X (compareOp .Eq) eqDict := by
  intro pins s σ H x y v u Q I rx ry ⟨W, B, dx, dy, z, e1, ok, hx, hy, hg, q⟩
  subst e1
  unfold eqDict at hg
  split at hg
  · obtain ⟨hk, ez⟩ := ifb hg
    subst ez
    cases hx with
    | dct ha koa ra =>
      cases hy with
      | dct hb kob rb =>
        cases rx
        cases ry
        have dpa := Inv.dctR I ha
        have dpb := Inv.dctR I hb
        refine eq_raw dpa.raw.choose_spec.1.typeIs dpb.raw.choose_spec.1.typeIs (by omega) (fun nm P E hP => dicts_same I ok.sub X.A.in1 (by show X.A.units + 1 + 65 < cLine; omega) ha hb ra koa rb kob hk nm P E hP) ⟨.bl _, W.H, I, rfl, q W _ .refl ok (.bl _)⟩
  · cases hg
theorem od_neDict (hu : X.A.units + 100 < cLine) : OpD X (compareOp .NotEq) neDict := by
  intro pins s σ H x y v u Q I rx ry ⟨W, B, dx, dy, z, e1, ok, hx, hy, hg, q⟩
  subst e1
  unfold neDict at hg
  split at hg
  · obtain ⟨hk, ez⟩ := ifb hg
    subst ez
    cases hx with
    | dct ha koa ra =>
      cases hy with
      | dct hb kob rb =>
        cases rx
        cases ry
        have dpa := Inv.dctR I ha
        have dpb := Inv.dctR I hb
        refine ne_raw dpa.raw.choose_spec.1.typeIs dpb.raw.choose_spec.1.typeIs (by omega) (fun nm P E hP => dicts_same I ok.sub X.A.in1 (by show X.A.units + 1 + 65 < cLine; omega) ha hb ra koa rb kob hk nm P E hP) ⟨.bl _, W.H, I, rfl, q W _ .refl ok (.bl _)⟩
  · cases hg
def eqD := orD eqP eqDict
def neD := orD neP neDict
theorem od_eq (hu : X.A.units + 100 < cLine) : OpD X (compareOp .Eq) eqD := (od_eqP (by omega)).or (od_eqDict hu)
theorem od_ne (hu : X.A.units + 100 < cLine) : OpD X (compareOp .NotEq) neD := (od_neP (by omega)).or (od_neDict hu)
end
end DL
end

section
set_option Elab.async false
set_option linter.all false
set_option maxRecDepth 100000
set_option autoImplicit false
/-! The data layer 15: len, isinstance, list of a range, methods, {}, displays of dicts, dict of a dict, *. -/
namespace DL
open PySem PySem.Spec PyProof.Rows L2

/-! ### len -/
def lenD : PyData → Option Int
  | .list ds => some ds.length
  | .tuple ds => some ds.length
  | .dict kvs => some kvs.length
  | .str x => if x.length ≤ LIM then some x.length else none
  | _ => none
def eLen (f : SE) : SE := fun ρ B => (f ρ B).bind fun p => (derefZ p.2 p.1).bind fun d => (lenD d).bind fun n => some (.d (.int n), p.2)
section
variable {X : Cx} {e a b : Expr} {f fa fb : SE} {p p2 pos : Pos}
def rLenD (X : Cx) : List V → Hp → VK → Prop := fun vs H Q => ∃ W B v d n, W.H = H ∧ WX X W B ∧ vs = [v] ∧ Rz X.w X.K W.R W.H v d ∧ lenD d = some n ∧ Q (.int n) H
theorem call_lenD : CallR X (.builtin "len") (rLenD X) := by
  intro pins s σ H xs us Q I rs ⟨W, B, v, d, n, e1, ok, e2, hz, hn, q⟩
  subst e1 e2
  have fits := line63
  have lim := lim_eq
  have listCase : ∀ {a : Addr} {vs : List V} {ds : List PyData}, SqL X.K W.H a vs → Rps X.w X.K W.R vs ds → v = .ref a → d = .list ds → EP X pins σ Q (.int n s.toks) s ∨ True → wpAny (model X.prog X.w) X.A (call (.builtin "len") us) (EP X pins σ Q) X.xe s := fun {a vs ds} hq hr ev ed _ => by
    subst ev ed
    cases hn
    refine call_len pins s σ W.H _ us Q I rs ⟨_, vs.length, rfl, .inl ⟨vs, hq, rfl⟩, ?_⟩
    rw [hr.length]
    exact q
  cases hz with
  | fz hq hr => exact listCase hq hr rfl rfl (.inr trivial)
  | rb h =>
    cases h with
    | lst hq hr => exact listCase (.of hq) hr rfl rfl (.inr trivial)
    | tup hq hr =>
      cases hn
      refine call_len pins s σ W.H _ us Q I rs ⟨_, _, rfl, .inr ⟨_, SqT.sub ok.sub hq, rfl⟩, ?_⟩
      rw [hr.length]
      exact q
    | str x =>
      unfold lenD at hn
      obtain ⟨hx, e⟩ := ifs hn
      subst e
      exact call_len pins s σ W.H _ us Q I rs ⟨_, _, rfl, ⟨by rw [lim]; exact hx, rfl⟩, q⟩
    | @dct a ep xs kvs hq ko re =>
      cases hn
      obtain ⟨u, rfl, ru⟩ := vals1 rs
      cases ru
      have hp := Inv.dctR I hq
      obtain ⟨es, hm, he⟩ := hp.raw
      have hl : es.size = xs.length := by rw [← Array.length_toList, he, List.length_map]
      have hz := hp.1
      refine call_len_slot hm.typeIs PySem.F.slot_dict_len (fun Q' h => call_len_raw hp.2.1 hm h) (by omega) (by omega) ⟨.int es.size, W.H, I.tok _, ⟨_, rfl⟩, ?_⟩
      rw [hl, re.length]
      exact q
    | non => cases hn
    | bl _ => cases hn
    | int _ => cases hn
theorem d_len (hg : Gl X "len") (hm : X.mg "len" = none) (he : PE X e (tB X f)) (hs1 : starEach [e] X.env = (false, eval e X.env) :: starEach [] X.env := by rfl) (hpl : (backTo pos (starEach [] X.env)).any (·.1) = false := by rfl) :
    PE X (.Call (.Name "len" p) [e] [] pos) (tE X (eLen f)) := PE.weak (pe_callB call_lenD hg hm boot_len (pa_cons he pa_nil hs1) (by decide) (by decide) hs1 hpl) fun σ H Q ⟨W, E0, ρ, B, r, B', e1, ok, en, e, q⟩ => by
  simp only [eLen, Option.bind_eq_some_iff] at e
  obtain ⟨p, h1, d, h2, n, h3, h4⟩ := e
  cases h4
  exact ⟨W, E0, ρ, B, p.1, p.2, e1, ok, en, h1, fun W1 v s1 ok1 r1 => ⟨W1, p.2, v, d, n, rfl, ok1, rfl, rz_of ok1 r1 h2, h3, q W1 _ s1 ok1 (.int _)⟩⟩

/-! ### isinstance(x, T) -/
def isaD (T : String) (d : PyData) : Option Bool := if T = "int" then some d.isInt else if T = "bool" then some d.isBool else if T = "str" then some d.isStr else if T = "tuple" then some d.isTuple else if T = "list" then some d.isList else if T = "dict" then some d.isDict else none
def eIsa (T : String) (f : SE) : SE := fun ρ B => (f ρ B).bind fun p => (deref p.2 p.1).bind fun d => (isaD T d).bind fun b => some (.d (.bool b), p.2)
def rIsaD (X : Cx) (T : String) : List V → Hp → VK → Prop := fun vs H Q => ∃ W B v d b, W.H = H ∧ WX X W B ∧ vs = [v, .ty T] ∧ Rb X.w X.K W.R W.H v d ∧ isaD T d = some b ∧ Q (.bl b) H
theorem call_isaD {T : String} : CallR X (.builtin "isinstance") (rIsaD X T) := by
  intro pins s σ H xs us Q I rs ⟨W, B, v, d, b, e1, ok, e2, hx, hn, q⟩
  subst e1 e2
  obtain ⟨u1, u2, rfl, r1, r2⟩ := vals2 rs
  cases r2
  obtain ⟨as, ra⟩ := hx.reads I ok.sub r1
  have fin : ∀ tk, EP X pins σ Q (.bool b) { s with toks := tk } := fun tk => ⟨.bl b, W.H, I.tok tk, rfl, q⟩
  unfold isaD at hn
  split at hn
  · rename_i e; subst e; cases hn; exact PySem.W.isinstance_int_data ra fun tk _ => fin tk
  split at hn
  · rename_i e; subst e; cases hn; exact PySem.W.isinstance_bool_data ra fun tk _ => fin tk
  split at hn
  · rename_i e; subst e; cases hn; exact PySem.W.isinstance_str_data ra fun tk _ => fin tk
  split at hn
  · rename_i e; subst e; cases hn; exact PySem.W.isinstance_tuple_data ra fun tk _ => fin tk
  split at hn
  · rename_i e; subst e; cases hn; exact PySem.W.isinstance_list_data ra fun tk _ => fin tk
  split at hn
  · rename_i e; subst e; cases hn; exact PySem.W.isinstance_dict_data ra fun tk _ => fin tk
  · cases hn
theorem d_isa {T : String} {x : Str} (hg : Gl X "isinstance") (hm : X.mg "isinstance" = none) (hgT : Gl X x) (hmT : X.mg x = none) (hT : bootBuiltins x = some (.type T)) (he : PE X e (tB X f)) (hnT : x ≠ "__name__" := by decide) (hdT : (x == ("__debug__" : Str)) = false := by decide)
    (hs1 : starEach [e, .Name x p2] X.env = (false, eval e X.env) :: starEach [.Name x p2] X.env := by rfl) (hs2 : starEach [.Name x p2] X.env = (false, eval (.Name x p2) X.env) :: starEach [] X.env := by rfl) (hpl : (backTo pos (starEach [.Name x p2] X.env)).any (·.1) = false := by rfl) :
    PE X (.Call (.Name "isinstance" p) [e, .Name x p2] [] pos) (tE X (eIsa T f)) :=
  PE.weak (pe_callB (call_isaD (T := T)) hg hm boot_isinstance (pa_cons he (pa_cons (pe_bltn hgT hmT hT (v := .ty T) rfl hnT hdT) pa_nil hs2) hs1) (by decide) (by decide) hs1 hpl) fun σ H Q ⟨W, E0, ρ, B, r, B', e1, ok, en, e, q⟩ => by
  simp only [eIsa, Option.bind_eq_some_iff] at e
  obtain ⟨p, h1, d, h2, n, h3, h4⟩ := e
  cases h4
  exact ⟨W, E0, ρ, B, p.1, p.2, e1, ok, en, h1, fun W1 v s1 ok1 r1 => ⟨W1, p.2, v, d, n, rfl, ok1, rfl, rb_of ok1 r1 h2, h3, q W1 _ s1 ok1 (.bl _)⟩⟩

/-! ### list(range(..)) -/
def rgF1 : List Vl → Option (Int × Int)
  | [.d (.int j)] => some (0, j)
  | _ => none
def rgF2 : List Vl → Option (Int × Int)
  | [.d (.int i), .d (.int j)] => some (i, j)
  | _ => none
def eLstRg (rg : List Vl → Option (Int × Int)) (fs : SA) : SE := fun ρ B => (fs ρ B).bind fun p => (rg p.1).bind fun ij => if (IB ij.1 && IB ij.2 && decide ((ij.2 - ij.1).toNat ≤ LIM)) = true then some (.d (.list (rngD ij.1 (ij.2 - ij.1).toNat)), p.2) else none
theorem rps_rg {R : Hp} (i j : Int) : Rps X.w X.K R (rgV i j) (rngD i (j - i).toNat) := by
  unfold rgV rngD
  generalize List.range (j - i).toNat = l
  induction l with
  | nil => exact .nil
  | cons k l ih => exact .cons (.int _) ih
theorem lstRg_fin {i j : Int} {W : Wd} {B : Bs} {Q : VK} (ok : WX X W B) (h : (IB i && IB j && decide ((j - i).toNat ≤ LIM)) = true) (q : ∀ W' v, Step W W' → WX X W' B → RoV X.w X.K W.H W' v (.d (.list (rngD i (j - i).toNat))) → Q v W'.H) :
    RgOk i j ∧ ∀ q, W.H q = none → Q (.ref q) (upd W.H q (.lst (rgV i j))) := by
  simp only [Bool.and_eq_true, decide_eq_true_eq] at h
  obtain ⟨⟨h1, h2⟩, h3⟩ := h
  have a := IB_of h1
  have b := IB_of h2
  refine ⟨⟨a.1, a.2, b.1, b.2, h3⟩, fun l hl => ?_⟩
  obtain ⟨s, ok', ro⟩ := new_lst ok hl (rps_rg i j)
  exact q _ _ s ok' ro
theorem dO_lstRg1 {pr pp : Pos} (hc : X.calm = true) (hg : Gl X "list") (hm : X.mg "list" = none) (hgr : Gl X "range") (hmr : X.mg "range" = none) (ha : PE X a (tE X f)) (na : starEach [a] X.env = (false, eval a X.env) :: starEach [] X.env := by rfl)
    (nb : starEach [.Call (.Name "range" pr) [a] [] pp] X.env = (false, eval (.Call (.Name "range" pr) [a] [] pp) X.env) :: starEach [] X.env := by rfl) : PE X (.Call (.Name "list" p) [.Call (.Name "range" pr) [a] [] pp] [] pos) (tO X (eLstRg rgF1 (aCons f aNil))) :=
  PE.weak (pe_listRg hc hg hm (prg_1 hgr hmr ha na) nb) fun σ H Q ⟨W, E0, ρ, B, r, B', e1, ok, en, e, q⟩ => by
    subst e1
    simp only [eLstRg, aCons, aNil, Option.bind_eq_some_iff] at e
    obtain ⟨p, ⟨p1, h1, p2, h2, h3⟩, ij, h4, h5⟩ := e
    cases h2
    cases h3
    obtain ⟨hc, e⟩ := ifs h5
    cases e
    refine ⟨W, E0, ρ, B, p1.1, p1.2, rfl, ok, en, h1, fun W1 v s1 ok1 r1 => ?_⟩
    unfold rgF1 at h4
    split at h4
    · rename_i j e
      cases h4
      have e' : p1.1 = .d (.int j) := by simpa using e
      rw [e'] at r1
      have := lstRg_fin ok1 hc fun W' v s ok' ro => q W' v (s1.trans s) ok' (RoV.up s1 ro)
      exact ⟨j, rpint r1, this.1, this.2⟩
    · cases h4
theorem dO_lstRg2 {pr pp : Pos} (hc : X.calm = true) (hg : Gl X "list") (hm : X.mg "list" = none) (hgr : Gl X "range") (hmr : X.mg "range" = none) (ha : PE X a (tE X fa)) (hb : PE X b (tE X fb)) (na : starEach [a, b] X.env = (false, eval a X.env) :: starEach [b] X.env := by rfl)
    (na2 : starEach [b] X.env = (false, eval b X.env) :: starEach [] X.env := by rfl)
    (np : (backTo pp (starEach [b] X.env)).any (·.1) = false := by rfl) (nb : starEach [.Call (.Name "range" pr) [a, b] [] pp] X.env = (false, eval (.Call (.Name "range" pr) [a, b] [] pp) X.env) :: starEach [] X.env := by rfl) : PE X (.Call (.Name "list" p) [.Call (.Name "range" pr) [a, b] [] pp] [] pos) (tO X (eLstRg rgF2 (aCons fa (aCons fb aNil)))) :=
  PE.weak (pe_listRg hc hg hm (prg_2 hgr hmr ha hb na na2 np) nb) fun σ H Q ⟨W, E0, ρ, B, r, B', e1, ok, en, e, q⟩ => by
    subst e1
    simp only [eLstRg, aCons, aNil, Option.bind_eq_some_iff] at e
    obtain ⟨p, ⟨p1, h1, p2, ⟨p3, h2, p4, h3, h3'⟩, h3''⟩, ij, h4, h5⟩ := e
    cases h3
    cases h3'
    cases h3''
    obtain ⟨hc, e⟩ := ifs h5
    cases e
    refine ⟨W, E0, ρ, B, p1.1, p1.2, rfl, ok, en, h1, fun W1 v1 s1 ok1 r1 => ⟨W1, E0, ρ, p1.2, p3.1, p3.2, rfl, ok1, en.step s1, h2, fun W2 v2 s2 ok2 r2 => ?_⟩⟩
    unfold rgF2 at h4
    split at h4
    · rename_i i j e
      cases h4
      have e' : p1.1 = .d (.int i) ∧ p3.1 = .d (.int j) := by simpa using e
      rw [e'.1] at r1
      rw [e'.2] at r2
      have := lstRg_fin ok2 hc fun W' v s ok' ro => q W' v ((s1.trans s2).trans s) ok' (RoV.up (s1.trans s2) ro)
      exact ⟨i, j, rpint r1, rpint r2, this.1, this.2⟩
    · cases h4
end
end DL
end

section
set_option Elab.async false
set_option linter.all false
set_option maxRecDepth 100000
set_option autoImplicit false
/-! The data layer 16: methods, {}, displays of dicts, dict of a dict, *. -/
namespace DL
open PySem PySem.Spec PyProof.Rows L2

/-! ### methods of built-in types -/
def tyD (w : World) (K : PySem.W.Frag) (T : String) (x : V) (H : Hp) : Prop := (T = "str" ∧ ∃ y, x = .str y) ∨ (T = "list" ∧ ∃ a xs, x = .ref a ∧ SqL K H a xs) ∨ (T = "dict" ∧ ∃ a ep xs, x = .ref a ∧ H a = some (dX w a ep xs))
section
variable {X : Cx} {pins : List (Addr × Obj)} {σ : L2.St} {s : Shared} {R H : Hp}
theorem tyD_is {T : String} {x : V} {v : Value} (I : Inv X pins σ H s) (r : RelV x v) (ty : tyD X.w X.K T x H) : s.TypeIs v T ∧ ∀ a, v = .ref a → ∃ ob, s.heap.get? a = some ob ∧ ob.dict = none := by
  rcases ty with ⟨e, y, rfl⟩ | ⟨e, a, xs, rfl, hq⟩ | ⟨e, a, ep, xs, rfl, hq⟩
  · subst e; exact tyV_is (T := "str") (x := .str y) I r rfl
  · subst e; exact tyV_is (T := "list") (x := .ref a) I r (.inl ⟨rfl, xs, hq⟩)
  · subst e
    cases r
    obtain ⟨es, ⟨o, ho, hx, hd⟩, _⟩ := (Inv.dctR I hq).raw
    exact ⟨⟨o, ho, hx.1⟩, fun b e => by cases e; exact ⟨o, ho, hx.2.1⟩⟩
def tBMD (w : World) (K : PySem.W.Frag) (T : String) (r : List V → Hp → VK → Prop) (to : TE) (t : TA) : TE := fun σ H Q => to σ H fun x H1 => tyD w K T x H1 ∧ t σ H1 fun xs H2 => r (x :: xs) H2 Q
variable {o e : Expr} {es : List Expr} {to : TE} {t : TA} {name : Str} {apos cpos : Pos} {T id : String} {r : List V → Hp → VK → Prop}
theorem pe_bmD (pa : PlainAttrs T) (slot : Slot T name id) (hty : typeOf (.builtin id) = pure (.type "method_descriptor")) (hm : CallR X (.builtin id) r) (ho : PE X o to) (ha : PA X (e :: es) t)
    (hbase : attributeBase o name X.env (eval o X.env) = eval o X.env := by rfl)
    (hfew : ((backTo cpos (starEach (e :: es) X.env)).all (fun x => !x.1) && (backToKw cpos (keywordEach [] X.env)).all (fun x => x.1.isSome)
      && decide ((e :: es).length + ([] : List Keyword).length + (if ([] : List Keyword).isEmpty then 0 else 1) < 30)) = true := by rfl)
    (hline : (apos.endLine == cpos.line) = true := by rfl) (hs : starEach (e :: es) X.env = (false, eval e X.env) :: starEach es X.env := by rfl) (hplain : (backTo cpos (starEach es X.env)).any (·.1) = false := by rfl) :
    PE X (.Call (.Attribute o name apos) (e :: es) [] cpos) (tBMD X.w X.K T r to t) := by
  refine ⟨fun pins s σ H Q I h => ?_⟩
  refine wpAny_Call_method_late hbase hfew hline rfl (thn (ho.run pins s σ H _ I h) fun v s1 ⟨x, H1, I1, r1, ty, q1⟩ => ?_)
  obtain ⟨h1, h2⟩ := tyD_is I1 r1 ty
  refine ⟨T, id, pa, slot, hty, h1, h2, ?_⟩
  have hA := ha.run cpos pins s1 σ H1 _ I1 q1
  rw [hs] at hA ⊢
  refine Calls.callWith_builtin (by show (false || (backTo cpos (starEach es X.env)).any (·.1)) = false; rw [hplain] <;> rfl) (Calls.evalArgs_plain ?_)
  exact thn hA fun us s2 ⟨xs, H2, I2, r2, q2⟩ => hm pins s2 σ H2 (x :: xs) (v :: us) Q I2 (.cons r1 r2) q2
theorem pe_bmD0 (pa : PlainAttrs T) (slot : Slot T name id) (hty : typeOf (.builtin id) = pure (.type "method_descriptor")) (hm : CallR X (.builtin id) r) (ho : PE X o to)
    (hbase : attributeBase o name X.env (eval o X.env) = eval o X.env := by rfl) (hline : (apos.endLine == cpos.line) = true := by rfl) : PE X (.Call (.Attribute o name apos) [] [] cpos) (tBMD X.w X.K T r to tNil) := by
  refine ⟨fun pins s σ H Q I h => ?_⟩
  refine wpAny_Call_method0_late hbase hline (thn (ho.run pins s σ H _ I h) fun v s1 ⟨x, H1, I1, r1, ty, q1⟩ => ?_)
  obtain ⟨h1, h2⟩ := tyD_is I1 r1 ty
  exact ⟨T, id, pa, slot, hty, h1, h2, Calls.callWith_builtin rfl (PySem.evalArgs_none (hm pins s1 σ H1 [x] [v] Q I1 (.cons r1 .nil) q1))⟩
end
def isTy (T : String) : PyData → Bool
  | .str _ => T == "str"
  | .list _ => T == "list"
  | .dict _ => T == "dict"
  | _ => false
theorem ty_of {w : World} {K : PySem.W.Frag} {R H : Hp} {T : String} {x : V} {d : PyData} (h : Rb w K R H x d) (e : isTy T d = true) : tyD w K T x H := by
  cases h with
  | str y => exact .inl ⟨beq_iff_eq.mp e, y, rfl⟩
  | lst hq hr => exact .inr (.inl ⟨beq_iff_eq.mp e, _, _, rfl, .of hq⟩)
  | dct hq ko re => exact .inr (.inr ⟨beq_iff_eq.mp e, _, _, _, rfl, hq⟩)
  | non => cases e
  | bl _ => cases e
  | int _ => cases e
  | tup _ _ => cases e
def eMeth (T : String) (g : List PyData → Option PyData) (fo : SE) (fs : SA) : SE := fun ρ B => (fo ρ B).bind fun p => (deref p.2 p.1).bind fun d0 => if isTy T d0 = true then (fs ρ p.2).bind fun q => (deref q.2 p.1).bind fun d => (derefs q.2 q.1).bind fun ds => (g (d :: ds)).bind fun z => some (.d z, q.2) else none
section
variable {X : Cx} {o e : Expr} {es : List Expr} {fo : SE} {fs : SA} {name : Str} {apos cpos : Pos} {T id : String} {g : List PyData → Option PyData}
theorem meth_pass {σ : L2.St} {H : Hp} {Q : VK} (h : tE X (eMeth T g fo fs) σ H Q) : tBMD X.w X.K T (rC X g) (tB X fo) (tAB X fs) σ H Q := by
  obtain ⟨W, E0, ρ, B, r, B', e1, ok, en, e, q⟩ := h
  simp only [eMeth, Option.bind_eq_some_iff] at e
  obtain ⟨p, h1, d0, h2, h3⟩ := e
  obtain ⟨hT, h3⟩ := ifs2 h3
  simp only [Option.bind_eq_some_iff] at h3
  obtain ⟨t, h4, d, h5, ds, h6, z, h7, h8⟩ := h3
  cases h8
  refine ⟨W, E0, ρ, B, p.1, p.2, e1, ok, en, h1, fun W1 v s1 ok1 r1 => ⟨ty_of (rb_of ok1 r1 h2) hT, ?_⟩⟩
  refine ⟨W1, E0, ρ, p.2, t.1, t.2, rfl, ok1, en.step s1, h4, fun W2 vs s2 ok2 r2 => ?_⟩
  exact ⟨W2, t.2, d :: ds, z, rfl, ok2, .cons (rb_of ok2 (s2.rbv r1) h5) (rbs_of ok2 r2 h6), h7, fun W3 v3 s3 ok3 r3 => q W3 v3 ((s1.trans s2).trans s3) ok3 r3⟩
theorem methO_pass {σ : L2.St} {H : Hp} {Q : VK} (h : tO X (eMeth T g fo fs) σ H Q) : tBMD X.w X.K T (rCO X g) (tB X fo) (tAB X fs) σ H Q := by
  obtain ⟨W, E0, ρ, B, r, B', e1, ok, en, e, q⟩ := h
  subst e1
  simp only [eMeth, Option.bind_eq_some_iff] at e
  obtain ⟨p, h1, d0, h2, h3⟩ := e
  obtain ⟨hT, h3⟩ := ifs2 h3
  simp only [Option.bind_eq_some_iff] at h3
  obtain ⟨t, h4, d, h5, ds, h6, z, h7, h8⟩ := h3
  cases h8
  refine ⟨W, E0, ρ, B, p.1, p.2, rfl, ok, en, h1, fun W1 v s1 ok1 r1 => ⟨ty_of (rb_of ok1 r1 h2) hT, ?_⟩⟩
  refine ⟨W1, E0, ρ, p.2, t.1, t.2, rfl, ok1, en.step s1, h4, fun W2 vs s2 ok2 r2 => ?_⟩
  exact ⟨W2, t.2, d :: ds, z, rfl, ok2, .cons (rb_of ok2 (s2.rbv r1) h5) (rbs_of ok2 r2 h6), h7, fun W3 v3 s3 ok3 r3 => q W3 v3 ((s1.trans s2).trans s3) ok3 (RoV.up (s1.trans s2) r3)⟩
theorem d_meth (pa : PlainAttrs T) (slot : Slot T name id) (hty : typeOf (.builtin id) = pure (.type "method_descriptor")) (hm : CallR X (.builtin id) (rC X g)) (ho : PE X o (tB X fo)) (ha : PA X (e :: es) (tAB X fs))
    (hbase : attributeBase o name X.env (eval o X.env) = eval o X.env := by rfl)
    (hfew : ((backTo cpos (starEach (e :: es) X.env)).all (fun x => !x.1) && (backToKw cpos (keywordEach [] X.env)).all (fun x => x.1.isSome)
      && decide ((e :: es).length + ([] : List Keyword).length + (if ([] : List Keyword).isEmpty then 0 else 1) < 30)) = true := by rfl)
    (hline : (apos.endLine == cpos.line) = true := by rfl) (hs : starEach (e :: es) X.env = (false, eval e X.env) :: starEach es X.env := by rfl) (hplain : (backTo cpos (starEach es X.env)).any (·.1) = false := by rfl) :
    PE X (.Call (.Attribute o name apos) (e :: es) [] cpos) (tE X (eMeth T g fo fs)) := PE.weak (pe_bmD pa slot hty hm ho ha hbase hfew hline hs hplain) fun _ _ _ h => meth_pass h
theorem dO_meth (pa : PlainAttrs T) (slot : Slot T name id) (hty : typeOf (.builtin id) = pure (.type "method_descriptor")) (hm : CallR X (.builtin id) (rCO X g)) (ho : PE X o (tB X fo)) (ha : PA X (e :: es) (tAB X fs))
    (hbase : attributeBase o name X.env (eval o X.env) = eval o X.env := by rfl)
    (hfew : ((backTo cpos (starEach (e :: es) X.env)).all (fun x => !x.1) && (backToKw cpos (keywordEach [] X.env)).all (fun x => x.1.isSome)
      && decide ((e :: es).length + ([] : List Keyword).length + (if ([] : List Keyword).isEmpty then 0 else 1) < 30)) = true := by rfl)
    (hline : (apos.endLine == cpos.line) = true := by rfl) (hs : starEach (e :: es) X.env = (false, eval e X.env) :: starEach es X.env := by rfl) (hplain : (backTo cpos (starEach es X.env)).any (·.1) = false := by rfl) :
    PE X (.Call (.Attribute o name apos) (e :: es) [] cpos) (tO X (eMeth T g fo fs)) := PE.weak (pe_bmD pa slot hty hm ho ha hbase hfew hline hs hplain) fun _ _ _ h => methO_pass h

/-! ### xs.index(y) -/
def indexF : List PyData → Option PyData
  | [.list ds, d] => if (dOk d && PyData.plainAll ds && decide (PyData.depthAll ds ≤ 64) && ds.any fun y => PyData.eqv y d) = true then some (.int ((ds.map fun y => PyData.eqv y d).idxOf true : Nat)) else none
  | _ => none
theorem plain_mem : ∀ {ds : List PyData} {d : PyData}, PyData.plainAll ds = true → d ∈ ds → d.plain = true
  | x :: xs, d, h, hm => by
    rw [PyData.plainAll, Bool.and_eq_true] at h
    rcases List.mem_cons.mp hm with e | hm
    · subst e; exact h.1
    · exact plain_mem h.2 hm
theorem cd_index (hu : X.A.units + 100 < cLine) : CallR X (.builtin "list.index") (rC X indexF) := by
  intro pins s σ H xs us Q I rs ⟨W, B, ds, z, e1, ok, hx, hg, q⟩
  subst e1
  unfold indexF at hg
  split at hg
  · rename_i ds d
    obtain ⟨hc, e⟩ := ifs hg
    subst e
    simp only [Bool.and_eq_true, decide_eq_true_eq] at hc
    obtain ⟨⟨⟨ho, hp⟩, hdp⟩, hany⟩ := hc
    obtain ⟨v, v', rfl, h1, h2⟩ := rbs2 hx
    obtain ⟨u, u', rfl, r1, r2⟩ := vals2 rs
    cases h1 with
    | @lst a vs _ hq hr =>
      cases r1
      obtain ⟨hz, its, n, rv, hl, eo⟩ := Inv.lstR I hq
      obtain ⟨bs, rb⟩ := h2.reads I ok.sub r2
      have od := dOk_of ho
      have hlen : its.length = ds.length := by rw [← hr.length, rv.length]
      refine PySem.SeqAt.call_list_index (ks := ds.map fun y => PyData.eqv y d) (k := true) ⟨_, eo, rfl, _, rfl⟩ ⟨by rw [List.length_map]; exact hlen, fun j j1 j2 => ?_⟩ (by rw [List.length_map, ← hr.length]; exact hz) ?_ ⟨.int _, W.H, I.tok _, ⟨_, rfl⟩, q W _ .refl ok (.int _)⟩
      · have hj : j < ds.length := by omega
        obtain ⟨x, hx, rx⟩ := hr.get (List.getElem?_eq_getElem hj)
        obtain ⟨w', hw, rw'⟩ := rv.get hx
        obtain ⟨as, ra⟩ := (rx.sub ok.sub).reads I rw'
        rw [List.getElem?_eq_getElem j1] at hw
        have ew := Option.some.inj hw
        rw [ew]
        have e : decide ((ds.map fun y => PyData.eqv y d)[j] = true) = PyData.eqv ds[j] d := by
          rw [List.getElem_map]
          cases PyData.eqv ds[j] d <;> rfl
        rw [e]
        refine PySem.SeqAt.eqAt_plain _ _ X.A.in1 s _ _ as bs ra rb (plain_mem hp (List.getElem_mem hj)) od.1 ?_
        have := Nat.min_le_right ds[j].depth d.depth
        have := od.2
        show X.A.units + 1 + _ < cLine
        omega
      · obtain ⟨y, hy, e⟩ := List.any_eq_true.mp hany
        exact List.mem_map.mpr ⟨y, hy, e⟩
  · cases hg

/-! ### {} and displays -/
theorem new_dct {W : Wd} {B : Bs} {p : Addr} (ok : WX X W B) (h : W.H p = none) (ep : Nat) {xs : List Ent} {kvs : List (PyData × PyData)} (ko : KeysOk (xs.map (·.1))) (r : Rpe X.w X.K W.R xs kvs) :
    Step W ⟨W.R, W.bs, upd W.H p (dX X.w p ep xs)⟩ ∧ WX X ⟨W.R, W.bs, upd W.H p (dX X.w p ep xs)⟩ B ∧ RoV X.w X.K W.H ⟨W.R, W.bs, upd W.H p (dX X.w p ep xs)⟩ (.ref p) (.d (.dict kvs)) := by
  obtain ⟨s, ok'⟩ := ok.newH (dX X.w p ep xs) h
  exact ⟨s, ok', p, rfl, ok.nob h, ok.nor h, h, .dct upd_same ko r⟩
theorem _root_.DL.Step.rewrite {W1 W5 : Wd} {D : Addr} {o : HO} (s : Step W1 W5) (h : W1.H D = none) : Step W1 ⟨W5.R, W5.bs, upd W5.H D o⟩ := by
  have kp : ∀ b u, b ≠ D → W5.H b = some u → upd W5.H D o b = some u := fun b u hb e => by rw [upd_ne hb]; exact e
  refine ⟨s.R, s.new, fun b u e hb => kp b u (fun z => by subst z; rw [h] at e; cases e) (s.keep b u e hb), fun b u e => ?_, s.bs⟩
  obtain ⟨u', e'⟩ := s.trk b u e
  exact ⟨u', kp b u' (fun z => by subst z; rw [h] at e; cases e) e'⟩
theorem _root_.DL.WOk.rewrite {w : World} {K : PySem.W.Frag} {mg : Str → Option Value} {W : Wd} {B : Bs} {D : Addr} {o : HO} (ok : WOk w K mg W B) (nb : D ∉ W.bs) (nr : W.R D = none) : WOk w K mg ⟨W.R, W.bs, upd W.H D o⟩ B := by
  have kp : ∀ b u, b ≠ D → W.H b = some u → upd W.H D o b = some u := fun b u hb e => by rw [upd_ne hb]; exact e
  refine ⟨fun b u e => kp b u (fun z => by subst z; have e : W.R b = some u := e; rw [nr] at e; cases e) (ok.sub b u e), ok.len, ok.nd, fun b hb => ?_, fun n b x e1 e2 => ?_⟩
  · obtain ⟨u, e⟩ := ok.btr b hb
    exact ⟨u, kp b u (fun z => nb (z ▸ hb)) e⟩
  · have hb : b ≠ D := fun z => nb (z ▸ List.mem_of_getElem? e1)
    cases ok.box n b x e1 e2 with
    | dead => exact .dead
    | val r z => exact .val (r.mono Sub.refl fun u e => kp b u hb e) z
    | ins m e' r z => exact .ins m (kp b _ hb e') r z
theorem dX_ok {w : World} {P : Program} {H : Hp} {a : Addr} {ep : Nat} {xs : List Ent} {h : Heap} (hx : dXp w a ep xs h) : ObjOk P w H h a (dX w a ep xs) := by
  obtain ⟨z1, z2, o, es, ho, g⟩ := id hx
  refine ⟨hx, ⟨o, ho⟩, fun h1 h2 z k => ?_⟩
  obtain ⟨z1, z2, o1, es, g1, g2⟩ := z
  exact ⟨z1, z2, o1, es, k _ g1, g2⟩
theorem dXp_new {w : World} (h : Heap) (hb : sysModules < h.objs.size) : dXp w h.objs.size 0 [] (h.push { cls := .type "dict", data := .dict #[] }) :=
  ⟨Nat.zero_le _, beq_eq_false_iff_ne.mpr (Ne.symm (Nat.ne_of_lt hb)), _, #[], Heap.get?_push_size _ rfl, ⟨rfl, rfl, rfl⟩, rfl, rfl⟩
def eDict0 : SE := fun _ B => some (.d (.dict []), B)
theorem keysOk_nil : KeysOk ([] : List NestedKey) := ⟨List.nodup_nil, .inl fun _ h => nomatch h⟩
variable {pos : Pos}
theorem dO_dict0 : PE X (.Dict [] [] pos) (tO X eDict0) := ⟨fun pins s σ H Q I ⟨W, E0, ρ, B, r, B', e1, ok, en, e, q⟩ => by
  subst e1
  cases e
  have hn : W.H s.heap.objs.size = none := I.hok.fresh (Nat.le_refl _)
  obtain ⟨st, ok', ro⟩ := new_dct ok hn 0 (xs := []) (kvs := []) keysOk_nil .nil
  exact wpAny_Dict_empty ⟨.ref s.heap.objs.size, _, I.laid (a := s.heap.objs.size) (o := dX X.w s.heap.objs.size 0 []) (t' := s.toks) (fun _ _ q => Heap.get?_push_of_some _ q) (Nat.le_refl _) (dX_ok (dXp_new s.heap I.big)), rfl, q _ _ st ok' ro⟩⟩
/-- the pairs of a display -/
abbrev SPr := EnvD → Bs → Option (List (PyData × PyData) × Bs)
def pNil : SPr := fun _ B => some ([], B)
def pCons (fk fv : SE) (fr : SPr) : SPr := fun ρ B => (fk ρ B).bind fun p => (fv ρ p.2).bind fun q => (unD p.1).bind fun k => (unD q.1).bind fun v => (fr ρ q.2).bind fun r => some ((k, v) :: r.1, r.2)
inductive RpP (w : World) (K : PySem.W.Frag) (R : Hp) : List (V × V) → List (PyData × PyData) → Prop
  | nil : RpP w K R [] []
  | cons {k v : V} {kd vd : PyData} {ps : List (V × V)} {kvs : List (PyData × PyData)} : Rp w K R k kd → Rp w K R v vd → RpP w K R ps kvs → RpP w K R ((k, v) :: ps) ((kd, vd) :: kvs)
theorem RpP.sub {w : World} {K : PySem.W.Frag} {R R' : Hp} (s : Sub R R') : ∀ {ps : List (V × V)} {kvs : List (PyData × PyData)}, RpP w K R ps kvs → RpP w K R' ps kvs
  | _, _, .nil => .nil
  | _, _, .cons a b r => .cons (a.sub s) (b.sub s) (r.sub s)
structure PD (X : Cx) (pos : Pos) (keys : List (Option Expr)) (values : List Expr) (f : SPr) : Prop where
  run : ∀ (pins : List (Addr × Obj)) (s : Shared) (σ : L2.St) (W : Wd) (E0 : Hp) (ρ : EnvD) (B : Bs) (kvs : List (PyData × PyData)) (B' : Bs) (Q : List (V × V) → Hp → Prop), Inv X pins σ W.H s → WX X W B → EX X W E0 σ ρ → f ρ B = some (kvs, B') →
    (∀ W' ps, Step W W' → WX X W' B' → RpP X.w X.K W'.R ps kvs → Q ps W'.H) →
    wpAny (model X.prog X.w) X.A (evalPairs (pairTrees keys values X.env pos)) (fun vs s' => ∃ ps H', Inv X pins σ H' s' ∧ VV ps vs ∧ Q ps H') X.xe s
theorem dp_nil : PD X pos [] [] pNil := ⟨fun pins s σ W E0 ρ B kvs B' Q I ok en e q => by
  cases e
  exact pairTrees_nil_walk ⟨[], W.H, I, .nil, q W [] .refl ok .nil⟩⟩
theorem dp_cons {k v : Expr} {ks : List (Option Expr)} {vs : List Expr} {fk fv : SE} {fr : SPr} (hk : PE X k (tE X fk)) (hv : PE X v (tE X fv)) (hr : PD X pos ks vs fr) : PD X pos (some k :: ks) (v :: vs) (pCons fk fv fr) :=
  ⟨fun pins s σ W E0 ρ B kvs B' Q I ok en e q => by
    simp only [pCons, Option.bind_eq_some_iff] at e
    obtain ⟨⟨rk, B1⟩, h1, ⟨rv, B2⟩, h2, kd, h3, vd, h4, ⟨kvs', B3⟩, h5, h6⟩ := e
    cases h6
    have ek : rk = .d kd := by cases rk <;> cases h3 <;> rfl
    have ev : rv = .d vd := by cases rv <;> cases h4 <;> rfl
    subst ek ev
    refine pairTrees_cons_walk (thn (hk.run pins s σ W.H (fun x H1 => ∃ W1, W1.H = H1 ∧ Step W W1 ∧ WX X W1 B1 ∧ Rp X.w X.K W1.R x kd) I ⟨W, E0, ρ, B, _, B1, rfl, ok, en, h1, fun W1 v1 s1 ok1 r1 => ⟨W1, rfl, s1, ok1, r1⟩⟩) fun u s1 ⟨x, H1, I1, rx, W1, e1, st1, ok1, rp1⟩ => ?_)
    subst e1
    refine thn (hv.run pins s1 σ W1.H (fun y H2 => ∃ W2, W2.H = H2 ∧ Step W1 W2 ∧ WX X W2 B2 ∧ Rp X.w X.K W2.R y vd) I1 ⟨W1, E0, ρ, B1, _, B2, rfl, ok1, en.step st1, h2, fun W2 v2 s2 ok2 r2 => ⟨W2, rfl, s2, ok2, r2⟩⟩) fun w2 s2 ⟨y, H2, I2, ry, W2, e2, st2, ok2, rp2⟩ => ?_
    subst e2
    refine thn (hr.run pins s2 σ W2 E0 ρ B2 kvs' B3 (fun ps H3 => Q ((x, y) :: ps) H3) I2 ok2 ((en.step st1).step st2) h5 fun W3 ps s3 ok3 r3 => ?_) fun ws s3 ⟨ps, H3, I3, rel, q3⟩ => ⟨(x, y) :: ps, H3, I3, .cons ⟨rx, ry⟩ rel, q3⟩
    exact q W3 _ ((st1.trans st2).trans s3) ok3 (.cons (((rp1.sub st2.R).sub s3.R)) (rp2.sub s3.R) r3)⟩
def leafD (d : PyData) : Bool := match d with
  | .none => true
  | .int _ => true
  | .str _ => true
  | _ => false
def eDisp (fr : SPr) : SE := fun ρ B => (fr ρ B).bind fun p => if (p.1.all fun kv => leafD kv.1) = true ∧ p.1.length ≤ LIM then some (.d (.dict (p.1.foldl (fun acc kv => dPut acc kv.1 kv.2) [])), p.2) else none
theorem leaf_key {d : PyData} (h : leafD d = true) : ∃ k : NestedKey, k.data = d ∧ isLeafK k = true := by
  cases d with
  | none => exact ⟨.none, rfl, rfl⟩
  | int i => exact ⟨.num i, rfl, rfl⟩
  | str x => exact ⟨.text x, rfl, rfl⟩
  | bool _ => cases h
  | list _ => cases h
  | tuple _ => cases h
  | dict _ => cases h
theorem carries_D {R : Hp} : ∀ {ps : List (V × V)} {kvs : List (PyData × PyData)} {ws : List (Value × Value)}, RpP X.w X.K R ps kvs → VV ps ws → (kvs.all fun kv => leafD kv.1) = true →
    ∃ rs : List (NestedKey × Value), Carries (lkKind X.prog X.w) ws rs ∧ Rpv X.w X.K R rs kvs
  | _, _, [], .nil, _, _ => ⟨[], trivial, .nil⟩
  | _, _, _ :: _, .nil, v, _ => nomatch v
  | _, _, [], .cons _ _ _, v, _ => nomatch v
  | _, _, (wk, wv) :: ws, .cons a b r, v, h => by
    rw [List.all_cons, Bool.and_eq_true] at h
    obtain ⟨k, ek, hl⟩ := leaf_key h.1
    cases v with
    | cons h1 t =>
      obtain ⟨rs, c, p⟩ := carries_D r t h.2
      subst ek
      exact ⟨(k, wv) :: rs, ⟨lk_of hl a h1.1, rfl, c⟩, .cons h1.2 b p⟩
theorem merged_D {R : Hp} : ∀ {rs : List (NestedKey × Value)} {kvs : List (PyData × PyData)} {acc : List (NestedKey × Value)} {accD : List (PyData × PyData)}, Rpv X.w X.K R rs kvs → Rpv X.w X.K R acc accD →
    Rpv X.w X.K R (merged acc rs) (kvs.foldl (fun acc kv => dPut acc kv.1 kv.2) accD)
  | _, _, _, _, .nil, p => p
  | _, _, _, _, .cons (k := k) a b r, p => by
    have h := merged_D r (p.put a b k)
    exact h
theorem dO_disp {keys : List (Option Expr)} {values : List Expr} {fr : SPr} (h : PD X pos keys values fr) (hall : keys.all (·.isSome) = true) (hl : keys.length = values.length) (h0 : keys ≠ []) (h15 : keys.length ≤ 15) : PE X (.Dict keys values pos) (tO X (eDisp fr)) :=
  ⟨fun pins s σ H Q I ⟨W, E0, ρ, B, r, B', e1, ok, en, e, q⟩ => by
    subst e1
    simp only [eDisp, Option.bind_eq_some_iff] at e
    obtain ⟨⟨kvs, B1⟩, h1, h2⟩ := e
    obtain ⟨⟨hleaf, hlim⟩, e2⟩ := ifs h2
    cases e2
    have hn : W.H s.heap.objs.size = none := I.hok.fresh (Nat.le_refl _)
    obtain ⟨st, ok1⟩ := ok.newH (dX X.w s.heap.objs.size 0 []) hn
    have hnb := ok.nob hn
    have hnr := ok.nor hn
    have I1 := I.laid (a := s.heap.objs.size) (o := dX X.w s.heap.objs.size 0 []) (h' := s.heap.push { cls := .type "dict", data := .dict #[] }) (t' := s.toks) (fun _ _ q => Heap.get?_push_of_some _ q) (Nat.le_refl _) (dX_ok (dXp_new s.heap I.big))
    refine wpAny_Dict_walk (knd := lkKind X.prog X.w) hall hl h0 h15 (thn (h.run pins _ σ ⟨W.R, W.bs, upd W.H s.heap.objs.size (dX X.w s.heap.objs.size 0 [])⟩ E0 ρ B kvs B1 (fun ps H2 => ∃ W2, W2.H = H2 ∧ Step ⟨W.R, W.bs, upd W.H s.heap.objs.size (dX X.w s.heap.objs.size 0 [])⟩ W2 ∧ WX X W2 B1 ∧ RpP X.w X.K W2.R ps kvs) I1 ok1 (en.step st) h1 fun W2 ps s2 ok2 r2 => ⟨W2, rfl, s2, ok2, r2⟩) fun ws s2 ⟨ps, H2, I2, rel, W2, e2, st2, ok2, rp⟩ => ?_)
    subst e2
    obtain ⟨rs, c, rv⟩ := carries_D (X := X) rp rel hleaf
    have hH : W2.H s.heap.objs.size = some (dX X.w s.heap.objs.size 0 []) := st2.keep _ _ upd_same hnb
    have hp := Inv.dctR I2 hH
    refine ⟨rs, c, dictOf_leaf hp List.nodup_nil (fun _ h => nomatch h), fun h' dd' hs => ?_⟩
    have hz : (merged [] rs).length ≤ sizeLine := by
      have l1 : (merged [] rs).length ≤ rs.length := by
        have : ∀ (rs acc : List (NestedKey × Value)), (merged acc rs).length ≤ acc.length + rs.length := by
          intro rs
          induction rs with
          | nil => intro acc; exact Nat.le_refl _
          | cons p rs ih =>
            intro acc
            have h1 := ih (stored acc p.1 p.2)
            have h2 : (stored acc p.1 p.2).length ≤ acc.length + 1 := by
              unfold stored
              split
              · rw [List.length_map]; omega
              · rw [List.length_append]; simp
            show (merged (stored acc p.1 p.2) rs).length ≤ _
            rw [List.length_cons]; omega
        simpa using this rs []
      have l2 := c.length
      have l3 : ps.length = ws.length := Paired.length rel
      have l4 := rv.length
      have l5 : kvs.length ≤ LIM := hlim
      have := lim_eq
      omega
    obtain ⟨ep', xs', g1, g2, g3⟩ := of_dictOf hp.2.1 hz dd'
    have nd := (show ((merged [] rs).map (·.1)).Nodup from let ⟨_, _, _, _, _, _, _, _, n⟩ := dd'; n)
    have hko : KeysOk (xs'.map (·.1)) := by
      refine ⟨?_, .inl fun k' hk' => ?_⟩
      · have : xs'.map (·.1) = (prs xs').map (·.1) := by rw [List.map_map]; rfl
        rw [this, g1]
        exact nd
      · obtain ⟨z, hz, rfl⟩ := List.mem_map.mp hk'
        exact leaf_lk (g3 z hz)
    have re : Rpe X.w X.K W2.R xs' (kvs.foldl (fun acc kv => dPut acc kv.1 kv.2) []) := Rpe.of (fun z hz => rp_lk (g3 z hz)) (by rw [g1]; exact merged_D rv .nil)
    have hn2 : s.heap.objs.size ∉ W2.bs := st2.nobx upd_same hnb
    have hr2 : W2.R s.heap.objs.size = none := st2.noR upd_same hnr
    have I3 : Inv X pins σ (upd W2.H s.heap.objs.size (dX X.w s.heap.objs.size ep' xs')) { s2 with heap := h', toks := s2.toks + ws.length } := by
      obtain ⟨_, _, o, _, ho, _⟩ := id g2
      exact I2.write (by rw [hH]; exact trivial) (.inl rfl) (fun b ob hb e => (hs.2 b hb).trans e) ⟨o, ho⟩ (dX_ok g2)
    refine ⟨.ref s.heap.objs.size, _, I3, rfl, q ⟨W2.R, W2.bs, upd W2.H s.heap.objs.size (dX X.w s.heap.objs.size ep' xs')⟩ _ ((st.trans st2).rewrite hn) (ok2.rewrite hn2 hr2) ⟨_, rfl, hn2, hr2, hn, .dct upd_same hko re⟩⟩⟩
end
end DL
end

section
set_option Elab.async false
set_option linter.all false
set_option maxRecDepth 100000
set_option autoImplicit false
/-! The data layer 17: dict of a dict, *. -/
namespace DL
open PySem PySem.Spec PyProof.Rows L2

/-! ### dict(d) -/
mutual
/-- a key's hash, where it needs no seed -/
def iHash : NestedKey → Option Int
  | .none => some (reduceHash 0xFCA86420)
  | .num i => some (hashInt i)
  | .text _ => none
  | .tup ks => (iHashes ks).map fun hs => reduceHash (Builtin.Tuple.tupleHashOf hs)
def iHashes : List NestedKey → Option (List Int)
  | [] => some []
  | k :: ks => (iHash k).bind fun h => (iHashes ks).map (h :: ·)
end
mutual
theorem iHash_eq (w : World) : ∀ {k : NestedKey} {h : Int}, iHash k = some h → k.hash w = h
  | .none, _, e => by cases e; rfl
  | .num i, _, e => by cases e; rfl
  | .text _, _, e => nomatch e
  | .tup ks, _, e => by
    simp only [iHash, Option.map_eq_some_iff] at e
    obtain ⟨hs, h1, h2⟩ := e
    subst h2
    simp only [NestedKey.hash]
    rw [iHashes_eq w h1]
theorem iHashes_eq (w : World) : ∀ {ks : List NestedKey} {hs : List Int}, iHashes ks = some hs → NestedKey.hashes w ks = hs
  | [], _, e => by cases e; rfl
  | k :: ks, _, e => by
    simp only [iHashes, Option.bind_eq_some_iff, Option.map_eq_some_iff] at e
    obtain ⟨h, h1, hs, h2, h3⟩ := e
    subst h3
    simp only [NestedKey.hashes]
    rw [iHash_eq w h1, iHashes_eq w h2]
end
def keyHash (d : PyData) : Option Int := (keyOf d).bind iHash
/-- the keys are carried by value, or they are tuples whose hashes differ -/
def copyOk (kvs : List (PyData × PyData)) : Bool := (kvs.all fun kv => !isTupD kv.1) || ((kvs.all fun kv => isTupD kv.1 && (keyHash kv.1).isSome) && decide ((kvs.map fun kv => keyHash kv.1).Nodup))
def dictF : List PyData → Option PyData
  | [.dict kvs] => if copyOk kvs = true then some (.dict kvs) else none
  | _ => none
section
variable {prog : Program} {w : World} {K : Type} [DecidableEq K] {knd : HeapKind prog w K} {A : Around} {E : Value → Shared → Prop} {s : Shared}
theorem call_dict_tup {o : Addr} {more : List (K × Addr × Value)} {Q : Value → Shared → Prop} (hu : knd.room A.in1.in1) (hoS : (o == sysModules) = false) (ho : s.heap.DictOfH knd o more) (hty : ∀ x ∈ more, s.TypeIs (.ref x.2.1) "tuple") (hap : (more.map fun x => knd.hash x.1).Nodup) (hsz : more.length ≤ sizeLine)
    (hst : ∀ h', (∀ b o, s.heap.get? b = some o → h'.get? b = some o) → ∀ x ∈ more, knd.is h' x.1 x.2.1)
    (h : ∀ h', h'.DictOfH knd s.heap.objs.size more → (∀ b o, s.heap.get? b = some o → h'.get? b = some o) → Q (.ref s.heap.objs.size) { s with heap := h' }) :
    wpAny (model prog w) A (call (.type "dict") [.ref o]) Q E s := by
  refine callType_codes (Q₁ := fun obj s₁ => obj = .ref s.heap.objs.size ∧ s₁ = { s with heap := s.heap.push { cls := .type "dict", data := .dict #[] } }) F.kt_called_dict (F.kt_typeCall_dict_1 _) F.entry_dict_init (kt_code_dict_new _ ⟨rfl, rfl⟩) ?_
  rintro obj s₁ ⟨rfl, rfl⟩
  have k1 : ∀ b u, s.heap.get? b = some u → (s.heap.push { cls := .type "dict", data := .dict #[] }).get? b = some u := fun b u q => Heap.get?_push_of_some _ q
  have hnew : (s.heap.push { cls := .type "dict", data := .dict #[] }).DictOfH knd s.heap.objs.size [] := ⟨_, #[], 0, Heap.get?_push_size _ rfl, ⟨rfl, rfl, rfl⟩, rfl, rfl, (fun _ h => absurd h (by simp)), List.nodup_nil⟩
  have ho' : (s.heap.push { cls := .type "dict", data := .dict #[] }).DictOfH knd o more := by
    obtain ⟨ob, es, ep, h1, h2, h3, h4, h5, h6⟩ := id ho
    exact ⟨ob, es, ep, k1 _ _ h1, h2, h3, h4, hst _ k1, h6⟩
  have tnew : Shared.TypeIs { s with heap := s.heap.push { cls := .type "dict", data := .dict #[] } } (.ref s.heap.objs.size) "dict" := hnew.typeIs
  have hdo : s.heap.objs.size ≠ o := by
    obtain ⟨_, _, _, hg, _⟩ := ho
    exact fun e => absurd (Heap.lt_size hg) (by rw [e]; exact Nat.lt_irrefl _)
  refine ⟨tnew, F.args_dict_init_2 _ _, ?_⟩
  unfold Builtin.«dict.__init__»
  refine wpAny_bind ?_
  unfold Builtin.Dict.selfAndRest
  refine wpAny_bind (wpAny_notOrdered_dict tnew ?_)
  show wpAny _ _ (pure (s.heap.objs.size, [Value.ref o])) _ _ _
  refine wpAny_pure ?_
  show wpAny _ _ (Builtin.Dict.updateFrom "dict.__init__" s.heap.objs.size (.ref o) [] .none) _ _ _
  unfold Builtin.Dict.updateFrom
  refine wpAny_bind (wpAny_typeOf (s := { s with heap := s.heap.push { cls := .type "dict", data := .dict #[] } }) ho'.typeIs ?_)
  rw [if_neg (by decide)]
  refine wpAny_bind ?_
  unfold Builtin.Dict.merge
  refine wpAny_bind ?_
  unfold Builtin.Dict.readDirectly
  refine wpAny_bind (wpAny_isInstance (s := { s with heap := s.heap.push { cls := .type "dict", data := .dict #[] } }) ho'.typeIs isSubtype_dict_dict ?_)
  simp only [Bool.not_true, Bool.false_eq_true, if_false]
  refine wpAny_bind (wpAny_specialOf (s := { s with heap := s.heap.push { cls := .type "dict", data := .dict #[] } }) ho'.typeIs F.slot_dict_iter.lookup (wpAny_pure ?_))
  simp only [beq_self_eq_true, if_true]
  refine wpAny_bind (wpAny_pure ?_)
  refine wpAny_mergeDict_heap (knd := knd) (kvs := []) (more := more) (s := { s with heap := s.heap.push { cls := .type "dict", data := .dict #[] } }) ?_ hdo hoS hnew ho' (.inr ⟨fun x hx => ?_, hap⟩) (fun h' hd' _ hs' => ?_) (by simpa using hsz)
  · exact hu
  · obtain ⟨ob, e1, e2⟩ := hty x hx
    exact ⟨ob, k1 _ _ e1, e2⟩
  · show wpAny _ _ (Builtin.Dict.addKeywords s.heap.objs.size [] >>= _) _ _ _
    rw [storedAllH_nil_of_nodup more ho.nodup] at hd'
    exact wpAny_bind (wpAny_pure (wpAny_pure ⟨rfl, h h' hd' fun b u q => (hs'.2 b (Nat.ne_of_lt (Heap.lt_size q))).trans (k1 b u q)⟩))
end

section
variable {X : Cx}
mutual
theorem nested_keeps {h h' : Heap} (kp : ∀ b o, h.get? b = some o → h'.get? b = some o) : ∀ {k : NestedKey} {v : Value}, NestedIs h k v → NestedIs h' k v
  | _, _, .none => .none
  | _, _, .int i t => .int i t
  | _, _, .text x t => .text x t
  | _, _, .bool b => .bool b
  | _, _, .tup h1 h2 h3 h4 => .tup (kp _ _ h1) h2 h3 (nesteds_keeps kp h4)
theorem nesteds_keeps {h h' : Heap} (kp : ∀ b o, h.get? b = some o → h'.get? b = some o) : ∀ {ks : List NestedKey} {vs : List Value}, NestedAll h ks vs → NestedAll h' ks vs
  | _, _, .nil => .nil
  | _, _, .cons a b => .cons (nested_keeps kp a) (nesteds_keeps kp b)
end
mutual
theorem keyOf_of : ∀ k : NestedKey, keyOf k.data = some k
  | .none => rfl
  | .num _ => rfl
  | .text _ => rfl
  | .tup ks => by simp only [NestedKey.data, keyOf]; rw [keysOf_of ks]; rfl
theorem keysOf_of : ∀ ks : List NestedKey, keysOf (NestedKey.datas ks) = some ks
  | [] => rfl
  | k :: ks => by simp only [NestedKey.datas, keysOf]; rw [keyOf_of k, keysOf_of ks]; rfl
end
theorem cd_dict (hu : X.A.units + 100 < cLine) : CallR X (.type "dict") (rCO X dictF) := by
  intro pins s σ H xs us Q I rs ⟨W, B, ds, z, e1, ok, hx, hg, q⟩
  subst e1
  unfold dictF at hg
  split at hg
  · rename_i kvs
    obtain ⟨hc, e⟩ := ifs hg
    subst e
    obtain ⟨v, rfl, h⟩ := rbs1 hx
    obtain ⟨u, rfl, ru⟩ := vals1 rs
    cases h with
    | @dct a ep xs _ hq ko re =>
      cases ru
      have hp := Inv.dctR I hq
      obtain ⟨rk, rv⟩ := re.parts
      have hz : xs.length ≤ sizeLine := hp.1
      have hn : W.H s.heap.objs.size = none := I.hok.fresh (Nat.le_refl _)
      have hmod : (s.heap.objs.size == sysModules) = false := beq_eq_false_iff_ne.mpr (Nat.ne_of_gt I.big)
      unfold copyOk at hc
      rw [Bool.or_eq_true] at hc
      have hkeys := rpe_keys re
      rcases hc with hc | hc
      · have leafs : ∀ x ∈ xs, isLeafK x.1 = true := fun x hx => by
          have hm : x.1.data ∈ kvs.map (·.1) := by rw [hkeys]; exact List.mem_map.mpr ⟨x, hx, rfl⟩
          obtain ⟨kv, hkv, e⟩ := List.mem_map.mp hm
          have := List.all_eq_true.mp hc kv hkv
          rw [e, tup_of] at this
          simpa using this
        have all : ∀ x ∈ xs, lkIs x.1 x.2.1 = true := fun x hx => by
          obtain ⟨kv, h1, h2⟩ := rk x hx
          exact lk_of (leafs x hx) h2 h1
        refine kt_call_dict hp.2.1 (dictOf_leaf hp ko.1 all) (by rw [List.length_map]; exact hz) fun h' dd' hs => ?_
        obtain ⟨ep', xs', g1, g2, g3⟩ := of_dictOf hmod (by rw [List.length_map]; exact hz) dd'
        have kp : ∀ b o, s.heap.get? b = some o → h'.get? b = some o := fun b o e => (hs.2 b (Nat.ne_of_lt (Heap.lt_size e))).trans (Heap.get?_push_of_some _ e)
        have hko : KeysOk (xs'.map (·.1)) := by
          refine ⟨?_, .inl fun k' hk' => ?_⟩
          · have e1 : xs'.map (·.1) = (prs xs').map (·.1) := by rw [List.map_map]; rfl
            have e2 : xs.map (·.1) = (prs xs).map (·.1) := by rw [List.map_map]; rfl
            rw [e1, g1, ← e2]
            exact ko.1
          · obtain ⟨z, hz, rfl⟩ := List.mem_map.mp hk'
            exact leaf_lk (g3 z hz)
        have re' : Rpe X.w X.K W.R xs' kvs := Rpe.of (fun z hz => rp_lk (g3 z hz)) (by rw [g1]; exact rv)
        obtain ⟨st, ok', ro⟩ := new_dct ok hn ep' hko re'
        exact ⟨.ref s.heap.objs.size, _, I.laid (t' := s.toks) kp (Nat.le_refl _) (dX_ok g2), rfl, q _ _ st ok' ro⟩
      · rw [Bool.and_eq_true, List.all_eq_true, decide_eq_true_eq] at hc
        obtain ⟨ht, hnd⟩ := hc
        have tups : ∀ x ∈ xs, isLeafK x.1 = false ∧ ∃ hh, iHash x.1 = some hh := fun x hx => by
          have hm : x.1.data ∈ kvs.map (·.1) := by rw [hkeys]; exact List.mem_map.mpr ⟨x, hx, rfl⟩
          obtain ⟨kv, hkv, e⟩ := List.mem_map.mp hm
          have := ht kv hkv
          rw [e, Bool.and_eq_true, tup_of] at this
          refine ⟨by simpa using this.1, ?_⟩
          have h2 := this.2
          unfold keyHash at h2
          rw [Option.isSome_iff_exists] at h2
          obtain ⟨hh, h3⟩ := h2
          rw [Option.bind_eq_some_iff] at h3
          obtain ⟨k', h4, h5⟩ := h3
          have : k' = x.1 := by
            have q1 := eqv_dec k' x.1
            rw [keyOf_data h4] at q1
            have q2 := eqv_dec x.1 x.1
            rw [q2] at q1
            simpa using q1.symm
          exact ⟨hh, this ▸ h5⟩
        have all : ∀ x ∈ xs, ∃ b, x.2.1 = .ref b ∧ NestedIs s.heap x.1 (.ref b) ∧ x.1.depth ≤ 8 := fun x hx => by
          obtain ⟨kv, h1, h2⟩ := rk x hx
          obtain ⟨c, e3, e4⟩ := ref_tup (tups x hx).1 h2 h1
          subst e3
          have := nested_of I x.1 (.ref c) x.2.1 (h2.sub ok.sub) h1
          rw [e4] at this
          refine ⟨c, e4, this, ?_⟩
          rcases ko.2 with z | z
          · have := z x.1 (List.mem_map.mpr ⟨x, hx, rfl⟩)
            rw [(tups x hx).1] at this; cases this
          · exact (tupK_leaf (z x.1 (List.mem_map.mpr ⟨x, hx, rfl⟩))).2
        have hadr : ∀ y ∈ adrs xs, ∃ x ∈ xs, y.1 = x.1 ∧ x.2.1 = .ref y.2.1 ∧ y.2.2 = x.2.2 := fun y hy => by
          obtain ⟨x, hx, e⟩ := List.mem_map.mp hy
          obtain ⟨b, eb, _⟩ := all x hx
          subst e
          refine ⟨x, hx, rfl, ?_, rfl⟩
          simp only [eb]
        have hd : s.heap.DictOfH (nestedKind X.prog X.w) a (adrs xs) := dictOf_tup hp ko.1 all
        refine call_dict_tup (knd := nestedKind X.prog X.w) (show X.A.units + 1 + 1 + 8 < cLine by omega) hp.2.1 hd (fun y hy => ?_) ?_ (by rw [List.length_map]; exact hz) (fun h' kp y hy => ?_) fun h' dd' kp => ?_
        · obtain ⟨x, hx, _, e2, _⟩ := hadr y hy
          obtain ⟨b, eb, nb, _⟩ := all x hx
          rw [e2] at eb
          cases eb
          have hl := (tups x hx).1
          generalize x.1 = k at nb hl
          cases nb with
          | tup h1 h2 h3 h4 => exact ⟨_, h1, h2⟩
        · have e : (adrs xs).map (fun y => (nestedKind X.prog X.w).hash y.1) = xs.map fun x => x.1.hash X.w := by
            rw [List.map_map]
            rfl
          rw [e]
          have e2 : (kvs.map fun kv => keyHash kv.1) = xs.map fun x => some (x.1.hash X.w) := by
            have e3 : (kvs.map fun kv => keyHash kv.1) = (kvs.map (·.1)).map keyHash := by rw [List.map_map]; rfl
            rw [e3, hkeys, List.map_map]
            refine List.map_congr_left fun x hx => ?_
            obtain ⟨hh, h1⟩ := (tups x hx).2
            have hg := keyOf_of x.1
            show keyHash x.1.data = _
            unfold keyHash
            rw [hg, Option.bind_some, h1, iHash_eq X.w h1]
          rw [e2] at hnd
          have : xs.map (fun x => some (x.1.hash X.w)) = (xs.map fun x => x.1.hash X.w).map some := by rw [List.map_map]; rfl
          rw [this] at hnd
          exact (List.pairwise_map.mp hnd).imp fun h e => h (congrArg some e)
        · obtain ⟨x, hx, e1, e2, _⟩ := hadr y hy
          obtain ⟨b, eb, nb, hdp⟩ := all x hx
          rw [e2] at eb
          cases eb
          rw [e1]
          exact ⟨nested_keeps kp nb, hdp⟩
        · obtain ⟨ep', g2⟩ := of_dictOfH (X := X) hmod (by rw [List.length_map]; exact hz) dd'
          have exs : ((adrs xs).map fun y => (y.1, Value.ref y.2.1, y.2.2)) = xs := by
            rw [List.map_map]
            refine (List.map_congr_left fun x hx => ?_).trans (List.map_id xs)
            obtain ⟨b, eb, _⟩ := all x hx
            obtain ⟨k, ku, vu⟩ := x
            simp only at eb
            subst eb
            rfl
          rw [exs] at g2
          obtain ⟨st, ok', ro⟩ := new_dct ok hn ep' ko re
          exact ⟨.ref s.heap.objs.size, _, I.laid (t' := s.toks) kp (Nat.le_refl _) (dX_ok g2), rfl, q _ _ st ok' ro⟩
  · cases hg
end

/-! ### * -/
def mulD : PyData → PyData → Option PyData := intD mulC fun i j => i * j
theorem od_mul {X : Cx} : OpD X (binaryOp .Mult) mulD := OpR.weak op_mul fun _ _ _ _ h => int_pass (fun i j h => by
  simp only [mulC, Bool.or_eq_true, decide_eq_true_eq] at h
  unfold CMul
  omega) h
/-- a list, so many times: a new list -/
def repD : PyData → PyData → Option PyData
  | .list ds, .int k => if (IB k && decide (ds.length * k.toNat ≤ LIM)) = true then some (.list (List.replicate k.toNat ds).flatten) else none
  | _, _ => none
theorem rps_rep {w : World} {K : PySem.W.Frag} {R : Hp} {vs : List V} {ds : List PyData} (r : Rps w K R vs ds) : ∀ n : Nat, Rps w K R (List.replicate n vs).flatten (List.replicate n ds).flatten
  | 0 => .nil
  | n + 1 => by
    rw [List.replicate_succ, List.replicate_succ, List.flatten_cons, List.flatten_cons]
    exact r.append (rps_rep r n)
theorem od_rep {X : Cx} : OpDO X (binaryOp .Mult) repD := OpR.weak op_rep fun x y H Q ⟨W, B, dx, dy, z, e1, ok, hx, hy, hg, q⟩ => by
  subst e1
  unfold repD at hg
  split at hg
  · obtain ⟨hc, e⟩ := ifs hg
    subst e
    rw [Bool.and_eq_true, decide_eq_true_eq] at hc
    have b := IB_of hc.1
    cases hy
    cases hx with
    | lst hq hr =>
      refine ⟨_, _, _, rfl, rfl, hq, by omega, by omega, by rw [hr.length]; exact hc.2, fun l hl => ?_⟩
      obtain ⟨s, ok', ro⟩ := new_lst ok hl (rps_rep hr _)
      exact q _ _ s ok' ro
  · cases hg
end DL
end

section
set_option Elab.async false
set_option linter.all false
set_option maxRecDepth 100000
set_option autoImplicit false
/-! The data layer 18: short words for the printed derivations. -/
namespace DL
open PySem PySem.Spec PyProof.Rows L2
section
variable {X : Cx} {pos : Pos} {x : Str} {k : Nat}
theorem u65 {A : Around} (h : Room k A) : A.units + 65 < cLine := by have := h.un; omega
theorem u100 {A : Around} (h : Room k A) : A.units + 100 < cLine := by have := h.un; omega
theorem u200 {A : Around} (h : Room k A) : A.units + 200 < cLine := by have := h.un; omega
theorem gv (i : Nat) (hN : X.N[i]? = some x := by rfl) (hv : Vis X.env.scope x := by first | exact Or.inl rfl | exact Or.inr (Or.inl rfl) | exact Or.inr (Or.inr rfl)) (hd : (x == ("__debug__" : Str)) = false := by decide) (hcd : (x == ("__classdict__" : Str)) = false := by decide) : PE X (.Name x pos) (tE X (eVar i)) := d_var hN hv hd hcd
theorem gb (i : Nat) (hN : X.N[i]? = some x := by rfl) (hv : Vis X.env.scope x := by first | exact Or.inl rfl | exact Or.inr (Or.inl rfl) | exact Or.inr (Or.inr rfl)) (hd : (x == ("__debug__" : Str)) = false := by decide) (hcd : (x == ("__classdict__" : Str)) = false := by decide) : PE X (.Name x pos) (tB X (eBor i)) := d_bor hN hv hd hcd
theorem gn (i : Nat) (nd : X.N.Nodup) (hi : X.N[i]? = some x := by rfl) (hx : Loc X.env.scope x := by first | exact Or.inl rfl | exact Or.inr rfl) (hf : X.fn x = true ∨ X.env.scope.names.lookup x = some .local := by first | exact .inl rfl | exact .inr rfl) : PG X (.Name x pos) (tG X (gN i) [i]) := dg_name nd hi hx hf
variable {e : Expr} {f : SE} {g : SG} {ks : List Nat} {tg : Expr}
/-- target = value -/
def sAsgG (g : SG) (fe : SE) : SS := fun ρ B => (fe ρ B).bind fun p => (unD p.1).bind fun d => (g d ρ).bind fun ρ' => some (.nx, ρ', p.2)
theorem ds_asgG (he : PE X e (tE X f)) (hg : PG X tg (tG X g ks)) (hs : swapsWithSole [tg] e pos.line X.env = pure false := by rfl) (hw : swappedStores [tg] e X.env = pure none := by rfl)
    (h1 : (assignEach [tg] X.env).map (·.2) = [assign tg X.env] := by rfl) : PS X (.Assign [tg] e pos) (tS X (sAsgG g f)) := PS.weak (ps_asg he hg hs hw h1) fun D σ H ⟨E0, W, ρ, B, o, ρ', B', e1, at_, e, q⟩ => by
  subst e1
  simp only [sAsgG, Option.bind_eq_some_iff] at e
  obtain ⟨⟨r, B1⟩, h1, d, h2, ρ1, h3, h4⟩ := e
  cases h4
  have er : r = .d d := by cases r <;> cases h2 <;> rfl
  subst er
  refine ⟨W, E0.H, ρ, B, _, B1, rfl, at_.ok, at_.en, h1, fun W1 v s1 ok1 r1 => ?_⟩
  have at1 := at_.step s1 ok1
  exact ⟨W1, E0.H, ρ, B1, d, _, rfl, ok1, at1.en, r1, h3, fun σ' en' _ => q W1 σ' s1.R ⟨at1.st, ok1, en'⟩⟩
end
/-! ### a def that can be called -/
structure Fnd (P : Program) (w : World) (K : PySem.W.Frag) (mg : Str → Option Value) (base : Heap) (k : Nat) (x : Str) (np : Nat) (sf : SF) : Prop where
  ex : ∃ f fd ps, FnOk P w K mg base CX0 k f fd ps (spD w K mg np sf) ∧ mg x = some (.ref f) ∧ PySem.W.keepIn K (.ref f) = true ∧ Binds K fd ps []
  ar : Ar np sf
section
variable {X : Cx} {k np : Nat} {sf : SF} {x : Str} {p pos : Pos} {e : Expr} {es : List Expr} {fs : SA}
theorem g_call (F : Fnd X.prog X.w X.K X.mg X.base k x np sf) (hr : Room k X.A) (ha : PA X (e :: es) (tA X fs)) (hg : Gl X x := by rfl) (hdb : (x == ("__debug__" : Str)) = false := by decide) (he : starEach (e :: es) X.env = (false, eval e X.env) :: starEach es X.env := by rfl)
    (hpl : (backTo pos (starEach es X.env)).any (·.1) = false := by rfl) : PE X (.Call (.Name x p) (e :: es) [] pos) (tE X (eFn sf fs)) := by
  obtain ⟨f, fd, ps, h1, h2, h3, h4⟩ := F.ex
  exact d_call h1 F.ar hr hg h2 h3 h4 ha hdb he hpl
theorem g_call0 (F : Fnd X.prog X.w X.K X.mg X.base k x np sf) (hr : Room k X.A) (hg : Gl X x := by rfl) (hdb : (x == ("__debug__" : Str)) = false := by decide) : PE X (.Call (.Name x p) [] [] pos) (tE X (eFn sf aNil)) := by
  obtain ⟨f, fd, ps, h1, h2, h3, h4⟩ := F.ex
  exact d_call0 h1 F.ar hr hg h2 h3 h4 hdb
end
section
variable {P : Program} {w : World} {K : PySem.W.Frag} {mg : Str → Option Value} {base : Heap} {x qual : Str} {params : Arguments} {body : List Stmt} {scope : Scope} {f : Addr} {fd : FuncData} {N ps : List Str} {sb : SS} {k : Nat}
theorem fnd_of (F : FunD K x qual params body scope [] [] f fd) (hm : mg x = some (.ref f)) (S : FnScope N ps scope)
    (hb : ∀ (kV doc pm : Value) (an : Option Addr) (cdv ct : Value) (us : List Value), us.length = ps.length → bindArgs (PySem.W.fnOf x qual params body scope .none kV doc pm an cdv ct) ⟨us, []⟩ = pure (ps.zip us))
    (hbody : ∀ (cdv : Value) (A : Around) (outer : List Env) (s : Shared) (H : Hp) (E : XK), Room k (A.deeper (envOfC qual scope s.heap.objs.size f cdv)) →
      PSs (cxOf CX0 P w K mg base N qual scope f cdv A outer s H E).nox body (tS (cxOf CX0 P w K mg base N qual scope f cdv A outer s H E).nox sb)) : Fnd P w K mg base (k + 1) x ps.length (funS N.length ps.length sb) :=
  ⟨⟨f, fd, ps, fun_ok F S hbody, hm, F.kp, F.bindsN hb⟩, ar_fun⟩
end
end DL
end

section
set_option Elab.async false
set_option linter.all false
set_option maxRecDepth 100000
set_option autoImplicit false
/-! The data layer 19: instances. -/
namespace DL
open PySem PySem.Spec PyProof.Rows L2

def insOf (C : Str) (B : Bs) : Vl → Option (Nat × List (Str × Vl))
  | .bx n => match B[n]? with
    | some (.ins C' fs) => if C' = C then some (n, fs) else none
    | _ => none
  | _ => none
def putFd (f : Str) (v : Vl) : List (Str × Vl) → List (Str × Vl)
  | [] => [(f, v)]
  | (g, x) :: r => if g = f then (g, v) :: r else (g, x) :: putFd f v r
section
variable {w : World} {K : PySem.W.Frag} {mg : Str → Option Value}
theorem RpF.length {R : Hp} {bs : List Addr} : ∀ {fvs : List (Str × V)} {fs : List (Str × Vl)}, RpF w K R bs fvs fs → fvs.length = fs.length
  | _, _, .nil => rfl
  | _, _, .cons _ r => by rw [List.length_cons, List.length_cons, r.length]
theorem RpF.look {R : Hp} {bs : List Addr} {f : Str} : ∀ {fvs : List (Str × V)} {fs : List (Str × Vl)}, RpF w K R bs fvs fs → (fs.lookup f = none → fvs.lookup f = none) ∧ ∀ x, fs.lookup f = some x → ∃ v, fvs.lookup f = some v ∧ RpV w K R bs v x
  | _, _, .nil => ⟨fun _ => rfl, fun x h => nomatch h⟩
  | _, _, .cons (f := g) (v := v) (fvs := fvs) (x := x) (fs := fs) a r => by
    obtain ⟨h1, h2⟩ := r.look (f := f)
    simp only [List.lookup]
    cases f == g with
    | true => exact ⟨fun h => (nomatch h), fun y h => by cases h; exact ⟨v, rfl, a⟩⟩
    | false => exact ⟨h1, h2⟩
theorem RpF.put {R : Hp} {bs : List Addr} {f : Str} {v : V} {x : Vl} (h : RpV w K R bs v x) : ∀ {fvs : List (Str × V)} {fs : List (Str × Vl)}, RpF w K R bs fvs fs → RpF w K R bs (putF f v fvs) (putFd f x fs)
  | _, _, .nil => .cons h .nil
  | _, _, .cons (f := g) a r => by
    unfold putF putFd
    by_cases e : g = f
    · rw [if_pos e, if_pos e]; exact .cons h r
    · rw [if_neg e, if_neg e]; exact .cons a (r.put h)
theorem ins_of {W : Wd} {B : Bs} {v : V} {r : Vl} {C : Str} {n : Nat} {fs : List (Str × Vl)} (ok : WOk w K mg W B) (h : RbV w K W v r) (e : insOf C B r = some (n, fs)) :
    ∃ a dx c fvs, r = .bx n ∧ v = .ref a ∧ W.bs[n]? = some a ∧ mg C = some (.ref c) ∧ W.H a = some (.ins c dx fvs) ∧ RpF w K W.R W.bs fvs fs ∧ W.R a = none ∧ B[n]? = some (.ins C fs) := by
  cases r with
  | d _ => cases e
  | fz _ => cases e
  | bx m =>
    obtain ⟨a, hb, rfl⟩ := h
    simp only [insOf] at e
    split at e
    · rename_i C' fs' hx
      split at e
      · rename_i hC
        subst hC
        cases e
        cases ok.box _ a _ hb hx with
        | ins m q f z => exact ⟨a, _, _, _, rfl, rfl, hb, m, q, f, z, hx⟩
      · cases e
    · cases e
end
/-! ### facts of a class -/
structure ClsD (K : PySem.W.Frag) (mg : Str → Option Value) (C : Str) : Prop where
  ex : ∃ c, mg C = some (.ref c) ∧ Cls K c
def NoA (K : PySem.W.Frag) (mg : Str → Option Value) (C f : Str) : Prop := ∀ c, mg C = some (.ref c) → NoAttr K c f
structure Mnd (P : Program) (w : World) (K : PySem.W.Frag) (mg : Str → Option Value) (base : Heap) (k : Nat) (C m : Str) (np : Nat) (sf : SF) : Prop where
  ex : ∃ c g fd ps, mg C = some (.ref c) ∧ Cls K c ∧ Meth K c m g ∧ FnOk P w K mg base CX0 k g fd ps (spD w K mg np sf) ∧ Binds K fd ps []
  ar : Ar np sf
structure Mkd (P : Program) (w : World) (K : PySem.W.Frag) (mg : Str → Option Value) (base : Heap) (k : Nat) (C : Str) (np : Nat) (sf : SF) : Prop where
  ex : ∃ c g fd ps, mg C = some (.ref c) ∧ Mk K c g ∧ FnOk P w K mg base CX0 k g fd ps (spD w K mg np sf) ∧ Binds K fd ps []
  ar : Ar np sf
/-! ### e.f, e.f = v -/
def eFld (C f : Str) (fo : SE) : SE := fun ρ B => (fo ρ B).bind fun p => (insOf C p.2 p.1).bind fun nf => (nf.2.lookup f).bind fun x => some (x, p.2)
def sFldS (C f : Str) (fo fv : SE) : SS := fun ρ B => (fv ρ B).bind fun p => (fo ρ p.2).bind fun q => (insOf C q.2 q.1).bind fun nf => if nf.2.length < 1000 then some (.nx, ρ, q.2.set nf.1 (.ins C (putFd f p.1 nf.2))) else none
section
variable {X : Cx} {o e v : Expr} {es : List Expr} {f C m : Str} {fo fv : SE} {fs : SA} {pos pos' apos p : Pos} {k np : Nat} {sf : SF} {x : Str}
theorem d_fld (hc : ClsD X.K X.mg C) (hn : NoA X.K X.mg C f) (ho : PE X o (tB X fo)) (hb : attributeBase o f X.env (eval o X.env) = eval o X.env := by rfl) : PE X (.Attribute o f pos) (tE X (eFld C f fo)) := PE.weak (pe_fld ho hb) fun σ H Q ⟨W, E0, ρ, B, r, B', e1, ok, en, e, q⟩ => by
  subst e1
  simp only [eFld, Option.bind_eq_some_iff] at e
  obtain ⟨⟨ro, B1⟩, h1, ⟨n, fl⟩, h2, y, h3, h4⟩ := e
  cases h4
  refine ⟨W, E0, ρ, B, ro, B1, rfl, ok, en, h1, fun W1 v1 s1 ok1 r1 => ?_⟩
  obtain ⟨a, dx, c, fvs, e2, e3, hbs, hmg, hH, rf, nr, hB⟩ := ins_of ok1 r1 h2
  obtain ⟨c', hc1, hc2⟩ := hc.ex
  have ec : c = c' := by
    rw [hmg] at hc1
    cases hc1
    rfl
  subst ec
  obtain ⟨v', hv, rv⟩ := rf.look.2 _ h3
  exact ⟨a, c, dx, fvs, v', e3, hH, hc2, hn c hmg, hv, q W1 v' s1 ok1 rv⟩
theorem ds_fld (hc : ClsD X.K X.mg C) (hn : NoA X.K X.mg C f) (ho : PE X o (tB X fo)) (hv : PE X v (tE X fv)) (hs : swapsWith v (some (.Attribute o f pos')) pos.line X.env = pure false := by rfl) : PS X (.Assign [.Attribute o f pos'] v pos) (tS X (sFldS C f fo fv)) :=
  PS.weak (ps_fld ho hv hs) fun D σ H ⟨E0, W, ρ, B, oo, ρ', B', e1, at_, e, q⟩ => by
    subst e1
    simp only [sFldS, Option.bind_eq_some_iff] at e
    obtain ⟨⟨rv, B1⟩, h1, ⟨ro, B2⟩, h2, ⟨n, fl⟩, h3, h4⟩ := e
    obtain ⟨hl, h4⟩ := ifs2 h4
    cases h4
    refine ⟨W, E0.H, ρ, B, rv, B1, rfl, at_.ok, at_.en, h1, fun W1 v1 s1 ok1 r1 => ?_⟩
    have at1 := at_.step s1 ok1
    refine ⟨W1, E0.H, ρ, B1, ro, B2, rfl, ok1, at1.en, h2, fun W2 v2 s2 ok2 r2 => ?_⟩
    have at2 := at1.step s2 ok2
    obtain ⟨a, dx, c, fvs, e2, e3, hbs, hmg, hH, rf, nr, hB⟩ := ins_of ok2 r2 h3
    obtain ⟨c', hc1, hc2⟩ := hc.ex
    have ec : c = c' := by
      rw [hmg] at hc1
      cases hc1
      rfl
    subst ec
    refine ⟨a, c, dx, fvs, e3, hH, hc2, hn c hmg, by rw [rf.length]; exact hl, ?_⟩
    obtain ⟨s3, ok3⟩ := ok2.putBox (o := .ins c dx (putF f v1 fvs)) hbs nr (.ins hmg upd_same (rf.put (s2.rpv r1)) nr)
    exact q ⟨W2.R, W2.bs, _⟩ σ (s1.R.trans s2.R) (at2.step s3 ok3)

/-! ### e.m(..), C(..) -/
def eMethI (C m : Str) (sf : SF) (fo : SE) (fs : SA) : SE := fun ρ B => (fo ρ B).bind fun p => (insOf C p.2 p.1).bind fun nf => if (nf.2.lookup m).isNone = true then (fs ρ p.2).bind fun q => sf (p.1 :: q.1) q.2 else none
theorem methI_pass {c : Addr} {σ : L2.St} {H : Hp} {Q : VK} (hc : X.mg C = some (.ref c)) (ar : Ar np sf) (h : tE X (eMethI C m sf fo fs) σ H Q) : tMeth c m (spD X.w X.K X.mg np sf) [] E0 (tB X fo) (tA X fs) σ H Q := by
  obtain ⟨W, E0, ρ, B, r, B', e1, ok, en, e, q⟩ := h
  simp only [eMethI, Option.bind_eq_some_iff] at e
  obtain ⟨⟨ro, B1⟩, h1, ⟨n, fl⟩, h2, h3⟩ := e
  obtain ⟨hl, h3⟩ := ifs2 h3
  simp only [Option.bind_eq_some_iff] at h3
  obtain ⟨⟨xs, B2⟩, h4, h5⟩ := h3
  refine ⟨W, E0, ρ, B, ro, B1, e1, ok, en, h1, fun W1 v1 s1 ok1 r1 => ?_⟩
  obtain ⟨a, dx, c', fvs, e2, e3, hbs, hmg, hH, rf, nr, hB⟩ := ins_of ok1 r1 h2
  have ec : c' = c := by
    rw [hmg] at hc
    cases hc
    rfl
  subst ec e2
  refine ⟨a, dx, fvs, e3, hH, rf.look.1 (Option.isNone_iff_eq_none.mp hl), W1, E0, ρ, B1, xs, B2, rfl, ok1, en.step s1, h4, fun W2 vs s2 ok2 r2 => ?_⟩
  show spD X.w X.K X.mg np sf (v1 :: (vs ++ [])) W2.H Q L2.E0
  rw [List.append_nil]
  refine ⟨W2, B2, .bx n :: xs, r, B', rfl, ok2, .cons ⟨a, s2.bget hbs, e3⟩ r2, ar _ _ _ h5, h5, fun W3 v s3 ok3 rv => q W3 v ((s1.trans s2).trans s3) ok3 rv⟩
theorem g_methI {pl : Sem Bool} (M : Mnd X.prog X.w X.K X.mg X.base k C m np sf) (hr : Room k X.A) (ho : PE X o (tB X fo)) (ha : PA X (e :: es) (tA X fs))
    (hst : starEach (e :: es) X.env = (false, eval e X.env) :: starEach es X.env := by rfl) (hpl : (backTo pos (starEach es X.env)).any (·.1) = false := by rfl)
    (ht : eval (.Call (.Attribute o m apos) (e :: es) [] pos) X.env = (do
      let ov ← eval o X.env
      standAt apos.atName
      let (f, first) ← holding [ov] (getMethod ov m pl)
      callWith pos f first (backTo pos (starEach (e :: es) X.env)) (backToKw pos (keywordEach [] X.env))) := by rfl) :
    PE X (.Call (.Attribute o m apos) (e :: es) [] pos) (tE X (eMethI C m sf fo fs)) := by
  obtain ⟨c, g, fd, ps, h1, h2, h3, h4, h5⟩ := M.ex
  exact PE.weak (pe_meth ho h2 h3 h4 hr h5 .nil pass0 ha hst hpl ht) fun _ _ _ h => methI_pass h1 M.ar h
theorem g_methI0 {pl : Sem Bool} (M : Mnd X.prog X.w X.K X.mg X.base k C m np sf) (hr : Room k X.A) (ho : PE X o (tB X fo))
    (ht : eval (.Call (.Attribute o m apos) [] [] pos) X.env = (do
      let ov ← eval o X.env
      standAt apos.atName
      let (f, first) ← holding [ov] (getMethod ov m pl)
      callWith pos f first (backTo pos (starEach [] X.env)) (backToKw pos (keywordEach [] X.env))) := by rfl) :
    PE X (.Call (.Attribute o m apos) [] [] pos) (tE X (eMethI C m sf fo aNil)) := by
  obtain ⟨c, g, fd, ps, h1, h2, h3, h4, h5⟩ := M.ex
  refine PE.weak (pe_meth0 ho h2 h3 h4 hr h5 .nil pass0 ht) fun σ H Q h => ?_
  obtain ⟨W, E0, ρ, B, r, B', q⟩ := methI_pass h1 M.ar h
  refine ⟨W, E0, ρ, B, r, B', q.1, q.2.1, q.2.2.1, q.2.2.2.1, fun W1 v1 s1 ok1 r1 => ?_⟩
  obtain ⟨a, dx, fl, e3, hH, hl, W2, E2, ρ2, B2, xs, B3, e4, ok2, en2, e5, q2⟩ := q.2.2.2.2 W1 v1 s1 ok1 r1
  refine ⟨a, dx, fl, e3, hH, hl, ?_⟩
  cases e5
  show spD X.w X.K X.mg np sf (v1 :: ([] ++ [])) W1.H Q L2.E0
  rw [← e4]
  exact q2 W2 [] .refl ok2 .nil
def eMake (C : Str) (sf : SF) (fs : SA) : SE := fun ρ B => (fs ρ B).bind fun q => (sf (.bx q.2.length :: q.1) (q.2 ++ [.ins C []])).bind fun r => match r.1 with
  | .d .none => some (.bx q.2.length, r.2)
  | _ => none
theorem make_pass {c : Addr} {σ : L2.St} {H : Hp} {Q : VK} (hc : X.mg C = some (.ref c)) (ar : Ar np sf) (h : tE X (eMake C sf fs) σ H Q) : tMake c (spD X.w X.K X.mg np sf) [] E0 (tA X fs) σ H Q := by
  obtain ⟨W, E0, ρ, B, r, B', e1, ok, en, e, q⟩ := h
  simp only [eMake, Option.bind_eq_some_iff] at e
  obtain ⟨⟨xs, B1⟩, h1, ⟨rr, B2⟩, h2, h3⟩ := e
  have er : rr = .d .none ∧ r = .bx B1.length ∧ B' = B2 := by
    split at h3
    · rename_i e
      cases h3
      exact ⟨e, rfl, rfl⟩
    · cases h3
  obtain ⟨er, eb, e2⟩ := er
  subst er eb e2
  refine ⟨W, E0, ρ, B, xs, B1, e1, ok, en, h1, fun W1 vs s1 ok1 r1 x dx hx hdx hne => ?_⟩
  show spD X.w X.K X.mg np sf (.ref x :: (vs ++ [])) _ _ L2.E0
  rw [List.append_nil]
  obtain ⟨s2, ok2⟩ := ok1.newH (.own x) hdx
  have hx2 : upd W1.H dx (.own x) x = none := by rw [upd_ne (Ne.symm hne)]; exact hx
  obtain ⟨s3, ok3⟩ := ok2.newH (.ins c dx []) hx2
  have nb := ok1.nob hx
  have nr := ok1.nor hx
  obtain ⟨s4, ok4⟩ := ok3.newBox (b := .ins C []) (s2.trans s3) nb hx ⟨_, upd_same⟩ (.ins hc upd_same .nil nr)
  refine ⟨_, B1 ++ [.ins C []], .bx B1.length :: xs, .d .none, B', rfl, ok4, .cons ⟨x, ?_, rfl⟩ (s4.rpvs r1), ar _ _ _ h2, h2, fun W5 v s5 ok5 rv => ?_⟩
  · rw [List.getElem?_append_right (by rw [← ok1.len]; exact Nat.le_refl _), ← ok1.len, Nat.sub_self]
    rfl
  · refine ⟨?_, q W5 (.ref x) ((s1.trans s4).trans s5) ok5 ⟨x, s5.bget ?_, rfl⟩⟩
    · cases (show Rp X.w X.K W5.R v .none from rv)
      rfl
    · show (W1.bs ++ [x])[B1.length]? = some x
      rw [List.getElem?_append_right (by rw [← ok1.len]; exact Nat.le_refl _), ← ok1.len, Nat.sub_self]
      rfl
theorem g_make (M : Mkd X.prog X.w X.K X.mg X.base k C np sf) (hr : Room (k + 1) X.A) (ha : PA X (e :: es) (tA X fs)) (hg : Gl X C := by rfl) (hdb : (C == ("__debug__" : Str)) = false := by decide) (he : starEach (e :: es) X.env = (false, eval e X.env) :: starEach es X.env := by rfl)
    (hpl : (backTo pos (starEach es X.env)).any (·.1) = false := by rfl) : PE X (.Call (.Name C p) (e :: es) [] pos) (tE X (eMake C sf fs)) := by
  obtain ⟨c, g, fd, ps, h1, h2, h3, h4⟩ := M.ex
  exact PE.weak (pe_make h2 h3 hr hg h1 h4 .nil pass0 ha hdb he hpl) fun _ _ _ h => make_pass h1 M.ar h
end
section
variable {P : Program} {w : World} {K : PySem.W.Frag} {mg : Str → Option Value} {base : Heap} {x qual : Str} {params : Arguments} {body : List Stmt} {scope : Scope} {f : Addr} {fd : FuncData} {N ps : List Str} {sb : SS} {k : Nat}
def noF : SF := fun _ _ => none
theorem fn_none {np : Nat} : FnOk P w K mg base CX0 k f fd ps (spD w K mg np noF) := ⟨(fun vs H Q E ⟨W, B, xs, r, B', _, _, _, _, e, _⟩ => (nomatch e)), fun A outer s H args us vs Q E _ _ _ _ ⟨W, B, xs, r, B', _, _, _, _, e, _⟩ => (nomatch e)⟩
theorem ar_none {np : Nat} : Ar np noF := fun _ _ _ h => nomatch h
/-- a def that calls itself, so many times deep -/
theorem fnd_rec {np : Nat} {m : Nat → SF} {L : Nat} (F : FunD K x qual params body scope [] [] f fd) (hm : mg x = some (.ref f)) (S : FnScope N ps scope) (hnp : ps.length = np) (h0 : m 0 = noF) (bf : SF → SS) (h1 : ∀ n, m (n + 1) = funS N.length np (bf (m n)))
    (hb : ∀ (kV doc pm : Value) (an : Option Addr) (cdv ct : Value) (us : List Value), us.length = ps.length → bindArgs (PySem.W.fnOf x qual params body scope .none kV doc pm an cdv ct) ⟨us, []⟩ = pure (ps.zip us))
    (hbody : ∀ n, Fnd P w K mg base (L + n) x np (m n) → ∀ (cdv : Value) (A : Around) (outer : List Env) (s : Shared) (H : Hp) (E : XK), Room (L + n) (A.deeper (envOfC qual scope s.heap.objs.size f cdv)) →
      PSs (cxOf CX0 P w K mg base N qual scope f cdv A outer s H E).nox body (tS (cxOf CX0 P w K mg base N qual scope f cdv A outer s H E).nox (bf (m n)))) : ∀ n, Fnd P w K mg base (L + n) x np (m n)
  | 0 => ⟨⟨f, fd, ps, by rw [h0]; exact fn_none, hm, F.kp, F.bindsN hb⟩, by rw [h0]; exact ar_none⟩
  | n + 1 => by
    have ih := fnd_rec F hm S hnp h0 bf h1 hb hbody n
    have := fnd_of (k := L + n) F hm S hb (hbody n ih)
    subst hnp
    rw [h1]
    exact this
theorem mnd_of {C m : Str} {c : Addr} (F : FunD K x qual params body scope [] [] f fd) (hC : mg C = some (.ref c)) (hc : Cls K c) (hm : Meth K c m f) (S : FnScope N ps scope)
    (hb : ∀ (kV doc pm : Value) (an : Option Addr) (cdv ct : Value) (us : List Value), us.length = ps.length → bindArgs (PySem.W.fnOf x qual params body scope .none kV doc pm an cdv ct) ⟨us, []⟩ = pure (ps.zip us))
    (hbody : ∀ (cdv : Value) (A : Around) (outer : List Env) (s : Shared) (H : Hp) (E : XK), Room k (A.deeper (envOfC qual scope s.heap.objs.size f cdv)) →
      PSs (cxOf CX0 P w K mg base N qual scope f cdv A outer s H E).nox body (tS (cxOf CX0 P w K mg base N qual scope f cdv A outer s H E).nox sb)) : Mnd P w K mg base (k + 1) C m ps.length (funS N.length ps.length sb) :=
  ⟨⟨c, f, fd, ps, hC, hc, hm, fun_ok F S hbody, F.bindsN hb⟩, ar_fun⟩
theorem mnd_rec {C m : Str} {c : Addr} {np : Nat} {mf : Nat → SF} {L : Nat} (F : FunD K x qual params body scope [] [] f fd) (hC : mg C = some (.ref c)) (hc : Cls K c) (hm : Meth K c m f) (S : FnScope N ps scope) (hnp : ps.length = np) (h0 : mf 0 = noF) (bf : SF → SS) (h1 : ∀ n, mf (n + 1) = funS N.length np (bf (mf n)))
    (hb : ∀ (kV doc pm : Value) (an : Option Addr) (cdv ct : Value) (us : List Value), us.length = ps.length → bindArgs (PySem.W.fnOf x qual params body scope .none kV doc pm an cdv ct) ⟨us, []⟩ = pure (ps.zip us))
    (hbody : ∀ n, Mnd P w K mg base (L + n) C m np (mf n) → ∀ (cdv : Value) (A : Around) (outer : List Env) (s : Shared) (H : Hp) (E : XK), Room (L + n) (A.deeper (envOfC qual scope s.heap.objs.size f cdv)) →
      PSs (cxOf CX0 P w K mg base N qual scope f cdv A outer s H E).nox body (tS (cxOf CX0 P w K mg base N qual scope f cdv A outer s H E).nox (bf (mf n)))) : ∀ n, Mnd P w K mg base (L + n) C m np (mf n)
  | 0 => ⟨⟨c, f, fd, ps, hC, hc, hm, by rw [h0]; exact fn_none, F.bindsN hb⟩, by rw [h0]; exact ar_none⟩
  | n + 1 => by
    have ih := mnd_rec F hC hc hm S hnp h0 bf h1 hb hbody n
    have := mnd_of (k := L + n) (C := C) (m := m) F hC hc hm S hb (hbody n ih)
    subst hnp
    rw [h1]
    exact this
theorem mkd_of {C : Str} {c : Addr} (F : FunD K x qual params body scope [] [] f fd) (hC : mg C = some (.ref c)) (hm : Mk K c f) (S : FnScope N ps scope)
    (hb : ∀ (kV doc pm : Value) (an : Option Addr) (cdv ct : Value) (us : List Value), us.length = ps.length → bindArgs (PySem.W.fnOf x qual params body scope .none kV doc pm an cdv ct) ⟨us, []⟩ = pure (ps.zip us))
    (hbody : ∀ (cdv : Value) (A : Around) (outer : List Env) (s : Shared) (H : Hp) (E : XK), Room k (A.deeper (envOfC qual scope s.heap.objs.size f cdv)) →
      PSs (cxOf CX0 P w K mg base N qual scope f cdv A outer s H E).nox body (tS (cxOf CX0 P w K mg base N qual scope f cdv A outer s H E).nox sb)) : Mkd P w K mg base (k + 1) C ps.length (funS N.length ps.length sb) :=
  ⟨⟨c, f, fd, ps, hC, hm, fun_ok F S hbody, F.bindsN hb⟩, ar_fun⟩
end
end DL
end

section
set_option Elab.async false
set_option linter.all false
set_option maxRecDepth 100000
set_option autoImplicit false
/-! Plain evaluation of meanings. -/
namespace DL
open PySem PySem.Spec PyProof.Rows

theorem seq_nx {f g : SS} {ρ ρ1 : EnvD} {B B1 : Bs} (h : f ρ B = some (.nx, ρ1, B1)) : sSeq f g ρ B = g ρ1 B1 := by
  unfold sSeq
  rw [h]
  rfl
theorem seq_rt {f g : SS} {ρ ρ1 : EnvD} {B B1 : Bs} {r : Vl} (h : f ρ B = some (.rt r, ρ1, B1)) : sSeq f g ρ B = some (.rt r, ρ1, B1) := by
  unfold sSeq
  rw [h]
  rfl
theorem set_ok {i : Nat} {f : SE} {ρ : EnvD} {B B1 : Bs} {x : Vl} (h : f ρ B = some (x, B1)) (hi : i < ρ.length) : sSet i f ρ B = some (.nx, ρ.set i (.sh x), B1) := by
  unfold sSet
  rw [h]
  simp only [Option.bind_some, if_pos hi]
theorem setO_ok {i : Nat} {f : SE} {ρ : EnvD} {B B1 : Bs} {d : PyData} (h : f ρ B = some (.d d, B1)) (hi : i < ρ.length) : sSetO i f ρ B = some (.nx, ρ.set i (.ow d), B1) := by
  unfold sSetO
  rw [h]
  simp only [Option.bind_some, if_pos hi]
theorem app_ok {i : Nat} {f : SE} {ρ : EnvD} {B B1 : Bs} {x : PyData} {ds : List PyData} (h : f ρ B = some (.d x, B1)) (hi : ρ[i]? = some (.ow (.list ds))) (hz : ds.length < LIM) : sApp i f ρ B = some (.nx, ρ.set i (.ow (.list (ds ++ [x]))), B1) := by
  unfold sApp
  rw [h]
  simp only [Option.bind_some, hi, if_pos hz]
theorem bin_ok {g : PyData → PyData → Option PyData} {f h : SE} {ρ : EnvD} {B B1 B2 : Bs} {x y : Vl} {dx dy z : PyData} (h1 : f ρ B = some (x, B1)) (h2 : h ρ B1 = some (y, B2)) (h3 : deref B2 x = some dx) (h4 : deref B2 y = some dy) (h5 : g dx dy = some z) : eBin g f h ρ B = some (.d z, B2) := by
  unfold eBin
  simp only [h1, h2, h3, h4, h5, Option.bind_some]
theorem if_t {t : SB} {f g : SS} {ρ : EnvD} {B B1 : Bs} (h : t ρ B = some (true, B1)) : sIf t f g ρ B = f ρ B1 := by
  unfold sIf
  rw [h]
  rfl
theorem if_f {t : SB} {f g : SS} {ρ : EnvD} {B B1 : Bs} (h : t ρ B = some (false, B1)) : sIf t f g ρ B = g ρ B1 := by
  unfold sIf
  rw [h]
  rfl
/-- a loop that goes through -/
theorem for_ok {g : SG} {b : SS} (P : Nat → EnvD → Bs → Prop) : ∀ (ds : List PyData) (i : Nat) (ρ : EnvD) (B : Bs), P i ρ B →
    (∀ (j : Nat) (d : PyData) (ρ : EnvD) (B : Bs), ds[j]? = some d → P (i + j) ρ B → ∃ ρ1 ρ2 B2, g d ρ = some ρ1 ∧ b ρ1 B = some (.nx, ρ2, B2) ∧ P (i + j + 1) ρ2 B2) →
    ∃ ρ' B', forGo g b ds ρ B = some (.nx, ρ', B') ∧ P (i + ds.length) ρ' B'
  | [], i, ρ, B, h, _ => ⟨ρ, B, rfl, h⟩
  | d :: ds, i, ρ, B, h, hs => by
    obtain ⟨ρ1, ρ2, B2, h1, h2, h3⟩ := hs 0 d ρ B rfl h
    obtain ⟨ρ', B', h4, h5⟩ := for_ok P ds (i + 1) ρ2 B2 h3 fun j d' ρ B hj hP => by
      have e : i + (j + 1) = i + 1 + j := by omega
      have := hs (j + 1) d' ρ B (by simpa using hj) (by rw [e]; exact hP)
      rw [e] at this
      exact this
    refine ⟨ρ', B', ?_, by rw [List.length_cons, show i + (ds.length + 1) = i + 1 + ds.length by omega]; exact h5⟩
    simp only [forGo, h1, h2, Option.bind_some, h4]
/-- a comprehension, item by item -/
theorem lc_ok {g : SG} {t : SB} {e : SE} {ρ0 : EnvD} (P : Bs → Prop) (R : PyData → Prop) : ∀ (ds : List PyData) (B : Bs), P B →
    (∀ d B, d ∈ ds → P B → ∃ ρ1 y B1, g d ρ0 = some ρ1 ∧ t ρ1 B = some (true, B) ∧ e ρ1 B = some (.d y, B1) ∧ P B1 ∧ R y) → ∃ ys B', lcGo g t e ρ0 ds B = some (ys, B') ∧ P B' ∧ ys.length = ds.length ∧ ∀ y ∈ ys, R y
  | [], B, h, _ => ⟨[], B, rfl, h, rfl, fun _ h => nomatch h⟩
  | d :: ds, B, h, hs => by
    obtain ⟨ρ1, y, B1, h1, h2, h3, h4, h5⟩ := hs d B List.mem_cons_self h
    obtain ⟨ys, B', h6, h7, h8, h9⟩ := lc_ok P R ds B1 h4 fun d' B hd => hs d' B (List.mem_cons_of_mem _ hd)
    refine ⟨y :: ys, B', ?_, h7, by rw [List.length_cons, List.length_cons, h8], fun z hz => ?_⟩
    · simp only [lcGo, h1, h2, h3, Option.bind_some, if_true, unD, h6]
    · rcases List.mem_cons.mp hz with e | hz
      · subst e; exact h5
      · exact h9 z hz
/-- .. by a function, nothing else changes -/
theorem lc_map {g : SG} {t : SB} {e : SE} {ρ0 : EnvD} {B : Bs} (p : PyData → Bool) (f : PyData → PyData) : ∀ (ds : List PyData),
    (∀ d, d ∈ ds → ∃ ρ1, g d ρ0 = some ρ1 ∧ t ρ1 B = some (p d, B) ∧ (p d = true → e ρ1 B = some (.d (f d), B))) → lcGo g t e ρ0 ds B = some ((ds.filter p).map f, B)
  | [], _ => rfl
  | d :: ds, hs => by
    obtain ⟨ρ1, h1, h2, h3⟩ := hs d List.mem_cons_self
    have ih := lc_map p f ds fun d' hd => hs d' (List.mem_cons_of_mem _ hd)
    rw [List.filter_cons]
    cases hp : p d with
    | true =>
      rw [if_pos rfl, List.map_cons]
      rw [hp] at h2
      simp only [lcGo, h1, h2, h3 hp, Option.bind_some, if_true, unD, ih]
    | false =>
      rw [if_neg Bool.false_ne_true]
      rw [hp] at h2
      simp only [lcGo, h1, h2, Option.bind_some, Bool.false_eq_true, if_false, ih]
end DL
namespace DL
open PySem PySem.Spec PyProof.Rows
theorem gtD_int (i j : Int) : gtD (.int i) (.int j) = some (.bool (decide (j < i))) := by
  unfold gtD
  rw [if_pos (by rfl), PySem.W.dataLt_int]
theorem ltD_int (i j : Int) : ltD (.int i) (.int j) = some (.bool (decide (i < j))) := by
  unfold ltD
  rw [if_pos (by rfl), PySem.W.dataLt_int]
theorem leD_int (i j : Int) : leD (.int i) (.int j) = some (.bool (decide (i ≤ j))) := by
  unfold leD
  rw [if_pos (by rfl), PySem.W.dataLt_int]
  by_cases h : j < i
  · rw [decide_eq_true h, decide_eq_false (by omega)]; rfl
  · rw [decide_eq_false h, decide_eq_true (by omega)]; rfl
theorem geD_int (i j : Int) : geD (.int i) (.int j) = some (.bool (decide (j ≤ i))) := by
  unfold geD
  rw [if_pos (by rfl), PySem.W.dataLt_int]
  by_cases h : i < j
  · rw [decide_eq_true h, decide_eq_false (by omega)]; rfl
  · rw [decide_eq_false h, decide_eq_true (by omega)]; rfl
theorem mulD_r (i j : Int) (h : j.natAbs < 2 ^ 64) : mulD (.int i) (.int j) = some (.int (i * j)) := by
  show (if mulC i j = true then _ else _) = _
  rw [if_pos (by simp [mulC, h])]
theorem mulD_l (i j : Int) (h : i.natAbs < 2 ^ 64) : mulD (.int i) (.int j) = some (.int (i * j)) := by
  show (if mulC i j = true then _ else _) = _
  rw [if_pos (by simp [mulC, h])]
theorem modD_ok (i j : Int) (h : j ≠ 0) : modD (.int i) (.int j) = some (.int (i.fmod j)) := by
  show (if modC i j = true then _ else _) = _
  rw [if_pos (by simp [modC, h])]
theorem fdivD_ok (i j : Int) (h : j ≠ 0) (h2 : j.natAbs < 1073741824) : fdivD (.int i) (.int j) = some (.int (i.fdiv j)) := by
  show (if divC i j = true then _ else _) = _
  rw [if_pos (by simp [divC, h, h2])]
theorem call_ok {g : List PyData → Option PyData} {fs : SA} {ρ : EnvD} {B B1 : Bs} {vs : List Vl} {ds : List PyData} {z : PyData} (h1 : fs ρ B = some (vs, B1)) (h2 : derefs B1 vs = some ds) (h3 : g ds = some z) : eCall g fs ρ B = some (.d z, B1) := by
  unfold eCall
  simp only [h1, h2, h3, Option.bind_some]
theorem cons_ok {f : SE} {fs : SA} {ρ : EnvD} {B B1 B2 : Bs} {v : Vl} {vs : List Vl} (h1 : f ρ B = some (v, B1)) (h2 : fs ρ B1 = some (vs, B2)) : aCons f fs ρ B = some (v :: vs, B2) := by
  unfold aCons
  simp only [h1, h2, Option.bind_some]
theorem atI_nat {α : Type} (xs : List α) (p : Nat) (h : p < xs.length) : L2.atI xs (p : Int) = some xs[p] := by
  unfold L2.atI L2.ixN
  rw [if_pos (Int.natCast_nonneg p), if_pos (by omega)]
  simp [h]
theorem ixD_list (ds : List PyData) (p : Nat) (h : p < ds.length) : ixD (.list ds) (.int p) = some ds[p] := atI_nat ds p h
theorem ixD_tuple (ds : List PyData) (p : Nat) (h : p < ds.length) : ixD (.tuple ds) (.int p) = some ds[p] := atI_nat ds p h
theorem ix_ok {f h : SE} {ρ : EnvD} {B B1 B2 : Bs} {x y : Vl} {dx dy z : PyData} (h1 : f ρ B = some (x, B1)) (h2 : h ρ B1 = some (y, B2)) (h3 : derefZ B2 x = some dx) (h4 : deref B2 y = some dy) (h5 : ixD dx dy = some z) : eIx f h ρ B = some (.d z, B2) := by
  unfold eIx
  simp only [h1, h2, h3, h4, h5, Option.bind_some]
theorem sB_ok {f : SE} {ρ : EnvD} {B B1 : Bs} {k : Bool} (h : f ρ B = some (.d (.bool k), B1)) : sB f ρ B = some (k, B1) := by
  unfold sB
  rw [h]
  rfl
theorem for_run {fi : SI} {g : SG} {b : SS} {ρ : EnvD} {B B1 : Bs} {ds : List PyData} (h : fi ρ B = some (ds, B1)) : sFor fi g b ρ B = forGo g b ds ρ B1 := by
  unfold sFor
  rw [h]
  rfl
theorem fun_rt {N np : Nat} {b : SS} {xs : List Vl} {B B1 : Bs} {ρ : EnvD} {r : Vl} (hl : xs.length = np) (h : b (startD N xs) B = some (.rt r, ρ, B1)) : funS N np b xs B = some (tidy B.length r B1) := by
  unfold funS
  rw [if_pos hl, h]
  rfl
/-- no boxes were made, and the old ones hold none -/
theorem tidy_same {r : Vl} {B B1 : Bs} (hl : B1.length = B.length) : tidy B.length r B1 = (r, B1) := by
  unfold tidy
  rw [← hl, List.take_length]
  split <;> rfl
theorem rng1_nat (n : Nat) (h : n < 1000000000) : rng1F [.d (.int n)] = some (rngD 0 n) := by
  show (if IB (n : Int) = true then some (rngD 0 (n : Int).toNat) else none) = _
  have : IB (n : Int) = true := by
    unfold IB
    rw [Bool.and_eq_true, decide_eq_true_eq, decide_eq_true_eq]
    omega
  rw [if_pos this]
  rfl
theorem rngD_at (lo : Int) (n i : Nat) (h : i < n) : (rngD lo n)[i]? = some (.int (lo + i)) := by
  unfold rngD
  rw [List.getElem?_map, List.getElem?_range h]
  rfl
end DL
end

section

end

section
set_option Elab.async false
set_option linter.all false
set_option maxRecDepth 100000
set_option autoImplicit false
/-! The laws' own draws. -/
namespace DL
open PySem PySem.Spec PyProof.Rows
theorem fun_is {N np : Nat} {b : SS} {xs : List Vl} {B B1 : Bs} {ρ : EnvD} {r : Vl} (hl : xs.length = np) (hb : B1.length = B.length) (h : b (startD N xs) B = some (.rt r, ρ, B1)) : funS N np b xs B = some (r, B1) := by
  rw [fun_rt hl h, tidy_same hb]
def bNext : SS := (sSeq (sAugB (eBor 0) (eC (.str "at")) (intD noC fun i j => i + j) (eC (.int 1))) (sSeq (sIf (sB (eBin gtD (eIx (eBor 0) (eC (.str "at"))) (eLen (eIx (eBor 0) (eC (.str "draws")))))) (sRet (eC (.int 0))) sNil) (sRet (eBin modD (eCall intF (aCons (eIx (eIx (eBor 0) (eC (.str "draws"))) (eBin subD (eIx (eBor 0) (eC (.str "at"))) (eC (.int 1)))) aNil)) (eBor 1)))))
def lawNext : SF := funS 2 2 bNext
def bDraws : SS := (sSeq (sSetO 2 (eLst aNil)) (sSeq (sSet 3 (eC (.int 7))) (sSeq (sFor (sRng rng1F (aCons (eLen (eBor 0)) aNil)) (gN 4) (sSeq (sSet 5 (eCall absD (aCons (eCall intF (aCons (eIx (eBor 0) (eBor 4)) aNil)) aNil))) (sSeq (sSet 3 (eBin modD (eCall intF (aCons (eBin addD (eBin addD (eBin mulD (eBor 3) (eC (.int 48271))) (eBin modD (eBor 5) (eC (.int 1000003)))) (eBor 4)) aNil)) (eC (.int 65537)))) (sSeq (sSet 6 (eC (.int 0))) (sSeq (sIf (sB (eBin geD (eBor 5) (eBin powD (eC (.int 10)) (eC (.int 18))))) (sSet 6 (eVar 5)) (sSeq (sApp 2 (eBin modD (eCall intF (aCons (eBor 5) aNil)) (eC (.int 997)))) (sApp 2 (eBin modD (eBin modD (eCall intF (aCons (eBin addD (eBin mulD (eBor 3) (eC (.int 69621))) (eC (.int 5))) aNil)) (eC (.int 65521))) (eC (.int 997)))))) (sFor (sRng rng1F (aCons (eC (.int 60)) aNil)) (gN 7) (sIf (sB (eBin gtD (eBor 6) (eC (.int 0)))) (sSeq (sApp 2 (eBin modD (eCall intF (aCons (eBor 6) aNil)) (eC (.int 997)))) (sSet 6 (eBin fdivD (eBor 6) (eC (.int 997))))) sNil))))))) (sSeq (sFor (sRng rng1F (aCons (eVar 1) aNil)) (gN 4) (sSeq (sSet 3 (eBin modD (eCall intF (aCons (eBin addD (eBin addD (eBin mulD (eBor 3) (eC (.int 16807))) (eBor 4)) (eC (.int 1))) aNil)) (eC (.int 65537)))) (sApp 2 (eBin modD (eCall intF (aCons (eBor 3) aNil)) (eC (.int 997)))))) (sRet (eSlice (eBor 2) pNone (pSome (eVar 1))))))))
def lawDraws : SF := funS 8 2 bDraws
/-- the law's own box: draws, at -/
def wB (D : List Int) (p : Int) : Bx := .val (.dict [(.str "draws", .list (D.map .int)), (.str "at", .int p)])
def nx (D : List Int) (p : Nat) (m : Int) : Int := if h : p < D.length then D[p].fmod m else 0
theorem s_next (D : List Int) (p : Nat) (m : Int) (hm : m ≠ 0) : lawNext [.bx 0, .d (.int m)] [wB D p] = some (.d (.int (nx D p m)), [wB D (p + 1 : Nat)]) := by
  have e1 : sAugB (eBor 0) (eC (.str "at")) (intD noC fun i j => i + j) (eC (.int 1)) [.sh (.bx 0), .sh (.d (.int m))] [wB D p] = some (.nx, [.sh (.bx 0), .sh (.d (.int m))], [wB D (p + 1 : Nat)]) := rfl
  have e2 : eIx (eBor 0) (eC (.str "at")) [.sh (.bx 0), .sh (.d (.int m))] [wB D (p + 1 : Nat)] = some (.d (.int (p + 1 : Nat)), [wB D (p + 1 : Nat)]) := rfl
  have e3 : eIx (eBor 0) (eC (.str "draws")) [.sh (.bx 0), .sh (.d (.int m))] [wB D (p + 1 : Nat)] = some (.d (.list (D.map .int)), [wB D (p + 1 : Nat)]) := rfl
  have e4 : eLen (eIx (eBor 0) (eC (.str "draws"))) [.sh (.bx 0), .sh (.d (.int m))] [wB D (p + 1 : Nat)] = some (.d (.int (D.map PyData.int).length), [wB D (p + 1 : Nat)]) := by
    unfold eLen
    rw [e3]
    rfl
  have t : sB (eBin gtD (eIx (eBor 0) (eC (.str "at"))) (eLen (eIx (eBor 0) (eC (.str "draws"))))) [.sh (.bx 0), .sh (.d (.int m))] [wB D (p + 1 : Nat)] = some (decide (((D.map PyData.int).length : Int) < (p + 1 : Nat)), [wB D (p + 1 : Nat)]) :=
    sB_ok (bin_ok e2 e4 rfl rfl (gtD_int _ _))
  unfold lawNext
  have main : bNext (startD 2 [.bx 0, .d (.int m)]) [wB D p] = some (.rt (.d (.int (nx D p m))), [.sh (.bx 0), .sh (.d (.int m))], [wB D (p + 1 : Nat)]) := by
    unfold bNext
    rw [show startD 2 [.bx 0, .d (.int m)] = [.sh (.bx 0), .sh (.d (.int m))] from rfl, seq_nx e1]
    by_cases h : p < D.length
    · rw [decide_eq_false (by rw [List.length_map]; omega)] at t
      rw [seq_nx (if_f t)]
      have e5 : eBin subD (eIx (eBor 0) (eC (.str "at"))) (eC (.int 1)) [.sh (.bx 0), .sh (.d (.int m))] [wB D (p + 1 : Nat)] = some (.d (.int p), [wB D (p + 1 : Nat)]) := by
        refine bin_ok e2 rfl rfl rfl (z := .int p) ?_
        show some (PyData.int (((p + 1 : Nat) : Int) - 1)) = _
        rw [show ((p + 1 : Nat) : Int) - 1 = p by omega]
      have e6 := ix_ok e3 e5 rfl rfl (ixD_list (D.map .int) p (by rw [List.length_map]; exact h))
      rw [List.getElem_map] at e6
      have e7 : sRet (eBin modD (eCall intF (aCons (eIx (eIx (eBor 0) (eC (.str "draws"))) (eBin subD (eIx (eBor 0) (eC (.str "at"))) (eC (.int 1)))) aNil)) (eBor 1)) [.sh (.bx 0), .sh (.d (.int m))] [wB D (p + 1 : Nat)] = some (.rt (.d (.int (D[p].fmod m))), [.sh (.bx 0), .sh (.d (.int m))], [wB D (p + 1 : Nat)]) := by
        unfold sRet
        rw [bin_ok (call_ok (cons_ok e6 rfl) rfl rfl) rfl rfl rfl (modD_ok _ _ hm)]
        rfl
      rw [e7]
      unfold nx
      rw [dif_pos h]
    · rw [decide_eq_true (by rw [List.length_map]; omega)] at t
      rw [seq_rt (if_t t)]
      unfold nx
      rw [dif_neg h]
  exact fun_is rfl rfl main

theorem app_int {i : Nat} {f : SE} {ρ : EnvD} {B B1 : Bs} {x : Int} {D : List Int} (h : f ρ B = some (.d (.int x), B1)) (hi : ρ[i]? = some (.ow (.list (D.map .int)))) (hz : D.length < LIM) : sApp i f ρ B = some (.nx, ρ.set i (.ow (.list ((D ++ [x]).map .int))), B1) := by
  rw [app_ok h hi (by rw [List.length_map]; exact hz), List.map_append]
  rfl
theorem pow18 : powD (.int 10) (.int 18) = some (.int 1000000000000000000) := by
  show (if powC 10 18 = true then some (PyData.int ((10 : Int) ^ (18 : Int).toNat)) else none) = _
  rw [if_pos (by decide)]
  rfl
theorem sRng_ok {fs : SA} {ρ : EnvD} {B B1 : Bs} {vs : List Vl} {ds : List PyData} {rf : List Vl → Option (List PyData)} (h : fs ρ B = some (vs, B1)) (h2 : rf vs = some ds) : sRng rf fs ρ B = some (ds, B1) := by
  simp only [sRng, h, Option.bind_some, h2]
theorem rng_run {fs : SA} {ρ : EnvD} {B B1 : Bs} {n : Nat} (h : fs ρ B = some ([.d (.int n)], B1)) (hn : n < 1000000000) : sRng rng1F fs ρ B = some (rngD 0 n, B1) := sRng_ok h (rng1_nat n hn)
theorem rngD_d {n j : Nat} {d : PyData} (h : (rngD 0 n)[j]? = some d) : j < n ∧ d = .int (j : Int) := by
  obtain ⟨h1, h2⟩ := rngD_get h
  exact ⟨h1, by rw [h2, Int.zero_add]⟩
theorem s_draws (ns : List Int) (hn : ns.length ≤ 63) (m : Nat) (hm : m ≤ 1000) (B : Bs) : ∃ D : List Int, lawDraws [.fz (ns.map .int), .d (.int m)] B = some (.d (.list (D.map .int)), B) := by
  have lim : LIM = 16777216 := rfl
  let F : Vl := .fz (ns.map .int)
  -- the first loop
  have loop1 := for_ok (g := gN 4) (b := (sSeq (sSet 5 (eCall absD (aCons (eCall intF (aCons (eIx (eBor 0) (eBor 4)) aNil)) aNil))) (sSeq (sSet 3 (eBin modD (eCall intF (aCons (eBin addD (eBin addD (eBin mulD (eBor 3) (eC (.int 48271))) (eBin modD (eBor 5) (eC (.int 1000003)))) (eBor 4)) aNil)) (eC (.int 65537)))) (sSeq (sSet 6 (eC (.int 0))) (sSeq (sIf (sB (eBin geD (eBor 5) (eBin powD (eC (.int 10)) (eC (.int 18))))) (sSet 6 (eVar 5)) (sSeq (sApp 2 (eBin modD (eCall intF (aCons (eBor 5) aNil)) (eC (.int 997)))) (sApp 2 (eBin modD (eBin modD (eCall intF (aCons (eBin addD (eBin mulD (eBor 3) (eC (.int 69621))) (eC (.int 5))) aNil)) (eC (.int 65521))) (eC (.int 997)))))) (sFor (sRng rng1F (aCons (eC (.int 60)) aNil)) (gN 7) (sIf (sB (eBin gtD (eBor 6) (eC (.int 0)))) (sSeq (sApp 2 (eBin modD (eCall intF (aCons (eBor 6) aNil)) (eC (.int 997)))) (sSet 6 (eBin fdivD (eBor 6) (eC (.int 997))))) sNil)))))))
    (fun i ρ B' => B' = B ∧ ∃ (D : List Int) (mx : Int) (s4 s5 s6 s7 : Sl), ρ = [.sh F, .sh (.d (.int m)), .ow (.list (D.map .int)), .sh (.d (.int mx)), s4, s5, s6, s7] ∧ D.length ≤ 100 * i)
    (rngD 0 ns.length) 0 [.sh F, .sh (.d (.int m)), .ow (.list (([] : List Int).map .int)), .sh (.d (.int 7)), .un, .un, .un, .un] B ⟨rfl, [], 7, .un, .un, .un, .un, rfl, Nat.zero_le _⟩ (by
      rintro j d ρ B' hd ⟨rfl, D, mx, s4, s5, s6, s7, rfl, hD⟩
      obtain ⟨hj, rfl⟩ := rngD_d hd
      generalize hx : ns[j] = x
      have hx' : ixD (.list (ns.map .int)) (.int (j : Int)) = some (.int x) := by
        rw [ixD_list _ j (by rw [List.length_map]; exact hj), List.getElem_map, hx]
      have hDl : D.length + 100 < LIM := by omega
      generalize hc : (if x < 0 then -x else x) = c
      have a1 : absD [.int x] = some (.int c) := by rw [← hc]; rfl
      have e1 : sSet 5 (eCall absD (aCons (eCall intF (aCons (eIx (eBor 0) (eBor 4)) aNil)) aNil)) [.sh F, .sh (.d (.int m)), .ow (.list (D.map .int)), .sh (.d (.int mx)), .sh (.d (.int j)), s5, s6, s7] B' = some (.nx, [.sh F, .sh (.d (.int m)), .ow (.list (D.map .int)), .sh (.d (.int mx)), .sh (.d (.int j)), .sh (.d (.int c)), s6, s7], B') :=
        set_ok (call_ok (cons_ok (call_ok (cons_ok (ix_ok rfl rfl rfl rfl hx') rfl) rfl rfl) rfl) rfl a1) (Nat.le_of_ble_eq_true rfl)
      obtain ⟨mx', e2⟩ : ∃ mx' : Int, sSet 3 (eBin modD (eCall intF (aCons (eBin addD (eBin addD (eBin mulD (eBor 3) (eC (.int 48271))) (eBin modD (eBor 5) (eC (.int 1000003)))) (eBor 4)) aNil)) (eC (.int 65537))) [.sh F, .sh (.d (.int m)), .ow (.list (D.map .int)), .sh (.d (.int mx)), .sh (.d (.int j)), .sh (.d (.int c)), s6, s7] B' = some (.nx, [.sh F, .sh (.d (.int m)), .ow (.list (D.map .int)), .sh (.d (.int mx')), .sh (.d (.int j)), .sh (.d (.int c)), s6, s7], B') :=
        ⟨_, set_ok (bin_ok (call_ok (cons_ok (bin_ok (bin_ok (bin_ok rfl rfl rfl rfl (mulD_r _ _ (by decide))) (bin_ok rfl rfl rfl rfl (modD_ok _ _ (by decide))) rfl rfl rfl) rfl rfl rfl rfl) rfl) rfl rfl) rfl rfl rfl (modD_ok _ _ (by decide))) (Nat.le_of_ble_eq_true rfl)⟩
      have e3 : sSet 6 (eC (.int 0)) [.sh F, .sh (.d (.int m)), .ow (.list (D.map .int)), .sh (.d (.int mx')), .sh (.d (.int j)), .sh (.d (.int c)), s6, s7] B' = some (.nx, [.sh F, .sh (.d (.int m)), .ow (.list (D.map .int)), .sh (.d (.int mx')), .sh (.d (.int j)), .sh (.d (.int c)), .sh (.d (.int 0)), s7], B') := rfl
      have t : sB (eBin geD (eBor 5) (eBin powD (eC (.int 10)) (eC (.int 18)))) [.sh F, .sh (.d (.int m)), .ow (.list (D.map .int)), .sh (.d (.int mx')), .sh (.d (.int j)), .sh (.d (.int c)), .sh (.d (.int 0)), s7] B' = some (decide ((1000000000000000000 : Int) ≤ c), B') :=
        sB_ok (bin_ok rfl (bin_ok rfl rfl rfl rfl pow18) rfl rfl (geD_int _ _))
      obtain ⟨D', r, hD', e4⟩ : ∃ (D' : List Int) (r : Int), D'.length ≤ D.length + 2 ∧ sIf (sB (eBin geD (eBor 5) (eBin powD (eC (.int 10)) (eC (.int 18))))) (sSet 6 (eVar 5)) (sSeq (sApp 2 (eBin modD (eCall intF (aCons (eBor 5) aNil)) (eC (.int 997)))) (sApp 2 (eBin modD (eBin modD (eCall intF (aCons (eBin addD (eBin mulD (eBor 3) (eC (.int 69621))) (eC (.int 5))) aNil)) (eC (.int 65521))) (eC (.int 997)))))
          [.sh F, .sh (.d (.int m)), .ow (.list (D.map .int)), .sh (.d (.int mx')), .sh (.d (.int j)), .sh (.d (.int c)), .sh (.d (.int 0)), s7] B' = some (.nx, [.sh F, .sh (.d (.int m)), .ow (.list (D'.map .int)), .sh (.d (.int mx')), .sh (.d (.int j)), .sh (.d (.int c)), .sh (.d (.int r)), s7], B') := by
        by_cases h : (1000000000000000000 : Int) ≤ c
        · rw [decide_eq_true h] at t
          exact ⟨D, c, by omega, by rw [if_t t]; rfl⟩
        · rw [decide_eq_false h] at t
          have f1 : sApp 2 (eBin modD (eCall intF (aCons (eBor 5) aNil)) (eC (.int 997))) [.sh F, .sh (.d (.int m)), .ow (.list (D.map .int)), .sh (.d (.int mx')), .sh (.d (.int j)), .sh (.d (.int c)), .sh (.d (.int 0)), s7] B' = some (.nx, [.sh F, .sh (.d (.int m)), .ow (.list ((D ++ [c.fmod 997]).map .int)), .sh (.d (.int mx')), .sh (.d (.int j)), .sh (.d (.int c)), .sh (.d (.int 0)), s7], B') :=
            app_int (bin_ok (call_ok (cons_ok rfl rfl) rfl rfl) rfl rfl rfl (modD_ok _ _ (by decide))) rfl (by omega)
          have f2 : sApp 2 (eBin modD (eBin modD (eCall intF (aCons (eBin addD (eBin mulD (eBor 3) (eC (.int 69621))) (eC (.int 5))) aNil)) (eC (.int 65521))) (eC (.int 997))) [.sh F, .sh (.d (.int m)), .ow (.list ((D ++ [c.fmod 997]).map .int)), .sh (.d (.int mx')), .sh (.d (.int j)), .sh (.d (.int c)), .sh (.d (.int 0)), s7] B' = some (.nx, [.sh F, .sh (.d (.int m)), .ow (.list ((D ++ [c.fmod 997] ++ [((mx' * 69621 + 5).fmod 65521).fmod 997]).map .int)), .sh (.d (.int mx')), .sh (.d (.int j)), .sh (.d (.int c)), .sh (.d (.int 0)), s7], B') :=
            app_int (bin_ok (bin_ok (call_ok (cons_ok (bin_ok (bin_ok rfl rfl rfl rfl (mulD_r _ _ (by decide))) rfl rfl rfl rfl) rfl) rfl rfl) rfl rfl rfl (modD_ok _ _ (by decide))) rfl rfl rfl (modD_ok _ _ (by decide))) rfl (by rw [List.length_append]; simp only [List.length_cons, List.length_nil]; omega)
          exact ⟨D ++ [c.fmod 997] ++ [((mx' * 69621 + 5).fmod 65521).fmod 997], 0, by simp, by rw [if_f t, seq_nx f1, f2]⟩
      -- the inner loop
      have loop2 := for_ok (g := gN 7) (b := (sIf (sB (eBin gtD (eBor 6) (eC (.int 0)))) (sSeq (sApp 2 (eBin modD (eCall intF (aCons (eBor 6) aNil)) (eC (.int 997)))) (sSet 6 (eBin fdivD (eBor 6) (eC (.int 997))))) sNil))
        (fun i ρ B2 => B2 = B' ∧ ∃ (D2 : List Int) (r : Int) (s7 : Sl), ρ = [.sh F, .sh (.d (.int m)), .ow (.list (D2.map .int)), .sh (.d (.int mx')), .sh (.d (.int j)), .sh (.d (.int c)), .sh (.d (.int r)), s7] ∧ D2.length ≤ D'.length + i)
        (rngD 0 60) 0 _ B' ⟨rfl, D', r, s7, rfl, Nat.le_refl _⟩ (by
          rintro i d ρ B2 hd ⟨rfl, D2, r, s7, rfl, hD2⟩
          obtain ⟨hi, rfl⟩ := rngD_d hd
          have t : sB (eBin gtD (eBor 6) (eC (.int 0))) [.sh F, .sh (.d (.int m)), .ow (.list (D2.map .int)), .sh (.d (.int mx')), .sh (.d (.int j)), .sh (.d (.int c)), .sh (.d (.int r)), .sh (.d (.int i))] B2 = some (decide (0 < r), B2) := sB_ok (bin_ok rfl rfl rfl rfl (gtD_int _ _))
          by_cases h : 0 < r
          · rw [decide_eq_true h] at t
            have f1 : sApp 2 (eBin modD (eCall intF (aCons (eBor 6) aNil)) (eC (.int 997))) [.sh F, .sh (.d (.int m)), .ow (.list (D2.map .int)), .sh (.d (.int mx')), .sh (.d (.int j)), .sh (.d (.int c)), .sh (.d (.int r)), .sh (.d (.int i))] B2 = some (.nx, [.sh F, .sh (.d (.int m)), .ow (.list ((D2 ++ [r.fmod 997]).map .int)), .sh (.d (.int mx')), .sh (.d (.int j)), .sh (.d (.int c)), .sh (.d (.int r)), .sh (.d (.int i))], B2) :=
              app_int (bin_ok (call_ok (cons_ok rfl rfl) rfl rfl) rfl rfl rfl (modD_ok _ _ (by decide))) rfl (by omega)
            have f2 : sSet 6 (eBin fdivD (eBor 6) (eC (.int 997))) [.sh F, .sh (.d (.int m)), .ow (.list ((D2 ++ [r.fmod 997]).map .int)), .sh (.d (.int mx')), .sh (.d (.int j)), .sh (.d (.int c)), .sh (.d (.int r)), .sh (.d (.int i))] B2 = some (.nx, [.sh F, .sh (.d (.int m)), .ow (.list ((D2 ++ [r.fmod 997]).map .int)), .sh (.d (.int mx')), .sh (.d (.int j)), .sh (.d (.int c)), .sh (.d (.int (r.fdiv 997))), .sh (.d (.int i))], B2) :=
              set_ok (bin_ok rfl rfl rfl rfl (fdivD_ok _ _ (by decide) (by decide))) (Nat.le_of_ble_eq_true rfl)
            exact ⟨_, _, B2, rfl, (if_t t).trans ((seq_nx f1).trans f2), rfl, _, _, _, rfl, by simp; omega⟩
          · rw [decide_eq_false h] at t
            exact ⟨_, _, B2, rfl, (if_f t).trans rfl, rfl, D2, r, _, rfl, by omega⟩)
      obtain ⟨ρ2, B3, l1, rfl, D2, r2, s7', rfl, hD2⟩ := loop2
      refine ⟨_, _, B3, rfl, (seq_nx e1).trans ((seq_nx e2).trans ((seq_nx e3).trans ((seq_nx e4).trans ((for_run (rng_run (n := 60) rfl (by decide))).trans l1)))), rfl, D2, mx', _, _, _, _, rfl, ?_⟩
      rw [rngD_length] at hD2
      omega)
  obtain ⟨ρ1, B1, l1, rfl, D1, mx1, s4, s5, s6, s7, rfl, hD1⟩ := loop1
  rw [rngD_length] at hD1
  -- the second loop
  have loop3 := for_ok (g := gN 4) (b := (sSeq (sSet 3 (eBin modD (eCall intF (aCons (eBin addD (eBin addD (eBin mulD (eBor 3) (eC (.int 16807))) (eBor 4)) (eC (.int 1))) aNil)) (eC (.int 65537)))) (sApp 2 (eBin modD (eCall intF (aCons (eBor 3) aNil)) (eC (.int 997))))))
    (fun i ρ B' => B' = B1 ∧ ∃ (D : List Int) (mx : Int) (s4 : Sl), ρ = [.sh F, .sh (.d (.int m)), .ow (.list (D.map .int)), .sh (.d (.int mx)), s4, s5, s6, s7] ∧ D.length ≤ 10000 + i)
    (rngD 0 m) 0 _ B1 ⟨rfl, D1, mx1, s4, rfl, by omega⟩ (by
      rintro j d ρ B' hd ⟨rfl, D, mx, s4, rfl, hD⟩
      obtain ⟨hj, rfl⟩ := rngD_d hd
      obtain ⟨mx', e1⟩ : ∃ mx' : Int, sSet 3 (eBin modD (eCall intF (aCons (eBin addD (eBin addD (eBin mulD (eBor 3) (eC (.int 16807))) (eBor 4)) (eC (.int 1))) aNil)) (eC (.int 65537))) [.sh F, .sh (.d (.int m)), .ow (.list (D.map .int)), .sh (.d (.int mx)), .sh (.d (.int j)), s5, s6, s7] B' = some (.nx, [.sh F, .sh (.d (.int m)), .ow (.list (D.map .int)), .sh (.d (.int mx')), .sh (.d (.int j)), s5, s6, s7], B') :=
        ⟨_, set_ok (bin_ok (call_ok (cons_ok (bin_ok (bin_ok (bin_ok rfl rfl rfl rfl (mulD_r _ _ (by decide))) rfl rfl rfl rfl) rfl rfl rfl rfl) rfl) rfl rfl) rfl rfl rfl (modD_ok _ _ (by decide))) (Nat.le_of_ble_eq_true rfl)⟩
      have e2 : sApp 2 (eBin modD (eCall intF (aCons (eBor 3) aNil)) (eC (.int 997))) [.sh F, .sh (.d (.int m)), .ow (.list (D.map .int)), .sh (.d (.int mx')), .sh (.d (.int j)), s5, s6, s7] B' = some (.nx, [.sh F, .sh (.d (.int m)), .ow (.list ((D ++ [mx'.fmod 997]).map .int)), .sh (.d (.int mx')), .sh (.d (.int j)), s5, s6, s7], B') :=
        app_int (bin_ok (call_ok (cons_ok rfl rfl) rfl rfl) rfl rfl rfl (modD_ok _ _ (by decide))) rfl (by omega)
      exact ⟨_, _, B', rfl, (seq_nx e1).trans e2, rfl, _, _, _, rfl, by simp; omega⟩)
  obtain ⟨ρ2, B2, l2, rfl, D2, mx2, s4', rfl, hD2⟩ := loop3
  have e9 : ∃ D : List Int, sRet (eSlice (eBor 2) pNone (pSome (eVar 1))) [.sh F, .sh (.d (.int m)), .ow (.list (D2.map .int)), .sh (.d (.int mx2)), s4', s5, s6, s7] B2 = some (.rt (.d (.list (D.map .int))), [.sh F, .sh (.d (.int m)), .ow (.list (D2.map .int)), .sh (.d (.int mx2)), s4', s5, s6, s7], B2) := by
    refine ⟨cutL D2 none (some m), ?_⟩
    have : cutL (D2.map PyData.int) none (some (m : Int)) = (cutL D2 none (some m)).map .int := by
      unfold cutL
      rw [List.length_map, List.map_take, List.map_drop]
    rw [← this]
    rfl
  obtain ⟨D, e9⟩ := e9
  refine ⟨D, ?_⟩
  have l0 : eLen (eBor 0) [.sh F, .sh (.d (.int m)), .ow (.list []), .sh (.d (.int 7)), .un, .un, .un, .un] B2 = some (.d (.int (ns.map PyData.int).length), B2) := rfl
  have r1 : sRng rng1F (aCons (eLen (eBor 0)) aNil) [.sh F, .sh (.d (.int m)), .ow (.list []), .sh (.d (.int 7)), .un, .un, .un, .un] B2 = some (rngD 0 ns.length, B2) := by
    have := rng_run (cons_ok l0 (show aNil _ B2 = some ([], B2) from rfl)) (by rw [List.length_map]; omega)
    rw [List.length_map] at this
    exact this
  have r2 : sRng rng1F (aCons (eVar 1) aNil) [.sh F, .sh (.d (.int m)), .ow (.list (D1.map .int)), .sh (.d (.int mx1)), s4, s5, s6, s7] B2 = some (rngD 0 m, B2) := by
    exact rng_run rfl (by omega)
  have s1 : sSetO 2 (eLst aNil) (startD 8 [F, .d (.int m)]) B2 = some (.nx, [.sh F, .sh (.d (.int m)), .ow (.list []), .un, .un, .un, .un, .un], B2) := rfl
  have s2 : sSet 3 (eC (.int 7)) [.sh F, .sh (.d (.int m)), .ow (.list []), .un, .un, .un, .un, .un] B2 = some (.nx, [.sh F, .sh (.d (.int m)), .ow (.list []), .sh (.d (.int 7)), .un, .un, .un, .un], B2) := rfl
  exact fun_is rfl rfl ((seq_nx s1).trans ((seq_nx s2).trans ((seq_nx ((for_run r1).trans l1)).trans ((seq_nx ((for_run r2).trans l2)).trans e9))))
end DL
end

section
set_option Elab.async false
set_option linter.all false
set_option maxRecDepth 100000
set_option autoImplicit false
/-! Least and greatest, sorted: from data to plain orders. -/
namespace DL
open PySem PySem.Spec PyProof.Rows
section
variable {α : Type} (enc : α → PyData) (lt : α → α → Bool)
def leastF (x : α) (xs : List α) : α := xs.foldl (fun m y => if lt y m = true then y else m) x
def greatF (x : α) (xs : List α) : α := xs.foldl (fun m y => if lt m y = true then y else m) x
variable {enc lt}
theorem minD_enc (h : ∀ a b, PySem.W.dataLt (enc a) (enc b) = lt a b) (x : α) : ∀ xs : List α, PySem.W.minD (enc x) (xs.map enc) = enc (leastF lt x xs) := by
  intro xs
  unfold PySem.W.minD leastF
  induction xs generalizing x with
  | nil => rfl
  | cons y ys ih =>
    rw [List.map_cons, List.foldl_cons, List.foldl_cons, h]
    have : (if lt y x = true then enc y else enc x) = enc (if lt y x = true then y else x) := by split <;> rfl
    rw [this]
    exact ih _
theorem maxD_enc (h : ∀ a b, PySem.W.dataLt (enc a) (enc b) = lt a b) (x : α) : ∀ xs : List α, PySem.W.maxD (enc x) (xs.map enc) = enc (greatF lt x xs) := by
  intro xs
  unfold PySem.W.maxD greatF
  induction xs generalizing x with
  | nil => rfl
  | cons y ys ih =>
    rw [List.map_cons, List.foldl_cons, List.foldl_cons, h]
    have : (if lt x y = true then enc y else enc x) = enc (if lt x y = true then y else x) := by split <;> rfl
    rw [this]
    exact ih _
/-- a strict order that leaves no two apart but in one way -/
structure Ord (lt : α → α → Bool) : Prop where
  asy : ∀ a b, lt a b = true → lt b a = false
  neg : ∀ a b c, lt a b = false → lt b c = false → lt a c = false
theorem Ord.ir (o : Ord lt) (a : α) : lt a a = false := by
  cases h : lt a a with
  | false => rfl
  | true =>
    have := o.asy a a h
    rw [h] at this
    exact this
theorem Ord.rev (o : Ord lt) : Ord fun a b => lt b a := ⟨fun a b h => o.asy b a h, fun a b c h1 h2 => o.neg c b a h2 h1⟩
theorem least_ok (o : Ord lt) (x : α) : ∀ xs : List α, leastF lt x xs ∈ x :: xs ∧ ∀ y ∈ x :: xs, lt y (leastF lt x xs) = false := by
  intro xs
  unfold leastF
  induction xs generalizing x with
  | nil =>
    refine ⟨by simp, fun y hy => ?_⟩
    have e : y = x := by simpa using hy
    rw [e]
    exact o.ir _
  | cons z zs ih =>
    rw [List.foldl_cons]
    obtain ⟨h1, h2⟩ := ih (if lt z x = true then z else x)
    generalize List.foldl (fun m y => if lt y m = true then y else m) (if lt z x = true then z else x) zs = m at h1 h2
    refine ⟨?_, fun y hy => ?_⟩
    · rcases List.mem_cons.mp h1 with e | h
      · rw [e]; split <;> simp
      · exact List.mem_cons_of_mem _ (List.mem_cons_of_mem _ h)
    · have hm := h2 _ List.mem_cons_self
      rcases List.mem_cons.mp hy with e | hy
      · subst e
        split at hm
        · rename_i q
          exact o.neg _ _ _ (o.asy _ _ q) hm
        · exact hm
      · rcases List.mem_cons.mp hy with e | hy
        · subst e
          split at hm
          · exact hm
          · rename_i q
            exact o.neg _ _ _ (by simpa using q) hm
        · exact h2 y (List.mem_cons_of_mem _ hy)
theorem great_ok (o : Ord lt) (x : α) (xs : List α) : greatF lt x xs ∈ x :: xs ∧ ∀ y ∈ x :: xs, lt (greatF lt x xs) y = false := least_ok o.rev x xs
/-- sorting -/
theorem sort_enc (h : ∀ a b, PySem.W.dataLt (enc a) (enc b) = lt a b) (xs : List α) : (xs.map enc).mergeSort (PySem.W.dataLe false fun d => d) = (xs.mergeSort fun a b => !lt b a).map enc := by
  refine (List.map_mergeSort fun a _ b _ => ?_).symm
  rw [PySem.W.dataLe_eq]
  show (!lt b a) = cond false _ _
  rw [cond_false, h]
theorem sort_pair (o : Ord lt) (xs : List α) : (xs.mergeSort fun a b => !lt b a).Pairwise fun a b => lt b a = false := by
  have := List.pairwise_mergeSort (le := fun a b => !lt b a) (fun a b c h1 h2 => by
    simp only [Bool.not_eq_true'] at *
    exact o.neg _ _ _ h2 h1) (fun a b => by
    cases h : lt b a with
    | false => simp
    | true => simp [o.asy _ _ h]) xs
  exact this.imp fun h => by simpa using h
end
/-! ### ints, cells -/
def ltI (a b : Int) : Bool := decide (a < b)
theorem ordI : Ord ltI := ⟨fun a b h => by simp [ltI] at *; omega, fun a b c h1 h2 => by simp [ltI] at *; omega⟩
def cell (c : Int × Int) : PyData := .tuple [.int c.1, .int c.2]
def ltC (a b : Int × Int) : Bool := decide (a.1 < b.1 ∨ (a.1 = b.1 ∧ a.2 < b.2))
theorem ordC : Ord ltC := ⟨fun a b h => by simp [ltC] at *; omega, fun a b c h1 h2 => by simp [ltC] at *; omega⟩
theorem lt_cell (a b : Int × Int) : PySem.W.dataLt (cell a) (cell b) = ltC a b := PySem.W.dataLt_ii _ _ _ _
theorem ltC_eq {a b : Int × Int} (h1 : ltC a b = false) (h2 : ltC b a = false) : a = b := by
  obtain ⟨a1, a2⟩ := a
  obtain ⟨b1, b2⟩ := b
  simp [ltC] at h1 h2
  have : a1 = b1 := by omega
  subst this
  have : a2 = b2 := by omega
  subst this
  rfl
theorem cell_inj {a b : Int × Int} (h : cell a = cell b) : a = b := by
  obtain ⟨a1, a2⟩ := a
  obtain ⟨b1, b2⟩ := b
  simp [cell] at h
  rw [h.1, h.2]
theorem eqv_cell (a b : Int × Int) : PyData.eqv (cell a) (cell b) = decide (a = b) := by
  obtain ⟨a1, a2⟩ := a
  obtain ⟨b1, b2⟩ := b
  simp [cell, PyData.eqv, PyData.eqvAll]
  rw [Bool.eq_iff_iff]
  simp
theorem alike_cell (a b : Int × Int) : PySem.W.alike (cell a) (cell b) = true := by simp [cell, PySem.W.alike, PySem.W.alikeAll]
theorem depth_cells : ∀ cs : List (Int × Int), PyData.depthAll (cs.map cell) ≤ 1
  | [] => by simp [PyData.depthAll]
  | c :: cs => by
    have := depth_cells cs
    simp only [List.map_cons, PyData.depthAll]
    have : (cell c).depth ≤ 1 := by simp [cell, PyData.depth, PyData.depthAll]
    omega
theorem allAlike_map {α : Type} {enc : α → PyData} (h : ∀ a b, PySem.W.alike (enc a) (enc b) = true) (hn : ∀ a, notNone (enc a) = true) (xs : List α) : allAlike (xs.map enc) = true := by
  unfold allAlike
  rw [List.all_eq_true]
  intro d hd
  obtain ⟨a, _, rfl⟩ := List.mem_map.mp hd
  rw [Bool.and_eq_true, List.all_eq_true]
  refine ⟨hn a, fun d' hd' => ?_⟩
  obtain ⟨b, _, rfl⟩ := List.mem_map.mp hd'
  exact h a b
theorem min_cells (c : Int × Int) (cs : List (Int × Int)) : minF [.list ((c :: cs).map cell)] = some (cell (leastF ltC c cs)) := by
  show (if (allAlike ((c :: cs).map cell) && decide (PyData.depthAll ((c :: cs).map cell) ≤ 64)) = true then some (PySem.W.minD (cell c) (cs.map cell)) else none) = _
  rw [if_pos (by rw [allAlike_map alike_cell (fun _ => rfl), Bool.true_and, decide_eq_true_eq]; have := depth_cells (c :: cs); omega), minD_enc lt_cell]
theorem depth_ints : ∀ cs : List Int, PyData.depthAll (cs.map .int) = 0 := PySem.W.depth_ints
theorem min_ints (c : Int) (cs : List Int) : minF [.list ((c :: cs).map .int)] = some (.int (leastF ltI c cs)) := by
  show (if (allAlike ((c :: cs).map .int) && decide (PyData.depthAll ((c :: cs).map .int) ≤ 64)) = true then some (PySem.W.minD (.int c) (cs.map .int)) else none) = _
  rw [if_pos (by rw [allAlike_map (fun _ _ => rfl) (fun _ => rfl), Bool.true_and, decide_eq_true_eq, depth_ints]; omega), minD_enc fun a b => PySem.W.dataLt_int a b]
  rfl
theorem max_ints (c : Int) (cs : List Int) : maxF [.list ((c :: cs).map .int)] = some (.int (greatF ltI c cs)) := by
  show (if (allAlike ((c :: cs).map .int) && decide (PyData.depthAll ((c :: cs).map .int) ≤ 64)) = true then some (PySem.W.maxD (.int c) (cs.map .int)) else none) = _
  rw [if_pos (by rw [allAlike_map (fun _ _ => rfl) (fun _ => rfl), Bool.true_and, decide_eq_true_eq, depth_ints]; omega), maxD_enc fun a b => PySem.W.dataLt_int a b]
  rfl
theorem sort_cells (cs : List (Int × Int)) : sortD (cs.map cell) = some ((cs.mergeSort fun a b => !ltC b a).map cell) := by
  unfold sortD
  rw [if_pos ?_, sort_enc lt_cell]
  rw [allAlike_map alike_cell (fun _ => rfl), Bool.true_and, Bool.and_eq_true, decide_eq_true_eq]
  refine ⟨?_, by have := depth_cells cs; omega⟩
  unfold sortableB
  rw [Bool.or_eq_true]
  left
  rw [List.all_eq_true]
  intro d hd
  obtain ⟨a, _, rfl⟩ := List.mem_map.mp hd
  rfl
end DL
end

section
set_option Elab.async false
set_option linter.all false
set_option maxRecDepth 100000
set_option autoImplicit false
/-! Costs with rows: the order, the least. -/
namespace DL
open PySem PySem.Spec PyProof.Rows
/-! ### rows of ints in order -/
def ltR : List Int → List Int → Bool
  | [], [] => false
  | [], _ :: _ => true
  | _ :: _, [] => false
  | a :: as, b :: bs => decide (a < b) || (decide (a = b) && ltR as bs)
theorem ltR_asy : ∀ a b : List Int, ltR a b = true → ltR b a = false
  | [], [], h => nomatch h
  | [], _ :: _, _ => rfl
  | _ :: _, [], h => nomatch h
  | a :: as, b :: bs, h => by
    simp [ltR] at *
    rcases h with h | ⟨h, h'⟩
    · exact ⟨by omega, fun e => by omega⟩
    · exact ⟨by omega, fun _ => ltR_asy _ _ h'⟩
theorem ltR_neg : ∀ a b c : List Int, ltR a b = false → ltR b c = false → ltR a c = false
  | [], [], c, _, h => h
  | [], _ :: _, _, h, _ => nomatch h
  | _ :: _, [], [], _, _ => rfl
  | _ :: _, [], _ :: _, _, h => nomatch h
  | _ :: _, _ :: _, [], _, _ => rfl
  | a :: as, b :: bs, c :: cs, h1, h2 => by
    simp [ltR] at *
    refine ⟨by omega, fun e => ?_⟩
    exact ltR_neg _ _ _ (h1.2 (by omega)) (h2.2 (by omega))
theorem ltR_eq : ∀ a b : List Int, ltR a b = false → ltR b a = false → a = b
  | [], [], _, _ => rfl
  | [], _ :: _, h, _ => nomatch h
  | _ :: _, [], _, h => nomatch h
  | a :: as, b :: bs, h1, h2 => by
    simp [ltR] at *
    have e : a = b := by omega
    exact ⟨e, ltR_eq _ _ (h1.2 e) (h2.2 e.symm)⟩
theorem ltR_cons (a : Int) (as bs : List Int) : ltR (a :: as) (a :: bs) = ltR as bs := by simp [ltR]
theorem ltR_lt : ∀ a b : List Int, decide (a < b) = ltR a b
  | [], [] => by simp [ltR]
  | [], _ :: _ => by simp [ltR]
  | _ :: _, [] => by simp [ltR]
  | a :: as, b :: bs => by
    unfold ltR
    rw [← ltR_lt as bs, Bool.eq_iff_iff]
    simp [List.cons_lt_cons_iff]
theorem lt_row (a b : List Int) : PySem.W.dataLt (.tuple (a.map .int)) (.tuple (b.map .int)) = ltR a b := by
  rw [PySem.W.dataLt_tuple]
  exact (PySem.W.dataLt_ints a b).trans (ltR_lt a b)
/-! ### a cost with its row -/
abbrev CR : Type := Int × List Int
def row (r : List Int) : PyData := .tuple (r.map .int)
def encR (x : CR) : PyData := .tuple [.int x.1, row x.2]
def ltCR (x y : CR) : Bool := decide (x.1 < y.1) || (decide (x.1 = y.1) && ltR x.2 y.2)
theorem ordCR : Ord ltCR := by
  refine ⟨fun a b h => ?_, fun a b c h1 h2 => ?_⟩
  · simp [ltCR] at *
    rcases h with h | ⟨h, h'⟩
    · exact ⟨by omega, fun e => by omega⟩
    · exact ⟨by omega, fun _ => ltR_asy _ _ h'⟩
  · simp [ltCR] at *
    refine ⟨by omega, fun e => ?_⟩
    exact ltR_neg _ _ _ (h1.2 (by omega)) (h2.2 (by omega))
theorem ltCR_eq {a b : CR} (h1 : ltCR a b = false) (h2 : ltCR b a = false) : a = b := by
  obtain ⟨a1, a2⟩ := a
  obtain ⟨b1, b2⟩ := b
  simp [ltCR] at h1 h2
  have : a1 = b1 := by omega
  subst this
  rw [ltR_eq _ _ (h1.2 rfl) (h2.2 rfl)]
theorem eqv_ints : ∀ a b : List Int, PyData.eqvAll (a.map .int) (b.map .int) = decide (a = b)
  | [], [] => by simp [PyData.eqvAll]
  | [], _ :: _ => by simp [PyData.eqvAll]
  | _ :: _, [] => by simp [PyData.eqvAll]
  | a :: as, b :: bs => by
    simp only [List.map_cons, PyData.eqvAll, PyData.eqv]
    rw [eqv_ints as bs, Bool.eq_iff_iff]
    simp
theorem eqv_row (a b : List Int) : PyData.eqv (row a) (row b) = decide (a = b) := by
  show PyData.eqv (.tuple _) (.tuple _) = _
  simp only [PyData.eqv]
  exact eqv_ints a b
theorem alike_row (a b : List Int) : PySem.W.alike (row a) (row b) = true := by
  show PySem.W.alike (.tuple _) (.tuple _) = _
  simp only [PySem.W.alike]
  exact PySem.W.alike_ints a b
theorem lt_encR (a b : CR) : PySem.W.dataLt (encR a) (encR b) = ltCR a b := by
  unfold encR
  rw [PySem.W.dataLt_pair (by rfl) (alike_row _ _), PySem.W.dataLt_int, eqv_row]
  rw [show PySem.W.dataLt (row a.2) (row b.2) = ltR a.2 b.2 from lt_row _ _]
  unfold ltCR
  have e : PyData.eqv (.int a.1) (.int b.1) = decide (a.1 = b.1) := by
    simp [PyData.eqv]
    rw [Bool.eq_iff_iff]
    simp
  rw [e]
  by_cases h : a.1 = b.1
  · rw [decide_eq_true h, if_pos rfl]
    by_cases h2 : a.2 = b.2
    · rw [decide_eq_true h2, if_pos rfl, h2, h]
      have : ltR b.2 b.2 = false := by
        cases q : ltR b.2 b.2 with
        | false => rfl
        | true => have := ltR_asy _ _ q; rw [q] at this; exact this
      simp [this]
    · rw [decide_eq_false h2, if_neg Bool.false_ne_true]
      simp [h]
  · rw [decide_eq_false h, if_neg Bool.false_ne_true]
    simp
theorem depth_row (r : List Int) : (row r).depth ≤ 1 := by
  show (PyData.tuple _).depth ≤ 1
  simp only [PyData.depth, depth_ints]
  omega
theorem depth_encR : ∀ xs : List CR, PyData.depthAll (xs.map encR) ≤ 2
  | [] => by simp [PyData.depthAll]
  | x :: xs => by
    have := depth_encR xs
    simp only [List.map_cons, PyData.depthAll]
    have h2 := depth_row x.2
    have : (encR x).depth ≤ 2 := by simp only [encR, PyData.depth, PyData.depthAll]; omega
    omega
theorem min_encR (c : CR) (cs : List CR) : minF [.list ((c :: cs).map encR)] = some (encR (leastF ltCR c cs)) := by
  show (if (allAlike ((c :: cs).map encR) && decide (PyData.depthAll ((c :: cs).map encR) ≤ 64)) = true then some (PySem.W.minD (encR c) (cs.map encR)) else none) = _
  rw [if_pos (by rw [allAlike_map (fun a b => by simp [encR, PySem.W.alike, PySem.W.alikeAll, alike_row]) (fun _ => rfl), Bool.true_and, decide_eq_true_eq]; have := depth_encR (c :: cs); omega), minD_enc lt_encR]
/-- the least of a list -/
def Least (L : List CR) (m : CR) : Prop := m ∈ L ∧ ∀ y ∈ L, ltCR y m = false
theorem Least.uniq {L : List CR} {m m' : CR} (h : Least L m) (h' : Least L m') : m = m' := ltCR_eq (h'.2 m h.1) (h.2 m' h'.1)
theorem least_of (c : CR) (cs : List CR) : Least (c :: cs) (leastF ltCR c cs) := least_ok ordCR c cs

/-! ### the least row, hour by hour -/
section
variable (lv : Int → List Int) (oc : Int → Option Int → Int → Int)
def leastOf : List CR → CR
  | [] => (0, [])
  | c :: cs => leastF ltCR c cs
def bestG : List Int → Option Int → CR
  | [], _ => (0, [])
  | x :: xs, last => leastOf ((lv x).map fun l => (oc x last l + (bestG xs (some l)).1, l :: (bestG xs (some l)).2))
def rowsG : List Int → List (List Int)
  | [] => [[]]
  | x :: xs => (lv x).flatMap fun l => (rowsG xs).map fun r => l :: r
def costG : Option Int → List Int → List Int → Int
  | last, x :: xs, l :: r => oc x last l + costG (some l) xs r
  | _, _, _ => 0
variable {lv oc}
theorem leastOf_ok {L : List CR} (h : L ≠ []) : Least L (leastOf L) := by
  cases L with
  | nil => exact absurd rfl h
  | cons c cs => exact least_of c cs
theorem best_least : ∀ (xs : List Int) (last : Option Int), (∀ x ∈ xs, lv x ≠ []) → Least ((rowsG lv xs).map fun r => (costG oc last xs r, r)) (bestG lv oc xs last)
  | [], last, _ => by
    refine ⟨by simp [rowsG, bestG, costG], fun y hy => ?_⟩
    have : y = (0, []) := by simpa [rowsG, costG] using hy
    subst this
    exact ordCR.ir _
  | x :: xs, last, h => by
    have ih := fun l => best_least xs (some l) fun y hy => h y (List.mem_cons_of_mem _ hy)
    have hne : ((lv x).map fun l => (oc x last l + (bestG lv oc xs (some l)).1, l :: (bestG lv oc xs (some l)).2)) ≠ [] := by
      simpa using h x List.mem_cons_self
    obtain ⟨h1, h2⟩ := leastOf_ok hne
    have e : bestG lv oc (x :: xs) last = leastOf ((lv x).map fun l => (oc x last l + (bestG lv oc xs (some l)).1, l :: (bestG lv oc xs (some l)).2)) := rfl
    rw [← e] at h1 h2
    refine ⟨?_, fun y hy => ?_⟩
    · obtain ⟨l, hl, el⟩ := List.mem_map.mp h1
      obtain ⟨r, hr, er⟩ := List.mem_map.mp (ih l).1
      refine List.mem_map.mpr ⟨l :: r, List.mem_flatMap.mpr ⟨l, hl, List.mem_map.mpr ⟨r, hr, rfl⟩⟩, ?_⟩
      rw [← el, ← er]
      rfl
    · obtain ⟨lr, hlr, rfl⟩ := List.mem_map.mp hy
      obtain ⟨l, hl, hr⟩ := List.mem_flatMap.mp hlr
      obtain ⟨r, hr2, rfl⟩ := List.mem_map.mp hr
      have q1 := (ih l).2 (costG oc (some l) xs r, r) (List.mem_map.mpr ⟨r, hr2, rfl⟩)
      have q2 := h2 _ (List.mem_map.mpr ⟨l, hl, rfl⟩)
      refine ordCR.neg _ _ _ ?_ q2
      show ltCR (oc x last l + costG oc (some l) xs r, l :: r) _ = false
      simp only [ltCR, ltR_cons] at q1 ⊢
      simp at q1 ⊢
      exact ⟨by omega, fun e => q1.2 (by omega)⟩
end
/-- the least by which rows there are alone -/
theorem Least.same {L L' : List CR} {m : CR} (h : Least L m) (e : ∀ x, x ∈ L ↔ x ∈ L') : Least L' m := ⟨(e m).mp h.1, fun y hy => h.2 y ((e y).mpr hy)⟩
end DL
end

section
set_option Elab.async false
set_option linter.all false
set_option maxRecDepth 100000
set_option maxHeartbeats 0
namespace K96
open PySem PySem.Spec PyProof.Rows L2 DL
/-! what the defs mean, and that they do: printed by gen.py -/
def top (i : Nat) : Stmt := PySem.Challenge.pw_forewarned_k96_levels_that_are_calm.main.body.getD i (.Pass ⟨0, 0, 0, 0⟩)
abbrev FUEL : Nat := 1000000
section
variable {P : Program} {w : World} {K : PySem.W.Frag} {mg : Str → Option Value} {base : Heap} {f : Addr} {fd : FuncData}
/-! changes_in -/
abbrev st_changes_in : Stmt := top 1
abbrev N_changes_in : List Str := ["levels", "k"]
def b_changes_in : SS := (sRet (eLen (eLc (sRng rng1F (aCons (eBin subD (eLen (eBor 0)) (eC (.int 1))) aNil)) (gN 1) (sB (eBin neD (eIx (eBor 0) (eBor 1)) (eIx (eBor 0) (eBin addD (eBor 1) (eC (.int 1)))))) (eVar 1) [1])))
def m_changes_in : SF := funS 2 1 b_changes_in
theorem sc_changes_in : FnScope N_changes_in ["levels"] (defScope st_changes_in) := ⟨rfl, rfl, rfl, by decide +kernel, rfl, by decide +kernel, by decide +kernel⟩
theorem ok_changes_in (g_len : mg "len" = none) (g_range : mg "range" = none) (F : FunD K "changes_in" "changes_in" (defArgs st_changes_in) (defBody st_changes_in) (defScope st_changes_in) [] [] f fd) (hm : mg "changes_in" = some (.ref f)) : Fnd P w K mg base 1 "changes_in" 1 m_changes_in := by
  have nd := sc_changes_in.nd
  refine fnd_of (k := 0) F hm sc_changes_in (fun _ _ _ _ _ _ us hl => match us, hl with | [_], _ => rfl) fun cdv A outer s H E hr => ?_
  exact (dss_one (ds_ret (DL.d_len rfl g_len (d_b (d_o (dO_lc (own := [("k", 1)]) rfl nd (di_range1 rfl g_range (da_cons (d_bin od_sub (d_b (DL.d_len rfl g_len (gb 0))) (d_b d_int)) da_nil)) (blkOk_by (by kernel_rfl)) (by simp) (fun _ _ _ _ _ => (gn 1 nd)) (fun _ _ _ _ _ => (dts_one (dt_cmp (od_ne (u100 hr)) (d_b (d_ix (u65 hr) (gb 0) (gb 1))) (d_b (d_ix (u65 hr) (gb 0) (d_b (d_bin od_add (gb 1) (d_b d_int))))) (nomark _)))) (fun _ _ _ _ _ => (gv 1))))))))
/-! Calm.__init__ -/
abbrev st_Calm_init : Stmt := inClass (top 2) 0
abbrev N_Calm_init : List Str := ["self", "series", "most", "price"]
def b_Calm_init : SS := (sSeq (sFldS "Calm" "series" (eBor 0) (eVar 1)) (sSeq (sFldS "Calm" "most" (eBor 0) (eVar 2)) (sSeq (sFldS "Calm" "price" (eBor 0) (eVar 3)) (sFldS "Calm" "known" (eBor 0) (eBox eDict0)))))
def m_Calm_init : SF := funS 4 4 b_Calm_init
theorem sc_Calm_init : FnScope N_Calm_init ["self", "series", "most", "price"] (defScope st_Calm_init) := ⟨rfl, rfl, rfl, by decide +kernel, rfl, by decide +kernel, by decide +kernel⟩
theorem ok_Calm_init (cl_Calm : ClsD K mg "Calm") (na_Calm_known : NoA K mg "Calm" "known") (na_Calm_most : NoA K mg "Calm" "most") (na_Calm_price : NoA K mg "Calm" "price") (na_Calm_series : NoA K mg "Calm" "series") (F : FunD K "__init__" "Calm.__init__" (defArgs st_Calm_init) (defBody st_Calm_init) (defScope st_Calm_init) [] [] f fd) {c : Addr} (hC : mg "Calm" = some (.ref c)) (hk : Mk K c f) : Mkd P w K mg base 1 "Calm" 4 m_Calm_init := by
  have nd := sc_Calm_init.nd
  refine mkd_of (k := 0) F hC hk sc_Calm_init (fun _ _ _ _ _ _ us hl => match us, hl with | [_, _, _, _], _ => rfl) fun cdv A outer s H E hr => ?_
  exact (dss_cons (ds_fld cl_Calm na_Calm_series (gb 0) (gv 1)) (dss_cons (ds_fld cl_Calm na_Calm_most (gb 0) (gv 2)) (dss_cons (ds_fld cl_Calm na_Calm_price (gb 0) (gv 3)) (dss_one (ds_fld cl_Calm na_Calm_known (gb 0) (d_box dO_dict0))))))
/-! Calm.best -/
abbrev st_Calm_best : Stmt := inClass (top 2) 1
abbrev N_Calm_best : List Str := ["self", "hour", "last", "able", "level", "later", "own"]
def b_Calm_best (rec : SF) : SS := (sSeq (sIf (sB (eBin eqD (eBor 1) (eLen (eFld "Calm" "series" (eBor 0))))) (sRet (eTup (aCons (eC (.int 0)) (aCons (eTup aNil) aNil)))) sNil) (sSeq (sIf (sB (eBin notInD (eTup (aCons (eVar 1) (aCons (eVar 2) aNil))) (eFld "Calm" "known" (eBor 0)))) (sSeq (sSetO 3 (eLst aNil)) (sSeq (sFor (sRng rng1F (aCons (eBin addD (eFld "Calm" "most" (eBor 0)) (eC (.int 1))) aNil)) (gN 4) (sSeq (sSet 5 (eMethI "Calm" "best" rec (eBor 0) (aCons (eBin addD (eBor 1) (eC (.int 1))) (aCons (eVar 4) aNil)))) (sSeq (sSet 6 (eBin addD (eCall absD (aCons (eBin subD (eIx (eFld "Calm" "series" (eBor 0)) (eBor 1)) (eBor 4)) aNil)) (eIf (sAnd (sB (eBin isNotP (eBor 2) (eC .none))) (sB (eBin neD (eBor 2) (eBor 4)))) (eFld "Calm" "price" (eBor 0)) (eC (.int 0))))) (sApp 3 (eTup (aCons (eBin addD (eBor 6) (eIx (eBor 5) (eC (.int 0)))) (aCons (eBin addD (eTup (aCons (eVar 4) aNil)) (eIx (eBor 5) (eC (.int 1)))) aNil))))))) (sPutB (eFld "Calm" "known" (eBor 0)) (eTup (aCons (eVar 1) (aCons (eVar 2) aNil))) (eCall minF (aCons (eBor 3) aNil))))) sNil) (sRet (eIx (eFld "Calm" "known" (eBor 0)) (eTup (aCons (eVar 1) (aCons (eVar 2) aNil)))))))
def m_Calm_best : Nat → SF
  | 0 => noF
  | n + 1 => funS 7 3 (b_Calm_best (m_Calm_best n))
theorem sc_Calm_best : FnScope N_Calm_best ["self", "hour", "last"] (defScope st_Calm_best) := ⟨rfl, rfl, rfl, by decide +kernel, rfl, by decide +kernel, by decide +kernel⟩
theorem ok_Calm_best (g_abs : mg "abs" = none) (g_len : mg "len" = none) (g_min : mg "min" = none) (g_range : mg "range" = none) (cl_Calm : ClsD K mg "Calm") (na_Calm_known : NoA K mg "Calm" "known") (na_Calm_most : NoA K mg "Calm" "most") (na_Calm_price : NoA K mg "Calm" "price") (na_Calm_series : NoA K mg "Calm" "series") (F : FunD K "best" "Calm.best" (defArgs st_Calm_best) (defBody st_Calm_best) (defScope st_Calm_best) [] [] f fd) {c : Addr} (hC : mg "Calm" = some (.ref c)) (hc : Cls K c) (hm : Meth K c "best" f) : ∀ n, Mnd P w K mg base (0 + n) "Calm" "best" 3 (m_Calm_best n) := by
  have nd := sc_Calm_best.nd
  refine mnd_rec F hC hc hm sc_Calm_best rfl rfl b_Calm_best (fun _ => rfl) (fun _ _ _ _ _ _ us hl => match us, hl with | [_, _, _], _ => rfl) fun n M_Calm_best cdv A outer s H E hr => ?_
  exact (dss_cons (ds_if (dt_cmp (od_eq (u100 hr)) (gb 1) (d_b (DL.d_len rfl g_len (d_b (d_fld cl_Calm na_Calm_series (gb 0))))) (nomark _)) (dss_one (ds_ret (d_tup (da_cons d_int (da_cons (d_tup da_nil) da_nil))))) dss_nil) (dss_cons (ds_if (dt_cmp (od_notIn (u65 hr)) (d_b (d_tup (da_cons (gv 1) (da_cons (gv 2) da_nil)))) (d_b (d_fld cl_Calm na_Calm_known (gb 0))) rfl) (dss_cons (ds_setO nd rfl (by first | exact .inl rfl | exact .inr rfl) (dO_lst da_nil)) (dss_cons (ds_for PassesOwn.never rfl (di_range1 rfl g_range (da_cons (d_bin od_add (d_b (d_fld cl_Calm na_Calm_most (gb 0))) (d_b d_int)) da_nil)) (gn 4 nd) (dss_cons (ds_set nd rfl (by first | exact .inl rfl | exact .inr rfl) (g_methI M_Calm_best (hr.mono (by first | decide | omega)) (gb 0) (da_cons (d_bin od_add (gb 1) (d_b d_int)) (da_cons (gv 4) da_nil)))) (dss_cons (ds_set nd rfl (by first | exact .inl rfl | exact .inr rfl) (d_bin od_add (d_b (d_callB cd_abs rfl g_abs boot_abs (db_cons (d_b (d_bin od_sub (d_b (d_ix (u65 hr) (d_b (d_fld cl_Calm na_Calm_series (gb 0))) (gb 1))) (gb 4))) db_nil))) (d_b (d_if (PW.pt (dw_and (dt_cmp od_isNot (gb 2) (d_b d_non) (nomark _)) (dw_and1 (dt_cmp (od_ne (u100 hr)) (gb 2) (gb 4) (nomark _))))) (d_fld cl_Calm na_Calm_price (gb 0)) d_int)))) (dss_one (ds_app rfl (by first | exact Or.inl rfl | exact Or.inr (Or.inl rfl)) (d_tup (da_cons (d_bin od_add (gb 6) (d_b (d_ix (u65 hr) (gb 5) (d_b d_int)))) (da_cons (d_bin od_add (d_b (d_tup (da_cons (gv 4) da_nil))) (d_b (d_ix (u65 hr) (gb 5) (d_b d_int)))) da_nil)))))))) (dss_one (ds_putB (u65 hr) (d_b (d_fld cl_Calm na_Calm_known (gb 0))) (d_b (d_tup (da_cons (gv 1) (da_cons (gv 2) da_nil)))) (d_callB (cd_min rfl (u200 hr)) rfl g_min boot_min (db_cons (gb 3) db_nil)))))) dss_nil) (dss_one (ds_ret (d_ix (u65 hr) (d_b (d_fld cl_Calm na_Calm_known (gb 0))) (d_b (d_tup (da_cons (gv 1) (da_cons (gv 2) da_nil)))))))))
/-! calm_levels -/
abbrev st_calm_levels : Stmt := top 3
abbrev N_calm_levels : List Str := ["series", "most", "price"]
def b_calm_levels : SS := (sRet (eMethI "Calm" "best" (m_Calm_best 8) (eMake "Calm" m_Calm_init (aCons (eVar 0) (aCons (eVar 1) (aCons (eVar 2) aNil)))) (aCons (eC (.int 0)) (aCons (eC .none) aNil))))
def m_calm_levels : SF := funS 3 3 b_calm_levels
theorem sc_calm_levels : FnScope N_calm_levels ["series", "most", "price"] (defScope st_calm_levels) := ⟨rfl, rfl, rfl, by decide +kernel, rfl, by decide +kernel, by decide +kernel⟩
theorem ok_calm_levels (M_Calm_best : Mnd P w K mg base 8 "Calm" "best" 3 (m_Calm_best 8)) (K_Calm : Mkd P w K mg base 1 "Calm" 4 m_Calm_init) (F : FunD K "calm_levels" "calm_levels" (defArgs st_calm_levels) (defBody st_calm_levels) (defScope st_calm_levels) [] [] f fd) (hm : mg "calm_levels" = some (.ref f)) : Fnd P w K mg base 9 "calm_levels" 3 m_calm_levels := by
  have nd := sc_calm_levels.nd
  refine fnd_of (k := 8) F hm sc_calm_levels (fun _ _ _ _ _ _ us hl => match us, hl with | [_, _, _], _ => rfl) fun cdv A outer s H E hr => ?_
  exact (dss_one (ds_ret (g_methI M_Calm_best (hr.mono (by first | decide | omega)) (d_b (g_make K_Calm (hr.mono (by first | decide | omega)) (da_cons (gv 0) (da_cons (gv 1) (da_cons (gv 2) da_nil))))) (da_cons d_int (da_cons d_non da_nil)))))
/-! Within.__init__ -/
abbrev st_Within_init : Stmt := inClass (top 4) 0
abbrev N_Within_init : List Str := ["self", "series", "slack"]
def b_Within_init : SS := (sSeq (sFldS "Within" "series" (eBor 0) (eVar 1)) (sSeq (sFldS "Within" "slack" (eBor 0) (eVar 2)) (sFldS "Within" "known" (eBor 0) (eBox eDict0))))
def m_Within_init : SF := funS 3 3 b_Within_init
theorem sc_Within_init : FnScope N_Within_init ["self", "series", "slack"] (defScope st_Within_init) := ⟨rfl, rfl, rfl, by decide +kernel, rfl, by decide +kernel, by decide +kernel⟩
theorem ok_Within_init (cl_Within : ClsD K mg "Within") (na_Within_known : NoA K mg "Within" "known") (na_Within_series : NoA K mg "Within" "series") (na_Within_slack : NoA K mg "Within" "slack") (F : FunD K "__init__" "Within.__init__" (defArgs st_Within_init) (defBody st_Within_init) (defScope st_Within_init) [] [] f fd) {c : Addr} (hC : mg "Within" = some (.ref c)) (hk : Mk K c f) : Mkd P w K mg base 1 "Within" 3 m_Within_init := by
  have nd := sc_Within_init.nd
  refine mkd_of (k := 0) F hC hk sc_Within_init (fun _ _ _ _ _ _ us hl => match us, hl with | [_, _, _], _ => rfl) fun cdv A outer s H E hr => ?_
  exact (dss_cons (ds_fld cl_Within na_Within_series (gb 0) (gv 1)) (dss_cons (ds_fld cl_Within na_Within_slack (gb 0) (gv 2)) (dss_one (ds_fld cl_Within na_Within_known (gb 0) (d_box dO_dict0)))))
/-! Within.near_levels -/
abbrev st_Within_near_levels : Stmt := inClass (top 4) 1
abbrev N_Within_near_levels : List Str := ["self", "hour", "low", "high"]
def b_Within_near_levels : SS := (sSeq (sPar false false 2 3 (eBin subD (eIx (eFld "Within" "series" (eBor 0)) (eBor 1)) (eFld "Within" "slack" (eBor 0))) (eBin addD (eIx (eFld "Within" "series" (eBor 0)) (eBor 1)) (eFld "Within" "slack" (eBor 0)))) (sRet (eLstRg rgF2 (aCons (eVar 2) (aCons (eBin addD (eBor 3) (eC (.int 1))) aNil)))))
def m_Within_near_levels : SF := funS 4 2 b_Within_near_levels
theorem sc_Within_near_levels : FnScope N_Within_near_levels ["self", "hour"] (defScope st_Within_near_levels) := ⟨rfl, rfl, rfl, by decide +kernel, rfl, by decide +kernel, by decide +kernel⟩
theorem ok_Within_near_levels (g_list : mg "list" = none) (g_range : mg "range" = none) (cl_Within : ClsD K mg "Within") (na_Within_series : NoA K mg "Within" "series") (na_Within_slack : NoA K mg "Within" "slack") (F : FunD K "near_levels" "Within.near_levels" (defArgs st_Within_near_levels) (defBody st_Within_near_levels) (defScope st_Within_near_levels) [] [] f fd) {c : Addr} (hC : mg "Within" = some (.ref c)) (hc : Cls K c) (hm : Meth K c "near_levels" f) : Mnd P w K mg base 1 "Within" "near_levels" 2 m_Within_near_levels := by
  have nd := sc_Within_near_levels.nd
  refine mnd_of (k := 0) F hC hc hm sc_Within_near_levels (fun _ _ _ _ _ _ us hl => match us, hl with | [_, _], _ => rfl) fun cdv A outer s H E hr => ?_
  exact (dss_cons (ds_par (m := false) (n := false) rfl nd rfl rfl (by decide) rfl rfl (d_bin od_sub (d_b (d_ix (u65 hr) (d_b (d_fld cl_Within na_Within_series (gb 0))) (gb 1))) (d_b (d_fld cl_Within na_Within_slack (gb 0)))) (d_bin od_add (d_b (d_ix (u65 hr) (d_b (d_fld cl_Within na_Within_series (gb 0))) (gb 1))) (d_b (d_fld cl_Within na_Within_slack (gb 0))))) (dss_one (ds_ret (d_o (dO_lstRg2 rfl rfl g_list rfl g_range (gv 2) (d_bin od_add (gb 3) (d_b d_int)))))))
/-! Within.best -/
abbrev st_Within_best : Stmt := inClass (top 4) 2
abbrev N_Within_best : List Str := ["self", "hour", "last", "rows", "level", "later"]
def b_Within_best (rec : SF) : SS := (sSeq (sIf (sB (eBin eqD (eBor 1) (eLen (eFld "Within" "series" (eBor 0))))) (sRet (eTup (aCons (eC (.int 0)) (aCons (eTup aNil) aNil)))) sNil) (sSeq (sIf (sB (eBin notInD (eTup (aCons (eVar 1) (aCons (eVar 2) aNil))) (eFld "Within" "known" (eBor 0)))) (sSeq (sSetO 3 (eLst aNil)) (sSeq (sFor (sIter (eMethI "Within" "near_levels" m_Within_near_levels (eBor 0) (aCons (eVar 1) aNil))) (gN 4) (sSeq (sSet 5 (eMethI "Within" "best" rec (eBor 0) (aCons (eBin addD (eBor 1) (eC (.int 1))) (aCons (eVar 4) aNil)))) (sApp 3 (eTup (aCons (eBin addD (eIx (eBor 5) (eC (.int 0))) (eCall intF (aCons (eAnd (eBin isNotP (eBor 2) (eC .none)) (eBin neD (eBor 2) (eBor 4))) aNil))) (aCons (eBin addD (eTup (aCons (eVar 4) aNil)) (eIx (eBor 5) (eC (.int 1)))) aNil)))))) (sPutB (eFld "Within" "known" (eBor 0)) (eTup (aCons (eVar 1) (aCons (eVar 2) aNil))) (eCall minF (aCons (eBor 3) aNil))))) sNil) (sRet (eIx (eFld "Within" "known" (eBor 0)) (eTup (aCons (eVar 1) (aCons (eVar 2) aNil)))))))
def m_Within_best : Nat → SF
  | 0 => noF
  | n + 1 => funS 6 3 (b_Within_best (m_Within_best n))
theorem sc_Within_best : FnScope N_Within_best ["self", "hour", "last"] (defScope st_Within_best) := ⟨rfl, rfl, rfl, by decide +kernel, rfl, by decide +kernel, by decide +kernel⟩
theorem ok_Within_best (g_int : mg "int" = none) (g_len : mg "len" = none) (g_min : mg "min" = none) (cl_Within : ClsD K mg "Within") (na_Within_known : NoA K mg "Within" "known") (na_Within_series : NoA K mg "Within" "series") (M_Within_near_levels : Mnd P w K mg base 1 "Within" "near_levels" 2 m_Within_near_levels) (F : FunD K "best" "Within.best" (defArgs st_Within_best) (defBody st_Within_best) (defScope st_Within_best) [] [] f fd) {c : Addr} (hC : mg "Within" = some (.ref c)) (hc : Cls K c) (hm : Meth K c "best" f) : ∀ n, Mnd P w K mg base (1 + n) "Within" "best" 3 (m_Within_best n) := by
  have nd := sc_Within_best.nd
  refine mnd_rec F hC hc hm sc_Within_best rfl rfl b_Within_best (fun _ => rfl) (fun _ _ _ _ _ _ us hl => match us, hl with | [_, _, _], _ => rfl) fun n M_Within_best cdv A outer s H E hr => ?_
  exact (dss_cons (ds_if (dt_cmp (od_eq (u100 hr)) (gb 1) (d_b (DL.d_len rfl g_len (d_b (d_fld cl_Within na_Within_series (gb 0))))) (nomark _)) (dss_one (ds_ret (d_tup (da_cons d_int (da_cons (d_tup da_nil) da_nil))))) dss_nil) (dss_cons (ds_if (dt_cmp (od_notIn (u65 hr)) (d_b (d_tup (da_cons (gv 1) (da_cons (gv 2) da_nil)))) (d_b (d_fld cl_Within na_Within_known (gb 0))) rfl) (dss_cons (ds_setO nd rfl (by first | exact .inl rfl | exact .inr rfl) (dO_lst da_nil)) (dss_cons (ds_for PassesOwn.never rfl (di_val (g_methI M_Within_near_levels (hr.mono (by first | decide | omega)) (gb 0) (da_cons (gv 1) da_nil))) (gn 4 nd) (dss_cons (ds_set nd rfl (by first | exact .inl rfl | exact .inr rfl) (g_methI M_Within_best (hr.mono (by first | decide | omega)) (gb 0) (da_cons (d_bin od_add (gb 1) (d_b d_int)) (da_cons (gv 4) da_nil)))) (dss_one (ds_app rfl (by first | exact Or.inl rfl | exact Or.inr (Or.inl rfl)) (d_tup (da_cons (d_bin od_add (d_b (d_ix (u65 hr) (gb 5) (d_b d_int))) (d_b (d_callT cd_int rfl g_int boot_int (db_cons (d_b (d_and (d_cmp od_isNot (gb 2) (d_b d_non) (nomark _)) (d_one (d_cmp (od_ne (u100 hr)) (gb 2) (gb 4) (nomark _))))) db_nil)))) (da_cons (d_bin od_add (d_b (d_tup (da_cons (gv 4) da_nil))) (d_b (d_ix (u65 hr) (gb 5) (d_b d_int)))) da_nil))))))) (dss_one (ds_putB (u65 hr) (d_b (d_fld cl_Within na_Within_known (gb 0))) (d_b (d_tup (da_cons (gv 1) (da_cons (gv 2) da_nil)))) (d_callB (cd_min rfl (u200 hr)) rfl g_min boot_min (db_cons (gb 3) db_nil)))))) dss_nil) (dss_one (ds_ret (d_ix (u65 hr) (d_b (d_fld cl_Within na_Within_known (gb 0))) (d_b (d_tup (da_cons (gv 1) (da_cons (gv 2) da_nil)))))))))
/-! calm_within -/
abbrev st_calm_within : Stmt := top 5
abbrev N_calm_within : List Str := ["series", "slack"]
def b_calm_within : SS := (sRet (eMethI "Within" "best" (m_Within_best 8) (eMake "Within" m_Within_init (aCons (eVar 0) (aCons (eVar 1) aNil))) (aCons (eC (.int 0)) (aCons (eC .none) aNil))))
def m_calm_within : SF := funS 2 2 b_calm_within
theorem sc_calm_within : FnScope N_calm_within ["series", "slack"] (defScope st_calm_within) := ⟨rfl, rfl, rfl, by decide +kernel, rfl, by decide +kernel, by decide +kernel⟩
theorem ok_calm_within (M_Within_best : Mnd P w K mg base 9 "Within" "best" 3 (m_Within_best 8)) (K_Within : Mkd P w K mg base 1 "Within" 3 m_Within_init) (F : FunD K "calm_within" "calm_within" (defArgs st_calm_within) (defBody st_calm_within) (defScope st_calm_within) [] [] f fd) (hm : mg "calm_within" = some (.ref f)) : Fnd P w K mg base 10 "calm_within" 2 m_calm_within := by
  have nd := sc_calm_within.nd
  refine fnd_of (k := 9) F hm sc_calm_within (fun _ _ _ _ _ _ us hl => match us, hl with | [_, _], _ => rfl) fun cdv A outer s H E hr => ?_
  exact (dss_one (ds_ret (g_methI M_Within_best (hr.mono (by first | decide | omega)) (d_b (g_make K_Within (hr.mono (by first | decide | omega)) (da_cons (gv 0) (da_cons (gv 1) da_nil)))) (da_cons d_int (da_cons d_non da_nil)))))
/-! steady_from -/
abbrev st_steady_from : Stmt := top 6
abbrev N_steady_from : List Str := ["levels", "hours", "hour", "level"]
def b_steady_from : SS := (sSeq (sFor (sRng rng1F (aCons (eBin addD (eBin subD (eLen (eBor 0)) (eBor 1)) (eC (.int 1))) aNil)) (gN 2) (sIf (sB (eCall allF (aCons (eLc (sIter (eSlice (eBor 0) (pSome (eVar 2)) (pSome (eBin addD (eBor 2) (eBor 1))))) (gN 3) sYes (eBin eqD (eBor 3) (eIx (eBor 0) (eBor 2))) [3]) aNil))) (sRet (eVar 2)) sNil)) (sRet (eC .none)))
def m_steady_from : SF := funS 4 2 b_steady_from
theorem sc_steady_from : FnScope N_steady_from ["levels", "hours"] (defScope st_steady_from) := ⟨rfl, rfl, rfl, by decide +kernel, rfl, by decide +kernel, by decide +kernel⟩
theorem ok_steady_from (g_all : mg "all" = none) (g_len : mg "len" = none) (g_range : mg "range" = none) (F : FunD K "steady_from" "steady_from" (defArgs st_steady_from) (defBody st_steady_from) (defScope st_steady_from) [] [] f fd) (hm : mg "steady_from" = some (.ref f)) : Fnd P w K mg base 1 "steady_from" 2 m_steady_from := by
  have nd := sc_steady_from.nd
  refine fnd_of (k := 0) F hm sc_steady_from (fun _ _ _ _ _ _ us hl => match us, hl with | [_, _], _ => rfl) fun cdv A outer s H E hr => ?_
  exact (dss_cons (ds_for PassesOwn.never rfl (di_range1 rfl g_range (da_cons (d_bin od_add (d_b (d_bin od_sub (d_b (DL.d_len rfl g_len (gb 0))) (gb 1))) (d_b d_int)) da_nil)) (gn 2 nd) (dss_one (ds_if (dt_val (d_callB (cd_all rfl) rfl g_all boot_all (db_cons (d_b (d_o (dO_lc (own := [("level", 3)]) rfl nd (di_val (d_slice (gb 0) (dp_some (gv 2)) (dp_some (d_bin od_add (gb 2) (gb 1))))) (blkOk_by (by kernel_rfl)) (by simp) (fun _ _ _ _ _ => (gn 3 nd)) (fun _ _ _ _ _ => dts_nil) (fun _ _ _ _ _ => (d_cmp (od_eq (u100 hr)) (gb 3) (d_b (d_ix (u65 hr) (gb 0) (gb 2))) (nomark _)))))) db_nil))) (dss_one (ds_ret (gv 2))) dss_nil))) (dss_one (ds_ret d_non)))
/-! _law_draws -/
abbrev st__law_draws : Stmt := top 8
abbrev N__law_draws : List Str := ["script", "many", "draws", "mixed", "k", "cell", "rest", "turn"]
def b__law_draws : SS := (sSeq (sSetO 2 (eLst aNil)) (sSeq (sSet 3 (eC (.int 7))) (sSeq (sFor (sRng rng1F (aCons (eLen (eBor 0)) aNil)) (gN 4) (sSeq (sSet 5 (eCall absD (aCons (eCall intF (aCons (eIx (eBor 0) (eBor 4)) aNil)) aNil))) (sSeq (sSet 3 (eBin modD (eCall intF (aCons (eBin addD (eBin addD (eBin mulD (eBor 3) (eC (.int 48271))) (eBin modD (eBor 5) (eC (.int 1000003)))) (eBor 4)) aNil)) (eC (.int 65537)))) (sSeq (sSet 6 (eC (.int 0))) (sSeq (sIf (sB (eBin geD (eBor 5) (eBin powD (eC (.int 10)) (eC (.int 18))))) (sSet 6 (eVar 5)) (sSeq (sApp 2 (eBin modD (eCall intF (aCons (eBor 5) aNil)) (eC (.int 997)))) (sApp 2 (eBin modD (eBin modD (eCall intF (aCons (eBin addD (eBin mulD (eBor 3) (eC (.int 69621))) (eC (.int 5))) aNil)) (eC (.int 65521))) (eC (.int 997)))))) (sFor (sRng rng1F (aCons (eC (.int 60)) aNil)) (gN 7) (sIf (sB (eBin gtD (eBor 6) (eC (.int 0)))) (sSeq (sApp 2 (eBin modD (eCall intF (aCons (eBor 6) aNil)) (eC (.int 997)))) (sSet 6 (eBin fdivD (eBor 6) (eC (.int 997))))) sNil))))))) (sSeq (sFor (sRng rng1F (aCons (eVar 1) aNil)) (gN 4) (sSeq (sSet 3 (eBin modD (eCall intF (aCons (eBin addD (eBin addD (eBin mulD (eBor 3) (eC (.int 16807))) (eBor 4)) (eC (.int 1))) aNil)) (eC (.int 65537)))) (sApp 2 (eBin modD (eCall intF (aCons (eBor 3) aNil)) (eC (.int 997)))))) (sRet (eSlice (eBor 2) pNone (pSome (eVar 1))))))))
def m_law_draws : SF := funS 8 2 b__law_draws
theorem sc__law_draws : FnScope N__law_draws ["script", "many"] (defScope st__law_draws) := ⟨rfl, rfl, rfl, by decide +kernel, rfl, by decide +kernel, by decide +kernel⟩
theorem ok__law_draws (g_abs : mg "abs" = none) (g_int : mg "int" = none) (g_len : mg "len" = none) (g_range : mg "range" = none) (F : FunD K "_law_draws" "_law_draws" (defArgs st__law_draws) (defBody st__law_draws) (defScope st__law_draws) [] [] f fd) (hm : mg "_law_draws" = some (.ref f)) : Fnd P w K mg base 1 "_law_draws" 2 m_law_draws := by
  have nd := sc__law_draws.nd
  refine fnd_of (k := 0) F hm sc__law_draws (fun _ _ _ _ _ _ us hl => match us, hl with | [_, _], _ => rfl) fun cdv A outer s H E hr => ?_
  exact (dss_cons (ds_setO nd rfl (by first | exact .inl rfl | exact .inr rfl) (dO_lst da_nil)) (dss_cons (ds_set nd rfl (by first | exact .inl rfl | exact .inr rfl) d_int) (dss_cons (ds_for PassesOwn.never rfl (di_range1 rfl g_range (da_cons (DL.d_len rfl g_len (gb 0)) da_nil)) (gn 4 nd) (dss_cons (ds_set nd rfl (by first | exact .inl rfl | exact .inr rfl) (d_callB cd_abs rfl g_abs boot_abs (db_cons (d_b (d_callT cd_int rfl g_int boot_int (db_cons (d_b (d_ix (u65 hr) (gb 0) (gb 4))) db_nil))) db_nil))) (dss_cons (ds_set nd rfl (by first | exact .inl rfl | exact .inr rfl) (d_bin od_mod (d_b (d_callT cd_int rfl g_int boot_int (db_cons (d_b (d_bin od_add (d_b (d_bin od_add (d_b (d_bin od_mul (gb 3) (d_b d_int))) (d_b (d_bin od_mod (gb 5) (d_b d_int))))) (gb 4))) db_nil))) (d_b d_int))) (dss_cons (ds_set nd rfl (by first | exact .inl rfl | exact .inr rfl) d_int) (dss_cons (ds_if (dt_cmp (od_ge (u65 hr)) (gb 5) (d_b (d_bin od_pow (d_b d_int) (d_b d_int))) (nomark _)) (dss_one (ds_set nd rfl (by first | exact .inl rfl | exact .inr rfl) (gv 5))) (dss_cons (ds_app rfl (by first | exact Or.inl rfl | exact Or.inr (Or.inl rfl)) (d_bin od_mod (d_b (d_callT cd_int rfl g_int boot_int (db_cons (gb 5) db_nil))) (d_b d_int))) (dss_one (ds_app rfl (by first | exact Or.inl rfl | exact Or.inr (Or.inl rfl)) (d_bin od_mod (d_b (d_bin od_mod (d_b (d_callT cd_int rfl g_int boot_int (db_cons (d_b (d_bin od_add (d_b (d_bin od_mul (gb 3) (d_b d_int))) (d_b d_int))) db_nil))) (d_b d_int))) (d_b d_int)))))) (dss_one (ds_for PassesOwn.never rfl (di_range1 rfl g_range (da_cons d_int da_nil)) (gn 7 nd) (dss_one (ds_if (dt_cmp (od_gt (u65 hr)) (gb 6) (d_b d_int) (nomark _)) (dss_cons (ds_app rfl (by first | exact Or.inl rfl | exact Or.inr (Or.inl rfl)) (d_bin od_mod (d_b (d_callT cd_int rfl g_int boot_int (db_cons (gb 6) db_nil))) (d_b d_int))) (dss_one (ds_set nd rfl (by first | exact .inl rfl | exact .inr rfl) (d_bin od_fdiv (gb 6) (d_b d_int))))) dss_nil))))))))) (dss_cons (ds_for PassesOwn.never rfl (di_range1 rfl g_range (da_cons (gv 1) da_nil)) (gn 4 nd) (dss_cons (ds_set nd rfl (by first | exact .inl rfl | exact .inr rfl) (d_bin od_mod (d_b (d_callT cd_int rfl g_int boot_int (db_cons (d_b (d_bin od_add (d_b (d_bin od_add (d_b (d_bin od_mul (gb 3) (d_b d_int))) (gb 4))) (d_b d_int))) db_nil))) (d_b d_int))) (dss_one (ds_app rfl (by first | exact Or.inl rfl | exact Or.inr (Or.inl rfl)) (d_bin od_mod (d_b (d_callT cd_int rfl g_int boot_int (db_cons (gb 3) db_nil))) (d_b d_int)))))) (dss_one (ds_ret (d_slice (gb 2) dp_none (dp_some (gv 1)))))))))
/-! _law_next -/
abbrev st__law_next : Stmt := top 9
abbrev N__law_next : List Str := ["w", "many"]
def b__law_next : SS := (sSeq (sAugB (eBor 0) (eC (.str "at")) (intD noC fun i j => i + j) (eC (.int 1))) (sSeq (sIf (sB (eBin gtD (eIx (eBor 0) (eC (.str "at"))) (eLen (eIx (eBor 0) (eC (.str "draws")))))) (sRet (eC (.int 0))) sNil) (sRet (eBin modD (eCall intF (aCons (eIx (eIx (eBor 0) (eC (.str "draws"))) (eBin subD (eIx (eBor 0) (eC (.str "at"))) (eC (.int 1)))) aNil)) (eBor 1)))))
def m_law_next : SF := funS 2 2 b__law_next
theorem sc__law_next : FnScope N__law_next ["w", "many"] (defScope st__law_next) := ⟨rfl, rfl, rfl, by decide +kernel, rfl, by decide +kernel, by decide +kernel⟩
theorem ok__law_next (g_int : mg "int" = none) (g_len : mg "len" = none) (F : FunD K "_law_next" "_law_next" (defArgs st__law_next) (defBody st__law_next) (defScope st__law_next) [] [] f fd) (hm : mg "_law_next" = some (.ref f)) : Fnd P w K mg base 1 "_law_next" 2 m_law_next := by
  have nd := sc__law_next.nd
  refine fnd_of (k := 0) F hm sc__law_next (fun _ _ _ _ _ _ us hl => match us, hl with | [_, _], _ => rfl) fun cdv A outer s H E hr => ?_
  exact (dss_cons (ds_augB (u65 hr) (gb 0) (d_b d_str) od_iadd d_int) (dss_cons (ds_if (dt_cmp (od_gt (u65 hr)) (d_b (d_ix (u65 hr) (gb 0) (d_b d_str))) (d_b (DL.d_len rfl g_len (d_b (d_ix (u65 hr) (gb 0) (d_b d_str))))) (nomark _)) (dss_one (ds_ret d_int)) dss_nil) (dss_one (ds_ret (d_bin od_mod (d_b (d_callT cd_int rfl g_int boot_int (db_cons (d_b (d_ix (u65 hr) (d_b (d_ix (u65 hr) (gb 0) (d_b d_str))) (d_b (d_bin od_sub (d_b (d_ix (u65 hr) (gb 0) (d_b d_str))) (d_b d_int))))) db_nil))) (gb 1))))))
/-! _law_pick -/
abbrev st__law_pick : Stmt := top 10
abbrev N__law_pick : List Str := ["w", "rows"]
def b__law_pick : SS := (sRet (eIx (eBor 1) (eFn m_law_next (aCons (eVar 0) (aCons (eLen (eBor 1)) aNil)))))
def m_law_pick : SF := funS 2 2 b__law_pick
theorem sc__law_pick : FnScope N__law_pick ["w", "rows"] (defScope st__law_pick) := ⟨rfl, rfl, rfl, by decide +kernel, rfl, by decide +kernel, by decide +kernel⟩
theorem ok__law_pick (g_len : mg "len" = none) (F__law_next : Fnd P w K mg base 1 "_law_next" 2 m_law_next) (F : FunD K "_law_pick" "_law_pick" (defArgs st__law_pick) (defBody st__law_pick) (defScope st__law_pick) [] [] f fd) (hm : mg "_law_pick" = some (.ref f)) : Fnd P w K mg base 2 "_law_pick" 2 m_law_pick := by
  have nd := sc__law_pick.nd
  refine fnd_of (k := 1) F hm sc__law_pick (fun _ _ _ _ _ _ us hl => match us, hl with | [_, _], _ => rfl) fun cdv A outer s H E hr => ?_
  exact (dss_one (ds_ret (d_ix (u65 hr) (gb 1) (d_b (g_call F__law_next (hr.mono (by first | decide | omega)) (da_cons (gv 0) (da_cons (DL.d_len rfl g_len (gb 1)) da_nil)))))))
/-! _law_alike -/
abbrev st__law_alike : Stmt := top 11
abbrev N__law_alike : List Str := ["told", "due", "k"]
def b__law_alike (rec : SF) : SS := (sSeq (sIf (sB (eIsa "tuple" (eBor 1))) (sSeq (sIf (sOr (sNot (sB (eIsa "tuple" (eBor 0)))) (sB (eBin neD (eLen (eBor 0)) (eLen (eBor 1))))) (sRet (eC (.bool false))) sNil) (sRet (eBin eqD (eLc (sRng rng1F (aCons (eLen (eBor 1)) aNil)) (gN 2) (sNot (sB (eFn rec (aCons (eIx (eBor 0) (eBor 2)) (aCons (eIx (eBor 1) (eBor 2)) aNil))))) (eVar 2) [2]) (eLst aNil)))) sNil) (sSeq (sIf (sB (eBin isP (eBor 1) (eC .none))) (sRet (eBin isP (eBor 0) (eC .none))) sNil) (sSeq (sIf (sB (eIsa "bool" (eBor 1))) (sRet (eAnd (eIsa "bool" (eBor 0)) (eBin eqD (eBor 0) (eBor 1)))) sNil) (sSeq (sIf (sB (eIsa "int" (eBor 1))) (sRet (eAnd (eIsa "int" (eBor 0)) (eAnd (eNot (eIsa "bool" (eBor 0))) (eBin eqD (eBor 0) (eBor 1))))) sNil) (sRet (eAnd (eIsa "str" (eBor 0)) (eBin eqD (eBor 0) (eBor 1))))))))
def m_law_alike : Nat → SF
  | 0 => noF
  | n + 1 => funS 3 2 (b__law_alike (m_law_alike n))
theorem sc__law_alike : FnScope N__law_alike ["told", "due"] (defScope st__law_alike) := ⟨rfl, rfl, rfl, by decide +kernel, rfl, by decide +kernel, by decide +kernel⟩
theorem ok__law_alike (g_bool : mg "bool" = none) (g_int : mg "int" = none) (g_isinstance : mg "isinstance" = none) (g_len : mg "len" = none) (g_range : mg "range" = none) (g_str : mg "str" = none) (g_tuple : mg "tuple" = none) (F : FunD K "_law_alike" "_law_alike" (defArgs st__law_alike) (defBody st__law_alike) (defScope st__law_alike) [] [] f fd) (hm : mg "_law_alike" = some (.ref f)) : ∀ n, Fnd P w K mg base (0 + n) "_law_alike" 2 (m_law_alike n) := by
  have nd := sc__law_alike.nd
  refine fnd_rec F hm sc__law_alike rfl rfl b__law_alike (fun _ => rfl) (fun _ _ _ _ _ _ us hl => match us, hl with | [_, _], _ => rfl) fun n F__law_alike cdv A outer s H E hr => ?_
  exact (dss_cons (ds_if (dt_val (d_isa rfl g_isinstance rfl g_tuple boot_tuple (gb 1))) (dss_cons (ds_if (PW.pt (dw_or (dt_not (dt_val (d_isa rfl g_isinstance rfl g_tuple boot_tuple (gb 0)))) (dw_or1 (dt_cmp (od_ne (u100 hr)) (d_b (DL.d_len rfl g_len (gb 0))) (d_b (DL.d_len rfl g_len (gb 1))) (nomark _))))) (dss_one (ds_ret d_bl)) dss_nil) (dss_one (ds_ret (d_cmp (od_eq (u100 hr)) (d_b (d_o (dO_lc (own := [("k", 2)]) rfl nd (di_range1 rfl g_range (da_cons (DL.d_len rfl g_len (gb 1)) da_nil)) (blkOk_by (by kernel_rfl)) (by simp) (fun _ _ _ _ _ => (gn 2 nd)) (fun _ _ _ _ _ => (dts_one (dt_not (dt_val (g_call F__law_alike (hr.mono (by first | decide | omega)) (da_cons (d_ix (u65 hr) (gb 0) (gb 2)) (da_cons (d_ix (u65 hr) (gb 1) (gb 2)) da_nil))))))) (fun _ _ _ _ _ => (gv 2))))) (d_b (d_o (dO_lst da_nil))) (nomark _))))) dss_nil) (dss_cons (ds_if (dt_cmp od_is (gb 1) (d_b d_non) (nomark _)) (dss_one (ds_ret (d_cmp od_is (gb 0) (d_b d_non) (nomark _)))) dss_nil) (dss_cons (ds_if (dt_val (d_isa rfl g_isinstance rfl g_bool boot_bool (gb 1))) (dss_one (ds_ret (d_and (d_isa rfl g_isinstance rfl g_bool boot_bool (gb 0)) (d_one (d_cmp (od_eq (u100 hr)) (gb 0) (gb 1) (nomark _)))))) dss_nil) (dss_cons (ds_if (dt_val (d_isa rfl g_isinstance rfl g_int boot_int (gb 1))) (dss_one (ds_ret (d_and (d_isa rfl g_isinstance rfl g_int boot_int (gb 0)) (d_and (d_not (d_isa rfl g_isinstance rfl g_bool boot_bool (gb 0))) (d_one (d_cmp (od_eq (u100 hr)) (gb 0) (gb 1) (nomark _))))))) dss_nil) (dss_one (ds_ret (d_and (d_isa rfl g_isinstance rfl g_str boot_str (gb 0)) (d_one (d_cmp (od_eq (u100 hr)) (gb 0) (gb 1) (nomark _))))))))))
/-! _law_all -/
abbrev st__law_all : Stmt := top 12
abbrev N__law_all : List Str := ["choices", "found", "own", "longer", "row", "number"]
def b__law_all : SS := (sSeq (sSet 1 (eLst (aCons (eTup aNil) aNil))) (sSeq (sFor (sIter (eVar 0)) (gN 2) (sSeq (sSet 3 (eLst aNil)) (sSeq (sFor (sIter (eVar 1)) (gN 4) (sSet 3 (eBin addD (eBor 3) (eLc (sIter (eVar 2)) (gN 5) sYes (eBin addD (eBor 4) (eTup (aCons (eVar 5) aNil))) [5])))) (sSet 1 (eVar 3))))) (sRet (eVar 1))))
def m_law_all : SF := funS 6 1 b__law_all
theorem sc__law_all : FnScope N__law_all ["choices"] (defScope st__law_all) := ⟨rfl, rfl, rfl, by decide +kernel, rfl, by decide +kernel, by decide +kernel⟩
theorem ok__law_all  (F : FunD K "_law_all" "_law_all" (defArgs st__law_all) (defBody st__law_all) (defScope st__law_all) [] [] f fd) (hm : mg "_law_all" = some (.ref f)) : Fnd P w K mg base 1 "_law_all" 1 m_law_all := by
  have nd := sc__law_all.nd
  refine fnd_of (k := 0) F hm sc__law_all (fun _ _ _ _ _ _ us hl => match us, hl with | [_], _ => rfl) fun cdv A outer s H E hr => ?_
  exact (dss_cons (ds_set nd rfl (by first | exact .inl rfl | exact .inr rfl) (d_o (dO_lst (da_cons (d_tup da_nil) da_nil)))) (dss_cons (ds_for PassesOwn.never rfl (di_val (gv 0)) (gn 2 nd) (dss_cons (ds_set nd rfl (by first | exact .inl rfl | exact .inr rfl) (d_o (dO_lst da_nil))) (dss_cons (ds_for PassesOwn.never rfl (di_val (gv 1)) (gn 4 nd) (dss_one (ds_set nd rfl (by first | exact .inl rfl | exact .inr rfl) (d_bin od_add (gb 3) (d_b (d_o (dO_lc (own := [("number", 5)]) rfl nd (di_val (gv 2)) (blkOk_by (by kernel_rfl)) (by simp) (fun _ _ _ _ _ => (gn 5 nd)) (fun _ _ _ _ _ => dts_nil) (fun _ _ _ _ _ => (d_bin od_add (gb 4) (d_b (d_tup (da_cons (gv 5) da_nil)))))))))))) (dss_one (ds_set nd rfl (by first | exact .inl rfl | exact .inr rfl) (gv 3)))))) (dss_one (ds_ret (gv 1)))))
/-! _law_changes -/
abbrev st__law_changes : Stmt := top 13
abbrev N__law_changes : List Str := ["row", "k"]
def b__law_changes : SS := (sRet (eLen (eLc (sRng rng2F (aCons (eC (.int 1)) (aCons (eLen (eBor 0)) aNil))) (gN 1) (sB (eBin neD (eIx (eBor 0) (eBor 1)) (eIx (eBor 0) (eBin subD (eBor 1) (eC (.int 1)))))) (eVar 1) [1])))
def m_law_changes : SF := funS 2 1 b__law_changes
theorem sc__law_changes : FnScope N__law_changes ["row"] (defScope st__law_changes) := ⟨rfl, rfl, rfl, by decide +kernel, rfl, by decide +kernel, by decide +kernel⟩
theorem ok__law_changes (g_len : mg "len" = none) (g_range : mg "range" = none) (F : FunD K "_law_changes" "_law_changes" (defArgs st__law_changes) (defBody st__law_changes) (defScope st__law_changes) [] [] f fd) (hm : mg "_law_changes" = some (.ref f)) : Fnd P w K mg base 1 "_law_changes" 1 m_law_changes := by
  have nd := sc__law_changes.nd
  refine fnd_of (k := 0) F hm sc__law_changes (fun _ _ _ _ _ _ us hl => match us, hl with | [_], _ => rfl) fun cdv A outer s H E hr => ?_
  exact (dss_one (ds_ret (DL.d_len rfl g_len (d_b (d_o (dO_lc (own := [("k", 1)]) rfl nd (di_range2 rfl g_range (da_cons d_int (da_cons (DL.d_len rfl g_len (gb 0)) da_nil))) (blkOk_by (by kernel_rfl)) (by simp) (fun _ _ _ _ _ => (gn 1 nd)) (fun _ _ _ _ _ => (dts_one (dt_cmp (od_ne (u100 hr)) (d_b (d_ix (u65 hr) (gb 0) (gb 1))) (d_b (d_ix (u65 hr) (gb 0) (d_b (d_bin od_sub (gb 1) (d_b d_int))))) (nomark _)))) (fun _ _ _ _ _ => (gv 1))))))))
/-! law -/
abbrev st_law : Stmt := top 14
abbrev N_law : List Str := ["script", "w", "turn", "most", "price", "k", "series", "every", "row", "due", "slack", "other", "level", "hours", "j", "able"]
def b_law : SS := (sSeq (sSet 1 (eBox (eDisp (pCons (eC (.str "draws")) (eFn m_law_draws (aCons (eVar 0) (aCons (eC (.int 400)) aNil))) (pCons (eC (.str "at")) (eC (.int 0)) pNil))))) (sSeq (sFor (sRng rng1F (aCons (eC (.int 5)) aNil)) (gN 2) (sSeq (sAsgG (gTn 2 (gsCons (gN 3) (gsCons (gN 4) gsNil))) (eTup (aCons (eBin addD (eC (.int 1)) (eFn m_law_next (aCons (eVar 1) (aCons (eC (.int 3)) aNil)))) (aCons (eFn m_law_next (aCons (eVar 1) (aCons (eC (.int 5)) aNil))) aNil)))) (sSeq (sSet 6 (eCall tupleF (aCons (eLc (sRng rng1F (aCons (eFn m_law_next (aCons (eVar 1) (aCons (eC (.int 6)) aNil))) aNil)) (gN 5) sYes (eFn m_law_next (aCons (eVar 1) (aCons (eBin addD (eBor 3) (eC (.int 1))) aNil))) [5]) aNil))) (sSeq (sSet 7 (eFn m_law_all (aCons (eBin repD (eLst (aCons (eLstRg rgF1 (aCons (eBin addD (eBor 3) (eC (.int 1))) aNil)) aNil)) (eLen (eBor 6))) aNil))) (sSeq (sSet 9 (eCall minF (aCons (eLc (sIter (eVar 7)) (gN 8) sYes (eTup (aCons (eBin addD (eCall sumF (aCons (eLc (sRng rng1F (aCons (eLen (eBor 6)) aNil)) (gN 5) sYes (eCall absD (aCons (eBin subD (eIx (eBor 8) (eBor 5)) (eIx (eBor 6) (eBor 5))) aNil)) [5]) aNil)) (eBin mulD (eBor 4) (eFn m_law_changes (aCons (eVar 8) aNil)))) (aCons (eVar 8) aNil))) [8]) aNil))) (sSeq (sIf (sNot (sB (eFn (m_law_alike 6) (aCons (eFn m_calm_levels (aCons (eVar 6) (aCons (eVar 3) (aCons (eVar 4) aNil)))) (aCons (eVar 9) aNil))))) (sRet (eC (.bool false))) sNil) (sSeq (sSet 10 (eFn m_law_next (aCons (eVar 1) (aCons (eC (.int 3)) aNil)))) (sSeq (sSet 11 (eCall tupleF (aCons (eLc (sRng rng1F (aCons (eFn m_law_next (aCons (eVar 1) (aCons (eC (.int 5)) aNil))) aNil)) (gN 5) sYes (eBin subD (eFn m_law_next (aCons (eVar 1) (aCons (eC (.int 7)) aNil))) (eC (.int 2))) [5]) aNil))) (sSeq (sSet 7 (eFn m_law_all (aCons (eLc (sIter (eVar 11)) (gN 12) sYes (eLstRg rgF2 (aCons (eBin subD (eBor 12) (eBor 10)) (aCons (eBin addD (eBin addD (eBor 12) (eBor 10)) (eC (.int 1))) aNil))) [12]) aNil))) (sSeq (sIf (sNot (sB (eFn (m_law_alike 6) (aCons (eFn m_calm_within (aCons (eVar 11) (aCons (eVar 10) aNil))) (aCons (eCall minF (aCons (eLc (sIter (eVar 7)) (gN 8) sYes (eTup (aCons (eFn m_law_changes (aCons (eVar 8) aNil)) (aCons (eVar 8) aNil))) [8]) aNil)) aNil))))) (sRet (eC (.bool false))) sNil) (sSeq (sAsgG (gTn 2 (gsCons (gN 8) (gsCons (gN 13) gsNil))) (eTup (aCons (eCall tupleF (aCons (eLc (sRng rng1F (aCons (eFn m_law_next (aCons (eVar 1) (aCons (eC (.int 9)) aNil))) aNil)) (gN 5) sYes (eFn m_law_next (aCons (eVar 1) (aCons (eC (.int 2)) aNil))) [5]) aNil)) (aCons (eBin addD (eC (.int 1)) (eFn m_law_next (aCons (eVar 1) (aCons (eC (.int 4)) aNil)))) aNil)))) (sSeq (sSet 15 (eLc (sRng rng1F (aCons (eLen (eBor 8)) aNil)) (gN 5) (sAnd (sB (eBin leD (eBin addD (eBor 5) (eBor 13)) (eLen (eBor 8)))) (sB (eBin eqD (eLc (sRng rng2F (aCons (eVar 5) (aCons (eBin addD (eBor 5) (eBor 13)) aNil))) (gN 14) (sB (eBin neD (eIx (eBor 8) (eBor 14)) (eIx (eBor 8) (eBor 5)))) (eVar 14) [14]) (eLst aNil)))) (eVar 5) [5])) (sIf (sOr (sNot (sB (eFn (m_law_alike 6) (aCons (eFn m_changes_in (aCons (eVar 8) aNil)) (aCons (eFn m_law_changes (aCons (eVar 8) aNil)) aNil))))) (sNot (sB (eFn (m_law_alike 6) (aCons (eFn m_steady_from (aCons (eVar 8) (aCons (eVar 13) aNil))) (aCons (eIf (sB (eBin neD (eBor 15) (eLst aNil))) (eIx (eBor 15) (eC (.int 0))) (eC .none)) aNil)))))) (sRet (eC (.bool false))) sNil))))))))))))) (sRet (eC (.bool true)))))
def m_law : SF := funS 16 1 b_law
theorem sc_law : FnScope N_law ["script"] (defScope st_law) := ⟨rfl, rfl, rfl, by decide +kernel, rfl, by decide +kernel, by decide +kernel⟩
theorem ok_law (g_abs : mg "abs" = none) (g_len : mg "len" = none) (g_list : mg "list" = none) (g_min : mg "min" = none) (g_range : mg "range" = none) (g_sum : mg "sum" = none) (g_tuple : mg "tuple" = none) (F_changes_in : Fnd P w K mg base 1 "changes_in" 1 m_changes_in) (F_calm_levels : Fnd P w K mg base 9 "calm_levels" 3 m_calm_levels) (F_calm_within : Fnd P w K mg base 10 "calm_within" 2 m_calm_within) (F_steady_from : Fnd P w K mg base 1 "steady_from" 2 m_steady_from) (F__law_draws : Fnd P w K mg base 1 "_law_draws" 2 m_law_draws) (F__law_next : Fnd P w K mg base 1 "_law_next" 2 m_law_next) (F__law_alike : Fnd P w K mg base 6 "_law_alike" 2 (m_law_alike 6)) (F__law_all : Fnd P w K mg base 1 "_law_all" 1 m_law_all) (F__law_changes : Fnd P w K mg base 1 "_law_changes" 1 m_law_changes) (F : FunD K "law" "law" (defArgs st_law) (defBody st_law) (defScope st_law) [] [] f fd) : FnOk P w K mg base CX0 11 f fd ["script"] (spD w K mg 1 m_law) := by
  have nd := sc_law.nd
  refine fun_ok (k := 10) F sc_law fun cdv A outer s H E hr => ?_
  exact (dss_cons (ds_set nd rfl (by first | exact .inl rfl | exact .inr rfl) (d_box (dO_disp (dp_cons d_str (g_call F__law_draws (hr.mono (by first | decide | omega)) (da_cons (gv 0) (da_cons d_int da_nil))) (dp_cons d_str d_int dp_nil)) rfl rfl (by simp) (by decide)))) (dss_cons (ds_for PassesOwn.never rfl (di_range1 rfl g_range (da_cons d_int da_nil)) (gn 2 nd) (dss_cons (ds_asgG (d_tup (da_cons (d_bin od_add (d_b d_int) (d_b (g_call F__law_next (hr.mono (by first | decide | omega)) (da_cons (gv 1) (da_cons d_int da_nil))))) (da_cons (g_call F__law_next (hr.mono (by first | decide | omega)) (da_cons (gv 1) (da_cons d_int da_nil))) da_nil))) (dg_tup rfl (dgs_cons (gn 3 nd) (dgs_cons (gn 4 nd) dgs_nil)))) (dss_cons (ds_set nd rfl (by first | exact .inl rfl | exact .inr rfl) (d_callT cd_tuple rfl g_tuple boot_tuple (db_cons (d_b (d_o (dO_lc (own := [("k", 5)]) rfl nd (di_range1 rfl g_range (da_cons (g_call F__law_next (hr.mono (by first | decide | omega)) (da_cons (gv 1) (da_cons d_int da_nil))) da_nil)) (blkOk_by (by kernel_rfl)) (by simp) (fun _ _ _ _ _ => (gn 5 nd)) (fun _ _ _ _ _ => dts_nil) (fun _ _ _ _ _ => (g_call F__law_next (hr.mono (by first | decide | omega)) (da_cons (gv 1) (da_cons (d_bin od_add (gb 3) (d_b d_int)) da_nil))))))) db_nil))) (dss_cons (ds_set nd rfl (by first | exact .inl rfl | exact .inr rfl) (g_call F__law_all (hr.mono (by first | decide | omega)) (da_cons (d_o (dO_bin od_rep (d_b (d_o (dO_lst (da_cons (d_o (dO_lstRg1 rfl rfl g_list rfl g_range (d_bin od_add (gb 3) (d_b d_int)))) da_nil)))) (d_b (DL.d_len rfl g_len (gb 6))))) da_nil))) (dss_cons (ds_set nd rfl (by first | exact .inl rfl | exact .inr rfl) (d_callB (cd_min rfl (u200 hr)) rfl g_min boot_min (db_cons (d_b (d_o (dO_lc (own := [("row", 8)]) rfl nd (di_val (gv 7)) (blkOk_by (by kernel_rfl)) (by simp) (fun _ _ _ _ _ => (gn 8 nd)) (fun _ _ _ _ _ => dts_nil) (fun _ _ _ _ _ => (d_tup (da_cons (d_bin od_add (d_b (d_callB (cd_sum rfl) rfl g_sum boot_sum (db_cons (d_b (d_o (dO_lc (own := [("k", 5)]) rfl nd (di_range1 rfl g_range (da_cons (DL.d_len rfl g_len (gb 6)) da_nil)) (blkOk_by (by kernel_rfl)) (by simp) (fun _ _ _ _ _ => (gn 5 nd)) (fun _ _ _ _ _ => dts_nil) (fun _ _ _ _ _ => (d_callB cd_abs rfl g_abs boot_abs (db_cons (d_b (d_bin od_sub (d_b (d_ix (u65 hr) (gb 8) (gb 5))) (d_b (d_ix (u65 hr) (gb 6) (gb 5))))) db_nil)))))) db_nil))) (d_b (d_bin od_mul (gb 4) (d_b (g_call F__law_changes (hr.mono (by first | decide | omega)) (da_cons (gv 8) da_nil)))))) (da_cons (gv 8) da_nil))))))) db_nil))) (dss_cons (ds_if (dt_not (dt_val (g_call F__law_alike (hr.mono (by first | decide | omega)) (da_cons (g_call F_calm_levels (hr.mono (by first | decide | omega)) (da_cons (gv 6) (da_cons (gv 3) (da_cons (gv 4) da_nil)))) (da_cons (gv 9) da_nil))))) (dss_one (ds_ret d_bl)) dss_nil) (dss_cons (ds_set nd rfl (by first | exact .inl rfl | exact .inr rfl) (g_call F__law_next (hr.mono (by first | decide | omega)) (da_cons (gv 1) (da_cons d_int da_nil)))) (dss_cons (ds_set nd rfl (by first | exact .inl rfl | exact .inr rfl) (d_callT cd_tuple rfl g_tuple boot_tuple (db_cons (d_b (d_o (dO_lc (own := [("k", 5)]) rfl nd (di_range1 rfl g_range (da_cons (g_call F__law_next (hr.mono (by first | decide | omega)) (da_cons (gv 1) (da_cons d_int da_nil))) da_nil)) (blkOk_by (by kernel_rfl)) (by simp) (fun _ _ _ _ _ => (gn 5 nd)) (fun _ _ _ _ _ => dts_nil) (fun _ _ _ _ _ => (d_bin od_sub (d_b (g_call F__law_next (hr.mono (by first | decide | omega)) (da_cons (gv 1) (da_cons d_int da_nil)))) (d_b d_int)))))) db_nil))) (dss_cons (ds_set nd rfl (by first | exact .inl rfl | exact .inr rfl) (g_call F__law_all (hr.mono (by first | decide | omega)) (da_cons (d_o (dO_lc (own := [("level", 12)]) rfl nd (di_val (gv 11)) (blkOk_by (by kernel_rfl)) (by simp) (fun _ _ _ _ _ => (gn 12 nd)) (fun _ _ _ _ _ => dts_nil) (fun _ _ _ _ _ => (d_o (dO_lstRg2 rfl rfl g_list rfl g_range (d_bin od_sub (gb 12) (gb 10)) (d_bin od_add (d_b (d_bin od_add (gb 12) (gb 10))) (d_b d_int))))))) da_nil))) (dss_cons (ds_if (dt_not (dt_val (g_call F__law_alike (hr.mono (by first | decide | omega)) (da_cons (g_call F_calm_within (hr.mono (by first | decide | omega)) (da_cons (gv 11) (da_cons (gv 10) da_nil))) (da_cons (d_callB (cd_min rfl (u200 hr)) rfl g_min boot_min (db_cons (d_b (d_o (dO_lc (own := [("row", 8)]) rfl nd (di_val (gv 7)) (blkOk_by (by kernel_rfl)) (by simp) (fun _ _ _ _ _ => (gn 8 nd)) (fun _ _ _ _ _ => dts_nil) (fun _ _ _ _ _ => (d_tup (da_cons (g_call F__law_changes (hr.mono (by first | decide | omega)) (da_cons (gv 8) da_nil)) (da_cons (gv 8) da_nil))))))) db_nil)) da_nil))))) (dss_one (ds_ret d_bl)) dss_nil) (dss_cons (ds_asgG (d_tup (da_cons (d_callT cd_tuple rfl g_tuple boot_tuple (db_cons (d_b (d_o (dO_lc (own := [("k", 5)]) rfl nd (di_range1 rfl g_range (da_cons (g_call F__law_next (hr.mono (by first | decide | omega)) (da_cons (gv 1) (da_cons d_int da_nil))) da_nil)) (blkOk_by (by kernel_rfl)) (by simp) (fun _ _ _ _ _ => (gn 5 nd)) (fun _ _ _ _ _ => dts_nil) (fun _ _ _ _ _ => (g_call F__law_next (hr.mono (by first | decide | omega)) (da_cons (gv 1) (da_cons d_int da_nil))))))) db_nil)) (da_cons (d_bin od_add (d_b d_int) (d_b (g_call F__law_next (hr.mono (by first | decide | omega)) (da_cons (gv 1) (da_cons d_int da_nil))))) da_nil))) (dg_tup rfl (dgs_cons (gn 8 nd) (dgs_cons (gn 13 nd) dgs_nil)))) (dss_cons (ds_setLc (own := [("k", 5)]) rfl nd rfl rfl (sw_true rfl rfl rfl rfl) (di_range1 rfl g_range (da_cons (DL.d_len rfl g_len (gb 8)) da_nil)) (blkOk_by (by kernel_rfl)) (by simp) (fun _ _ _ _ _ => (gn 5 nd)) (fun _ _ _ _ _ => (dts_one (PW.pt (dw_and (dt_cmp (od_le (u65 hr)) (d_b (d_bin od_add (gb 5) (gb 13))) (d_b (DL.d_len rfl g_len (gb 8))) (nomark _)) (dw_and1 (dt_cmp (od_eq (u100 hr)) (d_b (d_o (dO_lc (own := [("j", 14)]) rfl nd (di_range2 rfl g_range (da_cons (gv 5) (da_cons (d_bin od_add (gb 5) (gb 13)) da_nil))) (blkOk_by (by kernel_rfl)) (by simp) (fun _ _ _ _ _ => (gn 14 nd)) (fun _ _ _ _ _ => (dts_one (dt_cmp (od_ne (u100 hr)) (d_b (d_ix (u65 hr) (gb 8) (gb 14))) (d_b (d_ix (u65 hr) (gb 8) (gb 5))) (nomark _)))) (fun _ _ _ _ _ => (gv 14))))) (d_b (d_o (dO_lst da_nil))) (nomark _))))))) (fun _ _ _ _ _ => (gv 5))) (dss_one (ds_if (PW.pt (dw_or (dt_not (dt_val (g_call F__law_alike (hr.mono (by first | decide | omega)) (da_cons (g_call F_changes_in (hr.mono (by first | decide | omega)) (da_cons (gv 8) da_nil)) (da_cons (g_call F__law_changes (hr.mono (by first | decide | omega)) (da_cons (gv 8) da_nil)) da_nil))))) (dw_or1 (dt_not (dt_val (g_call F__law_alike (hr.mono (by first | decide | omega)) (da_cons (g_call F_steady_from (hr.mono (by first | decide | omega)) (da_cons (gv 8) (da_cons (gv 13) da_nil))) (da_cons (d_if (dt_cmp (od_ne (u100 hr)) (gb 15) (d_b (d_o (dO_lst da_nil))) (nomark _)) (d_ix (u65 hr) (gb 15) (d_b d_int)) d_non) da_nil)))))))) (dss_one (ds_ret d_bl)) dss_nil)))))))))))))) (dss_one (ds_ret d_bl))))
end
def d_changes_in : He.DefD := ⟨("changes_in", none), "changes_in", "changes_in", defArgs st_changes_in, defBody st_changes_in, defScope st_changes_in, [], []⟩
def d_Calm_init : He.DefD := ⟨("Calm", some "__init__"), "__init__", "Calm.__init__", defArgs st_Calm_init, defBody st_Calm_init, defScope st_Calm_init, [], []⟩
def d_Calm_best : He.DefD := ⟨("Calm", some "best"), "best", "Calm.best", defArgs st_Calm_best, defBody st_Calm_best, defScope st_Calm_best, [], []⟩
def d_calm_levels : He.DefD := ⟨("calm_levels", none), "calm_levels", "calm_levels", defArgs st_calm_levels, defBody st_calm_levels, defScope st_calm_levels, [], []⟩
def d_Within_init : He.DefD := ⟨("Within", some "__init__"), "__init__", "Within.__init__", defArgs st_Within_init, defBody st_Within_init, defScope st_Within_init, [], []⟩
def d_Within_near_levels : He.DefD := ⟨("Within", some "near_levels"), "near_levels", "Within.near_levels", defArgs st_Within_near_levels, defBody st_Within_near_levels, defScope st_Within_near_levels, [], []⟩
def d_Within_best : He.DefD := ⟨("Within", some "best"), "best", "Within.best", defArgs st_Within_best, defBody st_Within_best, defScope st_Within_best, [], []⟩
def d_calm_within : He.DefD := ⟨("calm_within", none), "calm_within", "calm_within", defArgs st_calm_within, defBody st_calm_within, defScope st_calm_within, [], []⟩
def d_steady_from : He.DefD := ⟨("steady_from", none), "steady_from", "steady_from", defArgs st_steady_from, defBody st_steady_from, defScope st_steady_from, [], []⟩
def d__law_draws : He.DefD := ⟨("_law_draws", none), "_law_draws", "_law_draws", defArgs st__law_draws, defBody st__law_draws, defScope st__law_draws, [], []⟩
def d__law_next : He.DefD := ⟨("_law_next", none), "_law_next", "_law_next", defArgs st__law_next, defBody st__law_next, defScope st__law_next, [], []⟩
def d__law_pick : He.DefD := ⟨("_law_pick", none), "_law_pick", "_law_pick", defArgs st__law_pick, defBody st__law_pick, defScope st__law_pick, [], []⟩
def d__law_alike : He.DefD := ⟨("_law_alike", none), "_law_alike", "_law_alike", defArgs st__law_alike, defBody st__law_alike, defScope st__law_alike, [], []⟩
def d__law_all : He.DefD := ⟨("_law_all", none), "_law_all", "_law_all", defArgs st__law_all, defBody st__law_all, defScope st__law_all, [], []⟩
def d__law_changes : He.DefD := ⟨("_law_changes", none), "_law_changes", "_law_changes", defArgs st__law_changes, defBody st__law_changes, defScope st__law_changes, [], []⟩
def d_law : He.DefD := ⟨("law", none), "law", "law", defArgs st_law, defBody st_law, defScope st_law, [], []⟩
def fnL : List He.DefD := [d_changes_in, d_Calm_init, d_Calm_best, d_calm_levels, d_Within_init, d_Within_near_levels, d_Within_best, d_calm_within, d_steady_from, d__law_draws, d__law_next, d__law_pick, d__law_alike, d__law_all, d__law_changes, d_law]
def faL : List He.Fa := [.free "abs", .free "all", .free "bool", .free "int", .free "isinstance", .free "len", .free "list", .free "min", .free "range", .free "str", .free "sum", .free "tuple", .glo "Calm", .cls "Calm", .glo "Within", .cls "Within", .noat "Calm" "known", .noat "Calm" "most", .noat "Calm" "price", .noat "Calm" "series", .noat "Within" "known", .noat "Within" "series", .noat "Within" "slack", .glo "changes_in", .mkr "Calm", .meth "Calm" "best", .glo "calm_levels", .mkr "Within", .meth "Within" "near_levels", .meth "Within" "best", .glo "calm_within", .glo "steady_from", .glo "_law_draws", .glo "_law_next", .glo "_law_pick", .glo "_law_alike", .glo "_law_all", .glo "_law_changes", .glo "law"]
theorem facts {P : Program} {w : World} {K : PySem.W.Frag} {h : Heap} {mg : Str → Option Value} {f : Addr} (X : K.In h) (G : h.Ns mainGlobals mg) (hfa : mg ("law" : Str) = some (.ref f)) (c : He.SaysD faL fnL K) :
    ∃ fd : FuncData, (∀ (s : Shared) (v : Value), BindsTo s fd ⟨[v], []⟩ [("script", v)]) ∧ ∀ base : Heap, FnOk P w K mg base CX0 11 f fd ["script"] (spD w K mg 1 m_law) := by
  obtain ⟨fd_changes_in, D_changes_in⟩ := c.def_ 0 (d := d_changes_in) rfl
  obtain ⟨fd_Calm_init, D_Calm_init⟩ := c.def_ 1 (d := d_Calm_init) rfl
  obtain ⟨fd_Calm_best, D_Calm_best⟩ := c.def_ 2 (d := d_Calm_best) rfl
  obtain ⟨fd_calm_levels, D_calm_levels⟩ := c.def_ 3 (d := d_calm_levels) rfl
  obtain ⟨fd_Within_init, D_Within_init⟩ := c.def_ 4 (d := d_Within_init) rfl
  obtain ⟨fd_Within_near_levels, D_Within_near_levels⟩ := c.def_ 5 (d := d_Within_near_levels) rfl
  obtain ⟨fd_Within_best, D_Within_best⟩ := c.def_ 6 (d := d_Within_best) rfl
  obtain ⟨fd_calm_within, D_calm_within⟩ := c.def_ 7 (d := d_calm_within) rfl
  obtain ⟨fd_steady_from, D_steady_from⟩ := c.def_ 8 (d := d_steady_from) rfl
  obtain ⟨fd__law_draws, D__law_draws⟩ := c.def_ 9 (d := d__law_draws) rfl
  obtain ⟨fd__law_next, D__law_next⟩ := c.def_ 10 (d := d__law_next) rfl
  obtain ⟨fd__law_pick, D__law_pick⟩ := c.def_ 11 (d := d__law_pick) rfl
  obtain ⟨fd__law_alike, D__law_alike⟩ := c.def_ 12 (d := d__law_alike) rfl
  obtain ⟨fd__law_all, D__law_all⟩ := c.def_ 13 (d := d__law_all) rfl
  obtain ⟨fd__law_changes, D__law_changes⟩ := c.def_ 14 (d := d__law_changes) rfl
  obtain ⟨fd_law, D_law⟩ := c.def_ 15 (d := d_law) rfl
  have g_abs : mg "abs" = none := He.free_ok X G (c.fact 0 (f := .free "abs") rfl)
  have g_all : mg "all" = none := He.free_ok X G (c.fact 1 (f := .free "all") rfl)
  have g_bool : mg "bool" = none := He.free_ok X G (c.fact 2 (f := .free "bool") rfl)
  have g_int : mg "int" = none := He.free_ok X G (c.fact 3 (f := .free "int") rfl)
  have g_isinstance : mg "isinstance" = none := He.free_ok X G (c.fact 4 (f := .free "isinstance") rfl)
  have g_len : mg "len" = none := He.free_ok X G (c.fact 5 (f := .free "len") rfl)
  have g_list : mg "list" = none := He.free_ok X G (c.fact 6 (f := .free "list") rfl)
  have g_min : mg "min" = none := He.free_ok X G (c.fact 7 (f := .free "min") rfl)
  have g_range : mg "range" = none := He.free_ok X G (c.fact 8 (f := .free "range") rfl)
  have g_str : mg "str" = none := He.free_ok X G (c.fact 9 (f := .free "str") rfl)
  have g_sum : mg "sum" = none := He.free_ok X G (c.fact 10 (f := .free "sum") rfl)
  have g_tuple : mg "tuple" = none := He.free_ok X G (c.fact 11 (f := .free "tuple") rfl)
  have gc_Calm := He.glo_ok X G (c.fact 12 (f := .glo "Calm") rfl)
  have cc_Calm := He.cls_ok (c.fact 13 (f := .cls "Calm") rfl)
  have cl_Calm : ClsD K mg "Calm" := ⟨⟨_, gc_Calm, cc_Calm⟩⟩
  have gc_Within := He.glo_ok X G (c.fact 14 (f := .glo "Within") rfl)
  have cc_Within := He.cls_ok (c.fact 15 (f := .cls "Within") rfl)
  have cl_Within : ClsD K mg "Within" := ⟨⟨_, gc_Within, cc_Within⟩⟩
  have na_Calm_known : NoA K mg "Calm" "known" := fun z h => by
    have e := gc_Calm.symm.trans h
    cases e
    exact He.noat_ok (c.fact 16 (f := .noat "Calm" "known") rfl)
  have na_Calm_most : NoA K mg "Calm" "most" := fun z h => by
    have e := gc_Calm.symm.trans h
    cases e
    exact He.noat_ok (c.fact 17 (f := .noat "Calm" "most") rfl)
  have na_Calm_price : NoA K mg "Calm" "price" := fun z h => by
    have e := gc_Calm.symm.trans h
    cases e
    exact He.noat_ok (c.fact 18 (f := .noat "Calm" "price") rfl)
  have na_Calm_series : NoA K mg "Calm" "series" := fun z h => by
    have e := gc_Calm.symm.trans h
    cases e
    exact He.noat_ok (c.fact 19 (f := .noat "Calm" "series") rfl)
  have na_Within_known : NoA K mg "Within" "known" := fun z h => by
    have e := gc_Within.symm.trans h
    cases e
    exact He.noat_ok (c.fact 20 (f := .noat "Within" "known") rfl)
  have na_Within_series : NoA K mg "Within" "series" := fun z h => by
    have e := gc_Within.symm.trans h
    cases e
    exact He.noat_ok (c.fact 21 (f := .noat "Within" "series") rfl)
  have na_Within_slack : NoA K mg "Within" "slack" := fun z h => by
    have e := gc_Within.symm.trans h
    cases e
    exact He.noat_ok (c.fact 22 (f := .noat "Within" "slack") rfl)
  have F_changes_in : ∀ base : Heap, Fnd P w K mg base 1 "changes_in" 1 m_changes_in := fun base => ok_changes_in g_len g_range D_changes_in (He.glo_ok X G (c.fact 23 (f := .glo "changes_in") rfl))
  have K_Calm : ∀ base : Heap, Mkd P w K mg base 1 "Calm" 4 m_Calm_init := fun base => ok_Calm_init cl_Calm na_Calm_known na_Calm_most na_Calm_price na_Calm_series D_Calm_init gc_Calm (He.mkr_ok (c.fact 24 (f := .mkr "Calm") rfl))
  have M_Calm_best : ∀ base : Heap, Mnd P w K mg base 8 "Calm" "best" 3 (m_Calm_best 8) := fun base => ok_Calm_best g_abs g_len g_min g_range cl_Calm na_Calm_known na_Calm_most na_Calm_price na_Calm_series D_Calm_best gc_Calm cc_Calm (He.meth_ok (c.fact 25 (f := .meth "Calm" "best") rfl)) 8
  have F_calm_levels : ∀ base : Heap, Fnd P w K mg base 9 "calm_levels" 3 m_calm_levels := fun base => ok_calm_levels (M_Calm_best base) (K_Calm base) D_calm_levels (He.glo_ok X G (c.fact 26 (f := .glo "calm_levels") rfl))
  have K_Within : ∀ base : Heap, Mkd P w K mg base 1 "Within" 3 m_Within_init := fun base => ok_Within_init cl_Within na_Within_known na_Within_series na_Within_slack D_Within_init gc_Within (He.mkr_ok (c.fact 27 (f := .mkr "Within") rfl))
  have M_Within_near_levels : ∀ base : Heap, Mnd P w K mg base 1 "Within" "near_levels" 2 m_Within_near_levels := fun base => ok_Within_near_levels g_list g_range cl_Within na_Within_series na_Within_slack D_Within_near_levels gc_Within cc_Within (He.meth_ok (c.fact 28 (f := .meth "Within" "near_levels") rfl))
  have M_Within_best : ∀ base : Heap, Mnd P w K mg base 9 "Within" "best" 3 (m_Within_best 8) := fun base => ok_Within_best g_int g_len g_min cl_Within na_Within_known na_Within_series (M_Within_near_levels base) D_Within_best gc_Within cc_Within (He.meth_ok (c.fact 29 (f := .meth "Within" "best") rfl)) 8
  have F_calm_within : ∀ base : Heap, Fnd P w K mg base 10 "calm_within" 2 m_calm_within := fun base => ok_calm_within (M_Within_best base) (K_Within base) D_calm_within (He.glo_ok X G (c.fact 30 (f := .glo "calm_within") rfl))
  have F_steady_from : ∀ base : Heap, Fnd P w K mg base 1 "steady_from" 2 m_steady_from := fun base => ok_steady_from g_all g_len g_range D_steady_from (He.glo_ok X G (c.fact 31 (f := .glo "steady_from") rfl))
  have F__law_draws : ∀ base : Heap, Fnd P w K mg base 1 "_law_draws" 2 m_law_draws := fun base => ok__law_draws g_abs g_int g_len g_range D__law_draws (He.glo_ok X G (c.fact 32 (f := .glo "_law_draws") rfl))
  have F__law_next : ∀ base : Heap, Fnd P w K mg base 1 "_law_next" 2 m_law_next := fun base => ok__law_next g_int g_len D__law_next (He.glo_ok X G (c.fact 33 (f := .glo "_law_next") rfl))
  have F__law_pick : ∀ base : Heap, Fnd P w K mg base 2 "_law_pick" 2 m_law_pick := fun base => ok__law_pick g_len (F__law_next base) D__law_pick (He.glo_ok X G (c.fact 34 (f := .glo "_law_pick") rfl))
  have F__law_alike : ∀ base : Heap, Fnd P w K mg base 6 "_law_alike" 2 (m_law_alike 6) := fun base => ok__law_alike g_bool g_int g_isinstance g_len g_range g_str g_tuple D__law_alike (He.glo_ok X G (c.fact 35 (f := .glo "_law_alike") rfl)) 6
  have F__law_all : ∀ base : Heap, Fnd P w K mg base 1 "_law_all" 1 m_law_all := fun base => ok__law_all  D__law_all (He.glo_ok X G (c.fact 36 (f := .glo "_law_all") rfl))
  have F__law_changes : ∀ base : Heap, Fnd P w K mg base 1 "_law_changes" 1 m_law_changes := fun base => ok__law_changes g_len g_range D__law_changes (He.glo_ok X G (c.fact 37 (f := .glo "_law_changes") rfl))
  have gl := He.glo_ok X G (c.fact 38 (f := .glo "law") rfl)
  have e := hfa.symm.trans gl
  cases e
  refine ⟨fd_law, fun s v => (FunD.bindsA (ps := ["script"]) D_law fun _ _ _ _ _ _ us hl => match us, hl with | [_], _ => rfl) s [v] rfl, fun base => ok_law g_abs g_len g_list g_min g_range g_sum g_tuple (F_changes_in base) (F_calm_levels base) (F_calm_within base) (F_steady_from base) (F__law_draws base) (F__law_next base) (F__law_alike base) (F__law_all base) (F__law_changes base) D_law⟩
-- level 11
end K96
end

section
set_option Elab.async false
set_option linter.all false
set_option maxRecDepth 100000
set_option maxHeartbeats 0
namespace K96
open PySem PySem.Spec PyProof.Rows L2 DL
/-! the head: the top is run, the facts of the defs are read, the walk is joined -/
abbrev R : PySem.W.OpenRow := PySem.W.OpenLaw.row PySem.Challenge.rw_forewarned_k96_levels_that_are_calm
abbrev hk : PySem.W.Hook := He.hookD 4 faL fnL
def ob (s : PySem.W.SharedT) : He.AlD := He.obsDG 4 faL fnL (HandSHeadRun.getT s)
theorem ob_eq (s : PySem.W.SharedT) : ob s = hk.obs s.abs := He.obsDG_eq (HandSHeadRun.getT_eq s)
theorem run (w : World) : HandSHeadRun.RunEq R (PySem.W.view R.prog [14]) hk ob 3000 ["changes_in", "Calm", "calm_levels", "Within", "calm_within", "steady_from", "_law_draws", "_law_next", "_law_pick", "_law_alike", "_law_all", "_law_changes"] w := by
  intro os
  kernel_rfl
theorem lawEnd {w : World} {K : PySem.W.Frag} {mg : Str → Option Value} (law_true : ∀ ns : List Int, ns.length ≤ 63 → ∃ B', m_law [.fz (ns.map .int)] [] = some (.d (.bool true), B')) (H : Hp) (a : Addr) (ns : List Int) (hl : ns.length ≤ 63) (hO : Only H) (hS : SqL K H a (ns.map V.int)) :
    spD w K mg 1 m_law [.ref a] H (fun v _ => v = .bl true) fun _ _ _ => False := by
  obtain ⟨B', h⟩ := law_true ns hl
  refine ⟨⟨H, [], H⟩, [], [.fz (ns.map .int)], .d (.bool true), B', rfl, ⟨Sub.refl, rfl, List.nodup_nil, (fun _ h => nomatch h), fun n b x e _ => by simp at e⟩, .cons ⟨a, _, rfl, hS, ?_⟩ .nil, rfl, h, fun W' v _ _ r => ?_⟩
  · have : ∀ ns : List Int, Rps w K H (ns.map V.int) (ns.map .int) := by
      intro ns
      induction ns with
      | nil => exact .nil
      | cons n ns ih => exact .cons (.int n) ih
    exact this ns
  · cases (show Rp w K W'.R v (.bool true) from r)
    rfl
end K96
open PySem PySem.W PySem.Calls PyProof.Rows
theorem K96.holds (law_true : ∀ ns : List Int, ns.length ≤ 63 → ∃ B', K96.m_law [.fz (ns.map .int)] [] = some (.d (.bool true), B')) : PySem.Challenge.rw_forewarned_k96_levels_that_are_calm.Holds := by
  w_on; o_law
  refine HandSHeadRun.head_any (r := OpenLaw.row PySem.Challenge.rw_forewarned_k96_levels_that_are_calm) (q := view (OpenLaw.row PySem.Challenge.rw_forewarned_k96_levels_that_are_calm).prog [14]) (H := K96.hk) (ob := K96.ob) (M := 3000) (loose := ["changes_in", "Calm", "calm_levels", "Within", "calm_within", "steady_from", "_law_draws", "_law_next", "_law_pick", "_law_alike", "_law_all", "_law_changes"]) (d := HandSHeadRun.topDef (OpenLaw.row PySem.Challenge.rw_forewarned_k96_levels_that_are_calm).prog 14) (kwd := []) K96.ob_eq
    (by kernel_rfl) (fun s => by kernel_rfl) K96.run (by kernel_rfl) (by kernel_rfl) (by kernel_rfl) (by rfl) (by first | assumption | decide +kernel) (by decide +kernel) ⟨rfl, rfl, rfl, rfl, rfl, by decide +kernel⟩ ?hw ?hc
  case hw => w_witness2
  case hc =>
    refine L2.walk_ofE (l := PySem.Challenge.rw_forewarned_k96_levels_that_are_calm) (n := 63) (k := 11) (x := "script") (CX := L2.CX0) rfl (by decide) (by kernel_rfl) ⟨rfl, by decide, by decide⟩ ?F (fun _ _ _ _ z => z)
    intro w mg fa h Y G hmg0
    obtain ⟨K, KX, c⟩ := Y
    have hmg : mg ("law" : PySem.Str) = some (.ref fa) := by
      have e : (HandSHeadRun.topDef (OpenLaw.row PySem.Challenge.rw_forewarned_k96_levels_that_are_calm).prog 14).name = ("law" : PySem.Str) := by kernel_rfl
      rw [← e]
      exact hmg0
    obtain ⟨fd, hb, hF⟩ := K96.facts (P := (PySem.Challenge.rw_forewarned_k96_levels_that_are_calm).prog) (w := w) KX G hmg c
    exact ⟨K, fd, DL.spD w K mg 1 K96.m_law, KX, hb, fun H a ns hl hO hS => K96.lawEnd law_true H a ns hl hO hS, fun base _ _ => hF base⟩
end

section
set_option Elab.async false
set_option linter.all false
set_option maxRecDepth 100000
set_option autoImplicit false
/-! More for plain evaluation: comprehensions over coded items, loops that find, likeness. -/
namespace DL
open PySem PySem.Spec PyProof.Rows
theorem asInts_ints : ∀ ns : List Int, asInts (ns.map .int) = some ns
  | [] => rfl
  | n :: ns => by
    rw [List.map_cons]
    unfold asInts
    rw [asInts_ints ns]
    rfl
theorem asBools_bools : ∀ ns : List Bool, asBools (ns.map .bool) = some ns
  | [] => rfl
  | n :: ns => by
    rw [List.map_cons]
    unfold asBools
    rw [asBools_bools ns]
    rfl
theorem rngD0 (n : Nat) : rngD 0 n = (List.range n).map fun k : Nat => PyData.int k := by
  unfold rngD
  refine List.map_congr_left fun k _ => ?_
  rw [Int.zero_add]
theorem eqD_int (i j : Int) : eqD (.int i) (.int j) = some (.bool (decide (i = j))) := by
  have e : PyData.eqv (.int i) (.int j) = decide (i = j) := by
    simp [PyData.eqv]
    rw [Bool.eq_iff_iff]
    simp
  show orD eqP eqDict _ _ = _
  unfold orD eqP
  rw [if_pos (by rfl), e]
theorem neD_int (i j : Int) : neD (.int i) (.int j) = some (.bool (!decide (i = j))) := by
  have e : PyData.eqv (.int i) (.int j) = decide (i = j) := by
    simp [PyData.eqv]
    rw [Bool.eq_iff_iff]
    simp
  show orD neP neDict _ _ = _
  unfold orD neP
  rw [if_pos (by rfl), e]
theorem dOk_ints (ns : List Int) : dOk (.list (ns.map .int)) = true := by
  unfold dOk
  have h1 : PyData.plain (.list (ns.map .int)) = true := by
    simp only [PyData.plain]
    induction ns with
    | nil => rfl
    | cons n ns ih =>
      rw [List.map_cons]
      simp only [PyData.plainAll, PyData.plain, ih, Bool.and_self]
  have h2 : PyData.depth (.list (ns.map .int)) ≤ 64 := by
    simp only [PyData.depth, PySem.W.depth_ints]
    omega
  rw [h1, decide_eq_true h2]
  rfl
theorem eqv_list_nil (ds : List PyData) : PyData.eqv (.list ds) (.list []) = ds.isEmpty := by
  cases ds <;> simp [PyData.eqv, PyData.eqvAll]
theorem eqD_ints_nil (ns : List Int) : eqD (.list (ns.map .int)) (.list []) = some (.bool ns.isEmpty) := by
  show orD eqP eqDict _ _ = _
  unfold orD eqP
  rw [if_pos (by rw [dOk_ints]; rfl), eqv_list_nil]
  cases ns <;> rfl
theorem neD_ints_nil (ns : List Int) : neD (.list (ns.map .int)) (.list []) = some (.bool (!ns.isEmpty)) := by
  show orD neP neDict _ _ = _
  unfold orD neP
  rw [if_pos (by rw [dOk_ints]; rfl), eqv_list_nil]
  cases ns <;> rfl
theorem ret_ok {f : SE} {ρ : EnvD} {B B1 : Bs} {x : Vl} (h : f ρ B = some (x, B1)) : sRet f ρ B = some (.rt x, ρ, B1) := by
  unfold sRet
  rw [h]
  rfl
theorem and_t {f h : SE} {ρ : EnvD} {B B1 : Bs} (e : f ρ B = some (.d (.bool true), B1)) : eAnd f h ρ B = h ρ B1 := by
  unfold eAnd
  rw [e]
  rfl
theorem sor_f {f h : SB} {ρ : EnvD} {B B1 : Bs} (e : f ρ B = some (false, B1)) : sOr f h ρ B = h ρ B1 := by
  unfold sOr
  rw [e]
  rfl
theorem sor_t {f h : SB} {ρ : EnvD} {B B1 : Bs} (e : f ρ B = some (true, B1)) : sOr f h ρ B = some (true, B1) := by
  unfold sOr
  rw [e]
  rfl
theorem sand_t {f h : SB} {ρ : EnvD} {B B1 : Bs} (e : f ρ B = some (true, B1)) : sAnd f h ρ B = h ρ B1 := by
  unfold sAnd
  rw [e]
  rfl
theorem sand_f {f h : SB} {ρ : EnvD} {B B1 : Bs} (e : f ρ B = some (false, B1)) : sAnd f h ρ B = some (false, B1) := by
  unfold sAnd
  rw [e]
  rfl
theorem snot_ok {f : SB} {ρ : EnvD} {B B1 : Bs} {b : Bool} (e : f ρ B = some (b, B1)) : sNot f ρ B = some (!b, B1) := by
  unfold sNot
  rw [e]
  rfl
theorem eLc_ok {fi : SI} {g : SG} {t : SB} {e : SE} {vs : List Nat} {ρ : EnvD} {B B1 B2 : Bs} {ds ys : List PyData} (h1 : fi ρ B = some (ds, B1)) (h2 : ds.length < LIM) (h3 : lcGo g t e (wipeD ρ vs) ds B1 = some (ys, B2)) : eLc fi g t e vs ρ B = some (.d (.list ys), B2) := by
  unfold eLc
  rw [h1]
  simp only [Option.bind_some, if_pos h2, h3]
theorem lc_mapE {α : Type} (enc : α → PyData) {g : SG} {t : SB} {e : SE} {ρ0 : EnvD} {B : Bs} (p : α → Bool) (f : α → PyData) : ∀ (xs : List α),
    (∀ x, x ∈ xs → ∃ ρ1, g (enc x) ρ0 = some ρ1 ∧ t ρ1 B = some (p x, B) ∧ (p x = true → e ρ1 B = some (.d (f x), B))) → lcGo g t e ρ0 (xs.map enc) B = some ((xs.filter p).map f, B)
  | [], _ => rfl
  | x :: xs, hs => by
    obtain ⟨ρ1, h1, h2, h3⟩ := hs x List.mem_cons_self
    have ih := lc_mapE enc p f xs fun x' hx => hs x' (List.mem_cons_of_mem _ hx)
    rw [List.filter_cons, List.map_cons]
    cases hp : p x with
    | true =>
      rw [if_pos rfl, List.map_cons]
      rw [hp] at h2
      simp only [lcGo, h1, h2, h3 hp, Option.bind_some, if_true, unD, ih]
    | false =>
      rw [if_neg Bool.false_ne_true]
      rw [hp] at h2
      simp only [lcGo, h1, h2, Option.bind_some, Bool.false_eq_true, if_false, ih]
/-- .. with no test -/
theorem lc_all {α : Type} (enc : α → PyData) {g : SG} {e : SE} {ρ0 : EnvD} {B : Bs} (f : α → PyData) (xs : List α)
    (h : ∀ x, x ∈ xs → ∃ ρ1, g (enc x) ρ0 = some ρ1 ∧ e ρ1 B = some (.d (f x), B)) : lcGo g sYes e ρ0 (xs.map enc) B = some (xs.map f, B) := by
  have := lc_mapE enc (g := g) (t := sYes) (e := e) (ρ0 := ρ0) (B := B) (fun _ => true) f xs fun x hx => by
    obtain ⟨ρ1, h1, h2⟩ := h x hx
    exact ⟨ρ1, h1, rfl, fun _ => h2⟩
  rw [List.filter_eq_self.mpr fun _ _ => rfl] at this
  exact this
/-- a loop that returns at the first that fits -/
theorem for_find {α : Type} (enc : α → PyData) {g : SG} {b : SS} {B : Bs} (P : EnvD → Prop) (p : α → Bool) (res : α → Vl) : ∀ (xs : List α) (ρ : EnvD), P ρ →
    (∀ x, x ∈ xs → ∀ ρ, P ρ → ∃ ρ1, g (enc x) ρ = some ρ1 ∧ (p x = true → ∃ ρ2, b ρ1 B = some (.rt (res x), ρ2, B)) ∧ (p x = false → ∃ ρ2, b ρ1 B = some (.nx, ρ2, B) ∧ P ρ2)) →
    (∀ x, xs.find? p = some x → ∃ ρ', forGo g b (xs.map enc) ρ B = some (.rt (res x), ρ', B)) ∧ (xs.find? p = none → ∃ ρ', forGo g b (xs.map enc) ρ B = some (.nx, ρ', B) ∧ P ρ')
  | [], ρ, hP, _ => ⟨fun x h => (nomatch h), fun _ => ⟨ρ, rfl, hP⟩⟩
  | x :: xs, ρ, hP, hs => by
    obtain ⟨ρ1, h1, h2, h3⟩ := hs x List.mem_cons_self ρ hP
    rw [List.find?_cons]
    cases hp : p x with
    | true =>
      obtain ⟨ρ2, h4⟩ := h2 hp
      refine ⟨fun y hy => ?_, fun h => (nomatch h)⟩
      cases hy
      refine ⟨ρ2, ?_⟩
      rw [List.map_cons]
      simp only [forGo, h1, h4, Option.bind_some]
    | false =>
      obtain ⟨ρ2, h4, h5⟩ := h3 hp
      obtain ⟨i1, i2⟩ := for_find enc P p res xs ρ2 h5 fun y hy => hs y (List.mem_cons_of_mem _ hy)
      have e : forGo g b ((x :: xs).map enc) ρ B = forGo g b (xs.map enc) ρ2 B := by
        rw [List.map_cons]
        simp only [forGo, h1, h4, Option.bind_some]
      rw [e]
      exact ⟨i1, i2⟩
/-- items that are ints -/
theorem ints_of {Q : Int → Prop} : ∀ {ys : List PyData}, (∀ y ∈ ys, ∃ i : Int, y = .int i ∧ Q i) → ∃ ns : List Int, ys = ns.map .int ∧ ns.length = ys.length ∧ ∀ i ∈ ns, Q i
  | [], _ => ⟨[], rfl, rfl, fun _ h => nomatch h⟩
  | y :: ys, h => by
    obtain ⟨i, e, q⟩ := h y List.mem_cons_self
    obtain ⟨ns, e2, e3, q2⟩ := ints_of fun z hz => h z (List.mem_cons_of_mem _ hz)
    refine ⟨i :: ns, by rw [e, e2]; rfl, by rw [List.length_cons, List.length_cons, e3], fun j hj => ?_⟩
    rcases List.mem_cons.mp hj with e | hj
    · subst e; exact q
    · exact q2 j hj
theorem nx_bd (D : List Int) (p : Nat) (m : Int) (hm : 0 < m) : 0 ≤ nx D p m ∧ nx D p m < m := by
  unfold nx
  split
  · exact ⟨Int.fmod_nonneg_of_pos _ hm, Int.fmod_lt_of_pos _ hm⟩
  · omega
/-! ### likeness -/
def bAlike (rec : SF) : SS := (sSeq (sIf (sB (eIsa "tuple" (eBor 1))) (sSeq (sIf (sOr (sNot (sB (eIsa "tuple" (eBor 0)))) (sB (eBin neD (eLen (eBor 0)) (eLen (eBor 1))))) (sRet (eC (.bool false))) sNil) (sRet (eBin eqD (eLc (sRng rng1F (aCons (eLen (eBor 1)) aNil)) (gN 2) (sNot (sB (eFn rec (aCons (eIx (eBor 0) (eBor 2)) (aCons (eIx (eBor 1) (eBor 2)) aNil))))) (eVar 2) [2]) (eLst aNil)))) sNil) (sSeq (sIf (sB (eBin isP (eBor 1) (eC .none))) (sRet (eBin isP (eBor 0) (eC .none))) sNil) (sSeq (sIf (sB (eIsa "bool" (eBor 1))) (sRet (eAnd (eIsa "bool" (eBor 0)) (eBin eqD (eBor 0) (eBor 1)))) sNil) (sSeq (sIf (sB (eIsa "int" (eBor 1))) (sRet (eAnd (eIsa "int" (eBor 0)) (eAnd (eNot (eIsa "bool" (eBor 0))) (eBin eqD (eBor 0) (eBor 1))))) sNil) (sRet (eAnd (eIsa "str" (eBor 0)) (eBin eqD (eBor 0) (eBor 1))))))))
def lawAlike : Nat → SF
  | 0 => noF
  | n + 1 => funS 3 2 (bAlike (lawAlike n))
inductive Al : Nat → PyData → Prop
  | int {n : Nat} (i : Int) : Al (n + 1) (.int i)
  | none {n : Nat} : Al (n + 1) .none
  | str {n : Nat} (s : Str) : Al (n + 1) (.str s)
  | tup {n : Nat} {ds : List PyData} : ds.length < 1000000 → (∀ d ∈ ds, Al n d) → Al (n + 1) (.tuple ds)
theorem eqD_str (s : Str) : eqD (.str s) (.str s) = some (.bool true) := by
  show orD eqP eqDict _ _ = _
  unfold orD eqP
  rw [if_pos (by rfl)]
  simp [PyData.eqv]
theorem s_alike {n : Nat} {d : PyData} (a : Al n d) : ∀ B : Bs, lawAlike n [.d d, .d d] B = some (.d (.bool true), B) := by
  induction a with
  | @int n i =>
    intro B
    have e : eAnd (eIsa "int" (eBor 0)) (eAnd (eNot (eIsa "bool" (eBor 0))) (eBin eqD (eBor 0) (eBor 1))) [.sh (.d (.int i)), .sh (.d (.int i)), .un] B = some (.d (.bool true), B) := by
      refine (and_t rfl).trans ((and_t rfl).trans ((bin_ok (g := eqD) rfl rfl rfl rfl (eqD_int i i)).trans ?_))
      rw [decide_eq_true rfl]
    have r := ret_ok e
    exact fun_is (N := 3) (np := 2) rfl rfl ((seq_nx (if_f (f := sSeq (sIf (sOr (sNot (sB (eIsa "tuple" (eBor 0)))) (sB (eBin neD (eLen (eBor 0)) (eLen (eBor 1))))) (sRet (eC (.bool false))) sNil) _) (g := sNil) (show _ = some (false, B) from rfl))).trans ((seq_nx (if_f (g := sNil) (show _ = some (false, B) from rfl))).trans ((seq_nx (if_f (g := sNil) (show _ = some (false, B) from rfl))).trans (seq_rt ((if_t (show _ = some (true, B) from rfl)).trans r)))))
  | none =>
    intro B
    exact fun_is (N := 3) (np := 2) rfl rfl ((seq_nx (if_f (f := sSeq (sIf (sOr (sNot (sB (eIsa "tuple" (eBor 0)))) (sB (eBin neD (eLen (eBor 0)) (eLen (eBor 1))))) (sRet (eC (.bool false))) sNil) _) (g := sNil) (show _ = some (false, B) from rfl))).trans (seq_rt ((if_t (show _ = some (true, B) from rfl)).trans (ret_ok (x := Vl.d (PyData.bool true)) (B1 := B) rfl))))
  | @str n s =>
    intro B
    have e : eAnd (eIsa "str" (eBor 0)) (eBin eqD (eBor 0) (eBor 1)) [.sh (.d (.str s)), .sh (.d (.str s)), .un] B = some (.d (.bool true), B) := (and_t rfl).trans (bin_ok (g := eqD) rfl rfl rfl rfl (eqD_str s))
    have r := ret_ok e
    exact fun_is (N := 3) (np := 2) rfl rfl ((seq_nx (if_f (f := sSeq (sIf (sOr (sNot (sB (eIsa "tuple" (eBor 0)))) (sB (eBin neD (eLen (eBor 0)) (eLen (eBor 1))))) (sRet (eC (.bool false))) sNil) _) (g := sNil) (show _ = some (false, B) from rfl))).trans ((seq_nx (if_f (g := sNil) (show _ = some (false, B) from rfl))).trans ((seq_nx (if_f (g := sNil) (show _ = some (false, B) from rfl))).trans ((seq_nx (if_f (g := sNil) (show _ = some (false, B) from rfl))).trans r))))
  | @tup n ds hl hd ih =>
    intro B
    let ρ : EnvD := [.sh (.d (.tuple ds)), .sh (.d (.tuple ds)), .un]
    have t1 : sOr (sNot (sB (eIsa "tuple" (eBor 0)))) (sB (eBin neD (eLen (eBor 0)) (eLen (eBor 1)))) ρ B = some (false, B) := by
      refine (sor_f rfl).trans ((sB_ok (bin_ok (g := neD) (x := .d (.int ds.length)) (y := .d (.int ds.length)) rfl rfl rfl rfl (neD_int _ _))).trans ?_)
      rw [decide_eq_true rfl]
      rfl
    have lc : lcGo (gN 2) (sNot (sB (eFn (lawAlike n) (aCons (eIx (eBor 0) (eBor 2)) (aCons (eIx (eBor 1) (eBor 2)) aNil))))) (eVar 2) ρ (rngD 0 ds.length) B = some ([], B) := by
      rw [rngD0]
      have := lc_mapE (fun k : Nat => PyData.int k) (g := gN 2) (t := sNot (sB (eFn (lawAlike n) (aCons (eIx (eBor 0) (eBor 2)) (aCons (eIx (eBor 1) (eBor 2)) aNil))))) (e := eVar 2) (ρ0 := ρ) (B := B) (fun _ => false) (fun _ => .none) (List.range ds.length) fun k hk => by
        rw [List.mem_range] at hk
        refine ⟨_, rfl, ?_, fun h => nomatch h⟩
        have x0 : eIx (eBor 0) (eBor 2) [.sh (.d (.tuple ds)), .sh (.d (.tuple ds)), .sh (.d (.int k))] B = some (.d ds[k], B) := ix_ok rfl rfl rfl rfl (ixD_tuple _ k hk)
        have x1 : eIx (eBor 1) (eBor 2) [.sh (.d (.tuple ds)), .sh (.d (.tuple ds)), .sh (.d (.int k))] B = some (.d ds[k], B) := ix_ok rfl rfl rfl rfl (ixD_tuple _ k hk)
        have f : eFn (lawAlike n) (aCons (eIx (eBor 0) (eBor 2)) (aCons (eIx (eBor 1) (eBor 2)) aNil)) [.sh (.d (.tuple ds)), .sh (.d (.tuple ds)), .sh (.d (.int k))] B = some (.d (.bool true), B) := by
          unfold eFn
          rw [cons_ok x0 (cons_ok x1 (show aNil _ B = some ([], B) from rfl))]
          exact ih _ (List.getElem_mem hk) B
        exact snot_ok (sB_ok f)
      rw [this, show (List.range ds.length).filter (fun _ => false) = [] from List.filter_eq_nil_iff.mpr fun _ _ => Bool.false_ne_true]
      rfl
    have e : eBin eqD (eLc (sRng rng1F (aCons (eLen (eBor 1)) aNil)) (gN 2) (sNot (sB (eFn (lawAlike n) (aCons (eIx (eBor 0) (eBor 2)) (aCons (eIx (eBor 1) (eBor 2)) aNil))))) (eVar 2) [2]) (eLst aNil) ρ B = some (.d (.bool true), B) :=
      bin_ok (g := eqD) (x := .d (.list [])) (y := .d (.list [])) (eLc_ok (rng_run (n := ds.length) rfl (by omega)) (by rw [rngD_length]; have : LIM = 16777216 := rfl; omega) lc) rfl rfl rfl rfl
    exact fun_is (N := 3) (np := 2) rfl rfl (seq_rt ((if_t (show _ = some (true, B) from rfl)).trans ((seq_nx ((if_f (g := sNil) t1).trans rfl)).trans (ret_ok e))))
theorem al_row (n : Nat) (r : List Int) (h : r.length < 1000000) : Al (n + 2) (row r) := .tup (by rw [List.length_map]; exact h) fun d hd => by
  obtain ⟨i, _, rfl⟩ := List.mem_map.mp hd
  exact .int i
theorem al_encR (n : Nat) (x : CR) (h : x.2.length < 1000000) : Al (n + 3) (encR x) := .tup (by simp) fun d hd => by
  rcases List.mem_cons.mp hd with e | hd
  · subst e; exact .int _
  · rcases List.mem_cons.mp hd with e | hd
    · subst e; exact al_row n _ h
    · cases hd
end DL
end

section
set_option Elab.async false
set_option linter.all false
set_option maxRecDepth 100000
namespace K96
open PySem PySem.Spec PyProof.Rows DL
theorem orD_l {g h : PyData → PyData → Option PyData} {x y z : PyData} (e : g x y = some z) : orD g h x y = some z := by
  unfold orD
  rw [e]
theorem orD_r {g h : PyData → PyData → Option PyData} {x y z : PyData} (e0 : g x y = none) (e : h x y = some z) : orD g h x y = some z := by
  unfold orD
  rw [e0, e]
theorem eqD_int (i j : Int) : eqD (.int i) (.int j) = some (.bool (decide (i = j))) := by
  have e : PyData.eqv (.int i) (.int j) = decide (i = j) := by
    simp [PyData.eqv]
    rw [Bool.eq_iff_iff]
    simp
  refine orD_l ?_
  unfold eqP
  rw [if_pos (by rfl), e]
theorem neD_int (i j : Int) : neD (.int i) (.int j) = some (.bool (!decide (i = j))) := by
  have e : PyData.eqv (.int i) (.int j) = decide (i = j) := by
    simp [PyData.eqv]
    rw [Bool.eq_iff_iff]
    simp
  refine orD_l ?_
  unfold neP
  rw [if_pos (by rfl), e]
/-! ### the memo -/
def optD : Option Int → PyData
  | none => .none
  | some l => .int l
def keyD (h : Nat) (last : Option Int) : PyData := .tuple [.int h, optD last]
theorem eqv_keyD (h h' : Nat) (l l' : Option Int) : PyData.eqv (keyD h l) (keyD h' l') = decide (h = h' ∧ l = l') := by
  unfold keyD
  simp only [PyData.eqv, PyData.eqvAll]
  rw [Bool.eq_iff_iff]
  cases l <;> cases l' <;> simp [optD, PyData.eqv] <;> omega
theorem keyGood_keyD (h : Nat) (l : Option Int) : keyGood (keyD h l) = true := by
  cases l <;> rfl
section
variable (srs : List Int) (bst : List Int → Option Int → CR)
/-- what stands in the memo is right -/
def MemoOk (kvs : List (PyData × PyData)) : Prop := ∀ kv ∈ kvs, ∃ (h : Nat) (last : Option Int), kv = (keyD h last, encR (bst (srs.drop h) last))
variable {srs bst}
theorem MemoOk.nil : MemoOk srs bst [] := fun _ h => nomatch h
theorem MemoOk.kOk {kvs : List (PyData × PyData)} (m : MemoOk srs bst kvs) (h : Nat) (l : Option Int) : kOk kvs (keyD h l) = true := by
  unfold DL.kOk
  rw [keyGood_keyD, Bool.true_and]
  unfold sameKind
  rw [List.all_eq_true]
  intro kv hkv
  obtain ⟨h', l', rfl⟩ := m kv hkv
  rfl
theorem MemoOk.found {kvs : List (PyData × PyData)} (m : MemoOk srs bst kvs) {h : Nat} {l : Option Int} {v : PyData} (e : dFind kvs (keyD h l) = some v) : v = encR (bst (srs.drop h) l) := by
  unfold dFind at e
  rw [Option.map_eq_some_iff] at e
  obtain ⟨kv, h1, h2⟩ := e
  obtain ⟨h', l', e⟩ := m kv (List.mem_of_find?_eq_some h1)
  have := List.find?_some h1
  rw [e, eqv_keyD] at this
  obtain ⟨e1, e2⟩ := of_decide_eq_true this
  subst e1 e2
  rw [← h2, e]
theorem MemoOk.put {kvs : List (PyData × PyData)} (m : MemoOk srs bst kvs) (h : Nat) (l : Option Int) : MemoOk srs bst (dPut kvs (keyD h l) (encR (bst (srs.drop h) l))) := by
  intro kv hkv
  unfold dPut at hkv
  split at hkv
  · obtain ⟨kv0, h0, e⟩ := List.mem_map.mp hkv
    obtain ⟨h', l', e0⟩ := m kv0 h0
    split at e
    · rename_i q
      rw [e0, eqv_keyD] at q
      obtain ⟨e1, e2⟩ := of_decide_eq_true q
      subst e1 e2
      exact ⟨h', l', by rw [← e, e0]⟩
    · exact ⟨h', l', by rw [← e, e0]⟩
  · rcases List.mem_append.mp hkv with h0 | h0
    · exact m kv h0
    · have : kv = (keyD h l, encR (bst (srs.drop h) l)) := by simpa using h0
      exact ⟨h, l, this⟩
theorem put_len (kvs : List (PyData × PyData)) (k v : PyData) : (dPut kvs k v).length ≤ kvs.length + 1 := by
  unfold dPut
  split
  · rw [List.length_map]; omega
  · rw [List.length_append]; simp
theorem find_put (kvs : List (PyData × PyData)) (h : Nat) (l : Option Int) (v : PyData) : dFind (dPut kvs (keyD h l) v) (keyD h l) = some v := by
  have self : PyData.eqv (keyD h l) (keyD h l) = true := by rw [eqv_keyD]; simp
  unfold dPut
  split
  · rename_i hany
    unfold dFind
    induction kvs with
    | nil => simp at hany
    | cons kv kvs ih =>
      rw [List.map_cons]
      by_cases q : PyData.eqv kv.1 (keyD h l) = true
      · rw [if_pos q, List.find?_cons]
        simp only [q]
        rfl
      · rw [if_neg q, List.find?_cons]
        simp only [Bool.not_eq_true] at q
        simp only [q]
        rw [List.any_cons, q, Bool.false_or] at hany
        exact ih hany
  · rename_i hany
    unfold dFind
    have : (kvs ++ [(keyD h l, v)]).find? (fun kv => PyData.eqv kv.1 (keyD h l)) = some (keyD h l, v) := by
      rw [List.find?_append]
      have : kvs.find? (fun kv => PyData.eqv kv.1 (keyD h l)) = none := by
        rw [List.find?_eq_none]
        intro kv hkv q
        exact hany (List.any_eq_true.mpr ⟨kv, hkv, q⟩)
      rw [this]
      simp [self]
    rw [this]
    rfl
end
theorem tup2_ok {f g : SE} {ρ : EnvD} {B B1 B2 : Bs} {x y : PyData} (h1 : f ρ B = some (.d x, B1)) (h2 : g ρ B1 = some (.d y, B2)) : eTup (aCons f (aCons g aNil)) ρ B = some (.d (.tuple [x, y]), B2) := by
  unfold eTup
  rw [cons_ok h1 (cons_ok h2 (show aNil ρ B2 = some ([], B2) from rfl))]
  rfl
theorem fld_ok {C f : Str} {fo : SE} {ρ : EnvD} {B B1 : Bs} {n : Nat} {fs : List (Str × Vl)} {x : Vl} (h1 : fo ρ B = some (.bx n, B1)) (h2 : B1[n]? = some (.ins C fs)) (h3 : fs.lookup f = some x) : eFld C f fo ρ B = some (x, B1) := by
  unfold eFld
  rw [h1]
  simp only [Option.bind_some, insOf, h2, if_pos, h3]
/-! ### Calm -/
section
variable (b0 : Bx) (srs : List Int) (most : Nat) (price : Int)
def calmIns : Bx := .ins "Calm" [("series", .d (row srs)), ("most", .d (.int most)), ("price", .d (.int price)), ("known", .bx 2)]
def B3 (kvs : List (PyData × PyData)) : Bs := [b0, calmIns srs most price, .val (.dict kvs)]
def chg (last : Option Int) (l : Int) : Int := match last with
  | none => 0
  | some l' => if l' = l then 0 else price
def absI (i : Int) : Int := if i < 0 then -i else i
def ocC (x : Int) (last : Option Int) (l : Int) : Int := absI (x - l) + chg price last l
def lvC (_ : Int) : List Int := (List.range (most + 1)).map fun k : Nat => (k : Int)
abbrev bC : List Int → Option Int → CR := bestG (lvC most) (ocC price)
/-- the steps of the loop's body -/
theorem own_ok (h : Nat) (hh : h < srs.length) (last : Option Int) (l : Int) (s3 s5 s6 : Sl) (kvs : List (PyData × PyData)) :
    eBin addD (eCall absD (aCons (eBin subD (eIx (eFld "Calm" "series" (eBor 0)) (eBor 1)) (eBor 4)) aNil)) (eIf (sAnd (sB (eBin isNotP (eBor 2) (eC .none))) (sB (eBin neD (eBor 2) (eBor 4)))) (eFld "Calm" "price" (eBor 0)) (eC (.int 0)))
      [.sh (.bx 1), .sh (.d (.int h)), .sh (.d (optD last)), s3, .sh (.d (.int l)), s5, s6] (B3 b0 srs most price kvs) = some (.d (.int (ocC price srs[h] last l)), B3 b0 srs most price kvs) := by
  have e1 : eFld "Calm" "series" (eBor 0) [.sh (.bx 1), .sh (.d (.int h)), .sh (.d (optD last)), s3, .sh (.d (.int l)), s5, s6] (B3 b0 srs most price kvs) = some (.d (row srs), B3 b0 srs most price kvs) := fld_ok rfl rfl rfl
  have e2 : ixD (row srs) (.int h) = some (.int srs[h]) := by
    show ixD (.tuple _) _ = _
    rw [ixD_tuple _ h (by rw [List.length_map]; exact hh), List.getElem_map]
  have e3 : eCall absD (aCons (eBin subD (eIx (eFld "Calm" "series" (eBor 0)) (eBor 1)) (eBor 4)) aNil) [.sh (.bx 1), .sh (.d (.int h)), .sh (.d (optD last)), s3, .sh (.d (.int l)), s5, s6] (B3 b0 srs most price kvs) = some (.d (.int (absI (srs[h] - l))), B3 b0 srs most price kvs) :=
    call_ok (cons_ok (bin_ok (ix_ok e1 rfl rfl rfl e2) rfl rfl rfl rfl) rfl) rfl rfl
  have e4 : eIf (sAnd (sB (eBin isNotP (eBor 2) (eC .none))) (sB (eBin neD (eBor 2) (eBor 4)))) (eFld "Calm" "price" (eBor 0)) (eC (.int 0)) [.sh (.bx 1), .sh (.d (.int h)), .sh (.d (optD last)), s3, .sh (.d (.int l)), s5, s6] (B3 b0 srs most price kvs) = some (.d (.int (chg price last l)), B3 b0 srs most price kvs) := by
    cases last with
    | none => rfl
    | some l' =>
      have t : sB (eBin neD (eBor 2) (eBor 4)) [.sh (.bx 1), .sh (.d (.int h)), .sh (.d (optD (some l'))), s3, .sh (.d (.int l)), s5, s6] (B3 b0 srs most price kvs) = some (!decide (l' = l), B3 b0 srs most price kvs) := sB_ok (bin_ok rfl rfl rfl rfl (neD_int _ _))
      have t0 : sB (eBin isNotP (eBor 2) (eC .none)) [.sh (.bx 1), .sh (.d (.int h)), .sh (.d (optD (some l'))), s3, .sh (.d (.int l)), s5, s6] (B3 b0 srs most price kvs) = some (true, B3 b0 srs most price kvs) := rfl
      have t1 : sAnd (sB (eBin isNotP (eBor 2) (eC .none))) (sB (eBin neD (eBor 2) (eBor 4))) [.sh (.bx 1), .sh (.d (.int h)), .sh (.d (optD (some l'))), s3, .sh (.d (.int l)), s5, s6] (B3 b0 srs most price kvs) = some (!decide (l' = l), B3 b0 srs most price kvs) := by
        unfold sAnd
        rw [t0]
        simp only [Option.bind_some, if_true]
        exact t
      unfold eIf
      rw [t1]
      by_cases q : l' = l
      · subst q
        simp [chg]
        rfl
      · simp [chg, q]
        rfl
  exact bin_ok e3 e4 rfl rfl rfl

theorem rngD_intd {n j : Nat} {d : PyData} (h : (rngD 0 n)[j]? = some d) : j < n ∧ d = .int (j : Int) := rngD_d h
theorem notIn_memo {srs' : List Int} {bst : List Int → Option Int → CR} {kvs : List (PyData × PyData)} (m : MemoOk srs' bst kvs) (h : Nat) (l : Option Int) : notInD (keyD h l) (.dict kvs) = some (.bool (!(dFind kvs (keyD h l)).isSome)) := by
  refine orD_r rfl (orD_l ?_)
  show (if kOk kvs (keyD h l) = true then some (PyData.bool (!(dFind kvs (keyD h l)).isSome)) else none) = _
  rw [if_pos (m.kOk h l)]
theorem ix_memo {srs' : List Int} {bst : List Int → Option Int → CR} {kvs : List (PyData × PyData)} (m : MemoOk srs' bst kvs) (h : Nat) (l : Option Int) {v : PyData} (e : dFind kvs (keyD h l) = some v) : ixD (.dict kvs) (keyD h l) = some v := by
  show (if kOk kvs (keyD h l) = true then dFind kvs (keyD h l) else none) = _
  rw [if_pos (m.kOk h l), e]
/-- what is asked of the deeper call -/
def BestOk (rec : SF) (h : Nat) (T : Nat) : Prop := ∀ (last : Option Int) (kvs : List (PyData × PyData)), MemoOk srs (bC most price) kvs → kvs.length + T < LIM →
  ∃ kvs', rec [.bx 1, .d (.int h), .d (optD last)] (B3 b0 srs most price kvs) = some (.d (encR (bC most price (srs.drop h) last)), B3 b0 srs most price kvs') ∧ MemoOk srs (bC most price) kvs' ∧ kvs'.length ≤ kvs.length + T
theorem best_end (rec : SF) : ∀ (last : Option Int) (kvs : List (PyData × PyData)), funS 7 3 (b_Calm_best rec) [.bx 1, .d (.int srs.length), .d (optD last)] (B3 b0 srs most price kvs) = some (.d (encR (bC most price [] last)), B3 b0 srs most price kvs) := by
  intro last kvs
  have e1 : eFld "Calm" "series" (eBor 0) [.sh (.bx 1), .sh (.d (.int srs.length)), .sh (.d (optD last)), .un, .un, .un, .un] (B3 b0 srs most price kvs) = some (.d (row srs), B3 b0 srs most price kvs) := fld_ok rfl rfl rfl
  have e2 : eLen (eFld "Calm" "series" (eBor 0)) [.sh (.bx 1), .sh (.d (.int srs.length)), .sh (.d (optD last)), .un, .un, .un, .un] (B3 b0 srs most price kvs) = some (.d (.int srs.length), B3 b0 srs most price kvs) := by
    unfold eLen
    rw [e1]
    show some (Vl.d (.int ((srs.map PyData.int).length : Int)), _) = _
    rw [List.length_map]
  have t : sB (eBin eqD (eBor 1) (eLen (eFld "Calm" "series" (eBor 0)))) [.sh (.bx 1), .sh (.d (.int srs.length)), .sh (.d (optD last)), .un, .un, .un, .un] (B3 b0 srs most price kvs) = some (true, B3 b0 srs most price kvs) := by
    have := sB_ok (bin_ok (g := eqD) (f := eBor 1) rfl e2 rfl rfl (eqD_int _ _))
    rw [decide_eq_true rfl] at this
    exact this
  exact fun_is rfl rfl ((seq_rt (r := .d (encR (bC most price [] last))) ((if_t t).trans rfl)))
theorem methI_ok {C m : Str} {sf : SF} {fo : SE} {fs : SA} {ρ : EnvD} {B B1 B2 : Bs} {n : Nat} {fl : List (Str × Vl)} {xs : List Vl} {r : Vl × Bs} (h1 : fo ρ B = some (.bx n, B1)) (h2 : B1[n]? = some (.ins C fl)) (h3 : fl.lookup m = none) (h4 : fs ρ B1 = some (xs, B2)) (h5 : sf (.bx n :: xs) B2 = some r) : eMethI C m sf fo fs ρ B = some r := by
  unfold eMethI
  rw [h1]
  simp only [Option.bind_some, insOf, h2, if_pos, h3, Option.isNone_none, h4, h5]
theorem ret_ok {f : SE} {ρ : EnvD} {B B1 : Bs} {x : Vl} (h : f ρ B = some (x, B1)) : sRet f ρ B = some (.rt x, ρ, B1) := by
  unfold sRet
  rw [h]
  rfl
theorem putB_ok {fo fi fv : SE} {ρ : EnvD} {B B1 B2 B3 : Bs} {n : Nat} {x k d z : PyData} {y : Vl} (h1 : fv ρ B = some (.d x, B1)) (h2 : fo ρ B1 = some (.bx n, B2)) (h3 : fi ρ B2 = some (y, B3)) (h4 : B3[n]? = some (.val d)) (h5 : deref B3 y = some k) (h6 : putD d k x = some z) : sPutB fo fi fv ρ B = some (.nx, ρ, B3.set n (.val z)) := by
  unfold sPutB
  rw [h1]
  simp only [Option.bind_some, h2, h3, h4, h5, unD, h6]
theorem bestG_len (lv : Int → List Int) (oc : Int → Option Int → Int → Int) : ∀ (xs : List Int) (last : Option Int), (bestG lv oc xs last).2.length ≤ xs.length
  | [], _ => Nat.le_refl _
  | x :: xs, last => by
    have e : bestG lv oc (x :: xs) last = leastOf ((lv x).map fun l => (oc x last l + (bestG lv oc xs (some l)).1, l :: (bestG lv oc xs (some l)).2)) := rfl
    by_cases hn : ((lv x).map fun l => (oc x last l + (bestG lv oc xs (some l)).1, l :: (bestG lv oc xs (some l)).2)) = []
    · rw [e, hn]
      exact Nat.zero_le _
    · have := (leastOf_ok hn).1
      rw [← e] at this
      obtain ⟨l, _, el⟩ := List.mem_map.mp this
      rw [← el]
      exact Nat.succ_le_succ (bestG_len lv oc xs (some l))
theorem addD_row (l : Int) (r : List Int) (h : r.length ≤ 1000) : addD (.tuple [.int l]) (row r) = some (row (l :: r)) := by
  show (if [PyData.int l].length + (r.map PyData.int).length ≤ LIM then some (PyData.tuple ([.int l] ++ r.map PyData.int)) else none) = _
  rw [if_pos (by rw [List.length_map]; have : LIM = 16777216 := rfl; simp; omega)]
  rfl
theorem min_leastOf {L : List CR} (h : L ≠ []) : minF [.list (L.map encR)] = some (encR (leastOf L)) := by
  cases L with
  | nil => exact absurd rfl h
  | cons c cs => exact min_encR c cs
theorem put_memo {srs' : List Int} {bst : List Int → Option Int → CR} {kvs : List (PyData × PyData)} (m : MemoOk srs' bst kvs) (h : Nat) (l : Option Int) (v : PyData) (hl : kvs.length < LIM) : putD (.dict kvs) (keyD h l) v = some (.dict (dPut kvs (keyD h l) v)) := by
  show (if (kOk kvs (keyD h l) && decide (kvs.length < LIM)) = true then some (PyData.dict (dPut kvs (keyD h l) v)) else none) = _
  rw [if_pos (by rw [m.kOk h l, decide_eq_true hl]; rfl)]
abbrev bodyC (rec : SF) : SS := (sSeq (sSet 5 (eMethI "Calm" "best" rec (eBor 0) (aCons (eBin addD (eBor 1) (eC (.int 1))) (aCons (eVar 4) aNil)))) (sSeq (sSet 6 (eBin addD (eCall absD (aCons (eBin subD (eIx (eFld "Calm" "series" (eBor 0)) (eBor 1)) (eBor 4)) aNil)) (eIf (sAnd (sB (eBin isNotP (eBor 2) (eC .none))) (sB (eBin neD (eBor 2) (eBor 4)))) (eFld "Calm" "price" (eBor 0)) (eC (.int 0))))) (sApp 3 (eTup (aCons (eBin addD (eBor 6) (eIx (eBor 5) (eC (.int 0)))) (aCons (eBin addD (eTup (aCons (eVar 4) aNil)) (eIx (eBor 5) (eC (.int 1)))) aNil))))))
theorem best_step (hmost : most ≤ 100) (hsrs : srs.length ≤ 100) (rec : SF) (h : Nat) (hh : h < srs.length) (T : Nat) (ih : BestOk b0 srs most price rec (h + 1) T) : BestOk b0 srs most price (funS 7 3 (b_Calm_best rec)) h ((most + 1) * T + 1) := by
  intro last kvs mo hlim
  generalize hx : srs[h] = x
  have hdrop : srs.drop h = x :: srs.drop (h + 1) := by rw [← hx]; exact List.drop_eq_getElem_cons hh
  have e1 : ∀ (ρ : EnvD) (s3 s4 s5 s6 : Sl) (kvs : List (PyData × PyData)), ρ = [.sh (.bx 1), .sh (.d (.int h)), .sh (.d (optD last)), s3, s4, s5, s6] → eFld "Calm" "known" (eBor 0) ρ (B3 b0 srs most price kvs) = some (.bx 2, B3 b0 srs most price kvs) := fun ρ s3 s4 s5 s6 kvs e => by subst e; exact fld_ok rfl rfl rfl
  have f1 : eFld "Calm" "series" (eBor 0) [.sh (.bx 1), .sh (.d (.int h)), .sh (.d (optD last)), .un, .un, .un, .un] (B3 b0 srs most price kvs) = some (.d (row srs), B3 b0 srs most price kvs) := fld_ok rfl rfl rfl
  have f2 : eLen (eFld "Calm" "series" (eBor 0)) [.sh (.bx 1), .sh (.d (.int h)), .sh (.d (optD last)), .un, .un, .un, .un] (B3 b0 srs most price kvs) = some (.d (.int srs.length), B3 b0 srs most price kvs) := by
    unfold eLen
    rw [f1]
    show some (Vl.d (.int ((srs.map PyData.int).length : Int)), _) = _
    rw [List.length_map]
  have t : sB (eBin eqD (eBor 1) (eLen (eFld "Calm" "series" (eBor 0)))) [.sh (.bx 1), .sh (.d (.int h)), .sh (.d (optD last)), .un, .un, .un, .un] (B3 b0 srs most price kvs) = some (false, B3 b0 srs most price kvs) := by
    have := sB_ok (bin_ok (g := eqD) (f := eBor 1) rfl f2 rfl rfl (eqD_int _ _))
    rw [decide_eq_false (by omega)] at this
    exact this
  have s1 := (if_f (f := sRet (eTup (aCons (eC (.int 0)) (aCons (eTup aNil) aNil)))) (g := sNil) t).trans (show sNil _ _ = some (.nx, [.sh (.bx 1), .sh (.d (.int h)), .sh (.d (optD last)), .un, .un, .un, .un], B3 b0 srs most price kvs) from rfl)
  have kk : ∀ (s3 s4 s5 s6 : Sl) (kvs : List (PyData × PyData)), eTup (aCons (eVar 1) (aCons (eVar 2) aNil)) [.sh (.bx 1), .sh (.d (.int h)), .sh (.d (optD last)), s3, s4, s5, s6] (B3 b0 srs most price kvs) = some (.d (keyD h last), B3 b0 srs most price kvs) := fun _ _ _ _ _ => tup2_ok rfl rfl
  have t2 := sB_ok (bin_ok (g := notInD) (kk .un .un .un .un kvs) (e1 _ .un .un .un .un kvs rfl) rfl rfl (notIn_memo mo h last))
  -- the end: what stands in the memo is given
  have fin : ∀ (s3 s4 s5 s6 : Sl) (kvs : List (PyData × PyData)) (v : PyData), MemoOk srs (bC most price) kvs → dFind kvs (keyD h last) = some v →
      sRet (eIx (eFld "Calm" "known" (eBor 0)) (eTup (aCons (eVar 1) (aCons (eVar 2) aNil)))) [.sh (.bx 1), .sh (.d (.int h)), .sh (.d (optD last)), s3, s4, s5, s6] (B3 b0 srs most price kvs) = some (.rt (.d v), [.sh (.bx 1), .sh (.d (.int h)), .sh (.d (optD last)), s3, s4, s5, s6], B3 b0 srs most price kvs) := fun s3 s4 s5 s6 kvs v m e => by
    have := ix_ok (e1 _ s3 s4 s5 s6 kvs rfl) (kk s3 s4 s5 s6 kvs) rfl rfl (ix_memo m h last e)
    unfold sRet
    rw [this]
    rfl
  cases hf : dFind kvs (keyD h last) with
  | some v =>
    rw [hf] at t2
    refine ⟨kvs, ?_, mo, by omega⟩
    rw [← mo.found hf]
    exact fun_is rfl rfl ((seq_nx s1).trans ((seq_nx ((if_f (g := sNil) t2).trans (show sNil _ _ = some (.nx, [.sh (.bx 1), .sh (.d (.int h)), .sh (.d (optD last)), .un, .un, .un, .un], B3 b0 srs most price kvs) from rfl))).trans (fin _ _ _ _ kvs v mo hf)))
  | none =>
    rw [hf] at t2
    let cr : Int → CR := fun l => (ocC price x last l + (bC most price (srs.drop (h + 1)) (some l)).1, l :: (bC most price (srs.drop (h + 1)) (some l)).2)
    have mulle : ∀ j, j ≤ most + 1 → j * T ≤ (most + 1) * T := fun j hj => Nat.mul_le_mul_right _ hj
    have hlen : (lvC most x).length = most + 1 := by unfold lvC; rw [List.length_map, List.length_range]
    have bex : bC most price (x :: srs.drop (h + 1)) last = leastOf ((lvC most x).map cr) := rfl
    -- the loop over the levels
    obtain ⟨ρ', B', hrun, kvs', s4, s5, s6, rfl, mo', hl', rfl⟩ := for_ok (g := gN 4) (b := bodyC rec)
      (fun i ρ B' => ∃ (kvs' : List (PyData × PyData)) (s4 s5 s6 : Sl), B' = B3 b0 srs most price kvs' ∧ MemoOk srs (bC most price) kvs' ∧ kvs'.length ≤ kvs.length + i * T ∧
        ρ = [.sh (.bx 1), .sh (.d (.int h)), .sh (.d (optD last)), .ow (.list ((((lvC most x).take i).map cr).map encR)), s4, s5, s6])
      (rngD 0 (most + 1)) 0 [.sh (.bx 1), .sh (.d (.int h)), .sh (.d (optD last)), .ow (.list []), .un, .un, .un] (B3 b0 srs most price kvs) ⟨kvs, .un, .un, .un, rfl, mo, by omega, rfl⟩ (by
        rintro j d ρ B' hd ⟨kvs', s4, s5, s6, rfl, mo', hl', rfl⟩
        obtain ⟨hj, rfl⟩ := rngD_d hd
        rw [Nat.zero_add] at hl' ⊢
        have q1 := mulle (j + 1) (by omega)
        rw [Nat.add_mul, Nat.one_mul] at q1
        obtain ⟨kvs2, hrec, mo2, hl2⟩ := ih (some (j : Int)) kvs' mo' (by omega)
        have hget : (lvC most x)[j]? = some (j : Int) := by
          unfold lvC
          rw [List.getElem?_map, List.getElem?_range hj]
          rfl
        have r1 := set_ok (i := 5) (methI_ok (ρ := [.sh (.bx 1), .sh (.d (.int h)), .sh (.d (optD last)), .ow (.list ((((lvC most x).take j).map cr).map encR)), .sh (.d (.int j)), s5, s6]) (C := "Calm") (m := "best") (fo := eBor 0) (fs := aCons (eBin addD (eBor 1) (eC (.int 1))) (aCons (eVar 4) aNil)) (B := B3 b0 srs most price kvs') rfl rfl rfl rfl hrec) (show 5 < 7 by omega)
        have r2 := set_ok (i := 6) (own_ok b0 srs most price h hh last (j : Int) (.ow (.list ((((lvC most x).take j).map cr).map encR))) (.sh (.d (encR (bC most price (srs.drop (h + 1)) (some (j : Int)))))) s6 kvs2) (show 6 < 7 by omega)
        rw [hx] at r2
        have r3 := app_ok (i := 3) (ρ := [.sh (.bx 1), .sh (.d (.int h)), .sh (.d (optD last)), .ow (.list ((((lvC most x).take j).map cr).map encR)), .sh (.d (.int j)), .sh (.d (encR (bC most price (srs.drop (h + 1)) (some (j : Int))))), .sh (.d (.int (ocC price x last j)))]) (B := B3 b0 srs most price kvs2) (f := eTup (aCons (eBin addD (eBor 6) (eIx (eBor 5) (eC (.int 0)))) (aCons (eBin addD (eTup (aCons (eVar 4) aNil)) (eIx (eBor 5) (eC (.int 1)))) aNil))) (x := encR (cr j)) (tup2_ok rfl (bin_ok (g := addD) (x := .d (.tuple [.int (j : Int)])) (y := .d (row (bC most price (srs.drop (h + 1)) (some (j : Int))).2)) rfl rfl rfl rfl (addD_row _ _ (Nat.le_trans (bestG_len (lvC most) (ocC price) (srs.drop (h + 1)) (some (j : Int))) (by rw [List.length_drop]; omega))))) rfl (by rw [List.length_map, List.length_map, List.length_take, hlen]; have : LIM = 16777216 := rfl; omega)
        refine ⟨_, _, _, rfl, (seq_nx r1).trans ((seq_nx r2).trans r3), kvs2, .sh (.d (.int (j : Int))), .sh (.d (encR (bC most price (srs.drop (h + 1)) (some (j : Int))))), .sh (.d (.int (ocC price x last j))), rfl, mo2, ?_, ?_⟩
        · rw [Nat.add_mul, Nat.one_mul]
          omega
        · have le : (((lvC most x).take (j + 1)).map cr).map encR = (((lvC most x).take j).map cr).map encR ++ [encR (cr j)] := by
            rw [List.take_add_one, hget, List.map_append, List.map_append]
            rfl
          rw [le]
          rfl)
    rw [Nat.zero_add, show (rngD 0 (most + 1)).length = most + 1 by simp [rngD]] at hl' hrun
    rw [show (lvC most x).take (most + 1) = lvC most x from List.take_of_length_le (by rw [hlen]; exact Nat.le_refl _)] at hrun
    have hne : (lvC most x).map cr ≠ [] := by
      intro e
      have := congrArg List.length e
      rw [List.length_map, hlen] at this
      simp at this
    have pb := putB_ok (ρ := [.sh (.bx 1), .sh (.d (.int h)), .sh (.d (optD last)), .ow (.list (((lvC most x).map cr).map encR)), s4, s5, s6]) (B := B3 b0 srs most price kvs') (fv := eCall minF (aCons (eBor 3) aNil)) (call_ok rfl rfl (min_leastOf hne)) (e1 _ _ _ _ _ _ rfl) (kk _ _ _ _ _) rfl rfl (put_memo mo' h last (encR (leastOf ((lvC most x).map cr))) (by omega))
    rw [← bex, ← hdrop] at pb
    refine ⟨dPut kvs' (keyD h last) (encR (bC most price (srs.drop h) last)), ?_, mo'.put h last, by have := put_len kvs' (keyD h last) (encR (bC most price (srs.drop h) last)); omega⟩
    have frun := (for_run (g := gN 4) (b := bodyC rec) (ρ := [.sh (.bx 1), .sh (.d (.int h)), .sh (.d (optD last)), .ow (.list []), .un, .un, .un]) (rng_run (n := most + 1) (fs := aCons (eBin addD (eFld "Calm" "most" (eBor 0)) (eC (.int 1))) aNil) (B := B3 b0 srs most price kvs) (B1 := B3 b0 srs most price kvs) rfl (by omega))).trans hrun
    exact fun_is rfl rfl ((seq_nx s1).trans ((seq_nx ((if_t t2).trans ((seq_nx (setO_ok (ρ := [.sh (.bx 1), .sh (.d (.int h)), .sh (.d (optD last)), .un, .un, .un, .un]) (f := eLst aNil) (d := .list []) (i := 3) rfl (show 3 < 7 by omega))).trans ((seq_nx frun).trans pb)))).trans (fin _ s4 s5 s6 _ _ (mo'.put h last) (find_put _ _ _ _))))
def tt (m : Nat) : Nat → Nat
  | 0 => 0
  | k + 1 => (m + 1) * tt m k + 1
theorem best_all (hmost : most ≤ 100) (hsrs : srs.length ≤ 100) : ∀ (k h n : Nat), h + k = srs.length → k < n → BestOk b0 srs most price (m_Calm_best n) h (tt most k)
  | 0, h, n + 1, e, _ => by
    have e : h = srs.length := by omega
    subst e
    intro last kvs mo _
    refine ⟨kvs, ?_, mo, Nat.le_refl _⟩
    rw [List.drop_length]
    exact best_end b0 srs most price _ last kvs
  | k + 1, h, n + 1, e, hn => best_step b0 srs most price hmost hsrs (m_Calm_best n) h (by omega) (tt most k) (best_all hmost hsrs k (h + 1) n (by omega) (by omega))
end
theorem s_calm (D : List Int) (p : Int) (srs : List Int) (most : Nat) (price : Int) (h1 : srs.length ≤ 5) (h2 : most ≤ 3) :
    m_calm_levels [.d (row srs), .d (.int most), .d (.int price)] [wB D p] = some (.d (encR (bC most price srs none)), [wB D p]) := by
  have hT : tt most srs.length + 0 < LIM := by
    have : LIM = 16777216 := rfl
    have q : ∀ m, m ≤ 3 → ∀ k, k ≤ 5 → tt m k ≤ 1000 := by decide
    have := q most h2 _ h1
    omega
  obtain ⟨kvs', e, _, _⟩ := best_all (wB D p) srs most price (by omega) (by omega) srs.length 0 8 (by omega) (by omega) none [] MemoOk.nil (by rw [List.length_nil]; omega)
  have mk : eMake "Calm" m_Calm_init (aCons (eVar 0) (aCons (eVar 1) (aCons (eVar 2) aNil))) [.sh (.d (row srs)), .sh (.d (.int most)), .sh (.d (.int price))] [wB D p] = some (.bx 1, B3 (wB D p) srs most price []) := rfl
  have := methI_ok (C := "Calm") (m := "best") (ρ := [.sh (.d (row srs)), .sh (.d (.int most)), .sh (.d (.int price))]) (fs := aCons (eC (.int 0)) (aCons (eC .none) aNil)) mk rfl rfl rfl e
  exact (fun_rt (N := 3) (np := 3) (b := b_calm_levels) (xs := [.d (row srs), .d (.int most), .d (.int price)]) (B := [wB D p]) rfl (ret_ok this)).trans rfl
end K96
end

section
set_option Elab.async false
set_option linter.all false
set_option maxRecDepth 100000
namespace K96
open PySem PySem.Spec PyProof.Rows DL
theorem and_t {f h : SE} {ρ : EnvD} {B B1 : Bs} (e : f ρ B = some (.d (.bool true), B1)) : eAnd f h ρ B = h ρ B1 := by
  unfold eAnd
  rw [e]
  rfl
theorem and_f {f h : SE} {ρ : EnvD} {B B1 : Bs} (e : f ρ B = some (.d (.bool false), B1)) : eAnd f h ρ B = some (.d (.bool false), B1) := by
  unfold eAnd
  rw [e]
  rfl
/-! ### Within -/
section
variable (b0 : Bx) (srs : List Int) (most : Nat)
def withinIns : Bx := .ins "Within" [("series", .d (row srs)), ("slack", .d (.int most)), ("known", .bx 2)]
def W3 (kvs : List (PyData × PyData)) : Bs := [b0, withinIns srs most, .val (.dict kvs)]
def ocW (_ : Int) (last : Option Int) (l : Int) : Int := chg 1 last l
def lvW (x : Int) : List Int := (List.range (x + most + 1 - (x - most)).toNat).map fun k : Nat => x - most + k
theorem lvW_len (x : Int) : (lvW most x).length = 2 * most + 1 := by
  unfold lvW
  rw [List.length_map, List.length_range]
  omega
abbrev bW : List Int → Option Int → CR := bestG (lvW most) ocW
/-- the step's price -/
theorem ownW_ok (h : Nat) (last : Option Int) (l : Int) (c : CR) (s3 : Sl) (kvs : List (PyData × PyData)) :
    eBin addD (eIx (eBor 5) (eC (.int 0))) (eCall intF (aCons (eAnd (eBin isNotP (eBor 2) (eC .none)) (eBin neD (eBor 2) (eBor 4))) aNil))
      [.sh (.bx 1), .sh (.d (.int h)), .sh (.d (optD last)), s3, .sh (.d (.int l)), .sh (.d (encR c))] (W3 b0 srs most kvs) = some (.d (.int (chg 1 last l + c.1)), W3 b0 srs most kvs) := by
  have e4 : eCall intF (aCons (eAnd (eBin isNotP (eBor 2) (eC .none)) (eBin neD (eBor 2) (eBor 4))) aNil) [.sh (.bx 1), .sh (.d (.int h)), .sh (.d (optD last)), s3, .sh (.d (.int l)), .sh (.d (encR c))] (W3 b0 srs most kvs) = some (.d (.int (chg 1 last l)), W3 b0 srs most kvs) := by
    cases last with
    | none => rfl
    | some l' =>
      have t : eAnd (eBin isNotP (eBor 2) (eC .none)) (eBin neD (eBor 2) (eBor 4)) [.sh (.bx 1), .sh (.d (.int h)), .sh (.d (optD (some l'))), s3, .sh (.d (.int l)), .sh (.d (encR c))] (W3 b0 srs most kvs) = some (.d (.bool (!decide (l' = l))), W3 b0 srs most kvs) := by
        refine (and_t rfl).trans ?_
        exact bin_ok rfl rfl rfl rfl (neD_int _ _)
      refine call_ok (cons_ok t rfl) rfl ?_
      by_cases q : l' = l
      · subst q
        simp [chg, intF]
      · simp [chg, q, intF]
  refine (bin_ok (g := addD) (x := .d (.int c.1)) rfl e4 rfl rfl rfl).trans ?_
  rw [Int.add_comm]
theorem near_ok (h : Nat) (hh : h < srs.length) (hx : srs[h].natAbs ≤ 1000) (hm : most ≤ 100) (kvs : List (PyData × PyData)) :
    m_Within_near_levels [.bx 1, .d (.int h)] (W3 b0 srs most kvs) = some (.d (.list ((lvW most srs[h]).map .int)), W3 b0 srs most kvs) := by
  have f1 : eFld "Within" "series" (eBor 0) [.sh (.bx 1), .sh (.d (.int h)), .un, .un] (W3 b0 srs most kvs) = some (.d (row srs), W3 b0 srs most kvs) := fld_ok rfl rfl rfl
  have e2 : ixD (row srs) (.int h) = some (.int srs[h]) := by
    show ixD (.tuple _) _ = _
    rw [ixD_tuple _ h (by rw [List.length_map]; exact hh), List.getElem_map]
  have g1 : eBin subD (eIx (eFld "Within" "series" (eBor 0)) (eBor 1)) (eFld "Within" "slack" (eBor 0)) [.sh (.bx 1), .sh (.d (.int h)), .un, .un] (W3 b0 srs most kvs) = some (.d (.int (srs[h] - most)), W3 b0 srs most kvs) := bin_ok (ix_ok f1 rfl rfl rfl e2) (fld_ok rfl rfl rfl) rfl rfl rfl
  have g2 : eBin addD (eIx (eFld "Within" "series" (eBor 0)) (eBor 1)) (eFld "Within" "slack" (eBor 0)) [.sh (.bx 1), .sh (.d (.int h)), .un, .un] (W3 b0 srs most kvs) = some (.d (.int (srs[h] + most)), W3 b0 srs most kvs) := bin_ok (ix_ok f1 rfl rfl rfl e2) (fld_ok rfl rfl rfl) rfl rfl rfl
  have p1 : sPar false false 2 3 (eBin subD (eIx (eFld "Within" "series" (eBor 0)) (eBor 1)) (eFld "Within" "slack" (eBor 0))) (eBin addD (eIx (eFld "Within" "series" (eBor 0)) (eBor 1)) (eFld "Within" "slack" (eBor 0))) [.sh (.bx 1), .sh (.d (.int h)), .un, .un] (W3 b0 srs most kvs) = some (.nx, [.sh (.bx 1), .sh (.d (.int h)), .sh (.d (.int (srs[h] - most))), .sh (.d (.int (srs[h] + most)))], W3 b0 srs most kvs) := by
    unfold sPar
    rw [g1]
    simp only [Option.bind_some, g2]
    rfl
  generalize srs[h] = x at p1 hx
  have p2 : eLstRg rgF2 (aCons (eVar 2) (aCons (eBin addD (eBor 3) (eC (.int 1))) aNil)) [.sh (.bx 1), .sh (.d (.int h)), .sh (.d (.int (x - most))), .sh (.d (.int (x + most)))] (W3 b0 srs most kvs) = some (.d (.list ((lvW most x).map .int)), W3 b0 srs most kvs) := by
    unfold eLstRg
    rw [show aCons (eVar 2) (aCons (eBin addD (eBor 3) (eC (.int 1))) aNil) [.sh (.bx 1), .sh (.d (.int h)), .sh (.d (.int (x - most))), .sh (.d (.int (x + most)))] (W3 b0 srs most kvs) = some ([.d (.int (x - most)), .d (.int (x + most + 1))], W3 b0 srs most kvs) from rfl]
    simp only [Option.bind_some, rgF2]
    rw [if_pos]
    · unfold lvW rngD
      rw [List.map_map]
      rfl
    · have : LIM = 16777216 := rfl
      simp only [IB, Bool.and_eq_true, decide_eq_true_eq]
      omega
  exact fun_is rfl rfl ((seq_nx p1).trans (ret_ok p2))
/-- what is asked of the deeper call -/
def BestW (rec : SF) (h : Nat) (T : Nat) : Prop := ∀ (last : Option Int) (kvs : List (PyData × PyData)), MemoOk srs (bW most) kvs → kvs.length + T < LIM →
  ∃ kvs', rec [.bx 1, .d (.int h), .d (optD last)] (W3 b0 srs most kvs) = some (.d (encR (bW most (srs.drop h) last)), W3 b0 srs most kvs') ∧ MemoOk srs (bW most) kvs' ∧ kvs'.length ≤ kvs.length + T
theorem bestW_end (rec : SF) : ∀ (last : Option Int) (kvs : List (PyData × PyData)), funS 6 3 (b_Within_best rec) [.bx 1, .d (.int srs.length), .d (optD last)] (W3 b0 srs most kvs) = some (.d (encR (bW most [] last)), W3 b0 srs most kvs) := by
  intro last kvs
  have e1 : eFld "Within" "series" (eBor 0) [.sh (.bx 1), .sh (.d (.int srs.length)), .sh (.d (optD last)), .un, .un, .un] (W3 b0 srs most kvs) = some (.d (row srs), W3 b0 srs most kvs) := fld_ok rfl rfl rfl
  have e2 : eLen (eFld "Within" "series" (eBor 0)) [.sh (.bx 1), .sh (.d (.int srs.length)), .sh (.d (optD last)), .un, .un, .un] (W3 b0 srs most kvs) = some (.d (.int srs.length), W3 b0 srs most kvs) := by
    unfold eLen
    rw [e1]
    show some (Vl.d (.int ((srs.map PyData.int).length : Int)), _) = _
    rw [List.length_map]
  have t : sB (eBin eqD (eBor 1) (eLen (eFld "Within" "series" (eBor 0)))) [.sh (.bx 1), .sh (.d (.int srs.length)), .sh (.d (optD last)), .un, .un, .un] (W3 b0 srs most kvs) = some (true, W3 b0 srs most kvs) := by
    have := sB_ok (bin_ok (g := eqD) (f := eBor 1) rfl e2 rfl rfl (eqD_int _ _))
    rw [decide_eq_true rfl] at this
    exact this
  exact fun_is rfl rfl ((seq_rt (r := .d (encR (bW most [] last))) ((if_t t).trans rfl)))
abbrev bodyW (rec : SF) : SS := (sSeq (sSet 5 (eMethI "Within" "best" rec (eBor 0) (aCons (eBin addD (eBor 1) (eC (.int 1))) (aCons (eVar 4) aNil)))) (sApp 3 (eTup (aCons (eBin addD (eIx (eBor 5) (eC (.int 0))) (eCall intF (aCons (eAnd (eBin isNotP (eBor 2) (eC .none)) (eBin neD (eBor 2) (eBor 4))) aNil))) (aCons (eBin addD (eTup (aCons (eVar 4) aNil)) (eIx (eBor 5) (eC (.int 1)))) aNil)))))
theorem bestW_step (hmost : most ≤ 100) (hsrs : srs.length ≤ 100) (hvals : ∀ x ∈ srs, x.natAbs ≤ 1000) (rec : SF) (h : Nat) (hh : h < srs.length) (T : Nat) (ih : BestW b0 srs most rec (h + 1) T) : BestW b0 srs most (funS 6 3 (b_Within_best rec)) h ((2 * most + 1) * T + 1) := by
  intro last kvs mo hlim
  generalize hx : srs[h] = x
  have hdrop : srs.drop h = x :: srs.drop (h + 1) := by rw [← hx]; exact List.drop_eq_getElem_cons hh
  have e1 : ∀ (ρ : EnvD) (s3 s4 s5 : Sl) (kvs : List (PyData × PyData)), ρ = [.sh (.bx 1), .sh (.d (.int h)), .sh (.d (optD last)), s3, s4, s5] → eFld "Within" "known" (eBor 0) ρ (W3 b0 srs most kvs) = some (.bx 2, W3 b0 srs most kvs) := fun ρ s3 s4 s5 kvs e => by subst e; exact fld_ok rfl rfl rfl
  have f1 : eFld "Within" "series" (eBor 0) [.sh (.bx 1), .sh (.d (.int h)), .sh (.d (optD last)), .un, .un, .un] (W3 b0 srs most kvs) = some (.d (row srs), W3 b0 srs most kvs) := fld_ok rfl rfl rfl
  have f2 : eLen (eFld "Within" "series" (eBor 0)) [.sh (.bx 1), .sh (.d (.int h)), .sh (.d (optD last)), .un, .un, .un] (W3 b0 srs most kvs) = some (.d (.int srs.length), W3 b0 srs most kvs) := by
    unfold eLen
    rw [f1]
    show some (Vl.d (.int ((srs.map PyData.int).length : Int)), _) = _
    rw [List.length_map]
  have t : sB (eBin eqD (eBor 1) (eLen (eFld "Within" "series" (eBor 0)))) [.sh (.bx 1), .sh (.d (.int h)), .sh (.d (optD last)), .un, .un, .un] (W3 b0 srs most kvs) = some (false, W3 b0 srs most kvs) := by
    have := sB_ok (bin_ok (g := eqD) (f := eBor 1) rfl f2 rfl rfl (eqD_int _ _))
    rw [decide_eq_false (by omega)] at this
    exact this
  have s1 := (if_f (f := sRet (eTup (aCons (eC (.int 0)) (aCons (eTup aNil) aNil)))) (g := sNil) t).trans (show sNil _ _ = some (.nx, [.sh (.bx 1), .sh (.d (.int h)), .sh (.d (optD last)), .un, .un, .un], W3 b0 srs most kvs) from rfl)
  have kk : ∀ (s3 s4 s5 : Sl) (kvs : List (PyData × PyData)), eTup (aCons (eVar 1) (aCons (eVar 2) aNil)) [.sh (.bx 1), .sh (.d (.int h)), .sh (.d (optD last)), s3, s4, s5] (W3 b0 srs most kvs) = some (.d (keyD h last), W3 b0 srs most kvs) := fun _ _ _ _ => tup2_ok rfl rfl
  have t2 := sB_ok (bin_ok (g := notInD) (kk .un .un .un kvs) (e1 _ .un .un .un kvs rfl) rfl rfl (notIn_memo mo h last))
  -- the end: what stands in the memo is given
  have fin : ∀ (s3 s4 s5 : Sl) (kvs : List (PyData × PyData)) (v : PyData), MemoOk srs (bW most) kvs → dFind kvs (keyD h last) = some v →
      sRet (eIx (eFld "Within" "known" (eBor 0)) (eTup (aCons (eVar 1) (aCons (eVar 2) aNil)))) [.sh (.bx 1), .sh (.d (.int h)), .sh (.d (optD last)), s3, s4, s5] (W3 b0 srs most kvs) = some (.rt (.d v), [.sh (.bx 1), .sh (.d (.int h)), .sh (.d (optD last)), s3, s4, s5], W3 b0 srs most kvs) := fun s3 s4 s5 kvs v m e => by
    have := ix_ok (e1 _ s3 s4 s5 kvs rfl) (kk s3 s4 s5 kvs) rfl rfl (ix_memo m h last e)
    unfold sRet
    rw [this]
    rfl
  cases hf : dFind kvs (keyD h last) with
  | some v =>
    rw [hf] at t2
    refine ⟨kvs, ?_, mo, by omega⟩
    rw [← mo.found hf]
    exact fun_is rfl rfl ((seq_nx s1).trans ((seq_nx ((if_f (g := sNil) t2).trans (show sNil _ _ = some (.nx, [.sh (.bx 1), .sh (.d (.int h)), .sh (.d (optD last)), .un, .un, .un], W3 b0 srs most kvs) from rfl))).trans (fin _ _ _ kvs v mo hf)))
  | none =>
    rw [hf] at t2
    let cr : Int → CR := fun l => (ocW x last l + (bW most (srs.drop (h + 1)) (some l)).1, l :: (bW most (srs.drop (h + 1)) (some l)).2)
    have mulle : ∀ j, j ≤ 2 * most + 1 → j * T ≤ (2 * most + 1) * T := fun j hj => Nat.mul_le_mul_right _ hj
    have hlen : (lvW most x).length = 2 * most + 1 := lvW_len most x
    have bex : bW most (x :: srs.drop (h + 1)) last = leastOf ((lvW most x).map cr) := rfl
    have near := near_ok b0 srs most h hh (hvals _ (List.getElem_mem _)) hmost kvs
    rw [hx] at near
    -- the loop over the levels
    obtain ⟨ρ', B', hrun, kvs', s4, s5, rfl, mo', hl', rfl⟩ := for_ok (g := gN 4) (b := bodyW rec)
      (fun i ρ B' => ∃ (kvs' : List (PyData × PyData)) (s4 s5 : Sl), B' = W3 b0 srs most kvs' ∧ MemoOk srs (bW most) kvs' ∧ kvs'.length ≤ kvs.length + i * T ∧
        ρ = [.sh (.bx 1), .sh (.d (.int h)), .sh (.d (optD last)), .ow (.list ((((lvW most x).take i).map cr).map encR)), s4, s5])
      ((lvW most x).map .int) 0 [.sh (.bx 1), .sh (.d (.int h)), .sh (.d (optD last)), .ow (.list []), .un, .un] (W3 b0 srs most kvs) ⟨kvs, .un, .un, rfl, mo, by omega, rfl⟩ (by
        rintro j d ρ B' hd ⟨kvs', s4, s5, rfl, mo', hl', rfl⟩
        rw [List.getElem?_map, Option.map_eq_some_iff] at hd
        obtain ⟨l, hget, rfl⟩ := hd
        have hj := (List.getElem?_eq_some_iff.mp hget).1
        rw [hlen] at hj
        rw [Nat.zero_add] at hl' ⊢
        have q1 := mulle (j + 1) (by omega)
        rw [Nat.add_mul, Nat.one_mul] at q1
        obtain ⟨kvs2, hrec, mo2, hl2⟩ := ih (some l) kvs' mo' (by omega)
        have r1 := set_ok (i := 5) (methI_ok (ρ := [.sh (.bx 1), .sh (.d (.int h)), .sh (.d (optD last)), .ow (.list ((((lvW most x).take j).map cr).map encR)), .sh (.d (.int l)), s5]) (C := "Within") (m := "best") (fo := eBor 0) (fs := aCons (eBin addD (eBor 1) (eC (.int 1))) (aCons (eVar 4) aNil)) (B := W3 b0 srs most kvs') rfl rfl rfl rfl hrec) (show 5 < 6 by omega)
        have r3 := app_ok (i := 3) (ρ := [.sh (.bx 1), .sh (.d (.int h)), .sh (.d (optD last)), .ow (.list ((((lvW most x).take j).map cr).map encR)), .sh (.d (.int l)), .sh (.d (encR (bW most (srs.drop (h + 1)) (some l))))]) (B := W3 b0 srs most kvs2) (f := eTup (aCons (eBin addD (eIx (eBor 5) (eC (.int 0))) (eCall intF (aCons (eAnd (eBin isNotP (eBor 2) (eC .none)) (eBin neD (eBor 2) (eBor 4))) aNil))) (aCons (eBin addD (eTup (aCons (eVar 4) aNil)) (eIx (eBor 5) (eC (.int 1)))) aNil))) (x := encR (cr l)) (tup2_ok (ownW_ok b0 srs most h last l (bW most (srs.drop (h + 1)) (some l)) _ kvs2) (bin_ok (g := addD) (x := .d (.tuple [.int l])) (y := .d (row (bW most (srs.drop (h + 1)) (some l)).2)) rfl rfl rfl rfl (addD_row _ _ (Nat.le_trans (bestG_len (lvW most) (ocW) (srs.drop (h + 1)) (some l)) (by rw [List.length_drop]; omega))))) rfl (by rw [List.length_map, List.length_map, List.length_take, hlen]; have : LIM = 16777216 := rfl; omega)
        refine ⟨_, _, _, rfl, (seq_nx r1).trans r3, kvs2, .sh (.d (.int l)), .sh (.d (encR (bW most (srs.drop (h + 1)) (some l)))), rfl, mo2, ?_, ?_⟩
        · rw [Nat.add_mul, Nat.one_mul]
          omega
        · have le : (((lvW most x).take (j + 1)).map cr).map encR = (((lvW most x).take j).map cr).map encR ++ [encR (cr l)] := by
            rw [List.take_add_one, hget, List.map_append, List.map_append]
            rfl
          rw [le]
          rfl)
    rw [Nat.zero_add, List.length_map, hlen] at hl' hrun
    rw [show (lvW most x).take (2 * most + 1) = lvW most x from List.take_of_length_le (by rw [hlen]; exact Nat.le_refl _)] at hrun
    have hne : (lvW most x).map cr ≠ [] := by
      intro e
      have := congrArg List.length e
      rw [List.length_map, hlen] at this
      simp at this
    have pb := putB_ok (ρ := [.sh (.bx 1), .sh (.d (.int h)), .sh (.d (optD last)), .ow (.list (((lvW most x).map cr).map encR)), s4, s5]) (B := W3 b0 srs most kvs') (fv := eCall minF (aCons (eBor 3) aNil)) (call_ok rfl rfl (min_leastOf hne)) (e1 _ _ _ _ _ rfl) (kk _ _ _ _) rfl rfl (put_memo mo' h last (encR (leastOf ((lvW most x).map cr))) (by omega))
    rw [← bex, ← hdrop] at pb
    refine ⟨dPut kvs' (keyD h last) (encR (bW most (srs.drop h) last)), ?_, mo'.put h last, by have := put_len kvs' (keyD h last) (encR (bW most (srs.drop h) last)); omega⟩
    have it : sIter (eMethI "Within" "near_levels" m_Within_near_levels (eBor 0) (aCons (eVar 1) aNil)) [.sh (.bx 1), .sh (.d (.int h)), .sh (.d (optD last)), .ow (.list []), .un, .un] (W3 b0 srs most kvs) = some ((lvW most x).map .int, W3 b0 srs most kvs) := by
      unfold sIter
      rw [methI_ok (ρ := [.sh (.bx 1), .sh (.d (.int h)), .sh (.d (optD last)), .ow (.list []), .un, .un]) (C := "Within") (m := "near_levels") (fo := eBor 0) (fs := aCons (eVar 1) aNil) (B := W3 b0 srs most kvs) (B1 := W3 b0 srs most kvs) rfl rfl rfl rfl near]
      rfl
    have frun := (for_run (g := gN 4) (b := bodyW rec) it).trans hrun
    exact fun_is rfl rfl ((seq_nx s1).trans ((seq_nx ((if_t t2).trans ((seq_nx (setO_ok (ρ := [.sh (.bx 1), .sh (.d (.int h)), .sh (.d (optD last)), .un, .un, .un]) (f := eLst aNil) (d := .list []) (i := 3) rfl (show 3 < 6 by omega))).trans ((seq_nx frun).trans pb)))).trans (fin _ s4 s5 _ _ (mo'.put h last) (find_put _ _ _ _))))
theorem bestW_all (hmost : most ≤ 100) (hsrs : srs.length ≤ 100) (hvals : ∀ x ∈ srs, x.natAbs ≤ 1000) : ∀ (k h n : Nat), h + k = srs.length → k < n → BestW b0 srs most (m_Within_best n) h (tt (2 * most) k)
  | 0, h, n + 1, e, _ => by
    have e : h = srs.length := by omega
    subst e
    intro last kvs mo _
    refine ⟨kvs, ?_, mo, Nat.le_refl _⟩
    rw [List.drop_length]
    exact bestW_end b0 srs most _ last kvs
  | k + 1, h, n + 1, e, hn => bestW_step b0 srs most hmost hsrs hvals (m_Within_best n) h (by omega) (tt (2 * most) k) (bestW_all hmost hsrs hvals k (h + 1) n (by omega) (by omega))
end
theorem s_within (D : List Int) (p : Int) (srs : List Int) (most : Nat) (h1 : srs.length ≤ 4) (h2 : most ≤ 2) (hv : ∀ x ∈ srs, x.natAbs ≤ 1000) :
    m_calm_within [.d (row srs), .d (.int most)] [wB D p] = some (.d (encR (bW most srs none)), [wB D p]) := by
  have hT : tt (2 * most) srs.length + 0 < LIM := by
    have : LIM = 16777216 := rfl
    have q : ∀ m, m ≤ 4 → ∀ k, k ≤ 4 → tt m k ≤ 1000 := by decide
    have := q (2 * most) (by omega) _ h1
    omega
  obtain ⟨kvs', e, _, _⟩ := bestW_all (wB D p) srs most (by omega) (by omega) hv srs.length 0 8 (by omega) (by omega) none [] MemoOk.nil (by rw [List.length_nil]; omega)
  have mk : eMake "Within" m_Within_init (aCons (eVar 0) (aCons (eVar 1) aNil)) [.sh (.d (row srs)), .sh (.d (.int most))] [wB D p] = some (.bx 1, W3 (wB D p) srs most []) := rfl
  have := methI_ok (C := "Within") (m := "best") (ρ := [.sh (.d (row srs)), .sh (.d (.int most))]) (fs := aCons (eC (.int 0)) (aCons (eC .none) aNil)) mk rfl rfl rfl e
  exact (fun_rt (N := 2) (np := 2) (b := b_calm_within) (xs := [.d (row srs), .d (.int most)]) (B := [wB D p]) rfl (ret_ok this)).trans rfl
end K96
end

section
set_option Elab.async false
set_option linter.all false
set_option maxRecDepth 100000
namespace K96
open PySem PySem.Spec PyProof.Rows DL
/-! ### all rows -/
def stepR (F : List (List Int)) (o : List Int) : List (List Int) := F.flatMap fun r => o.map fun n => r ++ [n]
def allR (owns : List (List Int)) : List (List Int) := owns.foldl stepR [[]]
def prodR : List (List Int) → List (List Int)
  | [] => [[]]
  | o :: os => o.flatMap fun l => (prodR os).map fun r => l :: r
theorem rowsG_prod (lv : Int → List Int) : ∀ xs : List Int, rowsG lv xs = prodR (xs.map lv)
  | [] => rfl
  | x :: xs => by
    rw [List.map_cons]
    show _ = (lv x).flatMap fun l => (prodR (xs.map lv)).map fun r => l :: r
    rw [← rowsG_prod lv xs]
    rfl
theorem mem_fold : ∀ (os : List (List Int)) (F : List (List Int)) (r : List Int), r ∈ os.foldl stepR F ↔ ∃ p ∈ F, ∃ s ∈ prodR os, r = p ++ s
  | [], F, r => by simp [prodR]
  | o :: os, F, r => by
    rw [List.foldl_cons, mem_fold os]
    constructor
    · rintro ⟨p, hp, s, hs, rfl⟩
      obtain ⟨q, hq, hp⟩ := List.mem_flatMap.mp hp
      obtain ⟨n, hn, rfl⟩ := List.mem_map.mp hp
      exact ⟨q, hq, n :: s, List.mem_flatMap.mpr ⟨n, hn, List.mem_map.mpr ⟨s, hs, rfl⟩⟩, by simp⟩
    · rintro ⟨p, hp, s, hs, rfl⟩
      obtain ⟨n, hn, hs⟩ := List.mem_flatMap.mp hs
      obtain ⟨t, ht, rfl⟩ := List.mem_map.mp hs
      exact ⟨p ++ [n], List.mem_flatMap.mpr ⟨p, hp, List.mem_map.mpr ⟨n, hn, rfl⟩⟩, t, ht, by simp⟩
theorem mem_allR (lv : Int → List Int) (xs : List Int) (r : List Int) : r ∈ allR (xs.map lv) ↔ r ∈ rowsG lv xs := by
  unfold allR
  rw [mem_fold, rowsG_prod]
  simp
theorem rowsG_len (lv : Int → List Int) : ∀ (xs : List Int) (r : List Int), r ∈ rowsG lv xs → r.length = xs.length
  | [], r, h => by
    have : r = [] := by simpa [rowsG] using h
    subst this
    rfl
  | x :: xs, r, h => by
    obtain ⟨l, _, h⟩ := List.mem_flatMap.mp h
    obtain ⟨t, ht, rfl⟩ := List.mem_map.mp h
    rw [List.length_cons, List.length_cons, rowsG_len lv xs t ht]
theorem stepR_len (F : List (List Int)) (o : List Int) : (stepR F o).length = F.length * o.length := by
  unfold stepR
  induction F with
  | nil => simp
  | cons f F ih =>
    rw [List.flatMap_cons, List.length_append, ih, List.length_map, List.length_cons, Nat.add_mul, Nat.one_mul, Nat.add_comm]
theorem stepR_mem {F : List (List Int)} {o : List Int} {k : Nat} (h : ∀ r ∈ F, r.length = k) : ∀ r ∈ stepR F o, r.length = k + 1 := fun r hr => by
  obtain ⟨q, hq, hp⟩ := List.mem_flatMap.mp hr
  obtain ⟨n, _, rfl⟩ := List.mem_map.mp hp
  rw [List.length_append, h q hq]
  rfl
theorem addD_end (r : List Int) (n : Int) (h : r.length ≤ 1000) : addD (row r) (.tuple [.int n]) = some (row (r ++ [n])) := by
  show (if (r.map PyData.int).length + [PyData.int n].length ≤ LIM then some (PyData.tuple (r.map PyData.int ++ [.int n])) else none) = _
  rw [if_pos (by rw [List.length_map]; have : LIM = 16777216 := rfl; simp; omega)]
  unfold row
  rw [List.map_append]
  rfl
theorem addD_lists (a b : List PyData) (h : a.length + b.length ≤ 1000000) : addD (.list a) (.list b) = some (.list (a ++ b)) := by
  show (if a.length + b.length ≤ LIM then some (PyData.list (a ++ b)) else none) = _
  rw [if_pos (by have : LIM = 16777216 := rfl; omega)]
theorem iter_d {f : SE} {ρ : EnvD} {B B1 : Bs} {ds : List PyData} (h : f ρ B = some (.d (.list ds), B1)) : sIter f ρ B = some (ds, B1) := by
  unfold sIter
  rw [h]
  rfl
abbrev inB : SS := sSet 3 (eBin addD (eBor 3) (eLc (sIter (eVar 2)) (gN 5) sYes (eBin addD (eBor 4) (eTup (aCons (eVar 5) aNil))) [5]))
theorem all_in (o : List Int) (ho : o.length ≤ 5) (k : Nat) (hk : k ≤ 5) (F : List (List Int)) (hF : ∀ r ∈ F, r.length = k) (hFl : F.length ≤ 5 ^ k) (s0 s1 s4 s5 : Sl) (B : Bs) :
    ∃ s4' s5', forGo (gN 4) inB (F.map row) [s0, s1, .sh (.d (.list (o.map .int))), .sh (.d (.list [])), s4, s5] B = some (.nx, [s0, s1, .sh (.d (.list (o.map .int))), .sh (.d (.list ((stepR F o).map row))), s4', s5'], B) := by
  have h5 : 5 ^ k ≤ 3125 := Nat.pow_le_pow_right (by omega) hk
  obtain ⟨ρ', B', hrun, hB, s4', s5', hρ⟩ := for_ok (g := gN 4) (b := inB)
    (fun i ρ B' => B' = B ∧ ∃ s4 s5, ρ = [s0, s1, .sh (.d (.list (o.map .int))), .sh (.d (.list ((stepR (F.take i) o).map row))), s4, s5])
    (F.map row) 0 [s0, s1, .sh (.d (.list (o.map .int))), .sh (.d (.list [])), s4, s5] B ⟨rfl, s4, s5, rfl⟩ (by
      rintro j d ρ B' hd ⟨rfl, s4, s5, rfl⟩
      rw [List.getElem?_map, Option.map_eq_some_iff] at hd
      obtain ⟨r, hget, rfl⟩ := hd
      rw [Nat.zero_add]
      have hj := (List.getElem?_eq_some_iff.mp hget).1
      have hr : r ∈ F := List.mem_of_getElem? hget
      have lc := lc_all PyData.int (g := gN 5) (e := eBin addD (eBor 4) (eTup (aCons (eVar 5) aNil))) (ρ0 := [s0, s1, .sh (.d (.list (o.map .int))), .sh (.d (.list ((stepR (F.take j) o).map row))), .sh (.d (row r)), .un]) (B := B') (fun n => row (r ++ [n])) o fun n _ =>
        ⟨_, rfl, bin_ok (g := addD) (x := .d (row r)) (y := .d (.tuple [.int n])) rfl rfl rfl rfl (addD_end r n (by rw [hF r hr]; omega))⟩
      have e := eLc_ok (fi := sIter (eVar 2)) (vs := [5]) (ρ := [s0, s1, .sh (.d (.list (o.map .int))), .sh (.d (.list ((stepR (F.take j) o).map row))), .sh (.d (row r)), s5]) (B := B') (iter_d rfl) (by rw [List.length_map]; have : LIM = 16777216 := rfl; omega) lc
      have q : (stepR (F.take (j + 1)) o).map row = (stepR (F.take j) o).map row ++ o.map fun n => row (r ++ [n]) := by
        unfold stepR
        rw [List.take_add_one, hget, List.flatMap_append, List.map_append]
        simp
      have ln : ((stepR (F.take j) o).map row).length + (o.map fun n => row (r ++ [n])).length ≤ 1000000 := by
        rw [List.length_map, List.length_map, stepR_len, List.length_take]
        have : min j F.length * o.length ≤ 3125 * 5 := Nat.mul_le_mul (by omega) ho
        omega
      have st := set_ok (i := 3) (bin_ok (g := addD) (f := eBor 3) (ρ := [s0, s1, .sh (.d (.list (o.map .int))), .sh (.d (.list ((stepR (F.take j) o).map row))), .sh (.d (row r)), s5]) (x := .d (.list ((stepR (F.take j) o).map row))) rfl e rfl rfl (addD_lists _ _ ln)) (show 3 < 6 by omega)
      refine ⟨_, _, _, rfl, st, rfl, .sh (.d (row r)), s5, ?_⟩
      rw [q]
      rfl)
  subst hB hρ
  refine ⟨s4', s5', ?_⟩
  rw [hrun, Nat.zero_add, List.length_map, List.take_length]
theorem s_all (owns : List (List Int)) (ho : ∀ o ∈ owns, o.length ≤ 5) (hl : owns.length ≤ 5) (B : Bs) : m_law_all [.d (.list (owns.map fun o => .list (o.map .int)))] B = some (.d (.list ((allR owns).map row)), B) := by
  let cs : PyData := .list (owns.map fun o => .list (o.map .int))
  obtain ⟨ρ', B', hrun, hB, ⟨_, _⟩, s2, s3, s4, s5, hρ⟩ := for_ok (g := gN 2) (b := (sSeq (sSet 3 (eLst aNil)) (sSeq (sFor (sIter (eVar 1)) (gN 4) inB) (sSet 1 (eVar 3)))))
    (fun i ρ B' => B' = B ∧ ((∀ r ∈ allR (owns.take i), r.length = min i owns.length) ∧ (allR (owns.take i)).length ≤ 5 ^ (min i owns.length)) ∧ ∃ s2 s3 s4 s5, ρ = [.sh (.d cs), .sh (.d (.list ((allR (owns.take i)).map row))), s2, s3, s4, s5])
    (owns.map fun o => .list (o.map .int)) 0 [.sh (.d cs), .sh (.d (.list [.tuple []])), .un, .un, .un, .un] B ⟨rfl, by simp [allR], .un, .un, .un, .un, rfl⟩ (by
      rintro j d ρ B' hd ⟨rfl, ⟨h1, h2⟩, s2, s3, s4, s5, rfl⟩
      rw [List.getElem?_map, Option.map_eq_some_iff] at hd
      obtain ⟨o, hget, rfl⟩ := hd
      rw [Nat.zero_add] at h1 h2 ⊢
      have hj := (List.getElem?_eq_some_iff.mp hget).1
      have hoo := ho o (List.mem_of_getElem? hget)
      have q : allR (owns.take (j + 1)) = stepR (allR (owns.take j)) o := by
        unfold allR
        rw [List.take_add_one, hget, List.foldl_append]
        rfl
      rw [show min j owns.length = j by omega] at h1 h2
      obtain ⟨s4', s5', hin⟩ := all_in o hoo j (by omega) _ h1 h2 (.sh (.d cs)) (.sh (.d (.list ((allR (owns.take j)).map row)))) s4 s5 B'
      have r1 := set_ok (i := 3) (f := eLst aNil) (ρ := [.sh (.d cs), .sh (.d (.list ((allR (owns.take j)).map row))), .sh (.d (.list (o.map .int))), s3, s4, s5]) (B := B') (x := .d (.list [])) rfl (show 3 < 6 by omega)
      have r2 := (for_run (fi := sIter (eVar 1)) (g := gN 4) (b := inB) (ρ := [.sh (.d cs), .sh (.d (.list ((allR (owns.take j)).map row))), .sh (.d (.list (o.map .int))), .sh (.d (.list [])), s4, s5]) (B := B') (iter_d rfl)).trans hin
      refine ⟨_, _, _, rfl, (seq_nx r1).trans ((seq_nx r2).trans (set_ok (i := 1) (x := .d (.list ((stepR (allR (owns.take j)) o).map row))) rfl (show 1 < 6 by omega))), rfl, ⟨?_, ?_⟩, .sh (.d (.list (o.map .int))), .sh (.d (.list ((stepR (allR (owns.take j)) o).map row))), s4', s5', ?_⟩
      · rw [q, show min (j + 1) owns.length = j + 1 by omega]
        exact stepR_mem h1
      · rw [q, show min (j + 1) owns.length = j + 1 by omega, stepR_len, Nat.pow_succ]
        exact Nat.mul_le_mul h2 hoo
      · rw [q]
        rfl)
  subst hB hρ
  rw [Nat.zero_add, List.length_map, List.take_length] at hrun
  exact fun_is (N := 6) (np := 1) rfl rfl ((seq_nx (show sSet 1 (eLst (aCons (eTup aNil) aNil)) _ _ = some (.nx, [.sh (.d cs), .sh (.d (.list [.tuple []])), .un, .un, .un, .un], B') from rfl)).trans ((seq_nx ((for_run (iter_d rfl)).trans hrun)).trans rfl))
end K96
end

section
set_option Elab.async false
set_option linter.all false
set_option maxRecDepth 100000
namespace K96
open PySem PySem.Spec PyProof.Rows DL
/-! ### changes -/
def chsL : Option Int → List Int → Int
  | _, [] => 0
  | last, l :: r => chg 1 last l + chsL (some l) r
abbrev chs (r : List Int) : Int := chsL none r
def dif (r : List Int) (k : Nat) : Bool := !decide (r.getD k 0 = r.getD (k + 1) 0)
theorem cnt_ok : ∀ (r : List Int) (l : Int), (((List.range r.length).filter (dif (l :: r))).length : Int) = chsL (some l) r
  | [], _ => rfl
  | x :: r, l => by
    have ih := cnt_ok r x
    rw [List.length_cons, List.range_succ_eq_map, List.filter_cons, List.filter_map]
    have e : (dif (l :: x :: r) ∘ Nat.succ) = dif (x :: r) := by
      funext k
      rfl
    rw [e]
    have e2 : dif (l :: x :: r) 0 = !decide (l = x) := rfl
    show _ = chg 1 (some l) x + chsL (some x) r
    rw [← ih, e2]
    by_cases q : l = x
    · simp [chg, q]
    · simp [chg, q]
      omega
theorem cnt0 (r : List Int) : (((List.range (r.length - 1)).filter (dif r)).length : Int) = chs r := by
  cases r with
  | nil => rfl
  | cons l r =>
    show (((List.range (r.length + 1 - 1)).filter (dif (l :: r))).length : Int) = 0 + chsL (some l) r
    rw [Nat.add_sub_cancel, cnt_ok, Int.zero_add]
theorem ix_row (r : List Int) (k : Nat) (h : k < r.length) : ixD (row r) (.int k) = some (.int (r.getD k 0)) := by
  show ixD (.tuple _) _ = _
  rw [ixD_tuple _ k (by rw [List.length_map]; exact h), List.getElem_map, List.getD_eq_getElem?_getD, List.getElem?_eq_getElem h]
  rfl
theorem len_row (r : List Int) {f : SE} {ρ : EnvD} {B B1 : Bs} (h : f ρ B = some (.d (row r), B1)) : eLen f ρ B = some (.d (.int r.length), B1) := by
  unfold eLen
  rw [h]
  show some (Vl.d (.int ((r.map PyData.int).length : Int)), _) = _
  rw [List.length_map]
theorem len_list {ds : List PyData} {f : SE} {ρ : EnvD} {B B1 : Bs} (h : f ρ B = some (.d (.list ds), B1)) : eLen f ρ B = some (.d (.int ds.length), B1) := by
  unfold eLen
  rw [h]
  rfl
theorem rng1_int (j : Int) (h : j.natAbs < 1000000) : rng1F [.d (.int j)] = some (rngD 0 j.toNat) := by
  show (if IB j = true then some (rngD 0 j.toNat) else none) = _
  rw [if_pos]
  simp only [IB, Bool.and_eq_true, decide_eq_true_eq]
  omega
theorem rng2_int (i j : Int) (h : i.natAbs < 1000000) (h2 : j.natAbs < 1000000) : rng2F [.d (.int i), .d (.int j)] = some (rngD i (j - i).toNat) := by
  show (if (IB i && IB j) = true then some (rngD i (j - i).toNat) else none) = _
  rw [if_pos]
  simp only [IB, Bool.and_eq_true, decide_eq_true_eq]
  omega
theorem s_changes (r : List Int) (hr : r.length ≤ 100) (B : Bs) : m_changes_in [.d (row r)] B = some (.d (.int (chs r)), B) := by
  have lc := lc_mapE (fun k : Nat => PyData.int k) (g := gN 1) (t := sB (eBin neD (eIx (eBor 0) (eBor 1)) (eIx (eBor 0) (eBin addD (eBor 1) (eC (.int 1)))))) (e := eVar 1) (ρ0 := [.sh (.d (row r)), .un]) (B := B) (dif r) (fun k : Nat => PyData.int k) (List.range (r.length - 1)) fun k hk => by
    rw [List.mem_range] at hk
    refine ⟨_, rfl, ?_, fun _ => rfl⟩
    exact sB_ok (bin_ok (g := neD) (ix_ok (f := eBor 0) (h := eBor 1) (ρ := [.sh (.d (row r)), .sh (.d (.int k))]) rfl rfl rfl rfl (ix_row _ k (by omega))) (ix_ok (f := eBor 0) (dy := .int ((k + 1 : Nat) : Int)) rfl rfl rfl rfl (ix_row _ (k + 1) (by omega))) rfl rfl (neD_int _ _))
  rw [← rngD0] at lc
  have b : sRng rng1F (aCons (eBin subD (eLen (eBor 0)) (eC (.int 1))) aNil) [.sh (.d (row r)), .un] B = some (rngD 0 (r.length - 1), B) := by
    refine sRng_ok (vs := [.d (.int ((r.length : Int) - 1))]) (cons_ok (bin_ok (g := subD) (len_row r rfl) rfl rfl rfl rfl) rfl) ?_
    rw [rng1_int _ (by omega), show ((r.length : Int) - 1).toNat = r.length - 1 by omega]
  have e := eLc_ok (vs := [1]) (ρ := [.sh (.d (row r)), .un]) b (by rw [rngD_length]; have : LIM = 16777216 := rfl; omega) lc
  refine fun_is (N := 2) (np := 1) rfl rfl (ret_ok ((len_list e).trans ?_))
  rw [List.length_map, cnt0]
theorem s_lchanges (r : List Int) (hr : r.length ≤ 100) (B : Bs) : m_law_changes [.d (row r)] B = some (.d (.int (chs r)), B) := by
  have lc := lc_mapE (fun k : Nat => PyData.int (1 + k)) (g := gN 1) (t := sB (eBin neD (eIx (eBor 0) (eBor 1)) (eIx (eBor 0) (eBin subD (eBor 1) (eC (.int 1)))))) (e := eVar 1) (ρ0 := [.sh (.d (row r)), .un]) (B := B) (dif r) (fun k : Nat => PyData.int (1 + k)) (List.range (r.length - 1)) fun k hk => by
    rw [List.mem_range] at hk
    refine ⟨_, rfl, ?_, fun _ => rfl⟩
    have e1 : (1 : Int) + (k : Int) = ((k + 1 : Nat) : Int) := by omega
    have e2 : ((k + 1 : Nat) : Int) - 1 = (k : Int) := by omega
    rw [e1]
    refine (sB_ok (bin_ok (g := neD) (ix_ok (f := eBor 0) (h := eBor 1) (ρ := [.sh (.d (row r)), .sh (.d (.int ((k + 1 : Nat) : Int)))]) rfl rfl rfl rfl (ix_row _ (k + 1) (by omega))) (ix_ok (f := eBor 0) (dy := .int (((k + 1 : Nat) : Int) - 1)) rfl rfl rfl rfl (by rw [e2]; exact ix_row _ k (by omega))) rfl rfl (neD_int _ _))).trans ?_
    have : (!decide (r.getD (k + 1) 0 = r.getD k 0)) = dif r k := by
      unfold dif
      congr 1
      rw [decide_eq_decide]
      exact eq_comm
    rw [this]
  have b : sRng rng2F (aCons (eC (.int 1)) (aCons (eLen (eBor 0)) aNil)) [.sh (.d (row r)), .un] B = some ((List.range (r.length - 1)).map fun k : Nat => PyData.int (1 + k), B) := by
    refine sRng_ok (vs := [.d (.int 1), .d (.int r.length)]) (cons_ok rfl (cons_ok (len_row r rfl) (show aNil _ B = some ([], B) from rfl))) ?_
    rw [rng2_int _ _ (by omega) (by omega), show ((r.length : Int) - 1).toNat = r.length - 1 by omega]
    rfl
  have e := eLc_ok (vs := [1]) (ρ := [.sh (.d (row r)), .un]) b (by rw [List.length_map, List.length_range]; have : LIM = 16777216 := rfl; omega) lc
  refine fun_is (N := 2) (np := 1) rfl rfl (ret_ok ((len_list e).trans ?_))
  rw [List.length_map, cnt0]
/-! ### costs -/
theorem chg_mul (p : Int) (last : Option Int) (l : Int) : chg p last l = p * chg 1 last l := by
  cases last with
  | none => simp [chg]
  | some l' =>
    simp only [chg]
    split
    · simp
    · simp
theorem costW : ∀ (xs r : List Int) (last : Option Int), r.length = xs.length → costG ocW last xs r = chsL last r
  | [], [], _, _ => rfl
  | x :: xs, l :: r, last, h => by
    show ocW x last l + costG ocW (some l) xs r = chg 1 last l + chsL (some l) r
    rw [costW xs r (some l) (by simpa using h)]
    rfl
def sumA : List Int → List Int → Int
  | x :: xs, l :: r => absI (l - x) + sumA xs r
  | _, _ => 0
theorem absI_sub (x l : Int) : absI (x - l) = absI (l - x) := by
  unfold absI
  split <;> split <;> omega
theorem costC (p : Int) : ∀ (xs r : List Int) (last : Option Int), r.length = xs.length → costG (ocC p) last xs r = sumA xs r + p * chsL last r
  | [], [], _, _ => by simp [costG, sumA, chsL]
  | x :: xs, l :: r, last, h => by
    show ocC p x last l + costG (ocC p) (some l) xs r = absI (l - x) + sumA xs r + p * (chg 1 last l + chsL (some l) r)
    rw [costC p xs r (some l) (by simpa using h), Int.mul_add, ← chg_mul]
    unfold ocC
    rw [absI_sub]
    omega
theorem sumA_ok : ∀ (xs r : List Int), r.length = xs.length → ((List.range xs.length).map fun k => absI (r.getD k 0 - xs.getD k 0)).sum = sumA xs r
  | [], [], _ => rfl
  | x :: xs, l :: r, h => by
    rw [List.length_cons, List.range_succ_eq_map, List.map_cons, List.sum_cons, List.map_map]
    show absI (l - x) + _ = absI (l - x) + sumA xs r
    rw [← sumA_ok xs r (by simpa using h)]
    rfl
end K96
end

section
set_option Elab.async false
set_option linter.all false
set_option maxRecDepth 100000
namespace K96
open PySem PySem.Spec PyProof.Rows DL
/-! ### from which hour it is steady -/
def sm (r : List Int) (h k : Nat) : Bool := ((r.drop k).take h).all fun l => decide (l = r.getD k 0)
def sOpt : Option Nat → PyData
  | none => .none
  | some k => .int k
theorem cut_ok (ds : List PyData) (k h : Nat) (hk : k + h ≤ ds.length) : cutL ds (some (k : Int)) (some ((k + h : Nat) : Int)) = (ds.drop k).take h := by
  unfold cutL
  rw [HT.sIx_nat, HT.sIx_nat, show min k ds.length = k by omega, show min (k + h) ds.length - k = h by omega]
theorem slice_row (r : List Int) (k h : Nat) (hk : k + h ≤ r.length) {f fl fh : SE} {ρ : EnvD} {B : Bs} (h1 : f ρ B = some (.d (row r), B)) (h2 : fl ρ B = some (.d (.int k), B)) (h3 : fh ρ B = some (.d (.int (k + h : Nat)), B)) : eSlice f (pSome fl) (pSome fh) ρ B = some (.d (row ((r.drop k).take h)), B) := by
  unfold eSlice pSome
  rw [h1]
  simp only [Option.bind_some, h2, h3]
  have e : sliceD (row r) (some (k : Int)) (some ((k + h : Nat) : Int)) = some (PyData.tuple (cutL (r.map .int) (some (k : Int)) (some ((k + h : Nat) : Int)))) := rfl
  simp only [deref, Option.bind_some, e]
  rw [cut_ok _ _ _ (by rw [List.length_map]; exact hk), ← List.map_drop, ← List.map_take]
  rfl
theorem iter_t {f : SE} {ρ : EnvD} {B B1 : Bs} {ds : List PyData} (h : f ρ B = some (.d (.tuple ds), B1)) : sIter f ρ B = some (ds, B1) := by
  unfold sIter
  rw [h]
  rfl
theorem s_steady (r : List Int) (h : Nat) (h1 : 1 ≤ h) (hh : h ≤ 100) (hr : r.length ≤ 100) (B : Bs) : m_steady_from [.d (row r), .d (.int h)] B = some (.d (sOpt ((List.range (r.length + 1 - h)).find? (sm r h))), B) := by
  have go := for_find (fun k : Nat => PyData.int k) (g := gN 2) (b := (sIf (sB (eCall allF (aCons (eLc (sIter (eSlice (eBor 0) (pSome (eVar 2)) (pSome (eBin addD (eBor 2) (eBor 1))))) (gN 3) sYes (eBin eqD (eBor 3) (eIx (eBor 0) (eBor 2))) [3]) aNil))) (sRet (eVar 2)) sNil)) (B := B) (fun ρ => ∃ s2 s3, ρ = [.sh (.d (row r)), .sh (.d (.int h)), s2, s3]) (sm r h) (fun k : Nat => .d (.int k)) (List.range (r.length + 1 - h)) [.sh (.d (row r)), .sh (.d (.int h)), .un, .un] ⟨_, _, rfl⟩ (by
    rintro k hk ρ ⟨s2, s3, rfl⟩
    rw [List.mem_range] at hk
    have lc := lc_all PyData.int (g := gN 3) (e := eBin eqD (eBor 3) (eIx (eBor 0) (eBor 2))) (ρ0 := [.sh (.d (row r)), .sh (.d (.int h)), .sh (.d (.int k)), .un]) (B := B) (fun l => .bool (decide (l = r.getD k 0))) ((r.drop k).take h) fun l _ =>
      ⟨_, rfl, bin_ok (g := eqD) rfl (ix_ok (f := eBor 0) (h := eBor 2) (dy := .int k) rfl rfl rfl rfl (ix_row r k (by omega))) rfl rfl (eqD_int _ _)⟩
    have sl := slice_row r k h (by omega) (f := eBor 0) (fl := eVar 2) (fh := eBin addD (eBor 2) (eBor 1)) (ρ := [.sh (.d (row r)), .sh (.d (.int h)), .sh (.d (.int k)), s3]) (B := B) rfl rfl rfl
    have e := eLc_ok (vs := [3]) (ρ := [.sh (.d (row r)), .sh (.d (.int h)), .sh (.d (.int k)), s3]) (iter_t sl) (by rw [List.length_map, List.length_take]; have : LIM = 16777216 := rfl; omega) lc
    have t : sB (eCall allF (aCons (eLc (sIter (eSlice (eBor 0) (pSome (eVar 2)) (pSome (eBin addD (eBor 2) (eBor 1))))) (gN 3) sYes (eBin eqD (eBor 3) (eIx (eBor 0) (eBor 2))) [3]) aNil)) [.sh (.d (row r)), .sh (.d (.int h)), .sh (.d (.int k)), s3] B = some (sm r h k, B) := by
      refine sB_ok (call_ok (cons_ok e rfl) rfl ?_)
      have : (List.map (fun l => PyData.bool (decide (l = r.getD k 0))) ((r.drop k).take h)) = (((r.drop k).take h).map fun l => decide (l = r.getD k 0)).map .bool := by
        rw [List.map_map]
        rfl
      rw [this]
      show (asBools _).map _ = _
      rw [asBools_bools]
      unfold sm
      show some (PyData.bool (List.all (List.map _ _) fun b => b)) = _
      rw [List.all_map]
      rfl
    refine ⟨_, rfl, fun hs => ?_, fun hs => ?_⟩
    · rw [hs] at t
      exact ⟨_, (if_t t).trans (ret_ok (x := .d (.int k)) rfl)⟩
    · rw [hs] at t
      exact ⟨_, (if_f t).trans rfl, _, _, rfl⟩)
  have b : sRng rng1F (aCons (eBin addD (eBin subD (eLen (eBor 0)) (eBor 1)) (eC (.int 1))) aNil) [.sh (.d (row r)), .sh (.d (.int h)), .un, .un] B = some ((List.range (r.length + 1 - h)).map fun k : Nat => PyData.int k, B) := by
    refine sRng_ok (vs := [.d (.int ((r.length : Int) - h + 1))]) (cons_ok (bin_ok (g := addD) (bin_ok (g := subD) (len_row r rfl) rfl rfl rfl rfl) rfl rfl rfl rfl) rfl) ?_
    rw [rng1_int _ (by omega), show ((r.length : Int) - h + 1).toNat = r.length + 1 - h by omega, rngD0]
  cases hf : (List.range (r.length + 1 - h)).find? (sm r h) with
  | some k =>
    obtain ⟨ρ', hrun⟩ := go.1 k hf
    exact fun_is (N := 4) (np := 2) rfl rfl (seq_rt ((for_run b).trans hrun))
  | none =>
    obtain ⟨ρ', hrun, _⟩ := go.2 hf
    exact fun_is (N := 4) (np := 2) rfl rfl ((seq_nx ((for_run b).trans hrun)).trans (ret_ok (x := .d .none) rfl))
theorem sm_filter (r : List Int) (h k : Nat) (hk : k + h ≤ r.length) : ((List.range h).filter fun j => !decide (r.getD (k + j) 0 = r.getD k 0)).isEmpty = sm r h k := by
  have e : (r.drop k).take h = (List.range h).map fun j => r.getD (k + j) 0 := by
    refine List.ext_getElem (by rw [List.length_take, List.length_drop, List.length_map, List.length_range]; omega) fun i h1 h2 => ?_
    rw [List.length_map, List.length_range] at h2
    rw [List.getElem_take, List.getElem_drop, List.getElem_map, List.getElem_range, List.getD_eq_getElem?_getD, List.getElem?_eq_getElem (by omega)]
    rfl
  unfold sm
  rw [e, List.all_map, Bool.eq_iff_iff, List.isEmpty_iff, List.filter_eq_nil_iff, List.all_eq_true]
  simp
theorem able_head (r : List Int) (h : Nat) (h1 : 1 ≤ h) : ((List.range r.length).filter fun k => decide (k + h ≤ r.length) && sm r h k).head? = (List.range (r.length + 1 - h)).find? (sm r h) := by
  rw [List.head?_filter]
  have e : List.range r.length = List.range (r.length + 1 - h) ++ (List.range (r.length - (r.length + 1 - h))).map (r.length + 1 - h + ·) := by
    rw [← List.range_add]
    congr 1
    omega
  rw [e, List.find?_append]
  have e1 : (List.range (r.length + 1 - h)).find? (fun k => decide (k + h ≤ r.length) && sm r h k) = (List.range (r.length + 1 - h)).find? (sm r h) := by
    have : ∀ m, m ≤ r.length + 1 - h → (List.range m).find? (fun k => decide (k + h ≤ r.length) && sm r h k) = (List.range m).find? (sm r h) := by
      intro m
      induction m with
      | zero => intro _; rfl
      | succ m ih =>
        intro hm
        rw [List.range_succ, List.find?_append, List.find?_append, ih (by omega)]
        congr 1
        rw [List.find?_cons, List.find?_cons, decide_eq_true (show m + h ≤ r.length by omega), Bool.true_and]
        rfl
    exact this _ (Nat.le_refl _)
  have e2 : ((List.range (r.length - (r.length + 1 - h))).map (r.length + 1 - h + ·)).find? (fun k => decide (k + h ≤ r.length) && sm r h k) = none := by
    rw [List.find?_eq_none]
    intro k hk q
    obtain ⟨j, hj, rfl⟩ := List.mem_map.mp hk
    rw [Bool.and_eq_true, decide_eq_true_eq] at q
    rw [List.mem_range] at hj
    omega
  rw [e1, e2]
  cases (List.range (r.length + 1 - h)).find? (sm r h) <;> rfl
end K96
end

section
set_option Elab.async false
set_option linter.all false
set_option maxRecDepth 100000
namespace K96
open PySem PySem.Spec PyProof.Rows DL
theorem alike_eq : ∀ n, m_law_alike n = lawAlike n
  | 0 => rfl
  | n + 1 => congrArg (fun f => funS 3 2 (bAlike f)) (alike_eq n)
theorem fn_ok {sf : SF} {fs : SA} {ρ : EnvD} {B B1 : Bs} {xs : List Vl} {r : Vl × Bs} (h1 : fs ρ B = some (xs, B1)) (h2 : sf xs B1 = some r) : eFn sf fs ρ B = some r := by
  unfold eFn
  rw [h1]
  exact h2
theorem next_ok {ρ : EnvD} {f : SE} {D : List Int} {p : Nat} {m : Int} (h1 : ρ[1]? = some (.sh (.bx 0))) (hf : ∀ B, f ρ B = some (.d (.int m), B)) (hm : 0 < m) : eFn m_law_next (aCons (eVar 1) (aCons f aNil)) ρ [wB D (p : Nat)] = some (.d (.int (nx D p m)), [wB D (p + 1 : Nat)]) := by
  have e : eVar 1 ρ [wB D (p : Nat)] = some (.bx 0, [wB D (p : Nat)]) := by
    unfold eVar
    rw [h1]
  unfold eFn
  rw [cons_ok e (cons_ok (hf _) (show aNil ρ _ = some ([], _) from rfl))]
  exact s_next D p m (by omega)
theorem tupd {ρ : EnvD} {D : List Int} {p : Nat} {c : Int} (hc : 0 < c) (hc2 : c ≤ 100) (h1 : ρ[1]? = some (.sh (.bx 0))) (h5 : 5 < ρ.length) {e : SE} {Q : Int → Prop} (he : ∀ (k : Sl) (p : Nat), ∃ i, e (ρ.set 5 k) [wB D (p : Nat)] = some (.d (.int i), [wB D (p + 1 : Nat)]) ∧ Q i) :
    ∃ (ns : List Int) (p' : Nat), eCall tupleF (aCons (eLc (sRng rng1F (aCons (eFn m_law_next (aCons (eVar 1) (aCons (eC (.int c)) aNil))) aNil)) (gN 5) sYes e [5]) aNil) ρ [wB D (p : Nat)] = some (.d (row ns), [wB D (p' : Nat)]) ∧ (ns.length : Int) < c ∧ ∀ i ∈ ns, Q i := by
  obtain ⟨n0, n1⟩ := nx_bd D p c hc
  have b : sRng rng1F (aCons (eFn m_law_next (aCons (eVar 1) (aCons (eC (.int c)) aNil))) aNil) ρ [wB D (p : Nat)] = some (rngD 0 (nx D p c).toNat, [wB D (p + 1 : Nat)]) :=
    sRng_ok (vs := [.d (.int (nx D p c))]) (cons_ok (next_ok h1 (fun _ => rfl) hc) rfl) (rng1_int _ (by omega))
  obtain ⟨ys, B', hrun, ⟨p', rfl⟩, hl, hy⟩ := lc_ok (g := gN 5) (t := sYes) (e := e) (ρ0 := wipeD ρ [5]) (fun B => ∃ p : Nat, B = [wB D (p : Nat)]) (fun y => ∃ i : Int, y = .int i ∧ Q i) (rngD 0 (nx D p c).toNat) [wB D (p + 1 : Nat)] ⟨_, rfl⟩ (by
    rintro d B hd ⟨p, rfl⟩
    obtain ⟨i, e1, q⟩ := he (.sh (.d d)) p
    refine ⟨ρ.set 5 (.sh (.d d)), .int i, _, ?_, rfl, e1, ⟨_, rfl⟩, i, rfl, q⟩
    show (if 5 < (ρ.set 5 .un).length then some ((ρ.set 5 .un).set 5 (.sh (.d d))) else none) = _
    rw [if_pos (by rw [List.length_set]; exact h5), List.set_set])
  obtain ⟨ns, rfl, hl2, hQ⟩ := ints_of hy
  refine ⟨ns, p', call_ok (cons_ok (eLc_ok b (by rw [rngD_length]; have : LIM = 16777216 := rfl; omega) hrun) rfl) rfl rfl, ?_, hQ⟩
  rw [hl2, hl, rngD_length]
  omega
/-- the slots of the law -/
abbrev en (F : Vl) (s2 s3 s4 s5 s6 s7 s8 s9 s10 s11 s12 s13 s14 s15 : Sl) : EnvD := [.sh F, .sh (.bx 0), s2, s3, s4, s5, s6, s7, s8, s9, s10, s11, s12, s13, s14, s15]
variable {F : Vl} {s2 s3 s4 s5 s6 s7 s8 s9 s10 s11 s12 s13 s14 s15 : Sl} {B : Bs}
theorem least_all {lv : Int → List Int} {oc : Int → Option Int → Int → Int} {xs : List Int} (hne : ∀ x ∈ xs, lv x ≠ []) : (allR (xs.map lv)).map (fun r => (costG oc none xs r, r)) ≠ [] ∧ leastOf ((allR (xs.map lv)).map (fun r => (costG oc none xs r, r))) = bestG lv oc xs none := by
  have h := best_least (oc := oc) xs none hne
  have h2 : Least ((allR (xs.map lv)).map (fun r => (costG oc none xs r, r))) (bestG lv oc xs none) := h.same fun x => by
    rw [List.mem_map, List.mem_map]
    constructor
    · rintro ⟨r, hr, e⟩
      exact ⟨r, (mem_allR lv xs r).mpr hr, e⟩
    · rintro ⟨r, hr, e⟩
      exact ⟨r, (mem_allR lv xs r).mp hr, e⟩
  have hn : (allR (xs.map lv)).map (fun r => (costG oc none xs r, r)) ≠ [] := List.ne_nil_of_mem h2.1
  exact ⟨hn, (leastOf_ok hn).uniq h2⟩
theorem allR_small {owns : List (List Int)} (ho : ∀ o ∈ owns, o.length ≤ 5) (hl : owns.length ≤ 5) : (allR owns).length ≤ 3125 := by
  have : ∀ (os : List (List Int)) (F : List (List Int)), (∀ o ∈ os, o.length ≤ 5) → (os.foldl stepR F).length ≤ F.length * 5 ^ os.length := by
    intro os
    induction os with
    | nil => intro F _; simp
    | cons o os ih =>
      intro F h
      rw [List.foldl_cons]
      have := ih (stepR F o) fun o' ho' => h o' (List.mem_cons_of_mem _ ho')
      rw [stepR_len] at this
      refine Nat.le_trans this ?_
      rw [List.length_cons, Nat.pow_succ, Nat.mul_comm (5 ^ os.length) 5, ← Nat.mul_assoc]
      exact Nat.mul_le_mul_right _ (Nat.mul_le_mul_left _ (h o List.mem_cons_self))
  have h := this owns [[]] ho
  have h5 : 5 ^ owns.length ≤ 3125 := Nat.pow_le_pow_right (n := 5) (by omega) hl
  unfold allR
  rw [List.length_singleton, Nat.one_mul] at h
  omega
theorem s_due (most : Nat) (price : Int) (hp : price.natAbs < 100) (srs : List Int) (hs : srs.length ≤ 5) (hm : most ≤ 3) :
    eCall minF (aCons (eLc (sIter (eVar 7)) (gN 8) sYes (eTup (aCons (eBin addD (eCall sumF (aCons (eLc (sRng rng1F (aCons (eLen (eBor 6)) aNil)) (gN 5) sYes (eCall absD (aCons (eBin subD (eIx (eBor 8) (eBor 5)) (eIx (eBor 6) (eBor 5))) aNil)) [5]) aNil)) (eBin mulD (eBor 4) (eFn m_law_changes (aCons (eVar 8) aNil)))) (aCons (eVar 8) aNil))) [8]) aNil)
      (en F s2 s3 (.sh (.d (.int price))) s5 (.sh (.d (row srs))) (.sh (.d (.list ((allR (srs.map (lvC most))).map row)))) s8 s9 s10 s11 s12 s13 s14 s15) B = some (.d (encR (bC most price srs none)), B) := by
  have hne : ∀ x ∈ srs, lvC most x ≠ [] := fun x _ e => by
    have := congrArg List.length e
    simp [lvC] at this
  obtain ⟨h1, h2⟩ := least_all (oc := ocC price) hne
  have hrow : ∀ r ∈ allR (srs.map (lvC most)), r.length = srs.length := fun r hr => rowsG_len _ srs r ((mem_allR _ _ r).mp hr)
  have lc := lc_all row (g := gN 8) (e := eTup (aCons (eBin addD (eCall sumF (aCons (eLc (sRng rng1F (aCons (eLen (eBor 6)) aNil)) (gN 5) sYes (eCall absD (aCons (eBin subD (eIx (eBor 8) (eBor 5)) (eIx (eBor 6) (eBor 5))) aNil)) [5]) aNil)) (eBin mulD (eBor 4) (eFn m_law_changes (aCons (eVar 8) aNil)))) (aCons (eVar 8) aNil)))
    (ρ0 := en F s2 s3 (.sh (.d (.int price))) s5 (.sh (.d (row srs))) (.sh (.d (.list ((allR (srs.map (lvC most))).map row)))) .un s9 s10 s11 s12 s13 s14 s15) (B := B) (fun r => encR (costG (ocC price) none srs r, r)) (allR (srs.map (lvC most))) fun r hr => by
    have hl := hrow r hr
    refine ⟨en F s2 s3 (.sh (.d (.int price))) s5 (.sh (.d (row srs))) (.sh (.d (.list ((allR (srs.map (lvC most))).map row)))) (.sh (.d (row r))) s9 s10 s11 s12 s13 s14 s15, rfl, ?_⟩
    have lc2 := lc_all (fun k : Nat => PyData.int k) (g := gN 5) (e := eCall absD (aCons (eBin subD (eIx (eBor 8) (eBor 5)) (eIx (eBor 6) (eBor 5))) aNil))
      (ρ0 := en F s2 s3 (.sh (.d (.int price))) .un (.sh (.d (row srs))) (.sh (.d (.list ((allR (srs.map (lvC most))).map row)))) (.sh (.d (row r))) s9 s10 s11 s12 s13 s14 s15) (B := B) (fun k => .int (absI (r.getD k 0 - srs.getD k 0))) (List.range srs.length) fun k hk => by
      rw [List.mem_range] at hk
      refine ⟨_, rfl, call_ok (cons_ok (bin_ok (g := subD) (ix_ok (f := eBor 8) (h := eBor 5) (dy := .int k) rfl rfl rfl rfl (ix_row r k (by omega))) (ix_ok (f := eBor 6) (h := eBor 5) (dy := .int k) rfl rfl rfl rfl (ix_row srs k hk)) rfl rfl rfl) rfl) rfl rfl⟩
    rw [← rngD0] at lc2
    have e1 := eLc_ok (vs := [5]) (ρ := en F s2 s3 (.sh (.d (.int price))) s5 (.sh (.d (row srs))) (.sh (.d (.list ((allR (srs.map (lvC most))).map row)))) (.sh (.d (row r))) s9 s10 s11 s12 s13 s14 s15) (rng_run (fs := aCons (eLen (eBor 6)) aNil) (n := srs.length) (cons_ok (len_row srs rfl) rfl) (by omega)) (by rw [rngD_length]; have : LIM = 16777216 := rfl; omega) lc2
    have hsum : sumF [.list ((List.range srs.length).map (fun k => PyData.int (absI (r.getD k 0 - srs.getD k 0))))] = some (.int (sumA srs r)) := by
      have : (List.range srs.length).map (fun k => PyData.int (absI (r.getD k 0 - srs.getD k 0))) = ((List.range srs.length).map fun k => absI (r.getD k 0 - srs.getD k 0)).map .int := by
        rw [List.map_map]
        rfl
      rw [this]
      show (asInts _).map _ = _
      rw [asInts_ints]
      show some (PyData.int _) = _
      rw [sumA_ok srs r hl]
    have e2 := call_ok (cons_ok e1 (show aNil _ B = some ([], B) from rfl)) rfl hsum
    have e3 : eFn m_law_changes (aCons (eVar 8) aNil) (en F s2 s3 (.sh (.d (.int price))) s5 (.sh (.d (row srs))) (.sh (.d (.list ((allR (srs.map (lvC most))).map row)))) (.sh (.d (row r))) s9 s10 s11 s12 s13 s14 s15) B = some (.d (.int (chs r)), B) := fn_ok (xs := [.d (row r)]) rfl (s_lchanges r (by omega) B)
    have e4 := bin_ok (g := mulD) (f := eBor 4) rfl e3 rfl rfl (mulD_l price (chs r) (by omega))
    have e5 := tup2_ok (bin_ok (g := addD) e2 e4 rfl rfl rfl) (show eVar 8 (en F s2 s3 (.sh (.d (.int price))) s5 (.sh (.d (row srs))) (.sh (.d (.list ((allR (srs.map (lvC most))).map row)))) (.sh (.d (row r))) s9 s10 s11 s12 s13 s14 s15) B = some (.d (row r), B) from rfl)
    rw [costC price srs r none hl]
    exact e5
  have sm : (allR (srs.map (lvC most))).length ≤ 3125 := allR_small (fun o ho => by
    obtain ⟨x, _, rfl⟩ := List.mem_map.mp ho
    simp [lvC]
    omega) (by rw [List.length_map]; exact hs)
  have e := eLc_ok (vs := [8]) (ρ := en F s2 s3 (.sh (.d (.int price))) s5 (.sh (.d (row srs))) (.sh (.d (.list ((allR (srs.map (lvC most))).map row)))) s8 s9 s10 s11 s12 s13 s14 s15) (iter_d (f := eVar 7) rfl) (by rw [List.length_map]; have : LIM = 16777216 := rfl; omega) lc
  refine call_ok (cons_ok e rfl) rfl ?_
  have m := min_leastOf h1
  rw [h2, List.map_map] at m
  exact m
end K96
end

section
set_option Elab.async false
set_option linter.all false
set_option maxRecDepth 100000
namespace K96
open PySem PySem.Spec PyProof.Rows DL
variable {F : Vl} {s2 s3 s4 s5 s6 s7 s8 s9 s10 s11 s12 s13 s14 s15 : Sl} {B : Bs}
theorem s_dueW (most : Nat) (srs : List Int) (hs : srs.length ≤ 5) (hm : most ≤ 2) :
    eCall minF (aCons (eLc (sIter (eVar 7)) (gN 8) sYes (eTup (aCons (eFn m_law_changes (aCons (eVar 8) aNil)) (aCons (eVar 8) aNil))) [8]) aNil)
      (en F s2 s3 s4 s5 s6 (.sh (.d (.list ((allR (srs.map (lvW most))).map row)))) s8 s9 s10 s11 s12 s13 s14 s15) B = some (.d (encR (bW most srs none)), B) := by
  have hne : ∀ x ∈ srs, lvW most x ≠ [] := fun x _ e => by
    have := congrArg List.length e
    rw [lvW_len] at this
    simp at this
  obtain ⟨h1, h2⟩ := least_all (oc := ocW) hne
  have hrow : ∀ r ∈ allR (srs.map (lvW most)), r.length = srs.length := fun r hr => rowsG_len _ srs r ((mem_allR _ _ r).mp hr)
  have lc := lc_all row (g := gN 8) (e := eTup (aCons (eFn m_law_changes (aCons (eVar 8) aNil)) (aCons (eVar 8) aNil)))
    (ρ0 := en F s2 s3 s4 s5 s6 (.sh (.d (.list ((allR (srs.map (lvW most))).map row)))) .un s9 s10 s11 s12 s13 s14 s15) (B := B) (fun r => encR (costG ocW none srs r, r)) (allR (srs.map (lvW most))) fun r hr => by
    have hl := hrow r hr
    refine ⟨en F s2 s3 s4 s5 s6 (.sh (.d (.list ((allR (srs.map (lvW most))).map row)))) (.sh (.d (row r))) s9 s10 s11 s12 s13 s14 s15, rfl, ?_⟩
    have e3 : eFn m_law_changes (aCons (eVar 8) aNil) (en F s2 s3 s4 s5 s6 (.sh (.d (.list ((allR (srs.map (lvW most))).map row)))) (.sh (.d (row r))) s9 s10 s11 s12 s13 s14 s15) B = some (.d (.int (chs r)), B) := fn_ok (xs := [.d (row r)]) rfl (s_lchanges r (by omega) B)
    rw [costW srs r none hl]
    exact tup2_ok e3 rfl
  have sm : (allR (srs.map (lvW most))).length ≤ 3125 := allR_small (fun o ho => by
    obtain ⟨x, _, rfl⟩ := List.mem_map.mp ho
    rw [lvW_len]
    omega) (by rw [List.length_map]; exact hs)
  have e := eLc_ok (vs := [8]) (ρ := en F s2 s3 s4 s5 s6 (.sh (.d (.list ((allR (srs.map (lvW most))).map row)))) s8 s9 s10 s11 s12 s13 s14 s15) (iter_d (f := eVar 7) rfl) (by rw [List.length_map]; have : LIM = 16777216 := rfl; omega) lc
  refine call_ok (cons_ok e rfl) rfl ?_
  have m := min_leastOf h1
  rw [h2, List.map_map] at m
  exact m
theorem rep_map (x : PyData) : ∀ srs : List Int, (List.replicate srs.length [x]).flatten = srs.map fun _ => x
  | [] => rfl
  | s :: srs => by
    rw [List.length_cons, List.replicate_succ, List.flatten_cons, rep_map x srs]
    rfl
theorem repD_ok (x : PyData) (srs : List Int) (h : srs.length ≤ 100) : repD (.list [x]) (.int srs.length) = some (.list (srs.map fun _ => x)) := by
  show (if (IB (srs.length : Int) && decide ([x].length * (srs.length : Int).toNat ≤ LIM)) = true then some (PyData.list (List.replicate (srs.length : Int).toNat [x]).flatten) else none) = _
  rw [if_pos, Int.toNat_natCast, rep_map]
  have lim : LIM = 16777216 := rfl
  simp only [IB, Bool.and_eq_true, decide_eq_true_eq, List.length_singleton]
  omega
theorem lst1_ok {f : SE} {ρ : EnvD} {x : PyData} (h : f ρ B = some (.d x, B)) : eLst (aCons f aNil) ρ B = some (.d (.list [x]), B) := by
  unfold eLst
  rw [cons_ok h (show aNil _ B = some ([], B) from rfl)]
  show (if [x].length ≤ LIM then some (Vl.d (.list [x]), B) else none) = _
  rw [if_pos]
  have lim : LIM = 16777216 := rfl
  simp only [List.length_singleton]
  omega
theorem q0_ok (most : Nat) (x : Int) : rngD 0 (most + 1) = (lvC most x).map .int := by
  rw [rngD0]
  unfold lvC
  rw [List.map_map]
  exact List.map_congr_left fun _ _ => rfl
theorem ib_ok (i : Int) (h : i.natAbs < 1000000) : IB i = true := by
  simp only [IB, Bool.and_eq_true, decide_eq_true_eq]
  omega
theorem lstRg_ok {rg : List Vl → Option (Int × Int)} {fs : SA} {ρ : EnvD} {vs : List Vl} {B1 : Bs} (i j : Int) (hi : i.natAbs < 100000) (hj : j.natAbs < 100000) (h : fs ρ B = some (vs, B1)) (hr : rg vs = some (i, j)) : eLstRg rg fs ρ B = some (.d (.list (rngD i (j - i).toNat)), B1) := by
  have c : (IB i && IB j && decide ((j - i).toNat ≤ LIM)) = true := by
    have lim : LIM = 16777216 := rfl
    rw [ib_ok i (by omega), ib_ok j (by omega), decide_eq_true (by omega)]
    rfl
  unfold eLstRg
  rw [h]
  simp only [Option.bind_some, hr, if_pos c]
theorem lstRg1 {fs : SA} {ρ : EnvD} (n : Nat) (hn : n ≤ 100) (h : fs ρ B = some ([.d (.int ((n : Int) + 1))], B)) : eLstRg rgF1 fs ρ B = some (.d (.list (rngD 0 (n + 1))), B) := by
  have e : ((n : Int) + 1 - 0).toNat = n + 1 := by omega
  have := lstRg_ok 0 ((n : Int) + 1) (by decide) (by omega) h (show rgF1 [.d (.int ((n : Int) + 1))] = some (0, (n : Int) + 1) from rfl)
  rw [e] at this
  exact this
theorem s_every (most : Nat) (srs : List Int) (hs : srs.length ≤ 5) (hm : most ≤ 3) :
    eFn m_law_all (aCons (eBin repD (eLst (aCons (eLstRg rgF1 (aCons (eBin addD (eBor 3) (eC (.int 1))) aNil)) aNil)) (eLen (eBor 6))) aNil) (en F s2 (.sh (.d (.int most))) s4 s5 (.sh (.d (row srs))) s7 s8 s9 s10 s11 s12 s13 s14 s15) B = some (.d (.list ((allR (srs.map (lvC most))).map row)), B) := by
  have q : (srs.map fun _ => PyData.list (rngD 0 (most + 1))) = (srs.map (lvC most)).map fun o => .list (o.map .int) := by
    rw [List.map_map]
    exact List.map_congr_left fun x _ => congrArg PyData.list (q0_ok most x)
  have rp := repD_ok (PyData.list (rngD 0 (most + 1))) srs (by omega)
  rw [q] at rp
  have e2 := bin_ok (ρ := en F s2 (.sh (.d (.int most))) s4 s5 (.sh (.d (row srs))) s7 s8 s9 s10 s11 s12 s13 s14 s15) (B := B) (lst1_ok (lstRg1 most (by omega) (fs := aCons (eBin addD (eBor 3) (eC (.int 1))) aNil) rfl)) (len_row srs (f := eBor 6) rfl) rfl rfl rp
  refine fn_ok (cons_ok e2 (show aNil _ B = some ([], B) from rfl)) (s_all (srs.map (lvC most)) (fun o ho => ?_) (by rw [List.length_map]; exact hs) B)
  obtain ⟨x, _, rfl⟩ := List.mem_map.mp ho
  unfold lvC
  rw [List.length_map, List.length_range]
  omega
theorem s_everyW (most : Nat) (srs : List Int) (hs : srs.length ≤ 5) (hm : most ≤ 2) (hv : ∀ x ∈ srs, x.natAbs ≤ 1000) :
    eFn m_law_all (aCons (eLc (sIter (eVar 11)) (gN 12) sYes (eLstRg rgF2 (aCons (eBin subD (eBor 12) (eBor 10)) (aCons (eBin addD (eBin addD (eBor 12) (eBor 10)) (eC (.int 1))) aNil))) [12]) aNil) (en F s2 s3 s4 s5 s6 s7 s8 s9 (.sh (.d (.int most))) (.sh (.d (row srs))) s12 s13 s14 s15) B = some (.d (.list ((allR (srs.map (lvW most))).map row)), B) := by
  have lim : LIM = 16777216 := rfl
  have lc := lc_all PyData.int (g := gN 12) (e := eLstRg rgF2 (aCons (eBin subD (eBor 12) (eBor 10)) (aCons (eBin addD (eBin addD (eBor 12) (eBor 10)) (eC (.int 1))) aNil))) (ρ0 := en F s2 s3 s4 s5 s6 s7 s8 s9 (.sh (.d (.int most))) (.sh (.d (row srs))) .un s13 s14 s15) (B := B) (fun x => .list ((lvW most x).map .int)) srs fun x hx => by
    have hx := hv x hx
    refine ⟨en F s2 s3 s4 s5 s6 s7 s8 s9 (.sh (.d (.int most))) (.sh (.d (row srs))) (.sh (.d (.int x))) s13 s14 s15, rfl, ?_⟩
    unfold eLstRg
    rw [show aCons (eBin subD (eBor 12) (eBor 10)) (aCons (eBin addD (eBin addD (eBor 12) (eBor 10)) (eC (.int 1))) aNil) (en F s2 s3 s4 s5 s6 s7 s8 s9 (.sh (.d (.int most))) (.sh (.d (row srs))) (.sh (.d (.int x))) s13 s14 s15) B = some ([.d (.int (x - most)), .d (.int (x + most + 1))], B) from rfl]
    simp only [Option.bind_some, rgF2]
    rw [if_pos]
    · unfold lvW rngD
      rw [List.map_map]
      rfl
    · simp only [IB, Bool.and_eq_true, decide_eq_true_eq]
      omega
  have e := eLc_ok (vs := [12]) (ρ := en F s2 s3 s4 s5 s6 s7 s8 s9 (.sh (.d (.int most))) (.sh (.d (row srs))) s12 s13 s14 s15) (iter_t (f := eVar 11) rfl) (by rw [List.length_map]; omega) lc
  have q : srs.map (fun x => PyData.list ((lvW most x).map .int)) = (srs.map (lvW most)).map fun o => .list (o.map .int) := by
    rw [List.map_map]
    rfl
  rw [q] at e
  refine fn_ok (cons_ok e (show aNil _ B = some ([], B) from rfl)) (s_all (srs.map (lvW most)) (fun o ho => ?_) (by rw [List.length_map]; exact hs) B)
  obtain ⟨x, _, rfl⟩ := List.mem_map.mp ho
  rw [lvW_len]
  omega
theorem s_able (r : List Int) (h : Nat) (hr : r.length ≤ 100) (hh : h ≤ 100) :
    eLc (sRng rng1F (aCons (eLen (eBor 8)) aNil)) (gN 5) (sAnd (sB (eBin leD (eBin addD (eBor 5) (eBor 13)) (eLen (eBor 8)))) (sB (eBin eqD (eLc (sRng rng2F (aCons (eVar 5) (aCons (eBin addD (eBor 5) (eBor 13)) aNil))) (gN 14) (sB (eBin neD (eIx (eBor 8) (eBor 14)) (eIx (eBor 8) (eBor 5)))) (eVar 14) [14]) (eLst aNil)))) (eVar 5) [5]
      (en F s2 s3 s4 s5 s6 s7 (.sh (.d (row r))) s9 s10 s11 s12 (.sh (.d (.int h))) s14 s15) B = some (.d (.list (((List.range r.length).filter fun k => decide (k + h ≤ r.length) && sm r h k).map fun k : Nat => .int k)), B) := by
  have lim : LIM = 16777216 := rfl
  have lc := lc_mapE (fun k : Nat => PyData.int k) (g := gN 5) (t := (sAnd (sB (eBin leD (eBin addD (eBor 5) (eBor 13)) (eLen (eBor 8)))) (sB (eBin eqD (eLc (sRng rng2F (aCons (eVar 5) (aCons (eBin addD (eBor 5) (eBor 13)) aNil))) (gN 14) (sB (eBin neD (eIx (eBor 8) (eBor 14)) (eIx (eBor 8) (eBor 5)))) (eVar 14) [14]) (eLst aNil))))) (e := eVar 5)
    (ρ0 := en F s2 s3 s4 .un s6 s7 (.sh (.d (row r))) s9 s10 s11 s12 (.sh (.d (.int h))) s14 s15) (B := B) (fun k => decide (k + h ≤ r.length) && sm r h k) (fun k : Nat => .int k) (List.range r.length) fun k hk => by
    rw [List.mem_range] at hk
    refine ⟨en F s2 s3 s4 (.sh (.d (.int k))) s6 s7 (.sh (.d (row r))) s9 s10 s11 s12 (.sh (.d (.int h))) s14 s15, rfl, ?_, fun _ => rfl⟩
    have t1 : sB (eBin leD (eBin addD (eBor 5) (eBor 13)) (eLen (eBor 8))) (en F s2 s3 s4 (.sh (.d (.int k))) s6 s7 (.sh (.d (row r))) s9 s10 s11 s12 (.sh (.d (.int h))) s14 s15) B = some (decide (k + h ≤ r.length), B) := by
      refine (sB_ok (bin_ok (g := leD) (x := .d (.int ((k : Int) + h))) rfl (len_row r rfl) rfl rfl (leD_int _ _))).trans ?_
      have : decide ((k : Int) + h ≤ r.length) = decide (k + h ≤ r.length) := by
        rw [decide_eq_decide]
        omega
      rw [this]
    by_cases hq : k + h ≤ r.length
    · rw [decide_eq_true hq] at t1 ⊢
      refine (sand_t t1).trans ?_
      have lc2 := lc_mapE (fun j : Nat => PyData.int (k + j)) (g := gN 14) (t := sB (eBin neD (eIx (eBor 8) (eBor 14)) (eIx (eBor 8) (eBor 5)))) (e := eVar 14) (ρ0 := en F s2 s3 s4 (.sh (.d (.int k))) s6 s7 (.sh (.d (row r))) s9 s10 s11 s12 (.sh (.d (.int h))) .un s15) (B := B) (fun j => !decide (r.getD (k + j) 0 = r.getD k 0)) (fun j : Nat => .int (k + j)) (List.range h) fun j hj => by
        rw [List.mem_range] at hj
        refine ⟨en F s2 s3 s4 (.sh (.d (.int k))) s6 s7 (.sh (.d (row r))) s9 s10 s11 s12 (.sh (.d (.int h))) (.sh (.d (.int (k + j)))) s15, rfl, ?_, fun _ => rfl⟩
        exact sB_ok (bin_ok (g := neD) (ix_ok (f := eBor 8) (h := eBor 14) (dy := .int ((k + j : Nat) : Int)) rfl rfl rfl rfl (ix_row r (k + j) (by omega))) (ix_ok (f := eBor 8) (h := eBor 5) (dy := .int k) rfl rfl rfl rfl (ix_row r k hk)) rfl rfl (neD_int _ _))
      have b : sRng rng2F (aCons (eVar 5) (aCons (eBin addD (eBor 5) (eBor 13)) aNil)) (en F s2 s3 s4 (.sh (.d (.int k))) s6 s7 (.sh (.d (row r))) s9 s10 s11 s12 (.sh (.d (.int h))) s14 s15) B = some ((List.range h).map (fun j : Nat => PyData.int (k + j)), B) := by
        refine sRng_ok (vs := [.d (.int k), .d (.int ((k : Int) + h))]) rfl ?_
        rw [rng2_int _ _ (by omega) (by omega), show ((k : Int) + h - k).toNat = h by omega]
        rfl
      have e := eLc_ok (vs := [14]) b (by rw [List.length_map, List.length_range]; omega) lc2
      have q : ((List.range h).filter fun j => !decide (r.getD (k + j) 0 = r.getD k 0)).map (fun j : Nat => PyData.int (k + j)) = (((List.range h).filter fun j => !decide (r.getD (k + j) 0 = r.getD k 0)).map (fun j : Nat => (k : Int) + j)).map .int := by
        rw [List.map_map]
        rfl
      rw [q] at e
      have := sB_ok (bin_ok (g := eqD) (h := eLst aNil) (y := .d (.list [])) e rfl rfl rfl (eqD_ints_nil _))
      rw [List.isEmpty_map, sm_filter r h k hq] at this
      exact this
    · rw [decide_eq_false hq] at t1 ⊢
      exact (sand_f t1).trans rfl
  rw [← rngD0] at lc
  exact eLc_ok (vs := [5]) (ρ := en F s2 s3 s4 s5 s6 s7 (.sh (.d (row r))) s9 s10 s11 s12 (.sh (.d (.int h))) s14 s15) (rng_run (fs := aCons (eLen (eBor 8)) aNil) (n := r.length) (cons_ok (len_row r rfl) rfl) (by omega)) (by rw [rngD_length]; omega) lc
end K96
end

section
set_option Elab.async false
set_option linter.all false
set_option maxRecDepth 100000
namespace K96
open PySem PySem.Spec PyProof.Rows DL
variable {F : Vl} {s2 s3 s4 s5 s6 s7 s8 s9 s10 s11 s12 s13 s14 s15 : Sl}
abbrev bodyL : SS := (sSeq (sAsgG (gTn 2 (gsCons (gN 3) (gsCons (gN 4) gsNil))) (eTup (aCons (eBin addD (eC (.int 1)) (eFn m_law_next (aCons (eVar 1) (aCons (eC (.int 3)) aNil)))) (aCons (eFn m_law_next (aCons (eVar 1) (aCons (eC (.int 5)) aNil))) aNil)))) (sSeq (sSet 6 (eCall tupleF (aCons (eLc (sRng rng1F (aCons (eFn m_law_next (aCons (eVar 1) (aCons (eC (.int 6)) aNil))) aNil)) (gN 5) sYes (eFn m_law_next (aCons (eVar 1) (aCons (eBin addD (eBor 3) (eC (.int 1))) aNil))) [5]) aNil))) (sSeq (sSet 7 (eFn m_law_all (aCons (eBin repD (eLst (aCons (eLstRg rgF1 (aCons (eBin addD (eBor 3) (eC (.int 1))) aNil)) aNil)) (eLen (eBor 6))) aNil))) (sSeq (sSet 9 (eCall minF (aCons (eLc (sIter (eVar 7)) (gN 8) sYes (eTup (aCons (eBin addD (eCall sumF (aCons (eLc (sRng rng1F (aCons (eLen (eBor 6)) aNil)) (gN 5) sYes (eCall absD (aCons (eBin subD (eIx (eBor 8) (eBor 5)) (eIx (eBor 6) (eBor 5))) aNil)) [5]) aNil)) (eBin mulD (eBor 4) (eFn m_law_changes (aCons (eVar 8) aNil)))) (aCons (eVar 8) aNil))) [8]) aNil))) (sSeq (sIf (sNot (sB (eFn (m_law_alike 6) (aCons (eFn m_calm_levels (aCons (eVar 6) (aCons (eVar 3) (aCons (eVar 4) aNil)))) (aCons (eVar 9) aNil))))) (sRet (eC (.bool false))) sNil) (sSeq (sSet 10 (eFn m_law_next (aCons (eVar 1) (aCons (eC (.int 3)) aNil)))) (sSeq (sSet 11 (eCall tupleF (aCons (eLc (sRng rng1F (aCons (eFn m_law_next (aCons (eVar 1) (aCons (eC (.int 5)) aNil))) aNil)) (gN 5) sYes (eBin subD (eFn m_law_next (aCons (eVar 1) (aCons (eC (.int 7)) aNil))) (eC (.int 2))) [5]) aNil))) (sSeq (sSet 7 (eFn m_law_all (aCons (eLc (sIter (eVar 11)) (gN 12) sYes (eLstRg rgF2 (aCons (eBin subD (eBor 12) (eBor 10)) (aCons (eBin addD (eBin addD (eBor 12) (eBor 10)) (eC (.int 1))) aNil))) [12]) aNil))) (sSeq (sIf (sNot (sB (eFn (m_law_alike 6) (aCons (eFn m_calm_within (aCons (eVar 11) (aCons (eVar 10) aNil))) (aCons (eCall minF (aCons (eLc (sIter (eVar 7)) (gN 8) sYes (eTup (aCons (eFn m_law_changes (aCons (eVar 8) aNil)) (aCons (eVar 8) aNil))) [8]) aNil)) aNil))))) (sRet (eC (.bool false))) sNil) (sSeq (sAsgG (gTn 2 (gsCons (gN 8) (gsCons (gN 13) gsNil))) (eTup (aCons (eCall tupleF (aCons (eLc (sRng rng1F (aCons (eFn m_law_next (aCons (eVar 1) (aCons (eC (.int 9)) aNil))) aNil)) (gN 5) sYes (eFn m_law_next (aCons (eVar 1) (aCons (eC (.int 2)) aNil))) [5]) aNil)) (aCons (eBin addD (eC (.int 1)) (eFn m_law_next (aCons (eVar 1) (aCons (eC (.int 4)) aNil)))) aNil)))) (sSeq (sSet 15 (eLc (sRng rng1F (aCons (eLen (eBor 8)) aNil)) (gN 5) (sAnd (sB (eBin leD (eBin addD (eBor 5) (eBor 13)) (eLen (eBor 8)))) (sB (eBin eqD (eLc (sRng rng2F (aCons (eVar 5) (aCons (eBin addD (eBor 5) (eBor 13)) aNil))) (gN 14) (sB (eBin neD (eIx (eBor 8) (eBor 14)) (eIx (eBor 8) (eBor 5)))) (eVar 14) [14]) (eLst aNil)))) (eVar 5) [5])) (sIf (sOr (sNot (sB (eFn (m_law_alike 6) (aCons (eFn m_changes_in (aCons (eVar 8) aNil)) (aCons (eFn m_law_changes (aCons (eVar 8) aNil)) aNil))))) (sNot (sB (eFn (m_law_alike 6) (aCons (eFn m_steady_from (aCons (eVar 8) (aCons (eVar 13) aNil))) (aCons (eIf (sB (eBin neD (eBor 15) (eLst aNil))) (eIx (eBor 15) (eC (.int 0))) (eC .none)) aNil)))))) (sRet (eC (.bool false))) sNil))))))))))))
theorem eif_t {t : SB} {f h : SE} {ρ : EnvD} {B B1 : Bs} (e : t ρ B = some (true, B1)) : eIf t f h ρ B = f ρ B1 := by
  unfold eIf
  rw [e]
  rfl
theorem pcons_ok {fk fv : SE} {fr : SPr} {ρ : EnvD} {B B1 B2 B3 : Bs} {k v : PyData} {r : List (PyData × PyData)} (h1 : fk ρ B = some (.d k, B1)) (h2 : fv ρ B1 = some (.d v, B2)) (h3 : fr ρ B2 = some (r, B3)) : pCons fk fv fr ρ B = some ((k, v) :: r, B3) := by
  unfold pCons
  rw [h1]
  simp only [Option.bind_some, h2, h3, unD]
theorem alike6 {f g : SE} {ρ : EnvD} {B B1 B2 : Bs} {d : PyData} (h1 : f ρ B = some (.d d, B1)) (h2 : g ρ B1 = some (.d d, B2)) (a : Al 6 d) : sNot (sB (eFn (m_law_alike 6) (aCons f (aCons g aNil)))) ρ B = some (false, B2) :=
  have al : m_law_alike 6 [.d d, .d d] B2 = some (.d (.bool true), B2) := by
    rw [alike_eq 6]
    exact s_alike a B2
  snot_ok (sB_ok (fn_ok (cons_ok h1 (cons_ok h2 (show aNil ρ B2 = some ([], B2) from rfl))) al))
theorem enc_al {c : CR} (h : c.2.length ≤ 100) : Al 6 (encR c) := al_encR 3 c (by omega)
theorem sOpt_al (o : Option Nat) : Al 6 (sOpt o) := by
  cases o with
  | none => exact .none
  | some k => exact .int _
theorem step (D : List Int) (p : Nat) : ∃ s3' s4' s5' s6' s7' s8' s9' s10' s11' s12' s13' s14' s15' : Sl, ∃ p' : Nat,
    bodyL (en F s2 s3 s4 s5 s6 s7 s8 s9 s10 s11 s12 s13 s14 s15) [wB D (p : Nat)] = some (.nx, en F s2 s3' s4' s5' s6' s7' s8' s9' s10' s11' s12' s13' s14' s15', [wB D (p' : Nat)]) := by
  obtain ⟨a0, a1⟩ := nx_bd D p 3 (by omega)
  obtain ⟨b0, b1⟩ := nx_bd D (p + 1) 5 (by omega)
  generalize hpr : nx D (p + 1) 5 = price at b0 b1
  obtain ⟨most, hmost⟩ : ∃ most : Nat, 1 + nx D p 3 = most := ⟨(1 + nx D p 3).toNat, by omega⟩
  have r1 : sAsgG (gTn 2 (gsCons (gN 3) (gsCons (gN 4) gsNil))) (eTup (aCons (eBin addD (eC (.int 1)) (eFn m_law_next (aCons (eVar 1) (aCons (eC (.int 3)) aNil)))) (aCons (eFn m_law_next (aCons (eVar 1) (aCons (eC (.int 5)) aNil))) aNil))) (en F s2 s3 s4 s5 s6 s7 s8 s9 s10 s11 s12 s13 s14 s15) [wB D (p : Nat)] = some (.nx, en F s2 (.sh (.d (.int most))) (.sh (.d (.int price))) s5 s6 s7 s8 s9 s10 s11 s12 s13 s14 s15, [wB D (p + 1 + 1 : Nat)]) := by
    have e := tup2_ok (bin_ok (g := addD) (f := eC (.int 1)) (ρ := en F s2 s3 s4 s5 s6 s7 s8 s9 s10 s11 s12 s13 s14 s15) (B := [wB D (p : Nat)]) rfl (next_ok (f := eC (.int 3)) (p := p) rfl (fun _ => rfl) (show (0 : Int) < 3 by omega)) rfl rfl (show _ = some (.int (1 + nx D p 3)) from rfl)) (next_ok (f := eC (.int 5)) (p := p + 1) rfl (fun _ => rfl) (show (0 : Int) < 5 by omega))
    rw [hmost, hpr] at e
    unfold sAsgG
    rw [e]
    rfl
  obtain ⟨srs, p2, e2, l2, q2⟩ := tupd (ρ := en F s2 (.sh (.d (.int most))) (.sh (.d (.int price))) s5 s6 s7 s8 s9 s10 s11 s12 s13 s14 s15) (D := D) (p := p + 1 + 1) (c := 6) (by omega) (by omega) rfl (show 5 < 16 by omega) (e := eFn m_law_next (aCons (eVar 1) (aCons (eBin addD (eBor 3) (eC (.int 1))) aNil))) (Q := fun _ => True) fun k p => ⟨_, next_ok (m := (most : Int) + 1) rfl (fun _ => rfl) (by omega), trivial⟩
  have r2 := set_ok (i := 6) e2 (show 6 < 16 by omega)
  have hs : srs.length ≤ 5 := by omega
  have hm : most ≤ 3 := by omega
  have r3 := set_ok (i := 7) (s_every (F := F) (s2 := s2) (s4 := .sh (.d (.int price))) (s5 := s5) (s7 := s7) (s8 := s8) (s9 := s9) (s10 := s10) (s11 := s11) (s12 := s12) (s13 := s13) (s14 := s14) (s15 := s15) (B := [wB D (p2 : Nat)]) most srs hs hm) (show 7 < 16 by omega)
  have r4 := set_ok (i := 9) (s_due (F := F) (s2 := s2) (s3 := .sh (.d (.int most))) (s5 := s5) (s8 := s8) (s9 := s9) (s10 := s10) (s11 := s11) (s12 := s12) (s13 := s13) (s14 := s14) (s15 := s15) (B := [wB D (p2 : Nat)]) most price (by omega) srs hs hm) (show 9 < 16 by omega)
  generalize hev : (Sl.sh (.d (.list ((allR (srs.map (lvC most))).map row)))) = ev at r3 r4
  have al1 : Al 6 (encR (bC most price srs none)) := enc_al (Nat.le_trans (bestG_len _ _ srs none) (by omega))
  have r5 := if_f (f := sRet (eC (.bool false))) (g := sNil) (alike6 (ρ := en F s2 (.sh (.d (.int most))) (.sh (.d (.int price))) s5 (.sh (.d (row srs))) ev s8 (.sh (.d (encR (bC most price srs none)))) s10 s11 s12 s13 s14 s15) (f := eFn m_calm_levels (aCons (eVar 6) (aCons (eVar 3) (aCons (eVar 4) aNil)))) (g := eVar 9) (fn_ok (xs := [.d (row srs), .d (.int most), .d (.int price)]) (B := [wB D (p2 : Nat)]) rfl (s_calm D p2 srs most price hs hm)) rfl al1)
  obtain ⟨c0, c1⟩ := nx_bd D p2 3 (by omega)
  obtain ⟨slack, hslack⟩ : ∃ slack : Nat, nx D p2 3 = slack := ⟨(nx D p2 3).toNat, by omega⟩
  have r6 := set_ok (i := 10) (next_ok (f := eC (.int 3)) (ρ := en F s2 (.sh (.d (.int most))) (.sh (.d (.int price))) s5 (.sh (.d (row srs))) ev s8 (.sh (.d (encR (bC most price srs none)))) s10 s11 s12 s13 s14 s15) (D := D) (p := p2) rfl (fun _ => rfl) (show (0 : Int) < 3 by omega)) (show 10 < 16 by omega)
  rw [hslack] at r6
  obtain ⟨oth, p3, e7, l7, q7⟩ := tupd (ρ := en F s2 (.sh (.d (.int most))) (.sh (.d (.int price))) s5 (.sh (.d (row srs))) ev s8 (.sh (.d (encR (bC most price srs none)))) (.sh (.d (.int slack))) s11 s12 s13 s14 s15) (D := D) (p := p2 + 1) (c := 5) (by omega) (by omega) rfl (show 5 < 16 by omega) (e := eBin subD (eFn m_law_next (aCons (eVar 1) (aCons (eC (.int 7)) aNil))) (eC (.int 2))) (Q := fun i => i.natAbs ≤ 1000) fun k p => ⟨nx D p 7 - 2, bin_ok (g := subD) (next_ok (f := eC (.int 7)) rfl (fun _ => rfl) (show (0 : Int) < 7 by omega)) rfl rfl rfl rfl, by have := nx_bd D p 7 (by omega); omega⟩
  have r7 := set_ok (i := 11) e7 (show 11 < 16 by omega)
  have ho : oth.length ≤ 4 := by omega
  have hsl : slack ≤ 2 := by omega
  have r8 := set_ok (i := 7) (s_everyW (F := F) (s2 := s2) (s3 := .sh (.d (.int most))) (s4 := .sh (.d (.int price))) (s5 := s5) (s6 := .sh (.d (row srs))) (s7 := ev) (s8 := s8) (s9 := .sh (.d (encR (bC most price srs none)))) (s12 := s12) (s13 := s13) (s14 := s14) (s15 := s15) (B := [wB D (p3 : Nat)]) slack oth (by omega) hsl q7) (show 7 < 16 by omega)
  have dW := s_dueW (F := F) (s2 := s2) (s3 := .sh (.d (.int most))) (s4 := .sh (.d (.int price))) (s5 := s5) (s6 := .sh (.d (row srs))) (s8 := s8) (s9 := .sh (.d (encR (bC most price srs none)))) (s10 := .sh (.d (.int slack))) (s11 := .sh (.d (row oth))) (s12 := s12) (s13 := s13) (s14 := s14) (s15 := s15) (B := [wB D (p3 : Nat)]) slack oth (by omega) hsl
  generalize hev2 : (Sl.sh (.d (.list ((allR (oth.map (lvW slack))).map row)))) = ev2 at r8 dW
  have al2 : Al 6 (encR (bW slack oth none)) := enc_al (Nat.le_trans (bestG_len _ _ oth none) (by omega))
  have r9 := if_f (f := sRet (eC (.bool false))) (g := sNil) (alike6 (f := eFn m_calm_within (aCons (eVar 11) (aCons (eVar 10) aNil))) (fn_ok (xs := [.d (row oth), .d (.int slack)]) (B := [wB D (p3 : Nat)]) (ρ := en F s2 (.sh (.d (.int most))) (.sh (.d (.int price))) s5 (.sh (.d (row srs))) ev2 s8 (.sh (.d (encR (bC most price srs none)))) (.sh (.d (.int slack))) (.sh (.d (row oth))) s12 s13 s14 s15) rfl (s_within D p3 oth slack ho hsl q7)) dW al2)
  obtain ⟨rw_, p4, e10, l10, _⟩ := tupd (ρ := en F s2 (.sh (.d (.int most))) (.sh (.d (.int price))) s5 (.sh (.d (row srs))) ev2 s8 (.sh (.d (encR (bC most price srs none)))) (.sh (.d (.int slack))) (.sh (.d (row oth))) s12 s13 s14 s15) (D := D) (p := p3) (c := 9) (by omega) (by omega) rfl (show 5 < 16 by omega) (e := eFn m_law_next (aCons (eVar 1) (aCons (eC (.int 2)) aNil))) (Q := fun _ => True) fun k p => ⟨_, next_ok (f := eC (.int 2)) rfl (fun _ => rfl) (show (0 : Int) < 2 by omega), trivial⟩
  obtain ⟨d0, d1⟩ := nx_bd D p4 4 (by omega)
  obtain ⟨hours, hhours⟩ : ∃ hours : Nat, 1 + nx D p4 4 = hours := ⟨(1 + nx D p4 4).toNat, by omega⟩
  have r10 : sAsgG (gTn 2 (gsCons (gN 8) (gsCons (gN 13) gsNil))) (eTup (aCons (eCall tupleF (aCons (eLc (sRng rng1F (aCons (eFn m_law_next (aCons (eVar 1) (aCons (eC (.int 9)) aNil))) aNil)) (gN 5) sYes (eFn m_law_next (aCons (eVar 1) (aCons (eC (.int 2)) aNil))) [5]) aNil)) (aCons (eBin addD (eC (.int 1)) (eFn m_law_next (aCons (eVar 1) (aCons (eC (.int 4)) aNil)))) aNil))) (en F s2 (.sh (.d (.int most))) (.sh (.d (.int price))) s5 (.sh (.d (row srs))) ev2 s8 (.sh (.d (encR (bC most price srs none)))) (.sh (.d (.int slack))) (.sh (.d (row oth))) s12 s13 s14 s15) [wB D (p3 : Nat)] = some (.nx, en F s2 (.sh (.d (.int most))) (.sh (.d (.int price))) s5 (.sh (.d (row srs))) ev2 (.sh (.d (row rw_))) (.sh (.d (encR (bC most price srs none)))) (.sh (.d (.int slack))) (.sh (.d (row oth))) s12 (.sh (.d (.int hours))) s14 s15, [wB D (p4 + 1 : Nat)]) := by
    have e := tup2_ok e10 (bin_ok (g := addD) (f := eC (.int 1)) (B := [wB D (p4 : Nat)]) rfl (next_ok (f := eC (.int 4)) (p := p4) rfl (fun _ => rfl) (show (0 : Int) < 4 by omega)) rfl rfl (show _ = some (.int (1 + nx D p4 4)) from rfl))
    rw [hhours] at e
    unfold sAsgG
    rw [e]
    rfl
  have r11 := set_ok (i := 15) (s_able (F := F) (s2 := s2) (s3 := .sh (.d (.int most))) (s4 := .sh (.d (.int price))) (s5 := s5) (s6 := .sh (.d (row srs))) (s7 := ev2) (s9 := .sh (.d (encR (bC most price srs none)))) (s10 := .sh (.d (.int slack))) (s11 := .sh (.d (row oth))) (s12 := s12) (s14 := s14) (s15 := s15) (B := [wB D (p4 + 1 : Nat)]) rw_ hours (by omega) (by omega)) (show 15 < 16 by omega)
  have hd := able_head rw_ hours (by omega)
  generalize hab : ((List.range rw_.length).filter fun k => decide (k + hours ≤ rw_.length) && sm rw_ hours k) = able at r11 hd
  have t1 := alike6 (ρ := en F s2 (.sh (.d (.int most))) (.sh (.d (.int price))) s5 (.sh (.d (row srs))) ev2 (.sh (.d (row rw_))) (.sh (.d (encR (bC most price srs none)))) (.sh (.d (.int slack))) (.sh (.d (row oth))) s12 (.sh (.d (.int hours))) s14 (.sh (.d (.list (able.map fun k : Nat => .int k))))) (B := [wB D (p4 + 1 : Nat)]) (f := eFn m_changes_in (aCons (eVar 8) aNil)) (g := eFn m_law_changes (aCons (eVar 8) aNil)) (fn_ok (xs := [.d (row rw_)]) rfl (s_changes rw_ (by omega) _)) (fn_ok (xs := [.d (row rw_)]) rfl (s_lchanges rw_ (by omega) _)) (.int _)
  have ea : eIf (sB (eBin neD (eBor 15) (eLst aNil))) (eIx (eBor 15) (eC (.int 0))) (eC .none) (en F s2 (.sh (.d (.int most))) (.sh (.d (.int price))) s5 (.sh (.d (row srs))) ev2 (.sh (.d (row rw_))) (.sh (.d (encR (bC most price srs none)))) (.sh (.d (.int slack))) (.sh (.d (row oth))) s12 (.sh (.d (.int hours))) s14 (.sh (.d (.list (able.map fun k : Nat => .int k))))) [wB D (p4 + 1 : Nat)] = some (.d (sOpt ((List.range (rw_.length + 1 - hours)).find? (sm rw_ hours))), [wB D (p4 + 1 : Nat)]) := by
    rw [← hd]
    cases able with
    | nil => rfl
    | cons k ks =>
      have t := neD_ints_nil (((k :: ks).map fun k : Nat => (k : Int)))
      rw [List.map_map] at t
      have tt := sB_ok (bin_ok (g := neD) (f := eBor 15) (h := eLst aNil) (ρ := en F s2 (.sh (.d (.int most))) (.sh (.d (.int price))) s5 (.sh (.d (row srs))) ev2 (.sh (.d (row rw_))) (.sh (.d (encR (bC most price srs none)))) (.sh (.d (.int slack))) (.sh (.d (row oth))) s12 (.sh (.d (.int hours))) s14 (.sh (.d (.list ((k :: ks).map fun k : Nat => .int k))))) (B := [wB D (p4 + 1 : Nat)]) rfl rfl rfl rfl t)
      exact (eif_t (tt.trans rfl)).trans (ix_ok (dx := .list ((k :: ks).map fun k : Nat => .int k)) (dy := .int ((0 : Nat) : Int)) rfl rfl rfl rfl (ixD_list _ 0 (by simp)))
  have t2 := alike6 (fn_ok (sf := m_steady_from) (fs := aCons (eVar 8) (aCons (eVar 13) aNil)) (xs := [.d (row rw_), .d (.int hours)]) rfl (s_steady rw_ hours (by omega) (by omega) (by omega) _)) ea (sOpt_al _)
  have r12 := if_f (f := sRet (eC (.bool false))) (g := sNil) ((sor_f t1).trans t2)
  exact ⟨_, _, _, _, _, _, _, _, _, _, _, _, _, _, (seq_nx r1).trans ((seq_nx r2).trans ((seq_nx r3).trans ((seq_nx r4).trans ((seq_nx (r5.trans rfl)).trans ((seq_nx r6).trans ((seq_nx r7).trans ((seq_nx r8).trans ((seq_nx (r9.trans rfl)).trans ((seq_nx r10).trans ((seq_nx r11).trans (r12.trans rfl)))))))))))⟩
theorem law_true (ns : List Int) (hn : ns.length ≤ 63) : ∃ B', m_law [.fz (ns.map .int)] [] = some (.d (.bool true), B') := by
  obtain ⟨D, hD⟩ := s_draws ns hn 400 (by omega) []
  have r0 : sSet 1 (eBox (eDisp (pCons (eC (.str "draws")) (eFn m_law_draws (aCons (eVar 0) (aCons (eC (.int 400)) aNil))) (pCons (eC (.str "at")) (eC (.int 0)) pNil)))) [.sh (.fz (ns.map .int)), .un, .un, .un, .un, .un, .un, .un, .un, .un, .un, .un, .un, .un, .un, .un] [] = some (.nx, en (.fz (ns.map .int)) .un .un .un .un .un .un .un .un .un .un .un .un .un .un, [wB D (0 : Nat)]) := by
    have e : eFn m_law_draws (aCons (eVar 0) (aCons (eC (.int 400)) aNil)) [.sh (.fz (ns.map .int)), .un, .un, .un, .un, .un, .un, .un, .un, .un, .un, .un, .un, .un, .un, .un] [] = some (.d (.list (D.map .int)), []) := fn_ok (xs := [.fz (ns.map .int), .d (.int 400)]) rfl hD
    have e2 : eDisp (pCons (eC (.str "draws")) (eFn m_law_draws (aCons (eVar 0) (aCons (eC (.int 400)) aNil))) (pCons (eC (.str "at")) (eC (.int 0)) pNil)) [.sh (.fz (ns.map .int)), .un, .un, .un, .un, .un, .un, .un, .un, .un, .un, .un, .un, .un, .un, .un] [] = some (.d (.dict [(.str "draws", .list (D.map .int)), (.str "at", .int 0)]), []) := by
      unfold eDisp
      rw [pcons_ok (k := .str "draws") (B1 := []) rfl e (pcons_ok (k := .str "at") (v := .int 0) (B1 := []) (B2 := []) rfl rfl (show pNil _ _ = some ([], []) from rfl))]
      rfl
    refine (set_ok (x := .bx 0) (B1 := [wB D (0 : Nat)]) ?_ (show 1 < 16 by omega)).trans rfl
    unfold eBox
    rw [e2]
    rfl
  obtain ⟨ρ', B', hrun, _⟩ := for_ok (g := gN 2) (b := bodyL)
    (fun _ ρ B => ∃ s2 s3 s4 s5 s6 s7 s8 s9 s10 s11 s12 s13 s14 s15 : Sl, ∃ p : Nat, ρ = en (.fz (ns.map .int)) s2 s3 s4 s5 s6 s7 s8 s9 s10 s11 s12 s13 s14 s15 ∧ B = [wB D (p : Nat)])
    (rngD 0 5) 0 (en (.fz (ns.map .int)) .un .un .un .un .un .un .un .un .un .un .un .un .un .un) [wB D (0 : Nat)] ⟨_, _, _, _, _, _, _, _, _, _, _, _, _, _, _, rfl, rfl⟩ (by
      rintro j d ρ B hd ⟨s2, s3, s4, s5, s6, s7, s8, s9, s10, s11, s12, s13, s14, s15, p, rfl, rfl⟩
      obtain ⟨_, _, _, _, _, _, _, _, _, _, _, _, _, p', e⟩ := step (F := .fz (ns.map .int)) (s2 := .sh (.d d)) (s3 := s3) (s4 := s4) (s5 := s5) (s6 := s6) (s7 := s7) (s8 := s8) (s9 := s9) (s10 := s10) (s11 := s11) (s12 := s12) (s13 := s13) (s14 := s14) (s15 := s15) D p
      exact ⟨_, _, _, rfl, e, _, _, _, _, _, _, _, _, _, _, _, _, _, _, p', rfl, rfl⟩)
  have frun := (for_run (rng_run (fs := aCons (eC (.int 5)) aNil) (n := 5) (ρ := en (.fz (ns.map .int)) .un .un .un .un .un .un .un .un .un .un .un .un .un .un) (B := [wB D (0 : Nat)]) rfl (by omega))).trans hrun
  exact ⟨_, fun_rt (N := 16) (np := 1) (b := b_law) (xs := [.fz (ns.map .int)]) (B := []) (r := .d (.bool true)) rfl ((seq_nx (show _ = _ from r0)).trans ((seq_nx frun).trans (ret_ok (x := .d (.bool true)) rfl)))⟩
end K96
end

theorem PySem.Challenge.cw_forewarned_k96_levels_that_are_calm_holds : PySem.Challenge.rw_forewarned_k96_levels_that_are_calm.Holds :=
  K96.holds K96.law_true
