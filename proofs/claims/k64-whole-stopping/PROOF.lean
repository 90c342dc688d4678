import PyProof.Rows.All
import Wide.All
import OpenK.AllK
import Wide.FinOn
import HandS.ForMost
import HandS.ForExc
import HandS.More
import HandS.Defaults
import HandS.IsInst
import HandS.Zip
import HandS.Conv
import HandS.Style
import HandS.TupAny
import HandS.Wide
import HandS.Walk
import HandS.DictComp
import KE.GoesEnum
import KE.GoesZip
import KE.GoesMore
import PySem.Challenge.RW_fadewalk_k64_whole_stopping
import HandS.DictTup
import HandS.Keys
import KE.KStateDown
import Lean
import HandS.Head0
import HandS.Head1
import HandS.Head2
import HandS.HeadEnd
import HandS.HeadHook1
import HandS.HeadHook2
import HandS.MakeKwOnly
set_option Elab.async false
set_option linter.all false
set_option autoImplicit false
set_option maxRecDepth 100000
set_option maxHeartbeats 1000000
/-! C1: data, the known heap, the owned store, judgements of what an expression, a test, a block gives. -/
namespace FW
open PySem PySem.Spec PyProof.Rows L2

/-- data: what a value stands for -/
inductive D where
  | i (n : Int) | b (x : Bool) | no | t (ds : List D) | l (ds : List D) | w (r : D) (z : Int) | adr (a : Addr) | ty (n : String) | k (ns : List Int)

mutual
/-- v stands for d in the heap H; C the class of walks -/
inductive Rep (K : PySem.W.Frag) (C : Addr) (H : Hp) : V → D → Prop
  | int (n : Int) : Rep K C H (.int n) (.i n)
  | bl (x : Bool) : Rep K C H (.bl x) (.b x)
  | non : Rep K C H .non .no
  | tup {a : Addr} {vs : List V} {ds : List D} : SqT K H a vs → RepL K C H vs ds → Rep K C H (.ref a) (.t ds)
  | lst {a : Addr} {vs : List V} {ds : List D} : SqL K H a vs → RepL K C H vs ds → Rep K C H (.ref a) (.l ds)
  | wlk {a dx : Addr} {fs : List (Str × V)} {r : V} {d : D} {z : Int} : H a = some (.ins C dx fs) → fs.lookup ("rows" : Str) = some r → fs.lookup ("whole" : Str) = some (.int z) → fs.lookup ("after" : Str) = none → Rep K C H r d → Rep K C H (.ref a) (.w d z)
  | adr (a : Addr) : Rep K C H (.ref a) (.adr a)
  | ty (n : String) : Rep K C H (.ty n) (.ty n)
  /-- a tuple of ints that may be a key -/
  | key {a : Addr} {ns : List Int} : H a = some (.tup (ns.map V.int)) → Rep K C H (.ref a) (.k ns)
inductive RepL (K : PySem.W.Frag) (C : Addr) (H : Hp) : List V → List D → Prop
  | nil : RepL K C H [] []
  | cons {v : V} {vs : List V} {d : D} {ds : List D} : Rep K C H v d → RepL K C H vs ds → RepL K C H (v :: vs) (d :: ds)
end

theorem Same.seqT {K : PySem.W.Frag} {H H' : Hp} {a : Addr} {xs : List V} (e : Same H H') (h : SqT K H a xs) : SqT K H' a xs := by
  rcases h with (h | ⟨o, h⟩) | h
  · exact .inl (.inl (e _ _ h))
  · exact .inl (.inr ⟨o, e _ _ h⟩)
  · exact .inr h
theorem Same.new {H : Hp} {p : Addr} {o : HO} (h : H p = none) : Same H (upd H p o) := fun b x e => by
  rw [upd_ne (ne_of_none e h)]
  exact e

section
variable {K : PySem.W.Frag} {C : Addr} {H H' : Hp}
mutual
theorem Rep.mono (e : Same H H') : ∀ {v : V} {d : D}, Rep K C H v d → Rep K C H' v d
  | _, _, .int n => .int n
  | _, _, .bl x => .bl x
  | _, _, .non => .non
  | _, _, .tup h hs => .tup (Same.seqT e h) (RepL.mono e hs)
  | _, _, .lst h hs => .lst (e.seq h) (RepL.mono e hs)
  | _, _, .wlk h h1 h2 h3 hr => .wlk (e _ _ h) h1 h2 h3 (Rep.mono e hr)
  | _, _, .adr a => .adr a
  | _, _, .ty n => .ty n
  | _, _, .key h => .key (e _ _ h)
theorem RepL.mono (e : Same H H') : ∀ {vs : List V} {ds : List D}, RepL K C H vs ds → RepL K C H' vs ds
  | _, _, .nil => .nil
  | _, _, .cons h hs => .cons (Rep.mono e h) (RepL.mono e hs)
end
theorem RepL.len : ∀ {vs : List V} {ds : List D}, RepL K C H vs ds → vs.length = ds.length
  | _, _, .nil => rfl
  | _, _, .cons _ hs => by rw [List.length_cons, List.length_cons, RepL.len hs]
theorem RepL.get : ∀ {vs : List V} {ds : List D} {j : Nat} {d : D}, RepL K C H vs ds → ds[j]? = some d → ∃ v, vs[j]? = some v ∧ Rep K C H v d
  | _, _, j, d, .nil, e => by simp at e
  | _, _, 0, d, .cons h _, e => by
    simp at e
    subst e
    exact ⟨_, rfl, h⟩
  | _, _, j + 1, d, .cons _ hs, e => by
    obtain ⟨v, h1, h2⟩ := RepL.get (j := j) (d := d) hs (by simpa using e)
    exact ⟨v, by simpa using h1, h2⟩
theorem RepL.getV : ∀ {vs : List V} {ds : List D} {j : Nat} {v : V}, RepL K C H vs ds → vs[j]? = some v → ∃ d, ds[j]? = some d ∧ Rep K C H v d
  | _, _, j, d, .nil, e => by simp at e
  | _, _, 0, d, .cons h _, e => by
    simp at e
    subst e
    exact ⟨_, rfl, h⟩
  | _, _, j + 1, d, .cons _ hs, e => by
    obtain ⟨v, h1, h2⟩ := RepL.getV (j := j) hs (by simpa using e)
    exact ⟨v, by simpa using h1, h2⟩
theorem RepL.app : ∀ {vs ws : List V} {ds es : List D}, RepL K C H vs ds → RepL K C H ws es → RepL K C H (vs ++ ws) (ds ++ es)
  | _, _, _, _, .nil, h => h
  | _, _, _, _, .cons h hs, h2 => .cons h (RepL.app hs h2)
theorem RepL.one {v : V} {d : D} (h : Rep K C H v d) : RepL K C H [v] [d] := .cons h .nil
theorem RepL.set {v : V} {d : D} (h : Rep K C H v d) : ∀ {vs : List V} {ds : List D} (j : Nat), RepL K C H vs ds → RepL K C H (vs.set j v) (ds.set j d)
  | _, _, _, .nil => .nil
  | _, _, 0, .cons _ hs => .cons h hs
  | _, _, j + 1, .cons q hs => .cons q (RepL.set h j hs)
theorem RepL.drop : ∀ {vs : List V} {ds : List D} (n : Nat), RepL K C H vs ds → RepL K C H (vs.drop n) (ds.drop n)
  | _, _, 0, r => r
  | _, _, _ + 1, .nil => .nil
  | _, _, n + 1, .cons _ t => RepL.drop n t
theorem RepL.take : ∀ {vs : List V} {ds : List D} (n : Nat), RepL K C H vs ds → RepL K C H (vs.take n) (ds.take n)
  | _, _, 0, _ => .nil
  | _, _, _ + 1, .nil => .nil
  | _, _, n + 1, .cons r t => .cons r (RepL.take n t)
theorem RepL.flat (n : Nat) {vs : List V} {ds : List D} (h : RepL K C H vs ds) : RepL K C H (List.replicate n vs).flatten (List.replicate n ds).flatten := by
  induction n with
  | zero => exact .nil
  | succ n ih =>
    rw [List.replicate_succ, List.replicate_succ, List.flatten_cons, List.flatten_cons]
    exact h.app ih
theorem RepL.dropLast : ∀ {vs : List V} {ds : List D}, RepL K C H vs ds → RepL K C H vs.dropLast ds.dropLast
  | _, _, .nil => .nil
  | _, _, .cons r .nil => .nil
  | _, _, .cons r (.cons r2 t) => .cons r (RepL.dropLast (.cons r2 t))
/-- ints -/
theorem RepL.ints : ∀ (ns : List Int), RepL K C H (ns.map V.int) (ns.map D.i)
  | [] => .nil
  | n :: ns => .cons (.int n) (RepL.ints ns)
theorem RepL.ints_inv : ∀ {ns : List Int} {vs : List V}, RepL K C H vs (ns.map D.i) → vs = ns.map V.int
  | [], _, .nil => rfl
  | n :: ns, _, .cons h hs => by
    cases h
    rw [RepL.ints_inv hs]
    rfl
theorem RepL.bls_inv : ∀ {bs : List Bool} {vs : List V}, RepL K C H vs (bs.map D.b) → vs = bs.map V.bl
  | [], _, .nil => rfl
  | n :: ns, _, .cons h hs => by
    cases h
    rw [RepL.bls_inv hs]
    rfl
theorem Rep.i_inv {v : V} {n : Int} (h : Rep K C H v (.i n)) : v = .int n := by
  cases h
  rfl
theorem Rep.b_inv {v : V} {x : Bool} (h : Rep K C H v (.b x)) : v = .bl x := by
  cases h
  rfl
theorem Rep.t_inv {v : V} {ds : List D} (h : Rep K C H v (.t ds)) : ∃ a vs, v = .ref a ∧ SqT K H a vs ∧ RepL K C H vs ds := by
  cases h with
  | tup h hs => exact ⟨_, _, rfl, h, hs⟩
theorem Rep.l_inv {v : V} {ds : List D} (h : Rep K C H v (.l ds)) : ∃ a vs, v = .ref a ∧ SqL K H a vs ∧ RepL K C H vs ds := by
  cases h with
  | lst h hs => exact ⟨_, _, rfl, h, hs⟩
theorem Rep.adr_inv {v : V} {a : Addr} (h : Rep K C H v (.adr a)) : v = .ref a := by
  cases h
  rfl
end

section
variable {K : PySem.W.Frag} {C : Addr} {H : Hp}
theorem Rep.ty_inv {v : V} {n : String} (h : Rep K C H v (.ty n)) : v = .ty n := by
  cases h
  rfl
end
/-! ### what is owned: it may be written, and no known thing names it -/
inductive OO where
  | lst (ds : List D)
  | dct (ks : List Int)
  | raw (o : HO)
abbrev Om := Addr → Option OO
def updO (ω : Om) (a : Addr) (o : OO) : Om := fun b => if b = a then some o else ω b
def delO (ω : Om) (a : Addr) : Om := fun b => if b = a then none else ω b
theorem updO_same {ω : Om} {a : Addr} {o : OO} : updO ω a o a = some o := by
  unfold updO
  rw [if_pos rfl]
theorem updO_ne {ω : Om} {a b : Addr} {o : OO} (h : b ≠ a) : updO ω a o b = ω b := by
  unfold updO
  rw [if_neg h]
theorem updO_updO {ω : Om} {a : Addr} {o u : OO} : updO (updO ω a o) a u = updO ω a u := by
  funext b
  unfold updO
  split <;> rfl
theorem delO_updO {ω : Om} {a : Addr} {o : OO} (h : ω a = none) : delO (updO ω a o) a = ω := by
  funext b
  unfold delO updO
  by_cases e : b = a
  · rw [if_pos e, e, h]
  · rw [if_neg e, if_neg e]
theorem updO_comm {ω : Om} {a b : Addr} {o u : OO} (h : a ≠ b) : updO (updO ω a o) b u = updO (updO ω b u) a o := by
  funext c
  unfold updO
  by_cases e1 : c = a
  · by_cases e2 : c = b
    · exact absurd (e1.symm.trans e2) h
    · rw [if_neg e2, if_pos e1, if_pos e1]
  · by_cases e2 : c = b
    · rw [if_pos e2, if_neg e1, if_pos e2]
    · rw [if_neg e2, if_neg e1, if_neg e1, if_neg e2]
theorem updO_self {ω : Om} {a : Addr} {o : OO} (h : ω a = some o) : updO ω a o = ω := by
  funext c
  unfold updO
  by_cases e1 : c = a
  · rw [if_pos e1, e1, h]
  · rw [if_neg e1]

def RepO (K : PySem.W.Frag) (C : Addr) (Hk : Hp) : HO → OO → Prop
  | .lst vs, .lst ds => RepL K C Hk vs ds
  | .dK kvs, .dct ks => kvs = ks.map fun k => ((Sum.inl k : Key), V.bl true)
  | ho, .raw o => ho = o ∧ ∀ xs, o ≠ .tup xs
  | _, _ => False
theorem RepO.mono {K : PySem.W.Frag} {C : Addr} {H H' : Hp} (e : Same H H') {ho : HO} {o : OO} (h : RepO K C H ho o) : RepO K C H' ho o := by
  cases ho <;> cases o <;> first | exact False.elim h | exact RepL.mono e h | exact h
theorem RepO.raw_inv {K : PySem.W.Frag} {C : Addr} {H : Hp} {ho o : HO} (h : RepO K C H ho (.raw o)) : ho = o := by
  cases ho <;> exact h.1
theorem RepO.noTup {K : PySem.W.Frag} {C : Addr} {H : Hp} {xs : List V} {o : OO} (h : RepO K C H (.tup xs) o) : False := by
  cases o with
  | lst _ => exact h
  | dct _ => exact h
  | raw o => exact h.2 xs h.1.symm
theorem RepO.lst_inv {K : PySem.W.Frag} {C : Addr} {H : Hp} {ho : HO} {ds : List D} (h : RepO K C H ho (.lst ds)) : ∃ vs, ho = .lst vs ∧ RepL K C H vs ds := by
  cases ho <;> first | exact False.elim h | exact ⟨_, rfl, h⟩
theorem RepO.dct_inv {K : PySem.W.Frag} {C : Addr} {H : Hp} {ho : HO} {ks : List Int} (h : RepO K C H ho (.dct ks)) : ho = .dK (ks.map fun k => ((Sum.inl k : Key), V.bl true)) := by
  cases ho <;> first | exact False.elim h | exact congrArg HO.dK h

/-- Hk: what is known for good; ω: what is owned; H the heap -/
structure Wf (K : PySem.W.Frag) (C : Addr) (Hk H : Hp) (ω : Om) : Prop where
  same : Same Hk H
  own : ∀ a o, ω a = some o → Hk a = none ∧ ∃ ho, H a = some ho ∧ RepO K C Hk ho o
section
variable {K : PySem.W.Frag} {C : Addr} {Hk H H' : Hp} {ω : Om} {p : Addr} {ho : HO} {o : OO}
theorem Wf.fresh (w : Wf K C Hk H ω) (h : H p = none) : Hk p = none ∧ ω p = none := by
  refine ⟨w.same.free h, ?_⟩
  cases e : ω p with
  | none => rfl
  | some o =>
    obtain ⟨_, ho, h2, _⟩ := w.own p o e
    rw [h] at h2
    cases h2
/-- a new known thing -/
theorem Wf.new (w : Wf K C Hk H ω) (h : H p = none) : Wf K C (upd Hk p ho) (upd H p ho) ω := by
  obtain ⟨hk, ho'⟩ := w.fresh h
  refine ⟨fun b u e => ?_, fun a o e => ?_⟩
  · by_cases q : b = p
    · rw [q, upd_same] at e ⊢
      exact e
    · rw [upd_ne q] at e ⊢
      exact w.same b u e
  · obtain ⟨h1, h2, h3, h4⟩ := w.own a o e
    have q : a ≠ p := ne_of_none h3 h
    exact ⟨by rw [upd_ne q]; exact h1, h2, by rw [upd_ne q]; exact h3, h4.mono (Same.new hk)⟩
theorem Wf.newS (w : Wf K C Hk H ω) (h : H p = none) : Same Hk (upd Hk p ho) := Same.new (w.fresh h).1
/-- a new owned thing -/
theorem Wf.alloc (w : Wf K C Hk H ω) (h : H p = none) (r : RepO K C Hk ho o) : Wf K C Hk (upd H p ho) (updO ω p o) := by
  obtain ⟨hk, _⟩ := w.fresh h
  refine ⟨fun b u e => ?_, fun a o' e => ?_⟩
  · rw [upd_ne (ne_of_none e hk)]
    exact w.same b u e
  · by_cases q : a = p
    · rw [q, updO_same] at e
      cases e
      rw [q]
      exact ⟨hk, ho, upd_same, r⟩
    · rw [updO_ne q] at e
      obtain ⟨h1, h2, h3, h4⟩ := w.own a o' e
      exact ⟨h1, h2, by rw [upd_ne q]; exact h3, h4⟩
/-- an owned thing is written -/
theorem Wf.mut {o' : OO} (w : Wf K C Hk H ω) (h : ω p = some o') (r : RepO K C Hk ho o) : Wf K C Hk (upd H p ho) (updO ω p o) := by
  obtain ⟨hk, _⟩ := w.own p o' h
  refine ⟨fun b u e => ?_, fun a o' e => ?_⟩
  · rw [upd_ne (ne_of_none e hk)]
    exact w.same b u e
  · by_cases q : a = p
    · rw [q, updO_same] at e
      cases e
      rw [q]
      exact ⟨hk, ho, upd_same, r⟩
    · rw [updO_ne q] at e
      obtain ⟨h1, h2, h3, h4⟩ := w.own a o' e
      exact ⟨h1, h2, by rw [upd_ne q]; exact h3, h4⟩
/-- an owned thing is given away: from now on it is known -/
theorem Wf.learn (w : Wf K C Hk H ω) (h : ω p = some o) (e : H p = some ho) : Wf K C (upd Hk p ho) H (delO ω p) ∧ Same Hk (upd Hk p ho) := by
  obtain ⟨hk, _⟩ := w.own p o h
  have s : Same Hk (upd Hk p ho) := Same.new hk
  refine ⟨⟨fun b u e' => ?_, fun a o' e' => ?_⟩, s⟩
  · by_cases q : b = p
    · rw [q, upd_same] at e'
      cases e'
      rw [q]
      exact e
    · rw [upd_ne q] at e'
      exact w.same b u e'
  · unfold delO at e'
    by_cases q : a = p
    · rw [if_pos q] at e'
      cases e'
    · rw [if_neg q] at e'
      obtain ⟨h1, h2, h3, h4⟩ := w.own a o' e'
      exact ⟨by rw [upd_ne q]; exact h1, h2, h3, h4.mono s⟩
/-- what is owned may be forgotten -/
theorem Wf.drop (w : Wf K C Hk H ω) {ω' : Om} (h : ∀ a o, ω' a = some o → ω a = some o) : Wf K C Hk H ω' := ⟨w.same, fun a o e => w.own a o (h a o e)⟩
theorem Wf.dead (w : Wf K C Hk H ω) (h : H p = none) : Wf K C Hk (upd H p ho) ω := by
  refine ⟨fun b u e => ?_, fun a o e => ?_⟩
  · rw [upd_ne (ne_of_none (w.same b u e) h)]
    exact w.same b u e
  · obtain ⟨h1, h2, h3, h4⟩ := w.own a o e
    exact ⟨h1, h2, by rw [upd_ne (ne_of_none h3 h)]; exact h3, h4⟩
end

/-! ### the frame's slots -/
abbrev Env := List (Option D)
structure EnvR (K : PySem.W.Frag) (C : Addr) (Hk : Hp) (σ : L2.St) (δ : Env) : Prop where
  len : σ.length = δ.length
  at_ : ∀ (i : Nat) (d : D), δ[i]? = some (some d) → ∃ v, σ[i]? = some (some v) ∧ Rep K C Hk v d
section
variable {K : PySem.W.Frag} {C : Addr} {Hk H H' : Hp} {σ : L2.St} {δ : Env}
theorem EnvR.mono (e : EnvR K C Hk σ δ) (s : Same Hk H') : EnvR K C H' σ δ := ⟨e.len, fun i d h => let ⟨v, h1, h2⟩ := e.at_ i d h; ⟨v, h1, h2.mono s⟩⟩
theorem EnvR.set (e : EnvR K C Hk σ δ) {i : Nat} {v : V} {d : D} (r : Rep K C Hk v d) : EnvR K C Hk (σ.set i (some v)) (δ.set i (some d)) := by
  refine ⟨by rw [List.length_set, List.length_set]; exact e.len, fun j d' h => ?_⟩
  by_cases q : i = j
  · subst q
    by_cases hl : i < δ.length
    · rw [List.getElem?_set_self hl] at h
      cases h
      exact ⟨v, List.getElem?_set_self (by rw [e.len]; exact hl), r⟩
    · rw [List.getElem?_eq_none (by rw [List.length_set]; omega)] at h
      cases h
  · rw [List.getElem?_set_ne q] at h ⊢
    exact e.at_ j d' h
/-- less may be told -/
theorem EnvR.weak (e : EnvR K C Hk σ δ) {δ' : Env} (hl : δ'.length = δ.length) (h : ∀ (i : Nat) (d : D), δ'[i]? = some (some d) → δ[i]? = some (some d)) : EnvR K C Hk σ δ' := ⟨e.len.trans hl.symm, fun i d q => e.at_ i d (h i d q)⟩
def wipeD (δ : Env) : List Nat → Env
  | [] => δ
  | v :: vs => (wipeD δ vs).set v none
theorem EnvR.wipe (e : EnvR K C Hk σ δ) : ∀ vs : List Nat, EnvR K C Hk (L2.wipe σ vs) (wipeD δ vs)
  | [] => e
  | v :: vs => by
    have ih := EnvR.wipe e vs
    refine ⟨?_, fun j d h => ?_⟩
    · show ((L2.wipe σ vs).set v none).length = ((wipeD δ vs).set v none).length
      rw [List.length_set, List.length_set]
      exact ih.len
    · have h' : ((wipeD δ vs).set v none)[j]? = some (some d) := h
      show ∃ v', ((L2.wipe σ vs).set v none)[j]? = some (some v') ∧ _
      by_cases q : v = j
      · subst q
        by_cases hl : v < (wipeD δ vs).length
        · rw [List.getElem?_set_self hl] at h'
          cases h'
        · rw [List.getElem?_eq_none (by rw [List.length_set]; omega)] at h'
          cases h'
      · rw [List.getElem?_set_ne q] at h' ⊢
        exact ih.at_ j d h'
end
theorem envR_start {K : PySem.W.Frag} {C : Addr} {Hk : Hp} {vs : List V} {ds : List D} (N : List Str) (r : RepL K C Hk vs ds) : EnvR K C Hk (start N vs) (ds.map some ++ List.replicate (N.length - ds.length) none) := by
  have hl := r.len
  refine ⟨?_, fun i d h => ?_⟩
  · show (vs.map some ++ List.replicate (N.length - vs.length) none).length = _
    rw [List.length_append, List.length_append, List.length_map, List.length_map, List.length_replicate, List.length_replicate, hl]
  · by_cases q : i < ds.length
    · rw [List.getElem?_append_left (by rw [List.length_map]; exact q), List.getElem?_map] at h
      cases e : ds[i]? with
      | none =>
        rw [e] at h
        cases h
      | some d' =>
        rw [e] at h
        cases h
        obtain ⟨v, h1, h2⟩ := r.get e
        refine ⟨v, ?_, h2⟩
        show (vs.map some ++ _)[i]? = _
        rw [List.getElem?_append_left (by rw [List.length_map, hl]; exact q), List.getElem?_map, h1]
        rfl
    · rw [List.getElem?_append_right (by rw [List.length_map]; omega), List.getElem?_replicate] at h
      split at h <;> cases h

/-! ### what must hold ahead, as readings -/
structure wE (X : Cx) (e : Expr) (σ : L2.St) (H : Hp) (Q : VK) : Prop where
  run : ∀ pins s, Inv X pins σ H s → wpAny (model X.prog X.w) X.A (eval e X.env) (EP X pins σ Q) X.xe s
theorem pe_w {X : Cx} {e : Expr} : PE X e (wE X e) := ⟨fun pins s σ H Q I h => h.run pins s I⟩
theorem wE_of {X : Cx} {e : Expr} {t : TE} {σ : L2.St} {H : Hp} {Q : VK} (h : PE X e t) (q : t σ H Q) : wE X e σ H Q := ⟨fun pins s I => h.run pins s σ H Q I q⟩
structure wT (X : Cx) (e : Expr) (σ : L2.St) (H : Hp) (Q : Bool → Hp → Prop) : Prop where
  run : ∀ pins s, Inv X pins σ H s → wpAny (model X.prog X.w) X.A (isTrue e X.env (eval e X.env)) (TP X pins σ Q) X.xe s
theorem pt_w {X : Cx} {e : Expr} : PT X e (wT X e) := ⟨fun pins s σ H Q I h => h.run pins s I⟩
theorem wT_of {X : Cx} {e : Expr} {t : TT} {σ : L2.St} {H : Hp} {Q : Bool → Hp → Prop} (h : PT X e t) (q : t σ H Q) : wT X e σ H Q := ⟨fun pins s I => h.run pins s σ H Q I q⟩
structure wW (X : Cx) (e : Expr) (σ : L2.St) (H : Hp) (Q : Bool → Hp → Prop) : Prop where
  run : ∀ whole pins s, Inv X pins σ H s → wpAny (model X.prog X.w) X.A (isTrue e X.env whole) (TP X pins σ Q) X.xe s
theorem pw_w {X : Cx} {e : Expr} : PW X e (wW X e) := ⟨fun whole pins s σ H Q I h => h.run whole pins s I⟩
theorem wW_of {X : Cx} {e : Expr} {t : TT} {σ : L2.St} {H : Hp} {Q : Bool → Hp → Prop} (h : PW X e t) (q : t σ H Q) : wW X e σ H Q := ⟨fun whole pins s I => h.run whole pins s σ H Q I q⟩
structure wA (X : Cx) (es : List Expr) (σ : L2.St) (H : Hp) (Q : List V → Hp → Prop) : Prop where
  run : ∀ pos pins s, Inv X pins σ H s → wpAny (model X.prog X.w) X.A (spliced (backTo pos (starEach es X.env))) (AP X pins σ Q) X.xe s
theorem pa_w {X : Cx} {es : List Expr} : PA X es (wA X es) := ⟨fun pos pins s σ H Q I h => h.run pos pins s I⟩
theorem wA_of {X : Cx} {es : List Expr} {t : TA} {σ : L2.St} {H : Hp} {Q : List V → Hp → Prop} (h : PA X es t) (q : t σ H Q) : wA X es σ H Q := ⟨fun pos pins s I => h.run pos pins s σ H Q I q⟩
structure wK (X : Cx) (ks : List Keyword) (σ : L2.St) (H : Hp) (Q : List V → Hp → Prop) : Prop where
  run : ∀ pos pins s, Inv X pins σ H s → wpAny (model X.prog X.w) X.A (evalAll ((backToKw pos (keywordEach ks X.env)).map (·.2))) (AP X pins σ Q) X.xe s
theorem pk_w {X : Cx} {ks : List Keyword} : PK X ks (wK X ks) := ⟨fun pos pins s σ H Q I h => h.run pos pins s I⟩
theorem wK_of {X : Cx} {ks : List Keyword} {t : TA} {σ : L2.St} {H : Hp} {Q : List V → Hp → Prop} (h : PK X ks t) (q : t σ H Q) : wK X ks σ H Q := ⟨fun pos pins s I => h.run pos pins s σ H Q I q⟩
structure wS (X : Cx) (st : Stmt) (D : Ends) (σ : L2.St) (H : Hp) : Prop where
  run : ∀ pins s, Inv X pins σ H s → wpAny (model X.prog X.w) X.A (exec st X.env) (SP X pins D) X.xe s
theorem ps_w {X : Cx} {st : Stmt} : PS X st (wS X st) := ⟨fun pins s σ H D I h => h.run pins s I⟩
theorem wS_of {X : Cx} {st : Stmt} {t : TS} {σ : L2.St} {H : Hp} {D : Ends} (h : PS X st t) (q : t D σ H) : wS X st D σ H := ⟨fun pins s I => h.run pins s σ H D I q⟩
structure wSs (X : Cx) (st : List Stmt) (D : Ends) (σ : L2.St) (H : Hp) : Prop where
  run : ∀ pins s, Inv X pins σ H s → wpAny (model X.prog X.w) X.A (execs st X.env) (SP X pins D) X.xe s
theorem pss_w {X : Cx} {st : List Stmt} : PSs X st (wSs X st) := ⟨fun pins s σ H D I h => h.run pins s I⟩
theorem wSs_of {X : Cx} {st : List Stmt} {t : TS} {σ : L2.St} {H : Hp} {D : Ends} (h : PSs X st t) (q : t D σ H) : wSs X st D σ H := ⟨fun pins s I => h.run pins s σ H D I q⟩
structure wI (X : Cx) (tg iter : Expr) (σ : L2.St) (H : Hp) (R : It → Hp → Prop) : Prop where
  run : ∀ pins s, Inv X pins σ H s → wpAny (model X.prog X.w) X.A (eval iter X.env) (fun v s1 => wpAny (model X.prog X.w) X.A (pyIter v) (PIE X pins σ tg R) X.xe s1) X.xe s
theorem pi_w {X : Cx} {tg iter : Expr} : PI X tg iter (wI X tg iter) := ⟨fun pins s σ H R I h => h.run pins s I⟩
theorem wI_of {X : Cx} {tg iter : Expr} {t : TI} {σ : L2.St} {H : Hp} {R : It → Hp → Prop} (h : PI X tg iter t) (q : t σ H R) : wI X tg iter σ H R := ⟨fun pins s I => h.run pins s σ H R I q⟩

/-! ### the judgements -/
/-- e gives d, the owned goes from ω to ω' -/
def PD (X : Cx) (C : Addr) (e : Expr) (δ : Env) (ω : Om) (d : D) (ω' : Om) : Prop :=
  ∀ (σ : L2.St) (Hk H : Hp), Wf X.K C Hk H ω → EnvR X.K C Hk σ δ → ∀ Q : VK, (∀ v Hk' H', Same Hk Hk' → Wf X.K C Hk' H' ω' → Rep X.K C Hk' v d → Q v H') → wE X e σ H Q
/-- e gives a list of its own -/
def PDN (X : Cx) (C : Addr) (e : Expr) (δ : Env) (ω : Om) (ds : List D) (ω' : Om) : Prop :=
  ∀ (σ : L2.St) (Hk H : Hp), Wf X.K C Hk H ω → EnvR X.K C Hk σ δ → ∀ Q : VK, (∀ a vs Hk' H', Same Hk Hk' → Wf X.K C Hk' H' ω' → Hk' a = none → ω' a = none → H' a = some (.lst vs) → RepL X.K C Hk' vs ds → Q (.ref a) H') → wE X e σ H Q
def PDT (X : Cx) (C : Addr) (e : Expr) (δ : Env) (ω : Om) (b : Bool) (ω' : Om) : Prop :=
  ∀ (σ : L2.St) (Hk H : Hp), Wf X.K C Hk H ω → EnvR X.K C Hk σ δ → ∀ Q : Bool → Hp → Prop, (∀ Hk' H', Same Hk Hk' → Wf X.K C Hk' H' ω' → Q b H') → wT X e σ H Q
def PDW (X : Cx) (C : Addr) (e : Expr) (δ : Env) (ω : Om) (b : Bool) (ω' : Om) : Prop :=
  ∀ (σ : L2.St) (Hk H : Hp), Wf X.K C Hk H ω → EnvR X.K C Hk σ δ → ∀ Q : Bool → Hp → Prop, (∀ Hk' H', Same Hk Hk' → Wf X.K C Hk' H' ω' → Q b H') → wW X e σ H Q
def PDA (X : Cx) (C : Addr) (es : List Expr) (δ : Env) (ω : Om) (ds : List D) (ω' : Om) : Prop :=
  ∀ (σ : L2.St) (Hk H : Hp), Wf X.K C Hk H ω → EnvR X.K C Hk σ δ → ∀ Q : List V → Hp → Prop, (∀ vs Hk' H', Same Hk Hk' → Wf X.K C Hk' H' ω' → RepL X.K C Hk' vs ds → Q vs H') → wA X es σ H Q
def PDK (X : Cx) (C : Addr) (ks : List Keyword) (δ : Env) (ω : Om) (ds : List D) (ω' : Om) : Prop :=
  ∀ (σ : L2.St) (Hk H : Hp), Wf X.K C Hk H ω → EnvR X.K C Hk σ δ → ∀ Q : List V → Hp → Prop, (∀ vs Hk' H', Same Hk Hk' → Wf X.K C Hk' H' ω' → RepL X.K C Hk' vs ds → Q vs H') → wK X ks σ H Q
abbrev EnvP := Env → Om → Prop
abbrev RetP := D → Om → Prop
/-- a block, from δ, ω: it goes on so that N, or gives d back so that R -/
def PSD (X : Cx) (C : Addr) (sts : List Stmt) (δ : Env) (ω : Om) (N : EnvP) (R : RetP) : Prop :=
  ∀ (σ : L2.St) (Hk H : Hp), Wf X.K C Hk H ω → EnvR X.K C Hk σ δ → ∀ Dd : Ends,
    (∀ δ' ω' σ' Hk' H', N δ' ω' → Same Hk Hk' → Wf X.K C Hk' H' ω' → EnvR X.K C Hk' σ' δ' → Dd.nx σ' H') →
    (∀ d ω' v Hk' H', R d ω' → Same Hk Hk' → Wf X.K C Hk' H' ω' → Rep X.K C Hk' v d → Dd.rt v H') → wSs X sts Dd σ H
def PS1 (X : Cx) (C : Addr) (st : Stmt) (δ : Env) (ω : Om) (N : EnvP) (R : RetP) : Prop :=
  ∀ (σ : L2.St) (Hk H : Hp), Wf X.K C Hk H ω → EnvR X.K C Hk σ δ → ∀ Dd : Ends,
    (∀ δ' ω' σ' Hk' H', N δ' ω' → Same Hk Hk' → Wf X.K C Hk' H' ω' → EnvR X.K C Hk' σ' δ' → Dd.nx σ' H') →
    (∀ d ω' v Hk' H', R d ω' → Same Hk Hk' → Wf X.K C Hk' H' ω' → Rep X.K C Hk' v d → Dd.rt v H') → wS X st Dd σ H

section
variable {X : Cx} {C : Addr} {δ : Env} {ω ω1 ω2 ω3 : Om} {a b c e : Expr} {pos : Pos} {d da db : D}
/-! ### expressions -/
theorem PD.cast {d' : D} (h : PD X C e δ ω d ω1) (q : d = d') : PD X C e δ ω d' ω1 := q ▸ h
theorem pd_var {x : Str} (i : Nat) (hN : X.N[i]? = some x) (hv : Vis X.env.scope x) (h : δ[i]? = some (some d))
    (hd : (x == ("__debug__" : Str)) = false := by decide) (hcd : (x == ("__classdict__" : Str)) = false := by decide) : PD X C (.Name x pos) δ ω d ω := by
  intro σ Hk H w er Q k
  obtain ⟨v, h1, h2⟩ := er.at_ i d h
  exact wE_of (pe_var hN hv hd hcd) ⟨v, h1, k v Hk H (Same.refl _) w h2⟩
theorem pd_int {n : Int} {j : Nat} : PD X C (.Constant (.int n) j pos) δ ω (.i n) ω := fun σ Hk H w er Q k => wE_of pe_int (k _ Hk H (Same.refl _) w (.int n))
theorem pd_bl {x : Bool} {j : Nat} : PD X C (.Constant (.bool x) j pos) δ ω (.b x) ω := fun σ Hk H w er Q k => wE_of pe_bl (k _ Hk H (Same.refl _) w (.bl x))
theorem pd_glob {x : Str} {n : Int} {t : Tok} (hg : Gl X x) (hm : X.mg x = some (.int n t)) (hd : (x == ("__debug__" : Str)) = false := by decide) : PD X C (.Name x pos) δ ω (.i n) ω := fun σ Hk H w er Q k =>
  wE_of (pe_glob (v := .int n) hg hm ⟨t, rfl⟩ hd) (k _ Hk H (Same.refl _) w (.int n))
theorem pd_bin {op : Operator} {r : R2} (ho : OpR X (binaryOp op) r) (ha : PD X C a δ ω da ω1) (hb : PD X C b δ ω1 db ω2)
    (hr : ∀ (Hk H : Hp) (x y : V) (Q : VK), Wf X.K C Hk H ω2 → Rep X.K C Hk x da → Rep X.K C Hk y db → (∀ v Hk' H', Same Hk Hk' → Wf X.K C Hk' H' ω3 → Rep X.K C Hk' v d → Q v H') → r x y H Q) : PD X C (.BinOp a op b pos) δ ω d ω3 := by
  intro σ Hk H w er Q k
  refine wE_of (pe_op ho pe_w pe_w) ?_
  exact ha σ Hk H w er _ fun x Hk1 H1 s1 w1 r1 => hb σ Hk1 H1 w1 (er.mono s1) _ fun y Hk2 H2 s2 w2 r2 => hr Hk2 H2 x y Q w2 (r1.mono s2) r2 fun v Hk' H' s w r => k v Hk' H' (s1.trans (s2.trans s)) w r
theorem pd_int0 {op : Operator} {g : Int → Int → Int} (ho : OpR X (binaryOp op) (rI0 fun i j => .int (g i j))) {m n : Int} (ha : PD X C a δ ω (.i m) ω1) (hb : PD X C b δ ω1 (.i n) ω2) : PD X C (.BinOp a op b pos) δ ω (.i (g m n)) ω2 :=
  pd_bin ho ha hb fun Hk H x y Q w rx ry k => ⟨m, n, rx.i_inv, ry.i_inv, k _ Hk H (Same.refl _) w (.int _)⟩
theorem pd_intC {op : Operator} {G : Int → Int → Prop} {g : Int → Int → Int} (ho : OpR X (binaryOp op) (rI G fun i j => .int (g i j))) {m n : Int} (ha : PD X C a δ ω (.i m) ω1) (hb : PD X C b δ ω1 (.i n) ω2) (hc : G m n) : PD X C (.BinOp a op b pos) δ ω (.i (g m n)) ω2 :=
  pd_bin ho ha hb fun Hk H x y Q w rx ry k => ⟨m, n, rx.i_inv, ry.i_inv, hc, k _ Hk H (Same.refl _) w (.int _)⟩
theorem pd_add {m n : Int} (ha : PD X C a δ ω (.i m) ω1) (hb : PD X C b δ ω1 (.i n) ω2) : PD X C (.BinOp a .Add b pos) δ ω (.i (m + n)) ω2 := pd_int0 (g := fun i j => i + j) op_add ha hb
theorem pd_sub {m n : Int} (ha : PD X C a δ ω (.i m) ω1) (hb : PD X C b δ ω1 (.i n) ω2) : PD X C (.BinOp a .Sub b pos) δ ω (.i (m - n)) ω2 := pd_int0 (g := fun i j => i - j) op_sub ha hb
theorem pd_mul {m n : Int} (ha : PD X C a δ ω (.i m) ω1) (hb : PD X C b δ ω1 (.i n) ω2) (hc : CMulW m n) : PD X C (.BinOp a .Mult b pos) δ ω (.i (m * n)) ω2 := pd_intC (g := fun i j => i * j) op_mulW ha hb hc
theorem pd_mulS {m n : Int} (ha : PD X C a δ ω (.i m) ω1) (hb : PD X C b δ ω1 (.i n) ω2) (hc : CMul m n) : PD X C (.BinOp a .Mult b pos) δ ω (.i (m * n)) ω2 := pd_intC (g := fun i j => i * j) op_mul ha hb hc
theorem pd_fdiv {m n : Int} (ha : PD X C a δ ω (.i m) ω1) (hb : PD X C b δ ω1 (.i n) ω2) (hc : CDivW m n) : PD X C (.BinOp a .FloorDiv b pos) δ ω (.i (m / n)) ω2 := pd_intC (g := fun i j => i / j) op_fdivW ha hb hc
theorem pd_mod {m n : Int} (ha : PD X C a δ ω (.i m) ω1) (hb : PD X C b δ ω1 (.i n) ω2) (hc : 0 < n) : PD X C (.BinOp a .Mod b pos) δ ω (.i (m % n)) ω2 := pd_intC (g := fun i j => i % j) op_mod ha hb hc
theorem pd_pow {m n : Int} (ha : PD X C a δ ω (.i m) ω1) (hb : PD X C b δ ω1 (.i n) ω2) (hc : CPow m n) : PD X C (.BinOp a .Pow b pos) δ ω (.i (m ^ n.toNat)) ω2 := pd_intC (g := fun i j => i ^ j.toNat) op_pow ha hb hc
/-- a comparison, as a value, as a test -/
theorem pd_cmp {op : CmpOp} {r : R2} (ho : OpR X (compareOp op) r) (ha : PD X C a δ ω da ω1) (hb : PD X C b δ ω1 db ω2) {x : Bool} (hm : behindInMarks op b = false)
    (hr : ∀ (Hk H : Hp) (u v : V) (Q : VK), Wf X.K C Hk H ω2 → Rep X.K C Hk u da → Rep X.K C Hk v db → Q (.bl x) H → r u v H Q) : PD X C (.Compare a [op] [b] pos) δ ω (.b x) ω2 := by
  intro σ Hk H w er Q k
  refine wE_of (pe_cmpR ho pe_w pe_w hm) ?_
  exact ha σ Hk H w er _ fun u Hk1 H1 s1 w1 r1 => hb σ Hk1 H1 w1 (er.mono s1) _ fun v Hk2 H2 s2 w2 r2 => hr Hk2 H2 u v Q w2 (r1.mono s2) r2 (k _ Hk2 H2 (s1.trans s2) w2 (.bl x))
theorem pdt_cmp {op : CmpOp} {r : R2} (ho : OpR X (compareOp op) r) (ha : PD X C a δ ω da ω1) (hb : PD X C b δ ω1 db ω2) {x : Bool} (hm : behindInMarks op b = false)
    (hr : ∀ (Hk H : Hp) (u v : V) (Q : VK), Wf X.K C Hk H ω2 → Rep X.K C Hk u da → Rep X.K C Hk v db → Q (.bl x) H → r u v H Q) : PDT X C (.Compare a [op] [b] pos) δ ω x ω2 := by
  intro σ Hk H w er Q k
  refine wT_of (pt_cmpR ho pe_w pe_w hm) ?_
  exact ha σ Hk H w er _ fun u Hk1 H1 s1 w1 r1 => hb σ Hk1 H1 w1 (er.mono s1) _ fun v Hk2 H2 s2 w2 r2 => hr Hk2 H2 u v _ w2 (r1.mono s2) r2 ⟨x, rfl, k Hk2 H2 (s1.trans s2) w2⟩
theorem hr_I {x : Bool} {K : PySem.W.Frag} {g : Int → Int → Bool} {m n : Int} (hx : g m n = x) : ∀ (Hk H : Hp) (u v : V) (Q : VK), Wf K C Hk H ω2 → Rep K C Hk u (.i m) → Rep K C Hk v (.i n) → Q (.bl x) H → (rI0 fun i j => .bl (g i j)) u v H Q :=
  fun Hk H u v Q w ru rv q => ⟨m, n, ru.i_inv, rv.i_inv, by show Q (.bl (g m n)) H; rw [hx]; exact q⟩
theorem hr_E {x : Bool} {K : PySem.W.Frag} {m n : Int} (hx : decide (m = n) = x) : ∀ (Hk H : Hp) (u v : V) (Q : VK), Wf K C Hk H ω2 → Rep K C Hk u (.i m) → Rep K C Hk v (.i n) → Q (.bl x) H → rEq u v H Q :=
  fun Hk H u v Q w ru rv q => by
    rw [ru.i_inv, rv.i_inv]
    refine ⟨rfl, ?_⟩
    have e : decide (V.int m = V.int n) = x := by
      rw [← hx]
      exact decide_eq_decide.mpr ⟨fun z => V.int.inj z, fun z => congrArg V.int z⟩
    rw [e]
    exact q
theorem hr_N {x : Bool} {K : PySem.W.Frag} {m n : Int} (hx : (!decide (m = n)) = x) : ∀ (Hk H : Hp) (u v : V) (Q : VK), Wf K C Hk H ω2 → Rep K C Hk u (.i m) → Rep K C Hk v (.i n) → Q (.bl x) H → rNe u v H Q :=
  fun Hk H u v Q w ru rv q => by
    rw [ru.i_inv, rv.i_inv]
    refine ⟨rfl, ?_⟩
    have e : (!decide (V.int m = V.int n)) = x := by
      rw [← hx, show decide (V.int m = V.int n) = decide (m = n) from decide_eq_decide.mpr ⟨fun z => V.int.inj z, fun z => congrArg V.int z⟩]
    rw [e]
    exact q
theorem hr_NB {x : Bool} {K : PySem.W.Frag} {m n : Bool} (hx : (!decide (m = n)) = x) : ∀ (Hk H : Hp) (u v : V) (Q : VK), Wf K C Hk H ω2 → Rep K C Hk u (.b m) → Rep K C Hk v (.b n) → Q (.bl x) H → rNe u v H Q :=
  fun Hk H u v Q w ru rv q => by
    rw [ru.b_inv, rv.b_inv]
    refine ⟨rfl, ?_⟩
    have e : (!decide (V.bl m = V.bl n)) = x := by
      rw [← hx, show decide (V.bl m = V.bl n) = decide (m = n) from decide_eq_decide.mpr ⟨fun z => V.bl.inj z, fun z => congrArg V.bl z⟩]
    rw [e]
    exact q
variable {m n : Int} {x : Bool}
theorem pd_lt (ha : PD X C a δ ω (.i m) ω1) (hb : PD X C b δ ω1 (.i n) ω2) : PD X C (.Compare a [.Lt] [b] pos) δ ω (.b (decide (m < n))) ω2 := pd_cmp op_lt ha hb (nomark _) (hr_I (g := fun i j => decide (i < j)) rfl)
theorem pd_le (ha : PD X C a δ ω (.i m) ω1) (hb : PD X C b δ ω1 (.i n) ω2) : PD X C (.Compare a [.LtE] [b] pos) δ ω (.b (decide (m ≤ n))) ω2 := pd_cmp op_le ha hb (nomark _) (hr_I (g := fun i j => decide (i ≤ j)) rfl)
theorem pd_gt (ha : PD X C a δ ω (.i m) ω1) (hb : PD X C b δ ω1 (.i n) ω2) : PD X C (.Compare a [.Gt] [b] pos) δ ω (.b (decide (n < m))) ω2 := pd_cmp op_gt ha hb (nomark _) (hr_I (g := fun i j => decide (j < i)) rfl)
theorem pd_ge (ha : PD X C a δ ω (.i m) ω1) (hb : PD X C b δ ω1 (.i n) ω2) : PD X C (.Compare a [.GtE] [b] pos) δ ω (.b (decide (n ≤ m))) ω2 := pd_cmp op_ge ha hb (nomark _) (hr_I (g := fun i j => decide (j ≤ i)) rfl)
theorem pd_eq (ha : PD X C a δ ω (.i m) ω1) (hb : PD X C b δ ω1 (.i n) ω2) : PD X C (.Compare a [.Eq] [b] pos) δ ω (.b (decide (m = n))) ω2 := pd_cmp op_eq ha hb (nomark _) (hr_E rfl)
theorem pdt_lt (ha : PD X C a δ ω (.i m) ω1) (hb : PD X C b δ ω1 (.i n) ω2) : PDT X C (.Compare a [.Lt] [b] pos) δ ω (decide (m < n)) ω2 := pdt_cmp op_lt ha hb (nomark _) (hr_I (g := fun i j => decide (i < j)) rfl)
theorem pdt_gt (ha : PD X C a δ ω (.i m) ω1) (hb : PD X C b δ ω1 (.i n) ω2) : PDT X C (.Compare a [.Gt] [b] pos) δ ω (decide (n < m)) ω2 := pdt_cmp op_gt ha hb (nomark _) (hr_I (g := fun i j => decide (j < i)) rfl)
theorem pdt_eq (ha : PD X C a δ ω (.i m) ω1) (hb : PD X C b δ ω1 (.i n) ω2) : PDT X C (.Compare a [.Eq] [b] pos) δ ω (decide (m = n)) ω2 := pdt_cmp op_eq ha hb (nomark _) (hr_E rfl)
theorem pdt_ne (ha : PD X C a δ ω (.i m) ω1) (hb : PD X C b δ ω1 (.i n) ω2) : PDT X C (.Compare a [.NotEq] [b] pos) δ ω (!decide (m = n)) ω2 := pdt_cmp op_ne ha hb (nomark _) (hr_N rfl)
theorem pdt_neB {p q : Bool} (ha : PD X C a δ ω (.b p) ω1) (hb : PD X C b δ ω1 (.b q) ω2) : PDT X C (.Compare a [.NotEq] [b] pos) δ ω (!decide (p = q)) ω2 := pdt_cmp op_ne ha hb (nomark _) (hr_NB rfl)
/-- is not True -/
theorem pdt_isntB {p q : Bool} (ha : PD X C a δ ω (.b p) ω1) (hb : PD X C b δ ω1 (.b q) ω2) : PDT X C (.Compare a [.IsNot] [b] pos) δ ω (!decide (p = q)) ω2 :=
  pdt_cmp op_notBl ha hb (nomark _) fun Hk H u v Q w ru rv k => ⟨p, q, ru.b_inv, rv.b_inv, k⟩
/-! ### truths -/
theorem pd_andT {rest : List Expr} (ha : PD X C a δ ω (.b true) ω1) (hb : PD X C (.BoolOp .And (b :: rest) pos) δ ω1 d ω2) : PD X C (.BoolOp .And (a :: b :: rest) pos) δ ω d ω2 := by
  intro σ Hk H w er Q k
  refine wE_of (pe_and pe_w pe_w) ?_
  refine ha σ Hk H w er _ fun u Hk1 H1 s1 w1 r1 => ?_
  refine ⟨true, r1.b_inv, ?_⟩
  rw [if_pos rfl]
  exact hb σ Hk1 H1 w1 (er.mono s1) Q fun v Hk2 H2 s2 w2 r2 => k v Hk2 H2 (s1.trans s2) w2 r2
theorem pd_and1 {op : BoolOp} (ha : PD X C a δ ω d ω1) : PD X C (.BoolOp op [a] pos) δ ω d ω1 := fun σ Hk H w er Q k => wE_of (pe_one pe_w) (ha σ Hk H w er Q k)
theorem pd_andB {p q : Bool} {rest : List Expr} (ha : PD X C a δ ω (.b p) ω1) (hb : p = true → PD X C (.BoolOp .And (b :: rest) pos) δ ω1 (.b q) ω1) : PD X C (.BoolOp .And (a :: b :: rest) pos) δ ω (.b (p && q)) ω1 := by
  intro σ Hk H w er Q k
  refine wE_of (pe_and pe_w pe_w) ?_
  refine ha σ Hk H w er _ fun u Hk1 H1 s1 w1 r1 => ?_
  refine ⟨p, r1.b_inv, ?_⟩
  cases p with
  | true =>
    rw [if_pos rfl]
    exact hb rfl σ Hk1 H1 w1 (er.mono s1) Q fun v Hk2 H2 s2 w2 r2 => k v Hk2 H2 (s1.trans s2) w2 r2
  | false =>
    rw [if_neg Bool.false_ne_true]
    exact k _ Hk1 H1 s1 w1 (.bl false)
theorem pd_not {p : Bool} (ha : PD X C a δ ω (.b p) ω1) : PD X C (.UnaryOp .Not a pos) δ ω (.b (!p)) ω1 := fun σ Hk H w er Q k =>
  wE_of (pe_not pe_w) (ha σ Hk H w er _ fun u Hk1 H1 s1 w1 r1 => ⟨p, r1.b_inv, k _ Hk1 H1 s1 w1 (.bl _)⟩)
theorem pdt_not {p : Bool} (ha : PDT X C a δ ω p ω1) : PDT X C (.UnaryOp .Not a pos) δ ω (!p) ω1 := fun σ Hk H w er Q k =>
  wT_of (pt_not pt_w) (ha σ Hk H w er _ fun Hk1 H1 s1 w1 => k Hk1 H1 s1 w1)
theorem pdt_val {p : Bool} (ha : PD X C a δ ω (.b p) ω1) (he : ∀ whole, isTrue a X.env whole = (do let v ← whole; standAt a.pos; holding [v] (truthy v)) := by intro _; rfl) : PDT X C a δ ω p ω1 := fun σ Hk H w er Q k =>
  wT_of (pt_val pe_w he) (ha σ Hk H w er _ fun u Hk1 H1 s1 w1 r1 => ⟨p, r1.b_inv, k Hk1 H1 s1 w1⟩)
theorem PDW.pt (h : PDW X C a δ ω x ω1) : PDT X C a δ ω x ω1 := fun σ Hk H w er Q k => wT_of (PW.pt pw_w) (h σ Hk H w er Q k)
theorem pdw_or1 (ha : PDT X C a δ ω x ω1) : PDW X C (.BoolOp .Or [a] pos) δ ω x ω1 := fun σ Hk H w er Q k => wW_of (pw_or1 pt_w) (ha σ Hk H w er Q k)
theorem pdw_and1 (ha : PDT X C a δ ω x ω1) : PDW X C (.BoolOp .And [a] pos) δ ω x ω1 := fun σ Hk H w er Q k => wW_of (pw_and1 pt_w) (ha σ Hk H w er Q k)
theorem pdw_orF {rest : List Expr} (ha : PDT X C a δ ω false ω1) (hb : PDW X C (.BoolOp .Or (b :: rest) pos) δ ω1 x ω2) : PDW X C (.BoolOp .Or (a :: b :: rest) pos) δ ω x ω2 := by
  intro σ Hk H w er Q k
  refine wW_of (pw_or pt_w pw_w) ?_
  refine ha σ Hk H w er _ fun Hk1 H1 s1 w1 => ?_
  rw [if_neg Bool.false_ne_true]
  exact hb σ Hk1 H1 w1 (er.mono s1) Q fun Hk2 H2 s2 w2 => k Hk2 H2 (s1.trans s2) w2
theorem pdw_and {p q : Bool} {rest : List Expr} (ha : PDT X C a δ ω p ω1) (hb : p = true → PDW X C (.BoolOp .And (b :: rest) pos) δ ω1 q ω1) : PDW X C (.BoolOp .And (a :: b :: rest) pos) δ ω (p && q) ω1 := by
  intro σ Hk H w er Q k
  refine wW_of (pw_and pt_w pw_w) ?_
  refine ha σ Hk H w er _ fun Hk1 H1 s1 w1 => ?_
  cases p with
  | true =>
    rw [if_pos rfl]
    exact hb rfl σ Hk1 H1 w1 (er.mono s1) Q fun Hk2 H2 s2 w2 => k Hk2 H2 (s1.trans s2) w2
  | false =>
    rw [if_neg Bool.false_ne_true]
    exact k Hk1 H1 s1 w1
theorem pd_if {p : Bool} (hc : PDT X C c δ ω p ω1) (ha : p = true → PD X C a δ ω1 d ω2) (hb : p = false → PD X C b δ ω1 d ω2) : PD X C (.IfExp c a b pos) δ ω d ω2 := by
  intro σ Hk H w er Q k
  refine wE_of (pe_ifExp pt_w pe_w pe_w) ?_
  refine hc σ Hk H w er _ fun Hk1 H1 s1 w1 => ?_
  cases p with
  | true =>
    rw [if_pos rfl]
    exact ha rfl σ Hk1 H1 w1 (er.mono s1) Q fun v Hk2 H2 s2 w2 r2 => k v Hk2 H2 (s1.trans s2) w2 r2
  | false =>
    rw [if_neg Bool.false_ne_true]
    exact hb rfl σ Hk1 H1 w1 (er.mono s1) Q fun v Hk2 H2 s2 w2 r2 => k v Hk2 H2 (s1.trans s2) w2 r2
/-! ### arguments, displays -/
theorem pda_nil : PDA X C [] δ ω [] ω := fun σ Hk H w er Q k => wA_of pa_nil (k [] Hk H (Same.refl _) w .nil)
theorem pda_cons {es : List Expr} {ds : List D} (ha : PD X C e δ ω d ω1) (hr : PDA X C es δ ω1 ds ω2) (hs : starEach (e :: es) X.env = (false, eval e X.env) :: starEach es X.env := by rfl) : PDA X C (e :: es) δ ω (d :: ds) ω2 := by
  intro σ Hk H w er Q k
  refine wA_of (pa_cons pe_w pa_w hs) ?_
  exact ha σ Hk H w er _ fun v Hk1 H1 s1 w1 r1 => hr σ Hk1 H1 w1 (er.mono s1) _ fun vs Hk2 H2 s2 w2 r2 => k _ Hk2 H2 (s1.trans s2) w2 (.cons (r1.mono s2) r2)
theorem pdk_nil : PDK X C [] δ ω [] ω := fun σ Hk H w er Q k => wK_of pk_nil (k [] Hk H (Same.refl _) w .nil)
theorem pdk_cons {nm : Option Str} {kpos : Pos} {kws : List Keyword} {ds : List D} (ha : PD X C e δ ω d ω1) (hr : PDK X C kws δ ω1 ds ω2) : PDK X C (⟨nm, e, kpos⟩ :: kws) δ ω (d :: ds) ω2 := by
  intro σ Hk H w er Q k
  refine wK_of (pk_cons pe_w pk_w) ?_
  exact ha σ Hk H w er _ fun v Hk1 H1 s1 w1 r1 => hr σ Hk1 H1 w1 (er.mono s1) _ fun vs Hk2 H2 s2 w2 r2 => k _ Hk2 H2 (s1.trans s2) w2 (.cons (r1.mono s2) r2)
theorem pd_tup {es : List Expr} {ds : List D} {x1} (h : PDA X C es δ ω ds ω1) (hz : ds.length ≤ 1000) : PD X C (.Tuple es x1 pos) δ ω (.t ds) ω1 := by
  intro σ Hk H w er Q k
  refine wE_of (pe_tup pa_w) ?_
  refine h σ Hk H w er _ fun vs Hk1 H1 s1 w1 r1 => ?_
  refine ⟨by rw [r1.len]; exact Nat.le_trans hz (by decide), fun p hp => ?_⟩
  exact k _ (upd Hk1 p (.tup vs)) _ (s1.trans (w1.newS hp)) (w1.new hp) (.tup (SqT.of upd_same) (r1.mono (w1.newS hp)))
theorem pdn_lst {es : List Expr} {ds : List D} (h : PDA X C es δ ω ds ω1) (hz : ds.length ≤ 1000) : PDN X C (.List es pos) δ ω ds ω1 := by
  intro σ Hk H w er Q k
  refine wE_of (pe_lst pa_w) ?_
  refine h σ Hk H w er _ fun vs Hk1 H1 s1 w1 r1 => ?_
  refine ⟨by rw [r1.len]; exact Nat.le_trans hz (by decide), fun p hp => ?_⟩
  exact k p vs Hk1 _ s1 (w1.dead hp) (w1.fresh hp).1 (w1.fresh hp).2 upd_same r1
/-- a list of its own is given away -/
theorem PDN.pd {ds : List D} (h : PDN X C e δ ω ds ω1) : PD X C e δ ω (.l ds) ω1 := by
  intro σ Hk H w er Q k
  refine h σ Hk H w er Q fun a vs Hk1 H1 s1 w1 ha hω hH r1 => ?_
  have s2 : Same Hk1 (upd Hk1 a (.lst vs)) := Same.new ha
  refine k _ (upd Hk1 a (.lst vs)) H1 (s1.trans s2) ⟨fun b u e' => ?_, fun b o e' => ?_⟩ (.lst (SqL.of upd_same) (r1.mono s2))
  · by_cases q : b = a
    · rw [q, upd_same] at e'
      cases e'
      rw [q]
      exact hH
    · rw [upd_ne q] at e'
      exact w1.same b u e'
  · have q : b ≠ a := fun q => by
      rw [q, hω] at e'
      cases e'
    obtain ⟨h1, h2, h3, h4⟩ := w1.own b o e'
    exact ⟨by rw [upd_ne q]; exact h1, h2, h3, h4.mono s2⟩
/-- a built-in called -/
theorem pd_callB {id : String} {r : List V → Hp → VK → Prop} {f : Str} {p : Pos} {es : List Expr} {ds : List D} (hc : CallR X (.builtin id) r) (hg : Gl X f) (hm : X.mg f = none) (hv : bootBuiltins f = some (.builtin id)) (ha : PDA X C (e :: es) δ ω ds ω1)
    (hr : ∀ (Hk H : Hp) (vs : List V) (Q : VK), Wf X.K C Hk H ω1 → RepL X.K C Hk vs ds → (∀ v Hk' H', Same Hk Hk' → Wf X.K C Hk' H' ω2 → Rep X.K C Hk' v d → Q v H') → r vs H Q)
    (hn : f ≠ "__name__" := by decide) (hdb : (f == ("__debug__" : Str)) = false := by decide) (hs : starEach (e :: es) X.env = (false, eval e X.env) :: starEach es X.env := by rfl) (hpl : (backTo pos (starEach es X.env)).any (·.1) = false := by rfl) : PD X C (.Call (.Name f p) (e :: es) [] pos) δ ω d ω2 := by
  intro σ Hk H w er Q k
  refine wE_of (pe_callB hc hg hm hv pa_w hn hdb hs hpl) ?_
  exact ha σ Hk H w er _ fun vs Hk1 H1 s1 w1 r1 => hr Hk1 H1 vs Q w1 r1 fun v Hk2 H2 s2 w2 r2 => k v Hk2 H2 (s1.trans s2) w2 r2
theorem pd_callTy {T : String} {r : List V → Hp → VK → Prop} {f : Str} {p : Pos} {es : List Expr} {ds : List D} (hc : CallR X (.type T) r) (hg : Gl X f) (hm : X.mg f = none) (hv : bootBuiltins f = some (.type T)) (ha : PDA X C (e :: es) δ ω ds ω1)
    (hr : ∀ (Hk H : Hp) (vs : List V) (Q : VK), Wf X.K C Hk H ω1 → RepL X.K C Hk vs ds → (∀ v Hk' H', Same Hk Hk' → Wf X.K C Hk' H' ω2 → Rep X.K C Hk' v d → Q v H') → r vs H Q)
    (hn : f ≠ "__name__" := by decide) (hdb : (f == ("__debug__" : Str)) = false := by decide) (hs : starEach (e :: es) X.env = (false, eval e X.env) :: starEach es X.env := by rfl) (hpl : (backTo pos (starEach es X.env)).any (·.1) = false := by rfl) : PD X C (.Call (.Name f p) (e :: es) [] pos) δ ω d ω2 := by
  intro σ Hk H w er Q k
  refine wE_of (pe_callTy hc hg hm hv pa_w hn hdb hs hpl) ?_
  exact ha σ Hk H w er _ fun vs Hk1 H1 s1 w1 r1 => hr Hk1 H1 vs Q w1 r1 fun v Hk2 H2 s2 w2 r2 => k v Hk2 H2 (s1.trans s2) w2 r2
end
end FW
set_option Elab.async false
set_option linter.all false
set_option autoImplicit false
set_option maxRecDepth 100000
set_option maxHeartbeats 1000000
/-! C2: indices, attributes, calls, walks, comprehensions, statements. -/
namespace FW
open PySem PySem.Spec PyProof.Rows L2
/-- n things, the k-th g k -/
def gen (n : Nat) (g : Nat → D) : List D := (List.range n).map g
theorem gen_len (n : Nat) (g : Nat → D) : (gen n g).length = n := by
  unfold gen
  rw [List.length_map, List.length_range]
theorem gen_get {n : Nat} {g : Nat → D} {k : Nat} (h : k < n) : (gen n g)[k]? = some (g k) := by
  unfold gen
  rw [List.getElem?_map, List.getElem?_range h]
  rfl
theorem gen_succ (n : Nat) (g : Nat → D) : gen (n + 1) g = gen n g ++ [g n] := by
  unfold gen
  rw [List.range_succ, List.map_append]
  rfl
theorem gen_congr {n : Nat} {g h : Nat → D} (e : ∀ k, k < n → g k = h k) : gen n g = gen n h := by
  unfold gen
  exact List.map_congr_left fun k hk => e k (List.mem_range.mp hk)
theorem gen_ints (n : Nat) (f : Nat → Int) : gen n (fun k => .i (f k)) = ((List.range n).map f).map D.i := by
  unfold gen
  rw [List.map_map]
  rfl
theorem gen_bls (n : Nat) (f : Nat → Bool) : gen n (fun k => .b (f k)) = ((List.range n).map f).map D.b := by
  unfold gen
  rw [List.map_map]
  rfl
section
variable {X : Cx} {C : Addr} {δ : Env} {ω ω1 ω2 ω3 : Om} {a b c e : Expr} {pos : Pos} {d da db : D} {m n : Int}
/-! ### indices -/
theorem pd_ixT {ds : List D} {j : Nat} (ha : PD X C a δ ω (.t ds) ω1) (hb : PD X C b δ ω1 (.i n) ω2) (hj : n = (j : Int)) (h : ds[j]? = some d) (hs : PlainIx b := by intro _ _; rfl) : PD X C (.Subscript a b pos) δ ω d ω2 := by
  intro σ Hk H w er Q k
  refine wE_of (pe_ix ix_tup pe_w pe_w hs) ?_
  refine ha σ Hk H w er _ fun x Hk1 H1 s1 w1 r1 => hb σ Hk1 H1 w1 (er.mono s1) _ fun y Hk2 H2 s2 w2 r2 => ?_
  obtain ⟨p, vs, rfl, hq, hr⟩ := (r1.mono s2).t_inv
  obtain ⟨v, hv, rv⟩ := hr.get h
  refine ⟨p, vs, n, v, rfl, r2.i_inv, Same.seqT w2.same hq, ?_, k v Hk2 H2 (s1.trans s2) w2 rv⟩
  rw [hj]
  exact atI_nat hv
theorem pd_ixL {ds : List D} {j : Nat} (ha : PD X C a δ ω (.l ds) ω1) (hb : PD X C b δ ω1 (.i n) ω2) (hj : n = (j : Int)) (h : ds[j]? = some d) (hs : PlainIx b := by intro _ _; rfl) : PD X C (.Subscript a b pos) δ ω d ω2 := by
  intro σ Hk H w er Q k
  refine wE_of (pe_ix ix_list pe_w pe_w hs) ?_
  refine ha σ Hk H w er _ fun x Hk1 H1 s1 w1 r1 => hb σ Hk1 H1 w1 (er.mono s1) _ fun y Hk2 H2 s2 w2 r2 => ?_
  obtain ⟨p, vs, rfl, hq, hr⟩ := (r1.mono s2).l_inv
  obtain ⟨v, hv, rv⟩ := hr.get h
  refine ⟨p, vs, n, v, rfl, r2.i_inv, w2.same.seq hq, ?_, k v Hk2 H2 (s1.trans s2) w2 rv⟩
  rw [hj]
  exact atI_nat hv
/-- an item of an owned list -/
theorem pd_ixO {ds : List D} {j : Nat} {p : Addr} (ha : PD X C a δ ω (.adr p) ω1) (hb : PD X C b δ ω1 (.i n) ω2) (ho : ω2 p = some (.lst ds)) (hj : n = (j : Int)) (h : ds[j]? = some d) (hs : PlainIx b := by intro _ _; rfl) : PD X C (.Subscript a b pos) δ ω d ω2 := by
  intro σ Hk H w er Q k
  refine wE_of (pe_ix ix_list pe_w pe_w hs) ?_
  refine ha σ Hk H w er _ fun x Hk1 H1 s1 w1 r1 => hb σ Hk1 H1 w1 (er.mono s1) _ fun y Hk2 H2 s2 w2 r2 => ?_
  obtain ⟨_, ho', e1, e2⟩ := w2.own p _ ho
  obtain ⟨vs, rfl, hr⟩ := e2.lst_inv
  obtain ⟨v, hv, rv⟩ := hr.get h
  refine ⟨p, vs, n, v, r1.adr_inv, r2.i_inv, SqL.of e1, ?_, k v Hk2 H2 (s1.trans s2) w2 rv⟩
  rw [hj]
  exact atI_nat hv
theorem atI_neg1 {α : Type} {xs : List α} {v : α} (h : xs[xs.length - 1]? = some v) (h0 : 0 < xs.length) : atI xs (-1) = some v := by
  have e : xs = xs.dropLast ++ [v] := by
    have h1 : xs ≠ [] := by
      intro z
      rw [z] at h0
      simp at h0
    have h2 : xs.getLast h1 = v := by
      have h3 := List.getLast?_eq_getElem? (l := xs)
      rw [h, List.getLast?_eq_getLast h1] at h3
      exact Option.some.inj h3
    rw [← h2, List.dropLast_concat_getLast]
  rw [e]
  exact atI_last _ _
theorem pd_ixLn {ds : List D} (ha : PD X C a δ ω (.l ds) ω1) (hb : PD X C b δ ω1 (.i (-1)) ω2) (h : ds[ds.length - 1]? = some d) (h0 : 0 < ds.length) (hs : PlainIx b := by intro _ _; rfl) : PD X C (.Subscript a b pos) δ ω d ω2 := by
  intro σ Hk H w er Q k
  refine wE_of (pe_ix ix_list pe_w pe_w hs) ?_
  refine ha σ Hk H w er _ fun x Hk1 H1 s1 w1 r1 => hb σ Hk1 H1 w1 (er.mono s1) _ fun y Hk2 H2 s2 w2 r2 => ?_
  obtain ⟨p, vs, rfl, hq, hr⟩ := (r1.mono s2).l_inv
  have el := hr.len
  obtain ⟨v, hv, rv⟩ := hr.get h
  refine ⟨p, vs, -1, v, rfl, r2.i_inv, w2.same.seq hq, ?_, k v Hk2 H2 (s1.trans s2) w2 rv⟩
  rw [← el] at hv h0
  exact atI_neg1 hv h0
theorem pd_neg (ha : PD X C a δ ω (.i m) ω1) : PD X C (.UnaryOp .USub a pos) δ ω (.i (-m)) ω1 := fun σ Hk H w er Q k =>
  wE_of (pe_un un_neg pe_w) (ha σ Hk H w er _ fun u Hk1 H1 s1 w1 r1 => ⟨m, r1.i_inv, k _ Hk1 H1 s1 w1 (.int _)⟩)
/-! ### attributes of a walk -/
theorem pd_rows (ha : PD X C a δ ω (.w d m) ω1) (cl : Cls X.K C) (nR : NoAttr X.K C "rows") (hb : attributeBase a "rows" X.env (eval a X.env) = eval a X.env := by rfl) : PD X C (.Attribute a "rows" pos) δ ω d ω1 := by
  intro σ Hk H w er Q k
  refine wE_of (pe_fld pe_w hb) ?_
  refine ha σ Hk H w er _ fun x Hk1 H1 s1 w1 r1 => ?_
  cases r1 with
  | wlk h h1 h2 h3 hr => exact ⟨_, C, _, _, _, rfl, w1.same _ _ h, cl, nR, h1, k _ Hk1 H1 s1 w1 hr⟩
theorem pd_whole (ha : PD X C a δ ω (.w d m) ω1) (cl : Cls X.K C) (nW : NoAttr X.K C "whole") (hb : attributeBase a "whole" X.env (eval a X.env) = eval a X.env := by rfl) : PD X C (.Attribute a "whole" pos) δ ω (.i m) ω1 := by
  intro σ Hk H w er Q k
  refine wE_of (pe_fld pe_w hb) ?_
  refine ha σ Hk H w er _ fun x Hk1 H1 s1 w1 r1 => ?_
  cases r1 with
  | wlk h h1 h2 h3 hr => exact ⟨_, C, _, _, _, rfl, w1.same _ _ h, cl, nW, h2, k _ Hk1 H1 s1 w1 (.int _)⟩
/-! ### promises -/
abbrev FSp := List D → Om → D → Om → Prop
/-- f takes data and gives data -/
def spF (K : PySem.W.Frag) (C : Addr) (f : FSp) : Sp := fun vs H Q _ => ∃ (ds : List D) (ω : Om) (d : D) (ω' : Om) (Hk : Hp), f ds ω d ω' ∧ Wf K C Hk H ω ∧ RepL K C Hk vs ds ∧
  ∀ v Hk' H', Same Hk Hk' → Wf K C Hk' H' ω' → Rep K C Hk' v d → Q v H'
theorem pd_call {k : Nat} {f : Addr} {fd : FuncData} {ps : List Str} {g : FSp} {x : Str} {p : Pos} {es : List Expr} {ds : List D} (F : FnOk X.prog X.w X.K X.mg X.base CX0 k f fd ps (spF X.K C g)) (hr : Room k X.A) (hg : Gl X x) (hm : X.mg x = some (.ref f))
    (hk : PySem.W.keepIn X.K (.ref f) = true) (hb : Binds X.K fd ps []) (ha : PDA X C (e :: es) δ ω ds ω1) (h : g ds ω1 d ω2)
    (hdb : (x == ("__debug__" : Str)) = false := by decide) (he : starEach (e :: es) X.env = (false, eval e X.env) :: starEach es X.env := by rfl) (hpl : (backTo pos (starEach es X.env)).any (·.1) = false := by rfl) : PD X C (.Call (.Name x p) (e :: es) [] pos) δ ω d ω2 := by
  intro σ Hk H w er Q k
  refine wE_of (pe_call (E := E0) F hr hg hm hk hb .nil pass0 pa_w hdb he hpl) ?_
  refine ha σ Hk H w er _ fun vs Hk1 H1 s1 w1 r1 => ?_
  rw [List.append_nil]
  exact ⟨ds, ω1, d, ω2, Hk1, h, w1, r1, fun v Hk2 H2 s2 w2 r2 => k v Hk2 H2 (s1.trans s2) w2 r2⟩
/-- a call that leaves one keyword-only default -/
theorem pd_callD {k : Nat} {f : Addr} {fd : FuncData} {ps : List Str} {g : FSp} {x : Str} {p : Pos} {es : List Expr} {ds : List D} {dn : Int} {dvs : List Value} (F : FnOk X.prog X.w X.K X.mg X.base CX0 k f fd ps (spF X.K C g)) (hr : Room k X.A) (hg : Gl X x) (hm : X.mg x = some (.ref f))
    (hk : PySem.W.keepIn X.K (.ref f) = true) (hb : Binds X.K fd ps dvs) (hd : Vals [V.int dn] dvs) (ha : PDA X C (e :: es) δ ω ds ω1) (h : g (ds ++ [.i dn]) ω1 d ω2)
    (hdb : (x == ("__debug__" : Str)) = false := by decide) (he : starEach (e :: es) X.env = (false, eval e X.env) :: starEach es X.env := by rfl) (hpl : (backTo pos (starEach es X.env)).any (·.1) = false := by rfl) : PD X C (.Call (.Name x p) (e :: es) [] pos) δ ω d ω2 := by
  intro σ Hk H w er Q k
  refine wE_of (pe_call (E := E0) F hr hg hm hk hb hd pass0 pa_w hdb he hpl) ?_
  refine ha σ Hk H w er _ fun vs Hk1 H1 s1 w1 r1 => ?_
  exact ⟨ds ++ [.i dn], ω1, d, ω2, Hk1, h, w1, r1.app (.one (.int dn)), fun v Hk2 H2 s2 w2 r2 => k v Hk2 H2 (s1.trans s2) w2 r2⟩
/-- a call with keywords, every parameter written -/
theorem pd_callK {k : Nat} {f : Addr} {fd : FuncData} {ps ks : List Str} {g : FSp} {x : Str} {p : Pos} {es : List Expr} {kws : List Keyword} {ds dk : List D} {nn : Nat} (F : FnOk X.prog X.w X.K X.mg X.base CX0 k f fd ps (spF X.K C g)) (hr : Room k X.A) (hg : Gl X x) (hm : X.mg x = some (.ref f))
    (hk : PySem.W.keepIn X.K (.ref f) = true) (hb : KBn X.K fd ps nn ks (fun us ws => us ++ ws) (fun us ws => us ++ ws)) (ha : PDA X C (e :: es) δ ω ds ω1) (hkw : PDK X C kws δ ω1 dk ω2) (h : g (ds ++ dk) ω2 d ω3) (l1 : ds.length = nn) (l2 : dk.length = ks.length)
    (hall : (backToKw pos (keywordEach kws X.env)).all (·.1.isSome) = true := by rfl) (hks : (backToKw pos (keywordEach kws X.env)).filterMap (·.1) = ks := by rfl)
    (hdb : (x == ("__debug__" : Str)) = false := by decide) (he : starEach (e :: es) X.env = (false, eval e X.env) :: starEach es X.env := by rfl)
    (hpl : ((backTo pos (starEach (e :: es) X.env)).any (·.1) || (backToKw pos (keywordEach kws X.env)).any (·.1.isNone)) = false := by rfl) : PD X C (.Call (.Name x p) (e :: es) kws pos) δ ω d ω3 := by
  intro σ Hk H w er Q k
  refine wE_of (pe_callN (E := E0) F hr hg hm hk hb pass0 pa_w pk_w hall hks hdb he hpl) ?_
  refine ha σ Hk H w er _ fun vs Hk1 H1 s1 w1 r1 => hkw σ Hk1 H1 w1 (er.mono s1) _ fun zs Hk2 H2 s2 w2 r2 => ?_
  exact ⟨r1.len.trans l1, r2.len.trans l2, ds ++ dk, ω2, d, ω3, Hk2, h, w2, (r1.mono s2).app r2, fun v Hk3 H3 s3 w3 r3 => k v Hk3 H3 (s1.trans (s2.trans s3)) w3 r3⟩
/-! ### targets -/
def SameBut (l : List Nat) (σ σ' : L2.St) : Prop := σ'.length = σ.length ∧ ∀ j, j ∉ l → σ'[j]? = σ[j]?
def EvG (K : PySem.W.Frag) (C : Addr) (g : TG) (l : List Nat) (d : D) (δ δ' : Env) : Prop :=
  ∀ (σ : L2.St) (Hk H : Hp) (v : V), Same Hk H → EnvR K C Hk σ δ → Rep K C Hk v d → ∀ Q : L2.St → Hp → Prop, (∀ σ', EnvR K C Hk σ' δ' → SameBut l σ σ' → Q σ' H) → g v σ H Q
theorem evg_name {K : PySem.W.Frag} {i : Nat} : EvG K C (gName i) [i] d δ (δ.set i (some d)) := by
  intro σ Hk H v s er r Q k
  refine k _ (er.set r) ⟨List.length_set, fun j hj => ?_⟩
  rw [List.getElem?_set_ne (fun z => hj (by simp [z]))]
theorem evg_pair {K : PySem.W.Frag} {g1 g2 : TG} {l1 l2 : List Nat} {d1 d2 : D} {δ1 δ2 : Env} (h1 : EvG K C g1 l1 d1 δ δ1) (h2 : EvG K C g2 l2 d2 δ1 δ2) : EvG K C (gTup K 2 (gCons g1 (gCons g2 gNil))) (l1 ++ l2) (.t [d1, d2]) δ δ2 := by
  intro σ Hk H v s er r Q k
  obtain ⟨p, vs, rfl, hq, hr⟩ := r.t_inv
  cases hr with
  | cons r1 hr =>
    cases hr with
    | cons r2 hr =>
      cases hr with
      | nil =>
        refine ⟨p, _, rfl, Same.seqT s hq, rfl, _, _, rfl, ?_⟩
        refine h1 σ Hk H _ s er r1 _ fun σ1 e1 b1 => ?_
        refine ⟨_, _, rfl, ?_⟩
        refine h2 σ1 Hk H _ s e1 r2 _ fun σ2 e2 b2 => ⟨rfl, k σ2 e2 ⟨b2.1.trans b1.1, fun j hj => ?_⟩⟩
        rw [b2.2 j (fun z => hj (List.mem_append_right _ z)), b1.2 j (fun z => hj (List.mem_append_left _ z))]
theorem wipe_get {σ : L2.St} {vs : List Nat} {j : Nat} (h : j ∉ vs) : (wipe σ vs)[j]? = σ[j]? := wipe_out h
theorem wipe_in {σ : L2.St} : ∀ {vs : List Nat} {j : Nat}, j ∈ vs → j < σ.length → (wipe σ vs)[j]? = some none
  | v :: vs, j, h, hl => by
    show ((wipe σ vs).set v none)[j]? = some none
    by_cases q : v = j
    · subst q
      rw [List.getElem?_set_self (by rw [wipe_length]; exact hl)]
    · rw [List.getElem?_set_ne q]
      refine wipe_in ?_ hl
      rcases List.mem_cons.mp h with e | e
      · exact absurd e.symm q
      · exact e
theorem wipe_but {l : List Nat} {vs : List Nat} {σ σ' : L2.St} (h : SameBut l (wipe σ vs) σ') (hl : ∀ j ∈ l, j ∈ vs) : wipe σ' vs = wipe σ vs := by
  have hlen : σ'.length = σ.length := by rw [h.1, wipe_length]
  refine List.ext_getElem? fun j => ?_
  by_cases hj : j ∈ vs
  · by_cases hz : j < σ.length
    · rw [wipe_in hj (by rw [hlen]; exact hz), wipe_in hj hz]
    · rw [List.getElem?_eq_none (by rw [wipe_length, hlen]; omega), List.getElem?_eq_none (by rw [wipe_length]; omega)]
  · rw [wipe_get hj, h.2 j (fun z => hj (hl j z))]
/-! ### walks -/
/-- J gives n things, the k-th it k, as long as what Hk knows stands -/
def Wlk (K : PySem.W.Frag) (C : Addr) (J : It) (Hk : Hp) (n : Nat) (it : Nat → D) : Prop :=
  ∀ (Hk1 H1 : Hp) (ω : Om), Same Hk Hk1 → Wf K C Hk1 H1 ω → J.stop n H1 ∧ ∀ i, i < n → J.go i H1 ∧ ∀ x H2, J.yld i H1 x H2 → ∃ Hk2, Same Hk1 Hk2 ∧ Wf K C Hk2 H2 ω ∧ Rep K C Hk2 x (it i)
def PID (X : Cx) (C : Addr) (tg iter : Expr) (δ : Env) (ω : Om) (n : Nat) (it : Nat → D) (ω' : Om) : Prop :=
  ∀ (σ : L2.St) (Hk H : Hp), Wf X.K C Hk H ω → EnvR X.K C Hk σ δ → ∀ R : It → Hp → Prop, (∀ J Hk' H', Same Hk Hk' → Wf X.K C Hk' H' ω' → Wlk X.K C J Hk' n it → R J H') → wI X tg iter σ H R
theorem repL_at {K : PySem.W.Frag} {H : Hp} {vs : List V} {ds : List D} (h : RepL K C H vs ds) {i : Nat} (hi : i < ds.length) : ∃ v, vs[i]? = some v ∧ Rep K C H v (ds.getD i .no) := by
  obtain ⟨v, h1, h2⟩ := h.get (List.getElem?_eq_getElem hi)
  refine ⟨v, h1, ?_⟩
  rw [List.getD_eq_getElem?_getD, List.getElem?_eq_getElem hi]
  exact h2
theorem pid_tup {tg : Expr} {ds : List D} (ha : PD X C a δ ω (.t ds) ω1) : PID X C tg a δ ω ds.length (fun k => ds.getD k .no) ω1 := by
  intro σ Hk H w er R k
  refine wI_of (pi_tup pe_w) ?_
  refine ha σ Hk H w er _ fun x Hk1 H1 s1 w1 r1 => ?_
  obtain ⟨p, vs, rfl, hq, hr⟩ := r1.t_inv
  refine ⟨p, rfl, ⟨vs, Same.seqT w1.same hq⟩, k _ Hk1 H1 s1 w1 ?_⟩
  intro Hk2 H2 ω' s2 w2
  have hq2 : SqT X.K H2 p vs := Same.seqT w2.same (Same.seqT s2 hq)
  refine ⟨⟨vs, hq2, Nat.le_of_eq hr.len⟩, fun i hi => ?_⟩
  obtain ⟨v, hv, rv⟩ := repL_at hr hi
  refine ⟨⟨vs, v, hq2, hv⟩, fun x H3 hy => ?_⟩
  obtain ⟨rfl, hy⟩ := hy
  have e := hy vs hq2
  rw [hv] at e
  cases e
  exact ⟨Hk2, Same.refl _, w2, rv.mono s2⟩
theorem pid_lst {tg : Expr} {ds : List D} (ha : PD X C a δ ω (.l ds) ω1) : PID X C tg a δ ω ds.length (fun k => ds.getD k .no) ω1 := by
  intro σ Hk H w er R k
  refine wI_of (pi_list pe_w) ?_
  refine ha σ Hk H w er _ fun x Hk1 H1 s1 w1 r1 => ?_
  obtain ⟨p, vs, rfl, hq, hr⟩ := r1.l_inv
  refine ⟨p, rfl, ⟨vs, w1.same.seq hq⟩, k _ Hk1 H1 s1 w1 ?_⟩
  intro Hk2 H2 ω' s2 w2
  have hq2 : SqL X.K H2 p vs := w2.same.seq (s2.seq hq)
  refine ⟨⟨vs, hq2, Nat.le_of_eq hr.len⟩, fun i hi => ?_⟩
  obtain ⟨v, hv, rv⟩ := repL_at hr hi
  refine ⟨⟨vs, v, hq2, hv⟩, fun x H3 hy => ?_⟩
  obtain ⟨rfl, hy⟩ := hy
  have e := hy vs hq2
  rw [hv] at e
  cases e
  exact ⟨Hk2, Same.refl _, w2, rv.mono s2⟩
theorem PID.of_eq {tg : Expr} {n n' : Nat} {it it' : Nat → D} (h : PID X C tg a δ ω n it ω1) (e : n = n') (q : ∀ k, k < n' → it k = it' k) : PID X C tg a δ ω n' it' ω1 := by
  subst e
  intro σ Hk H w er R k
  refine h σ Hk H w er R fun J Hk1 H1 s1 w1 hw => k J Hk1 H1 s1 w1 fun Hk2 H2 ω' s2 w2 => ?_
  obtain ⟨h1, h2⟩ := hw Hk2 H2 ω' s2 w2
  refine ⟨h1, fun i hi => ?_⟩
  rw [← q i hi]
  exact h2 i hi
theorem pid_gt {tg : Expr} {n : Nat} {g : Nat → D} (ha : PD X C a δ ω (.t (gen n g)) ω1) : PID X C tg a δ ω n g ω1 :=
  (pid_tup ha).of_eq (gen_len n g) fun k hk => by rw [List.getD_eq_getElem?_getD, gen_get hk] <;> rfl
theorem pid_gl {tg : Expr} {n : Nat} {g : Nat → D} (ha : PD X C a δ ω (.l (gen n g)) ω1) : PID X C tg a δ ω n g ω1 :=
  (pid_lst ha).of_eq (gen_len n g) fun k hk => by rw [List.getD_eq_getElem?_getD, gen_get hk] <;> rfl
theorem pid_range {tg : Expr} {p : Pos} (hg : Gl X "range") (hm : X.mg "range" = none) (ha : PD X C a δ ω (.i m) ω1) (hz : m < 2 ^ 62) (h0 : -(2 ^ 62) ≤ m) (hs : starEach [a] X.env = [(false, eval a X.env)] := by rfl) :
    PID X C tg (.Call (.Name "range" p) [a] [] pos) δ ω m.toNat (fun k => .i (k : Int)) ω1 := by
  intro σ Hk H w er R k
  refine wI_of (pi_range1 hg hm pa_w hs) ?_
  refine pda_cons ha pda_nil hs σ Hk H w er _ fun vs Hk1 H1 s1 w1 r1 => ?_
  cases r1 with
  | cons r1 hr =>
    cases hr
    refine ⟨m, by rw [r1.i_inv], h0, hz, k _ Hk1 H1 s1 w1 ?_⟩
    intro Hk2 H2 ω' s2 w2
    refine ⟨Nat.le_refl _, fun i hi => ⟨hi, fun x H3 hy => ?_⟩⟩
    obtain ⟨rfl, rfl⟩ := hy
    refine ⟨Hk2, Same.refl _, w2, ?_⟩
    rw [Int.zero_add]
    exact .int _
theorem pid_range2 {tg : Expr} {p : Pos} (hg : Gl X "range") (hm : X.mg "range" = none) (ha : PD X C a δ ω (.i m) ω1) (hb : PD X C b δ ω1 (.i n) ω2) (hz : -(2 ^ 62) ≤ m ∧ m < 2 ^ 62 ∧ -(2 ^ 62) ≤ n ∧ n < 2 ^ 62) (hs : starEach [a, b] X.env = [(false, eval a X.env), (false, eval b X.env)] := by rfl) (hs2 : starEach [b] X.env = [(false, eval b X.env)] := by rfl) :
    PID X C tg (.Call (.Name "range" p) [a, b] [] pos) δ ω (n - m).toNat (fun k => .i (m + (k : Int))) ω2 := by
  intro σ Hk H w er R k
  refine wI_of (pi_range2 hg hm pa_w hs hs2) ?_
  refine pda_cons ha (pda_cons hb pda_nil hs2) (by rw [hs, hs2]) σ Hk H w er _ fun vs Hk1 H1 s1 w1 r1 => ?_
  cases r1 with
  | cons r1 hr =>
    cases hr with
    | cons r2 hr =>
      cases hr
      refine ⟨m, n, by rw [r1.i_inv, r2.i_inv], hz, k _ Hk1 H1 s1 w1 ?_⟩
      intro Hk2 H2 ω' s2 w2
      refine ⟨Nat.le_refl _, fun i hi => ⟨hi, fun x H3 hy => ?_⟩⟩
      obtain ⟨rfl, rfl⟩ := hy
      exact ⟨Hk2, Same.refl _, w2, .int _⟩
/-! ### comprehensions -/
/-- the element, the test of a block, whatever its context -/
def teB (X : Cx) (scope : Scope) (elt : Expr) : TE := fun σ' H' Q' => ∀ (s : Shared) (H : Hp) (Cc : Addr) (cl : List (Str × Addr)) (fp : List Addr), wE (X.blk s H scope (compEnvC scope cl Cc X.env) fp) elt σ' H' Q'
theorem teB_pe {scope : Scope} {elt : Expr} (s : Shared) (H : Hp) (Cc : Addr) (cl : List (Str × Addr)) (fp : List Addr) : PE (X.blk s H scope (compEnvC scope cl Cc X.env) fp) elt (teB X scope elt) := ⟨fun pins s' σ' H' Q' I h => (h s H Cc cl fp).run pins s' I⟩
def ttB (X : Cx) (scope : Scope) (cnd : Expr) : TT := fun σ' H' Q' => ∀ (s : Shared) (H : Hp) (Cc : Addr) (cl : List (Str × Addr)) (fp : List Addr), wT (X.blk s H scope (compEnvC scope cl Cc X.env) fp) cnd σ' H' Q'
theorem ttB_pt {scope : Scope} {cnd : Expr} (s : Shared) (H : Hp) (Cc : Addr) (cl : List (Str × Addr)) (fp : List Addr) : PT (X.blk s H scope (compEnvC scope cl Cc X.env) fp) cnd (ttB X scope cnd) := ⟨fun pins s' σ' H' Q' I h => (h s H Cc cl fp).run pins s' I⟩
/-- the loop gives the list ds -/
def LcN (X : Cx) (C : Addr) (tg iter elt : Expr) (scope : Scope) (vs : List Nat) (g : TG) (tt : TT) (δ : Env) (ω : Om) (ds : List D) (ω' : Om) : Prop :=
  ∀ (σ : L2.St) (Hk H : Hp), Wf X.K C Hk H ω → EnvR X.K C Hk σ δ → ∀ Q : VK, (∀ a vs Hk' H', Same Hk Hk' → Wf X.K C Hk' H' ω' → Hk' a = none → ω' a = none → H' a = some (.lst vs) → RepL X.K C Hk' vs ds → Q (.ref a) H') → tLc (wI X tg iter) g tt (teB X scope elt) vs σ H Q
theorem lcn {tg iter elt : Expr} {scope : Scope} {own : List (Str × Nat)} {g : TG} {n : Nat} {it : Nat → D} {l : List Nat} {δs : Nat → Env} {f : Nat → D} (hi : PID X C tg iter δ ω n it ω1)
    (hn : n ≤ 1000) (hl : ∀ j ∈ l, j ∈ own.map (·.2)) (gs : ∀ k, k < n → EvG X.K C g l (it k) (wipeD δ (own.map (·.2))) (δs k))
    (he : ∀ k, k < n → ∀ (s : Shared) (H : Hp) (Cc : Addr) (cl : List (Str × Addr)) (fp : List Addr) (ω' : Om), PD (X.blk s H scope (compEnvC scope cl Cc X.env) fp) C elt (δs k) ω' (f k) ω') :
    LcN X C tg iter elt scope (own.map (·.2)) g tYes δ ω (gen n f) ω1 := by
  intro σ Hk H w er Q k
  refine hi σ Hk H w er _ fun J Hk1 H1 s1 w1 hw => ?_
  intro Dl hD
  have fr := w1.fresh hD
  refine ⟨fun i m H' => m = n - i ∧ i ≤ n ∧ ∃ Hk2 acc, Same Hk1 Hk2 ∧ Wf X.K C Hk2 H' (updO ω1 Dl (.lst (gen i f))) ∧ H' Dl = some (.lst acc) ∧ RepL X.K C Hk2 acc (gen i f), ⟨n, rfl, Nat.zero_le _, Hk1, [], Same.refl _, w1.alloc hD (show RepL X.K C Hk1 [] [] from .nil), upd_same, .nil⟩, ?_⟩
  rintro i m H' ⟨rfl, hin, Hk2, acc, s2, w2, hacc, racc⟩
  obtain ⟨hstop, hgo⟩ := hw Hk2 H' _ s2 w2
  by_cases hlt : i < n
  · obtain ⟨go, yl⟩ := hgo i hlt
    refine .inr ⟨go, fun H3 => ∃ Hk3 acc', Same Hk1 Hk3 ∧ Wf X.K C Hk3 H3 (updO ω1 Dl (.lst (gen (i + 1) f))) ∧ H3 Dl = some (.lst acc') ∧ RepL X.K C Hk3 acc' (gen (i + 1) f), fun H3 q => ⟨n - (i + 1), by omega, rfl, hlt, q⟩, fun x H3 hy => ?_⟩
    obtain ⟨Hk3, s3, w3, rx⟩ := yl x H3 hy
    have er3 : EnvR X.K C Hk3 (wipe σ (own.map (·.2))) (wipeD δ (own.map (·.2))) := (er.mono (s1.trans (s2.trans s3))).wipe _
    refine gs i hlt _ Hk3 H3 x w3.same er3 rx _ fun σ' e' b' => ⟨wipe_but b' hl, ?_⟩
    dsimp only [tYes]
    rw [if_pos rfl]
    intro s Hs Cc cl fp
    refine he i hlt s Hs Cc cl fp _ σ' Hk3 H3 w3 e' _ fun v Hk4 H4 s4 w4 r4 => ?_
    have w4' : Wf X.K C Hk4 H4 (updO ω1 Dl (.lst (gen i f))) := w4
    have r4' : Rep X.K C Hk4 v (f i) := r4
    obtain ⟨_, ho', e1, e2⟩ := w4'.own Dl _ updO_same
    obtain ⟨vs, rfl, hr⟩ := e2.lst_inv
    refine ⟨vs, e1, ?_, Hk4, vs ++ [v], s2.trans (s3.trans s4), ?_, upd_same, ?_⟩
    · rw [hr.len, gen_len]
      exact Nat.lt_of_lt_of_le (Nat.lt_of_lt_of_le hlt hn) (by decide)
    · have w5 := w4'.mut (ho := .lst (vs ++ [v])) (o := .lst (gen (i + 1) f)) updO_same (by rw [gen_succ]; exact hr.app (.one r4'))
      rw [updO_updO] at w5
      exact w5
    · rw [gen_succ]
      exact hr.app (.one r4')
  · have e : i = n := by omega
    subst e
    refine .inl ⟨hstop, k Dl acc Hk2 H' (s1.trans s2) (w2.drop fun a' o' e' => ?_) (w2.own Dl _ updO_same).1 fr.2 hacc racc⟩
    have q : a' ≠ Dl := fun q => by
      rw [q, fr.2] at e'
      cases e'
    rw [updO_ne q]
    exact e'
theorem pdn_lc {tg iter elt : Expr} {scope : Scope} {own : List (Str × Nat)} {g : TG} {ds : List D} (hc : X.calm = true) (hN : X.N.Nodup) (ok : BlkOk X.N X.env.scope scope own)
    (hg : ∀ (s : Shared) (H : Hp) (Cc : Addr) (cl : List (Str × Addr)) (fp : List Addr), PG (X.blk s H scope (compEnvC scope cl Cc X.env) fp) tg g) (h : LcN X C tg iter elt scope (own.map (·.2)) g tYes δ ω ds ω1)
    (hs : ∀ x, foldedSetIterable iter X.env x = pure x := by intro _; rfl) : PDN X C (.ListComp elt [⟨tg, iter, [], 0⟩] scope pos) δ ω ds ω1 := fun σ Hk H w er Q k =>
  wE_of (pe_lc hc hN pi_w ok hg (fun _ _ _ _ _ => pts_nil) teB_pe hs) (h σ Hk H w er Q k)
/-- with one test -/
def genF (n : Nat) (p : Nat → Bool) (f : Nat → D) : List D := ((List.range n).filter p).map f
theorem genF_succ (n : Nat) (p : Nat → Bool) (f : Nat → D) : genF (n + 1) p f = genF n p f ++ if p n = true then [f n] else [] := by
  unfold genF
  rw [List.range_succ, List.filter_append, List.map_append]
  congr 1
  rw [List.filter_cons]
  split <;> rfl
theorem genF_len (n : Nat) (p : Nat → Bool) (f : Nat → D) : (genF n p f).length ≤ n := by
  unfold genF
  rw [List.length_map]
  have := List.length_filter_le p (List.range n)
  rw [List.length_range] at this
  exact this
theorem lcnF {tg iter elt cnd : Expr} {scope : Scope} {own : List (Str × Nat)} {g : TG} {n : Nat} {it : Nat → D} {l : List Nat} {δs : Nat → Env} {f : Nat → D} {pf : Nat → Bool} (hi : PID X C tg iter δ ω n it ω1)
    (hn : n ≤ 1000) (hl : ∀ j ∈ l, j ∈ own.map (·.2)) (gs : ∀ k, k < n → EvG X.K C g l (it k) (wipeD δ (own.map (·.2))) (δs k))
    (ht : ∀ k, k < n → ∀ (s : Shared) (H : Hp) (Cc : Addr) (cl : List (Str × Addr)) (fp : List Addr) (ω' : Om), PDT (X.blk s H scope (compEnvC scope cl Cc X.env) fp) C cnd (δs k) ω' (pf k) ω')
    (he : ∀ k, k < n → pf k = true → ∀ (s : Shared) (H : Hp) (Cc : Addr) (cl : List (Str × Addr)) (fp : List Addr) (ω' : Om), PD (X.blk s H scope (compEnvC scope cl Cc X.env) fp) C elt (δs k) ω' (f k) ω') :
    LcN X C tg iter elt scope (own.map (·.2)) g (ttB X scope cnd) δ ω (genF n pf f) ω1 := by
  intro σ Hk H w er Q k
  refine hi σ Hk H w er _ fun J Hk1 H1 s1 w1 hw => ?_
  intro Dl hD
  have fr := w1.fresh hD
  refine ⟨fun i m H' => m = n - i ∧ i ≤ n ∧ ∃ Hk2 acc, Same Hk1 Hk2 ∧ Wf X.K C Hk2 H' (updO ω1 Dl (.lst (genF i pf f))) ∧ H' Dl = some (.lst acc) ∧ RepL X.K C Hk2 acc (genF i pf f), ⟨n, rfl, Nat.zero_le _, Hk1, [], Same.refl _, w1.alloc hD (show RepL X.K C Hk1 [] [] from .nil), upd_same, .nil⟩, ?_⟩
  rintro i m H' ⟨rfl, hin, Hk2, acc, s2, w2, hacc, racc⟩
  obtain ⟨hstop, hgo⟩ := hw Hk2 H' _ s2 w2
  by_cases hlt : i < n
  · obtain ⟨go, yl⟩ := hgo i hlt
    refine .inr ⟨go, fun H3 => ∃ Hk3 acc', Same Hk1 Hk3 ∧ Wf X.K C Hk3 H3 (updO ω1 Dl (.lst (genF (i + 1) pf f))) ∧ H3 Dl = some (.lst acc') ∧ RepL X.K C Hk3 acc' (genF (i + 1) pf f), fun H3 q => ⟨n - (i + 1), by omega, rfl, hlt, q⟩, fun x H3 hy => ?_⟩
    obtain ⟨Hk3, s3, w3, rx⟩ := yl x H3 hy
    have er3 : EnvR X.K C Hk3 (wipe σ (own.map (·.2))) (wipeD δ (own.map (·.2))) := (er.mono (s1.trans (s2.trans s3))).wipe _
    refine gs i hlt _ Hk3 H3 x w3.same er3 rx _ fun σ' e' b' => ⟨wipe_but b' hl, ?_⟩
    intro s Hs Cc cl fp
    refine ht i hlt s Hs Cc cl fp _ σ' Hk3 H3 w3 e' _ fun Hk4 H4 s4 w4 => ?_
    have w4' : Wf X.K C Hk4 H4 (updO ω1 Dl (.lst (genF i pf f))) := w4
    cases hp : pf i with
    | true =>
      rw [if_pos rfl]
      intro s' Hs' Cc' cl' fp'
      have e4 : EnvR X.K C Hk4 σ' (δs i) := e'.mono s4
      refine he i hlt hp s' Hs' Cc' cl' fp' _ σ' Hk4 H4 w4 e4 _ fun v Hk5 H5 s5 w5 r5 => ?_
      have w5' : Wf X.K C Hk5 H5 (updO ω1 Dl (.lst (genF i pf f))) := w5
      have r5' : Rep X.K C Hk5 v (f i) := r5
      obtain ⟨_, ho', e1, e2⟩ := w5'.own Dl _ updO_same
      obtain ⟨vs, rfl, hr⟩ := e2.lst_inv
      have eg : genF (i + 1) pf f = genF i pf f ++ [f i] := by rw [genF_succ, if_pos hp]
      refine ⟨vs, e1, ?_, Hk5, vs ++ [v], s2.trans (s3.trans (s4.trans s5)), ?_, upd_same, ?_⟩
      · rw [hr.len]
        exact Nat.lt_of_le_of_lt (genF_len i pf f) (Nat.lt_of_lt_of_le (Nat.lt_of_lt_of_le hlt hn) (by decide))
      · have w6 := w5'.mut (ho := .lst (vs ++ [v])) (o := .lst (genF (i + 1) pf f)) updO_same (by rw [eg]; exact hr.app (.one r5'))
        rw [updO_updO] at w6
        exact w6
      · rw [eg]
        exact hr.app (.one r5')
    | false =>
      rw [if_neg Bool.false_ne_true]
      obtain ⟨_, ho', e1, e2⟩ := w4'.own Dl _ updO_same
      obtain ⟨vs, rfl, hr⟩ := e2.lst_inv
      have eg : genF (i + 1) pf f = genF i pf f := by rw [genF_succ, if_neg (by rw [hp]; exact Bool.false_ne_true), List.append_nil]
      rw [eg]
      exact ⟨Hk4, vs, s2.trans (s3.trans s4), w4', e1, hr⟩
  · have e : i = n := by omega
    subst e
    refine .inl ⟨hstop, k Dl acc Hk2 H' (s1.trans s2) (w2.drop fun a' o' e' => ?_) (w2.own Dl _ updO_same).1 fr.2 hacc racc⟩
    have q : a' ≠ Dl := fun q => by
      rw [q, fr.2] at e'
      cases e'
    rw [updO_ne q]
    exact e'
theorem pdn_lcF {tg iter elt cnd : Expr} {scope : Scope} {own : List (Str × Nat)} {g : TG} {ds : List D} (hc : X.calm = true) (hN : X.N.Nodup) (ok : BlkOk X.N X.env.scope scope own)
    (hg : ∀ (s : Shared) (H : Hp) (Cc : Addr) (cl : List (Str × Addr)) (fp : List Addr), PG (X.blk s H scope (compEnvC scope cl Cc X.env) fp) tg g) (h : LcN X C tg iter elt scope (own.map (·.2)) g (ttB X scope cnd) δ ω ds ω1)
    (hs : ∀ x, foldedSetIterable iter X.env x = pure x := by intro _; rfl) : PDN X C (.ListComp elt [⟨tg, iter, [cnd], 0⟩] scope pos) δ ω ds ω1 := fun σ Hk H w er Q k =>
  wE_of (pe_lc hc hN pi_w ok hg (fun s H Cc cl fp => pts_one (ttB_pt s H Cc cl fp)) teB_pe hs) (h σ Hk H w er Q k)
end
end FW
set_option Elab.async false
set_option linter.all false
set_option autoImplicit false
set_option maxRecDepth 100000
set_option maxHeartbeats 1000000
/-! C3: statements, loops, the def's promise. -/
namespace FW
open PySem PySem.Spec PyProof.Rows L2
section
variable {X : Cx} {C : Addr} {δ : Env} {ω ω1 ω2 ω3 : Om} {a b c e : Expr} {pos : Pos} {d da db : D} {m n : Int} {N : EnvP} {R : RetP} {st : Stmt} {rest : List Stmt}
theorem psd_nil (h : N δ ω) : PSD X C [] δ ω N R := fun σ Hk H w er Dd hN hR => wSs_of pss_nil (hN δ ω σ Hk H h (Same.refl _) w er)
theorem psd_cons (h : PS1 X C st δ ω (fun δ' ω' => PSD X C rest δ' ω' N R) R) : PSD X C (st :: rest) δ ω N R := by
  intro σ Hk H w er Dd hN hR
  refine wSs_of (pss_cons ps_w pss_w) ?_
  exact h σ Hk H w er _ (fun δ' ω' σ' Hk' H' q s w' e' => q σ' Hk' H' w' e' Dd (fun δ2 ω2 σ2 Hk2 H2 q2 s2 w2 e2 => hN δ2 ω2 σ2 Hk2 H2 q2 (s.trans s2) w2 e2) (fun d2 ω2 v2 Hk2 H2 q2 s2 w2 r2 => hR d2 ω2 v2 Hk2 H2 q2 (s.trans s2) w2 r2)) hR
theorem psd_one (h : PS1 X C st δ ω N R) : PSD X C [st] δ ω N R := psd_cons (fun σ Hk H w er Dd hN hR => h σ Hk H w er Dd (fun δ' ω' σ' Hk' H' q s w' e' => hN δ' ω' σ' Hk' H' (psd_nil q) s w' e') hR)
theorem PSD.mono {N' : EnvP} {R' : RetP} {sts : List Stmt} (h : PSD X C sts δ ω N R) (hN : ∀ δ ω, N δ ω → N' δ ω) (hR : ∀ d ω, R d ω → R' d ω) : PSD X C sts δ ω N' R' :=
  fun σ Hk H w er Dd kN kR => h σ Hk H w er Dd (fun δ' ω' σ' Hk' H' q => kN δ' ω' σ' Hk' H' (hN _ _ q)) (fun d ω' v Hk' H' q => kR d ω' v Hk' H' (hR _ _ q))
theorem PSD.weak {δ' : Env} {sts : List Stmt} (h : PSD X C sts δ' ω N R) (hl : δ'.length = δ.length) (q : ∀ (i : Nat) (d : D), δ'[i]? = some (some d) → δ[i]? = some (some d)) : PSD X C sts δ ω N R :=
  fun σ Hk H w er Dd kN kR => h σ Hk H w (er.weak hl q) Dd kN kR
/-! ### stores -/
theorem ps1_set {x : Str} {p' : Pos} (i : Nat) (hN : X.N.Nodup) (hi : X.N[i]? = some x) (hx : Loc X.env.scope x) (he : PD X C e δ ω d ω1) (k : N (δ.set i (some d)) ω1) (hs : swapsWith e (some (.Name x p')) pos.line X.env = pure false := by rfl)
    (hf : X.fn x = true ∨ X.env.scope.names.lookup x = some .local := by first | exact .inl rfl | exact .inr rfl) : PS1 X C (.Assign [.Name x p'] e pos) δ ω N R := by
  intro σ Hk H w er Dd hN' hR
  refine wS_of (ps_set hN hi hx pe_w hs hf) ?_
  exact he σ Hk H w er _ fun v Hk1 H1 s1 w1 r1 => hN' _ ω1 _ Hk1 H1 k s1 w1 ((er.mono s1).set r1)
/-- x = [..] on one line, x a local -/
theorem ps1_lc {x : Str} {p' spos : Pos} {tg iter elt : Expr} {scope : Scope} {own : List (Str × Nat)} {g : TG} {ds : List D} (i : Nat) (hc : X.calm = true) (hN : X.N.Nodup) (hi : X.N[i]? = some x) (hyl : X.env.scope.names.lookup x = some .local)
    (hsw : swapsWith (.ListComp elt [⟨tg, iter, [], 0⟩] scope pos) (some (.Name x p')) spos.line X.env = pure true) (ok : BlkOk X.N X.env.scope scope own)
    (hg : ∀ (s : Shared) (H : Hp) (Cc : Addr) (cl : List (Str × Addr)) (fp : List Addr), PG (X.blk s H scope (compEnvC scope cl Cc X.env) fp) tg g) (h : LcN X C tg iter elt scope (own.map (·.2)) g tYes δ ω ds ω1) (k : N (δ.set i (some (.l ds))) ω1)
    (hs : ∀ x, foldedSetIterable iter X.env x = pure x := by intro _; rfl) : PS1 X C (.Assign [.Name x p'] (.ListComp elt [⟨tg, iter, [], 0⟩] scope pos) spos) δ ω N R := by
  intro σ Hk H w er Dd hN' hR
  refine wS_of (ps_setLc hc hN hi hyl hsw pi_w ok hg (fun _ _ _ _ _ => pts_nil) teB_pe hs) ?_
  refine h σ Hk H w er _ fun p vs Hk1 H1 s1 w1 ha hω hH r1 => ?_
  have s2 : Same Hk1 (upd Hk1 p (.lst vs)) := Same.new ha
  have w2 : Wf X.K C (upd Hk1 p (.lst vs)) H1 ω1 := by
    refine ⟨fun q u e' => ?_, fun q o e' => ?_⟩
    · by_cases z : q = p
      · rw [z, upd_same] at e'
        cases e'
        rw [z]
        exact hH
      · rw [upd_ne z] at e'
        exact w1.same q u e'
    · have z : q ≠ p := fun z => by
        rw [z, hω] at e'
        cases e'
      obtain ⟨h1, h2, h3, h4⟩ := w1.own q o e'
      exact ⟨by rw [upd_ne z]; exact h1, h2, h3, h4.mono s2⟩
  exact hN' _ ω1 _ _ H1 k (s1.trans s2) w2 ((er.mono (s1.trans s2)).set (.lst (SqL.of upd_same) (r1.mono s2)))
theorem ps1_lcF {x : Str} {p' spos : Pos} {tg iter elt cnd : Expr} {scope : Scope} {own : List (Str × Nat)} {g : TG} {ds : List D} (i : Nat) (hc : X.calm = true) (hN : X.N.Nodup) (hi : X.N[i]? = some x) (hyl : X.env.scope.names.lookup x = some .local)
    (hsw : swapsWith (.ListComp elt [⟨tg, iter, [cnd], 0⟩] scope pos) (some (.Name x p')) spos.line X.env = pure true) (ok : BlkOk X.N X.env.scope scope own)
    (hg : ∀ (s : Shared) (H : Hp) (Cc : Addr) (cl : List (Str × Addr)) (fp : List Addr), PG (X.blk s H scope (compEnvC scope cl Cc X.env) fp) tg g) (h : LcN X C tg iter elt scope (own.map (·.2)) g (ttB X scope cnd) δ ω ds ω1) (k : N (δ.set i (some (.l ds))) ω1)
    (hs : ∀ x, foldedSetIterable iter X.env x = pure x := by intro _; rfl) : PS1 X C (.Assign [.Name x p'] (.ListComp elt [⟨tg, iter, [cnd], 0⟩] scope pos) spos) δ ω N R := by
  intro σ Hk H w er Dd hN' hR
  refine wS_of (ps_setLc hc hN hi hyl hsw pi_w ok hg (fun s H Cc cl fp => pts_one (ttB_pt s H Cc cl fp)) teB_pe hs) ?_
  refine h σ Hk H w er _ fun p vs Hk1 H1 s1 w1 ha hω hH r1 => ?_
  have s2 : Same Hk1 (upd Hk1 p (.lst vs)) := Same.new ha
  have w2 : Wf X.K C (upd Hk1 p (.lst vs)) H1 ω1 := by
    refine ⟨fun q u e' => ?_, fun q o e' => ?_⟩
    · by_cases z : q = p
      · rw [z, upd_same] at e'
        cases e'
        rw [z]
        exact hH
      · rw [upd_ne z] at e'
        exact w1.same q u e'
    · have z : q ≠ p := fun z => by
        rw [z, hω] at e'
        cases e'
      obtain ⟨h1, h2, h3, h4⟩ := w1.own q o e'
      exact ⟨by rw [upd_ne z]; exact h1, h2, h3, h4.mono s2⟩
  exact hN' _ ω1 _ _ H1 k (s1.trans s2) w2 ((er.mono (s1.trans s2)).set (.lst (SqL.of upd_same) (r1.mono s2)))
/-- x = a list of its own, kept as owned -/
theorem ps1_own {x : Str} {p' : Pos} {ds : List D} (i : Nat) (hN : X.N.Nodup) (hi : X.N[i]? = some x) (hx : Loc X.env.scope x) (he : PDN X C e δ ω ds ω1) (k : ∀ p, ω1 p = none → N (δ.set i (some (.adr p))) (updO ω1 p (.lst ds))) (hs : swapsWith e (some (.Name x p')) pos.line X.env = pure false := by rfl)
    (hf : X.fn x = true ∨ X.env.scope.names.lookup x = some .local := by first | exact .inl rfl | exact .inr rfl) : PS1 X C (.Assign [.Name x p'] e pos) δ ω N R := by
  intro σ Hk H w er Dd hN' hR
  refine wS_of (ps_set hN hi hx pe_w hs hf) ?_
  refine he σ Hk H w er _ fun p vs Hk1 H1 s1 w1 ha hω hH r1 => ?_
  refine hN' _ (updO ω1 p (.lst ds)) _ Hk1 H1 (k p hω) s1 ⟨w1.same, fun q o e' => ?_⟩ ((er.mono s1).set (.adr p))
  by_cases z : q = p
  · rw [z, updO_same] at e'
    cases e'
    rw [z]
    exact ⟨ha, _, hH, r1⟩
  · rw [updO_ne z] at e'
    exact w1.own q o e'
/-! ### several values, some of them lists of their own -/
def PDAx (X : Cx) (C : Addr) (es : List Expr) (δ : Env) (ω : Om) (P : List D → Om → Prop) : Prop :=
  ∀ (σ : L2.St) (Hk H : Hp), Wf X.K C Hk H ω → EnvR X.K C Hk σ δ → ∀ Q : List V → Hp → Prop, (∀ ds ω' vs Hk' H', P ds ω' → Same Hk Hk' → Wf X.K C Hk' H' ω' → RepL X.K C Hk' vs ds → Q vs H') → wA X es σ H Q
theorem pdax_nil {P : List D → Om → Prop} (h : P [] ω) : PDAx X C [] δ ω P := fun σ Hk H w er Q k => wA_of pa_nil (k [] ω [] Hk H h (Same.refl _) w .nil)
theorem pdax_cons {es : List Expr} {P : List D → Om → Prop} (ha : PD X C e δ ω d ω1) (hr : PDAx X C es δ ω1 (fun ds ω' => P (d :: ds) ω')) (hs : starEach (e :: es) X.env = (false, eval e X.env) :: starEach es X.env := by rfl) : PDAx X C (e :: es) δ ω P := by
  intro σ Hk H w er Q k
  refine wA_of (pa_cons pe_w pa_w hs) ?_
  exact ha σ Hk H w er _ fun v Hk1 H1 s1 w1 r1 => hr σ Hk1 H1 w1 (er.mono s1) _ fun ds ω' vs Hk2 H2 q s2 w2 r2 => k _ ω' _ Hk2 H2 q (s1.trans s2) w2 (.cons (r1.mono s2) r2)
theorem pdax_new {es : List Expr} {P : List D → Om → Prop} {ds0 : List D} (ha : PDN X C e δ ω ds0 ω1) (hr : ∀ p, ω1 p = none → PDAx X C es δ (updO ω1 p (.lst ds0)) (fun ds ω' => P (.adr p :: ds) ω')) (hs : starEach (e :: es) X.env = (false, eval e X.env) :: starEach es X.env := by rfl) : PDAx X C (e :: es) δ ω P := by
  intro σ Hk H w er Q k
  refine wA_of (pa_cons pe_w pa_w hs) ?_
  refine ha σ Hk H w er _ fun p vs Hk1 H1 s1 w1 hp hω hH r1 => ?_
  have w2 : Wf X.K C Hk1 H1 (updO ω1 p (.lst ds0)) := ⟨w1.same, fun q o e' => by
    by_cases z : q = p
    · rw [z, updO_same] at e'
      cases e'
      rw [z]
      exact ⟨hp, _, hH, r1⟩
    · rw [updO_ne z] at e'
      exact w1.own q o e'⟩
  exact hr p hω σ Hk1 H1 w2 (er.mono s1) _ fun ds ω' vs Hk2 H2 q s2 w3 r2 => k _ ω' _ Hk2 H2 q (s1.trans s2) w3 (.cons (.adr p) r2)
/-- a, b = x, y: plain locals -/
theorem ps1_par {x y : Str} {px py pt : Pos} {kt k2} {pt2 : Pos} (i j : Nat) (hc : X.calm = true) (hN : X.N.Nodup) (hi : X.N[i]? = some x) (hj : X.N[j]? = some y) (hij : i ≠ j)
    (hx : X.env.scope.names.lookup x = some .local) (hy : X.env.scope.names.lookup y = some .local)
    (ha : PDAx X C [a, b] δ ω fun ds ω' => ∃ d1 d2, ds = [d1, d2] ∧ N ((δ.set i (some d1)).set j (some d2)) ω')
    (hw : swappedStores [.Tuple [.Name x px, .Name y py] kt pt] (.Tuple [a, b] k2 pt2) X.env = pure (some [x, y]))
    (hs : swapsWithSole [.Tuple [.Name x px, .Name y py] kt pt] (.Tuple [a, b] k2 pt2) pos.line X.env = pure false := by rfl) :
    PS1 X C (.Assign [.Tuple [.Name x px, .Name y py] kt pt] (.Tuple [a, b] k2 pt2) pos) δ ω N R := by
  intro σ Hk H w er Dd hN' hR
  refine wS_of (ps_par hc hN hi hj hij hx hy pa_w hw hs) ?_
  refine ha σ Hk H w er _ fun ds ω' vs Hk1 H1 q s1 w1 r1 => ?_
  obtain ⟨d1, d2, rfl, q⟩ := q
  cases r1 with
  | cons r1 r2 =>
    cases r2 with
    | cons r2 r3 =>
      cases r3
      exact ⟨_, _, rfl, hN' _ ω' _ Hk1 H1 q s1 w1 (((er.mono s1).set r1).set r2)⟩
theorem ps1_par3 {x y z : Str} {px py pz pt : Pos} {kt k2} {pt2 : Pos} (i j l : Nat) (hc : X.calm = true) (hN : X.N.Nodup) (hi : X.N[i]? = some x) (hj : X.N[j]? = some y) (hl : X.N[l]? = some z) (hij : i ≠ j) (hil : i ≠ l) (hjl : j ≠ l)
    (hx : X.env.scope.names.lookup x = some .local) (hy : X.env.scope.names.lookup y = some .local) (hz : X.env.scope.names.lookup z = some .local)
    (ha : PDAx X C [a, b, c] δ ω fun ds ω' => ∃ d1 d2 d3, ds = [d1, d2, d3] ∧ N (((δ.set i (some d1)).set j (some d2)).set l (some d3)) ω')
    (hw : swappedStores [.Tuple [.Name x px, .Name y py, .Name z pz] kt pt] (.Tuple [a, b, c] k2 pt2) X.env = pure (some [x, y, z]))
    (hs : swapsWithSole [.Tuple [.Name x px, .Name y py, .Name z pz] kt pt] (.Tuple [a, b, c] k2 pt2) pos.line X.env = pure false := by rfl) :
    PS1 X C (.Assign [.Tuple [.Name x px, .Name y py, .Name z pz] kt pt] (.Tuple [a, b, c] k2 pt2) pos) δ ω N R := by
  intro σ Hk H w er Dd hN' hR
  refine wS_of (ps_par3 hc hN hi hj hl hij hil hjl hx hy hz pa_w hw hs) ?_
  refine ha σ Hk H w er _ fun ds ω' vs Hk1 H1 q s1 w1 r1 => ?_
  obtain ⟨d1, d2, d3, rfl, q⟩ := q
  cases r1 with
  | cons r1 r2 =>
    cases r2 with
    | cons r2 r3 =>
      cases r3 with
      | cons r3 r4 =>
        cases r4
        exact ⟨_, _, _, rfl, hN' _ ω' _ Hk1 H1 q s1 w1 ((((er.mono s1).set r1).set r2).set r3)⟩
/-- (a tuple's names) = e -/
theorem ps1_tgt {tg : Expr} {g : TG} {l : List Nat} {δ' : Env} (hg : PG X tg g) (he : PD X C e δ ω d ω1) (hv : EvG X.K C g l d δ δ') (k : N δ' ω1) (hs : swapsWithSole [tg] e pos.line X.env = pure false := by rfl) (hw : swappedStores [tg] e X.env = pure none := by rfl)
    (h1 : (assignEach [tg] X.env).map (·.2) = [assign tg X.env] := by rfl) : PS1 X C (.Assign [tg] e pos) δ ω N R := by
  intro σ Hk H w er Dd hN' hR
  refine wS_of (ps_asg pe_w hg hs hw h1) ?_
  exact he σ Hk H w er _ fun v Hk1 H1 s1 w1 r1 => hv σ Hk1 H1 v w1.same (er.mono s1) r1 _ fun σ' e' _ => hN' _ ω1 _ Hk1 H1 k s1 w1 e'
/-- a, b = x, y where a name is a cell: by way of the pair -/
theorem ps1_tup {tg : Expr} {g : TG} {l : List Nat} {es : List Expr} {k2} {pt2 : Pos} (hg : PG X tg g)
    (ha : PDAx X C es δ ω fun ds ω' => ds.length ≤ 1000 ∧ ∃ δ', EvG X.K C g l (.t ds) δ δ' ∧ N δ' ω') (hs : swapsWithSole [tg] (.Tuple es k2 pt2) pos.line X.env = pure false := by rfl) (hw : swappedStores [tg] (.Tuple es k2 pt2) X.env = pure none := by rfl)
    (h1 : (assignEach [tg] X.env).map (·.2) = [assign tg X.env] := by rfl) : PS1 X C (.Assign [tg] (.Tuple es k2 pt2) pos) δ ω N R := by
  intro σ Hk H w er Dd hN' hR
  refine wS_of (ps_asg (pe_tup pa_w) hg hs hw h1) ?_
  refine ha σ Hk H w er _ fun ds ω' vs Hk1 H1 q s1 w1 r1 => ?_
  obtain ⟨hz, δ', hv, q⟩ := q
  refine ⟨by rw [r1.len]; exact Nat.le_trans hz (by decide), fun p hp => ?_⟩
  have s2 := w1.newS (ho := .tup vs) hp
  exact hv σ (upd Hk1 p (.tup vs)) _ (.ref p) (w1.new hp).same (er.mono (s1.trans s2)) (.tup (SqT.of upd_same) (r1.mono s2)) _ fun σ' e' _ => hN' _ ω' _ _ _ q (s1.trans s2) (w1.new hp) e'
theorem evg_trip {K : PySem.W.Frag} {g1 g2 g3 : TG} {l1 l2 l3 : List Nat} {d1 d2 d3 : D} {δ1 δ2 δ3 : Env} (h1 : EvG K C g1 l1 d1 δ δ1) (h2 : EvG K C g2 l2 d2 δ1 δ2) (h3 : EvG K C g3 l3 d3 δ2 δ3) : EvG K C (gTup K 3 (gCons g1 (gCons g2 (gCons g3 gNil)))) (l1 ++ (l2 ++ l3)) (.t [d1, d2, d3]) δ δ3 := by
  intro σ Hk H v s er r Q k
  obtain ⟨p, vs, rfl, hq, hr⟩ := r.t_inv
  cases hr with
  | cons r1 hr =>
    cases hr with
    | cons r2 hr =>
      cases hr with
      | cons r3 hr =>
        cases hr with
        | nil =>
          refine ⟨p, _, rfl, Same.seqT s hq, rfl, _, _, rfl, ?_⟩
          refine h1 σ Hk H _ s er r1 _ fun σ1 e1 b1 => ?_
          refine ⟨_, _, rfl, ?_⟩
          refine h2 σ1 Hk H _ s e1 r2 _ fun σ2 e2 b2 => ?_
          refine ⟨_, _, rfl, ?_⟩
          refine h3 σ2 Hk H _ s e2 r3 _ fun σ3 e3 b3 => ⟨rfl, k σ3 e3 ⟨b3.1.trans (b2.1.trans b1.1), fun j hj => ?_⟩⟩
          rw [b3.2 j (fun z => hj (List.mem_append_right _ (List.mem_append_right _ z))), b2.2 j (fun z => hj (List.mem_append_right _ (List.mem_append_left _ z))), b1.2 j (fun z => hj (List.mem_append_left _ z))]
/-- x += e (ints) -/
theorem ps1_add {x : Str} {p' : Pos} (i : Nat) (hN : X.N.Nodup) (hi : X.N[i]? = some x) (hx : Loc X.env.scope x) (h0 : δ[i]? = some (some (.i m))) (he : PD X C e δ ω (.i n) ω1) (k : N (δ.set i (some (.i (m + n)))) ω1)
    (hf : X.fn x = true ∨ X.env.scope.names.lookup x = some .local := by first | exact .inl rfl | exact .inr rfl) : PS1 X C (.AugAssign (.Name x p') .Add e pos) δ ω N R := by
  intro σ Hk H w er Dd hN' hR
  refine wS_of (ps_aug hN hi hx pe_w ip_add hf) ?_
  obtain ⟨v, e1, e2⟩ := er.at_ i _ h0
  refine ⟨v, e1, he σ Hk H w er _ fun u Hk1 H1 s1 w1 r1 => ?_⟩
  exact ⟨m, n, e2.i_inv, r1.i_inv, hN' _ ω1 _ Hk1 H1 k s1 w1 ((er.mono s1).set (.int _))⟩
theorem ps1_drop (he : PD X C e δ ω d ω1) (k : N δ ω1) (hs : swapsWith e none pos.line X.env = pure false := by rfl) : PS1 X C (.Expr e pos) δ ω N R := by
  intro σ Hk H w er Dd hN' hR
  refine wS_of (ps_expr pe_w hs) ?_
  exact he σ Hk H w er _ fun v Hk1 H1 s1 w1 r1 => hN' _ ω1 _ Hk1 H1 k s1 w1 (er.mono s1)
theorem ps1_ret (he : PD X C e δ ω d ω1) (k : R d ω1) : PS1 X C (.Return (some e) pos) δ ω N R := by
  intro σ Hk H w er Dd hN' hR
  refine wS_of (ps_ret pe_w) ?_
  exact he σ Hk H w er _ fun v Hk1 H1 s1 w1 r1 => hR d ω1 v Hk1 H1 k s1 w1 r1
theorem ps1_if {p : Bool} {s1 s2 : List Stmt} (hc : PDT X C c δ ω p ω1) (h1 : p = true → PSD X C s1 δ ω1 N R) (h2 : p = false → PSD X C s2 δ ω1 N R) : PS1 X C (.If c s1 s2 pos) δ ω N R := by
  intro σ Hk H w er Dd hN' hR
  refine wS_of (ps_if pt_w pss_w pss_w) ?_
  refine hc σ Hk H w er _ fun Hk1 H1 z1 w1 => ?_
  cases p with
  | true =>
    rw [if_pos rfl]
    exact h1 rfl σ Hk1 H1 w1 (er.mono z1) Dd (fun δ' ω' σ' Hk' H' q s w' e' => hN' δ' ω' σ' Hk' H' q (z1.trans s) w' e') (fun d ω' v Hk' H' q s w' r' => hR d ω' v Hk' H' q (z1.trans s) w' r')
  | false =>
    rw [if_neg Bool.false_ne_true]
    exact h2 rfl σ Hk1 H1 w1 (er.mono z1) Dd (fun δ' ω' σ' Hk' H' q s w' e' => hN' δ' ω' σ' Hk' H' q (z1.trans s) w' e') (fun d ω' v Hk' H' q s w' r' => hR d ω' v Hk' H' q (z1.trans s) w' r')
/-- an if whose test fails, nothing behind: the suite is never run -/
theorem ps1_ifF {s1 : List Stmt} (hc : PDT X C c δ ω false ω1) (k : N δ ω1) : PS1 X C (.If c s1 [] pos) δ ω N R := ps1_if hc (fun h => nomatch h) fun _ => psd_nil k
/-! ### what is owned -/
/-- o.append(e) -/
theorem ps1_app {o : Expr} {apos cpos : Pos} {p : Addr} {ds : List D} (ho : PD X C o δ ω (.adr p) ω) (hl : ω p = some (.lst ds)) (he : PD X C e δ ω d ω1) (hl1 : ω1 p = some (.lst ds)) (hz : ds.length < 1000) (k : N δ (updO ω1 p (.lst (ds ++ [d]))))
    (hbase : attributeBase o "append" X.env (eval o X.env) = eval o X.env := by rfl)
    (hfew : ((backTo cpos (starEach [e] X.env)).all (fun x => !x.1) && (backToKw cpos (keywordEach [] X.env)).all (fun x => x.1.isSome)
      && decide ([e].length + ([] : List Keyword).length + (if ([] : List Keyword).isEmpty then 0 else 1) < 30)) = true := by rfl)
    (hline : (apos.endLine == cpos.line) = true := by rfl) (hs : starEach [e] X.env = (false, eval e X.env) :: starEach [] X.env := by rfl) (hplain : (backTo cpos (starEach [] X.env)).any (·.1) = false := by rfl) :
    PS1 X C (.Expr (.Call (.Attribute o "append" apos) [e] [] cpos) pos) δ ω N R := by
  intro σ Hk H w er Dd hN' hR
  refine wS_of (ps_expr (pe_bm PySem.F.plainAttrs_list PySem.F.slot_list_append PySem.F.type_list_append mt_append pe_w pa_w hbase hfew hline hs hplain)) ?_
  refine ho σ Hk H w er _ fun v Hk1 H1 s1 w1 r1 => ?_
  obtain ⟨_, ho1, e1, e2⟩ := w1.own p _ hl
  obtain ⟨us, rfl, _⟩ := e2.lst_inv
  refine ⟨by rw [r1.adr_inv]; exact .inl ⟨rfl, _, SqL.of e1⟩, ?_⟩
  refine pda_cons he pda_nil hs σ Hk1 H1 w1 (er.mono s1) _ fun vs Hk2 H2 s2 w2 r2 => ?_
  cases r2 with
  | cons r2 r3 =>
    cases r3
    obtain ⟨_, ho2, e3, e4⟩ := w2.own p _ hl1
    obtain ⟨us2, rfl, r4⟩ := e4.lst_inv
    refine ⟨p, us2, _, r1.adr_inv, rfl, e3, by rw [r4.len]; exact Nat.lt_of_lt_of_le hz (by decide), ?_⟩
    exact hN' _ _ _ Hk2 _ k (s1.trans s2) (w2.mut hl1 (show RepL X.K C Hk2 (us2 ++ [_]) (ds ++ [d]) from r4.app (.one r2))) (er.mono (s1.trans s2))
/-- o[i] = e -/
theorem ps1_setO {o i : Expr} {tpos : Pos} {p : Addr} {ds : List D} {j : Nat} (he : PD X C e δ ω d ω1) (ho : PD X C o δ ω1 (.adr p) ω1) (hi : PD X C i δ ω1 (.i m) ω1) (hl : ω1 p = some (.lst ds)) (hj : m = (j : Int)) (hz : j < ds.length) (k : N δ (updO ω1 p (.lst (ds.set j d))))
    (ha : ∀ v, assign (.Subscript o i tpos) X.env v = (do
      let ov ← holding [v] (eval o X.env)
      let iv ← holding [v, ov] (eval i X.env)
      standAt tpos
      holding [v, ov, iv] (setItem ov iv v)
      release [v, ov, iv] []) := by intro _; rfl) (hs : swapsWithSole [.Subscript o i tpos] e pos.line X.env = pure false := by rfl) (hw : swappedStores [.Subscript o i tpos] e X.env = pure none := by rfl)
    (h1 : (assignEach [.Subscript o i tpos] X.env).map (·.2) = [assign (.Subscript o i tpos) X.env] := by rfl) : PS1 X C (.Assign [.Subscript o i tpos] e pos) δ ω N R := by
  intro σ Hk H w er Dd hN' hR
  refine wS_of (ps_asg pe_w (pg_sub pe_w pe_w set_list ha) hs hw h1) ?_
  refine he σ Hk H w er _ fun v Hk1 H1 s1 w1 r1 => ?_
  refine ho σ Hk1 H1 w1 (er.mono s1) _ fun u Hk2 H2 s2 w2 r2 => hi σ Hk2 H2 w2 (er.mono (s1.trans s2)) _ fun y Hk3 H3 s3 w3 r3 => ?_
  obtain ⟨_, ho1, e1, e2⟩ := w3.own p _ hl
  obtain ⟨us, rfl, r4⟩ := e2.lst_inv
  refine ⟨p, us, m, j, r2.adr_inv, r3.i_inv, e1, ?_, ?_⟩
  · rw [hj]
    unfold ixN
    rw [if_pos (by omega), if_pos (by rw [r4.len]; omega)]
    rfl
  · exact hN' _ _ _ Hk3 _ k (s1.trans (s2.trans s3)) (w3.mut hl (show RepL X.K C Hk3 (us.set j v) (ds.set j d) from RepL.set (r1.mono (s2.trans s3)) j r4)) (er.mono (s1.trans (s2.trans s3)))
/-! ### loops -/
theorem ps1_for {tg iter : Expr} {body : List Stmt} {g : TG} {l : List Nat} {cnt : Nat} {it : Nat → D} (I : Nat → EnvP) (hp : PassesOwn (model X.prog X.w) X.A X.env X.xe) (hc : X.calm = true) (hi : PID X C tg iter δ ω cnt it ω1) (hg : PG X tg g)
    (h0 : I 0 δ ω1) (hb : ∀ k, k < cnt → ∀ δ ω, I k δ ω → ∃ δ', EvG X.K C g l (it k) δ δ' ∧ PSD X C body δ' ω (I (k + 1)) R) (hd : ∀ δ ω, I cnt δ ω → N δ ω)
    (hs : ∀ x, foldedSetIterable iter X.env x = pure x := by intro _; rfl) : PS1 X C (.For tg iter body [] pos) δ ω N R := by
  intro σ Hk H w er Dd hN' hR
  refine wS_of (ps_for hp hc pi_w hg pss_w hs) ?_
  refine hi σ Hk H w er _ fun J Hk1 H1 s1 w1 hw => ?_
  refine ⟨fun i m σ' H' => m = cnt - i ∧ i ≤ cnt ∧ ∃ δ' ω' Hk2, I i δ' ω' ∧ Same Hk1 Hk2 ∧ Wf X.K C Hk2 H' ω' ∧ EnvR X.K C Hk2 σ' δ', ⟨cnt, rfl, Nat.zero_le _, δ, ω1, Hk1, h0, Same.refl _, w1, er.mono s1⟩, ?_⟩
  rintro i m σ' H' ⟨rfl, hin, δ', ω', Hk2, hI, s2, w2, e2⟩
  obtain ⟨hstop, hgo⟩ := hw Hk2 H' ω' s2 w2
  by_cases hlt : i < cnt
  · obtain ⟨go, yl⟩ := hgo i hlt
    refine .inr ⟨go, fun σ3 H3 => ∃ δ3 ω3 Hk3, I (i + 1) δ3 ω3 ∧ Same Hk1 Hk3 ∧ Wf X.K C Hk3 H3 ω3 ∧ EnvR X.K C Hk3 σ3 δ3, fun σ3 H3 q => ⟨cnt - (i + 1), by omega, rfl, hlt, q⟩, fun x H3 hy => ?_⟩
    obtain ⟨Hk3, s3, w3, rx⟩ := yl x H3 hy
    obtain ⟨δ3, hv, hps⟩ := hb i hlt δ' ω' hI
    refine hv σ' Hk3 H3 x w3.same (e2.mono s3) rx _ fun σ4 e4 _ => ?_
    refine hps σ4 Hk3 H3 w3 e4 _ (fun δ5 ω5 σ5 Hk5 H5 q s5 w5 e5 => ⟨δ5, ω5, Hk5, q, s2.trans (s3.trans s5), w5, e5⟩) (fun d5 ω5 v5 Hk5 H5 q s5 w5 r5 => hR d5 ω5 v5 Hk5 H5 q (s1.trans (s2.trans (s3.trans s5))) w5 r5)
  · have e : i = cnt := by omega
    subst e
    exact .inl ⟨hstop, hN' δ' ω' σ' Hk2 H' (hd δ' ω' hI) (s1.trans s2) w2 e2⟩
theorem ps1_while {body : List Stmt} (I : Nat → EnvP) (m0 : Nat) (hp : PassesOwn (model X.prog X.w) X.A X.env X.xe) (h0 : I m0 δ ω)
    (hb : ∀ m δ ω, I m δ ω → ∃ p, PDT X C c δ ω p ω ∧ (p = true → PSD X C body δ ω (fun δ' ω' => ∃ m', m' < m ∧ I m' δ' ω') R) ∧ (p = false → N δ ω)) : PS1 X C (.While c body [] pos) δ ω N R := by
  intro σ Hk H w er Dd hN' hR
  refine wS_of (ps_while hp pt_w pss_w) ?_
  refine ⟨fun m σ' H' => ∃ δ' ω' Hk2, I m δ' ω' ∧ Same Hk Hk2 ∧ Wf X.K C Hk2 H' ω' ∧ EnvR X.K C Hk2 σ' δ', ⟨m0, δ, ω, Hk, h0, Same.refl _, w, er⟩, ?_⟩
  rintro m σ' H' ⟨δ', ω', Hk2, hI, s2, w2, e2⟩
  obtain ⟨p, ht, hT, hF⟩ := hb m δ' ω' hI
  refine ht σ' Hk2 H' w2 e2 _ fun Hk3 H3 s3 w3 => ?_
  cases p with
  | true =>
    rw [if_pos rfl]
    refine ⟨fun σ4 H4 => ∃ m', m' < m ∧ ∃ δ4 ω4 Hk4, I m' δ4 ω4 ∧ Same Hk Hk4 ∧ Wf X.K C Hk4 H4 ω4 ∧ EnvR X.K C Hk4 σ4 δ4, fun σ4 H4 q => q, ?_⟩
    exact hT rfl σ' Hk3 H3 w3 (e2.mono s3) _ (fun δ5 ω5 σ5 Hk5 H5 ⟨m', hm, q⟩ s5 w5 e5 => ⟨m', hm, δ5, ω5, Hk5, q, s2.trans (s3.trans s5), w5, e5⟩) (fun d5 ω5 v5 Hk5 H5 q s5 w5 r5 => hR d5 ω5 v5 Hk5 H5 q (s2.trans (s3.trans s5)) w5 r5)
  | false =>
    rw [if_neg Bool.false_ne_true]
    exact hN' δ' ω' σ' Hk3 H3 (hF rfl) (s2.trans s3) w3 (e2.mono s3)
end
/-! ### a def keeps its promise -/
section
variable {P : Program} {w : World} {K : PySem.W.Frag} {mg : Str → Option Value} {base : Heap} {x qual : Str} {params : Arguments} {body : List Stmt} {scope : Scope} {dvs : List V} {kws : List (Str × V)} {f : Addr} {fd : FuncData} {C : Addr}
theorem fnD {N ps : List Str} {k : Nat} {g : FSp} (F : FunD K x qual params body scope dvs kws f fd) (S : FnScope N ps scope) (len : ∀ ds ω d ω', g ds ω d ω' → ds.length = ps.length)
    (hb : ∀ (X : Cx) (ds : List D) (ω : Om) (d : D) (ω' : Om), (∃ cdv A outer s H E, X = (cxOf CX0 P w K mg base N qual scope f cdv A outer s H E).nox) → Room k X.A → g ds ω d ω' → PSD X C body (ds.map some ++ List.replicate (N.length - ds.length) none) ω (fun _ ω2 => d = .no ∧ ∀ a o, ω' a = some o → ω2 a = some o) (fun d2 ω2 => d2 = d ∧ ∀ a o, ω' a = some o → ω2 a = some o)) :
    FnOk P w K mg base CX0 (k + 1) f fd ps (spF K C g) := by
  refine F.ok S (fun vs H Q E h => ?_) (fun cdv A outer s H vs Q E hr h => ?_)
  · obtain ⟨ds, ω, d, ω', Hk, hg, _, r, _⟩ := h
    rw [r.len]
    exact len ds ω d ω' hg
  · obtain ⟨ds, ω, d, ω', Hk, hg, w0, r, q⟩ := h
    refine ⟨_, PSs.nox pss_w, ?_⟩
    refine hb _ ds ω d ω' ⟨cdv, A, outer, s, H, E, rfl⟩ hr hg (start N vs) Hk H w0 (envR_start N r) _ ?_ ?_
    · rintro δ' ω2 σ' Hk' H' ⟨rfl, hω⟩ s1 w1 e1
      exact q _ Hk' H' s1 (w1.drop hω) .non
    · rintro d2 ω2 v Hk' H' ⟨rfl, hω⟩ s1 w1 r1
      exact q v Hk' H' s1 (w1.drop hω) r1
end
end FW
set_option Elab.async false
set_option linter.all false
set_option autoImplicit false
set_option maxRecDepth 100000
set_option maxHeartbeats 1000000
/-! C4: rules that the hand layer lacks: enumerate and zip over lists and tuples alike, sum of a tuple, len by an own __len__, a method with keywords. -/
namespace FW
open PySem PySem.Spec PyProof.Rows L2
/-! ### a list (true) or a tuple (false) -/
def SqK (K : PySem.W.Frag) (k : Bool) (H : Hp) (a : Addr) (xs : List V) : Prop := match k with
  | true => SqL K H a xs
  | false => SqT K H a xs
def ItK (k : Bool) (h : Heap) (it a : Addr) (i : Nat) : Prop := match k with
  | true => h.IsListIter it a i
  | false => h.IsTupleIter it a i
def IsK (k : Bool) (h : Heap) (a : Addr) (items : Array Value) : Prop := match k with
  | true => h.IsList a items
  | false => h.IsTuple a items
def oK (k : Bool) (a : Addr) : Obj := match k with
  | true => { cls := .type "list_iterator", data := .fields #[.ref a, .int 0 0] }
  | false => { cls := .type "tuple_iterator", data := .fields #[.ref a, .int 0 0] }
theorem Same.seqK {K : PySem.W.Frag} {k : Bool} {H H' : Hp} {a : Addr} {xs : List V} (e : Same H H') (h : SqK K k H a xs) : SqK K k H' a xs := by
  cases k with
  | true => exact L2.Same.seq e h
  | false => exact Same.seqT e h
theorem ItK.at {k : Bool} {h h' : Heap} {it a : Addr} {i : Nat} (x : ItK k h it a i) (q : ∀ o, h.get? it = some o → h'.get? it = some o) : ItK k h' it a i := by
  cases k with
  | true => exact Heap.IsListIter.at x q
  | false => exact Heap.IsTupleIter.at x q
theorem ItK.obj {k : Bool} {h : Heap} {it a : Addr} {i : Nat} (x : ItK k h it a i) : ∃ o, h.get? it = some o ∧ (o.cls = .type "list_iterator" ∨ o.cls = .type "tuple_iterator") ∧ ∀ v, o.data ≠ .cell v := by
  cases k with
  | true =>
    obtain ⟨o, e, c, d⟩ := x
    exact ⟨o, e, .inl c, fun v z => by rw [d] at z; cases z⟩
  | false =>
    obtain ⟨o, e, c, d⟩ := x
    exact ⟨o, e, .inr c, fun v z => by rw [d] at z; cases z⟩
theorem ItK.start {k : Bool} {h : Heap} {it a : Addr} (e : h.get? it = some (oK k a)) : ItK k h it a 0 := by
  cases k with
  | true => exact ⟨_, e, rfl, rfl⟩
  | false => exact ⟨_, e, rfl, rfl⟩
theorem IsK.obj {k : Bool} {h : Heap} {a : Addr} {items : Array Value} (x : IsK k h a items) : ∃ o, h.get? a = some o ∧ (o.cls = .type "list" ∨ o.cls = .type "tuple") := by
  cases k with
  | true =>
    obtain ⟨o, e, c, _⟩ := x
    exact ⟨o, e, .inl c⟩
  | false =>
    obtain ⟨o, e, c, _⟩ := x
    exact ⟨o, e, .inr c⟩
theorem IsK.at {k : Bool} {h h' : Heap} {a : Addr} {items : Array Value} (x : IsK k h a items) (q : ∀ o, h.get? a = some o → h'.get? a = some o) : IsK k h' a items := by
  cases k with
  | true =>
    obtain ⟨o, e, r⟩ := x
    exact ⟨o, q o e, r⟩
  | false =>
    obtain ⟨o, e, r⟩ := x
    exact ⟨o, q o e, r⟩
theorem IsK.ne_it {k j : Bool} {h : Heap} {a b it : Addr} {items : Array Value} {i : Nat} (x : IsK k h a items) (y : ItK j h it b i) : a ≠ it := by
  obtain ⟨o, e, c⟩ := x.obj
  obtain ⟨o', e', c', _⟩ := y.obj
  rintro rfl
  rw [e] at e'
  cases e'
  rcases c with c | c <;> rcases c' with c' | c' <;> rw [c] at c' <;> exact absurd c' (by decide)
theorem IsK.ne_cls {k : Bool} {h : Heap} {a b : Addr} {items : Array Value} {o : Obj} {T : String} (x : IsK k h a items) (e : h.get? b = some o) (hc : o.cls = .type T) (h1 : T ≠ "list") (h2 : T ≠ "tuple") : a ≠ b := by
  obtain ⟨o', e', c'⟩ := x.obj
  rintro rfl
  rw [e] at e'
  cases e'
  rcases c' with c' | c' <;> rw [hc] at c' <;> cases c'
  · exact h1 rfl
  · exact h2 rfl
theorem beginsK (k : Bool) (a : Addr) (items : Array Value) : Begins (.ref a) (oK k a) fun h => IsK k h a items := by
  cases k with
  | true => exact begins_list a items
  | false => exact begins_tuple a items
theorem drawsK {prog : Program} {w : World} {A : Around} (hh : A.handled = none) (k : Bool) (it a : Addr) (hne : a ≠ it) (items : Array Value) :
    Draws prog w A it [it, a] items.size (fun i v => items[i]? = some v) (fun i h => ItK k h it a i ∧ IsK k h a items) := by
  cases k with
  | true => exact Draws.list hh it a hne items
  | false => exact Draws.tuple hh it a hne items
section
variable {X : Cx} {pins : List (Addr × Obj)} {σ : L2.St} {H : Hp} {s : Shared} {a : Addr} {xs ys : List V} {k : Bool}
theorem seqK_inv (I : Inv X pins σ H s) (h : SqK X.K k H a xs) : ∃ its : List Value, Vals xs its ∧ IsK k s.heap a its.toArray := by
  cases k with
  | true =>
    obtain ⟨its, r, p, _⟩ := I.list h
    exact ⟨its, r, p.isList⟩
  | false =>
    obtain ⟨its, r, p, _⟩ := I.tuple h
    exact ⟨its, r, p⟩
theorem seqK_inj (I : Inv X pins σ H s) (h : SqK X.K k H a xs) (h' : SqK X.K k H a ys) : xs = ys := by
  cases k with
  | true => exact I.list_inj h h'
  | false => exact I.tuple_inj h h'
end
/-! ### enumerate -/
def IteK (K : PySem.W.Frag) (k : Bool) (a : Addr) : It :=
  ⟨fun i H => ∃ (xs : List V) (x : V), SqK K k H a xs ∧ xs[i]? = some x, fun i H v H' => ∃ T x, v = .ref T ∧ H T = none ∧ H' = upd H T (.tup [.int (i : Nat), x]) ∧ ∀ xs, SqK K k H a xs → xs[i]? = some x, fun i H => ∃ xs : List V, SqK K k H a xs ∧ xs.length ≤ i⟩
theorem turn_enumK {P : Program} {w : World} {K : PySem.W.Frag} {k : Bool} {elts : List Expr} {kk : Nat} {tpos : Pos} (a e it : Addr) :
    Turn P w K (.Tuple elts kk tpos) (IteK K k a) [e, it] e (fun i h => (∃ old, IsEnum h e it ((i : Nat) : Int) old) ∧ ItK k h it a i ∧ e ≠ it) where
  mem := by simp
  obj := fun i h st b hb => by
    obtain ⟨⟨old, he⟩, hi, _⟩ := st
    obtain ⟨o, ho, _, hd⟩ := hi.obj
    have e' : b = e ∨ b = it := by simpa using hb
    rcases e' with z | z
    · rw [z]; exact ⟨_, he, fun v q => nomatch q⟩
    · rw [z]; exact ⟨o, ho, hd⟩
  keep := fun i h h' st q => let ⟨⟨old, he⟩, hi, hne⟩ := st; ⟨⟨old, q e (by simp) _ he⟩, hi.at fun o z => q it (by simp) o z, hne⟩
  item := by
    intro X hP hw hK hc i pins s σ H E I hf st hg
    subst hP hw hK
    obtain ⟨⟨old, he⟩, hit, hne⟩ := st
    obtain ⟨xs, x, hq, hx⟩ := hg
    obtain ⟨its, rv, p⟩ := seqK_inv I hq
    obtain ⟨u, hu, ru⟩ := rv.get hx
    have hel : e < s.heap.objs.size := Heap.lt_size he
    have hil : it < s.heap.objs.size := by obtain ⟨_, q, _⟩ := hit.obj; exact Heap.lt_size q
    have hae : a ≠ e := p.ne_cls he rfl (by decide) (by decide)
    have hlt : i < its.toArray.size := by
      rw [List.size_toArray]
      exact (List.getElem?_eq_some_iff.mp hu).1
    refine wpAny_pyNext_enum_itemD (drawsK (A := X.A.in1) (I.ok.hd hc) k it a (p.ne_it hit) its.toArray) he ⟨hit, p⟩ hlt hne (by simp [hne, Ne.symm hae]) fun v h' tk hv ho hit' hT hsz hk => ?_
    have ev : v = u := by
      rw [List.getElem?_toArray, hu] at hv
      exact (Option.some.inj hv).symm
    subst ev
    refine ⟨_, rfl, wpAny_letOwnedTupleGo_enum (s := { s with heap := h', toks := tk + 1 }) ho fun h'' he' sb => ?_⟩
    have hT2 : h''.get? s.heap.objs.size = some { cls := .type "tuple", data := .seq #[.int i tk, v] } := (sb.2 _ (Nat.ne_of_gt hel)).trans hT
    have new : ObjOk X.prog X.w (upd H s.heap.objs.size (.tup [.int (i : Nat), x])) h'' s.heap.objs.size (.tup [.int (i : Nat), x]) :=
      ⟨by show 2 ≤ sizeLine; decide, [.int i tk, v], .cons ⟨_, rfl⟩ (.cons ru .nil), ⟨_, hT2, rfl, _, rfl⟩⟩
    have I1 : Inv X pins σ (upd H s.heap.objs.size (.tup [.int (i : Nat), x])) { s with heap := h'', toks := tk + 1 } :=
      I.turnedNew (ch := [e, it]) (fun b ob hb q => (sb.2 b (fun z => hb (by simp [z]))).trans (hk b ob (fun z => hb (by simp [z])) (fun z => hb (by simp [z])) q)) hf (Nat.le_refl _) new
    refine ⟨.ref s.heap.objs.size, _, I1, rfl, ⟨_, x, rfl, I.hok.fresh (Nat.le_refl _), rfl, fun ys hy => by rw [seqK_inj I hy hq]; exact hx⟩, ⟨⟨v, ?_⟩, hit'.1.at fun o q => (sb.2 it (Ne.symm hne)).trans q, hne⟩, fun b hb => ?_⟩
    · have e1 : ((i + 1 : Nat) : Int) = (i : Int) + 1 := by omega
      rw [e1]; exact he'
    · have hb' : b < s.heap.objs.size := by
        have e' : b = e ∨ b = it := by simpa using hb
        rcases e' with z | z
        · rw [z]; exact hel
        · rw [z]; exact hil
      rw [upd_ne (Nat.ne_of_lt hb')]
      exact (hf b hb).1
  done := by
    intro X hP hw hK hc i pins s σ H E I hf st hg
    subst hP hw hK
    obtain ⟨⟨old, he⟩, hit, hne⟩ := st
    obtain ⟨xs, hq, hx⟩ := hg
    obtain ⟨its, rv, p⟩ := seqK_inv I hq
    obtain ⟨f0, f1, f2, f3, f4, f5⟩ := hf it (by simp)
    have hl := rv.length
    cases k with
    | true =>
      refine wpAny_pyNext_enum_end (I.ok.hd hc) he (show s.heap.IsListIter it a i from hit) (show s.heap.IsList a its.toArray from p) (by simp; omega) fun h' eb => ⟨rfl, I.turned (t' := s.toks) (fun b o hb q => eb b o hb q) f0 f1 f3 f4 f5⟩
    | false =>
      have D : Draws X.prog X.w X.A.in1 it [it, a] i (fun j v => its.toArray[j]? = some v) (fun j h => ItK false h it a j ∧ IsK false h a its.toArray ∧ i ≤ j ∨ j < i ∧ False) := by
        have D0 := drawsK (prog := X.prog) (w := X.w) (A := X.A.in1) (I.ok.hd hc) false it a (p.ne_it hit) its.toArray
        refine ⟨fun j h st => ?_, fun j h h' st q => ?_, fun j s' Q E' hj st => ?_, fun s' Q E' st hE => ?_⟩
        · rcases st with st | st
          · obtain ⟨o, e, _⟩ := st.1.obj
            exact ⟨o, e⟩
          · exact st.2.elim
        · rcases st with st | st
          · exact .inl ⟨st.1.at fun o e => q it (by simp) o e, st.2.1.at fun o e => q a (by simp) o e, st.2.2⟩
          · exact st.2.elim
        · rcases st with st | st
          · exact absurd st.2.2 (by omega)
          · exact st.2.elim
        · rcases st with st | st
          · exact wpAny_nextOf_tuple_end (I.ok.hd hc) (show s'.heap.IsTupleIter it a i from st.1) (show s'.heap.IsTuple a its.toArray from st.2.1) (by simp; omega) hE
          · exact st.2.elim
      exact wpAny_pyNext_enum_endD D he (.inl ⟨hit, p, Nat.le_refl _⟩) fun h' eb => ⟨rfl, I.turned (t' := s.toks) (fun b o hb q => eb b o hb q) f0 f1 f3 f4 f5⟩
  self := fun A i s Q E st h => let ⟨⟨_, he⟩, _⟩ := st; wpAny_pyIter_enum he h
theorem meets_enumT (l : Addr) (items : Array Value) (n : Nat) (dct : Option Addr) (sl : Array (Option Value)) :
    Meets (Builtin.«enumerate.__new__» ⟨[.type "enumerate", .ref l], []⟩) (fun _ R s => s.heap.get? l = some { cls := .type "tuple", dict := dct, data := .seq items n, slots := sl } ∧
      R (.ok (.ret (.ref (s.heap.push { cls := .type "tuple_iterator", data := .fields #[.ref l, .int 0 0] }).objs.size)))
        { s with heap := (s.heap.push { cls := .type "tuple_iterator", data := .fields #[.ref l, .int 0 0] }).push { cls := .type "enumerate", data := .fields #[.none, .bool false, .ref s.heap.objs.size, rawInt 0, .none, .none] } }) :=
  .of_wp fun prog w A R s h => by
    obtain ⟨hp, g, d, tk, os⟩ := s; obtain ⟨hl, h⟩ := h
    have hsub := sub_enumerate
    have hL : Heap.IsTuple (Shared.heap ⟨hp, g, d, tk, os⟩) l items := ⟨_, hl, rfl, n, rfl⟩
    wp_walk using wpAny_loadPart' hl
    refine wpAny_stack_any fun st => wpAny_pure ?_
    split
    · rename_i c _ _ _ _ _
      cases (c == Value.type "enumerate")
      · wp_walk using wpAny_loadPart' hl, wpAny_pyIter_tuple hL
        exact ⟨_, rfl, h⟩
      · wp_walk using wpAny_loadPart' hl, wpAny_pyIter_tuple hL
        exact ⟨_, rfl, h⟩
    · wp_walk using wpAny_loadPart' hl, wpAny_pyIter_tuple hL
      exact ⟨_, rfl, h⟩
theorem pid_enum {X : Cx} {C : Addr} {e : Expr} {δ : Env} {ω ω1 : Om} {p pos tpos : Pos} {elts : List Expr} {kk : Nat} {n : Nat} {g : Nat → D} (k : Bool) (hg : Gl X "enumerate") (hm : X.mg "enumerate" = none)
    (ha : PD X C e δ ω (match k with | true => .l (gen n g) | false => .t (gen n g)) ω1) (hs : starEach [e] X.env = [(false, eval e X.env)] := by rfl) :
    PID X C (.Tuple elts kk tpos) (.Call (.Name "enumerate" p) [e] [] pos) δ ω n (fun i => .t [.i (i : Int), g i]) ω1 := by
  intro σ Hk H w er R q
  refine ⟨fun pins s I => ?_⟩
  refine Call_ (ld_blt I hg hm boot_enumerate (PyProof.Rows.callWith_type1 (thn (pa_w.run pos pins s σ H (fun vs H1 => ∃ a xs Hk1, vs = [.ref a] ∧ Same Hk Hk1 ∧ Wf X.K C Hk1 H1 ω1 ∧ SqK X.K k Hk1 a xs ∧ RepL X.K C Hk1 xs (gen n g)) I ?_) fun us s1 ⟨vs, H1, I1, r1, q1⟩ => ?_) hs rfl))
  · refine pda_cons ha pda_nil hs σ Hk H w er _ fun vs Hk1 H1 s1 w1 r1 => ?_
    cases r1 with
    | cons r1 rr =>
      cases rr
      cases k with
      | true =>
        obtain ⟨a, xs, rfl, hq, hr⟩ := Rep.l_inv r1
        exact ⟨a, xs, Hk1, rfl, s1, w1, hq, hr⟩
      | false =>
        obtain ⟨a, xs, rfl, hq, hr⟩ := Rep.t_inv r1
        exact ⟨a, xs, Hk1, rfl, s1, w1, hq, hr⟩
  · obtain ⟨a, xs, Hk1, rfl, hs1, w1, hq, hr⟩ := q1
    cases r1 with
    | cons r rr =>
      cases rr
      cases (show _ = Value.ref a from r)
      have hq1 : SqK X.K k H1 a xs := Same.seqK w1.same hq
      obtain ⟨its, rv, p'⟩ := seqK_inv I1 hq1
      have bg : wpAny (model X.prog X.w) X.A (call (.type "enumerate") [.ref a]) (fun v s2 => wpAny (model X.prog X.w) X.A (pyIter v) (PIE X pins σ (.Tuple elts kk tpos) R) X.xe s2) X.xe s1 := by
        have fin : ∀ h' : Heap, IsEnum h' (s1.heap.objs.size + 1) s1.heap.objs.size 0 .none → ItK k h' s1.heap.objs.size a 0 → (∀ b o, s1.heap.get? b = some o → h'.get? b = some o) → wpAny (model X.prog X.w) X.A (pyIter (.ref (s1.heap.objs.size + 1))) (PIE X pins σ (.Tuple elts kk tpos) R) X.xe { s1 with heap := h' } := fun h' he hit hk => by
          refine wpAny_pyIter_enum he ?_
          have I2 : Inv X pins σ H1 { s1 with heap := h' } := I1.kept (t' := s1.toks) hk
          refine ⟨s1.heap.objs.size + 1, [s1.heap.objs.size + 1, s1.heap.objs.size], _, _, H1, rfl, I2, turn_enumK a (s1.heap.objs.size + 1) s1.heap.objs.size, ⟨⟨.none, he⟩, hit, Nat.succ_ne_self _⟩, fun b hb => ?_, ?_⟩
          · have e' : b = s1.heap.objs.size + 1 ∨ b = s1.heap.objs.size := by simpa using hb
            have hle : s1.heap.objs.size ≤ b := by
              rcases e' with z | z
              · rw [z]; exact Nat.le_add_right _ _
              · rw [z]; exact Nat.le_refl _
            exact I1.fpOk hle (I1.hok.fresh hle)
          · refine q _ Hk1 H1 hs1 w1 fun Hk2 H2 ω' s2 w2 => ?_
            have hq2 : SqK X.K k H2 a xs := Same.seqK w2.same (Same.seqK s2 hq)
            refine ⟨⟨xs, hq2, by rw [hr.len, gen_len]; exact Nat.le_refl _⟩, fun i hi => ?_⟩
            obtain ⟨v, hv, rv⟩ := hr.get (gen_get (g := g) hi)
            refine ⟨⟨xs, v, hq2, hv⟩, fun x H3 hy => ?_⟩
            obtain ⟨T, y, rfl, hT, rfl, hy⟩ := hy
            have ey : y = v := Option.some.inj ((hy xs hq2).symm.trans hv)
            subst ey
            have s3 := w2.newS (ho := .tup [.int (i : Nat), y]) hT
            exact ⟨upd Hk2 T (.tup [.int (i : Nat), y]), s3, w2.new hT, .tup (SqT.of upd_same) (.cons (.int _) (.cons ((rv.mono s2).mono s3) .nil))⟩
        cases k with
        | true =>
          exact call_enumerate_list (show s1.heap.IsList a its.toArray from p') fun h' he hit hsz hk => fin h' he hit hk
        | false =>
          obtain ⟨⟨oc, dct, dt, sl⟩, hl, hc, nn, hd⟩ := (show s1.heap.IsTuple a its.toArray from p')
          replace hc : oc = .type "tuple" := hc
          replace hd : dt = .seq its.toArray nn := hd
          subst hc hd
          refine callType_new PySem.F.called_enumerate (by decide) (PySem.F.typeCall_enumerate_1 _) (PySem.F.newCall_enumerate_1 _) (fun obj => PySem.F.args_object_init_2 obj _) PySem.F.entry_enumerate_new
            (meets_enumT a its.toArray nn dct sl) ⟨hl, ?_⟩
          have hz : (s1.heap.push { cls := .type "tuple_iterator", data := .fields #[.ref a, .int 0 0] }).objs.size = s1.heap.objs.size + 1 := Heap.size_push ..
          show _ ∧ _
          rw [hz]
          have he : IsEnum ((s1.heap.push { cls := .type "tuple_iterator", data := .fields #[.ref a, .int 0 0] }).push
              { cls := .type "enumerate", data := .fields #[.none, .bool false, .ref s1.heap.objs.size, rawInt 0, .none, .none] }) (s1.heap.objs.size + 1) s1.heap.objs.size 0 .none := by
            have := Heap.get?_push_size (s1.heap.push { cls := .type "tuple_iterator", data := .fields #[.ref a, .int 0 0] })
              (o := { cls := .type "enumerate", data := .fields #[.none, .bool false, .ref s1.heap.objs.size, rawInt 0, .none, .none] }) rfl
            rw [hz] at this; exact this
          exact ⟨⟨_, he, rfl⟩, fin _ he ⟨_, Heap.get?_push_of_some _ (Heap.get?_push_size _ rfl), rfl, rfl⟩ fun b o x => Heap.get?_push_of_some _ (Heap.get?_push_of_some _ x)⟩
      exact bg
end FW
set_option Elab.async false
set_option linter.all false
set_option autoImplicit false
set_option maxRecDepth 100000
set_option maxHeartbeats 1000000
/-! C5: zip of lists and tuples alike; sum of a tuple; len by an own __len__; a method with keywords. -/
namespace FW
open PySem PySem.Spec PyProof.Rows L2
def ItzK (K : PySem.W.Frag) (j k : Bool) (a b : Addr) : It :=
  ⟨fun i H => ∃ (xs ys : List V) (x y : V), SqK K j H a xs ∧ SqK K k H b ys ∧ xs[i]? = some x ∧ ys[i]? = some y,
    fun i H v H' => ∃ T x y, v = .ref T ∧ H T = none ∧ H' = upd H T (.tup [x, y]) ∧ (∀ xs, SqK K j H a xs → xs[i]? = some x) ∧ ∀ ys, SqK K k H b ys → ys[i]? = some y,
    fun i H => ∃ xs ys : List V, SqK K j H a xs ∧ SqK K k H b ys ∧ xs.length = i ∧ ys.length = i⟩
theorem turn_zipK {P : Program} {w : World} {K : PySem.W.Frag} {j k : Bool} {elts : List Expr} {kk : Nat} {tpos : Pos} {a b z TI TO i1 i2 : Addr} (D : ZipSep2 z TI TO i1 i2 [i1, a] [i2, b]) :
    Turn P w K (.Tuple elts kk tpos) (ItzK K j k a b) [z, TI, TO, i1, i2] z (fun i h => IsZip h z TI TO .none ∧ IsTupOf2 h TI (.ref i1) (.ref i2) ∧ (∃ x y, IsTupOf2 h TO x y) ∧ ItK j h i1 a i ∧ ItK k h i2 b i) where
  mem := by simp
  obj := fun i h st c hc => by
    obtain ⟨hz, hTI, ⟨x, y, hTO⟩, h1, h2⟩ := st
    obtain ⟨o1, e1, _, d1⟩ := h1.obj
    obtain ⟨o2, e2, _, d2⟩ := h2.obj
    have e' : c = z ∨ c = TI ∨ c = TO ∨ c = i1 ∨ c = i2 := by simpa using hc
    rcases e' with q | q | q | q | q
    · rw [q]; exact ⟨_, hz, fun v q => nomatch q⟩
    · rw [q]; exact ⟨_, hTI, fun v q => nomatch q⟩
    · rw [q]; exact ⟨_, hTO, fun v q => nomatch q⟩
    · rw [q]; exact ⟨o1, e1, d1⟩
    · rw [q]; exact ⟨o2, e2, d2⟩
  keep := fun i h h' st k => by
    obtain ⟨hz, hTI, ⟨x, y, hTO⟩, h1, h2⟩ := st
    exact ⟨k z (by simp) _ hz, k TI (by simp) _ hTI, ⟨x, y, k TO (by simp) _ hTO⟩, h1.at fun o q => k i1 (by simp) o q, h2.at fun o q => k i2 (by simp) o q⟩
  item := by
    intro X hP hw hK hc i pins s σ H E I hf st hg
    subst hP hw hK
    obtain ⟨hz, hTI, ⟨x0, y0, hTO⟩, h1, h2⟩ := st
    obtain ⟨xs, ys, x, y, hqx, hqy, hx, hy⟩ := hg
    obtain ⟨its, rv, p⟩ := seqK_inv I hqx
    obtain ⟨its2, rv2, p2⟩ := seqK_inv I hqy
    obtain ⟨u, hu, ru⟩ := rv.get hx
    obtain ⟨u2, hu2, ru2⟩ := rv2.get hy
    have hzl : z < s.heap.objs.size := Heap.lt_size hz
    have l1 : i < its.toArray.size := by
      rw [List.size_toArray]
      exact (List.getElem?_eq_some_iff.mp hu).1
    have l2 : i < its2.toArray.size := by
      rw [List.size_toArray]
      exact (List.getElem?_eq_some_iff.mp hu2).1
    refine wpAny_pyNext_zipD2_item D (drawsK (A := X.A.in1) (I.ok.hd hc) j i1 a (p.ne_it h1) its.toArray) (drawsK (A := X.A.in1) (I.ok.hd hc) k i2 b (p2.ne_it h2) its2.toArray) hz hTI hTO ⟨h1, p⟩ ⟨h2, p2⟩ l1 l2 fun v1 v2 h' tk hv1 hv2 z' TO' h1' h2' hT hsz hk => ?_
    have ev1 : v1 = u := by
      rw [List.getElem?_toArray, hu] at hv1
      exact (Option.some.inj hv1).symm
    have ev2 : v2 = u2 := by
      rw [List.getElem?_toArray, hu2] at hv2
      exact (Option.some.inj hv2).symm
    subst ev1 ev2
    refine ⟨_, rfl, wpAny_letOwnedTupleGo_zip (s := { s with heap := h', toks := tk }) z' fun h'' z'' sb => ?_⟩
    have hT2 : h''.get? s.heap.objs.size = some { cls := .type "tuple", data := .seq #[v1, v2] } := (sb.2 _ (Nat.ne_of_gt hzl)).trans hT
    have new : ObjOk X.prog X.w (upd H s.heap.objs.size (.tup [x, y])) h'' s.heap.objs.size (.tup [x, y]) :=
      ⟨by show 2 ≤ sizeLine; decide, [v1, v2], .cons ru (.cons ru2 .nil), ⟨_, hT2, rfl, _, rfl⟩⟩
    have I1 : Inv X pins σ (upd H s.heap.objs.size (.tup [x, y])) { s with heap := h'', toks := tk } :=
      I.turnedNew (ch := [z, TI, TO, i1, i2]) (fun c o hb q => (sb.2 c (fun q' => hb (by simp [q']))).trans (hk c o (fun q' => hb (by simp [q'])) (fun q' => hb (by simp [q'])) (fun q' => hb (by simp [q'])) (fun q' => hb (by simp [q'])) q)) hf (Nat.le_refl _) new
    refine ⟨.ref s.heap.objs.size, _, I1, rfl, ⟨_, x, y, rfl, I.hok.fresh (Nat.le_refl _), rfl, fun l hl => by rw [seqK_inj I hl hqx]; exact hx, fun l hl => by rw [seqK_inj I hl hqy]; exact hy⟩, ⟨z'', ?_, ⟨v1, v2, ?_⟩, ?_, ?_⟩, fun c hcm => ?_⟩
    · exact (sb.2 _ D.TIz).trans (hk _ _ D.TIz D.TITO D.TIi1 D.TIi2 hTI)
    · exact (sb.2 _ D.TOz).trans TO'
    · exact h1'.1.at fun o q => (sb.2 _ (Ne.symm D.zi1)).trans q
    · exact h2'.1.at fun o q => (sb.2 _ (Ne.symm D.zi2)).trans q
    · have hlt : c < s.heap.objs.size := by
        have e' : c = z ∨ c = TI ∨ c = TO ∨ c = i1 ∨ c = i2 := by simpa using hcm
        rcases e' with q | q | q | q | q
        · rw [q]; exact hzl
        · rw [q]; exact Heap.lt_size hTI
        · rw [q]; exact Heap.lt_size hTO
        · rw [q]; obtain ⟨_, e1, _⟩ := h1.obj; exact Heap.lt_size e1
        · rw [q]; obtain ⟨_, e2, _⟩ := h2.obj; exact Heap.lt_size e2
      rw [upd_ne (Nat.ne_of_lt hlt)]
      exact (hf c hcm).1
  done := by
    intro X hP hw hK hc i pins s σ H E I hf st hg
    subst hP hw hK
    obtain ⟨hz, hTI, ⟨x0, y0, hTO⟩, h1, h2⟩ := st
    obtain ⟨xs, ys, hqx, hqy, e1, e2⟩ := hg
    obtain ⟨its, rv, p⟩ := seqK_inv I hqx
    obtain ⟨its2, rv2, p2⟩ := seqK_inv I hqy
    have l1 := rv.length
    have l2 := rv2.length
    exact wpAny_pyNext_zipD2_end D (drawsK (A := X.A.in1) (I.ok.hd hc) j i1 a (p.ne_it h1) its.toArray) (drawsK (A := X.A.in1) (I.ok.hd hc) k i2 b (p2.ne_it h2) its2.toArray) hz hTI hTO ⟨h1, p⟩ ⟨h2, p2⟩ (by simp; omega) (by simp; omega) (.inl (by simp; omega)) fun h' tk hk => ⟨rfl, I.turnedL (ch := [z, TI, TO, i1, i2]) (fun c o hb q =>
      hk c o (fun q' => hb (by simp [q'])) (fun q' => hb (by simp [q'])) (fun q' => hb (by simp [q'])) (fun q' => hb (by simp [q'])) q) hf⟩
  self := fun A i s Q E st h => wpAny_pyIter_zip st.1 h
/-- a list or a tuple of n things -/
def DK (k : Bool) (ds : List D) : D := match k with
  | true => .l ds
  | false => .t ds
theorem rep_DK {K : PySem.W.Frag} {C : Addr} {H : Hp} {v : V} {k : Bool} {ds : List D} (r : Rep K C H v (DK k ds)) : ∃ a xs, v = .ref a ∧ SqK K k H a xs ∧ RepL K C H xs ds := by
  cases k with
  | true => exact Rep.l_inv r
  | false => exact Rep.t_inv r
theorem pid_zip {X : Cx} {C : Addr} {e e2 : Expr} {δ : Env} {ω ω1 ω2 : Om} {p pos tpos : Pos} {elts : List Expr} {kk : Nat} {n : Nat} {g f : Nat → D} (j k : Bool) (hg : Gl X "zip") (hm : X.mg "zip" = none)
    (ha : PD X C e δ ω (DK j (gen n g)) ω1) (hb : PD X C e2 δ ω1 (DK k (gen n f)) ω2)
    (hs : starEach [e, e2] X.env = (false, eval e X.env) :: starEach [e2] X.env := by rfl) (hs2 : starEach [e2] X.env = (false, eval e2 X.env) :: starEach [] X.env := by rfl) (hpl : (backTo pos (starEach [e2] X.env)).any (·.1) = false := by rfl) :
    PID X C (.Tuple elts kk tpos) (.Call (.Name "zip" p) [e, e2] [] pos) δ ω n (fun i => .t [g i, f i]) ω2 := by
  intro σ Hk H w er R q
  refine ⟨fun pins s I => ?_⟩
  refine Call_ (ld_blt I hg hm PyProof.Rows.boot_zip (PyProof.Rows.callWith_type1 (thn (pa_w.run pos pins s σ H (fun vs H1 => ∃ a b xs ys Hk1, vs = [.ref a, .ref b] ∧ Same Hk Hk1 ∧ Wf X.K C Hk1 H1 ω2 ∧ SqK X.K j Hk1 a xs ∧ RepL X.K C Hk1 xs (gen n g) ∧ SqK X.K k Hk1 b ys ∧ RepL X.K C Hk1 ys (gen n f)) I ?_) fun us s1 ⟨vs, H1, I1, r1, q1⟩ => ?_) hs hpl))
  · refine pda_cons ha (pda_cons hb pda_nil hs2) hs σ Hk H w er _ fun vs Hk1 H1 s1 w1 r1 => ?_
    cases r1 with
    | cons r1 rr =>
      cases rr with
      | cons r2 rr =>
        cases rr
        obtain ⟨a, xs, rfl, hq, hr⟩ := rep_DK r1
        obtain ⟨b, ys, rfl, hq2, hr2⟩ := rep_DK r2
        exact ⟨a, b, xs, ys, Hk1, rfl, s1, w1, hq, hr, hq2, hr2⟩
  · obtain ⟨a, b, xs, ys, Hk1, rfl, hs1, w1, hq, hr, hq2, hr2⟩ := q1
    cases r1 with
    | cons r rr =>
      cases rr with
      | cons r' rr =>
        cases rr
        cases (show _ = Value.ref a from r)
        cases (show _ = Value.ref b from r')
        obtain ⟨its, rv, p1⟩ := seqK_inv I1 (Same.seqK w1.same hq)
        obtain ⟨its2, rv2, p2⟩ := seqK_inv I1 (Same.seqK w1.same hq2)
        have fresh5 : ∀ c, c ∈ [s1.heap.objs.size + 4, s1.heap.objs.size + 2, s1.heap.objs.size + 3, s1.heap.objs.size, s1.heap.objs.size + 1] → FpOk X pins H1 c := fun c hcm => by
          have e' : c = s1.heap.objs.size + 4 ∨ c = s1.heap.objs.size + 2 ∨ c = s1.heap.objs.size + 3 ∨ c = s1.heap.objs.size ∨ c = s1.heap.objs.size + 1 := by simpa using hcm
          have hle : s1.heap.objs.size ≤ c := by
            rcases e' with z | z | z | z | z
            · rw [z]; exact Nat.le_add_right _ _
            · rw [z]; exact Nat.le_add_right _ _
            · rw [z]; exact Nat.le_add_right _ _
            · rw [z]; exact Nat.le_refl _
            · rw [z]; exact Nat.le_add_right _ _
          exact I1.fpOk hle (I1.hok.fresh hle)
        refine zip_begins2 (beginsK j a its.toArray) (beginsK k b its2.toArray) p1 p2 fun h' hz hTI hTO h1 h2 hsz hk => wpAny_pyIter_zip hz ?_
        have I2 : Inv X pins σ H1 { s1 with heap := h' } := I1.kept (t' := s1.toks) hk
        have la : a < s1.heap.objs.size := by
          obtain ⟨_, e1, _⟩ := p1.obj
          exact Heap.lt_size e1
        have lb : b < s1.heap.objs.size := by
          obtain ⟨_, e1, _⟩ := p2.obj
          exact Heap.lt_size e1
        refine ⟨s1.heap.objs.size + 4, [s1.heap.objs.size + 4, s1.heap.objs.size + 2, s1.heap.objs.size + 3, s1.heap.objs.size, s1.heap.objs.size + 1], _, _, H1, rfl, I2,
          turn_zipK (a := a) (b := b) (j := j) (k := k) (zip_sep2 (fun c hc => by rw [List.mem_singleton.mp hc]; exact la) (fun c hc => by rw [List.mem_singleton.mp hc]; exact lb)), ⟨hz, hTI, ⟨_, _, hTO⟩, .start h1, .start h2⟩, fresh5, ?_⟩
        refine q _ Hk1 H1 hs1 w1 fun Hk2 H2 ω' s2 w2 => ?_
        have hq3 : SqK X.K j H2 a xs := Same.seqK w2.same (Same.seqK s2 hq)
        have hq4 : SqK X.K k H2 b ys := Same.seqK w2.same (Same.seqK s2 hq2)
        refine ⟨⟨xs, ys, hq3, hq4, by rw [hr.len, gen_len], by rw [hr2.len, gen_len]⟩, fun i hi => ?_⟩
        obtain ⟨v, hv, rv'⟩ := hr.get (gen_get (g := g) hi)
        obtain ⟨u, hu, ru'⟩ := hr2.get (gen_get (g := f) hi)
        refine ⟨⟨xs, ys, v, u, hq3, hq4, hv, hu⟩, fun x H3 hy => ?_⟩
        obtain ⟨T, y1, y2, rfl, hT, rfl, hy1, hy2⟩ := hy
        have e1 : y1 = v := Option.some.inj ((hy1 xs hq3).symm.trans hv)
        have e2 : y2 = u := Option.some.inj ((hy2 ys hq4).symm.trans hu)
        subst e1 e2
        have s3 := w2.newS (ho := .tup [y1, y2]) hT
        exact ⟨upd Hk2 T (.tup [y1, y2]), s3, w2.new hT, .tup (SqT.of upd_same) (.cons ((rv'.mono s2).mono s3) (.cons ((ru'.mono s2).mono s3) .nil))⟩
/-! ### sum of a tuple -/
theorem sumT_raw {prog : Program} {w : World} {A : Around} {E : Value → Shared → Prop} {s : Shared} {l : Addr} {its : List Value} {ns : List Int} {Q : Value → Shared → Prop} (hh : A.handled = none) (hl : s.heap.IsTuple l its.toArray) (hi : IntsAre its ns)
    (h : ∀ h' tk t', (∀ b o, s.heap.get? b = some o → h'.get? b = some o) → Q (.int ns.sum t') { s with heap := h', toks := tk }) : wpAny (model prog w) A (call (.builtin "sum") [.ref l]) Q E s := by
  obtain ⟨xs, e⟩ := hi.allInts.items
  have hn : numsOf (intItems xs).toList = ns := by rw [← e]; exact hi.numsOf
  rw [nums_intItems] at hn
  rw [e] at hl
  have hlt : l < s.heap.objs.size := by obtain ⟨_, e, _⟩ := hl; exact Heap.lt_size e
  refine call_sum_walkG (wpAny_pyIter_tuple hl ?_)
  refine ⟨s.heap.objs.size, _, _, _, _, _, numAt xs, rfl, Walks.tuple (A := A.in1) hh _ l (Nat.ne_of_lt hlt) (intItems xs), ⟨⟨_, Heap.get?_push_size _ rfl, rfl, rfl⟩, hl.at fun o e => Heap.get?_push_of_some _ e⟩, ?_, (fun _ _ => intItems_at), fun h' tk t' hk => ?_⟩
  · intro b hb
    show b < (s.heap.push _).objs.size
    rw [Heap.size_push]
    rcases List.mem_cons.mp hb with rfl | hb
    · exact Nat.lt_succ_self _
    · rw [List.mem_singleton.mp hb]
      exact Nat.lt_succ_of_lt hlt
  · have := h h' tk t' fun b o eo => hk b o (fun hm => by
      have z : b = s.heap.objs.size := List.mem_singleton.mp hm
      rw [z] at eo
      exact absurd (Heap.lt_size eo) (Nat.lt_irrefl _)) (Heap.get?_push_of_some _ eo)
    have e2 : preSum (numAt xs) (intItems xs).size = ns.sum := by
      rw [preSum_eq, List.take_of_length_le (by simp [intItems]), hn]
    rw [e2]
    exact this
def rSumT (K : PySem.W.Frag) : List V → Hp → VK → Prop := fun vs H Q => ∃ (a : Addr) (ns : List Int), vs = [V.ref a] ∧ SqT K H a (ns.map V.int) ∧ Q (.int ns.sum) H
theorem cr_sumT {X : Cx} (hc : X.calm = true) : CallR X (.builtin "sum") (rSumT X.K) := by
  intro pins s σ H vs us Q I r h
  obtain ⟨a, ns, rfl, hs, q⟩ := h
  obtain ⟨its, rv, hl, _⟩ := I.tuple hs
  rw [Vals.ref1 r]
  exact sumT_raw (I.ok.hd hc) hl rv.ints fun h' tk t' hk => ⟨.int _, H, I.kept hk, ⟨_, rfl⟩, q⟩
/-! ### len by an own __len__ -/
theorem len_own {prog : Program} {w : World} {A : Around} {E : Value → Shared → Prop} {s : Shared} {K : PySem.W.Frag} {x C f : Addr} {ox : Obj} {od : Option Obj} {Q : Value → Shared → Prop} (X₀ : K.In s.heap) (I : PySem.W.InstAt s.heap x ox C od) (hs : PySem.W.findIn K (.ref C) "__len__" = some (some (.ref f))) (hf : PySem.W.isFn K (.ref f) = true)
    (h : wpAny (model prog w) A.in1 (call (.ref f) [.ref x]) (fun v s' => ∃ n u, v = .int n u ∧ (0 ≤ n ∧ n < 2 ^ 63) ∧ Q (.int n s'.toks) { s' with toks := s'.toks + 1 }) E s) : wpAny (model prog w) A (call (.builtin "len") [.ref x]) Q E s := by
  refine Calls.call_function_entry kind_len plain_len entry_len (args_len1 _) ?_
  unfold Builtin.«len»
  refine wpAny_bind (m := oneArg "len" _) (wpAny_pure ?_)
  refine wpAny_bind (m := callSpecial? (.ref x) (Str.ofString "__len__")) (PySem.W.special_fn X₀ I hs (beq_iff_eq.mp hf) (wpAny_mono h (fun r s' hr => ?_) fun _ _ y => y))
  obtain ⟨n, u, rfl, ⟨h0, h1⟩, hq⟩ := hr
  refine wpAny_bind (wpAny_holding (wpAny_pure ?_))
  refine wpAny_bind (wpAny_letGo ?_)
  show wpAny _ _ (if n < 0 then _ else _) _ _ _
  rw [if_neg (by omega)]
  show wpAny _ _ (if n ≥ 2 ^ 63 then _ else _) _ _ _
  rw [if_neg (by omega)]
  exact wpAny_bind (wpAny_mkInt (wpAny_pure ⟨_, rfl, hq⟩))
def rLenW (C : Addr) (sp : Sp) : List V → Hp → VK → Prop := fun vs H Q => ∃ (a dx : Addr) (fs : List (Str × V)), vs = [V.ref a] ∧ H a = some (.ins C dx fs) ∧ sp [V.ref a] H (fun v H' => ∃ n : Int, v = .int n ∧ (0 ≤ n ∧ n < 2 ^ 63) ∧ Q (.int n) H') E0
theorem cr_lenW {X : Cx} {C f : Addr} {fd : FuncData} {k : Nat} {sp : Sp} (m : Meth X.K C "__len__" f) (F : FnOk X.prog X.w X.K X.mg X.base CX0 k f fd ["self"] sp) (hr : Room (k + 1) X.A) (hb : Binds X.K fd ["self"] []) : CallR X (.builtin "len") (rLenW C sp) := by
  intro pins s σ H vs us Q I r h
  obtain ⟨a, dx, fs, rfl, ha, hsp⟩ := h
  rw [Vals.ref1 r]
  obtain ⟨mA, oj, _, _, _, _⟩ := ins_get I.hok ha
  obtain ⟨od, ia, _⟩ := oj.look
  refine len_own I.kIn ia m.1 m.2 ?_
  refine wpAny_call (codeAny_mono (F.run X.A.in1 X.stack s H ⟨[.ref a], []⟩ [.ref a] [.ref a] _ E0 hr.in1 I.env0.in1 (hb s [.ref a] I.kIn rfl) (.cons rfl .nil) hsp) fun r s' hq => ?_)
  cases r with
  | error e => exact False.elim hq
  | ok fl =>
    cases fl with
    | ret u =>
      obtain ⟨v, H', I3, rv, n, rfl, hn, q3⟩ := I.after hq
      obtain ⟨t, rfl⟩ := (show ∃ t, u = Value.int n t from rv)
      exact ⟨n, t, rfl, hn, .int n, H', I3.tok _, ⟨_, rfl⟩, q3⟩
    | next => exact False.elim hq
    | brk => exact False.elim hq
    | cont => exact False.elim hq
/-! ### o.m(e, .., k = v) -/
def tMethK (C : Addr) (m : Str) (n nk : Nat) (sp : Sp) (gV : List V → List V → List V) (E : XK) (ta : TE) (t tk : TA) : TE := fun σ H Q => ta σ H fun x H1 => ∃ a dx fs, x = .ref a ∧ H1 a = some (.ins C dx fs) ∧ fs.lookup m = none ∧
  t σ H1 fun vs H2 => tk σ H2 fun zs H3 => vs.length = n ∧ zs.length = nk ∧ sp (gV (x :: vs) zs) H3 Q E
theorem pe_methK {X : Cx} {CX : CXT} {k n : Nat} {f C : Addr} {fd : FuncData} {ps ks : List Str} {sp : Sp} {E : XK} {m : Str} {pos apos : Pos} {o e : Expr} {es : List Expr} {kws : List Keyword} {ta : TE} {t tk : TA} {g : List Value → List Value → List Value} {gV : List V → List V → List V} {pl : Sem Bool}
    (he : PE X o ta) (c : Cls X.K C) (hm : Meth X.K C m f) (F : FnOk X.prog X.w X.K X.mg X.base CX k f fd ps sp) (hr : Room k X.A) (hb : KBn X.K fd ps (n + 1) ks g gV) (hx : Passes CX X E) (ha : PA X (e :: es) t) (hkw : PK X kws tk)
    (hall : (backToKw pos (keywordEach kws X.env)).all (·.1.isSome) = true := by rfl) (hks : (backToKw pos (keywordEach kws X.env)).filterMap (·.1) = ks := by rfl)
    (hst : starEach (e :: es) X.env = (false, eval e X.env) :: starEach es X.env := by rfl)
    (hpl : ((backTo pos (starEach (e :: es) X.env)).any (·.1) || (backToKw pos (keywordEach kws X.env)).any (·.1.isNone)) = false := by rfl)
    (ht : eval (.Call (.Attribute o m apos) (e :: es) kws pos) X.env = (do
      let ov ← eval o X.env
      standAt apos.atName
      let (f, first) ← holding [ov] (getMethod ov m pl)
      callWith pos f first (backTo pos (starEach (e :: es) X.env)) (backToKw pos (keywordEach kws X.env))) := by rfl) :
    PE X (.Call (.Attribute o m apos) (e :: es) kws pos) (tMethK C m n ks.length sp gV E ta t tk) := by
  refine ⟨fun pins s σ H Q I h => ?_⟩
  refine PySem.W.methodCall_KW (pl := pl) (thn (he.run pins s σ H _ I h) fun u s1 ⟨x, H1, I1, rx, a, dx, fs, ex, ea, l, q⟩ => ?_) ht
  subst ex
  obtain rfl : u = Value.ref a := rx
  refine getmeth_ok I1 ea c hm l ?_
  refine PySem.W.callWith_KW (first := [.ref a]) (h₀ := X.base) I.ok.mod.kin hm.kp hall (thn (ha.run pos pins s1 σ H1 _ I1 q) fun us s2 ⟨vs, H2, I2, r, q2⟩ => ?_) hpl hst
  refine thn (hkw.run pos pins s2 σ H2 _ I2 q2) fun ws s3 ⟨zs, H3, I3, rz, l1, l2, q3⟩ => ⟨I3.kIn, ?_⟩
  rw [hks]
  exact run_fnN (us := .ref a :: us) (vs := .ref a :: vs) F hr hb hx I3 (.cons rfl r) rz (congrArg Nat.succ l1) l2 q3
end FW
set_option Elab.async false
set_option linter.all false
set_option autoImplicit false
set_option maxRecDepth 100000
set_option maxHeartbeats 1000000
/-! C6: the built-ins over data. -/
namespace FW
open PySem PySem.Spec PyProof.Rows L2
/-! ### data that == understands -/
mutual
def toPy : D → PyData
  | .i n => .int n
  | .b x => .bool x
  | .t ds => .tuple (toPyL ds)
  | .l ds => .list (toPyL ds)
  | _ => .none
def toPyL : List D → List PyData
  | [] => []
  | d :: ds => toPy d :: toPyL ds
end
/-- at most k sequences deep -/
def Lv : Nat → D → Prop
  | _, .i _ => True
  | _, .b _ => True
  | k + 1, .t ds => ∀ x, x ∈ ds → Lv k x
  | k + 1, .l ds => ∀ x, x ∈ ds → Lv k x
  | _, _ => False
theorem lv_py : ∀ (k : Nat) (d : D), Lv k d → (toPy d).canLay0 = true ∧ (toPy d).depth ≤ k + 1
  | k, .i n, _ => by
    refine ⟨rfl, ?_⟩
    show PyData.depth (.int n) ≤ k + 1
    unfold PyData.depth
    omega
  | k, .b n, _ => by
    refine ⟨rfl, ?_⟩
    show PyData.depth (.bool n) ≤ k + 1
    unfold PyData.depth
    omega
  | k + 1, .t ds, h => by
    have h' : ∀ x, x ∈ ds → Lv k x := h
    have q : PyData.canLayAll0 (toPyL ds) = true ∧ PyData.depthAll (toPyL ds) ≤ k + 1 := by
      clear h
      induction ds with
      | nil => exact ⟨rfl, by show PyData.depthAll [] ≤ k + 1; unfold PyData.depthAll; omega⟩
      | cons d ds ih =>
        obtain ⟨a, b⟩ := ih fun x hx => h' x (List.mem_cons_of_mem _ hx)
        obtain ⟨c, e⟩ := lv_py k d (h' d (List.mem_cons_self ..))
        refine ⟨?_, ?_⟩
        · show PyData.canLayAll0 (toPy d :: toPyL ds) = true
          rw [PyData.canLayAll0, c, a]
          rfl
        · show PyData.depthAll (toPy d :: toPyL ds) ≤ k + 1
          unfold PyData.depthAll
          omega
    refine ⟨?_, ?_⟩
    · show PyData.canLay0 (.tuple (toPyL ds)) = true
      rw [PyData.canLay0]
      exact q.1
    · show PyData.depth (.tuple (toPyL ds)) ≤ k + 1 + 1
      unfold PyData.depth
      omega
  | k + 1, .l ds, h => by
    have h' : ∀ x, x ∈ ds → Lv k x := h
    have q : PyData.canLayAll0 (toPyL ds) = true ∧ PyData.depthAll (toPyL ds) ≤ k + 1 := by
      clear h
      induction ds with
      | nil => exact ⟨rfl, by show PyData.depthAll [] ≤ k + 1; unfold PyData.depthAll; omega⟩
      | cons d ds ih =>
        obtain ⟨a, b⟩ := ih fun x hx => h' x (List.mem_cons_of_mem _ hx)
        obtain ⟨c, e⟩ := lv_py k d (h' d (List.mem_cons_self ..))
        refine ⟨?_, ?_⟩
        · show PyData.canLayAll0 (toPy d :: toPyL ds) = true
          rw [PyData.canLayAll0, c, a]
          rfl
        · show PyData.depthAll (toPy d :: toPyL ds) ≤ k + 1
          unfold PyData.depthAll
          omega
    refine ⟨?_, ?_⟩
    · show PyData.canLay0 (.list (toPyL ds)) = true
      rw [PyData.canLay0]
      exact q.1
    · show PyData.depth (.list (toPyL ds)) ≤ k + 1 + 1
      unfold PyData.depth
      omega
  | 0, .t _, h => h.elim
  | 0, .l _, h => h.elim
  | 0, .no, h => h.elim
  | 0, .w _ _, h => h.elim
  | 0, .adr _, h => h.elim
  | 0, .ty _, h => h.elim
  | 0, .k _, h => h.elim
  | k + 1, .k _, h => h.elim
  | k + 1, .no, h => h.elim
  | k + 1, .w _ _, h => h.elim
  | k + 1, .adr _, h => h.elim
  | k + 1, .ty _, h => h.elim
theorem lv_shaped {k : Nat} {d : D} (h : Lv k d) (hk : k ≤ 60) : SeqAt.shaped (toPy d) = true := by
  obtain ⟨a, b⟩ := lv_py k d h
  unfold SeqAt.shaped
  rw [a, decide_eq_true (by omega)]
  rfl
theorem dp_of {K : PySem.W.Frag} {C : Addr} {H : Hp} : ∀ (k : Nat) (d : D) (v : V), Lv k d → Rep K C H v d → Dp K H v (toPy d)
  | k, .i n, v, _, r => by
    rw [r.i_inv]
    exact .int n
  | k, .b n, v, _, r => by
    rw [r.b_inv]
    exact .bl n
  | k + 1, .t ds, v, h, r => by
    have h' : ∀ x, x ∈ ds → Lv k x := h
    obtain ⟨a, vs, rfl, hq, hr⟩ := r.t_inv
    refine .tup hq ?_
    clear h hq r
    induction ds generalizing vs with
    | nil =>
      cases hr
      exact .nil
    | cons d ds ih =>
      cases hr with
      | cons r1 rr => exact .cons (dp_of k d _ (h' d (List.mem_cons_self ..)) r1) (ih (fun x hx => h' x (List.mem_cons_of_mem _ hx)) _ rr)
  | k + 1, .l ds, v, h, r => by
    have h' : ∀ x, x ∈ ds → Lv k x := h
    obtain ⟨a, vs, rfl, hq, hr⟩ := r.l_inv
    refine .lst hq ?_
    clear h hq r
    induction ds generalizing vs with
    | nil =>
      cases hr
      exact .nil
    | cons d ds ih =>
      cases hr with
      | cons r1 rr => exact .cons (dp_of k d _ (h' d (List.mem_cons_self ..)) r1) (ih (fun x hx => h' x (List.mem_cons_of_mem _ hx)) _ rr)
  | 0, .t _, _, h, _ => h.elim
  | 0, .l _, _, h, _ => h.elim
  | 0, .no, _, h, _ => h.elim
  | 0, .w _ _, _, h, _ => h.elim
  | 0, .adr _, _, h, _ => h.elim
  | 0, .ty _, _, h, _ => h.elim
  | 0, .k _, _, h, _ => h.elim
  | k + 1, .k _, _, h, _ => h.elim
  | k + 1, .no, _, h, _ => h.elim
  | k + 1, .w _ _, _, h, _ => h.elim
  | k + 1, .adr _, _, h, _ => h.elim
  | k + 1, .ty _, _, h, _ => h.elim
theorem lv_gen {k n : Nat} {g : Nat → D} (h : ∀ j, j < n → Lv k (g j)) : ∀ x, x ∈ gen n g → Lv k x := fun x hx => by
  unfold gen at hx
  obtain ⟨j, hj, rfl⟩ := List.mem_map.mp hx
  exact h j (List.mem_range.mp hj)
theorem eqv_self {k : Nat} {d : D} (h : Lv k d) : PyData.eqv (toPy d) (toPy d) = true := SeqAt.eqv_refl _ (lv_py k d h).1
def eqvD (d e : D) : Bool := PyData.eqv (toPy d) (toPy e)
theorem eqvD_pair (a b c d : Int) : eqvD (.t [.i a, .i b]) (.t [.i c, .i d]) = (decide (a = c) && decide (b = d)) := by
  show PyData.eqv (.tuple [.int a, .int b]) (.tuple [.int c, .int d]) = _
  have q : ∀ x y : Int, (x == y) = decide (x = y) := fun x y => by by_cases e : x = y <;> simp [e]
  simp [PyData.eqv, PyData.eqvAll, q]
section
variable {X : Cx} {C : Addr} {δ : Env} {ω ω1 ω2 ω3 : Om} {a b c e : Expr} {pos p : Pos} {d da db : D} {m n : Int}
theorem pd_eqD {k1 k2 : Nat} (hu : X.A.units + 64 < cLine) (ha : PD X C a δ ω da ω1) (hb : PD X C b δ ω1 db ω2) (h1 : Lv k1 da) (h2 : Lv k2 db) (l1 : k1 ≤ 60 := by decide) (l2 : k2 ≤ 60 := by decide) : PD X C (.Compare a [.Eq] [b] pos) δ ω (.b (eqvD da db)) ω2 :=
  pd_cmp (op_eqD hu) ha hb (nomark _) fun Hk H u v Q w ru rv q => ⟨toPy da, toPy db, dp_of k1 _ _ h1 (ru.mono w.same), dp_of k2 _ _ h2 (rv.mono w.same), lv_shaped h1 l1, lv_shaped h2 l2, q⟩
theorem pdt_eqD {k1 k2 : Nat} (hu : X.A.units + 64 < cLine) (ha : PD X C a δ ω da ω1) (hb : PD X C b δ ω1 db ω2) (h1 : Lv k1 da) (h2 : Lv k2 db) (l1 : k1 ≤ 60 := by decide) (l2 : k2 ≤ 60 := by decide) : PDT X C (.Compare a [.Eq] [b] pos) δ ω (eqvD da db) ω2 :=
  pdt_cmp (op_eqD hu) ha hb (nomark _) fun Hk H u v Q w ru rv q => ⟨toPy da, toPy db, dp_of k1 _ _ h1 (ru.mono w.same), dp_of k2 _ _ h2 (rv.mono w.same), lv_shaped h1 l1, lv_shaped h2 l2, q⟩
theorem pdt_neD {k1 k2 : Nat} (hu : X.A.units + 64 < cLine) (ha : PD X C a δ ω da ω1) (hb : PD X C b δ ω1 db ω2) (h1 : Lv k1 da) (h2 : Lv k2 db) (l1 : k1 ≤ 60 := by decide) (l2 : k2 ≤ 60 := by decide) : PDT X C (.Compare a [.NotEq] [b] pos) δ ω (!eqvD da db) ω2 :=
  pdt_cmp (op_neD hu) ha hb (nomark _) fun Hk H u v Q w ru rv q => ⟨toPy da, toPy db, dp_of k1 _ _ h1 (ru.mono w.same), dp_of k2 _ _ h2 (rv.mono w.same), lv_shaped h1 l1, lv_shaped h2 l2, q⟩
/-- an owned list of data against [] -/
theorem pdt_neO {k1 : Nat} {q : Addr} {ds : List D} (hu : X.A.units + 64 < cLine) (ha : PD X C a δ ω (.adr q) ω) (hb : PD X C b δ ω (.l []) ω1) (ho : ω1 q = some (.lst ds)) (h1 : Lv (k1 + 1) (.l ds)) (l1 : k1 ≤ 59 := by decide) : PDT X C (.Compare a [.NotEq] [b] pos) δ ω (!ds.isEmpty) ω1 :=
  pdt_cmp (op_neD hu) ha hb (nomark _) fun Hk H u v Q w ru rv k => by
    obtain ⟨_, ho', e1, e2⟩ := w.own q _ ho
    obtain ⟨vs, rfl, hr⟩ := e2.lst_inv
    have r1 : Dp X.K H u (toPy (.l ds)) := by
      rw [ru.adr_inv]
      have s0 : Same Hk (upd Hk q (.lst vs)) := Same.new (w.own q _ ho).1
      have w2 : Same (upd Hk q (.lst vs)) H := fun b' u' e' => by
        by_cases z : b' = q
        · rw [z, upd_same] at e'
          cases e'
          rw [z]
          exact e1
        · rw [upd_ne z] at e'
          exact w.same b' u' e'
      exact dp_of (k1 + 1) _ _ h1 (Rep.mono (K := X.K) (C := C) w2 (.lst (SqL.of upd_same) (hr.mono s0)))
    have l2 : Lv 1 (.l []) := fun x hx => absurd hx (by simp)
    refine ⟨_, _, r1, dp_of 1 _ _ l2 (rv.mono w.same), lv_shaped h1 (by omega), lv_shaped l2 (by decide), ?_⟩
    have e3 : (!PyData.eqv (toPy (.l ds)) (toPy (.l []))) = !ds.isEmpty := by
      cases ds with
      | nil => rfl
      | cons d ds => rfl
    rw [e3]
    exact k
/-! ### isinstance -/
theorem pd_ty {x : Str} {T : String} (hg : Gl X x) (hm : X.mg x = none) (hv : bootBuiltins x = some (.type T)) (hn : x ≠ "__name__" := by decide) (hd : (x == ("__debug__" : Str)) = false := by decide) : PD X C (.Name x pos) δ ω (.ty T) ω := fun σ Hk H w er Q k =>
  wE_of (pe_bltn (v := .ty T) hg hm hv rfl hn hd) (k _ Hk H (Same.refl _) w (.ty T))
theorem tyX_t {K : PySem.W.Frag} {H : Hp} {a : Addr} {xs : List V} (h : SqT K H a xs) : TyX K H (.ref a) (.type "tuple") := by
  rcases h with (h | ⟨o, h⟩) | ⟨o, its, n, h, hc, _⟩
  · exact .base (.tup h)
  · exact .fTuple h
  · exact .kTuple h hc
theorem pd_isTup {f : Str} {ds : List D} {T : String} {x : Bool} (hg : Gl X f) (hm : X.mg f = none) (hv : bootBuiltins f = some (.builtin "isinstance")) (ha : PDA X C [a, b] δ ω [.t ds, .ty T] ω1) (hx : kitB "tuple" T = some x)
    (hn : f ≠ "__name__" := by decide) (hdb : (f == ("__debug__" : Str)) = false := by decide) (hs : starEach [a, b] X.env = (false, eval a X.env) :: starEach [b] X.env := by rfl) (hpl : (backTo pos (starEach [b] X.env)).any (·.1) = false := by rfl) : PD X C (.Call (.Name f p) [a, b] [] pos) δ ω (.b x) ω1 :=
  pd_callB call_isi hg hm hv ha (fun Hk H vs Q w r k => by
    cases r with
    | cons r1 rr =>
      cases rr with
      | cons r2 rr =>
        cases rr
        obtain ⟨q, us, rfl, hq, _⟩ := r1.t_inv
        exact ⟨_, _, _, .type T, x, rfl, by rw [r2.ty_inv]; exact .ty T, tyX_t (Same.seqT w.same hq), kit_ty hx, k _ Hk H (Same.refl _) w (.bl x)⟩) hn hdb hs hpl
theorem pd_isInt {f : Str} {T : String} {x : Bool} (hg : Gl X f) (hm : X.mg f = none) (hv : bootBuiltins f = some (.builtin "isinstance")) (ha : PDA X C [a, b] δ ω [.i m, .ty T] ω1) (hx : kitB "int" T = some x)
    (hn : f ≠ "__name__" := by decide) (hdb : (f == ("__debug__" : Str)) = false := by decide) (hs : starEach [a, b] X.env = (false, eval a X.env) :: starEach [b] X.env := by rfl) (hpl : (backTo pos (starEach [b] X.env)).any (·.1) = false := by rfl) : PD X C (.Call (.Name f p) [a, b] [] pos) δ ω (.b x) ω1 :=
  pd_callB call_isi hg hm hv ha (fun Hk H vs Q w r k => by
    cases r with
    | cons r1 rr =>
      cases rr with
      | cons r2 rr =>
        cases rr
        exact ⟨_, _, _, .type T, x, rfl, by rw [r2.ty_inv]; exact .ty T, by rw [r1.i_inv]; exact .base (.int m), kit_ty hx, k _ Hk H (Same.refl _) w (.bl x)⟩) hn hdb hs hpl
/-! ### len -/
theorem pd_lenT {f : Str} {ds : List D} (hg : Gl X f) (hm : X.mg f = none) (hv : bootBuiltins f = some (.builtin "len")) (ha : PD X C a δ ω (.t ds) ω1)
    (hn : f ≠ "__name__" := by decide) (hdb : (f == ("__debug__" : Str)) = false := by decide) (hs : starEach [a] X.env = (false, eval a X.env) :: starEach [] X.env := by rfl) (hpl : (backTo pos (starEach [] X.env)).any (·.1) = false := by rfl) : PD X C (.Call (.Name f p) [a] [] pos) δ ω (.i (ds.length : Int)) ω1 :=
  pd_callB call_len_seq hg hm hv (pda_cons ha pda_nil hs) (fun Hk H vs Q w r k => by
    cases r with
    | cons r1 rr =>
      cases rr
      obtain ⟨q, us, rfl, hq, hr⟩ := r1.t_inv
      refine ⟨q, us, rfl, .inr (Same.seqT w.same hq), ?_⟩
      rw [hr.len]
      exact k _ Hk H (Same.refl _) w (.int _)) hn hdb hs hpl
theorem pd_lenL {f : Str} {ds : List D} (hg : Gl X f) (hm : X.mg f = none) (hv : bootBuiltins f = some (.builtin "len")) (ha : PD X C a δ ω (.l ds) ω1)
    (hn : f ≠ "__name__" := by decide) (hdb : (f == ("__debug__" : Str)) = false := by decide) (hs : starEach [a] X.env = (false, eval a X.env) :: starEach [] X.env := by rfl) (hpl : (backTo pos (starEach [] X.env)).any (·.1) = false := by rfl) : PD X C (.Call (.Name f p) [a] [] pos) δ ω (.i (ds.length : Int)) ω1 :=
  pd_callB call_len_seq hg hm hv (pda_cons ha pda_nil hs) (fun Hk H vs Q w r k => by
    cases r with
    | cons r1 rr =>
      cases rr
      obtain ⟨q, us, rfl, hq, hr⟩ := r1.l_inv
      refine ⟨q, us, rfl, .inl (w.same.seq hq), ?_⟩
      rw [hr.len]
      exact k _ Hk H (Same.refl _) w (.int _)) hn hdb hs hpl
theorem pd_lenO {f : Str} {ds : List D} {q : Addr} (hg : Gl X f) (hm : X.mg f = none) (hv : bootBuiltins f = some (.builtin "len")) (ha : PD X C a δ ω (.adr q) ω1) (ho : ω1 q = some (.lst ds))
    (hn : f ≠ "__name__" := by decide) (hdb : (f == ("__debug__" : Str)) = false := by decide) (hs : starEach [a] X.env = (false, eval a X.env) :: starEach [] X.env := by rfl) (hpl : (backTo pos (starEach [] X.env)).any (·.1) = false := by rfl) : PD X C (.Call (.Name f p) [a] [] pos) δ ω (.i (ds.length : Int)) ω1 :=
  pd_callB call_len_seq hg hm hv (pda_cons ha pda_nil hs) (fun Hk H vs Q w r k => by
    cases r with
    | cons r1 rr =>
      cases rr
      obtain ⟨_, ho', e1, e2⟩ := w.own q _ ho
      obtain ⟨us, rfl, hr⟩ := e2.lst_inv
      refine ⟨q, us, by rw [r1.adr_inv], .inl (SqL.of e1), ?_⟩
      rw [hr.len]
      exact k _ Hk H (Same.refl _) w (.int _)) hn hdb hs hpl
theorem pd_lenW {f : Str} {g : FSp} {fl : Addr} {fd : FuncData} {kk : Nat} (hg : Gl X f) (hm : X.mg f = none) (hv : bootBuiltins f = some (.builtin "len")) (M : Meth X.K C "__len__" fl) (F : FnOk X.prog X.w X.K X.mg X.base CX0 kk fl fd ["self"] (spF X.K C g)) (hr : Room (kk + 1) X.A) (hb : Binds X.K fd ["self"] [])
    (ha : PD X C a δ ω (.w d m) ω1) (h : g [.w d m] ω1 (.i n) ω2) (hz : 0 ≤ n ∧ n < 2 ^ 63)
    (hn : f ≠ "__name__" := by decide) (hdb : (f == ("__debug__" : Str)) = false := by decide) (hs : starEach [a] X.env = (false, eval a X.env) :: starEach [] X.env := by rfl) (hpl : (backTo pos (starEach [] X.env)).any (·.1) = false := by rfl) : PD X C (.Call (.Name f p) [a] [] pos) δ ω (.i n) ω2 :=
  pd_callB (cr_lenW M F hr hb) hg hm hv (pda_cons ha pda_nil hs) (fun Hk H vs Q w r k => by
    cases r with
    | cons r1 rr =>
      cases rr
      have r1' := r1
      cases r1 with
      | wlk h0 h1 h2 h3 hr0 =>
        refine ⟨_, _, _, rfl, w.same _ _ h0, [.w d m], ω1, .i n, ω2, Hk, h, w, .one r1', fun v Hk' H' s' w' r' => ?_⟩
        refine ⟨n, r'.i_inv, hz, ?_⟩
        exact k _ Hk' H' s' w' (.int n)) hn hdb hs hpl
/-! ### sum, all, any, min, max, abs, int -/
theorem pd_sumT {f : Str} {ns : List Int} (hc : X.calm = true) (hg : Gl X f) (hm : X.mg f = none) (hv : bootBuiltins f = some (.builtin "sum")) (ha : PD X C a δ ω (.t (ns.map D.i)) ω1)
    (hn : f ≠ "__name__" := by decide) (hdb : (f == ("__debug__" : Str)) = false := by decide) (hs : starEach [a] X.env = (false, eval a X.env) :: starEach [] X.env := by rfl) (hpl : (backTo pos (starEach [] X.env)).any (·.1) = false := by rfl) : PD X C (.Call (.Name f p) [a] [] pos) δ ω (.i ns.sum) ω1 :=
  pd_callB (cr_sumT hc) hg hm hv (pda_cons ha pda_nil hs) (fun Hk H vs Q w r k => by
    cases r with
    | cons r1 rr =>
      cases rr
      obtain ⟨q, us, rfl, hq, hr⟩ := r1.t_inv
      have e := hr.ints_inv
      subst e
      exact ⟨q, ns, rfl, Same.seqT w.same hq, k _ Hk H (Same.refl _) w (.int _)⟩) hn hdb hs hpl
theorem pd_sumL {f : Str} {ns : List Int} (hc : X.calm = true) (hg : Gl X f) (hm : X.mg f = none) (hv : bootBuiltins f = some (.builtin "sum")) (ha : PD X C a δ ω (.l (ns.map D.i)) ω1)
    (hn : f ≠ "__name__" := by decide) (hdb : (f == ("__debug__" : Str)) = false := by decide) (hs : starEach [a] X.env = (false, eval a X.env) :: starEach [] X.env := by rfl) (hpl : (backTo pos (starEach [] X.env)).any (·.1) = false := by rfl) : PD X C (.Call (.Name f p) [a] [] pos) δ ω (.i ns.sum) ω1 :=
  pd_callB (cr_sum hc) hg hm hv (pda_cons ha pda_nil hs) (fun Hk H vs Q w r k => by
    cases r with
    | cons r1 rr =>
      cases rr
      obtain ⟨q, us, rfl, hq, hr⟩ := r1.l_inv
      have e := hr.ints_inv
      subst e
      exact ⟨q, ns, rfl, w.same.seq hq, k _ Hk H (Same.refl _) w (.int _)⟩) hn hdb hs hpl
theorem pd_all {f : Str} {bs : List Bool} (hc : X.calm = true) (hg : Gl X f) (hm : X.mg f = none) (hv : bootBuiltins f = some (.builtin "all")) (ha : PD X C a δ ω (.l (bs.map D.b)) ω1)
    (hn : f ≠ "__name__" := by decide) (hdb : (f == ("__debug__" : Str)) = false := by decide) (hs : starEach [a] X.env = (false, eval a X.env) :: starEach [] X.env := by rfl) (hpl : (backTo pos (starEach [] X.env)).any (·.1) = false := by rfl) : PD X C (.Call (.Name f p) [a] [] pos) δ ω (.b (bs.all id)) ω1 :=
  pd_callB (cr_all hc) hg hm hv (pda_cons ha pda_nil hs) (fun Hk H vs Q w r k => by
    cases r with
    | cons r1 rr =>
      cases rr
      obtain ⟨q, us, rfl, hq, hr⟩ := r1.l_inv
      have e := hr.bls_inv
      subst e
      exact ⟨q, bs, rfl, w.same.seq hq, k _ Hk H (Same.refl _) w (.bl _)⟩) hn hdb hs hpl
theorem pd_any {f : Str} {bs : List Bool} (hc : X.calm = true) (hg : Gl X f) (hm : X.mg f = none) (hv : bootBuiltins f = some (.builtin "any")) (ha : PD X C a δ ω (.l (bs.map D.b)) ω1)
    (hn : f ≠ "__name__" := by decide) (hdb : (f == ("__debug__" : Str)) = false := by decide) (hs : starEach [a] X.env = (false, eval a X.env) :: starEach [] X.env := by rfl) (hpl : (backTo pos (starEach [] X.env)).any (·.1) = false := by rfl) : PD X C (.Call (.Name f p) [a] [] pos) δ ω (.b (bs.any id)) ω1 :=
  pd_callB (cr_any hc) hg hm hv (pda_cons ha pda_nil hs) (fun Hk H vs Q w r k => by
    cases r with
    | cons r1 rr =>
      cases rr
      obtain ⟨q, us, rfl, hq, hr⟩ := r1.l_inv
      have e := hr.bls_inv
      subst e
      exact ⟨q, bs, rfl, w.same.seq hq, k _ Hk H (Same.refl _) w (.bl _)⟩) hn hdb hs hpl
/-- min, max: m is the least (greatest) -/
theorem pd_minL {f : Str} {ns : List Int} (hc : X.calm = true) (hg : Gl X f) (hm : X.mg f = none) (hv : bootBuiltins f = some (.builtin "min")) (ha : PD X C a δ ω (.l (ns.map D.i)) ω1) (h1 : m ∈ ns) (h2 : ∀ y, y ∈ ns → m ≤ y)
    (hn : f ≠ "__name__" := by decide) (hdb : (f == ("__debug__" : Str)) = false := by decide) (hs : starEach [a] X.env = (false, eval a X.env) :: starEach [] X.env := by rfl) (hpl : (backTo pos (starEach [] X.env)).any (·.1) = false := by rfl) : PD X C (.Call (.Name f p) [a] [] pos) δ ω (.i m) ω1 :=
  pd_callB (cr_min hc) hg hm hv (pda_cons ha pda_nil hs) (fun Hk H vs Q w r k => by
    cases r with
    | cons r1 rr =>
      cases rr
      obtain ⟨q, us, rfl, hq, hr⟩ := r1.l_inv
      have e := hr.ints_inv
      subst e
      refine ⟨q, ns, rfl, w.same.seq hq, List.length_pos_of_mem h1, fun m' h3 h4 => ?_⟩
      have e : m' = m := by
        have a1 := h4 m h1
        have a2 := h2 m' h3
        omega
      rw [e]
      exact k _ Hk H (Same.refl _) w (.int _)) hn hdb hs hpl
theorem pd_maxL {f : Str} {ns : List Int} (hc : X.calm = true) (hg : Gl X f) (hm : X.mg f = none) (hv : bootBuiltins f = some (.builtin "max")) (ha : PD X C a δ ω (.l (ns.map D.i)) ω1) (h1 : m ∈ ns) (h2 : ∀ y, y ∈ ns → y ≤ m)
    (hn : f ≠ "__name__" := by decide) (hdb : (f == ("__debug__" : Str)) = false := by decide) (hs : starEach [a] X.env = (false, eval a X.env) :: starEach [] X.env := by rfl) (hpl : (backTo pos (starEach [] X.env)).any (·.1) = false := by rfl) : PD X C (.Call (.Name f p) [a] [] pos) δ ω (.i m) ω1 :=
  pd_callB (cr_max hc) hg hm hv (pda_cons ha pda_nil hs) (fun Hk H vs Q w r k => by
    cases r with
    | cons r1 rr =>
      cases rr
      obtain ⟨q, us, rfl, hq, hr⟩ := r1.l_inv
      have e := hr.ints_inv
      subst e
      refine ⟨q, ns, rfl, w.same.seq hq, List.length_pos_of_mem h1, fun m' h3 h4 => ?_⟩
      have e : m' = m := by
        have a1 := h4 m h1
        have a2 := h2 m' h3
        omega
      rw [e]
      exact k _ Hk H (Same.refl _) w (.int _)) hn hdb hs hpl
theorem pd_max2 {f : Str} (hc : X.calm = true) (hg : Gl X f) (hm : X.mg f = none) (hv : bootBuiltins f = some (.builtin "max")) (ha : PDA X C [a, b] δ ω [.i m, .i n] ω1)
    (hn : f ≠ "__name__" := by decide) (hdb : (f == ("__debug__" : Str)) = false := by decide) (hs : starEach [a, b] X.env = (false, eval a X.env) :: starEach [b] X.env := by rfl) (hpl : (backTo pos (starEach [b] X.env)).any (·.1) = false := by rfl) : PD X C (.Call (.Name f p) [a, b] [] pos) δ ω (.i (if n > m then n else m)) ω1 :=
  pd_callB (call_max2 hc) hg hm hv ha (fun Hk H vs Q w r k => by
    cases r with
    | cons r1 rr =>
      cases rr with
      | cons r2 rr =>
        cases rr
        exact ⟨m, n, by rw [r1.i_inv, r2.i_inv], k _ Hk H (Same.refl _) w (.int _)⟩) hn hdb hs hpl
theorem pd_abs {f : Str} (hg : Gl X f) (hm : X.mg f = none) (hv : bootBuiltins f = some (.builtin "abs")) (ha : PD X C a δ ω (.i m) ω1)
    (hn : f ≠ "__name__" := by decide) (hdb : (f == ("__debug__" : Str)) = false := by decide) (hs : starEach [a] X.env = (false, eval a X.env) :: starEach [] X.env := by rfl) (hpl : (backTo pos (starEach [] X.env)).any (·.1) = false := by rfl) : PD X C (.Call (.Name f p) [a] [] pos) δ ω (.i (if m < 0 then -m else m)) ω1 :=
  pd_callB call_abs hg hm hv (pda_cons ha pda_nil hs) (fun Hk H vs Q w r k => by
    cases r with
    | cons r1 rr =>
      cases rr
      exact ⟨m, by rw [r1.i_inv], k _ Hk H (Same.refl _) w (.int _)⟩) hn hdb hs hpl
theorem pd_intB {f : Str} {x : Bool} (hg : Gl X f) (hm : X.mg f = none) (hv : bootBuiltins f = some (.type "int")) (ha : PD X C a δ ω (.b x) ω1)
    (hn : f ≠ "__name__" := by decide) (hdb : (f == ("__debug__" : Str)) = false := by decide) (hs : starEach [a] X.env = (false, eval a X.env) :: starEach [] X.env := by rfl) (hpl : (backTo pos (starEach [] X.env)).any (·.1) = false := by rfl) : PD X C (.Call (.Name f p) [a] [] pos) δ ω (.i (if x then 1 else 0)) ω1 :=
  pd_callTy call_int1 hg hm hv (pda_cons ha pda_nil hs) (fun Hk H vs Q w r k => by
    cases r with
    | cons r1 rr =>
      cases rr
      exact .inr ⟨x, by rw [r1.b_inv], k _ Hk H (Same.refl _) w (.int _)⟩) hn hdb hs hpl
/-! ### tuple(..), list(..) -/
theorem pd_tupL {f : Str} {ds : List D} (hg : Gl X f) (hm : X.mg f = none) (hv : bootBuiltins f = some (.type "tuple")) (ha : PD X C a δ ω (.l ds) ω1)
    (hn : f ≠ "__name__" := by decide) (hdb : (f == ("__debug__" : Str)) = false := by decide) (hs : starEach [a] X.env = (false, eval a X.env) :: starEach [] X.env := by rfl) (hpl : (backTo pos (starEach [] X.env)).any (·.1) = false := by rfl) : PD X C (.Call (.Name f p) [a] [] pos) δ ω (.t ds) ω1 :=
  pd_callTy call_tuple_of hg hm hv (pda_cons ha pda_nil hs) (fun Hk H vs Q w r k => by
    cases r with
    | cons r1 rr =>
      cases rr
      obtain ⟨q, us, rfl, hq, hr⟩ := r1.l_inv
      exact ⟨q, us, rfl, .inl ⟨w.same.seq hq, fun l hl => k _ (upd Hk l (.tup us)) _ (w.newS hl) (w.new hl) (.tup (SqT.of upd_same) (hr.mono (w.newS hl)))⟩⟩) hn hdb hs hpl
theorem pd_tupO {f : Str} {ds : List D} {q : Addr} (hg : Gl X f) (hm : X.mg f = none) (hv : bootBuiltins f = some (.type "tuple")) (ha : PD X C a δ ω (.adr q) ω1) (ho : ω1 q = some (.lst ds))
    (hn : f ≠ "__name__" := by decide) (hdb : (f == ("__debug__" : Str)) = false := by decide) (hs : starEach [a] X.env = (false, eval a X.env) :: starEach [] X.env := by rfl) (hpl : (backTo pos (starEach [] X.env)).any (·.1) = false := by rfl) : PD X C (.Call (.Name f p) [a] [] pos) δ ω (.t ds) ω1 :=
  pd_callTy call_tuple_of hg hm hv (pda_cons ha pda_nil hs) (fun Hk H vs Q w r k => by
    cases r with
    | cons r1 rr =>
      cases rr
      obtain ⟨_, ho', e1, e2⟩ := w.own q _ ho
      obtain ⟨us, rfl, hr⟩ := e2.lst_inv
      exact ⟨q, us, by rw [r1.adr_inv], .inl ⟨SqL.of e1, fun l hl => k _ (upd Hk l (.tup us)) _ (w.newS hl) (w.new hl) (.tup (SqT.of upd_same) (hr.mono (w.newS hl)))⟩⟩) hn hdb hs hpl
/-- list(t), as a list of its own -/
theorem pdn_listT {f : Str} {ds : List D} (hg : Gl X f) (hm : X.mg f = none) (hv : bootBuiltins f = some (.type "list")) (ha : PD X C a δ ω (.t ds) ω1)
    (hn : f ≠ "__name__" := by decide) (hdb : (f == ("__debug__" : Str)) = false := by decide) (hs : starEach [a] X.env = (false, eval a X.env) :: starEach [] X.env := by rfl) (hpl : (backTo pos (starEach [] X.env)).any (·.1) = false := by rfl) : PDN X C (.Call (.Name f p) [a] [] pos) δ ω ds ω1 := by
  intro σ Hk H w er Q k
  refine wE_of (pe_callTy call_list_of hg hm hv pa_w hn hdb hs hpl) ?_
  refine pda_cons ha pda_nil hs σ Hk H w er _ fun vs Hk1 H1 s1 w1 r1 => ?_
  cases r1 with
  | cons r1 rr =>
    cases rr
    obtain ⟨q, us, rfl, hq, hr⟩ := r1.t_inv
    exact ⟨q, us, rfl, .inr (Same.seqT w1.same hq), fun l hl => k l us Hk1 _ s1 (w1.dead hl) (w1.fresh hl).1 (w1.fresh hl).2 upd_same hr⟩
theorem pdn_listL {f : Str} {ds : List D} (hg : Gl X f) (hm : X.mg f = none) (hv : bootBuiltins f = some (.type "list")) (ha : PD X C a δ ω (.l ds) ω1)
    (hn : f ≠ "__name__" := by decide) (hdb : (f == ("__debug__" : Str)) = false := by decide) (hs : starEach [a] X.env = (false, eval a X.env) :: starEach [] X.env := by rfl) (hpl : (backTo pos (starEach [] X.env)).any (·.1) = false := by rfl) : PDN X C (.Call (.Name f p) [a] [] pos) δ ω ds ω1 := by
  intro σ Hk H w er Q k
  refine wE_of (pe_callTy call_list_of hg hm hv pa_w hn hdb hs hpl) ?_
  refine pda_cons ha pda_nil hs σ Hk H w er _ fun vs Hk1 H1 s1 w1 r1 => ?_
  cases r1 with
  | cons r1 rr =>
    cases rr
    obtain ⟨q, us, rfl, hq, hr⟩ := r1.l_inv
    exact ⟨q, us, rfl, .inl (w1.same.seq hq), fun l hl => k l us Hk1 _ s1 (w1.dead hl) (w1.fresh hl).1 (w1.fresh hl).2 upd_same hr⟩
/-- range(n) as an argument -/
theorem rg_rep {K : PySem.W.Frag} {Hk : Hp} (m : Int) : RepL K C Hk (rgV 0 m) (gen m.toNat fun k => .i (k : Int)) := by
  unfold rgV gen
  rw [Int.sub_zero]
  generalize m.toNat = z
  induction z with
  | zero => exact .nil
  | succ z ih =>
    rw [List.range_succ, List.map_append, List.map_append]
    refine ih.app (.one ?_)
    show Rep K C Hk (.int (0 + (z : Int))) (.i (z : Int))
    rw [Int.zero_add]
    exact .int _
theorem pd_tupR {p2 pos2 : Pos} (hc : X.calm = true) (hg : Gl X "tuple") (hm : X.mg "tuple" = none) (hg2 : Gl X "range") (hm2 : X.mg "range" = none) (ha : PD X C a δ ω (.i m) ω1) (h0 : 0 ≤ m) (hz : m ≤ 1000)
    (na : starEach [a] X.env = (false, eval a X.env) :: starEach [] X.env := by rfl) (nb : starEach [.Call (.Name "range" p2) [a] [] pos2] X.env = (false, eval (.Call (.Name "range" p2) [a] [] pos2) X.env) :: starEach [] X.env := by rfl) :
    PD X C (.Call (.Name "tuple" p) [.Call (.Name "range" p2) [a] [] pos2] [] pos) δ ω (.t (gen m.toNat fun k => .i (k : Int))) ω1 := by
  intro σ Hk H w er Q k
  refine wE_of (pe_tupRg hc hg hm (prg_1 hg2 hm2 pe_w na) nb) ?_
  refine ha σ Hk H w er _ fun v Hk1 H1 s1 w1 r1 => ?_
  refine ⟨m, r1.i_inv, ⟨by omega, by omega, by omega, by omega, by omega⟩, fun q hq => ?_⟩
  exact k _ (upd Hk1 q (.tup (rgV 0 m))) _ (s1.trans (w1.newS hq)) (w1.new hq) (.tup (SqT.of upd_same) (rg_rep m))
theorem pd_listR {p2 pos2 : Pos} (hc : X.calm = true) (hg : Gl X "list") (hm : X.mg "list" = none) (hg2 : Gl X "range") (hm2 : X.mg "range" = none) (ha : PD X C a δ ω (.i m) ω1) (h0 : 0 ≤ m) (hz : m ≤ 1000)
    (na : starEach [a] X.env = (false, eval a X.env) :: starEach [] X.env := by rfl) (nb : starEach [.Call (.Name "range" p2) [a] [] pos2] X.env = (false, eval (.Call (.Name "range" p2) [a] [] pos2) X.env) :: starEach [] X.env := by rfl) :
    PD X C (.Call (.Name "list" p) [.Call (.Name "range" p2) [a] [] pos2] [] pos) δ ω (.l (gen m.toNat fun k => .i (k : Int))) ω1 := by
  intro σ Hk H w er Q k
  refine wE_of (pe_listRg hc hg hm (prg_1 hg2 hm2 pe_w na) nb) ?_
  refine ha σ Hk H w er _ fun v Hk1 H1 s1 w1 r1 => ?_
  refine ⟨m, r1.i_inv, ⟨by omega, by omega, by omega, by omega, by omega⟩, fun q hq => ?_⟩
  exact k _ (upd Hk1 q (.lst (rgV 0 m))) _ (s1.trans (w1.newS hq)) (w1.new hq) (.lst (SqL.of upd_same) (rg_rep m))
/-! ### [x] * n, t + u, slices, in -/
theorem pdn_rep1 {x : Int} {p1 p2 : Pos} {jj : Nat} (hb : PD X C b δ ω (.i m) ω1) (h0 : 0 ≤ m) (hz : m ≤ 1000) : PDN X C (.BinOp (.List [.Constant (.int x) jj p1] p2) .Mult b pos) δ ω (gen m.toNat fun _ => .i x) ω1 := by
  intro σ Hk H w er Q k
  refine wE_of (pe_op op_rep (pe_lst (pa_cons pe_int pa_nil)) pe_w) ?_
  refine ⟨by show 1 ≤ sizeLine; decide, fun l hl => ?_⟩
  have w1 : Wf X.K C Hk (upd H l (.lst [.int x])) ω := w.dead hl
  -- the display's list stays as it is: it is owned meanwhile
  have w2 : Wf X.K C (upd Hk l (.lst [.int x])) (upd H l (.lst [.int x])) ω := w.new hl
  refine hb σ _ _ w2 (er.mono (w.newS hl)) _ fun v Hk1 H1 s1 w3 r1 => ?_
  have hl1 : H1 l = some (.lst [.int x]) := w3.same _ _ (s1 _ _ upd_same)
  refine ⟨l, m, [.int x], rfl, r1.i_inv, hl1, by omega, by omega, ?_, fun q hq => ?_⟩
  · show 1 * m.toNat ≤ sizeLine
    exact Nat.le_trans (by omega : 1 * m.toNat ≤ 1000) (by decide)
  · refine k q _ Hk1 _ ((w.newS hl).trans s1) (w3.dead hq) (w3.fresh hq).1 (w3.fresh hq).2 upd_same ?_
    have e : gen m.toNat (fun _ => D.i x) = (List.replicate m.toNat [D.i x]).flatten := by
      generalize m.toNat = z
      induction z with
      | zero => rfl
      | succ z ih =>
        rw [gen_succ, ih, List.replicate_succ', List.flatten_append]
        rfl
    rw [e]
    exact RepL.flat m.toNat (.one (.int x))
theorem pd_catT {ds es : List D} (ha : PD X C a δ ω (.t ds) ω1) (hb : PD X C b δ ω1 (.t es) ω2) (hz : ds.length + es.length ≤ 1000) : PD X C (.BinOp a .Add b pos) δ ω (.t (ds ++ es)) ω2 :=
  pd_bin op_catA ha hb fun Hk H x y Q w rx ry k => by
    obtain ⟨q1, us1, rfl, hq1, hr1⟩ := rx.t_inv
    obtain ⟨q2, us2, rfl, hq2, hr2⟩ := ry.t_inv
    have l1 := hr1.len
    have l2 := hr2.len
    refine ⟨q1, q2, us1, us2, rfl, rfl, Same.seqT w.same hq1, Same.seqT w.same hq2, by rw [l1, l2]; exact Nat.le_trans hz (by decide), fun e => ?_, fun e1 e2 => ?_, fun _ _ q hq => ?_⟩
    · subst e
      cases ds with
      | nil => exact k _ Hk H (Same.refl _) w (.tup hq2 hr2)
      | cons _ _ => cases hr1
    · subst e2
      cases es with
      | nil =>
        rw [List.append_nil] at k
        exact k _ Hk H (Same.refl _) w (.tup hq1 hr1)
      | cons _ _ => cases hr2
    · exact k _ (upd Hk q (.tup (us1 ++ us2))) _ (w.newS hq) (w.new hq) (.tup (SqT.of upd_same) ((hr1.app hr2).mono (w.newS hq)))
/-- an optional bound of a slice -/
def PDO (X : Cx) (C : Addr) (e : Option Expr) (δ : Env) (o : Option Int) : Prop := ∃ t, PO X e t ∧ ∀ (σ : L2.St) (Hk H : Hp) (ω : Om), Wf X.K C Hk H ω → EnvR X.K C Hk σ δ → ∀ Q : Option Int → Hp → Prop, (∀ Hk' H', Same Hk Hk' → Wf X.K C Hk' H' ω → Q o H') → t σ H Q
theorem pdo_none : PDO X C none δ none := ⟨_, po_none, fun σ Hk H ω w er Q k => k Hk H (Same.refl _) w⟩
theorem pdo_some (h : ∀ ω, PD X C e δ ω (.i m) ω) : PDO X C (some e) δ (some m) := ⟨_, po_some pe_w, fun σ Hk H ω w er Q k => h ω σ Hk H w er _ fun v Hk1 H1 s1 w1 r1 => ⟨m, r1.i_inv, k Hk1 H1 s1 w1⟩⟩
theorem repL_cut {K : PySem.W.Frag} {Hk : Hp} {vs : List V} {ds : List D} (lo hi : Option Int) (h : RepL K C Hk vs ds) : RepL K C Hk (cutV vs lo hi) ((ds.drop (HT.sIx ds.length 0 lo)).take (HT.sIx ds.length ds.length hi - HT.sIx ds.length 0 lo)) := by
  unfold cutV
  rw [h.len]
  exact (h.drop _).take _
theorem pd_slT {lo hi : Option Expr} {ol oh : Option Int} {ds : List D} {pp : Pos} (ha : PD X C a δ ω (.t ds) ω1) (hl : PDO X C lo δ ol) (hh : PDO X C hi δ oh) :
    PD X C (.Subscript a (.Slice lo hi none pp) pos) δ ω (.t ((ds.drop (HT.sIx ds.length 0 ol)).take (HT.sIx ds.length ds.length oh - HT.sIx ds.length 0 ol))) ω1 := by
  obtain ⟨tl, pl, kl⟩ := hl
  obtain ⟨th, ph, kh⟩ := hh
  intro σ Hk H w er Q k
  refine wE_of (pe_slice sl_tupA pe_w pl ph) ?_
  refine ha σ Hk H w er _ fun v Hk1 H1 s1 w1 r1 => kl σ Hk1 H1 _ w1 (er.mono s1) _ fun Hk2 H2 s2 w2 => kh σ Hk2 H2 _ w2 (er.mono (s1.trans s2)) _ fun Hk3 H3 s3 w3 => ?_
  obtain ⟨q1, us1, rfl, hq1, hr1⟩ := ((r1.mono s2).mono s3).t_inv
  have l1 := hr1.len
  refine ⟨q1, us1, rfl, Same.seqT w3.same hq1, fun e => ?_, fun _ q hq => ?_⟩
  · rw [l1] at e
    have ed : (ds.drop (HT.sIx ds.length 0 ol)).take (HT.sIx ds.length ds.length oh - HT.sIx ds.length 0 ol) = ds := by
      rw [e.1, e.2, List.drop_zero, Nat.sub_zero, List.take_length]
    rw [ed] at k
    exact k _ Hk3 H3 (s1.trans (s2.trans s3)) w3 (.tup hq1 hr1)
  · exact k _ (upd Hk3 q (.tup (cutV us1 ol oh))) _ (s1.trans (s2.trans (s3.trans (w3.newS hq)))) (w3.new hq) (.tup (SqT.of upd_same) ((repL_cut ol oh hr1).mono (w3.newS hq)))
theorem pdn_slL {lo hi : Option Expr} {ol oh : Option Int} {ds : List D} {pp : Pos} (ha : PD X C a δ ω (.l ds) ω1) (hl : PDO X C lo δ ol) (hh : PDO X C hi δ oh) :
    PDN X C (.Subscript a (.Slice lo hi none pp) pos) δ ω ((ds.drop (HT.sIx ds.length 0 ol)).take (HT.sIx ds.length ds.length oh - HT.sIx ds.length 0 ol)) ω1 := by
  obtain ⟨tl, pl, kl⟩ := hl
  obtain ⟨th, ph, kh⟩ := hh
  intro σ Hk H w er Q k
  refine wE_of (pe_slice sl_list pe_w pl ph) ?_
  refine ha σ Hk H w er _ fun v Hk1 H1 s1 w1 r1 => kl σ Hk1 H1 _ w1 (er.mono s1) _ fun Hk2 H2 s2 w2 => kh σ Hk2 H2 _ w2 (er.mono (s1.trans s2)) _ fun Hk3 H3 s3 w3 => ?_
  obtain ⟨q1, us1, rfl, hq1, hr1⟩ := ((r1.mono s2).mono s3).l_inv
  refine ⟨q1, us1, rfl, w3.same.seq hq1, fun q hq => ?_⟩
  exact k q _ Hk3 _ (s1.trans (s2.trans s3)) (w3.dead hq) (w3.fresh hq).1 (w3.fresh hq).2 upd_same (repL_cut ol oh hr1)
/-- x in t, ints -/
theorem inV_ints (x : Int) (ns : List Int) : inV (.int x) (ns.map V.int) = decide (x ∈ ns) := by
  unfold inV
  induction ns with
  | nil => simp
  | cons y ys ih =>
    rw [List.map_cons, List.any_cons, ih]
    show (eqV (.int y) (.int x) || _) = _
    by_cases e : x = y
    · subst e
      have q : eqV (.int x) (.int x) = true := by simp [eqV]
      rw [q]
      simp
    · have q : eqV (.int y) (.int x) = false := by
        simp [eqV]
        exact fun z => e z.symm
      rw [q]
      simp [e]
theorem pdt_inT {ns : List Int} (ha : PD X C a δ ω (.i m) ω1) (hb : PD X C b δ ω1 (.t (ns.map D.i)) ω2) (hm : behindInMarks .In b = false := by rfl) : PDT X C (.Compare a [.In] [b] pos) δ ω (decide (m ∈ ns)) ω2 :=
  pdt_cmp op_in_seq ha hb hm fun Hk H u v Q w ru rv k => by
    obtain ⟨q1, us1, rfl, hq1, hr1⟩ := rv.t_inv
    have e := hr1.ints_inv
    subst e
    refine ⟨q1, _, rfl, .inr (Same.seqT w.same hq1), by rw [ru.i_inv]; rfl, ?_, ?_⟩
    · rw [List.all_eq_true]
      intro y hy
      obtain ⟨z, _, rfl⟩ := List.mem_map.mp hy
      rfl
    · rw [ru.i_inv]
      show Q (.bl (if false = true then _ else inV (.int m) (ns.map V.int))) H
      rw [if_neg Bool.false_ne_true, inV_ints]
      exact k
end
end FW
set_option Elab.async false
set_option linter.all false
set_option autoImplicit false
set_option maxRecDepth 100000
set_option maxHeartbeats 1000000
/-! The text by places: each def's statement, names by slot, scope. -/
namespace FW
open PySem PySem.Spec PyProof.Rows L2
def top (i : Nat) : Stmt := PySem.Challenge.pw_fadewalk_k64_whole_stopping.main.body.getD i (.Pass ⟨0, 0, 0, 0⟩)
abbrev s_is_whole : Stmt := top 12
abbrev N_is_whole : List Str := ["thing"]
theorem sc_is_whole : FnScope N_is_whole ["thing"] (defScope s_is_whole) := ⟨rfl, rfl, rfl, by decide +kernel, rfl, by decide +kernel, by decide +kernel⟩
abbrev s_is_from_to : Stmt := top 13
abbrev N_is_from_to : List Str := ["thing", "low", "high"]
theorem sc_is_from_to : FnScope N_is_from_to ["thing", "low", "high"] (defScope s_is_from_to) := ⟨rfl, rfl, rfl, by decide +kernel, rfl, by decide +kernel, by decide +kernel⟩
abbrev s_common : Stmt := top 14
abbrev N_common : List Str := ["one", "other"]
theorem sc_common : FnScope N_common ["one", "other"] (defScope s_common) := ⟨rfl, rfl, rfl, by decide +kernel, rfl, by decide +kernel, by decide +kernel⟩
abbrev s_is_fraction : Stmt := top 15
abbrev N_is_fraction : List Str := ["thing"]
theorem sc_is_fraction : FnScope N_is_fraction ["thing"] (defScope s_is_fraction) := ⟨rfl, rfl, rfl, by decide +kernel, rfl, by decide +kernel, by decide +kernel⟩
abbrev s_need_fraction : Stmt := top 16
abbrev N_need_fraction : List Str := ["thing"]
theorem sc_need_fraction : FnScope N_need_fraction ["thing"] (defScope s_need_fraction) := ⟨rfl, rfl, rfl, by decide +kernel, rfl, by decide +kernel, by decide +kernel⟩
abbrev s_plain_of : Stmt := top 17
abbrev N_plain_of : List Str := ["above", "below", "by"]
theorem sc_plain_of : FnScope N_plain_of ["above", "below"] (defScope s_plain_of) := ⟨rfl, rfl, rfl, by decide +kernel, rfl, by decide +kernel, by decide +kernel⟩
abbrev s_plain : Stmt := top 18
abbrev N_plain : List Str := ["fraction"]
theorem sc_plain : FnScope N_plain ["fraction"] (defScope s_plain) := ⟨rfl, rfl, rfl, by decide +kernel, rfl, by decide +kernel, by decide +kernel⟩
abbrev s_added : Stmt := top 19
abbrev N_added : List Str := ["one", "other"]
theorem sc_added : FnScope N_added ["one", "other"] (defScope s_added) := ⟨rfl, rfl, rfl, by decide +kernel, rfl, by decide +kernel, by decide +kernel⟩
abbrev s_is_less : Stmt := top 20
abbrev N_is_less : List Str := ["one", "other"]
theorem sc_is_less : FnScope N_is_less ["one", "other"] (defScope s_is_less) := ⟨rfl, rfl, rfl, by decide +kernel, rfl, by decide +kernel, by decide +kernel⟩
abbrev s_are_weights : Stmt := top 23
abbrev N_are_weights : List Str := ["thing", "many", "one"]
theorem sc_are_weights : FnScope N_are_weights ["thing", "many"] (defScope s_are_weights) := ⟨rfl, rfl, rfl, by decide +kernel, rfl, by decide +kernel, by decide +kernel⟩
abbrev s_is_lot : Stmt := top 24
abbrev N_is_lot : List Str := ["thing"]
theorem sc_is_lot : FnScope N_is_lot ["thing"] (defScope s_is_lot) := ⟨rfl, rfl, rfl, by decide +kernel, rfl, by decide +kernel, by decide +kernel⟩
abbrev s_need_lot : Stmt := top 25
abbrev N_need_lot : List Str := ["thing"]
theorem sc_need_lot : FnScope N_need_lot ["thing"] (defScope s_need_lot) := ⟨rfl, rfl, rfl, by decide +kernel, rfl, by decide +kernel, by decide +kernel⟩
abbrev s_need_two : Stmt := top 26
abbrev N_need_two : List Str := ["one", "other"]
theorem sc_need_two : FnScope N_need_two ["one", "other"] (defScope s_need_two) := ⟨rfl, rfl, rfl, by decide +kernel, rfl, by decide +kernel, by decide +kernel⟩
abbrev s_common_of : Stmt := top 27
abbrev N_common_of : List Str := ["numbers", "found", "number"]
theorem sc_common_of : FnScope N_common_of ["numbers"] (defScope s_common_of) := ⟨rfl, rfl, rfl, by decide +kernel, rfl, by decide +kernel, by decide +kernel⟩
abbrev s_least_of : Stmt := top 28
abbrev N_least_of : List Str := ["lot", "by", "weight"]
theorem sc_least_of : FnScope N_least_of ["lot"] (defScope s_least_of) := ⟨rfl, rfl, rfl, by decide +kernel, rfl, by decide +kernel, by decide +kernel⟩
abbrev s_are_rows : Stmt := top 31
abbrev N_are_rows : List Str := ["thing", "row", "sums"]
theorem sc_are_rows : FnScope N_are_rows ["thing"] (defScope s_are_rows) := ⟨rfl, rfl, rfl, by decide +kernel, rfl, by decide +kernel, by decide +kernel⟩
abbrev s_need_steps : Stmt := top 32
abbrev N_need_steps : List Str := ["steps", "fewest"]
theorem sc_need_steps : FnScope N_need_steps ["steps", "fewest"] (defScope s_need_steps) := ⟨rfl, rfl, rfl, by decide +kernel, rfl, by decide +kernel, by decide +kernel⟩
abbrev s_stepped : Stmt := top 33
abbrev N_stepped : List Str := ["rows", "weights", "found", "weight", "row", "one", "other"]
theorem sc_stepped : FnScope N_stepped ["rows", "weights"] (defScope s_stepped) := ⟨rfl, rfl, rfl, by decide +kernel, rfl, by decide +kernel, by decide +kernel⟩
abbrev s_Winit : Stmt := inClass (top 34) 0
abbrev N_Winit : List Str := ["self", "rows"]
theorem sc_Winit : FnScope N_Winit ["self", "rows"] (defScope s_Winit) := ⟨rfl, rfl, rfl, by decide +kernel, rfl, by decide +kernel, by decide +kernel⟩
abbrev s_Wlen : Stmt := inClass (top 34) 1
abbrev N_Wlen : List Str := ["self"]
theorem sc_Wlen : FnScope N_Wlen ["self"] (defScope s_Wlen) := ⟨rfl, rfl, rfl, by decide +kernel, rfl, by decide +kernel, by decide +kernel⟩
abbrev s_Wafter : Stmt := inClass (top 34) 4
abbrev N_Wafter : List Str := ["self", "lot", "steps", "turn"]
theorem sc_Wafter : FnScope N_Wafter ["self", "lot", "steps"] (defScope s_Wafter) := ⟨rfl, rfl, rfl, by decide +kernel, rfl, by decide +kernel, by decide +kernel⟩
abbrev s_is_place : Stmt := top 35
abbrev N_is_place : List Str := ["walk", "thing"]
theorem sc_is_place : FnScope N_is_place ["walk", "thing"] (defScope s_is_place) := ⟨rfl, rfl, rfl, by decide +kernel, rfl, by decide +kernel, by decide +kernel⟩
abbrev s_need_place : Stmt := top 36
abbrev N_need_place : List Str := ["walk", "thing"]
theorem sc_need_place : FnScope N_need_place ["walk", "thing"] (defScope s_need_place) := ⟨rfl, rfl, rfl, by decide +kernel, rfl, by decide +kernel, by decide +kernel⟩
abbrev s_nexts : Stmt := top 38
abbrev N_nexts : List Str := ["walk", "row", "y", "weight"]
theorem sc_nexts : FnScope N_nexts ["walk"] (defScope s_nexts) := ⟨rfl, rfl, rfl, by decide +kernel, rfl, by decide +kernel, by decide +kernel⟩
abbrev s_reach_of : Stmt := top 39
abbrev N_reach_of : List Str := ["steps", "start", "met", "left", "place"]
theorem sc_reach_of : FnScope N_reach_of ["steps", "start"] (defScope s_reach_of) := ⟨rfl, rfl, rfl, by decide +kernel, rfl, by decide +kernel, by decide +kernel⟩
abbrev s_led_to : Stmt := top 40
abbrev N_led_to : List Str := ["walk", "steps", "start"]
theorem sc_led_to : FnScope N_led_to ["walk"] (defScope s_led_to) := ⟨rfl, rfl, rfl, by decide +kernel, rfl, by decide +kernel, by decide +kernel⟩
abbrev s_shut_sets : Stmt := top 41
abbrev N_shut_sets : List Str := ["walk", "reaches", "found", "reach", "place"]
theorem sc_shut_sets : FnScope N_shut_sets ["walk"] (defScope s_shut_sets) := ⟨rfl, rfl, rfl, by decide +kernel, rfl, by decide +kernel, by decide +kernel⟩
abbrev s_determinant : Stmt := top 43
abbrev N_determinant : List Str := ["rows", "table", "sign", "last", "row", "at", "some", "later", "column", "crossed"]
theorem sc_determinant : FnScope N_determinant ["rows"] (defScope s_determinant) := ⟨rfl, rfl, rfl, by decide +kernel, rfl, by decide +kernel, by decide +kernel⟩
abbrev s_trees_in : Stmt := top 44
abbrev N_trees_in : List Str := ["walk", "places", "root", "others", "place", "rows", "x", "out", "y"]
theorem sc_trees_in : FnScope N_trees_in ["walk", "places", "root"] (defScope s_trees_in) := ⟨rfl, rfl, rfl, by decide +kernel, rfl, by decide +kernel, by decide +kernel⟩
abbrev s_rest_on : Stmt := top 45
abbrev N_rest_on : List Str := ["walk", "shut", "place"]
theorem sc_rest_on : FnScope N_rest_on ["walk", "shut"] (defScope s_rest_on) := ⟨rfl, rfl, rfl, by decide +kernel, rfl, by decide +kernel, by decide +kernel⟩
abbrev s_rests : Stmt := top 46
abbrev N_rests : List Str := ["walk", "shut"]
theorem sc_rests : FnScope N_rests ["walk"] (defScope s_rests) := ⟨rfl, rfl, rfl, by decide +kernel, rfl, by decide +kernel, by decide +kernel⟩
abbrev s_one_rest : Stmt := top 47
abbrev N_one_rest : List Str := ["walk"]
theorem sc_one_rest : FnScope N_one_rest ["walk"] (defScope s_one_rest) := ⟨rfl, rfl, rfl, by decide +kernel, rfl, by decide +kernel, by decide +kernel⟩
abbrev s_begun : Stmt := top 49
abbrev N_begun : List Str := ["walk", "start", "many", "place"]
theorem sc_begun : FnScope N_begun ["walk", "start", "many"] (defScope s_begun) := ⟨rfl, rfl, rfl, by decide +kernel, rfl, by decide +kernel, by decide +kernel⟩
abbrev s_barest : Stmt := top 50
abbrev N_barest : List Str := ["weights", "rest", "found", "place", "weight"]
theorem sc_barest : FnScope N_barest ["weights", "rest"] (defScope s_barest) := ⟨rfl, rfl, rfl, by decide +kernel, rfl, by decide +kernel, by decide +kernel⟩
abbrev s_separation : Stmt := top 51
abbrev N_separation : List Str := ["walk", "start", "steps", "rest", "weights", "total", "turn", "place"]
theorem sc_separation : FnScope N_separation ["walk", "start", "steps"] (defScope s_separation) := ⟨rfl, rfl, rfl, by decide +kernel, rfl, by decide +kernel, by decide +kernel⟩
abbrev s_is_stop : Stmt := top 52
abbrev N_is_stop : List Str := ["walk", "thing", "one"]
theorem sc_is_stop : FnScope N_is_stop ["walk", "thing"] (defScope s_is_stop) := ⟨rfl, rfl, rfl, by decide +kernel, rfl, by decide +kernel, by decide +kernel⟩
abbrev s_is_plan_of : Stmt := top 53
abbrev N_is_plan_of : List Str := ["walk", "start", "thing", "scale", "rows", "row", "standing", "stops", "here"]
theorem sc_is_plan_of : FnScope N_is_plan_of ["walk", "start", "thing"] (defScope s_is_plan_of) := ⟨rfl, rfl, rfl, by decide +kernel, rfl, by decide +kernel, by decide +kernel⟩
abbrev s_is_plan : Stmt := top 54
abbrev N_is_plan : List Str := ["walk", "start", "thing"]
theorem sc_is_plan : FnScope N_is_plan ["walk", "start", "thing"] (defScope s_is_plan) := ⟨rfl, rfl, rfl, by decide +kernel, rfl, by decide +kernel, by decide +kernel⟩
abbrev s_is_like : Stmt := top 55
abbrev N_is_like : List Str := ["row", "rest", "one", "own"]
theorem sc_is_like : FnScope N_is_like ["row", "rest"] (defScope s_is_like) := ⟨rfl, rfl, rfl, by decide +kernel, rfl, by decide +kernel, by decide +kernel⟩
abbrev s_is_fair : Stmt := top 56
abbrev N_is_fair : List Str := ["walk", "start", "thing", "rest", "row"]
theorem sc_is_fair : FnScope N_is_fair ["walk", "start", "thing"] (defScope s_is_fair) := ⟨rfl, rfl, rfl, by decide +kernel, rfl, by decide +kernel, by decide +kernel⟩
abbrev s_stopped : Stmt := top 57
abbrev N_stopped : List Str := ["walk", "start", "plan", "scale", "rows", "found", "gone", "total", "row"]
theorem sc_stopped : FnScope N_stopped ["walk", "start", "plan"] (defScope s_stopped) := ⟨rfl, rfl, rfl, by decide +kernel, rfl, by decide +kernel, by decide +kernel⟩
abbrev s_fair_plan : Stmt := top 58
abbrev N_fair_plan : List Str := ["walk", "start", "steps", "rest", "scale", "own", "weights", "rows", "ahead", "turn", "place", "share"]
theorem sc_fair_plan : FnScope N_fair_plan ["walk", "start", "steps"] (defScope s_fair_plan) := ⟨rfl, rfl, rfl, by decide +kernel, rfl, by decide +kernel, by decide +kernel⟩
abbrev s_brought : Stmt := top 60
abbrev N_brought : List Str := ["one", "other", "mine", "yours", "by", "weight"]
theorem sc_brought : FnScope N_brought ["one", "other"] (defScope s_brought) := ⟨rfl, rfl, rfl, by decide +kernel, rfl, by decide +kernel, by decide +kernel⟩
abbrev s_more_of : Stmt := top 61
abbrev N_more_of : List Str := ["one", "other", "mine", "yours"]
theorem sc_more_of : FnScope N_more_of ["one", "other"] (defScope s_more_of) := ⟨rfl, rfl, rfl, by decide +kernel, rfl, by decide +kernel, by decide +kernel⟩
abbrev s_apart_of : Stmt := top 62
abbrev N_apart_of : List Str := ["one", "other", "mine", "yours"]
theorem sc_apart_of : FnScope N_apart_of ["one", "other"] (defScope s_apart_of) := ⟨rfl, rfl, rfl, by decide +kernel, rfl, by decide +kernel, by decide +kernel⟩
abbrev s_apart : Stmt := top 63
abbrev N_apart : List Str := ["one", "other"]
theorem sc_apart : FnScope N_apart ["one", "other"] (defScope s_apart) := ⟨rfl, rfl, rfl, by decide +kernel, rfl, by decide +kernel, by decide +kernel⟩
abbrev s__law_cell_at : Stmt := top 65
abbrev N__law_cell_at : List Str := ["_law_script", "_law_k"]
theorem sc__law_cell_at : FnScope N__law_cell_at ["_law_script", "_law_k"] (defScope s__law_cell_at) := ⟨rfl, rfl, rfl, by decide +kernel, rfl, by decide +kernel, by decide +kernel⟩
abbrev s__law_next : Stmt := top 66
abbrev N__law_next : List Str := ["_law_seed"]
theorem sc__law_next : FnScope N__law_next ["_law_seed"] (defScope s__law_next) := ⟨rfl, rfl, rfl, by decide +kernel, rfl, by decide +kernel, by decide +kernel⟩
abbrev s__law_pen_of : Stmt := top 67
abbrev N__law_pen_of : List Str := ["_law_cell", "_law_left"]
theorem sc__law_pen_of : FnScope N__law_pen_of ["_law_cell"] (defScope s__law_pen_of) := ⟨rfl, rfl, rfl, by decide +kernel, rfl, by decide +kernel, by decide +kernel⟩
abbrev s__law_draw : Stmt := top 68
abbrev N__law_draw : List Str := ["_law_pen", "_law_many", "_law_found"]
theorem sc__law_draw : FnScope N__law_draw ["_law_pen", "_law_many"] (defScope s__law_draw) := ⟨rfl, rfl, rfl, by decide +kernel, rfl, by decide +kernel, by decide +kernel⟩
abbrev s__law_row : Stmt := top 69
abbrev N__law_row : List Str := ["_law_pen", "_law_many", "_law_whole", "_law_some", "_law_row_here", "_law_turn", "_law_at"]
theorem sc__law_row : FnScope N__law_row ["_law_pen", "_law_many", "_law_whole", "_law_some"] (defScope s__law_row) := ⟨rfl, rfl, rfl, by decide +kernel, rfl, by decide +kernel, by decide +kernel⟩
abbrev s__law_rows : Stmt := top 70
abbrev N__law_rows : List Str := ["_law_pen", "_law_top", "_law_many", "_law_whole", "_law_rows_here", "_law_x", "_law_some"]
theorem sc__law_rows : FnScope N__law_rows ["_law_pen", "_law_top"] (defScope s__law_rows) := ⟨rfl, rfl, rfl, by decide +kernel, rfl, by decide +kernel, by decide +kernel⟩
abbrev s__law_round_rows : Stmt := top 71
abbrev N__law_round_rows : List Str := ["_law_pen", "_law_top", "_law_found", "_law_x", "_law_row_here", "_law_at"]
theorem sc__law_round_rows : FnScope N__law_round_rows ["_law_pen", "_law_top"] (defScope s__law_round_rows) := ⟨rfl, rfl, rfl, by decide +kernel, rfl, by decide +kernel, by decide +kernel⟩
abbrev s__law_after : Stmt := top 72
abbrev N__law_after : List Str := ["_law_rows_here", "_law_weights", "_law_long", "_law_turn", "_law_y", "_law_x"]
theorem sc__law_after : FnScope N__law_after ["_law_rows_here", "_law_weights", "_law_long"] (defScope s__law_after) := ⟨rfl, rfl, rfl, by decide +kernel, rfl, by decide +kernel, by decide +kernel⟩
abbrev s__law_start : Stmt := top 73
abbrev N__law_start : List Str := ["_law_rows_here", "_law_place", "_law_x"]
theorem sc__law_start : FnScope N__law_start ["_law_rows_here", "_law_place"] (defScope s__law_start) := ⟨rfl, rfl, rfl, by decide +kernel, rfl, by decide +kernel, by decide +kernel⟩
abbrev s__law_slow_fair : Stmt := top 74
abbrev N__law_slow_fair : List Str := ["_law_pen", "_law_rows_here", "_law_rest", "_law_start_here", "_law_many", "_law_scale", "_law_stops", "_law_standing", "_law_one", "_law_turn", "_law_most", "_law_here", "_law_own", "_law_share", "_law_row_here", "_law_gone"]
theorem sc__law_slow_fair : FnScope N__law_slow_fair ["_law_pen", "_law_rows_here", "_law_rest", "_law_start_here", "_law_many"] (defScope s__law_slow_fair) := ⟨rfl, rfl, rfl, by decide +kernel, rfl, by decide +kernel, by decide +kernel⟩
abbrev s__law_start_right : Stmt := top 75
abbrev N__law_start_right : List Str := ["_law_pen", "_law_walk", "_law_rest", "_law_start_here", "_law_rows_here", "_law_ahead", "_law_long", "_law_short", "_law_lot", "_law_far", "_law_plan", "_law_mine", "_law_pairs", "_law_less", "_law_most", "_law_shorter"]
theorem sc__law_start_right : FnScope N__law_start_right ["_law_pen", "_law_walk", "_law_rest", "_law_start_here"] (defScope s__law_start_right) := ⟨rfl, rfl, rfl, by decide +kernel, rfl, by decide +kernel, by decide +kernel⟩
abbrev s_law : Stmt := top 76
abbrev N_law : List Str := ["_law_script", "_law_cell", "_law_pen", "_law_rows_here", "_law_walk", "_law_rest", "_law_start_here"]
theorem sc_law : FnScope N_law ["_law_script"] (defScope s_law) := ⟨rfl, rfl, rfl, by decide +kernel, rfl, by decide +kernel, by decide +kernel⟩
end FW
set_option Elab.async false
set_option linter.all false
set_option autoImplicit false
set_option maxRecDepth 100000
set_option maxHeartbeats 1000000
/-! C7: short words; what the top gives; data by functions. -/
namespace FW
open PySem PySem.Spec PyProof.Rows L2
section
variable {X : Cx} {C : Addr} {δ : Env} {ω ω1 ω2 ω3 : Om} {a b c e : Expr} {pos : Pos} {d da db : D}
theorem v_ (i : Nat) {x : Str} (h : δ[i]? = some (some d)) (hN : X.N[i]? = some x := by rfl) (hv : Vis X.env.scope x := by first | exact Or.inl rfl | exact Or.inr (Or.inl rfl) | exact Or.inr (Or.inr rfl))
    (hd : (x == ("__debug__" : Str)) = false := by decide) (hcd : (x == ("__classdict__" : Str)) = false := by decide) : PD X C (.Name x pos) δ ω d ω := pd_var i hN hv h hd hcd
end
/-- pure promises -/
def pure_ (P : List D → D → Prop) : FSp := fun ds ω d ω' => ω' = ω ∧ P ds d
/-- n ints as a tuple; a square of them -/
def vecD (n : Nat) (f : Nat → Int) : D := .t (gen n fun k => .i (f k))
def matD (n : Nat) (r : Nat → Nat → Int) : D := .t (gen n fun x => vecD n (r x))
def fr (a b : Int) : D := .t [.i a, .i b]
/-- what the top holds -/
structure Tx (K : PySem.W.Frag) (mg : Str → Option Value) (C : Addr) : Prop where
  cl : Cls K C
  nR : NoAttr K C "rows"
  nW : NoAttr K C "whole"
  mC : mg "Walk" = some (.ref C)
  len : mg "len" = none
  isi : mg "isinstance" = none
  abs : mg "abs" = none
  all : mg "all" = none
  any : mg "any" = none
  sum : mg "sum" = none
  max : mg "max" = none
  min : mg "min" = none
  rng : mg "range" = none
  zip : mg "zip" = none
  tup : mg "tuple" = none
  lst : mg "list" = none
  enu : mg "enumerate" = none
  srt : mg "sorted" = none
  int : mg "int" = none
  bol : mg "bool" = none
  mp : ∃ t, mg "MOST_PLACES" = some (.int 25 t)
  ms : ∃ t, mg "MOST_STEPS" = some (.int 100 t)
theorem boot_isi : bootBuiltins "isinstance" = some (.builtin "isinstance") := by decide +kernel
theorem boot_len_ : bootBuiltins "len" = some (.builtin "len") := by decide +kernel
theorem boot_abs_ : bootBuiltins "abs" = some (.builtin "abs") := by decide +kernel
theorem boot_all_ : bootBuiltins "all" = some (.builtin "all") := by decide +kernel
theorem boot_any_ : bootBuiltins "any" = some (.builtin "any") := by decide +kernel
theorem boot_sum_ : bootBuiltins "sum" = some (.builtin "sum") := by decide +kernel
theorem boot_max_ : bootBuiltins "max" = some (.builtin "max") := by decide +kernel
theorem boot_min_ : bootBuiltins "min" = some (.builtin "min") := by decide +kernel
theorem boot_tup_ : bootBuiltins "tuple" = some (.type "tuple") := by decide +kernel
theorem boot_lst_ : bootBuiltins "list" = some (.type "list") := by decide +kernel
theorem boot_int_ : bootBuiltins "int" = some (.type "int") := by decide +kernel
theorem boot_bol_ : bootBuiltins "bool" = some (.type "bool") := by decide +kernel
theorem boot_srt_ : bootBuiltins "sorted" = some (.builtin "sorted") := by decide +kernel
/-- a def of the text as it stands: its object, its promise -/
abbrev FnP (K : PySem.W.Frag) (x : Str) (st : Stmt) (f : Addr) (fd : FuncData) : Prop := FunD K x x (defArgs st) (defBody st) (defScope st) [] [] f fd
structure Ok (P : Program) (w : World) (K : PySem.W.Frag) (mg : Str → Option Value) (base : Heap) (C : Addr) (x : Str) (k : Nat) (ps : List Str) (g : FSp) : Prop where
  ex : ∃ f fd, mg x = some (.ref f) ∧ PySem.W.keepIn K (.ref f) = true ∧ Binds K fd ps [] ∧ FnOk P w K mg base CX0 k f fd ps (spF K C g)
theorem same_om {ω : Om} : ∀ a o, ω a = some o → ω a = some o := fun _ _ h => h
section
variable {X : Cx} {C : Addr} {δ : Env} {ω ω1 ω2 ω3 : Om} {a b c e : Expr} {pos : Pos} {d da db : D}
theorem PS1.run {st : Stmt} {N : EnvP} {R : RetP} {σ : L2.St} {Hk H : Hp} {Dd : Ends} (h : PS1 X C st δ ω N R) (w : Wf X.K C Hk H ω) (er : EnvR X.K C Hk σ δ)
    (hN : ∀ δ' ω' σ' Hk' H', N δ' ω' → Same Hk Hk' → Wf X.K C Hk' H' ω' → EnvR X.K C Hk' σ' δ' → Dd.nx σ' H') (hR : ∀ d ω' v Hk' H', R d ω' → Same Hk Hk' → Wf X.K C Hk' H' ω' → Rep X.K C Hk' v d → Dd.rt v H') : wS X st Dd σ H := h σ Hk H w er Dd hN hR
theorem PD.run {σ : L2.St} {Hk H : Hp} {Q : VK} (h : PD X C e δ ω d ω1) (w : Wf X.K C Hk H ω) (er : EnvR X.K C Hk σ δ) (k : ∀ v Hk' H', Same Hk Hk' → Wf X.K C Hk' H' ω1 → Rep X.K C Hk' v d → Q v H') : wE X e σ H Q := h σ Hk H w er Q k
/-- a call of such a def -/
theorem pd_ok {j k : Nat} {x : Str} {p : Pos} {ps : List Str} {g : FSp} {es : List Expr} {ds : List D} (F : Ok X.prog X.w X.K X.mg X.base C x k ps g) (hr : Room j X.A) (hk : k ≤ j) (ha : PDA X C (e :: es) δ ω ds ω1) (h : g ds ω1 d ω2)
    (hg : Gl X x := by rfl) (hdb : (x == ("__debug__" : Str)) = false := by decide) (he : starEach (e :: es) X.env = (false, eval e X.env) :: starEach es X.env := by rfl) (hpl : (backTo pos (starEach es X.env)).any (·.1) = false := by rfl) : PD X C (.Call (.Name x p) (e :: es) [] pos) δ ω d ω2 := by
  obtain ⟨f, fd, hm, hkp, hb, hF⟩ := F.ex
  exact pd_call hF (hr.mono hk) hg hm hkp hb ha h hdb he hpl
end
/-! ### sums and the like of functions -/
def sumN (n : Nat) (f : Nat → Int) : Int := ((List.range n).map f).sum
theorem sumN_zero (f : Nat → Int) : sumN 0 f = 0 := rfl
theorem sumN_succ (n : Nat) (f : Nat → Int) : sumN (n + 1) f = sumN n f + f n := by
  unfold sumN
  rw [List.range_succ, List.map_append, List.sum_append]
  simp
def allN (n : Nat) (p : Nat → Bool) : Bool := ((List.range n).map p).all id
theorem allN_iff {n : Nat} {p : Nat → Bool} : allN n p = true ↔ ∀ k, k < n → p k = true := by
  unfold allN
  rw [List.all_map, List.all_eq_true]
  exact ⟨fun h k hk => h k (List.mem_range.mpr hk), fun h k hk => h k (List.mem_range.mp hk)⟩
def anyN (n : Nat) (p : Nat → Bool) : Bool := ((List.range n).map p).any id
theorem anyN_false {n : Nat} {p : Nat → Bool} (h : ∀ k, k < n → p k = false) : anyN n p = false := by
  unfold anyN
  rw [List.any_map, List.any_eq_false]
  intro k hk
  rw [Function.comp_apply, h k (List.mem_range.mp hk)]
  exact Bool.false_ne_true
section
variable {X : Cx} {C : Addr} {δ : Env} {ω ω1 ω2 ω3 : Om} {a b c e : Expr} {pos p p2 pos2 : Pos} {d da db : D} {m n : Int} {N : Nat} {g : Nat → D} {f : Nat → Int} {ds : List D} {q : Addr}
theorem q_isI (T : Tx X.K X.mg C) (ha : PD X C a δ ω (.i m) ω1) (hg : Gl X "isinstance" := by rfl) (hg2 : Gl X "int" := by rfl) (hs : starEach [a, .Name "int" p2] X.env = (false, eval a X.env) :: starEach [.Name "int" p2] X.env := by rfl) (hs2 : starEach [.Name "int" p2] X.env = (false, eval (.Name "int" p2) X.env) :: starEach [] X.env := by rfl) (hpl : (backTo pos (starEach [.Name "int" p2] X.env)).any (·.1) = false := by rfl) :
    PD X C (.Call (.Name "isinstance" p) [a, .Name "int" p2] [] pos) δ ω (.b true) ω1 := pd_isInt hg T.isi boot_isi (pda_cons ha (pda_cons (pd_ty hg2 T.int boot_int_) pda_nil hs2) hs) (by decide +kernel) (hs := hs) (hpl := hpl)
theorem q_isB (T : Tx X.K X.mg C) (ha : PD X C a δ ω (.i m) ω1) (hg : Gl X "isinstance" := by rfl) (hg2 : Gl X "bool" := by rfl) (hs : starEach [a, .Name "bool" p2] X.env = (false, eval a X.env) :: starEach [.Name "bool" p2] X.env := by rfl) (hs2 : starEach [.Name "bool" p2] X.env = (false, eval (.Name "bool" p2) X.env) :: starEach [] X.env := by rfl) (hpl : (backTo pos (starEach [.Name "bool" p2] X.env)).any (·.1) = false := by rfl) :
    PD X C (.Call (.Name "isinstance" p) [a, .Name "bool" p2] [] pos) δ ω (.b false) ω1 := pd_isInt hg T.isi boot_isi (pda_cons ha (pda_cons (pd_ty hg2 T.bol boot_bol_) pda_nil hs2) hs) (by decide +kernel) (hs := hs) (hpl := hpl)
theorem q_isT (T : Tx X.K X.mg C) (ha : PD X C a δ ω (.t ds) ω1) (hg : Gl X "isinstance" := by rfl) (hg2 : Gl X "tuple" := by rfl) (hs : starEach [a, .Name "tuple" p2] X.env = (false, eval a X.env) :: starEach [.Name "tuple" p2] X.env := by rfl) (hs2 : starEach [.Name "tuple" p2] X.env = (false, eval (.Name "tuple" p2) X.env) :: starEach [] X.env := by rfl) (hpl : (backTo pos (starEach [.Name "tuple" p2] X.env)).any (·.1) = false := by rfl) :
    PD X C (.Call (.Name "isinstance" p) [a, .Name "tuple" p2] [] pos) δ ω (.b true) ω1 := pd_isTup hg T.isi boot_isi (pda_cons ha (pda_cons (pd_ty hg2 T.tup boot_tup_) pda_nil hs2) hs) (by decide +kernel) (hs := hs) (hpl := hpl)
theorem q_lenT (T : Tx X.K X.mg C) (ha : PD X C a δ ω (.t ds) ω1) (hg : Gl X "len" := by rfl) (hs : starEach [a] X.env = (false, eval a X.env) :: starEach [] X.env := by rfl) (hpl : (backTo pos (starEach [] X.env)).any (·.1) = false := by rfl) : PD X C (.Call (.Name "len" p) [a] [] pos) δ ω (.i (ds.length : Int)) ω1 := pd_lenT hg T.len boot_len_ ha (hs := hs) (hpl := hpl)
theorem q_lenV (T : Tx X.K X.mg C) (ha : PD X C a δ ω (.t (gen N g)) ω1) (hg : Gl X "len" := by rfl) (hs : starEach [a] X.env = (false, eval a X.env) :: starEach [] X.env := by rfl) (hpl : (backTo pos (starEach [] X.env)).any (·.1) = false := by rfl) : PD X C (.Call (.Name "len" p) [a] [] pos) δ ω (.i (N : Int)) ω1 := (pd_lenT hg T.len boot_len_ ha (hs := hs) (hpl := hpl)).cast (by rw [gen_len])
theorem q_lenL (T : Tx X.K X.mg C) (ha : PD X C a δ ω (.l ds) ω1) (hg : Gl X "len" := by rfl) (hs : starEach [a] X.env = (false, eval a X.env) :: starEach [] X.env := by rfl) (hpl : (backTo pos (starEach [] X.env)).any (·.1) = false := by rfl) : PD X C (.Call (.Name "len" p) [a] [] pos) δ ω (.i (ds.length : Int)) ω1 := pd_lenL hg T.len boot_len_ ha (hs := hs) (hpl := hpl)
theorem q_lenO (T : Tx X.K X.mg C) (ha : PD X C a δ ω (.adr q) ω1) (ho : ω1 q = some (.lst ds)) (hg : Gl X "len" := by rfl) (hs : starEach [a] X.env = (false, eval a X.env) :: starEach [] X.env := by rfl) (hpl : (backTo pos (starEach [] X.env)).any (·.1) = false := by rfl) : PD X C (.Call (.Name "len" p) [a] [] pos) δ ω (.i (ds.length : Int)) ω1 := pd_lenO hg T.len boot_len_ ha ho (hs := hs) (hpl := hpl)
theorem q_sumV (T : Tx X.K X.mg C) (ha : PD X C a δ ω (vecD N f) ω1) (hg : Gl X "sum" := by rfl) (hc : X.calm = true := by rfl) (hs : starEach [a] X.env = (false, eval a X.env) :: starEach [] X.env := by rfl) (hpl : (backTo pos (starEach [] X.env)).any (·.1) = false := by rfl) : PD X C (.Call (.Name "sum" p) [a] [] pos) δ ω (.i (sumN N f)) ω1 := pd_sumT hc hg T.sum boot_sum_ (ha.cast (by unfold vecD; rw [gen_ints])) (hs := hs) (hpl := hpl)
theorem q_sumL (T : Tx X.K X.mg C) (ha : PD X C a δ ω (.l (gen N fun k => .i (f k))) ω1) (hg : Gl X "sum" := by rfl) (hc : X.calm = true := by rfl) (hs : starEach [a] X.env = (false, eval a X.env) :: starEach [] X.env := by rfl) (hpl : (backTo pos (starEach [] X.env)).any (·.1) = false := by rfl) : PD X C (.Call (.Name "sum" p) [a] [] pos) δ ω (.i (sumN N f)) ω1 := pd_sumL hc hg T.sum boot_sum_ (ha.cast (by rw [gen_ints])) (hs := hs) (hpl := hpl)
theorem q_all {pf : Nat → Bool} (T : Tx X.K X.mg C) (ha : PD X C a δ ω (.l (gen N fun k => .b (pf k))) ω1) (hg : Gl X "all" := by rfl) (hc : X.calm = true := by rfl) (hs : starEach [a] X.env = (false, eval a X.env) :: starEach [] X.env := by rfl) (hpl : (backTo pos (starEach [] X.env)).any (·.1) = false := by rfl) : PD X C (.Call (.Name "all" p) [a] [] pos) δ ω (.b (allN N pf)) ω1 := pd_all hc hg T.all boot_all_ (ha.cast (by rw [gen_bls])) (hs := hs) (hpl := hpl)
theorem q_any {pf : Nat → Bool} (T : Tx X.K X.mg C) (ha : PD X C a δ ω (.l (gen N fun k => .b (pf k))) ω1) (hg : Gl X "any" := by rfl) (hc : X.calm = true := by rfl) (hs : starEach [a] X.env = (false, eval a X.env) :: starEach [] X.env := by rfl) (hpl : (backTo pos (starEach [] X.env)).any (·.1) = false := by rfl) : PD X C (.Call (.Name "any" p) [a] [] pos) δ ω (.b (anyN N pf)) ω1 := pd_any hc hg T.any boot_any_ (ha.cast (by rw [gen_bls])) (hs := hs) (hpl := hpl)
/-- m is the least (the greatest) of f 0 .. -/
theorem q_minL (T : Tx X.K X.mg C) (ha : PD X C a δ ω (.l (gen N fun k => .i (f k))) ω1) (h1 : ∃ k, k < N ∧ f k = m) (h2 : ∀ k, k < N → m ≤ f k) (hg : Gl X "min" := by rfl) (hc : X.calm = true := by rfl) (hs : starEach [a] X.env = (false, eval a X.env) :: starEach [] X.env := by rfl) (hpl : (backTo pos (starEach [] X.env)).any (·.1) = false := by rfl) : PD X C (.Call (.Name "min" p) [a] [] pos) δ ω (.i m) ω1 :=
  pd_minL hc hg T.min boot_min_ (ha.cast (by rw [gen_ints])) (by
    obtain ⟨k, hk, e⟩ := h1
    exact List.mem_map.mpr ⟨k, List.mem_range.mpr hk, e⟩) (fun y hy => by
    obtain ⟨k, hk, rfl⟩ := List.mem_map.mp hy
    exact h2 k (List.mem_range.mp hk)) (hs := hs) (hpl := hpl)
theorem q_maxL (T : Tx X.K X.mg C) (ha : PD X C a δ ω (.l (gen N fun k => .i (f k))) ω1) (h1 : ∃ k, k < N ∧ f k = m) (h2 : ∀ k, k < N → f k ≤ m) (hg : Gl X "max" := by rfl) (hc : X.calm = true := by rfl) (hs : starEach [a] X.env = (false, eval a X.env) :: starEach [] X.env := by rfl) (hpl : (backTo pos (starEach [] X.env)).any (·.1) = false := by rfl) : PD X C (.Call (.Name "max" p) [a] [] pos) δ ω (.i m) ω1 :=
  pd_maxL hc hg T.max boot_max_ (ha.cast (by rw [gen_ints])) (by
    obtain ⟨k, hk, e⟩ := h1
    exact List.mem_map.mpr ⟨k, List.mem_range.mpr hk, e⟩) (fun y hy => by
    obtain ⟨k, hk, rfl⟩ := List.mem_map.mp hy
    exact h2 k (List.mem_range.mp hk)) (hs := hs) (hpl := hpl)
theorem q_max2 (T : Tx X.K X.mg C) (ha : PD X C a δ ω (.i m) ω1) (hb : PD X C b δ ω1 (.i n) ω2) (hg : Gl X "max" := by rfl) (hc : X.calm = true := by rfl) (hs : starEach [a, b] X.env = (false, eval a X.env) :: starEach [b] X.env := by rfl) (hs2 : starEach [b] X.env = (false, eval b X.env) :: starEach [] X.env := by rfl) (hpl : (backTo pos (starEach [b] X.env)).any (·.1) = false := by rfl) : PD X C (.Call (.Name "max" p) [a, b] [] pos) δ ω (.i (if n > m then n else m)) ω2 := pd_max2 hc hg T.max boot_max_ (pda_cons ha (pda_cons hb pda_nil hs2) hs) (hs := hs) (hpl := hpl)
theorem q_abs (T : Tx X.K X.mg C) (ha : PD X C a δ ω (.i m) ω1) (hg : Gl X "abs" := by rfl) (hs : starEach [a] X.env = (false, eval a X.env) :: starEach [] X.env := by rfl) (hpl : (backTo pos (starEach [] X.env)).any (·.1) = false := by rfl) : PD X C (.Call (.Name "abs" p) [a] [] pos) δ ω (.i (if m < 0 then -m else m)) ω1 := pd_abs hg T.abs boot_abs_ ha (hs := hs) (hpl := hpl)
theorem q_int {x : Bool} (T : Tx X.K X.mg C) (ha : PD X C a δ ω (.b x) ω1) (hg : Gl X "int" := by rfl) (hs : starEach [a] X.env = (false, eval a X.env) :: starEach [] X.env := by rfl) (hpl : (backTo pos (starEach [] X.env)).any (·.1) = false := by rfl) : PD X C (.Call (.Name "int" p) [a] [] pos) δ ω (.i (if x then 1 else 0)) ω1 := pd_intB hg T.int boot_int_ ha (hs := hs) (hpl := hpl)
theorem q_tupL (T : Tx X.K X.mg C) (ha : PD X C a δ ω (.l ds) ω1) (hg : Gl X "tuple" := by rfl) (hs : starEach [a] X.env = (false, eval a X.env) :: starEach [] X.env := by rfl) (hpl : (backTo pos (starEach [] X.env)).any (·.1) = false := by rfl) : PD X C (.Call (.Name "tuple" p) [a] [] pos) δ ω (.t ds) ω1 := pd_tupL hg T.tup boot_tup_ ha (hs := hs) (hpl := hpl)
theorem q_tupO (T : Tx X.K X.mg C) (ha : PD X C a δ ω (.adr q) ω1) (ho : ω1 q = some (.lst ds)) (hg : Gl X "tuple" := by rfl) (hs : starEach [a] X.env = (false, eval a X.env) :: starEach [] X.env := by rfl) (hpl : (backTo pos (starEach [] X.env)).any (·.1) = false := by rfl) : PD X C (.Call (.Name "tuple" p) [a] [] pos) δ ω (.t ds) ω1 := pd_tupO hg T.tup boot_tup_ ha ho (hs := hs) (hpl := hpl)
theorem q_tupR (T : Tx X.K X.mg C) (ha : PD X C a δ ω (.i (N : Int)) ω1) (hz : N ≤ 1000) (hg : Gl X "tuple" := by rfl) (hg2 : Gl X "range" := by rfl) (hc : X.calm = true := by rfl)
    (na : starEach [a] X.env = (false, eval a X.env) :: starEach [] X.env := by rfl) (nb : starEach [.Call (.Name "range" p2) [a] [] pos2] X.env = (false, eval (.Call (.Name "range" p2) [a] [] pos2) X.env) :: starEach [] X.env := by rfl) :
    PD X C (.Call (.Name "tuple" p) [.Call (.Name "range" p2) [a] [] pos2] [] pos) δ ω (vecD N fun k => (k : Int)) ω1 := pd_tupR hc hg T.tup hg2 T.rng ha (by omega) (by omega) na nb
theorem q_listR (T : Tx X.K X.mg C) (ha : PD X C a δ ω (.i (N : Int)) ω1) (hz : N ≤ 1000) (hg : Gl X "list" := by rfl) (hg2 : Gl X "range" := by rfl) (hc : X.calm = true := by rfl)
    (na : starEach [a] X.env = (false, eval a X.env) :: starEach [] X.env := by rfl) (nb : starEach [.Call (.Name "range" p2) [a] [] pos2] X.env = (false, eval (.Call (.Name "range" p2) [a] [] pos2) X.env) :: starEach [] X.env := by rfl) :
    PD X C (.Call (.Name "list" p) [.Call (.Name "range" p2) [a] [] pos2] [] pos) δ ω (.l (gen N fun k => .i (k : Int))) ω1 := pd_listR hc hg T.lst hg2 T.rng ha (by omega) (by omega) na nb
theorem q_range {tg : Expr} (T : Tx X.K X.mg C) (ha : PD X C a δ ω (.i (N : Int)) ω1) (hz : N ≤ 1000) (hg : Gl X "range" := by rfl) (hs : starEach [a] X.env = [(false, eval a X.env)] := by rfl) :
    PID X C tg (.Call (.Name "range" p) [a] [] pos) δ ω N (fun k => .i (k : Int)) ω1 := pid_range hg T.rng ha (by omega) (by omega) hs
theorem q_enumT {elts : List Expr} {kk : Nat} {tpos : Pos} (T : Tx X.K X.mg C) (ha : PD X C a δ ω (.t (gen N g)) ω1) (hg : Gl X "enumerate" := by rfl) (hs : starEach [a] X.env = [(false, eval a X.env)] := by rfl) :
    PID X C (.Tuple elts kk tpos) (.Call (.Name "enumerate" p) [a] [] pos) δ ω N (fun i => .t [.i (i : Int), g i]) ω1 := pid_enum false hg T.enu ha hs
theorem q_enumL {elts : List Expr} {kk : Nat} {tpos : Pos} (T : Tx X.K X.mg C) (ha : PD X C a δ ω (.l (gen N g)) ω1) (hg : Gl X "enumerate" := by rfl) (hs : starEach [a] X.env = [(false, eval a X.env)] := by rfl) :
    PID X C (.Tuple elts kk tpos) (.Call (.Name "enumerate" p) [a] [] pos) δ ω N (fun i => .t [.i (i : Int), g i]) ω1 := pid_enum true hg T.enu ha hs
theorem q_zip {elts : List Expr} {kk : Nat} {tpos : Pos} {h : Nat → D} (j k : Bool) (T : Tx X.K X.mg C) (ha : PD X C a δ ω (DK j (gen N g)) ω1) (hb : PD X C b δ ω1 (DK k (gen N h)) ω2) (hg : Gl X "zip" := by rfl)
    (hs : starEach [a, b] X.env = (false, eval a X.env) :: starEach [b] X.env := by rfl) (hs2 : starEach [b] X.env = (false, eval b X.env) :: starEach [] X.env := by rfl) (hpl : (backTo pos (starEach [b] X.env)).any (·.1) = false := by rfl) :
    PID X C (.Tuple elts kk tpos) (.Call (.Name "zip" p) [a, b] [] pos) δ ω N (fun i => .t [g i, h i]) ω2 := pid_zip j k hg T.zip ha hb hs hs2 hpl
/-- an item of a tuple (a list) of n things by an index that lies in it -/
theorem q_ixT {k : Nat} (ha : PD X C a δ ω (.t (gen N g)) ω1) (hb : PD X C b δ ω1 (.i n) ω2) (hj : n = (k : Int)) (hk : k < N) (hs : PlainIx b := by intro _ _; rfl) : PD X C (.Subscript a b pos) δ ω (g k) ω2 := pd_ixT ha hb hj (gen_get hk) hs
theorem q_ixL {k : Nat} (ha : PD X C a δ ω (.l (gen N g)) ω1) (hb : PD X C b δ ω1 (.i n) ω2) (hj : n = (k : Int)) (hk : k < N) (hs : PlainIx b := by intro _ _; rfl) : PD X C (.Subscript a b pos) δ ω (g k) ω2 := pd_ixL ha hb hj (gen_get hk) hs
theorem pd_chain {op op' : CmpOp} {g g' : Int → Int → Bool} {l : Int} (ho : OpR X (compareOp op) (rI0 fun i j => .bl (g i j))) (ho' : OpR X (compareOp op') (rI0 fun i j => .bl (g' i j)))
    (ha : PD X C a δ ω (.i l) ω) (hb : PD X C b δ ω (.i m) ω) (hc : PD X C c δ ω (.i n) ω)
    (hm : lastMarks [op, op'] [b, c] = false := by with_unfolding_all rfl) : PD X C (.Compare a [op, op'] [b, c] pos) δ ω (.b (g l m && g' m n)) ω := by
  intro σ Hk H w er Q k
  refine wE_of (pe_chain ho ho' pe_w pe_w pe_w hm) ?_
  refine ha σ Hk H w er _ fun x Hk1 H1 s1 w1 r1 => hb σ Hk1 H1 w1 (er.mono s1) _ fun y Hk2 H2 s2 w2 r2 => ?_
  refine ⟨l, m, (r1.mono s2).i_inv, r2.i_inv, g l m, rfl, ?_⟩
  cases hg : g l m with
  | true =>
    rw [if_pos rfl]
    refine hc σ Hk2 H2 w2 (er.mono (s1.trans s2)) _ fun z Hk3 H3 s3 w3 r3 => ?_
    exact ⟨m, n, r2.i_inv, r3.i_inv, k _ Hk3 H3 (s1.trans (s2.trans s3)) w3 (by rw [hg]; exact .bl _)⟩
  | false =>
    rw [if_neg Bool.false_ne_true]
    exact k _ Hk2 H2 (s1.trans s2) w2 (by rw [hg]; exact .bl _)
theorem pdt_chain {op op' : CmpOp} {g g' : Int → Int → Bool} {l : Int} (ho : OpR X (compareOp op) (rI0 fun i j => .bl (g i j))) (ho' : OpR X (compareOp op') (rI0 fun i j => .bl (g' i j)))
    (ha : PD X C a δ ω (.i l) ω) (hb : PD X C b δ ω (.i m) ω) (hc : PD X C c δ ω (.i n) ω)
    (hm : lastMarks [op, op'] [b, c] = false := by with_unfolding_all rfl) : PDT X C (.Compare a [op, op'] [b, c] pos) δ ω (g l m && g' m n) ω := by
  intro σ Hk H w er Q k
  refine wT_of (pt_chain ho ho' pe_w pe_w pe_w hm) ?_
  refine ha σ Hk H w er _ fun x Hk1 H1 s1 w1 r1 => hb σ Hk1 H1 w1 (er.mono s1) _ fun y Hk2 H2 s2 w2 r2 => ?_
  refine ⟨l, m, (r1.mono s2).i_inv, r2.i_inv, g l m, rfl, ?_⟩
  cases hg : g l m with
  | true =>
    rw [if_pos rfl]
    refine hc σ Hk2 H2 w2 (er.mono (s1.trans s2)) _ fun z Hk3 H3 s3 w3 r3 => ?_
    exact ⟨m, n, r2.i_inv, r3.i_inv, _, rfl, by rw [hg] at k; exact k Hk3 H3 (s1.trans (s2.trans s3)) w3⟩
  | false =>
    rw [if_neg Bool.false_ne_true]
    exact ⟨_, rfl, by rw [hg] at k; exact k Hk2 H2 (s1.trans s2) w2⟩
end
end FW
set_option Elab.async false
set_option linter.all false
set_option autoImplicit false
set_option maxRecDepth 100000
set_option maxHeartbeats 1000000
/-! C8: comprehensions and loops in short. -/
namespace FW
open PySem PySem.Spec PyProof.Rows L2
section
variable {X : Cx} {C : Addr} {δ : Env} {ω ω1 ω2 ω3 : Om} {a b c e : Expr} {pos tp tp2 p' spos : Pos} {d da db : D} {N : EnvP} {R : RetP} {iter elt cnd : Expr} {scope : Scope} {x y z : Str} {n : Nat} {it f : Nat → D} {pf : Nat → Bool}
/-- [elt for x in iter] -/
theorem pdn_lc1 (f : Nat → D) (i : Nat) (hN : X.N.Nodup) (ok : BlkOk X.N X.env.scope scope [(x, i)]) (hi : PID X C (.Name x tp) iter δ ω n it ω1) (hn : n ≤ 1000)
    (he : ∀ k, k < n → ∀ (s : Shared) (H : Hp) (Cc : Addr) (cl : List (Str × Addr)) (fp : List Addr) (ω' : Om), PD (X.blk s H scope (compEnvC scope cl Cc X.env) fp) C elt ((wipeD δ [i]).set i (some (it k))) ω' (f k) ω')
    (hc : X.calm = true := by rfl) (hg : ∀ (s : Shared) (H : Hp) (Cc : Addr) (cl : List (Str × Addr)) (fp : List Addr), PG (X.blk s H scope (compEnvC scope cl Cc X.env) fp) (.Name x tp) (gName i) := by intro _ _ _ _ _; first | exact pg_name (by assumption) (by rfl) (Or.inl rfl) | exact pg_name (by assumption) (by rfl) (Or.inr rfl))
    (hs : ∀ x, foldedSetIterable iter X.env x = pure x := by intro _; rfl) : PDN X C (.ListComp elt [⟨.Name x tp, iter, [], 0⟩] scope pos) δ ω (gen n f) ω1 :=
  pdn_lc (own := [(x, i)]) hc hN ok hg (lcn (own := [(x, i)]) (l := [i]) hi hn (fun j hj => hj) (fun k hk => evg_name) he) hs
/-- [elt for x in iter if cnd] -/
theorem pdn_lc1F (pf : Nat → Bool) (f : Nat → D) (i : Nat) (hN : X.N.Nodup) (ok : BlkOk X.N X.env.scope scope [(x, i)]) (hi : PID X C (.Name x tp) iter δ ω n it ω1) (hn : n ≤ 1000)
    (ht : ∀ k, k < n → ∀ (s : Shared) (H : Hp) (Cc : Addr) (cl : List (Str × Addr)) (fp : List Addr) (ω' : Om), PDT (X.blk s H scope (compEnvC scope cl Cc X.env) fp) C cnd ((wipeD δ [i]).set i (some (it k))) ω' (pf k) ω')
    (he : ∀ k, k < n → pf k = true → ∀ (s : Shared) (H : Hp) (Cc : Addr) (cl : List (Str × Addr)) (fp : List Addr) (ω' : Om), PD (X.blk s H scope (compEnvC scope cl Cc X.env) fp) C elt ((wipeD δ [i]).set i (some (it k))) ω' (f k) ω')
    (hc : X.calm = true := by rfl) (hg : ∀ (s : Shared) (H : Hp) (Cc : Addr) (cl : List (Str × Addr)) (fp : List Addr), PG (X.blk s H scope (compEnvC scope cl Cc X.env) fp) (.Name x tp) (gName i) := by intro _ _ _ _ _; first | exact pg_name (by assumption) (by rfl) (Or.inl rfl) | exact pg_name (by assumption) (by rfl) (Or.inr rfl))
    (hs : ∀ x, foldedSetIterable iter X.env x = pure x := by intro _; rfl) : PDN X C (.ListComp elt [⟨.Name x tp, iter, [cnd], 0⟩] scope pos) δ ω (genF n pf f) ω1 :=
  pdn_lcF (own := [(x, i)]) hc hN ok hg (lcnF (own := [(x, i)]) (l := [i]) hi hn (fun j hj => hj) (fun k hk => evg_name) ht he) hs
/-- the names of a pair: each item is a pair -/
theorem pdn_lc2 {u v : Nat → D} {kk : Nat} (f : Nat → D) (i j : Nat) (hN : X.N.Nodup) (ok : BlkOk X.N X.env.scope scope [(x, i), (y, j)]) (hi : PID X C (.Tuple [.Name x tp, .Name y tp2] kk p') iter δ ω n (fun k => .t [u k, v k]) ω1) (hn : n ≤ 1000)
    (he : ∀ k, k < n → ∀ (s : Shared) (H : Hp) (Cc : Addr) (cl : List (Str × Addr)) (fp : List Addr) (ω' : Om), PD (X.blk s H scope (compEnvC scope cl Cc X.env) fp) C elt (((wipeD δ [i, j]).set i (some (u k))).set j (some (v k))) ω' (f k) ω')
    (hc : X.calm = true := by rfl) (hg : ∀ (s : Shared) (H : Hp) (Cc : Addr) (cl : List (Str × Addr)) (fp : List Addr), PG (X.blk s H scope (compEnvC scope cl Cc X.env) fp) (.Tuple [.Name x tp, .Name y tp2] kk p') (gTup X.K 2 (gCons (gName i) (gCons (gName j) gNil))) := by
      intro _ _ _ _ _; exact pg_tup (by rfl) (pgs_cons (pg_name (by assumption) (by rfl) (Or.inl rfl)) (pgs_cons (pg_name (by assumption) (by rfl) (Or.inl rfl)) pgs_nil)))
    (hs : ∀ x, foldedSetIterable iter X.env x = pure x := by intro _; rfl) : PDN X C (.ListComp elt [⟨.Tuple [.Name x tp, .Name y tp2] kk p', iter, [], 0⟩] scope pos) δ ω (gen n f) ω1 :=
  pdn_lc (own := [(x, i), (y, j)]) hc hN ok hg (lcn (own := [(x, i), (y, j)]) (l := [i] ++ [j]) hi hn (fun j hj => hj) (fun k hk => evg_pair evg_name evg_name) he) hs
theorem pdn_lc2F {u v : Nat → D} {kk : Nat} (pf : Nat → Bool) (f : Nat → D) (i j : Nat) (hN : X.N.Nodup) (ok : BlkOk X.N X.env.scope scope [(x, i), (y, j)]) (hi : PID X C (.Tuple [.Name x tp, .Name y tp2] kk p') iter δ ω n (fun k => .t [u k, v k]) ω1) (hn : n ≤ 1000)
    (ht : ∀ k, k < n → ∀ (s : Shared) (H : Hp) (Cc : Addr) (cl : List (Str × Addr)) (fp : List Addr) (ω' : Om), PDT (X.blk s H scope (compEnvC scope cl Cc X.env) fp) C cnd (((wipeD δ [i, j]).set i (some (u k))).set j (some (v k))) ω' (pf k) ω')
    (he : ∀ k, k < n → pf k = true → ∀ (s : Shared) (H : Hp) (Cc : Addr) (cl : List (Str × Addr)) (fp : List Addr) (ω' : Om), PD (X.blk s H scope (compEnvC scope cl Cc X.env) fp) C elt (((wipeD δ [i, j]).set i (some (u k))).set j (some (v k))) ω' (f k) ω')
    (hc : X.calm = true := by rfl) (hg : ∀ (s : Shared) (H : Hp) (Cc : Addr) (cl : List (Str × Addr)) (fp : List Addr), PG (X.blk s H scope (compEnvC scope cl Cc X.env) fp) (.Tuple [.Name x tp, .Name y tp2] kk p') (gTup X.K 2 (gCons (gName i) (gCons (gName j) gNil))) := by
      intro _ _ _ _ _; exact pg_tup (by rfl) (pgs_cons (pg_name (by assumption) (by rfl) (Or.inl rfl)) (pgs_cons (pg_name (by assumption) (by rfl) (Or.inl rfl)) pgs_nil)))
    (hs : ∀ x, foldedSetIterable iter X.env x = pure x := by intro _; rfl) : PDN X C (.ListComp elt [⟨.Tuple [.Name x tp, .Name y tp2] kk p', iter, [cnd], 0⟩] scope pos) δ ω (genF n pf f) ω1 :=
  pdn_lcF (own := [(x, i), (y, j)]) hc hN ok hg (lcnF (own := [(x, i), (y, j)]) (l := [i] ++ [j]) hi hn (fun j hj => hj) (fun k hk => evg_pair evg_name evg_name) ht he) hs
/-- z = [elt for x in iter], z a local -/
theorem ps1_lc1 (f : Nat → D) (j i : Nat) (hN : X.N.Nodup) (hj : X.N[j]? = some z) (hyl : X.env.scope.names.lookup z = some .local) (hsw : swapsWith (.ListComp elt [⟨.Name x tp, iter, [], 0⟩] scope pos) (some (.Name z p')) spos.line X.env = pure true) (ok : BlkOk X.N X.env.scope scope [(x, i)]) (hi : PID X C (.Name x tp) iter δ ω n it ω1) (hn : n ≤ 1000)
    (he : ∀ k, k < n → ∀ (s : Shared) (H : Hp) (Cc : Addr) (cl : List (Str × Addr)) (fp : List Addr) (ω' : Om), PD (X.blk s H scope (compEnvC scope cl Cc X.env) fp) C elt ((wipeD δ [i]).set i (some (it k))) ω' (f k) ω') (k : N (δ.set j (some (.l (gen n f)))) ω1)
    (hc : X.calm = true := by rfl) (hg : ∀ (s : Shared) (H : Hp) (Cc : Addr) (cl : List (Str × Addr)) (fp : List Addr), PG (X.blk s H scope (compEnvC scope cl Cc X.env) fp) (.Name x tp) (gName i) := by intro _ _ _ _ _; first | exact pg_name (by assumption) (by rfl) (Or.inl rfl) | exact pg_name (by assumption) (by rfl) (Or.inr rfl))
    (hs : ∀ x, foldedSetIterable iter X.env x = pure x := by intro _; rfl) : PS1 X C (.Assign [.Name z p'] (.ListComp elt [⟨.Name x tp, iter, [], 0⟩] scope pos) spos) δ ω N R :=
  ps1_lc (own := [(x, i)]) j hc hN hj hyl hsw ok hg (lcn (own := [(x, i)]) (l := [i]) hi hn (fun j hj => hj) (fun k hk => evg_name) he) k hs
theorem ps1_lc1F (pf : Nat → Bool) (f : Nat → D) (j i : Nat) (hN : X.N.Nodup) (hj : X.N[j]? = some z) (hyl : X.env.scope.names.lookup z = some .local) (hsw : swapsWith (.ListComp elt [⟨.Name x tp, iter, [cnd], 0⟩] scope pos) (some (.Name z p')) spos.line X.env = pure true) (ok : BlkOk X.N X.env.scope scope [(x, i)]) (hi : PID X C (.Name x tp) iter δ ω n it ω1) (hn : n ≤ 1000)
    (ht : ∀ k, k < n → ∀ (s : Shared) (H : Hp) (Cc : Addr) (cl : List (Str × Addr)) (fp : List Addr) (ω' : Om), PDT (X.blk s H scope (compEnvC scope cl Cc X.env) fp) C cnd ((wipeD δ [i]).set i (some (it k))) ω' (pf k) ω')
    (he : ∀ k, k < n → pf k = true → ∀ (s : Shared) (H : Hp) (Cc : Addr) (cl : List (Str × Addr)) (fp : List Addr) (ω' : Om), PD (X.blk s H scope (compEnvC scope cl Cc X.env) fp) C elt ((wipeD δ [i]).set i (some (it k))) ω' (f k) ω') (k : N (δ.set j (some (.l (genF n pf f)))) ω1)
    (hc : X.calm = true := by rfl) (hg : ∀ (s : Shared) (H : Hp) (Cc : Addr) (cl : List (Str × Addr)) (fp : List Addr), PG (X.blk s H scope (compEnvC scope cl Cc X.env) fp) (.Name x tp) (gName i) := by intro _ _ _ _ _; first | exact pg_name (by assumption) (by rfl) (Or.inl rfl) | exact pg_name (by assumption) (by rfl) (Or.inr rfl))
    (hs : ∀ x, foldedSetIterable iter X.env x = pure x := by intro _; rfl) : PS1 X C (.Assign [.Name z p'] (.ListComp elt [⟨.Name x tp, iter, [cnd], 0⟩] scope pos) spos) δ ω N R :=
  ps1_lcF (own := [(x, i)]) j hc hN hj hyl hsw ok hg (lcnF (own := [(x, i)]) (l := [i]) hi hn (fun j hj => hj) (fun k hk => evg_name) ht he) k hs
theorem ps1_lc2 {u v : Nat → D} {kk : Nat} {tp3 : Pos} (f : Nat → D) (l i j : Nat) (hN : X.N.Nodup) (hl : X.N[l]? = some z) (hyl : X.env.scope.names.lookup z = some .local) (hsw : swapsWith (.ListComp elt [⟨.Tuple [.Name x tp, .Name y tp2] kk tp3, iter, [], 0⟩] scope pos) (some (.Name z p')) spos.line X.env = pure true) (ok : BlkOk X.N X.env.scope scope [(x, i), (y, j)]) (hi : PID X C (.Tuple [.Name x tp, .Name y tp2] kk tp3) iter δ ω n (fun k => .t [u k, v k]) ω1) (hn : n ≤ 1000)
    (he : ∀ k, k < n → ∀ (s : Shared) (H : Hp) (Cc : Addr) (cl : List (Str × Addr)) (fp : List Addr) (ω' : Om), PD (X.blk s H scope (compEnvC scope cl Cc X.env) fp) C elt (((wipeD δ [i, j]).set i (some (u k))).set j (some (v k))) ω' (f k) ω') (k : N (δ.set l (some (.l (gen n f)))) ω1)
    (hc : X.calm = true := by rfl) (hg : ∀ (s : Shared) (H : Hp) (Cc : Addr) (cl : List (Str × Addr)) (fp : List Addr), PG (X.blk s H scope (compEnvC scope cl Cc X.env) fp) (.Tuple [.Name x tp, .Name y tp2] kk tp3) (gTup X.K 2 (gCons (gName i) (gCons (gName j) gNil))) := by
      intro _ _ _ _ _; exact pg_tup (by rfl) (pgs_cons (pg_name (by assumption) (by rfl) (Or.inl rfl)) (pgs_cons (pg_name (by assumption) (by rfl) (Or.inl rfl)) pgs_nil)))
    (hs : ∀ x, foldedSetIterable iter X.env x = pure x := by intro _; rfl) : PS1 X C (.Assign [.Name z p'] (.ListComp elt [⟨.Tuple [.Name x tp, .Name y tp2] kk tp3, iter, [], 0⟩] scope pos) spos) δ ω N R :=
  ps1_lc (own := [(x, i), (y, j)]) l hc hN hl hyl hsw ok hg (lcn (own := [(x, i), (y, j)]) (l := [i] ++ [j]) hi hn (fun j hj => hj) (fun k hk => evg_pair evg_name evg_name) he) k hs
/-- for x in iter -/
theorem ps1_for1 {body : List Stmt} (i : Nat) (I : Nat → EnvP) (hN : X.N.Nodup) (hix : X.N[i]? = some x) (hx : Loc X.env.scope x) (hp : PassesOwn (model X.prog X.w) X.A X.env X.xe) (hi : PID X C (.Name x tp) iter δ ω n it ω1)
    (h0 : I 0 δ ω1) (hb : ∀ k, k < n → ∀ δ ω, I k δ ω → PSD X C body (δ.set i (some (it k))) ω (I (k + 1)) R) (hd : ∀ δ ω, I n δ ω → N δ ω)
    (hc : X.calm = true := by rfl) (hf : X.fn x = true ∨ X.env.scope.names.lookup x = some .local := by first | exact .inl rfl | exact .inr rfl) (hs : ∀ x, foldedSetIterable iter X.env x = pure x := by intro _; rfl) : PS1 X C (.For (.Name x tp) iter body [] pos) δ ω N R :=
  ps1_for (g := gName i) I hp hc hi (pg_name hN hix hx hf) h0 (fun k hk δ ω h => ⟨_, evg_name, hb k hk δ ω h⟩) hd hs
/-- for x, y in iter -/
theorem ps1_for2 {body : List Stmt} {u v : Nat → D} {kk : Nat} (i j : Nat) (I : Nat → EnvP) (hN : X.N.Nodup) (hix : X.N[i]? = some x) (hx : Loc X.env.scope x) (hjx : X.N[j]? = some y) (hy : Loc X.env.scope y) (hp : PassesOwn (model X.prog X.w) X.A X.env X.xe) (hi : PID X C (.Tuple [.Name x tp, .Name y tp2] kk p') iter δ ω n (fun k => .t [u k, v k]) ω1)
    (h0 : I 0 δ ω1) (hb : ∀ k, k < n → ∀ δ ω, I k δ ω → PSD X C body ((δ.set i (some (u k))).set j (some (v k))) ω (I (k + 1)) R) (hd : ∀ δ ω, I n δ ω → N δ ω)
    (hc : X.calm = true := by rfl) (hf : X.fn x = true ∨ X.env.scope.names.lookup x = some .local := by first | exact .inl rfl | exact .inr rfl) (hf2 : X.fn y = true ∨ X.env.scope.names.lookup y = some .local := by first | exact .inl rfl | exact .inr rfl)
    (hs2 : (assignEach [.Name x tp, .Name y tp2] X.env).map (·.2) = assign (.Name x tp) X.env :: (assignEach [.Name y tp2] X.env).map (·.2) := by rfl) (hs3 : (assignEach [.Name y tp2] X.env).map (·.2) = assign (.Name y tp2) X.env :: (assignEach [] X.env).map (·.2) := by rfl)
    (hn2 : (assignEach [.Name x tp, .Name y tp2] X.env).length = 2 := by rfl) (hst : (assignEach [.Name x tp, .Name y tp2] X.env).findIdx? (·.1) = none := by rfl)
    (hs : ∀ x, foldedSetIterable iter X.env x = pure x := by intro _; rfl) : PS1 X C (.For (.Tuple [.Name x tp, .Name y tp2] kk p') iter body [] pos) δ ω N R :=
  ps1_for (g := gTup X.K 2 (gCons (gName i) (gCons (gName j) gNil))) I hp hc hi (pg_tup hc (pgs_cons (pg_name hN hix hx hf) (pgs_cons (pg_name hN hjx hy hf2) pgs_nil hs3) hs2) hn2 hst) h0 (fun k hk δ ω h => ⟨_, evg_pair evg_name evg_name, hb k hk δ ω h⟩) hd hs
end
end FW
set_option Elab.async false
set_option linter.all false
set_option autoImplicit false
set_option maxRecDepth 100000
set_option maxHeartbeats 1000000
/-! C9: dicts whose keys are tuples: a comprehension, sorted(..) of one key. -/
namespace FW
open PySem PySem.Spec PyProof.Rows L2
theorem fw_setT {X : Cx} {pins : List (Addr × Obj)} {σ : L2.St} {H : Hp} {s : Shared} {E : Value → Shared → Prop} {d b : Addr} {kvs : List (List Key × V)} {k : List Key} {v : V} {u r : Value} {Q : Unit → Shared → Prop} (hu : X.A.units + 1 < cLine) (I : Inv X pins σ H s) (hD : H d = some (.dT kvs)) (eb : H b = some (.tup (k.map kV))) (hz : kvs.length < sizeLine)
    (ry : RelV (.ref b) u) (rv : RelV v r) (h : ∀ s', Inv X pins σ (upd H d (.dT (putK kvs k v))) s' → Q () s') : wpAny (model X.prog X.w) X.A (dictSet d u r) Q E s := by
  cases (show u = Value.ref b from ry)
  obtain ⟨z, hd, xs, rel, dd⟩ := dt_of I.hok hD
  have hz2 : xs.length ≤ sizeLine := by rw [← Paired.length rel]; exact z
  have hl : (putK kvs k v).length ≤ sizeLine := by have := length_putK kvs k v; omega
  refine wpAny_dictSet_heap (hsz := hz2) (show X.A.units < cLine by omega) (key_of I.hok eb) dd fun h' dd' hs => h _ ?_
  obtain ⟨q, es, ep, hq, h2, h3, h4, _, h5⟩ := dd'
  refine d_write I (by rw [hD]; exact True.intro) hs ⟨q, hq⟩ ⟨hl, hd, _, (rel.put k eb rv).keeps fun c ys ec => ?_, q, es, ep, hq, h2, h3, h4, h5⟩
  rw [upd_ne (ne_of ec hD (fun z => nomatch z))]
  exact ec
section
variable {X : Cx}
/-- what {k: v for tg in iter if ..} needs: each k a tuple of ints and texts; the new dict at d -/
def tDT (wi : TI) (g : TG) (tt : TT) (tk tv : TE) (vs : List Nat) : TE := fun σ H Q => wi σ H fun J H1 => ∀ d, H1 d = none → ∃ W : Nat → Nat → Hp → Prop, (∃ m, W 0 m (upd H1 d (.dT []))) ∧ ∀ i m H, W i m H →
  (J.stop i H ∧ Q (.ref d) H) ∨ (J.go i H ∧ ∃ Nx : Hp → Prop, (∀ H', Nx H' → ∃ m', m' < m ∧ W (i + 1) m' H') ∧ ∀ x H', J.yld i H x H' → g x (wipe σ vs) H' fun σ2 H2 => wipe σ2 vs = wipe σ vs ∧ tt σ2 H2 fun b H3 =>
    if b = true then tk σ2 H3 fun y H4 => tv σ2 H4 fun z H5 => ∃ kvs k c, y = .ref c ∧ H5 d = some (.dT kvs) ∧ H5 c = some (.tup (k.map kV)) ∧ kvs.length < sizeLine ∧ Nx (upd H5 d (.dT (putK kvs k z))) else Nx H3)
theorem fw_dcT {pins : List (Addr × Obj)} {s : Shared} {σ : L2.St} {H : Hp} {Q : VK} {kx vx tg iter : Expr} {ifs : List Expr} {scope : Scope} {own : List (Str × Nat)} {pos pos' : Pos} {wi : TI} {g : TG} {tt : TT} {tk tv : TE} {use : Option (Value → Sem Unit)} {Qf : Value → Shared → Prop} (hu : X.A.units + 1 < cLine) (hc : X.calm = true) (hN : X.N.Nodup) (I : Inv X pins σ H s) (hi : PI X tg iter wi) (ok : BlkOk X.N X.env.scope scope own)
    (hg : ∀ (s : Shared) (H : Hp) (C : Addr) (cl : List (Str × Addr)) (fp : List Addr), PG (X.blk s H scope (compEnvC scope cl C X.env) fp) tg g) (ht : ∀ (s : Shared) (H : Hp) (C : Addr) (cl : List (Str × Addr)) (fp : List Addr), PTs (X.blk s H scope (compEnvC scope cl C X.env) fp) ifs tt)
    (hk : ∀ (s : Shared) (H : Hp) (C : Addr) (cl : List (Str × Addr)) (fp : List Addr), PE (X.blk s H scope (compEnvC scope cl C X.env) fp) kx tk)
    (he : ∀ (s : Shared) (H : Hp) (C : Addr) (cl : List (Str × Addr)) (fp : List Addr), PE (X.blk s H scope (compEnvC scope cl C X.env) fp) vx tv) (hs : ∀ x, foldedSetIterable iter X.env x = pure x) (h : tDT wi g tt tk tv (own.map (·.2)) σ H Q)
    (fin0 : ∀ d C s' m H', Inv X pins σ H' s' → Q (.ref d) H' → s'.heap.Ns C m → FpOk X pins H' C → compPost (model X.prog X.w) X.A X.xe use Qf (.ref d) C (.ok .next) s') :
    wpAny (model X.prog X.w) X.A (comprehension (.DictComp kx vx [⟨tg, iter, ifs, 0⟩] scope pos) scope X.env pos' newDict false (eval iter X.env) use) Qf X.xe s := by
  have closed : ∀ y ∈ scope.names, y.2 = .free → ∃ c, X.env.cells.lookup y.1 = some c := fun y hy e => (ok.free y hy e).elim (fun k => I.ok.has _ (.inl k)) (fun k => I.ok.has _ (.inr k))
  refine wpAny_comprehension_free (use := use) rfl hs (closure_ok closed) ok.kind (fun y hy e => by rw [ok.uniq y hy, e]) (thn (hi.run pins s σ H _ I h) fun xv s1 hx => thn hx fun itv s2 h2 => ?_)
  obtain ⟨it, fp, tn, J, H2, rfl, I2, T, st2, f2, q⟩ := h2
  refine wpAny_newObj_type (newEnv_comp ?_)
  have fresh2 : H2 s2.heap.objs.size = none := I2.hok.fresh (Nat.le_refl _)
  obtain ⟨W, ⟨m0, w0⟩, turn⟩ := q s2.heap.objs.size fresh2
  have low : ∀ b ∈ fp, b < s2.heap.objs.size := fun b hb => let ⟨o, e, _⟩ := T.obj _ _ st2 b hb; Heap.lt_size e
  generalize hs3 : ({ s2 with heap := s2.heap.push { cls := .type "dict", data := .dict #[] } } : Shared) = s3
  have I3 : Inv X pins σ (upd H2 s2.heap.objs.size (.dT [])) s3 := by
    rw [← hs3]
    exact I2.laid (t' := s2.toks) (fun b o e => Heap.get?_push_of_some _ e) (Nat.le_refl _) (dt_empty s2.heap I2.big)
  have h3 : s3.heap = s2.heap.push { cls := .type "dict", data := .dict #[] } := by rw [← hs3]
  generalize s2.heap.objs.size = dd at low w0 turn I3 fresh2 ⊢
  have f3 : ∀ b ∈ fp, FpOk X pins (upd H2 dd (.dT [])) b ∧ b < s3.heap.objs.size := fun b hb => by
    refine ⟨⟨?_, (f2 b hb).2⟩, ?_⟩
    · rw [upd_ne (Nat.ne_of_lt (low b hb))]
      exact (f2 b hb).1
    · obtain ⟨o, e, _⟩ := T.obj _ _ st2 b hb
      rw [h3, Heap.size_push]
      exact Nat.lt_succ_of_lt (Heap.lt_size e)
  have st3 : tn 0 s3.heap := T.keep _ _ _ st2 fun b _ o e => by rw [h3]; exact Heap.get?_push_of_some _ e
  have I4 := block_start I3 ok hN f3
  have pg := hg s3 (upd H2 dd (.dT [])) s3.heap.objs.size (cellsFrom (s3.heap.objs.size + 1) scope.names (cloFrom X.env.cells scope.names [])) fp
  have pt := ht s3 (upd H2 dd (.dT [])) s3.heap.objs.size (cellsFrom (s3.heap.objs.size + 1) scope.names (cloFrom X.env.cells scope.names [])) fp
  have pk := hk s3 (upd H2 dd (.dT [])) s3.heap.objs.size (cellsFrom (s3.heap.objs.size + 1) scope.names (cloFrom X.env.cells scope.names [])) fp
  have pe := he s3 (upd H2 dd (.dT [])) s3.heap.objs.size (cellsFrom (s3.heap.objs.size + 1) scope.names (cloFrom X.env.cells scope.names [])) fp
  show codeAny _ _ (.compStart (.DictComp kx vx [⟨tg, iter, ifs, 0⟩] scope pos) 0 (.ref it) (.ref dd) (compEnvC scope (cellsFrom (s3.heap.objs.size + 1) scope.names (cloFrom X.env.cells scope.names [])) s3.heap.objs.size X.env)) (compPost (model X.prog X.w) X.A X.xe use Qf (.ref dd) s3.heap.objs.size) { s3 with heap := pushCells (s3.heap.push { cls := .type "dict", data := .dict #[] }) scope.names }
  have free3 : ∀ b ∈ fp, (upd H2 dd (.dT [])) b = none := fun b hb => (f3 b hb).1.1
  generalize hce : compEnvC scope (cellsFrom (s3.heap.objs.size + 1) scope.names (cloFrom X.env.cells scope.names [])) s3.heap.objs.size X.env = ce at I4 pg pt pk pe ⊢
  have cL : ce.locals = s3.heap.objs.size := by rw [← hce]; rfl
  generalize upd H2 dd (.dT []) = H3 at I3 I4 pg pt pk pe w0 free3 f3
  generalize hs4 : ({ s3 with heap := pushCells (s3.heap.push { cls := .type "dict", data := .dict #[] }) scope.names } : Shared) = s4 at I4 ⊢
  have st4 : tn 0 s4.heap := T.keep _ _ _ st3 fun b _ o e => by rw [← hs4]; exact pushCells_keeps _ _ _ _ (Heap.get?_push_of_some _ e)
  have foot : ∀ {σ' : L2.St} {H' : Hp} {s' : Shared}, Inv (X.blk s3 H3 scope ce fp) [] σ' H' s' → (∀ b ∈ fp, H' b = none) → ∀ b ∈ fp, FpOk (X.blk s3 H3 scope ce fp) [] H' b := fun {σ' H' s'} I' hn b hb =>
    ⟨hn b hb, (I'.ok.exf b hb).1, I'.ok.exfs b hb, .inl hb, fun x c e => (I'.ok.exf b hb).2 x c e, fun p hp => absurd (show p ∈ ([] : List (Addr × Obj)) ++ [] from hp) (by simp)⟩
  refine codeAny_compStart_dict (?_ : codeAny (model X.prog X.w) X.A (.compLoop (.DictComp kx vx [⟨tg, iter, ifs, 0⟩] scope pos) 0 (.ref it) (.ref dd) ce) (compPost (model X.prog X.w) X.A X.xe use Qf (.ref dd) s3.heap.objs.size) s4) (T.self X.A 0 _ _ _ st4 ?_)
  all_goals
    refine compLoop_anyD (fun n s' => ∃ i H', Inv (X.blk s3 H3 scope ce fp) [] (wipe σ (own.map (·.2))) H' s' ∧ tn i s'.heap ∧ (∀ b ∈ fp, H' b = none) ∧ W i n H') ?_ m0 ⟨0, H3, I4, st4, free3, w0⟩
    rintro n s5 ⟨i, H5, I5, st5, n5, w5⟩
    rcases turn i n H5 w5 with ⟨stop, qq⟩ | ⟨go, Nx, hNx, step⟩
    · refine thnF (T.done (X.blk s3 H3 scope ce fp) rfl rfl rfl hc i [] s5 _ H5 (fun _ _ => False) I5 (foot I5 n5) st5 stop) fun r s6 hr => ?_
      obtain ⟨rfl, I6⟩ := hr
      have I7 : Inv X pins σ H5 s6 := I3.call' (ch := fp) I6.os I6.base I6.hok I6.bare fun b hb => ⟨(f3 b hb).1.2.2.2.1, (f3 b hb).1.2.1, (f3 b hb).1.2.2.2.2.1, (f3 b hb).1.2.2.2.2.2⟩
      have nC : H5 s3.heap.objs.size = none := cL ▸ (I6.free : H5 ce.locals = none)
      obtain ⟨m, hn, _⟩ := I6.loc
      have hn : s6.heap.Ns ce.locals m := hn
      rw [cL] at hn
      exact fin0 dd s3.heap.objs.size s6 m H5 I7 qq hn (I3.fpOk (Nat.le_refl _) nC)
    · refine thnF (T.item (X.blk s3 H3 scope ce fp) rfl rfl rfl hc i [] s5 _ H5 (fun _ _ => False) I5 (foot I5 n5) st5 go) fun r s6 hr => ?_
      obtain ⟨u, rfl, h6⟩ := hr
      refine thnF h6 fun _ s7 h7 => ?_
      obtain ⟨x, H7, I7, r7, y7, st7, n7⟩ := h7
      refine thnF (pg.run _ s7 _ H7 x u _ (I7.pinned (foot I7 n7) (T.obj _ _ st7)) r7 (step x H7 y7)) fun _ s8 h8 => ?_
      obtain ⟨σ8, H8, I8, hw8, q8⟩ := h8
      refine thnF (pt.run _ s8 σ8 H8 _ I8 q8) fun b s9 h9 => ?_
      obtain ⟨H9, I9, q9⟩ := h9
      have fin : ∀ {s' : Shared} {H' : Hp}, Inv (X.blk s3 H3 scope ce fp) ([] ++ pinsAt fp s7.heap) σ8 H' s' → Nx H' → ∃ m, m < n ∧ ∃ i H', Inv (X.blk s3 H3 scope ce fp) [] (wipe σ (own.map (·.2))) H' s' ∧ tn i s'.heap ∧ (∀ b ∈ fp, H' b = none) ∧ W i m H' := fun {s' H'} I' nx => by
        obtain ⟨m', hm, w'⟩ := hNx H' nx
        have pin' : ∀ b ∈ fp, ∀ o, s7.heap.get? b = some o → s'.heap.get? b = some o ∧ H' b = none := fun b hb o e =>
          let z := I'.pin (b, o) (List.mem_append_right _ (List.mem_append_right _ (mem_pinsAt hb e)))
          ⟨z.1, z.2.1⟩
        refine ⟨m', hm, i + 1, H', (I'.unpinned (pins := [])).weak (by rw [← hw8, wipe_length]) (fun j v e => ?_), T.keep _ _ _ st7 fun b hb o e => (pin' b hb o e).1, fun b hb => ?_, w'⟩
        · rw [← hw8] at e
          exact (wipe_some e).1
        · obtain ⟨o, e, _⟩ := T.obj _ _ st7 b hb
          exact (pin' b hb o e).2
      cases b with
      | false =>
        simp only [Bool.false_eq_true, if_false] at q9 ⊢
        exact fin I9 q9
      | true =>
        simp only [if_true] at q9 ⊢
        refine thnF (pk.run _ s9 σ8 H9 _ I9 q9) fun z s10 h10 => ?_
        obtain ⟨yk, H10, I10, r10, q10⟩ := h10
        refine thnF (pe.run _ s10 σ8 H10 _ I10 q10) fun z2 s11 h11 => ?_
        obtain ⟨yv, H11, I11, r11, kvs, k, c, rfl, hD11, hk11, hz11, nx⟩ := h11
        exact fw_setT (X := X.blk s3 H3 scope ce fp) hu I11 hD11 hk11 hz11 r10 r11 fun s12 I12 => fin I12 nx
/-- y = {k: v for tg in iter if ..} on one line, y a local -/
theorem ps_setDT {i : Nat} {y : Str} {py : Pos} {kx vx tg iter : Expr} {ifs : List Expr} {scope : Scope} {own : List (Str × Nat)} {pos spos : Pos} {wi : TI} {g : TG} {tt : TT} {tk tv : TE} (hu : X.A.units + 1 < cLine) (hc : X.calm = true) (hN : X.N.Nodup) (hy : X.N[i]? = some y) (hyl : X.env.scope.names.lookup y = some .local)
    (hsw : swapsWith (.DictComp kx vx [⟨tg, iter, ifs, 0⟩] scope pos) (some (.Name y py)) spos.line X.env = pure true) (hi : PI X tg iter wi) (ok : BlkOk X.N X.env.scope scope own)
    (hg : ∀ (s : Shared) (H : Hp) (C : Addr) (cl : List (Str × Addr)) (fp : List Addr), PG (X.blk s H scope (compEnvC scope cl C X.env) fp) tg g) (ht : ∀ (s : Shared) (H : Hp) (C : Addr) (cl : List (Str × Addr)) (fp : List Addr), PTs (X.blk s H scope (compEnvC scope cl C X.env) fp) ifs tt)
    (hk : ∀ (s : Shared) (H : Hp) (C : Addr) (cl : List (Str × Addr)) (fp : List Addr), PE (X.blk s H scope (compEnvC scope cl C X.env) fp) kx tk)
    (he : ∀ (s : Shared) (H : Hp) (C : Addr) (cl : List (Str × Addr)) (fp : List Addr), PE (X.blk s H scope (compEnvC scope cl C X.env) fp) vx tv) (hs : ∀ x, foldedSetIterable iter X.env x = pure x := by intro _; rfl) :
    PS X (.Assign [.Name y py] (.DictComp kx vx [⟨tg, iter, ifs, 0⟩] scope pos) spos) (tAsg (tDT wi g tt tk tv (own.map (·.2))) (gName i)) := by
  refine ⟨fun pins s σ H D I h => ?_⟩
  rw [exec_Assign_Name_used _ _ _ _ hsw, arm_evalThenUse_DictComp]
  have h' : tDT wi g tt tk tv (own.map (·.2)) σ H (fun x H1 => gName i x σ H1 D.nx) := h
  refine wpAny_bind (wpAny_standAt (wpAny_bind (wpAny_bind (thn (fw_dcT (Qf := fun _ s' => SP X pins D .next s') hu hc hN I hi ok hg ht hk he hs h' fun d C s' m H' I' q hn f => ?_) fun _ s' hq => wpAny_pure (wpAny_pure hq)))))
  show wpAny _ _ (assign (.Name y py) X.env (.ref d)) _ _ _
  refine wpAny_assign_Name (store_ok2 (v := V.ref d) I' hN hy (.inl hyl) rfl (fun s2 I2 hl => ?_) (.inr hyl))
  obtain ⟨a, sb, ha⟩ := hl
  obtain ⟨f0, f1, f2, f3, f4, f5⟩ := f
  have haC : C ≠ a := ha.elim (fun z => by rw [z]; exact f1) (fun z e => f4 y a z e.symm)
  exact ⟨m, hn.sameBut sb haC, fun h3 sb3 => ⟨_, H', I2.turned (t' := s2.toks) (fun b o hb e => (sb3.2 b hb).trans e) f0 f1 f3 f4 f5, q⟩⟩
theorem sw_trueD {kx vx : Expr} {gs : List Comprehension} {scope : Scope} {pos py : Pos} {y : Str} {l : Nat} {env : PySem.Env} (hk : env.scope.kind = .function) (hy : env.scope.names.lookup y = some .local) (hl : (py.line == pos.line) = true)
    (ha : (scope.names.any fun (n, k) => n == y && (k == .local || k == .cell)) = false) : swapsWith (.DictComp kx vx gs scope pos) (some (.Name y py)) l env = pure true := by
  have ky : env.kindOf y = some .local := hy
  have hb : env.blockKind = .function := by unfold Env.blockKind; rw [hk]; rfl
  unfold swapsWith
  simp only [hb, ky, ha, Expr.pos, hl]
  rfl
end
/-- sorted(d), d a dict with one key, a tuple of ints and texts -/
theorem cr_sortedT1 {X : Cx} (hc : X.calm = true) : CallR X (.builtin "sorted") (fun xs H Q => ∃ (d : Addr) (k : List Key) (v : V), xs = [V.ref d] ∧ H d = some (.dT [(k, v)]) ∧ ∀ p b, H b = some (.tup (k.map kV)) → H p = none → Q (.ref p) (upd H p (.lst [V.ref b]))) := by
  intro pins s σ H xs us Q I r h
  obtain ⟨d, k, v, rfl, hd, q⟩ := h
  obtain ⟨u, rfl, rx⟩ := r.one
  cases rx
  obtain ⟨z, hs, ks, pr, o, es, ep, ho, hx, hdt, he, hn⟩ := (show ObjOk X.prog X.w H s.heap d (.dT [(k, v)]) from I.hok _ _ hd)
  obtain ⟨x, rfl, hx1, hx2, hx3⟩ : ∃ x, ks = [x] ∧ k = x.1 ∧ H x.2.1 = some (.tup (k.map kV)) ∧ RelV v x.2.2 := by
    cases pr with
    | cons h1 h2 =>
      cases h2
      exact ⟨_, rfl, h1.1, h1.2.1, h1.2.2⟩
  have l1 : es.size = 1 := size_of_entries he
  refine Calls.call_function_entry PyProof.Rows.kind_sorted PyProof.Rows.plain_sorted PyProof.Rows.entry_sorted (PyProof.Rows.args_sorted1 _) ?_
  unfold Builtin.«sorted»
  refine wpAny_bind (m := checkCount "sorted" 1 1 _) (wpAny_pure ?_)
  refine wpAny_bind (PySem.W.kdu_collect (A := X.A.in1) (kdl_raw hs hx hdt) (I.ok.hd hc) ho (by rw [l1]; decide) fun h' tk acc hk hacc => ?_)
  have ea : acc.toList = [Value.ref x.2.1] := by
    have hl : acc.toList.length = 1 := by rw [Array.length_toList, hacc.1, l1]
    obtain ⟨v0, e0⟩ := List.length_eq_one_iff.mp hl
    rw [e0]
    obtain ⟨en, hen, hv⟩ := hacc.2 0 v0 (by rw [← Array.getElem?_toList, e0]; rfl)
    have qe := entry_at he 0
    rw [hen] at qe
    have e2 : en = entryOfKey (tupleKind (mixKind X.prog X.w)) x := Option.some.inj qe
    rw [hv, e2]
    rfl
  rw [ea]
  have I1 : Inv X pins σ H { s with heap := h', toks := tk } := I.kept hk
  refine wpAny_bind (wpAny_newList ?_ (by show 1 ≤ sizeLine; decide))
  have hoL : (h'.push (seqObj "list" [Value.ref x.2.1].toArray 0)).get? h'.objs.size = some (seqObj "list" [Value.ref x.2.1].toArray 0) := Heap.get?_push_size _ rfl
  show wpAny _ _ _ _ _ { s with heap := h'.push (seqObj "list" [Value.ref x.2.1].toArray 0), toks := tk }
  refine wpAny_bind (wpAny_holding (wpAny_call_entry PyProof.Rows.slot_list_sort ⟨_, hoL, rfl⟩ PyProof.Rows.entry_list_sort
    (SK.plain_sort (s := { s with heap := h'.push (seqObj "list" [Value.ref x.2.1].toArray 0), toks := tk }) (r := fun _ => 0) hoL (by show 1 < 64; decide) (fun h2 => absurd h2 (by show ¬ 2 ≤ 1; decide)) fun ps out o1 o2 o3 => ⟨_, rfl, ?_⟩) (PyProof.Rows.args_list_sort _)))
  have eo : out.toList = [Value.ref x.2.1] := by
    rw [o1, List.perm_singleton.mp o2]
    rfl
  obtain ⟨e', he'⟩ := PyProof.Rows.sortedHeap_at (vs := [Value.ref x.2.1]) (out := out) hoL
  refine wpAny_pure ⟨_, rfl, .ref h'.objs.size, upd H h'.objs.size (.lst [V.ref x.2.1]), I1.laid (t' := tk) (fun b u e => ?_) (Nat.le_refl _)
    (show ObjOk X.prog X.w _ _ _ (.lst [V.ref x.2.1]) from ⟨by show 1 ≤ sizeLine; decide, out.toList, e', by rw [eo]; exact .cons rfl .nil, by rw [Array.toArray_toList]; exact he'⟩), rfl, q _ _ hx2 (I1.hok.fresh (Nat.le_refl _))⟩
  have hb : b < h'.objs.size := Heap.lt_size e
  rw [PyProof.Rows.sortedHeap_old (Nat.ne_of_lt hb) (by rw [size_push']; exact Nat.lt_succ_of_lt hb)]
  exact Heap.get?_push_of_some _ e
end FW
set_option Elab.async false
set_option linter.all false
set_option autoImplicit false
set_option maxRecDepth 100000
set_option maxHeartbeats 1000000
/-! C10: owned dicts of ints, keys, the stack, sorted. -/
namespace FW
open PySem PySem.Spec PyProof.Rows L2
section
variable {X : Cx} {C : Addr} {δ : Env} {ω ω1 ω2 ω3 : Om} {a b c e o i : Expr} {pos p tp spos : Pos} {d da db : D} {m n : Int} {N : EnvP} {R : RetP}
/-- e gives a thing of its own -/
def PDF (X : Cx) (C : Addr) (e : Expr) (δ : Env) (ω : Om) (oo : OO) (ω' : Om) : Prop :=
  ∀ (σ : L2.St) (Hk H : Hp), Wf X.K C Hk H ω → EnvR X.K C Hk σ δ → ∀ Q : VK, (∀ a ho Hk' H', Same Hk Hk' → Wf X.K C Hk' H' ω' → Hk' a = none → ω' a = none → H' a = some ho → RepO X.K C Hk' ho oo → Q (.ref a) H') → wE X e σ H Q
theorem Wf.take {K : PySem.W.Frag} {Hk H : Hp} {q : Addr} {ho : HO} {oo : OO} (w : Wf K C Hk H ω) (h1 : Hk q = none) (h3 : H q = some ho) (r : RepO K C Hk ho oo) : Wf K C Hk H (updO ω q oo) := ⟨w.same, fun z o' e' => by
  by_cases hz : z = q
  · rw [hz, updO_same] at e'
    cases e'
    rw [hz]
    exact ⟨h1, _, h3, r⟩
  · rw [updO_ne hz] at e'
    exact w.own z o' e'⟩
theorem PDN.pdf {ds : List D} (h : PDN X C e δ ω ds ω1) : PDF X C e δ ω (.lst ds) ω1 := fun σ Hk H w er Q k => h σ Hk H w er Q fun q vs Hk' H' s w' h1 h2 h3 r => k q _ Hk' H' s w' h1 h2 h3 r
/-- {e: True} -/
theorem pdf_dict1 (ha : ∀ ω, PD X C a δ ω (.i m) ω) (hb : ∀ ω, PD X C b δ ω (.b true) ω) : PDF X C (.Dict [some a] [b] pos) δ ω (.dct [m]) ω := by
  intro σ Hk H w er Q k
  refine wE_of (pe_disp (pps_cons pe_w pe_w pps_nil) (by rfl) (by rfl) (fun z => by cases z) (by show 1 ≤ 15; decide)) fun q hq => ?_
  have fr := w.fresh hq
  have w0 := w.alloc (ho := .dK []) (o := .raw (.dK [])) hq ⟨rfl, fun _ z => nomatch z⟩
  refine ha _ σ _ _ w0 er _ fun x Hk1 H1 s1 w1 r1 => hb _ σ _ _ w1 (er.mono s1) _ fun y Hk2 H2 s2 w2 r2 => ?_
  obtain ⟨h1, ho, h2, h3⟩ := w2.own q _ updO_same
  cases h3.raw_inv
  refine ⟨h2, [(Sum.inl m, V.bl true)], by rw [(r1.mono s2).i_inv, r2.b_inv]; rfl, by show 1 ≤ 15; decide, ?_⟩
  have w3 := w2.mut (ho := .dK [(Sum.inl m, V.bl true)]) (o := .dct [m]) updO_same rfl
  rw [updO_updO] at w3
  exact k q _ Hk2 _ (s1.trans s2) (w3.drop fun z o' e' => by
    rw [updO_ne (fun hz => by rw [hz, fr.2] at e'; cases e')]
    exact e') h1 fr.2 upd_same rfl
theorem pdax_pdf {es : List Expr} {P : List D → Om → Prop} {oo : OO} (ha : PDF X C e δ ω oo ω1) (hr : ∀ p, ω1 p = none → PDAx X C es δ (updO ω1 p oo) (fun ds ω' => P (.adr p :: ds) ω')) (hs : starEach (e :: es) X.env = (false, eval e X.env) :: starEach es X.env := by rfl) : PDAx X C (e :: es) δ ω P := by
  intro σ Hk H w er Q k
  refine wA_of (pa_cons pe_w pa_w hs) ?_
  refine ha σ Hk H w er _ fun q ho Hk1 H1 s1 w1 hp hω hH r1 => ?_
  exact hr q hω σ Hk1 H1 (w1.take hp hH r1) (er.mono s1) _ fun ds ω' vs Hk2 H2 z s2 w3 r2 => k _ ω' _ Hk2 H2 z (s1.trans s2) w3 (.cons (.adr q) r2)
/-- x = a thing of its own -/
theorem ps1_ownF {x : Str} {p' : Pos} {oo : OO} (j : Nat) (hN : X.N.Nodup) (hi : X.N[j]? = some x) (hx : Loc X.env.scope x) (he : PDF X C e δ ω oo ω1) (k : ∀ p, ω1 p = none → N (δ.set j (some (.adr p))) (updO ω1 p oo)) (hs : swapsWith e (some (.Name x p')) pos.line X.env = pure false := by rfl)
    (hf : X.fn x = true ∨ X.env.scope.names.lookup x = some .local := by first | exact .inl rfl | exact .inr rfl) : PS1 X C (.Assign [.Name x p'] e pos) δ ω N R := by
  intro σ Hk H w er Dd hN' hR
  refine wS_of (ps_set hN hi hx pe_w hs hf) ?_
  refine he σ Hk H w er _ fun q ho Hk1 H1 s1 w1 ha hω hH r1 => ?_
  exact hN' _ _ _ Hk1 H1 (k q hω) s1 (w1.take ha hH r1) ((er.mono s1).set (.adr q))
/-- o.pop(), o an owned list -/
theorem pd_pop {ds : List D} {q : Addr} {apos cpos : Pos} (ho : PD X C o δ ω (.adr q) ω1) (hl : ω1 q = some (.lst (ds ++ [d])))
    (hbase : attributeBase o "pop" X.env (eval o X.env) = eval o X.env := by rfl) (hline : (apos.endLine == cpos.line) = true := by rfl) : PD X C (.Call (.Attribute o "pop" apos) [] [] cpos) δ ω d (updO ω1 q (.lst ds)) := by
  intro σ Hk H w er Q k
  refine wE_of (pe_bm0 PySem.F.plainAttrs_list PySem.F.slot_list_pop PySem.F.type_list_pop mt_pop pe_w hbase hline) ?_
  refine ho σ Hk H w er _ fun v Hk1 H1 s1 w1 r1 => ?_
  obtain ⟨h1, _, e1, e2⟩ := w1.own q _ hl
  obtain ⟨us, rfl, hr⟩ := e2.lst_inv
  have hlen := hr.len
  rw [List.length_append, List.length_singleton] at hlen
  obtain ⟨y, hy, ry⟩ := hr.get (j := us.length - 1) (d := d) (by rw [hlen, Nat.add_sub_cancel, List.getElem?_append_right (Nat.le_refl _), Nat.sub_self]; rfl)
  refine ⟨by rw [r1.adr_inv]; exact .inl ⟨rfl, _, SqL.of e1⟩, q, us, y, r1.adr_inv, rfl, e1, hy, ?_⟩
  refine k y Hk1 _ s1 (w1.mut hl (show RepL X.K C Hk1 us.dropLast ds from ?_)) ry
  have := hr.dropLast
  rw [List.dropLast_concat] at this
  exact this
/-- owned dicts of ints -/
theorem valV_ints (m : Int) : ∀ ks : List Int, valV (ks.map fun k => ((Sum.inl k : Key), V.bl true)) (Sum.inl m) = if m ∈ ks then some (V.bl true) else none
  | [] => rfl
  | k :: ks => by
    by_cases e : k = m
    · rw [List.map_cons, valV_pos (by rw [e]), if_pos (by rw [e]; exact List.mem_cons_self ..)]
    · rw [List.map_cons, valV_neg (fun z => e (Sum.inl.inj z)), valV_ints m ks]
      by_cases h : m ∈ ks
      · rw [if_pos h, if_pos (List.mem_cons_of_mem _ h)]
      · rw [if_neg h, if_neg (fun z => (List.mem_cons.mp z).elim (fun q => e q.symm) h)]
theorem pdt_dnin {q : Addr} {ks : List Int} (hu : X.A.units + 1 < cLine) (hi : PD X C i δ ω (.i m) ω1) (ho : PD X C o δ ω1 (.adr q) ω2) (hd : ω2 q = some (.dct ks)) (hm : behindInMarks .NotIn o = false := by rfl) : PDT X C (.Compare i [.NotIn] [o] pos) δ ω (!decide (m ∈ ks)) ω2 := by
  intro σ Hk H w er Q k
  refine wT_of (pt_cmp (pc_dnotin hu pe_w pe_w) hm) ?_
  refine hi σ Hk H w er _ fun y Hk1 H1 s1 w1 r1 => ho σ Hk1 H1 w1 (er.mono s1) _ fun x Hk2 H2 s2 w2 r2 => ?_
  obtain ⟨h1, _, e1, e2⟩ := w2.own q _ hd
  have e3 := e2.dct_inv
  subst e3
  refine ⟨q, _, r2.adr_inv, by rw [(r1.mono s2).i_inv]; exact DGet.k (k := Sum.inl m) e1, ?_⟩
  rw [valV_ints]
  refine ⟨_, rfl, ?_⟩
  have e4 : (!(if m ∈ ks then some (V.bl true) else none).isSome) = !decide (m ∈ ks) := by
    by_cases h : m ∈ ks
    · rw [if_pos h, decide_eq_true h]
      rfl
    · rw [if_neg h, decide_eq_false h]
      rfl
  rw [e4]
  exact k Hk2 H2 (s1.trans s2) w2
theorem ps1_dput {q : Addr} {ks : List Int} {tpos : Pos} (hu : X.A.units + 1 < cLine) (he : PD X C e δ ω (.b true) ω1) (ho : PD X C o δ ω1 (.adr q) ω1) (hi : PD X C i δ ω1 (.i m) ω1) (hd : ω1 q = some (.dct ks)) (hm : m ∉ ks) (hz : ks.length < 1000) (k : N δ (updO ω1 q (.dct (ks ++ [m]))))
    (hs : swapsWith e (some (.Subscript o i tpos)) pos.line X.env = pure false := by rfl) : PS1 X C (.Assign [.Subscript o i tpos] e pos) δ ω N R := by
  intro σ Hk H w er Dd hN' hR
  refine wS_of (ps_dput hu pe_w pe_w pe_w hs) ?_
  refine he σ Hk H w er _ fun v Hk1 H1 s1 w1 r1 => ho σ Hk1 H1 w1 (er.mono s1) _ fun x Hk2 H2 s2 w2 r2 => hi σ Hk2 H2 w2 (er.mono (s1.trans s2)) _ fun y Hk3 H3 s3 w3 r3 => ?_
  obtain ⟨h1, _, e1, e2⟩ := w3.own q _ hd
  have e3 := e2.dct_inv
  subst e3
  refine ⟨q, _, r2.adr_inv, by rw [r3.i_inv]; exact DPut.k (k := Sum.inl m) e1 (by rw [List.length_map]; exact Nat.lt_of_lt_of_le hz (by decide)), ?_⟩
  refine hN' _ _ _ Hk3 _ k (s1.trans (s2.trans s3)) (w3.mut hd ?_) (er.mono (s1.trans (s2.trans s3)))
  show putK _ _ _ = _
  rw [putK_new v (by rw [valV_ints, if_neg hm]), List.map_append, ((r1.mono s2).mono s3).b_inv]
  rfl
/-- sorted(d), d an owned dict of ints -/
theorem pdn_sortedD {f : Str} {q : Addr} {ks ns : List Int} (hc : X.calm = true) (hg : Gl X f) (hm : X.mg f = none) (hv : bootBuiltins f = some (.builtin "sorted")) (ha : PD X C a δ ω (.adr q) ω1) (hd : ω1 q = some (.dct ks)) (h64 : ks.length < 64) (hp : ks.Perm ns) (hs : ns.Pairwise (· ≤ ·))
    (hn : f ≠ "__name__" := by decide) (hdb : (f == ("__debug__" : Str)) = false := by decide) (he : starEach [a] X.env = (false, eval a X.env) :: starEach [] X.env := by rfl) (hpl : (backTo pos (starEach [] X.env)).any (·.1) = false := by rfl) : PDN X C (.Call (.Name f p) [a] [] pos) δ ω (ns.map D.i) ω1 := by
  intro σ Hk H w er Q k
  refine wE_of (pe_callB (call_sortedDI hc) hg hm hv pa_w hn hdb he hpl) ?_
  refine pda_cons ha pda_nil he σ Hk H w er _ fun vs Hk1 H1 s1 w1 r1 => ?_
  cases r1 with
  | cons r1 rr =>
    cases rr
    obtain ⟨h1, _, e1, e2⟩ := w1.own q _ hd
    have e3 := e2.dct_inv
    subst e3
    refine ⟨q, _, ks, by rw [r1.adr_inv], .inl e1, by rw [List.map_map]; rfl, h64, fun ys l hy hys hl => ?_⟩
    have ey : ys = ns := (hy.trans hp).eq_of_pairwise (fun x y _ _ h1 h2 => Int.le_antisymm h1 h2) hys hs
    rw [ey]
    exact k l _ Hk1 _ s1 (w1.dead hl) (w1.fresh hl).1 (w1.fresh hl).2 upd_same (RepL.ints ns)
/-- tuple(l) of ints, that may be a key -/
theorem pd_tupK {f : Str} {ns : List Int} (hg : Gl X f) (hm : X.mg f = none) (hv : bootBuiltins f = some (.type "tuple")) (ha : PD X C a δ ω (.l (ns.map D.i)) ω1)
    (hn : f ≠ "__name__" := by decide) (hdb : (f == ("__debug__" : Str)) = false := by decide) (hs : starEach [a] X.env = (false, eval a X.env) :: starEach [] X.env := by rfl) (hpl : (backTo pos (starEach [] X.env)).any (·.1) = false := by rfl) : PD X C (.Call (.Name f p) [a] [] pos) δ ω (.k ns) ω1 :=
  pd_callTy call_tuple_of hg hm hv (pda_cons ha pda_nil hs) (fun Hk H vs Q w r k => by
    cases r with
    | cons r1 rr =>
      cases rr
      obtain ⟨q, us, rfl, hq, hr⟩ := r1.l_inv
      have e := hr.ints_inv
      subst e
      exact ⟨q, _, rfl, .inl ⟨w.same.seq hq, fun l hl => k _ (upd Hk l (.tup (ns.map V.int))) _ (w.newS hl) (w.new hl) (.key upd_same)⟩⟩) hn hdb hs hpl
theorem PD.unkey {ns : List Int} (h : PD X C e δ ω (.k ns) ω1) : PD X C e δ ω (.t (ns.map D.i)) ω1 := fun σ Hk H w er Q k => h σ Hk H w er Q fun v Hk1 H1 s1 w1 r1 => k v Hk1 H1 s1 w1 (by
  cases r1 with
  | key hh => exact .tup (SqT.of hh) (RepL.ints ns))
/-- z = {k: True for tg in iter if cnd}: each k the same key, each test true -/
theorem ps1_dcT {x z : Str} {kx vx cnd iter : Expr} {scope : Scope} {n : Nat} {ns : List Int} (i j : Nat) (hu : X.A.units + 1 < cLine) (hN : X.N.Nodup) (hj : X.N[j]? = some z) (hyl : X.env.scope.names.lookup z = some .local) (hsw : swapsWith (.DictComp kx vx [⟨.Name x tp, iter, [cnd], 0⟩] scope pos) (some (.Name z p)) spos.line X.env = pure true) (ok : BlkOk X.N X.env.scope scope [(x, i)])
    (hi : PID X C (.Name x tp) iter δ ω n (fun _ => .k ns) ω1) (hn : 0 < n)
    (ht : ∀ k, k < n → ∀ (s : Shared) (H : Hp) (Cc : Addr) (cl : List (Str × Addr)) (fp : List Addr) (ω' : Om), PDT (X.blk s H scope (compEnvC scope cl Cc X.env) fp) C cnd ((wipeD δ [i]).set i (some (.k ns))) ω' true ω')
    (hk : ∀ k, k < n → ∀ (s : Shared) (H : Hp) (Cc : Addr) (cl : List (Str × Addr)) (fp : List Addr) (ω' : Om), PD (X.blk s H scope (compEnvC scope cl Cc X.env) fp) C kx ((wipeD δ [i]).set i (some (.k ns))) ω' (.k ns) ω')
    (hv : ∀ k, k < n → ∀ (s : Shared) (H : Hp) (Cc : Addr) (cl : List (Str × Addr)) (fp : List Addr) (ω' : Om), PD (X.blk s H scope (compEnvC scope cl Cc X.env) fp) C vx ((wipeD δ [i]).set i (some (.k ns))) ω' (.b true) ω')
    (k : ∀ p, ω1 p = none → N (δ.set j (some (.adr p))) (updO ω1 p (.raw (.dT [(ns.map Sum.inl, V.bl true)]))))
    (hc : X.calm = true := by rfl) (hg : ∀ (s : Shared) (H : Hp) (Cc : Addr) (cl : List (Str × Addr)) (fp : List Addr), PG (X.blk s H scope (compEnvC scope cl Cc X.env) fp) (.Name x tp) (gName i) := by intro _ _ _ _ _; first | exact pg_name (by assumption) (by rfl) (Or.inl rfl) | exact pg_name (by assumption) (by rfl) (Or.inr rfl))
    (hs : ∀ x, foldedSetIterable iter X.env x = pure x := by intro _; rfl) : PS1 X C (.Assign [.Name z p] (.DictComp kx vx [⟨.Name x tp, iter, [cnd], 0⟩] scope pos) spos) δ ω N R := by
  intro σ Hk H w er Dd hN' hR
  refine wS_of (ps_setDT (own := [(x, i)]) hu hc hN hj hyl hsw pi_w ok hg (fun s H Cc cl fp => pts_one (ttB_pt s H Cc cl fp)) teB_pe teB_pe hs) ?_
  refine hi σ Hk H w er _ fun J Hk1 H1 s1 w1 hw => ?_
  intro d hD
  have fr := w1.fresh hD
  have hz : ∀ m : Nat, (if m = 0 then [] else [(ns.map Sum.inl, V.bl true)] : List (List Key × V)).length < sizeLine := fun m => by
    split
    · show 0 < sizeLine; decide
    · show 1 < sizeLine; decide
  refine ⟨fun t m H' => m = n - t ∧ t ≤ n ∧ ∃ Hk2, Same Hk1 Hk2 ∧ Wf X.K C Hk2 H' (updO ω1 d (.raw (.dT (if t = 0 then [] else [(ns.map Sum.inl, V.bl true)])))), ⟨n, rfl, Nat.zero_le _, Hk1, Same.refl _, w1.alloc hD ⟨rfl, fun _ z => nomatch z⟩⟩, ?_⟩
  rintro t m H' ⟨rfl, hin, Hk2, s2, w2⟩
  obtain ⟨hstop, hgo⟩ := hw Hk2 H' _ s2 w2
  by_cases hlt : t < n
  · obtain ⟨go, yl⟩ := hgo t hlt
    refine .inr ⟨go, fun H3 => ∃ Hk3, Same Hk1 Hk3 ∧ Wf X.K C Hk3 H3 (updO ω1 d (.raw (.dT [(ns.map Sum.inl, V.bl true)]))), fun H3 q => ⟨n - (t + 1), by omega, rfl, hlt, q⟩, fun u H3 hy => ?_⟩
    obtain ⟨Hk3, s3, w3, rx⟩ := yl u H3 hy
    have er3 : EnvR X.K C Hk3 (wipe σ [i]) (wipeD δ [i]) := (er.mono (s1.trans (s2.trans s3))).wipe _
    refine ⟨?_, ?_⟩
    · exact wipe_but (l := [i]) (vs := [i]) ⟨List.length_set, fun j hj => List.getElem?_set_ne (fun z => hj (by simp [z]))⟩ (fun j hj => hj)
    intro s Hs Cc cl fp
    refine ht t hlt s Hs Cc cl fp _ _ Hk3 H3 w3 (er3.set rx) _ fun Hk4 H4 s4 w4 => ?_
    rw [if_pos rfl]
    intro s' Hs' Cc' cl' fp'
    refine hk t hlt s' Hs' Cc' cl' fp' _ _ Hk4 H4 w4 ((er3.set rx).mono s4) _ fun y Hk5 H5 s5 w5 r5 => ?_
    intro s6 Hs6 Cc6 cl6 fp6
    refine hv t hlt s6 Hs6 Cc6 cl6 fp6 _ _ Hk5 H5 w5 ((er3.set rx).mono (s4.trans s5)) _ fun v Hk6 H6 s6 w6 r6 => ?_
    have w6' : Wf X.K C Hk6 H6 (updO ω1 d (.raw (.dT (if t = 0 then [] else [(ns.map Sum.inl, V.bl true)])))) := w6
    obtain ⟨_, ho, e1, e2⟩ := w6'.own d _ updO_same
    cases e2.raw_inv
    have r5' : Rep X.K C Hk6 y (.k ns) := r5.mono s6
    cases r5' with
    | key hy5 =>
      refine ⟨_, ns.map Sum.inl, _, rfl, e1, ?_, hz t, Hk6, s2.trans (s3.trans (s4.trans (s5.trans s6))), ?_⟩
      · rw [w6'.same _ _ hy5, List.map_map]
        rfl
      · have ep : putK (κ := List Key) (if t = 0 then [] else [(ns.map Sum.inl, V.bl true)]) (ns.map Sum.inl) v = [(ns.map Sum.inl, V.bl true)] := by
          rw [r6.b_inv]
          split
          · rfl
          · simp [putK]
        rw [ep]
        have w7 := w6'.mut (ho := .dT [(ns.map Sum.inl, V.bl true)]) (o := .raw (.dT [(ns.map Sum.inl, V.bl true)])) updO_same ⟨rfl, fun _ z => nomatch z⟩
        rw [updO_updO] at w7
        exact w7
  · have e : t = n := by omega
    subst e
    rw [if_neg (by omega)] at w2
    exact .inl ⟨hstop, hN' _ _ _ Hk2 H' (k d fr.2) (s1.trans s2) w2 ((er.mono (s1.trans s2)).set (.adr d))⟩
/-- sorted(d), d an owned dict whose one key is a tuple of ints -/
theorem pd_sortedT {f : Str} {q : Addr} {ns : List Int} (hc : X.calm = true) (hg : Gl X f) (hm : X.mg f = none) (hv : bootBuiltins f = some (.builtin "sorted")) (ha : PD X C a δ ω (.adr q) ω1) (hd : ω1 q = some (.raw (.dT [(ns.map Sum.inl, V.bl true)])))
    (hn : f ≠ "__name__" := by decide) (hdb : (f == ("__debug__" : Str)) = false := by decide) (he : starEach [a] X.env = (false, eval a X.env) :: starEach [] X.env := by rfl) (hpl : (backTo pos (starEach [] X.env)).any (·.1) = false := by rfl) : PD X C (.Call (.Name f p) [a] [] pos) δ ω (.l [.t (ns.map D.i)]) ω1 := by
  intro σ Hk H w er Q k
  refine wE_of (pe_callB (cr_sortedT1 hc) hg hm hv pa_w hn hdb he hpl) ?_
  refine pda_cons ha pda_nil he σ Hk H w er _ fun vs Hk1 H1 s1 w1 r1 => ?_
  cases r1 with
  | cons r1 rr =>
    cases rr
    obtain ⟨h1, ho, e1, e2⟩ := w1.own q _ hd
    cases e2.raw_inv
    refine ⟨q, _, _, by rw [r1.adr_inv], e1, fun l b hb hl => ?_⟩
    have ek : ((ns.map Sum.inl).map kV : List V) = ns.map V.int := by
      rw [List.map_map]
      rfl
    rw [ek] at hb
    -- the key is known, or may be known from now on
    have known : ∃ Hk2, Same Hk1 Hk2 ∧ Wf X.K C Hk2 H1 ω1 ∧ Hk2 b = some (.tup (ns.map V.int)) := by
      cases e5 : Hk1 b with
      | some o =>
        have := w1.same _ _ e5
        rw [hb] at this
        exact ⟨Hk1, Same.refl _, w1, by rw [e5, this]⟩
      | none =>
        have s2 : Same Hk1 (upd Hk1 b (.tup (ns.map V.int))) := Same.new e5
        refine ⟨_, s2, ⟨fun x u e' => ?_, fun x o e' => ?_⟩, upd_same⟩
        · by_cases z : x = b
          · rw [z, upd_same] at e'
            cases e'
            rw [z]
            exact hb
          · rw [upd_ne z] at e'
            exact w1.same x u e'
        · obtain ⟨g1, g2, g3, g4⟩ := w1.own x o e'
          have z : x ≠ b := fun z => by
            rw [z, hb] at g3
            cases g3
            exact g4.noTup
          exact ⟨by rw [upd_ne z]; exact g1, g2, g3, g4.mono s2⟩
    obtain ⟨Hk2, s2, w2, h2⟩ := known
    exact k _ (upd Hk2 l (.lst [V.ref b])) _ (s1.trans (s2.trans (w2.newS hl))) (w2.new hl) (.lst (SqL.of upd_same) (.one (.tup (SqT.of ((w2.newS hl) _ _ h2)) (RepL.ints ns))))
end
end FW
set_option Elab.async false
set_option linter.all false
set_option autoImplicit false
set_option maxRecDepth 100000
set_option maxHeartbeats 1000000
/-! C11: a table of owned rows. -/
namespace FW
open PySem PySem.Spec PyProof.Rows L2
def ownN (ω : Om) (P : Nat → Addr) (f : Nat → List D) : Nat → Om
  | 0 => ω
  | k + 1 => updO (ownN ω P f k) (P k) (.lst (f k))
theorem ownN_congr {ω : Om} {P P' : Nat → Addr} {f f' : Nat → List D} : ∀ {k : Nat}, (∀ i, i < k → P i = P' i ∧ f i = f' i) → ownN ω P f k = ownN ω P' f' k
  | 0, _ => rfl
  | k + 1, h => by
    unfold ownN
    rw [ownN_congr (k := k) fun i hi => h i (by omega), (h k (by omega)).1, (h k (by omega)).2]
theorem ownN_out {ω : Om} {P : Nat → Addr} {f : Nat → List D} {a : Addr} : ∀ {k : Nat}, (∀ i, i < k → a ≠ P i) → ownN ω P f k a = ω a
  | 0, _ => rfl
  | k + 1, h => by
    unfold ownN
    rw [updO_ne (h k (by omega)), ownN_out fun i hi => h i (by omega)]
theorem ownN_at {ω : Om} {P : Nat → Addr} {f : Nat → List D} : ∀ {k i : Nat}, (∀ i j, i < k → j < k → P i = P j → i = j) → i < k → ownN ω P f k (P i) = some (.lst (f i))
  | k + 1, i, inj, hi => by
    unfold ownN
    by_cases e : i = k
    · rw [e, updO_same]
    · rw [updO_ne (fun z => e (inj i k hi (by omega) z)), ownN_at (fun x y hx hy => inj x y (by omega) (by omega)) (by omega)]
theorem ownN_set {ω : Om} {P : Nat → Addr} {f : Nat → List D} {g : List D} : ∀ {k i : Nat}, (∀ i j, i < k → j < k → P i = P j → i = j) → i < k → updO (ownN ω P f k) (P i) (.lst g) = ownN ω P (fun j => if j = i then g else f j) k
  | k + 1, i, inj, hi => by
    unfold ownN
    by_cases e : i = k
    · subst e
      rw [updO_updO, if_pos rfl, ownN_congr (k := i) (P' := P) (f' := fun j => if j = i then g else f j) fun j hj => ⟨rfl, by rw [if_neg (by omega)]⟩]
    · rw [updO_comm (fun z => e (inj i k hi (by omega) z.symm)), ownN_set (fun x y hx hy => inj x y (by omega) (by omega)) (by omega), if_neg (fun z => e z.symm)]
section
variable {X : Cx} {C : Addr} {δ : Env} {ω ω1 ω2 ω3 : Om} {a b c e o i : Expr} {pos p tp spos : Pos} {d da db : D} {m n : Int} {N : EnvP} {R : RetP}
/-- e gives a list of its own, its items and what is owned so that Z -/
def PDNE (X : Cx) (C : Addr) (e : Expr) (δ : Env) (ω : Om) (Z : List D → Om → Prop) : Prop :=
  ∀ (σ : L2.St) (Hk H : Hp), Wf X.K C Hk H ω → EnvR X.K C Hk σ δ → ∀ Q : VK, (∀ ds ω' a vs Hk' H', Z ds ω' → Same Hk Hk' → Wf X.K C Hk' H' ω' → Hk' a = none → ω' a = none → H' a = some (.lst vs) → RepL X.K C Hk' vs ds → Q (.ref a) H') → wE X e σ H Q
theorem pdax_newE {es : List Expr} {P : List D → Om → Prop} {Z : List D → Om → Prop} (ha : PDNE X C e δ ω Z) (hr : ∀ p ds0 ω1, Z ds0 ω1 → ω1 p = none → PDAx X C es δ (updO ω1 p (.lst ds0)) (fun ds ω' => P (.adr p :: ds) ω')) (hs : starEach (e :: es) X.env = (false, eval e X.env) :: starEach es X.env := by rfl) : PDAx X C (e :: es) δ ω P := by
  intro σ Hk H w er Q k
  refine wA_of (pa_cons pe_w pa_w hs) ?_
  refine ha σ Hk H w er _ fun ds0 ω1 q vs Hk1 H1 hz s1 w1 hp hω hH r1 => ?_
  exact hr q ds0 ω1 hz hω σ Hk1 H1 (w1.take hp hH (show RepO X.K C Hk1 (.lst vs) (.lst ds0) from r1)) (er.mono s1) _ fun ds ω' vs Hk2 H2 z s2 w3 r2 => k _ ω' _ Hk2 H2 z (s1.trans s2) w3 (.cons (.adr q) r2)
/-- what a table of rows owned one by one is -/
def Tbl (ω : Om) (n : Nat) (f : Nat → List D) (ds : List D) (ω' : Om) : Prop := ∃ P : Nat → Addr, (∀ i j, i < n → j < n → P i = P j → i = j) ∧ (∀ i, i < n → ω (P i) = none) ∧ ds = gen n (fun i => .adr (P i)) ∧ ω' = ownN ω P f n
/-- [elt for x in iter], each item a list of its own -/
theorem pdn_lcO {x : Str} {iter elt : Expr} {scope : Scope} {n : Nat} {it : Nat → D} (f : Nat → List D) (i : Nat) (hN : X.N.Nodup) (ok : BlkOk X.N X.env.scope scope [(x, i)]) (hi : PID X C (.Name x tp) iter δ ω n it ω1) (hn : n ≤ 1000)
    (he : ∀ k, k < n → ∀ (s : Shared) (H : Hp) (Cc : Addr) (cl : List (Str × Addr)) (fp : List Addr) (ω' : Om), PDN (X.blk s H scope (compEnvC scope cl Cc X.env) fp) C elt ((wipeD δ [i]).set i (some (it k))) ω' (f k) ω')
    (hc : X.calm = true := by rfl) (hg : ∀ (s : Shared) (H : Hp) (Cc : Addr) (cl : List (Str × Addr)) (fp : List Addr), PG (X.blk s H scope (compEnvC scope cl Cc X.env) fp) (.Name x tp) (gName i) := by intro _ _ _ _ _; first | exact pg_name (by assumption) (by rfl) (Or.inl rfl) | exact pg_name (by assumption) (by rfl) (Or.inr rfl))
    (hs : ∀ x, foldedSetIterable iter X.env x = pure x := by intro _; rfl) : PDNE X C (.ListComp elt [⟨.Name x tp, iter, [], 0⟩] scope pos) δ ω (Tbl ω1 n f) := by
  intro σ Hk H w er Q kq
  refine wE_of (pe_lc (own := [(x, i)]) hc hN pi_w ok hg (fun _ _ _ _ _ => pts_nil) teB_pe hs) ?_
  refine hi σ Hk H w er _ fun J Hk1 H1 s1 w1 hw => ?_
  intro Dl hD
  have fr := w1.fresh hD
  refine ⟨fun t m H' => m = n - t ∧ t ≤ n ∧ ∃ Hk2 P, Same Hk1 Hk2 ∧ (∀ i j, i < t → j < t → P i = P j → i = j) ∧ (∀ i, i < t → ω1 (P i) = none ∧ P i ≠ Dl) ∧ Wf X.K C Hk2 H' (updO (ownN ω1 P f t) Dl (.lst (gen t fun i => .adr (P i)))), ⟨n, rfl, Nat.zero_le _, Hk1, fun _ => 0, Same.refl _, fun i j h => absurd h (by omega), fun i h => absurd h (by omega), w1.alloc hD (show RepL X.K C Hk1 [] [] from .nil)⟩, ?_⟩
  rintro t m H' ⟨rfl, hin, Hk2, P, s2, inj, free, w2⟩
  obtain ⟨hstop, hgo⟩ := hw Hk2 H' _ s2 w2
  by_cases hlt : t < n
  · obtain ⟨go, yl⟩ := hgo t hlt
    refine .inr ⟨go, fun H3 => ∃ Hk3 P, Same Hk1 Hk3 ∧ (∀ i j, i < t + 1 → j < t + 1 → P i = P j → i = j) ∧ (∀ i, i < t + 1 → ω1 (P i) = none ∧ P i ≠ Dl) ∧ Wf X.K C Hk3 H3 (updO (ownN ω1 P f (t + 1)) Dl (.lst (gen (t + 1) fun i => .adr (P i)))), fun H3 q => ⟨n - (t + 1), by omega, rfl, hlt, q⟩, fun u H3 hy => ?_⟩
    obtain ⟨Hk3, s3, w3, rx⟩ := yl u H3 hy
    have er3 : EnvR X.K C Hk3 (wipe σ [i]) (wipeD δ [i]) := (er.mono (s1.trans (s2.trans s3))).wipe _
    refine ⟨wipe_but (l := [i]) (vs := [i]) ⟨List.length_set, fun j hj => List.getElem?_set_ne (fun z => hj (by simp [z]))⟩ (fun j hj => hj), ?_⟩
    dsimp only [tYes]
    rw [if_pos rfl]
    intro s Hs Cc cl fp
    refine he t hlt s Hs Cc cl fp _ _ Hk3 H3 w3 (er3.set rx) _ fun q vs Hk4 H4 s4 w4 h1 h2 h3 r4 => ?_
    have w4' : Wf X.K C Hk4 H4 (updO (ownN ω1 P f t) Dl (.lst (gen t fun i => .adr (P i)))) := w4
    have h2' : updO (ownN ω1 P f t) Dl (.lst (gen t fun i => .adr (P i))) q = none := h2
    have qD : q ≠ Dl := fun z => by
      rw [z, updO_same] at h2'
      cases h2'
    rw [updO_ne qD] at h2'
    have qP : ∀ i, i < t → q ≠ P i := fun i hi z => by
      rw [z, ownN_at inj hi] at h2'
      cases h2'
    rw [ownN_out qP] at h2'
    obtain ⟨_, ho', e1, e2⟩ := w4'.own Dl _ updO_same
    obtain ⟨us, rfl, hr⟩ := e2.lst_inv
    have w5 := w4'.take (q := q) (ho := .lst vs) (oo := .lst (f t)) h1 h3 r4
    refine ⟨us, e1, ?_, Hk4, fun i => if i = t then q else P i, s2.trans (s3.trans s4), fun i j hi hj e => ?_, fun i hi => ?_, ?_⟩
    · rw [hr.len, gen_len]
      exact Nat.lt_of_lt_of_le (Nat.lt_of_lt_of_le hlt hn) (by decide)
    · dsimp only at e
      by_cases ei : i = t
      · by_cases ej : j = t
        · omega
        · rw [if_pos ei, if_neg ej] at e
          exact absurd e (qP j (by omega))
      · by_cases ej : j = t
        · rw [if_neg ei, if_pos ej] at e
          exact absurd e.symm (qP i (by omega))
        · rw [if_neg ei, if_neg ej] at e
          exact inj i j (by omega) (by omega) e
    · dsimp only
      by_cases ei : i = t
      · rw [if_pos ei]
        exact ⟨h2', qD⟩
      · rw [if_neg ei]
        exact free i (by omega)
    · have eg : gen (t + 1) (fun i => D.adr (if i = t then q else P i)) = gen t (fun i => D.adr (P i)) ++ [D.adr q] := by
        rw [gen_succ, if_pos rfl, gen_congr (g := fun i => D.adr (if i = t then q else P i)) (h := fun i => D.adr (P i)) fun k hk => congrArg D.adr (if_neg (by omega))]
      have eo : ownN ω1 (fun i => if i = t then q else P i) f (t + 1) = updO (ownN ω1 P f t) q (.lst (f t)) := by
        show updO (ownN ω1 (fun i => if i = t then q else P i) f t) (if t = t then q else P t) (.lst (f t)) = _
        rw [if_pos rfl, ownN_congr (k := t) (P' := P) (f' := f) fun i hi => ⟨if_neg (by omega), rfl⟩]
      have w6 := w5.mut (p := Dl) (o' := .lst (gen t fun i => .adr (P i))) (ho := .lst (us ++ [V.ref q])) (o := .lst (gen (t + 1) fun i => .adr (if i = t then q else P i))) (by rw [updO_ne (fun z => qD z.symm), updO_same]) (by rw [eg]; exact hr.app (.one (.adr q)))
      rw [updO_comm (fun z => qD z.symm), updO_updO, ← eo] at w6
      exact w6
  · have e : t = n := by omega
    subst e
    refine .inl ⟨hstop, ?_⟩
    obtain ⟨h1, ho, h2, h3⟩ := w2.own Dl _ updO_same
    obtain ⟨us, rfl, hr⟩ := h3.lst_inv
    have fz : ownN ω1 P f t Dl = none := by rw [ownN_out fun i hi z => (free i hi).2 z.symm]; exact fr.2
    refine kq _ (ownN ω1 P f t) Dl us Hk2 H' ⟨P, inj, fun i hi => (free i hi).1, rfl, rfl⟩ (s1.trans s2) (w2.drop fun x o' e' => ?_) h1 fz h2 hr
    rw [updO_ne (fun z => by rw [z, fz] at e'; cases e')]
    exact e'
/-- an owned table against [] -/
theorem pdt_neOO {q : Addr} {k : Nat} {P : Nat → Addr} {g : Nat → Nat → Int} {l : Nat → Nat} (hu : X.A.units + 64 < cLine) (ha : PD X C a δ ω (.adr q) ω) (hb : PD X C b δ ω (.l []) ω1) (ho : ω1 q = some (.lst (gen k fun i => .adr (P i)))) (hP : ∀ i, i < k → ω1 (P i) = some (.lst (gen (l i) fun j => .i (g i j)))) : PDT X C (.Compare a [.NotEq] [b] pos) δ ω (!decide (k = 0)) ω1 :=
  pdt_cmp (op_neD hu) ha hb (nomark _) fun Hk H u v Q w ru rv kk => by
    obtain ⟨_, ho', e1, e2⟩ := w.own q _ ho
    obtain ⟨vs, rfl, hr⟩ := e2.lst_inv
    let T : D := .l (gen k fun i => .l (gen (l i) fun j => .i (g i j)))
    have lvT : Lv 2 T := lv_gen (k := 1) fun i hi => lv_gen (k := 0) fun j hj => True.intro
    have r1 : Dp X.K H u (toPy T) := by
      rw [ru.adr_inv]
      refine .lst (SqL.of e1) ?_
      have hall : ∀ i, i < k → ∃ us, H (P i) = some (.lst us) ∧ RepL X.K C Hk us (gen (l i) fun j => .i (g i j)) := fun i hi => by
        obtain ⟨_, h2, h3, h4⟩ := w.own _ _ (hP i hi)
        obtain ⟨us, rfl, h5⟩ := h4.lst_inv
        exact ⟨us, h3, h5⟩
      have gl : ∀ (L : List Nat) (vs : List V), (∀ i ∈ L, i < k) → RepL X.K C Hk vs (L.map fun i => .adr (P i)) → DpAll X.K H vs (toPyL (L.map fun i => .l (gen (l i) fun j => .i (g i j)))) := by
        intro L
        induction L with
        | nil =>
          intro vs _ r
          cases r
          exact .nil
        | cons i L ih =>
          intro vs hL r
          cases r with
          | cons r1 rr =>
            obtain ⟨us, h1, h2⟩ := hall i (hL i (List.mem_cons_self ..))
            have s0 : Rep X.K C H (.ref (P i)) (.l (gen (l i) fun j => .i (g i j))) := .lst (SqL.of h1) (h2.mono w.same)
            rw [r1.adr_inv]
            exact .cons (dp_of 1 _ _ (lv_gen (k := 0) fun j hj => True.intro) s0) (ih _ (fun z hz => hL z (List.mem_cons_of_mem _ hz)) rr)
      exact gl (List.range k) vs (fun i hi => List.mem_range.mp hi) hr
    have l2 : Lv 1 (.l []) := fun x hx => absurd hx (by simp)
    refine ⟨_, _, r1, dp_of 1 _ _ l2 (rv.mono w.same), lv_shaped lvT (by decide), lv_shaped l2 (by decide), ?_⟩
    have e3 : (!PyData.eqv (toPy T) (toPy (.l []))) = !decide (k = 0) := by
      cases k with
      | zero => rfl
      | succ k =>
        show (!PyData.eqv (.list (toPyL ((List.range (k + 1)).map _))) (.list [])) = _
        rw [List.range_succ_eq_map]
        rfl
    rw [e3]
    exact kk
/-- o[-1], o an owned list -/
theorem pd_ixOn {ds : List D} {q : Addr} (ha : PD X C a δ ω (.adr q) ω1) (hb : PD X C b δ ω1 (.i (-1)) ω2) (ho : ω2 q = some (.lst ds)) (h : ds[ds.length - 1]? = some d) (h0 : 0 < ds.length) (hs : PlainIx b := by intro _ _; rfl) : PD X C (.Subscript a b pos) δ ω d ω2 := by
  intro σ Hk H w er Q k
  refine wE_of (pe_ix ix_list pe_w pe_w hs) ?_
  refine ha σ Hk H w er _ fun x Hk1 H1 s1 w1 r1 => hb σ Hk1 H1 w1 (er.mono s1) _ fun y Hk2 H2 s2 w2 r2 => ?_
  obtain ⟨_, ho', e1, e2⟩ := w2.own q _ ho
  obtain ⟨vs, rfl, hr⟩ := e2.lst_inv
  have el := hr.len
  obtain ⟨v, hv, rv⟩ := hr.get h
  refine ⟨q, vs, -1, v, r1.adr_inv, r2.i_inv, SqL.of e1, ?_, k v Hk2 H2 (s1.trans s2) w2 rv⟩
  rw [← el] at hv h0
  exact atI_neg1 hv h0
theorem gen_set (n : Nat) (g : Nat → D) (c : Nat) (v : D) : (gen n g).set c v = gen n (fun j => if j = c then v else g j) := by
  refine List.ext_getElem? fun j => ?_
  by_cases hj : j < n
  · rw [gen_get hj]
    by_cases e : c = j
    · subst e
      rw [List.getElem?_set_self (by rw [gen_len]; exact hj), if_pos rfl]
    · rw [List.getElem?_set_ne e, gen_get hj, if_neg (fun z => e z.symm)]
  · rw [List.getElem?_eq_none (by rw [List.length_set, gen_len]; omega), List.getElem?_eq_none (by rw [gen_len]; omega)]
theorem gen_inj {n : Nat} {g h : Nat → D} (e : gen n g = gen n h) : ∀ k, k < n → g k = h k := fun k hk => by
  have := gen_get (g := g) hk
  rw [e, gen_get hk] at this
  exact (Option.some.inj this).symm
end
end FW
set_option Elab.async false
set_option linter.all false
set_option autoImplicit false
set_option maxRecDepth 100000
set_option maxHeartbeats 1000000
/-! F1: numbers. -/
namespace FW
open PySem PySem.Spec PyProof.Rows L2
def gcdI (a b : Int) : Int := (Int.gcd a b : Int)
theorem gcdI_pos {a b : Int} (h : 0 < b) : 0 < gcdI a b := by
  unfold gcdI
  have : Int.gcd a b ≠ 0 := fun z => by
    have := (Int.gcd_eq_zero_iff.mp z).2
    omega
  omega
theorem gcdI_le {a b : Int} (h : 0 < b) : gcdI a b ≤ b := by
  unfold gcdI
  exact Int.le_of_dvd h (Int.gcd_dvd_right a b)
theorem le_bits {x y : Int} {k : Nat} (h0 : 0 ≤ x) (h : x ≤ y) (hy : y.natAbs < 2 ^ k) : x.natAbs < 2 ^ k := Nat.lt_of_le_of_lt (by omega) hy
/-- the plain fraction of a and b -/
def plainD (a b : Int) : D := fr (a / gcdI a b) (b / gcdI a b)
section
variable {P : Program} {w : World} {K : PySem.W.Frag} {mg : Str → Option Value} {base : Heap} {f : Addr} {fd : FuncData} {C : Addr}
def S_is_whole : FSp := pure_ fun ds d => ∃ n : Int, ds = [.i n] ∧ d = .b true
theorem ok_is_whole (F : FnP K "is_whole" s_is_whole f fd) (T : Tx K mg C) : FnOk P w K mg base CX0 1 f fd ["thing"] (spF K C S_is_whole) := by
  refine fnD F sc_is_whole (fun ds ω d ω' h => ?_) (fun X ds ω d ω' hX hr h => ?_)
  · obtain ⟨_, n, rfl, _⟩ := h
    rfl
  · obtain ⟨cdv, A, outer, s, H, E, rfl⟩ := hX
    obtain ⟨rfl, n, rfl, rfl⟩ := h
    exact psd_one (ps1_ret (d := .b true) (pd_andT (q_isI T (v_ 0 rfl)) (pd_and1 (pd_not (p := false) (q_isB T (v_ 0 rfl))))) ⟨rfl, same_om⟩)
def S_is_from_to : FSp := pure_ fun ds d => ∃ t lo hi : Int, ds = [.i t, .i lo, .i hi] ∧ d = .b (decide (lo ≤ t) && decide (t ≤ hi))
theorem ok_is_from_to (F : FnP K "is_from_to" s_is_from_to f fd) (T : Tx K mg C) (G : Ok P w K mg base C "is_whole" 1 ["thing"] S_is_whole) : FnOk P w K mg base CX0 2 f fd ["thing", "low", "high"] (spF K C S_is_from_to) := by
  refine fnD F sc_is_from_to (fun ds ω d ω' h => ?_) (fun X ds ω d ω' hX hr h => ?_)
  · obtain ⟨_, t, lo, hi, rfl, _⟩ := h
    rfl
  · obtain ⟨cdv, A, outer, s, H, E, rfl⟩ := hX
    obtain ⟨rfl, t, lo, hi, rfl, rfl⟩ := h
    refine psd_one (ps1_ret (pd_andT (pd_ok G hr (by decide) (pda_cons (v_ 0 rfl) pda_nil) ⟨rfl, t, rfl, rfl⟩) (pd_and1 (pd_chain (g := fun i j => decide (i ≤ j)) (g' := fun i j => decide (i ≤ j)) op_le op_le (v_ 1 rfl) (v_ 0 rfl) (v_ 2 rfl)))) ⟨rfl, same_om⟩)
theorem gcd_step (a b : Int) : gcdI a b = gcdI b (a % b) := by
  unfold gcdI
  rw [Int.emod_def, Int.gcd_sub_mul_left_right, Int.gcd_comm a b]
def S_common : FSp := pure_ fun ds d => ∃ a b : Int, ds = [.i a, .i b] ∧ d = .i (gcdI a b)
theorem ok_common (F : FnP K "common" s_common f fd) (T : Tx K mg C) : FnOk P w K mg base CX0 1 f fd ["one", "other"] (spF K C S_common) := by
  refine fnD F sc_common (fun ds ω d ω' h => ?_) (fun X ds ω d ω' hX hr h => ?_)
  · obtain ⟨_, a, b, rfl, _⟩ := h
    rfl
  · obtain ⟨cdv, A, outer, s, H, E, rfl⟩ := hX
    obtain ⟨rfl, a, b, rfl, rfl⟩ := h
    have nd := sc_common.nd
    refine psd_cons (ps1_par 0 1 rfl nd rfl rfl (by decide) rfl rfl (pdax_cons (q_abs T (v_ 0 rfl)) (pdax_cons (q_abs T (v_ 1 rfl)) (pdax_nil ⟨_, _, rfl, ?_⟩))) rfl)
    refine psd_cons (ps1_while (fun m δ' ω2 => ω2 = ω' ∧ ∃ x y : Int, δ' = [some (.i x), some (.i y)] ∧ 0 ≤ x ∧ 0 ≤ y ∧ y.toNat = m ∧ gcdI x y = gcdI a b) (if b < 0 then -b else b).toNat PassesOwn.never ⟨rfl, _, _, rfl, by split <;> omega, by split <;> omega, rfl, ?_⟩ ?_)
    · unfold gcdI
      have e : ∀ z : Int, (if z < 0 then -z else z) = (z.natAbs : Int) := fun z => by split <;> omega
      rw [e, e]
      simp
      rfl
    · rintro m δ' ω2 ⟨rfl, x, y, rfl, hx, hy, hm, hg⟩
      refine ⟨_, pdt_gt (v_ 1 rfl) pd_int, fun ht => ?_, fun hf => ?_⟩
      · have h0 : 0 < y := of_decide_eq_true ht
        refine psd_one (ps1_par 0 1 rfl nd rfl rfl (by decide) rfl rfl (pdax_cons (v_ 1 rfl) (pdax_cons (pd_mod (v_ 0 rfl) (v_ 1 rfl) h0) (pdax_nil ⟨_, _, rfl, ?_⟩))) rfl)
        have h1 := Int.emod_lt_of_pos x h0
        have h2 := Int.emod_nonneg x (by omega : y ≠ 0)
        exact ⟨(x % y).toNat, by omega, rfl, y, x % y, rfl, hy, h2, rfl, by rw [← hg, gcd_step x y]⟩
      · have h0 : ¬ 0 < y := of_decide_eq_false hf
        have e : y = 0 := by omega
        subst e
        refine psd_one (ps1_ret (v_ 0 rfl) ⟨?_, same_om⟩)
        rw [← hg]
        unfold gcdI
        rw [Int.gcd_zero_right]
        congr 1
        omega
def S_is_fraction : FSp := pure_ fun ds d => ∃ a b : Int, 0 < b ∧ ds = [fr a b] ∧ d = .b true
theorem ok_is_fraction (F : FnP K "is_fraction" s_is_fraction f fd) (T : Tx K mg C) (G : Ok P w K mg base C "is_whole" 1 ["thing"] S_is_whole) : FnOk P w K mg base CX0 2 f fd ["thing"] (spF K C S_is_fraction) := by
  refine fnD F sc_is_fraction (fun ds ω d ω' h => ?_) (fun X ds ω d ω' hX hr h => ?_)
  · obtain ⟨_, a, b, _, rfl, _⟩ := h
    rfl
  · obtain ⟨cdv, A, outer, s, H, E, rfl⟩ := hX
    obtain ⟨rfl, a, b, hb, rfl, rfl⟩ := h
    refine psd_one (ps1_ret (pd_andT (q_isT T (v_ 0 rfl)) (pd_andT ((pd_eq (q_lenT T (v_ 0 rfl)) pd_int).cast (by rfl))
      (pd_andT (pd_ok G hr (by decide) (pda_cons (pd_ixT (j := 0) (v_ 0 rfl) pd_int rfl rfl) pda_nil) ⟨rfl, a, rfl, rfl⟩)
      (pd_andT (pd_ok G hr (by decide) (pda_cons (pd_ixT (j := 1) (v_ 0 rfl) pd_int rfl rfl) pda_nil) ⟨rfl, b, rfl, rfl⟩)
      (pd_and1 ((pd_gt (m := b) (n := 0) (pd_ixT (j := 1) (v_ 0 rfl) pd_int rfl rfl) pd_int).cast (by rw [decide_eq_true hb]))))))) ⟨rfl, same_om⟩)
def S_need_fraction : FSp := pure_ fun ds d => ∃ a b : Int, 0 < b ∧ ds = [fr a b] ∧ d = .no
theorem ok_need_fraction (F : FnP K "need_fraction" s_need_fraction f fd) (T : Tx K mg C) (G : Ok P w K mg base C "is_fraction" 2 ["thing"] S_is_fraction) : FnOk P w K mg base CX0 3 f fd ["thing"] (spF K C S_need_fraction) := by
  refine fnD F sc_need_fraction (fun ds ω d ω' h => ?_) (fun X ds ω d ω' hX hr h => ?_)
  · obtain ⟨_, a, b, _, rfl, _⟩ := h
    rfl
  · obtain ⟨cdv, A, outer, s, H, E, rfl⟩ := hX
    obtain ⟨rfl, a, b, hb, rfl, rfl⟩ := h
    exact psd_one (ps1_ifF (pdt_not (p := true) (pdt_val (pd_ok G hr (by decide) (pda_cons (v_ 0 rfl) pda_nil) ⟨rfl, a, b, hb, rfl, rfl⟩))) ⟨rfl, same_om⟩)
def S_plain_of : FSp := pure_ fun ds d => ∃ a b : Int, 0 < b ∧ b.natAbs < 2 ^ 8000 ∧ ds = [.i a, .i b] ∧ d = plainD a b
theorem cdiv_gcd {a b : Int} (hb : 0 < b) (h : b.natAbs < 2 ^ 8000) (x : Int) : CDivW x (gcdI a b) :=
  wide_div (b := 8000) (gcdI_pos hb) (le_bits (Int.le_of_lt (gcdI_pos hb)) (gcdI_le hb) h) (by decide) (by decide)
theorem ok_plain_of (F : FnP K "plain_of" s_plain_of f fd) (T : Tx K mg C) (G : Ok P w K mg base C "common" 1 ["one", "other"] S_common) : FnOk P w K mg base CX0 2 f fd ["above", "below"] (spF K C S_plain_of) := by
  refine fnD F sc_plain_of (fun ds ω d ω' h => ?_) (fun X ds ω d ω' hX hr h => ?_)
  · obtain ⟨_, a, b, _, _, rfl, _⟩ := h
    rfl
  · obtain ⟨cdv, A, outer, s, H, E, rfl⟩ := hX
    obtain ⟨rfl, a, b, hb, hz, rfl, rfl⟩ := h
    have nd := sc_plain_of.nd
    refine psd_cons (ps1_set 2 nd rfl (.inl rfl) (pd_ok G hr (by decide) (pda_cons (v_ 0 rfl) (pda_cons (v_ 1 rfl) pda_nil)) ⟨rfl, a, b, rfl, rfl⟩) ?_)
    exact psd_one (ps1_ret (pd_tup (pda_cons (pd_fdiv (v_ 0 rfl) (v_ 2 rfl) (cdiv_gcd hb hz _)) (pda_cons (pd_fdiv (v_ 1 rfl) (v_ 2 rfl) (cdiv_gcd hb hz _)) pda_nil)) (by show 2 ≤ 1000; decide)) ⟨rfl, same_om⟩)
def S_plain : FSp := pure_ fun ds d => ∃ a b : Int, 0 < b ∧ b.natAbs < 2 ^ 8000 ∧ ds = [fr a b] ∧ d = plainD a b
theorem ok_plain (F : FnP K "plain" s_plain f fd) (T : Tx K mg C) (G1 : Ok P w K mg base C "need_fraction" 3 ["thing"] S_need_fraction) (G2 : Ok P w K mg base C "plain_of" 2 ["above", "below"] S_plain_of) : FnOk P w K mg base CX0 4 f fd ["fraction"] (spF K C S_plain) := by
  refine fnD F sc_plain (fun ds ω d ω' h => ?_) (fun X ds ω d ω' hX hr h => ?_)
  · obtain ⟨_, a, b, _, _, rfl, _⟩ := h
    rfl
  · obtain ⟨cdv, A, outer, s, H, E, rfl⟩ := hX
    obtain ⟨rfl, a, b, hb, hz, rfl, rfl⟩ := h
    refine psd_cons (ps1_drop (pd_ok G1 hr (by decide) (pda_cons (v_ 0 rfl) pda_nil) ⟨rfl, a, b, hb, rfl, rfl⟩) ?_)
    exact psd_one (ps1_ret (pd_ok G2 hr (by decide) (pda_cons (pd_ixT (j := 0) (v_ 0 rfl) pd_int rfl rfl) (pda_cons (pd_ixT (j := 1) (v_ 0 rfl) pd_int rfl rfl) pda_nil)) ⟨rfl, a, b, hb, hz, rfl, rfl⟩) ⟨rfl, same_om⟩)
def S_added : FSp := pure_ fun ds d => ∃ a b a' b' : Int, 0 < b ∧ 0 < b' ∧ (a.natAbs < 2 ^ 2000 ∧ b.natAbs < 2 ^ 2000 ∧ a'.natAbs < 2 ^ 2000 ∧ b'.natAbs < 2 ^ 2000) ∧ ds = [fr a b, fr a' b'] ∧ d = plainD (a * b' + a' * b) (b * b')
theorem cm2000 {x y : Int} (hx : x.natAbs < 2 ^ 2000) (hy : y.natAbs < 2 ^ 2000) : CMulW x y := wide_mul hx hy (by decide) (by decide) (by decide)
theorem lt_pow {x : Int} {j k : Nat} (h : x.natAbs < 2 ^ j) (hjk : j ≤ k) : x.natAbs < 2 ^ k := Nat.lt_of_lt_of_le h (Nat.pow_le_pow_right (by decide) hjk)
theorem ok_added (F : FnP K "added" s_added f fd) (T : Tx K mg C) (G1 : Ok P w K mg base C "need_fraction" 3 ["thing"] S_need_fraction) (G2 : Ok P w K mg base C "plain_of" 2 ["above", "below"] S_plain_of) : FnOk P w K mg base CX0 4 f fd ["one", "other"] (spF K C S_added) := by
  refine fnD F sc_added (fun ds ω d ω' h => ?_) (fun X ds ω d ω' hX hr h => ?_)
  · obtain ⟨_, a, b, a', b', _, _, _, rfl, _⟩ := h
    rfl
  · obtain ⟨cdv, A, outer, s, H, E, rfl⟩ := hX
    obtain ⟨rfl, a, b, a', b', hb, hb', ⟨z1, z2, z3, z4⟩, rfl, rfl⟩ := h
    refine psd_cons (ps1_drop (pd_ok G1 hr (by decide) (pda_cons (v_ 0 rfl) pda_nil) ⟨rfl, a, b, hb, rfl, rfl⟩) ?_)
    refine psd_cons (ps1_drop (pd_ok G1 hr (by decide) (pda_cons (v_ 1 rfl) pda_nil) ⟨rfl, a', b', hb', rfl, rfl⟩) ?_)
    refine psd_one (ps1_ret (pd_ok G2 hr (by decide) (pda_cons (pd_add (pd_mul (pd_ixT (j := 0) (v_ 0 rfl) pd_int rfl rfl) (pd_ixT (j := 1) (v_ 1 rfl) pd_int rfl rfl) (cm2000 z1 z4)) (pd_mul (pd_ixT (j := 0) (v_ 1 rfl) pd_int rfl rfl) (pd_ixT (j := 1) (v_ 0 rfl) pd_int rfl rfl) (cm2000 z3 z2)))
      (pda_cons (pd_mul (pd_ixT (j := 1) (v_ 0 rfl) pd_int rfl rfl) (pd_ixT (j := 1) (v_ 1 rfl) pd_int rfl rfl) (cm2000 z2 z4)) pda_nil)) ⟨rfl, _, _, Int.mul_pos hb hb', lt_pow (wide_lt z2 z4) (by decide), rfl, rfl⟩) ⟨rfl, same_om⟩)
def S_is_less : FSp := pure_ fun ds d => ∃ a b a' b' : Int, 0 < b ∧ 0 < b' ∧ (a.natAbs < 2 ^ 2000 ∧ b.natAbs < 2 ^ 2000 ∧ a'.natAbs < 2 ^ 2000 ∧ b'.natAbs < 2 ^ 2000) ∧ ds = [fr a b, fr a' b'] ∧ d = .b (decide (a * b' < a' * b))
theorem ok_is_less (F : FnP K "is_less" s_is_less f fd) (T : Tx K mg C) (G1 : Ok P w K mg base C "need_fraction" 3 ["thing"] S_need_fraction) : FnOk P w K mg base CX0 4 f fd ["one", "other"] (spF K C S_is_less) := by
  refine fnD F sc_is_less (fun ds ω d ω' h => ?_) (fun X ds ω d ω' hX hr h => ?_)
  · obtain ⟨_, a, b, a', b', _, _, _, rfl, _⟩ := h
    rfl
  · obtain ⟨cdv, A, outer, s, H, E, rfl⟩ := hX
    obtain ⟨rfl, a, b, a', b', hb, hb', ⟨z1, z2, z3, z4⟩, rfl, rfl⟩ := h
    refine psd_cons (ps1_drop (pd_ok G1 hr (by decide) (pda_cons (v_ 0 rfl) pda_nil) ⟨rfl, a, b, hb, rfl, rfl⟩) ?_)
    refine psd_cons (ps1_drop (pd_ok G1 hr (by decide) (pda_cons (v_ 1 rfl) pda_nil) ⟨rfl, a', b', hb', rfl, rfl⟩) ?_)
    exact psd_one (ps1_ret (pd_lt (pd_mul (pd_ixT (j := 0) (v_ 0 rfl) pd_int rfl rfl) (pd_ixT (j := 1) (v_ 1 rfl) pd_int rfl rfl) (cm2000 z1 z4)) (pd_mul (pd_ixT (j := 0) (v_ 1 rfl) pd_int rfl rfl) (pd_ixT (j := 1) (v_ 0 rfl) pd_int rfl rfl) (cm2000 z3 z2))) ⟨rfl, same_om⟩)
end
end FW
set_option Elab.async false
set_option linter.all false
set_option autoImplicit false
set_option maxRecDepth 100000
set_option maxHeartbeats 1000000
/-! F2: lots. -/
namespace FW
open PySem PySem.Spec PyProof.Rows L2
section
variable {P : Program} {w : World} {K : PySem.W.Frag} {mg : Str → Option Value} {base : Heap} {f : Addr} {fd : FuncData} {C : Addr}
def S_are_weights : FSp := pure_ fun ds d => ∃ (n : Nat) (g : Nat → Int), n ≤ 1000 ∧ (∀ k, k < n → 0 ≤ g k) ∧ ds = [vecD n g, .i (n : Int)] ∧ d = .b true
theorem ok_are_weights (F : FnP K "are_weights" s_are_weights f fd) (T : Tx K mg C) (G : Ok P w K mg base C "is_whole" 1 ["thing"] S_is_whole) : FnOk P w K mg base CX0 2 f fd ["thing", "many"] (spF K C S_are_weights) := by
  refine fnD F sc_are_weights (fun ds ω d ω' h => ?_) (fun X ds ω d ω' hX hr h => ?_)
  · obtain ⟨_, n, g, _, _, rfl, _⟩ := h
    rfl
  · obtain ⟨cdv, A, outer, s, H, E, rfl⟩ := hX
    obtain ⟨rfl, n, g, hn, hg, rfl, rfl⟩ := h
    have nd := sc_are_weights.nd
    refine psd_one (ps1_ret (pd_andT (q_isT T (v_ 0 rfl)) (pd_andT ((pd_eq (q_lenV T (v_ 0 rfl)) (v_ 1 rfl)).cast (by simp))
      (pd_and1 ((q_all (pf := fun _ => true) T (PDN.pd (pdn_lc1 (fun _ => .b true) 2 nd (blkOk_by (N := N_are_weights) (sc := defScope s_are_weights) (by decide +kernel)) (pid_gt (v_ 0 rfl)) hn
        (fun k hk _ _ _ _ _ ω1 => ?_)))).cast (by rw [show allN n (fun _ => true) = true from allN_iff.mpr fun _ _ => rfl]))))) ⟨rfl, same_om⟩)
    exact pd_andT (pd_ok G hr (by decide) (pda_cons (v_ 2 rfl) pda_nil) ⟨rfl, g k, rfl, rfl⟩) (pd_and1 ((pd_ge (m := g k) (n := 0) (v_ 2 rfl) pd_int).cast (by rw [decide_eq_true (hg k hk)])))
def S_is_lot : FSp := pure_ fun ds d => ∃ (n : Nat) (g : Nat → Int), 1 ≤ n ∧ n ≤ 25 ∧ (∀ k, k < n → 0 ≤ g k) ∧ 0 < sumN n g ∧ ds = [vecD n g] ∧ d = .b true
theorem ok_is_lot (F : FnP K "is_lot" s_is_lot f fd) (T : Tx K mg C) (G : Ok P w K mg base C "are_weights" 2 ["thing", "many"] S_are_weights) : FnOk P w K mg base CX0 3 f fd ["thing"] (spF K C S_is_lot) := by
  refine fnD F sc_is_lot (fun ds ω d ω' h => ?_) (fun X ds ω d ω' hX hr h => ?_)
  · obtain ⟨_, n, g, _, _, _, _, rfl, _⟩ := h
    rfl
  · obtain ⟨cdv, A, outer, s, H, E, rfl⟩ := hX
    obtain ⟨rfl, n, g, h1, hn, hg, hs, rfl, rfl⟩ := h
    have nd := sc_is_lot.nd
    obtain ⟨tm, mp⟩ := T.mp
    refine psd_cons (ps1_ifF (PDW.pt (pdw_orF (pdt_not (p := true) (pdt_val (q_isT T (v_ 0 rfl)))) (pdw_orF (pdt_not (p := true) (ω1 := ω') ?_) (pdw_or1 (pdt_not (p := true) (pdt_val (pd_ok G hr (by decide) (pda_cons (v_ 0 rfl) (pda_cons (q_lenV T (v_ 0 rfl)) pda_nil)) ⟨rfl, n, g, by omega, hg, rfl, rfl⟩))))))) ?_)
    · have e : (decide ((1 : Int) ≤ (n : Int)) && decide ((n : Int) ≤ 25)) = true := by
        rw [Bool.and_eq_true, decide_eq_true_eq, decide_eq_true_eq]
        omega
      rw [← e]
      exact pdt_chain (g := fun i j => decide (i ≤ j)) (g' := fun i j => decide (i ≤ j)) op_le op_le pd_int (q_lenV T (v_ 0 rfl)) (pd_glob (by rfl) mp)
    · exact psd_one (ps1_ret ((pd_gt (m := sumN n g) (n := 0) (q_sumV T (v_ 0 rfl)) pd_int).cast (by rw [decide_eq_true hs])) ⟨rfl, same_om⟩)
def S_need_lot : FSp := pure_ fun ds d => ∃ (n : Nat) (g : Nat → Int), 1 ≤ n ∧ n ≤ 25 ∧ (∀ k, k < n → 0 ≤ g k) ∧ 0 < sumN n g ∧ ds = [vecD n g] ∧ d = .no
theorem ok_need_lot (F : FnP K "need_lot" s_need_lot f fd) (T : Tx K mg C) (G : Ok P w K mg base C "is_lot" 3 ["thing"] S_is_lot) : FnOk P w K mg base CX0 4 f fd ["thing"] (spF K C S_need_lot) := by
  refine fnD F sc_need_lot (fun ds ω d ω' h => ?_) (fun X ds ω d ω' hX hr h => ?_)
  · obtain ⟨_, n, g, _, _, _, _, rfl, _⟩ := h
    rfl
  · obtain ⟨cdv, A, outer, s, H, E, rfl⟩ := hX
    obtain ⟨rfl, n, g, h1, hn, hg, hs, rfl, rfl⟩ := h
    exact psd_one (ps1_ifF (pdt_not (p := true) (pdt_val (pd_ok G hr (by decide) (pda_cons (v_ 0 rfl) pda_nil) ⟨rfl, n, g, h1, hn, hg, hs, rfl, rfl⟩))) ⟨rfl, same_om⟩)
def S_need_two : FSp := pure_ fun ds d => ∃ (n : Nat) (g h : Nat → Int), 1 ≤ n ∧ n ≤ 25 ∧ (∀ k, k < n → 0 ≤ g k) ∧ 0 < sumN n g ∧ (∀ k, k < n → 0 ≤ h k) ∧ 0 < sumN n h ∧ ds = [vecD n g, vecD n h] ∧ d = .no
theorem ok_need_two (F : FnP K "need_two" s_need_two f fd) (T : Tx K mg C) (G : Ok P w K mg base C "need_lot" 4 ["thing"] S_need_lot) : FnOk P w K mg base CX0 5 f fd ["one", "other"] (spF K C S_need_two) := by
  refine fnD F sc_need_two (fun ds ω d ω' h => ?_) (fun X ds ω d ω' hX hr h => ?_)
  · obtain ⟨_, n, g, h, _, _, _, _, _, _, rfl, _⟩ := h
    rfl
  · obtain ⟨cdv, A, outer, s, H, E, rfl⟩ := hX
    obtain ⟨rfl, n, g, h, h1, hn, hg, hs, hg2, hs2, rfl, rfl⟩ := h
    refine psd_cons (ps1_drop (pd_ok G hr (by decide) (pda_cons (v_ 0 rfl) pda_nil) ⟨rfl, n, g, h1, hn, hg, hs, rfl, rfl⟩) ?_)
    refine psd_cons (ps1_drop (pd_ok G hr (by decide) (pda_cons (v_ 1 rfl) pda_nil) ⟨rfl, n, h, h1, hn, hg2, hs2, rfl, rfl⟩) ?_)
    have e : (!decide ((n : Int) = (n : Int))) = false := by simp
    refine psd_one (ps1_ifF ?_ ⟨rfl, same_om⟩)
    rw [← e]
    exact pdt_ne (q_lenV T (v_ 0 rfl)) (q_lenV T (v_ 1 rfl))
/-- the greatest number that divides all of f 0 .. -/
def gcdN (n : Nat) (g : Nat → Int) : Int := (List.range n).foldl (fun z k => gcdI z (g k)) 0
theorem gcdN_succ (n : Nat) (g : Nat → Int) : gcdN (n + 1) g = gcdI (gcdN n g) (g n) := by
  unfold gcdN
  rw [List.range_succ, List.foldl_append]
  rfl
def S_common_of : FSp := pure_ fun ds d => ∃ (n : Nat) (g : Nat → Int), ds = [vecD n g] ∧ d = .i (gcdN n g)
theorem ok_common_of (F : FnP K "common_of" s_common_of f fd) (T : Tx K mg C) (G : Ok P w K mg base C "common" 1 ["one", "other"] S_common) : FnOk P w K mg base CX0 2 f fd ["numbers"] (spF K C S_common_of) := by
  refine fnD F sc_common_of (fun ds ω d ω' h => ?_) (fun X ds ω d ω' hX hr h => ?_)
  · obtain ⟨_, n, g, rfl, _⟩ := h
    rfl
  · obtain ⟨cdv, A, outer, s, H, E, rfl⟩ := hX
    obtain ⟨rfl, n, g, rfl, rfl⟩ := h
    have nd := sc_common_of.nd
    refine psd_cons (ps1_set 1 nd rfl (.inl rfl) pd_int ?_)
    refine psd_cons (ps1_for1 2 (fun k δ ω2 => ω2 = ω' ∧ ∃ y, δ = [some (vecD n g), some (.i (gcdN k g)), y]) nd rfl (.inl rfl) PassesOwn.never (pid_gt (v_ 0 rfl)) ⟨rfl, _, rfl⟩ ?_ ?_)
    · rintro k hk δ ω2 ⟨rfl, y, rfl⟩
      refine psd_one (ps1_set 1 nd rfl (.inl rfl) (pd_ok G hr (by decide) (pda_cons (v_ 1 rfl) (pda_cons (v_ 2 rfl) pda_nil)) ⟨rfl, _, _, rfl, rfl⟩) ⟨rfl, some (.i (g k)), ?_⟩)
      rw [gcdN_succ]
      rfl
    · rintro δ ω2 ⟨rfl, y, rfl⟩
      exact psd_one (ps1_ret (v_ 1 rfl) ⟨rfl, same_om⟩)
def S_least_of : FSp := pure_ fun ds d => ∃ (n : Nat) (g : Nat → Int), n ≤ 1000 ∧ 0 < gcdN n g ∧ (gcdN n g).natAbs < 2 ^ 8000 ∧ ds = [vecD n g] ∧ d = vecD n fun k => g k / gcdN n g
theorem ok_least_of (F : FnP K "least_of" s_least_of f fd) (T : Tx K mg C) (G : Ok P w K mg base C "common_of" 2 ["numbers"] S_common_of) : FnOk P w K mg base CX0 3 f fd ["lot"] (spF K C S_least_of) := by
  refine fnD F sc_least_of (fun ds ω d ω' h => ?_) (fun X ds ω d ω' hX hr h => ?_)
  · obtain ⟨_, n, g, _, _, _, rfl, _⟩ := h
    rfl
  · obtain ⟨cdv, A, outer, s, H, E, rfl⟩ := hX
    obtain ⟨rfl, n, g, hn, h0, hz, rfl, rfl⟩ := h
    have nd := sc_least_of.nd
    refine psd_cons (ps1_set 1 nd rfl (.inr rfl) (pd_ok G hr (by decide) (pda_cons (v_ 0 rfl) pda_nil) ⟨rfl, n, g, rfl, rfl⟩) ?_)
    refine psd_one (ps1_ret (q_tupL T (PDN.pd (pdn_lc1 (fun k => .i (g k / gcdN n g)) 2 nd (blkOk_by (N := N_least_of) (sc := defScope s_least_of) (by decide +kernel)) (pid_gt (v_ 0 rfl)) hn
      (fun k hk _ _ _ _ _ ω1 => pd_fdiv (v_ 2 rfl) (v_ 1 rfl) (wide_div h0 hz (by decide) (by decide)))))) ⟨rfl, same_om⟩)
end
end FW
set_option Elab.async false
set_option linter.all false
set_option autoImplicit false
set_option maxRecDepth 100000
set_option maxHeartbeats 1000000
/-! F3: walks. -/
namespace FW
open PySem PySem.Spec PyProof.Rows L2
section
variable {P : Program} {w : World} {K : PySem.W.Frag} {mg : Str → Option Value} {base : Heap} {f : Addr} {fd : FuncData} {C : Addr}
def S_are_rows : FSp := pure_ fun ds d => ∃ (n : Nat) (r : Nat → Nat → Int) (z : Int), 1 ≤ n ∧ n ≤ 25 ∧ (∀ x y, x < n → y < n → 0 ≤ r x y) ∧ (∀ x, x < n → sumN n (r x) = z) ∧ 0 < z ∧ ds = [matD n r] ∧ d = .b true
theorem ok_are_rows (F : FnP K "are_rows" s_are_rows f fd) (T : Tx K mg C) (G : Ok P w K mg base C "are_weights" 2 ["thing", "many"] S_are_weights) : FnOk P w K mg base CX0 3 f fd ["thing"] (spF K C S_are_rows) := by
  refine fnD F sc_are_rows (fun ds ω d ω' h => ?_) (fun X ds ω d ω' hX hr h => ?_)
  · obtain ⟨_, n, r, z, _, _, _, _, _, rfl, _⟩ := h
    rfl
  · obtain ⟨cdv, A, outer, s, H, E, rfl⟩ := hX
    obtain ⟨rfl, n, r, z, h1, hn, hg, hs, hz, rfl, rfl⟩ := h
    have nd := sc_are_rows.nd
    obtain ⟨tm, mp⟩ := T.mp
    have bok := fun scope own h => @blkOk_by N_are_rows (defScope s_are_rows) scope own h
    refine psd_cons (ps1_ifF (PDW.pt (pdw_orF (pdt_not (p := true) (pdt_val (q_isT T (v_ 0 rfl)))) (pdw_or1 (pdt_not (p := true) (ω1 := ω') ?_)))) ?_)
    · have e : (decide ((1 : Int) ≤ (n : Int)) && decide ((n : Int) ≤ 25)) = true := by
        rw [Bool.and_eq_true, decide_eq_true_eq, decide_eq_true_eq]
        omega
      rw [← e]
      exact pdt_chain (g := fun i j => decide (i ≤ j)) (g' := fun i j => decide (i ≤ j)) op_le op_le pd_int (q_lenV T (v_ 0 rfl)) (pd_glob (by rfl) mp)
    refine psd_cons (ps1_ifF (pdt_not (p := true) (pdt_val (PD.cast (q_all (pf := fun _ => true) T (PDN.pd (pdn_lc1 (fun _ => .b true) 1 nd (bok _ _ (by decide +kernel)) (pid_gt (v_ 0 rfl)) (by omega)
        (fun k hk _ _ _ _ _ ω1 => ?_)))) (by rw [show allN n (fun _ => true) = true from allN_iff.mpr fun _ _ => rfl])))) ?_)
    · exact pd_ok G hr (by decide) (pda_cons (v_ 1 rfl) (pda_cons (q_lenV T (v_ 0 rfl)) pda_nil)) ⟨rfl, n, r k, by omega, fun y hy => hg k y hk hy, rfl, rfl⟩
    refine psd_cons (ps1_lc1 (fun k => .i (sumN n (r k))) 2 1 nd rfl rfl (sw_true rfl rfl rfl (by decide +kernel)) (bok _ _ (by decide +kernel)) (pid_gt (v_ 0 rfl)) (by omega) (fun k hk _ _ _ _ _ ω1 => q_sumV T (v_ 1 rfl)) ?_)
    refine psd_one (ps1_ret (pd_andT (PD.cast (pd_gt (m := sumN n (r 0)) (n := 0) (q_ixL (g := fun k => .i (sumN n (r k))) (k := 0) (v_ 2 rfl) pd_int rfl (by omega)) pd_int) (by rw [hs 0 (by omega), decide_eq_true hz]))
      (pd_and1 (PD.cast (pd_eq (m := z) (n := z) (q_minL T (v_ 2 rfl) ⟨0, by omega, hs 0 (by omega)⟩ (fun k hk => Int.le_of_eq (hs k hk).symm)) (q_maxL T (v_ 2 rfl) ⟨0, by omega, hs 0 (by omega)⟩ (fun k hk => Int.le_of_eq (hs k hk)))) (by simp)))) ⟨rfl, same_om⟩)
def S_need_steps : FSp := pure_ fun ds d => ∃ k : Int, 0 ≤ k ∧ k ≤ 100 ∧ ds = [.i k, .i 0] ∧ d = .no
theorem ok_need_steps {kws : List (Str × V)} (F : FunD K "need_steps" "need_steps" (defArgs s_need_steps) (defBody s_need_steps) (defScope s_need_steps) [] kws f fd) (T : Tx K mg C) (G : Ok P w K mg base C "is_from_to" 2 ["thing", "low", "high"] S_is_from_to) : FnOk P w K mg base CX0 3 f fd ["steps", "fewest"] (spF K C S_need_steps) := by
  refine fnD F sc_need_steps (fun ds ω d ω' h => ?_) (fun X ds ω d ω' hX hr h => ?_)
  · obtain ⟨_, k, _, _, rfl, _⟩ := h
    rfl
  · obtain ⟨cdv, A, outer, s, H, E, rfl⟩ := hX
    obtain ⟨rfl, k, h0, h1, rfl, rfl⟩ := h
    obtain ⟨tm, ms⟩ := T.ms
    refine psd_one (ps1_ifF (pdt_not (p := true) (pdt_val (pd_ok G hr (by decide) (pda_cons (v_ 0 rfl) (pda_cons (v_ 1 rfl) (pda_cons (pd_glob (by rfl) ms) pda_nil))) ⟨rfl, k, 0, 100, rfl, ?_⟩))) ⟨rfl, same_om⟩)
    rw [decide_eq_true h0, decide_eq_true h1]
    rfl
/-- the weights after a step -/
def stp (n : Nat) (r : Nat → Nat → Int) (g : Nat → Int) : Nat → Int := fun y => sumN n fun x => g x * r x y
def S_stepped : FSp := pure_ fun ds d => ∃ (n : Nat) (r : Nat → Nat → Int) (g : Nat → Int), n ≤ 1000 ∧ (∀ x, x < n → 0 ≤ g x) ∧ (∀ x y, x < n → y < n → (r x y).natAbs < 2 ^ 64) ∧ ds = [matD n r, vecD n g] ∧ d = vecD n (stp n r g)
theorem cm64 {x y : Int} (hy : y.natAbs < 2 ^ 64) : CMul x y := .inr (by omega)
theorem ok_stepped (F : FnP K "stepped" s_stepped f fd) (T : Tx K mg C) : FnOk P w K mg base CX0 1 f fd ["rows", "weights"] (spF K C S_stepped) := by
  refine fnD F sc_stepped (fun ds ω d ω' h => ?_) (fun X ds ω d ω' hX hr h => ?_)
  · obtain ⟨_, n, r, g, _, _, _, rfl, _⟩ := h
    rfl
  · obtain ⟨cdv, A, outer, s, H, E, rfl⟩ := hX
    obtain ⟨rfl, n, r, g, hn, hg, hz, rfl, rfl⟩ := h
    have nd := sc_stepped.nd
    have bok := fun scope own h => @blkOk_by N_stepped (defScope s_stepped) scope own h
    refine psd_cons (ps1_set 2 nd rfl (.inl rfl) (PDN.pd ((pdn_rep1 (q_lenV T (v_ 0 rfl)) (by omega) (by omega)))) ?_)
    refine psd_cons (ps1_for2 3 4 (fun k δ ω2 => ω2 = ω' ∧ ∃ y z u v, δ = [some (matD n r), some (vecD n g), some (.l (gen n fun y => .i (sumN k fun x => g x * r x y))), y, z, u, v]) nd rfl (.inr rfl) rfl (.inl rfl) PassesOwn.never (q_zip false false T (v_ 1 rfl) (v_ 0 rfl)) ⟨rfl, none, none, none, none, rfl⟩ ?_ ?_)
    · rintro k hk δ ω2 ⟨rfl, y, z, u, v, rfl⟩
      refine psd_one (ps1_if (p := decide (0 < g k)) (pdt_gt (v_ 3 rfl) pd_int) (fun ht => ?_) (fun hf => ?_))
      · refine psd_one (ps1_lc2 (fun y => .i (sumN (k + 1) fun x => g x * r x y)) 2 5 6 nd rfl rfl (sw_true rfl rfl rfl (by decide +kernel)) (bok _ _ (by decide +kernel)) (q_zip true false T (v_ 2 rfl) (v_ 4 rfl)) hn (fun j hj _ _ _ _ _ ω1 => ?_) ⟨rfl, _, _, _, _, rfl⟩)
        rw [sumN_succ]
        exact pd_add (v_ 5 rfl) (pd_mulS (v_ 3 rfl) (v_ 6 rfl) (cm64 (hz k j hk hj)))
      · have e : g k = 0 := by
          have h1 := hg k hk
          have h2 : ¬ 0 < g k := of_decide_eq_false hf
          omega
        refine psd_nil ⟨rfl, some (.i (g k)), some (vecD n (r k)), u, v, ?_⟩
        have e2 : (gen n fun y => D.i (sumN (k + 1) fun x => g x * r x y)) = gen n fun y => D.i (sumN k fun x => g x * r x y) := gen_congr fun y _ => by
          rw [sumN_succ, e, Int.zero_mul, Int.add_zero]
        rw [e2]
        rfl
    · rintro δ ω2 ⟨rfl, y, z, u, v, rfl⟩
      exact psd_one (ps1_ret (q_tupL T (v_ 2 rfl)) ⟨rfl, same_om⟩)
/-! ### the class -/
def spWinit (K : PySem.W.Frag) (C : Addr) : Sp := fun vs H Q _ => ∃ (x dx : Addr) (v : V) (n : Nat) (r : Nat → Nat → Int) (z : Int) (Hk : Hp) (ω : Om), vs = [.ref x, v] ∧ ω x = some (.raw (.ins C dx [])) ∧ Wf K C Hk H ω ∧ Rep K C Hk v (matD n r) ∧
  (1 ≤ n ∧ n ≤ 25 ∧ (∀ x y, x < n → y < n → 0 ≤ r x y) ∧ (∀ x, x < n → sumN n (r x) = z) ∧ 0 < z) ∧ ∀ Hk' H', Same Hk Hk' → Wf K C Hk' H' (delO ω x) → Rep K C Hk' (.ref x) (.w (matD n r) z) → Q .non H'
theorem wrw : ¬ (("rows" : Str) = "whole") := by decide +kernel
theorem wra : ¬ (("rows" : Str) = "after") := by decide +kernel
theorem wwa : ¬ (("whole" : Str) = "after") := by decide +kernel
theorem ok_Winit (F : FunD K "__init__" "Walk.__init__" (defArgs s_Winit) (defBody s_Winit) (defScope s_Winit) [] [] f fd) (T : Tx K mg C) (G : Ok P w K mg base C "are_rows" 3 ["thing"] S_are_rows) : FnOk P w K mg base CX0 4 f fd ["self", "rows"] (spWinit K C) := by
  refine F.ok sc_Winit (fun vs H Q E h => ?_) (fun cdv A outer s H vs Q E hr h => ?_)
  · obtain ⟨x, dx, v, n, r, z, Hk, ω, rfl, _⟩ := h
    rfl
  · obtain ⟨x, dx, v, n, r, z, Hk, ω, rfl, hx, w0, rv, ⟨h1, hn, hg, hs, hz⟩, q⟩ := h
    have nd := sc_Winit.nd
    refine ⟨_, PSs.nox (pss_cons ps_w (pss_cons (ps_fld (pv 0) (pv 1) rfl) (pss_one (ps_fld (pv 0) pe_w rfl)))), ?_⟩
    refine PS1.run (C := C) (δ := [some (.adr x), some (matD n r)]) (ω := ω) (N := fun δ' ω' => δ' = [some (.adr x), some (matD n r)] ∧ ω' = ω) (R := fun _ _ => False) (ps1_ifF (pdt_not (p := true) (pdt_val (pd_ok G hr (by decide) (pda_cons (v_ 1 rfl) pda_nil) ⟨rfl, n, r, z, h1, hn, hg, hs, hz, rfl, rfl⟩))) ⟨rfl, rfl⟩)
      w0 (envR_start (ds := [.adr x, matD n r]) N_Winit (.cons (.adr x) (.one rv))) ?_ (fun _ _ _ _ _ h => h.elim)
    rintro δ' ω' σ1 Hk1 H1 ⟨rfl, rfl⟩ s1 w1 e1
    obtain ⟨v0, g0, r0⟩ := e1.at_ 0 _ rfl
    obtain ⟨v1, g1, r1⟩ := e1.at_ 1 _ rfl
    obtain ⟨hk1, ho, hH1, hr1⟩ := w1.own x _ hx
    cases hr1.raw_inv
    refine ⟨v1, g1, v0, g0, x, C, dx, [], r0.adr_inv, hH1, T.cl, T.nR, (by show 0 < 1000; decide), ?_⟩
    have w2 := w1.mut (ho := .ins C dx (putF "rows" v1 [])) (o := .raw (.ins C dx (putF "rows" v1 []))) hx ⟨rfl, fun _ z => nomatch z⟩
    refine PD.run (C := C) (δ := [some (.adr x), some (matD n r)]) (d := .i (sumN n (r 0))) (q_sumV T (q_ixT (g := fun k => vecD n (r k)) (k := 0) (v_ 1 rfl) pd_int rfl (by omega))) w2 e1 ?_
    intro u Hk3 H3 s3 w3 r3
    obtain ⟨hk3, ho3, hH3, hr3⟩ := w3.own x _ updO_same
    cases hr3.raw_inv
    refine ⟨v0, g0, x, C, dx, _, r0.adr_inv, hH3, T.cl, T.nW, (by show 1 < 1000; decide), ?_⟩
    have w4 := w3.mut (ho := .ins C dx (putF "whole" u (putF "rows" v1 []))) (o := .raw (.ins C dx (putF "whole" u (putF "rows" v1 [])))) updO_same ⟨rfl, fun _ z => nomatch z⟩
    rw [updO_updO] at w4
    obtain ⟨w5, s5⟩ := w4.learn updO_same upd_same
    refine q _ _ (s1.trans (s3.trans s5)) (w5.drop fun a o e => ?_) (.wlk (r := v1) upd_same ?_ ?_ ?_ ((r1.mono s3).mono s5))
    · unfold delO updO at *
      by_cases z : a = x
      · rw [if_pos z] at e
        cases e
      · rw [if_neg z] at e ⊢
        rw [if_neg z]
        exact e
    · rw [lookup_putF, if_neg wrw, lookup_putF, if_pos rfl]
    · rw [lookup_putF, if_pos rfl, r3.i_inv, hs 0 (by omega)]
    · rw [lookup_putF, if_neg (fun z => wwa z.symm), lookup_putF, if_neg (fun z => wra z.symm)]
      rfl
end
end FW
set_option Elab.async false
set_option linter.all false
set_option autoImplicit false
set_option maxRecDepth 100000
set_option maxHeartbeats 1000000
/-! F4: walks, the rest. -/
namespace FW
open PySem PySem.Spec PyProof.Rows L2
section
variable {P : Program} {w : World} {K : PySem.W.Frag} {mg : Str → Option Value} {base : Heap} {f : Addr} {fd : FuncData} {C : Addr}
def S_Wlen : FSp := pure_ fun ds d => ∃ (n : Nat) (g : Nat → D) (z : Int), ds = [.w (.t (gen n g)) z] ∧ d = .i (n : Int)
theorem ok_Wlen (F : FunD K "__len__" "Walk.__len__" (defArgs s_Wlen) (defBody s_Wlen) (defScope s_Wlen) [] [] f fd) (T : Tx K mg C) : FnOk P w K mg base CX0 1 f fd ["self"] (spF K C S_Wlen) := by
  refine fnD F sc_Wlen (fun ds ω d ω' h => ?_) (fun X ds ω d ω' hX hr h => ?_)
  · obtain ⟨_, n, g, z, rfl, _⟩ := h
    rfl
  · obtain ⟨cdv, A, outer, s, H, E, rfl⟩ := hX
    obtain ⟨rfl, n, g, z, rfl, rfl⟩ := h
    exact psd_one (ps1_ret (q_lenV T (pd_rows (v_ 0 rfl) T.cl T.nR)) ⟨rfl, same_om⟩)
/-- len(walk), where __len__ stands as it should -/
structure OkL (P : Program) (w : World) (K : PySem.W.Frag) (mg : Str → Option Value) (base : Heap) (C : Addr) : Prop where
  ex : ∃ f fd, Meth K C "__len__" f ∧ Binds K fd ["self"] [] ∧ FnOk P w K mg base CX0 1 f fd ["self"] (spF K C S_Wlen)
/-- need_steps(k), the default of fewest with it -/
structure OkS (P : Program) (w : World) (K : PySem.W.Frag) (mg : Str → Option Value) (base : Heap) (C : Addr) : Prop where
  ex : ∃ f fd dvs, mg "need_steps" = some (.ref f) ∧ PySem.W.keepIn K (.ref f) = true ∧ Binds K fd ["steps", "fewest"] dvs ∧ Vals [V.int 0] dvs ∧ FnOk P w K mg base CX0 3 f fd ["steps", "fewest"] (spF K C S_need_steps)
/-- a def with keyword-only steps, always written -/
structure OkK (P : Program) (w : World) (K : PySem.W.Frag) (mg : Str → Option Value) (base : Heap) (C : Addr) (x : Str) (k : Nat) (ps : List Str) (nn : Nat) (g : FSp) : Prop where
  ex : ∃ f fd, mg x = some (.ref f) ∧ PySem.W.keepIn K (.ref f) = true ∧ KBn K fd ps nn ["steps"] (fun us ws => us ++ ws) (fun us ws => us ++ ws) ∧ FnOk P w K mg base CX0 k f fd ps (spF K C g)
structure OkM (P : Program) (w : World) (K : PySem.W.Frag) (mg : Str → Option Value) (base : Heap) (C : Addr) (x : Str) (k : Nat) (ps : List Str) (nn : Nat) (g : FSp) : Prop where
  ex : ∃ f fd, Meth K C x f ∧ KBn K fd ps (nn + 1) ["steps"] (fun us ws => us ++ ws) (fun us ws => us ++ ws) ∧ FnOk P w K mg base CX0 k f fd ps (spF K C g)
structure OkI (P : Program) (w : World) (K : PySem.W.Frag) (mg : Str → Option Value) (base : Heap) (C : Addr) : Prop where
  ex : ∃ f fd, Mk K C f ∧ Binds K fd ["self", "rows"] [] ∧ FnOk P w K mg base CX0 4 f fd ["self", "rows"] (spWinit K C)
section
variable {X : Cx} {C : Addr} {δ : Env} {ω ω1 ω2 ω3 : Om} {a b c e o : Expr} {pos p apos kpos : Pos} {d da db : D} {m : Int} {n j : Nat} {g : Nat → D}
theorem q_lenW (T : Tx X.K X.mg C) (L : OkL X.prog X.w X.K X.mg X.base C) (hr : Room j X.A) (hj : 2 ≤ j) (ha : PD X C a δ ω (.w (.t (gen n g)) m) ω1) (hz : n ≤ 1000) (hg : Gl X "len" := by rfl) (hs : starEach [a] X.env = (false, eval a X.env) :: starEach [] X.env := by rfl) (hpl : (backTo pos (starEach [] X.env)).any (·.1) = false := by rfl) : PD X C (.Call (.Name "len" p) [a] [] pos) δ ω (.i (n : Int)) ω1 := by
  obtain ⟨f, fd, M, hb, hF⟩ := L.ex
  exact pd_lenW hg T.len boot_len_ M hF (hr.mono hj) hb ha ⟨rfl, n, g, m, rfl, rfl⟩ (by omega) (hs := hs) (hpl := hpl)
theorem q_needS (S : OkS X.prog X.w X.K X.mg X.base C) (hr : Room j X.A) (hj : 3 ≤ j) (ha : PD X C a δ ω (.i m) ω1) (h0 : 0 ≤ m) (h1 : m ≤ 100) (hg : Gl X "need_steps" := by rfl) (hs : starEach [a] X.env = (false, eval a X.env) :: starEach [] X.env := by rfl) (hpl : (backTo pos (starEach [] X.env)).any (·.1) = false := by rfl) : PD X C (.Call (.Name "need_steps" p) [a] [] pos) δ ω .no ω1 := by
  obtain ⟨f, fd, dvs, hm, hk, hb, hd, hF⟩ := S.ex
  exact pd_callD hF (hr.mono hj) hg hm hk hb hd (pda_cons ha pda_nil hs) ⟨rfl, m, h0, h1, rfl, rfl⟩ (by decide +kernel) hs hpl
theorem q_kw {k nn : Nat} {x : Str} {ps : List Str} {gg : FSp} {es : List Expr} {ds : List D} (F : OkK X.prog X.w X.K X.mg X.base C x k ps nn gg) (hr : Room j X.A) (hj : k ≤ j) (ha : PDA X C (e :: es) δ ω ds ω1) (hb : PD X C b δ ω1 db ω2) (h : gg (ds ++ [db]) ω2 d ω3) (l1 : ds.length = nn) (hg : Gl X x := by rfl)
    (hall : (backToKw pos (keywordEach [⟨some "steps", b, kpos⟩] X.env)).all (·.1.isSome) = true := by rfl) (hks : (backToKw pos (keywordEach [⟨some "steps", b, kpos⟩] X.env)).filterMap (·.1) = (["steps"] : List Str) := by rfl)
    (hdb : (x == ("__debug__" : Str)) = false := by decide) (he : starEach (e :: es) X.env = (false, eval e X.env) :: starEach es X.env := by rfl)
    (hpl : ((backTo pos (starEach (e :: es) X.env)).any (·.1) || (backToKw pos (keywordEach [⟨some "steps", b, kpos⟩] X.env)).any (·.1.isNone)) = false := by rfl) : PD X C (.Call (.Name x p) (e :: es) [⟨some "steps", b, kpos⟩] pos) δ ω d ω3 := by
  obtain ⟨f, fd, hm, hk, hbn, hF⟩ := F.ex
  exact pd_callK hF (hr.mono hj) hg hm hk hbn ha (pdk_cons hb pdk_nil) h l1 rfl hall hks hdb he hpl
/-- o.x(e, .., steps = b) -/
theorem q_mkw {k nn : Nat} {x : Str} {ps : List Str} {gg : FSp} {es : List Expr} {ds : List D} {pl : Sem Bool} (cl : Cls X.K C) (hx : x = "after") (F : OkM X.prog X.w X.K X.mg X.base C x k ps nn gg) (hr : Room j X.A) (hj : k ≤ j) (ho : PD X C o δ ω (.w da m) ω) (ha : PDA X C (e :: es) δ ω ds ω1) (hb : PD X C b δ ω1 db ω2) (h : gg (.w da m :: ds ++ [db]) ω2 d ω3) (l1 : ds.length = nn)
    (hall : (backToKw pos (keywordEach [⟨some "steps", b, kpos⟩] X.env)).all (·.1.isSome) = true := by rfl) (hks : (backToKw pos (keywordEach [⟨some "steps", b, kpos⟩] X.env)).filterMap (·.1) = (["steps"] : List Str) := by rfl)
    (he : starEach (e :: es) X.env = (false, eval e X.env) :: starEach es X.env := by rfl)
    (hpl : ((backTo pos (starEach (e :: es) X.env)).any (·.1) || (backToKw pos (keywordEach [⟨some "steps", b, kpos⟩] X.env)).any (·.1.isNone)) = false := by rfl)
    (ht : eval (.Call (.Attribute o x apos) (e :: es) [⟨some "steps", b, kpos⟩] pos) X.env = (do
      let ov ← eval o X.env
      standAt apos.atName
      let (f, first) ← holding [ov] (getMethod ov x pl)
      callWith pos f first (backTo pos (starEach (e :: es) X.env)) (backToKw pos (keywordEach [⟨some "steps", b, kpos⟩] X.env))) := by rfl) : PD X C (.Call (.Attribute o x apos) (e :: es) [⟨some "steps", b, kpos⟩] pos) δ ω d ω3 := by
  obtain ⟨f, fd, hm, hbn, hF⟩ := F.ex
  intro σ Hk H w er Q k
  refine wE_of (pe_methK (E := E0) pe_w cl hm hF (hr.mono hj) hbn pass0 pa_w pk_w hall hks he hpl ht) ?_
  refine ho σ Hk H w er _ fun v Hk1 H1 s1 w1 r1 => ?_
  have r1' := r1
  cases r1 with
  | wlk h0 h1 h2 h3 hr0 =>
    refine ⟨_, _, _, rfl, w1.same _ _ h0, by rw [hx]; exact h3, ?_⟩
    refine ha σ Hk1 H1 w1 (er.mono s1) _ fun vs Hk2 H2 s2 w2 r2 => pdk_cons hb pdk_nil σ Hk2 H2 w2 (er.mono (s1.trans s2)) _ fun zs Hk3 H3 s3 w3 r3 => ?_
    exact ⟨r2.len.trans l1, r3.len.trans rfl, _, ω2, d, ω3, Hk3, h, w3, (RepL.app (.cons ((r1'.mono s2).mono s3) (r2.mono s3)) r3), fun v Hk4 H4 s4 w4 r4 => k v Hk4 H4 (s1.trans (s2.trans (s3.trans s4))) w4 r4⟩
/-- Walk(rows) -/
theorem q_make {r : Nat → Nat → Int} {z : Int} (T : Tx X.K X.mg C) (I : OkI X.prog X.w X.K X.mg X.base C) (hr : Room j X.A) (hj : 5 ≤ j) (ha : PD X C a δ ω (matD n r) ω1) (hc : 1 ≤ n ∧ n ≤ 25 ∧ (∀ x y, x < n → y < n → 0 ≤ r x y) ∧ (∀ x, x < n → sumN n (r x) = z) ∧ 0 < z) (hg : Gl X "Walk" := by rfl)
    (he : starEach [a] X.env = (false, eval a X.env) :: starEach [] X.env := by rfl) (hpl : (backTo pos (starEach [] X.env)).any (·.1) = false := by rfl) : PD X C (.Call (.Name "Walk" p) [a] [] pos) δ ω (.w (matD n r) z) ω1 := by
  obtain ⟨f, fd, M, hb, hF⟩ := I.ex
  intro σ Hk H w er Q k
  refine wE_of (pe_make (E := E0) M hF (hr.mono hj) hg T.mC hb .nil pass0 pa_w (by decide +kernel) he hpl) ?_
  refine pda_cons ha pda_nil he σ Hk H w er _ fun vs Hk1 H1 s1 w1 r1 => ?_
  cases r1 with
  | cons r1 rr =>
    cases rr
    intro x dx nx ndx ne
    have w2 := w1.dead (ho := .own x) ndx
    have nx2 : (upd H1 dx (.own x)) x = none := by
      rw [upd_ne (fun q => ne q.symm)]
      exact nx
    have w3 := w2.alloc (ho := .ins C dx []) (o := .raw (.ins C dx [])) nx2 ⟨rfl, fun _ z => nomatch z⟩
    refine ⟨x, dx, _, n, r, z, Hk1, updO ω1 x (.raw (.ins C dx [])), rfl, updO_same, w3, r1, hc, fun Hk4 H4 s4 w4 r4 => ⟨rfl, ?_⟩⟩
    rw [delO_updO (w1.fresh nx).2] at w4
    exact k _ Hk4 H4 (s1.trans s4) w4 r4
end
def itr (n : Nat) (r : Nat → Nat → Int) (g : Nat → Int) : Nat → Nat → Int
  | 0 => g
  | k + 1 => stp n r (itr n r g k)
theorem stp_nn {n : Nat} {r : Nat → Nat → Int} {g : Nat → Int} (hr : ∀ x y, x < n → y < n → 0 ≤ r x y) (hg : ∀ x, x < n → 0 ≤ g x) : ∀ y, y < n → 0 ≤ stp n r g y := by
  intro y hy
  unfold stp
  have : ∀ m, m ≤ n → 0 ≤ sumN m fun x => g x * r x y := by
    intro m
    induction m with
    | zero => intro _; exact Int.le_refl 0
    | succ m ih =>
      intro hm
      rw [sumN_succ]
      have h1 := ih (by omega)
      have h2 := Int.mul_nonneg (hg m (by omega)) (hr m y (by omega) hy)
      omega
  exact this n (Nat.le_refl _)
theorem itr_nn {n : Nat} {r : Nat → Nat → Int} {g : Nat → Int} (hr : ∀ x y, x < n → y < n → 0 ≤ r x y) (hg : ∀ x, x < n → 0 ≤ g x) : ∀ k y, y < n → 0 ≤ itr n r g k y
  | 0 => hg
  | k + 1 => stp_nn hr (itr_nn hr hg k)
def S_Wafter : FSp := pure_ fun ds d => ∃ (n : Nat) (r : Nat → Nat → Int) (z : Int) (g : Nat → Int) (k : Nat), 1 ≤ n ∧ n ≤ 25 ∧ (∀ x y, x < n → y < n → 0 ≤ r x y ∧ (r x y).natAbs < 2 ^ 64) ∧ (∀ x, x < n → 0 ≤ g x) ∧ 0 < sumN n g ∧ k ≤ 100 ∧ ds = [.w (matD n r) z, vecD n g, .i (k : Int)] ∧ d = vecD n (itr n r g k)
theorem ok_Wafter {kws : List (Str × V)} (F : FunD K "after" "Walk.after" (defArgs s_Wafter) (defBody s_Wafter) (defScope s_Wafter) [] kws f fd) (T : Tx K mg C) (G1 : Ok P w K mg base C "need_lot" 4 ["thing"] S_need_lot) (S : OkS P w K mg base C) (G2 : Ok P w K mg base C "stepped" 1 ["rows", "weights"] S_stepped) : FnOk P w K mg base CX0 5 f fd ["self", "lot", "steps"] (spF K C S_Wafter) := by
  refine fnD F sc_Wafter (fun ds ω d ω' h => ?_) (fun X ds ω d ω' hX hr h => ?_)
  · obtain ⟨_, n, r, z, g, k, _, _, _, _, _, _, rfl, _⟩ := h
    rfl
  · obtain ⟨cdv, A, outer, s, H, E, rfl⟩ := hX
    obtain ⟨rfl, n, r, z, g, k, h1, hn, hrr, hg, hs, hk, rfl, rfl⟩ := h
    have nd := sc_Wafter.nd
    refine psd_cons (ps1_drop (pd_ok G1 hr (by decide) (pda_cons (v_ 1 rfl) pda_nil) ⟨rfl, n, g, h1, hn, hg, hs, rfl, rfl⟩) ?_)
    have e : (!decide ((n : Int) = (n : Int))) = false := by simp
    refine psd_cons (ps1_ifF (ω1 := ω') (by rw [← e]; exact pdt_ne (q_lenV T (v_ 1 rfl)) (q_lenV T (pd_rows (v_ 0 rfl) T.cl T.nR))) ?_)
    refine psd_cons (ps1_drop (q_needS S hr (by decide) (v_ 2 rfl) (by omega) (by omega)) ?_)
    refine psd_cons (ps1_for1 3 (fun j δ ω2 => ω2 = ω' ∧ ∃ y, δ = [some (.w (matD n r) z), some (vecD n (itr n r g j)), some (.i (k : Int)), y]) nd rfl (.inl rfl) PassesOwn.never (q_range T (v_ 2 rfl) (by omega)) ⟨rfl, none, rfl⟩ ?_ ?_)
    · rintro j hj δ ω2 ⟨rfl, y, rfl⟩
      exact psd_one (ps1_set 1 nd rfl (.inl rfl) (pd_ok G2 hr (by decide) (pda_cons (pd_rows (v_ 0 rfl) T.cl T.nR) (pda_cons (v_ 1 rfl) pda_nil)) ⟨rfl, n, r, itr n r g j, by omega, itr_nn (fun x y hx hy => (hrr x y hx hy).1) hg j, fun x y hx hy => (hrr x y hx hy).2, rfl, rfl⟩) ⟨rfl, some (.i (j : Int)), rfl⟩)
    · rintro δ ω2 ⟨rfl, y, rfl⟩
      exact psd_one (ps1_ret (v_ 1 rfl) ⟨rfl, same_om⟩)
def S_is_place : FSp := pure_ fun ds d => ∃ (n : Nat) (g : Nat → D) (z : Int) (s : Nat), 1 ≤ n ∧ n ≤ 1000 ∧ s < n ∧ ds = [.w (.t (gen n g)) z, .i (s : Int)] ∧ d = .b true
theorem ok_is_place (F : FnP K "is_place" s_is_place f fd) (T : Tx K mg C) (G : Ok P w K mg base C "is_from_to" 2 ["thing", "low", "high"] S_is_from_to) : FnOk P w K mg base CX0 3 f fd ["walk", "thing"] (spF K C S_is_place) := by
  refine fnD F sc_is_place (fun ds ω d ω' h => ?_) (fun X ds ω d ω' hX hr h => ?_)
  · obtain ⟨_, n, g, z, s, _, _, _, rfl, _⟩ := h
    rfl
  · obtain ⟨cdv, A, outer, st, H, E, rfl⟩ := hX
    obtain ⟨rfl, n, g, z, s, h1, hn, hs, rfl, rfl⟩ := h
    refine psd_one (ps1_ret (pd_ok G hr (by decide) (pda_cons (v_ 1 rfl) (pda_cons pd_int (pda_cons (pd_sub (q_lenV T (pd_rows (v_ 0 rfl) T.cl T.nR)) pd_int) pda_nil))) ⟨rfl, s, 0, (n : Int) - 1, rfl, ?_⟩) ⟨rfl, same_om⟩)
    rw [decide_eq_true (by omega), decide_eq_true (by omega)]
    rfl
def S_need_place : FSp := pure_ fun ds d => ∃ (n : Nat) (g : Nat → D) (z : Int) (s : Nat), 1 ≤ n ∧ n ≤ 1000 ∧ s < n ∧ ds = [.w (.t (gen n g)) z, .i (s : Int)] ∧ d = .no
theorem ok_need_place (F : FnP K "need_place" s_need_place f fd) (T : Tx K mg C) (G : Ok P w K mg base C "is_place" 3 ["walk", "thing"] S_is_place) : FnOk P w K mg base CX0 4 f fd ["walk", "thing"] (spF K C S_need_place) := by
  refine fnD F sc_need_place (fun ds ω d ω' h => ?_) (fun X ds ω d ω' hX hr h => ?_)
  · obtain ⟨_, n, g, z, s, _, _, _, rfl, _⟩ := h
    rfl
  · obtain ⟨cdv, A, outer, st, H, E, rfl⟩ := hX
    obtain ⟨rfl, n, g, z, s, h1, hn, hs, rfl, rfl⟩ := h
    exact psd_one (ps1_ifF (pdt_not (p := true) (pdt_val (pd_ok G hr (by decide) (pda_cons (v_ 0 rfl) (pda_cons (v_ 1 rfl) pda_nil)) ⟨rfl, n, g, z, s, h1, hn, hs, rfl, rfl⟩))) ⟨rfl, same_om⟩)
end
end FW
set_option Elab.async false
set_option linter.all false
set_option autoImplicit false
set_option maxRecDepth 100000
set_option maxHeartbeats 1000000
/-! F5: ways. -/
namespace FW
open PySem PySem.Spec PyProof.Rows L2
/-- the places after x -/
def nx (n : Nat) (r : Nat → Nat → Int) (x : Nat) : List Nat := (List.range n).filter fun y => decide (0 < r x y)
def ups (ns : List Nat) : List Int := ns.map fun k : Nat => (k : Int)
def nxD (n : Nat) (r : Nat → Nat → Int) (x : Nat) : D := .l (genF n (fun y => decide (0 < r x y)) fun y => .i (y : Int))
theorem ups_mem {ns : List Nat} {y : Nat} : ((y : Int) ∈ ups ns) = (y ∈ ns) := by
  unfold ups
  rw [List.mem_map]
  refine propext ⟨fun ⟨z, hz, e⟩ => ?_, fun h => ⟨y, h, rfl⟩⟩
  have q : z = y := by
    have e' : (z : Int) = (y : Int) := e
    omega
  rw [← q]
  exact hz
section
variable {P : Program} {w : World} {K : PySem.W.Frag} {mg : Str → Option Value} {base : Heap} {f : Addr} {fd : FuncData} {C : Addr}
def S_nexts : FSp := pure_ fun ds d => ∃ (n : Nat) (r : Nat → Nat → Int) (z : Int), n ≤ 1000 ∧ ds = [.w (matD n r) z] ∧ d = .l (gen n (nxD n r))
theorem ok_nexts (F : FnP K "nexts" s_nexts f fd) (T : Tx K mg C) : FnOk P w K mg base CX0 1 f fd ["walk"] (spF K C S_nexts) := by
  refine fnD F sc_nexts (fun ds ω d ω' h => ?_) (fun X ds ω d ω' hX hr h => ?_)
  · obtain ⟨_, n, r, z, _, rfl, _⟩ := h
    rfl
  · obtain ⟨cdv, A, outer, s, H, E, rfl⟩ := hX
    obtain ⟨rfl, n, r, z, hn, rfl, rfl⟩ := h
    have nd := sc_nexts.nd
    have bok := fun scope own h => @blkOk_by N_nexts (defScope s_nexts) scope own h
    refine psd_one (ps1_ret (PDN.pd (pdn_lc1 (nxD n r) 1 nd (bok _ _ (by decide +kernel)) (pid_gt (pd_rows (v_ 0 rfl) T.cl T.nR)) (by omega) (fun k hk _ _ _ _ _ ω1 => ?_))) ⟨rfl, same_om⟩)
    refine PDN.pd (pdn_lc2F (u := fun y => .i (y : Int)) (v := fun y => .i (r k y)) (fun y => decide (0 < r k y)) (fun y => .i (y : Int)) 2 3 nd (@blkOk_by N_nexts (relS _ (defScope s_nexts)) _ _ (by decide +kernel)) (q_enumT T (v_ 1 rfl)) hn (fun j hj _ _ _ _ _ ω2 => pdt_gt (v_ 3 rfl) pd_int) (fun j hj hp _ _ _ _ _ ω2 => v_ 2 rfl))
theorem ups_len (ns : List Nat) : (ups ns).length = ns.length := List.length_map _
theorem ups_app (ms ns : List Nat) : ups (ms ++ ns) = ups ms ++ ups ns := List.map_append
def upsD (ns : List Nat) : List D := (ups ns).map D.i
theorem upsD_app (ms ns : List Nat) : upsD (ms ++ ns) = upsD ms ++ upsD ns := by
  unfold upsD
  rw [ups_app, List.map_append]
theorem upsD_lv (ns : List Nat) : Lv (0 + 1) (.l (upsD ns)) := fun x hx => by
  unfold upsD at hx
  obtain ⟨y, _, rfl⟩ := List.mem_map.mp hx
  exact True.intro
theorem nxD_eq (n : Nat) (r : Nat → Nat → Int) (x : Nat) : nxD n r x = .l (upsD (nx n r x)) := by
  unfold nxD genF upsD ups nx
  rw [List.map_map]
  rfl
/-- the numbers below n, by themselves -/
theorem full_perm {n : Nat} {ks : List Nat} (h1 : ks.Nodup) (h2 : ∀ k ∈ ks, k < n) (h3 : ∀ k, k < n → k ∈ ks) : ks.Perm (List.range n) := by
  refine (List.perm_ext_iff_of_nodup h1 List.nodup_range).mpr fun a => ?_
  rw [List.mem_range]
  exact ⟨h2 a, h3 a⟩
theorem nodup_le {n : Nat} {ks : List Nat} (h1 : ks.Nodup) (h2 : ∀ k ∈ ks, k < n) : ks.length ≤ n := by
  have h3 := h1.length_le_of_subset (l₂ := List.range n) fun a ha => List.mem_range.mpr (h2 a ha)
  rw [List.length_range] at h3
  exact h3
/-- where a walk leads that steps from each x to x + 1 -/
theorem round_all {n s : Nat} {ks : List Nat} {r : Nat → Nat → Int} (hs : s < n) (hks : s ∈ ks) (hc : ∀ x ∈ ks, ∀ y ∈ nx n r x, y ∈ ks) (hr : ∀ x, x < n → 0 < r x ((x + 1) % n)) (hb : ∀ k ∈ ks, k < n) : ∀ k, k < n → k ∈ ks := by
  have h1 : ∀ j, (s + j) % n ∈ ks := by
    intro j
    induction j with
    | zero =>
      rw [Nat.add_zero, Nat.mod_eq_of_lt hs]
      exact hks
    | succ j ih =>
      have e : (s + (j + 1)) % n = ((s + j) % n + 1) % n := by rw [Nat.mod_add_mod]; rfl
      rw [e]
      refine hc _ ih _ ?_
      unfold nx
      rw [List.mem_filter, List.mem_range]
      exact ⟨Nat.mod_lt _ (by omega), decide_eq_true (hr _ (hb _ ih))⟩
  intro k hk
  have h2 := h1 (k + n - s)
  have e : s + (k + n - s) = k + n := by omega
  rw [e, Nat.add_mod_right, Nat.mod_eq_of_lt hk] at h2
  exact h2
theorem range_sorted : ∀ n : Nat, (ups (List.range n)).Pairwise (· ≤ ·) := fun n => by
  unfold ups
  rw [List.pairwise_map]
  exact List.pairwise_lt_range.imp fun h => by omega
/-- what stands while the ways are walked: met, left -/
structure Met (n s : Nat) (r : Nat → Nat → Int) (ks ls : List Nat) (op : Nat → Prop) : Prop where
  nd : ks.Nodup
  lt : ∀ k ∈ ks, k < n
  sub : ∀ k ∈ ls, k ∈ ks
  st : s ∈ ks
  cl : ∀ x ∈ ks, x ∉ ls → op x ∨ ∀ y ∈ nx n r x, y ∈ ks
def S_reach_of : FSp := pure_ fun ds d => ∃ (n : Nat) (r : Nat → Nat → Int) (s : Nat), s < n ∧ n < 60 ∧ (∀ x, x < n → 0 < r x ((x + 1) % n)) ∧ ds = [.l (gen n (nxD n r)), .i (s : Int)] ∧ d = .k (ups (List.range n))
theorem ok_reach_of (F : FnP K "reach_of" s_reach_of f fd) (T : Tx K mg C) : FnOk P w K mg base CX0 1 f fd ["steps", "start"] (spF K C S_reach_of) := by
  refine fnD F sc_reach_of (fun ds ω d ω' h => ?_) (fun X ds ω d ω' hX hr h => ?_)
  · obtain ⟨_, n, r, s, _, _, _, rfl, _⟩ := h
    rfl
  · obtain ⟨cdv, A, outer, st, H, E, rfl⟩ := hX
    obtain ⟨rfl, n, r, s, hs, hn, hround, rfl, rfl⟩ := h
    have nd := sc_reach_of.nd
    refine psd_cons (ps1_par 2 3 rfl nd rfl rfl (by decide) rfl rfl (pdax_pdf (pdf_dict1 (fun ω => v_ 1 rfl) (fun ω => pd_bl)) fun p hp => pdax_pdf (PDN.pdf (pdn_lst (pda_cons (v_ 1 rfl) pda_nil) (by show 1 ≤ 1000; decide))) fun q hq => pdax_nil ⟨_, _, rfl, ?_⟩) rfl)
    have hqp : q ≠ p := fun z => by
      rw [z, updO_same] at hq
      cases hq
    have hq' : ω' q = none := by
      rw [updO_ne hqp] at hq
      exact hq
    refine psd_cons (ps1_while (fun m δ ω2 => ∃ ks ls y, m = 2 * (n - ks.length) + ls.length ∧ m ≤ 2 * n ∧ Met n s r ks ls (fun _ => False) ∧ ω2 = updO (updO ω' p (.dct (ups ks))) q (.lst (upsD ls)) ∧ δ = [some (.l (gen n (nxD n r))), some (.i (s : Int)), some (.adr p), some (.adr q), y]) _ PassesOwn.never
      ⟨[s], [s], none, rfl, (by show 2 * (n - 1) + 1 ≤ 2 * n; omega), ⟨by simp, by simp; exact hs, by simp, by simp, by simp⟩, rfl, rfl⟩ ?_)
    · rintro m δ ω2 ⟨ks, ls, y, rfl, hM, hm, rfl, rfl⟩
      refine ⟨_, pdt_neO (hr.units) (v_ 3 rfl) (PDN.pd (pdn_lst pda_nil (by show 0 ≤ 1000; decide))) updO_same (upsD_lv ls), fun ht => ?_, fun hf => ?_⟩
      · have hne : ls ≠ [] := by
          intro z
          rw [z] at ht
          cases ht
        obtain ⟨ls0, x, rfl⟩ : ∃ ls0 x, ls = ls0 ++ [x] := ⟨ls.dropLast, ls.getLast hne, (List.dropLast_concat_getLast hne).symm⟩
        have hx : x < n := hm.lt x (hm.sub x (by simp))
        rw [List.length_append, List.length_singleton] at hM
        have hlenx : (upsD (nx n r x)).length = (nx n r x).length := by
          unfold upsD
          rw [List.length_map, ups_len]
        refine psd_one (ps1_for1 4 (fun j δ ω2 => ∃ ks' ls' y, 2 * (n - ks'.length) + ls'.length ≤ 2 * (n - ks.length) + ls0.length ∧ Met n s r ks' ls' (fun z => z = x) ∧ (∀ y ∈ (nx n r x).take j, y ∈ ks') ∧ ω2 = updO (updO ω' p (.dct (ups ks'))) q (.lst (upsD ls')) ∧ δ = [some (.l (gen n (nxD n r))), some (.i (s : Int)), some (.adr p), some (.adr q), y])
          nd rfl (.inl rfl) PassesOwn.never (pid_lst (ds := upsD (nx n r x)) (pd_ixL (j := x) (v_ 0 rfl) (pd_pop (ds := upsD ls0) (d := .i (x : Int)) (v_ 3 rfl) (by rw [updO_same, upsD_app]; rfl)) rfl (by rw [gen_get hx, nxD_eq]))) ?_ ?_ ?_)
        · refine ⟨ks, ls0, y, Nat.le_refl _, ⟨hm.nd, hm.lt, fun k hk => hm.sub k (by simp [hk]), hm.st, fun z hz hzl => ?_⟩, by simp, by rw [updO_updO], rfl⟩
          by_cases e : z = x
          · exact .inl e
          · exact (hm.cl z hz (by simp [hzl, e])).elim (fun h => h.elim) .inr
        · rintro j hj δ ω2 ⟨ks', ls', y', hle, hm', hall, rfl, rfl⟩
          rw [hlenx] at hj
          have ej : (upsD (nx n r x)).getD j .no = .i (((nx n r x)[j] : Nat) : Int) := by
            unfold upsD ups
            rw [List.getD_eq_getElem?_getD, List.getElem?_map, List.getElem?_map, List.getElem?_eq_getElem hj]
            rfl
          rw [ej]
          have hyn : (nx n r x)[j] < n := by
            have h1 := List.getElem_mem hj
            unfold nx at h1
            exact List.mem_range.mp (List.mem_filter.mp h1).1
          have etake : (nx n r x).take (j + 1) = (nx n r x).take j ++ [(nx n r x)[j]] := by rw [List.take_succ, List.getElem?_eq_getElem hj]; rfl
          generalize (nx n r x)[j] = u at hyn etake ⊢
          have hd0 : updO (updO ω' p (.dct (ups ks'))) q (.lst (upsD ls')) p = some (.dct (ups ks')) := by
            rw [updO_ne (fun z => hqp z.symm), updO_same]
          refine psd_one (ps1_if (p := !decide ((u : Int) ∈ ups ks')) (pdt_dnin (by have := hr.units; omega) (v_ 4 rfl) (v_ 2 rfl) hd0) (fun ht => ?_) (fun hf => ?_))
          · have hnot : u ∉ ks' := fun h => by
              rw [← ups_mem] at h
              rw [decide_eq_true h] at ht
              cases ht
            have hnot' : ((u : Int)) ∉ ups ks' := fun h => hnot (ups_mem ▸ h)
            have hl1 := nodup_le hm'.nd hm'.lt
            have hnd2 : (ks' ++ [u]).Nodup := by
              rw [List.nodup_append]
              refine ⟨hm'.nd, by simp, fun a ha b hb => ?_⟩
              rw [List.mem_singleton] at hb
              rw [hb]
              exact fun e => hnot (e ▸ ha)
            have hlt2 : ∀ k ∈ ks' ++ [u], k < n := fun k hk => (List.mem_append.mp hk).elim (hm'.lt k) fun h => by rw [List.mem_singleton.mp h]; exact hyn
            have hl2 := nodup_le hnd2 hlt2
            rw [List.length_append, List.length_singleton] at hl2
            have hls : ls'.length ≤ 1000 - 1 := by omega
            refine psd_cons (ps1_dput (by have := hr.units; omega) pd_bl (v_ 2 rfl) (v_ 4 rfl) hd0 hnot' (by rw [ups_len]; omega) ?_)
            have hq2 : updO (updO (updO ω' p (.dct (ups ks'))) q (.lst (upsD ls'))) p (.dct (ups ks' ++ [(u : Int)])) q = some (.lst (upsD ls')) := by
              rw [updO_ne hqp, updO_same]
            refine psd_one (ps1_app (v_ 3 rfl) hq2 (v_ 4 rfl) hq2 (by unfold upsD; rw [List.length_map, ups_len]; omega) ?_)
            refine ⟨ks' ++ [u], ls' ++ [u], some (.i (u : Int)), ?_, ⟨hnd2, hlt2, fun k hk => ?_, by simp [hm'.st], fun z hz hzl => ?_⟩, fun y hy => ?_, ?_, rfl⟩
            · rw [List.length_append, List.length_append, List.length_singleton]
              omega
            · rcases List.mem_append.mp hk with h | h
              · exact List.mem_append_left _ (hm'.sub k h)
              · exact List.mem_append_right _ h
            · rcases List.mem_append.mp hz with h | h
              · exact (hm'.cl z h (fun q => hzl (List.mem_append_left _ q))).imp id fun h2 y hy => List.mem_append_left _ (h2 y hy)
              · exact absurd (List.mem_append_right _ h) hzl
            · rw [etake] at hy
              rcases List.mem_append.mp hy with h | h
              · exact List.mem_append_left _ (hall y h)
              · exact List.mem_append_right _ h
            · rw [updO_comm (a := q) (b := p) hqp, updO_updO, updO_updO, ups_app, upsD_app]
              rfl
          · have hin : u ∈ ks' := by
              cases h : decide ((u : Int) ∈ ups ks') with
              | true => exact ups_mem ▸ of_decide_eq_true h
              | false =>
                rw [h] at hf
                cases hf
            refine psd_nil ⟨ks', ls', some (.i (u : Int)), hle, hm', fun y hy => ?_, rfl, rfl⟩
            rw [etake] at hy
            rcases List.mem_append.mp hy with h | h
            · exact hall y h
            · rw [List.mem_singleton.mp h]
              exact hin
        · rintro δ ω2 ⟨ks', ls', y', hle, hm', hall, rfl, rfl⟩
          refine ⟨_, ?_, ks', ls', y', rfl, by omega, ⟨hm'.nd, hm'.lt, hm'.sub, hm'.st, fun z hz hzl => ?_⟩, rfl, rfl⟩
          · rw [List.length_append, List.length_singleton]
            omega
          · refine .inr fun y hy => ?_
            rcases hm'.cl z hz hzl with h | h
            · rw [h] at hy
              refine hall y ?_
              rw [hlenx, List.take_length]
              exact hy
            · exact h y hy
      · have hnil : ls = [] := by
          cases ls with
          | nil => rfl
          | cons a t => cases hf
        subst hnil
        have hks := full_perm hm.nd hm.lt (round_all hs hm.st (fun x hx y hy => (hm.cl x hx (by simp)).elim (fun h => h.elim) (fun h => h y hy)) hround hm.lt)
        have hd0 : updO (updO ω' p (.dct (ups ks))) q (.lst (upsD [])) p = some (.dct (ups ks)) := by
          rw [updO_ne (fun z => hqp z.symm), updO_same]
        refine psd_one (ps1_ret (pd_tupK rfl T.tup boot_tup_ (PDN.pd (pdn_sortedD (ns := ups (List.range n)) rfl rfl T.srt boot_srt_ (v_ 2 rfl) hd0 (by rw [ups_len]; have := nodup_le hm.nd hm.lt; omega) (hks.map _) (range_sorted n)))) ⟨rfl, fun a o' e => ?_⟩)
        rw [updO_ne (fun z => ?_), updO_ne (fun z => ?_)]
        · exact e
        · rw [z, hp] at e
          cases e
        · rw [z, hq'] at e
          cases e
def S_led_to : FSp := pure_ fun ds d => ∃ (n : Nat) (r : Nat → Nat → Int) (z : Int), n < 60 ∧ (∀ x, x < n → 0 < r x ((x + 1) % n)) ∧ ds = [.w (matD n r) z] ∧ d = .t (gen n fun _ => .k (ups (List.range n)))
theorem ok_led_to (F : FnP K "led_to" s_led_to f fd) (T : Tx K mg C) (L : OkL P w K mg base C) (G1 : Ok P w K mg base C "nexts" 1 ["walk"] S_nexts) (G2 : Ok P w K mg base C "reach_of" 1 ["steps", "start"] S_reach_of) : FnOk P w K mg base CX0 3 f fd ["walk"] (spF K C S_led_to) := by
  refine fnD F sc_led_to (fun ds ω d ω' h => ?_) (fun X ds ω d ω' hX hr h => ?_)
  · obtain ⟨_, n, r, z, _, _, rfl, _⟩ := h
    rfl
  · obtain ⟨cdv, A, outer, s, H, E, rfl⟩ := hX
    obtain ⟨rfl, n, r, z, hn, hround, rfl, rfl⟩ := h
    have nd := sc_led_to.nd
    have bok := fun scope own h => @blkOk_by N_led_to (defScope s_led_to) scope own h
    refine psd_cons (ps1_set 1 nd rfl (.inr rfl) (pd_ok G1 hr (by decide) (pda_cons (v_ 0 rfl) pda_nil) ⟨rfl, n, r, z, by omega, rfl, rfl⟩) ?_)
    refine psd_one (ps1_ret (q_tupL T (PDN.pd (pdn_lc1 (fun _ => .k (ups (List.range n))) 2 nd (bok _ _ (by decide +kernel)) (q_range T (q_lenW T L hr (by decide) (v_ 0 rfl) (by omega)) (by omega)) (by omega) (fun k hk _ _ _ _ _ ω1 => ?_)))) ⟨rfl, same_om⟩)
    exact pd_ok G2 hr (by decide) (pda_cons (v_ 1 rfl) (pda_cons (v_ 2 rfl) pda_nil)) ⟨rfl, n, r, k, hk, hn, hround, rfl, rfl⟩
def S_shut_sets : FSp := pure_ fun ds d => ∃ (n : Nat) (r : Nat → Nat → Int) (z : Int), 1 ≤ n ∧ n < 60 ∧ (∀ x, x < n → 0 < r x ((x + 1) % n)) ∧ ds = [.w (matD n r) z] ∧ d = .t [vecD n fun k => (k : Int)]
theorem ups_vec (n : Nat) : (ups (List.range n)).map D.i = gen n fun k => .i (k : Int) := by
  unfold ups gen
  rw [List.map_map]
  rfl
theorem ok_shut_sets (F : FnP K "shut_sets" s_shut_sets f fd) (T : Tx K mg C) (G : Ok P w K mg base C "led_to" 3 ["walk"] S_led_to) : FnOk P w K mg base CX0 4 f fd ["walk"] (spF K C S_shut_sets) := by
  refine fnD F sc_shut_sets (fun ds ω d ω' h => ?_) (fun X ds ω d ω' hX hr h => ?_)
  · obtain ⟨_, n, r, z, _, _, _, rfl, _⟩ := h
    rfl
  · obtain ⟨cdv, A, outer, s, H, E, rfl⟩ := hX
    obtain ⟨rfl, n, r, z, h1, hn, hround, rfl, rfl⟩ := h
    have nd := sc_shut_sets.nd
    have bok := fun scope own h => @blkOk_by N_shut_sets (defScope s_shut_sets) scope own h
    refine psd_cons (ps1_set 1 nd rfl (.inr rfl) (pd_ok G hr (by decide) (pda_cons (v_ 0 rfl) pda_nil) ⟨rfl, n, r, z, hn, hround, rfl, rfl⟩) ?_)
    refine psd_cons (ps1_dcT (n := n) (ns := ups (List.range n)) 3 2 (by have := hr.units; omega) nd rfl rfl (sw_trueD rfl rfl rfl (by decide +kernel)) (bok _ _ (by decide +kernel)) (pid_gt (v_ 1 rfl)) (by omega) (fun k hk _ _ _ _ _ ω1 => ?_) (fun k hk _ _ _ _ _ ω1 => v_ 3 rfl) (fun k hk _ _ _ _ _ ω1 => pd_bl) fun q hq => ?_)
    · refine pdt_val (PD.cast (q_all (pf := fun _ => true) T (PDN.pd (pdn_lc1 (fun _ => .b true) 4 nd (@blkOk_by N_shut_sets (relS _ (defScope s_shut_sets)) _ _ (by decide +kernel)) (pid_gt (n := n) (g := fun k => .i (k : Int)) (PD.cast (PD.unkey (v_ 3 rfl)) (by rw [ups_vec]))) (by omega) (fun j hj _ _ _ _ _ ω2 => ?_)))) (by rw [show allN n (fun _ => true) = true from allN_iff.mpr fun _ _ => rfl]))
      have lv : Lv 1 (.t ((ups (List.range n)).map D.i)) := fun x hx => by
        obtain ⟨y, _, rfl⟩ := List.mem_map.mp hx
        exact True.intro
      refine PD.cast (pd_eqD (k1 := 1) (k2 := 1) hr.units (PD.unkey (q_ixT (g := fun _ => .k (ups (List.range n))) (k := j) (v_ 1 rfl) (v_ 4 rfl) rfl hj)) (PD.unkey (v_ 3 rfl)) lv lv) ?_
      unfold eqvD
      rw [eqv_self lv]
    · refine psd_one (ps1_ret (q_tupL T (PD.cast (pd_sortedT rfl rfl T.srt boot_srt_ (v_ 2 rfl) updO_same) (by rw [ups_vec]; rfl))) ⟨rfl, fun a o' e => ?_⟩)
      rw [updO_ne (fun z => by rw [z, hq] at e; cases e)]
      exact e
end
end FW
set_option Elab.async false
set_option linter.all false
set_option autoImplicit false
set_option maxRecDepth 100000
set_option maxHeartbeats 1000000
/-! F6: the determinant. -/
namespace FW
open PySem PySem.Spec PyProof.Rows L2
/-- the table, the last pivot behind k turns -/
def bars (a : Nat → Nat → Int) : Nat → (Nat → Nat → Int) × Int
  | 0 => (a, 1)
  | k + 1 => (fun i j => if k < i ∧ k < j then ((bars a k).1 i j * (bars a k).1 k k - (bars a k).1 i k * (bars a k).1 k j) / (bars a k).2 else (bars a k).1 i j, (bars a k).1 k k)
def detN (m : Nat) (a : Nat → Nat → Int) : Int := if m = 0 then 1 else (bars a (m - 1)).1 (m - 1) (m - 1)
structure DetOk (m : Nat) (a : Nat → Nat → Int) : Prop where
  pos : ∀ k, k + 1 < m → 0 < (bars a k).1 k k
  sz : ∀ k i j, k < m → i < m → j < m → ((bars a k).1 i j).natAbs < 2 ^ 2000
theorem DetOk.last {m : Nat} {a : Nat → Nat → Int} (h : DetOk m a) {k : Nat} (hk : k < m) : 0 < (bars a k).2 ∧ ((bars a k).2).natAbs < 2 ^ 2000 := by
  cases k with
  | zero => exact ⟨by show (0 : Int) < 1; decide, by show (1 : Int).natAbs < _; exact Nat.lt_of_lt_of_le (by decide : 1 < 2 ^ 1) (Nat.pow_le_pow_right (by decide) (by decide))⟩
  | succ k => exact ⟨h.pos k hk, h.sz k k k (by omega) (by omega) (by omega)⟩
def matL (m : Nat) (a : Nat → Nat → Int) : D := .l (gen m fun i => .l (gen m fun j => .i (a i j)))
/-- the owned table -/
def tbW (ω : Om) (q : Addr) (P : Nat → Addr) (m : Nat) (b : Nat → Nat → Int) : Om := updO (ownN ω P (fun i => gen m fun j => .i (b i j)) m) q (.lst (gen m fun i => .adr (P i)))
structure TbP (ω : Om) (q : Addr) (P : Nat → Addr) (m : Nat) : Prop where
  inj : ∀ i j, i < m → j < m → P i = P j → i = j
  fr : ∀ i, i < m → ω (P i) = none
  q0 : ω q = none
  ne : ∀ i, i < m → P i ≠ q
def upd2 (b : Nat → Nat → Int) (i j : Nat) (v : Int) : Nat → Nat → Int := fun x y => if x = i ∧ y = j then v else b x y
section
variable {ω : Om} {q : Addr} {P : Nat → Addr} {m : Nat} {b : Nat → Nat → Int}
theorem TbP.at_q (h : TbP ω q P m) : tbW ω q P m b q = some (.lst (gen m fun i => .adr (P i))) := updO_same
theorem TbP.at_P (h : TbP ω q P m) {i : Nat} (hi : i < m) : tbW ω q P m b (P i) = some (.lst (gen m fun j => .i (b i j))) := by
  unfold tbW
  rw [updO_ne (h.ne i hi), ownN_at h.inj hi]
theorem TbP.set (h : TbP ω q P m) {i j : Nat} {v : Int} (hi : i < m) : updO (tbW ω q P m b) (P i) (.lst ((gen m fun y => .i (b i y)).set j (.i v))) = tbW ω q P m (upd2 b i j v) := by
  unfold tbW
  rw [updO_comm (fun z => h.ne i hi z.symm), ownN_set h.inj hi]
  congr 1
  refine ownN_congr fun x hx => ⟨rfl, ?_⟩
  by_cases e : x = i
  · rw [if_pos e, gen_set]
    refine gen_congr fun y hy => ?_
    unfold upd2
    by_cases e2 : y = j
    · rw [if_pos e2, if_pos ⟨e, e2⟩]
    · rw [if_neg e2, if_neg (fun z => e2 z.2), e]
  · rw [if_neg e]
    refine gen_congr fun y hy => ?_
    unfold upd2
    rw [if_neg (fun z => e z.1)]
theorem TbP.keeps (h : TbP ω q P m) {a : Addr} {o : OO} (e : ω a = some o) : tbW ω q P m b a = some o := by
  unfold tbW
  rw [updO_ne (fun z => by rw [z, h.q0] at e; cases e), ownN_out (fun i hi z => by rw [z, h.fr i hi] at e; cases e)]
  exact e
end
section
variable {X : Cx} {C : Addr} {δ : Env} {ω : Om} {t ex ey : Expr} {p1 p2 : Pos} {q : Addr} {P : Nat → Addr} {m : Nat} {b : Nat → Nat → Int} {x y : Int} {i j : Nat}
theorem q_cell (h : TbP ω q P m) (ht : PD X C t δ (tbW ω q P m b) (.adr q) (tbW ω q P m b)) (hx : PD X C ex δ (tbW ω q P m b) (.i x) (tbW ω q P m b)) (hy : PD X C ey δ (tbW ω q P m b) (.i y) (tbW ω q P m b)) (e1 : x = (i : Int)) (e2 : y = (j : Int)) (hi : i < m) (hj : j < m)
    (hs : PlainIx ex := by intro _ _; rfl) (hs2 : PlainIx ey := by intro _ _; rfl) : PD X C (.Subscript (.Subscript t ex p1) ey p2) δ (tbW ω q P m b) (.i (b i j)) (tbW ω q P m b) :=
  pd_ixO (d := .i (b i j)) (pd_ixO (d := .adr (P i)) ht hx h.at_q e1 (gen_get hi) hs) hy (h.at_P hi) e2 (gen_get hj) hs2
end
section
variable {P : Program} {w : World} {K : PySem.W.Frag} {mg : Str → Option Value} {base : Heap} {f : Addr} {fd : FuncData} {C : Addr}
def S_determinant : FSp := pure_ fun ds d => ∃ (m : Nat) (a : Nat → Nat → Int), m ≤ 30 ∧ DetOk m a ∧ ds = [matL m a] ∧ d = .i (detN m a)
theorem ok_determinant (F : FnP K "determinant" s_determinant f fd) (T : Tx K mg C) : FnOk P w K mg base CX0 1 f fd ["rows"] (spF K C S_determinant) := by
  refine fnD F sc_determinant (fun ds ω d ω' h => ?_) (fun X ds ω d ω' hX hr h => ?_)
  · obtain ⟨_, m, a, _, _, rfl, _⟩ := h
    rfl
  · obtain ⟨cdv, A, outer, st, H, E, rfl⟩ := hX
    obtain ⟨rfl, m, a, hm, hok, rfl, rfl⟩ := h
    have nd := sc_determinant.nd
    have bok := fun scope own h => @blkOk_by N_determinant (defScope s_determinant) scope own h
    refine psd_cons (ps1_tup (pg_tup rfl (pgs_cons (pg_name (i := 1) nd rfl (.inr rfl) (.inl rfl)) (pgs_cons (pg_name (i := 2) nd rfl (.inl rfl)) (pgs_cons (pg_name (i := 3) nd rfl (.inl rfl)) pgs_nil)))) (pdax_newE (pdn_lcO (fun i => gen m fun j => .i (a i j)) 4 nd (bok _ _ (by decide +kernel)) (pid_gl (v_ 0 rfl)) (by omega) (fun k hk _ _ _ _ _ ω1 => pdn_listL rfl T.lst boot_lst_ (v_ 4 rfl))) fun q ds0 ω1 hz hq =>
      pdax_cons pd_int (pdax_cons pd_int (pdax_nil ⟨by show 3 ≤ 1000; decide, _, evg_trip evg_name evg_name evg_name, ?_⟩))))
    obtain ⟨P, inj, fr, rfl, rfl⟩ := hz
    have tb : TbP ω' q P m := by
      have hne : ∀ i, i < m → P i ≠ q := fun i hi z => by
        rw [← z, ownN_at inj hi] at hq
        cases hq
      refine ⟨inj, fr, ?_, hne⟩
      rw [ownN_out (fun i hi z => hne i hi z.symm)] at hq
      exact hq
    have hW : ∀ b, updO (ownN ω' P (fun i => gen m fun j => .i (b i j)) m) q (.lst (gen m fun i => .adr (P i))) = tbW ω' q P m b := fun b => rfl
    rw [hW a]
    let Dl : Int → Option D → Option D → Option D → Option D → Option D → Option D → Env := fun l y4 y5 y6 y7 y8 y9 => [some (matL m a), some (.adr q), some (.i 1), some (.i l), y4, y5, y6, y7, y8, y9]
    refine psd_cons (ps1_for1 5 (fun k δ ω2 => ∃ b y4 y5 y6 y7 y8 y9, (∀ i j, i < m → j < m → b i j = (bars a k).1 i j) ∧ ω2 = tbW ω' q P m b ∧ δ = Dl (bars a k).2 y4 y5 y6 y7 y8 y9) nd rfl (.inr rfl) PassesOwn.never
      (PID.of_eq (pid_range (m := (m : Int) - 1) rfl T.rng (pd_sub (PD.cast (q_lenO T (v_ 1 rfl) tb.at_q) (by rw [gen_len])) pd_int) (by omega) (by omega)) (n' := m - 1) (by omega) (fun _ _ => rfl)) ⟨a, none, none, none, none, none, none, fun _ _ _ _ => rfl, rfl, rfl⟩ ?_ ?_)
    · rintro k hk δ ω2 ⟨b, y4, y5, y6, y7, y8, y9, hb, rfl, rfl⟩
      have hkm : k < m := by omega
      have e0 : decide (b k k = 0) = false := by
        rw [hb k k hkm hkm]
        have := hok.pos k (by omega)
        exact decide_eq_false (by omega)
      refine psd_cons (ps1_ifF (by rw [← e0]; exact pdt_eq (q_cell tb (v_ 1 rfl) (v_ 5 rfl) (v_ 5 rfl) rfl rfl hkm hkm) pd_int) ?_)
      let nw : Nat → Nat → Int := fun i j => ((bars a k).1 i j * (bars a k).1 k k - (bars a k).1 i k * (bars a k).1 k j) / (bars a k).2
      have cm : ∀ {i j i' j' : Nat}, i < m → j < m → i' < m → j' < m → CMulW ((bars a k).1 i j) ((bars a k).1 i' j') := fun h1 h2 h3 h4 => cm2000 (hok.sz k _ _ hkm h1 h2) (hok.sz k _ _ hkm h3 h4)
      refine psd_cons (ps1_for1 4 (fun t δ ω2 => ∃ b y4 y6 y7 y8 y9, (∀ i j, i < m → j < m → b i j = if k < i ∧ k < j ∧ i < k + 1 + t then nw i j else (bars a k).1 i j) ∧ ω2 = tbW ω' q P m b ∧ δ = Dl (bars a k).2 y4 (some (.i (k : Int))) y6 y7 y8 y9) nd rfl (.inl rfl) PassesOwn.never
        (PID.of_eq (pid_range2 (m := (k : Int) + 1) (n := (m : Int)) rfl T.rng (pd_add (v_ 5 rfl) pd_int) (PD.cast (q_lenO T (v_ 1 rfl) tb.at_q) (by rw [gen_len])) (by omega)) (n' := m - (k + 1)) (it' := fun t => .i ((k + 1 + t : Nat) : Int)) (by omega) (fun t _ => by congr 1)) ⟨b, y4, y6, y7, y8, y9, fun i j hi hj => ?_, rfl, rfl⟩ ?_ ?_)
      · rw [if_neg (by omega)]
        exact hb i j hi hj
      · rintro t ht δ ω2 ⟨b, y4, y6, y7, y8, y9, hb, rfl, rfl⟩
        have hrm : k + 1 + t < m := by omega
        refine psd_one (ps1_for1 8 (fun u δ ω2 => ∃ b y6 y7 y8 y9, (∀ i j, i < m → j < m → b i j = if k < i ∧ k < j ∧ (i < k + 1 + t ∨ i = k + 1 + t ∧ j < k + 1 + u) then nw i j else (bars a k).1 i j) ∧ ω2 = tbW ω' q P m b ∧ δ = Dl (bars a k).2 (some (.i ((k + 1 + t : Nat) : Int))) (some (.i (k : Int))) y6 y7 y8 y9) nd rfl (.inl rfl) PassesOwn.never
          (PID.of_eq (pid_range2 (m := (k : Int) + 1) (n := (m : Int)) rfl T.rng (pd_add (v_ 5 rfl) pd_int) (PD.cast (q_lenO T (v_ 1 rfl) tb.at_q) (by rw [gen_len])) (by omega)) (n' := m - (k + 1)) (it' := fun t => .i ((k + 1 + t : Nat) : Int)) (by omega) (fun t _ => by congr 1)) ⟨b, y6, y7, y8, y9, fun i j hi hj => ?_, rfl, rfl⟩ ?_ ?_)
        · rw [hb i j hi hj]
          by_cases c : k < i ∧ k < j ∧ i < k + 1 + t
          · rw [if_pos c, if_pos ⟨c.1, c.2.1, .inl c.2.2⟩]
          · rw [if_neg c, if_neg (by omega)]
        · rintro u hu2 δ ω2 ⟨b, y6, y7, y8, y9, hb, rfl, rfl⟩
          have hcm : k + 1 + u < m := by omega
          have b1 : b (k + 1 + t) (k + 1 + u) = (bars a k).1 (k + 1 + t) (k + 1 + u) := by rw [hb _ _ hrm hcm, if_neg (by omega)]
          have b2 : b k k = (bars a k).1 k k := by rw [hb _ _ hkm hkm, if_neg (by omega)]
          have b3 : b (k + 1 + t) k = (bars a k).1 (k + 1 + t) k := by rw [hb _ _ hrm hkm, if_neg (by omega)]
          have b4 : b k (k + 1 + u) = (bars a k).1 k (k + 1 + u) := by rw [hb _ _ hkm hcm, if_neg (by omega)]
          refine psd_cons (ps1_set 9 nd rfl (.inl rfl) (pd_sub (pd_mul (PD.cast (q_cell tb (v_ 1 rfl) (v_ 4 rfl) (v_ 8 rfl) rfl rfl hrm hcm) (congrArg D.i b1)) (PD.cast (q_cell tb (v_ 1 rfl) (v_ 5 rfl) (v_ 5 rfl) rfl rfl hkm hkm) (congrArg D.i b2)) (cm hrm hcm hkm hkm)) (pd_mul (PD.cast (q_cell tb (v_ 1 rfl) (v_ 4 rfl) (v_ 5 rfl) rfl rfl hrm hkm) (congrArg D.i b3)) (PD.cast (q_cell tb (v_ 1 rfl) (v_ 5 rfl) (v_ 8 rfl) rfl rfl hkm hcm) (congrArg D.i b4)) (cm hrm hkm hkm hcm))) ?_)
          obtain ⟨l1, l2⟩ := hok.last hkm
          refine psd_one (ps1_setO (p := P (k + 1 + t)) (j := k + 1 + u) (pd_fdiv (v_ 9 rfl) (v_ 3 rfl) (wide_div (b := 2000) l1 l2 (by decide) (by decide))) (pd_ixO (d := .adr (P (k + 1 + t))) (v_ 1 rfl) (v_ 4 rfl) tb.at_q rfl (gen_get hrm)) (v_ 8 rfl) (tb.at_P hrm) rfl (by rw [gen_len]; exact hcm) ?_)
          rw [tb.set hrm]
          refine ⟨_, y6, y7, _, _, fun i j hi hj => ?_, rfl, rfl⟩
          unfold upd2
          by_cases c : i = k + 1 + t ∧ j = k + 1 + u
          · rw [if_pos c, if_pos (by omega), c.1, c.2]
          · rw [if_neg c, hb i j hi hj]
            by_cases c2 : k < i ∧ k < j ∧ (i < k + 1 + t ∨ i = k + 1 + t ∧ j < k + 1 + u)
            · rw [if_pos c2, if_pos (by omega)]
            · rw [if_neg c2, if_neg (by omega)]
        · rintro δ ω2 ⟨b, y6, y7, y8, y9, hb, rfl, rfl⟩
          refine ⟨b, _, y6, y7, y8, y9, fun i j hi hj => ?_, rfl, rfl⟩
          rw [hb i j hi hj]
          by_cases c : k < i ∧ k < j ∧ i < k + 1 + (t + 1)
          · rw [if_pos c, if_pos (by omega)]
          · rw [if_neg c, if_neg (by omega)]
      · rintro δ ω2 ⟨b, y4, y6, y7, y8, y9, hb, rfl, rfl⟩
        have b2 : b k k = (bars a k).1 k k := by rw [hb _ _ hkm hkm, if_neg (by omega)]
        refine psd_one (ps1_set 3 nd rfl (.inl rfl) (PD.cast (q_cell tb (v_ 1 rfl) (v_ 5 rfl) (v_ 5 rfl) rfl rfl hkm hkm) (congrArg D.i b2)) ⟨b, _, _, _, _, _, _, fun i j hi hj => ?_, rfl, rfl⟩)
        rw [hb i j hi hj]
        show _ = if k < i ∧ k < j then _ else _
        by_cases c : k < i ∧ k < j
        · rw [if_pos c, if_pos (by omega)]
        · rw [if_neg c, if_neg (by omega)]
    · rintro δ ω2 ⟨b, y4, y5, y6, y7, y8, y9, hb, rfl, rfl⟩
      refine psd_one (ps1_ret (ω1 := tbW ω' q P m b) (pd_if (p := !decide (m = 0)) (pdt_neOO hr.units (v_ 1 rfl) (PDN.pd (pdn_lst pda_nil (by show 0 ≤ 1000; decide))) tb.at_q (fun i hi => tb.at_P hi)) (fun ht => ?_) (fun hf => ?_)) ⟨rfl, fun a' o' e => tb.keeps e⟩)
      · have h0 : ¬ m = 0 := fun z => by
          rw [z] at ht
          cases ht
        have e1 : b (m - 1) (m - 1) = detN m a := by
          unfold detN
          rw [if_neg h0]
          exact hb _ _ (by omega) (by omega)
        refine PD.cast (pd_mul (m := 1) (n := b (m - 1) (m - 1)) (v_ 2 rfl) (pd_ixOn (pd_ixOn (d := .adr (P (m - 1))) (v_ 1 rfl) (pd_neg pd_int) tb.at_q (by rw [gen_len, gen_get (by omega)]) (by rw [gen_len]; omega)) (pd_neg pd_int) (tb.at_P (by omega)) (by rw [gen_len, gen_get (by omega)]) (by rw [gen_len]; omega)) ?_) (by rw [Int.one_mul, e1])
        rw [e1]
        unfold detN
        rw [if_neg h0]
        exact cm2000 (Nat.lt_of_lt_of_le (by decide : 1 < 2 ^ 1) (Nat.pow_le_pow_right (by decide) (by decide))) (hok.sz _ _ _ (by omega) (by omega) (by omega))
      · have h0 : m = 0 := by
          cases h : decide (m = 0) with
          | true => exact of_decide_eq_true h
          | false =>
            rw [h] at hf
            cases hf
        refine PD.cast pd_int ?_
        unfold detN
        rw [if_pos h0]
end
end FW
set_option Elab.async false
set_option linter.all false
set_option autoImplicit false
set_option maxRecDepth 100000
set_option maxHeartbeats 1000000
/-! M0: round walks. -/
namespace FW
/-- a walk whose every place leads on to the next -/
structure Good (n : Nat) (r : Nat → Nat → Int) (z : Int) : Prop where
  n1 : 1 ≤ n
  n5 : n ≤ 5
  nn : ∀ x y, x < n → y < n → 0 ≤ r x y
  sum : ∀ x, x < n → sumN n (r x) = z
  z0 : 0 < z
  z10 : z ≤ 10
  on : ∀ x, x < n → 0 < r x ((x + 1) % n)
/-- the i-th place other than y -/
def oth (y i : Nat) : Nat := if i < y then i else i + 1
def lap (r : Nat → Nat → Int) (z : Int) (y i j : Nat) : Int := (if i = j then z else 0) - r (oth y i) (oth y j)
def tre (n : Nat) (r : Nat → Nat → Int) (z : Int) (y : Nat) : Int := detN (n - 1) (lap r z y)
def neN (y k : Nat) : Bool := !decide ((k : Int) = (y : Int))
theorem neN_t {y k : Nat} (h : k ≠ y) : neN y k = true := by
  unfold neN
  rw [decide_eq_false (by omega)]
  rfl
theorem neN_f {y : Nat} : neN y y = false := by
  unfold neN
  rw [decide_eq_true rfl]
  rfl
theorem fil_t {y k : Nat} (h : k ≠ y) : List.filter (neN y) [k] = [k] := by
  rw [List.filter_cons, if_pos (neN_t h)]
  rfl
theorem fil_f {y : Nat} : List.filter (neN y) [y] = [] := by
  rw [List.filter_cons, if_neg (by rw [neN_f]; exact Bool.false_ne_true)]
  rfl
theorem filter_ne {α : Type} (f : Nat → α) (y : Nat) : ∀ n, ((List.range n).filter (neN y)).map f = (List.range (if y < n then n - 1 else n)).map fun i => f (oth y i)
  | 0 => by simp
  | n + 1 => by
    rw [List.range_succ, List.filter_append, List.map_append, filter_ne f y n]
    by_cases h : y < n
    · rw [if_pos h, if_pos (by omega), fil_t (by omega)]
      have e : n + 1 - 1 = (n - 1) + 1 := by omega
      rw [e, List.range_succ, List.map_append]
      congr 1
      show [f n] = [f (oth y (n - 1))]
      have e2 : oth y (n - 1) = n := by
        unfold oth
        rw [if_neg (by omega)]
        omega
      rw [e2]
    · rw [if_neg h]
      by_cases h2 : y = n
      · subst h2
        rw [if_pos (by omega), fil_f]
        simp
      · rw [if_neg (by omega), fil_t (by omega), List.range_succ, List.map_append]
        congr 1
        show [f n] = [f (oth y n)]
        unfold oth
        rw [if_pos (by omega)]
theorem sum_filter_ne (f : Nat → Int) (y : Nat) : ∀ n, (((List.range n).filter (neN y)).map f).sum = sumN n f - if y < n then f y else 0
  | 0 => by simp [sumN]
  | n + 1 => by
    rw [List.range_succ, List.filter_append, List.map_append, List.sum_append, sum_filter_ne f y n, sumN_succ]
    by_cases h2 : y = n
    · subst h2
      rw [fil_f, if_neg (by omega), if_pos (by omega)]
      simp
    · rw [fil_t (by omega)]
      by_cases h : y < n
      · rw [if_pos h, if_pos (by omega)]
        simp
        omega
      · rw [if_neg h, if_neg (by omega)]
        simp
theorem oth_lt {n y i : Nat} (hy : y < n) (hi : i < n - 1) : oth y i < n := by
  unfold oth
  split <;> omega
theorem oth_inj {y i j : Nat} : (oth y i = oth y j) = (i = j) := by
  unfold oth
  refine propext ⟨fun h => ?_, fun h => by rw [h]⟩
  split at h <;> split at h <;> omega
theorem sumN_ge0 {n : Nat} {f : Nat → Int} (h : ∀ k, k < n → 0 ≤ f k) : 0 ≤ sumN n f := by
  induction n with
  | zero => exact Int.le_refl 0
  | succ n ih =>
    rw [sumN_succ]
    have h1 := ih fun k hk => h k (by omega)
    have h2 := h n (by omega)
    omega
theorem sumN_ge {n : Nat} {f : Nat → Int} (h : ∀ k, k < n → 0 ≤ f k) {j : Nat} (hj : j < n) : f j ≤ sumN n f := by
  induction n with
  | zero => omega
  | succ n ih =>
    rw [sumN_succ]
    by_cases e : j = n
    · have h1 := sumN_ge0 (n := n) fun k hk => h k (by omega)
      rw [e]
      omega
    · have h1 := ih (fun k hk => h k (by omega)) (by omega)
      have h2 := h n (by omega)
      omega
theorem Good.le {n : Nat} {r : Nat → Nat → Int} {z : Int} (h : Good n r z) {x y : Nat} (hx : x < n) (hy : y < n) : r x y ≤ z := by
  rw [← h.sum x hx]
  exact sumN_ge (fun k hk => h.nn x k hx hk) hy
end FW
set_option Elab.async false
set_option linter.all false
set_option autoImplicit false
set_option maxRecDepth 100000
set_option maxHeartbeats 0
/-! N1: determinants of at most four rows, by polynomials. -/
namespace FW
def det1 (a00 : Int) : Int := a00
def det2 (a00 a01 a10 a11 : Int) : Int := a00 * a11 - a01 * a10
def det3 (a00 a01 a02 a10 a11 a12 a20 a21 a22 : Int) : Int := a00 * a11 * a22 - a00 * a12 * a21 - a01 * a10 * a22 + a01 * a12 * a20 + a02 * a10 * a21 - a02 * a11 * a20
def det4 (a00 a01 a02 a03 a10 a11 a12 a13 a20 a21 a22 a23 a30 a31 a32 a33 : Int) : Int := a00 * a11 * a22 * a33 - a00 * a11 * a23 * a32 - a00 * a12 * a21 * a33 + a00 * a12 * a23 * a31 + a00 * a13 * a21 * a32 - a00 * a13 * a22 * a31 - a01 * a10 * a22 * a33 + a01 * a10 * a23 * a32 + a01 * a12 * a20 * a33 - a01 * a12 * a23 * a30 - a01 * a13 * a20 * a32 + a01 * a13 * a22 * a30 + a02 * a10 * a21 * a33 - a02 * a10 * a23 * a31 - a02 * a11 * a20 * a33 + a02 * a11 * a23 * a30 + a02 * a13 * a20 * a31 - a02 * a13 * a21 * a30 - a03 * a10 * a21 * a32 + a03 * a10 * a22 * a31 + a03 * a11 * a20 * a32 - a03 * a11 * a22 * a30 - a03 * a12 * a20 * a31 + a03 * a12 * a21 * a30
theorem stat2_0 (r01 r10 : Int) : (det1 (r01)) * r10 = (det1 (r10)) * (r01) := by
  unfold det1
  grind
theorem stat2_1 (r01 r10 : Int) : (det1 (r10)) * r01 = (det1 (r01)) * (r10) := by
  unfold det1
  grind
theorem stat3_0 (r01 r02 r10 r12 r20 r21 : Int) : (det2 (r01 + r02) (-r02) (-r20) (r20 + r21)) * r10 + (det2 (r01 + r02) (-r01) (-r10) (r10 + r12)) * r20 = (det2 (r10 + r12) (-r12) (-r21) (r20 + r21)) * (r01 + r02) := by
  unfold det2
  grind
theorem stat3_1 (r01 r02 r10 r12 r20 r21 : Int) : (det2 (r10 + r12) (-r12) (-r21) (r20 + r21)) * r01 + (det2 (r01 + r02) (-r01) (-r10) (r10 + r12)) * r21 = (det2 (r01 + r02) (-r02) (-r20) (r20 + r21)) * (r10 + r12) := by
  unfold det2
  grind
theorem stat3_2 (r01 r02 r10 r12 r20 r21 : Int) : (det2 (r10 + r12) (-r12) (-r21) (r20 + r21)) * r02 + (det2 (r01 + r02) (-r02) (-r20) (r20 + r21)) * r12 = (det2 (r01 + r02) (-r01) (-r10) (r10 + r12)) * (r20 + r21) := by
  unfold det2
  grind
theorem stat4_0 (r01 r02 r03 r10 r12 r13 r20 r21 r23 r30 r31 r32 : Int) : (det3 (r01 + r02 + r03) (-r02) (-r03) (-r20) (r20 + r21 + r23) (-r23) (-r30) (-r32) (r30 + r31 + r32)) * r10 + (det3 (r01 + r02 + r03) (-r01) (-r03) (-r10) (r10 + r12 + r13) (-r13) (-r30) (-r31) (r30 + r31 + r32)) * r20 + (det3 (r01 + r02 + r03) (-r01) (-r02) (-r10) (r10 + r12 + r13) (-r12) (-r20) (-r21) (r20 + r21 + r23)) * r30 = (det3 (r10 + r12 + r13) (-r12) (-r13) (-r21) (r20 + r21 + r23) (-r23) (-r31) (-r32) (r30 + r31 + r32)) * (r01 + r02 + r03) := by
  unfold det3
  grind
theorem stat4_1 (r01 r02 r03 r10 r12 r13 r20 r21 r23 r30 r31 r32 : Int) : (det3 (r10 + r12 + r13) (-r12) (-r13) (-r21) (r20 + r21 + r23) (-r23) (-r31) (-r32) (r30 + r31 + r32)) * r01 + (det3 (r01 + r02 + r03) (-r01) (-r03) (-r10) (r10 + r12 + r13) (-r13) (-r30) (-r31) (r30 + r31 + r32)) * r21 + (det3 (r01 + r02 + r03) (-r01) (-r02) (-r10) (r10 + r12 + r13) (-r12) (-r20) (-r21) (r20 + r21 + r23)) * r31 = (det3 (r01 + r02 + r03) (-r02) (-r03) (-r20) (r20 + r21 + r23) (-r23) (-r30) (-r32) (r30 + r31 + r32)) * (r10 + r12 + r13) := by
  unfold det3
  grind
theorem stat4_2 (r01 r02 r03 r10 r12 r13 r20 r21 r23 r30 r31 r32 : Int) : (det3 (r10 + r12 + r13) (-r12) (-r13) (-r21) (r20 + r21 + r23) (-r23) (-r31) (-r32) (r30 + r31 + r32)) * r02 + (det3 (r01 + r02 + r03) (-r02) (-r03) (-r20) (r20 + r21 + r23) (-r23) (-r30) (-r32) (r30 + r31 + r32)) * r12 + (det3 (r01 + r02 + r03) (-r01) (-r02) (-r10) (r10 + r12 + r13) (-r12) (-r20) (-r21) (r20 + r21 + r23)) * r32 = (det3 (r01 + r02 + r03) (-r01) (-r03) (-r10) (r10 + r12 + r13) (-r13) (-r30) (-r31) (r30 + r31 + r32)) * (r20 + r21 + r23) := by
  unfold det3
  grind
theorem stat4_3 (r01 r02 r03 r10 r12 r13 r20 r21 r23 r30 r31 r32 : Int) : (det3 (r10 + r12 + r13) (-r12) (-r13) (-r21) (r20 + r21 + r23) (-r23) (-r31) (-r32) (r30 + r31 + r32)) * r03 + (det3 (r01 + r02 + r03) (-r02) (-r03) (-r20) (r20 + r21 + r23) (-r23) (-r30) (-r32) (r30 + r31 + r32)) * r13 + (det3 (r01 + r02 + r03) (-r01) (-r03) (-r10) (r10 + r12 + r13) (-r13) (-r30) (-r31) (r30 + r31 + r32)) * r23 = (det3 (r01 + r02 + r03) (-r01) (-r02) (-r10) (r10 + r12 + r13) (-r12) (-r20) (-r21) (r20 + r21 + r23)) * (r30 + r31 + r32) := by
  unfold det3
  grind
theorem stat5_0 (r01 r02 r03 r04 r10 r12 r13 r14 r20 r21 r23 r24 r30 r31 r32 r34 r40 r41 r42 r43 : Int) : (det4 (r01 + r02 + r03 + r04) (-r02) (-r03) (-r04) (-r20) (r20 + r21 + r23 + r24) (-r23) (-r24) (-r30) (-r32) (r30 + r31 + r32 + r34) (-r34) (-r40) (-r42) (-r43) (r40 + r41 + r42 + r43)) * r10 + (det4 (r01 + r02 + r03 + r04) (-r01) (-r03) (-r04) (-r10) (r10 + r12 + r13 + r14) (-r13) (-r14) (-r30) (-r31) (r30 + r31 + r32 + r34) (-r34) (-r40) (-r41) (-r43) (r40 + r41 + r42 + r43)) * r20 + (det4 (r01 + r02 + r03 + r04) (-r01) (-r02) (-r04) (-r10) (r10 + r12 + r13 + r14) (-r12) (-r14) (-r20) (-r21) (r20 + r21 + r23 + r24) (-r24) (-r40) (-r41) (-r42) (r40 + r41 + r42 + r43)) * r30 + (det4 (r01 + r02 + r03 + r04) (-r01) (-r02) (-r03) (-r10) (r10 + r12 + r13 + r14) (-r12) (-r13) (-r20) (-r21) (r20 + r21 + r23 + r24) (-r23) (-r30) (-r31) (-r32) (r30 + r31 + r32 + r34)) * r40 = (det4 (r10 + r12 + r13 + r14) (-r12) (-r13) (-r14) (-r21) (r20 + r21 + r23 + r24) (-r23) (-r24) (-r31) (-r32) (r30 + r31 + r32 + r34) (-r34) (-r41) (-r42) (-r43) (r40 + r41 + r42 + r43)) * (r01 + r02 + r03 + r04) := by
  unfold det4
  grind
theorem rot4 (a00 a01 a02 a03 a10 a11 a12 a13 a20 a21 a22 a23 a30 a31 a32 a33 : Int) : det4 a11 a12 a13 a10 a21 a22 a23 a20 a31 a32 a33 a30 a01 a02 a03 a00 = det4 a00 a01 a02 a03 a10 a11 a12 a13 a20 a21 a22 a23 a30 a31 a32 a33 := by
  unfold det4
  grind
theorem syl3 (a00 a01 a0j a10 a11 a1j ai0 ai1 aij : Int) : (aij * a00 - ai0 * a0j) * (a11 * a00 - a10 * a01) - (ai1 * a00 - ai0 * a01) * (a1j * a00 - a10 * a0j) = a00 * det3 a00 a01 a0j a10 a11 a1j ai0 ai1 aij := by
  unfold det3
  grind
theorem syl4 (a00 a01 a02 a03 a10 a11 a12 a13 a20 a21 a22 a23 a30 a31 a32 a33 : Int) : det3 a00 a01 a03 a10 a11 a13 a30 a31 a33 * det3 a00 a01 a02 a10 a11 a12 a20 a21 a22 - det3 a00 a01 a02 a10 a11 a12 a30 a31 a32 * det3 a00 a01 a03 a10 a11 a13 a20 a21 a23 = (a11 * a00 - a10 * a01) * det4 a00 a01 a02 a03 a10 a11 a12 a13 a20 a21 a22 a23 a30 a31 a32 a33 := by
  unfold det3 det4
  grind
end FW
set_option Elab.async false
set_option linter.all false
set_option autoImplicit false
set_option maxRecDepth 100000
set_option maxHeartbeats 1000000
/-! N2: four places with exits: what is left when one is taken out stays so. -/
namespace FW
/-- from each set of the places k .. 3 a way leads out -/
structure Ex (k : Nat) (W : Nat → Nat → Int) (E : Nat → Int) : Prop where
  w0 : ∀ i j, 0 ≤ W i j
  e0 : ∀ i, 0 ≤ E i
  out : ∀ T : Nat → Prop, (∃ i, k ≤ i ∧ i < 4 ∧ T i) → ∃ i, k ≤ i ∧ i < 4 ∧ T i ∧ (0 < E i ∨ ∃ j, k ≤ j ∧ j < 4 ∧ ¬ T j ∧ 0 < W i j)
theorem Ex.next {k : Nat} {W : Nat → Nat → Int} {E : Nat → Int} {d : Int} (h : Ex k W E) (hd : 0 < d) : Ex (k + 1) (fun i j => W i j * d + W i k * W k j) (fun i => E i * d + W i k * E k) where
  w0 i j := Int.add_nonneg (Int.mul_nonneg (h.w0 i j) (Int.le_of_lt hd)) (Int.mul_nonneg (h.w0 i k) (h.w0 k j))
  e0 i := Int.add_nonneg (Int.mul_nonneg (h.e0 i) (Int.le_of_lt hd)) (Int.mul_nonneg (h.w0 i k) (h.e0 k))
  out T hT := by
    obtain ⟨i0, a1, a2, a3⟩ := hT
    have up1 : ∀ i, 0 < E i → 0 < E i * d + W i k * E k := fun i hi => by
      have := Int.mul_pos hi hd
      have := Int.mul_nonneg (h.w0 i k) (h.e0 k)
      omega
    have up2 : ∀ i j, 0 < W i j → 0 < W i j * d + W i k * W k j := fun i j hi => by
      have := Int.mul_pos hi hd
      have := Int.mul_nonneg (h.w0 i k) (h.w0 k j)
      omega
    have up3 : ∀ i, 0 < W i k → 0 < E k → 0 < E i * d + W i k * E k := fun i h1 h2 => by
      have := Int.mul_pos h1 h2
      have := Int.mul_nonneg (h.e0 i) (Int.le_of_lt hd)
      omega
    have up4 : ∀ i j, 0 < W i k → 0 < W k j → 0 < W i j * d + W i k * W k j := fun i j h1 h2 => by
      have := Int.mul_pos h1 h2
      have := Int.mul_nonneg (h.w0 i j) (Int.le_of_lt hd)
      omega
    have hk : k < 4 := by omega
    obtain ⟨i, b1, b2, b3, b4⟩ := h.out (fun x => x = k ∨ (k < x ∧ T x)) ⟨i0, by omega, a2, .inr ⟨by omega, a3⟩⟩
    rcases b3 with e | ⟨b3, b5⟩
    · -- the way leads out of k itself
      subst e
      obtain ⟨i', c1, c2, ⟨c3, c5⟩, c4⟩ := h.out (fun x => i < x ∧ T x) ⟨i0, by omega, a2, by omega, a3⟩
      rcases c4 with c4 | ⟨j', d1, d2, d3, d4⟩
      · exact ⟨i', by omega, c2, c5, .inl (up1 i' c4)⟩
      · by_cases e : j' = i
        · subst e
          rcases b4 with b4 | ⟨j, f1, f2, f3, f4⟩
          · exact ⟨i', by omega, c2, c5, .inl (up3 i' d4 b4)⟩
          · have hj : j ≠ j' := fun z => f3 (.inl z)
            exact ⟨i', by omega, c2, c5, .inr ⟨j, by omega, f2, fun z => f3 (.inr ⟨by omega, z⟩), up4 i' j d4 f4⟩⟩
        · exact ⟨i', by omega, c2, c5, .inr ⟨j', by omega, d2, fun z => d3 ⟨by omega, z⟩, up2 i' j' d4⟩⟩
    · rcases b4 with b4 | ⟨j, f1, f2, f3, f4⟩
      · exact ⟨i, by omega, b2, b5, .inl (up1 i b4)⟩
      · have hj : j ≠ k := fun z => f3 (.inl z)
        exact ⟨i, by omega, b2, b5, .inr ⟨j, by omega, f2, fun z => f3 (.inr ⟨by omega, z⟩), up2 i j f4⟩⟩
theorem Ex.piv {k : Nat} {W : Nat → Nat → Int} {E : Nat → Int} (h : Ex k W E) (hk : k < 4) : 0 < E k ∨ ∃ j, k < j ∧ j < 4 ∧ 0 < W k j := by
  obtain ⟨i, b1, b2, b3, b4⟩ := h.out (fun x => x = k) ⟨k, Nat.le_refl k, hk, rfl⟩
  subst b3
  rcases b4 with b4 | ⟨j, f1, f2, f3, f4⟩
  · exact .inl b4
  · exact .inr ⟨j, by omega, f2, f4⟩
theorem Ex.s0 {W : Nat → Nat → Int} {E : Nat → Int} (h : Ex 0 W E) : 0 < E 0 + W 0 1 + W 0 2 + W 0 3 := by
  have := h.w0 0 1
  have := h.w0 0 2
  have := h.w0 0 3
  have := h.e0 0
  rcases h.piv (by decide) with q | ⟨j, q1, q2, q3⟩
  · omega
  · have : j = 1 ∨ j = 2 ∨ j = 3 := by omega
    rcases this with rfl | rfl | rfl <;> omega
theorem Ex.s1 {W : Nat → Nat → Int} {E : Nat → Int} (h : Ex 1 W E) : 0 < E 1 + W 1 2 + W 1 3 := by
  have := h.w0 1 2
  have := h.w0 1 3
  have := h.e0 1
  rcases h.piv (by decide) with q | ⟨j, q1, q2, q3⟩
  · omega
  · have : j = 2 ∨ j = 3 := by omega
    rcases this with rfl | rfl <;> omega
theorem Ex.s2 {W : Nat → Nat → Int} {E : Nat → Int} (h : Ex 2 W E) : 0 < E 2 + W 2 3 := by
  have := h.w0 2 3
  have := h.e0 2
  rcases h.piv (by decide) with q | ⟨j, q1, q2, q3⟩
  · omega
  · have : j = 3 := by omega
    subst this
    omega
theorem Ex.s3 {W : Nat → Nat → Int} {E : Nat → Int} (h : Ex 3 W E) : 0 < E 3 := by
  rcases h.piv (by decide) with q | ⟨j, q1, q2, q3⟩
  · exact q
  · omega
/-- a table of exits -/
structure Kf (a : Nat → Nat → Int) (W : Nat → Nat → Int) (E : Nat → Int) : Prop where
  off : ∀ i j, i < 4 → j < 4 → i ≠ j → a i j = - W i j
  d0 : a 0 0 = E 0 + W 0 1 + W 0 2 + W 0 3
  d1 : a 1 1 = E 1 + W 1 0 + W 1 2 + W 1 3
  d2 : a 2 2 = E 2 + W 2 0 + W 2 1 + W 2 3
  d3 : a 3 3 = E 3 + W 3 0 + W 3 1 + W 3 2
theorem pos_of {a b : Int} (h : 0 < a * b) (ha : 0 < a) : 0 < b := by
  by_cases c : 0 < b
  · exact c
  · have := Int.mul_le_mul_of_nonneg_left (Int.not_lt.mp c) (Int.le_of_lt ha)
    rw [Int.mul_zero] at this
    omega
theorem alg1 (d a b c e : Int) : d * d * (a * b - c * e) = d * a * (d * b) - d * c * (d * e) := by grind
/-- the leading pivots, and the last -/
theorem four_pos {W : Nat → Nat → Int} {E : Nat → Int} (h : Ex 0 W E) {a : Nat → Nat → Int} (k : Kf a W E) :
    0 < a 0 0 ∧ 0 < det2 (a 0 0) (a 0 1) (a 1 0) (a 1 1) ∧ 0 < det3 (a 0 0) (a 0 1) (a 0 2) (a 1 0) (a 1 1) (a 1 2) (a 2 0) (a 2 1) (a 2 2) ∧ 0 < det4 (a 0 0) (a 0 1) (a 0 2) (a 0 3) (a 1 0) (a 1 1) (a 1 2) (a 1 3) (a 2 0) (a 2 1) (a 2 2) (a 2 3) (a 3 0) (a 3 1) (a 3 2) (a 3 3) := by
  have p0 : 0 < a 0 0 := by rw [k.d0]; exact h.s0
  have h1 := h.next p0
  have o : ∀ i j, i < 4 → j < 4 → i ≠ j → a i j = - W i j := k.off
  -- behind one turn
  have b12 : a 1 2 * a 0 0 - a 1 0 * a 0 2 = -(W 1 2 * a 0 0 + W 1 0 * W 0 2) := by rw [o 1 2 (by decide) (by decide) (by decide), o 1 0 (by decide) (by decide) (by decide), o 0 2 (by decide) (by decide) (by decide)]; grind
  have b13 : a 1 3 * a 0 0 - a 1 0 * a 0 3 = -(W 1 3 * a 0 0 + W 1 0 * W 0 3) := by rw [o 1 3 (by decide) (by decide) (by decide), o 1 0 (by decide) (by decide) (by decide), o 0 3 (by decide) (by decide) (by decide)]; grind
  have b21 : a 2 1 * a 0 0 - a 2 0 * a 0 1 = -(W 2 1 * a 0 0 + W 2 0 * W 0 1) := by rw [o 2 1 (by decide) (by decide) (by decide), o 2 0 (by decide) (by decide) (by decide), o 0 1 (by decide) (by decide) (by decide)]; grind
  have b23 : a 2 3 * a 0 0 - a 2 0 * a 0 3 = -(W 2 3 * a 0 0 + W 2 0 * W 0 3) := by rw [o 2 3 (by decide) (by decide) (by decide), o 2 0 (by decide) (by decide) (by decide), o 0 3 (by decide) (by decide) (by decide)]; grind
  have b31 : a 3 1 * a 0 0 - a 3 0 * a 0 1 = -(W 3 1 * a 0 0 + W 3 0 * W 0 1) := by rw [o 3 1 (by decide) (by decide) (by decide), o 3 0 (by decide) (by decide) (by decide), o 0 1 (by decide) (by decide) (by decide)]; grind
  have b32 : a 3 2 * a 0 0 - a 3 0 * a 0 2 = -(W 3 2 * a 0 0 + W 3 0 * W 0 2) := by rw [o 3 2 (by decide) (by decide) (by decide), o 3 0 (by decide) (by decide) (by decide), o 0 2 (by decide) (by decide) (by decide)]; grind
  have b11 : a 1 1 * a 0 0 - a 1 0 * a 0 1 = (E 1 * a 0 0 + W 1 0 * E 0) + (W 1 2 * a 0 0 + W 1 0 * W 0 2) + (W 1 3 * a 0 0 + W 1 0 * W 0 3) := by rw [o 1 0 (by decide) (by decide) (by decide), o 0 1 (by decide) (by decide) (by decide), k.d1, k.d0]; grind
  have b22 : a 2 2 * a 0 0 - a 2 0 * a 0 2 = (E 2 * a 0 0 + W 2 0 * E 0) + (W 2 1 * a 0 0 + W 2 0 * W 0 1) + (W 2 3 * a 0 0 + W 2 0 * W 0 3) := by rw [o 2 0 (by decide) (by decide) (by decide), o 0 2 (by decide) (by decide) (by decide), k.d2, k.d0]; grind
  have b33 : a 3 3 * a 0 0 - a 3 0 * a 0 3 = (E 3 * a 0 0 + W 3 0 * E 0) + (W 3 1 * a 0 0 + W 3 0 * W 0 1) + (W 3 2 * a 0 0 + W 3 0 * W 0 2) := by rw [o 3 0 (by decide) (by decide) (by decide), o 0 3 (by decide) (by decide) (by decide), k.d3, k.d0]; grind
  have p1 : 0 < a 1 1 * a 0 0 - a 1 0 * a 0 1 := by rw [b11]; exact h1.s1
  have h2 := h1.next p1
  have q2 : 0 < ((E 2 * a 0 0 + W 2 0 * E 0) * (a 1 1 * a 0 0 - a 1 0 * a 0 1) + (W 2 1 * a 0 0 + W 2 0 * W 0 1) * (E 1 * a 0 0 + W 1 0 * E 0)) + ((W 2 3 * a 0 0 + W 2 0 * W 0 3) * (a 1 1 * a 0 0 - a 1 0 * a 0 1) + (W 2 1 * a 0 0 + W 2 0 * W 0 1) * (W 1 3 * a 0 0 + W 1 0 * W 0 3)) := h2.s2
  have q3 : 0 < ((E 3 * a 0 0 + W 3 0 * E 0) * (a 1 1 * a 0 0 - a 1 0 * a 0 1) + (W 3 1 * a 0 0 + W 3 0 * W 0 1) * (E 1 * a 0 0 + W 1 0 * E 0)) * (((E 2 * a 0 0 + W 2 0 * E 0) * (a 1 1 * a 0 0 - a 1 0 * a 0 1) + (W 2 1 * a 0 0 + W 2 0 * W 0 1) * (E 1 * a 0 0 + W 1 0 * E 0)) + ((W 2 3 * a 0 0 + W 2 0 * W 0 3) * (a 1 1 * a 0 0 - a 1 0 * a 0 1) + (W 2 1 * a 0 0 + W 2 0 * W 0 1) * (W 1 3 * a 0 0 + W 1 0 * W 0 3)))
      + ((W 3 2 * a 0 0 + W 3 0 * W 0 2) * (a 1 1 * a 0 0 - a 1 0 * a 0 1) + (W 3 1 * a 0 0 + W 3 0 * W 0 1) * (W 1 2 * a 0 0 + W 1 0 * W 0 2)) * ((E 2 * a 0 0 + W 2 0 * E 0) * (a 1 1 * a 0 0 - a 1 0 * a 0 1) + (W 2 1 * a 0 0 + W 2 0 * W 0 1) * (E 1 * a 0 0 + W 1 0 * E 0)) := (h2.next q2).s3
  have s3 := syl3 (a 0 0) (a 0 1) (a 0 2) (a 1 0) (a 1 1) (a 1 2) (a 2 0) (a 2 1) (a 2 2)
  have s33 := syl3 (a 0 0) (a 0 1) (a 0 3) (a 1 0) (a 1 1) (a 1 3) (a 3 0) (a 3 1) (a 3 3)
  have s32 := syl3 (a 0 0) (a 0 1) (a 0 2) (a 1 0) (a 1 1) (a 1 2) (a 3 0) (a 3 1) (a 3 2)
  have s23 := syl3 (a 0 0) (a 0 1) (a 0 3) (a 1 0) (a 1 1) (a 1 3) (a 2 0) (a 2 1) (a 2 3)
  have s4 := syl4 (a 0 0) (a 0 1) (a 0 2) (a 0 3) (a 1 0) (a 1 1) (a 1 2) (a 1 3) (a 2 0) (a 2 1) (a 2 2) (a 2 3) (a 3 0) (a 3 1) (a 3 2) (a 3 3)
  have e2 : det2 (a 0 0) (a 0 1) (a 1 0) (a 1 1) = a 1 1 * a 0 0 - a 1 0 * a 0 1 := by unfold det2; grind
  refine ⟨p0, by rw [e2]; exact p1, ?_⟩
  rw [b22, b11, b21, b12] at s3
  rw [b33, b11, b31, b13] at s33
  rw [b32, b11, b31, b12] at s32
  rw [b23, b11, b21, b13] at s23
  rw [b11] at q2 q3 p1 s4
  clear h h1 h2 k o b12 b13 b21 b23 b31 b32 b11 b22 b33 e2
  generalize det3 (a 0 0) (a 0 1) (a 0 2) (a 1 0) (a 1 1) (a 1 2) (a 2 0) (a 2 1) (a 2 2) = D3 at *
  generalize det3 (a 0 0) (a 0 1) (a 0 3) (a 1 0) (a 1 1) (a 1 3) (a 3 0) (a 3 1) (a 3 3) = D33 at *
  generalize det3 (a 0 0) (a 0 1) (a 0 2) (a 1 0) (a 1 1) (a 1 2) (a 3 0) (a 3 1) (a 3 2) = D32 at *
  generalize det3 (a 0 0) (a 0 1) (a 0 3) (a 1 0) (a 1 1) (a 1 3) (a 2 0) (a 2 1) (a 2 3) = D23 at *
  generalize det4 (a 0 0) (a 0 1) (a 0 2) (a 0 3) (a 1 0) (a 1 1) (a 1 2) (a 1 3) (a 2 0) (a 2 1) (a 2 2) (a 2 3) (a 3 0) (a 3 1) (a 3 2) (a 3 3) = D4 at *
  generalize W 1 2 * a 0 0 + W 1 0 * W 0 2 = w12 at *
  generalize W 1 3 * a 0 0 + W 1 0 * W 0 3 = w13 at *
  generalize W 2 1 * a 0 0 + W 2 0 * W 0 1 = w21 at *
  generalize W 2 3 * a 0 0 + W 2 0 * W 0 3 = w23 at *
  generalize W 3 1 * a 0 0 + W 3 0 * W 0 1 = w31 at *
  generalize W 3 2 * a 0 0 + W 3 0 * W 0 2 = w32 at *
  generalize E 1 * a 0 0 + W 1 0 * E 0 = x1 at *
  generalize E 2 * a 0 0 + W 2 0 * E 0 = x2 at *
  generalize E 3 * a 0 0 + W 3 0 * E 0 = x3 at *
  generalize a 0 0 = d at *
  have p3 : 0 < d * D3 := by
    rw [← s3]
    have e : (x2 + w21 + w23) * (x1 + w12 + w13) - -w21 * -w12 = x2 * (x1 + w12 + w13) + w21 * x1 + (w23 * (x1 + w12 + w13) + w21 * w13) := by grind
    rw [e]
    exact q2
  refine ⟨pos_of p3 p0, ?_⟩
  have p4 : 0 < d * d * (x1 + w12 + w13) * D4 := by
    have e : d * d * (x1 + w12 + w13) * D4 = (d * D33) * (d * D3) - (d * D32) * (d * D23) := by rw [Int.mul_assoc (d * d), ← s4, alg1]
    rw [e, ← s33, ← s3, ← s32, ← s23]
    have e2 : ((x3 + w31 + w32) * (x1 + w12 + w13) - -w31 * -w13) * ((x2 + w21 + w23) * (x1 + w12 + w13) - -w21 * -w12) - (-w32 * (x1 + w12 + w13) - -w31 * -w12) * (-w23 * (x1 + w12 + w13) - -w21 * -w13)
      = (x3 * (x1 + w12 + w13) + w31 * x1) * (x2 * (x1 + w12 + w13) + w21 * x1 + (w23 * (x1 + w12 + w13) + w21 * w13)) + (w32 * (x1 + w12 + w13) + w31 * w12) * (x2 * (x1 + w12 + w13) + w21 * x1) := by grind
    rw [e2]
    exact q3
  exact pos_of p4 (Int.mul_pos (Int.mul_pos p0 p0) p1)
end FW
set_option Elab.async false
set_option linter.all false
set_option autoImplicit false
set_option maxRecDepth 100000
set_option maxHeartbeats 1000000
/-! N3: the tables of a round walk: pivots, sizes. -/
namespace FW
theorem bars1 (a : Nat → Nat → Int) {i j : Nat} (hi : 0 < i) (hj : 0 < j) : (bars a 1).1 i j = a i j * a 0 0 - a i 0 * a 0 j := by
  show (if 0 < i ∧ 0 < j then (a i j * a 0 0 - a i 0 * a 0 j) / 1 else a i j) = _
  rw [if_pos ⟨hi, hj⟩, Int.ediv_one]
theorem bars2 (a : Nat → Nat → Int) (h0 : a 0 0 ≠ 0) {i j : Nat} (hi : 1 < i) (hj : 1 < j) : (bars a 2).1 i j = det3 (a 0 0) (a 0 1) (a 0 j) (a 1 0) (a 1 1) (a 1 j) (a i 0) (a i 1) (a i j) := by
  show (if 1 < i ∧ 1 < j then ((bars a 1).1 i j * (bars a 1).1 1 1 - (bars a 1).1 i 1 * (bars a 1).1 1 j) / (a 0 0) else (bars a 1).1 i j) = _
  rw [if_pos ⟨hi, hj⟩, bars1 a (by omega) (by omega), bars1 a (by decide) (by decide), bars1 a (by omega) (by decide), bars1 a (by decide) (by omega), syl3, Int.mul_ediv_cancel_left _ h0]
theorem bars3 (a : Nat → Nat → Int) (h0 : a 0 0 ≠ 0) (h1 : a 1 1 * a 0 0 - a 1 0 * a 0 1 ≠ 0) : (bars a 3).1 3 3 = det4 (a 0 0) (a 0 1) (a 0 2) (a 0 3) (a 1 0) (a 1 1) (a 1 2) (a 1 3) (a 2 0) (a 2 1) (a 2 2) (a 2 3) (a 3 0) (a 3 1) (a 3 2) (a 3 3) := by
  show (if 2 < 3 ∧ 2 < 3 then ((bars a 2).1 3 3 * (bars a 2).1 2 2 - (bars a 2).1 3 2 * (bars a 2).1 2 3) / ((bars a 1).1 1 1) else (bars a 2).1 3 3) = _
  rw [if_pos (by decide), bars2 a h0 (by decide) (by decide), bars2 a h0 (by decide) (by decide), bars2 a h0 (by decide) (by decide), bars2 a h0 (by decide) (by decide), bars1 a (by decide) (by decide), syl4, Int.mul_ediv_cancel_left _ h1]
theorem bars_congr {m : Nat} {a b : Nat → Nat → Int} (h : ∀ i j, i < m → j < m → a i j = b i j) : ∀ k, k < m → (∀ i j, i < m → j < m → (bars a k).1 i j = (bars b k).1 i j) ∧ (bars a k).2 = (bars b k).2
  | 0, _ => ⟨h, rfl⟩
  | k + 1, hk => by
    obtain ⟨h1, h2⟩ := bars_congr h k (by omega)
    refine ⟨fun i j hi hj => ?_, h1 k k (by omega) (by omega)⟩
    show (if k < i ∧ k < j then _ / _ else _) = (if k < i ∧ k < j then _ / _ else _)
    rw [h1 i j hi hj, h1 k k (by omega) (by omega), h1 i k hi (by omega), h1 k j (by omega) hj, h2]
def sB : Nat → Nat
  | 0 => 4
  | k + 1 => 2 * sB k + 1
theorem bars_sz {m : Nat} {a : Nat → Nat → Int} (h : ∀ i j, i < m → j < m → (a i j).natAbs < 2 ^ 4) : ∀ k, k < m → ∀ i j, i < m → j < m → ((bars a k).1 i j).natAbs < 2 ^ sB k
  | 0, _, i, j, hi, hj => h i j hi hj
  | k + 1, hk, i, j, hi, hj => by
    have ih := bars_sz h k (by omega)
    show (if k < i ∧ k < j then _ / _ else _ : Int).natAbs < 2 ^ (2 * sB k + 1)
    split
    · refine Nat.lt_of_le_of_lt (Int.natAbs_ediv_le_natAbs _ _) ?_
      have m1 : ((bars a k).1 i j * (bars a k).1 k k).natAbs < 2 ^ (2 * sB k) := by
        rw [Int.natAbs_mul, Nat.two_mul, Nat.pow_add]
        exact Nat.mul_lt_mul'' (ih i j hi hj) (ih k k (by omega) (by omega))
      have m2 : ((bars a k).1 i k * (bars a k).1 k j).natAbs < 2 ^ (2 * sB k) := by
        rw [Int.natAbs_mul, Nat.two_mul, Nat.pow_add]
        exact Nat.mul_lt_mul'' (ih i k hi (by omega)) (ih k j (by omega) hj)
      rw [Nat.pow_succ]
      omega
    · exact Nat.lt_of_lt_of_le (ih i j hi hj) (Nat.pow_le_pow_right (by decide) (by omega))
/-! ### the padded table -/
def pad (m : Nat) (a : Nat → Nat → Int) (i j : Nat) : Int := if i < m ∧ j < m then a i j else if i = j then 1 else 0
def wOf (r : Nat → Nat → Int) (y m i j : Nat) : Int := if i < m ∧ j < m then r (oth y i) (oth y j) else 0
def eOf (r : Nat → Nat → Int) (y m i : Nat) : Int := if i < m then r (oth y i) y else 1
theorem sumN_pad (m : Nat) (f : Nat → Int) : ∀ M, m ≤ M → sumN M (fun j => if j < m then f j else 0) = sumN m f := by
  intro M hM
  induction M with
  | zero =>
    have : m = 0 := by omega
    subst this
    rfl
  | succ M ih =>
    rw [sumN_succ]
    by_cases e : m = M + 1
    · subst e
      rw [if_pos (by omega), sumN_succ]
      congr 1
      unfold sumN
      rw [List.map_congr_left fun k hk => if_pos (by have := List.mem_range.mp hk; omega)]
    · rw [if_neg (by omega), ih (by omega), Int.add_zero]
theorem sumN4 (f : Nat → Int) : sumN 4 f = f 0 + f 1 + f 2 + f 3 := by
  rw [sumN_succ, sumN_succ, sumN_succ, sumN_succ, sumN_zero, Int.zero_add]
section
variable {n : Nat} {r : Nat → Nat → Int} {z : Int} {y : Nat}
theorem row_sum (h : Good n r z) (hy : y < n) {x : Nat} (hx : x < n) : z = r x y + sumN (n - 1) fun j => r x (oth y j) := by
  have h1 := sum_filter_ne (r x) y n
  rw [filter_ne, if_pos hy, if_pos hy, h.sum x hx] at h1
  have h2 : sumN (n - 1) (fun j => r x (oth y j)) = ((List.range (n - 1)).map fun i => r x (oth y i)).sum := rfl
  omega
theorem pad_kf (h : Good n r z) (hy : y < n) : Kf (pad (n - 1) (lap r z y)) (wOf r y (n - 1)) (eOf r y (n - 1)) := by
  have h5 := h.n5
  have dg : ∀ i, i < 4 → pad (n - 1) (lap r z y) i i + wOf r y (n - 1) i i = eOf r y (n - 1) i + (wOf r y (n - 1) i 0 + wOf r y (n - 1) i 1 + wOf r y (n - 1) i 2 + wOf r y (n - 1) i 3) + if i < n - 1 then 0 else 0 := fun i hi => by
    by_cases c : i < n - 1
    · have e := row_sum h hy (oth_lt hy c)
      rw [← sumN_pad (n - 1) _ 4 (by omega), sumN4] at e
      unfold pad wOf eOf lap
      simp only [c, true_and, and_true, if_true]
      omega
    · unfold pad wOf eOf
      simp only [c, false_and, and_false, if_false]
      simp
  refine ⟨fun i j hi hj hij => ?_, ?_, ?_, ?_, ?_⟩
  · unfold pad wOf lap
    by_cases c : i < n - 1 ∧ j < n - 1
    · rw [if_pos c, if_pos c, if_neg hij]
      omega
    · rw [if_neg c, if_neg c, if_neg hij]
      omega
  · have := dg 0 (by decide)
    simp at this
    omega
  · have := dg 1 (by decide)
    simp at this
    omega
  · have := dg 2 (by decide)
    simp at this
    omega
  · have := dg 3 (by decide)
    simp at this
    omega
theorem oth_onto {x : Nat} (hx : x < n) (hne : x ≠ y) (hy : y < n) : ∃ j, j < n - 1 ∧ oth y j = x := by
  refine ⟨if x < y then x else x - 1, ?_, ?_⟩
  · split <;> omega
  · unfold oth
    by_cases c : x < y
    · rw [if_pos c, if_pos c]
    · rw [if_neg c, if_neg (by omega)]
      omega
theorem oth_ne {i : Nat} : oth y i ≠ y := by
  unfold oth
  split <;> omega
theorem pad_ex (h : Good n r z) (hy : y < n) : Ex 0 (wOf r y (n - 1)) (eOf r y (n - 1)) := by
  have h5 := h.n5
  refine ⟨fun i j => ?_, fun i => ?_, fun T hT => ?_⟩
  · unfold wOf
    split
    · rename_i c
      exact h.nn _ _ (oth_lt hy c.1) (oth_lt hy c.2)
    · exact Int.le_refl 0
  · unfold eOf
    split
    · rename_i c
      exact h.nn _ _ (oth_lt hy c) hy
    · decide
  · obtain ⟨i0, _, a2, a3⟩ := hT
    by_cases c : i0 < n - 1
    · refine Classical.byContradiction fun no => ?_
      -- then from a place of T the way on stays in T
      have stay : ∀ x, (∃ i, i < n - 1 ∧ T i ∧ oth y i = x) → ∃ i, i < n - 1 ∧ T i ∧ oth y i = (x + 1) % n := by
        rintro x ⟨i, b1, b2, rfl⟩
        have hx := oth_lt hy b1
        have pos := h.on _ hx
        have hlt : (oth y i + 1) % n < n := Nat.mod_lt _ (by omega)
        by_cases e : (oth y i + 1) % n = y
        · refine absurd ⟨i, Nat.zero_le i, by omega, b2, .inl ?_⟩ no
          unfold eOf
          rw [if_pos b1]
          rw [e] at pos
          exact pos
        · obtain ⟨j, hj, ej⟩ := oth_onto hlt e hy
          by_cases t : T j
          · exact ⟨j, hj, t, ej⟩
          · refine absurd ⟨i, Nat.zero_le i, by omega, b2, .inr ⟨j, Nat.zero_le j, by omega, t, ?_⟩⟩ no
            unfold wOf
            rw [if_pos ⟨b1, hj⟩, ej]
            exact pos
      have all : ∀ k, ∃ i, i < n - 1 ∧ T i ∧ oth y i = (oth y i0 + k) % n := by
        intro k
        induction k with
        | zero => exact ⟨i0, c, a3, by rw [Nat.add_zero, Nat.mod_eq_of_lt (oth_lt hy c)]⟩
        | succ k ih =>
          obtain ⟨i, b1, b2, b3⟩ := stay _ ih
          exact ⟨i, b1, b2, by rw [b3, Nat.mod_add_mod]; rfl⟩
      obtain ⟨i, b1, b2, b3⟩ := all (n + y - oth y i0)
      have hx := oth_lt hy c
      have e : oth y i0 + (n + y - oth y i0) = y + n := by omega
      rw [e, Nat.add_mod_right, Nat.mod_eq_of_lt hy] at b3
      exact oth_ne b3
    · refine ⟨i0, Nat.zero_le _, a2, a3, .inl ?_⟩
      unfold eOf
      rw [if_neg c]
      decide
end
end FW
set_option Elab.async false
set_option linter.all false
set_option autoImplicit false
set_option maxRecDepth 100000
set_option maxHeartbeats 1000000
/-! M1: the rest of a round walk. -/
namespace FW
section
variable {n : Nat} {r : Nat → Nat → Int} {z : Int} {y : Nat}
theorem lap_sz (h : Good n r z) (hy : y < n) : ∀ i j, i < n - 1 → j < n - 1 → (lap r z y i j).natAbs < 2 ^ 4 := fun i j hi hj => by
  have h1 := h.nn _ _ (oth_lt hy hi) (oth_lt hy hj)
  have h2 := h.le (oth_lt hy hi) (oth_lt hy hj)
  have h3 := h.z10
  have h4 := h.z0
  unfold lap
  show _ < 16
  split <;> omega
theorem pad_eq (h : Good n r z) : ∀ i j, i < n - 1 → j < n - 1 → lap r z y i j = pad (n - 1) (lap r z y) i j := fun i j hi hj => by
  unfold pad
  rw [if_pos ⟨hi, hj⟩]
/-- the pivots -/
theorem piv_pos (h : Good n r z) (hy : y < n) : ∀ k, k < n - 1 → 0 < (bars (lap r z y) k).1 k k := fun k hk => by
  have h5 := h.n5
  obtain ⟨p0, p1, p2, p3⟩ := four_pos (pad_ex h hy) (pad_kf h hy)
  rw [(bars_congr (pad_eq h) k hk).1 k k hk hk]
  have e2 : ∀ a b c d : Int, det2 a b c d = d * a - c * b := fun a b c d => by unfold det2; grind
  have q1 := p1
  rw [e2] at q1
  have : k = 0 ∨ k = 1 ∨ k = 2 ∨ k = 3 := by omega
  rcases this with rfl | rfl | rfl | rfl
  · exact p0
  · rw [bars1 _ (by decide) (by decide)]
    exact q1
  · rw [bars2 _ (Int.ne_of_gt p0) (by decide) (by decide)]
    exact p2
  · rw [bars3 _ (Int.ne_of_gt p0) (Int.ne_of_gt q1)]
    exact p3
theorem sB_le : ∀ k, k < 4 → sB k ≤ 39 := by
  intro k hk
  have : k = 0 ∨ k = 1 ∨ k = 2 ∨ k = 3 := by omega
  rcases this with rfl | rfl | rfl | rfl <;> decide
theorem good_det (h : Good n r z) (hy : y < n) : DetOk (n - 1) (lap r z y) := by
  have h5 := h.n5
  exact ⟨fun k hk => piv_pos h hy k (by omega), fun k i j hk hi hj => Nat.lt_of_lt_of_le (bars_sz (lap_sz h hy) k hk i j hi hj) (Nat.pow_le_pow_right (by decide) (Nat.le_trans (sB_le k (by omega)) (by decide)))⟩
theorem tre_pos (h : Good n r z) (hy : y < n) : 0 < tre n r z y := by
  unfold tre detN
  split
  · decide
  · exact piv_pos h hy _ (by omega)
theorem tre_sz (h : Good n r z) (hy : y < n) : (tre n r z y).natAbs < 2 ^ 50 := by
  have h5 := h.n5
  unfold tre detN
  split
  · decide
  · exact Nat.lt_of_lt_of_le (bars_sz (lap_sz h hy) _ (by omega) _ _ (by omega) (by omega)) (Nat.pow_le_pow_right (by decide) (Nat.le_trans (sB_le _ (by omega)) (by decide)))
end
section
variable {r : Nat → Nat → Int} {z : Int} {y : Nat}
theorem val2 (h : Good 2 r z) (hy : y < 2) : tre 2 r z y = det1 (lap r z y 0 0) := by
  unfold det1
  rfl
theorem val3 (h : Good 3 r z) (hy : y < 3) : tre 3 r z y = det2 (lap r z y 0 0) (lap r z y 0 1) (lap r z y 1 0) (lap r z y 1 1) := by
  show (bars (lap r z y) 1).1 1 1 = _
  rw [bars1 _ (by decide) (by decide)]
  unfold det2
  grind
theorem val4 (h : Good 4 r z) (hy : y < 4) : tre 4 r z y = det3 (lap r z y 0 0) (lap r z y 0 1) (lap r z y 0 2) (lap r z y 1 0) (lap r z y 1 1) (lap r z y 1 2) (lap r z y 2 0) (lap r z y 2 1) (lap r z y 2 2) := by
  show (bars (lap r z y) 2).1 2 2 = _
  exact bars2 _ (Int.ne_of_gt (piv_pos h hy 0 (by decide))) (by decide) (by decide)
theorem val5 (h : Good 5 r z) (hy : y < 5) : tre 5 r z y = det4 (lap r z y 0 0) (lap r z y 0 1) (lap r z y 0 2) (lap r z y 0 3) (lap r z y 1 0) (lap r z y 1 1) (lap r z y 1 2) (lap r z y 1 3) (lap r z y 2 0) (lap r z y 2 1) (lap r z y 2 2) (lap r z y 2 3) (lap r z y 3 0) (lap r z y 3 1) (lap r z y 3 2) (lap r z y 3 3) := by
  show (bars (lap r z y) 3).1 3 3 = _
  have p1 := piv_pos h hy 1 (by decide)
  rw [bars1 _ (by decide) (by decide)] at p1
  exact bars3 _ (Int.ne_of_gt (piv_pos h hy 0 (by decide))) (Int.ne_of_gt p1)
theorem sumN1 (f : Nat → Int) : sumN 1 f = f 0 := by rw [sumN_succ, sumN_zero, Int.zero_add]
theorem sumN2 (f : Nat → Int) : sumN 2 f = f 0 + f 1 := by rw [sumN_succ, sumN1]
theorem sumN3 (f : Nat → Int) : sumN 3 f = f 0 + f 1 + f 2 := by rw [sumN_succ, sumN2]
theorem sumN5 (f : Nat → Int) : sumN 5 f = f 0 + f 1 + f 2 + f 3 + f 4 := by rw [sumN_succ, sumN4]
theorem tre2_0 (h : Good 2 r z) : tre 2 r z 0 = det1 (r 1 0) := by
  rw [val2 h (by decide)]
  have s1 := h.sum 1 (by decide)
  rw [sumN2] at s1
  have e00 : lap r z 0 0 0 = (r 1 0) := by
    show z - r 1 1 = _
    omega
  rw [e00]
theorem tre2_1 (h : Good 2 r z) : tre 2 r z 1 = det1 (r 0 1) := by
  rw [val2 h (by decide)]
  have s0 := h.sum 0 (by decide)
  rw [sumN2] at s0
  have e00 : lap r z 1 0 0 = (r 0 1) := by
    show z - r 0 0 = _
    omega
  rw [e00]
theorem tre3_0 (h : Good 3 r z) : tre 3 r z 0 = det2 (r 1 0 + r 1 2) (-r 1 2) (-r 2 1) (r 2 0 + r 2 1) := by
  rw [val3 h (by decide)]
  have s1 := h.sum 1 (by decide)
  rw [sumN3] at s1
  have s2 := h.sum 2 (by decide)
  rw [sumN3] at s2
  have e00 : lap r z 0 0 0 = (r 1 0 + r 1 2) := by
    show z - r 1 1 = _
    omega
  have e01 : lap r z 0 0 1 = (-r 1 2) := by
    show (0 : Int) - r 1 2 = _
    omega
  have e10 : lap r z 0 1 0 = (-r 2 1) := by
    show (0 : Int) - r 2 1 = _
    omega
  have e11 : lap r z 0 1 1 = (r 2 0 + r 2 1) := by
    show z - r 2 2 = _
    omega
  rw [e00, e01, e10, e11]
theorem tre3_1 (h : Good 3 r z) : tre 3 r z 1 = det2 (r 0 1 + r 0 2) (-r 0 2) (-r 2 0) (r 2 0 + r 2 1) := by
  rw [val3 h (by decide)]
  have s0 := h.sum 0 (by decide)
  rw [sumN3] at s0
  have s2 := h.sum 2 (by decide)
  rw [sumN3] at s2
  have e00 : lap r z 1 0 0 = (r 0 1 + r 0 2) := by
    show z - r 0 0 = _
    omega
  have e01 : lap r z 1 0 1 = (-r 0 2) := by
    show (0 : Int) - r 0 2 = _
    omega
  have e10 : lap r z 1 1 0 = (-r 2 0) := by
    show (0 : Int) - r 2 0 = _
    omega
  have e11 : lap r z 1 1 1 = (r 2 0 + r 2 1) := by
    show z - r 2 2 = _
    omega
  rw [e00, e01, e10, e11]
theorem tre3_2 (h : Good 3 r z) : tre 3 r z 2 = det2 (r 0 1 + r 0 2) (-r 0 1) (-r 1 0) (r 1 0 + r 1 2) := by
  rw [val3 h (by decide)]
  have s0 := h.sum 0 (by decide)
  rw [sumN3] at s0
  have s1 := h.sum 1 (by decide)
  rw [sumN3] at s1
  have e00 : lap r z 2 0 0 = (r 0 1 + r 0 2) := by
    show z - r 0 0 = _
    omega
  have e01 : lap r z 2 0 1 = (-r 0 1) := by
    show (0 : Int) - r 0 1 = _
    omega
  have e10 : lap r z 2 1 0 = (-r 1 0) := by
    show (0 : Int) - r 1 0 = _
    omega
  have e11 : lap r z 2 1 1 = (r 1 0 + r 1 2) := by
    show z - r 1 1 = _
    omega
  rw [e00, e01, e10, e11]
theorem tre4_0 (h : Good 4 r z) : tre 4 r z 0 = det3 (r 1 0 + r 1 2 + r 1 3) (-r 1 2) (-r 1 3) (-r 2 1) (r 2 0 + r 2 1 + r 2 3) (-r 2 3) (-r 3 1) (-r 3 2) (r 3 0 + r 3 1 + r 3 2) := by
  rw [val4 h (by decide)]
  have s1 := h.sum 1 (by decide)
  rw [sumN4] at s1
  have s2 := h.sum 2 (by decide)
  rw [sumN4] at s2
  have s3 := h.sum 3 (by decide)
  rw [sumN4] at s3
  have e00 : lap r z 0 0 0 = (r 1 0 + r 1 2 + r 1 3) := by
    show z - r 1 1 = _
    omega
  have e01 : lap r z 0 0 1 = (-r 1 2) := by
    show (0 : Int) - r 1 2 = _
    omega
  have e02 : lap r z 0 0 2 = (-r 1 3) := by
    show (0 : Int) - r 1 3 = _
    omega
  have e10 : lap r z 0 1 0 = (-r 2 1) := by
    show (0 : Int) - r 2 1 = _
    omega
  have e11 : lap r z 0 1 1 = (r 2 0 + r 2 1 + r 2 3) := by
    show z - r 2 2 = _
    omega
  have e12 : lap r z 0 1 2 = (-r 2 3) := by
    show (0 : Int) - r 2 3 = _
    omega
  have e20 : lap r z 0 2 0 = (-r 3 1) := by
    show (0 : Int) - r 3 1 = _
    omega
  have e21 : lap r z 0 2 1 = (-r 3 2) := by
    show (0 : Int) - r 3 2 = _
    omega
  have e22 : lap r z 0 2 2 = (r 3 0 + r 3 1 + r 3 2) := by
    show z - r 3 3 = _
    omega
  rw [e00, e01, e02, e10, e11, e12, e20, e21, e22]
theorem tre4_1 (h : Good 4 r z) : tre 4 r z 1 = det3 (r 0 1 + r 0 2 + r 0 3) (-r 0 2) (-r 0 3) (-r 2 0) (r 2 0 + r 2 1 + r 2 3) (-r 2 3) (-r 3 0) (-r 3 2) (r 3 0 + r 3 1 + r 3 2) := by
  rw [val4 h (by decide)]
  have s0 := h.sum 0 (by decide)
  rw [sumN4] at s0
  have s2 := h.sum 2 (by decide)
  rw [sumN4] at s2
  have s3 := h.sum 3 (by decide)
  rw [sumN4] at s3
  have e00 : lap r z 1 0 0 = (r 0 1 + r 0 2 + r 0 3) := by
    show z - r 0 0 = _
    omega
  have e01 : lap r z 1 0 1 = (-r 0 2) := by
    show (0 : Int) - r 0 2 = _
    omega
  have e02 : lap r z 1 0 2 = (-r 0 3) := by
    show (0 : Int) - r 0 3 = _
    omega
  have e10 : lap r z 1 1 0 = (-r 2 0) := by
    show (0 : Int) - r 2 0 = _
    omega
  have e11 : lap r z 1 1 1 = (r 2 0 + r 2 1 + r 2 3) := by
    show z - r 2 2 = _
    omega
  have e12 : lap r z 1 1 2 = (-r 2 3) := by
    show (0 : Int) - r 2 3 = _
    omega
  have e20 : lap r z 1 2 0 = (-r 3 0) := by
    show (0 : Int) - r 3 0 = _
    omega
  have e21 : lap r z 1 2 1 = (-r 3 2) := by
    show (0 : Int) - r 3 2 = _
    omega
  have e22 : lap r z 1 2 2 = (r 3 0 + r 3 1 + r 3 2) := by
    show z - r 3 3 = _
    omega
  rw [e00, e01, e02, e10, e11, e12, e20, e21, e22]
theorem tre4_2 (h : Good 4 r z) : tre 4 r z 2 = det3 (r 0 1 + r 0 2 + r 0 3) (-r 0 1) (-r 0 3) (-r 1 0) (r 1 0 + r 1 2 + r 1 3) (-r 1 3) (-r 3 0) (-r 3 1) (r 3 0 + r 3 1 + r 3 2) := by
  rw [val4 h (by decide)]
  have s0 := h.sum 0 (by decide)
  rw [sumN4] at s0
  have s1 := h.sum 1 (by decide)
  rw [sumN4] at s1
  have s3 := h.sum 3 (by decide)
  rw [sumN4] at s3
  have e00 : lap r z 2 0 0 = (r 0 1 + r 0 2 + r 0 3) := by
    show z - r 0 0 = _
    omega
  have e01 : lap r z 2 0 1 = (-r 0 1) := by
    show (0 : Int) - r 0 1 = _
    omega
  have e02 : lap r z 2 0 2 = (-r 0 3) := by
    show (0 : Int) - r 0 3 = _
    omega
  have e10 : lap r z 2 1 0 = (-r 1 0) := by
    show (0 : Int) - r 1 0 = _
    omega
  have e11 : lap r z 2 1 1 = (r 1 0 + r 1 2 + r 1 3) := by
    show z - r 1 1 = _
    omega
  have e12 : lap r z 2 1 2 = (-r 1 3) := by
    show (0 : Int) - r 1 3 = _
    omega
  have e20 : lap r z 2 2 0 = (-r 3 0) := by
    show (0 : Int) - r 3 0 = _
    omega
  have e21 : lap r z 2 2 1 = (-r 3 1) := by
    show (0 : Int) - r 3 1 = _
    omega
  have e22 : lap r z 2 2 2 = (r 3 0 + r 3 1 + r 3 2) := by
    show z - r 3 3 = _
    omega
  rw [e00, e01, e02, e10, e11, e12, e20, e21, e22]
theorem tre4_3 (h : Good 4 r z) : tre 4 r z 3 = det3 (r 0 1 + r 0 2 + r 0 3) (-r 0 1) (-r 0 2) (-r 1 0) (r 1 0 + r 1 2 + r 1 3) (-r 1 2) (-r 2 0) (-r 2 1) (r 2 0 + r 2 1 + r 2 3) := by
  rw [val4 h (by decide)]
  have s0 := h.sum 0 (by decide)
  rw [sumN4] at s0
  have s1 := h.sum 1 (by decide)
  rw [sumN4] at s1
  have s2 := h.sum 2 (by decide)
  rw [sumN4] at s2
  have e00 : lap r z 3 0 0 = (r 0 1 + r 0 2 + r 0 3) := by
    show z - r 0 0 = _
    omega
  have e01 : lap r z 3 0 1 = (-r 0 1) := by
    show (0 : Int) - r 0 1 = _
    omega
  have e02 : lap r z 3 0 2 = (-r 0 2) := by
    show (0 : Int) - r 0 2 = _
    omega
  have e10 : lap r z 3 1 0 = (-r 1 0) := by
    show (0 : Int) - r 1 0 = _
    omega
  have e11 : lap r z 3 1 1 = (r 1 0 + r 1 2 + r 1 3) := by
    show z - r 1 1 = _
    omega
  have e12 : lap r z 3 1 2 = (-r 1 2) := by
    show (0 : Int) - r 1 2 = _
    omega
  have e20 : lap r z 3 2 0 = (-r 2 0) := by
    show (0 : Int) - r 2 0 = _
    omega
  have e21 : lap r z 3 2 1 = (-r 2 1) := by
    show (0 : Int) - r 2 1 = _
    omega
  have e22 : lap r z 3 2 2 = (r 2 0 + r 2 1 + r 2 3) := by
    show z - r 2 2 = _
    omega
  rw [e00, e01, e02, e10, e11, e12, e20, e21, e22]
theorem tre5_0 (h : Good 5 r z) : tre 5 r z 0 = det4 (r 1 0 + r 1 2 + r 1 3 + r 1 4) (-r 1 2) (-r 1 3) (-r 1 4) (-r 2 1) (r 2 0 + r 2 1 + r 2 3 + r 2 4) (-r 2 3) (-r 2 4) (-r 3 1) (-r 3 2) (r 3 0 + r 3 1 + r 3 2 + r 3 4) (-r 3 4) (-r 4 1) (-r 4 2) (-r 4 3) (r 4 0 + r 4 1 + r 4 2 + r 4 3) := by
  rw [val5 h (by decide)]
  have s1 := h.sum 1 (by decide)
  rw [sumN5] at s1
  have s2 := h.sum 2 (by decide)
  rw [sumN5] at s2
  have s3 := h.sum 3 (by decide)
  rw [sumN5] at s3
  have s4 := h.sum 4 (by decide)
  rw [sumN5] at s4
  have e00 : lap r z 0 0 0 = (r 1 0 + r 1 2 + r 1 3 + r 1 4) := by
    show z - r 1 1 = _
    omega
  have e01 : lap r z 0 0 1 = (-r 1 2) := by
    show (0 : Int) - r 1 2 = _
    omega
  have e02 : lap r z 0 0 2 = (-r 1 3) := by
    show (0 : Int) - r 1 3 = _
    omega
  have e03 : lap r z 0 0 3 = (-r 1 4) := by
    show (0 : Int) - r 1 4 = _
    omega
  have e10 : lap r z 0 1 0 = (-r 2 1) := by
    show (0 : Int) - r 2 1 = _
    omega
  have e11 : lap r z 0 1 1 = (r 2 0 + r 2 1 + r 2 3 + r 2 4) := by
    show z - r 2 2 = _
    omega
  have e12 : lap r z 0 1 2 = (-r 2 3) := by
    show (0 : Int) - r 2 3 = _
    omega
  have e13 : lap r z 0 1 3 = (-r 2 4) := by
    show (0 : Int) - r 2 4 = _
    omega
  have e20 : lap r z 0 2 0 = (-r 3 1) := by
    show (0 : Int) - r 3 1 = _
    omega
  have e21 : lap r z 0 2 1 = (-r 3 2) := by
    show (0 : Int) - r 3 2 = _
    omega
  have e22 : lap r z 0 2 2 = (r 3 0 + r 3 1 + r 3 2 + r 3 4) := by
    show z - r 3 3 = _
    omega
  have e23 : lap r z 0 2 3 = (-r 3 4) := by
    show (0 : Int) - r 3 4 = _
    omega
  have e30 : lap r z 0 3 0 = (-r 4 1) := by
    show (0 : Int) - r 4 1 = _
    omega
  have e31 : lap r z 0 3 1 = (-r 4 2) := by
    show (0 : Int) - r 4 2 = _
    omega
  have e32 : lap r z 0 3 2 = (-r 4 3) := by
    show (0 : Int) - r 4 3 = _
    omega
  have e33 : lap r z 0 3 3 = (r 4 0 + r 4 1 + r 4 2 + r 4 3) := by
    show z - r 4 4 = _
    omega
  rw [e00, e01, e02, e03, e10, e11, e12, e13, e20, e21, e22, e23, e30, e31, e32, e33]
theorem tre5_1 (h : Good 5 r z) : tre 5 r z 1 = det4 (r 0 1 + r 0 2 + r 0 3 + r 0 4) (-r 0 2) (-r 0 3) (-r 0 4) (-r 2 0) (r 2 0 + r 2 1 + r 2 3 + r 2 4) (-r 2 3) (-r 2 4) (-r 3 0) (-r 3 2) (r 3 0 + r 3 1 + r 3 2 + r 3 4) (-r 3 4) (-r 4 0) (-r 4 2) (-r 4 3) (r 4 0 + r 4 1 + r 4 2 + r 4 3) := by
  rw [val5 h (by decide)]
  have s0 := h.sum 0 (by decide)
  rw [sumN5] at s0
  have s2 := h.sum 2 (by decide)
  rw [sumN5] at s2
  have s3 := h.sum 3 (by decide)
  rw [sumN5] at s3
  have s4 := h.sum 4 (by decide)
  rw [sumN5] at s4
  have e00 : lap r z 1 0 0 = (r 0 1 + r 0 2 + r 0 3 + r 0 4) := by
    show z - r 0 0 = _
    omega
  have e01 : lap r z 1 0 1 = (-r 0 2) := by
    show (0 : Int) - r 0 2 = _
    omega
  have e02 : lap r z 1 0 2 = (-r 0 3) := by
    show (0 : Int) - r 0 3 = _
    omega
  have e03 : lap r z 1 0 3 = (-r 0 4) := by
    show (0 : Int) - r 0 4 = _
    omega
  have e10 : lap r z 1 1 0 = (-r 2 0) := by
    show (0 : Int) - r 2 0 = _
    omega
  have e11 : lap r z 1 1 1 = (r 2 0 + r 2 1 + r 2 3 + r 2 4) := by
    show z - r 2 2 = _
    omega
  have e12 : lap r z 1 1 2 = (-r 2 3) := by
    show (0 : Int) - r 2 3 = _
    omega
  have e13 : lap r z 1 1 3 = (-r 2 4) := by
    show (0 : Int) - r 2 4 = _
    omega
  have e20 : lap r z 1 2 0 = (-r 3 0) := by
    show (0 : Int) - r 3 0 = _
    omega
  have e21 : lap r z 1 2 1 = (-r 3 2) := by
    show (0 : Int) - r 3 2 = _
    omega
  have e22 : lap r z 1 2 2 = (r 3 0 + r 3 1 + r 3 2 + r 3 4) := by
    show z - r 3 3 = _
    omega
  have e23 : lap r z 1 2 3 = (-r 3 4) := by
    show (0 : Int) - r 3 4 = _
    omega
  have e30 : lap r z 1 3 0 = (-r 4 0) := by
    show (0 : Int) - r 4 0 = _
    omega
  have e31 : lap r z 1 3 1 = (-r 4 2) := by
    show (0 : Int) - r 4 2 = _
    omega
  have e32 : lap r z 1 3 2 = (-r 4 3) := by
    show (0 : Int) - r 4 3 = _
    omega
  have e33 : lap r z 1 3 3 = (r 4 0 + r 4 1 + r 4 2 + r 4 3) := by
    show z - r 4 4 = _
    omega
  rw [e00, e01, e02, e03, e10, e11, e12, e13, e20, e21, e22, e23, e30, e31, e32, e33]
theorem tre5_2 (h : Good 5 r z) : tre 5 r z 2 = det4 (r 0 1 + r 0 2 + r 0 3 + r 0 4) (-r 0 1) (-r 0 3) (-r 0 4) (-r 1 0) (r 1 0 + r 1 2 + r 1 3 + r 1 4) (-r 1 3) (-r 1 4) (-r 3 0) (-r 3 1) (r 3 0 + r 3 1 + r 3 2 + r 3 4) (-r 3 4) (-r 4 0) (-r 4 1) (-r 4 3) (r 4 0 + r 4 1 + r 4 2 + r 4 3) := by
  rw [val5 h (by decide)]
  have s0 := h.sum 0 (by decide)
  rw [sumN5] at s0
  have s1 := h.sum 1 (by decide)
  rw [sumN5] at s1
  have s3 := h.sum 3 (by decide)
  rw [sumN5] at s3
  have s4 := h.sum 4 (by decide)
  rw [sumN5] at s4
  have e00 : lap r z 2 0 0 = (r 0 1 + r 0 2 + r 0 3 + r 0 4) := by
    show z - r 0 0 = _
    omega
  have e01 : lap r z 2 0 1 = (-r 0 1) := by
    show (0 : Int) - r 0 1 = _
    omega
  have e02 : lap r z 2 0 2 = (-r 0 3) := by
    show (0 : Int) - r 0 3 = _
    omega
  have e03 : lap r z 2 0 3 = (-r 0 4) := by
    show (0 : Int) - r 0 4 = _
    omega
  have e10 : lap r z 2 1 0 = (-r 1 0) := by
    show (0 : Int) - r 1 0 = _
    omega
  have e11 : lap r z 2 1 1 = (r 1 0 + r 1 2 + r 1 3 + r 1 4) := by
    show z - r 1 1 = _
    omega
  have e12 : lap r z 2 1 2 = (-r 1 3) := by
    show (0 : Int) - r 1 3 = _
    omega
  have e13 : lap r z 2 1 3 = (-r 1 4) := by
    show (0 : Int) - r 1 4 = _
    omega
  have e20 : lap r z 2 2 0 = (-r 3 0) := by
    show (0 : Int) - r 3 0 = _
    omega
  have e21 : lap r z 2 2 1 = (-r 3 1) := by
    show (0 : Int) - r 3 1 = _
    omega
  have e22 : lap r z 2 2 2 = (r 3 0 + r 3 1 + r 3 2 + r 3 4) := by
    show z - r 3 3 = _
    omega
  have e23 : lap r z 2 2 3 = (-r 3 4) := by
    show (0 : Int) - r 3 4 = _
    omega
  have e30 : lap r z 2 3 0 = (-r 4 0) := by
    show (0 : Int) - r 4 0 = _
    omega
  have e31 : lap r z 2 3 1 = (-r 4 1) := by
    show (0 : Int) - r 4 1 = _
    omega
  have e32 : lap r z 2 3 2 = (-r 4 3) := by
    show (0 : Int) - r 4 3 = _
    omega
  have e33 : lap r z 2 3 3 = (r 4 0 + r 4 1 + r 4 2 + r 4 3) := by
    show z - r 4 4 = _
    omega
  rw [e00, e01, e02, e03, e10, e11, e12, e13, e20, e21, e22, e23, e30, e31, e32, e33]
theorem tre5_3 (h : Good 5 r z) : tre 5 r z 3 = det4 (r 0 1 + r 0 2 + r 0 3 + r 0 4) (-r 0 1) (-r 0 2) (-r 0 4) (-r 1 0) (r 1 0 + r 1 2 + r 1 3 + r 1 4) (-r 1 2) (-r 1 4) (-r 2 0) (-r 2 1) (r 2 0 + r 2 1 + r 2 3 + r 2 4) (-r 2 4) (-r 4 0) (-r 4 1) (-r 4 2) (r 4 0 + r 4 1 + r 4 2 + r 4 3) := by
  rw [val5 h (by decide)]
  have s0 := h.sum 0 (by decide)
  rw [sumN5] at s0
  have s1 := h.sum 1 (by decide)
  rw [sumN5] at s1
  have s2 := h.sum 2 (by decide)
  rw [sumN5] at s2
  have s4 := h.sum 4 (by decide)
  rw [sumN5] at s4
  have e00 : lap r z 3 0 0 = (r 0 1 + r 0 2 + r 0 3 + r 0 4) := by
    show z - r 0 0 = _
    omega
  have e01 : lap r z 3 0 1 = (-r 0 1) := by
    show (0 : Int) - r 0 1 = _
    omega
  have e02 : lap r z 3 0 2 = (-r 0 2) := by
    show (0 : Int) - r 0 2 = _
    omega
  have e03 : lap r z 3 0 3 = (-r 0 4) := by
    show (0 : Int) - r 0 4 = _
    omega
  have e10 : lap r z 3 1 0 = (-r 1 0) := by
    show (0 : Int) - r 1 0 = _
    omega
  have e11 : lap r z 3 1 1 = (r 1 0 + r 1 2 + r 1 3 + r 1 4) := by
    show z - r 1 1 = _
    omega
  have e12 : lap r z 3 1 2 = (-r 1 2) := by
    show (0 : Int) - r 1 2 = _
    omega
  have e13 : lap r z 3 1 3 = (-r 1 4) := by
    show (0 : Int) - r 1 4 = _
    omega
  have e20 : lap r z 3 2 0 = (-r 2 0) := by
    show (0 : Int) - r 2 0 = _
    omega
  have e21 : lap r z 3 2 1 = (-r 2 1) := by
    show (0 : Int) - r 2 1 = _
    omega
  have e22 : lap r z 3 2 2 = (r 2 0 + r 2 1 + r 2 3 + r 2 4) := by
    show z - r 2 2 = _
    omega
  have e23 : lap r z 3 2 3 = (-r 2 4) := by
    show (0 : Int) - r 2 4 = _
    omega
  have e30 : lap r z 3 3 0 = (-r 4 0) := by
    show (0 : Int) - r 4 0 = _
    omega
  have e31 : lap r z 3 3 1 = (-r 4 1) := by
    show (0 : Int) - r 4 1 = _
    omega
  have e32 : lap r z 3 3 2 = (-r 4 2) := by
    show (0 : Int) - r 4 2 = _
    omega
  have e33 : lap r z 3 3 3 = (r 4 0 + r 4 1 + r 4 2 + r 4 3) := by
    show z - r 4 4 = _
    omega
  rw [e00, e01, e02, e03, e10, e11, e12, e13, e20, e21, e22, e23, e30, e31, e32, e33]
theorem tre5_4 (h : Good 5 r z) : tre 5 r z 4 = det4 (r 0 1 + r 0 2 + r 0 3 + r 0 4) (-r 0 1) (-r 0 2) (-r 0 3) (-r 1 0) (r 1 0 + r 1 2 + r 1 3 + r 1 4) (-r 1 2) (-r 1 3) (-r 2 0) (-r 2 1) (r 2 0 + r 2 1 + r 2 3 + r 2 4) (-r 2 3) (-r 3 0) (-r 3 1) (-r 3 2) (r 3 0 + r 3 1 + r 3 2 + r 3 4) := by
  rw [val5 h (by decide)]
  have s0 := h.sum 0 (by decide)
  rw [sumN5] at s0
  have s1 := h.sum 1 (by decide)
  rw [sumN5] at s1
  have s2 := h.sum 2 (by decide)
  rw [sumN5] at s2
  have s3 := h.sum 3 (by decide)
  rw [sumN5] at s3
  have e00 : lap r z 4 0 0 = (r 0 1 + r 0 2 + r 0 3 + r 0 4) := by
    show z - r 0 0 = _
    omega
  have e01 : lap r z 4 0 1 = (-r 0 1) := by
    show (0 : Int) - r 0 1 = _
    omega
  have e02 : lap r z 4 0 2 = (-r 0 2) := by
    show (0 : Int) - r 0 2 = _
    omega
  have e03 : lap r z 4 0 3 = (-r 0 3) := by
    show (0 : Int) - r 0 3 = _
    omega
  have e10 : lap r z 4 1 0 = (-r 1 0) := by
    show (0 : Int) - r 1 0 = _
    omega
  have e11 : lap r z 4 1 1 = (r 1 0 + r 1 2 + r 1 3 + r 1 4) := by
    show z - r 1 1 = _
    omega
  have e12 : lap r z 4 1 2 = (-r 1 2) := by
    show (0 : Int) - r 1 2 = _
    omega
  have e13 : lap r z 4 1 3 = (-r 1 3) := by
    show (0 : Int) - r 1 3 = _
    omega
  have e20 : lap r z 4 2 0 = (-r 2 0) := by
    show (0 : Int) - r 2 0 = _
    omega
  have e21 : lap r z 4 2 1 = (-r 2 1) := by
    show (0 : Int) - r 2 1 = _
    omega
  have e22 : lap r z 4 2 2 = (r 2 0 + r 2 1 + r 2 3 + r 2 4) := by
    show z - r 2 2 = _
    omega
  have e23 : lap r z 4 2 3 = (-r 2 3) := by
    show (0 : Int) - r 2 3 = _
    omega
  have e30 : lap r z 4 3 0 = (-r 3 0) := by
    show (0 : Int) - r 3 0 = _
    omega
  have e31 : lap r z 4 3 1 = (-r 3 1) := by
    show (0 : Int) - r 3 1 = _
    omega
  have e32 : lap r z 4 3 2 = (-r 3 2) := by
    show (0 : Int) - r 3 2 = _
    omega
  have e33 : lap r z 4 3 3 = (r 3 0 + r 3 1 + r 3 2 + r 3 4) := by
    show z - r 3 3 = _
    omega
  rw [e00, e01, e02, e03, e10, e11, e12, e13, e20, e21, e22, e23, e30, e31, e32, e33]
theorem sta2_0 (h : Good 2 r z) : sumN 2 (fun x => tre 2 r z x * r x 0) = z * tre 2 r z 0 := by
  have sy := h.sum 0 (by decide)
  rw [sumN2] at sy ⊢
  have st := stat2_0 (r 0 1) (r 1 0)
  rw [← tre2_0 h, ← tre2_1 h] at st
  clear h
  generalize tre 2 r z 0 = t0 at *
  generalize tre 2 r z 1 = t1 at *
  rw [← sy]
  grind
theorem sta2_1 (h : Good 2 r z) : sumN 2 (fun x => tre 2 r z x * r x 1) = z * tre 2 r z 1 := by
  have sy := h.sum 1 (by decide)
  rw [sumN2] at sy ⊢
  have st := stat2_1 (r 0 1) (r 1 0)
  rw [← tre2_0 h, ← tre2_1 h] at st
  clear h
  generalize tre 2 r z 0 = t0 at *
  generalize tre 2 r z 1 = t1 at *
  rw [← sy]
  grind
theorem sta3_0 (h : Good 3 r z) : sumN 3 (fun x => tre 3 r z x * r x 0) = z * tre 3 r z 0 := by
  have sy := h.sum 0 (by decide)
  rw [sumN3] at sy ⊢
  have st := stat3_0 (r 0 1) (r 0 2) (r 1 0) (r 1 2) (r 2 0) (r 2 1)
  rw [← tre3_0 h, ← tre3_1 h, ← tre3_2 h] at st
  clear h
  generalize tre 3 r z 0 = t0 at *
  generalize tre 3 r z 1 = t1 at *
  generalize tre 3 r z 2 = t2 at *
  rw [← sy]
  grind
theorem sta3_1 (h : Good 3 r z) : sumN 3 (fun x => tre 3 r z x * r x 1) = z * tre 3 r z 1 := by
  have sy := h.sum 1 (by decide)
  rw [sumN3] at sy ⊢
  have st := stat3_1 (r 0 1) (r 0 2) (r 1 0) (r 1 2) (r 2 0) (r 2 1)
  rw [← tre3_0 h, ← tre3_1 h, ← tre3_2 h] at st
  clear h
  generalize tre 3 r z 0 = t0 at *
  generalize tre 3 r z 1 = t1 at *
  generalize tre 3 r z 2 = t2 at *
  rw [← sy]
  grind
theorem sta3_2 (h : Good 3 r z) : sumN 3 (fun x => tre 3 r z x * r x 2) = z * tre 3 r z 2 := by
  have sy := h.sum 2 (by decide)
  rw [sumN3] at sy ⊢
  have st := stat3_2 (r 0 1) (r 0 2) (r 1 0) (r 1 2) (r 2 0) (r 2 1)
  rw [← tre3_0 h, ← tre3_1 h, ← tre3_2 h] at st
  clear h
  generalize tre 3 r z 0 = t0 at *
  generalize tre 3 r z 1 = t1 at *
  generalize tre 3 r z 2 = t2 at *
  rw [← sy]
  grind
theorem sta4_0 (h : Good 4 r z) : sumN 4 (fun x => tre 4 r z x * r x 0) = z * tre 4 r z 0 := by
  have sy := h.sum 0 (by decide)
  rw [sumN4] at sy ⊢
  have st := stat4_0 (r 0 1) (r 0 2) (r 0 3) (r 1 0) (r 1 2) (r 1 3) (r 2 0) (r 2 1) (r 2 3) (r 3 0) (r 3 1) (r 3 2)
  rw [← tre4_0 h, ← tre4_1 h, ← tre4_2 h, ← tre4_3 h] at st
  clear h
  generalize tre 4 r z 0 = t0 at *
  generalize tre 4 r z 1 = t1 at *
  generalize tre 4 r z 2 = t2 at *
  generalize tre 4 r z 3 = t3 at *
  rw [← sy]
  grind
theorem sta4_1 (h : Good 4 r z) : sumN 4 (fun x => tre 4 r z x * r x 1) = z * tre 4 r z 1 := by
  have sy := h.sum 1 (by decide)
  rw [sumN4] at sy ⊢
  have st := stat4_1 (r 0 1) (r 0 2) (r 0 3) (r 1 0) (r 1 2) (r 1 3) (r 2 0) (r 2 1) (r 2 3) (r 3 0) (r 3 1) (r 3 2)
  rw [← tre4_0 h, ← tre4_1 h, ← tre4_2 h, ← tre4_3 h] at st
  clear h
  generalize tre 4 r z 0 = t0 at *
  generalize tre 4 r z 1 = t1 at *
  generalize tre 4 r z 2 = t2 at *
  generalize tre 4 r z 3 = t3 at *
  rw [← sy]
  grind
theorem sta4_2 (h : Good 4 r z) : sumN 4 (fun x => tre 4 r z x * r x 2) = z * tre 4 r z 2 := by
  have sy := h.sum 2 (by decide)
  rw [sumN4] at sy ⊢
  have st := stat4_2 (r 0 1) (r 0 2) (r 0 3) (r 1 0) (r 1 2) (r 1 3) (r 2 0) (r 2 1) (r 2 3) (r 3 0) (r 3 1) (r 3 2)
  rw [← tre4_0 h, ← tre4_1 h, ← tre4_2 h, ← tre4_3 h] at st
  clear h
  generalize tre 4 r z 0 = t0 at *
  generalize tre 4 r z 1 = t1 at *
  generalize tre 4 r z 2 = t2 at *
  generalize tre 4 r z 3 = t3 at *
  rw [← sy]
  grind
theorem sta4_3 (h : Good 4 r z) : sumN 4 (fun x => tre 4 r z x * r x 3) = z * tre 4 r z 3 := by
  have sy := h.sum 3 (by decide)
  rw [sumN4] at sy ⊢
  have st := stat4_3 (r 0 1) (r 0 2) (r 0 3) (r 1 0) (r 1 2) (r 1 3) (r 2 0) (r 2 1) (r 2 3) (r 3 0) (r 3 1) (r 3 2)
  rw [← tre4_0 h, ← tre4_1 h, ← tre4_2 h, ← tre4_3 h] at st
  clear h
  generalize tre 4 r z 0 = t0 at *
  generalize tre 4 r z 1 = t1 at *
  generalize tre 4 r z 2 = t2 at *
  generalize tre 4 r z 3 = t3 at *
  rw [← sy]
  grind
theorem sta5_0 (h : Good 5 r z) : sumN 5 (fun x => tre 5 r z x * r x 0) = z * tre 5 r z 0 := by
  have sy := h.sum 0 (by decide)
  rw [sumN5] at sy ⊢
  have st := stat5_0 (r 0 1) (r 0 2) (r 0 3) (r 0 4) (r 1 0) (r 1 2) (r 1 3) (r 1 4) (r 2 0) (r 2 1) (r 2 3) (r 2 4) (r 3 0) (r 3 1) (r 3 2) (r 3 4) (r 4 0) (r 4 1) (r 4 2) (r 4 3)
  have m0 : det4 (r 1 0 + r 1 2 + r 1 3 + r 1 4) (-r 1 2) (-r 1 3) (-r 1 4) (-r 2 1) (r 2 0 + r 2 1 + r 2 3 + r 2 4) (-r 2 3) (-r 2 4) (-r 3 1) (-r 3 2) (r 3 0 + r 3 1 + r 3 2 + r 3 4) (-r 3 4) (-r 4 1) (-r 4 2) (-r 4 3) (r 4 0 + r 4 1 + r 4 2 + r 4 3) = tre 5 r z 0 := by
    have d1 : (r 1 0 + r 1 2 + r 1 3 + r 1 4) = (r 1 0 + r 1 2 + r 1 3 + r 1 4) := by omega
    have d2 : (r 2 0 + r 2 1 + r 2 3 + r 2 4) = (r 2 0 + r 2 1 + r 2 3 + r 2 4) := by omega
    have d3 : (r 3 0 + r 3 1 + r 3 2 + r 3 4) = (r 3 0 + r 3 1 + r 3 2 + r 3 4) := by omega
    have d4 : (r 4 0 + r 4 1 + r 4 2 + r 4 3) = (r 4 0 + r 4 1 + r 4 2 + r 4 3) := by omega
    rw [tre5_0 h]
  have m1 : det4 (r 0 1 + r 0 2 + r 0 3 + r 0 4) (-r 0 2) (-r 0 3) (-r 0 4) (-r 2 0) (r 2 0 + r 2 1 + r 2 3 + r 2 4) (-r 2 3) (-r 2 4) (-r 3 0) (-r 3 2) (r 3 0 + r 3 1 + r 3 2 + r 3 4) (-r 3 4) (-r 4 0) (-r 4 2) (-r 4 3) (r 4 0 + r 4 1 + r 4 2 + r 4 3) = tre 5 r z 1 := by
    have d0 : (r 0 1 + r 0 2 + r 0 3 + r 0 4) = (r 0 1 + r 0 2 + r 0 3 + r 0 4) := by omega
    have d2 : (r 2 0 + r 2 1 + r 2 3 + r 2 4) = (r 2 0 + r 2 1 + r 2 3 + r 2 4) := by omega
    have d3 : (r 3 0 + r 3 1 + r 3 2 + r 3 4) = (r 3 0 + r 3 1 + r 3 2 + r 3 4) := by omega
    have d4 : (r 4 0 + r 4 1 + r 4 2 + r 4 3) = (r 4 0 + r 4 1 + r 4 2 + r 4 3) := by omega
    rw [tre5_1 h]
  have m2 : det4 (r 0 1 + r 0 2 + r 0 3 + r 0 4) (-r 0 1) (-r 0 3) (-r 0 4) (-r 1 0) (r 1 0 + r 1 2 + r 1 3 + r 1 4) (-r 1 3) (-r 1 4) (-r 3 0) (-r 3 1) (r 3 0 + r 3 1 + r 3 2 + r 3 4) (-r 3 4) (-r 4 0) (-r 4 1) (-r 4 3) (r 4 0 + r 4 1 + r 4 2 + r 4 3) = tre 5 r z 2 := by
    have d0 : (r 0 1 + r 0 2 + r 0 3 + r 0 4) = (r 0 1 + r 0 2 + r 0 3 + r 0 4) := by omega
    have d1 : (r 1 0 + r 1 2 + r 1 3 + r 1 4) = (r 1 0 + r 1 2 + r 1 3 + r 1 4) := by omega
    have d3 : (r 3 0 + r 3 1 + r 3 2 + r 3 4) = (r 3 0 + r 3 1 + r 3 2 + r 3 4) := by omega
    have d4 : (r 4 0 + r 4 1 + r 4 2 + r 4 3) = (r 4 0 + r 4 1 + r 4 2 + r 4 3) := by omega
    rw [tre5_2 h]
  have m3 : det4 (r 0 1 + r 0 2 + r 0 3 + r 0 4) (-r 0 1) (-r 0 2) (-r 0 4) (-r 1 0) (r 1 0 + r 1 2 + r 1 3 + r 1 4) (-r 1 2) (-r 1 4) (-r 2 0) (-r 2 1) (r 2 0 + r 2 1 + r 2 3 + r 2 4) (-r 2 4) (-r 4 0) (-r 4 1) (-r 4 2) (r 4 0 + r 4 1 + r 4 2 + r 4 3) = tre 5 r z 3 := by
    have d0 : (r 0 1 + r 0 2 + r 0 3 + r 0 4) = (r 0 1 + r 0 2 + r 0 3 + r 0 4) := by omega
    have d1 : (r 1 0 + r 1 2 + r 1 3 + r 1 4) = (r 1 0 + r 1 2 + r 1 3 + r 1 4) := by omega
    have d2 : (r 2 0 + r 2 1 + r 2 3 + r 2 4) = (r 2 0 + r 2 1 + r 2 3 + r 2 4) := by omega
    have d4 : (r 4 0 + r 4 1 + r 4 2 + r 4 3) = (r 4 0 + r 4 1 + r 4 2 + r 4 3) := by omega
    rw [tre5_3 h]
  have m4 : det4 (r 0 1 + r 0 2 + r 0 3 + r 0 4) (-r 0 1) (-r 0 2) (-r 0 3) (-r 1 0) (r 1 0 + r 1 2 + r 1 3 + r 1 4) (-r 1 2) (-r 1 3) (-r 2 0) (-r 2 1) (r 2 0 + r 2 1 + r 2 3 + r 2 4) (-r 2 3) (-r 3 0) (-r 3 1) (-r 3 2) (r 3 0 + r 3 1 + r 3 2 + r 3 4) = tre 5 r z 4 := by
    have d0 : (r 0 1 + r 0 2 + r 0 3 + r 0 4) = (r 0 1 + r 0 2 + r 0 3 + r 0 4) := by omega
    have d1 : (r 1 0 + r 1 2 + r 1 3 + r 1 4) = (r 1 0 + r 1 2 + r 1 3 + r 1 4) := by omega
    have d2 : (r 2 0 + r 2 1 + r 2 3 + r 2 4) = (r 2 0 + r 2 1 + r 2 3 + r 2 4) := by omega
    have d3 : (r 3 0 + r 3 1 + r 3 2 + r 3 4) = (r 3 0 + r 3 1 + r 3 2 + r 3 4) := by omega
    rw [tre5_4 h]
  rw [m0, m1, m2, m3, m4] at st
  clear h
  generalize tre 5 r z 0 = t0 at *
  generalize tre 5 r z 1 = t1 at *
  generalize tre 5 r z 2 = t2 at *
  generalize tre 5 r z 3 = t3 at *
  generalize tre 5 r z 4 = t4 at *
  rw [← sy]
  grind
theorem sta5_1 (h : Good 5 r z) : sumN 5 (fun x => tre 5 r z x * r x 1) = z * tre 5 r z 1 := by
  have sy := h.sum 1 (by decide)
  rw [sumN5] at sy ⊢
  have st := stat5_0 (r 1 2) (r 1 3) (r 1 4) (r 1 0) (r 2 1) (r 2 3) (r 2 4) (r 2 0) (r 3 1) (r 3 2) (r 3 4) (r 3 0) (r 4 1) (r 4 2) (r 4 3) (r 4 0) (r 0 1) (r 0 2) (r 0 3) (r 0 4)
  have m0 : det4 (r 2 1 + r 2 3 + r 2 4 + r 2 0) (-r 2 3) (-r 2 4) (-r 2 0) (-r 3 2) (r 3 1 + r 3 2 + r 3 4 + r 3 0) (-r 3 4) (-r 3 0) (-r 4 2) (-r 4 3) (r 4 1 + r 4 2 + r 4 3 + r 4 0) (-r 4 0) (-r 0 2) (-r 0 3) (-r 0 4) (r 0 1 + r 0 2 + r 0 3 + r 0 4) = tre 5 r z 1 := by
    have d0 : (r 0 1 + r 0 2 + r 0 3 + r 0 4) = (r 0 1 + r 0 2 + r 0 3 + r 0 4) := by omega
    have d2 : (r 2 1 + r 2 3 + r 2 4 + r 2 0) = (r 2 0 + r 2 1 + r 2 3 + r 2 4) := by omega
    have d3 : (r 3 1 + r 3 2 + r 3 4 + r 3 0) = (r 3 0 + r 3 1 + r 3 2 + r 3 4) := by omega
    have d4 : (r 4 1 + r 4 2 + r 4 3 + r 4 0) = (r 4 0 + r 4 1 + r 4 2 + r 4 3) := by omega
    rw [rot4 (r 0 1 + r 0 2 + r 0 3 + r 0 4) (-r 0 2) (-r 0 3) (-r 0 4) (-r 2 0) (r 2 1 + r 2 3 + r 2 4 + r 2 0) (-r 2 3) (-r 2 4) (-r 3 0) (-r 3 2) (r 3 1 + r 3 2 + r 3 4 + r 3 0) (-r 3 4) (-r 4 0) (-r 4 2) (-r 4 3) (r 4 1 + r 4 2 + r 4 3 + r 4 0)]
    rw [tre5_1 h]
    rw [d2, d3, d4]
  have m1 : det4 (r 1 2 + r 1 3 + r 1 4 + r 1 0) (-r 1 3) (-r 1 4) (-r 1 0) (-r 3 1) (r 3 1 + r 3 2 + r 3 4 + r 3 0) (-r 3 4) (-r 3 0) (-r 4 1) (-r 4 3) (r 4 1 + r 4 2 + r 4 3 + r 4 0) (-r 4 0) (-r 0 1) (-r 0 3) (-r 0 4) (r 0 1 + r 0 2 + r 0 3 + r 0 4) = tre 5 r z 2 := by
    have d0 : (r 0 1 + r 0 2 + r 0 3 + r 0 4) = (r 0 1 + r 0 2 + r 0 3 + r 0 4) := by omega
    have d1 : (r 1 2 + r 1 3 + r 1 4 + r 1 0) = (r 1 0 + r 1 2 + r 1 3 + r 1 4) := by omega
    have d3 : (r 3 1 + r 3 2 + r 3 4 + r 3 0) = (r 3 0 + r 3 1 + r 3 2 + r 3 4) := by omega
    have d4 : (r 4 1 + r 4 2 + r 4 3 + r 4 0) = (r 4 0 + r 4 1 + r 4 2 + r 4 3) := by omega
    rw [rot4 (r 0 1 + r 0 2 + r 0 3 + r 0 4) (-r 0 1) (-r 0 3) (-r 0 4) (-r 1 0) (r 1 2 + r 1 3 + r 1 4 + r 1 0) (-r 1 3) (-r 1 4) (-r 3 0) (-r 3 1) (r 3 1 + r 3 2 + r 3 4 + r 3 0) (-r 3 4) (-r 4 0) (-r 4 1) (-r 4 3) (r 4 1 + r 4 2 + r 4 3 + r 4 0)]
    rw [tre5_2 h]
    rw [d1, d3, d4]
  have m2 : det4 (r 1 2 + r 1 3 + r 1 4 + r 1 0) (-r 1 2) (-r 1 4) (-r 1 0) (-r 2 1) (r 2 1 + r 2 3 + r 2 4 + r 2 0) (-r 2 4) (-r 2 0) (-r 4 1) (-r 4 2) (r 4 1 + r 4 2 + r 4 3 + r 4 0) (-r 4 0) (-r 0 1) (-r 0 2) (-r 0 4) (r 0 1 + r 0 2 + r 0 3 + r 0 4) = tre 5 r z 3 := by
    have d0 : (r 0 1 + r 0 2 + r 0 3 + r 0 4) = (r 0 1 + r 0 2 + r 0 3 + r 0 4) := by omega
    have d1 : (r 1 2 + r 1 3 + r 1 4 + r 1 0) = (r 1 0 + r 1 2 + r 1 3 + r 1 4) := by omega
    have d2 : (r 2 1 + r 2 3 + r 2 4 + r 2 0) = (r 2 0 + r 2 1 + r 2 3 + r 2 4) := by omega
    have d4 : (r 4 1 + r 4 2 + r 4 3 + r 4 0) = (r 4 0 + r 4 1 + r 4 2 + r 4 3) := by omega
    rw [rot4 (r 0 1 + r 0 2 + r 0 3 + r 0 4) (-r 0 1) (-r 0 2) (-r 0 4) (-r 1 0) (r 1 2 + r 1 3 + r 1 4 + r 1 0) (-r 1 2) (-r 1 4) (-r 2 0) (-r 2 1) (r 2 1 + r 2 3 + r 2 4 + r 2 0) (-r 2 4) (-r 4 0) (-r 4 1) (-r 4 2) (r 4 1 + r 4 2 + r 4 3 + r 4 0)]
    rw [tre5_3 h]
    rw [d1, d2, d4]
  have m3 : det4 (r 1 2 + r 1 3 + r 1 4 + r 1 0) (-r 1 2) (-r 1 3) (-r 1 0) (-r 2 1) (r 2 1 + r 2 3 + r 2 4 + r 2 0) (-r 2 3) (-r 2 0) (-r 3 1) (-r 3 2) (r 3 1 + r 3 2 + r 3 4 + r 3 0) (-r 3 0) (-r 0 1) (-r 0 2) (-r 0 3) (r 0 1 + r 0 2 + r 0 3 + r 0 4) = tre 5 r z 4 := by
    have d0 : (r 0 1 + r 0 2 + r 0 3 + r 0 4) = (r 0 1 + r 0 2 + r 0 3 + r 0 4) := by omega
    have d1 : (r 1 2 + r 1 3 + r 1 4 + r 1 0) = (r 1 0 + r 1 2 + r 1 3 + r 1 4) := by omega
    have d2 : (r 2 1 + r 2 3 + r 2 4 + r 2 0) = (r 2 0 + r 2 1 + r 2 3 + r 2 4) := by omega
    have d3 : (r 3 1 + r 3 2 + r 3 4 + r 3 0) = (r 3 0 + r 3 1 + r 3 2 + r 3 4) := by omega
    rw [rot4 (r 0 1 + r 0 2 + r 0 3 + r 0 4) (-r 0 1) (-r 0 2) (-r 0 3) (-r 1 0) (r 1 2 + r 1 3 + r 1 4 + r 1 0) (-r 1 2) (-r 1 3) (-r 2 0) (-r 2 1) (r 2 1 + r 2 3 + r 2 4 + r 2 0) (-r 2 3) (-r 3 0) (-r 3 1) (-r 3 2) (r 3 1 + r 3 2 + r 3 4 + r 3 0)]
    rw [tre5_4 h]
    rw [d1, d2, d3]
  have m4 : det4 (r 1 2 + r 1 3 + r 1 4 + r 1 0) (-r 1 2) (-r 1 3) (-r 1 4) (-r 2 1) (r 2 1 + r 2 3 + r 2 4 + r 2 0) (-r 2 3) (-r 2 4) (-r 3 1) (-r 3 2) (r 3 1 + r 3 2 + r 3 4 + r 3 0) (-r 3 4) (-r 4 1) (-r 4 2) (-r 4 3) (r 4 1 + r 4 2 + r 4 3 + r 4 0) = tre 5 r z 0 := by
    have d1 : (r 1 2 + r 1 3 + r 1 4 + r 1 0) = (r 1 0 + r 1 2 + r 1 3 + r 1 4) := by omega
    have d2 : (r 2 1 + r 2 3 + r 2 4 + r 2 0) = (r 2 0 + r 2 1 + r 2 3 + r 2 4) := by omega
    have d3 : (r 3 1 + r 3 2 + r 3 4 + r 3 0) = (r 3 0 + r 3 1 + r 3 2 + r 3 4) := by omega
    have d4 : (r 4 1 + r 4 2 + r 4 3 + r 4 0) = (r 4 0 + r 4 1 + r 4 2 + r 4 3) := by omega
    rw [tre5_0 h]
    rw [d1, d2, d3, d4]
  rw [m0, m1, m2, m3, m4] at st
  clear h
  generalize tre 5 r z 0 = t0 at *
  generalize tre 5 r z 1 = t1 at *
  generalize tre 5 r z 2 = t2 at *
  generalize tre 5 r z 3 = t3 at *
  generalize tre 5 r z 4 = t4 at *
  rw [← sy]
  grind
theorem sta5_2 (h : Good 5 r z) : sumN 5 (fun x => tre 5 r z x * r x 2) = z * tre 5 r z 2 := by
  have sy := h.sum 2 (by decide)
  rw [sumN5] at sy ⊢
  have st := stat5_0 (r 2 3) (r 2 4) (r 2 0) (r 2 1) (r 3 2) (r 3 4) (r 3 0) (r 3 1) (r 4 2) (r 4 3) (r 4 0) (r 4 1) (r 0 2) (r 0 3) (r 0 4) (r 0 1) (r 1 2) (r 1 3) (r 1 4) (r 1 0)
  have m0 : det4 (r 3 2 + r 3 4 + r 3 0 + r 3 1) (-r 3 4) (-r 3 0) (-r 3 1) (-r 4 3) (r 4 2 + r 4 3 + r 4 0 + r 4 1) (-r 4 0) (-r 4 1) (-r 0 3) (-r 0 4) (r 0 2 + r 0 3 + r 0 4 + r 0 1) (-r 0 1) (-r 1 3) (-r 1 4) (-r 1 0) (r 1 2 + r 1 3 + r 1 4 + r 1 0) = tre 5 r z 2 := by
    have d0 : (r 0 2 + r 0 3 + r 0 4 + r 0 1) = (r 0 1 + r 0 2 + r 0 3 + r 0 4) := by omega
    have d1 : (r 1 2 + r 1 3 + r 1 4 + r 1 0) = (r 1 0 + r 1 2 + r 1 3 + r 1 4) := by omega
    have d3 : (r 3 2 + r 3 4 + r 3 0 + r 3 1) = (r 3 0 + r 3 1 + r 3 2 + r 3 4) := by omega
    have d4 : (r 4 2 + r 4 3 + r 4 0 + r 4 1) = (r 4 0 + r 4 1 + r 4 2 + r 4 3) := by omega
    rw [rot4 (r 1 2 + r 1 3 + r 1 4 + r 1 0) (-r 1 3) (-r 1 4) (-r 1 0) (-r 3 1) (r 3 2 + r 3 4 + r 3 0 + r 3 1) (-r 3 4) (-r 3 0) (-r 4 1) (-r 4 3) (r 4 2 + r 4 3 + r 4 0 + r 4 1) (-r 4 0) (-r 0 1) (-r 0 3) (-r 0 4) (r 0 2 + r 0 3 + r 0 4 + r 0 1)]
    rw [rot4 (r 0 2 + r 0 3 + r 0 4 + r 0 1) (-r 0 1) (-r 0 3) (-r 0 4) (-r 1 0) (r 1 2 + r 1 3 + r 1 4 + r 1 0) (-r 1 3) (-r 1 4) (-r 3 0) (-r 3 1) (r 3 2 + r 3 4 + r 3 0 + r 3 1) (-r 3 4) (-r 4 0) (-r 4 1) (-r 4 3) (r 4 2 + r 4 3 + r 4 0 + r 4 1)]
    rw [tre5_2 h]
    rw [d0, d1, d3, d4]
  have m1 : det4 (r 2 3 + r 2 4 + r 2 0 + r 2 1) (-r 2 4) (-r 2 0) (-r 2 1) (-r 4 2) (r 4 2 + r 4 3 + r 4 0 + r 4 1) (-r 4 0) (-r 4 1) (-r 0 2) (-r 0 4) (r 0 2 + r 0 3 + r 0 4 + r 0 1) (-r 0 1) (-r 1 2) (-r 1 4) (-r 1 0) (r 1 2 + r 1 3 + r 1 4 + r 1 0) = tre 5 r z 3 := by
    have d0 : (r 0 2 + r 0 3 + r 0 4 + r 0 1) = (r 0 1 + r 0 2 + r 0 3 + r 0 4) := by omega
    have d1 : (r 1 2 + r 1 3 + r 1 4 + r 1 0) = (r 1 0 + r 1 2 + r 1 3 + r 1 4) := by omega
    have d2 : (r 2 3 + r 2 4 + r 2 0 + r 2 1) = (r 2 0 + r 2 1 + r 2 3 + r 2 4) := by omega
    have d4 : (r 4 2 + r 4 3 + r 4 0 + r 4 1) = (r 4 0 + r 4 1 + r 4 2 + r 4 3) := by omega
    rw [rot4 (r 1 2 + r 1 3 + r 1 4 + r 1 0) (-r 1 2) (-r 1 4) (-r 1 0) (-r 2 1) (r 2 3 + r 2 4 + r 2 0 + r 2 1) (-r 2 4) (-r 2 0) (-r 4 1) (-r 4 2) (r 4 2 + r 4 3 + r 4 0 + r 4 1) (-r 4 0) (-r 0 1) (-r 0 2) (-r 0 4) (r 0 2 + r 0 3 + r 0 4 + r 0 1)]
    rw [rot4 (r 0 2 + r 0 3 + r 0 4 + r 0 1) (-r 0 1) (-r 0 2) (-r 0 4) (-r 1 0) (r 1 2 + r 1 3 + r 1 4 + r 1 0) (-r 1 2) (-r 1 4) (-r 2 0) (-r 2 1) (r 2 3 + r 2 4 + r 2 0 + r 2 1) (-r 2 4) (-r 4 0) (-r 4 1) (-r 4 2) (r 4 2 + r 4 3 + r 4 0 + r 4 1)]
    rw [tre5_3 h]
    rw [d0, d1, d2, d4]
  have m2 : det4 (r 2 3 + r 2 4 + r 2 0 + r 2 1) (-r 2 3) (-r 2 0) (-r 2 1) (-r 3 2) (r 3 2 + r 3 4 + r 3 0 + r 3 1) (-r 3 0) (-r 3 1) (-r 0 2) (-r 0 3) (r 0 2 + r 0 3 + r 0 4 + r 0 1) (-r 0 1) (-r 1 2) (-r 1 3) (-r 1 0) (r 1 2 + r 1 3 + r 1 4 + r 1 0) = tre 5 r z 4 := by
    have d0 : (r 0 2 + r 0 3 + r 0 4 + r 0 1) = (r 0 1 + r 0 2 + r 0 3 + r 0 4) := by omega
    have d1 : (r 1 2 + r 1 3 + r 1 4 + r 1 0) = (r 1 0 + r 1 2 + r 1 3 + r 1 4) := by omega
    have d2 : (r 2 3 + r 2 4 + r 2 0 + r 2 1) = (r 2 0 + r 2 1 + r 2 3 + r 2 4) := by omega
    have d3 : (r 3 2 + r 3 4 + r 3 0 + r 3 1) = (r 3 0 + r 3 1 + r 3 2 + r 3 4) := by omega
    rw [rot4 (r 1 2 + r 1 3 + r 1 4 + r 1 0) (-r 1 2) (-r 1 3) (-r 1 0) (-r 2 1) (r 2 3 + r 2 4 + r 2 0 + r 2 1) (-r 2 3) (-r 2 0) (-r 3 1) (-r 3 2) (r 3 2 + r 3 4 + r 3 0 + r 3 1) (-r 3 0) (-r 0 1) (-r 0 2) (-r 0 3) (r 0 2 + r 0 3 + r 0 4 + r 0 1)]
    rw [rot4 (r 0 2 + r 0 3 + r 0 4 + r 0 1) (-r 0 1) (-r 0 2) (-r 0 3) (-r 1 0) (r 1 2 + r 1 3 + r 1 4 + r 1 0) (-r 1 2) (-r 1 3) (-r 2 0) (-r 2 1) (r 2 3 + r 2 4 + r 2 0 + r 2 1) (-r 2 3) (-r 3 0) (-r 3 1) (-r 3 2) (r 3 2 + r 3 4 + r 3 0 + r 3 1)]
    rw [tre5_4 h]
    rw [d0, d1, d2, d3]
  have m3 : det4 (r 2 3 + r 2 4 + r 2 0 + r 2 1) (-r 2 3) (-r 2 4) (-r 2 1) (-r 3 2) (r 3 2 + r 3 4 + r 3 0 + r 3 1) (-r 3 4) (-r 3 1) (-r 4 2) (-r 4 3) (r 4 2 + r 4 3 + r 4 0 + r 4 1) (-r 4 1) (-r 1 2) (-r 1 3) (-r 1 4) (r 1 2 + r 1 3 + r 1 4 + r 1 0) = tre 5 r z 0 := by
    have d1 : (r 1 2 + r 1 3 + r 1 4 + r 1 0) = (r 1 0 + r 1 2 + r 1 3 + r 1 4) := by omega
    have d2 : (r 2 3 + r 2 4 + r 2 0 + r 2 1) = (r 2 0 + r 2 1 + r 2 3 + r 2 4) := by omega
    have d3 : (r 3 2 + r 3 4 + r 3 0 + r 3 1) = (r 3 0 + r 3 1 + r 3 2 + r 3 4) := by omega
    have d4 : (r 4 2 + r 4 3 + r 4 0 + r 4 1) = (r 4 0 + r 4 1 + r 4 2 + r 4 3) := by omega
    rw [rot4 (r 1 2 + r 1 3 + r 1 4 + r 1 0) (-r 1 2) (-r 1 3) (-r 1 4) (-r 2 1) (r 2 3 + r 2 4 + r 2 0 + r 2 1) (-r 2 3) (-r 2 4) (-r 3 1) (-r 3 2) (r 3 2 + r 3 4 + r 3 0 + r 3 1) (-r 3 4) (-r 4 1) (-r 4 2) (-r 4 3) (r 4 2 + r 4 3 + r 4 0 + r 4 1)]
    rw [tre5_0 h]
    rw [d1, d2, d3, d4]
  have m4 : det4 (r 2 3 + r 2 4 + r 2 0 + r 2 1) (-r 2 3) (-r 2 4) (-r 2 0) (-r 3 2) (r 3 2 + r 3 4 + r 3 0 + r 3 1) (-r 3 4) (-r 3 0) (-r 4 2) (-r 4 3) (r 4 2 + r 4 3 + r 4 0 + r 4 1) (-r 4 0) (-r 0 2) (-r 0 3) (-r 0 4) (r 0 2 + r 0 3 + r 0 4 + r 0 1) = tre 5 r z 1 := by
    have d0 : (r 0 2 + r 0 3 + r 0 4 + r 0 1) = (r 0 1 + r 0 2 + r 0 3 + r 0 4) := by omega
    have d2 : (r 2 3 + r 2 4 + r 2 0 + r 2 1) = (r 2 0 + r 2 1 + r 2 3 + r 2 4) := by omega
    have d3 : (r 3 2 + r 3 4 + r 3 0 + r 3 1) = (r 3 0 + r 3 1 + r 3 2 + r 3 4) := by omega
    have d4 : (r 4 2 + r 4 3 + r 4 0 + r 4 1) = (r 4 0 + r 4 1 + r 4 2 + r 4 3) := by omega
    rw [rot4 (r 0 2 + r 0 3 + r 0 4 + r 0 1) (-r 0 2) (-r 0 3) (-r 0 4) (-r 2 0) (r 2 3 + r 2 4 + r 2 0 + r 2 1) (-r 2 3) (-r 2 4) (-r 3 0) (-r 3 2) (r 3 2 + r 3 4 + r 3 0 + r 3 1) (-r 3 4) (-r 4 0) (-r 4 2) (-r 4 3) (r 4 2 + r 4 3 + r 4 0 + r 4 1)]
    rw [tre5_1 h]
    rw [d0, d2, d3, d4]
  rw [m0, m1, m2, m3, m4] at st
  clear h
  generalize tre 5 r z 0 = t0 at *
  generalize tre 5 r z 1 = t1 at *
  generalize tre 5 r z 2 = t2 at *
  generalize tre 5 r z 3 = t3 at *
  generalize tre 5 r z 4 = t4 at *
  rw [← sy]
  grind
theorem sta5_3 (h : Good 5 r z) : sumN 5 (fun x => tre 5 r z x * r x 3) = z * tre 5 r z 3 := by
  have sy := h.sum 3 (by decide)
  rw [sumN5] at sy ⊢
  have st := stat5_0 (r 3 4) (r 3 0) (r 3 1) (r 3 2) (r 4 3) (r 4 0) (r 4 1) (r 4 2) (r 0 3) (r 0 4) (r 0 1) (r 0 2) (r 1 3) (r 1 4) (r 1 0) (r 1 2) (r 2 3) (r 2 4) (r 2 0) (r 2 1)
  have m0 : det4 (r 4 3 + r 4 0 + r 4 1 + r 4 2) (-r 4 0) (-r 4 1) (-r 4 2) (-r 0 4) (r 0 3 + r 0 4 + r 0 1 + r 0 2) (-r 0 1) (-r 0 2) (-r 1 4) (-r 1 0) (r 1 3 + r 1 4 + r 1 0 + r 1 2) (-r 1 2) (-r 2 4) (-r 2 0) (-r 2 1) (r 2 3 + r 2 4 + r 2 0 + r 2 1) = tre 5 r z 3 := by
    have d0 : (r 0 3 + r 0 4 + r 0 1 + r 0 2) = (r 0 1 + r 0 2 + r 0 3 + r 0 4) := by omega
    have d1 : (r 1 3 + r 1 4 + r 1 0 + r 1 2) = (r 1 0 + r 1 2 + r 1 3 + r 1 4) := by omega
    have d2 : (r 2 3 + r 2 4 + r 2 0 + r 2 1) = (r 2 0 + r 2 1 + r 2 3 + r 2 4) := by omega
    have d4 : (r 4 3 + r 4 0 + r 4 1 + r 4 2) = (r 4 0 + r 4 1 + r 4 2 + r 4 3) := by omega
    rw [rot4 (r 2 3 + r 2 4 + r 2 0 + r 2 1) (-r 2 4) (-r 2 0) (-r 2 1) (-r 4 2) (r 4 3 + r 4 0 + r 4 1 + r 4 2) (-r 4 0) (-r 4 1) (-r 0 2) (-r 0 4) (r 0 3 + r 0 4 + r 0 1 + r 0 2) (-r 0 1) (-r 1 2) (-r 1 4) (-r 1 0) (r 1 3 + r 1 4 + r 1 0 + r 1 2)]
    rw [rot4 (r 1 3 + r 1 4 + r 1 0 + r 1 2) (-r 1 2) (-r 1 4) (-r 1 0) (-r 2 1) (r 2 3 + r 2 4 + r 2 0 + r 2 1) (-r 2 4) (-r 2 0) (-r 4 1) (-r 4 2) (r 4 3 + r 4 0 + r 4 1 + r 4 2) (-r 4 0) (-r 0 1) (-r 0 2) (-r 0 4) (r 0 3 + r 0 4 + r 0 1 + r 0 2)]
    rw [rot4 (r 0 3 + r 0 4 + r 0 1 + r 0 2) (-r 0 1) (-r 0 2) (-r 0 4) (-r 1 0) (r 1 3 + r 1 4 + r 1 0 + r 1 2) (-r 1 2) (-r 1 4) (-r 2 0) (-r 2 1) (r 2 3 + r 2 4 + r 2 0 + r 2 1) (-r 2 4) (-r 4 0) (-r 4 1) (-r 4 2) (r 4 3 + r 4 0 + r 4 1 + r 4 2)]
    rw [tre5_3 h]
    rw [d0, d1, d2, d4]
  have m1 : det4 (r 3 4 + r 3 0 + r 3 1 + r 3 2) (-r 3 0) (-r 3 1) (-r 3 2) (-r 0 3) (r 0 3 + r 0 4 + r 0 1 + r 0 2) (-r 0 1) (-r 0 2) (-r 1 3) (-r 1 0) (r 1 3 + r 1 4 + r 1 0 + r 1 2) (-r 1 2) (-r 2 3) (-r 2 0) (-r 2 1) (r 2 3 + r 2 4 + r 2 0 + r 2 1) = tre 5 r z 4 := by
    have d0 : (r 0 3 + r 0 4 + r 0 1 + r 0 2) = (r 0 1 + r 0 2 + r 0 3 + r 0 4) := by omega
    have d1 : (r 1 3 + r 1 4 + r 1 0 + r 1 2) = (r 1 0 + r 1 2 + r 1 3 + r 1 4) := by omega
    have d2 : (r 2 3 + r 2 4 + r 2 0 + r 2 1) = (r 2 0 + r 2 1 + r 2 3 + r 2 4) := by omega
    have d3 : (r 3 4 + r 3 0 + r 3 1 + r 3 2) = (r 3 0 + r 3 1 + r 3 2 + r 3 4) := by omega
    rw [rot4 (r 2 3 + r 2 4 + r 2 0 + r 2 1) (-r 2 3) (-r 2 0) (-r 2 1) (-r 3 2) (r 3 4 + r 3 0 + r 3 1 + r 3 2) (-r 3 0) (-r 3 1) (-r 0 2) (-r 0 3) (r 0 3 + r 0 4 + r 0 1 + r 0 2) (-r 0 1) (-r 1 2) (-r 1 3) (-r 1 0) (r 1 3 + r 1 4 + r 1 0 + r 1 2)]
    rw [rot4 (r 1 3 + r 1 4 + r 1 0 + r 1 2) (-r 1 2) (-r 1 3) (-r 1 0) (-r 2 1) (r 2 3 + r 2 4 + r 2 0 + r 2 1) (-r 2 3) (-r 2 0) (-r 3 1) (-r 3 2) (r 3 4 + r 3 0 + r 3 1 + r 3 2) (-r 3 0) (-r 0 1) (-r 0 2) (-r 0 3) (r 0 3 + r 0 4 + r 0 1 + r 0 2)]
    rw [rot4 (r 0 3 + r 0 4 + r 0 1 + r 0 2) (-r 0 1) (-r 0 2) (-r 0 3) (-r 1 0) (r 1 3 + r 1 4 + r 1 0 + r 1 2) (-r 1 2) (-r 1 3) (-r 2 0) (-r 2 1) (r 2 3 + r 2 4 + r 2 0 + r 2 1) (-r 2 3) (-r 3 0) (-r 3 1) (-r 3 2) (r 3 4 + r 3 0 + r 3 1 + r 3 2)]
    rw [tre5_4 h]
    rw [d0, d1, d2, d3]
  have m2 : det4 (r 3 4 + r 3 0 + r 3 1 + r 3 2) (-r 3 4) (-r 3 1) (-r 3 2) (-r 4 3) (r 4 3 + r 4 0 + r 4 1 + r 4 2) (-r 4 1) (-r 4 2) (-r 1 3) (-r 1 4) (r 1 3 + r 1 4 + r 1 0 + r 1 2) (-r 1 2) (-r 2 3) (-r 2 4) (-r 2 1) (r 2 3 + r 2 4 + r 2 0 + r 2 1) = tre 5 r z 0 := by
    have d1 : (r 1 3 + r 1 4 + r 1 0 + r 1 2) = (r 1 0 + r 1 2 + r 1 3 + r 1 4) := by omega
    have d2 : (r 2 3 + r 2 4 + r 2 0 + r 2 1) = (r 2 0 + r 2 1 + r 2 3 + r 2 4) := by omega
    have d3 : (r 3 4 + r 3 0 + r 3 1 + r 3 2) = (r 3 0 + r 3 1 + r 3 2 + r 3 4) := by omega
    have d4 : (r 4 3 + r 4 0 + r 4 1 + r 4 2) = (r 4 0 + r 4 1 + r 4 2 + r 4 3) := by omega
    rw [rot4 (r 2 3 + r 2 4 + r 2 0 + r 2 1) (-r 2 3) (-r 2 4) (-r 2 1) (-r 3 2) (r 3 4 + r 3 0 + r 3 1 + r 3 2) (-r 3 4) (-r 3 1) (-r 4 2) (-r 4 3) (r 4 3 + r 4 0 + r 4 1 + r 4 2) (-r 4 1) (-r 1 2) (-r 1 3) (-r 1 4) (r 1 3 + r 1 4 + r 1 0 + r 1 2)]
    rw [rot4 (r 1 3 + r 1 4 + r 1 0 + r 1 2) (-r 1 2) (-r 1 3) (-r 1 4) (-r 2 1) (r 2 3 + r 2 4 + r 2 0 + r 2 1) (-r 2 3) (-r 2 4) (-r 3 1) (-r 3 2) (r 3 4 + r 3 0 + r 3 1 + r 3 2) (-r 3 4) (-r 4 1) (-r 4 2) (-r 4 3) (r 4 3 + r 4 0 + r 4 1 + r 4 2)]
    rw [tre5_0 h]
    rw [d1, d2, d3, d4]
  have m3 : det4 (r 3 4 + r 3 0 + r 3 1 + r 3 2) (-r 3 4) (-r 3 0) (-r 3 2) (-r 4 3) (r 4 3 + r 4 0 + r 4 1 + r 4 2) (-r 4 0) (-r 4 2) (-r 0 3) (-r 0 4) (r 0 3 + r 0 4 + r 0 1 + r 0 2) (-r 0 2) (-r 2 3) (-r 2 4) (-r 2 0) (r 2 3 + r 2 4 + r 2 0 + r 2 1) = tre 5 r z 1 := by
    have d0 : (r 0 3 + r 0 4 + r 0 1 + r 0 2) = (r 0 1 + r 0 2 + r 0 3 + r 0 4) := by omega
    have d2 : (r 2 3 + r 2 4 + r 2 0 + r 2 1) = (r 2 0 + r 2 1 + r 2 3 + r 2 4) := by omega
    have d3 : (r 3 4 + r 3 0 + r 3 1 + r 3 2) = (r 3 0 + r 3 1 + r 3 2 + r 3 4) := by omega
    have d4 : (r 4 3 + r 4 0 + r 4 1 + r 4 2) = (r 4 0 + r 4 1 + r 4 2 + r 4 3) := by omega
    rw [rot4 (r 2 3 + r 2 4 + r 2 0 + r 2 1) (-r 2 3) (-r 2 4) (-r 2 0) (-r 3 2) (r 3 4 + r 3 0 + r 3 1 + r 3 2) (-r 3 4) (-r 3 0) (-r 4 2) (-r 4 3) (r 4 3 + r 4 0 + r 4 1 + r 4 2) (-r 4 0) (-r 0 2) (-r 0 3) (-r 0 4) (r 0 3 + r 0 4 + r 0 1 + r 0 2)]
    rw [rot4 (r 0 3 + r 0 4 + r 0 1 + r 0 2) (-r 0 2) (-r 0 3) (-r 0 4) (-r 2 0) (r 2 3 + r 2 4 + r 2 0 + r 2 1) (-r 2 3) (-r 2 4) (-r 3 0) (-r 3 2) (r 3 4 + r 3 0 + r 3 1 + r 3 2) (-r 3 4) (-r 4 0) (-r 4 2) (-r 4 3) (r 4 3 + r 4 0 + r 4 1 + r 4 2)]
    rw [tre5_1 h]
    rw [d0, d2, d3, d4]
  have m4 : det4 (r 3 4 + r 3 0 + r 3 1 + r 3 2) (-r 3 4) (-r 3 0) (-r 3 1) (-r 4 3) (r 4 3 + r 4 0 + r 4 1 + r 4 2) (-r 4 0) (-r 4 1) (-r 0 3) (-r 0 4) (r 0 3 + r 0 4 + r 0 1 + r 0 2) (-r 0 1) (-r 1 3) (-r 1 4) (-r 1 0) (r 1 3 + r 1 4 + r 1 0 + r 1 2) = tre 5 r z 2 := by
    have d0 : (r 0 3 + r 0 4 + r 0 1 + r 0 2) = (r 0 1 + r 0 2 + r 0 3 + r 0 4) := by omega
    have d1 : (r 1 3 + r 1 4 + r 1 0 + r 1 2) = (r 1 0 + r 1 2 + r 1 3 + r 1 4) := by omega
    have d3 : (r 3 4 + r 3 0 + r 3 1 + r 3 2) = (r 3 0 + r 3 1 + r 3 2 + r 3 4) := by omega
    have d4 : (r 4 3 + r 4 0 + r 4 1 + r 4 2) = (r 4 0 + r 4 1 + r 4 2 + r 4 3) := by omega
    rw [rot4 (r 1 3 + r 1 4 + r 1 0 + r 1 2) (-r 1 3) (-r 1 4) (-r 1 0) (-r 3 1) (r 3 4 + r 3 0 + r 3 1 + r 3 2) (-r 3 4) (-r 3 0) (-r 4 1) (-r 4 3) (r 4 3 + r 4 0 + r 4 1 + r 4 2) (-r 4 0) (-r 0 1) (-r 0 3) (-r 0 4) (r 0 3 + r 0 4 + r 0 1 + r 0 2)]
    rw [rot4 (r 0 3 + r 0 4 + r 0 1 + r 0 2) (-r 0 1) (-r 0 3) (-r 0 4) (-r 1 0) (r 1 3 + r 1 4 + r 1 0 + r 1 2) (-r 1 3) (-r 1 4) (-r 3 0) (-r 3 1) (r 3 4 + r 3 0 + r 3 1 + r 3 2) (-r 3 4) (-r 4 0) (-r 4 1) (-r 4 3) (r 4 3 + r 4 0 + r 4 1 + r 4 2)]
    rw [tre5_2 h]
    rw [d0, d1, d3, d4]
  rw [m0, m1, m2, m3, m4] at st
  clear h
  generalize tre 5 r z 0 = t0 at *
  generalize tre 5 r z 1 = t1 at *
  generalize tre 5 r z 2 = t2 at *
  generalize tre 5 r z 3 = t3 at *
  generalize tre 5 r z 4 = t4 at *
  rw [← sy]
  grind
theorem sta5_4 (h : Good 5 r z) : sumN 5 (fun x => tre 5 r z x * r x 4) = z * tre 5 r z 4 := by
  have sy := h.sum 4 (by decide)
  rw [sumN5] at sy ⊢
  have st := stat5_0 (r 4 0) (r 4 1) (r 4 2) (r 4 3) (r 0 4) (r 0 1) (r 0 2) (r 0 3) (r 1 4) (r 1 0) (r 1 2) (r 1 3) (r 2 4) (r 2 0) (r 2 1) (r 2 3) (r 3 4) (r 3 0) (r 3 1) (r 3 2)
  have m0 : det4 (r 0 4 + r 0 1 + r 0 2 + r 0 3) (-r 0 1) (-r 0 2) (-r 0 3) (-r 1 0) (r 1 4 + r 1 0 + r 1 2 + r 1 3) (-r 1 2) (-r 1 3) (-r 2 0) (-r 2 1) (r 2 4 + r 2 0 + r 2 1 + r 2 3) (-r 2 3) (-r 3 0) (-r 3 1) (-r 3 2) (r 3 4 + r 3 0 + r 3 1 + r 3 2) = tre 5 r z 4 := by
    have d0 : (r 0 4 + r 0 1 + r 0 2 + r 0 3) = (r 0 1 + r 0 2 + r 0 3 + r 0 4) := by omega
    have d1 : (r 1 4 + r 1 0 + r 1 2 + r 1 3) = (r 1 0 + r 1 2 + r 1 3 + r 1 4) := by omega
    have d2 : (r 2 4 + r 2 0 + r 2 1 + r 2 3) = (r 2 0 + r 2 1 + r 2 3 + r 2 4) := by omega
    have d3 : (r 3 4 + r 3 0 + r 3 1 + r 3 2) = (r 3 0 + r 3 1 + r 3 2 + r 3 4) := by omega
    rw [tre5_4 h]
    rw [d0, d1, d2, d3]
  have m1 : det4 (r 4 0 + r 4 1 + r 4 2 + r 4 3) (-r 4 1) (-r 4 2) (-r 4 3) (-r 1 4) (r 1 4 + r 1 0 + r 1 2 + r 1 3) (-r 1 2) (-r 1 3) (-r 2 4) (-r 2 1) (r 2 4 + r 2 0 + r 2 1 + r 2 3) (-r 2 3) (-r 3 4) (-r 3 1) (-r 3 2) (r 3 4 + r 3 0 + r 3 1 + r 3 2) = tre 5 r z 0 := by
    have d1 : (r 1 4 + r 1 0 + r 1 2 + r 1 3) = (r 1 0 + r 1 2 + r 1 3 + r 1 4) := by omega
    have d2 : (r 2 4 + r 2 0 + r 2 1 + r 2 3) = (r 2 0 + r 2 1 + r 2 3 + r 2 4) := by omega
    have d3 : (r 3 4 + r 3 0 + r 3 1 + r 3 2) = (r 3 0 + r 3 1 + r 3 2 + r 3 4) := by omega
    have d4 : (r 4 0 + r 4 1 + r 4 2 + r 4 3) = (r 4 0 + r 4 1 + r 4 2 + r 4 3) := by omega
    rw [rot4 (r 3 4 + r 3 0 + r 3 1 + r 3 2) (-r 3 4) (-r 3 1) (-r 3 2) (-r 4 3) (r 4 0 + r 4 1 + r 4 2 + r 4 3) (-r 4 1) (-r 4 2) (-r 1 3) (-r 1 4) (r 1 4 + r 1 0 + r 1 2 + r 1 3) (-r 1 2) (-r 2 3) (-r 2 4) (-r 2 1) (r 2 4 + r 2 0 + r 2 1 + r 2 3)]
    rw [rot4 (r 2 4 + r 2 0 + r 2 1 + r 2 3) (-r 2 3) (-r 2 4) (-r 2 1) (-r 3 2) (r 3 4 + r 3 0 + r 3 1 + r 3 2) (-r 3 4) (-r 3 1) (-r 4 2) (-r 4 3) (r 4 0 + r 4 1 + r 4 2 + r 4 3) (-r 4 1) (-r 1 2) (-r 1 3) (-r 1 4) (r 1 4 + r 1 0 + r 1 2 + r 1 3)]
    rw [rot4 (r 1 4 + r 1 0 + r 1 2 + r 1 3) (-r 1 2) (-r 1 3) (-r 1 4) (-r 2 1) (r 2 4 + r 2 0 + r 2 1 + r 2 3) (-r 2 3) (-r 2 4) (-r 3 1) (-r 3 2) (r 3 4 + r 3 0 + r 3 1 + r 3 2) (-r 3 4) (-r 4 1) (-r 4 2) (-r 4 3) (r 4 0 + r 4 1 + r 4 2 + r 4 3)]
    rw [tre5_0 h]
    rw [d1, d2, d3]
  have m2 : det4 (r 4 0 + r 4 1 + r 4 2 + r 4 3) (-r 4 0) (-r 4 2) (-r 4 3) (-r 0 4) (r 0 4 + r 0 1 + r 0 2 + r 0 3) (-r 0 2) (-r 0 3) (-r 2 4) (-r 2 0) (r 2 4 + r 2 0 + r 2 1 + r 2 3) (-r 2 3) (-r 3 4) (-r 3 0) (-r 3 2) (r 3 4 + r 3 0 + r 3 1 + r 3 2) = tre 5 r z 1 := by
    have d0 : (r 0 4 + r 0 1 + r 0 2 + r 0 3) = (r 0 1 + r 0 2 + r 0 3 + r 0 4) := by omega
    have d2 : (r 2 4 + r 2 0 + r 2 1 + r 2 3) = (r 2 0 + r 2 1 + r 2 3 + r 2 4) := by omega
    have d3 : (r 3 4 + r 3 0 + r 3 1 + r 3 2) = (r 3 0 + r 3 1 + r 3 2 + r 3 4) := by omega
    have d4 : (r 4 0 + r 4 1 + r 4 2 + r 4 3) = (r 4 0 + r 4 1 + r 4 2 + r 4 3) := by omega
    rw [rot4 (r 3 4 + r 3 0 + r 3 1 + r 3 2) (-r 3 4) (-r 3 0) (-r 3 2) (-r 4 3) (r 4 0 + r 4 1 + r 4 2 + r 4 3) (-r 4 0) (-r 4 2) (-r 0 3) (-r 0 4) (r 0 4 + r 0 1 + r 0 2 + r 0 3) (-r 0 2) (-r 2 3) (-r 2 4) (-r 2 0) (r 2 4 + r 2 0 + r 2 1 + r 2 3)]
    rw [rot4 (r 2 4 + r 2 0 + r 2 1 + r 2 3) (-r 2 3) (-r 2 4) (-r 2 0) (-r 3 2) (r 3 4 + r 3 0 + r 3 1 + r 3 2) (-r 3 4) (-r 3 0) (-r 4 2) (-r 4 3) (r 4 0 + r 4 1 + r 4 2 + r 4 3) (-r 4 0) (-r 0 2) (-r 0 3) (-r 0 4) (r 0 4 + r 0 1 + r 0 2 + r 0 3)]
    rw [rot4 (r 0 4 + r 0 1 + r 0 2 + r 0 3) (-r 0 2) (-r 0 3) (-r 0 4) (-r 2 0) (r 2 4 + r 2 0 + r 2 1 + r 2 3) (-r 2 3) (-r 2 4) (-r 3 0) (-r 3 2) (r 3 4 + r 3 0 + r 3 1 + r 3 2) (-r 3 4) (-r 4 0) (-r 4 2) (-r 4 3) (r 4 0 + r 4 1 + r 4 2 + r 4 3)]
    rw [tre5_1 h]
    rw [d0, d2, d3]
  have m3 : det4 (r 4 0 + r 4 1 + r 4 2 + r 4 3) (-r 4 0) (-r 4 1) (-r 4 3) (-r 0 4) (r 0 4 + r 0 1 + r 0 2 + r 0 3) (-r 0 1) (-r 0 3) (-r 1 4) (-r 1 0) (r 1 4 + r 1 0 + r 1 2 + r 1 3) (-r 1 3) (-r 3 4) (-r 3 0) (-r 3 1) (r 3 4 + r 3 0 + r 3 1 + r 3 2) = tre 5 r z 2 := by
    have d0 : (r 0 4 + r 0 1 + r 0 2 + r 0 3) = (r 0 1 + r 0 2 + r 0 3 + r 0 4) := by omega
    have d1 : (r 1 4 + r 1 0 + r 1 2 + r 1 3) = (r 1 0 + r 1 2 + r 1 3 + r 1 4) := by omega
    have d3 : (r 3 4 + r 3 0 + r 3 1 + r 3 2) = (r 3 0 + r 3 1 + r 3 2 + r 3 4) := by omega
    have d4 : (r 4 0 + r 4 1 + r 4 2 + r 4 3) = (r 4 0 + r 4 1 + r 4 2 + r 4 3) := by omega
    rw [rot4 (r 3 4 + r 3 0 + r 3 1 + r 3 2) (-r 3 4) (-r 3 0) (-r 3 1) (-r 4 3) (r 4 0 + r 4 1 + r 4 2 + r 4 3) (-r 4 0) (-r 4 1) (-r 0 3) (-r 0 4) (r 0 4 + r 0 1 + r 0 2 + r 0 3) (-r 0 1) (-r 1 3) (-r 1 4) (-r 1 0) (r 1 4 + r 1 0 + r 1 2 + r 1 3)]
    rw [rot4 (r 1 4 + r 1 0 + r 1 2 + r 1 3) (-r 1 3) (-r 1 4) (-r 1 0) (-r 3 1) (r 3 4 + r 3 0 + r 3 1 + r 3 2) (-r 3 4) (-r 3 0) (-r 4 1) (-r 4 3) (r 4 0 + r 4 1 + r 4 2 + r 4 3) (-r 4 0) (-r 0 1) (-r 0 3) (-r 0 4) (r 0 4 + r 0 1 + r 0 2 + r 0 3)]
    rw [rot4 (r 0 4 + r 0 1 + r 0 2 + r 0 3) (-r 0 1) (-r 0 3) (-r 0 4) (-r 1 0) (r 1 4 + r 1 0 + r 1 2 + r 1 3) (-r 1 3) (-r 1 4) (-r 3 0) (-r 3 1) (r 3 4 + r 3 0 + r 3 1 + r 3 2) (-r 3 4) (-r 4 0) (-r 4 1) (-r 4 3) (r 4 0 + r 4 1 + r 4 2 + r 4 3)]
    rw [tre5_2 h]
    rw [d0, d1, d3]
  have m4 : det4 (r 4 0 + r 4 1 + r 4 2 + r 4 3) (-r 4 0) (-r 4 1) (-r 4 2) (-r 0 4) (r 0 4 + r 0 1 + r 0 2 + r 0 3) (-r 0 1) (-r 0 2) (-r 1 4) (-r 1 0) (r 1 4 + r 1 0 + r 1 2 + r 1 3) (-r 1 2) (-r 2 4) (-r 2 0) (-r 2 1) (r 2 4 + r 2 0 + r 2 1 + r 2 3) = tre 5 r z 3 := by
    have d0 : (r 0 4 + r 0 1 + r 0 2 + r 0 3) = (r 0 1 + r 0 2 + r 0 3 + r 0 4) := by omega
    have d1 : (r 1 4 + r 1 0 + r 1 2 + r 1 3) = (r 1 0 + r 1 2 + r 1 3 + r 1 4) := by omega
    have d2 : (r 2 4 + r 2 0 + r 2 1 + r 2 3) = (r 2 0 + r 2 1 + r 2 3 + r 2 4) := by omega
    have d4 : (r 4 0 + r 4 1 + r 4 2 + r 4 3) = (r 4 0 + r 4 1 + r 4 2 + r 4 3) := by omega
    rw [rot4 (r 2 4 + r 2 0 + r 2 1 + r 2 3) (-r 2 4) (-r 2 0) (-r 2 1) (-r 4 2) (r 4 0 + r 4 1 + r 4 2 + r 4 3) (-r 4 0) (-r 4 1) (-r 0 2) (-r 0 4) (r 0 4 + r 0 1 + r 0 2 + r 0 3) (-r 0 1) (-r 1 2) (-r 1 4) (-r 1 0) (r 1 4 + r 1 0 + r 1 2 + r 1 3)]
    rw [rot4 (r 1 4 + r 1 0 + r 1 2 + r 1 3) (-r 1 2) (-r 1 4) (-r 1 0) (-r 2 1) (r 2 4 + r 2 0 + r 2 1 + r 2 3) (-r 2 4) (-r 2 0) (-r 4 1) (-r 4 2) (r 4 0 + r 4 1 + r 4 2 + r 4 3) (-r 4 0) (-r 0 1) (-r 0 2) (-r 0 4) (r 0 4 + r 0 1 + r 0 2 + r 0 3)]
    rw [rot4 (r 0 4 + r 0 1 + r 0 2 + r 0 3) (-r 0 1) (-r 0 2) (-r 0 4) (-r 1 0) (r 1 4 + r 1 0 + r 1 2 + r 1 3) (-r 1 2) (-r 1 4) (-r 2 0) (-r 2 1) (r 2 4 + r 2 0 + r 2 1 + r 2 3) (-r 2 4) (-r 4 0) (-r 4 1) (-r 4 2) (r 4 0 + r 4 1 + r 4 2 + r 4 3)]
    rw [tre5_3 h]
    rw [d0, d1, d2]
  rw [m0, m1, m2, m3, m4] at st
  clear h
  generalize tre 5 r z 0 = t0 at *
  generalize tre 5 r z 1 = t1 at *
  generalize tre 5 r z 2 = t2 at *
  generalize tre 5 r z 3 = t3 at *
  generalize tre 5 r z 4 = t4 at *
  rw [← sy]
  grind
theorem sta1_0 (h : Good 1 r z) : sumN 1 (fun x => tre 1 r z x * r x 0) = z * tre 1 r z 0 := by
  have sy := h.sum 0 (by decide)
  rw [sumN1] at sy ⊢
  show 1 * r 0 0 = z * 1
  omega
end
theorem tre_stat {n : Nat} {r : Nat → Nat → Int} {z : Int} {y : Nat} (h : Good n r z) (hy : y < n) : sumN n (fun x => tre n r z x * r x y) = z * tre n r z y := by
  have h1 := h.n1
  have h5 := h.n5
  have c : n = 1 ∨ n = 2 ∨ n = 3 ∨ n = 4 ∨ n = 5 := by omega
  rcases c with rfl | rfl | rfl | rfl | rfl
  · have : y = 0 := by omega
    subst this
    exact sta1_0 h
  · have c : y = 0 ∨ y = 1 := by omega
    rcases c with rfl | rfl
    · exact sta2_0 h
    · exact sta2_1 h
  · have c : y = 0 ∨ y = 1 ∨ y = 2 := by omega
    rcases c with rfl | rfl | rfl
    · exact sta3_0 h
    · exact sta3_1 h
    · exact sta3_2 h
  · have c : y = 0 ∨ y = 1 ∨ y = 2 ∨ y = 3 := by omega
    rcases c with rfl | rfl | rfl | rfl
    · exact sta4_0 h
    · exact sta4_1 h
    · exact sta4_2 h
    · exact sta4_3 h
  · have c : y = 0 ∨ y = 1 ∨ y = 2 ∨ y = 3 ∨ y = 4 := by omega
    rcases c with rfl | rfl | rfl | rfl | rfl
    · exact sta5_0 h
    · exact sta5_1 h
    · exact sta5_2 h
    · exact sta5_3 h
    · exact sta5_4 h
end FW
set_option Elab.async false
set_option linter.all false
set_option autoImplicit false
set_option maxRecDepth 100000
set_option maxHeartbeats 1000000
/-! F7: rests. -/
namespace FW
open PySem PySem.Spec PyProof.Rows L2
/-- an owned list is given away -/
theorem PD.give {X : Cx} {C : Addr} {δ : Env} {ω ω1 : Om} {e : Expr} {p : Addr} {ds : List D} (h : PD X C e δ ω (.adr p) ω1) (hp : ω1 p = some (.lst ds)) : PD X C e δ ω (.l ds) (delO ω1 p) := fun σ Hk H w er Q k => h σ Hk H w er Q fun v Hk1 H1 s1 w1 r1 => by
  obtain ⟨_, ho, h1, h2⟩ := w1.own p _ hp
  obtain ⟨vs, rfl, h3⟩ := h2.lst_inv
  obtain ⟨w2, s2⟩ := w1.learn hp h1
  refine k v _ H1 (s1.trans s2) w2 ?_
  rw [r1.adr_inv]
  exact .lst (SqL.of upd_same) (h3.mono s2)
section
variable {P : Program} {w : World} {K : PySem.W.Frag} {mg : Str → Option Value} {base : Heap} {f : Addr} {fd : FuncData} {C : Addr}
def S_trees_in : FSp := pure_ fun ds d => ∃ (n : Nat) (r : Nat → Nat → Int) (z : Int) (y : Nat), Good n r z ∧ y < n ∧ ds = [.w (matD n r) z, vecD n fun k => (k : Int), .i (y : Int)] ∧ d = .i (tre n r z y)
theorem ok_trees_in (F : FnP K "trees_in" s_trees_in f fd) (T : Tx K mg C) (G : Ok P w K mg base C "determinant" 1 ["rows"] S_determinant) : FnOk P w K mg base CX0 2 f fd ["walk", "places", "root"] (spF K C S_trees_in) := by
  refine fnD F sc_trees_in (fun ds ω d ω' h => ?_) (fun X ds ω d ω' hX hr h => ?_)
  · obtain ⟨_, n, r, z, y, _, _, rfl, _⟩ := h
    rfl
  · obtain ⟨cdv, A, outer, st, H, E, rfl⟩ := hX
    obtain ⟨rfl, n, r, z, y, hg, hy, rfl, rfl⟩ := h
    have nd := sc_trees_in.nd
    have h5 := hg.n5
    have bok := fun scope own h => @blkOk_by N_trees_in (defScope s_trees_in) scope own h
    refine psd_cons (ps1_lc1F (neN y) (fun k => .i (k : Int)) 3 4 nd rfl rfl (sw_true rfl rfl rfl (by decide +kernel)) (bok _ _ (by decide +kernel)) (pid_gt (v_ 1 rfl)) (by omega) (fun k hk _ _ _ _ _ ω1 => pdt_ne (v_ 4 rfl) (v_ 2 rfl)) (fun k hk hp _ _ _ _ _ ω1 => v_ 4 rfl) ?_)
    have eo : genF n (neN y) (fun k => D.i (k : Int)) = gen (n - 1) fun i => D.i ((oth y i : Nat) : Int) := by
      unfold genF gen
      rw [filter_ne, if_pos hy]
    rw [eo]
    refine psd_cons (ps1_own 5 nd rfl (.inl rfl) (pdn_lst pda_nil (by show 0 ≤ 1000; decide)) fun p hp => ?_)
    refine psd_cons (ps1_for1 6 (fun t δ ω2 => ∃ y4 y6 y7 y8, ω2 = updO ω' p (.lst (gen t fun i => .l (gen (n - 1) fun j => .i (lap r z y i j)))) ∧ δ = [some (.w (matD n r) z), some (vecD n fun k => (k : Int)), some (.i (y : Int)), some (.l (gen (n - 1) fun i => .i ((oth y i : Nat) : Int))), y4, some (.adr p), y6, y7, y8]) nd rfl (.inr rfl) PassesOwn.never (pid_gl (v_ 3 rfl)) ⟨none, none, none, none, rfl, rfl⟩ ?_ ?_)
    · rintro t ht δ ω2 ⟨y4, y6, y7, y8, rfl, rfl⟩
      have hx := oth_lt hy ht
      have ec : genF n (neN (oth y t)) (fun k => D.i (r (oth y t) k)) = (((List.range n).filter (neN (oth y t))).map (r (oth y t))).map D.i := by
        unfold genF
        rw [List.map_map]
        rfl
      refine psd_cons (ps1_set (d := .i (z - r (oth y t) (oth y t))) 7 nd rfl (.inr rfl) (PD.cast (pd_sumL (ns := ((List.range n).filter (neN (oth y t))).map (r (oth y t))) rfl rfl T.sum boot_sum_ (PD.cast (PDN.pd (pdn_lc1F (neN (oth y t)) (fun k => .i (r (oth y t) k)) 8 nd (bok _ _ (by decide +kernel)) (pid_gt (v_ 1 rfl)) (by omega) (fun k hk _ _ _ _ _ ω1 => pdt_ne (v_ 8 rfl) (v_ 6 rfl)) (fun k hk hp _ _ _ _ _ ω1 => ?_))) (congrArg D.l ec))) ?_) ?_)
      · exact q_ixT (g := fun k => .i (r (oth y t) k)) (q_ixT (g := fun x => vecD n (r x)) (pd_rows (v_ 0 rfl) T.cl T.nR) (v_ 6 rfl) rfl hx) (v_ 8 rfl) rfl hk
      · rw [sum_filter_ne, if_pos hx, hg.sum _ hx]
      refine psd_one (ps1_app (d := .l (gen (n - 1) fun j => .i (lap r z y t j))) (v_ 5 rfl) updO_same (PDN.pd (pdn_lc1 (fun j => .i (lap r z y t j)) 8 nd (bok _ _ (by decide +kernel)) (pid_gl (v_ 3 rfl)) (by omega) (fun j hj _ _ _ _ _ ω1 => ?_))) updO_same (by rw [gen_len]; omega) ⟨y4, _, _, _, by rw [updO_updO, gen_succ], rfl⟩)
      have hj2 := oth_lt hy hj
      refine pd_if (p := decide (((oth y t : Nat) : Int) = ((oth y j : Nat) : Int))) (pdt_eq (v_ 6 rfl) (v_ 8 rfl)) (fun ht => ?_) (fun hf => ?_)
      · have e : t = j := by
          have := of_decide_eq_true ht
          rw [← oth_inj (y := y)]
          omega
        refine PD.cast (v_ 7 rfl) ?_
        unfold lap
        rw [if_pos e, e]
      · have e : ¬ t = j := fun e => by
          have := of_decide_eq_false hf
          rw [e] at this
          exact this rfl
        refine PD.cast (pd_sub pd_int (q_ixT (g := fun k => .i (r (oth y t) k)) (q_ixT (g := fun x => vecD n (r x)) (pd_rows (v_ 0 rfl) T.cl T.nR) (v_ 6 rfl) rfl hx) (v_ 8 rfl) rfl hj2)) ?_
        unfold lap
        rw [if_neg e]
    · rintro δ ω2 ⟨y4, y6, y7, y8, rfl, rfl⟩
      refine psd_one (ps1_ret (pd_ok G hr (by decide) (pda_cons (PD.give (v_ 5 rfl) updO_same) pda_nil) ⟨rfl, n - 1, lap r z y, by omega, good_det hg hy, rfl, rfl⟩) ⟨rfl, fun a o e => ?_⟩)
      rw [delO_updO hp]
      exact e
/-- the rest of a round walk -/
def rst (n : Nat) (r : Nat → Nat → Int) (z : Int) (y : Nat) : Int := tre n r z y / gcdN n (tre n r z)
def S_rest_on : FSp := pure_ fun ds d => ∃ (n : Nat) (r : Nat → Nat → Int) (z : Int), Good n r z ∧ ds = [.w (matD n r) z, vecD n fun k => (k : Int)] ∧ d = vecD n (rst n r z)
theorem gcdN_le {n : Nat} {g : Nat → Int} (h : ∀ k, k < n → 0 < g k) (h1 : 1 ≤ n) : 0 < gcdN n g ∧ gcdN n g ≤ g (n - 1) := by
  obtain ⟨m, rfl⟩ : ∃ m, n = m + 1 := ⟨n - 1, by omega⟩
  rw [gcdN_succ]
  exact ⟨gcdI_pos (h m (by omega)), gcdI_le (h m (by omega))⟩
theorem ok_rest_on (F : FnP K "rest_on" s_rest_on f fd) (T : Tx K mg C) (L : OkL P w K mg base C) (G1 : Ok P w K mg base C "trees_in" 2 ["walk", "places", "root"] S_trees_in) (G2 : Ok P w K mg base C "least_of" 3 ["lot"] S_least_of) : FnOk P w K mg base CX0 4 f fd ["walk", "shut"] (spF K C S_rest_on) := by
  refine fnD F sc_rest_on (fun ds ω d ω' h => ?_) (fun X ds ω d ω' hX hr h => ?_)
  · obtain ⟨_, n, r, z, _, rfl, _⟩ := h
    rfl
  · obtain ⟨cdv, A, outer, st, H, E, rfl⟩ := hX
    obtain ⟨rfl, n, r, z, hg, rfl, rfl⟩ := h
    have nd := sc_rest_on.nd
    have h5 := hg.n5
    have bok := fun scope own h => @blkOk_by N_rest_on (defScope s_rest_on) scope own h
    obtain ⟨g1, g2⟩ := gcdN_le (fun k hk => tre_pos hg hk) hg.n1
    refine psd_one (ps1_ret (pd_ok G2 hr (by decide) (pda_cons (q_tupL T (PDN.pd (pdn_lc1 (fun k => .i (tre n r z k)) 2 nd (bok _ _ (by decide +kernel)) (q_range T (q_lenW T L hr (by decide) (v_ 0 rfl) (by omega)) (by omega)) (by omega) (fun k hk _ _ _ _ _ ω1 => ?_)))) pda_nil) ⟨rfl, n, tre n r z, by omega, g1, ?_, rfl, rfl⟩) ⟨rfl, same_om⟩)
    · refine pd_if (p := true) (by
        have e : decide ((k : Int) ∈ (List.range n).map fun k : Nat => (k : Int)) = true := decide_eq_true (List.mem_map.mpr ⟨k, List.mem_range.mpr hk, rfl⟩)
        rw [← e]
        exact pdt_inT (v_ 2 rfl) (PD.cast (v_ 1 rfl) (by unfold vecD; rw [gen_ints]))) (fun _ => ?_) (fun z => nomatch z)
      exact pd_ok G1 hr (by decide) (pda_cons (v_ 0 rfl) (pda_cons (v_ 1 rfl) (pda_cons (v_ 2 rfl) pda_nil))) ⟨rfl, n, r, z, k, hg, hk, rfl, rfl⟩
    · exact lt_pow (le_bits (Int.le_of_lt g1) g2 (tre_sz hg (by have := hg.n1; omega))) (by decide)
def S_rests : FSp := pure_ fun ds d => ∃ (n : Nat) (r : Nat → Nat → Int) (z : Int), Good n r z ∧ ds = [.w (matD n r) z] ∧ d = .t [vecD n (rst n r z)]
theorem ok_rests (F : FnP K "rests" s_rests f fd) (T : Tx K mg C) (G1 : Ok P w K mg base C "rest_on" 4 ["walk", "shut"] S_rest_on) (G2 : Ok P w K mg base C "shut_sets" 4 ["walk"] S_shut_sets) : FnOk P w K mg base CX0 5 f fd ["walk"] (spF K C S_rests) := by
  refine fnD F sc_rests (fun ds ω d ω' h => ?_) (fun X ds ω d ω' hX hr h => ?_)
  · obtain ⟨_, n, r, z, _, rfl, _⟩ := h
    rfl
  · obtain ⟨cdv, A, outer, st, H, E, rfl⟩ := hX
    obtain ⟨rfl, n, r, z, hg, rfl, rfl⟩ := h
    have nd := sc_rests.nd
    have h5 := hg.n5
    have bok := fun scope own h => @blkOk_by N_rests (defScope s_rests) scope own h
    exact psd_one (ps1_ret (q_tupL T (PDN.pd (pdn_lc1 (n := 1) (it := fun _ => vecD n fun k => (k : Int)) (fun k => vecD n (rst n r z)) 1 nd (bok _ _ (by decide +kernel)) (pid_gt (PD.cast (pd_ok G2 hr (by decide) (pda_cons (v_ 0 rfl) pda_nil) ⟨rfl, n, r, z, hg.n1, by omega, hg.on, rfl, rfl⟩) rfl)) (by omega) (fun k hk _ _ _ _ _ ω1 => pd_ok G1 hr (by decide) (pda_cons (v_ 0 rfl) (pda_cons (v_ 1 rfl) pda_nil)) ⟨rfl, n, r, z, hg, rfl, rfl⟩)))) ⟨rfl, same_om⟩)
def S_one_rest : FSp := pure_ fun ds d => ∃ (n : Nat) (r : Nat → Nat → Int) (z : Int), Good n r z ∧ ds = [.w (matD n r) z] ∧ d = vecD n (rst n r z)
theorem ok_one_rest (F : FnP K "one_rest" s_one_rest f fd) (T : Tx K mg C) (L : OkL P w K mg base C) (G1 : Ok P w K mg base C "shut_sets" 4 ["walk"] S_shut_sets) (G2 : Ok P w K mg base C "rests" 5 ["walk"] S_rests) : FnOk P w K mg base CX0 6 f fd ["walk"] (spF K C S_one_rest) := by
  refine fnD F sc_one_rest (fun ds ω d ω' h => ?_) (fun X ds ω d ω' hX hr h => ?_)
  · obtain ⟨_, n, r, z, _, rfl, _⟩ := h
    rfl
  · obtain ⟨cdv, A, outer, st, H, E, rfl⟩ := hX
    obtain ⟨rfl, n, r, z, hg, rfl, rfl⟩ := h
    have h5 := hg.n5
    have lv : Lv 2 (.t [vecD n fun k => (k : Int)]) := fun x hx => by
      rw [List.mem_singleton.mp hx]
      exact lv_gen (k := 0) fun j hj => True.intro
    have e : (!eqvD (.t [vecD n fun k => (k : Int)]) (.t [vecD n fun k => (k : Int)])) = false := by
      unfold eqvD
      rw [eqv_self lv]
      rfl
    refine psd_cons (ps1_ifF (ω1 := ω') (by
      rw [← e]
      exact pdt_neD (k1 := 2) (k2 := 2) hr.units (pd_ok G1 hr (by decide) (pda_cons (v_ 0 rfl) pda_nil) ⟨rfl, n, r, z, hg.n1, by omega, hg.on, rfl, rfl⟩) (pd_tup (pda_cons (q_tupR T (q_lenW T L hr (by decide) (v_ 0 rfl) (by omega)) (by omega)) pda_nil) (by show 1 ≤ 1000; decide)) lv lv) ?_)
    exact psd_one (ps1_ret (pd_ixT (j := 0) (pd_ok G2 hr (by decide) (pda_cons (v_ 0 rfl) pda_nil) ⟨rfl, n, r, z, hg, rfl, rfl⟩) pd_int rfl rfl) ⟨rfl, same_om⟩)
end
end FW
set_option Elab.async false
set_option linter.all false
set_option autoImplicit false
set_option maxRecDepth 100000
set_option maxHeartbeats 1000000
/-! F8: stopping, the small words. -/
namespace FW
open PySem PySem.Spec PyProof.Rows L2
def unitN (s : Nat) : Nat → Int := fun x => if x = s then 1 else 0
def Sz (B n : Nat) (f : Nat → Int) : Prop := ∀ x, x < n → (f x).natAbs < 2 ^ B
def barN (w p : Nat → Int) : Nat → Nat
  | 0 => 0
  | k + 1 => if w k * p (barN w p k) < w (barN w p k) * p k then k else barN w p k
theorem barN_lt (w p : Nat → Int) {n : Nat} (h : 1 ≤ n) : ∀ k, k ≤ n → barN w p k < n
  | 0, _ => h
  | k + 1, hk => by
    unfold barN
    split
    · omega
    · exact barN_lt w p h k (by omega)
theorem pow_le2 {j k : Nat} (h : j ≤ k) : 2 ^ j ≤ 2 ^ k := Nat.pow_le_pow_right (by decide) h
theorem barN_t {w p : Nat → Int} {k : Nat} (h : w k * p (barN w p k) < w (barN w p k) * p k) : barN w p (k + 1) = k := if_pos h
theorem barN_f {w p : Nat → Int} {k : Nat} (h : ¬ w k * p (barN w p k) < w (barN w p k) * p k) : barN w p (k + 1) = barN w p k := if_neg h
section
variable {P : Program} {w : World} {K : PySem.W.Frag} {mg : Str → Option Value} {base : Heap} {f : Addr} {fd : FuncData} {C : Addr}
def S_begun : FSp := pure_ fun ds d => ∃ (n : Nat) (g : Nat → D) (z : Int) (s : Nat) (many : Int), n ≤ 1000 ∧ many.natAbs < 2 ^ 2000 ∧ ds = [.w (.t (gen n g)) z, .i (s : Int), .i many] ∧ d = vecD n fun x => many * unitN s x
theorem ok_begun (F : FnP K "begun" s_begun f fd) (T : Tx K mg C) (L : OkL P w K mg base C) : FnOk P w K mg base CX0 3 f fd ["walk", "start", "many"] (spF K C S_begun) := by
  refine fnD F sc_begun (fun ds ω d ω' h => ?_) (fun X ds ω d ω' hX hr h => ?_)
  · obtain ⟨_, n, g, z, s, many, _, _, rfl, _⟩ := h
    rfl
  · obtain ⟨cdv, A, outer, st, H, E, rfl⟩ := hX
    obtain ⟨rfl, n, g, z, s, many, hn, hz, rfl, rfl⟩ := h
    have nd := sc_begun.nd
    have bok := fun scope own h => @blkOk_by N_begun (defScope s_begun) scope own h
    have e : ∀ k : Nat, (if decide ((k : Int) = (s : Int)) = true then (1 : Int) else 0) = unitN s k := fun k => by
      unfold unitN
      by_cases h : k = s
      · rw [if_pos h, if_pos (decide_eq_true (by omega))]
      · rw [if_neg h, if_neg (fun z => h (by have := of_decide_eq_true z; omega))]
    refine psd_one (ps1_ret (q_tupL T (PDN.pd (pdn_lc1 (fun k => .i (many * unitN s k)) 3 nd (bok _ _ (by decide +kernel)) (q_range T (q_lenW T L hr (by decide) (v_ 0 rfl) hn) hn) hn (fun k hk _ _ _ _ _ ω1 => ?_)))) ⟨rfl, same_om⟩)
    refine pd_mul (v_ 2 rfl) (PD.cast (q_int T (pd_eq (v_ 3 rfl) (v_ 1 rfl))) (by rw [e k])) (cm2000 hz ?_)
    unfold unitN
    split
    · exact Nat.lt_of_lt_of_le (by decide : 1 < 2 ^ 1) (pow_le2 (by decide))
    · exact Nat.pow_pos (by decide)
def S_barest : FSp := pure_ fun ds d => ∃ (n : Nat) (g p : Nat → Int), 1 ≤ n ∧ Sz 2000 n g ∧ Sz 2000 n p ∧ ds = [vecD n g, vecD n p] ∧ d = .i ((barN g p n : Nat) : Int)
theorem ok_barest (F : FnP K "barest" s_barest f fd) (T : Tx K mg C) : FnOk P w K mg base CX0 1 f fd ["weights", "rest"] (spF K C S_barest) := by
  refine fnD F sc_barest (fun ds ω d ω' h => ?_) (fun X ds ω d ω' hX hr h => ?_)
  · obtain ⟨_, n, g, p, _, _, _, rfl, _⟩ := h
    rfl
  · obtain ⟨cdv, A, outer, st, H, E, rfl⟩ := hX
    obtain ⟨rfl, n, g, p, h1, hg, hp, rfl, rfl⟩ := h
    have nd := sc_barest.nd
    refine psd_cons (ps1_set (d := .i ((0 : Nat) : Int)) 2 nd rfl (.inl rfl) pd_int ?_)
    refine psd_cons (ps1_for2 3 4 (fun k δ ω2 => ω2 = ω' ∧ ∃ y3 y4, δ = [some (vecD n g), some (vecD n p), some (.i ((barN g p k : Nat) : Int)), y3, y4]) nd rfl (.inl rfl) rfl (.inl rfl) PassesOwn.never (q_enumT T (v_ 0 rfl)) ⟨rfl, none, none, rfl⟩ ?_ ?_)
    · rintro k hk δ ω2 ⟨rfl, y3, y4, rfl⟩
      have hb := barN_lt g p h1 k (by omega)
      refine psd_one (ps1_if (p := decide (g k * p (barN g p k) < g (barN g p k) * p k)) (pdt_lt (pd_mul (v_ 4 rfl) (q_ixT (g := fun j => .i (p j)) (v_ 1 rfl) (v_ 2 rfl) rfl hb) (cm2000 (hg k hk) (hp _ hb))) (pd_mul (q_ixT (g := fun j => .i (g j)) (v_ 0 rfl) (v_ 2 rfl) rfl hb) (q_ixT (g := fun j => .i (p j)) (v_ 1 rfl) (v_ 3 rfl) rfl hk) (cm2000 (hg _ hb) (hp k hk)))) (fun ht => ?_) (fun hf => ?_))
      · refine psd_one (ps1_set 2 nd rfl (.inl rfl) (v_ 3 rfl) ⟨rfl, some (.i (k : Int)), some (.i (g k)), ?_⟩)
        rw [barN_t (of_decide_eq_true ht)]
        rfl
      · refine psd_nil ⟨rfl, some (.i (k : Int)), some (.i (g k)), ?_⟩
        rw [barN_f (of_decide_eq_false hf)]
        rfl
    · rintro δ ω2 ⟨rfl, y3, y4, rfl⟩
      exact psd_one (ps1_ret (v_ 2 rfl) ⟨rfl, same_om⟩)
def S_is_stop : FSp := pure_ fun ds d => ∃ (n : Nat) (g : Nat → D) (z : Int) (h : Nat → Int), n ≤ 1000 ∧ (∀ x, x < n → 0 ≤ h x) ∧ ds = [.w (.t (gen n g)) z, vecD n h] ∧ d = .b true
theorem ok_is_stop (F : FnP K "is_stop" s_is_stop f fd) (T : Tx K mg C) (L : OkL P w K mg base C) (G : Ok P w K mg base C "is_whole" 1 ["thing"] S_is_whole) : FnOk P w K mg base CX0 3 f fd ["walk", "thing"] (spF K C S_is_stop) := by
  refine fnD F sc_is_stop (fun ds ω d ω' h => ?_) (fun X ds ω d ω' hX hr h => ?_)
  · obtain ⟨_, n, g, z, h, _, _, rfl, _⟩ := h
    rfl
  · obtain ⟨cdv, A, outer, s, H, E, rfl⟩ := hX
    obtain ⟨rfl, n, g, z, h, hn, hg, rfl, rfl⟩ := h
    have nd := sc_is_stop.nd
    refine psd_one (ps1_ret (pd_andT (q_isT T (v_ 1 rfl)) (pd_andT ((pd_eq (q_lenV T (v_ 1 rfl)) (q_lenW T L hr (by decide) (v_ 0 rfl) hn)).cast (by simp))
      (pd_and1 ((q_all (pf := fun _ => true) T (PDN.pd (pdn_lc1 (fun _ => .b true) 2 nd (blkOk_by (N := N_is_stop) (sc := defScope s_is_stop) (by decide +kernel)) (pid_gt (v_ 1 rfl)) hn
        (fun k hk _ _ _ _ _ ω1 => ?_)))).cast (by rw [show allN n (fun _ => true) = true from allN_iff.mpr fun _ _ => rfl]))))) ⟨rfl, same_om⟩)
    exact pd_andT (pd_ok G hr (by decide) (pda_cons (v_ 2 rfl) pda_nil) ⟨rfl, h k, rfl, rfl⟩) (pd_and1 ((pd_ge (m := h k) (n := 0) (v_ 2 rfl) pd_int).cast (by rw [decide_eq_true (hg k hk)])))
def S_is_like : FSp := pure_ fun ds d => ∃ (n : Nat) (c : Int) (p : Nat → Int), 1 ≤ n ∧ n ≤ 1000 ∧ Sz 2000 n (fun y => c * p y) ∧ Sz 2000 n p ∧ ds = [vecD n fun y => c * p y, vecD n p] ∧ d = .b true
theorem ok_is_like (F : FnP K "is_like" s_is_like f fd) (T : Tx K mg C) : FnOk P w K mg base CX0 1 f fd ["row", "rest"] (spF K C S_is_like) := by
  refine fnD F sc_is_like (fun ds ω d ω' h => ?_) (fun X ds ω d ω' hX hr h => ?_)
  · obtain ⟨_, n, c, p, _, _, _, _, rfl, _⟩ := h
    rfl
  · obtain ⟨cdv, A, outer, s, H, E, rfl⟩ := hX
    obtain ⟨rfl, n, c, p, h1, hn, hc, hp, rfl, rfl⟩ := h
    have nd := sc_is_like.nd
    refine psd_one (ps1_ret ((q_all (pf := fun _ => true) T (PDN.pd (pdn_lc2 (u := fun y => .i (c * p y)) (v := fun y => .i (p y)) (fun _ => .b true) 2 3 nd (blkOk_by (N := N_is_like) (sc := defScope s_is_like) (by decide +kernel)) (q_zip false false T (v_ 0 rfl) (v_ 1 rfl)) hn
        (fun k hk _ _ _ _ _ ω1 => ?_)))).cast (by rw [show allN n (fun _ => true) = true from allN_iff.mpr fun _ _ => rfl])) ⟨rfl, same_om⟩)
    refine PD.cast (pd_eq (m := c * p k * p 0) (n := c * p 0 * p k) (pd_mul (v_ 2 rfl) (q_ixT (g := fun j => .i (p j)) (k := 0) (v_ 1 rfl) pd_int rfl (by omega)) (cm2000 (hc k hk) (hp 0 (by omega)))) (pd_mul (q_ixT (g := fun j => .i (c * p j)) (k := 0) (v_ 0 rfl) pd_int rfl (by omega)) (v_ 3 rfl) (cm2000 (hc 0 (by omega)) (hp k hk)))) ?_
    rw [decide_eq_true (by rw [Int.mul_assoc, Int.mul_assoc, Int.mul_comm (p k) (p 0)])]
end
end FW
set_option Elab.async false
set_option linter.all false
set_option autoImplicit false
set_option maxRecDepth 100000
set_option maxHeartbeats 1000000
/-! M2: sums, the rest, the weights behind steps: sizes. -/
namespace FW
theorem sumN_congr {n : Nat} {f g : Nat → Int} (h : ∀ k, k < n → f k = g k) : sumN n f = sumN n g := by
  unfold sumN
  rw [List.map_congr_left fun k hk => h k (List.mem_range.mp hk)]
theorem sumN_add (n : Nat) (f g : Nat → Int) : sumN n (fun k => f k + g k) = sumN n f + sumN n g := by
  induction n with
  | zero => rfl
  | succ n ih =>
    rw [sumN_succ, sumN_succ, sumN_succ, ih]
    omega
theorem sumN_sub (n : Nat) (f g : Nat → Int) : sumN n (fun k => f k - g k) = sumN n f - sumN n g := by
  induction n with
  | zero => rfl
  | succ n ih =>
    rw [sumN_succ, sumN_succ, sumN_succ, ih]
    omega
theorem sumN_mul (n : Nat) (c : Int) (f : Nat → Int) : sumN n (fun k => c * f k) = c * sumN n f := by
  induction n with
  | zero => rw [sumN_zero, sumN_zero, Int.mul_zero]
  | succ n ih => rw [sumN_succ, sumN_succ, ih, Int.mul_add]
theorem sumN_mulR (n : Nat) (c : Int) (f : Nat → Int) : sumN n (fun k => f k * c) = sumN n f * c := by
  rw [Int.mul_comm, ← sumN_mul]
  exact sumN_congr fun k _ => Int.mul_comm _ _
theorem sumN_const0 (n : Nat) : sumN n (fun _ => 0) = 0 := by
  induction n with
  | zero => rfl
  | succ n ih => rw [sumN_succ, ih]; rfl
theorem sumN_swap (m n : Nat) (f : Nat → Nat → Int) : sumN m (fun i => sumN n (f i)) = sumN n (fun j => sumN m fun i => f i j) := by
  induction m with
  | zero => rw [sumN_zero, sumN_congr (g := fun _ => 0) fun j _ => sumN_zero _, sumN_const0]
  | succ m ih =>
    rw [sumN_succ, ih, ← sumN_add]
    exact sumN_congr fun j _ => (sumN_succ _ _).symm
theorem sumN_le {n : Nat} {f g : Nat → Int} (h : ∀ k, k < n → f k ≤ g k) : sumN n f ≤ sumN n g := by
  have := sumN_ge0 (n := n) (f := fun k => g k - f k) fun k hk => by have := h k hk; omega
  rw [sumN_sub] at this
  omega
theorem sumN_unit {n s : Nat} (hs : s < n) : sumN n (unitN s) = 1 := by
  have h : ∀ m, sumN m (unitN s) = if s < m then 1 else 0 := by
    intro m
    induction m with
    | zero => rfl
    | succ m ih =>
      rw [sumN_succ, ih]
      unfold unitN
      by_cases e : m = s
      · rw [if_pos e, if_neg (by omega), if_pos (by omega)]
        rfl
      · rw [if_neg e]
        by_cases e2 : s < m
        · rw [if_pos e2, if_pos (by omega)]
          rfl
        · rw [if_neg e2, if_neg (by omega)]
          rfl
  rw [h, if_pos hs]
theorem unit_nn (s x : Nat) : 0 ≤ unitN s x := by
  unfold unitN
  split <;> decide
theorem mul_unit_nn {c : Int} (hc : 0 ≤ c) (s x : Nat) : 0 ≤ c * unitN s x := Int.mul_nonneg hc (unit_nn s x)
section
variable {n : Nat} {r : Nat → Nat → Int} {z : Int}
theorem stp_sum (h : Good n r z) (g : Nat → Int) : sumN n (stp n r g) = z * sumN n g := by
  unfold stp
  rw [← sumN_swap n n fun x y => g x * r x y, ← sumN_mul]
  refine sumN_congr fun x hx => ?_
  rw [sumN_mul, h.sum x hx, Int.mul_comm]
theorem itr_sum (h : Good n r z) (g : Nat → Int) : ∀ k : Nat, sumN n (itr n r g k) = z ^ k * sumN n g
  | 0 => by
    show sumN n g = _
    rw [Int.pow_zero, Int.one_mul]
  | k + 1 => by
    show sumN n (stp n r (itr n r g k)) = _
    rw [stp_sum h, itr_sum h g k, Int.pow_succ, ← Int.mul_assoc, Int.mul_comm z]
theorem Good.sz (h : Good n r z) {x y : Nat} (hx : x < n) (hy : y < n) : (r x y).natAbs < 2 ^ 64 := by
  have h1 := h.nn x y hx hy
  have h2 := h.le hx hy
  have h3 := h.z10
  have h4 : (r x y).natAbs ≤ 10 := by omega
  exact Nat.lt_of_le_of_lt h4 (Nat.lt_of_lt_of_le (by decide : 10 < 2 ^ 4) (pow_le2 (by decide)))
theorem pw_pos (h : Good n r z) (k : Nat) : 0 < z ^ k := Int.pow_pos h.z0
theorem pw_sz (h : Good n r z) : ∀ k : Nat, (z ^ k).natAbs < 2 ^ (4 * k + 1)
  | 0 => by
    rw [Int.pow_zero]
    decide
  | k + 1 => by
    rw [Int.pow_succ, Int.natAbs_mul]
    have h1 := pw_sz h k
    have h2 : z.natAbs ≤ 2 ^ 4 := by
      have := h.z0
      have := h.z10
      show z.natAbs ≤ 16
      omega
    have e : 2 ^ (4 * (k + 1) + 1) = 2 ^ (4 * k + 1) * 2 ^ 4 := by rw [← Nat.pow_add]; congr 1
    rw [e]
    exact Nat.mul_lt_mul_of_lt_of_le h1 h2 (by decide)
theorem pw_sz' (h : Good n r z) {k : Nat} (hk : k ≤ 100) : (z ^ k).natAbs < 2 ^ 401 := lt_pow (pw_sz h k) (by omega)
theorem itr_le (h : Good n r z) {g : Nat → Int} (hg : ∀ x, x < n → 0 ≤ g x) (k : Nat) {y : Nat} (hy : y < n) : 0 ≤ itr n r g k y ∧ itr n r g k y ≤ z ^ k * sumN n g := by
  have h1 := itr_nn h.nn hg k
  refine ⟨h1 y hy, ?_⟩
  rw [← itr_sum h]
  exact sumN_ge h1 hy
theorem itr_sz (h : Good n r z) {g : Nat → Int} (hg : ∀ x, x < n → 0 ≤ g x) {B : Nat} (hB : (sumN n g).natAbs < 2 ^ B) {k : Nat} (hk : k ≤ 100) : Sz (401 + B) n (itr n r g k) := fun y hy => by
  obtain ⟨h1, h2⟩ := itr_le h hg k hy
  have h3 : (z ^ k * sumN n g).natAbs < 2 ^ (401 + B) := by
    rw [Int.natAbs_mul, Nat.pow_add]
    exact Nat.mul_lt_mul'' (pw_sz' h hk) hB
  exact le_bits h1 h2 h3
/-! ### the rest -/
theorem gcdN_dvd (g : Nat → Int) : ∀ n k, k < n → gcdN n g ∣ g k
  | n + 1, k, hk => by
    rw [gcdN_succ]
    by_cases e : k = n
    · rw [e]
      exact Int.gcd_dvd_right _ _
    · exact Int.dvd_trans (Int.gcd_dvd_left _ _) (gcdN_dvd g n k (by omega))
theorem rst_eq (h : Good n r z) {y : Nat} (hy : y < n) : rst n r z y * gcdN n (tre n r z) = tre n r z y := by
  unfold rst
  exact Int.ediv_mul_cancel (gcdN_dvd _ n y hy)
theorem gcd_pos (h : Good n r z) : 0 < gcdN n (tre n r z) := (gcdN_le (fun k hk => tre_pos h hk) h.n1).1
theorem rst_pos (h : Good n r z) {y : Nat} (hy : y < n) : 0 < rst n r z y := by
  have h1 := rst_eq h hy
  have h2 := tre_pos h hy
  have h3 := gcd_pos h
  refine Int.lt_of_mul_lt_mul_right (a := gcdN n (tre n r z)) ?_ (Int.le_of_lt h3)
  rw [Int.zero_mul, h1]
  exact h2
theorem rst_le (h : Good n r z) {y : Nat} (hy : y < n) : rst n r z y ≤ tre n r z y := by
  have h1 := rst_eq h hy
  have h2 := rst_pos h hy
  have h3 := gcd_pos h
  have h4 : rst n r z y * 1 ≤ rst n r z y * gcdN n (tre n r z) := Int.mul_le_mul_of_nonneg_left (by omega) (Int.le_of_lt h2)
  omega
theorem rst_sz (h : Good n r z) : Sz 50 n (rst n r z) := fun y hy => le_bits (Int.le_of_lt (rst_pos h hy)) (rst_le h hy) (tre_sz h hy)
theorem rst_stat (h : Good n r z) {y : Nat} (hy : y < n) : sumN n (fun x => rst n r z x * r x y) = z * rst n r z y := by
  have h1 := tre_stat h hy
  have h3 := gcd_pos h
  refine Int.eq_of_mul_eq_mul_right (a := gcdN n (tre n r z)) (by omega) ?_
  rw [← sumN_mulR, Int.mul_assoc, rst_eq h hy, ← h1]
  refine sumN_congr fun x hx => ?_
  rw [← rst_eq h hx]
  exact Int.mul_right_comm _ _ _
theorem rst_sum_sz (h : Good n r z) : (sumN n (rst n r z)).natAbs < 2 ^ 60 := by
  have h5 := h.n5
  have h1 : sumN n (rst n r z) ≤ sumN n (fun _ => 2 ^ 50) := sumN_le fun k hk => by
    have := rst_sz h k hk
    have := rst_pos h hk
    have e : ((2 : Int) ^ 50) = ((2 ^ 50 : Nat) : Int) := by norm_cast
    omega
  have h2 : ∀ m : Nat, sumN m (fun _ => (2 : Int) ^ 50) = m * 2 ^ 50 := by
    intro m
    induction m with
    | zero => rfl
    | succ m ih =>
      rw [sumN_succ, ih]
      omega
  rw [h2] at h1
  have h0 := sumN_ge0 (n := n) (f := rst n r z) fun k hk => Int.le_of_lt (rst_pos h hk)
  have e : (2 : Nat) ^ 60 = 1024 * 2 ^ 50 := by decide
  rw [e]
  omega
theorem rst_sum_pos (h : Good n r z) : 0 < sumN n (rst n r z) := by
  have h1 := sumN_ge (n := n) (f := rst n r z) (fun k hk => Int.le_of_lt (rst_pos h hk)) (j := 0) (by have := h.n1; omega)
  have h2 := rst_pos h (y := 0) (by have := h.n1; omega)
  omega
end
end FW
set_option Elab.async false
set_option linter.all false
set_option autoImplicit false
set_option maxRecDepth 100000
set_option maxHeartbeats 1000000
/-! F9: separation, plans. -/
namespace FW
open PySem PySem.Spec PyProof.Rows L2
theorem one_unit (s : Nat) : (fun x => 1 * unitN s x) = unitN s := funext fun x => Int.one_mul _
/-- the weights behind k steps from s -/
def wt (n : Nat) (r : Nat → Nat → Int) (s k : Nat) : Nat → Int := itr n r (unitN s) k
def sepA (n : Nat) (r : Nat → Nat → Int) (z : Int) (s k : Nat) : Int := rst n r z (barN (wt n r s k) (rst n r z) n) * z ^ k - wt n r s k (barN (wt n r s k) (rst n r z) n) * sumN n (rst n r z)
def sepB (n : Nat) (r : Nat → Nat → Int) (z : Int) (s k : Nat) : Int := rst n r z (barN (wt n r s k) (rst n r z) n) * z ^ k
theorem wt_sz {n : Nat} {r : Nat → Nat → Int} {z : Int} (h : Good n r z) {s k : Nat} (hs : s < n) (hk : k ≤ 100) : Sz 402 n (wt n r s k) := itr_sz h (fun x _ => unit_nn s x) (B := 1) (by rw [sumN_unit hs]; decide) hk
theorem wt_nn {n : Nat} {r : Nat → Nat → Int} {z : Int} (h : Good n r z) (s k : Nat) {y : Nat} (hy : y < n) : 0 ≤ wt n r s k y := itr_nn h.nn (fun x _ => unit_nn s x) k y hy
theorem lt20 {x : Int} {j : Nat} (h : x.natAbs < 2 ^ j) (hj : j ≤ 2000) : x.natAbs < 2 ^ 2000 := lt_pow h hj
theorem Sz.up {B n : Nat} {g : Nat → Int} (h : Sz B n g) (hB : B ≤ 2000) : Sz 2000 n g := fun x hx => lt20 (h x hx) hB
theorem sepB_pos {n : Nat} {r : Nat → Nat → Int} {z : Int} (h : Good n r z) (s k : Nat) : 0 < sepB n r z s k := Int.mul_pos (rst_pos h (barN_lt _ _ h.n1 n (Nat.le_refl n))) (pw_pos h k)
theorem sepB_sz {n : Nat} {r : Nat → Nat → Int} {z : Int} (h : Good n r z) (s : Nat) {k : Nat} (hk : k ≤ 100) : (sepB n r z s k).natAbs < 2 ^ 451 := wide_lt (rst_sz h _ (barN_lt _ _ h.n1 n (Nat.le_refl n))) (pw_sz' h hk)
section
variable {P : Program} {w : World} {K : PySem.W.Frag} {mg : Str → Option Value} {base : Heap} {f : Addr} {fd : FuncData} {C : Addr}
def S_separation : FSp := pure_ fun ds d => ∃ (n : Nat) (r : Nat → Nat → Int) (z : Int) (s k : Nat), Good n r z ∧ s < n ∧ k ≤ 100 ∧ ds = [.w (matD n r) z, .i (s : Int), .i (k : Int)] ∧ d = plainD (sepA n r z s k) (sepB n r z s k)
theorem ok_separation {kws : List (Str × V)} (F : FunD K "separation" "separation" (defArgs s_separation) (defBody s_separation) (defScope s_separation) [] kws f fd) (T : Tx K mg C) (G1 : Ok P w K mg base C "one_rest" 6 ["walk"] S_one_rest) (G2 : Ok P w K mg base C "need_place" 4 ["walk", "thing"] S_need_place) (S : OkS P w K mg base C)
    (G3 : Ok P w K mg base C "begun" 3 ["walk", "start", "many"] S_begun) (G4 : Ok P w K mg base C "stepped" 1 ["rows", "weights"] S_stepped) (G5 : Ok P w K mg base C "barest" 1 ["weights", "rest"] S_barest) (G6 : Ok P w K mg base C "plain_of" 2 ["above", "below"] S_plain_of) : FnOk P w K mg base CX0 7 f fd ["walk", "start", "steps"] (spF K C S_separation) := by
  refine fnD F sc_separation (fun ds ω d ω' h => ?_) (fun X ds ω d ω' hX hr h => ?_)
  · obtain ⟨_, n, r, z, s, k, _, _, _, rfl, _⟩ := h
    rfl
  · obtain ⟨cdv, A, outer, st, H, E, rfl⟩ := hX
    obtain ⟨rfl, n, r, z, s, k, hg, hs, hk, rfl, rfl⟩ := h
    have nd := sc_separation.nd
    have h5 := hg.n5
    refine psd_cons (ps1_set 3 nd rfl (.inl rfl) (pd_ok G1 hr (by decide) (pda_cons (v_ 0 rfl) pda_nil) ⟨rfl, n, r, z, hg, rfl, rfl⟩) ?_)
    refine psd_cons (ps1_drop (pd_ok G2 hr (by decide) (pda_cons (v_ 0 rfl) (pda_cons (v_ 1 rfl) pda_nil)) ⟨rfl, n, fun x => vecD n (r x), z, s, hg.n1, by omega, hs, rfl, rfl⟩) ?_)
    refine psd_cons (ps1_drop (q_needS S hr (by decide) (v_ 2 rfl) (by omega) (by omega)) ?_)
    refine psd_cons (ps1_par 4 5 rfl nd rfl rfl (by decide) rfl rfl (pdax_cons (pd_ok G3 hr (by decide) (pda_cons (v_ 0 rfl) (pda_cons (v_ 1 rfl) (pda_cons pd_int pda_nil))) ⟨rfl, n, fun x => vecD n (r x), z, s, 1, by omega, Nat.lt_of_lt_of_le (by decide : 1 < 2 ^ 1) (pow_le2 (by decide)), rfl, rfl⟩) (pdax_cons pd_int (pdax_nil ⟨_, _, rfl, ?_⟩))) rfl)
    rw [one_unit]
    refine psd_cons (ps1_for1 6 (fun j δ ω2 => ω2 = ω' ∧ ∃ y6 y7, δ = [some (.w (matD n r) z), some (.i (s : Int)), some (.i (k : Int)), some (vecD n (rst n r z)), some (vecD n (wt n r s j)), some (.i (z ^ j)), y6, y7]) nd rfl (.inl rfl) PassesOwn.never (q_range T (v_ 2 rfl) (by omega)) ⟨rfl, none, none, by rw [Int.pow_zero]; rfl⟩ ?_ ?_)
    · rintro j hj δ ω2 ⟨rfl, y6, y7, rfl⟩
      refine psd_one (ps1_par 4 5 rfl nd rfl rfl (by decide) rfl rfl (pdax_cons (pd_ok G4 hr (by decide) (pda_cons (pd_rows (v_ 0 rfl) T.cl T.nR) (pda_cons (v_ 4 rfl) pda_nil)) ⟨rfl, n, r, wt n r s j, by omega, fun x hx => wt_nn hg s j hx, fun x y hx hy => hg.sz hx hy, rfl, rfl⟩) (pdax_cons (pd_mul (v_ 5 rfl) (pd_whole (v_ 0 rfl) T.cl T.nW) (cm2000 (lt20 (pw_sz' hg (by omega)) (by decide)) (lt20 (by have := pw_sz' hg (k := 1) (by decide); rw [Int.pow_one] at this; exact this) (by decide)))) (pdax_nil ⟨_, _, rfl, rfl, some (.i (j : Int)), y7, ?_⟩))) rfl)
      rw [Int.pow_succ]
      rfl
    · rintro δ ω2 ⟨rfl, y6, y7, rfl⟩
      refine psd_cons (ps1_set 7 nd rfl (.inl rfl) (pd_ok G5 hr (by decide) (pda_cons (v_ 4 rfl) (pda_cons (v_ 3 rfl) pda_nil)) ⟨rfl, n, _, _, hg.n1, (wt_sz hg hs hk).up (by decide), (rst_sz hg).up (by decide), rfl, rfl⟩) ?_)
      have hb := barN_lt (wt n r s k) (rst n r z) hg.n1 n (Nat.le_refl n)
      have e1 := lt20 (rst_sz hg _ hb) (by decide)
      have e2 := lt20 (pw_sz' hg hk) (by decide)
      have e3 := lt20 (wt_sz hg hs hk _ hb) (by decide)
      have e4 := lt20 (rst_sum_sz hg) (by decide)
      refine psd_one (ps1_ret (pd_ok G6 hr (by decide) (pda_cons (pd_sub (pd_mul (q_ixT (g := fun j => .i (rst n r z j)) (v_ 3 rfl) (v_ 7 rfl) rfl hb) (v_ 5 rfl) (cm2000 e1 e2)) (pd_mul (q_ixT (g := fun j => .i (wt n r s k j)) (v_ 4 rfl) (v_ 7 rfl) rfl hb) (q_sumV T (v_ 3 rfl)) (cm2000 e3 e4))) (pda_cons (pd_mul (q_ixT (g := fun j => .i (rst n r z j)) (v_ 3 rfl) (v_ 7 rfl) rfl hb) (v_ 5 rfl) (cm2000 e1 e2)) pda_nil)) ⟨rfl, _, _, sepB_pos hg s k, lt_pow (sepB_sz hg s hk) (by decide), rfl, rfl⟩) ⟨rfl, same_om⟩)
end
end FW
set_option Elab.async false
set_option linter.all false
set_option autoImplicit false
set_option maxRecDepth 100000
set_option maxHeartbeats 1000000
/-! F10: plans. -/
namespace FW
open PySem PySem.Spec PyProof.Rows L2
theorem PDT.cast {X : Cx} {C : Addr} {e : Expr} {δ : Env} {ω ω1 : Om} {b b' : Bool} (h : PDT X C e δ ω b ω1) (q : b = b') : PDT X C e δ ω b' ω1 := q ▸ h
/-- what stands at each place as a plan goes on -/
def stand (n : Nat) (r : Nat → Nat → Int) (g : Nat → Int) (row : Nat → Nat → Int) : Nat → Nat → Int
  | 0 => g
  | t + 1 => stp n r fun y => stand n r g row t y - row t y
def planD (n : Nat) (sc : Int) (m : Nat) (row : Nat → Nat → Int) : D := .t [.i sc, .t (gen m fun t => vecD n (row t))]
structure PlanOk (n : Nat) (r : Nat → Nat → Int) (s : Nat) (sc : Int) (m : Nat) (row : Nat → Nat → Int) : Prop where
  sc1 : 1 ≤ sc
  scz : sc.natAbs < 2 ^ 2000
  m1 : 1 ≤ m
  mz : m ≤ 100
  fits : ∀ t y, t < m → y < n → 0 ≤ row t y ∧ row t y ≤ stand n r (fun x => sc * unitN s x) row t y
theorem lv_plan (n m : Nat) (row : Nat → Nat → Int) : Lv 2 (.t (gen m fun t => vecD n (row t))) := lv_gen (k := 1) fun t ht => lv_gen (k := 0) fun y hy => True.intro
section
variable {P : Program} {w : World} {K : PySem.W.Frag} {mg : Str → Option Value} {base : Heap} {f : Addr} {fd : FuncData} {C : Addr}
def S_is_plan_of : FSp := pure_ fun ds d => ∃ (n : Nat) (r : Nat → Nat → Int) (z : Int) (s : Nat) (sc : Int) (m : Nat) (row : Nat → Nat → Int), Good n r z ∧ s < n ∧ PlanOk n r s sc m row ∧ ds = [.w (matD n r) z, .i (s : Int), planD n sc m row] ∧ d = .b true
theorem ok_is_plan_of (F : FnP K "is_plan_of" s_is_plan_of f fd) (T : Tx K mg C) (G1 : Ok P w K mg base C "is_whole" 1 ["thing"] S_is_whole) (G2 : Ok P w K mg base C "is_stop" 3 ["walk", "thing"] S_is_stop) (G3 : Ok P w K mg base C "begun" 3 ["walk", "start", "many"] S_begun) (G4 : Ok P w K mg base C "stepped" 1 ["rows", "weights"] S_stepped) : FnOk P w K mg base CX0 4 f fd ["walk", "start", "thing"] (spF K C S_is_plan_of) := by
  refine fnD F sc_is_plan_of (fun ds ω d ω' h => ?_) (fun X ds ω d ω' hX hr h => ?_)
  · obtain ⟨_, n, r, z, s, sc, m, row, _, _, _, rfl, _⟩ := h
    rfl
  · obtain ⟨cdv, A, outer, st, H, E, rfl⟩ := hX
    obtain ⟨rfl, n, r, z, s, sc, m, row, hg, hs, hp, rfl, rfl⟩ := h
    have nd := sc_is_plan_of.nd
    have h5 := hg.n5
    have bok := fun scope own h => @blkOk_by N_is_plan_of (defScope s_is_plan_of) scope own h
    have vt : ∀ {pos : Pos}, True := fun {_} => True.intro
    refine psd_cons (ps1_ifF (PDW.pt (pdw_orF (pdt_not (p := true) (pdt_val (q_isT (ds := [.i sc, .t (gen m fun t => vecD n (row t))]) T (v_ 2 rfl)))) (pdw_orF (PDT.cast (pdt_ne (q_lenT (ds := [.i sc, .t (gen m fun t => vecD n (row t))]) T (v_ 2 rfl)) pd_int) (by rfl)) (pdw_orF (pdt_not (p := true) (pdt_val (pd_ok G1 hr (by decide) (pda_cons (pd_ixT (ds := [.i sc, .t (gen m fun t => vecD n (row t))]) (j := 0) (v_ 2 rfl) pd_int rfl rfl) pda_nil) ⟨rfl, sc, rfl, rfl⟩)))
      (pdw_or1 (PDT.cast (pdt_lt (m := sc) (n := 1) (pd_ixT (ds := [.i sc, .t (gen m fun t => vecD n (row t))]) (j := 0) (v_ 2 rfl) pd_int rfl rfl) pd_int) (decide_eq_false (by have := hp.sc1; omega)))))))) ?_)
    refine psd_cons (ps1_tgt (pg_tup rfl (pgs_cons (pg_name (i := 3) nd rfl (.inl rfl) (.inl rfl)) (pgs_cons (pg_name (i := 4) nd rfl (.inl rfl) (.inl rfl)) pgs_nil))) (d := .t [.i sc, .t (gen m fun t => vecD n (row t))]) (v_ 2 rfl) (evg_pair evg_name evg_name) ?_)
    have lt : Lv 1 (.t []) := fun x hx => absurd hx (by simp)
    refine psd_cons (ps1_ifF (PDW.pt (pdw_orF (pdt_not (p := true) (pdt_val (q_isT (ds := gen m fun t => vecD n (row t)) T (v_ 4 rfl)))) (pdw_orF (PDT.cast (pdt_eqD (k1 := 2) (k2 := 1) hr.units (v_ 4 rfl) (pd_tup pda_nil (by show 0 ≤ 1000; decide)) (lv_plan n m row) lt) ?_) (pdw_or1 (pdt_not (p := true) (pdt_val (PD.cast (q_all (pf := fun _ => true) T (PDN.pd (pdn_lc1 (fun _ => .b true) 5 nd (bok _ _ (by decide +kernel)) (pid_gt (v_ 4 rfl)) (by have := hp.mz; omega)
        (fun k hk _ _ _ _ _ ω1 => ?_)))) (by rw [show allN m (fun _ => true) = true from allN_iff.mpr fun _ _ => rfl])))))))) ?_)
    · obtain ⟨m', rfl⟩ : ∃ m', m = m' + 1 := ⟨m - 1, by have := hp.m1; omega⟩
      unfold eqvD gen
      rw [List.range_succ_eq_map]
      rfl
    · exact pd_ok G2 hr (by decide) (pda_cons (v_ 0 rfl) (pda_cons (v_ 5 rfl) pda_nil)) ⟨rfl, n, fun x => vecD n (r x), z, row k, by omega, fun x hx => (hp.fits k x hk hx).1, rfl, rfl⟩
    refine psd_cons (ps1_set 6 nd rfl (.inl rfl) (pd_ok G3 hr (by decide) (pda_cons (v_ 0 rfl) (pda_cons (v_ 1 rfl) (pda_cons (v_ 3 rfl) pda_nil))) ⟨rfl, n, fun x => vecD n (r x), z, s, sc, by omega, hp.scz, rfl, rfl⟩) ?_)
    refine psd_cons (ps1_for1 5 (fun t δ ω2 => ω2 = ω' ∧ ∃ y5 y7 y8, δ = [some (.w (matD n r) z), some (.i (s : Int)), some (planD n sc m row), some (.i sc), some (.t (gen m fun t => vecD n (row t))), y5, some (vecD n (stand n r (fun x => sc * unitN s x) row t)), y7, y8]) nd rfl (.inl rfl) PassesOwn.never (pid_gt (v_ 4 rfl)) ⟨rfl, none, none, none, rfl⟩ ?_ ?_)
    · rintro t ht δ ω2 ⟨rfl, y5, y7, y8, rfl⟩
      refine psd_cons (ps1_ifF (pdt_val (PD.cast (q_any (pf := fun _ => false) T (PDN.pd (pdn_lc2 (u := fun y => .i (row t y)) (v := fun y => .i (stand n r (fun x => sc * unitN s x) row t y)) (fun _ => .b false) 7 8 nd (bok _ _ (by decide +kernel)) (q_zip false false T (v_ 5 rfl) (v_ 6 rfl)) (by omega) (fun k hk _ _ _ _ _ ω1 => PD.cast (pd_gt (v_ 7 rfl) (v_ 8 rfl)) (by rw [decide_eq_false (by have := (hp.fits t k ht hk).2; omega)]))))) (by rw [anyN_false fun _ _ => rfl]))) ?_)
      refine psd_one (ps1_set 6 nd rfl (.inl rfl) (pd_ok G4 hr (by decide) (pda_cons (pd_rows (v_ 0 rfl) T.cl T.nR) (pda_cons (q_tupL T (PDN.pd (pdn_lc2 (u := fun y => .i (row t y)) (v := fun y => .i (stand n r (fun x => sc * unitN s x) row t y)) (fun y => .i (stand n r (fun x => sc * unitN s x) row t y - row t y)) 7 8 nd (bok _ _ (by decide +kernel)) (q_zip false false T (v_ 5 rfl) (v_ 6 rfl)) (by omega) (fun k hk _ _ _ _ _ ω1 => pd_sub (v_ 8 rfl) (v_ 7 rfl))))) pda_nil))
        ⟨rfl, n, r, fun y => stand n r (fun x => sc * unitN s x) row t y - row t y, by omega, fun x hx => Int.sub_nonneg_of_le (hp.fits t x ht hx).2, fun x y hx hy => hg.sz hx hy, rfl, rfl⟩) ⟨rfl, some (vecD n (row t)), y7, y8, rfl⟩)
    · rintro δ ω2 ⟨rfl, y5, y7, y8, rfl⟩
      exact psd_one (ps1_ret pd_bl ⟨rfl, same_om⟩)
def S_is_plan : FSp := pure_ fun ds d => ∃ (n : Nat) (r : Nat → Nat → Int) (z : Int) (s : Nat) (sc : Int) (m : Nat) (row : Nat → Nat → Int), Good n r z ∧ s < n ∧ PlanOk n r s sc m row ∧ ds = [.w (matD n r) z, .i (s : Int), planD n sc m row] ∧ d = .b true
theorem ok_is_plan (F : FnP K "is_plan" s_is_plan f fd) (T : Tx K mg C) (G1 : Ok P w K mg base C "one_rest" 6 ["walk"] S_one_rest) (G2 : Ok P w K mg base C "need_place" 4 ["walk", "thing"] S_need_place) (G3 : Ok P w K mg base C "is_plan_of" 4 ["walk", "start", "thing"] S_is_plan_of) : FnOk P w K mg base CX0 7 f fd ["walk", "start", "thing"] (spF K C S_is_plan) := by
  refine fnD F sc_is_plan (fun ds ω d ω' h => ?_) (fun X ds ω d ω' hX hr h => ?_)
  · obtain ⟨_, n, r, z, s, sc, m, row, _, _, _, rfl, _⟩ := h
    rfl
  · obtain ⟨cdv, A, outer, st, H, E, rfl⟩ := hX
    obtain ⟨rfl, n, r, z, s, sc, m, row, hg, hs, hp, rfl, rfl⟩ := h
    have h5 := hg.n5
    refine psd_cons (ps1_drop (pd_ok G1 hr (by decide) (pda_cons (v_ 0 rfl) pda_nil) ⟨rfl, n, r, z, hg, rfl, rfl⟩) ?_)
    refine psd_cons (ps1_drop (pd_ok G2 hr (by decide) (pda_cons (v_ 0 rfl) (pda_cons (v_ 1 rfl) pda_nil)) ⟨rfl, n, fun x => vecD n (r x), z, s, hg.n1, by omega, hs, rfl, rfl⟩) ?_)
    exact psd_one (ps1_ret (pd_ok G3 hr (by decide) (pda_cons (v_ 0 rfl) (pda_cons (v_ 1 rfl) (pda_cons (v_ 2 rfl) pda_nil))) ⟨rfl, n, r, z, s, sc, m, row, hg, hs, hp, rfl, rfl⟩) ⟨rfl, same_om⟩)
def S_is_fair : FSp := pure_ fun ds d => ∃ (n : Nat) (r : Nat → Nat → Int) (z : Int) (s : Nat) (sc : Int) (m : Nat) (c : Nat → Int), Good n r z ∧ s < n ∧ PlanOk n r s sc m (fun t y => c t * rst n r z y) ∧ (∀ t, t < m → Sz 2000 n fun y => c t * rst n r z y) ∧ ds = [.w (matD n r) z, .i (s : Int), planD n sc m fun t y => c t * rst n r z y] ∧ d = .b true
theorem ok_is_fair (F : FnP K "is_fair" s_is_fair f fd) (T : Tx K mg C) (G1 : Ok P w K mg base C "one_rest" 6 ["walk"] S_one_rest) (G2 : Ok P w K mg base C "need_place" 4 ["walk", "thing"] S_need_place) (G3 : Ok P w K mg base C "is_plan_of" 4 ["walk", "start", "thing"] S_is_plan_of) (G4 : Ok P w K mg base C "is_like" 1 ["row", "rest"] S_is_like) : FnOk P w K mg base CX0 7 f fd ["walk", "start", "thing"] (spF K C S_is_fair) := by
  refine fnD F sc_is_fair (fun ds ω d ω' h => ?_) (fun X ds ω d ω' hX hr h => ?_)
  · obtain ⟨_, n, r, z, s, sc, m, c, _, _, _, _, rfl, _⟩ := h
    rfl
  · obtain ⟨cdv, A, outer, st, H, E, rfl⟩ := hX
    obtain ⟨rfl, n, r, z, s, sc, m, c, hg, hs, hp, hz, rfl, rfl⟩ := h
    have h5 := hg.n5
    have nd := sc_is_fair.nd
    have bok := fun scope own h => @blkOk_by N_is_fair (defScope s_is_fair) scope own h
    refine psd_cons (ps1_set 3 nd rfl (.inr rfl) (pd_ok G1 hr (by decide) (pda_cons (v_ 0 rfl) pda_nil) ⟨rfl, n, r, z, hg, rfl, rfl⟩) ?_)
    refine psd_cons (ps1_drop (pd_ok G2 hr (by decide) (pda_cons (v_ 0 rfl) (pda_cons (v_ 1 rfl) pda_nil)) ⟨rfl, n, fun x => vecD n (r x), z, s, hg.n1, by omega, hs, rfl, rfl⟩) ?_)
    refine psd_one (ps1_ret (pd_andT (pd_ok G3 hr (by decide) (pda_cons (v_ 0 rfl) (pda_cons (v_ 1 rfl) (pda_cons (v_ 2 rfl) pda_nil))) ⟨rfl, n, r, z, s, sc, m, _, hg, hs, hp, rfl, rfl⟩) (pd_and1 (PD.cast (q_all (pf := fun _ => true) T (PDN.pd (pdn_lc1 (fun _ => .b true) 4 nd (bok _ _ (by decide +kernel)) (pid_gt (pd_ixT (ds := [.i sc, .t (gen m fun t => vecD n fun y => c t * rst n r z y)]) (j := 1) (v_ 2 rfl) pd_int rfl rfl)) (by have := hp.mz; omega)
        (fun k hk _ _ _ _ _ ω1 => ?_)))) (by rw [show allN m (fun _ => true) = true from allN_iff.mpr fun _ _ => rfl])))) ⟨rfl, same_om⟩)
    exact pd_ok G4 hr (by decide) (pda_cons (v_ 4 rfl) (pda_cons (v_ 3 rfl) pda_nil)) ⟨rfl, n, c k, rst n r z, hg.n1, by omega, hz k hk, (rst_sz hg).up (by decide), rfl, rfl⟩
end
end FW
set_option Elab.async false
set_option linter.all false
set_option autoImplicit false
set_option maxRecDepth 100000
set_option maxHeartbeats 1000000
/-! F11: stopped, the fair plan. -/
namespace FW
open PySem PySem.Spec PyProof.Rows L2
/-- what has gone ahead of turn t -/
def gob (z : Int) (S : Nat → Int) : Nat → Int
  | 0 => 0
  | t + 1 => (gob z S t + S t) * z
def stopD (n : Nat) (z sc : Int) (m : Nat) (row : Nat → Nat → Int) : D := .t (gen m fun t => plainD (gob z (fun t => sumN n (row t)) t + sumN n (row t)) (sc * z ^ t))
def lcmN (p : Nat → Int) : Nat → Int
  | 0 => 1
  | k + 1 => lcmN p k * p k / gcdI (lcmN p k) (p k)
theorem gcdI_posL {a b : Int} (h : 0 < a) : 0 < gcdI a b := by
  unfold gcdI
  have : Int.gcd a b ≠ 0 := fun z => by
    have := (Int.gcd_eq_zero_iff.mp z).1
    omega
  omega
theorem gcdI_leL {a b : Int} (h : 0 < a) : gcdI a b ≤ a := by
  unfold gcdI
  exact Int.le_of_dvd h (Int.gcd_dvd_left a b)
theorem lcm_pos {p : Nat → Int} {n : Nat} (h : ∀ k, k < n → 0 < p k) : ∀ k, k ≤ n → 0 < lcmN p k
  | 0, _ => by show (0 : Int) < 1; decide
  | k + 1, hk => by
    have h1 := lcm_pos h k (by omega)
    have h2 := h k (by omega)
    have h3 := gcdI_posL (b := p k) h1
    have h4 := gcdI_leL (b := p k) h1
    have h5 : lcmN p k * 1 ≤ lcmN p k * p k := Int.mul_le_mul_of_nonneg_left (by omega) (Int.le_of_lt h1)
    show 0 < lcmN p k * p k / gcdI (lcmN p k) (p k)
    have h6 : 1 ≤ lcmN p k * p k / gcdI (lcmN p k) (p k) := (Int.le_ediv_iff_mul_le h3).mpr (by omega)
    omega
theorem lcm_sz {p : Nat → Int} {n : Nat} (h : ∀ k, k < n → 0 < p k) (hz : Sz 50 n p) : ∀ k, k ≤ n → (lcmN p k).natAbs < 2 ^ (50 * k + 1)
  | 0, _ => by show (1 : Int).natAbs < 2 ^ 1; decide
  | k + 1, hk => by
    have h1 := lcm_sz h hz k (by omega)
    have h2 := lcm_pos h k (by omega)
    have h3 := lcm_pos h (k + 1) hk
    have h4 := h k (by omega)
    have h5 : lcmN p (k + 1) ≤ lcmN p k * p k := Int.ediv_le_self _ (Int.mul_nonneg (Int.le_of_lt h2) (Int.le_of_lt h4))
    refine le_bits (Int.le_of_lt h3) h5 ?_
    have e : 2 ^ (50 * (k + 1) + 1) = 2 ^ (50 * k + 1) * 2 ^ 50 := by rw [← Nat.pow_add]; congr 1
    rw [Int.natAbs_mul, e]
    exact Nat.mul_lt_mul'' h1 (hz k (by omega))
section
variable (n : Nat) (r : Nat → Nat → Int) (z : Int) (s : Nat)
def fSc : Int := lcmN (rst n r z) n
def fW (t : Nat) : Nat → Int := itr n r (fun x => fSc n r z * unitN s x) t
def fShare (t : Nat) : Int := fW n r z s t (barN (fW n r z s t) (rst n r z) n) / rst n r z (barN (fW n r z s t) (rst n r z) n)
def fAhead : Nat → Int
  | 0 => 0
  | t + 1 => fShare n r z s t * z
end
section
variable {n : Nat} {r : Nat → Nat → Int} {z : Int} {s : Nat}
theorem fSc_pos (h : Good n r z) : 0 < fSc n r z := lcm_pos (fun k hk => rst_pos h hk) n (Nat.le_refl n)
theorem fSc_sz (h : Good n r z) : (fSc n r z).natAbs < 2 ^ 251 := lt_pow (lcm_sz (fun k hk => rst_pos h hk) (rst_sz h) n (Nat.le_refl n)) (by have := h.n5; omega)
theorem fW_sum0 (h : Good n r z) (hs : s < n) : sumN n (fun x => fSc n r z * unitN s x) = fSc n r z := by rw [sumN_mul, sumN_unit hs, Int.mul_one]
theorem fW_nn (h : Good n r z) (t : Nat) {y : Nat} (hy : y < n) : 0 ≤ fW n r z s t y := itr_nn h.nn (fun x _ => mul_unit_nn (Int.le_of_lt (fSc_pos h)) s x) t y hy
theorem fW_sz (h : Good n r z) (hs : s < n) {t : Nat} (ht : t ≤ 100) : Sz 652 n (fW n r z s t) := itr_sz h (fun x _ => mul_unit_nn (Int.le_of_lt (fSc_pos h)) s x) (B := 251) (by rw [fW_sum0 h hs]; exact fSc_sz h) ht
theorem fShare_nn (h : Good n r z) (t : Nat) : 0 ≤ fShare n r z s t := by
  have hb := barN_lt (fW n r z s t) (rst n r z) h.n1 n (Nat.le_refl n)
  exact Int.ediv_nonneg (fW_nn h t hb) (Int.le_of_lt (rst_pos h hb))
theorem fShare_sz (h : Good n r z) (hs : s < n) {t : Nat} (ht : t ≤ 100) : (fShare n r z s t).natAbs < 2 ^ 652 := by
  have hb := barN_lt (fW n r z s t) (rst n r z) h.n1 n (Nat.le_refl n)
  exact le_bits (fShare_nn h t) (Int.ediv_le_self _ (fW_nn h t hb)) (fW_sz h hs ht _ hb)
theorem z_sz (h : Good n r z) : z.natAbs < 2 ^ 4 := by
  have := h.z0
  have := h.z10
  show z.natAbs < 16
  omega
theorem fAhead_nn (h : Good n r z) : ∀ t, 0 ≤ fAhead n r z s t
  | 0 => Int.le_refl 0
  | t + 1 => Int.mul_nonneg (fShare_nn h t) (Int.le_of_lt h.z0)
theorem fAhead_sz (h : Good n r z) (hs : s < n) : ∀ {t : Nat}, t ≤ 100 → (fAhead n r z s t).natAbs < 2 ^ 656
  | 0, _ => Nat.pow_pos (by decide)
  | t + 1, ht => by
    show (fShare n r z s t * z).natAbs < _
    rw [Int.natAbs_mul, show (656 : Nat) = 652 + 4 from rfl, Nat.pow_add]
    exact Nat.mul_lt_mul'' (fShare_sz h hs (by omega)) (z_sz h)
theorem sub_sz {x y : Int} {B : Nat} (hx : 0 ≤ x) (hy : 0 ≤ y) (h1 : x.natAbs < 2 ^ B) (h2 : y.natAbs < 2 ^ B) : (x - y).natAbs < 2 ^ B := by omega
end
section
variable {P : Program} {w : World} {K : PySem.W.Frag} {mg : Str → Option Value} {base : Heap} {f : Addr} {fd : FuncData} {C : Addr}
def S_stopped : FSp := pure_ fun ds d => ∃ (n : Nat) (r : Nat → Nat → Int) (z : Int) (s : Nat) (sc : Int) (m : Nat) (row : Nat → Nat → Int), Good n r z ∧ s < n ∧ PlanOk n r s sc m row ∧ (∀ t, t < m → (gob z (fun t => sumN n (row t)) t + sumN n (row t)).natAbs < 2 ^ 2000) ∧ (∀ t, t ≤ m → (sc * z ^ t).natAbs < 2 ^ 2000) ∧ ds = [.w (matD n r) z, .i (s : Int), planD n sc m row] ∧ d = stopD n z sc m row
theorem ok_stopped (F : FnP K "stopped" s_stopped f fd) (T : Tx K mg C) (G1 : Ok P w K mg base C "one_rest" 6 ["walk"] S_one_rest) (G2 : Ok P w K mg base C "need_place" 4 ["walk", "thing"] S_need_place) (G3 : Ok P w K mg base C "is_plan_of" 4 ["walk", "start", "thing"] S_is_plan_of) (G4 : Ok P w K mg base C "plain_of" 2 ["above", "below"] S_plain_of) : FnOk P w K mg base CX0 7 f fd ["walk", "start", "plan"] (spF K C S_stopped) := by
  refine fnD F sc_stopped (fun ds ω d ω' h => ?_) (fun X ds ω d ω' hX hr h => ?_)
  · obtain ⟨_, n, r, z, s, sc, m, row, _, _, _, _, _, rfl, _⟩ := h
    rfl
  · obtain ⟨cdv, A, outer, st, H, E, rfl⟩ := hX
    obtain ⟨rfl, n, r, z, s, sc, m, row, hg, hs, hp, hz1, hz2, rfl, rfl⟩ := h
    have h5 := hg.n5
    have hmz := hp.mz
    have nd := sc_stopped.nd
    refine psd_cons (ps1_drop (pd_ok G1 hr (by decide) (pda_cons (v_ 0 rfl) pda_nil) ⟨rfl, n, r, z, hg, rfl, rfl⟩) ?_)
    refine psd_cons (ps1_drop (pd_ok G2 hr (by decide) (pda_cons (v_ 0 rfl) (pda_cons (v_ 1 rfl) pda_nil)) ⟨rfl, n, fun x => vecD n (r x), z, s, hg.n1, by omega, hs, rfl, rfl⟩) ?_)
    refine psd_cons (ps1_ifF (pdt_not (p := true) (pdt_val (pd_ok G3 hr (by decide) (pda_cons (v_ 0 rfl) (pda_cons (v_ 1 rfl) (pda_cons (v_ 2 rfl) pda_nil))) ⟨rfl, n, r, z, s, sc, m, row, hg, hs, hp, rfl, rfl⟩))) ?_)
    refine psd_cons (ps1_tgt (pg_tup rfl (pgs_cons (pg_name (i := 3) nd rfl (.inl rfl) (.inl rfl)) (pgs_cons (pg_name (i := 4) nd rfl (.inl rfl) (.inl rfl)) pgs_nil))) (d := .t [.i sc, .t (gen m fun t => vecD n (row t))]) (v_ 2 rfl) (evg_pair evg_name evg_name) ?_)
    refine psd_cons (ps1_par3 5 6 7 rfl nd rfl rfl rfl (by decide) (by decide) (by decide) rfl rfl rfl (pdax_new (pdn_lst pda_nil (by show 0 ≤ 1000; decide)) fun p hp0 => pdax_cons pd_int (pdax_cons (v_ 3 rfl) (pdax_nil ⟨_, _, _, rfl, ?_⟩))) rfl)
    let S : Nat → Int := fun t => sumN n (row t)
    refine psd_cons (ps1_for1 8 (fun t δ ω2 => ω2 = updO ω' p (.lst (gen t fun t => plainD (gob z S t + S t) (sc * z ^ t))) ∧ ∃ y8, δ = [some (.w (matD n r) z), some (.i (s : Int)), some (planD n sc m row), some (.i sc), some (.t (gen m fun t => vecD n (row t))), some (.adr p), some (.i (gob z S t)), some (.i (sc * z ^ t)), y8]) nd rfl (.inl rfl) PassesOwn.never (pid_gt (v_ 4 rfl)) ⟨rfl, none, by rw [Int.pow_zero, Int.mul_one]; rfl⟩ ?_ ?_)
    · rintro t ht δ ω2 ⟨rfl, y8, rfl⟩
      have hpos : 0 < sc * z ^ t := Int.mul_pos (by have := hp.sc1; omega) (pw_pos hg t)
      refine psd_cons (ps1_add (m := gob z S t) (n := S t) 6 nd rfl (.inl rfl) rfl (q_sumV T (v_ 8 rfl)) ?_)
      refine psd_cons (ps1_app (d := plainD (gob z S t + S t) (sc * z ^ t)) (v_ 5 rfl) updO_same (pd_ok G4 hr (by decide) (pda_cons (v_ 6 rfl) (pda_cons (v_ 7 rfl) pda_nil)) ⟨rfl, _, _, hpos, lt_pow (hz2 t (by omega)) (by decide), rfl, rfl⟩) updO_same (by rw [gen_len]; omega) ?_)
      refine psd_one (ps1_par 6 7 rfl nd rfl rfl (by decide) rfl rfl (pdax_cons (pd_mul (v_ 6 rfl) (pd_whole (v_ 0 rfl) T.cl T.nW) (cm2000 (hz1 t ht) (lt20 (z_sz hg) (by decide)))) (pdax_cons (pd_mul (v_ 7 rfl) (pd_whole (v_ 0 rfl) T.cl T.nW) (cm2000 (hz2 t (by omega)) (lt20 (z_sz hg) (by decide)))) (pdax_nil ⟨_, _, rfl, ?_, some (vecD n (row t)), ?_⟩))) rfl)
      · rw [updO_updO, gen_succ]
      · rw [Int.pow_succ, ← Int.mul_assoc]
        rfl
    · rintro δ ω2 ⟨rfl, y8, rfl⟩
      refine psd_one (ps1_ret (q_tupO T (v_ 5 rfl) updO_same) ⟨rfl, fun a o e => ?_⟩)
      rw [updO_ne (fun q => by rw [q, hp0] at e; cases e)]
      exact e
def S_fair_plan : FSp := pure_ fun ds d => ∃ (n : Nat) (r : Nat → Nat → Int) (z : Int) (s k : Nat), Good n r z ∧ s < n ∧ k ≤ 90 ∧ ds = [.w (matD n r) z, .i (s : Int), .i (k : Int)] ∧ d = planD n (fSc n r z) (k + 1) fun t y => (fShare n r z s t - fAhead n r z s t) * rst n r z y
theorem ok_fair_plan {kws : List (Str × V)} (F : FunD K "fair_plan" "fair_plan" (defArgs s_fair_plan) (defBody s_fair_plan) (defScope s_fair_plan) [] kws f fd) (T : Tx K mg C) (G1 : Ok P w K mg base C "one_rest" 6 ["walk"] S_one_rest) (G2 : Ok P w K mg base C "need_place" 4 ["walk", "thing"] S_need_place) (S : OkS P w K mg base C)
    (G3 : Ok P w K mg base C "begun" 3 ["walk", "start", "many"] S_begun) (G4 : Ok P w K mg base C "stepped" 1 ["rows", "weights"] S_stepped) (G5 : Ok P w K mg base C "barest" 1 ["weights", "rest"] S_barest) (G6 : Ok P w K mg base C "common" 1 ["one", "other"] S_common) : FnOk P w K mg base CX0 7 f fd ["walk", "start", "steps"] (spF K C S_fair_plan) := by
  refine fnD F sc_fair_plan (fun ds ω d ω' h => ?_) (fun X ds ω d ω' hX hr h => ?_)
  · obtain ⟨_, n, r, z, s, k, _, _, _, rfl, _⟩ := h
    rfl
  · obtain ⟨cdv, A, outer, st, H, E, rfl⟩ := hX
    obtain ⟨rfl, n, r, z, s, k, hg, hs, hk, rfl, rfl⟩ := h
    have nd := sc_fair_plan.nd
    have h5 := hg.n5
    have bok := fun scope own h => @blkOk_by N_fair_plan (defScope s_fair_plan) scope own h
    refine psd_cons (ps1_set 3 nd rfl (.inl rfl) (pd_ok G1 hr (by decide) (pda_cons (v_ 0 rfl) pda_nil) ⟨rfl, n, r, z, hg, rfl, rfl⟩) ?_)
    refine psd_cons (ps1_drop (pd_ok G2 hr (by decide) (pda_cons (v_ 0 rfl) (pda_cons (v_ 1 rfl) pda_nil)) ⟨rfl, n, fun x => vecD n (r x), z, s, hg.n1, by omega, hs, rfl, rfl⟩) ?_)
    refine psd_cons (ps1_drop (q_needS S hr (by decide) (v_ 2 rfl) (by omega) (by omega)) ?_)
    refine psd_cons (ps1_set 4 nd rfl (.inl rfl) pd_int ?_)
    let π := rst n r z
    refine psd_cons (ps1_for1 5 (fun j δ ω2 => ω2 = ω' ∧ ∃ y5, δ = [some (.w (matD n r) z), some (.i (s : Int)), some (.i (k : Int)), some (vecD n π), some (.i (lcmN π j)), y5, none, none, none, none, none, none]) nd rfl (.inl rfl) PassesOwn.never (pid_gt (v_ 3 rfl)) ⟨rfl, none, rfl⟩ ?_ ?_)
    · rintro j hj δ ω2 ⟨rfl, y5, rfl⟩
      have l1 := lcm_pos (p := π) (fun k hk => rst_pos hg hk) j (by omega)
      have l2 := lcm_sz (p := π) (fun k hk => rst_pos hg hk) (rst_sz hg) j (by omega)
      refine psd_one (ps1_set 4 nd rfl (.inl rfl) (pd_fdiv (pd_mul (v_ 4 rfl) (v_ 5 rfl) (cm2000 (lt_pow l2 (by omega)) (lt20 (rst_sz hg j hj) (by decide)))) (pd_ok G6 hr (by decide) (pda_cons (v_ 4 rfl) (pda_cons (v_ 5 rfl) pda_nil)) ⟨rfl, _, _, rfl, rfl⟩) (wide_div (b := 2000) (gcdI_posL l1) (le_bits (Int.le_of_lt (gcdI_posL l1)) (gcdI_leL l1) (lt_pow l2 (by omega))) (by decide) (by decide))) ⟨rfl, some (.i (π j)), rfl⟩)
    · rintro δ ω2' ⟨rfl, y5, rfl⟩
      refine psd_cons (ps1_tup (pg_tup rfl (pgs_cons (pg_name (i := 6) nd rfl (.inl rfl) (.inl rfl)) (pgs_cons (pg_name (i := 7) nd rfl (.inl rfl) (.inl rfl)) (pgs_cons (pg_name (i := 8) nd rfl (.inr rfl) (.inl rfl)) pgs_nil)))) (pdax_cons (pd_ok G3 hr (by decide) (pda_cons (v_ 0 rfl) (pda_cons (v_ 1 rfl) (pda_cons (v_ 4 rfl) pda_nil))) ⟨rfl, n, fun x => vecD n (r x), z, s, fSc n r z, by omega, lt20 (fSc_sz hg) (by decide), rfl, rfl⟩) (pdax_new (pdn_lst pda_nil (by show 0 ≤ 1000; decide)) fun p hp0 => pdax_cons pd_int (pdax_nil ⟨by show 3 ≤ 1000; decide, _, evg_trip evg_name evg_name evg_name, ?_⟩))))
      refine psd_cons (ps1_for1 9 (fun t δ ω2 => ω2 = updO ω2' p (.lst (gen t fun t => vecD n fun y => (fShare n r z s t - fAhead n r z s t) * π y)) ∧ ∃ y5 y9 y10 y11, δ = [some (.w (matD n r) z), some (.i (s : Int)), some (.i (k : Int)), some (vecD n π), some (.i (fSc n r z)), y5, some (vecD n (fW n r z s t)), some (.adr p), some (.i (fAhead n r z s t)), y9, y10, y11]) nd rfl (.inl rfl) PassesOwn.never (PID.of_eq (pid_range (m := (k : Int) + 1) rfl T.rng (pd_add (v_ 2 rfl) pd_int) (by omega) (by omega)) (n' := k + 1) (by omega) (fun _ _ => rfl)) ⟨rfl, y5, none, none, none, rfl⟩ ?_ ?_)
      · rintro t ht δ ω2 ⟨rfl, y5, y9, y10, y11, rfl⟩
        have hb := barN_lt (fW n r z s t) π hg.n1 n (Nat.le_refl n)
        have t1 := fW_sz hg hs (t := t) (by omega)
        have t2 := fShare_sz hg hs (t := t) (by omega)
        have t3 := fAhead_sz hg hs (t := t) (by omega)
        have t4 : (fShare n r z s t - fAhead n r z s t).natAbs < 2 ^ 2000 := sub_sz (fShare_nn hg t) (fAhead_nn hg t) (lt20 t2 (by decide)) (lt20 t3 (by decide))
        refine psd_cons (ps1_set 10 nd rfl (.inl rfl) (pd_ok G5 hr (by decide) (pda_cons (v_ 6 rfl) (pda_cons (v_ 3 rfl) pda_nil)) ⟨rfl, n, fW n r z s t, π, hg.n1, t1.up (by decide), (rst_sz hg).up (by decide), rfl, rfl⟩) ?_)
        refine psd_cons (ps1_set (d := .i (fShare n r z s t)) 11 nd rfl (.inr rfl) (pd_fdiv (m := fW n r z s t (barN (fW n r z s t) π n)) (n := π (barN (fW n r z s t) π n)) (q_ixT (g := fun j => .i (fW n r z s t j)) (v_ 6 rfl) (v_ 10 rfl) rfl hb) (q_ixT (g := fun j => .i (π j)) (v_ 3 rfl) (v_ 10 rfl) rfl hb) (wide_div (b := 50) (rst_pos hg hb) (rst_sz hg _ hb) (by decide) (by decide))) ?_)
        refine psd_cons (ps1_app (d := vecD n fun y => (fShare n r z s t - fAhead n r z s t) * π y) (v_ 7 rfl) updO_same (q_tupL T (PDN.pd (pdn_lc1 (fun y => .i ((fShare n r z s t - fAhead n r z s t) * π y)) 5 nd (bok _ _ (by decide +kernel)) (pid_gt (v_ 3 rfl)) (by omega) (fun y hy _ _ _ _ _ ω1 => pd_mul (pd_sub (v_ 11 rfl) (v_ 8 rfl)) (v_ 5 rfl) (cm2000 t4 (lt20 (rst_sz hg y hy) (by decide))))))) updO_same (by rw [gen_len]; omega) ?_)
        refine psd_one (ps1_tup (pg_tup rfl (pgs_cons (pg_name (i := 6) nd rfl (.inl rfl) (.inl rfl)) (pgs_cons (pg_name (i := 8) nd rfl (.inr rfl) (.inl rfl)) pgs_nil))) (pdax_cons (pd_ok G4 hr (by decide) (pda_cons (pd_rows (v_ 0 rfl) T.cl T.nR) (pda_cons (v_ 6 rfl) pda_nil)) ⟨rfl, n, r, fW n r z s t, by omega, fun x hx => fW_nn hg t hx, fun x y hx hy => hg.sz hx hy, rfl, rfl⟩) (pdax_cons (pd_mul (v_ 11 rfl) (pd_whole (v_ 0 rfl) T.cl T.nW) (cm2000 (lt20 t2 (by decide)) (lt20 (z_sz hg) (by decide)))) (pdax_nil ⟨by show 2 ≤ 1000; decide, _, evg_pair evg_name evg_name, ?_, y5, some (.i (t : Int)), _, _, rfl⟩))))
        rw [updO_updO, gen_succ]
      · rintro δ ω2 ⟨rfl, y5, y9, y10, y11, rfl⟩
        refine psd_one (ps1_ret (pd_tup (pda_cons (v_ 4 rfl) (pda_cons (q_tupO T (v_ 7 rfl) updO_same) pda_nil)) (by show 2 ≤ 1000; decide)) ⟨rfl, fun a o e => ?_⟩)
        rw [updO_ne (fun q => by rw [q, hp0] at e; cases e)]
        exact e
end
end FW
set_option Elab.async false
set_option linter.all false
set_option autoImplicit false
set_option maxRecDepth 100000
set_option maxHeartbeats 1000000
/-! F12: apart. -/
namespace FW
open PySem PySem.Spec PyProof.Rows L2
/-- g as heavy as h is -/
def brg (n : Nat) (g h : Nat → Int) : Nat → Int := fun x => g x * (sumN n h / gcdI (sumN n g) (sumN n h))
def brh (n : Nat) (g h : Nat → Int) : Nat → Int := fun x => h x * (sumN n g / gcdI (sumN n g) (sumN n h))
def mor (n : Nat) (g h : Nat → Int) : Int := sumN n fun x => if g x - h x > 0 then g x - h x else 0
structure TwoOk (n : Nat) (g h : Nat → Int) : Prop where
  n1 : 1 ≤ n
  nz : n ≤ 25
  g0 : ∀ x, x < n → 0 ≤ g x
  h0 : ∀ x, x < n → 0 ≤ h x
  gs : 0 < sumN n g
  hs : 0 < sumN n h
  gz : (sumN n g).natAbs < 2 ^ 900
  hz : (sumN n h).natAbs < 2 ^ 900
section
variable {n : Nat} {g h : Nat → Int}
theorem TwoOk.by_ (k : TwoOk n g h) : 0 < gcdI (sumN n g) (sumN n h) ∧ (gcdI (sumN n g) (sumN n h)).natAbs < 2 ^ 900 := ⟨gcdI_pos k.hs, le_bits (Int.le_of_lt (gcdI_pos k.hs)) (gcdI_le k.hs) k.hz⟩
theorem TwoOk.qh (k : TwoOk n g h) : 0 < sumN n h / gcdI (sumN n g) (sumN n h) ∧ (sumN n h / gcdI (sumN n g) (sumN n h)).natAbs < 2 ^ 900 := by
  obtain ⟨b1, _⟩ := k.by_
  have h1 : 1 ≤ sumN n h / gcdI (sumN n g) (sumN n h) := (Int.le_ediv_iff_mul_le b1).mpr (by rw [Int.one_mul]; exact gcdI_le k.hs)
  exact ⟨by omega, le_bits (by omega) (Int.ediv_le_self _ (Int.le_of_lt k.hs)) k.hz⟩
theorem TwoOk.qg (k : TwoOk n g h) : 0 < sumN n g / gcdI (sumN n g) (sumN n h) ∧ (sumN n g / gcdI (sumN n g) (sumN n h)).natAbs < 2 ^ 900 := by
  obtain ⟨b1, _⟩ := k.by_
  have h1 : 1 ≤ sumN n g / gcdI (sumN n g) (sumN n h) := (Int.le_ediv_iff_mul_le b1).mpr (by rw [Int.one_mul]; exact gcdI_leL k.gs)
  exact ⟨by omega, le_bits (by omega) (Int.ediv_le_self _ (Int.le_of_lt k.gs)) k.gz⟩
theorem TwoOk.sum (k : TwoOk n g h) : sumN n (brg n g h) = sumN n g * (sumN n h / gcdI (sumN n g) (sumN n h)) := sumN_mulR _ _ _
theorem TwoOk.gx (k : TwoOk n g h) : Sz 900 n g := fun x hx => le_bits (k.g0 x hx) (sumN_ge k.g0 hx) k.gz
theorem TwoOk.hx (k : TwoOk n g h) : Sz 900 n h := fun x hx => le_bits (k.h0 x hx) (sumN_ge k.h0 hx) k.hz
end
section
variable {P : Program} {w : World} {K : PySem.W.Frag} {mg : Str → Option Value} {base : Heap} {f : Addr} {fd : FuncData} {C : Addr}
def S_brought : FSp := pure_ fun ds d => ∃ (n : Nat) (g h : Nat → Int), TwoOk n g h ∧ ds = [vecD n g, vecD n h] ∧ d = .t [.l (gen n fun x => .i (brg n g h x)), .l (gen n fun x => .i (brh n g h x))]
theorem ok_brought (F : FnP K "brought" s_brought f fd) (T : Tx K mg C) (G : Ok P w K mg base C "common" 1 ["one", "other"] S_common) : FnOk P w K mg base CX0 2 f fd ["one", "other"] (spF K C S_brought) := by
  refine fnD F sc_brought (fun ds ω d ω' h => ?_) (fun X ds ω d ω' hX hr h => ?_)
  · obtain ⟨_, n, g, h, _, rfl, _⟩ := h
    rfl
  · obtain ⟨cdv, A, outer, st, H, E, rfl⟩ := hX
    obtain ⟨rfl, n, g, h, hk, rfl, rfl⟩ := h
    have nd := sc_brought.nd
    have hn := hk.nz
    have bok := fun scope own h => @blkOk_by N_brought (defScope s_brought) scope own h
    obtain ⟨b1, b2⟩ := hk.by_
    refine psd_cons (ps1_tup (pg_tup rfl (pgs_cons (pg_name (i := 2) nd rfl (.inr rfl) (.inl rfl)) (pgs_cons (pg_name (i := 3) nd rfl (.inr rfl) (.inl rfl)) pgs_nil))) (pdax_cons (q_sumV T (v_ 0 rfl)) (pdax_cons (q_sumV T (v_ 1 rfl)) (pdax_nil ⟨by show 2 ≤ 1000; decide, _, evg_pair evg_name evg_name, ?_⟩))))
    refine psd_cons (ps1_set 4 nd rfl (.inr rfl) (pd_ok G hr (by decide) (pda_cons (v_ 2 rfl) (pda_cons (v_ 3 rfl) pda_nil)) ⟨rfl, _, _, rfl, rfl⟩) ?_)
    refine psd_one (ps1_ret (pd_tup (pda_cons (PDN.pd (pdn_lc1 (fun x => .i (brg n g h x)) 5 nd (bok _ _ (by decide +kernel)) (pid_gt (v_ 0 rfl)) (by omega) (fun x hx _ _ _ _ _ ω1 => pd_mul (v_ 5 rfl) (pd_fdiv (v_ 3 rfl) (v_ 4 rfl) (wide_div b1 b2 (by decide) (by decide))) (cm2000 (lt20 (hk.gx x hx) (by decide)) (lt20 hk.qh.2 (by decide))))))
      (pda_cons (PDN.pd (pdn_lc1 (fun x => .i (brh n g h x)) 5 nd (bok _ _ (by decide +kernel)) (pid_gt (v_ 1 rfl)) (by omega) (fun x hx _ _ _ _ _ ω1 => pd_mul (v_ 5 rfl) (pd_fdiv (v_ 2 rfl) (v_ 4 rfl) (wide_div b1 b2 (by decide) (by decide))) (cm2000 (lt20 (hk.hx x hx) (by decide)) (lt20 hk.qg.2 (by decide)))))) pda_nil)) (by show 2 ≤ 1000; decide)) ⟨rfl, same_om⟩)
def S_more_of : FSp := pure_ fun ds d => ∃ (n : Nat) (g h : Nat → Int), n ≤ 1000 ∧ ds = [.l (gen n fun x => .i (g x)), .l (gen n fun x => .i (h x))] ∧ d = .i (mor n g h)
theorem ok_more_of (F : FnP K "more_of" s_more_of f fd) (T : Tx K mg C) : FnOk P w K mg base CX0 1 f fd ["one", "other"] (spF K C S_more_of) := by
  refine fnD F sc_more_of (fun ds ω d ω' h => ?_) (fun X ds ω d ω' hX hr h => ?_)
  · obtain ⟨_, n, g, h, _, rfl, _⟩ := h
    rfl
  · obtain ⟨cdv, A, outer, st, H, E, rfl⟩ := hX
    obtain ⟨rfl, n, g, h, hn, rfl, rfl⟩ := h
    have nd := sc_more_of.nd
    have bok := fun scope own h => @blkOk_by N_more_of (defScope s_more_of) scope own h
    refine psd_one (ps1_ret (q_sumL (f := fun x => if g x - h x > 0 then g x - h x else 0) T (PDN.pd (pdn_lc2 (u := fun x => .i (g x)) (v := fun x => .i (h x)) (fun x => .i (if g x - h x > 0 then g x - h x else 0)) 2 3 nd (bok _ _ (by decide +kernel)) (q_zip true true T (v_ 0 rfl) (v_ 1 rfl)) hn (fun x hx _ _ _ _ _ ω1 => q_max2 T pd_int (pd_sub (v_ 2 rfl) (v_ 3 rfl)))))) ⟨rfl, same_om⟩)
def tvA (n : Nat) (g h : Nat → Int) : Int := mor n (brg n g h) (brh n g h)
def tvB (n : Nat) (g h : Nat → Int) : Int := sumN n (brg n g h)
theorem tvB_pos {n : Nat} {g h : Nat → Int} (k : TwoOk n g h) : 0 < tvB n g h := by
  unfold tvB
  rw [k.sum]
  exact Int.mul_pos k.gs k.qh.1
theorem tvB_sz {n : Nat} {g h : Nat → Int} (k : TwoOk n g h) : (tvB n g h).natAbs < 2 ^ 1800 := by
  unfold tvB
  rw [k.sum]
  exact wide_lt k.gz k.qh.2
def S_apart_of : FSp := pure_ fun ds d => ∃ (n : Nat) (g h : Nat → Int), TwoOk n g h ∧ ds = [vecD n g, vecD n h] ∧ d = plainD (tvA n g h) (tvB n g h)
theorem ok_apart_of (F : FnP K "apart_of" s_apart_of f fd) (T : Tx K mg C) (G1 : Ok P w K mg base C "brought" 2 ["one", "other"] S_brought) (G2 : Ok P w K mg base C "more_of" 1 ["one", "other"] S_more_of) (G3 : Ok P w K mg base C "plain_of" 2 ["above", "below"] S_plain_of) : FnOk P w K mg base CX0 3 f fd ["one", "other"] (spF K C S_apart_of) := by
  refine fnD F sc_apart_of (fun ds ω d ω' h => ?_) (fun X ds ω d ω' hX hr h => ?_)
  · obtain ⟨_, n, g, h, _, rfl, _⟩ := h
    rfl
  · obtain ⟨cdv, A, outer, st, H, E, rfl⟩ := hX
    obtain ⟨rfl, n, g, h, hk, rfl, rfl⟩ := h
    have nd := sc_apart_of.nd
    have hn := hk.nz
    refine psd_cons (ps1_tgt (pg_tup rfl (pgs_cons (pg_name (i := 2) nd rfl (.inl rfl) (.inl rfl)) (pgs_cons (pg_name (i := 3) nd rfl (.inl rfl) (.inl rfl)) pgs_nil))) (pd_ok G1 hr (by decide) (pda_cons (v_ 0 rfl) (pda_cons (v_ 1 rfl) pda_nil)) ⟨rfl, n, g, h, hk, rfl, rfl⟩) (evg_pair evg_name evg_name) ?_)
    exact psd_one (ps1_ret (pd_ok G3 hr (by decide) (pda_cons (pd_ok G2 hr (by decide) (pda_cons (v_ 2 rfl) (pda_cons (v_ 3 rfl) pda_nil)) ⟨rfl, n, brg n g h, brh n g h, by omega, rfl, rfl⟩) (pda_cons (q_sumL (f := brg n g h) T (v_ 2 rfl)) pda_nil)) ⟨rfl, tvA n g h, tvB n g h, tvB_pos hk, lt_pow (tvB_sz hk) (by decide), rfl, rfl⟩) ⟨rfl, same_om⟩)
def S_apart : FSp := pure_ fun ds d => ∃ (n : Nat) (g h : Nat → Int), TwoOk n g h ∧ ds = [vecD n g, vecD n h] ∧ d = plainD (tvA n g h) (tvB n g h)
theorem ok_apart (F : FnP K "apart" s_apart f fd) (T : Tx K mg C) (G1 : Ok P w K mg base C "need_two" 5 ["one", "other"] S_need_two) (G2 : Ok P w K mg base C "apart_of" 3 ["one", "other"] S_apart_of) : FnOk P w K mg base CX0 6 f fd ["one", "other"] (spF K C S_apart) := by
  refine fnD F sc_apart (fun ds ω d ω' h => ?_) (fun X ds ω d ω' hX hr h => ?_)
  · obtain ⟨_, n, g, h, _, rfl, _⟩ := h
    rfl
  · obtain ⟨cdv, A, outer, st, H, E, rfl⟩ := hX
    obtain ⟨rfl, n, g, h, hk, rfl, rfl⟩ := h
    refine psd_cons (ps1_drop (pd_ok G1 hr (by decide) (pda_cons (v_ 0 rfl) (pda_cons (v_ 1 rfl) pda_nil)) ⟨rfl, n, g, h, hk.n1, hk.nz, hk.g0, hk.gs, hk.h0, hk.hs, rfl, rfl⟩) ?_)
    exact psd_one (ps1_ret (pd_ok G2 hr (by decide) (pda_cons (v_ 0 rfl) (pda_cons (v_ 1 rfl) pda_nil)) ⟨rfl, n, g, h, hk, rfl, rfl⟩) ⟨rfl, same_om⟩)
end
end FW
set_option Elab.async false
set_option linter.all false
set_option autoImplicit false
set_option maxRecDepth 100000
set_option maxHeartbeats 1000000
/-! F13: the law's pen. -/
namespace FW
open PySem PySem.Spec PyProof.Rows L2
section
variable {X : Cx} {C : Addr} {δ : Env} {ω ω1 ω2 ω3 : Om} {a b c e o i : Expr} {pos p tp spos : Pos} {d da db : D} {m n : Int} {N : EnvP} {R : RetP}
/-- x + y, two lists of their own -/
theorem pdn_cat {ds es : List D} (ha : PDN X C a δ ω ds ω1) (hb : ∀ ω, PDN X C b δ ω es ω) (hz : ds.length + es.length ≤ 1000) : PDN X C (.BinOp a .Add b pos) δ ω (ds ++ es) ω1 := by
  intro σ Hk H w er Q k
  refine wE_of (pe_op op_cat pe_w pe_w) ?_
  refine ha σ Hk H w er _ fun l us Hk1 H1 s1 w1 h1 h2 h3 r1 => ?_
  have w2 := w1.take (oo := .lst ds) h1 h3 r1
  refine hb _ σ Hk1 H1 w2 (er.mono s1) _ fun l2 vs Hk2 H2 s2 w3 g1 g2 g3 r2 => ?_
  obtain ⟨k1, ho, k2, k3⟩ := w3.own l _ updO_same
  obtain ⟨us2, rfl, r3⟩ := k3.lst_inv
  refine ⟨l, l2, us2, vs, rfl, rfl, k2, g3, by rw [r3.len, r2.len]; exact Nat.le_trans hz (by decide), fun q hq => ?_⟩
  have w4 := w3.drop (ω' := ω1) fun z o' e' => by rw [updO_ne (fun hz => by rw [hz, h2] at e'; cases e')]; exact e'
  exact k q _ Hk2 _ (s1.trans s2) (w4.dead hq) (w4.fresh hq).1 (w4.fresh hq).2 upd_same (r3.app r2)
/-- return of a list of its own -/
theorem ps1_retN {ds : List D} (he : PDN X C e δ ω ds ω1) (k : ∀ p, ω1 p = none → R (.adr p) (updO ω1 p (.lst ds))) : PS1 X C (.Return (some e) pos) δ ω N R := by
  intro σ Hk H w er Dd hN' hR
  refine wS_of (ps_ret pe_w) ?_
  exact he σ Hk H w er _ fun q vs Hk1 H1 s1 w1 h1 h2 h3 r1 => hR (.adr q) _ _ Hk1 H1 (k q h2) s1 (w1.take (oo := .lst ds) h1 h3 r1) (.adr q)
end
/-- f takes data and gives a list of its own -/
def spO (K : PySem.W.Frag) (C : Addr) (g : List D → List D → Prop) : Sp := fun vs H Q _ => ∃ (ds es : List D) (ω : Om) (Hk : Hp), g ds es ∧ Wf K C Hk H ω ∧ RepL K C Hk vs ds ∧
  ∀ p Hk' H', Same Hk Hk' → Wf K C Hk' H' (updO ω p (.lst es)) → ω p = none → Q (.ref p) H'
theorem fnO {P : Program} {w : World} {K : PySem.W.Frag} {mg : Str → Option Value} {base : Heap} {x qual : Str} {params : Arguments} {body : List Stmt} {scope : Scope} {dvs : List V} {kws : List (Str × V)} {f : Addr} {fd : FuncData} {C : Addr} {N ps : List Str} {k : Nat} {g : List D → List D → Prop} (F : FunD K x qual params body scope dvs kws f fd) (S : FnScope N ps scope) (len : ∀ ds es, g ds es → ds.length = ps.length)
    (hb : ∀ (X : Cx) (ds es : List D) (ω : Om), (∃ cdv A outer s H E, X = (cxOf CX0 P w K mg base N qual scope f cdv A outer s H E).nox) → Room k X.A → g ds es → PSD X C body (ds.map some ++ List.replicate (N.length - ds.length) none) ω (fun _ _ => False) (fun d2 ω2 => ∃ p, d2 = .adr p ∧ ω p = none ∧ ∀ a o, updO ω p (.lst es) a = some o → ω2 a = some o)) :
    FnOk P w K mg base CX0 (k + 1) f fd ps (spO K C g) := by
  refine F.ok S (fun vs H Q E h => ?_) (fun cdv A outer s H vs Q E hr h => ?_)
  · obtain ⟨ds, es, ω, Hk, hg, _, r, _⟩ := h
    rw [r.len]
    exact len ds es hg
  · obtain ⟨ds, es, ω, Hk, hg, w0, r, q⟩ := h
    refine ⟨_, PSs.nox pss_w, ?_⟩
    refine hb _ ds es ω ⟨cdv, A, outer, s, H, E, rfl⟩ hr hg (start N vs) Hk H w0 (envR_start N r) _ ?_ ?_
    · rintro δ' ω2 σ' Hk' H' hf
      exact hf.elim
    · rintro d2 ω2 v Hk' H' ⟨p, rfl, hp, hω⟩ s1 w1 r1
      rw [r1.adr_inv]
      exact q p Hk' H' s1 (w1.drop hω) hp
structure OkO (P : Program) (w : World) (K : PySem.W.Frag) (mg : Str → Option Value) (base : Heap) (C : Addr) (x : Str) (k : Nat) (ps : List Str) (g : List D → List D → Prop) : Prop where
  ex : ∃ f fd, mg x = some (.ref f) ∧ PySem.W.keepIn K (.ref f) = true ∧ Binds K fd ps [] ∧ FnOk P w K mg base CX0 k f fd ps (spO K C g)
/-- z = f(..), f gives a list of its own -/
theorem ps1_callO {X : Cx} {C : Addr} {δ : Env} {ω ω1 : Om} {e : Expr} {pos p p' spos : Pos} {z : Str} {N : EnvP} {R : RetP} {j k : Nat} {x : Str} {ps : List Str} {g : List D → List D → Prop} {es : List Expr} {ds us : List D} (i : Nat) (hN : X.N.Nodup) (hi : X.N[i]? = some z) (hx : Loc X.env.scope z) (F : OkO X.prog X.w X.K X.mg X.base C x k ps g) (hr : Room j X.A) (hk : k ≤ j) (ha : PDA X C (e :: es) δ ω ds ω1) (h : g ds us) (kk : ∀ q, ω1 q = none → N (δ.set i (some (.adr q))) (updO ω1 q (.lst us)))
    (hg : Gl X x := by rfl) (hdb : (x == ("__debug__" : Str)) = false := by decide) (he : starEach (e :: es) X.env = (false, eval e X.env) :: starEach es X.env := by rfl) (hpl : (backTo pos (starEach es X.env)).any (·.1) = false := by rfl)
    (hs : swapsWith (.Call (.Name x p) (e :: es) [] pos) (some (.Name z p')) spos.line X.env = pure false := by rfl) (hf : X.fn z = true ∨ X.env.scope.names.lookup z = some .local := by first | exact .inl rfl | exact .inr rfl) : PS1 X C (.Assign [.Name z p'] (.Call (.Name x p) (e :: es) [] pos) spos) δ ω N R := by
  obtain ⟨f, fd, hm, hkp, hb, hF⟩ := F.ex
  intro σ Hk H w er Dd hN' hR
  refine wS_of (ps_set hN hi hx (pe_call (E := E0) hF (hr.mono hk) hg hm hkp hb .nil pass0 pa_w hdb he hpl) hs hf) ?_
  refine ha σ Hk H w er _ fun vs Hk1 H1 s1 w1 r1 => ?_
  rw [List.append_nil]
  exact ⟨ds, us, ω1, Hk1, h, w1, r1, fun q Hk2 H2 s2 w2 hq => hN' _ _ _ Hk2 H2 (kk q hq) (s1.trans s2) w2 ((er.mono (s1.trans s2)).set (.adr q))⟩
/-! ### the pen -/
structure Pn where
  l : Int
  f : Int
  s : Int
def penD (p : Pn) : List D := [.i p.l, .i p.f, .i p.s]
def nextF (x : Int) : Int := let t := (x + 7919) % 2147483647; (t * t + 48271 * t + 12345) % 2147483629
def penF (c : Int) : Pn := let l := if 0 - c > c then 0 - c else c; ⟨l, if decide ((10 : Int) ^ 18 ≤ l) = true then 1 else 0, l % 1000003⟩
def drawF (p : Pn) (m : Int) : Int × Pn := if (decide (p.f = 1) && decide (0 < p.l)) = true then (p.l % m, ⟨p.l / m, p.f, p.s⟩) else (nextF (nextF p.s + 7) / 64 % m, ⟨p.l, p.f, nextF (nextF p.s + 7)⟩)
def PnOk (p : Pn) : Prop := 0 ≤ p.s ∧ p.s < 2 ^ 40
theorem nextF_ok (x : Int) : 0 ≤ nextF x ∧ nextF x < 2 ^ 32 := by
  unfold nextF
  dsimp only
  have h1 := Int.emod_nonneg (((x + 7919) % 2147483647) * ((x + 7919) % 2147483647) + 48271 * ((x + 7919) % 2147483647) + 12345) (by decide : (2147483629 : Int) ≠ 0)
  have h2 := Int.emod_lt_of_pos (((x + 7919) % 2147483647) * ((x + 7919) % 2147483647) + 48271 * ((x + 7919) % 2147483647) + 12345) (by decide : (0 : Int) < 2147483629)
  omega
theorem drawF_ok {p : Pn} {m : Int} (h : PnOk p) (hm : 0 < m) : 0 ≤ (drawF p m).1 ∧ (drawF p m).1 < m ∧ PnOk (drawF p m).2 := by
  unfold drawF
  split
  · exact ⟨Int.emod_nonneg _ (by omega), Int.emod_lt_of_pos _ hm, h⟩
  · have := nextF_ok (nextF p.s + 7)
    exact ⟨Int.emod_nonneg _ (by omega), Int.emod_lt_of_pos _ hm, this.1, by show nextF _ < 2 ^ 40; omega⟩
theorem penF_ok (c : Int) : PnOk (penF c) := by
  unfold penF PnOk
  dsimp only
  generalize (if 0 - c > c then 0 - c else c) = l
  have h1 := Int.emod_nonneg l (by decide : (1000003 : Int) ≠ 0)
  have h2 := Int.emod_lt_of_pos l (by decide : (0 : Int) < 1000003)
  omega
section
variable {P : Program} {w : World} {K : PySem.W.Frag} {mg : Str → Option Value} {base : Heap} {f : Addr} {fd : FuncData} {C : Addr}
def S_cell_at : FSp := pure_ fun ds d => ∃ ns : List Int, ds = [.l (ns.map D.i), .i 0] ∧ d = .i (ns.getD 0 0)
theorem ok_cell_at (F : FnP K "_law_cell_at" s__law_cell_at f fd) (T : Tx K mg C) : FnOk P w K mg base CX0 1 f fd ["_law_script", "_law_k"] (spF K C S_cell_at) := by
  refine fnD F sc__law_cell_at (fun ds ω d ω' h => ?_) (fun X ds ω d ω' hX hr h => ?_)
  · obtain ⟨_, ns, rfl, _⟩ := h
    rfl
  · obtain ⟨cdv, A, outer, st, H, E, rfl⟩ := hX
    obtain ⟨rfl, ns, rfl, rfl⟩ := h
    refine psd_cons (ps1_if (p := decide ((0 : Int) < ((ns.map D.i).length : Int))) (pdt_lt (v_ 1 rfl) (q_lenL T (v_ 0 rfl))) (fun ht => ?_) (fun hf => psd_nil ?_))
    · have h := of_decide_eq_true ht
      cases ns with
      | nil => simp at h
      | cons c ns => exact psd_one (ps1_ret (pd_ixL (j := 0) (d := .i c) (v_ 0 rfl) (v_ 1 rfl) rfl rfl) ⟨rfl, same_om⟩)
    · have h := of_decide_eq_false hf
      cases ns with
      | nil => exact psd_one (ps1_ret pd_int ⟨rfl, same_om⟩)
      | cons c ns => exact absurd (by rw [List.length_map, List.length_cons]; omega) h
def S_next : FSp := pure_ fun ds d => ∃ x : Int, ds = [.i x] ∧ d = .i (nextF x)
theorem ok_next (F : FnP K "_law_next" s__law_next f fd) (T : Tx K mg C) : FnOk P w K mg base CX0 1 f fd ["_law_seed"] (spF K C S_next) := by
  refine fnD F sc__law_next (fun ds ω d ω' h => ?_) (fun X ds ω d ω' hX hr h => ?_)
  · obtain ⟨_, x, rfl, _⟩ := h
    rfl
  · obtain ⟨cdv, A, outer, st, H, E, rfl⟩ := hX
    obtain ⟨rfl, x, rfl, rfl⟩ := h
    have nd := sc__law_next.nd
    have h1 := Int.emod_nonneg (x + 7919) (by decide : (2147483647 : Int) ≠ 0)
    have h2 := Int.emod_lt_of_pos (x + 7919) (by decide : (0 : Int) < 2147483647)
    refine psd_cons (ps1_set 0 nd rfl (.inl rfl) (pd_mod (pd_add (v_ 0 rfl) pd_int) pd_int (by decide)) ?_)
    exact psd_one (ps1_ret (pd_mod (pd_add (pd_add (pd_mulS (v_ 0 rfl) (v_ 0 rfl) (.inl (by omega))) (pd_mulS pd_int (v_ 0 rfl) (.inl (by omega)))) pd_int) pd_int (by decide)) ⟨rfl, same_om⟩)
def S_pen_of (ds es : List D) : Prop := ∃ c : Int, ds = [.i c] ∧ es = penD (penF c)
theorem ok_pen_of (F : FnP K "_law_pen_of" s__law_pen_of f fd) (T : Tx K mg C) : FnOk P w K mg base CX0 1 f fd ["_law_cell"] (spO K C S_pen_of) := by
  refine fnO F sc__law_pen_of (fun ds es h => ?_) (fun X ds es ω hX hr h => ?_)
  · obtain ⟨c, rfl, _⟩ := h
    rfl
  · obtain ⟨cdv, A, outer, st, H, E, rfl⟩ := hX
    obtain ⟨c, rfl, rfl⟩ := h
    have nd := sc__law_pen_of.nd
    refine psd_cons (ps1_set 1 nd rfl (.inl rfl) (q_max2 T (v_ 0 rfl) (pd_sub pd_int (v_ 0 rfl))) ?_)
    refine psd_one (ps1_retN (ds := penD (penF c)) (pdn_lst (pda_cons (v_ 1 rfl) (pda_cons (q_int T (pd_ge (v_ 1 rfl) (pd_pow (m := 10) (n := 18) pd_int pd_int ⟨by decide, by decide, by decide⟩))) (pda_cons (pd_mod (v_ 1 rfl) pd_int (by decide)) pda_nil))) (by show 3 ≤ 1000; decide)) fun p hp => ⟨p, rfl, hp, same_om⟩)
def S_draw : FSp := fun ds ω d ω' => ∃ (a : Addr) (p : Pn) (m : Int), 0 < m ∧ m.natAbs < 2 ^ 2000 ∧ ds = [.adr a, .i m] ∧ ω a = some (.lst (penD p)) ∧ d = .i (drawF p m).1 ∧ ω' = updO ω a (.lst (penD (drawF p m).2))
theorem ok_draw (F : FnP K "_law_draw" s__law_draw f fd) (T : Tx K mg C) (G : Ok P w K mg base C "_law_next" 1 ["_law_seed"] S_next) : FnOk P w K mg base CX0 2 f fd ["_law_pen", "_law_many"] (spF K C S_draw) := by
  refine fnD F sc__law_draw (fun ds ω d ω' h => ?_) (fun X ds ω d ω' hX hr h => ?_)
  · obtain ⟨a, p, m, _, _, rfl, _⟩ := h
    rfl
  · obtain ⟨cdv, A, outer, st, H, E, rfl⟩ := hX
    obtain ⟨a, p, m, hm, hz, rfl, ha, rfl, rfl⟩ := h
    have nd := sc__law_draw.nd
    refine psd_cons (ps1_if (p := decide (p.f = 1) && decide (0 < p.l)) (PDW.pt (pdw_and (pdt_eq (m := p.f) (n := 1) (pd_ixO (j := 1) (v_ 0 rfl) pd_int ha rfl rfl) pd_int) (fun _ => pdw_and1 (pdt_gt (m := p.l) (n := 0) (pd_ixO (j := 0) (v_ 0 rfl) pd_int ha rfl rfl) pd_int)))) (fun ht => ?_) (fun hf => psd_nil ?_))
    · refine psd_cons (ps1_set 2 nd rfl (.inl rfl) (pd_mod (m := p.l) (pd_ixO (j := 0) (v_ 0 rfl) pd_int ha rfl rfl) (v_ 1 rfl) hm) ?_)
      refine psd_cons (ps1_setO (p := a) (j := 0) (d := .i (p.l / m)) (pd_fdiv (m := p.l) (pd_ixO (j := 0) (v_ 0 rfl) pd_int ha rfl rfl) (v_ 1 rfl) (wide_div hm hz (by decide) (by decide))) (v_ 0 rfl) pd_int ha rfl (by show 0 < 3; decide) ?_)
      refine psd_one (ps1_ret (v_ 2 rfl) ?_)
      unfold drawF
      rw [if_pos ht]
      exact ⟨rfl, same_om⟩
    · have n1 := nextF_ok (p.s)
      refine psd_cons (ps1_setO (p := a) (j := 2) (d := .i (nextF (nextF p.s + 7))) (pd_ok G hr (by decide) (pda_cons (pd_add (pd_ok G hr (by decide) (pda_cons (pd_ixO (d := .i p.s) (j := 2) (v_ 0 rfl) pd_int ha rfl rfl) pda_nil) ⟨rfl, p.s, rfl, rfl⟩) pd_int) pda_nil) ⟨rfl, _, rfl, rfl⟩) (v_ 0 rfl) pd_int ha rfl (by show 2 < 3; decide) ?_)
      refine psd_one (ps1_ret (pd_mod (pd_fdiv (m := nextF (nextF p.s + 7)) (pd_ixO (j := 2) (v_ 0 rfl) pd_int updO_same rfl rfl) pd_int (wide_div (b := 7) (by decide) (by decide) (by decide) (by decide))) (v_ 1 rfl) hm) ?_)
      unfold drawF
      rw [if_neg (by rw [hf]; exact Bool.false_ne_true)]
      exact ⟨rfl, same_om⟩
end
end FW
set_option Elab.async false
set_option linter.all false
set_option autoImplicit false
set_option maxRecDepth 100000
set_option maxHeartbeats 1000000
/-! F14: the law's rows. -/
namespace FW
open PySem PySem.Spec PyProof.Rows L2
def rowF (k : Nat) (sm : Nat → Nat) (p : Pn) : Nat → (Nat → Int) × Pn
  | 0 => (fun _ => 0, p)
  | t + 1 => (fun y => if y = sm (drawF (rowF k sm p t).2 k).1.toNat then (rowF k sm p t).1 y + 1 else (rowF k sm p t).1 y, (drawF (rowF k sm p t).2 k).2)
theorem rowF_pn {k : Nat} {sm : Nat → Nat} {p : Pn} (h : PnOk p) (hk : 1 ≤ k) : ∀ t, PnOk (rowF k sm p t).2
  | 0 => h
  | t + 1 => (drawF_ok (rowF_pn h hk t) (by omega)).2.2
theorem rowF_nn {k : Nat} {sm : Nat → Nat} {p : Pn} : ∀ t y, 0 ≤ (rowF k sm p t).1 y
  | 0, _ => Int.le_refl 0
  | t + 1, y => by
    have h := rowF_nn (k := k) (sm := sm) (p := p) t y
    show 0 ≤ (if y = sm (drawF (rowF k sm p t).2 k).1.toNat then (rowF k sm p t).1 y + 1 else (rowF k sm p t).1 y)
    split <;> omega
theorem sumN_inc {n c : Nat} (hc : c < n) (g : Nat → Int) : sumN n (fun y => if y = c then g y + 1 else g y) = sumN n g + 1 := by
  have h : ∀ m, sumN m (fun y => if y = c then g y + 1 else g y) = sumN m g + if c < m then 1 else 0 := by
    intro m
    induction m with
    | zero => rfl
    | succ m ih =>
      rw [sumN_succ, sumN_succ, ih]
      by_cases e : m = c
      · rw [if_pos e, if_neg (by omega), if_pos (by omega)]
        omega
      · rw [if_neg e]
        by_cases e2 : c < m
        · rw [if_pos e2, if_pos (by omega)]
          omega
        · rw [if_neg e2, if_neg (by omega)]
          omega
  rw [h, if_pos hc]
theorem rowF_sum {n k : Nat} {sm : Nat → Nat} {p : Pn} (h : PnOk p) (hk : 1 ≤ k) (hsm : ∀ i, i < k → sm i < n) : ∀ t : Nat, sumN n (rowF k sm p t).1 = t
  | 0 => sumN_const0 n
  | t + 1 => by
    have d := drawF_ok (rowF_pn (sm := sm) h hk t) (m := (k : Int)) (by omega)
    show sumN n (fun y => if y = _ then _ else _) = _
    rw [sumN_inc (hsm _ (by omega)), rowF_sum h hk hsm t]
    omega
def someF (n : Nat) (p : Pn) : (Nat × (Nat → Nat)) × Pn :=
  if (drawF (drawF (drawF p n).2 n).2 2).1 = 0 then ((n, fun i => i), (drawF (drawF (drawF p n).2 n).2 2).2) else ((2, fun i => if i = 0 then (drawF p n).1.toNat else (drawF (drawF p n).2 n).1.toNat), (drawF (drawF (drawF p n).2 n).2 2).2)
theorem someF_ok {n : Nat} {p : Pn} (h : PnOk p) (hn : 1 ≤ n) : 1 ≤ (someF n p).1.1 ∧ (someF n p).1.1 ≤ n + 2 ∧ (∀ i, i < (someF n p).1.1 → (someF n p).1.2 i < n) ∧ PnOk (someF n p).2 := by
  have d1 := drawF_ok h (m := (n : Int)) (by omega)
  have d2 := drawF_ok d1.2.2 (m := (n : Int)) (by omega)
  have d3 := drawF_ok d2.2.2 (m := 2) (by omega)
  unfold someF
  split
  · exact ⟨hn, by show n ≤ n + 2; omega, fun i hi => hi, d3.2.2⟩
  · refine ⟨by show 1 ≤ 2; omega, by show 2 ≤ n + 2; omega, fun i hi => ?_, d3.2.2⟩
    show (if i = 0 then _ else _) < n
    split <;> omega
def rowsF (n w : Nat) (p : Pn) : Nat → (Nat → Nat → Int) × Pn
  | 0 => (fun _ _ => 0, p)
  | t + 1 => (fun x => if x = t then (rowF (someF n (rowsF n w p t).2).1.1 (someF n (rowsF n w p t).2).1.2 (someF n (rowsF n w p t).2).2 w).1 else (rowsF n w p t).1 x, (rowF (someF n (rowsF n w p t).2).1.1 (someF n (rowsF n w p t).2).1.2 (someF n (rowsF n w p t).2).2 w).2)
theorem rowsF_ok {n w : Nat} {p : Pn} (h : PnOk p) (hn : 1 ≤ n) : ∀ t, PnOk (rowsF n w p t).2 ∧ ∀ x, x < t → (∀ y, 0 ≤ (rowsF n w p t).1 x y) ∧ sumN n ((rowsF n w p t).1 x) = w
  | 0 => ⟨h, fun x hx => absurd hx (by omega)⟩
  | t + 1 => by
    obtain ⟨h1, h2⟩ := rowsF_ok h hn (w := w) t
    obtain ⟨s1, _, s2, s3⟩ := someF_ok h1 hn
    refine ⟨rowF_pn s3 s1 w, fun x hx => ?_⟩
    show (∀ y, 0 ≤ (if x = t then _ else _ : Nat → Int) y) ∧ sumN n (if x = t then _ else _) = w
    by_cases e : x = t
    · rw [if_pos e]
      exact ⟨rowF_nn w, rowF_sum s3 s1 s2 w⟩
    · rw [if_neg e]
      exact h2 x (by omega)
/-- how many places, how much a row weighs, the rows, the pen behind -/
def allN1 (top : Int) (p : Pn) : Nat := (1 + (drawF p top).1).toNat
def allW (top : Int) (p : Pn) : Nat := (1 + (drawF (drawF p top).2 9).1).toNat
def allR (top : Int) (p : Pn) : (Nat → Nat → Int) × Pn := rowsF (allN1 top p) (allW top p) (drawF (drawF p top).2 9).2 (allN1 top p)
/-- with one more for the next place -/
def rndR (top : Int) (p : Pn) : Nat → Nat → Int := fun x y => if y = (x + 1) % allN1 top p then (allR top p).1 x y + 1 else (allR top p).1 x y
theorem all_ok {top : Int} {p : Pn} (h : PnOk p) (h1 : 0 < top) (h5 : top ≤ 5) : 1 ≤ allN1 top p ∧ allN1 top p ≤ 5 ∧ 1 ≤ allW top p ∧ allW top p ≤ 9 ∧ PnOk (drawF (drawF p top).2 9).2 := by
  have d1 := drawF_ok h h1
  have d2 := drawF_ok d1.2.2 (m := 9) (by decide)
  unfold allN1 allW
  exact ⟨by omega, by omega, by omega, by omega, d2.2.2⟩
theorem rnd_good {top : Int} {p : Pn} (h : PnOk p) (h1 : 0 < top) (h5 : top ≤ 5) : Good (allN1 top p) (rndR top p) ((allW top p : Int) + 1) := by
  obtain ⟨a1, a2, a3, a4, a5⟩ := all_ok h h1 h5
  obtain ⟨b1, b2⟩ := rowsF_ok (n := allN1 top p) (w := allW top p) a5 a1 (allN1 top p)
  refine ⟨a1, a2, fun x y hx hy => ?_, fun x hx => ?_, by omega, by omega, fun x hx => ?_⟩
  · have := (b2 x hx).1 y
    unfold rndR allR
    split <;> omega
  · unfold rndR allR
    rw [sumN_inc (Nat.mod_lt _ (by omega)), (b2 x hx).2]
  · have := (b2 x hx).1 ((x + 1) % allN1 top p)
    unfold rndR allR
    rw [if_pos rfl]
    omega
theorem all_pn {top : Int} {p : Pn} (h : PnOk p) (h1 : 0 < top) (h5 : top ≤ 5) : PnOk (allR top p).2 := by
  obtain ⟨a1, a2, a3, a4, a5⟩ := all_ok h h1 h5
  exact (rowsF_ok (n := allN1 top p) (w := allW top p) a5 a1 (allN1 top p)).1
section
variable {P : Program} {w : World} {K : PySem.W.Frag} {mg : Str → Option Value} {base : Heap} {f : Addr} {fd : FuncData} {C : Addr}
theorem small_sz {m : Nat} (h : m ≤ 1000) : (m : Int).natAbs < 2 ^ 2000 := by
  rw [Int.natAbs_natCast]
  exact Nat.lt_of_lt_of_le (Nat.lt_of_le_of_lt h (by decide : 1000 < 2 ^ 10)) (pow_le2 (by decide))
def S_row : FSp := fun ds ω d ω' => ∃ (a : Addr) (p : Pn) (n wh k : Nat) (sm : Nat → Nat), PnOk p ∧ n ≤ 1000 ∧ wh ≤ 1000 ∧ 1 ≤ k ∧ k ≤ 1000 ∧ (∀ i, i < k → sm i < n) ∧ ds = [.adr a, .i (n : Int), .i (wh : Int), .l (gen k fun i => .i ((sm i : Nat) : Int))] ∧ ω a = some (.lst (penD p)) ∧ d = vecD n (rowF k sm p wh).1 ∧ ω' = updO ω a (.lst (penD (rowF k sm p wh).2))
theorem ok_row (F : FnP K "_law_row" s__law_row f fd) (T : Tx K mg C) (G : Ok P w K mg base C "_law_draw" 2 ["_law_pen", "_law_many"] S_draw) : FnOk P w K mg base CX0 3 f fd ["_law_pen", "_law_many", "_law_whole", "_law_some"] (spF K C S_row) := by
  refine fnD F sc__law_row (fun ds ω d ω' h => ?_) (fun X ds ω d ω' hX hr h => ?_)
  · obtain ⟨a, p, n, wh, k, sm, _, _, _, _, _, _, rfl, _⟩ := h
    rfl
  · obtain ⟨cdv, A, outer, st, H, E, rfl⟩ := hX
    obtain ⟨a, p, n, wh, k, sm, hp, hn, hwh, hk, hkz, hsm, rfl, ha, rfl, rfl⟩ := h
    have nd := sc__law_row.nd
    refine psd_cons (ps1_own 4 nd rfl (.inl rfl) (pdn_rep1 (v_ 1 rfl) (by omega) (by omega)) fun q hq => ?_)
    have haq : a ≠ q := fun z => by
      rw [z, hq] at ha
      cases ha
    let W : Pn → (Nat → Int) → Om := fun p g => updO (updO ω a (.lst (penD p))) q (.lst (gen n fun y => .i (g y)))
    have e0 : updO ω q (.lst (gen (n : Int).toNat fun _ => .i 0)) = W p fun _ => 0 := by
      show _ = updO (updO ω a (.lst (penD p))) q _
      rw [updO_self ha, Int.toNat_natCast]
    rw [e0]
    have wa : ∀ p g, W p g a = some (.lst (penD p)) := fun p g => by
      show updO _ q _ a = _
      rw [updO_ne haq, updO_same]
    have wq : ∀ p g, W p g q = some (.lst (gen n fun y => .i (g y))) := fun p g => updO_same
    have wset : ∀ p p' g, updO (W p g) a (.lst (penD p')) = W p' g := fun p p' g => by
      show updO (updO (updO ω a _) q _) a _ = updO (updO ω a _) q _
      rw [updO_comm (fun z => haq z.symm), updO_updO]
    refine psd_cons (ps1_for1 5 (fun t δ ω2 => ω2 = W (rowF k sm p t).2 (rowF k sm p t).1 ∧ ∃ y5 y6, δ = [some (.adr a), some (.i (n : Int)), some (.i (wh : Int)), some (.l (gen k fun i => .i ((sm i : Nat) : Int))), some (.adr q), y5, y6]) nd rfl (.inl rfl) PassesOwn.never (q_range T (v_ 2 rfl) hwh) ⟨rfl, none, none, rfl⟩ ?_ ?_)
    · rintro t ht δ ω2 ⟨rfl, y5, y6, rfl⟩
      have d1 := drawF_ok (rowF_pn (sm := sm) hp hk t) (m := (k : Int)) (by omega)
      have hj : (drawF (rowF k sm p t).2 (k : Int)).1.toNat < k := by omega
      have hs := hsm _ hj
      refine psd_cons (ps1_set (d := .i ((sm (drawF (rowF k sm p t).2 (k : Int)).1.toNat : Nat) : Int)) (ω1 := W (drawF (rowF k sm p t).2 (k : Int)).2 (rowF k sm p t).1) 6 nd rfl (.inl rfl) (q_ixL (g := fun i => .i ((sm i : Nat) : Int)) (k := (drawF (rowF k sm p t).2 (k : Int)).1.toNat) (v_ 3 rfl) (pd_ok G hr (by decide) (pda_cons (v_ 0 rfl) (pda_cons (PD.cast (q_lenL T (v_ 3 rfl)) (by rw [gen_len])) pda_nil)) ⟨a, _, (k : Int), by omega, small_sz hkz, rfl, wa _ _, rfl, (wset _ _ _).symm⟩) (by omega) hj) ?_)
      refine psd_one (ps1_setO (p := q) (j := sm (drawF (rowF k sm p t).2 (k : Int)).1.toNat) (pd_add (m := (rowF k sm p t).1 (sm (drawF (rowF k sm p t).2 (k : Int)).1.toNat)) (pd_ixO (j := sm (drawF (rowF k sm p t).2 (k : Int)).1.toNat) (v_ 4 rfl) (v_ 6 rfl) (wq _ _) rfl (gen_get hs)) pd_int) (v_ 4 rfl) (v_ 6 rfl) (wq _ _) rfl (by rw [gen_len]; exact hs) ⟨?_, some (.i (t : Int)), _, rfl⟩)
      show updO (updO (updO ω a _) q _) q _ = updO (updO ω a _) q _
      rw [updO_updO, gen_set]
      congr 2
      refine gen_congr fun y hy => ?_
      show (if y = _ then _ else _) = D.i (if y = _ then _ else _)
      by_cases e : y = sm (drawF (rowF k sm p t).2 (k : Int)).1.toNat
      · rw [if_pos e, if_pos e, e]
      · rw [if_neg e, if_neg e]
    · rintro δ ω2 ⟨rfl, y5, y6, rfl⟩
      refine psd_one (ps1_ret (q_tupO T (v_ 4 rfl) (wq _ _)) ⟨rfl, fun b o e => ?_⟩)
      show updO (updO ω a _) q _ b = _
      by_cases z : b = q
      · rw [z, updO_ne (fun z => haq z.symm), hq] at e
        cases e
      · rw [updO_ne z]
        exact e
end
end FW
set_option Elab.async false
set_option linter.all false
set_option autoImplicit false
set_option maxRecDepth 100000
set_option maxHeartbeats 1000000
/-! F15: the law's rows, weights. -/
namespace FW
open PySem PySem.Spec PyProof.Rows L2
section
variable {P : Program} {w : World} {K : PySem.W.Frag} {mg : Str → Option Value} {base : Heap} {f : Addr} {fd : FuncData} {C : Addr}
def S_rows : FSp := fun ds ω d ω' => ∃ (a : Addr) (p : Pn) (top : Int), PnOk p ∧ 0 < top ∧ top ≤ 5 ∧ ds = [.adr a, .i top] ∧ ω a = some (.lst (penD p)) ∧ d = matD (allN1 top p) (allR top p).1 ∧ ω' = updO ω a (.lst (penD (allR top p).2))
theorem ok_rows (F : FnP K "_law_rows" s__law_rows f fd) (T : Tx K mg C) (G : Ok P w K mg base C "_law_draw" 2 ["_law_pen", "_law_many"] S_draw) (G2 : Ok P w K mg base C "_law_row" 3 ["_law_pen", "_law_many", "_law_whole", "_law_some"] S_row) : FnOk P w K mg base CX0 4 f fd ["_law_pen", "_law_top"] (spF K C S_rows) := by
  refine fnD F sc__law_rows (fun ds ω d ω' h => ?_) (fun X ds ω d ω' hX hr h => ?_)
  · obtain ⟨a, p, top, _, _, _, rfl, _⟩ := h
    rfl
  · obtain ⟨cdv, A, outer, st, H, E, rfl⟩ := hX
    obtain ⟨a, p, top, hp, ht0, ht5, rfl, ha, rfl, rfl⟩ := h
    have nd := sc__law_rows.nd
    obtain ⟨a1, a2, a3, a4, a5⟩ := all_ok hp ht0 ht5
    have e1 : 1 + (drawF p top).1 = ((allN1 top p : Nat) : Int) := by
      have := drawF_ok hp ht0
      unfold allN1
      omega
    have e2 : 1 + (drawF (drawF p top).2 9).1 = ((allW top p : Nat) : Int) := by
      have := drawF_ok (drawF_ok hp ht0).2.2 (m := 9) (by decide)
      unfold allW
      omega
    refine psd_cons (ps1_par 2 3 rfl nd rfl rfl (by decide) rfl rfl (pdax_cons (pd_add (m := 1) pd_int (pd_ok G hr (by decide) (pda_cons (v_ 0 rfl) (pda_cons (v_ 1 rfl) pda_nil)) ⟨a, p, top, ht0, Nat.lt_of_lt_of_le (by omega : top.natAbs < 2 ^ 3) (pow_le2 (by decide)), rfl, ha, rfl, rfl⟩)) (pdax_cons (pd_add (m := 1) pd_int (pd_ok G hr (by decide) (pda_cons (v_ 0 rfl) (pda_cons pd_int pda_nil)) ⟨a, (drawF p top).2, 9, by decide, Nat.lt_of_lt_of_le (by decide : 9 < 2 ^ 4) (pow_le2 (by decide)), rfl, updO_same, rfl, rfl⟩)) (pdax_nil ⟨_, _, rfl, ?_⟩))) rfl)
    rw [updO_updO, e1, e2]
    generalize hn : allN1 top p = n at *
    generalize hw : allW top p = wh at *
    have eR : allR top p = rowsF n wh (drawF (drawF p top).2 9).2 n := by unfold allR; rw [hn, hw]
    rw [eR]
    generalize (drawF (drawF p top).2 9).2 = p2 at a5 ⊢
    refine psd_cons (ps1_own 4 nd rfl (.inl rfl) (pdn_lst pda_nil (by show 0 ≤ 1000; decide)) fun q hq => ?_)
    have haq : a ≠ q := fun z => by
      rw [z, updO_same] at hq
      cases hq
    have hq0 : ω q = none := by
      rw [updO_ne (fun z => haq z.symm)] at hq
      exact hq
    let W : Pn → List D → Om := fun p g => updO (updO ω a (.lst (penD p))) q (.lst g)
    have wa : ∀ p g, W p g a = some (.lst (penD p)) := fun p g => by
      show updO _ q _ a = _
      rw [updO_ne haq, updO_same]
    have wset : ∀ p p' g, updO (W p g) a (.lst (penD p')) = W p' g := fun p p' g => by
      show updO (updO (updO ω a _) q _) a _ = updO (updO ω a _) q _
      rw [updO_comm (fun z => haq z.symm), updO_updO]
    have wq : ∀ p g, W p g q = some (.lst g) := fun p g => updO_same
    refine psd_cons (ps1_for1 5 (fun t δ ω2 => ω2 = W (rowsF n wh p2 t).2 (gen t fun x => vecD n ((rowsF n wh p2 t).1 x)) ∧ ∃ y5 y6, δ = [some (.adr a), some (.i top), some (.i ((n : Nat) : Int)), some (.i ((wh : Nat) : Int)), some (.adr q), y5, y6]) nd rfl (.inl rfl) PassesOwn.never (q_range T (v_ 2 rfl) (by omega)) ⟨rfl, none, none, rfl⟩ ?_ ?_)
    · rintro t ht δ ω2 ⟨rfl, y5, y6, rfl⟩
      obtain ⟨r1, r2⟩ := rowsF_ok a5 a1 (w := wh) t
      obtain ⟨s1, s4, s2, s3⟩ := someF_ok r1 a1
      generalize hpt : (rowsF n wh p2 t).2 = pt at *
      have d1 := drawF_ok r1 (m := (n : Int)) (by omega)
      have d2 := drawF_ok d1.2.2 (m := (n : Int)) (by omega)
      have d3 := drawF_ok d2.2.2 (m := 2) (by omega)
      have nz := small_sz (m := n) (by omega)
      refine psd_cons (ps1_set (d := .l (gen (someF n pt).1.1 fun i => .i (((someF n pt).1.2 i : Nat) : Int))) (ω1 := W (someF n pt).2 (gen t fun x => vecD n ((rowsF n wh p2 t).1 x))) 6 nd rfl (.inl rfl) (pd_ixL (n := (drawF (drawF (drawF pt n).2 n).2 2).1) (j := (drawF (drawF (drawF pt n).2 n).2 2).1.toNat)
        (ds := [.l (gen n fun i => .i (i : Int)), .l [.i (drawF pt n).1, .i (drawF (drawF pt n).2 n).1]]) (ω1 := W (drawF (drawF pt n).2 n).2 (gen t fun x => vecD n ((rowsF n wh p2 t).1 x)))
        (PDN.pd (pdn_lst (pda_cons (q_listR T (v_ 2 rfl) (by omega)) (pda_cons (PDN.pd (pdn_lst (pda_cons (pd_ok G hr (by decide) (pda_cons (v_ 0 rfl) (pda_cons (v_ 2 rfl) pda_nil)) ⟨a, pt, (n : Int), by omega, nz, rfl, wa _ _, rfl, (wset _ _ _).symm⟩) (pda_cons (pd_ok G hr (by decide) (pda_cons (v_ 0 rfl) (pda_cons (v_ 2 rfl) pda_nil)) ⟨a, _, (n : Int), by omega, nz, rfl, wa _ _, rfl, (wset _ _ _).symm⟩) pda_nil)) (by show 2 ≤ 1000; decide))) pda_nil)) (by show 2 ≤ 1000; decide)))
        (pd_ok G hr (by decide) (pda_cons (v_ 0 rfl) (pda_cons pd_int pda_nil)) ⟨a, (drawF (drawF pt n).2 n).2, 2, by decide, Nat.lt_of_lt_of_le (by decide : 2 < 2 ^ 2) (pow_le2 (by decide)), rfl, wa _ _, rfl, ?_⟩) (by omega) ?_) ?_)
      · have e : (someF n pt).2 = (drawF (drawF (drawF pt n).2 n).2 2).2 := by
          unfold someF
          split <;> rfl
        rw [e]
        exact (wset _ _ _).symm
      · unfold someF
        by_cases c : (drawF (drawF (drawF pt n).2 n).2 2).1 = 0
        · rw [if_pos c, c]
          rfl
        · rw [if_neg c]
          have e : (drawF (drawF (drawF pt n).2 n).2 2).1.toNat = 1 := by omega
          rw [e]
          show some (D.l [D.i (drawF pt n).1, D.i (drawF (drawF pt n).2 n).1]) = some (D.l [D.i (((drawF pt n).1.toNat : Nat) : Int), D.i (((drawF (drawF pt n).2 n).1.toNat : Nat) : Int)])
          rw [Int.toNat_of_nonneg d1.1, Int.toNat_of_nonneg d2.1]
      refine psd_one (ps1_app (ω1 := W (rowF (someF n pt).1.1 (someF n pt).1.2 (someF n pt).2 wh).2 (gen t fun x => vecD n ((rowsF n wh p2 t).1 x))) (v_ 4 rfl) (wq _ _) (pd_ok G2 hr (by decide) (pda_cons (v_ 0 rfl) (pda_cons (v_ 2 rfl) (pda_cons (v_ 3 rfl) (pda_cons (v_ 6 rfl) pda_nil)))) ⟨a, (someF n pt).2, n, wh, (someF n pt).1.1, (someF n pt).1.2, s3, by omega, by omega, s1, by omega, s2, rfl, wa _ _, rfl, (wset _ _ _).symm⟩) (wq _ _) (by rw [gen_len]; omega) ⟨?_, some (.i (t : Int)), _, rfl⟩)
      show updO (updO (updO ω a _) q _) q _ = updO (updO ω a _) q _
      rw [updO_updO]
      have er : (rowsF n wh p2 (t + 1)).2 = (rowF (someF n pt).1.1 (someF n pt).1.2 (someF n pt).2 wh).2 := by
        rw [← hpt]
        rfl
      rw [er]
      congr 2
      rw [gen_succ]
      have ex : ∀ x, (rowsF n wh p2 (t + 1)).1 x = if x = t then (rowF (someF n pt).1.1 (someF n pt).1.2 (someF n pt).2 wh).1 else (rowsF n wh p2 t).1 x := fun x => by
        rw [← hpt]
        rfl
      rw [ex t, if_pos rfl, gen_congr (g := fun x => vecD n ((rowsF n wh p2 (t + 1)).1 x)) (h := fun x => vecD n ((rowsF n wh p2 t).1 x)) fun x hx => by rw [ex x, if_neg (by omega)]]
    · rintro δ ω2 ⟨rfl, y5, y6, rfl⟩
      refine psd_one (ps1_ret (q_tupO T (v_ 4 rfl) (wq _ _)) ⟨rfl, fun b o e => ?_⟩)
      show updO (updO ω a _) q _ b = _
      by_cases z : b = q
      · rw [z, updO_ne (fun z => haq z.symm), hq0] at e
        cases e
      · rw [updO_ne z]
        exact e
def S_round : FSp := fun ds ω d ω' => ∃ (a : Addr) (p : Pn) (top : Int), PnOk p ∧ 0 < top ∧ top ≤ 5 ∧ ds = [.adr a, .i top] ∧ ω a = some (.lst (penD p)) ∧ d = matD (allN1 top p) (rndR top p) ∧ ω' = updO ω a (.lst (penD (allR top p).2))
theorem cut_inc {n c : Nat} (hc : c < n) (g : Nat → Int) : (gen n fun y => D.i (g y)).take c ++ [D.i (g c + 1)] ++ (gen n fun y => D.i (g y)).drop (c + 1) = gen n fun y => D.i (if y = c then g y + 1 else g y) := by
  rw [List.append_assoc]
  have h := gen_set n (fun y => D.i (g y)) c (D.i (g c + 1))
  rw [List.set_eq_take_append_cons_drop, if_pos (by rw [gen_len]; exact hc)] at h
  refine Eq.trans h (gen_congr fun y hy => ?_)
  by_cases e : y = c
  · rw [if_pos e, if_pos e, e]
  · rw [if_neg e, if_neg e]
theorem ok_round (F : FnP K "_law_round_rows" s__law_round_rows f fd) (T : Tx K mg C) (G : Ok P w K mg base C "_law_rows" 4 ["_law_pen", "_law_top"] S_rows) : FnOk P w K mg base CX0 5 f fd ["_law_pen", "_law_top"] (spF K C S_round) := by
  refine fnD F sc__law_round_rows (fun ds ω d ω' h => ?_) (fun X ds ω d ω' hX hr h => ?_)
  · obtain ⟨a, p, top, _, _, _, rfl, _⟩ := h
    rfl
  · obtain ⟨cdv, A, outer, st, H, E, rfl⟩ := hX
    obtain ⟨a, p, top, hp, ht0, ht5, rfl, ha, rfl, rfl⟩ := h
    have nd := sc__law_round_rows.nd
    obtain ⟨a1, a2, a3, a4, a5⟩ := all_ok hp ht0 ht5
    unfold rndR
    generalize hn : allN1 top p = n at *
    generalize hR : (allR top p).1 = r at *
    generalize hP : (allR top p).2 = p3 at *
    refine psd_cons (ps1_own 2 nd rfl (.inl rfl) (pdn_lst pda_nil (by show 0 ≤ 1000; decide)) fun q hq => ?_)
    have haq : a ≠ q := fun z => by
      rw [z, hq] at ha
      cases ha
    let g : Nat → D := fun x => vecD n fun y => if y = (x + 1) % n then r x y + 1 else r x y
    refine psd_cons (ps1_for2 3 4 (fun t δ ω2 => ω2 = updO (updO ω a (.lst (penD p3))) q (.lst (gen t g)) ∧ ∃ y3 y4 y5, δ = [some (.adr a), some (.i top), some (.adr q), y3, y4, y5]) nd rfl (.inl rfl) rfl (.inl rfl) PassesOwn.never (q_enumT (N := n) (g := fun x => vecD n (r x)) (ω1 := updO (updO ω a (.lst (penD p3))) q (.lst (gen 0 g))) T (pd_ok G hr (by decide) (pda_cons (v_ 0 rfl) (pda_cons (v_ 1 rfl) pda_nil)) ⟨a, p, top, hp, ht0, ht5, rfl, by rw [updO_ne haq]; exact ha, by rw [hn, hR]; rfl, by rw [updO_comm (fun z => haq z.symm), hP]; rfl⟩)) ⟨rfl, none, none, none, rfl⟩ ?_ ?_)
    · rintro t ht δ ω2 ⟨rfl, y3, y4, y5, rfl⟩
      have hc : (t + 1) % n < n := Nat.mod_lt _ (by omega)
      refine psd_cons (ps1_set (d := .i (((t + 1) % n : Nat) : Int)) 5 nd rfl (.inl rfl) (PD.cast (pd_mod (m := (t : Int) + 1) (n := (n : Int)) (pd_add (v_ 3 rfl) pd_int) (q_lenV T (v_ 4 rfl)) (by omega)) (by rw [Int.natCast_emod]; rfl)) ?_)
      have hg : g t = vecD n fun y => if y = (t + 1) % n then r t y + 1 else r t y := rfl
      generalize (t + 1) % n = c at hc hg ⊢
      have lc : (gen n fun y => D.i (r t y)).length = n := gen_len _ _
      refine psd_one (ps1_app (d := g t) (v_ 2 rfl) updO_same (PD.cast (pd_catT (pd_catT (pd_slT (ds := gen n fun y => D.i (r t y)) (ol := none) (oh := some ((c : Nat) : Int)) (v_ 4 rfl) pdo_none (pdo_some fun _ => v_ 5 rfl)) (pd_tup (pda_cons (pd_add (m := r t c) (n := 1) (q_ixT (g := fun y => .i (r t y)) (v_ 4 rfl) (v_ 5 rfl) rfl hc) pd_int) pda_nil) (by show 1 ≤ 1000; decide)) ?_) (pd_slT (ds := gen n fun y => D.i (r t y)) (ol := some ((c : Int) + 1)) (oh := none) (v_ 4 rfl) (pdo_some fun _ => pd_add (v_ 5 rfl) pd_int) pdo_none) ?_) ?_) updO_same (by rw [gen_len]; omega) ⟨?_, some (.i (t : Int)), some (vecD n (r t)), some (.i (c : Int)), rfl⟩)
      · have h1 := List.length_take_le (HT.sIx (gen n fun y => D.i (r t y)).length (gen n fun y => D.i (r t y)).length (some ((c : Nat) : Int)) - HT.sIx (gen n fun y => D.i (r t y)).length 0 none) ((gen n fun y => D.i (r t y)).drop (HT.sIx (gen n fun y => D.i (r t y)).length 0 none))
        have h2 := HT.sIx_le (gen n fun y => D.i (r t y)).length (gen n fun y => D.i (r t y)).length (Nat.le_refl _) (some ((c : Nat) : Int))
        show List.length _ + 1 ≤ 1000
        omega
      · rw [List.length_append]
        have h1 := List.length_take_le (HT.sIx (gen n fun y => D.i (r t y)).length (gen n fun y => D.i (r t y)).length (some ((c : Nat) : Int)) - HT.sIx (gen n fun y => D.i (r t y)).length 0 none) ((gen n fun y => D.i (r t y)).drop (HT.sIx (gen n fun y => D.i (r t y)).length 0 none))
        have h2 := HT.sIx_le (gen n fun y => D.i (r t y)).length (gen n fun y => D.i (r t y)).length (Nat.le_refl _) (some ((c : Nat) : Int))
        have h3 := List.length_take_le (HT.sIx (gen n fun y => D.i (r t y)).length (gen n fun y => D.i (r t y)).length none - HT.sIx (gen n fun y => D.i (r t y)).length 0 (some ((c : Int) + 1))) ((gen n fun y => D.i (r t y)).drop (HT.sIx (gen n fun y => D.i (r t y)).length 0 (some ((c : Int) + 1))))
        have h4 := HT.sIx_le (gen n fun y => D.i (r t y)).length (gen n fun y => D.i (r t y)).length (Nat.le_refl _) none
        show (List.length _ + 1) + List.length _ ≤ 1000
        omega
      · rw [hg]
        have e1 : ((c : Int) + 1) = ((c + 1 : Nat) : Int) := rfl
        rw [e1, HT.sIx_nat, HT.sIx_nat, HT.sIx_none, HT.sIx_none, lc, Nat.min_eq_left (by omega), Nat.min_eq_left (by omega), List.drop_zero, Nat.sub_zero, List.take_of_length_le (i := n - (c + 1)) (by rw [List.length_drop, lc]; exact Nat.le_refl _)]
        exact congrArg D.t (cut_inc hc (r t))
      · rw [updO_updO, gen_succ]
    · rintro δ ω2 ⟨rfl, y3, y4, y5, rfl⟩
      refine psd_one (ps1_ret (q_tupO T (v_ 2 rfl) updO_same) ⟨rfl, fun b o e => ?_⟩)
      by_cases z : b = q
      · rw [z, updO_ne (fun z => haq z.symm), hq] at e
        cases e
      · rw [updO_ne z]
        exact e
def S_after : FSp := pure_ fun ds d => ∃ (n : Nat) (r : Nat → Nat → Int) (g : Nat → Int) (k : Nat), n ≤ 1000 ∧ k ≤ 1000 ∧ (∀ x y, x < n → y < n → (r x y).natAbs < 2 ^ 64) ∧ ds = [matD n r, vecD n g, .i (k : Int)] ∧ d = vecD n (itr n r g k)
theorem ok_after (F : FnP K "_law_after" s__law_after f fd) (T : Tx K mg C) : FnOk P w K mg base CX0 1 f fd ["_law_rows_here", "_law_weights", "_law_long"] (spF K C S_after) := by
  refine fnD F sc__law_after (fun ds ω d ω' h => ?_) (fun X ds ω d ω' hX hr h => ?_)
  · obtain ⟨_, n, r, g, k, _, _, _, rfl, _⟩ := h
    rfl
  · obtain ⟨cdv, A, outer, st, H, E, rfl⟩ := hX
    obtain ⟨rfl, n, r, g, k, hn, hk, hz, rfl, rfl⟩ := h
    have nd := sc__law_after.nd
    have bok := fun scope own h => @blkOk_by N__law_after (defScope s__law_after) scope own h
    refine psd_cons (ps1_for1 3 (fun t δ ω2 => ω2 = ω' ∧ ∃ y3, δ = [some (matD n r), some (vecD n (itr n r g t)), some (.i (k : Int)), y3, none, none]) nd rfl (.inl rfl) PassesOwn.never (q_range T (v_ 2 rfl) hk) ⟨rfl, none, rfl⟩ ?_ ?_)
    · rintro t ht δ ω2 ⟨rfl, y3, rfl⟩
      refine psd_one (ps1_set (d := vecD n (itr n r g (t + 1))) 1 nd rfl (.inr rfl) (q_tupL T (PDN.pd (pdn_lc1 (fun y => .i (itr n r g (t + 1) y)) 4 nd (bok _ _ (by decide +kernel)) (q_range T (q_lenV T (v_ 0 rfl)) hn) hn (fun y hy _ _ _ _ _ ω1 => ?_)))) ⟨rfl, some (.i (t : Int)), rfl⟩)
      refine q_sumL (f := fun x => itr n r g t x * r x y) T (PDN.pd (pdn_lc1 (fun x => .i (itr n r g t x * r x y)) 5 nd (@blkOk_by N__law_after (relS _ (defScope s__law_after)) _ _ (by decide +kernel)) (q_range T (q_lenV T (v_ 0 rfl)) hn) hn (fun x hx _ _ _ _ _ ω2 => ?_)))
      exact pd_mulS (q_ixT (g := fun x => .i (itr n r g t x)) (v_ 1 rfl) (v_ 5 rfl) rfl hx) (q_ixT (g := fun y => .i (r x y)) (q_ixT (g := fun x => vecD n (r x)) (v_ 0 rfl) (v_ 5 rfl) rfl hx) (v_ 4 rfl) rfl hy) (cm64 (hz x y hx hy))
    · rintro δ ω2 ⟨rfl, y3, rfl⟩
      exact psd_one (ps1_ret (v_ 1 rfl) ⟨rfl, same_om⟩)
def S_start : FSp := pure_ fun ds d => ∃ (n : Nat) (g : Nat → D) (s : Nat), n ≤ 1000 ∧ ds = [.t (gen n g), .i (s : Int)] ∧ d = vecD n (unitN s)
theorem int_unit (k s : Nat) : (if decide ((k : Int) = (s : Int)) = true then (1 : Int) else 0) = unitN s k := by
  unfold unitN
  by_cases h : k = s
  · rw [if_pos h, if_pos (decide_eq_true (by omega))]
  · rw [if_neg h, if_neg (fun z => h (by have := of_decide_eq_true z; omega))]
theorem ok_start (F : FnP K "_law_start" s__law_start f fd) (T : Tx K mg C) : FnOk P w K mg base CX0 1 f fd ["_law_rows_here", "_law_place"] (spF K C S_start) := by
  refine fnD F sc__law_start (fun ds ω d ω' h => ?_) (fun X ds ω d ω' hX hr h => ?_)
  · obtain ⟨_, n, g, s, _, rfl, _⟩ := h
    rfl
  · obtain ⟨cdv, A, outer, st, H, E, rfl⟩ := hX
    obtain ⟨rfl, n, g, s, hn, rfl, rfl⟩ := h
    have nd := sc__law_start.nd
    have bok := fun scope own h => @blkOk_by N__law_start (defScope s__law_start) scope own h
    exact psd_one (ps1_ret (q_tupL T (PDN.pd (pdn_lc1 (fun k => .i (unitN s k)) 2 nd (bok _ _ (by decide +kernel)) (q_range T (q_lenV T (v_ 0 rfl)) hn) hn (fun k hk _ _ _ _ _ ω1 => PD.cast (q_int T (pd_eq (v_ 2 rfl) (v_ 1 rfl))) (by rw [int_unit]))))) ⟨rfl, same_om⟩)
end
end FW
set_option Elab.async false
set_option linter.all false
set_option autoImplicit false
set_option maxRecDepth 100000
set_option maxHeartbeats 1000000
/-! F16: the law's slow fair plan. -/
namespace FW
open PySem PySem.Spec PyProof.Rows L2
theorem ten_sz {x : Int} (h1 : 1 ≤ x) (h2 : x ≤ 10000) : x.natAbs < 2 ^ 20 := by omega
def mnN (f : Nat → Int) : Nat → Int
  | 0 => f 0
  | k + 1 => if f (k + 1) < mnN f k then f (k + 1) else mnN f k
theorem mnN_le (f : Nat → Int) : ∀ n k, k ≤ n → mnN f n ≤ f k
  | 0, k, h => by
    have e : k = 0 := by omega
    rw [e]
    exact Int.le_refl _
  | n + 1, k, h => by
    show (if f (n + 1) < mnN f n then f (n + 1) else mnN f n) ≤ f k
    by_cases e : k = n + 1
    · rw [e]
      split <;> omega
    · have := mnN_le f n k (by omega)
      split <;> omega
theorem mnN_at (f : Nat → Int) : ∀ n, ∃ k, k ≤ n ∧ f k = mnN f n
  | 0 => ⟨0, Nat.le_refl 0, rfl⟩
  | n + 1 => by
    show ∃ k, k ≤ n + 1 ∧ f k = (if f (n + 1) < mnN f n then f (n + 1) else mnN f n)
    by_cases c : f (n + 1) < mnN f n
    · exact ⟨n + 1, Nat.le_refl _, by rw [if_pos c]⟩
    · obtain ⟨k, hk, e⟩ := mnN_at f n
      exact ⟨k, by omega, by rw [if_neg c, e]⟩
def shD (most : Int) (p : Pn) : Int := (drawF (drawF p (most + 1)).2 4).1
def shF (n : Nat) (π : Nat → Int) (g : Nat → Int) (p : Pn) : Int × Pn :=
  (if shD (mnN (fun y => g y / π y) (n - 1)) p = 0 then mnN (fun y => g y / π y) (n - 1) else if shD (mnN (fun y => g y / π y) (n - 1)) p = 1 then 0 else if shD (mnN (fun y => g y / π y) (n - 1)) p = 2 then (drawF p (mnN (fun y => g y / π y) (n - 1) + 1)).1 else mnN (fun y => g y / π y) (n - 1) / 2, (drawF (drawF p (mnN (fun y => g y / π y) (n - 1) + 1)).2 4).2)
def slS (n : Nat) (r : Nat → Nat → Int) (π : Nat → Int) (g0 : Nat → Int) (p : Pn) : Nat → (Nat → Int) × Pn
  | 0 => (g0, p)
  | t + 1 => (stp n r fun y => (slS n r π g0 p t).1 y - (shF n π (slS n r π g0 p t).1 (slS n r π g0 p t).2).1 * π y, (shF n π (slS n r π g0 p t).1 (slS n r π g0 p t).2).2)
def slC (n : Nat) (r : Nat → Nat → Int) (π : Nat → Int) (g0 : Nat → Int) (p : Pn) (t : Nat) : Int := (shF n π (slS n r π g0 p t).1 (slS n r π g0 p t).2).1
def scF (p : Pn) : Int := if (drawF p 3).1 = 0 then 60 else if (drawF p 3).1 = 1 then 5040 else 10000
theorem scF_ok (p : Pn) : 1 ≤ scF p ∧ scF p ≤ 10000 := by
  unfold scF
  split
  · decide
  · split <;> decide
section
variable {n : Nat} {π : Nat → Int} {g : Nat → Int} {p : Pn}
theorem most_nn (h1 : 1 ≤ n) (hπ : ∀ y, y < n → 0 < π y) (hg : ∀ y, y < n → 0 ≤ g y) : 0 ≤ mnN (fun y => g y / π y) (n - 1) := by
  obtain ⟨k, hk, e⟩ := mnN_at (fun y => g y / π y) (n - 1)
  rw [← e]
  exact Int.ediv_nonneg (hg k (by omega)) (Int.le_of_lt (hπ k (by omega)))
theorem most_le (h1 : 1 ≤ n) (hπ : ∀ y, y < n → 0 < π y) {y : Nat} (hy : y < n) {c : Int} (hc : c ≤ mnN (fun y => g y / π y) (n - 1)) : c * π y ≤ g y := by
  have h := mnN_le (fun y => g y / π y) (n - 1) y (by omega)
  exact (Int.le_ediv_iff_mul_le (hπ y hy)).mp (Int.le_trans hc h)
theorem shF_ok (h1 : 1 ≤ n) (hp : PnOk p) (hπ : ∀ y, y < n → 0 < π y) (hg : ∀ y, y < n → 0 ≤ g y) : 0 ≤ (shF n π g p).1 ∧ (shF n π g p).1 ≤ mnN (fun y => g y / π y) (n - 1) ∧ PnOk (shF n π g p).2 := by
  have hm := most_nn h1 hπ hg
  have d1 := drawF_ok hp (m := mnN (fun y => g y / π y) (n - 1) + 1) (by omega)
  have d2 := drawF_ok d1.2.2 (m := 4) (by decide)
  unfold shF
  refine ⟨?_, ?_, d2.2.2⟩
  · dsimp only
    split
    · exact hm
    · split
      · decide
      · split
        · exact d1.1
        · omega
  · dsimp only
    split
    · exact Int.le_refl _
    · split
      · exact hm
      · split
        · omega
        · omega
end
section
variable {n : Nat} {r : Nat → Nat → Int} {z : Int} {π g0 : Nat → Int} {p : Pn}
theorem slS_ok (h : Good n r z) (hp : PnOk p) (hπ : ∀ y, y < n → 0 < π y) (hg : ∀ y, y < n → 0 ≤ g0 y) : ∀ t : Nat, PnOk (slS n r π g0 p t).2 ∧ (∀ y, y < n → 0 ≤ (slS n r π g0 p t).1 y) ∧ sumN n (slS n r π g0 p t).1 ≤ z ^ t * sumN n g0
  | 0 => ⟨hp, hg, by show sumN n g0 ≤ _; rw [Int.pow_zero, Int.one_mul]; exact Int.le_refl _⟩
  | t + 1 => by
    obtain ⟨i1, i2, i3⟩ := slS_ok h hp hπ hg t
    obtain ⟨s1, s2, s3⟩ := shF_ok h.n1 i1 hπ i2
    have nn : ∀ y, y < n → 0 ≤ (slS n r π g0 p t).1 y - (shF n π (slS n r π g0 p t).1 (slS n r π g0 p t).2).1 * π y := fun y hy => Int.sub_nonneg_of_le (most_le h.n1 hπ hy s2)
    refine ⟨s3, stp_nn h.nn nn, ?_⟩
    show sumN n (stp n r _) ≤ _
    rw [stp_sum h, Int.pow_succ, Int.mul_assoc, Int.mul_left_comm]
    refine Int.mul_le_mul_of_nonneg_left (Int.le_trans (sumN_le fun y hy => ?_) i3) (Int.le_of_lt h.z0)
    have := Int.mul_nonneg s1 (Int.le_of_lt (hπ y hy))
    omega
theorem slS_sz (h : Good n r z) (hp : PnOk p) (hπ : ∀ y, y < n → 0 < π y) (hg : ∀ y, y < n → 0 ≤ g0 y) (hz : (sumN n g0).natAbs < 2 ^ 20) {t : Nat} (ht : t ≤ 100) : Sz 421 n (slS n r π g0 p t).1 := fun y hy => by
  obtain ⟨i1, i2, i3⟩ := slS_ok h hp hπ hg t
  refine le_bits (i2 y hy) (Int.le_trans (sumN_ge i2 hy) i3) ?_
  exact wide_lt (a := 401) (b := 20) (pw_sz' h ht) hz
theorem most_sz (h1 : 1 ≤ n) {g : Nat → Int} (hπ : ∀ y, y < n → 0 < π y) (hg : ∀ y, y < n → 0 ≤ g y) (hz : Sz 421 n g) : (mnN (fun y => g y / π y) (n - 1)).natAbs < 2 ^ 421 := by
  refine le_bits (most_nn h1 hπ hg) (Int.le_trans (mnN_le _ _ 0 (by omega)) ?_) (hz 0 (by omega))
  exact Int.ediv_le_self _ (hg 0 (by omega))
theorem slC_ok (h : Good n r z) (hp : PnOk p) (hπ : ∀ y, y < n → 0 < π y) (hg : ∀ y, y < n → 0 ≤ g0 y) (t : Nat) : 0 ≤ slC n r π g0 p t ∧ ∀ y, y < n → slC n r π g0 p t * π y ≤ (slS n r π g0 p t).1 y := by
  obtain ⟨i1, i2, i3⟩ := slS_ok h hp hπ hg t
  obtain ⟨s1, s2, s3⟩ := shF_ok h.n1 i1 hπ i2
  exact ⟨s1, fun y hy => most_le h.n1 hπ hy s2⟩
theorem slC_sz (h : Good n r z) (hp : PnOk p) (hπ : ∀ y, y < n → 0 < π y) (hg : ∀ y, y < n → 0 ≤ g0 y) (hz : (sumN n g0).natAbs < 2 ^ 20) {t : Nat} (ht : t ≤ 100) : (slC n r π g0 p t).natAbs < 2 ^ 421 := by
  obtain ⟨i1, i2, i3⟩ := slS_ok h hp hπ hg t
  obtain ⟨s1, s2, s3⟩ := shF_ok h.n1 i1 hπ i2
  exact le_bits s1 s2 (most_sz h.n1 hπ i2 (slS_sz h hp hπ hg hz ht))
end
section
variable {P : Program} {w : World} {K : PySem.W.Frag} {mg : Str → Option Value} {base : Heap} {f : Addr} {fd : FuncData} {C : Addr}
def S_slow : FSp := fun ds ω d ω' => ∃ (a : Addr) (p : Pn) (n : Nat) (r : Nat → Nat → Int) (z : Int) (π : Nat → Int) (s m : Nat), PnOk p ∧ Good n r z ∧ (∀ y, y < n → 0 < π y) ∧ Sz 50 n π ∧ s < n ∧ m ≤ 90 ∧ ds = [.adr a, matD n r, vecD n π, .i (s : Int), .i (m : Int)] ∧ ω a = some (.lst (penD p)) ∧
  d = planD n (scF p) m (fun t y => slC n r π (fun x => scF p * unitN s x) (drawF p 3).2 t * π y) ∧ ω' = updO ω a (.lst (penD (slS n r π (fun x => scF p * unitN s x) (drawF p 3).2 m).2))
theorem ok_slow (F : FnP K "_law_slow_fair" s__law_slow_fair f fd) (T : Tx K mg C) (G1 : Ok P w K mg base C "_law_draw" 2 ["_law_pen", "_law_many"] S_draw) (G2 : Ok P w K mg base C "_law_start" 1 ["_law_rows_here", "_law_place"] S_start) (G3 : Ok P w K mg base C "_law_after" 1 ["_law_rows_here", "_law_weights", "_law_long"] S_after) : FnOk P w K mg base CX0 3 f fd ["_law_pen", "_law_rows_here", "_law_rest", "_law_start_here", "_law_many"] (spF K C S_slow) := by
  refine fnD F sc__law_slow_fair (fun ds ω d ω' h => ?_) (fun X ds ω d ω' hX hr h => ?_)
  · obtain ⟨a, p, n, r, z, π, s, m, _, _, _, _, _, _, rfl, _⟩ := h
    rfl
  · obtain ⟨cdv, A, outer, st, H, E, rfl⟩ := hX
    obtain ⟨a, p, n, r, z, π, s, m, hp, hg, hπ, hπz, hs, hm, rfl, ha, rfl, rfl⟩ := h
    have nd := sc__law_slow_fair.nd
    have h5 := hg.n5
    have bok := fun scope own h => @blkOk_by N__law_slow_fair (defScope s__law_slow_fair) scope own h
    obtain ⟨c1, c2⟩ := scF_ok p
    have d1 := drawF_ok hp (m := 3) (by decide)
    refine psd_cons (ps1_tup (pg_tup rfl (pgs_cons (pg_name (i := 5) nd rfl (.inr rfl) (.inl rfl)) (pgs_cons (pg_name (i := 6) nd rfl (.inl rfl) (.inl rfl)) pgs_nil))) (pdax_cons (d := .i (scF p)) (pd_ixL (n := (drawF p 3).1) (j := (drawF p 3).1.toNat) (ds := [.i 60, .i 5040, .i 10000]) (PDN.pd (pdn_lst (pda_cons pd_int (pda_cons pd_int (pda_cons (PD.cast (pd_pow (m := 10) (n := 4) pd_int pd_int ⟨by decide, by decide, by decide⟩) (by rfl)) pda_nil))) (by show 3 ≤ 1000; decide)))
      (pd_ok G1 hr (by decide) (pda_cons (v_ 0 rfl) (pda_cons pd_int pda_nil)) ⟨a, p, 3, by decide, Nat.lt_of_lt_of_le (by decide : 3 < 2 ^ 2) (pow_le2 (by decide)), rfl, ha, rfl, rfl⟩) (by omega) ?_) (pdax_new (pdn_lst pda_nil (by show 0 ≤ 1000; decide)) fun q hq => pdax_nil ⟨by show 2 ≤ 1000; decide, _, evg_pair evg_name evg_name, ?_⟩)))
    · unfold scF
      by_cases e0 : (drawF p 3).1 = 0
      · rw [if_pos e0, e0]
        rfl
      · rw [if_neg e0]
        by_cases e1 : (drawF p 3).1 = 1
        · rw [if_pos e1, e1]
          rfl
        · rw [if_neg e1]
          have e : (drawF p 3).1.toNat = 2 := by omega
          rw [e]
          rfl
    have haq : a ≠ q := fun z => by
      rw [z, updO_same] at hq
      cases hq
    have hq0 : ω q = none := by
      rw [updO_ne (fun z => haq z.symm)] at hq
      exact hq
    generalize hsc : scF p = sc at *
    generalize (drawF p 3).2 = p0 at *
    have g0nn : ∀ y, y < n → 0 ≤ sc * unitN s y := fun y _ => mul_unit_nn (by omega) s y
    have g0z : (sumN n fun x => sc * unitN s x).natAbs < 2 ^ 20 := by
      rw [sumN_mul, sumN_unit hs, Int.mul_one]
      exact ten_sz c1 c2
    have scz : sc.natAbs < 2 ^ 2000 := lt_pow (ten_sz c1 c2) (by decide)
    refine psd_cons (ps1_set (d := vecD n fun x => sc * unitN s x) 7 nd rfl (.inl rfl) (q_tupL T (PDN.pd (pdn_lc1 (fun x => .i (sc * unitN s x)) 8 nd (bok _ _ (by decide +kernel)) (pid_gt (pd_ok G2 hr (by decide) (pda_cons (v_ 1 rfl) (pda_cons (v_ 3 rfl) pda_nil)) ⟨rfl, n, fun x => vecD n (r x), s, by omega, rfl, rfl⟩)) (by omega) (fun k hk _ _ _ _ _ ω1 => pd_mul (v_ 5 rfl) (v_ 8 rfl) (cm2000 scz ?_))))) ?_)
    · unfold unitN
      split
      · exact Nat.lt_of_lt_of_le (by decide : 1 < 2 ^ 1) (pow_le2 (by decide))
      · exact Nat.pow_pos (by decide)
    let g0 : Nat → Int := fun x => sc * unitN s x
    let W : Pn → List D → Om := fun p g => updO (updO ω a (.lst (penD p))) q (.lst g)
    have wa : ∀ p g, W p g a = some (.lst (penD p)) := fun p g => by
      show updO _ q _ a = _
      rw [updO_ne haq, updO_same]
    have wset : ∀ p p' g, updO (W p g) a (.lst (penD p')) = W p' g := fun p p' g => by
      show updO (updO (updO ω a _) q _) a _ = updO (updO ω a _) q _
      rw [updO_comm (fun z => haq z.symm), updO_updO]
    have wq : ∀ p g, W p g q = some (.lst g) := fun p g => updO_same
    refine psd_cons (ps1_for1 9 (fun t δ ω2 => ω2 = W (slS n r π g0 p0 t).2 (gen t fun t => vecD n fun y => slC n r π g0 p0 t * π y) ∧ ∃ y9 y10 y13 y14, δ = [some (.adr a), some (matD n r), some (vecD n π), some (.i (s : Int)), some (.i (m : Int)), some (.i sc), some (.adr q), some (vecD n (slS n r π g0 p0 t).1), none, y9, y10, none, none, y13, y14, none]) nd rfl (.inl rfl) PassesOwn.never (q_range T (v_ 4 rfl) (by omega)) ⟨rfl, none, none, none, none, rfl⟩ ?_ ?_)
    · rintro t ht δ ω2 ⟨rfl, y9, y10, y13, y14, rfl⟩
      obtain ⟨i1, i2, i3⟩ := slS_ok hg d1.2.2 hπ g0nn t
      have i4 := slS_sz hg d1.2.2 hπ g0nn g0z (t := t) (by omega)
      obtain ⟨sh1, sh2, sh3⟩ := shF_ok hg.n1 i1 hπ i2
      have i5 := most_sz hg.n1 hπ i2 i4
      have i6 := most_nn hg.n1 hπ i2
      have hc : slC n r π g0 p0 t = (shF n π (slS n r π g0 p0 t).1 (slS n r π g0 p0 t).2).1 := rfl
      have cz : (slC n r π g0 p0 t).natAbs < 2 ^ 421 := slC_sz hg d1.2.2 hπ g0nn g0z (by omega)
      have hn1 : (slS n r π g0 p0 (t + 1)).1 = stp n r fun y => (slS n r π g0 p0 t).1 y - slC n r π g0 p0 t * π y := rfl
      have hn2 : (slS n r π g0 p0 (t + 1)).2 = (shF n π (slS n r π g0 p0 t).1 (slS n r π g0 p0 t).2).2 := rfl
      rw [hn1, hn2]
      generalize hcc : slC n r π g0 p0 t = c at hc cz ⊢
      generalize (slS n r π g0 p0 t).1 = g at *
      generalize (slS n r π g0 p0 t).2 = pt at *
      refine psd_cons (ps1_set (d := .i (mnN (fun y => g y / π y) (n - 1))) 10 nd rfl (.inl rfl) (q_minL (N := n) (f := fun y => g y / π y) T (PDN.pd (pdn_lc2 (u := fun y => .i (g y)) (v := fun y => .i (π y)) (fun y => .i (g y / π y)) 11 12 nd (bok _ _ (by decide +kernel)) (q_zip false false T (v_ 7 rfl) (v_ 2 rfl)) (by omega) (fun y hy _ _ _ _ _ ω1 => pd_fdiv (v_ 11 rfl) (v_ 12 rfl) (wide_div (b := 50) (hπ y hy) (hπz y hy) (by decide) (by decide))))) ?_ ?_) ?_)
      · obtain ⟨k, hk, e⟩ := mnN_at (fun y => g y / π y) (n - 1)
        exact ⟨k, by have := hg.n1; omega, e⟩
      · exact fun k hk => mnN_le (fun y => g y / π y) (n - 1) k (by omega)
      have shd : shF n π g pt = (if shD (mnN (fun y => g y / π y) (n - 1)) pt = 0 then mnN (fun y => g y / π y) (n - 1) else if shD (mnN (fun y => g y / π y) (n - 1)) pt = 1 then 0 else if shD (mnN (fun y => g y / π y) (n - 1)) pt = 2 then (drawF pt (mnN (fun y => g y / π y) (n - 1) + 1)).1 else mnN (fun y => g y / π y) (n - 1) / 2, (drawF (drawF pt (mnN (fun y => g y / π y) (n - 1) + 1)).2 4).2) := rfl
      generalize mnN (fun y => g y / π y) (n - 1) = ms at *
      have e1 := drawF_ok i1 (m := ms + 1) (by omega)
      have e2 := drawF_ok e1.2.2 (m := 4) (by decide)
      have msz : (ms + 1).natAbs < 2 ^ 2000 := Nat.lt_of_le_of_lt (by omega : (ms + 1).natAbs ≤ ms.natAbs + 1) (Nat.lt_of_le_of_lt (by omega : ms.natAbs + 1 ≤ 2 ^ 421) (Nat.pow_lt_pow_right (by decide) (by decide)))
      refine psd_cons (ps1_set (d := .i c) (ω1 := W (shF n π g pt).2 (gen t fun t => vecD n fun y => slC n r π g0 p0 t * π y)) 13 nd rfl (.inr rfl) (pd_ixL (n := (drawF (drawF pt (ms + 1)).2 4).1) (j := (drawF (drawF pt (ms + 1)).2 4).1.toNat) (ds := [.i ms, .i 0, .i (drawF pt (ms + 1)).1, .i (ms / 2)]) (ω1 := W (drawF pt (ms + 1)).2 (gen t fun t => vecD n fun y => slC n r π g0 p0 t * π y))
        (PDN.pd (pdn_lst (pda_cons (v_ 10 rfl) (pda_cons pd_int (pda_cons (pd_ok G1 hr (by decide) (pda_cons (v_ 0 rfl) (pda_cons (pd_add (v_ 10 rfl) pd_int) pda_nil)) ⟨a, pt, ms + 1, by omega, msz, rfl, wa _ _, rfl, (wset _ _ _).symm⟩) (pda_cons (pd_fdiv (v_ 10 rfl) pd_int (wide_div (b := 2) (by decide) (by decide) (by decide) (by decide))) pda_nil)))) (by show 4 ≤ 1000; decide)))
        (pd_ok G1 hr (by decide) (pda_cons (v_ 0 rfl) (pda_cons pd_int pda_nil)) ⟨a, (drawF pt (ms + 1)).2, 4, by decide, Nat.lt_of_lt_of_le (by decide : 4 < 2 ^ 3) (pow_le2 (by decide)), rfl, wa _ _, rfl, by rw [shd]; exact (wset _ _ _).symm⟩) (by omega) ?_) ?_)
      · rw [hc, shd]
        unfold shD
        dsimp only
        by_cases c0 : (drawF (drawF pt (ms + 1)).2 4).1 = 0
        · rw [if_pos c0, c0]
          rfl
        · rw [if_neg c0]
          by_cases c1 : (drawF (drawF pt (ms + 1)).2 4).1 = 1
          · rw [if_pos c1, c1]
            rfl
          · rw [if_neg c1]
            by_cases c2 : (drawF (drawF pt (ms + 1)).2 4).1 = 2
            · rw [if_pos c2, c2]
              rfl
            · rw [if_neg c2]
              have e : (drawF (drawF pt (ms + 1)).2 4).1.toNat = 3 := by omega
              rw [e]
              rfl
      refine psd_cons (ps1_set (d := vecD n fun y => c * π y) 14 nd rfl (.inl rfl) (q_tupL T (PDN.pd (pdn_lc1 (fun y => .i (c * π y)) 12 nd (bok _ _ (by decide +kernel)) (pid_gt (v_ 2 rfl)) (by omega) (fun y hy _ _ _ _ _ ω1 => pd_mul (v_ 13 rfl) (v_ 12 rfl) (cm2000 (lt20 cz (by decide)) (lt20 (hπz y hy) (by decide))))))) ?_)
      refine psd_cons (ps1_app (v_ 6 rfl) (wq _ _) (v_ 14 rfl) (wq _ _) (by rw [gen_len]; omega) ?_)
      refine psd_one (ps1_set (d := vecD n (stp n r fun y => g y - c * π y)) 7 nd rfl (.inl rfl) (pd_ok G3 hr (by decide) (pda_cons (v_ 1 rfl) (pda_cons (q_tupL T (PDN.pd (pdn_lc2 (u := fun y => .i (g y)) (v := fun y => .i (c * π y)) (fun y => .i (g y - c * π y)) 11 15 nd (bok _ _ (by decide +kernel)) (q_zip false false T (v_ 7 rfl) (v_ 14 rfl)) (by omega) (fun y hy _ _ _ _ _ ω1 => pd_sub (v_ 11 rfl) (v_ 15 rfl))))) (pda_cons pd_int pda_nil))) ⟨rfl, n, r, fun y => g y - c * π y, 1, by omega, by decide, fun x y hx hy => hg.sz hx hy, rfl, rfl⟩) ⟨?_, some (.i (t : Int)), _, _, _, rfl⟩)
      show updO (updO (updO ω a _) q _) q _ = updO (updO ω a _) q _
      rw [updO_updO, gen_succ, hcc]
    · rintro δ ω2 ⟨rfl, y9, y10, y13, y14, rfl⟩
      refine psd_one (ps1_ret (pd_tup (pda_cons (v_ 5 rfl) (pda_cons (q_tupO T (v_ 6 rfl) (wq _ _)) pda_nil)) (by show 2 ≤ 1000; decide)) ⟨rfl, fun b o e => ?_⟩)
      show updO (updO ω a _) q _ b = _
      by_cases z : b = q
      · rw [z, updO_ne (fun z => haq z.symm), hq0] at e
        cases e
      · rw [updO_ne z]
        exact e
end
end FW
set_option Elab.async false
set_option linter.all false
set_option autoImplicit false
set_option maxRecDepth 100000
set_option maxHeartbeats 1000000
/-! M4: the plain law's parts. -/
namespace FW
theorem cancel_le {a b c : Int} (hc : 0 < c) (h : a * c ≤ b * c) : a ≤ b := Int.le_of_mul_le_mul_right h hc
theorem cancel_eq {a b c : Int} (hc : 0 < c) (h : a * c = b * c) : a = b := Int.eq_of_mul_eq_mul_right (Int.ne_of_gt hc) h
theorem mulR_le {a b c : Int} (hc : 0 ≤ c) (h : a ≤ b) : a * c ≤ b * c := Int.mul_le_mul_of_nonneg_right h hc
theorem barN_min {w p : Nat → Int} {n : Nat} (h1 : 1 ≤ n) (hp : ∀ y, y < n → 0 < p y) : ∀ k, k ≤ n → ∀ y, y < k → w (barN w p k) * p y ≤ w y * p (barN w p k)
  | 0, _, y, hy => absurd hy (by omega)
  | k + 1, hk, y, hy => by
    have ih := barN_min h1 hp (w := w) k (by omega)
    have hb := barN_lt w p h1 k (by omega)
    have pb := hp _ hb
    have pk := hp k (by omega)
    by_cases c : w k * p (barN w p k) < w (barN w p k) * p k
    · rw [barN_t c]
      by_cases e : y = k
      · rw [e]
        exact Int.le_refl _
      · have i1 := ih y (by omega)
        have py := hp y (by omega)
        refine cancel_le pb ?_
        have s1 := mulR_le (Int.le_of_lt py) (Int.le_of_lt c)
        have s2 := mulR_le (Int.le_of_lt pk) i1
        have e1 : w k * p (barN w p k) * p y = w k * p y * p (barN w p k) := by ac_rfl
        have e2 : w (barN w p k) * p k * p y = w (barN w p k) * p y * p k := by ac_rfl
        have e3 : w y * p (barN w p k) * p k = w y * p k * p (barN w p k) := by ac_rfl
        omega
    · rw [barN_f c]
      by_cases e : y = k
      · rw [e]
        omega
      · exact ih y (by omega)
section
variable {n : Nat} {r : Nat → Nat → Int} {z : Int} {s : Nat}
theorem itr_mul (n : Nat) (r : Nat → Nat → Int) (c : Int) (g : Nat → Int) : ∀ t, itr n r (fun x => c * g x) t = fun y => c * itr n r g t y
  | 0 => rfl
  | t + 1 => by
    funext y
    show stp n r (itr n r (fun x => c * g x) t) y = c * stp n r (itr n r g t) y
    rw [itr_mul n r c g t]
    unfold stp
    rw [← sumN_mul]
    exact sumN_congr fun x _ => Int.mul_assoc _ _ _
theorem wt_sum (h : Good n r z) (hs : s < n) (k : Nat) : sumN n (wt n r s k) = z ^ k := by
  unfold wt
  rw [itr_sum h, sumN_unit hs, Int.mul_one]
/-- a share that goes round -/
theorem stat_le (h : Good n r z) {g : Nat → Int} {c : Int} (hc : ∀ x, x < n → c * rst n r z x ≤ g x) {y : Nat} (hy : y < n) : c * z * rst n r z y ≤ stp n r g y := by
  have e : c * z * rst n r z y = sumN n fun x => c * rst n r z x * r x y := by
    rw [Int.mul_assoc, ← rst_stat h hy, ← sumN_mul]
    exact sumN_congr fun x _ => (Int.mul_assoc _ _ _).symm
  rw [e]
  exact sumN_le fun x hx => mulR_le (h.nn x y hx hy) (hc x hx)
theorem min_sum (h : Good n r z) (hs : s < n) (k : Nat) {p : Nat} (hp : p < n) (hm : ∀ y, y < n → wt n r s k p * rst n r z y ≤ wt n r s k y * rst n r z p) : wt n r s k p * sumN n (rst n r z) ≤ rst n r z p * z ^ k := by
  rw [← sumN_mul, ← wt_sum h hs k, ← sumN_mul]
  refine sumN_le fun y hy => ?_
  rw [Int.mul_comm (rst n r z p)]
  exact hm y hy
theorem bar_lt (h : Good n r z) (g : Nat → Int) : barN g (rst n r z) n < n := barN_lt _ _ h.n1 n (Nat.le_refl n)
theorem bar_min (h : Good n r z) (g : Nat → Int) : ∀ y, y < n → g (barN g (rst n r z) n) * rst n r z y ≤ g y * rst n r z (barN g (rst n r z) n) := barN_min h.n1 (fun y hy => rst_pos h hy) n (Nat.le_refl n)
theorem sep_nn (h : Good n r z) (hs : s < n) (k : Nat) : 0 ≤ sepA n r z s k := by
  have h1 := min_sum h hs k (bar_lt h (wt n r s k)) (bar_min h _)
  unfold sepA
  omega
theorem sep_le (h : Good n r z) (hs : s < n) (k : Nat) : sepA n r z s k ≤ sepB n r z s k := by
  have h1 := Int.mul_nonneg (wt_nn h s k (bar_lt h (wt n r s k))) (Int.le_of_lt (rst_sum_pos h))
  unfold sepA sepB
  omega
theorem sep_fall (h : Good n r z) (hs : s < n) (k : Nat) : sepA n r z s (k + 1) * sepB n r z s k ≤ sepA n r z s k * sepB n r z s (k + 1) := by
  have hp := bar_lt h (wt n r s k)
  have hq := bar_lt h (wt n r s (k + 1))
  have hm := bar_min h (wt n r s k)
  unfold sepA sepB
  generalize barN (wt n r s k) (rst n r z) n = p at hp hm ⊢
  generalize barN (wt n r s (k + 1)) (rst n r z) n = q at hq ⊢
  have pp := rst_pos h hp
  have pS := rst_sum_pos h
  have pZ := pw_pos h k
  -- what is at q behind one more step
  have key : wt n r s k p * z * rst n r z q ≤ wt n r s (k + 1) q * rst n r z p := by
    have e1 : wt n r s (k + 1) q * rst n r z p = sumN n fun x => wt n r s k x * rst n r z p * r x q := by
      show stp n r (wt n r s k) q * rst n r z p = _
      unfold stp
      rw [← sumN_mulR]
      exact sumN_congr fun x _ => by ac_rfl
    have e2 : wt n r s k p * z * rst n r z q = sumN n fun x => wt n r s k p * rst n r z x * r x q := by
      rw [Int.mul_assoc, ← rst_stat h hq, ← sumN_mul]
      exact sumN_congr fun x _ => (Int.mul_assoc _ _ _).symm
    rw [e1, e2]
    exact sumN_le fun x hx => mulR_le (h.nn x q hx hq) (hm x hx)
  have key2 := mulR_le (Int.le_of_lt (Int.mul_pos pS pZ)) key
  rw [Int.pow_succ]
  generalize wt n r s k p = a at *
  generalize wt n r s (k + 1) q = b at *
  generalize rst n r z p = c at *
  generalize rst n r z q = d at *
  generalize sumN n (rst n r z) = S at *
  generalize z ^ k = Z at *
  have x1 : (d * (Z * z) - b * S) * (c * Z) = d * (Z * z) * (c * Z) - b * c * (S * Z) := by grind
  have x2 : (c * Z - a * S) * (d * (Z * z)) = d * (Z * z) * (c * Z) - a * z * d * (S * Z) := by grind
  rw [x1, x2]
  omega
theorem two_ok (h : Good n r z) (hs : s < n) {k : Nat} (hk : k ≤ 100) : TwoOk n (wt n r s k) (rst n r z) :=
  ⟨h.n1, by have := h.n5; omega, fun x hx => wt_nn h s k hx, fun x hx => Int.le_of_lt (rst_pos h hx), by rw [wt_sum h hs]; exact pw_pos h k, rst_sum_pos h, by rw [wt_sum h hs]; exact lt_pow (pw_sz' h hk) (by decide), lt_pow (rst_sum_sz h) (by decide)⟩
end
end FW
set_option Elab.async false
set_option linter.all false
set_option autoImplicit false
set_option maxRecDepth 100000
set_option maxHeartbeats 1000000
/-! M5: apart against separation; plans. -/
namespace FW
theorem sumN_eq_of_le {n : Nat} {f g : Nat → Int} (h : ∀ k, k < n → f k ≤ g k) (e : sumN n f = sumN n g) : ∀ k, k < n → f k = g k := fun k hk => by
  have h1 := sumN_ge (n := n) (f := fun k => g k - f k) (fun k hk => by have := h k hk; omega) hk
  rw [sumN_sub, e] at h1
  have := h k hk
  omega
section
variable {n : Nat} {r : Nat → Nat → Int} {z : Int} {s : Nat}
/-- the two factors that bring them to one weight -/
theorem bys (h : Good n r z) (hs : s < n) (k : Nat) : ∃ a b g : Int, 0 < a ∧ 0 < b ∧ 0 < g ∧ a * g = sumN n (rst n r z) ∧ b * g = z ^ k ∧ (∀ x, brg n (wt n r s k) (rst n r z) x = wt n r s k x * a) ∧ (∀ x, brh n (wt n r s k) (rst n r z) x = rst n r z x * b) := by
  have pS := rst_sum_pos h
  have pZ := pw_pos h k
  have e := wt_sum h hs k
  refine ⟨sumN n (rst n r z) / gcdI (z ^ k) (sumN n (rst n r z)), z ^ k / gcdI (z ^ k) (sumN n (rst n r z)), gcdI (z ^ k) (sumN n (rst n r z)), ?_, ?_, gcdI_pos pS, Int.ediv_mul_cancel (Int.gcd_dvd_right _ _), Int.ediv_mul_cancel (Int.gcd_dvd_left _ _), fun x => ?_, fun x => ?_⟩
  · have h1 : 1 ≤ sumN n (rst n r z) / gcdI (z ^ k) (sumN n (rst n r z)) := (Int.le_ediv_iff_mul_le (gcdI_pos pS)).mpr (by rw [Int.one_mul]; exact gcdI_le pS)
    omega
  · have h1 : 1 ≤ z ^ k / gcdI (z ^ k) (sumN n (rst n r z)) := (Int.le_ediv_iff_mul_le (gcdI_pos pS)).mpr (by rw [Int.one_mul]; exact gcdI_leL pZ)
    omega
  · unfold brg
    rw [e]
  · unfold brh
    rw [e]
theorem tv_nn (h : Good n r z) (hs : s < n) (k : Nat) : 0 ≤ tvA n (wt n r s k) (rst n r z) ∧ tvA n (wt n r s k) (rst n r z) ≤ tvB n (wt n r s k) (rst n r z) := by
  obtain ⟨a, b, g, pa, pb, pg, ea, eb, e1, e2⟩ := bys h hs k
  unfold tvA tvB mor
  refine ⟨sumN_ge0 fun x hx => ?_, sumN_le fun x hx => ?_⟩
  · split <;> omega
  · rw [e1, e2]
    have h1 := Int.mul_nonneg (wt_nn h s k hx) (Int.le_of_lt pa)
    have h2 := Int.mul_pos (rst_pos h hx) pb
    split <;> omega
theorem tv_le (h : Good n r z) (hs : s < n) (k : Nat) : tvA n (wt n r s k) (rst n r z) * sepB n r z s k ≤ sepA n r z s k * tvB n (wt n r s k) (rst n r z) := by
  obtain ⟨a, b, g, pa, pb, pg, ea, eb, e1, e2⟩ := bys h hs k
  have hp := bar_lt h (wt n r s k)
  have hm := bar_min h (wt n r s k)
  have hn := sep_nn h hs k
  have pZ := pw_pos h k
  have eB : tvB n (wt n r s k) (rst n r z) = z ^ k * a := by
    unfold tvB
    rw [sumN_congr fun x _ => e1 x, sumN_mulR, wt_sum h hs k]
  rw [eB]
  unfold sepA sepB at *
  generalize barN (wt n r s k) (rst n r z) n = p at hp hm hn ⊢
  have pp := rst_pos h hp
  have key : tvA n (wt n r s k) (rst n r z) * rst n r z p ≤ (rst n r z p * z ^ k - wt n r s k p * sumN n (rst n r z)) * a := by
    unfold tvA mor
    rw [← sumN_mulR]
    have er : (rst n r z p * z ^ k - wt n r s k p * sumN n (rst n r z)) * a = sumN n fun x => (rst n r z p * wt n r s k x - wt n r s k p * rst n r z x) * a := by
      rw [sumN_mulR, sumN_sub, sumN_mul, sumN_mul, wt_sum h hs k]
    rw [er]
    refine sumN_le fun x hx => ?_
    rw [e1, e2]
    have m1 := hm x hx
    have m2 : 0 ≤ (rst n r z p * wt n r s k x - wt n r s k p * rst n r z x) * a := Int.mul_nonneg (by rw [Int.mul_comm (rst n r z p)]; omega) (Int.le_of_lt pa)
    have m3 : wt n r s k p * a ≤ rst n r z p * b := by
      refine cancel_le pg ?_
      rw [Int.mul_assoc, ea, Int.mul_assoc, eb]
      omega
    have m4 := mulR_le (Int.le_of_lt (rst_pos h hx)) m3
    split
    · have x1 : (wt n r s k x * a - rst n r z x * b) * rst n r z p = rst n r z p * wt n r s k x * a - rst n r z p * b * rst n r z x := by grind
      have x2 : (rst n r z p * wt n r s k x - wt n r s k p * rst n r z x) * a = rst n r z p * wt n r s k x * a - wt n r s k p * a * rst n r z x := by grind
      rw [x1, x2]
      omega
    · rw [Int.zero_mul]
      exact m2
  have key2 := mulR_le (Int.le_of_lt pZ) key
  generalize tvA n (wt n r s k) (rst n r z) = t at *
  generalize rst n r z p = c at *
  generalize z ^ k = Z at *
  generalize wt n r s k p * sumN n (rst n r z) = q at *
  have x1 : t * (c * Z) = t * c * Z := by ac_rfl
  have x2 : (c * Z - q) * (Z * a) = (c * Z - q) * a * Z := by ac_rfl
  rw [x1, x2]
  exact key2
theorem tv_zero (h : Good n r z) (hs : s < n) (k : Nat) : sepA n r z s k = 0 ↔ tvA n (wt n r s k) (rst n r z) = 0 := by
  have t0 := (tv_nn h hs k).1
  have tl := tv_le h hs k
  have pB := sepB_pos h s k
  constructor
  · intro e
    rw [e, Int.zero_mul] at tl
    by_cases c : tvA n (wt n r s k) (rst n r z) = 0
    · exact c
    · have := Int.mul_pos (by omega : 0 < tvA n (wt n r s k) (rst n r z)) pB
      omega
  · intro e
    obtain ⟨a, b, g, pa, pb, pg, ea, eb, e1, e2⟩ := bys h hs k
    have hp := bar_lt h (wt n r s k)
    unfold tvA mor at e
    have all0 := sumN_eq_of_le (n := n) (f := fun _ => 0) (g := fun x => if brg n (wt n r s k) (rst n r z) x - brh n (wt n r s k) (rst n r z) x > 0 then brg n (wt n r s k) (rst n r z) x - brh n (wt n r s k) (rst n r z) x else 0) (fun x hx => by split <;> omega) (by rw [sumN_const0]; exact e.symm)
    have le : ∀ x, x < n → wt n r s k x * a ≤ rst n r z x * b := fun x hx => by
      have h0 := all0 x hx
      rw [e1, e2] at h0
      by_cases c : wt n r s k x * a - rst n r z x * b > 0
      · rw [if_pos c] at h0
        omega
      · omega
    have eqs := sumN_eq_of_le le (by
      rw [sumN_mulR, sumN_mulR, wt_sum h hs k]
      refine cancel_eq pg ?_
      rw [Int.mul_assoc, ea, Int.mul_assoc, eb, Int.mul_comm])
    have ep := eqs _ hp
    unfold sepA
    generalize barN (wt n r s k) (rst n r z) n = p at hp ep ⊢
    have : wt n r s k p * sumN n (rst n r z) = rst n r z p * z ^ k := by
      rw [← ea, ← eb, ← Int.mul_assoc, ep, Int.mul_assoc]
    omega
end
end FW
set_option Elab.async false
set_option linter.all false
set_option autoImplicit false
set_option maxRecDepth 100000
set_option maxHeartbeats 1000000
/-! M6: plans. -/
namespace FW
section
variable {n : Nat} {r : Nat → Nat → Int} {z : Int} {s : Nat}
/-- the rows of the slow plan, of the fair plan -/
def slowC (n : Nat) (r : Nat → Nat → Int) (z : Int) (s : Nat) (p : Pn) : Nat → Int := slC n r (rst n r z) (fun x => scF p * unitN s x) (drawF p 3).2
def fairC (n : Nat) (r : Nat → Nat → Int) (z : Int) (s : Nat) : Nat → Int := fun t => fShare n r z s t - fAhead n r z s t
def gone (n : Nat) (z : Int) (row : Nat → Nat → Int) (t : Nat) : Int := gob z (fun t => sumN n (row t)) t + sumN n (row t)
/-- what stands under a plan whose rows are shares of the rest -/
theorem stand_eq (h : Good n r z) (sc : Int) (c : Nat → Int) : ∀ t y, y < n → stand n r (fun x => sc * unitN s x) (fun t y => c t * rst n r z y) t y = sc * wt n r s t y - gob z c t * rst n r z y
  | 0, y, hy => by
    show sc * unitN s y = sc * unitN s y - 0 * _
    rw [Int.zero_mul, Int.sub_zero]
  | t + 1, y, hy => by
    have e : ∀ x, x < n → (stand n r (fun x => sc * unitN s x) (fun t y => c t * rst n r z y) t x - c t * rst n r z x) * r x y = sc * (wt n r s t x * r x y) - (gob z c t + c t) * (rst n r z x * r x y) := fun x hx => by
      rw [stand_eq h sc c t x hx]
      generalize wt n r s t x = a
      generalize rst n r z x = b
      generalize gob z c t = g
      generalize r x y = d
      generalize c t = e
      grind
    show sumN n _ = _
    rw [sumN_congr e, sumN_sub, sumN_mul, sumN_mul, rst_stat h hy]
    show sc * wt n r s (t + 1) y - _ = sc * wt n r s (t + 1) y - (gob z c t + c t) * z * _
    rw [Int.mul_assoc]
theorem gob_mul (z : Int) (c : Nat → Int) (S : Int) : ∀ t, gob z (fun t => c t * S) t = gob z c t * S
  | 0 => by
    show (0 : Int) = 0 * S
    rw [Int.zero_mul]
  | t + 1 => by
    show (gob z (fun t => c t * S) t + c t * S) * z = (gob z c t + c t) * z * S
    rw [gob_mul z c S t]
    generalize gob z c t = g
    generalize c t = d
    grind
theorem gone_eq (c : Nat → Int) (π : Nat → Int) (t : Nat) : gone n z (fun t y => c t * π y) t = (gob z c t + c t) * sumN n π := by
  unfold gone
  have e : (fun t => sumN n (fun y => c t * π y)) = fun t => c t * sumN n π := funext fun t => sumN_mul _ _ _
  rw [e, gob_mul, sumN_mul, Int.add_mul]
/-- what has gone by a plan of shares that fits -/
theorem gone_fit (h : Good n r z) {sc : Int} {c : Nat → Int} {t : Nat} (hf : ∀ y, y < n → c t * rst n r z y ≤ stand n r (fun x => sc * unitN s x) (fun t y => c t * rst n r z y) t y) : ∀ y, y < n → (gob z c t + c t) * rst n r z y ≤ sc * wt n r s t y := fun y hy => by
  have h1 := hf y hy
  rw [stand_eq h sc c t y hy] at h1
  rw [Int.add_mul]
  omega
theorem gob_nn (h : Good n r z) {c : Nat → Int} (hc : ∀ t, 0 ≤ c t) : ∀ t, 0 ≤ gob z c t
  | 0 => Int.le_refl 0
  | t + 1 => Int.mul_nonneg (Int.add_nonneg (gob_nn h hc t) (hc t)) (Int.le_of_lt h.z0)
theorem gone_bnd (h : Good n r z) (hs : s < n) {sc G : Int} {t : Nat} (hf : ∀ y, y < n → G * rst n r z y ≤ sc * wt n r s t y) : G * sumN n (rst n r z) ≤ sc * z ^ t := by
  rw [← sumN_mul, ← wt_sum h hs t, ← sumN_mul]
  exact sumN_le hf
/-! ### the slow plan -/
theorem slow_stand (n : Nat) (r : Nat → Nat → Int) (π g0 : Nat → Int) (p : Pn) : ∀ t, stand n r g0 (fun t y => slC n r π g0 p t * π y) t = (slS n r π g0 p t).1
  | 0 => rfl
  | t + 1 => by
    show stp n r (fun y => stand n r g0 (fun t y => slC n r π g0 p t * π y) t y - slC n r π g0 p t * π y) = _
    rw [slow_stand n r π g0 p t]
    rfl
theorem slow_fit {p : Pn} (h : Good n r z) (hs : s < n) (hp : PnOk p) (t : Nat) : 0 ≤ slowC n r z s p t ∧ ∀ y, y < n → slowC n r z s p t * rst n r z y ≤ stand n r (fun x => scF p * unitN s x) (fun t y => slowC n r z s p t * rst n r z y) t y := by
  have h1 := slC_ok h (drawF_ok hp (m := 3) (by decide)).2.2 (fun y hy => rst_pos h hy) (g0 := fun x => scF p * unitN s x) (fun y _ => mul_unit_nn (by have := (scF_ok p).1; omega) s y) t
  refine ⟨h1.1, fun y hy => ?_⟩
  have e := slow_stand n r (rst n r z) (fun x => scF p * unitN s x) (drawF p 3).2 t
  show slC n r (rst n r z) (fun x => scF p * unitN s x) (drawF p 3).2 t * rst n r z y ≤ stand n r (fun x => scF p * unitN s x) (fun t y => slC n r (rst n r z) (fun x => scF p * unitN s x) (drawF p 3).2 t * rst n r z y) t y
  rw [e]
  exact h1.2 y hy
theorem slow_plan {p : Pn} (h : Good n r z) (hs : s < n) (hp : PnOk p) {m : Nat} (h1 : 1 ≤ m) (hm : m ≤ 90) : PlanOk n r s (scF p) m fun t y => slowC n r z s p t * rst n r z y :=
  ⟨(scF_ok p).1, lt_pow (ten_sz (scF_ok p).1 (scF_ok p).2) (by decide), h1, by omega, fun t y ht hy => ⟨Int.mul_nonneg (slow_fit h hs hp t).1 (Int.le_of_lt (rst_pos h hy)), (slow_fit h hs hp t).2 y hy⟩⟩
theorem slow_gone {p : Pn} (h : Good n r z) (hs : s < n) (hp : PnOk p) {t : Nat} (ht : t ≤ 80) : 0 ≤ gone n z (fun t y => slowC n r z s p t * rst n r z y) t ∧ gone n z (fun t y => slowC n r z s p t * rst n r z y) t ≤ scF p * z ^ t := by
  rw [gone_eq]
  refine ⟨Int.mul_nonneg (Int.add_nonneg (gob_nn h (fun t => (slow_fit h hs hp t).1) t) (slow_fit h hs hp t).1) (Int.le_of_lt (rst_sum_pos h)), ?_⟩
  exact gone_bnd h hs (gone_fit h (slow_fit h hs hp t).2)
/-! ### the fair plan -/
theorem lcm_dvd {p : Nat → Int} : ∀ k j, j < k → p j ∣ lcmN p k
  | k + 1, j, hj => by
    have d1 : lcmN p k ∣ lcmN p (k + 1) := by
      show lcmN p k ∣ lcmN p k * p k / (Int.gcd (lcmN p k) (p k) : Int)
      rw [Int.mul_ediv_assoc _ (Int.gcd_dvd_right _ _)]
      exact Int.dvd_mul_right _ _
    by_cases e : j = k
    · rw [e]
      show p k ∣ lcmN p k * p k / (Int.gcd (lcmN p k) (p k) : Int)
      rw [Int.mul_comm, Int.mul_ediv_assoc _ (Int.gcd_dvd_left _ _)]
      exact Int.dvd_mul_right _ _
    · exact Int.dvd_trans (lcm_dvd k j (by omega)) d1
theorem fW_eq (t : Nat) (y : Nat) : fW n r z s t y = fSc n r z * wt n r s t y := by
  unfold fW wt
  rw [itr_mul]
theorem share_eq (h : Good n r z) (t : Nat) : fShare n r z s t * rst n r z (barN (fW n r z s t) (rst n r z) n) = fW n r z s t (barN (fW n r z s t) (rst n r z) n) := by
  unfold fShare
  refine Int.ediv_mul_cancel ?_
  rw [fW_eq]
  exact Int.dvd_trans (lcm_dvd n _ (bar_lt h _)) (Int.dvd_mul_right _ _)
theorem share_min (h : Good n r z) (t : Nat) : ∀ y, y < n → fShare n r z s t * rst n r z y ≤ fW n r z s t y := fun y hy => by
  have h1 := bar_min h (fW n r z s t) y hy
  have h2 := rst_pos h (bar_lt h (fW n r z s t))
  rw [← share_eq h t] at h1
  refine cancel_le h2 ?_
  rw [Int.mul_right_comm]
  exact h1
theorem fair_gob (t : Nat) : gob z (fairC n r z s) t = fAhead n r z s t := by
  induction t with
  | zero => rfl
  | succ t ih =>
    show (gob z (fairC n r z s) t + (fShare n r z s t - fAhead n r z s t)) * z = fShare n r z s t * z
    rw [ih]
    congr 1
    omega
theorem fair_up (h : Good n r z) : ∀ t, fAhead n r z s t ≤ fShare n r z s t
  | 0 => fShare_nn h 0
  | t + 1 => by
    show fShare n r z s t * z ≤ fShare n r z s (t + 1)
    refine cancel_le (rst_pos h (bar_lt h (fW n r z s (t + 1)))) ?_
    rw [share_eq h (t + 1)]
    exact stat_le h (share_min h t) (bar_lt h _)
theorem fair_fit (h : Good n r z) (t : Nat) : 0 ≤ fairC n r z s t ∧ ∀ y, y < n → fairC n r z s t * rst n r z y ≤ stand n r (fun x => fSc n r z * unitN s x) (fun t y => fairC n r z s t * rst n r z y) t y := by
  refine ⟨Int.sub_nonneg_of_le (fair_up h t), fun y hy => ?_⟩
  rw [stand_eq h _ _ t y hy, fair_gob, ← fW_eq]
  have h1 := share_min h (s := s) t y hy
  show (fShare n r z s t - fAhead n r z s t) * _ ≤ _
  rw [Int.sub_mul]
  omega
theorem fair_plan_ok (h : Good n r z) (hs : s < n) {m : Nat} (h1 : 1 ≤ m) (hm : m ≤ 90) : PlanOk n r s (fSc n r z) m fun t y => fairC n r z s t * rst n r z y :=
  ⟨by have := fSc_pos h; omega, lt_pow (fSc_sz h) (by decide), h1, by omega, fun t y ht hy => ⟨Int.mul_nonneg (fair_fit h t).1 (Int.le_of_lt (rst_pos h hy)), (fair_fit h t).2 y hy⟩⟩
theorem fair_total (t : Nat) : gob z (fairC n r z s) t + fairC n r z s t = fShare n r z s t := by
  rw [fair_gob]
  unfold fairC
  omega
theorem fair_gone (h : Good n r z) (hs : s < n) {t : Nat} (ht : t ≤ 80) : 0 ≤ gone n z (fun t y => fairC n r z s t * rst n r z y) t ∧ gone n z (fun t y => fairC n r z s t * rst n r z y) t ≤ fSc n r z * z ^ t := by
  rw [gone_eq, fair_total]
  exact ⟨Int.mul_nonneg (fShare_nn h t) (Int.le_of_lt (rst_sum_pos h)), gone_bnd h hs fun y hy => by rw [← fW_eq]; exact share_min h t y hy⟩
theorem gone_le {p : Pn} (h : Good n r z) (hs : s < n) (hp : PnOk p) {t : Nat} (ht : t ≤ 80) : gone n z (fun t y => slowC n r z s p t * rst n r z y) t * (fSc n r z * z ^ t) ≤ gone n z (fun t y => fairC n r z s t * rst n r z y) t * (scF p * z ^ t) := by
  rw [gone_eq, gone_eq, fair_total]
  have hb := bar_lt h (fW n r z s t)
  have e1 := share_eq h (s := s) t
  have e2 := gone_fit h (slow_fit h hs hp t).2 _ hb
  rw [fW_eq] at e1
  have pb := rst_pos h hb
  have pF := fSc_pos h
  have pS := rst_sum_pos h
  have pZ := pw_pos h t
  generalize barN (fW n r z s t) (rst n r z) n = b at *
  generalize gob z (slowC n r z s p) t + slowC n r z s p t = G at *
  generalize fShare n r z s t = F at *
  generalize fSc n r z = c at *
  generalize scF p = d at *
  generalize sumN n (rst n r z) = S at *
  generalize z ^ t = Z at *
  generalize wt n r s t b = w at *
  generalize rst n r z b = q at *
  have k1 : G * c ≤ F * d := by
    refine cancel_le pb ?_
    have k2 := mulR_le (Int.le_of_lt pF) e2
    have x1 : G * c * q = G * q * c := by ac_rfl
    have x2 : F * d * q = F * q * d := by ac_rfl
    have x3 : d * w * c = c * w * d := by ac_rfl
    rw [x1, x2, e1]
    omega
  have k3 := mulR_le (Int.le_of_lt (Int.mul_pos pS pZ)) k1
  have x1 : G * S * (c * Z) = G * c * (S * Z) := by ac_rfl
  have x2 : F * S * (d * Z) = F * d * (S * Z) := by ac_rfl
  rw [x1, x2]
  exact k3
theorem gone_sep (h : Good n r z) (hs : s < n) {t : Nat} (ht : t ≤ 80) : gone n z (fun t y => fairC n r z s t * rst n r z y) t * sepB n r z s t + sepA n r z s t * (fSc n r z * z ^ t) = fSc n r z * z ^ t * sepB n r z s t := by
  rw [gone_eq, fair_total]
  unfold sepA sepB
  have hp := bar_lt h (fW n r z s t)
  have hq := bar_lt h (wt n r s t)
  have m1 := bar_min h (fW n r z s t) _ hq
  have m2 := bar_min h (wt n r s t) _ hp
  have e1 := share_eq h (s := s) t
  rw [fW_eq, fW_eq] at m1
  rw [fW_eq] at e1
  generalize barN (fW n r z s t) (rst n r z) n = p at *
  generalize barN (wt n r s t) (rst n r z) n = q at *
  have pp := rst_pos h hp
  have pq := rst_pos h hq
  have pF := fSc_pos h
  generalize fShare n r z s t = F at *
  generalize fSc n r z = c at *
  generalize sumN n (rst n r z) = S at *
  generalize z ^ t = Z at *
  generalize wt n r s t p = a at *
  generalize wt n r s t q = b at *
  generalize rst n r z p = u at *
  generalize rst n r z q = v at *
  have k : F * v = c * b := by
    refine cancel_eq pp ?_
    have m3 := mulR_le (Int.le_of_lt pF) m2
    have x1 : F * v * u = F * u * v := by ac_rfl
    have x2 : c * b * u = b * u * c := by ac_rfl
    have x3 : c * a * v = a * v * c := by ac_rfl
    rw [x1, e1]
    omega
  have : F * S * (v * Z) = c * b * (S * Z) := by
    rw [← k]
    ac_rfl
  grind
end
end FW
set_option Elab.async false
set_option linter.all false
set_option autoImplicit false
set_option maxRecDepth 100000
set_option maxHeartbeats 1000000
/-! M3: plain fractions. -/
namespace FW
/-! ### plain fractions -/
theorem plain_eq {a b : Int} (hb : 0 < b) : a / gcdI a b * gcdI a b = a ∧ b / gcdI a b * gcdI a b = b := ⟨Int.ediv_mul_cancel (Int.gcd_dvd_left a b), Int.ediv_mul_cancel (Int.gcd_dvd_right a b)⟩
theorem plain_pos {a b : Int} (hb : 0 < b) : 0 < b / gcdI a b := by
  have h1 := gcdI_pos (a := a) hb
  have h2 := gcdI_le (a := a) hb
  have h3 : 1 ≤ b / gcdI a b := (Int.le_ediv_iff_mul_le h1).mpr (by omega)
  omega
theorem plain_szA {a b : Int} {B : Nat} (hb : 0 < b) (h0 : 0 ≤ a) (ha : a.natAbs < 2 ^ B) : (a / gcdI a b).natAbs < 2 ^ B := le_bits (Int.ediv_nonneg h0 (Int.le_of_lt (gcdI_pos hb))) (Int.ediv_le_self _ h0) ha
theorem plain_szB {a b : Int} {B : Nat} (hb : 0 < b) (hz : b.natAbs < 2 ^ B) : (b / gcdI a b).natAbs < 2 ^ B := le_bits (Int.le_of_lt (plain_pos hb)) (Int.ediv_le_self _ (Int.le_of_lt hb)) hz
theorem plain_lt {a b c d : Int} (hb : 0 < b) (hd : 0 < d) (h : ¬ a * d < c * b) : ¬ a / gcdI a b * (d / gcdI c d) < c / gcdI c d * (b / gcdI a b) := by
  obtain ⟨e1, e2⟩ := plain_eq (a := a) hb
  obtain ⟨e3, e4⟩ := plain_eq (a := c) hd
  have g1 := gcdI_pos (a := a) hb
  have g2 := gcdI_pos (a := c) hd
  intro hlt
  refine h ?_
  have := Int.mul_lt_mul_of_pos_right hlt (Int.mul_pos g1 g2)
  have x1 : a / gcdI a b * (d / gcdI c d) * (gcdI a b * gcdI c d) = a * d := by
    rw [show a / gcdI a b * (d / gcdI c d) * (gcdI a b * gcdI c d) = (a / gcdI a b * gcdI a b) * (d / gcdI c d * gcdI c d) from by ac_rfl, e1, e4]
  have x2 : c / gcdI c d * (b / gcdI a b) * (gcdI a b * gcdI c d) = c * b := by
    rw [show c / gcdI c d * (b / gcdI a b) * (gcdI a b * gcdI c d) = (c / gcdI c d * gcdI c d) * (b / gcdI a b * gcdI a b) from by ac_rfl, e3, e2]
  rw [x1, x2] at this
  exact this
theorem plain_one {b : Int} (hb : 0 < b) : plainD b b = fr 1 1 := by
  have e : gcdI b b = b := by
    unfold gcdI
    rw [Int.gcd_self]
    omega
  unfold plainD
  rw [e, Int.ediv_self (by omega)]
theorem plain_zero {a b : Int} (hb : 0 < b) : eqvD (plainD a b) (fr 0 1) = decide (a = 0) := by
  obtain ⟨e1, e2⟩ := plain_eq (a := a) hb
  have g1 := gcdI_pos (a := a) hb
  unfold plainD
  show eqvD (.t [.i _, .i _]) (.t [.i 0, .i 1]) = _
  rw [eqvD_pair]
  by_cases h : a = 0
  · subst h
    have e : gcdI 0 b = b := by
      unfold gcdI
      rw [Int.gcd_zero_left]
      omega
    rw [e, Int.ediv_self (by omega), Int.zero_ediv]
    rfl
  · have : ¬ a / gcdI a b = 0 := fun z => h (by rw [← e1, z, Int.zero_mul])
    rw [decide_eq_false this, decide_eq_false h]
    rfl
theorem plain_sum {a b c d : Int} (hb : 0 < b) (hd : 0 < d) (h : a * d + c * b = b * d) : a / gcdI a b * (d / gcdI c d) + c / gcdI c d * (b / gcdI a b) = b / gcdI a b * (d / gcdI c d) := by
  obtain ⟨e1, e2⟩ := plain_eq (a := a) hb
  obtain ⟨e3, e4⟩ := plain_eq (a := c) hd
  have g1 := gcdI_pos (a := a) hb
  have g2 := gcdI_pos (a := c) hd
  refine Int.eq_of_mul_eq_mul_right (a := gcdI a b * gcdI c d) (Int.ne_of_gt (Int.mul_pos g1 g2)) ?_
  rw [Int.add_mul, show a / gcdI a b * (d / gcdI c d) * (gcdI a b * gcdI c d) = (a / gcdI a b * gcdI a b) * (d / gcdI c d * gcdI c d) from by ac_rfl,
    show c / gcdI c d * (b / gcdI a b) * (gcdI a b * gcdI c d) = (c / gcdI c d * gcdI c d) * (b / gcdI a b * gcdI a b) from by ac_rfl,
    show b / gcdI a b * (d / gcdI c d) * (gcdI a b * gcdI c d) = (b / gcdI a b * gcdI a b) * (d / gcdI c d * gcdI c d) from by ac_rfl, e1, e2, e3, e4, h]
end FW
set_option Elab.async false
set_option linter.all false
set_option autoImplicit false
set_option maxRecDepth 100000
set_option maxHeartbeats 1000000
/-! C12: list(zip(..)) of two tuples. -/
namespace FW
open PySem PySem.Spec PyProof.Rows L2 RZ
section
variable {prog : Program} {w : World} {A : Around} {E : Value → Shared → Prop} {s : Shared}
/-- the zip at z has handed out the tuple at T, that is still held -/
abbrev ZipQ (h : Heap) (z TI TO T : Addr) (q : Bool) : Prop :=
  h.get? z = some { cls := .type "zip", dict := none, data := .fields #[rawInt T, .bool q, .bool false, .ref TI, .ref TO], slots := #[] }
theorem zipQ_free {z TI TO T : Addr} {q : Bool} {oT : Obj} {Q : Bool → Shared → Prop} (hz : ZipQ s.heap z TI TO T q) (hT : s.heap.get? T = some oT) (hQ : ∀ h', ZipQ h' z TI TO T true → Heap.SameBut z s.heap h' → Q false { s with heap := h' }) :
    wpAny (model prog w) A (Builtin.SmallTypes.ownedTupleIsFree (.ref z)) Q E s := by
  unfold Builtin.SmallTypes.ownedTupleIsFree
  refine wpAny_bind (wpAny_field hz rfl (x := rawInt T) rfl ?_)
  show wpAny _ _ (loadIfAlive ((T : Int).toNat) >>= _) _ _ _
  rw [Int.toNat_natCast]
  refine wpAny_bind (PySem.W.kdx_alive hT ?_)
  simp only [Option.isNone_some, Bool.false_eq_true, if_false]
  refine wpAny_bind (wpAny_field hz rfl (x := .bool q) rfl ?_)
  cases q with
  | true =>
    show wpAny _ _ (pure false) _ _ _
    exact wpAny_pure (hQ s.heap hz (Heap.SameBut.refl _ _))
  | false =>
    show wpAny _ _ (setField (.ref z) 1 (.bool true) >>= _) _ _ _
    refine wpAny_bind (wpAny_setField_rec hz (by simp) fun h' hz' hs' => ?_)
    exact wpAny_pure (hQ h' (by simpa using hz') hs')
theorem zipH_item {z TI TO i1 i2 l1 l2 T : Addr} {q : Bool} {oT : Obj} {k1 k2 : Nat} {xs ys : Array Value} {x y : Value} {Q : Value → Shared → Prop} (D : ZipApart z TI TO i1 i2 l1 l2)
    (hz : ZipQ s.heap z TI TO T q) (hT : s.heap.get? T = some oT) (hTI : IsPair s.heap TI (.ref i1) (.ref i2))
    (h1 : s.heap.IsTupleIter i1 l1 k1) (h2 : s.heap.IsTupleIter i2 l2 k2) (hl1 : s.heap.IsTuple l1 xs) (hl2 : s.heap.IsTuple l2 ys) (hx : xs[k1]? = some x) (hy : ys[k2]? = some y)
    (hQ : ∀ h', ZipQ h' z TI TO T true → h'.IsTupleIter i1 l1 (k1 + 1) → h'.IsTupleIter i2 l2 (k2 + 1) → IsPair h' s.heap.objs.size x y → h'.objs.size = s.heap.objs.size + 1 →
      (∀ c o, c ≠ z → c ≠ i1 → c ≠ i2 → s.heap.get? c = some o → h'.get? c = some o) → Q (.ref s.heap.objs.size) { s with heap := h' }) :
    wpAny (model prog w) A (Builtin.«zip.__next__» ⟨[.ref z], []⟩) (fun fin s' => ∃ v, fin = .done (.ret v) ∧ Q v s') E s := by
  show wpAny _ _ (field (.ref z) 2 >>= _) _ _ _
  refine wpAny_bind (wpAny_field hz rfl (x := .bool false) rfl ?_)
  show wpAny _ _ (field (.ref z) 3 >>= _) _ _ _
  refine wpAny_bind (wpAny_field hz rfl (x := .ref TI) rfl ?_)
  refine wpAny_bind (wpAny_seqItems hTI rfl ?_)
  show wpAny _ _ (Builtin.SmallTypes.ownedTupleIsFree (.ref z) >>= _) _ _ _
  refine wpAny_bind (zipQ_free hz hT fun h₁ hz₁ hs₁ => ?_)
  simp only [Bool.false_eq_true, if_false]
  refine wpAny_bind ?_
  simp only [List.forIn_toArray, List.forIn_cons, List.forIn_nil]
  refine wpAny_bind (wpAny_bind (wpAny_holding ?_))
  show wpAny _ _ (Builtin.SmallTypes.nextOf (.ref i1) >>= _) _ _ _
  refine wpAny_bind (nextOf_tuple_item (h1.extBut hs₁.extBut D.i1z) (hl1.extBut hs₁.extBut D.l1z) hx fun h₂ h1₂ hs₂ => wpAny_pure (wpAny_pure ?_))
  refine wpAny_bind (wpAny_bind (wpAny_holding ?_))
  show wpAny _ _ (Builtin.SmallTypes.nextOf (.ref i2) >>= _) _ _ _
  refine wpAny_bind (nextOf_tuple_item ((h2.extBut hs₁.extBut D.i2z).extBut hs₂.extBut D.i12.symm) ((hl2.extBut hs₁.extBut D.l2z).extBut hs₂.extBut D.l2i1) hy fun h₃ h2₃ hs₃ => wpAny_pure (wpAny_pure (wpAny_pure ?_)))
  refine wpAny_bind (wpAny_newTuple ?_ (by show 2 ≤ sizeLine; decide))
  have hsz : h₃.objs.size = s.heap.objs.size := by rw [hs₃.1, hs₂.1, hs₁.1]
  have hk : ∀ c o, c ≠ z → c ≠ i1 → c ≠ i2 → s.heap.get? c = some o → h₃.get? c = some o := fun c o c1 c2 c3 e => hs₃.extBut _ _ c3 (hs₂.extBut _ _ c2 (hs₁.extBut _ _ c1 e))
  refine wpAny_pure ⟨_, rfl, ?_⟩
  show Q (.ref h₃.objs.size) _
  have hp : IsPair (h₃.push { cls := .type "tuple", data := .seq #[x, y] }) h₃.objs.size x y := Heap.get?_push_size _ rfl
  rw [hsz] at hp
  rw [hsz]
  refine hQ (h₃.push { cls := .type "tuple", data := .seq #[x, y] }) (Heap.get?_push_of_some _ (hs₃.extBut _ _ D.i2z.symm (hs₂.extBut _ _ D.i1z.symm hz₁))) ((h1₂.extBut hs₃.extBut D.i12).at fun o e => Heap.get?_push_of_some _ e) (h2₃.at fun o e => Heap.get?_push_of_some _ e) hp (by rw [Heap.size_push, hsz]) fun c o c1 c2 c3 e => Heap.get?_push_of_some _ (hk c o c1 c2 c3 e)
theorem zipH_end {z TI TO i1 i2 l1 l2 T : Addr} {q : Bool} {oT : Obj} {k1 : Nat} {xs : Array Value} {Q : PySem.Fin → Shared → Prop} (hh : A.handled = none) (D : ZipApart z TI TO i1 i2 l1 l2)
    (hz : ZipQ s.heap z TI TO T q) (hT : s.heap.get? T = some oT) (hTI : IsPair s.heap TI (.ref i1) (.ref i2))
    (h1 : s.heap.IsTupleIter i1 l1 k1) (hl1 : s.heap.IsTuple l1 xs) (hx : xs[k1]? = none)
    (hE : ∀ h' e, (∀ c o, c ≠ z → c ≠ i1 → s.heap.get? c = some o → h'.get? c = some o) → (∃ o, h'.get? e = some o ∧ o.cls = .type "StopIteration") → E (.ref e) { s with heap := h' }) :
    wpAny (model prog w) A (Builtin.«zip.__next__» ⟨[.ref z], []⟩) Q E s := by
  show wpAny _ _ (field (.ref z) 2 >>= _) _ _ _
  refine wpAny_bind (wpAny_field hz rfl (x := .bool false) rfl ?_)
  show wpAny _ _ (field (.ref z) 3 >>= _) _ _ _
  refine wpAny_bind (wpAny_field hz rfl (x := .ref TI) rfl ?_)
  refine wpAny_bind (wpAny_seqItems hTI rfl ?_)
  show wpAny _ _ (Builtin.SmallTypes.ownedTupleIsFree (.ref z) >>= _) _ _ _
  refine wpAny_bind (zipQ_free hz hT fun h₁ hz₁ hs₁ => ?_)
  simp only [Bool.false_eq_true, if_false]
  refine wpAny_bind ?_
  simp only [List.forIn_toArray, List.forIn_cons, List.forIn_nil]
  refine wpAny_bind (wpAny_bind (wpAny_holding ?_))
  show wpAny _ _ (Builtin.SmallTypes.nextOf (.ref i1) >>= _) _ _ _
  refine wpAny_bind (nextOf_tuple_end hh (h1.extBut hs₁.extBut D.i1z) (hl1.extBut hs₁.extBut D.l1z) hx fun h₂ e hs₂ he => ?_)
  exact hE h₂ e (fun c o c1 c2 x => hs₂ _ _ c2 (hs₁.extBut _ _ c1 x)) he
theorem nextH_item {z TI TO i1 i2 l1 l2 T : Addr} {q : Bool} {oT : Obj} {k1 k2 : Nat} {xs ys : Array Value} {x y : Value} {Q : Option Value → Shared → Prop} (D : ZipApart z TI TO i1 i2 l1 l2)
    (hz : ZipQ s.heap z TI TO T q) (hT : s.heap.get? T = some oT) (hTI : IsPair s.heap TI (.ref i1) (.ref i2))
    (h1 : s.heap.IsTupleIter i1 l1 k1) (h2 : s.heap.IsTupleIter i2 l2 k2) (hl1 : s.heap.IsTuple l1 xs) (hl2 : s.heap.IsTuple l2 ys) (hx : xs[k1]? = some x) (hy : ys[k2]? = some y)
    (hQ : ∀ h', ZipQ h' z TI TO T true → h'.IsTupleIter i1 l1 (k1 + 1) → h'.IsTupleIter i2 l2 (k2 + 1) → IsPair h' s.heap.objs.size x y → h'.objs.size = s.heap.objs.size + 1 →
      (∀ c o, c ≠ z → c ≠ i1 → c ≠ i2 → s.heap.get? c = some o → h'.get? c = some o) → Q (some (.ref s.heap.objs.size)) { s with heap := h' }) :
    wpAny (model prog w) A (pyNext (.ref z)) Q E s := by
  have hty : s.TypeIs (.ref z) "zip" := ⟨_, hz, rfl⟩
  unfold pyNext
  exact wpAny_bind (wpAny_attempt (wpAny_callSpecial?_slot (name := Str.ofString "__next__") hty PySem.F.slot_zip_next
    (wpAny_call_entry PySem.F.slot_zip_next hty PySem.F.entry_zip_next
      (zipH_item D hz hT hTI h1 h2 hl1 hl2 hx hy fun h' a1 a2 a3 a4 a5 a6 => wpAny_pure (hQ h' a1 a2 a3 a4 a5 a6)) (PySem.F.args_zip_next_1 _))))
theorem nextH_end {z TI TO i1 i2 l1 l2 T : Addr} {q : Bool} {oT : Obj} {k1 : Nat} {xs : Array Value} {Q : Option Value → Shared → Prop} (hh : A.handled = none) (D : ZipApart z TI TO i1 i2 l1 l2)
    (hz : ZipQ s.heap z TI TO T q) (hT : s.heap.get? T = some oT) (hTI : IsPair s.heap TI (.ref i1) (.ref i2))
    (h1 : s.heap.IsTupleIter i1 l1 k1) (hl1 : s.heap.IsTuple l1 xs) (hx : xs[k1]? = none)
    (hQ : ∀ h', (∀ c o, c ≠ z → c ≠ i1 → s.heap.get? c = some o → h'.get? c = some o) → Q none { s with heap := h' }) : wpAny (model prog w) A (pyNext (.ref z)) Q E s := by
  have hty : s.TypeIs (.ref z) "zip" := ⟨_, hz, rfl⟩
  unfold pyNext
  refine wpAny_bind (wpAny_attempt (wpAny_callSpecial?_slot (name := Str.ofString "__next__") hty PySem.F.slot_zip_next
    (wpAny_call_entry PySem.F.slot_zip_next hty PySem.F.entry_zip_next (zipH_end hh D hz hT hTI h1 hl1 hx fun h' e hk he => ?_) (PySem.F.args_zip_next_1 _))))
  obtain ⟨o, ho, hc⟩ := he
  refine wpAny_bind (wpAny_isInstance (T := "StopIteration") (b := true) ⟨o, ho, hc⟩ isSubtype_stop ?_)
  exact wpAny_pure (hQ _ hk)
end
/-- a zip of the tuples at l1, l2 behind i turns; what it gave is held; the list S grows beside it -/
structure ZSt (h : Heap) (z TI TO i1 i2 l1 l2 S : Addr) (xs ys : Array Value) (i : Nat) : Prop where
  zip : (i = 0 ∧ IsZip h z TI TO .none ∧ ∃ a b, IsPair h TO a b) ∨ ∃ T q oT, ZipQ h z TI TO T q ∧ h.get? T = some oT ∧ T ≠ z ∧ T ≠ i1 ∧ T ≠ i2 ∧ T ≠ S
  ti : IsPair h TI (.ref i1) (.ref i2)
  t1 : h.IsTupleIter i1 l1 i
  t2 : h.IsTupleIter i2 l2 i
  a1 : h.IsTuple l1 xs
  a2 : h.IsTuple l2 ys
/-- all of it stands below S -/
structure ZLow (z TI TO i1 i2 l1 l2 S : Addr) : Prop where
  D : ZipApart z TI TO i1 i2 l1 l2
  z : z < S
  TI : TI < S
  TO : TO < S
  i1 : i1 < S
  i2 : i2 < S
  l1 : l1 < S
  l2 : l2 < S
section
variable {prog : Program} {w : World} {A : Around} {E : Value → Shared → Prop} {s : Shared} {z TI TO i1 i2 l1 l2 S : Addr} {xs ys : Array Value} {i : Nat}
theorem ZSt.beside {h h' : Heap} (L : ZLow z TI TO i1 i2 l1 l2 S) (x : ZSt h z TI TO i1 i2 l1 l2 S xs ys i) (k : ∀ b o, b ≠ S → h.get? b = some o → h'.get? b = some o) : ZSt h' z TI TO i1 i2 l1 l2 S xs ys i where
  zip := by
    rcases x.zip with ⟨e, hz, a, b, ho⟩ | ⟨T, q, oT, hz, hT, n1, n2, n3, n4⟩
    · exact .inl ⟨e, k _ _ (Nat.ne_of_lt L.z) hz, a, b, k _ _ (Nat.ne_of_lt L.TO) ho⟩
    · exact .inr ⟨T, q, oT, k _ _ (Nat.ne_of_lt L.z) hz, k _ _ n4 hT, n1, n2, n3, n4⟩
  ti := k _ _ (Nat.ne_of_lt L.TI) x.ti
  t1 := x.t1.at fun o e => k _ o (Nat.ne_of_lt L.i1) e
  t2 := x.t2.at fun o e => k _ o (Nat.ne_of_lt L.i2) e
  a1 := by
    obtain ⟨o, ho, r⟩ := x.a1
    exact ⟨o, k _ _ (Nat.ne_of_lt L.l1) ho, r⟩
  a2 := by
    obtain ⟨o, ho, r⟩ := x.a2
    exact ⟨o, k _ _ (Nat.ne_of_lt L.l2) ho, r⟩
theorem ZSt.step {x y : Value} {Q : Option Value → Shared → Prop} (L : ZLow z TI TO i1 i2 l1 l2 S) (st : ZSt s.heap z TI TO i1 i2 l1 l2 S xs ys i) (hS : S < s.heap.objs.size) (hx : xs[i]? = some x) (hy : ys[i]? = some y)
    (hQ : ∀ h', ZSt h' z TI TO i1 i2 l1 l2 S xs ys (i + 1) → IsPair h' s.heap.objs.size x y → h'.objs.size = s.heap.objs.size + 1 → (∀ c o, c ≠ z → c ≠ TO → c ≠ i1 → c ≠ i2 → s.heap.get? c = some o → h'.get? c = some o) → Q (some (.ref s.heap.objs.size)) { s with heap := h' }) :
    wpAny (model prog w) A (pyNext (.ref z)) Q E s := by
  have nS : ∀ {c : Addr}, c < S → s.heap.objs.size ≠ c := fun h => Nat.ne_of_gt (Nat.lt_trans h hS)
  have D := L.D
  have keepT : ∀ {l : Addr} {us : Array Value} {h' : Heap}, l ≠ z → l ≠ TO → l ≠ i1 → l ≠ i2 → (∀ c o, c ≠ z → c ≠ TO → c ≠ i1 → c ≠ i2 → s.heap.get? c = some o → h'.get? c = some o) → s.heap.IsTuple l us → h'.IsTuple l us := fun n1 n2 n3 n4 k x => by
    obtain ⟨o, ho, r⟩ := x
    exact ⟨o, k _ _ n1 n2 n3 n4 ho, r⟩
  rcases st.zip with ⟨rfl, hz, a, b, ho⟩ | ⟨T, q, oT, hz, hT, n1, n2, n3, n4⟩
  · refine pyNext_zipT_item D hz st.ti ho st.t1 st.t2 st.a1 st.a2 hx hy fun h' z' TO' h1' h2' hp hsz hk => ?_
    exact hQ h' ⟨.inr ⟨s.heap.objs.size, false, _, z', hp, nS L.z, nS L.i1, nS L.i2, Nat.ne_of_gt hS⟩, hk _ _ D.TIz D.TITO D.TIi1 D.TIi2 st.ti, h1', h2', keepT D.l1z D.l1TO D.l1i1 D.l1i2 hk st.a1, keepT D.l2z D.l2TO D.l2i1 D.l2i2 hk st.a2⟩ hp hsz hk
  · refine nextH_item D hz hT st.ti st.t1 st.t2 st.a1 st.a2 hx hy fun h' z' h1' h2' hp hsz hk => ?_
    have hk' : ∀ c o, c ≠ z → c ≠ TO → c ≠ i1 → c ≠ i2 → s.heap.get? c = some o → h'.get? c = some o := fun c o c1 _ c3 c4 e => hk c o c1 c3 c4 e
    exact hQ h' ⟨.inr ⟨T, true, oT, z', hk _ _ n1 n2 n3 hT, n1, n2, n3, n4⟩, hk _ _ D.TIz D.TIi1 D.TIi2 st.ti, h1', h2', keepT D.l1z D.l1TO D.l1i1 D.l1i2 hk' st.a1, keepT D.l2z D.l2TO D.l2i1 D.l2i2 hk' st.a2⟩ hp hsz hk'
theorem ZSt.stop {Q : Option Value → Shared → Prop} (hh : A.handled = none) (L : ZLow z TI TO i1 i2 l1 l2 S) (st : ZSt s.heap z TI TO i1 i2 l1 l2 S xs ys i) (h0 : i ≠ 0) (hx : xs[i]? = none)
    (hQ : ∀ h', (∀ c o, c ≠ z → c ≠ i1 → s.heap.get? c = some o → h'.get? c = some o) → Q none { s with heap := h' }) : wpAny (model prog w) A (pyNext (.ref z)) Q E s := by
  rcases st.zip with ⟨e, _⟩ | ⟨T, q, oT, hz, hT, _, _, _, _⟩
  · exact absurd e h0
  · exact nextH_end hh L.D hz hT st.ti st.t1 st.a1 hx hQ
/-- the pairs that were made -/
structure ZMade (xs ys : Array Value) (S : Addr) (h : Heap) (as : List Addr) : Prop where
  rise : as.Pairwise (· < ·)
  above : ∀ a ∈ as, S < a
  pairs : ∀ (j : Nat) (a : Addr), as[j]? = some a → ∃ x y, xs[j]? = some x ∧ ys[j]? = some y ∧ IsPair h a x y
theorem ZMade.there {h : Heap} {as : List Addr} (g : ZMade xs ys S h as) {a : Addr} (ha : a ∈ as) : a < h.objs.size := by
  obtain ⟨j, hj⟩ := List.mem_iff_getElem?.mp ha
  obtain ⟨_, _, _, _, e⟩ := g.pairs j a hj
  exact Heap.lt_size e
theorem zip_loop {R : Result → Shared → Prop} (hh : A.handled = none) (L : ZLow z TI TO i1 i2 l1 l2 S) {n : Nat} (hx : xs.size = n) (hy : ys.size = n) (h0 : n ≠ 0) (hn : n ≤ sizeLine) (res : Value) {h₀ : Heap}
    (hR : ∀ h' tk acc c as, (∀ b o, b ≠ S → b ≠ z → b ≠ TO → b ≠ i1 → b ≠ i2 → h₀.get? b = some o → h'.get? b = some o) → h'.get? S = some { cls := .type "list", dict := none, data := .seq acc c, slots := #[] } → as.length = n → ZMade xs ys S h' as →
      acc.toList = as.map Value.ref → R (.ok (.ret res)) { s with heap := h', toks := tk }) :
    ∀ (k i : Nat) (h : Heap) (tk c : Nat) (acc : Array Value) (as : List Addr), n - i = k → i ≤ n → ZSt h z TI TO i1 i2 l1 l2 S xs ys i → (∀ b o, b ≠ S → b ≠ z → b ≠ TO → b ≠ i1 → b ≠ i2 → h₀.get? b = some o → h.get? b = some o) →
      h.get? S = some { cls := .type "list", dict := none, data := .seq acc c, slots := #[] } → acc.toList = as.map Value.ref → as.length = i → ZMade xs ys S h as →
      codeAny (model prog w) A (.builtin "list.extend.loop" ⟨[.ref S, .ref z, res], []⟩) R { s with heap := h, toks := tk } := by
  have up2 : ∀ {as : List Addr} {h h' : Heap}, (∀ c o, c ≠ z → c ≠ TO → c ≠ i1 → c ≠ i2 → h.get? c = some o → h'.get? c = some o) → ∀ a, S < a → ∀ x y, IsPair h a x y → IsPair h' a x y := fun k a ha x y e =>
    k _ _ (Nat.ne_of_gt (Nat.lt_trans L.z ha)) (Nat.ne_of_gt (Nat.lt_trans L.TO ha)) (Nat.ne_of_gt (Nat.lt_trans L.i1 ha)) (Nat.ne_of_gt (Nat.lt_trans L.i2 ha)) e
  intro k
  induction k with
  | zero =>
    intro i h tk c acc as hk hi hst hkeep hS hacc hal hG
    have ei : i = n := by omega
    refine codeAny_builtin PySem.F.entry_extend_loop ?_
    rw [Around.under_plainId PySem.F.plain_extend_loop _]
    show wpAny _ A.in1 (pyNext (.ref z) >>= _) _ _ _
    refine wpAny_bind (ZSt.stop (s := { s with heap := h, toks := tk }) (A := A.in1) hh L hst (by omega) (Array.getElem?_eq_none (by omega)) fun h' he => ?_)
    refine wpAny_pure (hR h' tk acc c as (fun b o g1 g2 g3 g4 g5 e => he b o g2 g4 (hkeep b o g1 g2 g3 g4 g5 e)) (he S _ (Nat.ne_of_gt L.z) (Nat.ne_of_gt L.i1) hS) (by omega) ⟨hG.rise, hG.above, fun j a hj => ?_⟩ hacc)
    obtain ⟨x, y, e1, e2, e3⟩ := hG.pairs j a hj
    have ha := hG.above a (List.mem_of_getElem? hj)
    exact ⟨x, y, e1, e2, he _ _ (Nat.ne_of_gt (Nat.lt_trans L.z ha)) (Nat.ne_of_gt (Nat.lt_trans L.i1 ha)) e3⟩
  | succ k ih =>
    intro i h tk c acc as hk hi hst hkeep hS hacc hal hG
    have hlt : i < n := by omega
    have hsz : acc.size = i := by rw [← Array.length_toList, hacc, List.length_map, hal]
    have hSl : S < h.objs.size := Heap.lt_size hS
    refine codeAny_builtin PySem.F.entry_extend_loop ?_
    rw [Around.under_plainId PySem.F.plain_extend_loop _]
    show wpAny _ A.in1 (pyNext (.ref z) >>= _) _ _ _
    refine wpAny_bind (ZSt.step (s := { s with heap := h, toks := tk }) (x := xs[i]'(by omega)) (y := ys[i]'(by omega)) L hst hSl (Array.getElem?_eq_getElem _) (Array.getElem?_eq_getElem _) fun h' hst' hp hz hkp => ?_)
    dsimp only at hp hz hkp ⊢
    have hS' := hkp S _ (Nat.ne_of_gt L.z) (Nat.ne_of_gt L.TO) (Nat.ne_of_gt L.i1) (Nat.ne_of_gt L.i2) hS
    have up : ∀ b o, b ≠ S → h'.get? b = some o → (h'.update S (Obj.mapSeq (·.push (Value.ref h.objs.size)))).get? b = some o := fun b o hb e => (Heap.get?_update_other _ _ (Ne.symm hb)).trans e
    show wpAny _ A.in1 (updateSeq S (·.push (Value.ref h.objs.size)) >>= _) _ _ _
    refine wpAny_bind ?_
    refine wpAny_updateSeq hS' rfl (wpAny_pure ⟨plainId_quiet PySem.F.plain_extend_loop _, ih (i + 1) _ tk _ (acc.push (Value.ref h.objs.size)) (as ++ [h.objs.size]) (by omega) hlt (hst'.beside L up)
      (fun b o g1 g2 g3 g4 g5 e => up b o g1 (hkp b o g2 g3 g4 g5 (hkeep b o g1 g2 g3 g4 g5 e))) (Heap.get?_update_self _ hS' rfl) (by rw [Array.toList_push, hacc, List.map_append]; rfl) (by rw [List.length_append, hal]; rfl) ⟨?_, ?_, ?_⟩⟩) (by rw [hsz]; omega) (by show (acc.push (Value.ref h.objs.size)).size ≤ sizeLine + 1; rw [Array.size_push, hsz]; omega)
    · refine List.pairwise_append.mpr ⟨hG.rise, List.pairwise_singleton _ _, fun a ha b hb => ?_⟩
      rw [List.mem_singleton.mp hb]
      exact hG.there ha
    · intro a ha
      rcases List.mem_append.mp ha with ha | ha
      · exact hG.above a ha
      · rw [List.mem_singleton.mp ha]
        exact hSl
    · intro j b hj
      rcases Nat.lt_trichotomy j as.length with g | g | g
      · rw [List.getElem?_append_left g] at hj
        obtain ⟨x, y, e1, e2, e3⟩ := hG.pairs j b hj
        have hb := hG.above b (List.mem_of_getElem? hj)
        exact ⟨x, y, e1, e2, up _ _ (Nat.ne_of_gt hb) (up2 (as := as) hkp b hb x y e3)⟩
      · subst g
        have hb : h.objs.size = b := by simpa using hj
        subst hb
        exact ⟨xs[i]'(by omega), ys[i]'(by omega), by rw [hal]; exact Array.getElem?_eq_getElem _, by rw [hal]; exact Array.getElem?_eq_getElem _, up _ _ (Nat.ne_of_gt hSl) hp⟩
      · have hnone : (as ++ [h.objs.size])[j]? = none := List.getElem?_eq_none (by rw [List.length_append, List.length_singleton]; omega)
        rw [hnone] at hj
        cases hj
theorem zip_len_none : typeLookup (.type "zip") "__len__" = pure none := am_miss_of_fast (by first | decide +kernel | rfl)
theorem zip_hint_none : typeLookup (.type "zip") "__length_hint__" = pure none := am_miss_of_fast (by first | decide +kernel | rfl)
theorem zip_hint {Q : Bool → Shared → Prop} (hT : s.TypeIs (.ref z) "zip") (h : Q true s) : wpAny (model prog w) A (Builtin.List.listLengthHint (.ref z)) Q E s := by
  unfold Builtin.List.listLengthHint
  refine wpAny_bind (wpAny_specialOf hT zip_len_none ?_)
  wp_delta
  refine wpAny_ite_split (fun hab => absurd hab (by decide)) (fun _ => ?_)
  refine wpAny_ite_split (fun hab => absurd hab (by decide)) (fun _ => ?_)
  refine wpAny_bind (wpAny_specialOf hT zip_hint_none ?_)
  exact wpAny_pure h
theorem zip_ext {R : Result → Shared → Prop} (hh : A.handled = none) (L : ZLow z TI TO i1 i2 l1 l2 S) {n : Nat} (hx : xs.size = n) (hy : ys.size = n) (h0 : n ≠ 0) (hn : n ≤ sizeLine) (res : Value) (c₀ : Nat) (hS : s.heap.get? S = some { cls := .type "list", data := .seq #[] c₀ })
    (hz : IsZip s.heap z TI TO .none) (st : ZSt s.heap z TI TO i1 i2 l1 l2 S xs ys 0)
    (hR : ∀ h' tk acc c as, (∀ b o, b ≠ S → b ≠ z → b ≠ TO → b ≠ i1 → b ≠ i2 → s.heap.get? b = some o → h'.get? b = some o) → h'.get? S = some { cls := .type "list", dict := none, data := .seq acc c, slots := #[] } → as.length = n → ZMade xs ys S h' as →
      acc.toList = as.map Value.ref → R (.ok (.ret res)) { s with heap := h', toks := tk }) :
    wpAny (model prog w) A.in1 (Builtin.List.listExtendWith (.ref S) (.ref z) res)
      (fun fin s' => match fin with | .done f => R (.ok f) s' | .again c' => c'.quiet = true ∧ codeAny (model prog w) A c' R s') (fun e s' => R (.error e) s') s := by
  have hty : s.TypeIs (.ref z) "zip" := ⟨_, hz, rfl⟩
  unfold Builtin.List.listExtendWith
  refine wpAny_bind (wpAny_typeOf (T := "zip") hty ?_)
  have g1 : Builtin.List.listSameRef (.ref S) (.ref z) = false := by simp [Builtin.List.listSameRef, Nat.ne_of_gt L.z]
  have g2 : (Value.type "zip" == Value.type "list") = false := by decide
  have g3 : (Value.type "zip" == Value.type "tuple") = false := by decide
  simp only [g1, g2, g3, Bool.or_false, Bool.false_eq_true, if_false]
  refine wpAny_bind (wpAny_pyIter_zip hz ?_)
  have key : ∀ (h : Heap) (c₁ : Nat), (∀ b o, b ≠ S → s.heap.get? b = some o → h.get? b = some o) → h.get? S = some { cls := .type "list", data := .seq #[] c₁ } → codeAny (model prog w) A (.builtin "list.extend.loop" ⟨[.ref S, .ref z, res], []⟩) R { s with heap := h } := fun h c₁ hk hS₁ =>
    zip_loop (s := s) (h₀ := s.heap) hh L hx hy h0 hn res hR n 0 h s.toks c₁ #[] [] (Nat.sub_zero _) (Nat.zero_le _) (st.beside L hk) (fun b o g1 _ _ _ _ e => hk b o g1 e) hS₁ rfl rfl ⟨List.Pairwise.nil, (fun _ ha => nomatch ha), (fun j a hj => by simp at hj)⟩
  refine wpAny_bind (wpAny_holding (zip_hint hty ?_))
  refine wpAny_ite_split (fun _ => ?_) (fun hab => absurd rfl hab)
  refine wpAny_bind (wpAny_rule ?_)
  refine wpAny_bind ?_
  show wpAny _ _ (updateSeq S (·.push .none) >>= fun _ => updateSeq S (·.pop)) _ _ _
  refine wpAny_bind (wpAny_updateSeq hS rfl ?_)
  have hS₂ := Heap.get?_update_self (Obj.mapSeq (·.push Value.none)) hS rfl
  refine wpAny_updateSeq (hz := by seq_fits) hS₂ rfl ?_
  have hS₃ := Heap.get?_update_self (Obj.mapSeq (·.pop)) hS₂ rfl
  refine wpAny_pure ⟨plainId_quiet PySem.F.plain_extend_loop _, key _ _ (fun b o hb e => ?_) hS₃⟩
  exact (Heap.get?_update_other _ _ (Ne.symm hb)).trans ((Heap.get?_update_other _ _ (Ne.symm hb)).trans e)
/-- list(z) -/
theorem zip_list {Q : Value → Shared → Prop} (hh : A.handled = none) (D : ZipApart z TI TO i1 i2 l1 l2) {n : Nat} (hx : xs.size = n) (hy : ys.size = n) (h0 : n ≠ 0) (hn : n ≤ sizeLine)
    (hz : IsZip s.heap z TI TO .none) (hTI : IsPair s.heap TI (.ref i1) (.ref i2)) (hTO : ∃ a b, IsPair s.heap TO a b) (h1 : s.heap.IsTupleIter i1 l1 0) (h2 : s.heap.IsTupleIter i2 l2 0) (a1 : s.heap.IsTuple l1 xs) (a2 : s.heap.IsTuple l2 ys)
    (hQ : ∀ h' tk acc c as, (∀ b o, b ≠ z → b ≠ TO → b ≠ i1 → b ≠ i2 → s.heap.get? b = some o → h'.get? b = some o) → h'.get? s.heap.objs.size = some { cls := .type "list", dict := none, data := .seq acc c, slots := #[] } → as.length = n → ZMade xs ys s.heap.objs.size h' as →
      acc.toList = as.map Value.ref → Q (.ref s.heap.objs.size) { s with heap := h', toks := tk }) :
    wpAny (model prog w) A (call (.type "list") [.ref z]) Q E s := by
  refine callType_codes (Q₁ := fun obj s₁ => obj = .ref s.heap.objs.size ∧ s₁ = { s with heap := s.heap.push { cls := .type "list", data := .seq #[] } }) PySem.F.called_list (PySem.F.typeCall_list_1 _) PySem.F.entry_list_init
    (code_list_new _ ⟨rfl, rfl⟩) fun obj s₁ h₁ => ?_
  obtain ⟨rfl, rfl⟩ := h₁
  have hS : (s.heap.push { cls := .type "list", data := .seq #[] }).get? s.heap.objs.size = some { cls := .type "list", data := .seq #[] } := Heap.get?_push_size _ rfl
  obtain ⟨ta, tb, hTO⟩ := hTO
  have L : ZLow z TI TO i1 i2 l1 l2 s.heap.objs.size := by
    obtain ⟨o1, e1, _⟩ := h1
    obtain ⟨o2, e2, _⟩ := h2
    obtain ⟨o3, e3, _⟩ := a1
    obtain ⟨o4, e4, _⟩ := a2
    exact ⟨D, Heap.lt_size hz, Heap.lt_size hTI, Heap.lt_size hTO, Heap.lt_size e1, Heap.lt_size e2, Heap.lt_size e3, Heap.lt_size e4⟩
  have st : ZSt s.heap z TI TO i1 i2 l1 l2 s.heap.objs.size xs ys 0 := ⟨.inl ⟨rfl, hz, ta, tb, hTO⟩, hTI, h1, h2, a1, a2⟩
  refine ⟨⟨_, hS, rfl⟩, PySem.F.args_list_init_2 _ _, ?_⟩
  show wpAny _ _ (do let old ← Builtin.List.listItems (.ref s.heap.objs.size); Builtin.List.listUpdate (.ref s.heap.objs.size) (fun _ => #[]); letGo old.toList.reverse; Builtin.List.listExtendWith (.ref s.heap.objs.size) (.ref z) .none) _ _ _
  refine wpAny_bind ?_
  unfold Builtin.List.listItems
  refine wpAny_bind (wpAny_seqItems hS rfl (wpAny_pure ?_))
  show wpAny _ _ (updateSeq s.heap.objs.size (fun _ => #[]) >>= fun _ => letGo (#[] : Array Value).toList.reverse >>= fun _ => Builtin.List.listExtendWith (.ref s.heap.objs.size) (.ref z) .none) _ _ _
  refine wpAny_bind (wpAny_updateSeq hS rfl ?_)
  have hS₂ := Heap.get?_update_self (Obj.mapSeq (fun _ => (#[] : Array Value))) hS rfl
  have oth : ∀ b o, b ≠ s.heap.objs.size → s.heap.get? b = some o → ((s.heap.push { cls := .type "list", data := .seq #[] }).update s.heap.objs.size (Obj.mapSeq (fun _ => (#[] : Array Value)))).get? b = some o :=
    fun b o hb e => (Heap.get?_update_other _ _ (Ne.symm hb)).trans (Heap.get?_push_of_some _ e)
  refine wpAny_bind (wpAny_letGo ?_)
  refine zip_ext (A := A.in1) hh L hx hy h0 hn .none _ hS₂ (oth _ _ (Nat.ne_of_lt L.z) hz) (st.beside L oth) fun h' tk acc' c' as hk hS' hl hG hacc => ?_
  exact ⟨rfl, hQ h' tk acc' c' as (fun b o g1 g2 g3 g4 e => hk b o (Nat.ne_of_lt (Heap.lt_size e)) g1 g2 g3 g4 (oth b o (Nat.ne_of_lt (Heap.lt_size e)) e)) hS' hl hG hacc⟩
end
end FW
set_option Elab.async false
set_option linter.all false
set_option autoImplicit false
set_option maxRecDepth 100000
set_option maxHeartbeats 1000000
/-! C13: list(zip(..)) over data. -/
namespace FW
open PySem PySem.Spec PyProof.Rows L2 RZ
/-- what list(zip(t, u)) needs and gives -/
def tLZ (K : PySem.W.Frag) (ta : TA) : TE := fun σ H Q => ta σ H fun vs H1 => ∃ a b xs ys, vs = [.ref a, .ref b] ∧ SqT K H1 a xs ∧ SqT K H1 b ys ∧ xs.length = ys.length ∧ 0 < xs.length ∧ xs.length ≤ sizeLine ∧
  ∀ (H2 : Hp) (l : Addr) (as : List Addr), (∀ c o, H1 c = some o → H2 c = some o) → H1 l = none → (∀ c ∈ as, H1 c = none) → as.length = xs.length → H2 l = some (.lst (as.map V.ref)) →
    (∀ (j : Nat) (c : Addr), as[j]? = some c → ∃ x y, xs[j]? = some x ∧ ys[j]? = some y ∧ H2 c = some (.tup [x, y])) → Q (.ref l) H2
theorem pe_lz {X : Cx} {e e2 : Expr} {ta : TA} {p p2 pos pos2 : Pos} (hc : X.calm = true) (hg : Gl X "list") (hm : X.mg "list" = none) (hg2 : Gl X "zip") (hm2 : X.mg "zip" = none) (ha : PA X [e, e2] ta)
    (hs : starEach [e, e2] X.env = (false, eval e X.env) :: starEach [e2] X.env := by rfl) (hpl : (backTo pos2 (starEach [e2] X.env)).any (·.1) = false := by rfl)
    (na : starEach [.Call (.Name "zip" p2) [e, e2] [] pos2] X.env = (false, eval (.Call (.Name "zip" p2) [e, e2] [] pos2) X.env) :: starEach [] X.env := by rfl) :
    PE X (.Call (.Name "list" p) [.Call (.Name "zip" p2) [e, e2] [] pos2] [] pos) (tLZ X.K ta) := by
  refine ⟨fun pins s σ H Q I h => ?_⟩
  refine Call_ (ld_blt I hg hm boot_list (PyProof.Rows.callWith_type1 (args_cons (?_ : wpAny _ _ (eval (.Call (.Name "zip" p2) [e, e2] [] pos2) X.env) _ _ _) na) na))
  refine Call_ (ld_blt I hg2 hm2 PyProof.Rows.boot_zip (PyProof.Rows.callWith_type1 (thn (ha.run pos2 pins s σ H _ I h) fun us s1 ⟨vs, H1, I1, r1, q1⟩ => ?_) hs hpl))
  obtain ⟨a, b, xs, ys, ex, hqx, hqy, hl, h0, hz0, q⟩ := q1
  subst ex
  cases r1 with
  | cons r rr =>
    cases rr with
    | cons r' rr =>
      cases rr
      cases r
      cases r'
      obtain ⟨its, rv, p1, _⟩ := I1.tuple hqx
      obtain ⟨its2, rv2, p3, _⟩ := I1.tuple hqy
      obtain ⟨o1, ho1, _⟩ := id p1
      obtain ⟨o2, ho2, _⟩ := id p3
      refine call_zipT (show s1.heap.IsTuple a its.toArray from p1) (show s1.heap.IsTuple b its2.toArray from p3) fun h' hz hTI hTO h1 h2 hsz hk => args_nil ?_
      have I2 : Inv X pins σ H1 { s1 with heap := h' } := I1.kept (t' := s1.toks) hk
      have lx : its.toArray.size = xs.length := by rw [List.size_toArray]; exact rv.length.symm
      have ly : its2.toArray.size = xs.length := by rw [List.size_toArray, hl]; exact rv2.length.symm
      have t1 : h'.IsTuple a its.toArray := by
        obtain ⟨o, e1, e2⟩ := p1
        exact ⟨o, hk _ _ e1, e2⟩
      have t2 : h'.IsTuple b its2.toArray := by
        obtain ⟨o, e1, e2⟩ := p3
        exact ⟨o, hk _ _ e1, e2⟩
      refine zip_list (s := { s1 with heap := h' }) (I1.ok.hd hc) (PySem.W.ktu_apart s1.heap.objs.size a b (Heap.lt_size ho1) (Heap.lt_size ho2)) lx ly (by omega) hz0 hz hTI ⟨_, _, hTO⟩ h1 h2 t1 t2 fun h'' tk acc c as hk2 hS hlen hG hacc => ?_
      have I3 : Inv X pins σ H1 { s1 with heap := h'', toks := tk } := Inv.turnedL (s := { s1 with heap := h' }) (t' := tk) (h' := h'') (ch := [s1.heap.objs.size + 4, s1.heap.objs.size + 3, s1.heap.objs.size, s1.heap.objs.size + 1]) I2 (fun c o hb e => hk2 c o (fun z => hb (by simp [z])) (fun z => hb (by simp [z])) (fun z => hb (by simp [z])) (fun z => hb (by simp [z])) e) (fun c hcm => by
        have e' : c = s1.heap.objs.size + 4 ∨ c = s1.heap.objs.size + 3 ∨ c = s1.heap.objs.size ∨ c = s1.heap.objs.size + 1 := by simpa using hcm
        have hle : s1.heap.objs.size ≤ c := by
          rcases e' with z | z | z | z
          · rw [z]; exact Nat.le_add_right _ _
          · rw [z]; exact Nat.le_add_right _ _
          · rw [z]; exact Nat.le_refl _
          · rw [z]; exact Nat.le_add_right _ _
        exact I1.fpOk hle (I1.hok.fresh hle))
      have hle0 : s1.heap.objs.size ≤ h'.objs.size := by rw [hsz]; omega
      have fl : H1 h'.objs.size = none := I1.hok.fresh hle0
      have fa : ∀ c ∈ as, s1.heap.objs.size ≤ c ∧ H1 c = none := fun c hcm => by
        have := hG.above c hcm
        have hle : s1.heap.objs.size ≤ c := Nat.le_trans hle0 (Nat.le_of_lt this)
        exact ⟨hle, I1.hok.fresh hle⟩
      have hlen2 : (as.map V.ref).length ≤ sizeLine := by rw [List.length_map, hlen]; exact hz0
      have vr : Vals (as.map V.ref) acc.toList := by rw [hacc]; exact vals_refs as
      have I4 : Inv X pins σ (upd H1 h'.objs.size (.lst (as.map V.ref))) { s1 with heap := h'', toks := tk } :=
        I3.take (h' := h'') (t' := tk) (fun b ob _ e => e) (I1.fpOk hle0 fl) ⟨hlen2, acc.toList, c, vr, by rw [Array.toArray_toList]; exact hS⟩
      obtain ⟨H2, I5, g, qt⟩ := L2.DX.takeT (P := fun c vs => ∃ (j : Nat) (x y : V), as[j]? = some c ∧ xs[j]? = some x ∧ ys[j]? = some y ∧ vs = [x, y]) I1 as _ I4 (List.Pairwise.imp (fun h => Nat.ne_of_lt h) hG.rise) fun c hcm => by
        obtain ⟨f1, f2⟩ := fa c hcm
        obtain ⟨j, hj⟩ := List.mem_iff_getElem?.mp hcm
        obtain ⟨x, y, e1, e2, e3⟩ := hG.pairs j c hj
        have hne : c ≠ h'.objs.size := Nat.ne_of_gt (hG.above c hcm)
        obtain ⟨vx, hvx, rx⟩ : ∃ vx, xs[j]? = some vx ∧ RelV vx x := by
          have e1' : its[j]? = some x := by simpa using e1
          exact L2.DX.pget rv e1'
        obtain ⟨vy, hvy, ry⟩ : ∃ vy, ys[j]? = some vy ∧ RelV vy y := by
          have e2' : its2[j]? = some y := by simpa using e2
          exact L2.DX.pget rv2 e2'
        exact ⟨f1, by rw [upd_ne hne]; exact f2, [vx, vy], ⟨j, vx, vy, hj, hvx, hvy, rfl⟩, fun H3 => ⟨by show 2 ≤ sizeLine; decide, [x, y], .cons rx (.cons ry .nil), ⟨_, e3, rfl, 0, rfl⟩⟩⟩
      refine ⟨.ref h'.objs.size, H2, I5, rfl, q H2 h'.objs.size as (fun c o e => g c o (by rw [upd_ne (ne_of_none e fl)]; exact e)) fl (fun c hcm => (fa c hcm).2) hlen (g _ _ upd_same) fun j c hj => ?_⟩
      obtain ⟨vs, ⟨i, x, y, hi, hx, hy, ev⟩, hH⟩ := qt c (List.mem_of_getElem? hj)
      have eij : j = i := (List.getElem?_inj (List.getElem?_eq_some_iff.mp hj).1 (List.Pairwise.imp (fun h => Nat.ne_of_lt h) hG.rise)).mp (hj.trans hi.symm)
      rw [eij]
      rw [ev] at hH
      exact ⟨x, y, hx, hy, hH⟩
section
variable {X : Cx} {C : Addr} {δ : Env} {ω ω1 ω2 : Om} {a b : Expr} {pos p p2 pos2 : Pos}
/-- list(zip(t, u)) -/
theorem pd_lz {n : Nat} {g f : Nat → D} (hc : X.calm = true) (hg : Gl X "list") (hm : X.mg "list" = none) (hg2 : Gl X "zip") (hm2 : X.mg "zip" = none) (ha : PD X C a δ ω (.t (gen n g)) ω1) (hb : PD X C b δ ω1 (.t (gen n f)) ω2) (h0 : 0 < n) (hz : n ≤ 1000)
    (hs : starEach [a, b] X.env = (false, eval a X.env) :: starEach [b] X.env := by rfl) (hs2 : starEach [b] X.env = (false, eval b X.env) :: starEach [] X.env := by rfl) (hpl : (backTo pos2 (starEach [b] X.env)).any (·.1) = false := by rfl)
    (na : starEach [.Call (.Name "zip" p2) [a, b] [] pos2] X.env = (false, eval (.Call (.Name "zip" p2) [a, b] [] pos2) X.env) :: starEach [] X.env := by rfl) :
    PD X C (.Call (.Name "list" p) [.Call (.Name "zip" p2) [a, b] [] pos2] [] pos) δ ω (.l (gen n fun i => .t [g i, f i])) ω2 := by
  intro σ Hk H w er Q k
  refine wE_of (pe_lz hc hg hm hg2 hm2 pa_w hs hpl na) ?_
  refine pda_cons ha (pda_cons hb pda_nil hs2) hs σ Hk H w er _ fun vs Hk1 H1 s1 w1 r1 => ?_
  cases r1 with
  | cons r1 rr =>
    cases rr with
    | cons r2 rr =>
      cases rr
      obtain ⟨q1, us1, rfl, hq1, hr1⟩ := r1.t_inv
      obtain ⟨q2, us2, rfl, hq2, hr2⟩ := r2.t_inv
      have l1 := hr1.len
      have l2 := hr2.len
      rw [gen_len] at l1 l2
      refine ⟨q1, q2, us1, us2, rfl, Same.seqT w1.same hq1, Same.seqT w1.same hq2, by rw [l1, l2], by rw [l1]; exact h0, by rw [l1]; exact Nat.le_trans hz (by decide), fun H2 l as g1 g2 g3 g4 g5 g6 => ?_⟩
      rw [l1] at g4
      -- what is new is known from now on
      let Hk2 : Hp := fun c => if H1 c = none then H2 c else Hk1 c
      have s2 : Same Hk1 Hk2 := fun c o e => by
        show (if H1 c = none then H2 c else Hk1 c) = some o
        rw [if_neg (fun z => by rw [w1.same c o e] at z; cases z)]
        exact e
      have w2 : Wf X.K C Hk2 H2 ω2 := by
        refine ⟨fun c o e => ?_, fun c o e => ?_⟩
        · have e' : (if H1 c = none then H2 c else Hk1 c) = some o := e
          by_cases hn : H1 c = none
          · rw [if_pos hn] at e'
            exact e'
          · rw [if_neg hn] at e'
            exact g1 c o (w1.same c o e')
        · obtain ⟨k1, ho, k2, k3⟩ := w1.own c o e
          refine ⟨?_, ho, g1 c ho k2, k3.mono s2⟩
          show (if H1 c = none then H2 c else Hk1 c) = none
          rw [if_neg (fun z => by rw [k2] at z; cases z)]
          exact k1
      have kl : Hk2 l = some (.lst (as.map V.ref)) := by
        show (if H1 l = none then H2 l else Hk1 l) = _
        rw [if_pos g2]
        exact g5
      refine k _ Hk2 H2 (s1.trans s2) w2 (.lst (SqL.of kl) ?_)
      have rep : ∀ (m : Nat), m ≤ n → RepL X.K C Hk2 ((as.take m).map V.ref) (gen m fun i => .t [g i, f i]) := by
        intro m
        induction m with
        | zero =>
          intro _
          exact .nil
        | succ m ih =>
          intro hm
          have hma : m < as.length := by omega
          rw [List.take_succ, List.getElem?_eq_getElem hma, List.map_append, gen_succ]
          refine (ih (by omega)).app (.one ?_)
          obtain ⟨x, y, e1, e2, e3⟩ := g6 m _ (List.getElem?_eq_getElem hma)
          obtain ⟨vx, f1, f2⟩ := hr1.get (gen_get (g := g) (by omega : m < n))
          obtain ⟨vy, f3, f4⟩ := hr2.get (gen_get (g := f) (by omega : m < n))
          have ex : x = vx := Option.some.inj (e1.symm.trans f1)
          have ey : y = vy := Option.some.inj (e2.symm.trans f3)
          subst ex
          subst ey
          have ka : Hk2 as[m] = some (.tup [x, y]) := by
            show (if H1 as[m] = none then H2 as[m] else Hk1 as[m]) = _
            rw [if_pos (g3 _ (List.getElem_mem hma))]
            exact e3
          exact .tup (SqT.of ka) (.cons (f2.mono s2) (.one (f4.mono s2)))
      have := rep n (Nat.le_refl n)
      rw [List.take_of_length_le (by omega)] at this
      exact this
end
end FW
set_option Elab.async false
set_option linter.all false
set_option autoImplicit false
set_option maxRecDepth 100000
set_option maxHeartbeats 1000000
/-! F17: the law at one start. -/
namespace FW
open PySem PySem.Spec PyProof.Rows L2
section
variable {P : Program} {w : World} {K : PySem.W.Frag} {mg : Str → Option Value} {base : Heap} {f : Addr} {fd : FuncData} {C : Addr}
/-- all that the law calls -/
structure Lib (P : Program) (w : World) (K : PySem.W.Frag) (mg : Str → Option Value) (base : Heap) (C : Addr) : Prop where
  plain : Ok P w K mg base C "plain" 4 ["fraction"] S_plain
  added : Ok P w K mg base C "added" 4 ["one", "other"] S_added
  is_less : Ok P w K mg base C "is_less" 4 ["one", "other"] S_is_less
  after : OkM P w K mg base C "after" 5 ["self", "lot", "steps"] 1 S_Wafter
  sep : OkK P w K mg base C "separation" 7 ["walk", "start", "steps"] 2 S_separation
  is_plan : Ok P w K mg base C "is_plan" 7 ["walk", "start", "thing"] S_is_plan
  is_fair : Ok P w K mg base C "is_fair" 7 ["walk", "start", "thing"] S_is_fair
  stopped : Ok P w K mg base C "stopped" 7 ["walk", "start", "plan"] S_stopped
  fair : OkK P w K mg base C "fair_plan" 7 ["walk", "start", "steps"] 2 S_fair_plan
  apart : Ok P w K mg base C "apart" 6 ["one", "other"] S_apart
  start : Ok P w K mg base C "_law_start" 1 ["_law_rows_here", "_law_place"] S_start
  slow : Ok P w K mg base C "_law_slow_fair" 3 ["_law_pen", "_law_rows_here", "_law_rest", "_law_start_here", "_law_many"] S_slow
def ahA (n : Nat) (r : Nat → Nat → Int) (z : Int) (s : Nat) : Nat → Int
  | 0 => 1
  | k + 1 => sepA n r z s k
def ahB (n : Nat) (r : Nat → Nat → Int) (z : Int) (s : Nat) : Nat → Int
  | 0 => 1
  | k + 1 => sepB n r z s k
section
variable {n : Nat} {r : Nat → Nat → Int} {z : Int} {s : Nat}
theorem ah_ok (h : Good n r z) (hs : s < n) : ∀ k, k ≤ 100 → 0 ≤ ahA n r z s k ∧ 0 < ahB n r z s k ∧ (ahA n r z s k).natAbs < 2 ^ 1900 ∧ (ahB n r z s k).natAbs < 2 ^ 1900 ∧ ¬ ahA n r z s k * sepB n r z s k < sepA n r z s k * ahB n r z s k
  | 0, _ => by
    have := sep_le h hs 0
    refine ⟨by show (0 : Int) ≤ 1; decide, by show (0 : Int) < 1; decide, Nat.lt_of_lt_of_le (by decide : 1 < 2 ^ 1) (pow_le2 (by decide)), Nat.lt_of_lt_of_le (by decide : 1 < 2 ^ 1) (pow_le2 (by decide)), ?_⟩
    show ¬ 1 * _ < _ * 1
    omega
  | k + 1, hk => by
    have h1 := sep_nn h hs k
    have h2 := sepB_pos h s k
    have h3 := sepB_sz h s (k := k) (by omega)
    have h4 := sep_fall h hs k
    exact ⟨h1, h2, lt_pow (le_bits h1 (sep_le h hs k) h3) (by decide), lt_pow h3 (by decide), Int.not_lt.mpr h4⟩
theorem sepA_sz (h : Good n r z) (hs : s < n) {k : Nat} (hk : k ≤ 100) : (sepA n r z s k).natAbs < 2 ^ 1900 := lt_pow (le_bits (sep_nn h hs k) (sep_le h hs k) (sepB_sz h s hk)) (by decide)
theorem tvA_sz (h : Good n r z) (hs : s < n) {k : Nat} (hk : k ≤ 100) : (tvA n (wt n r s k) (rst n r z)).natAbs < 2 ^ 1900 := by
  obtain ⟨h1, h2⟩ := tv_nn h hs k
  exact lt_pow (le_bits h1 h2 (tvB_sz (two_ok h hs hk))) (by decide)
end
theorem lv_fr (a b : Int) : Lv 1 (fr a b) := fun x hx => by
  rcases List.mem_cons.mp hx with e | hx
  · rw [e]
    exact True.intro
  · rw [List.mem_singleton.mp hx]
    exact True.intro
def S_start_right : FSp := fun ds ω d ω' => ∃ (a : Addr) (p : Pn) (n : Nat) (r : Nat → Nat → Int) (z : Int) (s : Nat), PnOk p ∧ Good n r z ∧ s < n ∧ ds = [.adr a, .w (matD n r) z, vecD n (rst n r z), .i (s : Int)] ∧ ω a = some (.lst (penD p)) ∧ d = .b true ∧ ω' = updO ω a (.lst (penD (slS n r (rst n r z) (fun x => scF p * unitN s x) (drawF p 3).2 7).2))
theorem ok_start_right (F : FnP K "_law_start_right" s__law_start_right f fd) (T : Tx K mg C) (Lb : Lib P w K mg base C) : FnOk P w K mg base CX0 8 f fd ["_law_pen", "_law_walk", "_law_rest", "_law_start_here"] (spF K C S_start_right) := by
  refine fnD F sc__law_start_right (fun ds ω d ω' h => ?_) (fun X ds ω d ω' hX hr h => ?_)
  · obtain ⟨a, p, n, r, z, s, _, _, _, rfl, _⟩ := h
    rfl
  · obtain ⟨cdv, A, outer, st, H, E, rfl⟩ := hX
    obtain ⟨a, p, n, r, z, s, hp, hg, hs, rfl, ha, rfl, rfl⟩ := h
    have nd := sc__law_start_right.nd
    have h5 := hg.n5
    have hπ : ∀ y, y < n → 0 < rst n r z y := fun y hy => rst_pos hg hy
    let ah : Nat → D := fun k => plainD (ahA n r z s k) (ahB n r z s k)
    let sD : Nat → D := fun k => plainD (sepA n r z s k) (sepB n r z s k)
    refine psd_cons (ps1_par 4 5 rfl nd rfl rfl (by decide) rfl rfl (pdax_cons (pd_rows (v_ 1 rfl) T.cl T.nR) (pdax_cons (d := ah 0) (PD.cast (pd_tup (pda_cons pd_int (pda_cons pd_int pda_nil)) (by show 2 ≤ 1000; decide)) (plain_one (b := 1) (by decide)).symm) (pdax_nil ⟨_, _, rfl, ?_⟩))) rfl)
    let Bs : Option D → Option D → Option D → Option D → Option D → Env := fun y5 y6 y7 y8 y9 => [some (.adr a), some (.w (matD n r) z), some (vecD n (rst n r z)), some (.i (s : Int)), some (matD n r), y5, y6, y7, y8, y9, none, none, none, none, none, none]
    refine psd_cons (ps1_for1 6 (fun k δ ω2 => ω2 = ω ∧ ∃ y6 y7 y8 y9, δ = Bs (some (ah k)) y6 y7 y8 y9) nd rfl (.inl rfl) PassesOwn.never (q_range (N := 7) T pd_int (by omega)) ⟨rfl, none, none, none, none, rfl⟩ ?_ ?_)
    · rintro k hk δ ω2 ⟨rfl, y6, y7, y8, y9, rfl⟩
      have hk' : k ≤ 100 := by omega
      obtain ⟨a1, a2, a3, a4, a5⟩ := ah_ok hg hs k hk'
      have b1 := sep_nn hg hs k
      have b2 := sepB_pos hg s k
      have b3 := sepA_sz hg hs hk'
      have b4 : (sepB n r z s k).natAbs < 2 ^ 1900 := lt_pow (sepB_sz hg s hk') (by decide)
      have two := two_ok hg hs hk'
      have c1 := (tv_nn hg hs k).1
      have c2 := tvB_pos two
      have c3 := tvA_sz hg hs hk'
      have c4 : (tvB n (wt n r s k) (rst n r z)).natAbs < 2 ^ 1900 := lt_pow (tvB_sz two) (by decide)
      have c5 : ¬ sepA n r z s k * tvB n (wt n r s k) (rst n r z) < tvA n (wt n r s k) (rst n r z) * sepB n r z s k := Int.not_lt.mpr (tv_le hg hs k)
      have c6 := tv_zero hg hs k
      have us := sumN_unit hs
      refine psd_cons (ps1_set 7 nd rfl (.inl rfl) (q_kw Lb.sep hr (by decide) (pda_cons (v_ 1 rfl) (pda_cons (v_ 3 rfl) pda_nil)) (v_ 6 rfl) ⟨rfl, n, r, z, s, k, hg, hs, hk', rfl, rfl⟩ rfl) ?_)
      refine psd_cons (ps1_set (d := vecD n (wt n r s k)) 8 nd rfl (.inl rfl) (q_mkw T.cl rfl Lb.after hr (by decide) (v_ 1 rfl) (pda_cons (pd_ok Lb.start hr (by decide) (pda_cons (v_ 4 rfl) (pda_cons (v_ 3 rfl) pda_nil)) ⟨rfl, n, fun x => vecD n (r x), s, by omega, rfl, rfl⟩) pda_nil) (v_ 6 rfl) ⟨rfl, n, r, z, unitN s, k, hg.n1, by omega, fun x y hx hy => ⟨hg.nn x y hx hy, hg.sz hx hy⟩, fun x _ => unit_nn s x, by rw [us]; decide, hk', rfl, rfl⟩ rfl) ?_)
      refine psd_cons (ps1_set 9 nd rfl (.inl rfl) (pd_ok Lb.apart hr (by decide) (pda_cons (v_ 8 rfl) (pda_cons (v_ 2 rfl) pda_nil)) ⟨rfl, n, _, _, two, rfl, rfl⟩) ?_)
      refine psd_cons (ps1_ifF (PDW.pt (pdw_orF (pdt_val (PD.cast (pd_ok Lb.is_less hr (by decide) (pda_cons (v_ 5 rfl) (pda_cons (v_ 7 rfl) pda_nil)) ⟨rfl, _, _, _, _, plain_pos a2, plain_pos b2, ⟨lt_pow (plain_szA a2 a1 a3) (by decide), lt_pow (plain_szB a2 a4) (by decide), lt_pow (plain_szA b2 b1 b3) (by decide), lt_pow (plain_szB b2 b4) (by decide)⟩, rfl, rfl⟩) (congrArg D.b (decide_eq_false (plain_lt a2 b2 a5)))))
        (pdw_orF (pdt_val (PD.cast (pd_ok Lb.is_less hr (by decide) (pda_cons (v_ 7 rfl) (pda_cons (v_ 9 rfl) pda_nil)) ⟨rfl, _, _, _, _, plain_pos b2, plain_pos c2, ⟨lt_pow (plain_szA b2 b1 b3) (by decide), lt_pow (plain_szB b2 b4) (by decide), lt_pow (plain_szA c2 c1 c3) (by decide), lt_pow (plain_szB c2 c4) (by decide)⟩, rfl, rfl⟩) (congrArg D.b (decide_eq_false (plain_lt b2 c2 c5)))))
        (pdw_or1 (PDT.cast (pdt_neB (pd_eqD (k1 := 1) (k2 := 1) hr.units (v_ 7 rfl) (pd_tup (pda_cons pd_int (pda_cons pd_int pda_nil)) (by show 2 ≤ 1000; decide)) (lv_fr _ _) (lv_fr 0 1)) (pd_eqD (k1 := 1) (k2 := 1) hr.units (v_ 9 rfl) (pd_tup (pda_cons pd_int (pda_cons pd_int pda_nil)) (by show 2 ≤ 1000; decide)) (lv_fr _ _) (lv_fr 0 1))) ?_))))) ?_)
      · have e1 := plain_zero (a := sepA n r z s k) b2
        have e2 := plain_zero (a := tvA n (wt n r s k) (rst n r z)) c2
        show (!decide (eqvD (plainD _ _) (fr 0 1) = eqvD (plainD _ _) (fr 0 1))) = false
        rw [e1, e2]
        by_cases e : sepA n r z s k = 0
        · rw [decide_eq_true e, decide_eq_true (c6.mp e)]
          rfl
        · rw [decide_eq_false e, decide_eq_false (fun q => e (c6.mpr q))]
          rfl
      exact psd_one (ps1_set 5 nd rfl (.inl rfl) (v_ 7 rfl) ⟨rfl, some (.i (k : Int)), some (sD k), _, _, rfl⟩)
    · rintro δ ω2 ⟨rfl, y6, y7, y8, y9, rfl⟩
      let cS := slowC n r z s p
      let cF := fairC n r z s
      let rS : Nat → Nat → Int := fun t y => cS t * rst n r z y
      let rF : Nat → Nat → Int := fun t y => cF t * rst n r z y
      let ω3 : Om := updO ω2 a (.lst (penD (slS n r (rst n r z) (fun x => scF p * unitN s x) (drawF p 3).2 7).2))
      have oS := slow_plan hg hs hp (m := 7) (by decide) (by decide)
      have oF := fair_plan_ok hg hs (m := 7) (by decide) (by decide)
      have oF4 := fair_plan_ok hg hs (m := 4) (by decide) (by decide)
      refine psd_cons (ps1_par 10 11 rfl nd rfl rfl (by decide) rfl rfl (pdax_cons (ω1 := ω3) (pd_ok Lb.slow hr (by decide) (pda_cons (v_ 0 rfl) (pda_cons (v_ 4 rfl) (pda_cons (v_ 2 rfl) (pda_cons (v_ 3 rfl) (pda_cons pd_int pda_nil))))) ⟨a, p, n, r, z, rst n r z, s, 7, hp, hg, hπ, rst_sz hg, hs, by decide, rfl, ha, rfl, rfl⟩) (pdax_cons (q_kw Lb.fair hr (by decide) (pda_cons (v_ 1 rfl) (pda_cons (v_ 3 rfl) pda_nil)) pd_int ⟨rfl, n, r, z, s, 6, hg, hs, by decide, rfl, rfl⟩ rfl) (pdax_nil ⟨_, _, rfl, ?_⟩))) rfl)
      refine psd_cons (ps1_ifF (PDW.pt (pdw_orF (PDT.cast (pdt_isntB (pd_ok Lb.is_fair hr (by decide) (pda_cons (v_ 1 rfl) (pda_cons (v_ 3 rfl) (pda_cons (v_ 10 rfl) pda_nil))) ⟨rfl, n, r, z, s, scF p, 7, cS, hg, hs, oS, ?_, rfl, rfl⟩) pd_bl) (by rfl)) (pdw_or1 (PDT.cast (pdt_isntB (pd_ok Lb.is_plan hr (by decide) (pda_cons (v_ 1 rfl) (pda_cons (v_ 3 rfl) (pda_cons (v_ 11 rfl) pda_nil))) ⟨rfl, n, r, z, s, fSc n r z, 7, rF, hg, hs, oF, rfl, rfl⟩) pd_bl) (by rfl))))) ?_)
      · exact fun t ht y hy => lt20 (wide_lt (a := 421) (b := 50) (slC_sz hg (drawF_ok hp (by decide)).2.2 hπ (fun y _ => mul_unit_nn (by have := (scF_ok p).1; omega) s y) (by rw [sumN_mul, sumN_unit hs, Int.mul_one]; exact ten_sz (scF_ok p).1 (scF_ok p).2) (by omega)) (rst_sz hg y hy)) (by decide)
      refine psd_cons (ps1_ifF (PDT.cast (pdt_isntB (pd_ok Lb.is_fair hr (by decide) (pda_cons (v_ 1 rfl) (pda_cons (v_ 3 rfl) (pda_cons (v_ 11 rfl) pda_nil))) ⟨rfl, n, r, z, s, fSc n r z, 7, cF, hg, hs, oF, ?_, rfl, rfl⟩) pd_bl) (by rfl)) ?_)
      · exact fun t ht y hy => lt20 (wide_lt (a := 656) (b := 50) (sub_sz (fShare_nn hg t) (fAhead_nn hg t) (lt_pow (fShare_sz hg hs (by omega)) (by decide)) (fAhead_sz hg hs (by omega))) (rst_sz hg y hy)) (by decide)
      have tS : ∀ t, t ≤ 7 → (scF p * z ^ t).natAbs < 2 ^ 900 := fun t ht => lt_pow (wide_lt (a := 20) (b := 401) (ten_sz (scF_ok p).1 (scF_ok p).2) (pw_sz' hg (by omega))) (by decide)
      have tF : ∀ t, t ≤ 7 → (fSc n r z * z ^ t).natAbs < 2 ^ 900 := fun t ht => lt_pow (wide_lt (a := 251) (b := 401) (fSc_sz hg) (pw_sz' hg (by omega))) (by decide)
      have nS : ∀ t, t < 7 → 0 ≤ gone n z rS t := fun t ht => (slow_gone hg hs hp (by omega)).1
      have nF : ∀ t, t < 7 → 0 ≤ gone n z rF t := fun t ht => (fair_gone hg hs (by omega)).1
      have gS : ∀ t, t < 7 → (gone n z rS t).natAbs < 2 ^ 900 := fun t ht => le_bits (nS t ht) (slow_gone hg hs hp (by omega)).2 (tS t (by omega))
      have gF : ∀ t, t < 7 → (gone n z rF t).natAbs < 2 ^ 900 := fun t ht => le_bits (nF t ht) (fair_gone hg hs (by omega)).2 (tF t (by omega))
      let A : Nat → D := fun t => plainD (gone n z rS t) (scF p * z ^ t)
      let B : Nat → D := fun t => plainD (gone n z rF t) (fSc n r z * z ^ t)
      refine psd_cons (ps1_set (d := .l (gen 7 fun t => .t [A t, B t])) 12 nd rfl (.inl rfl) (pd_lz rfl rfl T.lst rfl T.zip (pd_ok Lb.stopped hr (by decide) (pda_cons (v_ 1 rfl) (pda_cons (v_ 3 rfl) (pda_cons (v_ 10 rfl) pda_nil))) ⟨rfl, n, r, z, s, scF p, 7, rS, hg, hs, oS, fun t ht => lt_pow (gS t ht) (by decide), fun t ht => lt_pow (tS t ht) (by decide), rfl, rfl⟩) (pd_ok Lb.stopped hr (by decide) (pda_cons (v_ 1 rfl) (pda_cons (v_ 3 rfl) (pda_cons (v_ 11 rfl) pda_nil))) ⟨rfl, n, r, z, s, fSc n r z, 7, rF, hg, hs, oF, fun t ht => lt_pow (gF t ht) (by decide), fun t ht => lt_pow (tF t ht) (by decide), rfl, rfl⟩) (by decide) (by decide)) ?_)
      let Cs : Option D → Option D → Option D → Env := fun y6 y13 y14 => [some (.adr a), some (.w (matD n r) z), some (vecD n (rst n r z)), some (.i (s : Int)), some (matD n r), some (ah 7), y6, y7, y8, y9, some (planD n (scF p) 7 rS), some (planD n (fSc n r z) 7 rF), some (.l (gen 7 fun t => .t [A t, B t])), y13, y14, none]
      refine psd_cons (ps1_for (g := gTup K 2 (gCons (gName 6) (gCons (gTup K 2 (gCons (gName 13) (gCons (gName 14) gNil))) gNil))) (l := [6] ++ ([13] ++ [14])) (fun k δ ω2 => ω2 = ω3 ∧ ∃ y6 y13 y14, δ = Cs y6 y13 y14) PassesOwn.never rfl (q_enumL (N := 7) (g := fun t => .t [A t, B t]) T (v_ 12 rfl)) (pg_tup rfl (pgs_cons (pg_name (i := 6) nd rfl (.inl rfl) (.inl rfl)) (pgs_cons (pg_tup rfl (pgs_cons (pg_name (i := 13) nd rfl (.inl rfl) (.inl rfl)) (pgs_cons (pg_name (i := 14) nd rfl (.inl rfl) (.inl rfl)) pgs_nil))) pgs_nil))) ⟨rfl, y6, none, none, rfl⟩ ?_ ?_)
      · rintro t ht δ ω4 ⟨rfl, x6, x13, x14, rfl⟩
        refine ⟨_, evg_pair evg_name (evg_pair evg_name evg_name), ?_⟩
        have pS : 0 < scF p * z ^ t := Int.mul_pos (by have := (scF_ok p).1; omega) (pw_pos hg t)
        have pF : 0 < fSc n r z * z ^ t := Int.mul_pos (fSc_pos hg) (pw_pos hg t)
        have b1 := sep_nn hg hs t
        have b2 := sepB_pos hg s t
        have b3 := sepA_sz hg hs (k := t) (by omega)
        have b4 : (sepB n r z s t).natAbs < 2 ^ 1900 := lt_pow (sepB_sz hg s (k := t) (by omega)) (by decide)
        have c5 : ¬ gone n z rF t * (scF p * z ^ t) < gone n z rS t * (fSc n r z * z ^ t) := Int.not_lt.mpr (gone_le hg hs hp (by omega))
        have up : ∀ {x : Int} {j : Nat}, x.natAbs < 2 ^ j → j ≤ 2000 → x.natAbs < 2 ^ 2000 := fun h hj => lt_pow h hj
        refine psd_one (ps1_ifF (ω1 := ω3) (PDW.pt (pdw_orF (pdt_val (PD.cast (pd_ok Lb.is_less hr (by decide) (pda_cons (v_ 14 rfl) (pda_cons (v_ 13 rfl) pda_nil)) ⟨rfl, _, _, _, _, plain_pos pF, plain_pos pS, ⟨up (plain_szA pF (nF t ht) (gF t ht)) (by decide), up (plain_szB pF (tF t (by omega))) (by decide), up (plain_szA pS (nS t ht) (gS t ht)) (by decide), up (plain_szB pS (tS t (by omega))) (by decide)⟩, rfl, rfl⟩) (congrArg D.b (decide_eq_false (plain_lt pF pS c5)))))
          (pdw_or1 (PDT.cast (pdt_neD (k1 := 1) (k2 := 1) hr.units (PD.cast (d' := fr 1 1) (pd_ok Lb.added hr (by decide) (pda_cons (v_ 14 rfl) (pda_cons (q_kw Lb.sep hr (by decide) (pda_cons (v_ 1 rfl) (pda_cons (v_ 3 rfl) pda_nil)) (v_ 6 rfl) ⟨rfl, n, r, z, s, t, hg, hs, by omega, rfl, rfl⟩ rfl) pda_nil)) ⟨rfl, _, _, _, _, plain_pos pF, plain_pos b2, ⟨up (plain_szA pF (nF t ht) (gF t ht)) (by decide), up (plain_szB pF (tF t (by omega))) (by decide), up (plain_szA b2 b1 b3) (by decide), up (plain_szB b2 b4) (by decide)⟩, rfl, rfl⟩) ?_)
            (PD.cast (d' := fr 1 1) (pd_ok Lb.plain hr (by decide) (pda_cons (pd_tup (pda_cons pd_int (pda_cons pd_int pda_nil)) (by show 2 ≤ 1000; decide)) pda_nil) ⟨rfl, 1, 1, by decide, Nat.lt_of_lt_of_le (by decide : 1 < 2 ^ 1) (pow_le2 (by decide)), rfl, rfl⟩) (plain_one (by decide))) (lv_fr 1 1) (lv_fr 1 1)) (by unfold eqvD; rw [eqv_self (lv_fr 1 1)]; rfl))))) ⟨rfl, _, _, _, rfl⟩)
        rw [plain_sum pF b2 (gone_sep hg hs (by omega))]
        exact plain_one (Int.mul_pos (plain_pos pF) (plain_pos b2))
      · rintro δ ω4 ⟨rfl, x6, x13, x14, rfl⟩
        refine psd_cons (ps1_set 15 nd rfl (.inl rfl) (pd_ok Lb.stopped hr (by decide) (pda_cons (v_ 1 rfl) (pda_cons (v_ 3 rfl) (pda_cons (q_kw Lb.fair hr (by decide) (pda_cons (v_ 1 rfl) (pda_cons (v_ 3 rfl) pda_nil)) pd_int ⟨rfl, n, r, z, s, 3, hg, hs, by decide, rfl, rfl⟩ rfl) pda_nil))) ⟨rfl, n, r, z, s, fSc n r z, 4, rF, hg, hs, oF4, fun t ht => lt_pow (gF t (by omega)) (by decide), fun t ht => lt_pow (tF t (by omega)) (by decide), rfl, rfl⟩) ?_)
        have lvS : ∀ m, Lv 2 (.t (gen m B)) := fun m => lv_gen (k := 1) fun t ht => lv_fr _ _
        have ecut : ((gen 7 B).drop (HT.sIx (gen 7 B).length 0 none)).take (HT.sIx (gen 7 B).length (gen 7 B).length (some 4) - HT.sIx (gen 7 B).length 0 none) = gen 4 B := rfl
        refine psd_one (ps1_ret (ω1 := ω3) (PD.cast (pd_eqD (k1 := 2) (k2 := 2) hr.units (v_ 15 rfl) (PD.cast (pd_slT (ds := gen 7 B) (ol := none) (oh := some 4) (pd_ok Lb.stopped hr (by decide) (pda_cons (v_ 1 rfl) (pda_cons (v_ 3 rfl) (pda_cons (v_ 11 rfl) pda_nil))) ⟨rfl, n, r, z, s, fSc n r z, 7, rF, hg, hs, oF, fun t ht => lt_pow (gF t ht) (by decide), fun t ht => lt_pow (tF t ht) (by decide), rfl, rfl⟩) pdo_none (pdo_some fun _ => pd_int)) (congrArg D.t ecut)) (lvS 4) (lvS 4)) ?_) ⟨rfl, same_om⟩)
        unfold eqvD
        rw [show PyData.eqv (toPy (stopD n z (fSc n r z) 4 rF)) (toPy (.t (gen 4 B))) = true from eqv_self (lvS 4)]
end
end FW
set_option Elab.async false
set_option linter.all false
set_option autoImplicit false
set_option maxRecDepth 100000
set_option maxHeartbeats 1000000
/-! F18: the law. -/
namespace FW
open PySem PySem.Spec PyProof.Rows L2
section
variable {P : Program} {w : World} {K : PySem.W.Frag} {mg : Str → Option Value} {base : Heap} {f : Addr} {fd : FuncData} {C : Addr}
def S_law : FSp := pure_ fun ds d => ∃ ns : List Int, ns.length ≤ 900 ∧ ds = [.l (ns.map D.i)] ∧ d = .b true
theorem ok_law (F : FnP K "law" s_law f fd) (T : Tx K mg C) (I : OkI P w K mg base C) (G1 : Ok P w K mg base C "_law_cell_at" 1 ["_law_script", "_law_k"] S_cell_at) (G2 : OkO P w K mg base C "_law_pen_of" 1 ["_law_cell"] S_pen_of) (G3 : Ok P w K mg base C "_law_round_rows" 5 ["_law_pen", "_law_top"] S_round)
    (G4 : Ok P w K mg base C "one_rest" 6 ["walk"] S_one_rest) (G5 : Ok P w K mg base C "_law_start_right" 8 ["_law_pen", "_law_walk", "_law_rest", "_law_start_here"] S_start_right) : FnOk P w K mg base CX0 9 f fd ["_law_script"] (spF K C S_law) := by
  refine fnD F sc_law (fun ds ω d ω' h => ?_) (fun X ds ω d ω' hX hr h => ?_)
  · obtain ⟨_, ns, _, rfl, _⟩ := h
    rfl
  · obtain ⟨cdv, A, outer, st, H, E, rfl⟩ := hX
    obtain ⟨rfl, ns, hn, rfl, rfl⟩ := h
    have nd := sc_law.nd
    let cells : List Int := [ns.getD 0 0] ++ (ns.drop (HT.sIx (ns.map D.i).length 0 (some 1))).take (HT.sIx (ns.map D.i).length (ns.map D.i).length (some 2) - HT.sIx (ns.map D.i).length 0 (some 1))
    have ecells : [D.i (ns.getD 0 0)] ++ ((ns.map D.i).drop (HT.sIx (ns.map D.i).length 0 (some 1))).take (HT.sIx (ns.map D.i).length (ns.map D.i).length (some 2) - HT.sIx (ns.map D.i).length 0 (some 1)) = cells.map D.i := by
      rw [← List.map_drop, ← List.map_take]
      rfl
    have clen : [D.i (ns.getD 0 0)].length + (((ns.map D.i).drop (HT.sIx (ns.map D.i).length 0 (some 1))).take (HT.sIx (ns.map D.i).length (ns.map D.i).length (some 2) - HT.sIx (ns.map D.i).length 0 (some 1))).length ≤ 1000 := by
      rw [List.length_take, List.length_drop, List.length_map, List.length_singleton]
      omega
    refine psd_cons (ps1_for1 1 (fun k δ ω2 => (∀ a o, ω' a = some o → ω2 a = some o) ∧ ∃ y1 y2 y3 y4 y5 y6, δ = [some (.l (ns.map D.i)), y1, y2, y3, y4, y5, y6]) nd rfl (.inl rfl) PassesOwn.never (pid_lst (PD.cast (PDN.pd (pdn_cat (pdn_lst (pda_cons (pd_ok G1 hr (by decide) (pda_cons (v_ 0 rfl) (pda_cons pd_int pda_nil)) ⟨rfl, ns, rfl, rfl⟩) pda_nil) (by show 1 ≤ 1000; decide)) (fun ω => pdn_slL (v_ 0 rfl) (pdo_some fun _ => pd_int) (pdo_some fun _ => pd_int)) clen)) (congrArg D.l ecells))) ⟨same_om, none, none, none, none, none, none, rfl⟩ ?_ ?_)
    · rintro k hk δ ω2 ⟨hω, y1, y2, y3, y4, y5, y6, rfl⟩
      rw [List.length_map] at hk
      have ec : (cells.map D.i).getD k .no = .i cells[k] := by
        rw [List.getD_eq_getElem?_getD, List.getElem?_map, List.getElem?_eq_getElem hk]
        rfl
      rw [ec]
      generalize cells[k] = c
      refine psd_cons (ps1_callO 2 nd rfl (.inl rfl) G2 hr (by decide) (pda_cons (v_ 1 rfl) pda_nil) ⟨c, rfl, rfl⟩ fun q hq => ?_)
      have hp := penF_ok c
      generalize penF c = p at hp ⊢
      have hg := rnd_good hp (top := 5) (by decide) (by decide)
      have hp2 := all_pn hp (top := 5) (by decide) (by decide)
      refine psd_cons (ps1_set 3 nd rfl (.inl rfl) (pd_ok G3 hr (by decide) (pda_cons (v_ 2 rfl) (pda_cons pd_int pda_nil)) ⟨q, p, 5, hp, by decide, by decide, rfl, updO_same, rfl, rfl⟩) ?_)
      rw [updO_updO]
      generalize allN1 5 p = n at hg ⊢
      generalize rndR 5 p = r at hg ⊢
      generalize ((allW 5 p : Int) + 1) = z at hg
      generalize (allR 5 p).2 = p2 at hp2 ⊢
      have h5 := hg.n5
      refine psd_cons (ps1_set 4 nd rfl (.inl rfl) (q_make T I hr (by decide) (v_ 3 rfl) ⟨hg.n1, by omega, hg.nn, hg.sum, hg.z0⟩) ?_)
      refine psd_cons (ps1_set 5 nd rfl (.inl rfl) (pd_ok G4 hr (by decide) (pda_cons (v_ 4 rfl) pda_nil) ⟨rfl, n, r, z, hg, rfl, rfl⟩) ?_)
      refine psd_one (ps1_for1 6 (fun s δ ω4 => ∃ p4 y6, PnOk p4 ∧ ω4 = updO ω2 q (.lst (penD p4)) ∧ δ = [some (.l (ns.map D.i)), some (.i c), some (.adr q), some (matD n r), some (.w (matD n r) z), some (vecD n (rst n r z)), y6]) nd rfl (.inl rfl) PassesOwn.never (q_range T (q_lenV T (v_ 3 rfl)) (by omega)) ⟨p2, y6, hp2, rfl, rfl⟩ ?_ ?_)
      · rintro s hs δ ω4 ⟨p4, x6, hp4, rfl, rfl⟩
        have hp5 := (slS_ok hg (drawF_ok hp4 (m := 3) (by decide)).2.2 (fun y hy => rst_pos hg hy) (g0 := fun x => scF p4 * unitN s x) (fun y _ => mul_unit_nn (by have := (scF_ok p4).1; omega) s y) 7).1
        refine psd_one (ps1_ifF (ω1 := updO ω2 q (.lst (penD (slS n r (rst n r z) (fun x => scF p4 * unitN s x) (drawF p4 3).2 7).2))) (pdt_not (p := true) (pdt_val (pd_ok G5 hr (by decide) (pda_cons (v_ 2 rfl) (pda_cons (v_ 4 rfl) (pda_cons (v_ 5 rfl) (pda_cons (v_ 6 rfl) pda_nil)))) ⟨q, p4, n, r, z, s, hp4, hg, hs, rfl, updO_same, rfl, by rw [updO_updO]⟩))) ⟨_, some (.i (s : Int)), hp5, rfl, rfl⟩)
      · rintro δ ω4 ⟨p4, x6, hp4, rfl, rfl⟩
        refine ⟨fun a o e => ?_, _, _, _, _, _, _, rfl⟩
        rw [updO_ne (fun z => by rw [z] at e; rw [hω q o e] at hq; cases hq)]
        exact hω a o e
    · rintro δ ω2 ⟨hω, y1, y2, y3, y4, y5, y6, rfl⟩
      exact psd_one (ps1_ret pd_bl ⟨rfl, hω⟩)
end
end FW
set_option Elab.async false
set_option linter.all false
set_option maxRecDepth 100000
set_option maxHeartbeats 0
/-! Hd1: the head: the text's defs, its facts, the run of its top. -/
namespace FW
open PySem PySem.Spec PyProof.Rows L2
def d_is_whole : He.DefD := ⟨("is_whole", none), "is_whole", "is_whole", defArgs s_is_whole, defBody s_is_whole, defScope s_is_whole, [], []⟩
def d_is_from_to : He.DefD := ⟨("is_from_to", none), "is_from_to", "is_from_to", defArgs s_is_from_to, defBody s_is_from_to, defScope s_is_from_to, [], []⟩
def d_common : He.DefD := ⟨("common", none), "common", "common", defArgs s_common, defBody s_common, defScope s_common, [], []⟩
def d_is_fraction : He.DefD := ⟨("is_fraction", none), "is_fraction", "is_fraction", defArgs s_is_fraction, defBody s_is_fraction, defScope s_is_fraction, [], []⟩
def d_need_fraction : He.DefD := ⟨("need_fraction", none), "need_fraction", "need_fraction", defArgs s_need_fraction, defBody s_need_fraction, defScope s_need_fraction, [], []⟩
def d_plain_of : He.DefD := ⟨("plain_of", none), "plain_of", "plain_of", defArgs s_plain_of, defBody s_plain_of, defScope s_plain_of, [], []⟩
def d_plain : He.DefD := ⟨("plain", none), "plain", "plain", defArgs s_plain, defBody s_plain, defScope s_plain, [], []⟩
def d_added : He.DefD := ⟨("added", none), "added", "added", defArgs s_added, defBody s_added, defScope s_added, [], []⟩
def d_is_less : He.DefD := ⟨("is_less", none), "is_less", "is_less", defArgs s_is_less, defBody s_is_less, defScope s_is_less, [], []⟩
def d_are_weights : He.DefD := ⟨("are_weights", none), "are_weights", "are_weights", defArgs s_are_weights, defBody s_are_weights, defScope s_are_weights, [], []⟩
def d_is_lot : He.DefD := ⟨("is_lot", none), "is_lot", "is_lot", defArgs s_is_lot, defBody s_is_lot, defScope s_is_lot, [], []⟩
def d_need_lot : He.DefD := ⟨("need_lot", none), "need_lot", "need_lot", defArgs s_need_lot, defBody s_need_lot, defScope s_need_lot, [], []⟩
def d_need_two : He.DefD := ⟨("need_two", none), "need_two", "need_two", defArgs s_need_two, defBody s_need_two, defScope s_need_two, [], []⟩
def d_common_of : He.DefD := ⟨("common_of", none), "common_of", "common_of", defArgs s_common_of, defBody s_common_of, defScope s_common_of, [], []⟩
def d_least_of : He.DefD := ⟨("least_of", none), "least_of", "least_of", defArgs s_least_of, defBody s_least_of, defScope s_least_of, [], []⟩
def d_are_rows : He.DefD := ⟨("are_rows", none), "are_rows", "are_rows", defArgs s_are_rows, defBody s_are_rows, defScope s_are_rows, [], []⟩
def d_need_steps : He.DefD := ⟨("need_steps", none), "need_steps", "need_steps", defArgs s_need_steps, defBody s_need_steps, defScope s_need_steps, [], [("fewest", .int 0)]⟩
def d_stepped : He.DefD := ⟨("stepped", none), "stepped", "stepped", defArgs s_stepped, defBody s_stepped, defScope s_stepped, [], []⟩
def d_is_place : He.DefD := ⟨("is_place", none), "is_place", "is_place", defArgs s_is_place, defBody s_is_place, defScope s_is_place, [], []⟩
def d_need_place : He.DefD := ⟨("need_place", none), "need_place", "need_place", defArgs s_need_place, defBody s_need_place, defScope s_need_place, [], []⟩
def d_nexts : He.DefD := ⟨("nexts", none), "nexts", "nexts", defArgs s_nexts, defBody s_nexts, defScope s_nexts, [], []⟩
def d_reach_of : He.DefD := ⟨("reach_of", none), "reach_of", "reach_of", defArgs s_reach_of, defBody s_reach_of, defScope s_reach_of, [], []⟩
def d_led_to : He.DefD := ⟨("led_to", none), "led_to", "led_to", defArgs s_led_to, defBody s_led_to, defScope s_led_to, [], []⟩
def d_shut_sets : He.DefD := ⟨("shut_sets", none), "shut_sets", "shut_sets", defArgs s_shut_sets, defBody s_shut_sets, defScope s_shut_sets, [], []⟩
def d_determinant : He.DefD := ⟨("determinant", none), "determinant", "determinant", defArgs s_determinant, defBody s_determinant, defScope s_determinant, [], []⟩
def d_trees_in : He.DefD := ⟨("trees_in", none), "trees_in", "trees_in", defArgs s_trees_in, defBody s_trees_in, defScope s_trees_in, [], []⟩
def d_rest_on : He.DefD := ⟨("rest_on", none), "rest_on", "rest_on", defArgs s_rest_on, defBody s_rest_on, defScope s_rest_on, [], []⟩
def d_rests : He.DefD := ⟨("rests", none), "rests", "rests", defArgs s_rests, defBody s_rests, defScope s_rests, [], []⟩
def d_one_rest : He.DefD := ⟨("one_rest", none), "one_rest", "one_rest", defArgs s_one_rest, defBody s_one_rest, defScope s_one_rest, [], []⟩
def d_begun : He.DefD := ⟨("begun", none), "begun", "begun", defArgs s_begun, defBody s_begun, defScope s_begun, [], []⟩
def d_barest : He.DefD := ⟨("barest", none), "barest", "barest", defArgs s_barest, defBody s_barest, defScope s_barest, [], []⟩
def d_separation : He.DefD := ⟨("separation", none), "separation", "separation", defArgs s_separation, defBody s_separation, defScope s_separation, [], [("steps", .int 1)]⟩
def d_is_stop : He.DefD := ⟨("is_stop", none), "is_stop", "is_stop", defArgs s_is_stop, defBody s_is_stop, defScope s_is_stop, [], []⟩
def d_is_plan_of : He.DefD := ⟨("is_plan_of", none), "is_plan_of", "is_plan_of", defArgs s_is_plan_of, defBody s_is_plan_of, defScope s_is_plan_of, [], []⟩
def d_is_plan : He.DefD := ⟨("is_plan", none), "is_plan", "is_plan", defArgs s_is_plan, defBody s_is_plan, defScope s_is_plan, [], []⟩
def d_is_like : He.DefD := ⟨("is_like", none), "is_like", "is_like", defArgs s_is_like, defBody s_is_like, defScope s_is_like, [], []⟩
def d_is_fair : He.DefD := ⟨("is_fair", none), "is_fair", "is_fair", defArgs s_is_fair, defBody s_is_fair, defScope s_is_fair, [], []⟩
def d_stopped : He.DefD := ⟨("stopped", none), "stopped", "stopped", defArgs s_stopped, defBody s_stopped, defScope s_stopped, [], []⟩
def d_fair_plan : He.DefD := ⟨("fair_plan", none), "fair_plan", "fair_plan", defArgs s_fair_plan, defBody s_fair_plan, defScope s_fair_plan, [], [("steps", .int 1)]⟩
def d_brought : He.DefD := ⟨("brought", none), "brought", "brought", defArgs s_brought, defBody s_brought, defScope s_brought, [], []⟩
def d_more_of : He.DefD := ⟨("more_of", none), "more_of", "more_of", defArgs s_more_of, defBody s_more_of, defScope s_more_of, [], []⟩
def d_apart_of : He.DefD := ⟨("apart_of", none), "apart_of", "apart_of", defArgs s_apart_of, defBody s_apart_of, defScope s_apart_of, [], []⟩
def d_apart : He.DefD := ⟨("apart", none), "apart", "apart", defArgs s_apart, defBody s_apart, defScope s_apart, [], []⟩
def d__law_cell_at : He.DefD := ⟨("_law_cell_at", none), "_law_cell_at", "_law_cell_at", defArgs s__law_cell_at, defBody s__law_cell_at, defScope s__law_cell_at, [], []⟩
def d__law_next : He.DefD := ⟨("_law_next", none), "_law_next", "_law_next", defArgs s__law_next, defBody s__law_next, defScope s__law_next, [], []⟩
def d__law_pen_of : He.DefD := ⟨("_law_pen_of", none), "_law_pen_of", "_law_pen_of", defArgs s__law_pen_of, defBody s__law_pen_of, defScope s__law_pen_of, [], []⟩
def d__law_draw : He.DefD := ⟨("_law_draw", none), "_law_draw", "_law_draw", defArgs s__law_draw, defBody s__law_draw, defScope s__law_draw, [], []⟩
def d__law_row : He.DefD := ⟨("_law_row", none), "_law_row", "_law_row", defArgs s__law_row, defBody s__law_row, defScope s__law_row, [], []⟩
def d__law_rows : He.DefD := ⟨("_law_rows", none), "_law_rows", "_law_rows", defArgs s__law_rows, defBody s__law_rows, defScope s__law_rows, [], []⟩
def d__law_round_rows : He.DefD := ⟨("_law_round_rows", none), "_law_round_rows", "_law_round_rows", defArgs s__law_round_rows, defBody s__law_round_rows, defScope s__law_round_rows, [], []⟩
def d__law_after : He.DefD := ⟨("_law_after", none), "_law_after", "_law_after", defArgs s__law_after, defBody s__law_after, defScope s__law_after, [], []⟩
def d__law_start : He.DefD := ⟨("_law_start", none), "_law_start", "_law_start", defArgs s__law_start, defBody s__law_start, defScope s__law_start, [], []⟩
def d__law_slow_fair : He.DefD := ⟨("_law_slow_fair", none), "_law_slow_fair", "_law_slow_fair", defArgs s__law_slow_fair, defBody s__law_slow_fair, defScope s__law_slow_fair, [], []⟩
def d__law_start_right : He.DefD := ⟨("_law_start_right", none), "_law_start_right", "_law_start_right", defArgs s__law_start_right, defBody s__law_start_right, defScope s__law_start_right, [], []⟩
def d_law : He.DefD := ⟨("law", none), "law", "law", defArgs s_law, defBody s_law, defScope s_law, [], []⟩
def d_Winit : He.DefD := ⟨("Walk", some "__init__"), "__init__", "Walk.__init__", defArgs s_Winit, defBody s_Winit, defScope s_Winit, [], []⟩
def d_Wlen : He.DefD := ⟨("Walk", some "__len__"), "__len__", "Walk.__len__", defArgs s_Wlen, defBody s_Wlen, defScope s_Wlen, [], []⟩
def d_Wafter : He.DefD := ⟨("Walk", some "after"), "after", "Walk.after", defArgs s_Wafter, defBody s_Wafter, defScope s_Wafter, [], [("steps", .int 1)]⟩
def fa0 : List He.Fa := [.free "len", .free "isinstance", .free "abs", .free "all", .free "any", .free "sum", .free "max", .free "min", .free "range", .free "zip", .free "tuple", .free "list", .free "enumerate", .free "sorted", .free "int"]
def fa1 : List He.Fa := [.free "bool", .glo "is_whole", .glo "is_from_to", .glo "common", .glo "is_fraction", .glo "need_fraction", .glo "plain_of", .glo "plain", .glo "added", .glo "is_less", .glo "are_weights", .glo "is_lot", .glo "need_lot", .glo "need_two", .glo "common_of"]
def fa2 : List He.Fa := [.glo "least_of", .glo "are_rows", .glo "need_steps", .glo "stepped", .glo "is_place", .glo "need_place", .glo "nexts", .glo "reach_of", .glo "led_to", .glo "shut_sets", .glo "determinant", .glo "trees_in", .glo "rest_on", .glo "rests", .glo "one_rest"]
def fa3 : List He.Fa := [.glo "begun", .glo "barest", .glo "separation", .glo "is_stop", .glo "is_plan_of", .glo "is_plan", .glo "is_like", .glo "is_fair", .glo "stopped", .glo "fair_plan", .glo "brought", .glo "more_of", .glo "apart_of", .glo "apart", .glo "_law_cell_at"]
def fa4 : List He.Fa := [.glo "_law_next", .glo "_law_pen_of", .glo "_law_draw", .glo "_law_row", .glo "_law_rows", .glo "_law_round_rows", .glo "_law_after", .glo "_law_start", .glo "_law_slow_fair", .glo "_law_start_right", .glo "law", .int "MOST_PLACES" 25, .int "MOST_STEPS" 100, .glo "Walk", .cls "Walk"]
def fa5 : List He.Fa := [.noat "Walk" "rows", .noat "Walk" "whole", .meth "Walk" "__len__", .meth "Walk" "after", .mkr "Walk"]
def fa : List He.Fa := fa0 ++ (fa1 ++ (fa2 ++ (fa3 ++ (fa4 ++ (fa5)))))
def fn0 : List He.DefD := [d_is_whole, d_is_from_to, d_common, d_is_fraction, d_need_fraction, d_plain_of, d_plain, d_added, d_is_less, d_are_weights, d_is_lot, d_need_lot, d_need_two, d_common_of, d_least_of]
def fn1 : List He.DefD := [d_are_rows, d_need_steps, d_stepped, d_is_place, d_need_place, d_nexts, d_reach_of, d_led_to, d_shut_sets, d_determinant, d_trees_in, d_rest_on, d_rests, d_one_rest, d_begun]
def fn2 : List He.DefD := [d_barest, d_separation, d_is_stop, d_is_plan_of, d_is_plan, d_is_like, d_is_fair, d_stopped, d_fair_plan, d_brought, d_more_of, d_apart_of, d_apart, d__law_cell_at, d__law_next]
def fn3 : List He.DefD := [d__law_pen_of, d__law_draw, d__law_row, d__law_rows, d__law_round_rows, d__law_after, d__law_start, d__law_slow_fair, d__law_start_right, d_law, d_Winit, d_Wlen, d_Wafter]
def fn : List He.DefD := fn0 ++ (fn1 ++ (fn2 ++ (fn3)))
abbrev R : PySem.W.OpenRow := PySem.W.OpenLaw.row PySem.Challenge.rw_fadewalk_k64_whole_stopping
abbrev hk : PySem.W.Hook := He.hookD 5 fa fn
def ob (s : PySem.W.SharedT) : He.AlD := He.obsDG 5 fa fn (HandSHeadRun.getT s)
def nm0 : List PySem.Str := ["_wall", "FadeError", "NoFraction", "NoLot", "Unlike", "BadWalk", "NoSteps", "NoPlace", "NoRest", "NoPlan", "is_whole", "is_from_to", "common", "is_fraction", "need_fraction"]
def nm1 : List PySem.Str := ["plain_of", "plain", "added", "is_less", "MOST_PLACES", "are_weights", "is_lot", "need_lot", "need_two", "common_of", "least_of", "MOST_STEPS", "are_rows", "need_steps", "stepped"]
def nm2 : List PySem.Str := ["Walk", "is_place", "need_place", "nexts", "reach_of", "led_to", "shut_sets", "determinant", "trees_in", "rest_on", "rests", "one_rest", "begun", "barest", "separation"]
def nm3 : List PySem.Str := ["is_stop", "is_plan_of", "is_plan", "is_like", "is_fair", "stopped", "fair_plan", "brought", "more_of", "apart_of", "apart", "_law_cell_at", "_law_next", "_law_pen_of", "_law_draw"]
def nm4 : List PySem.Str := ["_law_row", "_law_rows", "_law_round_rows", "_law_after", "_law_start", "_law_slow_fair", "_law_start_right"]
def nms : List PySem.Str := nm0 ++ (nm1 ++ (nm2 ++ (nm3 ++ (nm4))))
theorem run (w : World) : HandSHeadRun.RunEq R (PySem.W.view R.prog [76]) hk ob 20000 nms w := by
  intro os
  kernel_rfl
end FW
set_option Elab.async false
set_option linter.all false
set_option autoImplicit false
set_option maxRecDepth 100000
set_option maxHeartbeats 0
/-! J: the head and the law joined. -/
namespace FW
open PySem PySem.Spec PyProof.Rows L2
theorem kbn_of {K : PySem.W.Frag} {x qual : Str} {params : Arguments} {body : List Stmt} {scope : Scope} {kws : List (Str × V)} {f : Addr} {fd : FuncData} {ps : List Str} (F : FunD K x qual params body scope [] kws f fd) (n : Nat) (ks : List Str) (hk : kws ≠ [])
    (h : ∀ (D : Addr) (doc pm : Value) (an : Option Addr) (cdv ct : Value) (us ws : List Value), us.length = n → ws.length = ks.length → bindArgs (PySem.W.fnOf x qual params body scope .none (.ref D) doc pm an cdv ct) ⟨us, ks.zip ws⟩ = pure (ps.zip (us ++ ws))) :
    KBn K fd ps n ks (fun us ws => us ++ ws) (fun us ws => us ++ ws) := by
  obtain ⟨_, h'⟩ := FunD.kbinds0 F n ks [] (fun us _ ws => us ++ ws) hk (fun q hq => nomatch hq) (fun r1 _ r3 => Vals.append r1 r3) fun D doc pm an cdv ct us mv ws l1 _ l3 => h D doc pm an cdv ct us ws l1 l3
  exact h'

theorem facts {P : Program} {w : World} {K : PySem.W.Frag} {h : Heap} {mg : Str → Option Value} {f : Addr} (X : K.In h) (G : h.Ns mainGlobals mg) (hfa : mg ("law" : Str) = some (.ref f)) (c : He.SaysD fa fn K) :
    ∃ fd : FuncData, (∀ (s : Shared) (v : Value), BindsTo s fd ⟨[v], []⟩ [("_law_script", v)]) ∧ ∀ base : Heap, K.In base → base.Ns mainGlobals mg → FnOk P w K mg base CX0 9 f fd ["_law_script"] (spF K (He.ga K "Walk") S_law) := by
  have T : Tx K mg (He.ga K "Walk") := ⟨He.cls_ok (c.fact 74 (f := .cls "Walk") rfl), He.noat_ok (c.fact 75 (f := .noat "Walk" "rows") rfl), He.noat_ok (c.fact 76 (f := .noat "Walk" "whole") rfl), He.glo_ok X G (c.fact 73 (f := .glo "Walk") rfl), He.free_ok X G (c.fact 0 (f := .free "len") rfl), He.free_ok X G (c.fact 1 (f := .free "isinstance") rfl), He.free_ok X G (c.fact 2 (f := .free "abs") rfl), He.free_ok X G (c.fact 3 (f := .free "all") rfl), He.free_ok X G (c.fact 4 (f := .free "any") rfl), He.free_ok X G (c.fact 5 (f := .free "sum") rfl), He.free_ok X G (c.fact 6 (f := .free "max") rfl), He.free_ok X G (c.fact 7 (f := .free "min") rfl), He.free_ok X G (c.fact 8 (f := .free "range") rfl), He.free_ok X G (c.fact 9 (f := .free "zip") rfl), He.free_ok X G (c.fact 10 (f := .free "tuple") rfl), He.free_ok X G (c.fact 11 (f := .free "list") rfl), He.free_ok X G (c.fact 12 (f := .free "enumerate") rfl), He.free_ok X G (c.fact 13 (f := .free "sorted") rfl), He.free_ok X G (c.fact 14 (f := .free "int") rfl), He.free_ok X G (c.fact 15 (f := .free "bool") rfl), He.int_ok X G (c.fact 71 (f := .int "MOST_PLACES" 25) rfl), He.int_ok X G (c.fact 72 (f := .int "MOST_STEPS" 100) rfl)⟩
  obtain ⟨fd_law, F_law⟩ := c.def_ 54 (d := d_law) rfl
  have e := hfa.symm.trans (He.glo_ok X G (c.fact 70 (f := .glo "law") rfl))
  cases e
  have b_law := FunD.bindsA (ps := ["_law_script"]) F_law fun _ _ _ _ _ _ us hl => match us, hl with | [_], _ => rfl
  refine ⟨fd_law, fun s v => b_law s [v] rfl, fun base _ _ => ?_⟩
  obtain ⟨fd_is_whole, F_is_whole⟩ := c.def_ 0 (d := d_is_whole) rfl
  have o_is_whole : Ok P w K mg base (He.ga K "Walk") "is_whole" 1 ["thing"] S_is_whole := ⟨_, fd_is_whole, He.glo_ok X G (c.fact 16 (f := .glo "is_whole") rfl), F_is_whole.kp, F_is_whole.bindsN fun _ _ _ _ _ _ us hl => (match us, hl with | [_], _ => rfl), ok_is_whole F_is_whole T ⟩
  obtain ⟨fd_is_from_to, F_is_from_to⟩ := c.def_ 1 (d := d_is_from_to) rfl
  have o_is_from_to : Ok P w K mg base (He.ga K "Walk") "is_from_to" 2 ["thing", "low", "high"] S_is_from_to := ⟨_, fd_is_from_to, He.glo_ok X G (c.fact 17 (f := .glo "is_from_to") rfl), F_is_from_to.kp, F_is_from_to.bindsN fun _ _ _ _ _ _ us hl => (match us, hl with | [_, _, _], _ => rfl), ok_is_from_to F_is_from_to T o_is_whole⟩
  obtain ⟨fd_common, F_common⟩ := c.def_ 2 (d := d_common) rfl
  have o_common : Ok P w K mg base (He.ga K "Walk") "common" 1 ["one", "other"] S_common := ⟨_, fd_common, He.glo_ok X G (c.fact 18 (f := .glo "common") rfl), F_common.kp, F_common.bindsN fun _ _ _ _ _ _ us hl => (match us, hl with | [_, _], _ => rfl), ok_common F_common T ⟩
  obtain ⟨fd_is_fraction, F_is_fraction⟩ := c.def_ 3 (d := d_is_fraction) rfl
  have o_is_fraction : Ok P w K mg base (He.ga K "Walk") "is_fraction" 2 ["thing"] S_is_fraction := ⟨_, fd_is_fraction, He.glo_ok X G (c.fact 19 (f := .glo "is_fraction") rfl), F_is_fraction.kp, F_is_fraction.bindsN fun _ _ _ _ _ _ us hl => (match us, hl with | [_], _ => rfl), ok_is_fraction F_is_fraction T o_is_whole⟩
  obtain ⟨fd_need_fraction, F_need_fraction⟩ := c.def_ 4 (d := d_need_fraction) rfl
  have o_need_fraction : Ok P w K mg base (He.ga K "Walk") "need_fraction" 3 ["thing"] S_need_fraction := ⟨_, fd_need_fraction, He.glo_ok X G (c.fact 20 (f := .glo "need_fraction") rfl), F_need_fraction.kp, F_need_fraction.bindsN fun _ _ _ _ _ _ us hl => (match us, hl with | [_], _ => rfl), ok_need_fraction F_need_fraction T o_is_fraction⟩
  obtain ⟨fd_plain_of, F_plain_of⟩ := c.def_ 5 (d := d_plain_of) rfl
  have o_plain_of : Ok P w K mg base (He.ga K "Walk") "plain_of" 2 ["above", "below"] S_plain_of := ⟨_, fd_plain_of, He.glo_ok X G (c.fact 21 (f := .glo "plain_of") rfl), F_plain_of.kp, F_plain_of.bindsN fun _ _ _ _ _ _ us hl => (match us, hl with | [_, _], _ => rfl), ok_plain_of F_plain_of T o_common⟩
  obtain ⟨fd_plain, F_plain⟩ := c.def_ 6 (d := d_plain) rfl
  have o_plain : Ok P w K mg base (He.ga K "Walk") "plain" 4 ["fraction"] S_plain := ⟨_, fd_plain, He.glo_ok X G (c.fact 22 (f := .glo "plain") rfl), F_plain.kp, F_plain.bindsN fun _ _ _ _ _ _ us hl => (match us, hl with | [_], _ => rfl), ok_plain F_plain T o_need_fraction o_plain_of⟩
  obtain ⟨fd_added, F_added⟩ := c.def_ 7 (d := d_added) rfl
  have o_added : Ok P w K mg base (He.ga K "Walk") "added" 4 ["one", "other"] S_added := ⟨_, fd_added, He.glo_ok X G (c.fact 23 (f := .glo "added") rfl), F_added.kp, F_added.bindsN fun _ _ _ _ _ _ us hl => (match us, hl with | [_, _], _ => rfl), ok_added F_added T o_need_fraction o_plain_of⟩
  obtain ⟨fd_is_less, F_is_less⟩ := c.def_ 8 (d := d_is_less) rfl
  have o_is_less : Ok P w K mg base (He.ga K "Walk") "is_less" 4 ["one", "other"] S_is_less := ⟨_, fd_is_less, He.glo_ok X G (c.fact 24 (f := .glo "is_less") rfl), F_is_less.kp, F_is_less.bindsN fun _ _ _ _ _ _ us hl => (match us, hl with | [_, _], _ => rfl), ok_is_less F_is_less T o_need_fraction⟩
  obtain ⟨fd_are_weights, F_are_weights⟩ := c.def_ 9 (d := d_are_weights) rfl
  have o_are_weights : Ok P w K mg base (He.ga K "Walk") "are_weights" 2 ["thing", "many"] S_are_weights := ⟨_, fd_are_weights, He.glo_ok X G (c.fact 25 (f := .glo "are_weights") rfl), F_are_weights.kp, F_are_weights.bindsN fun _ _ _ _ _ _ us hl => (match us, hl with | [_, _], _ => rfl), ok_are_weights F_are_weights T o_is_whole⟩
  obtain ⟨fd_is_lot, F_is_lot⟩ := c.def_ 10 (d := d_is_lot) rfl
  have o_is_lot : Ok P w K mg base (He.ga K "Walk") "is_lot" 3 ["thing"] S_is_lot := ⟨_, fd_is_lot, He.glo_ok X G (c.fact 26 (f := .glo "is_lot") rfl), F_is_lot.kp, F_is_lot.bindsN fun _ _ _ _ _ _ us hl => (match us, hl with | [_], _ => rfl), ok_is_lot F_is_lot T o_are_weights⟩
  obtain ⟨fd_need_lot, F_need_lot⟩ := c.def_ 11 (d := d_need_lot) rfl
  have o_need_lot : Ok P w K mg base (He.ga K "Walk") "need_lot" 4 ["thing"] S_need_lot := ⟨_, fd_need_lot, He.glo_ok X G (c.fact 27 (f := .glo "need_lot") rfl), F_need_lot.kp, F_need_lot.bindsN fun _ _ _ _ _ _ us hl => (match us, hl with | [_], _ => rfl), ok_need_lot F_need_lot T o_is_lot⟩
  obtain ⟨fd_need_two, F_need_two⟩ := c.def_ 12 (d := d_need_two) rfl
  have o_need_two : Ok P w K mg base (He.ga K "Walk") "need_two" 5 ["one", "other"] S_need_two := ⟨_, fd_need_two, He.glo_ok X G (c.fact 28 (f := .glo "need_two") rfl), F_need_two.kp, F_need_two.bindsN fun _ _ _ _ _ _ us hl => (match us, hl with | [_, _], _ => rfl), ok_need_two F_need_two T o_need_lot⟩
  obtain ⟨fd_common_of, F_common_of⟩ := c.def_ 13 (d := d_common_of) rfl
  have o_common_of : Ok P w K mg base (He.ga K "Walk") "common_of" 2 ["numbers"] S_common_of := ⟨_, fd_common_of, He.glo_ok X G (c.fact 29 (f := .glo "common_of") rfl), F_common_of.kp, F_common_of.bindsN fun _ _ _ _ _ _ us hl => (match us, hl with | [_], _ => rfl), ok_common_of F_common_of T o_common⟩
  obtain ⟨fd_least_of, F_least_of⟩ := c.def_ 14 (d := d_least_of) rfl
  have o_least_of : Ok P w K mg base (He.ga K "Walk") "least_of" 3 ["lot"] S_least_of := ⟨_, fd_least_of, He.glo_ok X G (c.fact 30 (f := .glo "least_of") rfl), F_least_of.kp, F_least_of.bindsN fun _ _ _ _ _ _ us hl => (match us, hl with | [_], _ => rfl), ok_least_of F_least_of T o_common_of⟩
  obtain ⟨fd_are_rows, F_are_rows⟩ := c.def_ 15 (d := d_are_rows) rfl
  have o_are_rows : Ok P w K mg base (He.ga K "Walk") "are_rows" 3 ["thing"] S_are_rows := ⟨_, fd_are_rows, He.glo_ok X G (c.fact 31 (f := .glo "are_rows") rfl), F_are_rows.kp, F_are_rows.bindsN fun _ _ _ _ _ _ us hl => (match us, hl with | [_], _ => rfl), ok_are_rows F_are_rows T o_are_weights⟩
  obtain ⟨fd_need_steps, F_need_steps⟩ := c.def_ 16 (d := d_need_steps) rfl
  obtain ⟨dv_ns, v_ns, b_ns⟩ := FunD.binds0 (ps := ["steps", "fewest"]) F_need_steps 1 (fun z => nomatch z) rfl (fun D _ _ _ _ _ us ks l1 l2 => by
    obtain ⟨u, rfl⟩ := List.length_eq_one_iff.mp l1
    obtain ⟨v, rfl⟩ := List.length_eq_one_iff.mp l2
    exact ⟨_, _, _, _, _, _, rfl, rfl, rfl⟩)
  have S : OkS P w K mg base (He.ga K "Walk") := ⟨_, fd_need_steps, dv_ns, He.glo_ok X G (c.fact 32 (f := .glo "need_steps") rfl), F_need_steps.kp, b_ns, v_ns, ok_need_steps F_need_steps T o_is_from_to⟩
  obtain ⟨fd_stepped, F_stepped⟩ := c.def_ 17 (d := d_stepped) rfl
  have o_stepped : Ok P w K mg base (He.ga K "Walk") "stepped" 1 ["rows", "weights"] S_stepped := ⟨_, fd_stepped, He.glo_ok X G (c.fact 33 (f := .glo "stepped") rfl), F_stepped.kp, F_stepped.bindsN fun _ _ _ _ _ _ us hl => (match us, hl with | [_, _], _ => rfl), ok_stepped F_stepped T ⟩
  obtain ⟨fd_Winit, F_Winit⟩ := c.def_ 55 (d := d_Winit) rfl
  have I : OkI P w K mg base (He.ga K "Walk") := ⟨_, fd_Winit, He.mkr_ok (c.fact 79 (f := .mkr "Walk") rfl), F_Winit.bindsN fun _ _ _ _ _ _ us hl => (match us, hl with | [_, _], _ => rfl), ok_Winit F_Winit T o_are_rows⟩
  obtain ⟨fd_Wlen, F_Wlen⟩ := c.def_ 56 (d := d_Wlen) rfl
  have L : OkL P w K mg base (He.ga K "Walk") := ⟨_, fd_Wlen, He.meth_ok (c.fact 77 (f := .meth "Walk" "__len__") rfl), F_Wlen.bindsN fun _ _ _ _ _ _ us hl => (match us, hl with | [_], _ => rfl), ok_Wlen F_Wlen T⟩
  obtain ⟨fd_Wafter, F_Wafter⟩ := c.def_ 57 (d := d_Wafter) rfl
  have o_Wafter : OkM P w K mg base (He.ga K "Walk") "after" 5 ["self", "lot", "steps"] 1 S_Wafter := ⟨_, fd_Wafter, He.meth_ok (c.fact 78 (f := .meth "Walk" "after") rfl), kbn_of F_Wafter 2 ["steps"] (fun z => nomatch z) (fun _ _ _ _ _ _ us ws l1 l2 => (match us, l1, ws, l2 with | [_, _], _, [_], _ => rfl)), ok_Wafter F_Wafter T o_need_lot S o_stepped⟩
  obtain ⟨fd_is_place, F_is_place⟩ := c.def_ 18 (d := d_is_place) rfl
  have o_is_place : Ok P w K mg base (He.ga K "Walk") "is_place" 3 ["walk", "thing"] S_is_place := ⟨_, fd_is_place, He.glo_ok X G (c.fact 34 (f := .glo "is_place") rfl), F_is_place.kp, F_is_place.bindsN fun _ _ _ _ _ _ us hl => (match us, hl with | [_, _], _ => rfl), ok_is_place F_is_place T o_is_from_to⟩
  obtain ⟨fd_need_place, F_need_place⟩ := c.def_ 19 (d := d_need_place) rfl
  have o_need_place : Ok P w K mg base (He.ga K "Walk") "need_place" 4 ["walk", "thing"] S_need_place := ⟨_, fd_need_place, He.glo_ok X G (c.fact 35 (f := .glo "need_place") rfl), F_need_place.kp, F_need_place.bindsN fun _ _ _ _ _ _ us hl => (match us, hl with | [_, _], _ => rfl), ok_need_place F_need_place T o_is_place⟩
  obtain ⟨fd_nexts, F_nexts⟩ := c.def_ 20 (d := d_nexts) rfl
  have o_nexts : Ok P w K mg base (He.ga K "Walk") "nexts" 1 ["walk"] S_nexts := ⟨_, fd_nexts, He.glo_ok X G (c.fact 36 (f := .glo "nexts") rfl), F_nexts.kp, F_nexts.bindsN fun _ _ _ _ _ _ us hl => (match us, hl with | [_], _ => rfl), ok_nexts F_nexts T ⟩
  obtain ⟨fd_reach_of, F_reach_of⟩ := c.def_ 21 (d := d_reach_of) rfl
  have o_reach_of : Ok P w K mg base (He.ga K "Walk") "reach_of" 1 ["steps", "start"] S_reach_of := ⟨_, fd_reach_of, He.glo_ok X G (c.fact 37 (f := .glo "reach_of") rfl), F_reach_of.kp, F_reach_of.bindsN fun _ _ _ _ _ _ us hl => (match us, hl with | [_, _], _ => rfl), ok_reach_of F_reach_of T ⟩
  obtain ⟨fd_led_to, F_led_to⟩ := c.def_ 22 (d := d_led_to) rfl
  have o_led_to : Ok P w K mg base (He.ga K "Walk") "led_to" 3 ["walk"] S_led_to := ⟨_, fd_led_to, He.glo_ok X G (c.fact 38 (f := .glo "led_to") rfl), F_led_to.kp, F_led_to.bindsN fun _ _ _ _ _ _ us hl => (match us, hl with | [_], _ => rfl), ok_led_to F_led_to T L o_nexts o_reach_of⟩
  obtain ⟨fd_shut_sets, F_shut_sets⟩ := c.def_ 23 (d := d_shut_sets) rfl
  have o_shut_sets : Ok P w K mg base (He.ga K "Walk") "shut_sets" 4 ["walk"] S_shut_sets := ⟨_, fd_shut_sets, He.glo_ok X G (c.fact 39 (f := .glo "shut_sets") rfl), F_shut_sets.kp, F_shut_sets.bindsN fun _ _ _ _ _ _ us hl => (match us, hl with | [_], _ => rfl), ok_shut_sets F_shut_sets T o_led_to⟩
  obtain ⟨fd_determinant, F_determinant⟩ := c.def_ 24 (d := d_determinant) rfl
  have o_determinant : Ok P w K mg base (He.ga K "Walk") "determinant" 1 ["rows"] S_determinant := ⟨_, fd_determinant, He.glo_ok X G (c.fact 40 (f := .glo "determinant") rfl), F_determinant.kp, F_determinant.bindsN fun _ _ _ _ _ _ us hl => (match us, hl with | [_], _ => rfl), ok_determinant F_determinant T ⟩
  obtain ⟨fd_trees_in, F_trees_in⟩ := c.def_ 25 (d := d_trees_in) rfl
  have o_trees_in : Ok P w K mg base (He.ga K "Walk") "trees_in" 2 ["walk", "places", "root"] S_trees_in := ⟨_, fd_trees_in, He.glo_ok X G (c.fact 41 (f := .glo "trees_in") rfl), F_trees_in.kp, F_trees_in.bindsN fun _ _ _ _ _ _ us hl => (match us, hl with | [_, _, _], _ => rfl), ok_trees_in F_trees_in T o_determinant⟩
  obtain ⟨fd_rest_on, F_rest_on⟩ := c.def_ 26 (d := d_rest_on) rfl
  have o_rest_on : Ok P w K mg base (He.ga K "Walk") "rest_on" 4 ["walk", "shut"] S_rest_on := ⟨_, fd_rest_on, He.glo_ok X G (c.fact 42 (f := .glo "rest_on") rfl), F_rest_on.kp, F_rest_on.bindsN fun _ _ _ _ _ _ us hl => (match us, hl with | [_, _], _ => rfl), ok_rest_on F_rest_on T L o_trees_in o_least_of⟩
  obtain ⟨fd_rests, F_rests⟩ := c.def_ 27 (d := d_rests) rfl
  have o_rests : Ok P w K mg base (He.ga K "Walk") "rests" 5 ["walk"] S_rests := ⟨_, fd_rests, He.glo_ok X G (c.fact 43 (f := .glo "rests") rfl), F_rests.kp, F_rests.bindsN fun _ _ _ _ _ _ us hl => (match us, hl with | [_], _ => rfl), ok_rests F_rests T o_rest_on o_shut_sets⟩
  obtain ⟨fd_one_rest, F_one_rest⟩ := c.def_ 28 (d := d_one_rest) rfl
  have o_one_rest : Ok P w K mg base (He.ga K "Walk") "one_rest" 6 ["walk"] S_one_rest := ⟨_, fd_one_rest, He.glo_ok X G (c.fact 44 (f := .glo "one_rest") rfl), F_one_rest.kp, F_one_rest.bindsN fun _ _ _ _ _ _ us hl => (match us, hl with | [_], _ => rfl), ok_one_rest F_one_rest T L o_shut_sets o_rests⟩
  obtain ⟨fd_begun, F_begun⟩ := c.def_ 29 (d := d_begun) rfl
  have o_begun : Ok P w K mg base (He.ga K "Walk") "begun" 3 ["walk", "start", "many"] S_begun := ⟨_, fd_begun, He.glo_ok X G (c.fact 45 (f := .glo "begun") rfl), F_begun.kp, F_begun.bindsN fun _ _ _ _ _ _ us hl => (match us, hl with | [_, _, _], _ => rfl), ok_begun F_begun T L⟩
  obtain ⟨fd_barest, F_barest⟩ := c.def_ 30 (d := d_barest) rfl
  have o_barest : Ok P w K mg base (He.ga K "Walk") "barest" 1 ["weights", "rest"] S_barest := ⟨_, fd_barest, He.glo_ok X G (c.fact 46 (f := .glo "barest") rfl), F_barest.kp, F_barest.bindsN fun _ _ _ _ _ _ us hl => (match us, hl with | [_, _], _ => rfl), ok_barest F_barest T ⟩
  obtain ⟨fd_separation, F_separation⟩ := c.def_ 31 (d := d_separation) rfl
  have o_separation : OkK P w K mg base (He.ga K "Walk") "separation" 7 ["walk", "start", "steps"] 2 S_separation := ⟨_, fd_separation, He.glo_ok X G (c.fact 47 (f := .glo "separation") rfl), F_separation.kp, kbn_of F_separation 2 ["steps"] (fun z => nomatch z) (fun _ _ _ _ _ _ us ws l1 l2 => (match us, l1, ws, l2 with | [_, _], _, [_], _ => rfl)), ok_separation F_separation T o_one_rest o_need_place S o_begun o_stepped o_barest o_plain_of⟩
  obtain ⟨fd_is_stop, F_is_stop⟩ := c.def_ 32 (d := d_is_stop) rfl
  have o_is_stop : Ok P w K mg base (He.ga K "Walk") "is_stop" 3 ["walk", "thing"] S_is_stop := ⟨_, fd_is_stop, He.glo_ok X G (c.fact 48 (f := .glo "is_stop") rfl), F_is_stop.kp, F_is_stop.bindsN fun _ _ _ _ _ _ us hl => (match us, hl with | [_, _], _ => rfl), ok_is_stop F_is_stop T L o_is_whole⟩
  obtain ⟨fd_is_plan_of, F_is_plan_of⟩ := c.def_ 33 (d := d_is_plan_of) rfl
  have o_is_plan_of : Ok P w K mg base (He.ga K "Walk") "is_plan_of" 4 ["walk", "start", "thing"] S_is_plan_of := ⟨_, fd_is_plan_of, He.glo_ok X G (c.fact 49 (f := .glo "is_plan_of") rfl), F_is_plan_of.kp, F_is_plan_of.bindsN fun _ _ _ _ _ _ us hl => (match us, hl with | [_, _, _], _ => rfl), ok_is_plan_of F_is_plan_of T o_is_whole o_is_stop o_begun o_stepped⟩
  obtain ⟨fd_is_plan, F_is_plan⟩ := c.def_ 34 (d := d_is_plan) rfl
  have o_is_plan : Ok P w K mg base (He.ga K "Walk") "is_plan" 7 ["walk", "start", "thing"] S_is_plan := ⟨_, fd_is_plan, He.glo_ok X G (c.fact 50 (f := .glo "is_plan") rfl), F_is_plan.kp, F_is_plan.bindsN fun _ _ _ _ _ _ us hl => (match us, hl with | [_, _, _], _ => rfl), ok_is_plan F_is_plan T o_one_rest o_need_place o_is_plan_of⟩
  obtain ⟨fd_is_like, F_is_like⟩ := c.def_ 35 (d := d_is_like) rfl
  have o_is_like : Ok P w K mg base (He.ga K "Walk") "is_like" 1 ["row", "rest"] S_is_like := ⟨_, fd_is_like, He.glo_ok X G (c.fact 51 (f := .glo "is_like") rfl), F_is_like.kp, F_is_like.bindsN fun _ _ _ _ _ _ us hl => (match us, hl with | [_, _], _ => rfl), ok_is_like F_is_like T ⟩
  obtain ⟨fd_is_fair, F_is_fair⟩ := c.def_ 36 (d := d_is_fair) rfl
  have o_is_fair : Ok P w K mg base (He.ga K "Walk") "is_fair" 7 ["walk", "start", "thing"] S_is_fair := ⟨_, fd_is_fair, He.glo_ok X G (c.fact 52 (f := .glo "is_fair") rfl), F_is_fair.kp, F_is_fair.bindsN fun _ _ _ _ _ _ us hl => (match us, hl with | [_, _, _], _ => rfl), ok_is_fair F_is_fair T o_one_rest o_need_place o_is_plan_of o_is_like⟩
  obtain ⟨fd_stopped, F_stopped⟩ := c.def_ 37 (d := d_stopped) rfl
  have o_stopped : Ok P w K mg base (He.ga K "Walk") "stopped" 7 ["walk", "start", "plan"] S_stopped := ⟨_, fd_stopped, He.glo_ok X G (c.fact 53 (f := .glo "stopped") rfl), F_stopped.kp, F_stopped.bindsN fun _ _ _ _ _ _ us hl => (match us, hl with | [_, _, _], _ => rfl), ok_stopped F_stopped T o_one_rest o_need_place o_is_plan_of o_plain_of⟩
  obtain ⟨fd_fair_plan, F_fair_plan⟩ := c.def_ 38 (d := d_fair_plan) rfl
  have o_fair_plan : OkK P w K mg base (He.ga K "Walk") "fair_plan" 7 ["walk", "start", "steps"] 2 S_fair_plan := ⟨_, fd_fair_plan, He.glo_ok X G (c.fact 54 (f := .glo "fair_plan") rfl), F_fair_plan.kp, kbn_of F_fair_plan 2 ["steps"] (fun z => nomatch z) (fun _ _ _ _ _ _ us ws l1 l2 => (match us, l1, ws, l2 with | [_, _], _, [_], _ => rfl)), ok_fair_plan F_fair_plan T o_one_rest o_need_place S o_begun o_stepped o_barest o_common⟩
  obtain ⟨fd_brought, F_brought⟩ := c.def_ 39 (d := d_brought) rfl
  have o_brought : Ok P w K mg base (He.ga K "Walk") "brought" 2 ["one", "other"] S_brought := ⟨_, fd_brought, He.glo_ok X G (c.fact 55 (f := .glo "brought") rfl), F_brought.kp, F_brought.bindsN fun _ _ _ _ _ _ us hl => (match us, hl with | [_, _], _ => rfl), ok_brought F_brought T o_common⟩
  obtain ⟨fd_more_of, F_more_of⟩ := c.def_ 40 (d := d_more_of) rfl
  have o_more_of : Ok P w K mg base (He.ga K "Walk") "more_of" 1 ["one", "other"] S_more_of := ⟨_, fd_more_of, He.glo_ok X G (c.fact 56 (f := .glo "more_of") rfl), F_more_of.kp, F_more_of.bindsN fun _ _ _ _ _ _ us hl => (match us, hl with | [_, _], _ => rfl), ok_more_of F_more_of T ⟩
  obtain ⟨fd_apart_of, F_apart_of⟩ := c.def_ 41 (d := d_apart_of) rfl
  have o_apart_of : Ok P w K mg base (He.ga K "Walk") "apart_of" 3 ["one", "other"] S_apart_of := ⟨_, fd_apart_of, He.glo_ok X G (c.fact 57 (f := .glo "apart_of") rfl), F_apart_of.kp, F_apart_of.bindsN fun _ _ _ _ _ _ us hl => (match us, hl with | [_, _], _ => rfl), ok_apart_of F_apart_of T o_brought o_more_of o_plain_of⟩
  obtain ⟨fd_apart, F_apart⟩ := c.def_ 42 (d := d_apart) rfl
  have o_apart : Ok P w K mg base (He.ga K "Walk") "apart" 6 ["one", "other"] S_apart := ⟨_, fd_apart, He.glo_ok X G (c.fact 58 (f := .glo "apart") rfl), F_apart.kp, F_apart.bindsN fun _ _ _ _ _ _ us hl => (match us, hl with | [_, _], _ => rfl), ok_apart F_apart T o_need_two o_apart_of⟩
  obtain ⟨fd_cell_at, F_cell_at⟩ := c.def_ 43 (d := d__law_cell_at) rfl
  have o_cell_at : Ok P w K mg base (He.ga K "Walk") "_law_cell_at" 1 ["_law_script", "_law_k"] S_cell_at := ⟨_, fd_cell_at, He.glo_ok X G (c.fact 59 (f := .glo "_law_cell_at") rfl), F_cell_at.kp, F_cell_at.bindsN fun _ _ _ _ _ _ us hl => (match us, hl with | [_, _], _ => rfl), ok_cell_at F_cell_at T ⟩
  obtain ⟨fd_next, F_next⟩ := c.def_ 44 (d := d__law_next) rfl
  have o_next : Ok P w K mg base (He.ga K "Walk") "_law_next" 1 ["_law_seed"] S_next := ⟨_, fd_next, He.glo_ok X G (c.fact 60 (f := .glo "_law_next") rfl), F_next.kp, F_next.bindsN fun _ _ _ _ _ _ us hl => (match us, hl with | [_], _ => rfl), ok_next F_next T ⟩
  obtain ⟨fd_pen_of, F_pen_of⟩ := c.def_ 45 (d := d__law_pen_of) rfl
  have o_pen_of : OkO P w K mg base (He.ga K "Walk") "_law_pen_of" 1 ["_law_cell"] S_pen_of := ⟨_, fd_pen_of, He.glo_ok X G (c.fact 61 (f := .glo "_law_pen_of") rfl), F_pen_of.kp, F_pen_of.bindsN fun _ _ _ _ _ _ us hl => (match us, hl with | [_], _ => rfl), ok_pen_of F_pen_of T⟩
  obtain ⟨fd_draw, F_draw⟩ := c.def_ 46 (d := d__law_draw) rfl
  have o_draw : Ok P w K mg base (He.ga K "Walk") "_law_draw" 2 ["_law_pen", "_law_many"] S_draw := ⟨_, fd_draw, He.glo_ok X G (c.fact 62 (f := .glo "_law_draw") rfl), F_draw.kp, F_draw.bindsN fun _ _ _ _ _ _ us hl => (match us, hl with | [_, _], _ => rfl), ok_draw F_draw T o_next⟩
  obtain ⟨fd_row, F_row⟩ := c.def_ 47 (d := d__law_row) rfl
  have o_row : Ok P w K mg base (He.ga K "Walk") "_law_row" 3 ["_law_pen", "_law_many", "_law_whole", "_law_some"] S_row := ⟨_, fd_row, He.glo_ok X G (c.fact 63 (f := .glo "_law_row") rfl), F_row.kp, F_row.bindsN fun _ _ _ _ _ _ us hl => (match us, hl with | [_, _, _, _], _ => rfl), ok_row F_row T o_draw⟩
  obtain ⟨fd_rows, F_rows⟩ := c.def_ 48 (d := d__law_rows) rfl
  have o_rows : Ok P w K mg base (He.ga K "Walk") "_law_rows" 4 ["_law_pen", "_law_top"] S_rows := ⟨_, fd_rows, He.glo_ok X G (c.fact 64 (f := .glo "_law_rows") rfl), F_rows.kp, F_rows.bindsN fun _ _ _ _ _ _ us hl => (match us, hl with | [_, _], _ => rfl), ok_rows F_rows T o_draw o_row⟩
  obtain ⟨fd_round, F_round⟩ := c.def_ 49 (d := d__law_round_rows) rfl
  have o_round : Ok P w K mg base (He.ga K "Walk") "_law_round_rows" 5 ["_law_pen", "_law_top"] S_round := ⟨_, fd_round, He.glo_ok X G (c.fact 65 (f := .glo "_law_round_rows") rfl), F_round.kp, F_round.bindsN fun _ _ _ _ _ _ us hl => (match us, hl with | [_, _], _ => rfl), ok_round F_round T o_rows⟩
  obtain ⟨fd_after, F_after⟩ := c.def_ 50 (d := d__law_after) rfl
  have o_after : Ok P w K mg base (He.ga K "Walk") "_law_after" 1 ["_law_rows_here", "_law_weights", "_law_long"] S_after := ⟨_, fd_after, He.glo_ok X G (c.fact 66 (f := .glo "_law_after") rfl), F_after.kp, F_after.bindsN fun _ _ _ _ _ _ us hl => (match us, hl with | [_, _, _], _ => rfl), ok_after F_after T ⟩
  obtain ⟨fd_start, F_start⟩ := c.def_ 51 (d := d__law_start) rfl
  have o_start : Ok P w K mg base (He.ga K "Walk") "_law_start" 1 ["_law_rows_here", "_law_place"] S_start := ⟨_, fd_start, He.glo_ok X G (c.fact 67 (f := .glo "_law_start") rfl), F_start.kp, F_start.bindsN fun _ _ _ _ _ _ us hl => (match us, hl with | [_, _], _ => rfl), ok_start F_start T ⟩
  obtain ⟨fd_slow, F_slow⟩ := c.def_ 52 (d := d__law_slow_fair) rfl
  have o_slow : Ok P w K mg base (He.ga K "Walk") "_law_slow_fair" 3 ["_law_pen", "_law_rows_here", "_law_rest", "_law_start_here", "_law_many"] S_slow := ⟨_, fd_slow, He.glo_ok X G (c.fact 68 (f := .glo "_law_slow_fair") rfl), F_slow.kp, F_slow.bindsN fun _ _ _ _ _ _ us hl => (match us, hl with | [_, _, _, _, _], _ => rfl), ok_slow F_slow T o_draw o_start o_after⟩
  have Lb : Lib P w K mg base (He.ga K "Walk") := ⟨o_plain, o_added, o_is_less, o_Wafter, o_separation, o_is_plan, o_is_fair, o_stopped, o_fair_plan, o_apart, o_start, o_slow⟩
  obtain ⟨fd_start_right, F_start_right⟩ := c.def_ 53 (d := d__law_start_right) rfl
  have o_start_right : Ok P w K mg base (He.ga K "Walk") "_law_start_right" 8 ["_law_pen", "_law_walk", "_law_rest", "_law_start_here"] S_start_right := ⟨_, fd_start_right, He.glo_ok X G (c.fact 69 (f := .glo "_law_start_right") rfl), F_start_right.kp, F_start_right.bindsN fun _ _ _ _ _ _ us hl => (match us, hl with | [_, _, _, _], _ => rfl), ok_start_right F_start_right T Lb⟩
  exact ok_law F_law T I o_cell_at o_pen_of o_round o_one_rest o_start_right
end FW
open PySem PySem.W PySem.Calls PyProof.Rows
theorem PySem.Challenge.cw_fadewalk_k64_whole_stopping_holds : PySem.Challenge.rw_fadewalk_k64_whole_stopping.Holds := by
  w_on; o_law
  refine HandSHeadRun.head_any (r := OpenLaw.row PySem.Challenge.rw_fadewalk_k64_whole_stopping) (q := view (OpenLaw.row PySem.Challenge.rw_fadewalk_k64_whole_stopping).prog [76]) (H := FW.hk) (ob := FW.ob) (M := 20000) (loose := FW.nms) (d := HandSHeadRun.topDef (OpenLaw.row PySem.Challenge.rw_fadewalk_k64_whole_stopping).prog 76) (kwd := []) (fun s => He.obsDG_eq (HandSHeadRun.getT_eq s))
    (by kernel_rfl) (fun s => by kernel_rfl) FW.run (by kernel_rfl) (by kernel_rfl) (by kernel_rfl) (by rfl) (by first | assumption | decide +kernel) (by decide +kernel) ⟨rfl, rfl, rfl, rfl, rfl, by decide +kernel⟩ ?hw ?hc
  case hw => w_witness2
  case hc =>
    refine L2.walk_ofE (l := PySem.Challenge.rw_fadewalk_k64_whole_stopping) (n := 63) (k := 9) (x := "_law_script") (CX := L2.CX0) rfl (by decide) (by kernel_rfl) ⟨rfl, by decide, by decide⟩ ?F (fun _ _ _ _ z => z)
    intro w mg fa h Y G hmg0
    obtain ⟨K, KX, c⟩ := Y
    have hmg : mg ("law" : PySem.Str) = some (.ref fa) := by
      have e : (HandSHeadRun.topDef (OpenLaw.row PySem.Challenge.rw_fadewalk_k64_whole_stopping).prog 76).name = ("law" : PySem.Str) := by kernel_rfl
      rw [← e]
      exact hmg0
    obtain ⟨fd, hb, hF⟩ := FW.facts (P := (PySem.Challenge.rw_fadewalk_k64_whole_stopping).prog) (w := w) KX G hmg c
    refine ⟨K, fd, FW.spF K (He.ga K "Walk") FW.S_law, KX, hb, fun H a ns hl _ hS => ?_, hF⟩
    exact ⟨[.l (ns.map FW.D.i)], fun _ => none, .b true, fun _ => none, H, ⟨rfl, ns, Nat.le_trans hl (by decide), rfl, rfl⟩, ⟨fun b o e => e, fun a o e => nomatch e⟩, FW.RepL.one (.lst hS (FW.RepL.ints ns)), fun v Hk' H' _ _ r => r.b_inv⟩
